import Derived.Test.YtbdjepeabjangaaGreatArProps
set_option linter.all false
set_option maxRecDepth 20000
set_option maxHeartbeats 8000000
open Go.Proofs.Tryz
namespace Go.Proofs.YtbdjepeabjangaaGreat
open Go Go.Vm
variable {c:ByteArray}
abbrev nA:AT->ByteArray:=AT.name
abbrev nP:PI->ByteArray:=PI.name
theorem dH(a b:Nat):Int.fdiv ((a:Int)+(b:Int)) (2 ^ min 1 IntKind.u64.bits)=(((a+b) / 2:Nat):Int):=by
 have e:(2:Int) ^ min 1 IntKind.u64.bits=2:=by decide
 rw [e,Int.fdiv_eq_ediv_of_nonneg _ (by omega)];omega
theorem aE5:IntKind.u64.min=0:=rfl
theorem aEq:IntKind.u64.max=18446744073709551615:=by decide
theorem cX(n:Int):Xk .u64 n=(0<=n/\n<=18446744073709551615):=by
 show(IntKind.u64.min<=n/\n<=IntKind.u64.max)=_
 rw [aE5,aEq]
theorem Iy(s:ByteArray)(σ:List (List D))  :Ct prog 154 [D.str s] σ (fun r σ'=>r= .bool false/\σ'=σ):=by
 refine zf func154 ?_;refine cL fun _ _ Z=>?_;simp;apply Z;refine cL fun _ _ Z=>?_;simp;apply Z;apply aC;simp [aT]
theorem Bf(a b:ByteArray)(σ:List (List D))  :Ct prog 135 [D.str a,D.str b] σ (fun r σ'=>r= .int (Cq a b)/\σ'=σ):=by
 refine zf func135 ?_;refine cL fun _ _ Z=>?_;simp;apply Z;refine cL fun _ _ Z=>?_;refine zs 1 fun _ Y=>?_;simp;apply Y;refine aD fun _ Y=>?_;simp;refine eH (Iy a _) ?_;apply Y;simp;apply Z;refine cL fun _ _ Z=>?_;refine zs 1 fun _ Y=>?_;simp;apply Y;refine aD fun _ Y=>?_;simp;refine eH (Iy b _) ?_;apply Y;simp;apply Z;apply aE;refine cL fun _ _ Z=>?_;simp;apply Z;refine zI ?_ ?_<;>intro c1<;>try simp at c1
 apply zA;apply aE;refine cL fun _ _ Z=>?_;simp;apply Z;refine zI ?_ ?_<;>intro c2<;>try simp at c2
 apply zA;apply aE;refine cL fun _ _ Z=>?_;simp;apply Z;refine zI ?_ ?_<;>intro c3<;>try simp at c3
 .refine zk [0,1,4] ?_;refine cL fun _ _ Z=>?_;simp;apply Z;apply aC;simp [aT,Cq,fS, *]
 apply zA;apply aE;refine zk [0,1,4] ?_;refine cL fun _ _ Z=>?_;simp;apply Z;refine zI ?_ ?_<;>intro c4<;>try simp at c4
 .refine cL fun _ _ Z=>?_;simp;apply Z;apply aC;simp [aT,Cq,fS, *]
 apply zA;refine cL fun _ _ Z=>?_;simp;apply Z;apply aC;simp [aT,Cq,fS, *]
theorem Rc(x:AT)(s:ByteArray)(σ:List (List D))  :Ct prog 134 [cD x,D.str s] σ (fun r σ'=>r= .int (Cq x.name s)/\σ'=σ):=by
 refine zf func134 ?_;refine cL fun _ _ Z=>?_;simp;apply Z;refine cL fun _ _ Z=>?_;refine zs 3 fun _ Y=>?_;simp;apply Y;refine aD fun _ Y=>?_;simp;refine eH (Bf x.name s _) ?_;apply Y;simp;apply Z;apply aC;simp [aT]
@[simp] abbrev q43_1:Cfg:=⟨[],[],[],[13,27,43],[]⟩
theorem aJv(N cap:Nat)(l:List AT)(rest:List D)(c:ByteArray)(σ:List (List D))(hl:l.length<=1000000)(hN:σ[N]?=some (l.flatMap cA++rest))(hs:eC nA l):Ct prog 133 [.slo N 0 l.length cap,D.str c,.clo (.func 134) [] []] σ (fun r σ'=>r= .tup [.int ((gH nA l c:Nat):Int),.bool (fnd nA l c)]/\σ'=σ):=by
 refine zf func133 ?_;refine zr q43_1 fun _ _ Z=>?_;simp(disch:=omega)[hN,dH,cX];apply Z;refine zr q43_1 fun _ _ Z=>?_;simp(disch:=omega)[hN,dH,cX];and_intros<;>(try omega);apply Z;refine zr q43_1 fun _ _ Z=>?_;simp(disch:=omega)[hN,dH,cX];apply Z;apply zSB;refine zk [0,1,2,6,7,8,9,10] ?_;refine bK (fun(s:Nat×Nat)=> [(9,.d (.v (.int .i64 (s.1:Int)))),(10,.d (.v (.int .i64 (s.2:Int)))),(11,.d (.any))]) [9,10,11,15,16,17,18,19,20,21,22,23,24,25,26,27,28,29,30,31,32,33,34] (fun(s:Nat×Nat)=>s.1<=s.2/\s.2<=l.length/\(∀j (h:j<l.length),j<s.1->fS l[j].name c=true)/\(∀j (h:j<l.length),s.2<=j->fS l[j].name c=false)) (fun(s:Nat×Nat)=>s.2 - s.1) ((0,l.length)) (by simp <;> rfl) ?_ ?_ ?_
 .simp
 .exact⟨by omega,by omega,fun j h h2=>absurd h2 (by simp),fun j h h2=>absurd h2 (by simp;omega)⟩
 rintro⟨lo,hi⟩ ⟨h1,h2,h3,h4⟩;simp only [aO,aK];dsimp only at h1 h2 h3 h4;have hmid:lo<hi->(lo+hi) / 2<hi:=fun h=>by omega
 apply aE;refine zr q43_1 fun _ _ Z=>?_;simp(disch:=omega)[hN,dH,cX];apply Z;refine zI ?_ ?_<;>intro c1<;>try simp at c1
 .apply zA;apply aQ;refine zk [0,1,2,6,7,8,9,10,11] ?_;refine zr q43_1 fun _ _ Z=>?_;simp(disch:=omega)[hN,dH,cX];and_intros<;>(try omega);apply Z;refine zk [0,1,2,6,7,8,9,10,11] ?_;refine zr q43_1 fun _ _ Z=>?_;refine zs 6 fun _ Y=>?_;simp(disch:=omega)[hN,dH,cX];and_intros<;>(try omega);apply Y;refine aD fun _ Y=>?_;simp(disch:=omega)[hN,dH,cX];refine eH (Rc l[(lo+hi) / 2] c _) ?_;apply Y;simp(disch:=omega)[hN,dH,cX];apply Z;refine zI ?_ ?_<;>intro c2<;>try simp at c2
  .refine zk [0,1,2,6,7,8,9,10,11] ?_;refine zt q43_1 fun _ _ Z=>?_;simp(disch:=omega)[hN,dH,cX];and_intros<;>(try omega);apply Z;apply iP;refine zq (((lo+hi) / 2+1,hi)) ?_ ?_ ?_
   .exact⟨by dsimp only;omega,by dsimp only;omega,aHk nA hs (by omega) (by simpa [Az] using c2),h4⟩
   .try dsimp only
    omega
   simp(disch:=omega)[hN,dH,cX]
  refine zk [0,1,2,6,7,8,9,10,11] ?_;refine zt q43_1 fun _ _ Z=>?_;simp(disch:=omega)[hN,dH,cX];apply Z;apply iP;refine zq ((lo,(lo+hi) / 2)) ?_ ?_ ?_
  .exact⟨by dsimp only;omega,by dsimp only;omega,h3,aHh nA hs (by omega) ((Sf _ _).1 (by omega))⟩
  .try dsimp only
   omega
  simp(disch:=omega)[hN,dH,cX]
 obtain rfl:lo=hi:=by omega
 have hpos:gH nA l c=lo:=Hh nA l c lo h2 h3 (fun h=>h4 lo h (bD _));apply zE;refine zk [0,1,2,6,7,8,9] ?_;refine vJ q43_1 fun all hall _ Z=>?_;have ga4:aY all 4=some 39:=hall 4;refine zs 5 fun _ Y=>?_;simp(disch:=omega)[hN,dH,cX,ga4];apply Y;refine zb 39 ?_ ?_<;>intro g3<;>try simp at g3
 .refine zs 6 fun _ Y=>?_;simp(disch:=omega)[hN,dH,cX,ga4];and_intros<;>(try omega);apply Y;refine zg ga4 fun _ Y=>?_;simp(disch:=omega)[hN,dH,cX,ga4];refine eH (Rc l[lo] c _) ?_;apply Y;simp(disch:=omega)[hN,dH,cX,ga4];apply Z;apply aC;simp [aT,hpos,Om, *];exact Fq _ _
 refine zs 8 fun _ Y=>?_;simp(disch:=omega)[hN,dH,cX,ga4];and_intros<;>(try omega);apply Y;simp(disch:=omega)[hN,dH,cX,ga4];apply Z;apply aC;simp [aT,hpos, *];exact Ap _ _ _ (by omega)
theorem aAl(N cap:Nat)(l:List AT)(rest:List D)(c:ByteArray)(σ:List (List D))(hl:l.length<=1000000)(hN:σ[N]?=some (l.flatMap cA++rest))(hs:eC nA l):Ct prog 103 [.slo N 0 l.length cap,D.str c] σ (fun r σ'=>r= .tup [.int ((gH nA l c:Nat):Int),.bool (fnd nA l c)]/\σ'=σ):=by
 refine zf func103 ?_;refine cL fun _ _ Z=>?_;simp[hN];apply Z;refine cL fun _ _ Z=>?_;refine zs 2 fun _ Y=>?_;simp[hN];apply Y;refine aD fun _ Y=>?_;simp[hN];refine eH (aJv N cap l rest c _ hl hN hs) ?_;apply Y;simp[hN];apply Z;apply aC;simp [aT]
@[simp] abbrev q43_2:Cfg:=⟨[4,19,20,24],[],[],[18],[]⟩
theorem Zv(l:List AT)(p:AT)(σ:List (List D))(hl:l.length<=999999)(hs:eC nA l):Ct prog 89 [.xs 2 (l.map cD),cD p] σ (fun r σ'=>r= .xs 2 ((nD nA l p).map cD)/\∃J,σ'=σ++J):=by
 refine zf func89 ?_;refine kQ 0 2 rfl (by decide) fun cap rest hcap hcm hrest hk0 hes=>?_;subst hrest;simp only [cC] at hcap |-;rw [dB (f:=cA) (fun _=>rfl)];have hpl:=Ii nA l p.name;refine zr q43_2 fun _ _ Z=>?_;simp(disch:=omega)[aB,aA];apply Z;refine zr q43_2 fun _ _ Z=>?_;refine zs 3 fun _ Y=>?_;simp(disch:=omega)[aB,aA];apply Y;refine aD fun _ Y=>?_;simp(disch:=omega)[aB,aA];refine eH (aAl σ.length cap l (List.replicate ((cap - l.length) * 2) .any) p.name _ (by omega) (by simp [aB]) hs) ?_;apply Y;simp(disch:=omega)[aB,aA];apply Z;apply aE;refine zr q43_2 fun _ _ Z=>?_;simp(disch:=omega)[aB,aA];apply Z;refine zI ?_ ?_<;>intro c1<;>try simp at c1
 .have hlt:=Is nA c1;refine zk [0,3,4,5] ?_;refine zr q43_2 fun _ _ Z=>?_;simp(disch:=omega)[aB,aA];and_intros<;>(try omega);apply Z;refine zr q43_2 fun _ _ Z=>?_;simp(disch:=omega)[aB,aA];apply Z;refine eQ 4 2 σ.length l.length cap ((l.set (gH nA l p.name) p).map cD) ((l.set (gH nA l p.name) p).flatMap cA++List.replicate ((cap - l.length) * 2) .any) (by simp <;> rfl) (by simp [aB]) (by omega) (by simp only [aX,dG (f:=cA) (k:=2) (fun _=>rfl),cW,dR];omega) (by simp) (lF (d:=cD) (fun _=>⟨rfl,rfl⟩) _) (by rw [dB (f:=cA) (fun _=>rfl)];exact dA _ _) ?_;apply aC;simp [aT,vZ,c1]
 apply zA;refine eQ 0 2 σ.length l.length cap (l.map cD) (l.flatMap cA++List.replicate ((cap - l.length) * 2) .any) (by simp <;> rfl) (by simp [aB]) (by omega) (by simp only [aX,dG (f:=cA) (k:=2) (fun _=>rfl),cW,dR];omega) (by simp) (lF (d:=cD) (fun _=>⟨rfl,rfl⟩) _) (by rw [dB (f:=cA) (fun _=>rfl)];exact dA _ _) ?_;refine zk [0,3,4,5] ?_;refine zr q43_2 fun _ _ Z=>?_;refine zs 4 fun _ Y=>?_;simp(disch:=omega)[aB,aA];and_intros<;>(try omega);apply Y;refine aD fun _ Y=>?_;simp(disch:=omega)[aB,aA];refine eH (aG8 l p (gH nA l p.name) _ (by omega) hpl) ?_;apply Y;simp(disch:=omega)[aB,aA];apply Z;apply aC;simp [aT,vZ,c1]
theorem Rx(x:PI)(s:ByteArray)(σ:List (List D))  :Ct prog 145 [bV x,D.str s] σ (fun r σ'=>r= .int (Cq x.name s)/\σ'=σ):=by
 refine zf func145 ?_;refine cL fun _ _ Z=>?_;simp;apply Z;refine cL fun _ _ Z=>?_;refine zs 3 fun _ Y=>?_;simp;apply Y;refine aD fun _ Y=>?_;simp;refine eH (Bf x.name s _) ?_;apply Y;simp;apply Z;apply aC;simp [aT]
theorem aJm(N cap:Nat)(l:List PI)(rest:List D)(c:ByteArray)(σ:List (List D))(hl:l.length<=1000000)(hN:σ[N]?=some (l.flatMap cP++rest))(hs:eC nP l):Ct prog 144 [.slo N 0 l.length cap,D.str c,.clo (.func 145) [] []] σ (fun r σ'=>r= .tup [.int ((gH nP l c:Nat):Int),.bool (fnd nP l c)]/\σ'=σ):=by
 refine zf func144 ?_;refine zr q43_1 fun _ _ Z=>?_;simp(disch:=omega)[hN,dH,cX];apply Z;refine zr q43_1 fun _ _ Z=>?_;simp(disch:=omega)[hN,dH,cX];and_intros<;>(try omega);apply Z;refine zr q43_1 fun _ _ Z=>?_;simp(disch:=omega)[hN,dH,cX];apply Z;apply zSB;refine zk [0,1,2,6,7,8,9,10] ?_;refine bK (fun(s:Nat×Nat)=> [(9,.d (.v (.int .i64 (s.1:Int)))),(10,.d (.v (.int .i64 (s.2:Int)))),(11,.d (.any))]) [9,10,11,15,16,17,18,19,20,21,22,23,24,25,26,27,28,29,30,31,32,33,34] (fun(s:Nat×Nat)=>s.1<=s.2/\s.2<=l.length/\(∀j (h:j<l.length),j<s.1->fS l[j].name c=true)/\(∀j (h:j<l.length),s.2<=j->fS l[j].name c=false)) (fun(s:Nat×Nat)=>s.2 - s.1) ((0,l.length)) (by simp <;> rfl) ?_ ?_ ?_
 .simp
 .exact⟨by omega,by omega,fun j h h2=>absurd h2 (by simp),fun j h h2=>absurd h2 (by simp;omega)⟩
 rintro⟨lo,hi⟩ ⟨h1,h2,h3,h4⟩;simp only [aO,aK];dsimp only at h1 h2 h3 h4;have hmid:lo<hi->(lo+hi) / 2<hi:=fun h=>by omega
 apply aE;refine zr q43_1 fun _ _ Z=>?_;simp(disch:=omega)[hN,dH,cX];apply Z;refine zI ?_ ?_<;>intro c1<;>try simp at c1
 .apply zA;apply aQ;refine zk [0,1,2,6,7,8,9,10,11] ?_;refine zr q43_1 fun _ _ Z=>?_;simp(disch:=omega)[hN,dH,cX];and_intros<;>(try omega);apply Z;refine zk [0,1,2,6,7,8,9,10,11] ?_;refine zr q43_1 fun _ _ Z=>?_;refine zs 6 fun _ Y=>?_;simp(disch:=omega)[hN,dH,cX];and_intros<;>(try omega);apply Y;refine aD fun _ Y=>?_;simp(disch:=omega)[hN,dH,cX];refine eH (Rx l[(lo+hi) / 2] c _) ?_;apply Y;simp(disch:=omega)[hN,dH,cX];apply Z;refine zI ?_ ?_<;>intro c2<;>try simp at c2
  .refine zk [0,1,2,6,7,8,9,10,11] ?_;refine zt q43_1 fun _ _ Z=>?_;simp(disch:=omega)[hN,dH,cX];and_intros<;>(try omega);apply Z;apply iP;refine zq (((lo+hi) / 2+1,hi)) ?_ ?_ ?_
   .exact⟨by dsimp only;omega,by dsimp only;omega,aHk nP hs (by omega) (by simpa [Az] using c2),h4⟩
   .try dsimp only
    omega
   simp(disch:=omega)[hN,dH,cX]
  refine zk [0,1,2,6,7,8,9,10,11] ?_;refine zt q43_1 fun _ _ Z=>?_;simp(disch:=omega)[hN,dH,cX];apply Z;apply iP;refine zq ((lo,(lo+hi) / 2)) ?_ ?_ ?_
  .exact⟨by dsimp only;omega,by dsimp only;omega,h3,aHh nP hs (by omega) ((Sf _ _).1 (by omega))⟩
  .try dsimp only
   omega
  simp(disch:=omega)[hN,dH,cX]
 obtain rfl:lo=hi:=by omega
 have hpos:gH nP l c=lo:=Hh nP l c lo h2 h3 (fun h=>h4 lo h (bD _));apply zE;refine zk [0,1,2,6,7,8,9] ?_;refine vJ q43_1 fun all hall _ Z=>?_;have ga4:aY all 4=some 39:=hall 4;refine zs 5 fun _ Y=>?_;simp(disch:=omega)[hN,dH,cX,ga4];apply Y;refine zb 39 ?_ ?_<;>intro g3<;>try simp at g3
 .refine zs 6 fun _ Y=>?_;simp(disch:=omega)[hN,dH,cX,ga4];and_intros<;>(try omega);apply Y;refine zg ga4 fun _ Y=>?_;simp(disch:=omega)[hN,dH,cX,ga4];refine eH (Rx l[lo] c _) ?_;apply Y;simp(disch:=omega)[hN,dH,cX,ga4];apply Z;apply aC;simp [aT,hpos,Om, *];exact Fq _ _
 refine zs 8 fun _ Y=>?_;simp(disch:=omega)[hN,dH,cX,ga4];and_intros<;>(try omega);apply Y;simp(disch:=omega)[hN,dH,cX,ga4];apply Z;apply aC;simp [aT,hpos, *];exact Ap _ _ _ (by omega)
theorem aCb(N cap:Nat)(l:List PI)(rest:List D)(c:ByteArray)(σ:List (List D))(hl:l.length<=1000000)(hN:σ[N]?=some (l.flatMap cP++rest))(hs:eC nP l):Ct prog 119 [.slo N 0 l.length cap,D.str c] σ (fun r σ'=>r= .tup [.int ((gH nP l c:Nat):Int),.bool (fnd nP l c)]/\σ'=σ):=by
 refine zf func119 ?_;refine cL fun _ _ Z=>?_;simp[hN];apply Z;refine cL fun _ _ Z=>?_;refine zs 2 fun _ Y=>?_;simp[hN];apply Y;refine aD fun _ Y=>?_;simp[hN];refine eH (aJm N cap l rest c _ hl hN hs) ?_;apply Y;simp[hN];apply Z;apply aC;simp [aT]
theorem aDu(l:List PI)(p:PI)(σ:List (List D))(hl:l.length<=999999)(hs:eC nP l):Ct prog 87 [.xs 2 (l.map bV),bV p] σ (fun r σ'=>r= .xs 2 ((nD nP l p).map bV)/\∃J,σ'=σ++J):=by
 refine zf func87 ?_;refine kQ 0 2 rfl (by decide) fun cap rest hcap hcm hrest hk0 hes=>?_;subst hrest;simp only [cC] at hcap |-;rw [dB (f:=cP) (fun _=>rfl)];have hpl:=Ii nP l p.name;refine zr q43_2 fun _ _ Z=>?_;simp(disch:=omega)[aB,aA];apply Z;refine zr q43_2 fun _ _ Z=>?_;refine zs 3 fun _ Y=>?_;simp(disch:=omega)[aB,aA];apply Y;refine aD fun _ Y=>?_;simp(disch:=omega)[aB,aA];refine eH (aCb σ.length cap l (List.replicate ((cap - l.length) * 2) .any) p.name _ (by omega) (by simp [aB]) hs) ?_;apply Y;simp(disch:=omega)[aB,aA];apply Z;apply aE;refine zr q43_2 fun _ _ Z=>?_;simp(disch:=omega)[aB,aA];apply Z;refine zI ?_ ?_<;>intro c1<;>try simp at c1
 .have hlt:=Is nP c1;refine zk [0,3,4,5] ?_;refine zr q43_2 fun _ _ Z=>?_;simp(disch:=omega)[aB,aA];and_intros<;>(try omega);apply Z;refine zr q43_2 fun _ _ Z=>?_;simp(disch:=omega)[aB,aA];apply Z;refine eQ 4 2 σ.length l.length cap ((l.set (gH nP l p.name) p).map bV) ((l.set (gH nP l p.name) p).flatMap cP++List.replicate ((cap - l.length) * 2) .any) (by simp <;> rfl) (by simp [aB]) (by omega) (by simp only [aX,dG (f:=cP) (k:=2) (fun _=>rfl),cW,dR];omega) (by simp) (lF (d:=bV) (fun _=>⟨rfl,rfl⟩) _) (by rw [dB (f:=cP) (fun _=>rfl)];exact dA _ _) ?_;apply aC;simp [aT,vZ,c1]
 apply zA;refine eQ 0 2 σ.length l.length cap (l.map bV) (l.flatMap cP++List.replicate ((cap - l.length) * 2) .any) (by simp <;> rfl) (by simp [aB]) (by omega) (by simp only [aX,dG (f:=cP) (k:=2) (fun _=>rfl),cW,dR];omega) (by simp) (lF (d:=bV) (fun _=>⟨rfl,rfl⟩) _) (by rw [dB (f:=cP) (fun _=>rfl)];exact dA _ _) ?_;refine zk [0,3,4,5] ?_;refine zr q43_2 fun _ _ Z=>?_;refine zs 4 fun _ Y=>?_;simp(disch:=omega)[aB,aA];and_intros<;>(try omega);apply Y;refine aD fun _ Y=>?_;simp(disch:=omega)[aB,aA];refine eH (aE7 l p (gH nP l p.name) _ (by omega) hpl) ?_;apply Y;simp(disch:=omega)[aB,aA];apply Z;apply aC;simp [aT,vZ,c1]
def Ed(l:List AT)(c:ByteArray):ByteArray:=((l.find? fun p=>decide (p.name=c)).map AT.value).getD ⟨#[]⟩
theorem Jn:∀ {l:List AT},eC nA l->∀ {c:ByteArray} (h:gH nA l c<l.length),fnd nA l c=true->l[gH nA l c].value=Ed l c
 | [],_,c,h,_=>by simp at h
 | q :: l, hs, c, h, hf => by
  unfold Ed;by_cases hq:fS (nA q) c=true
  .have e:gH nA (q::l) c=gH nA l c+1:=by simp [gH,hq]
   have hf':fnd nA l c=true:=by simpa [fnd,hq] using hf
   have hne:¬q.name=c:=vL hq;simp only [e,zC,List.find?_cons,hne,qC];exact Jn (List.Pairwise.of_cons hs) _ hf'
  have e:gH nA (q::l) c=0:=by simp [gH,hq]
  have hf':q.name=c:=by simpa [fnd,hq] using hf
  simp [e,hf']
theorem Yr {l:List AT} (h:sE nA l c=false):Ed l c=⟨#[]⟩:=by
 unfold Ed;have:l.find? (fun p=>decide (p.name=c))=none:=by
  rw [List.find?_eq_none];intro p hp e;have h2:sE nA l c=true:=by unfold sE;rw [qN];exact⟨p,hp,e⟩
  rw [h] at h2;cases h2
 rw [this];rfl
def Bp(l:List PI)(c:ByteArray):Int:=((l.find? fun p=>decide (p.name=c)).map PI.value).getD 0
theorem Lo:∀ {l:List PI},eC nP l->∀ {c:ByteArray} (h:gH nP l c<l.length),fnd nP l c=true->l[gH nP l c].value=Bp l c
 | [],_,c,h,_=>by simp at h
 | q :: l, hs, c, h, hf => by
  unfold Bp;by_cases hq:fS (nP q) c=true
  .have e:gH nP (q::l) c=gH nP l c+1:=by simp [gH,hq]
   have hf':fnd nP l c=true:=by simpa [fnd,hq] using hf
   have hne:¬q.name=c:=vL hq;simp only [e,zC,List.find?_cons,hne,qC];exact Lo (List.Pairwise.of_cons hs) _ hf'
  have e:gH nP (q::l) c=0:=by simp [gH,hq]
  have hf':q.name=c:=by simpa [fnd,hq] using hf
  simp [e,hf']
theorem Yx {l:List PI} (h:sE nP l c=false):Bp l c=0:=by
 unfold Bp;have:l.find? (fun p=>decide (p.name=c))=none:=by
  rw [List.find?_eq_none];intro p hp e;have h2:sE nP l c=true:=by unfold sE;rw [qN];exact⟨p,hp,e⟩
  rw [h] at h2;cases h2
 rw [this];rfl
theorem Rm(l:List AT)(p:AT)(σ:List (List D))(hl:l.length<=999999)(hs:eC nA l):Ct prog 89 [.xs 2 (l.map cD),cD p] σ (fun r σ'=>r= .xs 2 ((nD nA l p).map cD)/\σ'=σ):=
 (Zv l p σ hl hs).trim fun r σ' ⟨hr,J,hs⟩=>⟨σ,J,hs,rfl,by rw [hr];exact aIu _ _,fun n cs h=> .inl h,hr,rfl⟩
theorem rS(l:List AT)(rest:List D)(i:Nat)(h:i<l.length):sH false 1 ((l.flatMap cA++rest).drop (i * 2+1))=some (D.str l[i].value):=Kj (f:=cA) (k:=2) (fun _=>rfl) l rest i 1 h (by decide)
@[simp] abbrev q43_3:Cfg:=⟨[2,3,12,14,16],[],[],[],[]⟩
theorem Hj(l:List AT)(σ:List (List D))(hl:l.length<=999999):Ct prog 88 [.sl false (l.map cD)] σ (fun r σ'=>r= .xs 2 ((oX nA l).map cD)/\σ'=σ):=by
 refine zf func88 ?_;refine zr q43_3 fun _ _ Z=>?_;simp(disch:=omega);apply Z;refine zr q43_3 fun _ _ Z=>?_;simp(disch:=omega);apply Z;apply aE;refine zr q43_3 fun _ _ Z=>?_;simp(disch:=omega);and_intros<;>(try omega);apply Z;apply aQ;refine zk [2,3,6,7,8] ?_;refine Bm 3 2 (by simp <;> rfl) ?_;refine bK (fun(k:Nat)=> [(8,.d (.v (.int .i64 (k:Int)))),(3,.d (.xs 2 ((oX nA (l.take k)).map cD)))]) [3,5,8,9,10,11,12,13,14,15] (fun(k:Nat)=>k<=l.length) (fun(k:Nat)=>l.length - k) (0) (by simp <;> rfl) ?_ ?_ ?_
 .simp [oX]
 .simp
 rintro k hk;simp only [aO,aK];have hol:=lZ nA (l.take k);simp only [bB] at hol;refine zr q43_3 fun _ _ Z=>?_;simp(disch:=omega);apply Z;apply aE;refine zI ?_ ?_<;>intro c1<;>try simp at c1
 .apply mT;refine zr q43_3 fun _ _ Z=>?_;simp(disch:=omega);and_intros<;>(try omega);apply Z;refine zt q43_3 fun _ _ Z=>?_;refine zs 2 fun _ Y=>?_;simp(disch:=omega);apply Y;refine aD fun _ Y=>?_;simp(disch:=omega);refine eH (Rm (oX nA (l.take k)) l[k] _ (by omega) (jV nA _)) ?_;apply Y;simp(disch:=omega);apply Z;apply zB;refine zk [2,3,6,7,8] ?_;refine zt q43_3 fun _ _ Z=>?_;simp(disch:=omega);and_intros<;>(try omega);apply Z;refine zq (k+1) ?_ ?_ ?_
  .omega
  .try dsimp only
   omega
  simp(disch:=omega)[Ay]
 apply zE;refine zr q43_3 fun _ _ Z=>?_;simp(disch:=omega);apply Z;apply aC;simp [aT];rw [bW (by omega)]
@[simp] abbrev q43_4:Cfg:=⟨[6,11],[],[],[21],[]⟩
theorem aBm(l:List AT)(c:ByteArray)(σ:List (List D))(hl:l.length<=999999)(hs:eC nA l):Ct prog 59 [.sl false (l.map cD),D.str c] σ (fun r σ'=>r= .tup [D.str (Ed l c),.bool (sE nA l c)]/\∃J,σ'=σ++J):=by
 refine zf func59 ?_;refine zr q43_4 fun _ _ Z=>?_;simp(disch:=omega)[aB,aA,rS];apply Z;refine zr q43_4 fun _ _ Z=>?_;refine zs 1 fun _ Y=>?_;simp(disch:=omega)[aB,aA,rS];apply Y;refine aD fun _ Y=>?_;simp(disch:=omega)[aB,aA,rS];refine eH (Hj l _ hl) ?_;rw [qP nA hs];apply Y;simp(disch:=omega)[aB,aA,rS];apply Z;apply aE;refine kQ 6 2 rfl (by decide) fun cap rest hcap hcm hrest hk0 hes=>?_;subst hrest;simp only [cC] at hcap |-;rw [dB (f:=cA) (fun _=>rfl)];refine zr q43_4 fun _ _ Z=>?_;refine zs 2 fun _ Y=>?_;simp(disch:=omega)[aB,aA,rS];apply Y;refine aD fun _ Y=>?_;simp(disch:=omega)[aB,aA,rS];refine eH (aAl σ.length cap l (List.replicate ((cap - l.length) * 2) .any) c _ (by omega) (by simp [aB]) hs) ?_;apply Y;simp(disch:=omega)[aB,aA,rS];apply Z;refine zk [4,5,6,7,8] ?_;refine zr q43_4 fun _ _ Z=>?_;simp(disch:=omega)[aB,aA,rS];apply Z;refine zI ?_ ?_<;>intro c1<;>try simp at c1
 .have hlt:=Is nA c1;have hva:=Jn hs hlt c1;have hhn:=(As nA hs c).symm.trans c1;refine zr q43_4 fun _ _ Z=>?_;simp(disch:=omega)[aB,aA,rS];and_intros<;>(try omega);apply Z;apply aC;simp [aT,hhn,hva]
 have hhn:sE nA l c=false:=by rw [<- As nA hs c];simpa using c1
 have hva:=Yr hhn;apply zA;refine zr q43_4 fun _ _ Z=>?_;simp(disch:=omega)[aB,aA,rS];apply Z;refine zr q43_4 fun _ _ Z=>?_;simp(disch:=omega)[aB,aA,rS];apply Z;apply aC;simp [aT,hhn,hva]
theorem Qr(l:List AT)(c:ByteArray)(σ:List (List D))(hl:l.length<=999999)(hs:eC nA l):Ct prog 59 [.sl false (l.map cD),D.str c] σ (fun r σ'=>r= .tup [D.str (Ed l c),.bool (sE nA l c)]/\σ'=σ):=
 (aBm l c σ hl hs).trim fun r σ' ⟨hr,J,hs'⟩=>⟨σ,J,hs',rfl,by rw [hr];exact Sc.tup fun d hd=>by simp at hd;rcases hd with rfl | rfl <;> exact Sc.v _,fun n cs h=> .inl h,hr,rfl⟩
theorem aAw(l:List AT)(c:ByteArray)(v:ByteArray)(σ:List (List D))(hl:l.length<=99999):Ct prog 52 [.sl false (l.map cD),D.str c,D.str v] σ (fun r σ'=>r= .xs 2 ((nD nA (oX nA l) ⟨c,v⟩).map cD)/\σ'=σ):=by
 refine zf func52 ?_;have hol:=lZ nA l;refine zr ⟨[6,9,10,12],[],[],[],[]⟩ fun _ _ Z=>?_;simp;apply Z;refine zr ⟨[6,9,10,12],[],[],[],[]⟩ fun _ _ Z=>?_;refine zs 1 fun _ Y=>?_;simp;apply Y;refine aD fun _ Y=>?_;simp;refine eH (Hj l _ (by omega)) ?_;apply Y;refine zs 3 fun _ Y=>?_;simp;apply Y;refine aD fun _ Y=>?_;simp;refine eH (Rm (oX nA l) ⟨c,v⟩ _ (by omega) (jV nA l)) ?_;apply Y;simp;apply Z;apply aC;simp [aT]
theorem aHe(l:List AT)(c:ByteArray)(v:ByteArray)(σ:List (List D))(hl:l.length<=99999)(hs:eC nA l):Ct prog 52 [.sl false (l.map cD),D.str c,D.str v] σ (fun r σ'=>r= .sl false ((nD nA l ⟨c,v⟩).map cD)/\σ'=σ):=
 (aAw l c v σ hl).freeze fun r σ' h=>by rw [qP nA hs] at h;exact h
theorem aGi(l:List AT)(p:AT->Bool)(f:FuncId)(caps:List D)(σ:List (List D))(hl:l.length<=99999)(hcp:∀d∈caps,d.plain=true)(hcs:caps.map D.strip=caps)(hp:∀x τ,Ct prog f (cD x::caps) τ (fun r τ'=>r= .bool (p x)/\τ'=τ)):Ct prog 125 [.sl false (l.map cD),.clo (.func f) [] caps] σ (fun r σ'=>r= .xs 2 (((oX nA l).filter fun x=> !p x).map cD)/\σ'=σ):=by
 refine zf func125 ?_;have hol:=lZ nA l;refine zr ⟨[4,7,8],[],[],[],[]⟩ fun _ _ Z=>?_;simp;apply Z;refine zr ⟨[4,7,8],[],[],[],[]⟩ fun _ _ Z=>?_;refine zs 1 fun _ Y=>?_;simp;apply Y;refine aD fun _ Y=>?_;simp;refine eH (Hj l _ (by omega)) ?_;apply Y;refine zs 1 fun _ Y=>?_;simp;apply Y;refine aD fun _ Y=>?_;simp;refine eH (Mj (oX nA l) p f caps _ (by omega) hcp hcs hp) ?_;apply Y;simp;apply Z;apply aC;simp [aT]
theorem aGe(l:List PI)(p:PI)(σ:List (List D))(hl:l.length<=999999)(hs:eC nP l):Ct prog 87 [.xs 2 (l.map bV),bV p] σ (fun r σ'=>r= .xs 2 ((nD nP l p).map bV)/\σ'=σ):=
 (aDu l p σ hl hs).trim fun r σ' ⟨hr,J,hs⟩=>⟨σ,J,hs,rfl,by rw [hr];exact aJz _ _,fun n cs h=> .inl h,hr,rfl⟩
theorem sC(l:List PI)(rest:List D)(i:Nat)(h:i<l.length):sH false 1 ((l.flatMap cP++rest).drop (i * 2+1))=some (D.int l[i].value):=Kj (f:=cP) (k:=2) (fun _=>rfl) l rest i 1 h (by decide)
theorem Pv(l:List PI)(σ:List (List D))(hl:l.length<=999999):Ct prog 50 [.sl false (l.map bV)] σ (fun r σ'=>r= .xs 2 ((oX nP l).map bV)/\σ'=σ):=by
 refine zf func50 ?_;refine zr q43_3 fun _ _ Z=>?_;simp(disch:=omega);apply Z;refine zr q43_3 fun _ _ Z=>?_;simp(disch:=omega);apply Z;apply aE;refine zr q43_3 fun _ _ Z=>?_;simp(disch:=omega);and_intros<;>(try omega);apply Z;apply aQ;refine zk [2,3,6,7,8] ?_;refine Bm 3 2 (by simp <;> rfl) ?_;refine bK (fun(k:Nat)=> [(8,.d (.v (.int .i64 (k:Int)))),(3,.d (.xs 2 ((oX nP (l.take k)).map bV)))]) [3,5,8,9,10,11,12,13,14,15] (fun(k:Nat)=>k<=l.length) (fun(k:Nat)=>l.length - k) (0) (by simp <;> rfl) ?_ ?_ ?_
 .simp [oX]
 .simp
 rintro k hk;simp only [aO,aK];have hol:=lZ nP (l.take k);simp only [bB] at hol;refine zr q43_3 fun _ _ Z=>?_;simp(disch:=omega);apply Z;apply aE;refine zI ?_ ?_<;>intro c1<;>try simp at c1
 .apply mT;refine zr q43_3 fun _ _ Z=>?_;simp(disch:=omega);and_intros<;>(try omega);apply Z;refine zt q43_3 fun _ _ Z=>?_;refine zs 2 fun _ Y=>?_;simp(disch:=omega);apply Y;refine aD fun _ Y=>?_;simp(disch:=omega);refine eH (aGe (oX nP (l.take k)) l[k] _ (by omega) (jV nP _)) ?_;apply Y;simp(disch:=omega);apply Z;apply zB;refine zk [2,3,6,7,8] ?_;refine zt q43_3 fun _ _ Z=>?_;simp(disch:=omega);and_intros<;>(try omega);apply Z;refine zq (k+1) ?_ ?_ ?_
  .omega
  .try dsimp only
   omega
  simp(disch:=omega)[Ay]
 apply zE;refine zr q43_3 fun _ _ Z=>?_;simp(disch:=omega);apply Z;apply aC;simp [aT];rw [bW (by omega)]
theorem aB8(l:List PI)(c:ByteArray)(σ:List (List D))(hl:l.length<=999999)(hs:eC nP l):Ct prog 132 [.sl false (l.map bV),D.str c] σ (fun r σ'=>r= .tup [D.int (Bp l c),.bool (sE nP l c)]/\∃J,σ'=σ++J):=by
 refine zf func132 ?_;refine zr q43_4 fun _ _ Z=>?_;simp(disch:=omega)[aB,aA,sC];apply Z;refine zr q43_4 fun _ _ Z=>?_;refine zs 1 fun _ Y=>?_;simp(disch:=omega)[aB,aA,sC];apply Y;refine aD fun _ Y=>?_;simp(disch:=omega)[aB,aA,sC];refine eH (Pv l _ hl) ?_;rw [qP nP hs];apply Y;simp(disch:=omega)[aB,aA,sC];apply Z;apply aE;refine kQ 6 2 rfl (by decide) fun cap rest hcap hcm hrest hk0 hes=>?_;subst hrest;simp only [cC] at hcap |-;rw [dB (f:=cP) (fun _=>rfl)];refine zr q43_4 fun _ _ Z=>?_;refine zs 2 fun _ Y=>?_;simp(disch:=omega)[aB,aA,sC];apply Y;refine aD fun _ Y=>?_;simp(disch:=omega)[aB,aA,sC];refine eH (aCb σ.length cap l (List.replicate ((cap - l.length) * 2) .any) c _ (by omega) (by simp [aB]) hs) ?_;apply Y;simp(disch:=omega)[aB,aA,sC];apply Z;refine zk [4,5,6,7,8] ?_;refine zr q43_4 fun _ _ Z=>?_;simp(disch:=omega)[aB,aA,sC];apply Z;refine zI ?_ ?_<;>intro c1<;>try simp at c1
 .have hlt:=Is nP c1;have hva:=Lo hs hlt c1;have hhn:=(As nP hs c).symm.trans c1;refine zr q43_4 fun _ _ Z=>?_;simp(disch:=omega)[aB,aA,sC];and_intros<;>(try omega);apply Z;apply aC;simp [aT,hhn,hva]
 have hhn:sE nP l c=false:=by rw [<- As nP hs c];simpa using c1
 have hva:=Yx hhn;apply zA;refine zr q43_4 fun _ _ Z=>?_;simp(disch:=omega)[aB,aA,sC];apply Z;refine zr q43_4 fun _ _ Z=>?_;simp(disch:=omega)[aB,aA,sC];apply Z;apply aC;simp [aT,hhn,hva]
theorem aE8(l:List PI)(c:ByteArray)(σ:List (List D))(hl:l.length<=999999)(hs:eC nP l):Ct prog 132 [.sl false (l.map bV),D.str c] σ (fun r σ'=>r= .tup [D.int (Bp l c),.bool (sE nP l c)]/\σ'=σ):=
 (aB8 l c σ hl hs).trim fun r σ' ⟨hr,J,hs'⟩=>⟨σ,J,hs',rfl,by rw [hr];exact Sc.tup fun d hd=>by simp at hd;rcases hd with rfl | rfl <;> exact Sc.v _,fun n cs h=> .inl h,hr,rfl⟩
theorem aEf(l:List PI)(p:PI->Bool)(f:FuncId)(caps:List D)(σ:List (List D))(hl:l.length<=99999)(hcp:∀d∈caps,d.plain=true)(hcs:caps.map D.strip=caps)(hp:∀x τ,Ct prog f (bV x::caps) τ (fun r τ'=>r= .bool (p x)/\τ'=τ)):Ct prog 127 [.sl false (l.map bV),.clo (.func f) [] caps] σ (fun r σ'=>r= .xs 2 (((oX nP l).filter fun x=> !p x).map bV)/\σ'=σ):=by
 refine zf func127 ?_;have hol:=lZ nP l;refine zr ⟨[4,7,8],[],[],[],[]⟩ fun _ _ Z=>?_;simp;apply Z;refine zr ⟨[4,7,8],[],[],[],[]⟩ fun _ _ Z=>?_;refine zs 1 fun _ Y=>?_;simp;apply Y;refine aD fun _ Y=>?_;simp;refine eH (Pv l _ (by omega)) ?_;apply Y;refine zs 1 fun _ Y=>?_;simp;apply Y;refine aD fun _ Y=>?_;simp;refine eH (Ow (oX nP l) p f caps _ (by omega) hcp hcs hp) ?_;apply Y;simp;apply Z;apply aC;simp [aT]
end Go.Proofs.YtbdjepeabjangaaGreat

import Derived.Test.YtbdjepeabjangaaGreatArProps
set_option linter.all false
set_option maxRecDepth 20000
set_option maxHeartbeats 8000000
open Go.Proofs.Tryz
namespace Go.Proofs.YtbdjepeabjangaaGreat
open Go Go.Vm
variable {c:ByteArray}
abbrev nA:AT->ByteArray:=AT.name
abbrev nP:PI->ByteArray:=PI.name
theorem dN(a b:Nat):Int.fdiv ((a:Int)+(b:Int)) (2 ^ min 1 IntKind.u64.bits)=(((a+b) / 2:Nat):Int):=by
 have e:(2:Int) ^ min 1 IntKind.u64.bits=2:=by decide
 rw [e,Int.fdiv_eq_ediv_of_nonneg _ (by omega)];omega
theorem aJ6:IntKind.u64.min=0:=rfl
theorem aK3:IntKind.u64.max=18446744073709551615:=by decide
theorem dE(n:Int):inR .u64 n=(0<=n/\n<=18446744073709551615):=by
 show(IntKind.u64.min<=n/\n<=IntKind.u64.max)=_
 rw [aJ6,aK3]
theorem Nq(s:ByteArray)(σ:List (List D))  :Ct prog 154 [D.str s] σ (fun r σ'=>r= .bool false/\σ'=σ):=by
 refine zf func154 ?_;refine bT fun _ _ Z=>?_;simp;apply Z;refine bT fun _ _ Z=>?_;simp;apply Z;apply aE;simp [aP]
theorem Gb(a b:ByteArray)(σ:List (List D))  :Ct prog 135 [D.str a,D.str b] σ (fun r σ'=>r= .int (Gd a b)/\σ'=σ):=by
 refine zf func135 ?_;refine bT fun _ _ Z=>?_;simp;apply Z;refine bT fun _ _ Z=>?_;refine zs 1 fun _ Y=>?_;simp;apply Y;refine aG fun _ Y=>?_;simp;refine dX (Nq a _) ?_;apply Y;simp;apply Z;refine bT fun _ _ Z=>?_;refine zs 1 fun _ Y=>?_;simp;apply Y;refine aG fun _ Y=>?_;simp;refine dX (Nq b _) ?_;apply Y;simp;apply Z;apply aF;refine bT fun _ _ Z=>?_;simp;apply Z;refine zI ?_ ?_<;>intro c1<;>try simp at c1
 apply zA;apply aF;refine bT fun _ _ Z=>?_;simp;apply Z;refine zI ?_ ?_<;>intro c2<;>try simp at c2
 apply zA;apply aF;refine bT fun _ _ Z=>?_;simp;apply Z;refine zI ?_ ?_<;>intro c3<;>try simp at c3
 .refine zk [0,1,4] ?_;refine bT fun _ _ Z=>?_;simp;apply Z;apply aE;simp [aP,Gd,dW, *]
 apply zA;apply aF;refine zk [0,1,4] ?_;refine bT fun _ _ Z=>?_;simp;apply Z;refine zI ?_ ?_<;>intro c4<;>try simp at c4
 .refine bT fun _ _ Z=>?_;simp;apply Z;apply aE;simp [aP,Gd,dW, *]
 apply zA;refine bT fun _ _ Z=>?_;simp;apply Z;apply aE;simp [aP,Gd,dW, *]
theorem Uv(x:AT)(s:ByteArray)(σ:List (List D))  :Ct prog 134 [cH x,D.str s] σ (fun r σ'=>r= .int (Gd x.name s)/\σ'=σ):=by
 refine zf func134 ?_;refine bT fun _ _ Z=>?_;simp;apply Z;refine bT fun _ _ Z=>?_;refine zs 3 fun _ Y=>?_;simp;apply Y;refine aG fun _ Y=>?_;simp;refine dX (Gb x.name s _) ?_;apply Y;simp;apply Z;apply aE;simp [aP]
@[simp] abbrev q43_1:Cfg:=⟨[],[],[],[13,27,43],[]⟩
theorem aOp(N cap:Nat)(l:List AT)(rest:List D)(c:ByteArray)(σ:List (List D))(hl:l.length<=1000000)(hN:σ[N]?=some (l.flatMap cA++rest))(hs:eE nA l):Ct prog 133 [.slo N 0 l.length cap,D.str c,.clo (.func 134) [] []] σ (fun r σ'=>r= .tup [.int ((gR nA l c:Nat):Int),.bool (fnd nA l c)]/\σ'=σ):=by
 refine zf func133 ?_;refine zr q43_1 fun _ _ Z=>?_;simp(disch:=omega)[hN,dN,dE];apply Z;refine zr q43_1 fun _ _ Z=>?_;simp(disch:=omega)[hN,dN,dE];and_intros<;>(try omega);apply Z;refine zr q43_1 fun _ _ Z=>?_;simp(disch:=omega)[hN,dN,dE];apply Z;apply zSB;refine zk [0,1,2,6,7,8,9,10] ?_;refine bA (fun(s:Nat×Nat)=> [(9,.d (.v (.int .i64 (s.1:Int)))),(10,.d (.v (.int .i64 (s.2:Int)))),(11,.d (.any))]) [9,10,11,15,16,17,18,19,20,21,22,23,24,25,26,27,28,29,30,31,32,33,34] (fun(s:Nat×Nat)=>s.1<=s.2/\s.2<=l.length/\(∀j (h:j<l.length),j<s.1->dW l[j].name c=true)/\(∀j (h:j<l.length),s.2<=j->dW l[j].name c=false)) (fun(s:Nat×Nat)=>s.2 - s.1) ((0,l.length)) (by simp <;> rfl) ?_ ?_ ?_
 .simp
 .exact⟨by omega,by omega,fun j h h2=>absurd h2 (by simp),fun j h h2=>absurd h2 (by simp;omega)⟩
 rintro⟨lo,hi⟩ ⟨h1,h2,h3,h4⟩;simp only [aM,aK];dsimp only at h1 h2 h3 h4;have hmid:lo<hi->(lo+hi) / 2<hi:=fun h=>by omega
 apply aF;refine zr q43_1 fun _ _ Z=>?_;simp(disch:=omega)[hN,dN,dE];apply Z;refine zI ?_ ?_<;>intro c1<;>try simp at c1
 .apply zA;apply aN;refine zk [0,1,2,6,7,8,9,10,11] ?_;refine zr q43_1 fun _ _ Z=>?_;simp(disch:=omega)[hN,dN,dE];and_intros<;>(try omega);apply Z;refine zk [0,1,2,6,7,8,9,10,11] ?_;refine zr q43_1 fun _ _ Z=>?_;refine zs 6 fun _ Y=>?_;simp(disch:=omega)[hN,dN,dE];and_intros<;>(try omega);apply Y;refine aG fun _ Y=>?_;simp(disch:=omega)[hN,dN,dE];refine dX (Uv l[(lo+hi) / 2] c _) ?_;apply Y;simp(disch:=omega)[hN,dN,dE];apply Z;refine zI ?_ ?_<;>intro c2<;>try simp at c2
  .refine zk [0,1,2,6,7,8,9,10,11] ?_;refine zt q43_1 fun _ _ Z=>?_;simp(disch:=omega)[hN,dN,dE];and_intros<;>(try omega);apply Z;apply iV;refine zq (((lo+hi) / 2+1,hi)) ?_ ?_ ?_
   .exact⟨by dsimp only;omega,by dsimp only;omega,aLz nA hs (by omega) (by simpa [Fa] using c2),h4⟩
   .try dsimp only
    omega
   simp(disch:=omega)[hN,dN,dE]
  refine zk [0,1,2,6,7,8,9,10,11] ?_;refine zt q43_1 fun _ _ Z=>?_;simp(disch:=omega)[hN,dN,dE];apply Z;apply iV;refine zq ((lo,(lo+hi) / 2)) ?_ ?_ ?_
  .exact⟨by dsimp only;omega,by dsimp only;omega,h3,aL5 nA hs (by omega) ((Uz _ _).1 (by omega))⟩
  .try dsimp only
   omega
  simp(disch:=omega)[hN,dN,dE]
 obtain rfl:lo=hi:=by omega
 have hpos:gR nA l c=lo:=Jw nA l c lo h2 h3 (fun h=>h4 lo h (bG _));apply zE;refine zk [0,1,2,6,7,8,9] ?_;refine oL q43_1 fun all hall _ Z=>?_;have ga4:aQ all 4=some 39:=hall 4;refine zs 5 fun _ Y=>?_;simp(disch:=omega)[hN,dN,dE,ga4];apply Y;refine zb 39 ?_ ?_<;>intro g3<;>try simp at g3
 .refine zs 6 fun _ Y=>?_;simp(disch:=omega)[hN,dN,dE,ga4];and_intros<;>(try omega);apply Y;refine zg ga4 fun _ Y=>?_;simp(disch:=omega)[hN,dN,dE,ga4];refine dX (Uv l[lo] c _) ?_;apply Y;simp(disch:=omega)[hN,dN,dE,ga4];apply Z;apply aE;simp [aP,hpos,Qz, *];exact Hs _ _
 refine zs 8 fun _ Y=>?_;simp(disch:=omega)[hN,dN,dE,ga4];and_intros<;>(try omega);apply Y;simp(disch:=omega)[hN,dN,dE,ga4];apply Z;apply aE;simp [aP,hpos, *];exact Dd _ _ _ (by omega)
theorem aHt(N cap:Nat)(l:List AT)(rest:List D)(c:ByteArray)(σ:List (List D))(hl:l.length<=1000000)(hN:σ[N]?=some (l.flatMap cA++rest))(hs:eE nA l):Ct prog 103 [.slo N 0 l.length cap,D.str c] σ (fun r σ'=>r= .tup [.int ((gR nA l c:Nat):Int),.bool (fnd nA l c)]/\σ'=σ):=by
 refine zf func103 ?_;refine bT fun _ _ Z=>?_;simp[hN];apply Z;refine bT fun _ _ Z=>?_;refine zs 2 fun _ Y=>?_;simp[hN];apply Y;refine aG fun _ Y=>?_;simp[hN];refine dX (aOp N cap l rest c _ hl hN hs) ?_;apply Y;simp[hN];apply Z;apply aE;simp [aP]
@[simp] abbrev q43_2:Cfg:=⟨[4,19,20,24],[],[],[18],[]⟩
theorem aGd(l:List AT)(p:AT)(σ:List (List D))(hl:l.length<=999999)(hs:eE nA l):Ct prog 89 [.xs 2 (l.map cH),cH p] σ (fun r σ'=>r= .xs 2 ((jK nA l p).map cH)/\∃J,σ'=σ++J):=by
 refine zf func89 ?_;refine kV 0 2 rfl (by decide) fun cap rest hcap hcm hrest hk0 hes=>?_;subst hrest;simp only [cG] at hcap |-;rw [dI (f:=cA) (fun _=>rfl)];have hpl:=Kq nA l p.name;refine zr q43_2 fun _ _ Z=>?_;simp(disch:=omega)[aD,aA];apply Z;refine zr q43_2 fun _ _ Z=>?_;refine zs 3 fun _ Y=>?_;simp(disch:=omega)[aD,aA];apply Y;refine aG fun _ Y=>?_;simp(disch:=omega)[aD,aA];refine dX (aHt σ.length cap l (List.replicate ((cap - l.length) * 2) .any) p.name _ (by omega) (by simp [aD]) hs) ?_;apply Y;simp(disch:=omega)[aD,aA];apply Z;apply aF;refine zr q43_2 fun _ _ Z=>?_;simp(disch:=omega)[aD,aA];apply Z;refine zI ?_ ?_<;>intro c1<;>try simp at c1
 .have hlt:=Ll nA c1;refine zk [0,3,4,5] ?_;refine zr q43_2 fun _ _ Z=>?_;simp(disch:=omega)[aD,aA];and_intros<;>(try omega);apply Z;refine zr q43_2 fun _ _ Z=>?_;simp(disch:=omega)[aD,aA];apply Z;refine eY 4 2 σ.length l.length cap ((l.set (gR nA l p.name) p).map cH) ((l.set (gR nA l p.name) p).flatMap cA++List.replicate ((cap - l.length) * 2) .any) (by simp <;> rfl) (by simp [aD]) (by omega) (by simp only [bC,dM (f:=cA) (k:=2) (fun _=>rfl),cY,dS];omega) (by simp) (mH (d:=cH) (fun _=>⟨rfl,rfl⟩) _) (by rw [dI (f:=cA) (fun _=>rfl)];exact cU _ _) ?_;apply aE;simp [aP,xX,c1]
 apply zA;refine eY 0 2 σ.length l.length cap (l.map cH) (l.flatMap cA++List.replicate ((cap - l.length) * 2) .any) (by simp <;> rfl) (by simp [aD]) (by omega) (by simp only [bC,dM (f:=cA) (k:=2) (fun _=>rfl),cY,dS];omega) (by simp) (mH (d:=cH) (fun _=>⟨rfl,rfl⟩) _) (by rw [dI (f:=cA) (fun _=>rfl)];exact cU _ _) ?_;refine zk [0,3,4,5] ?_;refine zr q43_2 fun _ _ Z=>?_;refine zs 4 fun _ Y=>?_;simp(disch:=omega)[aD,aA];and_intros<;>(try omega);apply Y;refine aG fun _ Y=>?_;simp(disch:=omega)[aD,aA];refine dX (aKf l p (gR nA l p.name) _ (by omega) hpl) ?_;apply Y;simp(disch:=omega)[aD,aA];apply Z;apply aE;simp [aP,xX,c1]
theorem Wr(x:PI)(s:ByteArray)(σ:List (List D))  :Ct prog 145 [bY x,D.str s] σ (fun r σ'=>r= .int (Gd x.name s)/\σ'=σ):=by
 refine zf func145 ?_;refine bT fun _ _ Z=>?_;simp;apply Z;refine bT fun _ _ Z=>?_;refine zs 3 fun _ Y=>?_;simp;apply Y;refine aG fun _ Y=>?_;simp;refine dX (Gb x.name s _) ?_;apply Y;simp;apply Z;apply aE;simp [aP]
theorem aM6(N cap:Nat)(l:List PI)(rest:List D)(c:ByteArray)(σ:List (List D))(hl:l.length<=1000000)(hN:σ[N]?=some (l.flatMap cP++rest))(hs:eE nP l):Ct prog 144 [.slo N 0 l.length cap,D.str c,.clo (.func 145) [] []] σ (fun r σ'=>r= .tup [.int ((gR nP l c:Nat):Int),.bool (fnd nP l c)]/\σ'=σ):=by
 refine zf func144 ?_;refine zr q43_1 fun _ _ Z=>?_;simp(disch:=omega)[hN,dN,dE];apply Z;refine zr q43_1 fun _ _ Z=>?_;simp(disch:=omega)[hN,dN,dE];and_intros<;>(try omega);apply Z;refine zr q43_1 fun _ _ Z=>?_;simp(disch:=omega)[hN,dN,dE];apply Z;apply zSB;refine zk [0,1,2,6,7,8,9,10] ?_;refine bA (fun(s:Nat×Nat)=> [(9,.d (.v (.int .i64 (s.1:Int)))),(10,.d (.v (.int .i64 (s.2:Int)))),(11,.d (.any))]) [9,10,11,15,16,17,18,19,20,21,22,23,24,25,26,27,28,29,30,31,32,33,34] (fun(s:Nat×Nat)=>s.1<=s.2/\s.2<=l.length/\(∀j (h:j<l.length),j<s.1->dW l[j].name c=true)/\(∀j (h:j<l.length),s.2<=j->dW l[j].name c=false)) (fun(s:Nat×Nat)=>s.2 - s.1) ((0,l.length)) (by simp <;> rfl) ?_ ?_ ?_
 .simp
 .exact⟨by omega,by omega,fun j h h2=>absurd h2 (by simp),fun j h h2=>absurd h2 (by simp;omega)⟩
 rintro⟨lo,hi⟩ ⟨h1,h2,h3,h4⟩;simp only [aM,aK];dsimp only at h1 h2 h3 h4;have hmid:lo<hi->(lo+hi) / 2<hi:=fun h=>by omega
 apply aF;refine zr q43_1 fun _ _ Z=>?_;simp(disch:=omega)[hN,dN,dE];apply Z;refine zI ?_ ?_<;>intro c1<;>try simp at c1
 .apply zA;apply aN;refine zk [0,1,2,6,7,8,9,10,11] ?_;refine zr q43_1 fun _ _ Z=>?_;simp(disch:=omega)[hN,dN,dE];and_intros<;>(try omega);apply Z;refine zk [0,1,2,6,7,8,9,10,11] ?_;refine zr q43_1 fun _ _ Z=>?_;refine zs 6 fun _ Y=>?_;simp(disch:=omega)[hN,dN,dE];and_intros<;>(try omega);apply Y;refine aG fun _ Y=>?_;simp(disch:=omega)[hN,dN,dE];refine dX (Wr l[(lo+hi) / 2] c _) ?_;apply Y;simp(disch:=omega)[hN,dN,dE];apply Z;refine zI ?_ ?_<;>intro c2<;>try simp at c2
  .refine zk [0,1,2,6,7,8,9,10,11] ?_;refine zt q43_1 fun _ _ Z=>?_;simp(disch:=omega)[hN,dN,dE];and_intros<;>(try omega);apply Z;apply iV;refine zq (((lo+hi) / 2+1,hi)) ?_ ?_ ?_
   .exact⟨by dsimp only;omega,by dsimp only;omega,aLz nP hs (by omega) (by simpa [Fa] using c2),h4⟩
   .try dsimp only
    omega
   simp(disch:=omega)[hN,dN,dE]
  refine zk [0,1,2,6,7,8,9,10,11] ?_;refine zt q43_1 fun _ _ Z=>?_;simp(disch:=omega)[hN,dN,dE];apply Z;apply iV;refine zq ((lo,(lo+hi) / 2)) ?_ ?_ ?_
  .exact⟨by dsimp only;omega,by dsimp only;omega,h3,aL5 nP hs (by omega) ((Uz _ _).1 (by omega))⟩
  .try dsimp only
   omega
  simp(disch:=omega)[hN,dN,dE]
 obtain rfl:lo=hi:=by omega
 have hpos:gR nP l c=lo:=Jw nP l c lo h2 h3 (fun h=>h4 lo h (bG _));apply zE;refine zk [0,1,2,6,7,8,9] ?_;refine oL q43_1 fun all hall _ Z=>?_;have ga4:aQ all 4=some 39:=hall 4;refine zs 5 fun _ Y=>?_;simp(disch:=omega)[hN,dN,dE,ga4];apply Y;refine zb 39 ?_ ?_<;>intro g3<;>try simp at g3
 .refine zs 6 fun _ Y=>?_;simp(disch:=omega)[hN,dN,dE,ga4];and_intros<;>(try omega);apply Y;refine zg ga4 fun _ Y=>?_;simp(disch:=omega)[hN,dN,dE,ga4];refine dX (Wr l[lo] c _) ?_;apply Y;simp(disch:=omega)[hN,dN,dE,ga4];apply Z;apply aE;simp [aP,hpos,Qz, *];exact Hs _ _
 refine zs 8 fun _ Y=>?_;simp(disch:=omega)[hN,dN,dE,ga4];and_intros<;>(try omega);apply Y;simp(disch:=omega)[hN,dN,dE,ga4];apply Z;apply aE;simp [aP,hpos, *];exact Dd _ _ _ (by omega)
theorem aDy(N cap:Nat)(l:List PI)(rest:List D)(c:ByteArray)(σ:List (List D))(hl:l.length<=1000000)(hN:σ[N]?=some (l.flatMap cP++rest))(hs:eE nP l):Ct prog 119 [.slo N 0 l.length cap,D.str c] σ (fun r σ'=>r= .tup [.int ((gR nP l c:Nat):Int),.bool (fnd nP l c)]/\σ'=σ):=by
 refine zf func119 ?_;refine bT fun _ _ Z=>?_;simp[hN];apply Z;refine bT fun _ _ Z=>?_;refine zs 2 fun _ Y=>?_;simp[hN];apply Y;refine aG fun _ Y=>?_;simp[hN];refine dX (aM6 N cap l rest c _ hl hN hs) ?_;apply Y;simp[hN];apply Z;apply aE;simp [aP]
theorem aGi(l:List PI)(p:PI)(σ:List (List D))(hl:l.length<=999999)(hs:eE nP l):Ct prog 87 [.xs 2 (l.map bY),bY p] σ (fun r σ'=>r= .xs 2 ((jK nP l p).map bY)/\∃J,σ'=σ++J):=by
 refine zf func87 ?_;refine kV 0 2 rfl (by decide) fun cap rest hcap hcm hrest hk0 hes=>?_;subst hrest;simp only [cG] at hcap |-;rw [dI (f:=cP) (fun _=>rfl)];have hpl:=Kq nP l p.name;refine zr q43_2 fun _ _ Z=>?_;simp(disch:=omega)[aD,aA];apply Z;refine zr q43_2 fun _ _ Z=>?_;refine zs 3 fun _ Y=>?_;simp(disch:=omega)[aD,aA];apply Y;refine aG fun _ Y=>?_;simp(disch:=omega)[aD,aA];refine dX (aDy σ.length cap l (List.replicate ((cap - l.length) * 2) .any) p.name _ (by omega) (by simp [aD]) hs) ?_;apply Y;simp(disch:=omega)[aD,aA];apply Z;apply aF;refine zr q43_2 fun _ _ Z=>?_;simp(disch:=omega)[aD,aA];apply Z;refine zI ?_ ?_<;>intro c1<;>try simp at c1
 .have hlt:=Ll nP c1;refine zk [0,3,4,5] ?_;refine zr q43_2 fun _ _ Z=>?_;simp(disch:=omega)[aD,aA];and_intros<;>(try omega);apply Z;refine zr q43_2 fun _ _ Z=>?_;simp(disch:=omega)[aD,aA];apply Z;refine eY 4 2 σ.length l.length cap ((l.set (gR nP l p.name) p).map bY) ((l.set (gR nP l p.name) p).flatMap cP++List.replicate ((cap - l.length) * 2) .any) (by simp <;> rfl) (by simp [aD]) (by omega) (by simp only [bC,dM (f:=cP) (k:=2) (fun _=>rfl),cY,dS];omega) (by simp) (mH (d:=bY) (fun _=>⟨rfl,rfl⟩) _) (by rw [dI (f:=cP) (fun _=>rfl)];exact cU _ _) ?_;apply aE;simp [aP,xX,c1]
 apply zA;refine eY 0 2 σ.length l.length cap (l.map bY) (l.flatMap cP++List.replicate ((cap - l.length) * 2) .any) (by simp <;> rfl) (by simp [aD]) (by omega) (by simp only [bC,dM (f:=cP) (k:=2) (fun _=>rfl),cY,dS];omega) (by simp) (mH (d:=bY) (fun _=>⟨rfl,rfl⟩) _) (by rw [dI (f:=cP) (fun _=>rfl)];exact cU _ _) ?_;refine zk [0,3,4,5] ?_;refine zr q43_2 fun _ _ Z=>?_;refine zs 4 fun _ Y=>?_;simp(disch:=omega)[aD,aA];and_intros<;>(try omega);apply Y;refine aG fun _ Y=>?_;simp(disch:=omega)[aD,aA];refine dX (aLm l p (gR nP l p.name) _ (by omega) hpl) ?_;apply Y;simp(disch:=omega)[aD,aA];apply Z;apply aE;simp [aP,xX,c1]
def Hf(l:List AT)(c:ByteArray):ByteArray:=((l.find? fun p=>decide (p.name=c)).map AT.value).getD ⟨#[]⟩
theorem Oc:∀ {l:List AT},eE nA l->∀ {c:ByteArray} (h:gR nA l c<l.length),fnd nA l c=true->l[gR nA l c].value=Hf l c
 | [],_,c,h,_=>by simp at h
 | q :: l, hs, c, h, hf => by
  unfold Hf;by_cases hq:dW (nA q) c=true
  .have e:gR nA (q::l) c=gR nA l c+1:=by simp [gR,hq]
   have hf':fnd nA l c=true:=by simpa [fnd,hq] using hf
   have hne:¬q.name=c:=vR hq;simp only [e,Ay,List.find?_cons,hne,pF];exact Oc (List.Pairwise.of_cons hs) _ hf'
  have e:gR nA (q::l) c=0:=by simp [gR,hq]
  have hf':q.name=c:=by simpa [fnd,hq] using hf
  simp [e,hf']
theorem aCo {l:List AT} (h:kM nA l c=false):Hf l c=⟨#[]⟩:=by
 unfold Hf;have:l.find? (fun p=>decide (p.name=c))=none:=by
  rw [Br];intro p hp e;have h2:kM nA l c=true:=by unfold kM;rw [nC];exact⟨p,hp,e⟩
  rw [h] at h2;cases h2
 rw [this];rfl
def yL(l:List PI)(c:ByteArray):Int:=((l.find? fun p=>decide (p.name=c)).map PI.value).getD 0
theorem Pt:∀ {l:List PI},eE nP l->∀ {c:ByteArray} (h:gR nP l c<l.length),fnd nP l c=true->l[gR nP l c].value=yL l c
 | [],_,c,h,_=>by simp at h
 | q :: l, hs, c, h, hf => by
  unfold yL;by_cases hq:dW (nP q) c=true
  .have e:gR nP (q::l) c=gR nP l c+1:=by simp [gR,hq]
   have hf':fnd nP l c=true:=by simpa [fnd,hq] using hf
   have hne:¬q.name=c:=vR hq;simp only [e,Ay,List.find?_cons,hne,pF];exact Pt (List.Pairwise.of_cons hs) _ hf'
  have e:gR nP (q::l) c=0:=by simp [gR,hq]
  have hf':q.name=c:=by simpa [fnd,hq] using hf
  simp [e,hf']
theorem Nk {l:List PI} (h:kM nP l c=false):yL l c=0:=by
 unfold yL;have:l.find? (fun p=>decide (p.name=c))=none:=by
  rw [Br];intro p hp e;have h2:kM nP l c=true:=by unfold kM;rw [nC];exact⟨p,hp,e⟩
  rw [h] at h2;cases h2
 rw [this];rfl
theorem Wy(l:List AT)(p:AT)(σ:List (List D))(hl:l.length<=999999)(hs:eE nA l):Ct prog 89 [.xs 2 (l.map cH),cH p] σ (fun r σ'=>r= .xs 2 ((jK nA l p).map cH)/\σ'=σ):=
 (aGd l p σ hl hs).trim fun r σ' ⟨hr,J,hs⟩=>⟨σ,J,hs,rfl,by rw [hr];exact aM9 _ _,fun n cs h=> .inl h,hr,rfl⟩
theorem tY(l:List AT)(rest:List D)(i:Nat)(h:i<l.length):uH false 1 ((l.flatMap cA++rest).drop (i * 2+1))=some (D.str l[i].value):=Ns (f:=cA) (k:=2) (fun _=>rfl) l rest i 1 h (by decide)
@[simp] abbrev q43_3:Cfg:=⟨[2,3,12,14,16],[],[],[],[]⟩
theorem Me(l:List AT)(σ:List (List D))(hl:l.length<=999999):Ct prog 88 [.sl false (l.map cH)] σ (fun r σ'=>r= .xs 2 ((jD nA l).map cH)/\σ'=σ):=by
 refine zf func88 ?_;refine zr q43_3 fun _ _ Z=>?_;simp(disch:=omega);apply Z;refine zr q43_3 fun _ _ Z=>?_;simp(disch:=omega);apply Z;apply aF;refine zr q43_3 fun _ _ Z=>?_;simp(disch:=omega);and_intros<;>(try omega);apply Z;apply aN;refine zk [2,3,6,7,8] ?_;refine yE 3 2 (by simp <;> rfl) ?_;refine bA (fun(k:Nat)=> [(8,.d (.v (.int .i64 (k:Int)))),(3,.d (.xs 2 ((jD nA (l.take k)).map cH)))]) [3,5,8,9,10,11,12,13,14,15] (fun(k:Nat)=>k<=l.length) (fun(k:Nat)=>l.length - k) (0) (by simp <;> rfl) ?_ ?_ ?_
 .simp [jD]
 .simp
 rintro k hk;simp only [aM,aK];have hol:=lO nA (l.take k);simp only [bF] at hol;refine zr q43_3 fun _ _ Z=>?_;simp(disch:=omega);apply Z;apply aF;refine zI ?_ ?_<;>intro c1<;>try simp at c1
 .apply kL;refine zr q43_3 fun _ _ Z=>?_;simp(disch:=omega);and_intros<;>(try omega);apply Z;refine zt q43_3 fun _ _ Z=>?_;refine zs 2 fun _ Y=>?_;simp(disch:=omega);apply Y;refine aG fun _ Y=>?_;simp(disch:=omega);refine dX (Wy (jD nA (l.take k)) l[k] _ (by omega) (jR nA _)) ?_;apply Y;simp(disch:=omega);apply Z;apply zB;refine zk [2,3,6,7,8] ?_;refine zt q43_3 fun _ _ Z=>?_;simp(disch:=omega);and_intros<;>(try omega);apply Z;refine zq (k+1) ?_ ?_ ?_
  .omega
  .try dsimp only
   omega
  simp(disch:=omega)[xW]
 apply zE;refine zr q43_3 fun _ _ Z=>?_;simp(disch:=omega);apply Z;apply aE;simp [aP];rw [bZ (by omega)]
@[simp] abbrev q43_4:Cfg:=⟨[6,11],[],[],[21],[]⟩
theorem aEt(l:List AT)(c:ByteArray)(σ:List (List D))(hl:l.length<=999999)(hs:eE nA l):Ct prog 59 [.sl false (l.map cH),D.str c] σ (fun r σ'=>r= .tup [D.str (Hf l c),.bool (kM nA l c)]/\∃J,σ'=σ++J):=by
 refine zf func59 ?_;refine zr q43_4 fun _ _ Z=>?_;simp(disch:=omega)[aD,aA,tY];apply Z;refine zr q43_4 fun _ _ Z=>?_;refine zs 1 fun _ Y=>?_;simp(disch:=omega)[aD,aA,tY];apply Y;refine aG fun _ Y=>?_;simp(disch:=omega)[aD,aA,tY];refine dX (Me l _ hl) ?_;rw [sU nA hs];apply Y;simp(disch:=omega)[aD,aA,tY];apply Z;apply aF;refine kV 6 2 rfl (by decide) fun cap rest hcap hcm hrest hk0 hes=>?_;subst hrest;simp only [cG] at hcap |-;rw [dI (f:=cA) (fun _=>rfl)];refine zr q43_4 fun _ _ Z=>?_;refine zs 2 fun _ Y=>?_;simp(disch:=omega)[aD,aA,tY];apply Y;refine aG fun _ Y=>?_;simp(disch:=omega)[aD,aA,tY];refine dX (aHt σ.length cap l (List.replicate ((cap - l.length) * 2) .any) c _ (by omega) (by simp [aD]) hs) ?_;apply Y;simp(disch:=omega)[aD,aA,tY];apply Z;refine zk [4,5,6,7,8] ?_;refine zr q43_4 fun _ _ Z=>?_;simp(disch:=omega)[aD,aA,tY];apply Z;refine zI ?_ ?_<;>intro c1<;>try simp at c1
 .have hlt:=Ll nA c1;have hva:=Oc hs hlt c1;have hhn:=(Dr nA hs c).symm.trans c1;refine zr q43_4 fun _ _ Z=>?_;simp(disch:=omega)[aD,aA,tY];and_intros<;>(try omega);apply Z;apply aE;simp [aP,hhn,hva]
 have hhn:kM nA l c=false:=by rw [<- Dr nA hs c];simpa using c1
 have hva:=aCo hhn;apply zA;refine zr q43_4 fun _ _ Z=>?_;simp(disch:=omega)[aD,aA,tY];apply Z;refine zr q43_4 fun _ _ Z=>?_;simp(disch:=omega)[aD,aA,tY];apply Z;apply aE;simp [aP,hhn,hva]
theorem Wk(l:List AT)(c:ByteArray)(σ:List (List D))(hl:l.length<=999999)(hs:eE nA l):Ct prog 59 [.sl false (l.map cH),D.str c] σ (fun r σ'=>r= .tup [D.str (Hf l c),.bool (kM nA l c)]/\σ'=σ):=
 (aEt l c σ hl hs).trim fun r σ' ⟨hr,J,hs'⟩=>⟨σ,J,hs',rfl,by rw [hr];exact Sc.tup fun d hd=>by simp at hd;rcases hd with rfl | rfl <;> exact Sc.v _,fun n cs h=> .inl h,hr,rfl⟩
theorem aCw(l:List AT)(c:ByteArray)(v:ByteArray)(σ:List (List D))(hl:l.length<=99999):Ct prog 52 [.sl false (l.map cH),D.str c,D.str v] σ (fun r σ'=>r= .xs 2 ((jK nA (jD nA l) ⟨c,v⟩).map cH)/\σ'=σ):=by
 refine zf func52 ?_;have hol:=lO nA l;refine zr ⟨[6,9,10,12],[],[],[],[]⟩ fun _ _ Z=>?_;simp;apply Z;refine zr ⟨[6,9,10,12],[],[],[],[]⟩ fun _ _ Z=>?_;refine zs 1 fun _ Y=>?_;simp;apply Y;refine aG fun _ Y=>?_;simp;refine dX (Me l _ (by omega)) ?_;apply Y;refine zs 3 fun _ Y=>?_;simp;apply Y;refine aG fun _ Y=>?_;simp;refine dX (Wy (jD nA l) ⟨c,v⟩ _ (by omega) (jR nA l)) ?_;apply Y;simp;apply Z;apply aE;simp [aP]
theorem aJr(l:List AT)(c:ByteArray)(v:ByteArray)(σ:List (List D))(hl:l.length<=99999)(hs:eE nA l):Ct prog 52 [.sl false (l.map cH),D.str c,D.str v] σ (fun r σ'=>r= .sl false ((jK nA l ⟨c,v⟩).map cH)/\σ'=σ):=
 (aCw l c v σ hl).freeze fun r σ' h=>by rw [sU nA hs] at h;exact h
theorem aIk(l:List AT)(p:AT->Bool)(f:FuncId)(caps:List D)(σ:List (List D))(hl:l.length<=99999)(hcp:∀d∈caps,d.plain=true)(hcs:caps.map D.strip=caps)(hp:∀x τ,Ct prog f (cH x::caps) τ (fun r τ'=>r= .bool (p x)/\τ'=τ)):Ct prog 125 [.sl false (l.map cH),.clo (.func f) [] caps] σ (fun r σ'=>r= .xs 2 (((jD nA l).filter fun x=> !p x).map cH)/\σ'=σ):=by
 refine zf func125 ?_;have hol:=lO nA l;refine zr ⟨[4,7,8],[],[],[],[]⟩ fun _ _ Z=>?_;simp;apply Z;refine zr ⟨[4,7,8],[],[],[],[]⟩ fun _ _ Z=>?_;refine zs 1 fun _ Y=>?_;simp;apply Y;refine aG fun _ Y=>?_;simp;refine dX (Me l _ (by omega)) ?_;apply Y;refine zs 1 fun _ Y=>?_;simp;apply Y;refine aG fun _ Y=>?_;simp;refine dX (Uo (jD nA l) p f caps _ (by omega) hcp hcs hp) ?_;apply Y;simp;apply Z;apply aE;simp [aP]
theorem aI5(l:List PI)(p:PI)(σ:List (List D))(hl:l.length<=999999)(hs:eE nP l):Ct prog 87 [.xs 2 (l.map bY),bY p] σ (fun r σ'=>r= .xs 2 ((jK nP l p).map bY)/\σ'=σ):=
 (aGi l p σ hl hs).trim fun r σ' ⟨hr,J,hs⟩=>⟨σ,J,hs,rfl,by rw [hr];exact aN7 _ _,fun n cs h=> .inl h,hr,rfl⟩
theorem uD(l:List PI)(rest:List D)(i:Nat)(h:i<l.length):uH false 1 ((l.flatMap cP++rest).drop (i * 2+1))=some (D.int l[i].value):=Ns (f:=cP) (k:=2) (fun _=>rfl) l rest i 1 h (by decide)
theorem Sa(l:List PI)(σ:List (List D))(hl:l.length<=999999):Ct prog 50 [.sl false (l.map bY)] σ (fun r σ'=>r= .xs 2 ((jD nP l).map bY)/\σ'=σ):=by
 refine zf func50 ?_;refine zr q43_3 fun _ _ Z=>?_;simp(disch:=omega);apply Z;refine zr q43_3 fun _ _ Z=>?_;simp(disch:=omega);apply Z;apply aF;refine zr q43_3 fun _ _ Z=>?_;simp(disch:=omega);and_intros<;>(try omega);apply Z;apply aN;refine zk [2,3,6,7,8] ?_;refine yE 3 2 (by simp <;> rfl) ?_;refine bA (fun(k:Nat)=> [(8,.d (.v (.int .i64 (k:Int)))),(3,.d (.xs 2 ((jD nP (l.take k)).map bY)))]) [3,5,8,9,10,11,12,13,14,15] (fun(k:Nat)=>k<=l.length) (fun(k:Nat)=>l.length - k) (0) (by simp <;> rfl) ?_ ?_ ?_
 .simp [jD]
 .simp
 rintro k hk;simp only [aM,aK];have hol:=lO nP (l.take k);simp only [bF] at hol;refine zr q43_3 fun _ _ Z=>?_;simp(disch:=omega);apply Z;apply aF;refine zI ?_ ?_<;>intro c1<;>try simp at c1
 .apply kL;refine zr q43_3 fun _ _ Z=>?_;simp(disch:=omega);and_intros<;>(try omega);apply Z;refine zt q43_3 fun _ _ Z=>?_;refine zs 2 fun _ Y=>?_;simp(disch:=omega);apply Y;refine aG fun _ Y=>?_;simp(disch:=omega);refine dX (aI5 (jD nP (l.take k)) l[k] _ (by omega) (jR nP _)) ?_;apply Y;simp(disch:=omega);apply Z;apply zB;refine zk [2,3,6,7,8] ?_;refine zt q43_3 fun _ _ Z=>?_;simp(disch:=omega);and_intros<;>(try omega);apply Z;refine zq (k+1) ?_ ?_ ?_
  .omega
  .try dsimp only
   omega
  simp(disch:=omega)[xW]
 apply zE;refine zr q43_3 fun _ _ Z=>?_;simp(disch:=omega);apply Z;apply aE;simp [aP];rw [bZ (by omega)]
theorem aCd(l:List PI)(c:ByteArray)(σ:List (List D))(hl:l.length<=999999)(hs:eE nP l):Ct prog 132 [.sl false (l.map bY),D.str c] σ (fun r σ'=>r= .tup [D.int (yL l c),.bool (kM nP l c)]/\∃J,σ'=σ++J):=by
 refine zf func132 ?_;refine zr q43_4 fun _ _ Z=>?_;simp(disch:=omega)[aD,aA,uD];apply Z;refine zr q43_4 fun _ _ Z=>?_;refine zs 1 fun _ Y=>?_;simp(disch:=omega)[aD,aA,uD];apply Y;refine aG fun _ Y=>?_;simp(disch:=omega)[aD,aA,uD];refine dX (Sa l _ hl) ?_;rw [sU nP hs];apply Y;simp(disch:=omega)[aD,aA,uD];apply Z;apply aF;refine kV 6 2 rfl (by decide) fun cap rest hcap hcm hrest hk0 hes=>?_;subst hrest;simp only [cG] at hcap |-;rw [dI (f:=cP) (fun _=>rfl)];refine zr q43_4 fun _ _ Z=>?_;refine zs 2 fun _ Y=>?_;simp(disch:=omega)[aD,aA,uD];apply Y;refine aG fun _ Y=>?_;simp(disch:=omega)[aD,aA,uD];refine dX (aDy σ.length cap l (List.replicate ((cap - l.length) * 2) .any) c _ (by omega) (by simp [aD]) hs) ?_;apply Y;simp(disch:=omega)[aD,aA,uD];apply Z;refine zk [4,5,6,7,8] ?_;refine zr q43_4 fun _ _ Z=>?_;simp(disch:=omega)[aD,aA,uD];apply Z;refine zI ?_ ?_<;>intro c1<;>try simp at c1
 .have hlt:=Ll nP c1;have hva:=Pt hs hlt c1;have hhn:=(Dr nP hs c).symm.trans c1;refine zr q43_4 fun _ _ Z=>?_;simp(disch:=omega)[aD,aA,uD];and_intros<;>(try omega);apply Z;apply aE;simp [aP,hhn,hva]
 have hhn:kM nP l c=false:=by rw [<- Dr nP hs c];simpa using c1
 have hva:=Nk hhn;apply zA;refine zr q43_4 fun _ _ Z=>?_;simp(disch:=omega)[aD,aA,uD];apply Z;refine zr q43_4 fun _ _ Z=>?_;simp(disch:=omega)[aD,aA,uD];apply Z;apply aE;simp [aP,hhn,hva]
theorem aKs(l:List PI)(c:ByteArray)(σ:List (List D))(hl:l.length<=999999)(hs:eE nP l):Ct prog 132 [.sl false (l.map bY),D.str c] σ (fun r σ'=>r= .tup [D.int (yL l c),.bool (kM nP l c)]/\σ'=σ):=
 (aCd l c σ hl hs).trim fun r σ' ⟨hr,J,hs'⟩=>⟨σ,J,hs',rfl,by rw [hr];exact Sc.tup fun d hd=>by simp at hd;rcases hd with rfl | rfl <;> exact Sc.v _,fun n cs h=> .inl h,hr,rfl⟩
theorem aI2(l:List PI)(p:PI->Bool)(f:FuncId)(caps:List D)(σ:List (List D))(hl:l.length<=99999)(hcp:∀d∈caps,d.plain=true)(hcs:caps.map D.strip=caps)(hp:∀x τ,Ct prog f (bY x::caps) τ (fun r τ'=>r= .bool (p x)/\τ'=τ)):Ct prog 127 [.sl false (l.map bY),.clo (.func f) [] caps] σ (fun r σ'=>r= .xs 2 (((jD nP l).filter fun x=> !p x).map bY)/\σ'=σ):=by
 refine zf func127 ?_;have hol:=lO nP l;refine zr ⟨[4,7,8],[],[],[],[]⟩ fun _ _ Z=>?_;simp;apply Z;refine zr ⟨[4,7,8],[],[],[],[]⟩ fun _ _ Z=>?_;refine zs 1 fun _ Y=>?_;simp;apply Y;refine aG fun _ Y=>?_;simp;refine dX (Sa l _ (by omega)) ?_;apply Y;refine zs 1 fun _ Y=>?_;simp;apply Y;refine aG fun _ Y=>?_;simp;refine dX (Qs (jD nP l) p f caps _ (by omega) hcp hcs hp) ?_;apply Y;simp;apply Z;apply aE;simp [aP]
end Go.Proofs.YtbdjepeabjangaaGreat

import Derived.Test.YtbgfljpnhhdkoaaGreatWkAr5
import Derived.Test.YtbgfljpnhhdkoaaGreatLisBs
import Derived.Test.YtbgfljpnhhdkoaaGreatVmX7
set_option maxRecDepth 20000
set_option linter.all false
set_option maxHeartbeats 8000000
open Go.Proofs.Tryz
namespace Go.Proofs.YtbgfljpnhhdkoaaGreat
open Go Go.Vm
@[simp] abbrev dN(l:List Nat):List D:=l.map fun e:Nat=>D.int (e:Int)
theorem bZ(l:List Int)(rest:List D)(i:Nat)(x:Int)(h:i<l.length):List.take i (l.map D.int++rest)++D.v (.int .i64 x)::List.drop (i+1) (l.map D.int++rest)=(l.set i x).map D.int++rest:=by
 have:=dI D.int l rest i x h;simpa using this
theorem iY(a b:Nat):(((a:Int)+(b:Int)) / 2).toNat=(a+b) / 2:=by omega
theorem bN {es:List Nat} {rest:List D} {m:Nat} (h:m<es.length):((es.map fun e:Nat=>D.int (e:Int))++rest)[m]?=some (D.int (es[m]:Nat)):=by
 rw [aW (by simpa using h),bW,aQ h];rfl
theorem Cd {l:List Int} {e:Nat} (h:e<l.length):l[e]=Lis.at0 l e:=by unfold Lis.at0;rw [fA,aQ h];rfl
theorem aCk(x:Int)(σ:List (List D))  :Ct prog 264 [D.int x] σ (fun r σ'=>r= .bool false/\σ'=σ):=by
 refine zf func264 ?_;refine bE fun _ _ Z=>?_;simp;apply Z;refine bE fun _ _ Z=>?_;simp;apply Z;apply aD;simp [aK]
theorem Wt(a b:Int)(σ:List (List D))  :Ct prog 246 [D.int a,D.int b] σ (fun r σ'=>r= .int (Lis.cmpI a b)/\σ'=σ):=by
 refine zf func246 ?_;refine bE fun _ _ Z=>?_;simp;apply Z;refine bE fun _ _ Z=>?_;refine zs 1 fun _ Y=>?_;simp;apply Y;refine aE fun _ Y=>?_;simp;refine cB (aCk a _) ?_;apply Y;simp;apply Z;refine bE fun _ _ Z=>?_;refine zs 1 fun _ Y=>?_;simp;apply Y;refine aE fun _ Y=>?_;simp;refine cB (aCk b _) ?_;apply Y;simp;apply Z;apply aF;refine bE fun _ _ Z=>?_;simp;apply Z;refine zI ?_ ?_<;>intro c1<;>try simp at c1
 apply zA;apply aF;refine bE fun _ _ Z=>?_;simp;apply Z;refine zI ?_ ?_<;>intro c2<;>try simp at c2
 apply zA;apply aF;refine bE fun _ _ Z=>?_;simp;apply Z;refine zI ?_ ?_<;>intro c3<;>try simp at c3
 .refine zk [0,1,4] ?_;refine bE fun _ _ Z=>?_;simp;apply Z;apply aD;simp [aK];unfold Lis.cmpI
  repeat' split
  all_goals omega
 apply zA;apply aF;refine zk [0,1,4] ?_;refine bE fun _ _ Z=>?_;simp;apply Z;refine zI ?_ ?_<;>intro c4<;>try simp at c4
 .refine bE fun _ _ Z=>?_;simp;apply Z;apply aD;simp [aK];unfold Lis.cmpI
  repeat' split
  all_goals omega
 apply zA;refine bE fun _ _ Z=>?_;simp;apply Z;apply aD;simp [aK];unfold Lis.cmpI
 repeat' split
 all_goals omega
theorem aDm(l:List Int)(e:Nat)(x:Int)(σ:List (List D))(hl:l.length<=1000000)(he:e<l.length):Ct prog 245 [D.int e,D.int x,.adr [.sl false (l.map D.int)]] σ (fun r σ'=>r= .int (Lis.cmpI l[e] x)/\σ'=σ):=by
 refine zf func245 ?_;refine bE fun _ _ Z=>?_;simp(disch:=omega);apply Z;refine bE fun _ _ Z=>?_;refine zs 5 fun _ Y=>?_;simp(disch:=omega);and_intros<;>(try omega);apply Y;refine aE fun _ Y=>?_;simp(disch:=omega);refine cB (Wt l[e] x _) ?_;apply Y;simp(disch:=omega);apply Z;apply aD;simp [aK]
@[simp] abbrev q49_1:Cfg:=⟨[],[],[],[13,27,43],[]⟩
theorem aTz(N cap:Nat)(es:List Nat)(rest:List D)(x:Int)(l:List Int)(σ:List (List D))(hl:l.length<=1000000)(hn:es.length<=1000000)(hN:σ[N]?=some (dN es++rest))(hb:∀e∈es,e<l.length)(hs:Lis.Up l es):Ct prog 244 [.slo N 0 es.length cap,D.int x,.clo (.func 245) [] [.adr [.sl false (l.map D.int)]]] σ (fun r σ'=>r= .tup [.int ((Lis.below l es x:Nat):Int),.bool (Lis.fndI l es x)]/\σ'=σ):=by
 refine zf func244 ?_;refine zr q49_1 fun _ _ Z=>?_;simp(disch:=omega)[hN,cS,iY,bN,cT];apply Z;refine zr q49_1 fun _ _ Z=>?_;simp(disch:=omega)[hN,cS,iY,bN,cT];and_intros<;>(try omega);apply Z;refine zr q49_1 fun _ _ Z=>?_;simp(disch:=omega)[hN,cS,iY,bN,cT];apply Z;apply Ea;refine zk [0,1,2,6,7,8,9,10] ?_;refine aZ (fun(s:Nat×Nat)=> [(9,.d (.v (.int .i64 (s.1:Int)))),(10,.d (.v (.int .i64 (s.2:Int)))),(11,.d (.any))]) [9,10,11,15,16,17,18,19,20,21,22,23,24,25,26,27,28,29,30,31,32,33,34] (fun(s:Nat×Nat)=>s.1<=s.2/\s.2<=es.length/\(∀j (h:j<es.length),j<s.1->Lis.at0 l es[j]<x)/\(∀j (h:j<es.length),s.2<=j->¬Lis.at0 l es[j]<x)) (fun(s:Nat×Nat)=>s.2 - s.1) ((0,es.length)) (by simp <;> rfl) ?_ ?_ ?_
 .simp
 .exact⟨by omega,by omega,fun j h h2=>absurd h2 (by simp),fun j h h2=>absurd h2 (by simp;omega)⟩
 rintro⟨lo,hi⟩ ⟨h1,h2,h3,h4⟩;simp only [aP,aN];dsimp only at h1 h2 h3 h4;have hmid:lo<hi->(lo+hi) / 2<hi:=fun h=>by omega
 apply aF;refine zr q49_1 fun _ _ Z=>?_;simp(disch:=omega)[hN,cS,iY,bN,cT];apply Z;refine zI ?_ ?_<;>intro c1<;>try simp at c1
 .apply zA;apply aS;refine zk [0,1,2,6,7,8,9,10,11] ?_;refine zr q49_1 fun _ _ Z=>?_;simp(disch:=omega)[hN,cS,iY,bN,cT];and_intros<;>(try omega);apply Z;refine zk [0,1,2,6,7,8,9,10,11] ?_;refine zr q49_1 fun _ _ Z=>?_;refine zs 6 fun _ Y=>?_;simp(disch:=omega)[hN,cS,iY,bN,cT];and_intros<;>(try omega);apply Y;refine aE fun _ Y=>?_;simp(disch:=omega)[hN,cS,iY,bN,cT];refine cB (aDm l es[(lo+hi) / 2] x _ hl (hb _ (cN (by omega)))) ?_;apply Y;simp(disch:=omega)[hN,cS,iY,bN,cT];apply Z;refine zI ?_ ?_<;>intro c2<;>try simp at c2
  .refine zk [0,1,2,6,7,8,9,10,11] ?_;refine zt q49_1 fun _ _ Z=>?_;simp(disch:=omega)[hN,cS,iY,bN,cT];and_intros<;>(try omega);apply Z;apply gQ;refine zq (((lo+hi) / 2+1,hi)) ?_ ?_ ?_
   .exact⟨by dsimp only;omega,by dsimp only;omega,Lis.bsI_lo hs (by omega) (by rw [<- Cd (hb _ (List.getElem_mem (by omega)))];exact Lis.cmpI_neg.1 c2),h4⟩
   .try dsimp only
    omega
   simp(disch:=omega)[hN,cS,iY,bN,cT]
  refine zk [0,1,2,6,7,8,9,10,11] ?_;refine zt q49_1 fun _ _ Z=>?_;simp(disch:=omega)[hN,cS,iY,bN,cT];apply Z;apply gQ;refine zq ((lo,(lo+hi) / 2)) ?_ ?_ ?_
  .exact⟨by dsimp only;omega,by dsimp only;omega,h3,Lis.bsI_hi hs (by omega) (by rw [<- Cd (hb _ (List.getElem_mem (by omega)))];exact fun h=>absurd (Lis.cmpI_neg.2 h) (vF.2 c2))⟩
  .try dsimp only
   omega
  simp(disch:=omega)[hN,cS,iY,bN,cT]
 obtain rfl:lo=hi:=by omega
 have hpos:Lis.below l es x=lo:=Lis.below_of h2 h3 (fun h=>h4 lo h (aV _));apply zE;refine zk [0,1,2,6,7,8,9] ?_;refine pB q49_1 fun all hall _ Z=>?_;have ga4:aT all 4=some 39:=hall 4;refine zs 5 fun _ Y=>?_;simp(disch:=omega)[hN,cS,iY,bN,cT,ga4];apply Y;refine zb 39 ?_ ?_<;>intro g3<;>try simp at g3
 .refine zs 6 fun _ Y=>?_;simp(disch:=omega)[hN,cS,iY,bN,cT,ga4];and_intros<;>(try omega);apply Y;refine zg ga4 fun _ Y=>?_;simp(disch:=omega)[hN,cS,iY,bN,cT,ga4];refine cB (aDm l es[lo] x _ hl (hb _ (cN (by omega)))) ?_;apply Y;simp(disch:=omega)[hN,cS,iY,bN,cT,ga4];apply Z;apply aD;simp [aK,hpos,Lis.fndI, *];rw [Cd (hb _ (cN (by omega)))];exact Lis.cmpI_zero
 refine zs 8 fun _ Y=>?_;simp(disch:=omega)[hN,cS,iY,bN,cT,ga4];and_intros<;>(try omega);apply Y;simp(disch:=omega)[hN,cS,iY,bN,cT,ga4];apply Z;apply aD;simp [aK,hpos,Lis.fndI, *];intro h;omega
@[simp] abbrev q49_2:Cfg:=⟨[],[],[],[5,20,24,26,27],[]⟩
theorem aSd(N cap:Nat)(l:List Int)(rest:List D)(σ:List (List D))(hl:l.length<=1000000)(hN:σ[N]?=some (l.map D.int++rest)):Ct prog 247 [.slo N 0 l.length cap] σ (fun r σ'=>r= .tup []/\σ'=σ.set N (l.reverse.map D.int++rest)):=by
 refine zf func247 ?_;refine zr q49_2 fun _ _ Z=>?_;simp(disch:=omega)[hN,aO,bD,dI];and_intros<;>(try omega);apply Z;apply aS;refine zk [0,2,3] ?_;refine jR (fun(k:Nat)=> [(2,.d (.v (.int .i64 (k:Int)))),(3,.d (.int ((l.length:Int) - 1 - k)))]) (fun(k:Nat)=> []) (fun(k:Nat)=>σ.set N ((Lis.revK l k).map D.int++rest)) [2,3,7,8,9,10,11,12,13,14,15,16,17,18,19,20,21,22,23,24,25,26,27] (fun(k:Nat)=>2 * k<=l.length+1) (fun(k:Nat)=>l.length - 2 * k) (0) (by simp <;> rfl) ?_ (by simp) (by simp [Lis.revK_zero,nU hN]) ?_ ?_
 .simp
 .omega
 rintro k hk;simp only [aP,aN];have hrl:=Lis.revK_len l k;apply aF;refine zr q49_2 fun _ _ Z=>?_;simp(disch:=omega)[hN,aO,bD,dI];apply Z;refine zI ?_ ?_<;>intro c1<;>try simp at c1
 .apply kR;refine zk [0,2,3] ?_;refine ze q49_2 [.op {},.op {},.op {},.op {},.op {},.op {},.op {},.op {rO:=true},.op {},.op {},.op {},.op {rO:=true},.op {},.op {rO:=true,wO:=true},.op {},.op {rO:=true,wO:=true}] fun all hall _ Z=>?_;refine iU 8 fun _ Y=>?_;simp(disch:=omega)[hN,aO,bD,dI];and_intros<;>(try omega);apply Y;simp(disch:=omega)[hN,aO,bD,dI];and_intros<;>(try omega);apply Z;apply zB;refine zk [0,2,3] ?_;refine zt q49_2 fun _ _ Z=>?_;simp(disch:=omega)[hN,aO,bD,dI];and_intros<;>(try omega);apply Z;refine eX (k+1) ?_ ?_ (dX rfl ?_ (by simp) (by rw [bZ _ _ _ _ (by omega),bZ _ _ _ _ (by simp;omega),Lis.revK_next l k (by omega) _ _ (by rw [aQ (by omega)];rfl) (by rw [aQ (by omega)];rfl)];rfl))
  .omega
  .omega
  simp(disch:=omega)[hN,aO,bD,dI,(by omega:(l.length:Int) - 1 - k - 1=(l.length:Int) - 1 - (k+1))]
 apply uV;apply vH;apply yB;apply sL;rw [Lis.revK_end l k (by omega)];simp [aK]
theorem aKg(N cap:Nat)(l:List Nat)(rest:List D)(σ:List (List D))(hl:l.length<=1000000)(hN:σ[N]?=some (dN l++rest)):Ct prog 247 [.slo N 0 l.length cap] σ (fun r σ'=>r= .tup []/\σ'=σ.set N (dN l.reverse++rest)):=by
 have h:=aSd N cap (l.map fun e:Nat=>(e:Int)) rest σ (by simpa using hl) (by rw [hN];simp);simpa [Function.comp_def] using h
theorem cJ(l:List Nat)(rest:List D)(i:Nat)(x:Nat)(h:i<l.length):List.take i ((l.map fun e:Nat=>D.int (e:Int))++rest)++D.v (.int .i64 x)::List.drop (i+1) ((l.map fun e:Nat=>D.int (e:Int))++rest)=((l.set i x).map fun e:Nat=>D.int (e:Int))++rest:=by
 have:=dI (fun e:Nat=>D.int (e:Int)) l rest i x h;simpa using this
theorem cG(l:List Int)(i:Nat)(x:Int)(h:i<l.length):List.take i (l.map D.int)++D.v (.int .i64 x)::List.drop (i+1) (l.map D.int)=(l.set i x).map D.int:=by
 have:=bZ l [] i x h;simpa using this
theorem eM(n:Nat):jE #[.int .i64 0] n=(List.replicate n (0:Int)).map D.int:=by
 unfold jE;induction n with
 | zero=>rfl
 | succ n ih=>rw [sK,Ha,ih,sK,eZ];rfl
theorem Mt(l:List Nat):∀y∈dN l,y.ncells=1/\y.arr=true:=mC (d:=fun e:Nat=>D.int (e:Int)) (fun _=>⟨rfl,rfl⟩) l
theorem dM(a b:Nat):(a+b<a)=False:=by simp
theorem sP(σ:List (List D))(A:List D)(X:List (List D)):(σ++A::X)[σ.length]?=some A:=by simp
theorem qK(σ:List (List D))(A R:List D)(J:List (List D)):(σ++A::(J++ [R]))[σ.length+(J.length+1)]?=some R:=by simp [List.getElem?_append]
theorem sF(σ:List (List D))(A B:List D)(X:List (List D)):(σ++A::X).set σ.length B=σ++B::X:=by simp [List.set_append]
theorem pE(σ:List (List D))(A R S:List D)(J:List (List D)):(σ++A::(J++ [R])).set (σ.length+(J.length+1)) S=σ++A::(J++ [S]):=by simp [List.set_append]
theorem aEg(X:List D)(i:Nat)(y v:D)(h:i<X.length):List.take i (X.set i y)++v::List.drop (i+1) (X.set i y)=X.set i v:=by
 apply mL;intro j;rw [bP];by_cases e:i=j
 .subst e;rw [aI rfl,aI h,bQ (by simp;omega)];simp [jN (Nat.le_of_lt h)]
 rw [aC e];by_cases e2:j<i
 .rw [aW (by simp;omega),eJ,aI e2,bP,aC e]
 rw [bQ (by simp;omega)];simp only [bF,cV,jN (Nat.le_of_lt h)];obtain⟨d,rfl⟩:∃d,j=i+1+d:=⟨j - i - 1,by omega⟩;rw [show i+1+d - i=d+1 by omega,Qx,kC,bP,aC (by omega)]
theorem bR(k:IntKind)(n:Int):(Value.int k n).oneCell'=true:=rfl
theorem rC(l:List Nat):(dN l).flatMap D.cells=dN l:=gH (f:=fun e:Nat=>D.int (e:Int)) (fun _=>rfl) l
@[simp] abbrev q49_3:Cfg:=⟨[2,3,9,46,80,86],[1],[],[30,38,40,44,49,55,63,66,70,72,78,83],[13]⟩
theorem aFg(l:List Int)(σ:List (List D))(hl:l.length<=1000000)(hd:Lis.Dis l):Ct prog 210 [.sl false (l.map D.int)] σ (fun r σ'=>wY 1 (dN (Lis.ofP l)) r/\∃J,σ'=σ++J):=by
 refine zf func210 ?_;refine zr q49_3 fun _ _ Z=>?_;simp(disch:=omega)[sP,qK,sF,pE,cG,bZ,cJ,bN,eM,bR,dM];and_intros<;>(try omega);apply Z;refine zr q49_3 fun _ _ Z=>?_;simp(disch:=omega)[sP,qK,sF,pE,cG,bZ,cJ,bN,eM,bR,dM];and_intros<;>(try omega);apply Z;refine zr q49_3 fun _ _ Z=>?_;simp(disch:=omega)[sP,qK,sF,pE,cG,bZ,cJ,bN,eM,bR,dM];and_intros<;>(try omega);apply Z;apply aF;refine zr q49_3 fun _ _ Z=>?_;simp(disch:=omega)[sP,qK,sF,pE,cG,bZ,cJ,bN,eM,bR,dM];and_intros<;>(try omega);apply Z;apply aS;refine zk [1,2,3,4,14,15,16] ?_;refine vW 3 1 rfl ?_;refine jR (fun(p:Nat×List (List D))=> [(16,.d (.v (.int .i64 (p.1:Int)))),(3,.d (.xs 1 (dN (Lis.runE l p.1).1))),(5,.d (.any)),(6,.d (.any)),(7,.d (.any)),(8,.d (.any))]) (fun(p:Nat×List (List D))=> []) (fun(p:Nat×List (List D))=>σ++((Lis.ahC l p.1).map D.int::p.2)) [3,5,6,7,8,16,17,18,19,20,21,22,23,24,25,26,27,28,29,30,31,32,33,34,35,36,37,38,39,40,41,42,43,44,45,46,47,48,49,50,51,52,53,54,55,56,57,58,59,60,61,62,63,64] (fun(p:Nat×List (List D))=>p.1<=l.length) (fun(p:Nat×List (List D))=>l.length - p.1) ((0, [])) (by simp <;> rfl) ?_ (by simp) (by simp [Lis.ahC,Lis.runE,eM]) ?_ ?_
 .simp [Lis.runE]
 .simp
 rintro⟨k,J⟩ hk;simp only [aP,aN];dsimp only at hk;have hal:=Lis.ahC_len l k hk;have hrl:=Lis.run_len l k;refine zr q49_3 fun _ _ Z=>?_;simp(disch:=omega)[sP,qK,sF,pE,cG,bZ,cJ,bN,eM,bR,dM];and_intros<;>(try omega);apply Z;apply aF;refine zI ?_ ?_<;>intro c1<;>try simp at c1
 .have hub:∀e∈(Lis.runE l k).1,e<l.length:=fun e he=>by have:=(Lis.run_bd l k).ends e he;omega
  have hup:=Lis.run_up hd hk;obtain⟨n,hn⟩:∃n,Lis.below l (Lis.runE l k).1 l[k]=n:=⟨_,rfl⟩;have hbl:n<=(Lis.runE l k).1.length:=by rw [<- hn];exact Lis.below_le _ _ _
  apply kR;refine zk [1,2,3,4,5,6,7,8,14,15,16] ?_;refine zr q49_3 fun _ _ Z=>?_;simp(disch:=omega)[sP,qK,sF,pE,cG,bZ,cJ,bN,eM,bR,dM,hn];and_intros<;>(try omega);apply Z;refine gW 3 1 (es:=dN (Lis.runE l k).1) rfl (by decide) fun cap rest hcap hcm hrest hk0 hes=>?_;subst hrest;simp only [bI] at hcap |-;rw [rC];refine zk [1,2,3,4,5,6,7,8,14,15,16] ?_;refine zr q49_3 fun _ _ Z=>?_;refine zs 3 fun _ Y=>?_;simp(disch:=omega)[sP,qK,sF,pE,cG,bZ,cJ,bN,eM,bR,dM,hn];and_intros<;>(try omega);apply Y;refine aE fun _ Y=>?_;simp(disch:=omega)[sP,qK,sF,pE,cG,bZ,cJ,bN,eM,bR,dM,hn];refine cB (aTz (σ.length+(J.length+1)) cap (Lis.runE l k).1 _ l[k] l _ hl (by omega) (by simp [qK];rfl) hub hup) ?_;apply Y;simp(disch:=omega)[sP,qK,sF,pE,cG,bZ,cJ,bN,eM,bR,dM,hn];and_intros<;>(try omega);apply Z;refine zk [1,2,3,4,5,6,7,8,14,15,16] ?_;refine zr q49_3 fun _ _ Z=>?_;simp(disch:=omega)[sP,qK,sF,pE,cG,bZ,cJ,bN,eM,bR,dM,hn];and_intros<;>(try omega);apply Z;apply aF;refine zk [1,2,3,4,5,6,7,8,14,15,16] ?_;refine zr q49_3 fun _ _ Z=>?_;simp(disch:=omega)[sP,qK,sF,pE,cG,bZ,cJ,bN,eM,bR,dM,hn];and_intros<;>(try omega);apply Z;refine zI ?_ ?_<;>intro c2<;>try simp at c2
  .have hA:=(Lis.ahC_1 c1 hn (by omega) (by omega)).symm;refine zk [1,2,3,4,5,6,7,8,14,15,16] ?_;refine zt q49_3 fun _ _ Z=>?_;refine zs 8 fun _ Y=>?_;simp(disch:=omega)[sP,qK,sF,pE,cG,bZ,cJ,bN,eM,bR,dM,hn];and_intros<;>(try omega);apply Y;simp(disch:=omega)[sP,qK,sF,pE,cG,bZ,cJ,bN,eM,bR,dM,hn];and_intros<;>(try omega);apply Z;apply gI;apply aS;refine zk [1,2,3,4,5,6,7,8,14,15,16] ?_;refine zr q49_3 fun _ _ Z=>?_;simp(disch:=omega)[sP,qK,sF,pE,cG,bZ,cJ,bN,eM,bR,dM,hn];and_intros<;>(try omega);apply Z;refine zI ?_ ?_<;>intro c3<;>try simp at c3
   .have hE:=Lis.run_new c1 (by omega);refine zk [1,2,3,4,5,6,7,8,14,15,16] ?_;refine zt q49_3 fun _ _ Z=>?_;refine zs 4 fun _ Y=>?_;simp(disch:=omega)[sP,qK,sF,pE,cG,bZ,cJ,bN,eM,bR,dM,hn];refine⟨_,dN (Lis.runE l k).1,⟨rfl,by simp;omega,by simp,Mt _,by rw [rC];exact cD _ _,by simp;omega,by simp;omega⟩,?_⟩;and_intros<;>(try omega);apply Y;simp(disch:=omega)[sP,qK,sF,pE,cG,bZ,cJ,bN,eM,bR,dM,hn];and_intros<;>(try omega);apply Z;apply gQ;apply zB;refine zk [1,2,3,4,5,6,7,8,14,15,16] ?_;refine zt q49_3 fun _ _ Z=>?_;simp(disch:=omega)[sP,qK,sF,pE,cG,bZ,cJ,bN,eM,bR,dM,hn];and_intros<;>(try omega);apply Z;refine eX ((k+1,J++ [[]])) ?_ ?_ (dX rfl ?_ (by simp) (by first | (simp [hA,kS,pE];done) | (simp [hA,kS,pE];rw [aEg _ _ _ _ (by simp;omega)])))
    .omega
    .dsimp only;omega
    simp(disch:=omega)[sP,qK,sF,pE,cG,bZ,cJ,bN,eM,bR,dM,hE,hn]
   have hEn:=hub (Lis.runE l k).1[n] (cN (by omega));refine zk [1,2,3,4,5,6,7,8,14,15,16] ?_;refine zd q49_3 [.op {},.op {},.op {},.op {},.op {},.op {rO:=true},.op {},.op {},.op {},.op {}] fun all hall _ Z=>?_;refine iU 8 fun _ Y=>?_;simp(disch:=omega)[sP,qK,sF,pE,cG,bZ,cJ,bN,eM,bR,dM,hn,hEn];and_intros<;>(try omega);apply Y;simp(disch:=omega)[sP,qK,sF,pE,cG,bZ,cJ,bN,eM,bR,dM,hn,hEn];and_intros<;>(try omega);apply Z;refine zI ?_ ?_<;>intro c4<;>try simp at c4
   .have hE:=Lis.run_set c1 hn (by omega) (hub _ (cN _)) c4;refine zk [1,2,3,4,5,6,7,8,14,15,16] ?_;refine zt q49_3 fun _ _ Z=>?_;simp(disch:=omega)[sP,qK,sF,pE,cG,bZ,cJ,bN,eM,bR,dM];and_intros<;>(try omega);apply Z;apply gQ;apply zB;refine eW 3 1 (σ.length+(J.length+1)) (Lis.runE l k).1.length cap (dN ((Lis.runE l k).1.set n k)) (dN ((Lis.runE l k).1.set n k)++List.replicate (cap - (Lis.runE l k).1.length) .any) rfl (by simp [qK]) (by omega) (by simp;omega) (by simp) (Mt _) (by rw [rC];exact cD _ _) ?_;refine zk [1,2,3,4,5,6,7,8,14,15,16] ?_;refine zt q49_3 fun _ _ Z=>?_;simp(disch:=omega)[sP,qK,sF,pE,cG,bZ,cJ,bN,eM,bR,dM];and_intros<;>(try omega);apply Z;refine eX ((k+1,J++ [[]])) ?_ ?_ (dX rfl ?_ (by simp) (by first | (simp [hA,kS,pE];done) | (simp [hA,kS,pE];rw [aEg _ _ _ _ (by simp;omega)])))
    .omega
    .dsimp only;omega
    simp(disch:=omega)[sP,qK,sF,pE,cG,bZ,cJ,bN,eM,bR,dM,hE]
   have hE:=Lis.run_same c1 hn (by omega) (hub _ (cN _)) (vF.2 c4);apply uY;apply gQ;apply zB;refine eW 3 1 (σ.length+(J.length+1)) (Lis.runE l k).1.length cap (dN (Lis.runE l k).1) (dN (Lis.runE l k).1++List.replicate (cap - (Lis.runE l k).1.length) .any) rfl (by simp [qK]) (by omega) (by simp;omega) (by simp) (Mt _) (by rw [rC];exact cD _ _) ?_;refine zk [1,2,3,4,5,6,7,8,14,15,16] ?_;refine zt q49_3 fun _ _ Z=>?_;simp(disch:=omega)[sP,qK,sF,pE,cG,bZ,cJ,bN,eM,bR,dM];and_intros<;>(try omega);apply Z;refine eX ((k+1,J++ [[]])) ?_ ?_ (dX rfl ?_ (by simp) (by first | (simp [hA,kS,pE];done) | (simp [hA,kS,pE];rw [aEg _ _ _ _ (by simp;omega)])))
   .omega
   .dsimp only;omega
   simp(disch:=omega)[sP,qK,sF,pE,cG,bZ,cJ,bN,eM,bR,dM,hE]
  have hA:=(Lis.ahC_0 c1 (by omega)).symm;apply zA;apply aS;refine zk [1,2,3,4,5,6,7,8,14,15,16] ?_;refine zr q49_3 fun _ _ Z=>?_;simp(disch:=omega)[sP,qK,sF,pE,cG,bZ,cJ,bN,eM,bR,dM];and_intros<;>(try omega);apply Z;refine zI ?_ ?_<;>intro c5<;>try simp at c5
  .have hE:=Lis.run_new c1 (by omega);refine zk [1,2,3,4,5,6,7,8,14,15,16] ?_;refine zt q49_3 fun _ _ Z=>?_;refine zs 4 fun _ Y=>?_;simp(disch:=omega)[sP,qK,sF,pE,cG,bZ,cJ,bN,eM,bR,dM];refine⟨_,dN (Lis.runE l k).1,⟨rfl,by simp;omega,by simp,Mt _,by rw [rC];exact cD _ _,by simp;omega,by simp;omega⟩,?_⟩;and_intros<;>(try omega);apply Y;simp(disch:=omega)[sP,qK,sF,pE,cG,bZ,cJ,bN,eM,bR,dM];and_intros<;>(try omega);apply Z;apply gQ;apply zB;refine zk [1,2,3,4,5,6,7,8,14,15,16] ?_;refine zt q49_3 fun _ _ Z=>?_;simp(disch:=omega)[sP,qK,sF,pE,cG,bZ,cJ,bN,eM,bR,dM];and_intros<;>(try omega);apply Z;refine eX ((k+1,J++ [[]])) ?_ ?_ (dX rfl ?_ (by simp) (by first | (simp [hA,kS,pE];done) | (simp [hA,kS,pE];rw [aEg _ _ _ _ (by simp;omega)])))
   .omega
   .dsimp only;omega
   simp(disch:=omega)[sP,qK,sF,pE,cG,bZ,cJ,bN,eM,bR,dM,hE]
  have hEn:=hub (Lis.runE l k).1[n] (cN (by omega));refine zk [1,2,3,4,5,6,7,8,14,15,16] ?_;refine zd q49_3 [.op {},.op {},.op {},.op {},.op {},.op {rO:=true},.op {},.op {},.op {},.op {}] fun all hall _ Z=>?_;refine iU 8 fun _ Y=>?_;simp(disch:=omega)[sP,qK,sF,pE,cG,bZ,cJ,bN,eM,bR,dM,hEn];and_intros<;>(try omega);apply Y;simp(disch:=omega)[sP,qK,sF,pE,cG,bZ,cJ,bN,eM,bR,dM,hEn];and_intros<;>(try omega);apply Z;refine zI ?_ ?_<;>intro c6<;>try simp at c6
  .have hE:=Lis.run_set c1 hn (by omega) (hub _ (cN _)) c6;refine zk [1,2,3,4,5,6,7,8,14,15,16] ?_;refine zt q49_3 fun _ _ Z=>?_;simp(disch:=omega)[sP,qK,sF,pE,cG,bZ,cJ,bN,eM,bR,dM];and_intros<;>(try omega);apply Z;apply gQ;apply zB;refine eW 3 1 (σ.length+(J.length+1)) (Lis.runE l k).1.length cap (dN ((Lis.runE l k).1.set n k)) (dN ((Lis.runE l k).1.set n k)++List.replicate (cap - (Lis.runE l k).1.length) .any) rfl (by simp [qK]) (by omega) (by simp;omega) (by simp) (Mt _) (by rw [rC];exact cD _ _) ?_;refine zk [1,2,3,4,5,6,7,8,14,15,16] ?_;refine zt q49_3 fun _ _ Z=>?_;simp(disch:=omega)[sP,qK,sF,pE,cG,bZ,cJ,bN,eM,bR,dM];and_intros<;>(try omega);apply Z;refine eX ((k+1,J++ [[]])) ?_ ?_ (dX rfl ?_ (by simp) (by first | (simp [hA,kS,pE];done) | (simp [hA,kS,pE];rw [aEg _ _ _ _ (by simp;omega)])))
   .omega
   .dsimp only;omega
   simp(disch:=omega)[sP,qK,sF,pE,cG,bZ,cJ,bN,eM,bR,dM,hE]
  have hE:=Lis.run_same c1 hn (by omega) (hub _ (cN _)) (vF.2 c6);apply uY;apply gQ;apply zB;refine eW 3 1 (σ.length+(J.length+1)) (Lis.runE l k).1.length cap (dN (Lis.runE l k).1) (dN (Lis.runE l k).1++List.replicate (cap - (Lis.runE l k).1.length) .any) rfl (by simp [qK]) (by omega) (by simp;omega) (by simp) (Mt _) (by rw [rC];exact cD _ _) ?_;refine zk [1,2,3,4,5,6,7,8,14,15,16] ?_;refine zt q49_3 fun _ _ Z=>?_;simp(disch:=omega)[sP,qK,sF,pE,cG,bZ,cJ,bN,eM,bR,dM];and_intros<;>(try omega);apply Z;refine eX ((k+1,J++ [[]])) ?_ ?_ (dX rfl ?_ (by simp) (by first | (simp [hA,kS,pE];done) | (simp [hA,kS,pE];rw [aEg _ _ _ _ (by simp;omega)])))
  .omega
  .dsimp only;omega
  simp(disch:=omega)[sP,qK,sF,pE,cG,bZ,cJ,bN,eM,bR,dM,hE]
 obtain rfl:k=l.length:=by omega
 apply zE;apply aF;refine gW 3 1 (es:=dN (Lis.runE l l.length).1) rfl (by decide) fun cap rest hcap hcm hrest hk0 hes=>?_;subst hrest;simp only [bI] at hcap |-;rw [rC];refine zk [2,3,4] ?_;refine zr q49_3 fun _ _ Z=>?_;simp(disch:=omega)[sP,qK,sF,pE,cG,bZ,cJ,bN,eM,bR,dM];and_intros<;>(try omega);apply Z;refine zI ?_ ?_<;>intro c7<;>try simp at c7
 .refine zr q49_3 fun _ _ Z=>?_;simp(disch:=omega)[sP,qK,sF,pE,cG,bZ,cJ,bN,eM,bR,dM];and_intros<;>(try omega);apply Z;apply aD;simp [aK,wY,Lis.ofP_nil l (by rw [c7];rfl)]
 have hne:0<(Lis.runE l l.length).1.length:=Fj.2 c7;have hne1:(1:Int)<=((Lis.runE l l.length).1.length:Int):=by omega
 obtain⟨W,hW⟩:∃W,Lis.chain (Lis.runE l l.length).2 (l.length+1) (((Lis.runE l l.length).1[(Lis.runE l l.length).1.length - 1]:Nat):Int)=W:=⟨_,rfl⟩;have hlast:=(Lis.run_bd l l.length).ends _ (cN (show(Lis.runE l l.length).1.length - 1<(Lis.runE l l.length).1.length by omega));apply zA;refine zr q49_3 fun _ _ Z=>?_;simp(disch:=omega)[sP,qK,sF,pE,cG,bZ,cJ,bN,eM,bR,dM,hne1];and_intros<;>(try omega);apply Z;apply aF;refine zr q49_3 fun _ _ Z=>?_;simp(disch:=omega)[sP,qK,sF,pE,cG,bZ,cJ,bN,eM,bR,dM,hne1];and_intros<;>(try omega);apply Z;apply aS;refine zk [2,4,9,10] ?_;generalize J++ [_]=J2;refine vW 9 1 rfl ?_;refine aZ (fun(p:List Nat×Int)=> [(9,.d (.xs 1 (dN p.1))),(10,.d (.int p.2))]) [9,10,74,75,76,77,78,79,80,81,82,83] (fun(p:List Nat×Int)=> -1<=p.2/\p.2<l.length/\p.1++Lis.chain (Lis.runE l l.length).2 (l.length+1) p.2=W/\(p.1.length:Int)+p.2+1<=l.length) (fun(p:List Nat×Int)=>(p.2+1).toNat) (([],(((Lis.runE l l.length).1[(Lis.runE l l.length).1.length - 1]:Nat):Int))) (by simp <;> rfl) ?_ ?_ ?_
 .simp
 .exact⟨by dsimp only;omega,by dsimp only;omega,hW,by simp;omega⟩
 rintro⟨pre,c⟩ ⟨hc1,hc2,hch,hcl⟩;simp only [aP,aN];dsimp only at hc1 hc2 hch hcl;apply aF;refine zr q49_3 fun _ _ Z=>?_;simp(disch:=omega)[sP,qK,sF,pE,cG,bZ,cJ,bN,eM,bR,dM,hne1];and_intros<;>(try omega);apply Z;refine zI ?_ ?_<;>intro c8<;>try simp at c8
 .obtain⟨m,rfl⟩:∃m:Nat,c=m:=⟨c.toNat,by omega⟩;have hml:m<(Lis.ahC l l.length).length:=by omega
  have hst:=Lis.chain_step l (show m<l.length by omega) hml;apply kR;refine zt q49_3 fun _ _ Z=>?_;simp(disch:=omega)[sP,qK,sF,pE,cG,bZ,cJ,bN,eM,bR,dM,hne1];and_intros<;>(try omega);apply Z;apply zB;refine zt q49_3 fun _ _ Z=>?_;simp(disch:=omega)[sP,qK,sF,pE,cG,bZ,cJ,bN,eM,bR,dM,hne1];and_intros<;>(try omega);apply Z;refine zq ((pre++ [m],(Lis.ahC l l.length)[m])) ?_ ?_ ?_
  .exact⟨hst.2.1,by have:=hst.2.2;dsimp only;omega,by rw [<- hch,hst.1];simp,by have:=hst.2.2;simp;omega⟩
  .have:=hst.2.2;dsimp only;omega
  simp(disch:=omega)[sP,qK,sF,pE,cG,bZ,cJ,bN,eM,bR,dM,hne1]
 obtain rfl:c= -1:=by omega
 rw [Lis.chain_end,fZ] at hch;subst hch;apply zE;refine gW 9 1 (es:=dN pre) rfl (by decide) fun cap rest hcap hcm hrest hk0 hes=>?_;subst hrest;simp only [bI] at hcap |-;rw [rC];refine zr q49_3 fun _ _ Z=>?_;refine zs 1 fun _ Y=>?_;simp(disch:=omega)[sP,qK,sF,pE,cG,bZ,cJ,bN,eM,bR,dM,hne1];and_intros<;>(try omega);apply Y;refine aE fun _ Y=>?_;simp(disch:=omega)[sP,qK,sF,pE,cG,bZ,cJ,bN,eM,bR,dM,hne1];refine cB (aKg (σ.length+(J2.length+1)) cap pre _ _ (by omega) (by simp [qK];rfl)) ?_;apply Y;simp only [eE];apply Z;refine eW 9 1 (σ.length+(J2.length+1)) pre.length cap (dN pre.reverse) (dN pre.reverse++List.replicate (cap - pre.length) .any) rfl (by simp [qK]) (by omega) (by simp;omega) (by simp) (Mt _) (by rw [rC];exact cD _ _) ?_;refine zr q49_3 fun _ _ Z=>?_;simp(disch:=omega)[sP,qK,sF,pE,cG,bZ,cJ,bN,eM,bR,dM,hne1];and_intros<;>(try omega);apply Z;apply aD;simp [aK,wY,Lis.ofP_ne l hne,hW]
end Go.Proofs.YtbgfljpnhhdkoaaGreat

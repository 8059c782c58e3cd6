import Derived.Test.YtbgfljpnhhdkoaaGreatWkAr5
import Derived.Test.YtbgfljpnhhdkoaaGreatLisBs
import Derived.Test.YtbgfljpnhhdkoaaGreatVmX7
open Go.Proofs.Tryz
namespace Go.Proofs.YtbgfljpnhhdkoaaGreat
open Go Go.Vm
set_option maxRecDepth 20000
set_option linter.all false
set_option maxHeartbeats 8000000
@[simp] abbrev dN(l:List Nat):List D:=l.map fun e:Nat=>D.int (e:Int)
theorem bG(l:List Int)(rest:List D)(i:Nat)(x:Int)(h:i<l.length):List.take i (l.map D.int++rest)++D.v (.int .i64 x)::List.drop (i+1) (l.map D.int++rest)=(l.set i x).map D.int++rest:=by
 have:=cC D.int l rest i x h;simpa using this
theorem eT(a b:Nat):(((a:Int)+(b:Int)) / 2).toNat=(a+b) / 2:=by omega
theorem aW {es:List Nat} {rest:List D} {m:Nat} (h:m<es.length):((es.map fun e:Nat=>D.int (e:Int))++rest)[m]?=some (D.int (es[m]:Nat)):=by
 rw [List.getElem?_append_left (by simpa using h),List.getElem?_map,List.getElem?_eq_getElem h];rfl
theorem uN {l:List Int} {e:Nat} (h:e<l.length):l[e]=Lis.at0 l e:=by unfold Lis.at0;rw [List.getD_eq_getElem?_getD,List.getElem?_eq_getElem h];rfl
theorem Qh(x:Int)(σ:List (List D))  :Ct prog 264 [D.int x] σ (fun r σ'=>r= .bool false∧σ'=σ):=by
 refine zf (rs:=[.tmp 2]) func264 ntmps264 results264 ?_;simp only [aN];refine aY fun _ _ Z=>?_;simp;apply Z;refine aY fun _ _ Z=>?_;simp;apply Z;apply aB;simp [aL]
theorem Kj(a b:Int)(σ:List (List D))  :Ct prog 246 [D.int a,D.int b] σ (fun r σ'=>r= .int (Lis.cmpI a b)∧σ'=σ):=by
 refine zf (rs:=[.tmp 4]) func246 ntmps246 results246 ?_;simp only [aN];refine aY fun _ _ Z=>?_;simp;apply Z;refine aY fun _ _ Z=>?_;refine zs 1 fun _ Y=>?_;simp;apply Y;refine aD fun _ Y=>?_;simp;refine cH (Qh a _) ?_;apply Y;simp;apply Z;refine aY fun _ _ Z=>?_;refine zs 1 fun _ Y=>?_;simp;apply Y;refine aD fun _ Y=>?_;simp;refine cH (Qh b _) ?_;apply Y;simp;apply Z;apply aC;refine aY fun _ _ Z=>?_;simp;apply Z;refine zi ?_;refine⟨fun c1=>?_,fun c1=>?_⟩
 ·simp at c1
 try simp at c1
 apply aE;apply aA;apply aC;refine aY fun _ _ Z=>?_;simp;apply Z;refine zi ?_;refine⟨fun c2=>?_,fun c2=>?_⟩
 ·simp at c2
 try simp at c2
 apply aE;apply aA;apply aC;refine aY fun _ _ Z=>?_;simp;apply Z;refine zi ?_;refine⟨fun c3=>?_,fun c3=>?_⟩
 ·try simp at c3
  refine zk [0,1,4] ?_;refine aY fun _ _ Z=>?_;simp;apply Z;apply aB;apply aJ;simp [aL];unfold Lis.cmpI
  repeat' split
  all_goals omega
 try simp at c3
 apply aE;apply aA;apply aC;refine zk [0,1,4] ?_;refine aY fun _ _ Z=>?_;simp;apply Z;refine zi ?_;refine⟨fun c4=>?_,fun c4=>?_⟩
 ·try simp at c4
  refine aY fun _ _ Z=>?_;simp;apply Z;apply aB;apply aJ;simp [aL];unfold Lis.cmpI
  repeat' split
  all_goals omega
 try simp at c4
 apply aE;apply aA;refine aY fun _ _ Z=>?_;simp;apply Z;apply aB;simp [aL];unfold Lis.cmpI
 repeat' split
 all_goals omega
theorem Ph(l:List Int)(e:Nat)(x:Int)(σ:List (List D))(hl:l.length≤1000000)(he:e<l.length):Ct prog 245 [D.int e,D.int x,.adr [.sl false (l.map D.int)]] σ (fun r σ'=>r= .int (Lis.cmpI l[e] x)∧σ'=σ):=by
 refine zf (rs:=[.tmp 5]) func245 ntmps245 results245 ?_;simp only [aN];refine aY fun _ _ Z=>?_;simp(disch:=omega);apply Z;refine aY fun _ _ Z=>?_;refine zs 5 fun _ Y=>?_;simp(disch:=omega);and_intros<;>(try omega);apply Y;refine aD fun _ Y=>?_;simp(disch:=omega);refine cH (Kj l[e] x _) ?_;apply Y;simp(disch:=omega);apply Z;apply aB;simp [aL]
@[simp] abbrev qWv21:Cfg:=⟨[],[],[],[13,27,43],[]⟩
theorem aIc(N cap:Nat)(es:List Nat)(rest:List D)(x:Int)(l:List Int)(σ:List (List D))(hl:l.length≤1000000)(hn:es.length≤1000000)(hN:σ[N]?=some (dN es++rest))(hb:∀e∈es,e<l.length)(hs:Lis.Up l es):Ct prog 244 [.slo N 0 es.length cap,D.int x,.clo (.func 245) [] [.adr [.sl false (l.map D.int)]]] σ (fun r σ'=>r= .tup [.int ((Lis.below l es x:Nat):Int),.bool (Lis.fndI l es x)]∧σ'=σ):=by
 refine zf (rs:=[.tmp 6,.tmp 7]) func244 ntmps244 results244 ?_;simp only [aN];refine zr qWv21 fun _ _ Z=>?_;simp(disch:=omega)[hN,bR,eT,aW,bQ];apply Z;refine zr qWv21 fun _ _ Z=>?_;simp(disch:=omega)[hN,bR,eT,aW,bQ];and_intros<;>(try omega);apply Z;refine zr qWv21 fun _ _ Z=>?_;simp(disch:=omega)[hN,bR,eT,aW,bQ];apply Z;apply aC;apply aG;refine zk [0,1,2,6,7,8,9,10] ?_;refine bI (fun(s:Nat×Nat)=> [(9,.d (.v (.int .i64 (s.1:Int)))),(10,.d (.v (.int .i64 (s.2:Int)))),(11,.d (.any))]) [9,10,11,15,16,17,18,19,20,21,22,23,24,25,26,27,28,29,30,31,32,33,34] (fun(s:Nat×Nat)=>s.1≤s.2∧s.2≤es.length∧(∀j (h:j<es.length),j<s.1→Lis.at0 l es[j]<x)∧(∀j (h:j<es.length),s.2≤j→¬Lis.at0 l es[j]<x)) (fun(s:Nat×Nat)=>s.2 - s.1) ((0,es.length)) (by simp <;> rfl) ?_ ?_ ?_
 ·simp
 ·exact⟨by omega,by omega,fun j h h2=>absurd h2 (by simp),fun j h h2=>absurd h2 (by simp;omega)⟩
 rintro⟨lo,hi⟩ ⟨h1,h2,h3,h4⟩;simp only [List.cons_append,List.nil_append];dsimp only at h1 h2 h3 h4;have hmid:lo<hi→(lo+hi) / 2<hi:=fun h=>by omega
 apply aC;refine zr qWv21 fun _ _ Z=>?_;simp(disch:=omega)[hN,bR,eT,aW,bQ];apply Z;refine zi ?_;refine⟨fun c1=>?_,fun c1=>?_⟩
 ·try simp at c1
  apply aE;apply aA;apply aG;refine zk [0,1,2,6,7,8,9,10,11] ?_;refine zr qWv21 fun _ _ Z=>?_;simp(disch:=omega)[hN,bR,eT,aW,bQ];and_intros<;>(try omega);apply Z;refine zk [0,1,2,6,7,8,9,10,11] ?_;refine zr qWv21 fun _ _ Z=>?_;refine zs 6 fun _ Y=>?_;simp(disch:=omega)[hN,bR,eT,aW,bQ];and_intros<;>(try omega);apply Y;refine aD fun _ Y=>?_;simp(disch:=omega)[hN,bR,eT,aW,bQ];refine cH (Ph l es[(lo+hi) / 2] x _ hl (hb _ (List.getElem_mem (by omega)))) ?_;apply Y;simp(disch:=omega)[hN,bR,eT,aW,bQ];apply Z;refine zi ?_;refine⟨fun c2=>?_,fun c2=>?_⟩
  ·try simp at c2
   refine zk [0,1,2,6,7,8,9,10,11] ?_;refine zt qWv21 fun _ _ Z=>?_;simp(disch:=omega)[hN,bR,eT,aW,bQ];and_intros<;>(try omega);apply Z;apply aK;refine zq (((lo+hi) / 2+1,hi)) ?_ ?_ ?_
   ·exact⟨by dsimp only;omega,by dsimp only;omega,Lis.bsI_lo hs (by omega) (by rw [← uN (hb _ (List.getElem_mem (by omega)))];exact Lis.cmpI_neg.1 c2),h4⟩
   ·try dsimp only
    omega
   simp(disch:=omega)[hN,bR,eT,aW,bQ]
  try simp at c2
  refine zk [0,1,2,6,7,8,9,10,11] ?_;refine zt qWv21 fun _ _ Z=>?_;simp(disch:=omega)[hN,bR,eT,aW,bQ];apply Z;apply aK;refine zq ((lo,(lo+hi) / 2)) ?_ ?_ ?_
  ·exact⟨by dsimp only;omega,by dsimp only;omega,h3,Lis.bsI_hi hs (by omega) (by rw [← uN (hb _ (List.getElem_mem (by omega)))];exact fun h=>absurd (Lis.cmpI_neg.2 h) (Int.not_lt.2 c2))⟩
  ·try dsimp only
   omega
  simp(disch:=omega)[hN,bR,eT,aW,bQ]
 try simp at c1
 obtain rfl:lo=hi:=by omega
 have hpos:Lis.below l es x=lo:=Lis.below_of h2 h3 (fun h=>h4 lo h (Nat.le_refl _));apply bC;apply bB;apply bD;apply aX;apply aA;refine zk [0,1,2,6,7,8,9] ?_;refine mY qWv21 fun all hall _ Z=>?_;have ga4:aR all 4=some 39:=hall 4;refine zs 5 fun _ Y=>?_;simp(disch:=omega)[hN,bR,eT,aW,bQ,ga4];apply Y;refine aU 39 (by simp <;> rfl) ?_;refine⟨fun g3=>?_,fun g3=>?_⟩
 ·try simp at g3
  refine zs 6 fun _ Y=>?_;simp(disch:=omega)[hN,bR,eT,aW,bQ,ga4];and_intros<;>(try omega);apply Y;refine zg ga4 fun _ Y=>?_;simp(disch:=omega)[hN,bR,eT,aW,bQ,ga4];refine cH (Ph l es[lo] x _ hl (hb _ (List.getElem_mem (by omega)))) ?_;apply Y;simp(disch:=omega)[hN,bR,eT,aW,bQ,ga4];apply Z;apply aB;simp [aL,hpos,Lis.fndI, *];rw [uN (hb _ (List.getElem_mem (by omega)))];exact Lis.cmpI_zero
 try simp at g3
 refine zs 8 fun _ Y=>?_;simp(disch:=omega)[hN,bR,eT,aW,bQ,ga4];and_intros<;>(try omega);apply Y;simp(disch:=omega)[hN,bR,eT,aW,bQ,ga4];apply Z;apply aB;simp [aL,hpos,Lis.fndI, *];intro h;omega
@[simp] abbrev qWv22:Cfg:=⟨[],[],[],[5,20,24,26,27],[]⟩
theorem aDn(N cap:Nat)(l:List Int)(rest:List D)(σ:List (List D))(hl:l.length≤1000000)(hN:σ[N]?=some (l.map D.int++rest)):Ct prog 247 [.slo N 0 l.length cap] σ (fun r σ'=>r= .tup []∧σ'=σ.set N (l.reverse.map D.int++rest)):=by
 refine zf (rs:=[]) func247 ntmps247 results247 ?_;simp only [aN];refine zr qWv22 fun _ _ Z=>?_;simp(disch:=omega)[hN,aI,aS,cC];and_intros<;>(try omega);apply Z;apply aG;refine zk [0,2,3] ?_;refine jR (fun(k:Nat)=> [(2,.d (.v (.int .i64 (k:Int)))),(3,.d (.int ((l.length:Int) - 1 - k)))]) (fun(k:Nat)=> []) (fun(k:Nat)=>σ.set N ((Lis.revK l k).map D.int++rest)) [2,3,7,8,9,10,11,12,13,14,15,16,17,18,19,20,21,22,23,24,25,26,27] (fun(k:Nat)=>2 * k≤l.length+1) (fun(k:Nat)=>l.length - 2 * k) (0) (by simp <;> rfl) ?_ (by simp) (by simp [Lis.revK_zero,kA hN]) ?_ ?_
 ·simp
 ·omega
 rintro k hk;simp only [List.cons_append,List.nil_append];have hrl:=Lis.revK_len l k;apply aC;refine zr qWv22 fun _ _ Z=>?_;simp(disch:=omega)[hN,aI,aS,cC];apply Z;refine zi ?_;refine⟨fun c1=>?_,fun c1=>?_⟩
 ·try simp at c1
  apply aE;apply aA;apply aC;apply aG;refine zk [0,2,3] ?_;refine ze qWv22 [.op {},.op {},.op {},.op {},.op {},.op {},.op {},.op {rO:=true},.op {},.op {},.op {},.op {rO:=true},.op {},.op {rO:=true,wO:=true},.op {},.op {rO:=true,wO:=true}] fun all hall _ Z=>?_;refine jD 8 fun _ Y=>?_;simp(disch:=omega)[hN,aI,aS,cC];and_intros<;>(try omega);apply Y;simp(disch:=omega)[hN,aI,aS,cC];and_intros<;>(try omega);apply Z;apply aK;apply aA;refine zk [0,2,3] ?_;refine zt qWv22 fun _ _ Z=>?_;simp(disch:=omega)[hN,aI,aS,cC];and_intros<;>(try omega);apply Z;refine dU (k+1) ?_ ?_ (dD rfl ?_ (by simp) (by rw [bG _ _ _ _ (by omega),bG _ _ _ _ (by simp;omega),Lis.revK_next l k (by omega) _ _ (by rw [List.getElem?_eq_getElem (by omega)];rfl) (by rw [List.getElem?_eq_getElem (by omega)];rfl)];rfl))
  ·omega
  ·omega
  simp(disch:=omega)[hN,aI,aS,cC,(by omega:(l.length:Int) - 1 - k - 1=(l.length:Int) - 1 - (k+1))]
 try simp at c1
 apply bC;apply bB;apply bD;apply aX;rw [Lis.revK_end l k (by omega)];simp [aL]
theorem aCl(N cap:Nat)(l:List Nat)(rest:List D)(σ:List (List D))(hl:l.length≤1000000)(hN:σ[N]?=some (dN l++rest)):Ct prog 247 [.slo N 0 l.length cap] σ (fun r σ'=>r= .tup []∧σ'=σ.set N (dN l.reverse++rest)):=by
 have h:=aDn N cap (l.map fun e:Nat=>(e:Int)) rest σ (by simpa using hl) (by rw [hN];simp);simpa [Function.comp_def] using h
theorem bK(l:List Nat)(rest:List D)(i:Nat)(x:Nat)(h:i<l.length):List.take i ((l.map fun e:Nat=>D.int (e:Int))++rest)++D.v (.int .i64 x)::List.drop (i+1) ((l.map fun e:Nat=>D.int (e:Int))++rest)=((l.set i x).map fun e:Nat=>D.int (e:Int))++rest:=by
 have:=cC (fun e:Nat=>D.int (e:Int)) l rest i x h;simpa using this
theorem bJ(l:List Int)(i:Nat)(x:Int)(h:i<l.length):List.take i (l.map D.int)++D.v (.int .i64 x)::List.drop (i+1) (l.map D.int)=(l.set i x).map D.int:=by
 have:=bG l [] i x h;simpa using this
theorem cT(n:Nat):eZ #[.int .i64 0] n=(List.replicate n (0:Int)).map D.int:=by
 unfold eZ;induction n with
 | zero=>rfl
 | succ n ih=>rw [List.replicate_succ,List.flatten_cons,ih,List.replicate_succ,List.map_cons];rfl
theorem zB(l:List Nat):∀y∈dN l,y.ncells=1∧y.arr=true:=gQ (d:=fun e:Nat=>D.int (e:Int)) (fun _=>⟨rfl,rfl⟩) l
theorem cD(a b:Nat):(a+b<a)=False:=by simp
theorem mA(σ:List (List D))(A:List D)(X:List (List D)):(σ++A::X)[σ.length]?=some A:=by simp
theorem kN(σ:List (List D))(A R:List D)(J:List (List D)):(σ++A::(J++ [R]))[σ.length+(J.length+1)]?=some R:=by simp [List.getElem?_append]
theorem mG(σ:List (List D))(A B:List D)(X:List (List D)):(σ++A::X).set σ.length B=σ++B::X:=by simp [List.set_append]
theorem jX(σ:List (List D))(A R S:List D)(J:List (List D)):(σ++A::(J++ [R])).set (σ.length+(J.length+1)) S=σ++A::(J++ [S]):=by simp [List.set_append]
theorem Rq(X:List D)(i:Nat)(y v:D)(h:i<X.length):List.take i (X.set i y)++v::List.drop (i+1) (X.set i y)=X.set i v:=by
 apply List.ext_getElem?;intro j;rw [List.getElem?_set];by_cases e:i=j
 ·subst e;rw [if_pos rfl,if_pos h,List.getElem?_append_right (by simp;omega)];simp [Nat.min_eq_left (Nat.le_of_lt h)]
 rw [if_neg e];by_cases e2:j<i
 ·rw [List.getElem?_append_left (by simp;omega),List.getElem?_take,if_pos e2,List.getElem?_set,if_neg e]
 rw [List.getElem?_append_right (by simp;omega)];simp only [List.length_take,List.length_set,Nat.min_eq_left (Nat.le_of_lt h)];obtain⟨d,rfl⟩:∃d,j=i+1+d:=⟨j - i - 1,by omega⟩;rw [show i+1+d - i=d+1 by omega,List.getElem?_cons_succ,List.getElem?_drop,List.getElem?_set,if_neg (by omega)]
theorem cG(k:IntKind)(n:Int):(Value.int k n).oneCell'=true:=rfl
theorem kT(l:List Nat):(dN l).flatMap D.cells=dN l:=eO (f:=fun e:Nat=>D.int (e:Int)) (fun _=>rfl) l
@[simp] abbrev qWv23:Cfg:=⟨[2,3,9,46,80,86],[1],[],[30,38,40,44,49,55,63,66,70,72,78,83],[13]⟩
theorem Sk(l:List Int)(σ:List (List D))(hl:l.length≤1000000)(hd:Lis.Dis l):Ct prog 210 [.sl false (l.map D.int)] σ (fun r σ'=>pK 1 (dN (Lis.ofP l)) r∧∃J,σ'=σ++J):=by
 refine zf (rs:=[.tmp 2]) func210 ntmps210 results210 ?_;simp only [aN];refine zr qWv23 fun _ _ Z=>?_;simp(disch:=omega)[mA,kN,mG,jX,bJ,bG,bK,aW,cT,cG,cD];and_intros<;>(try omega);apply Z;refine zr qWv23 fun _ _ Z=>?_;simp(disch:=omega)[mA,kN,mG,jX,bJ,bG,bK,aW,cT,cG,cD];and_intros<;>(try omega);apply Z;refine zr qWv23 fun _ _ Z=>?_;simp(disch:=omega)[mA,kN,mG,jX,bJ,bG,bK,aW,cT,cG,cD];and_intros<;>(try omega);apply Z;apply aC;refine zr qWv23 fun _ _ Z=>?_;simp(disch:=omega)[mA,kN,mG,jX,bJ,bG,bK,aW,cT,cG,cD];and_intros<;>(try omega);apply Z;apply aG;refine zk [1,2,3,4,14,15,16] ?_;refine uM 3 1 rfl ?_;refine jR (fun(p:Nat×List (List D))=> [(16,.d (.v (.int .i64 (p.1:Int)))),(3,.d (.xs 1 (dN (Lis.runE l p.1).1))),(5,.d (.any)),(6,.d (.any)),(7,.d (.any)),(8,.d (.any))]) (fun(p:Nat×List (List D))=> []) (fun(p:Nat×List (List D))=>σ++((Lis.ahC l p.1).map D.int::p.2)) [3,5,6,7,8,16,17,18,19,20,21,22,23,24,25,26,27,28,29,30,31,32,33,34,35,36,37,38,39,40,41,42,43,44,45,46,47,48,49,50,51,52,53,54,55,56,57,58,59,60,61,62,63,64] (fun(p:Nat×List (List D))=>p.1≤l.length) (fun(p:Nat×List (List D))=>l.length - p.1) ((0, [])) (by simp <;> rfl) ?_ (by simp) (by simp [Lis.ahC,Lis.runE,cT]) ?_ ?_
 ·simp [Lis.runE]
 ·simp
 rintro⟨k,J⟩ hk;simp only [List.cons_append,List.nil_append];dsimp only at hk;have hal:=Lis.ahC_len l k hk;have hrl:=Lis.run_len l k;refine zr qWv23 fun _ _ Z=>?_;simp(disch:=omega)[mA,kN,mG,jX,bJ,bG,bK,aW,cT,cG,cD];and_intros<;>(try omega);apply Z;apply aC;refine zi ?_;refine⟨fun c1=>?_,fun c1=>?_⟩
 ·try simp at c1
  have hub:∀e∈(Lis.runE l k).1,e<l.length:=fun e he=>by have:=(Lis.run_bd l k).ends e he;omega
  have hup:=Lis.run_up hd hk;obtain⟨n,hn⟩:∃n,Lis.below l (Lis.runE l k).1 l[k]=n:=⟨_,rfl⟩;have hbl:n≤(Lis.runE l k).1.length:=by rw [← hn];exact Lis.below_le _ _ _
  apply aE;apply aA;apply aC;apply aG;refine zk [1,2,3,4,5,6,7,8,14,15,16] ?_;refine zr qWv23 fun _ _ Z=>?_;simp(disch:=omega)[mA,kN,mG,jX,bJ,bG,bK,aW,cT,cG,cD,hn];and_intros<;>(try omega);apply Z;refine gE 3 1 (es:=dN (Lis.runE l k).1) rfl (by decide) fun cap rest hcap hcm hrest hk0 hes=>?_;subst hrest;simp only [List.length_map] at hcap ⊢;rw [kT];refine zk [1,2,3,4,5,6,7,8,14,15,16] ?_;refine zr qWv23 fun _ _ Z=>?_;refine zs 3 fun _ Y=>?_;simp(disch:=omega)[mA,kN,mG,jX,bJ,bG,bK,aW,cT,cG,cD,hn];and_intros<;>(try omega);apply Y;refine aD fun _ Y=>?_;simp(disch:=omega)[mA,kN,mG,jX,bJ,bG,bK,aW,cT,cG,cD,hn];refine cH (aIc (σ.length+(J.length+1)) cap (Lis.runE l k).1 _ l[k] l _ hl (by omega) (by simp [kN];rfl) hub hup) ?_;apply Y;simp(disch:=omega)[mA,kN,mG,jX,bJ,bG,bK,aW,cT,cG,cD,hn];and_intros<;>(try omega);apply Z;refine zk [1,2,3,4,5,6,7,8,14,15,16] ?_;refine zr qWv23 fun _ _ Z=>?_;simp(disch:=omega)[mA,kN,mG,jX,bJ,bG,bK,aW,cT,cG,cD,hn];and_intros<;>(try omega);apply Z;apply aC;refine zk [1,2,3,4,5,6,7,8,14,15,16] ?_;refine zr qWv23 fun _ _ Z=>?_;simp(disch:=omega)[mA,kN,mG,jX,bJ,bG,bK,aW,cT,cG,cD,hn];and_intros<;>(try omega);apply Z;refine zi ?_;refine⟨fun c2=>?_,fun c2=>?_⟩
  ·try simp at c2
   have hA:=(Lis.ahC_1 c1 hn (by omega) (by omega)).symm;refine zk [1,2,3,4,5,6,7,8,14,15,16] ?_;refine zt qWv23 fun _ _ Z=>?_;refine zs 8 fun _ Y=>?_;simp(disch:=omega)[mA,kN,mG,jX,bJ,bG,bK,aW,cT,cG,cD,hn];and_intros<;>(try omega);apply Y;simp(disch:=omega)[mA,kN,mG,jX,bJ,bG,bK,aW,cT,cG,cD,hn];and_intros<;>(try omega);apply Z;apply aA;apply aG;refine zk [1,2,3,4,5,6,7,8,14,15,16] ?_;refine zr qWv23 fun _ _ Z=>?_;simp(disch:=omega)[mA,kN,mG,jX,bJ,bG,bK,aW,cT,cG,cD,hn];and_intros<;>(try omega);apply Z;refine zi ?_;refine⟨fun c3=>?_,fun c3=>?_⟩
   ·try simp at c3
    have hE:=Lis.run_new c1 (by omega);refine zk [1,2,3,4,5,6,7,8,14,15,16] ?_;refine zt qWv23 fun _ _ Z=>?_;refine zs 4 fun _ Y=>?_;simp(disch:=omega)[mA,kN,mG,jX,bJ,bG,bK,aW,cT,cG,cD,hn];refine⟨_,dN (Lis.runE l k).1,⟨rfl,by simp;omega,by simp,zB _,by rw [kT];exact List.prefix_append _ _,by simp;omega,by simp;omega⟩,?_⟩;and_intros<;>(try omega);apply Y;simp(disch:=omega)[mA,kN,mG,jX,bJ,bG,bK,aW,cT,cG,cD,hn];and_intros<;>(try omega);apply Z;apply aK;apply aK;apply aA;refine zk [1,2,3,4,5,6,7,8,14,15,16] ?_;refine zt qWv23 fun _ _ Z=>?_;simp(disch:=omega)[mA,kN,mG,jX,bJ,bG,bK,aW,cT,cG,cD,hn];and_intros<;>(try omega);apply Z;refine dU ((k+1,J++ [[]])) ?_ ?_ (dD rfl ?_ (by simp) (by first | (simp [hA,List.map_set,jX];done) | (simp [hA,List.map_set,jX];rw [Rq _ _ _ _ (by simp;omega)])))
    ·omega
    ·dsimp only;omega
    simp(disch:=omega)[mA,kN,mG,jX,bJ,bG,bK,aW,cT,cG,cD,hE,hn]
   try simp at c3
   have hEn:=hub (Lis.runE l k).1[n] (List.getElem_mem (by omega));refine zk [1,2,3,4,5,6,7,8,14,15,16] ?_;refine zd qWv23 [.op {},.op {},.op {},.op {},.op {},.op {rO:=true},.op {},.op {},.op {},.op {}] fun all hall _ Z=>?_;refine jD 8 fun _ Y=>?_;simp(disch:=omega)[mA,kN,mG,jX,bJ,bG,bK,aW,cT,cG,cD,hn,hEn];and_intros<;>(try omega);apply Y;simp(disch:=omega)[mA,kN,mG,jX,bJ,bG,bK,aW,cT,cG,cD,hn,hEn];and_intros<;>(try omega);apply Z;refine zi ?_;refine⟨fun c4=>?_,fun c4=>?_⟩
   ·try simp at c4
    have hE:=Lis.run_set c1 hn (by omega) (hub _ (List.getElem_mem _)) c4;refine zk [1,2,3,4,5,6,7,8,14,15,16] ?_;refine zt qWv23 fun _ _ Z=>?_;simp(disch:=omega)[mA,kN,mG,jX,bJ,bG,bK,aW,cT,cG,cD];and_intros<;>(try omega);apply Z;apply aK;apply aK;apply aA;refine cV 3 1 (σ.length+(J.length+1)) (Lis.runE l k).1.length cap (dN ((Lis.runE l k).1.set n k)) (dN ((Lis.runE l k).1.set n k)++List.replicate (cap - (Lis.runE l k).1.length) .any) rfl (by simp [kN]) (by omega) (by simp;omega) (by simp) (zB _) (by rw [kT];exact List.prefix_append _ _) ?_;refine zk [1,2,3,4,5,6,7,8,14,15,16] ?_;refine zt qWv23 fun _ _ Z=>?_;simp(disch:=omega)[mA,kN,mG,jX,bJ,bG,bK,aW,cT,cG,cD];and_intros<;>(try omega);apply Z;refine dU ((k+1,J++ [[]])) ?_ ?_ (dD rfl ?_ (by simp) (by first | (simp [hA,List.map_set,jX];done) | (simp [hA,List.map_set,jX];rw [Rq _ _ _ _ (by simp;omega)])))
    ·omega
    ·dsimp only;omega
    simp(disch:=omega)[mA,kN,mG,jX,bJ,bG,bK,aW,cT,cG,cD,hE]
   try simp at c4
   have hE:=Lis.run_same c1 hn (by omega) (hub _ (List.getElem_mem _)) (Int.not_lt.2 c4);apply aE;apply aK;apply aK;apply aA;refine cV 3 1 (σ.length+(J.length+1)) (Lis.runE l k).1.length cap (dN (Lis.runE l k).1) (dN (Lis.runE l k).1++List.replicate (cap - (Lis.runE l k).1.length) .any) rfl (by simp [kN]) (by omega) (by simp;omega) (by simp) (zB _) (by rw [kT];exact List.prefix_append _ _) ?_;refine zk [1,2,3,4,5,6,7,8,14,15,16] ?_;refine zt qWv23 fun _ _ Z=>?_;simp(disch:=omega)[mA,kN,mG,jX,bJ,bG,bK,aW,cT,cG,cD];and_intros<;>(try omega);apply Z;refine dU ((k+1,J++ [[]])) ?_ ?_ (dD rfl ?_ (by simp) (by first | (simp [hA,List.map_set,jX];done) | (simp [hA,List.map_set,jX];rw [Rq _ _ _ _ (by simp;omega)])))
   ·omega
   ·dsimp only;omega
   simp(disch:=omega)[mA,kN,mG,jX,bJ,bG,bK,aW,cT,cG,cD,hE]
  try simp at c2
  have hA:=(Lis.ahC_0 c1 (by omega)).symm;apply aE;apply aA;apply aG;refine zk [1,2,3,4,5,6,7,8,14,15,16] ?_;refine zr qWv23 fun _ _ Z=>?_;simp(disch:=omega)[mA,kN,mG,jX,bJ,bG,bK,aW,cT,cG,cD];and_intros<;>(try omega);apply Z;refine zi ?_;refine⟨fun c5=>?_,fun c5=>?_⟩
  ·try simp at c5
   have hE:=Lis.run_new c1 (by omega);refine zk [1,2,3,4,5,6,7,8,14,15,16] ?_;refine zt qWv23 fun _ _ Z=>?_;refine zs 4 fun _ Y=>?_;simp(disch:=omega)[mA,kN,mG,jX,bJ,bG,bK,aW,cT,cG,cD];refine⟨_,dN (Lis.runE l k).1,⟨rfl,by simp;omega,by simp,zB _,by rw [kT];exact List.prefix_append _ _,by simp;omega,by simp;omega⟩,?_⟩;and_intros<;>(try omega);apply Y;simp(disch:=omega)[mA,kN,mG,jX,bJ,bG,bK,aW,cT,cG,cD];and_intros<;>(try omega);apply Z;apply aK;apply aK;apply aA;refine zk [1,2,3,4,5,6,7,8,14,15,16] ?_;refine zt qWv23 fun _ _ Z=>?_;simp(disch:=omega)[mA,kN,mG,jX,bJ,bG,bK,aW,cT,cG,cD];and_intros<;>(try omega);apply Z;refine dU ((k+1,J++ [[]])) ?_ ?_ (dD rfl ?_ (by simp) (by first | (simp [hA,List.map_set,jX];done) | (simp [hA,List.map_set,jX];rw [Rq _ _ _ _ (by simp;omega)])))
   ·omega
   ·dsimp only;omega
   simp(disch:=omega)[mA,kN,mG,jX,bJ,bG,bK,aW,cT,cG,cD,hE]
  try simp at c5
  have hEn:=hub (Lis.runE l k).1[n] (List.getElem_mem (by omega));refine zk [1,2,3,4,5,6,7,8,14,15,16] ?_;refine zd qWv23 [.op {},.op {},.op {},.op {},.op {},.op {rO:=true},.op {},.op {},.op {},.op {}] fun all hall _ Z=>?_;refine jD 8 fun _ Y=>?_;simp(disch:=omega)[mA,kN,mG,jX,bJ,bG,bK,aW,cT,cG,cD,hEn];and_intros<;>(try omega);apply Y;simp(disch:=omega)[mA,kN,mG,jX,bJ,bG,bK,aW,cT,cG,cD,hEn];and_intros<;>(try omega);apply Z;refine zi ?_;refine⟨fun c6=>?_,fun c6=>?_⟩
  ·try simp at c6
   have hE:=Lis.run_set c1 hn (by omega) (hub _ (List.getElem_mem _)) c6;refine zk [1,2,3,4,5,6,7,8,14,15,16] ?_;refine zt qWv23 fun _ _ Z=>?_;simp(disch:=omega)[mA,kN,mG,jX,bJ,bG,bK,aW,cT,cG,cD];and_intros<;>(try omega);apply Z;apply aK;apply aK;apply aA;refine cV 3 1 (σ.length+(J.length+1)) (Lis.runE l k).1.length cap (dN ((Lis.runE l k).1.set n k)) (dN ((Lis.runE l k).1.set n k)++List.replicate (cap - (Lis.runE l k).1.length) .any) rfl (by simp [kN]) (by omega) (by simp;omega) (by simp) (zB _) (by rw [kT];exact List.prefix_append _ _) ?_;refine zk [1,2,3,4,5,6,7,8,14,15,16] ?_;refine zt qWv23 fun _ _ Z=>?_;simp(disch:=omega)[mA,kN,mG,jX,bJ,bG,bK,aW,cT,cG,cD];and_intros<;>(try omega);apply Z;refine dU ((k+1,J++ [[]])) ?_ ?_ (dD rfl ?_ (by simp) (by first | (simp [hA,List.map_set,jX];done) | (simp [hA,List.map_set,jX];rw [Rq _ _ _ _ (by simp;omega)])))
   ·omega
   ·dsimp only;omega
   simp(disch:=omega)[mA,kN,mG,jX,bJ,bG,bK,aW,cT,cG,cD,hE]
  try simp at c6
  have hE:=Lis.run_same c1 hn (by omega) (hub _ (List.getElem_mem _)) (Int.not_lt.2 c6);apply aE;apply aK;apply aK;apply aA;refine cV 3 1 (σ.length+(J.length+1)) (Lis.runE l k).1.length cap (dN (Lis.runE l k).1) (dN (Lis.runE l k).1++List.replicate (cap - (Lis.runE l k).1.length) .any) rfl (by simp [kN]) (by omega) (by simp;omega) (by simp) (zB _) (by rw [kT];exact List.prefix_append _ _) ?_;refine zk [1,2,3,4,5,6,7,8,14,15,16] ?_;refine zt qWv23 fun _ _ Z=>?_;simp(disch:=omega)[mA,kN,mG,jX,bJ,bG,bK,aW,cT,cG,cD];and_intros<;>(try omega);apply Z;refine dU ((k+1,J++ [[]])) ?_ ?_ (dD rfl ?_ (by simp) (by first | (simp [hA,List.map_set,jX];done) | (simp [hA,List.map_set,jX];rw [Rq _ _ _ _ (by simp;omega)])))
  ·omega
  ·dsimp only;omega
  simp(disch:=omega)[mA,kN,mG,jX,bJ,bG,bK,aW,cT,cG,cD,hE]
 try simp at c1
 obtain rfl:k=l.length:=by omega
 apply bC;apply bB;apply bD;apply aX;apply aA;apply aC;refine gE 3 1 (es:=dN (Lis.runE l l.length).1) rfl (by decide) fun cap rest hcap hcm hrest hk0 hes=>?_;subst hrest;simp only [List.length_map] at hcap ⊢;rw [kT];refine zk [2,3,4] ?_;refine zr qWv23 fun _ _ Z=>?_;simp(disch:=omega)[mA,kN,mG,jX,bJ,bG,bK,aW,cT,cG,cD];and_intros<;>(try omega);apply Z;refine zi ?_;refine⟨fun c7=>?_,fun c7=>?_⟩
 ·try simp at c7
  refine zr qWv23 fun _ _ Z=>?_;simp(disch:=omega)[mA,kN,mG,jX,bJ,bG,bK,aW,cT,cG,cD];and_intros<;>(try omega);apply Z;apply aB;apply aJ;simp [aL,pK,Lis.ofP_nil l (by rw [c7];rfl)]
 try simp at c7
 have hne:0<(Lis.runE l l.length).1.length:=List.length_pos_iff.2 c7;have hne1:(1:Int)≤((Lis.runE l l.length).1.length:Int):=by omega
 obtain⟨W,hW⟩:∃W,Lis.chain (Lis.runE l l.length).2 (l.length+1) (((Lis.runE l l.length).1[(Lis.runE l l.length).1.length - 1]:Nat):Int)=W:=⟨_,rfl⟩;have hlast:=(Lis.run_bd l l.length).ends _ (List.getElem_mem (show(Lis.runE l l.length).1.length - 1<(Lis.runE l l.length).1.length by omega));apply aE;apply aA;refine zr qWv23 fun _ _ Z=>?_;simp(disch:=omega)[mA,kN,mG,jX,bJ,bG,bK,aW,cT,cG,cD,hne1];and_intros<;>(try omega);apply Z;apply aC;refine zr qWv23 fun _ _ Z=>?_;simp(disch:=omega)[mA,kN,mG,jX,bJ,bG,bK,aW,cT,cG,cD,hne1];and_intros<;>(try omega);apply Z;apply aG;refine zk [2,4,9,10] ?_;generalize J++ [_]=J2;refine uM 9 1 rfl ?_;refine bI (fun(p:List Nat×Int)=> [(9,.d (.xs 1 (dN p.1))),(10,.d (.int p.2))]) [9,10,74,75,76,77,78,79,80,81,82,83] (fun(p:List Nat×Int)=> -1≤p.2∧p.2<l.length∧p.1++Lis.chain (Lis.runE l l.length).2 (l.length+1) p.2=W∧(p.1.length:Int)+p.2+1≤l.length) (fun(p:List Nat×Int)=>(p.2+1).toNat) (([],(((Lis.runE l l.length).1[(Lis.runE l l.length).1.length - 1]:Nat):Int))) (by simp <;> rfl) ?_ ?_ ?_
 ·simp
 ·exact⟨by dsimp only;omega,by dsimp only;omega,hW,by simp;omega⟩
 rintro⟨pre,c⟩ ⟨hc1,hc2,hch,hcl⟩;simp only [List.cons_append,List.nil_append];dsimp only at hc1 hc2 hch hcl;apply aC;refine zr qWv23 fun _ _ Z=>?_;simp(disch:=omega)[mA,kN,mG,jX,bJ,bG,bK,aW,cT,cG,cD,hne1];and_intros<;>(try omega);apply Z;refine zi ?_;refine⟨fun c8=>?_,fun c8=>?_⟩
 ·try simp at c8
  obtain⟨m,rfl⟩:∃m:Nat,c=m:=⟨c.toNat,by omega⟩;have hml:m<(Lis.ahC l l.length).length:=by omega
  have hst:=Lis.chain_step l (show m<l.length by omega) hml;apply aE;apply aA;apply aC;apply aG;refine zt qWv23 fun _ _ Z=>?_;simp(disch:=omega)[mA,kN,mG,jX,bJ,bG,bK,aW,cT,cG,cD,hne1];and_intros<;>(try omega);apply Z;apply aK;apply aA;refine zt qWv23 fun _ _ Z=>?_;simp(disch:=omega)[mA,kN,mG,jX,bJ,bG,bK,aW,cT,cG,cD,hne1];and_intros<;>(try omega);apply Z;refine zq ((pre++ [m],(Lis.ahC l l.length)[m])) ?_ ?_ ?_
  ·exact⟨hst.2.1,by have:=hst.2.2;dsimp only;omega,by rw [← hch,hst.1];simp,by have:=hst.2.2;simp;omega⟩
  ·have:=hst.2.2;dsimp only;omega
  simp(disch:=omega)[mA,kN,mG,jX,bJ,bG,bK,aW,cT,cG,cD,hne1]
 try simp at c8
 obtain rfl:c= -1:=by omega
 rw [Lis.chain_end,List.append_nil] at hch;subst hch;apply bC;apply bB;apply bD;apply aX;apply aA;refine gE 9 1 (es:=dN pre) rfl (by decide) fun cap rest hcap hcm hrest hk0 hes=>?_;subst hrest;simp only [List.length_map] at hcap ⊢;rw [kT];refine zr qWv23 fun _ _ Z=>?_;refine zs 1 fun _ Y=>?_;simp(disch:=omega)[mA,kN,mG,jX,bJ,bG,bK,aW,cT,cG,cD,hne1];and_intros<;>(try omega);apply Y;refine aD fun _ Y=>?_;simp(disch:=omega)[mA,kN,mG,jX,bJ,bG,bK,aW,cT,cG,cD,hne1];refine cH (aCl (σ.length+(J2.length+1)) cap pre _ _ (by omega) (by simp [kN];rfl)) ?_;apply Y;simp only [dV];apply Z;refine cV 9 1 (σ.length+(J2.length+1)) pre.length cap (dN pre.reverse) (dN pre.reverse++List.replicate (cap - pre.length) .any) rfl (by simp [kN]) (by omega) (by simp;omega) (by simp) (zB _) (by rw [kT];exact List.prefix_append _ _) ?_;refine zr qWv23 fun _ _ Z=>?_;simp(disch:=omega)[mA,kN,mG,jX,bJ,bG,bK,aW,cT,cG,cD,hne1];and_intros<;>(try omega);apply Z;apply aB;simp [aL,pK,Lis.ofP_ne l hne,hW]
end Go.Proofs.YtbgfljpnhhdkoaaGreat

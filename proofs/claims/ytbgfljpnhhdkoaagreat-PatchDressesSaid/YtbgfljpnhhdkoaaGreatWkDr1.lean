import Derived.Test.YtbgfljpnhhdkoaaGreatWkAr9
set_option maxRecDepth 20000
set_option linter.all false
set_option maxHeartbeats 8000000
open Go.Proofs.Tryz
namespace Go.Proofs.YtbgfljpnhhdkoaaGreat
open Go Go.Vm
variable {A l:Ls}{n:ByteArray}
structure Stp where
 drop:Bool
 name:ByteArray
 deriving DecidableEq
@[simp] abbrev Ql(s:Stp):D:= .agg [.v (.bool s.drop),.v (.string s.name)]
structure SA where
 drop:Bool
 name:ByteArray
 value:ByteArray
 deriving DecidableEq
@[simp] abbrev Sf(s:SA):D:= .agg [.v (.bool s.drop),.v (.string s.name),.v (.string s.value)]
structure SI where
 drop:Bool
 name:ByteArray
 value:Int
 deriving DecidableEq
@[simp] abbrev Il(s:SI):D:= .agg [.v (.bool s.drop),.v (.string s.name),.v (.int .i64 s.value)]
structure OW where
 classes:(List ByteArray)
 attrs:(List AT)
 styles:(List PI)
 deriving DecidableEq
@[simp] abbrev Yz(s:OW):D:= .agg [.sl false (s.classes.map D.str),.sl false (s.attrs.map dU),.sl false (s.styles.map cM)]
@[simp] abbrev aZ6(s:OW):D:= .agg [.sl true (s.classes.map D.str),.sl true (s.attrs.map dU),.sl true (s.styles.map cM)]
def bG(l:Ls):Ls:=l.foldl tQ []
theorem oM(l:Ls)(x:ByteArray):bG (l++ [x])=tQ (bG l) x:=by simp [bG]
theorem Bf(l:Ls)(k:Nat)(h:k<l.length):bG (l.take (k+1))=tQ (bG (l.take k)) l[k]:=by rw [bK l k h,oM]
theorem aIr(c x:ByteArray)(l:Ls):has c (tQ l x)=(has c l || decide (x=c)):=by
 unfold tQ;split
 .rename_i h;by_cases e:x=c
  .subst e;simp [h]
  simp [e]
 exact Ce c x l
theorem uU(c:ByteArray)(l:Ls):has c (bG l)=has c l:=by
 induction l using oG with
 | h0=>rfl
 | h1 l x ih=>rw [oM,aIr,Ce,ih]
theorem jQ(l:Ls):(bG l).length<=l.length:=by
 induction l using oG with
 | h0=>exact aV _
 | h1 l x ih=>rw [oM];have:=aIy (bG l) x;simp;omega
@[simp] abbrev q39_1:Cfg:=⟨[2,3,20,25],[],[],[],[]⟩
theorem Ez(l:Ls)(σ:List (List D))(hl:l.length<=1000000):Ct prog 96 [dl l] σ (fun r σ'=>r=dlo (bG l)/\σ'=σ):=by
 refine zf func96 ?_;refine zr q39_1 fun _ _ Z=>?_;simp(disch:=omega);apply Z;refine zr q39_1 fun _ _ Z=>?_;simp(disch:=omega);and_intros<;>(try omega);apply Z;apply aF;refine zr q39_1 fun _ _ Z=>?_;simp(disch:=omega);and_intros<;>(try omega);apply Z;apply aS;refine zk [0,2,3,7,8,9] ?_;refine aZ (fun(k:Nat)=> [(9,.d (.int k)),(3,.d (dlo (bG (l.take k))))]) [3,4,5,9,10,11,12,13,14,15,16,17,18,19,20,21,22,23,24] (fun(k:Nat)=>k<=l.length) (fun(k:Nat)=>l.length - k) (0) (by simp <;> rfl) ?_ ?_ ?_
 .simp [bG]
 .simp
 rintro k hk;simp only [aP,aN];have hcl:=jQ (l.take k);simp only [bF] at hcl;refine zr q39_1 fun _ _ Z=>?_;simp(disch:=omega);apply Z;apply aF;refine zI ?_ ?_<;>intro c1<;>try simp at c1
 .apply kR;refine zr q39_1 fun _ _ Z=>?_;simp(disch:=omega);and_intros<;>(try omega);apply Z;refine zk [0,2,3,4,5,7,8,9] ?_;refine zr q39_1 fun _ _ Z=>?_;refine zs 4 fun _ Y=>?_;simp(disch:=omega);and_intros<;>(try omega);apply Y;refine aE fun _ Y=>?_;simp(disch:=omega);refine cB (Jc (l.take k) _ _ (by simp;omega)) ?_;apply Y;simp(disch:=omega);apply Z;refine zI ?_ ?_<;>intro c2<;>try simp at c2
  .refine zk [0,2,3,5,7,8,9] ?_;refine zt q39_1 fun _ _ Z=>?_;simp(disch:=omega);and_intros<;>(try omega);apply Z;apply zB;refine zk [0,2,3,7,8,9] ?_;refine zt q39_1 fun _ _ Z=>?_;simp(disch:=omega);and_intros<;>(try omega);apply Z;refine zq (k+1) ?_ ?_ ?_
   .omega
   .try dsimp only
    omega
   simp(disch:=omega)[Bf,tQ,uU,c2]
  apply mM;refine zk [0,2,3,7,8,9] ?_;refine zt q39_1 fun _ _ Z=>?_;simp(disch:=omega);and_intros<;>(try omega);apply Z;refine zq (k+1) ?_ ?_ ?_
  .omega
  .try dsimp only
   omega
  simp(disch:=omega)[Bf,tQ,uU,c2]
 apply zE;refine zr q39_1 fun _ _ Z=>?_;simp(disch:=omega);apply Z;apply aD;simp [aK];rw [bL (by omega)]
@[simp] abbrev q39_2:Cfg:=⟨[2,3,16],[],[],[],[]⟩
theorem Xl(l:Ls)(σ:List (List D))(hl:l.length<=100000):Ct prog 106 [dl l] σ (fun r σ'=>r=dlo (bG l)/\σ'=σ):=by
 refine zf func106 ?_;refine zr q39_2 fun _ _ Z=>?_;simp(disch:=omega);apply Z;refine zr q39_2 fun _ _ Z=>?_;simp(disch:=omega);apply Z;apply aF;refine zr q39_2 fun _ _ Z=>?_;simp(disch:=omega);and_intros<;>(try omega);apply Z;apply aS;refine zk [2,3,6,7,8] ?_;refine aZ (fun(k:Nat)=> [(8,.d (.int k)),(3,.d (dlo (bG (l.take k))))]) [3,5,8,9,10,11,12,13,14,15] (fun(k:Nat)=>k<=l.length) (fun(k:Nat)=>l.length - k) (0) (by simp <;> rfl) ?_ ?_ ?_
 .simp [bG]
 .simp
 rintro k hk;simp only [aP,aN];have hcl:=jQ (l.take k);simp only [bF] at hcl;refine zr q39_2 fun _ _ Z=>?_;simp(disch:=omega);apply Z;apply aF;refine zI ?_ ?_<;>intro c1<;>try simp at c1
 .apply kR;refine zr q39_2 fun _ _ Z=>?_;simp(disch:=omega);and_intros<;>(try omega);apply Z;refine zt q39_2 fun _ _ Z=>?_;refine zs 2 fun _ Y=>?_;simp(disch:=omega);apply Y;refine aE fun _ Y=>?_;simp(disch:=omega);refine cB (aI3 (bG (l.take k)) _ _ (by omega)) ?_;apply Y;simp(disch:=omega);apply Z;apply zB;refine zk [2,3,6,7,8] ?_;refine zt q39_2 fun _ _ Z=>?_;simp(disch:=omega);and_intros<;>(try omega);apply Z;refine zq (k+1) ?_ ?_ ?_
  .omega
  .try dsimp only
   omega
  simp(disch:=omega)[Bf]
 apply zE;refine zr q39_2 fun _ _ Z=>?_;simp(disch:=omega);apply Z;apply aD;simp [aK];rw [bL (by omega)]
def iE(b:Ls):Ls->Nat:=fun a=>a.foldl (fun n c=>if b[n]?=some c then n+1 else n) 0
theorem wJ(b a:Ls)(x:ByteArray):iE b (a++ [x])=if b[iE b a]?=some x then iE b a+1 else iE b a:=by
 unfold iE;rw [lH];rfl
theorem Bp(b a:Ls)(k:Nat)(h:k<a.length):iE b (a.take (k+1))=if b[iE b (a.take k)]?=some a[k] then iE b (a.take k)+1 else iE b (a.take k):=by
 rw [bK a k h,wJ]
theorem yK(b a:Ls):iE b a<=b.length:=by
 induction a using oG with
 | h0=>exact gD _
 | h1 l x ih=>
  rw [wJ];split
  .rename_i h;have:=(aM.1 h).1;omega
  exact ih
theorem aLi(a b:Ls)(σ:List (List D))(ha:a.length<=1000000)(hb:b.length<=1000000):Ct prog 194 [dl a,dl b] σ (fun r σ'=>r= .int (iE b a)/\σ'=σ):=by
 refine zf func194 ?_;refine bE fun _ _ Z=>?_;simp(disch:=omega);apply Z;refine bE fun _ _ Z=>?_;simp(disch:=omega);apply Z;apply aF;refine bE fun _ _ Z=>?_;simp(disch:=omega);and_intros<;>(try omega);apply Z;apply aS;refine zk [1,4,5,8,9,10] ?_;refine aZ (fun(k:Nat)=> [(10,.d (.int k)),(5,.d (.int (iE b (a.take k))))]) [5,7,10,11,12,13,14,15,16,17,18,19,20,21,22,23,24,25,26,27,28] (fun(k:Nat)=>k<=a.length) (fun(k:Nat)=>a.length - k) (0) (by simp <;> rfl) ?_ ?_ ?_
 .simp [iE]
 .simp
 rintro k hk;simp only [aP,aN];have hcl:=yK b (a.take k);refine bE fun _ _ Z=>?_;simp(disch:=omega);apply Z;apply aF;refine zI ?_ ?_<;>intro c1<;>try simp at c1
 .apply kR;refine bE fun _ _ Z=>?_;simp(disch:=omega);and_intros<;>(try omega);apply Z;refine zk [1,4,5,7,8,9,10] ?_;refine pB ⟨[],[],[],[],[]⟩ fun all hall _ Z=>?_;have ga4:aT all 4=some 18:=hall 4;refine zs 5 fun _ Y=>?_;simp(disch:=omega)[ga4];and_intros<;>(try omega);apply Y;refine zb 18 ?_ ?_<;>intro g2<;>try simp at g2
  .simp(disch:=omega)[ga4];and_intros<;>(try omega);apply Z;refine zI ?_ ?_<;>intro c3<;>try simp at c3
   .refine zk [1,4,5,8,9,10] ?_;refine rB fun _ _ Z=>?_;simp(disch:=omega);and_intros<;>(try omega);apply Z;apply zB;refine rB fun _ _ Z=>?_;simp(disch:=omega);and_intros<;>(try omega);apply Z;refine zq (k+1) ?_ ?_ ?_
    .omega
    .try dsimp only
     omega
    simp(disch:=omega) [Bp,g2,c3]
   apply mM;refine zk [1,4,5,8,9,10] ?_;refine rB fun _ _ Z=>?_;simp(disch:=omega);and_intros<;>(try omega);apply Z;refine zq (k+1) ?_ ?_ ?_
   .omega
   .try dsimp only
    omega
   simp(disch:=omega) [Bp,g2,c3]
  simp(disch:=omega)[ga4];apply Z;refine bS (t:=false) (by simp) (fun h=>by cases h) (fun _=>?_);apply mM;refine zk [1,4,5,8,9,10] ?_;refine rB fun _ _ Z=>?_;simp(disch:=omega);and_intros<;>(try omega);apply Z;refine zq (k+1) ?_ ?_ ?_
  .omega
  .try dsimp only
   omega
  simp(disch:=omega) [Bp,g2]
 apply zE;refine bE fun _ _ Z=>?_;simp(disch:=omega);apply Z;apply aD;simp [aK];rw [bL (by omega)]
def Aq(B:Ls)(n:Nat)(A:Ls):List Stp:=(A.filter fun c=> !has c (B.take n)).map (Stp.mk true)
theorem Ah(B:Ls)(n:Nat)(A:Ls)(k:Nat)(h:k<A.length):Aq B n (A.take (k+1))=Aq B n (A.take k)++if has A[k] (B.take n)=true then [] else [⟨true,A[k]⟩]:=by
 unfold Aq;rw [bK A k h,eP,dK,gJ];by_cases e:has A[k] (B.take n)=true <;> simp [e]
theorem yJ(B:Ls)(n:Nat)(A:Ls):(Aq B n A).length<=A.length:=by
 unfold Aq;rw [bI];exact gE _ _
def Ic(A B:Ls):List Stp:=Aq B (iE B A) A++(B.drop (iE B A)).map (Stp.mk false)
def jG(a b:Ls):List Stp:=Ic (bG a) (bG b)
def xX(B:Ls)(n k:Nat):List Stp:=((B.drop n).take k).map (Stp.mk false)
theorem Kf(B:Ls)(n k:Nat)(h:n+k<B.length):xX B n (k+1)=xX B n k++ [⟨false,B[n+k]⟩]:=by
 unfold xX;rw [bK (B.drop n) k (by simp;omega),dK];simp
theorem Qh(B:Ls)(n j:Nat)(h:B.length<=n+j):xX B n j=(B.drop n).map (Stp.mk false):=by
 unfold xX;rw [bL (by simp;omega)]
theorem Rc(B:Ls)(n k:Nat):(xX B n k).length<=k:=by simp [xX];omega
@[simp] abbrev q39_3:Cfg:=⟨[4,6,30,44,50],[],[],[],[]⟩
theorem aMf(a b:Ls)(σ:List (List D))(ha:a.length<=10000)(hb:b.length<=10000):Ct prog 114 [dl a,dl b] σ (fun r σ'=>r= .sl true ((jG a b).map Ql)/\σ'=σ):=by
 unfold jG;have hca:=jQ a;have hcb:=jQ b;refine zf func114 ?_;refine zr q39_3 fun _ _ Z=>?_;simp(disch:=omega)[aB,aA];apply Z;refine zr q39_3 fun _ _ Z=>?_;refine zs 1 fun _ Y=>?_;simp(disch:=omega)[aB,aA];apply Y;refine aE fun _ Y=>?_;simp(disch:=omega)[aB,aA];refine cB (Xl a _ (by omega)) ?_;apply Y;refine zs 1 fun _ Y=>?_;simp(disch:=omega)[aB,aA];apply Y;refine aE fun _ Y=>?_;simp(disch:=omega)[aB,aA];refine cB (Xl b _ (by omega)) ?_;apply Y;simp(disch:=omega)[aB,aA];apply Z;refine zr q39_3 fun _ _ Z=>?_;refine zs 2 fun _ Y=>?_;simp(disch:=omega)[aB,aA];apply Y;refine aE fun _ Y=>?_;simp(disch:=omega)[aB,aA];refine cB (aLi (bG a) (bG b) _ (by omega) (by omega)) ?_;apply Y;simp(disch:=omega)[aB,aA];apply Z;refine zr q39_3 fun _ _ Z=>?_;simp(disch:=omega)[aB,aA];apply Z;apply aF;refine zk [0,1,4,5,6] ?_;refine zr q39_3 fun _ _ Z=>?_;simp(disch:=omega)[aB,aA];and_intros<;>(try omega);apply Z;apply aS;refine zk [1,4,5,6,18,19,20] ?_;have hkl:=yK (bG b) (bG a);refine aZ (fun(k:Nat)=> [(20,.d (.int k)),(6,.d (.sl true ((Aq (bG b) (iE (bG b) (bG a)) ((bG a).take k)).map Ql)))]) [6,8,20,21,22,23,24,25,26,27,28,29,30,31,32,33,34,35] (fun(k:Nat)=>k<=(bG a).length) (fun(k:Nat)=>(bG a).length - k) (0) (by simp <;> rfl) ?_ ?_ ?_
 .simp [Aq]
 .simp
 rintro k hk;simp only [aP,aN];have hcl:=yJ (bG b) (iE (bG b) (bG a)) ((bG a).take k);simp only [bF] at hcl;refine zr q39_3 fun _ _ Z=>?_;simp(disch:=omega)[aB,aA];apply Z;apply aF;refine zI ?_ ?_<;>intro c1<;>try simp at c1
 .apply kR;refine zr q39_3 fun _ _ Z=>?_;simp(disch:=omega)[aB,aA];and_intros<;>(try omega);apply Z;refine zr q39_3 fun _ _ Z=>?_;refine zs 4 fun _ Y=>?_;simp(disch:=omega)[aB,aA];and_intros<;>(try omega);apply Y;refine aE fun _ Y=>?_;simp(disch:=omega)[aB,aA];refine cB (yP ((bG b).take (iE (bG b) (bG a))) _ _ (by simp;omega)) ?_;apply Y;simp(disch:=omega)[aB,aA];apply Z;refine zI ?_ ?_<;>intro c2<;>try simp at c2
  .refine zk [1,4,5,6,8,18,19,20] ?_;refine zt q39_3 fun _ _ Z=>?_;simp(disch:=omega)[aB,aA];and_intros<;>(try omega);apply Z;apply zB;refine zk [1,4,5,6,18,19,20] ?_;refine zt q39_3 fun _ _ Z=>?_;simp(disch:=omega)[aB,aA];and_intros<;>(try omega);apply Z;refine zq (k+1) ?_ ?_ ?_
   .omega
   .try dsimp only
    omega
   simp(disch:=omega)[aB,aA,Ah,c2]
  apply mM;refine zk [1,4,5,6,18,19,20] ?_;refine zt q39_3 fun _ _ Z=>?_;simp(disch:=omega)[aB,aA];and_intros<;>(try omega);apply Z;refine zq (k+1) ?_ ?_ ?_
  .omega
  .try dsimp only
   omega
  simp(disch:=omega)[aB,aA,Ah,c2]
 apply zE;apply aF;refine zr q39_3 fun _ _ Z=>?_;simp(disch:=omega)[aB,aA];and_intros<;>(try omega);apply Z;apply aS;refine zk [4,6,38,39,40] ?_;refine aZ (fun(j:Nat)=> [(40,.d (.int j)),(6,.d (.sl true ((Aq (bG b) (iE (bG b) (bG a)) (bG a)++xX (bG b) (iE (bG b) (bG a)) j).map Ql)))]) [6,10,40,41,42,43,44,45,46,47,48,49] (fun(j:Nat)=>iE (bG b) (bG a)+j<=(bG b).length) (fun(j:Nat)=>(bG b).length - j) (0) (by simp <;> rfl) ?_ ?_ ?_
 .simp [xX];rw [bL (by omega)];simp
 .simp;omega
 rintro j hj;simp only [aP,aN];have hcl:=yJ (bG b) (iE (bG b) (bG a)) (bG a);have hcl2:=Rc (bG b) (iE (bG b) (bG a)) j;refine zr q39_3 fun _ _ Z=>?_;simp(disch:=omega)[aB,aA];apply Z;apply aF;refine zI ?_ ?_<;>intro c3<;>try simp at c3
 .apply kR;refine zr q39_3 fun _ _ Z=>?_;simp(disch:=omega)[aB,aA];and_intros<;>(try omega);apply Z;refine zt q39_3 fun _ _ Z=>?_;simp(disch:=omega)[aB,aA];and_intros<;>(try omega);apply Z;apply zB;refine zk [4,6,38,39,40] ?_;refine zt q39_3 fun _ _ Z=>?_;simp(disch:=omega)[aB,aA];and_intros<;>(try omega);apply Z;refine zq (j+1) ?_ ?_ ?_
  .omega
  .try dsimp only
   omega
  simp(disch:=omega)[aB,aA,Kf]
 apply zE;refine zr q39_3 fun _ _ Z=>?_;simp(disch:=omega)[aB,aA];apply Z;apply aD;simp [aK,Ic];rw [Qh _ _ _ (by omega)];simp
def tI(out:Ls)(s:Stp):Ls:=if s.drop=true then kX out s.name else tQ out s.name
def aKm(l:Ls)(S:List Stp):Ls:=S.foldl tI (bG l)
theorem jY(c:ByteArray)(l:Ls):has c l=true↔c∈l:=by
 simp [has]
theorem Zb(l:Ls)(c:ByteArray)(h:l.Nodup):(tQ l c).Nodup:=by
 unfold tQ;split
 .exact h
 rename_i hc;rw [jY] at hc;rw [mR];exact⟨h,by simp,by simp;intro a ha e;subst e;exact hc ha⟩
theorem rG(l:Ls):(bG l).Nodup:=by
 induction l using oG with
 | h0=>simp [bG]
 | h1 l x ih=>rw [oM];exact Zb _ _ ih
theorem Nc(B A:Ls):(B.take (iE B A)).Sublist A:=by
 induction A using oG with
 | h0=>simp [iE]
 | h1 A x ih=>
  rw [wJ];split
  .rename_i h;obtain⟨hn,hx⟩:=aM.1 h;rw [bK B _ hn,hx];exact ih.append (zH _)
  exact ih.trans (List.sublist_append_left _ _)
theorem aKn {r:Ls} {y x:ByteArray} (h:(l++ [y]).Sublist (r++ [x])):(l++ [y]).Sublist r\/(l.Sublist r/\y=x):=by
 rw [<- Ej] at h;simp only [List.reverse_append,Hl,List.reverse_nil,aN,Gb] at h;cases h with
 | cons _ h=>left;rw [<- Ej];simpa using h
 | cons_cons _ h=>right;exact⟨by rw [<- Ej];exact h,rfl⟩
theorem aEi(B A:Ls):∀m,m<=B.length->(B.take m).Sublist A->m<=iE B A:=by
 induction A using oG with
 | h0=>intro m hm h;have:=h.length_le;simp only [bF,dF] at this;omega
 | h1 A x ih =>
  intro m hm h;rw [wJ];cases m with
  | zero=>exact gD _
  | succ m=>
   rw [bK B m (by omega)] at h;rcases aKn h with h | ⟨h,e⟩
   .rw [<- bK B m (by omega)] at h;have:=ih (m+1) hm h;split <;> omega
   have h1:=ih m (by omega) h;split
   .omega
   rename_i hne;by_cases e2:iE B A=m
   .exfalso;apply hne;rw [e2,aQ (by omega),e]
   omega
theorem aSn(a b:ByteArray):(a==b)=true↔a=b:=by
 cases a;cases b;show ByteArray.beq _ _=_↔_
 unfold ByteArray.beq;simp
instance :LawfulBEq ByteArray where
 eq_of_beq {a b} h:=(aSn a b).1 h
 rfl {a} :=(aSn a a).2 rfl
theorem Ll {L:Ls} (h:L.Sublist A):A.Nodup->A.filter (fun c=>has c L)=L:=by
 induction h with
 | slnil=>intro _;rfl
 | @cons L A a h ih =>
  intro hA;have hA:=iR.1 hA;have h1:has a L=false:=by
   rw [rA];intro e;exact hA.1 (h.subset ((jY _ _).1 e))
  rw [gJ,aC (by simp [h1])];exact ih hA.2
 | @cons_cons L A a h ih =>
  intro hA;have hA:=iR.1 hA;rw [gJ,aI ((jY _ _).2 (by simp))];congr 1;refine Eq.trans (iA fun c hc=>?_) (ih hA.2);rw [iQ,jY,jY,bU];constructor
  .rintro(rfl | h2)
   .exact absurd hc hA.1
   exact h2
  exact .inr
theorem uF:∀(names X:Ls),(names.map (Stp.mk true)).foldl tI X=X.filter fun c=> !has c names
 | [],X=>by
  rw [oY,qU,eq_comm,lT];intro c _;have:has c []=false:=by rw [rA];intro e;have:=(jY _ _).1 e;simp at this
  simp [this]
 | n::names,X=>by
  rw [eZ,dV,uF names];have hs:tI X ⟨true,n⟩=kX X n:=rfl;rw [hs];unfold kX;rw [iT];refine iA fun c _=>?_;rw [iQ];simp only [fQ,lM,rA,ne_eq,jY,bU,eO,not_or];exact⟨fun h=>⟨h.2,h.1⟩,fun h=>⟨h.2,h.1⟩⟩
theorem Dw:∀(Y X:Ls),(X++Y).Nodup->(Y.map (Stp.mk false)).foldl tI X=X++Y
 | [],X,_=>by simp
 | y :: Y, X, h => by
  have hs:tI X ⟨false,y⟩=X++ [y]:=by
   have hy:¬has y X=true:=by
    rw [jY];intro e;exact(mR.1 h).2.2 y e y (by simp) rfl
   simp only [tI,tQ,hy];simp
  rw [eZ,dV,hs,Dw Y (X++ [y]) (by simpa using h)];simp
theorem Yu(a b:Ls):aKm a (jG a b)=bG b:=by
 unfold aKm jG Ic Aq;rw [lH,uF];have h1:(bG a).filter (fun c=> !has c ((bG a).filter fun c=> !has c ((bG b).take (iE (bG b) (bG a)))))=(bG b).take (iE (bG b) (bG a)):=by
  refine Eq.trans (iA fun c hc=>?_) (Ll (Nc (bG b) (bG a)) (rG a));rw [iQ];simp only [lM,rA,ne_eq,jY,cY,not_and,He];exact⟨fun h=>h hc,fun h _=>h⟩
 rw [h1,Dw _ _ (by rw [fP];exact rG b),fP]
theorem Ca(n:ByteArray)(ns r:Ls):∀p:Ls,n∉p->(n::ns).isSublist (p++r)=(n::ns).isSublist r
 | [],_=>rfl
 | x::p,h=>by
  have hx:(n==x)=false:=by simp;intro e;exact h (by simp [e])
  rw [aP,List.isSublist];rw [aC (by simp [hx]),Ca n ns r p (fun e=>h (by simp [e]))]
theorem aCj {ns:Ls} {k:Nat} (h:k<l.length)(hm:n∉l.take k)(e:l[k]=n):(n::ns).isSublist l=ns.isSublist (l.drop (k+1)):=by
 have hl:l.take k++l.drop k=l:=fP k l;rw [<- hl,Ca n ns _ _ hm,hl,zM h,e,List.isSublist];simp
theorem Xs {ns:Ls} (hm:n∉l):(n::ns).isSublist l=false:=by
 have:=Ca n ns [] l hm;rw [fZ] at this;rw [this];rfl
theorem aLe {k:Nat} (h:k<l.length)(hm:n∉l.take k)(e:¬l[k]=n):n∉l.take (k+1):=by
 rw [bK l k h];simp only [cK,gO,not_or];exact⟨hm,fun h=>e h.symm⟩
theorem aTf {X:Ls} (h:X.isSublist A=false):¬X.Sublist A:=by
 intro e;rw [<- yQ] at e;rw [e] at h;cases h
theorem aA0 {B:Ls} {n:Nat} (h:(B.take n).isSublist A=false):0<n:=by
 cases n with
 | zero=>rw [Ep] at h;cases A <;> cases h
 | succ n=>omega
theorem aCp {B A:Ls} {n:Nat} (hn:n<=B.length)(h:(B.take n).isSublist A=true)(hm:∀m,n<m->m<=B.length->¬(B.take m).Sublist A):n=iE B A:=by
 have h1:=aEi B A n hn (yQ.1 h);have h2:=yK B A;by_cases e:n<iE B A
 .exact absurd (Nc B A) (hm _ e h2)
 omega
theorem aA8 {B:Ls} {n:Nat} (h:(B.take n).isSublist A=false)(hm:∀m,n<m->m<=B.length->¬(B.take m).Sublist A):∀m,n - 1<m->m<=B.length->¬(B.take m).Sublist A:=by
 intro m h1 h2;by_cases e:m=n
 .subst e;exact aTf h
 exact hm m (by omega) h2
theorem aA6(l:Ls)(σ:List (List D))(hl:l.length<=1000000):Ct prog 189 [dl l,dl []] σ (fun r σ'=>r= .bool true/\σ'=σ):=by
 refine zf func189 ?_;refine bE fun _ _ Z=>?_;simp(disch:=omega);apply Z;apply aF;refine bE fun _ _ Z=>?_;simp(disch:=omega);and_intros<;>(try omega);apply Z;refine zI ?_ ?_<;>intro c1<;>try simp at c1
 refine bE fun _ _ Z=>?_;simp(disch:=omega);apply Z;apply aD;simp [aK]
theorem Yj(l:Ls)(n:ByteArray)(ns:Ls)(σ:List (List D))(hl:l.length<=1000000)(hn:ns.length<=1000000)(ih:∀(l:Ls) σ,l.length<=1000000->Ct prog 189 [dl l,dl ns] σ (fun r σ'=>r= .bool (ns.isSublist l)/\σ'=σ)):Ct prog 189 [dl l,dl (n::ns)] σ (fun r σ'=>r= .bool ((n::ns).isSublist l)/\σ'=σ):=by
 refine zf func189 ?_;refine bE fun _ _ Z=>?_;simp(disch:=omega);apply Z;apply aF;refine bE fun _ _ Z=>?_;simp(disch:=omega);and_intros<;>(try omega);apply Z;refine zI ?_ ?_<;>intro c1<;>try simp at c1
 .all_goals (exfalso;omega)
 apply zA;apply aF;refine bE fun _ _ Z=>?_;simp(disch:=omega);and_intros<;>(try omega);apply Z;apply aS;refine zk [0,1,4,10,11,12] ?_;refine aZ (fun(k:Nat)=> [(12,.d (.int k))]) [4,5,6,12,13,14,15,16,17,18,19,20,21,22,23,24,25,26,27,28,29] (fun(k:Nat)=>k<=l.length/\n∉l.take k) (fun(k:Nat)=>l.length - k) (0) (by simp <;> rfl) ?_ ?_ ?_
 .simp
 .simp
 rintro k ⟨hk,hm⟩;simp only [aP,aN];refine bE fun _ _ Z=>?_;simp(disch:=omega);apply Z;apply aF;refine zI ?_ ?_<;>intro c2<;>try simp at c2
 .apply kR;refine bE fun _ _ Z=>?_;simp(disch:=omega);and_intros<;>(try omega);apply Z;refine bE fun _ _ Z=>?_;simp(disch:=omega);and_intros<;>(try omega);apply Z;refine zI ?_ ?_<;>intro c3<;>try simp at c3
  .refine zk [0,1,5,10,11,12] ?_;refine zd ⟨[],[],[],[],[]⟩ [.op {},.op {},.op {},.op {},.op {},.op {},.pure,.op {}] fun all hall _ Z=>?_;refine iU 6 fun _ Y=>?_;simp(disch:=omega);and_intros<;>(try omega);apply Y;refine dL fun _ Y=>?_;simp(disch:=omega);refine⟨_,fun σ=>Ct.of_le (ih (l.drop (k+1)) _ (by simp;omega)) (by first | exact fS rfl | (refine fS ?_;simp;done) | (refine fS ?_;simp;rfl) | (simp [mV,Cb];done) | (refine fS ?_;simp [bL];done)) rfl,?_⟩;apply Y;simp(disch:=omega);apply Z;apply aD;simp [aK];first | exact(aCj (by omega) hm c3).symm | exact aCj (by omega) hm c3
  apply mM;refine zk [0,1,10,11,12] ?_;refine rB fun _ _ Z=>?_;simp(disch:=omega);and_intros<;>(try omega);apply Z;refine zq (k+1) ?_ ?_ ?_
  .exact⟨by omega,aLe (by omega) hm c3⟩
  .try dsimp only
   omega
  simp(disch:=omega)
 apply zE;refine bE fun _ _ Z=>?_;simp(disch:=omega);apply Z;apply aD;simp [aK];rw [bL (by omega)] at hm;first | exact(Xs hm).symm | exact Xs hm
theorem Pe:∀(ns l:Ls) (σ:List (List D)),ns.length<=1000000->l.length<=1000000->Ct prog 189 [dl l,dl ns] σ (fun r σ'=>r= .bool (ns.isSublist l)/\σ'=σ)
 | [],l,σ,_,hl=>by rw [show([]:Ls).isSublist l=true by cases l <;> rfl];exact aA6 l σ hl
 | n::ns,l,σ,hn,hl=>Yj l n ns σ hl (by simp at hn;omega) fun l τ h=>Pe ns l τ (by simp at hn;omega) h
@[simp] abbrev q39_4:Cfg:=⟨[4,8,40,54,60],[],[],[],[]⟩
theorem aKw(a b:Ls)(σ:List (List D))(ha:a.length<=10000)(hb:b.length<=10000):Ct prog 110 [dl a,dl b] σ (fun r σ'=>r= .sl true ((jG a b).map Ql)/\σ'=σ):=by
 unfold jG;have hca:=jQ a;have hcb:=jQ b;refine zf func110 ?_;refine zr q39_4 fun _ _ Z=>?_;simp(disch:=omega)[aB,aA];apply Z;refine zr q39_4 fun _ _ Z=>?_;refine zs 1 fun _ Y=>?_;simp(disch:=omega)[aB,aA];apply Y;refine aE fun _ Y=>?_;simp(disch:=omega)[aB,aA];refine cB (Ez a _ (by omega)) ?_;apply Y;simp(disch:=omega)[aB,aA];apply Z;refine zr q39_4 fun _ _ Z=>?_;refine zs 1 fun _ Y=>?_;simp(disch:=omega)[aB,aA];apply Y;refine aE fun _ Y=>?_;simp(disch:=omega)[aB,aA];refine cB (Ez b _ (by omega)) ?_;apply Y;simp(disch:=omega)[aB,aA];apply Z;refine zr q39_4 fun _ _ Z=>?_;simp(disch:=omega)[aB,aA];and_intros<;>(try omega);apply Z;apply Ea;refine zk [4,5,6,7] ?_;refine aZ (fun(n:Nat)=> [(7,.d (.v (.int .i64 (n:Int))))]) [7,19,20,21,22,23,24,25,26] (fun(n:Nat)=>n<=(bG b).length/\∀m,n<m->m<=(bG b).length->¬((bG b).take m).Sublist (bG a)) (fun(n:Nat)=>n) ((bG b).length) (by simp <;> rfl) ?_ ?_ ?_
 .simp
 .exact⟨aV _,fun m h1 h2=>by omega⟩
 rintro n ⟨hk,hm⟩;simp only [aP,aN];apply aF;refine zr q39_4 fun _ _ Z=>?_;refine zs 4 fun _ Y=>?_;simp(disch:=omega)[aB,aA];and_intros<;>(try omega);apply Y;refine aE fun _ Y=>?_;simp(disch:=omega)[aB,aA];refine cB (Pe ((bG b).take n) (bG a) _ (by simp;omega) (by omega)) ?_;apply Y;simp(disch:=omega)[aB,aA];apply Z;refine zI ?_ ?_<;>intro c1<;>try simp at c1
 .have hn0:=aA0 c1;apply zA;apply aS;refine zt q39_4 fun _ _ Z=>?_;simp(disch:=omega)[aB,aA];and_intros<;>(try omega);apply Z;apply gQ;refine zq (n - 1) ?_ ?_ ?_
  .exact⟨by omega,aA8 c1 hm⟩
  .try dsimp only
   omega
  simp(disch:=omega)[aB,aA,show((n - 1:Nat):Int)=(n:Int) - 1 from by omega]
 apply zE;refine zr q39_4 fun _ _ Z=>?_;simp(disch:=omega)[aB,aA];and_intros<;>(try omega);apply Z;apply aF;refine zk [4,5,6,7,8] ?_;refine zr q39_4 fun _ _ Z=>?_;simp(disch:=omega)[aB,aA];and_intros<;>(try omega);apply Z;apply aS;refine zk [4,6,7,8,28,29,30] ?_;have hkl:=yK (bG b) (bG a);have hnk:=aCp (by omega) (yQ.2 c1) hm;subst hnk;refine aZ (fun(k:Nat)=> [(30,.d (.int k)),(8,.d (.sl true ((Aq (bG b) (iE (bG b) (bG a)) ((bG a).take k)).map Ql)))]) [8,10,30,31,32,33,34,35,36,37,38,39,40,41,42,43,44,45] (fun(k:Nat)=>k<=(bG a).length) (fun(k:Nat)=>(bG a).length - k) (0) (by simp <;> rfl) ?_ ?_ ?_
 .simp [Aq]
 .simp
 rintro k hk;simp only [aP,aN];have hcl:=yJ (bG b) (iE (bG b) (bG a)) ((bG a).take k);simp only [bF] at hcl;refine zr q39_4 fun _ _ Z=>?_;simp(disch:=omega)[aB,aA];apply Z;apply aF;refine zI ?_ ?_<;>intro c2<;>try simp at c2
 .apply kR;refine zr q39_4 fun _ _ Z=>?_;simp(disch:=omega)[aB,aA];and_intros<;>(try omega);apply Z;refine zr q39_4 fun _ _ Z=>?_;refine zs 4 fun _ Y=>?_;simp(disch:=omega)[aB,aA];and_intros<;>(try omega);apply Y;refine aE fun _ Y=>?_;simp(disch:=omega)[aB,aA];refine cB (Jc ((bG b).take (iE (bG b) (bG a))) _ _ (by simp;omega)) ?_;apply Y;simp(disch:=omega)[aB,aA];apply Z;refine zI ?_ ?_<;>intro c3<;>try simp at c3
  .refine zk [4,6,7,8,10,28,29,30] ?_;refine zt q39_4 fun _ _ Z=>?_;simp(disch:=omega)[aB,aA];and_intros<;>(try omega);apply Z;apply zB;refine zk [4,6,7,8,28,29,30] ?_;refine zt q39_4 fun _ _ Z=>?_;simp(disch:=omega)[aB,aA];and_intros<;>(try omega);apply Z;refine zq (k+1) ?_ ?_ ?_
   .omega
   .try dsimp only
    omega
   simp(disch:=omega)[aB,aA,Ah,c3]
  apply mM;refine zk [4,6,7,8,28,29,30] ?_;refine zt q39_4 fun _ _ Z=>?_;simp(disch:=omega)[aB,aA];and_intros<;>(try omega);apply Z;refine zq (k+1) ?_ ?_ ?_
  .omega
  .try dsimp only
   omega
  simp(disch:=omega)[aB,aA,Ah,c3]
 apply zE;apply aF;refine zr q39_4 fun _ _ Z=>?_;simp(disch:=omega)[aB,aA];and_intros<;>(try omega);apply Z;apply aS;refine zk [4,8,48,49,50] ?_;refine aZ (fun(j:Nat)=> [(50,.d (.int j)),(8,.d (.sl true ((Aq (bG b) (iE (bG b) (bG a)) (bG a)++xX (bG b) (iE (bG b) (bG a)) j).map Ql)))]) [8,12,50,51,52,53,54,55,56,57,58,59] (fun(j:Nat)=>iE (bG b) (bG a)+j<=(bG b).length) (fun(j:Nat)=>(bG b).length - j) (0) (by simp <;> rfl) ?_ ?_ ?_
 .simp [xX];rw [bL (by omega)];simp
 .simp;omega
 rintro j hj;simp only [aP,aN];have hcl:=yJ (bG b) (iE (bG b) (bG a)) (bG a);have hcl2:=Rc (bG b) (iE (bG b) (bG a)) j;refine zr q39_4 fun _ _ Z=>?_;simp(disch:=omega)[aB,aA];apply Z;apply aF;refine zI ?_ ?_<;>intro c4<;>try simp at c4
 .apply kR;refine zr q39_4 fun _ _ Z=>?_;simp(disch:=omega)[aB,aA];and_intros<;>(try omega);apply Z;refine zt q39_4 fun _ _ Z=>?_;simp(disch:=omega)[aB,aA];and_intros<;>(try omega);apply Z;apply zB;refine zk [4,8,48,49,50] ?_;refine zt q39_4 fun _ _ Z=>?_;simp(disch:=omega)[aB,aA];and_intros<;>(try omega);apply Z;refine zq (j+1) ?_ ?_ ?_
  .omega
  .try dsimp only
   omega
  simp(disch:=omega)[aB,aA,Kf]
 apply zE;refine zr q39_4 fun _ _ Z=>?_;simp(disch:=omega)[aB,aA];apply Z;apply aD;simp [aK,Ic];rw [Qh _ _ _ (by omega)];simp
end Go.Proofs.YtbgfljpnhhdkoaaGreat

import Derived.Test.YtbgfljpnhhdkoaaGreatWkAr9
import Derived.Test.YtbgfljpnhhdkoaaGreatVmTab
import Derived.Test.YtbgfljpnhhdkoaaGreatVmZ
import Derived.Test.YtbgfljpnhhdkoaaGreatWkAr4
set_option linter.all false
set_option maxHeartbeats 8000000
set_option maxRecDepth 20000
open Go.Proofs.Tryz
namespace Go.Proofs.YtbgfljpnhhdkoaaGreat
open Go Go.Vm
structure Stp where
 drop:Bool
 name:ByteArray
 deriving DecidableEq
@[simp] abbrev aMl(s:Stp):D:= .agg [.v (.bool s.drop),.v (.string s.name)]
structure SA where
 drop:Bool
 name:ByteArray
 value:ByteArray
 deriving DecidableEq
@[simp] abbrev Qd(s:SA):D:= .agg [.v (.bool s.drop),.v (.string s.name),.v (.string s.value)]
structure SI where
 drop:Bool
 name:ByteArray
 value:Int
 deriving DecidableEq
@[simp] abbrev Rr(s:SI):D:= .agg [.v (.bool s.drop),.v (.string s.name),.v (.int .i64 s.value)]
structure OW where
 classes:(List ByteArray)
 attrs:(List AT)
 styles:(List PI)
 deriving DecidableEq
@[simp] abbrev Cp(s:OW):D:= .agg [.sl false (s.classes.map D.str),.sl false (s.attrs.map cW),.sl false (s.styles.map cQ)]
@[simp] abbrev aZq(s:OW):D:= .agg [.sl true (s.classes.map D.str),.sl true (s.attrs.map cW),.sl true (s.styles.map cQ)]
def bK(l:Ls):Ls:=l.foldl rC []
theorem mX(l:Ls)(x:ByteArray):bK (l++ [x])=rC (bK l) x:=by simp [bK]
theorem At(l:Ls)(k:Nat)(h:k<l.length):bK (l.take (k+1))=rC (bK (l.take k)) l[k]:=by rw [bN l k h,mX]
theorem aMv(c x:ByteArray)(l:Ls):pP c (rC l x)=(pP c l || decide (x=c)):=by
 unfold rC;split
 .rename_i h;by_cases e:x=c
  .subst e;simp [h]
  simp [e]
 exact Bb c x l
theorem Fi(c:ByteArray)(l:Ls):pP c (bK l)=pP c l:=by
 induction l using oB with
 | h0=>rfl
 | h1 l x ih=>rw [mX,aMv,Bb,ih]
theorem lB(l:Ls):(bK l).length<=l.length:=by
 induction l using oB with
 | h0=>exact bC _
 | h1 l x ih=>rw [mX];have:=aKu (bK l) x;simp;omega
@[simp] abbrev q40_1:Cfg:=⟨[2,3,20,25],[],[],[],[]⟩
theorem aEq(l:Ls)(σ:List (List D))(hl:l.length<=1000000):Ct prog 96 [dl l] σ (fun r σ'=>r=dlo (bK l)/\σ'=σ):=by
 refine zf func96 ?_;refine zr q40_1 fun _ _ Z=>?_;simp(disch:=omega);apply Z;refine zr q40_1 fun _ _ Z=>?_;simp(disch:=omega);and_intros<;>(try omega);apply Z;apply aF;refine zr q40_1 fun _ _ Z=>?_;simp(disch:=omega);and_intros<;>(try omega);apply Z;apply aR;refine zk [0,2,3,7,8,9] ?_;refine aY (fun(k:Nat)=> [(9,.d (.int k)),(3,.d (dlo (bK (l.take k))))]) [3,4,5,9,10,11,12,13,14,15,16,17,18,19,20,21,22,23,24] (fun(k:Nat)=>k<=l.length) (fun(k:Nat)=>l.length - k) (0) (by simp <;> rfl) ?_ ?_ ?_
 .simp [bK]
 .simp
 rintro k hk;simp only [aQ,aP];have hcl:=lB (l.take k);simp only [bE] at hcl;refine zr q40_1 fun _ _ Z=>?_;simp(disch:=omega);apply Z;apply aF;refine zI ?_ ?_<;>intro c1<;>try simp at c1
 .apply jY;refine zr q40_1 fun _ _ Z=>?_;simp(disch:=omega);and_intros<;>(try omega);apply Z;refine zk [0,2,3,4,5,7,8,9] ?_;refine zr q40_1 fun _ _ Z=>?_;refine zs 4 fun _ Y=>?_;simp(disch:=omega);and_intros<;>(try omega);apply Y;refine aE fun _ Y=>?_;simp(disch:=omega);refine cH (Sf (l.take k) _ _ (by simp;omega)) ?_;apply Y;simp(disch:=omega);apply Z;refine zI ?_ ?_<;>intro c2<;>try simp at c2
  .refine zk [0,2,3,5,7,8,9] ?_;refine zt q40_1 fun _ _ Z=>?_;simp(disch:=omega);and_intros<;>(try omega);apply Z;apply zB;refine zk [0,2,3,7,8,9] ?_;refine zt q40_1 fun _ _ Z=>?_;simp(disch:=omega);and_intros<;>(try omega);apply Z;refine zq (k+1) ?_ ?_ ?_
   .omega
   .try dsimp only
    omega
   simp(disch:=omega)[At,rC,Fi,c2]
  apply nI;refine zk [0,2,3,7,8,9] ?_;refine zt q40_1 fun _ _ Z=>?_;simp(disch:=omega);and_intros<;>(try omega);apply Z;refine zq (k+1) ?_ ?_ ?_
  .omega
  .try dsimp only
   omega
  simp(disch:=omega)[At,rC,Fi,c2]
 apply zE;refine zr q40_1 fun _ _ Z=>?_;simp(disch:=omega);apply Z;apply aC;simp [aI];rw [bX (by omega)]
@[simp] abbrev q40_2:Cfg:=⟨[2,3,16],[],[],[],[]⟩
theorem Cz(l:Ls)(σ:List (List D))(hl:l.length<=100000):Ct prog 106 [dl l] σ (fun r σ'=>r=dlo (bK l)/\σ'=σ):=by
 refine zf func106 ?_;refine zr q40_2 fun _ _ Z=>?_;simp(disch:=omega);apply Z;refine zr q40_2 fun _ _ Z=>?_;simp(disch:=omega);apply Z;apply aF;refine zr q40_2 fun _ _ Z=>?_;simp(disch:=omega);and_intros<;>(try omega);apply Z;apply aR;refine zk [2,3,6,7,8] ?_;refine aY (fun(k:Nat)=> [(8,.d (.int k)),(3,.d (dlo (bK (l.take k))))]) [3,5,8,9,10,11,12,13,14,15] (fun(k:Nat)=>k<=l.length) (fun(k:Nat)=>l.length - k) (0) (by simp <;> rfl) ?_ ?_ ?_
 .simp [bK]
 .simp
 rintro k hk;simp only [aQ,aP];have hcl:=lB (l.take k);simp only [bE] at hcl;refine zr q40_2 fun _ _ Z=>?_;simp(disch:=omega);apply Z;apply aF;refine zI ?_ ?_<;>intro c1<;>try simp at c1
 .apply jY;refine zr q40_2 fun _ _ Z=>?_;simp(disch:=omega);and_intros<;>(try omega);apply Z;refine zt q40_2 fun _ _ Z=>?_;refine zs 2 fun _ Y=>?_;simp(disch:=omega);apply Y;refine aE fun _ Y=>?_;simp(disch:=omega);refine cH (aIm (bK (l.take k)) _ _ (by omega)) ?_;apply Y;simp(disch:=omega);apply Z;apply zB;refine zk [2,3,6,7,8] ?_;refine zt q40_2 fun _ _ Z=>?_;simp(disch:=omega);and_intros<;>(try omega);apply Z;refine zq (k+1) ?_ ?_ ?_
  .omega
  .try dsimp only
   omega
  simp(disch:=omega)[At]
 apply zE;refine zr q40_2 fun _ _ Z=>?_;simp(disch:=omega);apply Z;apply aC;simp [aI];rw [bX (by omega)]
def iX(b:Ls):Ls->Nat:=fun a=>a.foldl (fun n c=>if b[n]?=some c then n+1 else n) 0
theorem vJ(b a:Ls)(x:ByteArray):iX b (a++ [x])=if b[iX b a]?=some x then iX b a+1 else iX b a:=by
 unfold iX;rw [jO];rfl
theorem Aa(b a:Ls)(k:Nat)(h:k<a.length):iX b (a.take (k+1))=if b[iX b (a.take k)]?=some a[k] then iX b (a.take k)+1 else iX b (a.take k):=by
 rw [bN a k h,vJ]
theorem Da(b a:Ls):iX b a<=b.length:=by
 induction a using oB with
 | h0=>exact iK _
 | h1 l x ih=>
  rw [vJ];split
  .rename_i h;have:=(aO.1 h).1;omega
  exact ih
theorem aLa(a b:Ls)(σ:List (List D))(ha:a.length<=1000000)(hb:b.length<=1000000):Ct prog 194 [dl a,dl b] σ (fun r σ'=>r= .int (iX b a)/\σ'=σ):=by
 refine zf func194 ?_;refine aZ fun _ _ Z=>?_;simp(disch:=omega);apply Z;refine aZ fun _ _ Z=>?_;simp(disch:=omega);apply Z;apply aF;refine aZ fun _ _ Z=>?_;simp(disch:=omega);and_intros<;>(try omega);apply Z;apply aR;refine zk [1,4,5,8,9,10] ?_;refine aY (fun(k:Nat)=> [(10,.d (.int k)),(5,.d (.int (iX b (a.take k))))]) [5,7,10,11,12,13,14,15,16,17,18,19,20,21,22,23,24,25,26,27,28] (fun(k:Nat)=>k<=a.length) (fun(k:Nat)=>a.length - k) (0) (by simp <;> rfl) ?_ ?_ ?_
 .simp [iX]
 .simp
 rintro k hk;simp only [aQ,aP];have hcl:=Da b (a.take k);refine aZ fun _ _ Z=>?_;simp(disch:=omega);apply Z;apply aF;refine zI ?_ ?_<;>intro c1<;>try simp at c1
 .apply jY;refine aZ fun _ _ Z=>?_;simp(disch:=omega);and_intros<;>(try omega);apply Z;refine zk [1,4,5,7,8,9,10] ?_;refine lS ⟨[],[],[],[],[]⟩ fun all hall _ Z=>?_;have ga4:aN all 4=some 18:=hall 4;refine zs 5 fun _ Y=>?_;simp(disch:=omega)[ga4];and_intros<;>(try omega);apply Y;refine zb 18 ?_ ?_<;>intro g2<;>try simp at g2
  .simp(disch:=omega)[ga4];and_intros<;>(try omega);apply Z;refine zI ?_ ?_<;>intro c3<;>try simp at c3
   .refine zk [1,4,5,8,9,10] ?_;refine pB fun _ _ Z=>?_;simp(disch:=omega);and_intros<;>(try omega);apply Z;apply zB;refine pB fun _ _ Z=>?_;simp(disch:=omega);and_intros<;>(try omega);apply Z;refine zq (k+1) ?_ ?_ ?_
    .omega
    .try dsimp only
     omega
    simp(disch:=omega) [Aa,g2,c3]
   apply nI;refine zk [1,4,5,8,9,10] ?_;refine pB fun _ _ Z=>?_;simp(disch:=omega);and_intros<;>(try omega);apply Z;refine zq (k+1) ?_ ?_ ?_
   .omega
   .try dsimp only
    omega
   simp(disch:=omega) [Aa,g2,c3]
  simp(disch:=omega)[ga4];apply Z;refine aX (t:=false) (by simp) (fun h=>by cases h) (fun _=>?_);apply nI;refine zk [1,4,5,8,9,10] ?_;refine pB fun _ _ Z=>?_;simp(disch:=omega);and_intros<;>(try omega);apply Z;refine zq (k+1) ?_ ?_ ?_
  .omega
  .try dsimp only
   omega
  simp(disch:=omega) [Aa,g2]
 apply zE;refine aZ fun _ _ Z=>?_;simp(disch:=omega);apply Z;apply aC;simp [aI];rw [bX (by omega)]
def Gn(B:Ls)(n:Nat)(A:Ls):List Stp:=(A.filter fun c=> !pP c (B.take n)).map (Stp.mk true)
theorem Mr(B:Ls)(n:Nat)(A:Ls)(k:Nat)(h:k<A.length):Gn B n (A.take (k+1))=Gn B n (A.take k)++if pP A[k] (B.take n)=true then [] else [⟨true,A[k]⟩]:=by
 unfold Gn;rw [bN A k h,fU,cN,gN];by_cases e:pP A[k] (B.take n)=true <;> simp [e]
theorem Jz(B:Ls)(n:Nat)(A:Ls):(Gn B n A).length<=A.length:=by
 unfold Gn;rw [bS];exact jD _ _
def Ko(A B:Ls):List Stp:=Gn B (iX B A) A++(B.drop (iX B A)).map (Stp.mk false)
def jF(a b:Ls):List Stp:=Ko (bK a) (bK b)
def Bn(B:Ls)(n k:Nat):List Stp:=((B.drop n).take k).map (Stp.mk false)
theorem Yp(B:Ls)(n k:Nat)(h:n+k<B.length):Bn B n (k+1)=Bn B n k++ [⟨false,B[n+k]⟩]:=by
 unfold Bn;rw [bN (B.drop n) k (by simp;omega),cN];simp
theorem aC5(B:Ls)(n j:Nat)(h:B.length<=n+j):Bn B n j=(B.drop n).map (Stp.mk false):=by
 unfold Bn;rw [bX (by simp;omega)]
theorem aDf(B:Ls)(n k:Nat):(Bn B n k).length<=k:=by simp [Bn];omega
@[simp] abbrev q40_3:Cfg:=⟨[4,6,30,44,50],[],[],[],[]⟩
theorem aGr(a b:Ls)(σ:List (List D))(ha:a.length<=10000)(hb:b.length<=10000):Ct prog 114 [dl a,dl b] σ (fun r σ'=>r= .sl true ((jF a b).map aMl)/\σ'=σ):=by
 unfold jF;have hca:=lB a;have hcb:=lB b;refine zf func114 ?_;refine zr q40_3 fun _ _ Z=>?_;simp(disch:=omega)[aB,aA];apply Z;refine zr q40_3 fun _ _ Z=>?_;refine zs 1 fun _ Y=>?_;simp(disch:=omega)[aB,aA];apply Y;refine aE fun _ Y=>?_;simp(disch:=omega)[aB,aA];refine cH (Cz a _ (by omega)) ?_;apply Y;refine zs 1 fun _ Y=>?_;simp(disch:=omega)[aB,aA];apply Y;refine aE fun _ Y=>?_;simp(disch:=omega)[aB,aA];refine cH (Cz b _ (by omega)) ?_;apply Y;simp(disch:=omega)[aB,aA];apply Z;refine zr q40_3 fun _ _ Z=>?_;refine zs 2 fun _ Y=>?_;simp(disch:=omega)[aB,aA];apply Y;refine aE fun _ Y=>?_;simp(disch:=omega)[aB,aA];refine cH (aLa (bK a) (bK b) _ (by omega) (by omega)) ?_;apply Y;simp(disch:=omega)[aB,aA];apply Z;refine zr q40_3 fun _ _ Z=>?_;simp(disch:=omega)[aB,aA];apply Z;apply aF;refine zk [0,1,4,5,6] ?_;refine zr q40_3 fun _ _ Z=>?_;simp(disch:=omega)[aB,aA];and_intros<;>(try omega);apply Z;apply aR;refine zk [1,4,5,6,18,19,20] ?_;have hkl:=Da (bK b) (bK a);refine aY (fun(k:Nat)=> [(20,.d (.int k)),(6,.d (.sl true ((Gn (bK b) (iX (bK b) (bK a)) ((bK a).take k)).map aMl)))]) [6,8,20,21,22,23,24,25,26,27,28,29,30,31,32,33,34,35] (fun(k:Nat)=>k<=(bK a).length) (fun(k:Nat)=>(bK a).length - k) (0) (by simp <;> rfl) ?_ ?_ ?_
 .simp [Gn]
 .simp
 rintro k hk;simp only [aQ,aP];have hcl:=Jz (bK b) (iX (bK b) (bK a)) ((bK a).take k);simp only [bE] at hcl;refine zr q40_3 fun _ _ Z=>?_;simp(disch:=omega)[aB,aA];apply Z;apply aF;refine zI ?_ ?_<;>intro c1<;>try simp at c1
 .apply jY;refine zr q40_3 fun _ _ Z=>?_;simp(disch:=omega)[aB,aA];and_intros<;>(try omega);apply Z;refine zr q40_3 fun _ _ Z=>?_;refine zs 4 fun _ Y=>?_;simp(disch:=omega)[aB,aA];and_intros<;>(try omega);apply Y;refine aE fun _ Y=>?_;simp(disch:=omega)[aB,aA];refine cH (yT ((bK b).take (iX (bK b) (bK a))) _ _ (by simp;omega)) ?_;apply Y;simp(disch:=omega)[aB,aA];apply Z;refine zI ?_ ?_<;>intro c2<;>try simp at c2
  .refine zk [1,4,5,6,8,18,19,20] ?_;refine zt q40_3 fun _ _ Z=>?_;simp(disch:=omega)[aB,aA];and_intros<;>(try omega);apply Z;apply zB;refine zk [1,4,5,6,18,19,20] ?_;refine zt q40_3 fun _ _ Z=>?_;simp(disch:=omega)[aB,aA];and_intros<;>(try omega);apply Z;refine zq (k+1) ?_ ?_ ?_
   .omega
   .try dsimp only
    omega
   simp(disch:=omega)[aB,aA,Mr,c2]
  apply nI;refine zk [1,4,5,6,18,19,20] ?_;refine zt q40_3 fun _ _ Z=>?_;simp(disch:=omega)[aB,aA];and_intros<;>(try omega);apply Z;refine zq (k+1) ?_ ?_ ?_
  .omega
  .try dsimp only
   omega
  simp(disch:=omega)[aB,aA,Mr,c2]
 apply zE;apply aF;refine zr q40_3 fun _ _ Z=>?_;simp(disch:=omega)[aB,aA];and_intros<;>(try omega);apply Z;apply aR;refine zk [4,6,38,39,40] ?_;refine aY (fun(j:Nat)=> [(40,.d (.int j)),(6,.d (.sl true ((Gn (bK b) (iX (bK b) (bK a)) (bK a)++Bn (bK b) (iX (bK b) (bK a)) j).map aMl)))]) [6,10,40,41,42,43,44,45,46,47,48,49] (fun(j:Nat)=>iX (bK b) (bK a)+j<=(bK b).length) (fun(j:Nat)=>(bK b).length - j) (0) (by simp <;> rfl) ?_ ?_ ?_
 .simp [Bn];rw [bX (by omega)];simp
 .simp;omega
 rintro j hj;simp only [aQ,aP];have hcl:=Jz (bK b) (iX (bK b) (bK a)) (bK a);have hcl2:=aDf (bK b) (iX (bK b) (bK a)) j;refine zr q40_3 fun _ _ Z=>?_;simp(disch:=omega)[aB,aA];apply Z;apply aF;refine zI ?_ ?_<;>intro c3<;>try simp at c3
 .apply jY;refine zr q40_3 fun _ _ Z=>?_;simp(disch:=omega)[aB,aA];and_intros<;>(try omega);apply Z;refine zt q40_3 fun _ _ Z=>?_;simp(disch:=omega)[aB,aA];and_intros<;>(try omega);apply Z;apply zB;refine zk [4,6,38,39,40] ?_;refine zt q40_3 fun _ _ Z=>?_;simp(disch:=omega)[aB,aA];and_intros<;>(try omega);apply Z;refine zq (j+1) ?_ ?_ ?_
  .omega
  .try dsimp only
   omega
  simp(disch:=omega)[aB,aA,Yp]
 apply zE;refine zr q40_3 fun _ _ Z=>?_;simp(disch:=omega)[aB,aA];apply Z;apply aC;simp [aI,Ko];rw [aC5 _ _ _ (by omega)];simp
def rK(out:Ls)(s:Stp):Ls:=if s.drop=true then kO out s.name else rC out s.name
def Ze(l:Ls)(S:List Stp):Ls:=S.foldl rK (bK l)
theorem jE(c:ByteArray)(l:Ls):pP c l=true↔c∈l:=by
 simp [pP]
theorem aAl(l:Ls)(c:ByteArray)(h:l.Nodup):(rC l c).Nodup:=by
 unfold rC;split
 .exact h
 rename_i hc;rw [jE] at hc;rw [lI];exact⟨h,by simp,by simp;intro a ha e;subst e;exact hc ha⟩
theorem oX(l:Ls):(bK l).Nodup:=by
 induction l using oB with
 | h0=>simp [bK]
 | h1 l x ih=>rw [mX];exact aAl _ _ ih
theorem Kc(B A:Ls):(B.take (iX B A)).Sublist A:=by
 induction A using oB with
 | h0=>simp [iX]
 | h1 A x ih=>
  rw [vJ];split
  .rename_i h;obtain⟨hn,hx⟩:=aO.1 h;rw [bN B _ hn,hx];exact ih.append (yJ _)
  exact ih.trans (List.sublist_append_left _ _)
theorem aIa {l r:Ls} {y x:ByteArray} (h:(l++ [y]).Sublist (r++ [x])):(l++ [y]).Sublist r\/(l.Sublist r/\y=x):=by
 rw [<- Dn] at h;simp only [List.reverse_append,yP,List.reverse_nil,aP,Ez] at h;cases h with
 | cons _ h=>left;rw [<- Dn];simpa using h
 | cons_cons _ h=>right;exact⟨by rw [<- Dn];exact h,rfl⟩
theorem aE7(B A:Ls):∀m,m<=B.length->(B.take m).Sublist A->m<=iX B A:=by
 induction A using oB with
 | h0=>intro m hm h;have:=h.length_le;simp only [bE,dX] at this;omega
 | h1 A x ih =>
  intro m hm h;rw [vJ];cases m with
  | zero=>exact iK _
  | succ m=>
   rw [bN B m (by omega)] at h;rcases aIa h with h | ⟨h,e⟩
   .rw [<- bN B m (by omega)] at h;have:=ih (m+1) hm h;split <;> omega
   have h1:=ih m (by omega) h;split
   .omega
   rename_i hne;by_cases e2:iX B A=m
   .exfalso;apply hne;rw [e2,aW (by omega),e]
   omega
theorem aQ2(a b:ByteArray):(a==b)=true↔a=b:=by
 cases a;cases b;show ByteArray.beq _ _=_↔_
 unfold ByteArray.beq;simp
instance :LawfulBEq ByteArray where
 eq_of_beq {a b} h:=(aQ2 a b).1 h
 rfl {a} :=(aQ2 a a).2 rfl
theorem Ki {L A:Ls} (h:L.Sublist A):A.Nodup->A.filter (fun c=>pP c L)=L:=by
 induction h with
 | slnil=>intro _;rfl
 | @cons L A a h ih =>
  intro hA;have hA:=iM.1 hA;have h1:pP a L=false:=by
   rw [pZ];intro e;exact hA.1 (h.subset ((jE _ _).1 e))
  rw [gN,aD (by simp [h1])];exact ih hA.2
 | @cons_cons L A a h ih =>
  intro hA;have hA:=iM.1 hA;rw [gN,aM ((jE _ _).2 (by simp))];congr 1;refine Eq.trans (gX fun c hc=>?_) (ih hA.2);rw [jA,jE,jE,bP];constructor
  .rintro(rfl | h2)
   .exact absurd hc hA.1
   exact h2
  exact .inr
theorem tP:∀(names X:Ls),(names.map (Stp.mk true)).foldl rK X=X.filter fun c=> !pP c names
 | [],X=>by
  rw [kU,qO,eq_comm,nJ];intro c _;have:pP c []=false:=by rw [pZ];intro e;have:=(jE _ _).1 e;simp at this
  simp [this]
 | n::names,X=>by
  rw [cD,dJ,tP names];have hs:rK X ⟨true,n⟩=kO X n:=rfl;rw [hs];unfold kO;rw [iN];refine gX fun c _=>?_;rw [jA];simp only [gO,lW,pZ,ne_eq,jE,bP,fN,not_or];exact⟨fun h=>⟨h.2,h.1⟩,fun h=>⟨h.2,h.1⟩⟩
theorem Bp:∀(Y X:Ls),(X++Y).Nodup->(Y.map (Stp.mk false)).foldl rK X=X++Y
 | [],X,_=>by simp
 | y :: Y, X, h => by
  have hs:rK X ⟨false,y⟩=X++ [y]:=by
   have hy:¬pP y X=true:=by
    rw [jE];intro e;exact(lI.1 h).2.2 y e y (by simp) rfl
   simp only [rK,rC,hy];simp
  rw [cD,dJ,hs,Bp Y (X++ [y]) (by simpa using h)];simp
theorem Yi(a b:Ls):Ze a (jF a b)=bK b:=by
 unfold Ze jF Ko Gn;rw [jO,tP];have h1:(bK a).filter (fun c=> !pP c ((bK a).filter fun c=> !pP c ((bK b).take (iX (bK b) (bK a)))))=(bK b).take (iX (bK b) (bK a)):=by
  refine Eq.trans (gX fun c hc=>?_) (Ki (Kc (bK b) (bK a)) (oX a));rw [jA];simp only [lW,pZ,ne_eq,jE,dD,not_and,Eu];exact⟨fun h=>h hc,fun h _=>h⟩
 rw [h1,Bp _ _ (by rw [fL];exact oX b),fL]
theorem aPy {B A:Ls} {n:Nat} (hn:n<=B.length)(h:(B.take n).isSublist A=true)(hm:∀m,n<m->m<=B.length->¬(B.take m).Sublist A):n=iX B A:=by
 have h1:=aE7 B A n hn (Pl.1 h);have h2:=Da B A;by_cases e:n<iX B A
 .exact absurd (Kc B A) (hm _ e h2)
 omega
structure ST where
 kind:Int
 ID:Int
 at_:Int
 deriving DecidableEq
@[simp] abbrev aZo(s:ST):D:= .agg [.v (.int .i64 s.kind),.v (.int .i64 s.ID),.v (.int .i64 s.at_)]
end Go.Proofs.YtbgfljpnhhdkoaaGreat
namespace Go.Proofs.YtbgfljpnhhdkoaaGreat.Lis
variable {ends:List Nat}{l:List Int}
def vX(l:List Int)(i:Nat):Int:=l.getD i 0
def aIs(l:List Int)(ends:List Nat)(x:Int):Nat:=(ends.takeWhile fun e=>decide (vX l e<x)).length
def Ob(ahead:List Int):Nat->Int->List Nat
 | 0,_=> []
 | n+1,c=>if c<0 then [] else c.toNat::Ob ahead n (ahead.getD c.toNat (-1))
def Do(l:List Int)(rH:List Nat)(i:Nat):Nat->Nat
 | 0=>1
 | k+1=>if vX l k<vX l i/\Do l rH i k<=rH.getD k 0 then rH.getD k 0+1 else Do l rH i k
def rH(l:List Int):Nat->List Nat
 | 0=> []
 | i+1=>rH l i++ [Do l (rH l i) i i]
def lT(l:List Int)(i:Nat):Nat:=(rH l (i+1)).getD i 0
theorem Db(l:List Int):∀n,(rH l n).length=n
 | 0=>rfl
 | n+1=>by simp [rH,Db l n]
theorem Wu(l:List Int):∀(n i:Nat),i<n->(rH l n).getD i 0=lT l i
 | n+1,i,h=>by
  by_cases e:i=n
  .subst e;rfl
  have:i<(rH l n).length:=by rw [Db];omega
  rw [show rH l (n+1)=rH l n++ [Do l (rH l n) n n] from rfl];rw [kZ,bA this,<- kZ];exact Wu l n i (by omega)
theorem aK4(l:List Int)(i:Nat):lT l i=Do l (rH l i) i i:=by
 unfold lT;rw [show rH l (i+1)=rH l i++ [Do l (rH l i) i i] from rfl,kZ,bT (by rw [Db];exact bC _),Db,lY];rfl
theorem Nd(l:List Int)(i:Nat):∀k,k<=i->1<=Do l (rH l i) i k/\(∀j,j<k->vX l j<vX l i->lT l j<Do l (rH l i) i k)/\(Do l (rH l i) i k=1\/∃j,j<k/\vX l j<vX l i/\lT l j+1=Do l (rH l i) i k)
 | 0,_=>⟨bC _,fun j h=>by omega,.inl rfl⟩
 | k + 1, hk => by
  obtain⟨h1,h2,h3⟩:=Nd l i k (by omega);have hg:=Wu l i k (by omega);simp only [Do,hg];by_cases c:vX l k<vX l i/\Do l (rH l i) i k<=lT l k
  .rw [aM c];refine⟨by omega,fun j hj hl=>?_,.inr ⟨k,by omega,c.1,rfl⟩⟩;by_cases e:j=k
   .subst e;omega
   have:=h2 j (by omega) hl;omega
  rw [aD c];refine⟨h1,fun j hj hl=>?_,?_⟩
  .by_cases e:j=k
   .subst e;by_cases c2:Do l (rH l i) i j<=lT l j
    .exact absurd ⟨hl,c2⟩ c
    omega
   exact h2 j (by omega) hl
  rcases h3 with h3 | ⟨j,a,b,d⟩
  .exact .inl h3
  exact .inr ⟨j,by omega,b,d⟩
theorem Lb(l:List Int)(i:Nat):1<=lT l i/\(∀j,j<i->vX l j<vX l i->lT l j<lT l i)/\(lT l i=1\/∃j,j<i/\vX l j<vX l i/\lT l j+1=lT l i):=by
 rw [aK4];exact Nd l i i (bC _)
def Dis(l:List Int):Prop:=∀i j,i<l.length->j<l.length->vX l i=vX l j->i=j
structure Inv(l:List Int)(i:Nat)(ends:List Nat):Prop where
 lt:∀p e,ends[p]?=some e->e<i/\lT l e=p+1/\∀k,k<i->lT l k=p+1->vX l e<=vX l k
 all:∀k,k<i->lT l k<=ends.length
 up:∀p e f,ends[p]?=some e->ends[p+1]?=some f->vX l e<vX l f
theorem Inv.mono {i:Nat} (h:Inv l i ends):∀(d p:Nat) (e f:Nat),ends[p]?=some e->ends[p+d]?=some f->vX l e<=vX l f
 | 0,p,e,f,h1,h2=>by rw [kG,h1] at h2;cases h2;exact nL _
 | d+1,p,e,f,h1,h2=>by
  have hlt:p+d<ends.length:=by have:=(aO.1 h2).1;omega
  have h3:ends[p+d]?=some ends[p+d]:=aW hlt;have:=h.mono d p e _ h1 h3;have:=h.up (p+d) _ f h3 h2;omega
theorem wU {α:Type} (p:α->Bool):∀(l:List α),(∀i a,i<(l.takeWhile p).length->l[i]?=some a->p a=true)/\(∀a,l[(l.takeWhile p).length]?=some a->p a=false)/\(l.takeWhile p).length<=l.length
 | []=>⟨fun i a h=>by simp at h,fun a h=>by simp at h,bC _⟩
 | x :: l => by
  obtain⟨h1,h2,h3⟩:=wU p l;by_cases hx:p x=true
  .rw [List.takeWhile_cons_of_pos hx];refine⟨fun i a hi ha=>?_,fun a ha=>h2 a (by simpa using ha),by simp;omega⟩;cases i with
   | zero=>simp at ha;subst ha;exact hx
   | succ i=>exact h1 i a (by simpa using hi) (by simpa using ha)
  rw [List.takeWhile_cons_of_neg hx];refine⟨fun i a hi=>by simp at hi,fun a ha=>?_,iK _⟩;simp at ha;subst ha;simpa using hx
theorem Inv.next {i:Nat} (h:Inv l i ends)(hi:i<l.length)(hd:Dis l):
  let n:=aIs l ends (vX l i)
  lT l i=n+1/\n<=ends.length/\Inv l (i+1) (if n=ends.length then ends++ [i] else if vX l i<vX l (ends.getD n 0)then ends.set n i else ends):=by
 intro n;obtain⟨t1,t2,t3⟩:=wU (fun e=>decide (vX l e<vX l i)) ends;have hn:n=(ends.takeWhile fun e=>decide (vX l e<vX l i)).length:=rfl;rw [<- hn] at t1 t2 t3;obtain⟨s1,s2,s3⟩:=Lb l i;have hlen:lT l i=n+1:=by
  have hle:lT l i<=n+1:=by
   rcases s3 with s3 | ⟨j,a,b,c⟩
   .omega
   by_cases hp:lT l j<=n
   .omega
   exfalso;have hj1:=h.all j a;have hjj:=(Lb l j).1;have hlt:n<ends.length:=by omega
   have hn2:ends[n]?=some ends[n]:=aW hlt;have hx:=t2 _ hn2;have hp2:ends[lT l j - 1]?=some (ends[lT l j - 1]'(by omega)):=aW (by omega);have hm:=(h.lt _ _ hp2).2.2 j a (by omega);have hmo:=h.mono (lT l j - 1 - n) n _ _ hn2 (by rw [show n+(lT l j - 1 - n)=lT l j - 1 by omega];exact hp2);simp at hx;omega
  by_cases h0:n=0
  .omega
  have hlt:n - 1<ends.length:=by omega
  have hp:ends[n - 1]?=some ends[n - 1]:=aW hlt;have hx:=t1 (n - 1) _ (by omega) hp;obtain⟨e1,e2,_⟩:=h.lt _ _ hp;have:=s2 _ e1 (by simpa using hx);omega
 refine⟨hlen,t3,?_⟩;have hsplit:∀k,k<i+1->k<i\/k=i:=fun k hk=>by omega
 by_cases c1:n=ends.length
 .rw [aM c1];refine⟨fun p e hp=>?_,fun k hk=>?_,fun p e f he hf=>?_⟩
  .by_cases hpl:p<ends.length
   .rw [bA hpl] at hp;obtain⟨a,b,c⟩:=h.lt p e hp;refine⟨by omega,b,fun k hk hl=>?_⟩;rcases hsplit k hk with hk | rfl
    .exact c k hk hl
    omega
   rw [bT (by omega)] at hp;have hp0:p - ends.length=0:=by
    have:=(aO.1 hp).1;simp at this;omega
   rw [hp0] at hp;simp at hp;subst hp;refine⟨by omega,by omega,fun k hk hl=>?_⟩;rcases hsplit k hk with hk | rfl
   .have:=h.all k hk;omega
   exact nL _
  .rw [bB,uL];rcases hsplit k hk with hk | rfl
   .have:=h.all k hk;omega
   omega
  by_cases hpl:p+1<ends.length
  .rw [bA (by omega)] at he;rw [bA hpl] at hf;exact h.up p e f he hf
  have hfl:=(aO.1 hf).1;simp at hfl;have hpe:p+1=ends.length:=by omega
  rw [bA (by omega)] at he;rw [bT (by omega),show p+1 - ends.length=0 by omega] at hf;simp at hf;subst hf;have:=t1 p e (by omega) he;simpa using this
 rw [aD c1];have hlt:n<ends.length:=by omega
 have hn2:ends[n]?=some ends[n]:=aW hlt;have hgd:ends.getD n 0=ends[n]:=by rw [kZ,hn2];rfl
 have hx:=t2 _ hn2;have hx1:vX l i<=vX l ends[n]:=by simpa using hx
 obtain⟨e1,e2,e3⟩:=h.lt _ _ hn2;have hne:vX l i≠vX l ends[n]:=fun e=>by
  have:=hd i ends[n] hi (by omega) e;omega
 have c2:vX l i<vX l (ends.getD n 0):=by rw [hgd];omega
 rw [aM c2];refine⟨fun p e hp=>?_,fun k hk=>?_,fun p e f he hf=>?_⟩
 .rw [cE] at hp;by_cases hpn:n=p
  .subst hpn;rw [aM rfl,aM hlt] at hp;cases hp;refine⟨by omega,hlen,fun k hk hl=>?_⟩;rcases hsplit k hk with hk | rfl
   .have:=e3 k hk hl;omega
   exact nL _
  rw [aD hpn] at hp;obtain⟨a,b,c⟩:=h.lt p e hp;refine⟨by omega,b,fun k hk hl=>?_⟩;rcases hsplit k hk with hk | rfl
  .exact c k hk hl
  omega
 .rw [cF];rcases hsplit k hk with hk | rfl
  .exact h.all k hk
  omega
 rw [cE] at he hf;by_cases h1:n=p
 .subst h1;rw [aM rfl,aM hlt] at he;rw [aD (by omega)] at hf;cases he;have:=h.up n _ f hn2 hf;omega
 rw [aD h1] at he;by_cases h2:n=p+1
 .rw [aM h2,aM hlt] at hf;cases hf;have:=t1 p e (by omega) he;simpa using this
 rw [aD h2] at hf;exact h.up p e f he hf
end Go.Proofs.YtbgfljpnhhdkoaaGreat.Lis
namespace Go.Proofs.YtbgfljpnhhdkoaaGreat
open Go Go.Vm
variable {a b l now os:List Int}{x:Int}
def plc(l:List Int)(x:Int):Int:=aDj x l+1
theorem aKa (h:x∈l):∃k:Nat,∃hk:k<l.length,aDj x l=k/\l[k]=x/\x∉l.take k:=by
 unfold aDj vY;split
 .rename_i k hf;rw [qH] at hf;obtain⟨hk,he,hn⟩:=hf;refine⟨k,hk,rfl,by simpa using he,fun hx=>?_⟩;obtain⟨j,hj⟩:=eR hx;rw [eN] at hj;split at hj
  .rename_i hjk;have:=hn j hjk;rw [aW (by omega)] at hj;simp at hj;simp [hj] at this
  cases hj
 rename_i hf;rw [qF] at hf;have:=hf x h;simp at this
def at_(l:List Int)(x:Int):Int:=if x∈l then plc l x else 0
def aQ0(a b:List Int):List ST:=(a.filter fun x=> !decide (x∈b)).map fun x=>⟨1,x,0⟩
def aLi(b now:List Int)(i:Nat):Nat:=if i+1<b.length then(aDj (b[i+1]?.getD 0) now).toNat else now.length
def aJr(now:List Int)(x:Int):List Int:=now.filter fun y=> !decide (y=x)
def vT(a now:List Int)(x:Int):List Int:=if x∈a then aJr now x else now
def stB(a b os:List Int)(i:Nat)(s:List Int×List ST):List Int×List ST:=
 if b[i]?.getD 0∈os then s else
 (fM (vT a s.1 (b[i]?.getD 0)) (aLi b (vT a s.1 (b[i]?.getD 0)) i) (b[i]?.getD 0),s.2++ [⟨if b[i]?.getD 0∈a then 3 else 2,b[i]?.getD 0,aLi b (vT a s.1 (b[i]?.getD 0)) i⟩])
structure InvB(a b os:List Int)(k:Nat)(now:List Int):Prop where
 stay:∀x∈os,x∈now
 done:∀j,b.length - k<=j->j<b.length->(b[j]?.getD 0)∈now
 len:now.length<=a.length+k
theorem Jt {i:Nat} {y:Int} :y∈fM l i x↔y=x\/y∈l:=by
 unfold fM;rw [bQ,bP];constructor
 .rintro(h | h | h)
  .exact .inr (mD h)
  .exact .inl h
  exact .inr (xQ h)
 rintro(h | h)
 .exact .inr (.inl h)
 rw [<- fL i l,bQ] at h;rcases h with h | h
 .exact .inl h
 exact .inr (.inr h)
theorem aMd(a now:List Int)(x:Int):(vT a now x).length<=now.length:=by
 unfold vT aJr;split
 .exact jD _ _
 exact bC _
theorem Kv {y:Int} (h:y∈now)(hne:y≠x):y∈vT a now x:=by
 unfold vT aJr;split
 .simp [h,hne]
 exact h
theorem aBo (hb:b.Nodup) {i j:Nat} (hi:i<b.length)(hj:j<b.length)(h:i≠j):b[i]?.getD 0≠b[j]?.getD 0:=by
 rw [aW hi,aW hj];intro e;exact h ((List.getElem_inj hb).1 (by simpa using e))
theorem aRo {k:Nat} (hb:b.Nodup)(hk:k<b.length)(h:InvB a b os k now)(hn:¬(b[b.length - 1 - k]?.getD 0)∈os):
  aLi b (vT a now (b[b.length - 1 - k]?.getD 0)) (b.length - 1 - k)<=(vT a now (b[b.length - 1 - k]?.getD 0)).length/\
  ((b.length - 1 - k:Nat)+1<b.length->aDj (b[b.length - 1 - k+1]?.getD 0) (vT a now (b[b.length - 1 - k]?.getD 0))=(aLi b (vT a now (b[b.length - 1 - k]?.getD 0)) (b.length - 1 - k):Nat)):=by
 unfold aLi;split
 .rename_i hlt;have hm:(b[b.length - 1 - k+1]?.getD 0)∈vT a now (b[b.length - 1 - k]?.getD 0):=Kv (h.done _ (by omega) (by omega)) (aBo hb (by omega) (by omega) (by omega));obtain⟨j,hj,h1,_⟩:=aKa hm;exact⟨by omega,fun _=>by omega⟩
 exact⟨bC _,fun h=>by omega⟩
theorem InvB.zero (h:∀x∈os,x∈a/\x∈b):InvB a b os 0 (a.filter fun x=>decide (x∈b)):=
 ⟨fun x hx=>by simp [h x hx],fun j h1 h2=>by omega,by simpa using List.length_filter_le _ _⟩
theorem InvB.next {k:Nat} {s:List Int×List ST} (hb:b.Nodup)(hk:k<b.length)(h:InvB a b os k s.1):InvB a b os (k+1) (stB a b os (b.length - 1 - k) s).1:=by
 have hcase:∀j,b.length - (k+1)<=j->j<b.length->j=b.length - 1 - k\/b.length - k<=j:=fun j h1 h2=>by omega
 unfold stB;by_cases hx:b[b.length - 1 - k]?.getD 0∈os
 .rw [aM hx];refine⟨h.stay,fun j h1 h2=>?_,by have:=h.len;omega⟩;rcases hcase j h1 h2 with rfl | hj
  .exact h.stay _ hx
  exact h.done j hj h2
 rw [aD hx];obtain⟨p1,p2⟩:=aRo hb hk h hx;refine⟨fun x hxo=>?_,fun j h1 h2=>?_,?_⟩
 .exact Jt.2 (.inr (Kv (h.stay x hxo) (by rintro rfl;exact hx hxo)))
 .rcases hcase j h1 h2 with rfl | hj
  .exact Jt.2 (.inl rfl)
  exact Jt.2 (.inr (Kv (h.done j hj h2) (aBo hb h2 (by omega) (by omega))))
 have:=aMd a s.1 (b[b.length - 1 - k]?.getD 0);have:=h.len;rw [jV _ _ _ p1];omega
end Go.Proofs.YtbgfljpnhhdkoaaGreat

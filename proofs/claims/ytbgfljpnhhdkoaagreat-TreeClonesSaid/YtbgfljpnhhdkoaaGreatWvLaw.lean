import Derived.Test.YtbgfljpnhhdkoaaGreatWkAr9
import Derived.Test.YtbgfljpnhhdkoaaGreatVmTab
import Derived.Test.YtbgfljpnhhdkoaaGreatVmZ
import Derived.Test.YtbgfljpnhhdkoaaGreatWkAr4
set_option linter.all false
set_option maxHeartbeats 8000000
set_option maxRecDepth 20000
open Go.Proofs.Tryz
namespace Go.Proofs.YtbgfljpnhhdkoaaGreat
open Go Go.Vm
structure Stp where
 drop:Bool
 name:ByteArray
 deriving DecidableEq
@[simp] abbrev aJg(s:Stp):D:= .agg [.v (.bool s.drop),.v (.string s.name)]
structure SA where
 drop:Bool
 name:ByteArray
 value:ByteArray
 deriving DecidableEq
@[simp] abbrev Qf(s:SA):D:= .agg [.v (.bool s.drop),.v (.string s.name),.v (.string s.value)]
structure SI where
 drop:Bool
 name:ByteArray
 value:Int
 deriving DecidableEq
@[simp] abbrev Sf(s:SI):D:= .agg [.v (.bool s.drop),.v (.string s.name),.v (.int .i64 s.value)]
structure OW where
 classes:(List ByteArray)
 attrs:(List AT)
 styles:(List PI)
 deriving DecidableEq
@[simp] abbrev El(s:OW):D:= .agg [.sl false (s.classes.map D.str),.sl false (s.attrs.map cY),.sl false (s.styles.map cQ)]
@[simp] abbrev aY3(s:OW):D:= .agg [.sl true (s.classes.map D.str),.sl true (s.attrs.map cY),.sl true (s.styles.map cQ)]
def bV(l:Ls):Ls:=l.foldl rF []
theorem mT(l:Ls)(x:ByteArray):bV (l++ [x])=rF (bV l) x:=by simp [bV]
theorem Ac(l:Ls)(k:Nat)(h:k<l.length):bV (l.take (k+1))=rF (bV (l.take k)) l[k]:=by rw [bS l k h,mT]
theorem aL8(c x:ByteArray)(l:Ls):has c (rF l x)=(has c l || decide (x=c)):=by
 unfold rF;split
 .rename_i h;by_cases e:x=c
  .subst e;simp [h]
  simp [e]
 exact Dc c x l
theorem Gb(c:ByteArray)(l:Ls):has c (bV l)=has c l:=by
 induction l using pH with
 | h0=>rfl
 | h1 l x ih=>rw [mT,aL8,Dc,ih]
theorem oG(l:Ls):(bV l).length<=l.length:=by
 induction l using pH with
 | h0=>exact aV _
 | h1 l x ih=>rw [mT];have:=aLf (bV l) x;simp;omega
@[simp] abbrev q46_1:Cfg:=⟨[2,3,20,25],[],[],[],[]⟩
theorem aC8(l:Ls)(σ:List (List D))(hl:l.length<=1000000):Ct prog 96 [dl l] σ (fun r σ'=>r=dlo (bV l)/\σ'=σ):=by
 refine zf func96 ?_;refine zr q46_1 fun _ _ Z=>?_;simp(disch:=omega);apply Z;refine zr q46_1 fun _ _ Z=>?_;simp(disch:=omega);and_intros<;>(try omega);apply Z;apply aE;refine zr q46_1 fun _ _ Z=>?_;simp(disch:=omega);and_intros<;>(try omega);apply Z;apply aR;refine zk [0,2,3,7,8,9] ?_;refine bA (fun(k:Nat)=> [(9,.d (.int k)),(3,.d (dlo (bV (l.take k))))]) [3,4,5,9,10,11,12,13,14,15,16,17,18,19,20,21,22,23,24] (fun(k:Nat)=>k<=l.length) (fun(k:Nat)=>l.length - k) (0) (by simp <;> rfl) ?_ ?_ ?_
 .simp [bV]
 .simp
 rintro k hk;simp only [aQ,aP];have hcl:=oG (l.take k);simp only [bG] at hcl;refine zr q46_1 fun _ _ Z=>?_;simp(disch:=omega);apply Z;apply aE;refine zI ?_ ?_<;>intro c1<;>try simp at c1
 .apply kP;refine zr q46_1 fun _ _ Z=>?_;simp(disch:=omega);and_intros<;>(try omega);apply Z;refine zk [0,2,3,4,5,7,8,9] ?_;refine zr q46_1 fun _ _ Z=>?_;refine zs 4 fun _ Y=>?_;simp(disch:=omega);and_intros<;>(try omega);apply Y;refine aF fun _ Y=>?_;simp(disch:=omega);refine cU (Qz (l.take k) _ _ (by simp;omega)) ?_;apply Y;simp(disch:=omega);apply Z;refine zI ?_ ?_<;>intro c2<;>try simp at c2
  .refine zk [0,2,3,5,7,8,9] ?_;refine zt q46_1 fun _ _ Z=>?_;simp(disch:=omega);and_intros<;>(try omega);apply Z;apply zB;refine zk [0,2,3,7,8,9] ?_;refine zt q46_1 fun _ _ Z=>?_;simp(disch:=omega);and_intros<;>(try omega);apply Z;refine zq (k+1) ?_ ?_ ?_
   .omega
   .try dsimp only
    omega
   simp(disch:=omega)[Ac,rF,Gb,c2]
  apply nS;refine zk [0,2,3,7,8,9] ?_;refine zt q46_1 fun _ _ Z=>?_;simp(disch:=omega);and_intros<;>(try omega);apply Z;refine zq (k+1) ?_ ?_ ?_
  .omega
  .try dsimp only
   omega
  simp(disch:=omega)[Ac,rF,Gb,c2]
 apply zE;refine zr q46_1 fun _ _ Z=>?_;simp(disch:=omega);apply Z;apply aC;simp [aH];rw [cC (by omega)]
@[simp] abbrev q46_2:Cfg:=⟨[2,3,16],[],[],[],[]⟩
theorem Bx(l:Ls)(σ:List (List D))(hl:l.length<=100000):Ct prog 106 [dl l] σ (fun r σ'=>r=dlo (bV l)/\σ'=σ):=by
 refine zf func106 ?_;refine zr q46_2 fun _ _ Z=>?_;simp(disch:=omega);apply Z;refine zr q46_2 fun _ _ Z=>?_;simp(disch:=omega);apply Z;apply aE;refine zr q46_2 fun _ _ Z=>?_;simp(disch:=omega);and_intros<;>(try omega);apply Z;apply aR;refine zk [2,3,6,7,8] ?_;refine bA (fun(k:Nat)=> [(8,.d (.int k)),(3,.d (dlo (bV (l.take k))))]) [3,5,8,9,10,11,12,13,14,15] (fun(k:Nat)=>k<=l.length) (fun(k:Nat)=>l.length - k) (0) (by simp <;> rfl) ?_ ?_ ?_
 .simp [bV]
 .simp
 rintro k hk;simp only [aQ,aP];have hcl:=oG (l.take k);simp only [bG] at hcl;refine zr q46_2 fun _ _ Z=>?_;simp(disch:=omega);apply Z;apply aE;refine zI ?_ ?_<;>intro c1<;>try simp at c1
 .apply kP;refine zr q46_2 fun _ _ Z=>?_;simp(disch:=omega);and_intros<;>(try omega);apply Z;refine zt q46_2 fun _ _ Z=>?_;refine zs 2 fun _ Y=>?_;simp(disch:=omega);apply Y;refine aF fun _ Y=>?_;simp(disch:=omega);refine cU (aJ2 (bV (l.take k)) _ _ (by omega)) ?_;apply Y;simp(disch:=omega);apply Z;apply zB;refine zk [2,3,6,7,8] ?_;refine zt q46_2 fun _ _ Z=>?_;simp(disch:=omega);and_intros<;>(try omega);apply Z;refine zq (k+1) ?_ ?_ ?_
  .omega
  .try dsimp only
   omega
  simp(disch:=omega)[Ac]
 apply zE;refine zr q46_2 fun _ _ Z=>?_;simp(disch:=omega);apply Z;apply aC;simp [aH];rw [cC (by omega)]
def jX(b:Ls):Ls->Nat:=fun a=>a.foldl (fun n c=>if b[n]?=some c then n+1 else n) 0
theorem Ao(b a:Ls)(x:ByteArray):jX b (a++ [x])=if b[jX b a]?=some x then jX b a+1 else jX b a:=by
 unfold jX;rw [jL];rfl
theorem Ad(b a:Ls)(k:Nat)(h:k<a.length):jX b (a.take (k+1))=if b[jX b (a.take k)]?=some a[k] then jX b (a.take k)+1 else jX b (a.take k):=by
 rw [bS a k h,Ao]
theorem Uc(b a:Ls):jX b a<=b.length:=by
 induction a using pH with
 | h0=>exact iI _
 | h1 l x ih=>
  rw [Ao];split
  .rename_i h;have:=(aN.1 h).1;omega
  exact ih
theorem aKk(a b:Ls)(σ:List (List D))(ha:a.length<=1000000)(hb:b.length<=1000000):Ct prog 194 [dl a,dl b] σ (fun r σ'=>r= .int (jX b a)/\σ'=σ):=by
 refine zf func194 ?_;refine bF fun _ _ Z=>?_;simp(disch:=omega);apply Z;refine bF fun _ _ Z=>?_;simp(disch:=omega);apply Z;apply aE;refine bF fun _ _ Z=>?_;simp(disch:=omega);and_intros<;>(try omega);apply Z;apply aR;refine zk [1,4,5,8,9,10] ?_;refine bA (fun(k:Nat)=> [(10,.d (.int k)),(5,.d (.int (jX b (a.take k))))]) [5,7,10,11,12,13,14,15,16,17,18,19,20,21,22,23,24,25,26,27,28] (fun(k:Nat)=>k<=a.length) (fun(k:Nat)=>a.length - k) (0) (by simp <;> rfl) ?_ ?_ ?_
 .simp [jX]
 .simp
 rintro k hk;simp only [aQ,aP];have hcl:=Uc b (a.take k);refine bF fun _ _ Z=>?_;simp(disch:=omega);apply Z;apply aE;refine zI ?_ ?_<;>intro c1<;>try simp at c1
 .apply kP;refine bF fun _ _ Z=>?_;simp(disch:=omega);and_intros<;>(try omega);apply Z;refine zk [1,4,5,7,8,9,10] ?_;refine mK ⟨[],[],[],[],[]⟩ fun all hall _ Z=>?_;have ga4:aO all 4=some 18:=hall 4;refine zs 5 fun _ Y=>?_;simp(disch:=omega)[ga4];and_intros<;>(try omega);apply Y;refine zb 18 ?_ ?_<;>intro g2<;>try simp at g2
  .simp(disch:=omega)[ga4];and_intros<;>(try omega);apply Z;refine zI ?_ ?_<;>intro c3<;>try simp at c3
   .refine zk [1,4,5,8,9,10] ?_;refine qJ fun _ _ Z=>?_;simp(disch:=omega);and_intros<;>(try omega);apply Z;apply zB;refine qJ fun _ _ Z=>?_;simp(disch:=omega);and_intros<;>(try omega);apply Z;refine zq (k+1) ?_ ?_ ?_
    .omega
    .try dsimp only
     omega
    simp(disch:=omega) [Ad,g2,c3]
   apply nS;refine zk [1,4,5,8,9,10] ?_;refine qJ fun _ _ Z=>?_;simp(disch:=omega);and_intros<;>(try omega);apply Z;refine zq (k+1) ?_ ?_ ?_
   .omega
   .try dsimp only
    omega
   simp(disch:=omega) [Ad,g2,c3]
  simp(disch:=omega)[ga4];apply Z;refine aZ (t:=false) (by simp) (fun h=>by cases h) (fun _=>?_);apply nS;refine zk [1,4,5,8,9,10] ?_;refine qJ fun _ _ Z=>?_;simp(disch:=omega);and_intros<;>(try omega);apply Z;refine zq (k+1) ?_ ?_ ?_
  .omega
  .try dsimp only
   omega
  simp(disch:=omega) [Ad,g2]
 apply zE;refine bF fun _ _ Z=>?_;simp(disch:=omega);apply Z;apply aC;simp [aH];rw [cC (by omega)]
def Hu(B:Ls)(n:Nat)(A:Ls):List Stp:=(A.filter fun c=> !has c (B.take n)).map (Stp.mk true)
theorem Oq(B:Ls)(n:Nat)(A:Ls)(k:Nat)(h:k<A.length):Hu B n (A.take (k+1))=Hu B n (A.take k)++if has A[k] (B.take n)=true then [] else [⟨true,A[k]⟩]:=by
 unfold Hu;rw [bS A k h,fY,cN,gP];by_cases e:has A[k] (B.take n)=true <;> simp [e]
theorem Iq(B:Ls)(n:Nat)(A:Ls):(Hu B n A).length<=A.length:=by
 unfold Hu;rw [bQ];exact kH _ _
def On(A B:Ls):List Stp:=Hu B (jX B A) A++(B.drop (jX B A)).map (Stp.mk false)
def jN(a b:Ls):List Stp:=On (bV a) (bV b)
def Dm(B:Ls)(n k:Nat):List Stp:=((B.drop n).take k).map (Stp.mk false)
theorem aAl(B:Ls)(n k:Nat)(h:n+k<B.length):Dm B n (k+1)=Dm B n k++ [⟨false,B[n+k]⟩]:=by
 unfold Dm;rw [bS (B.drop n) k (by simp;omega),cN];simp
theorem aCz(B:Ls)(n j:Nat)(h:B.length<=n+j):Dm B n j=(B.drop n).map (Stp.mk false):=by
 unfold Dm;rw [cC (by simp;omega)]
theorem aGh(B:Ls)(n k:Nat):(Dm B n k).length<=k:=by simp [Dm];omega
@[simp] abbrev q46_3:Cfg:=⟨[4,6,30,44,50],[],[],[],[]⟩
theorem aLg(a b:Ls)(σ:List (List D))(ha:a.length<=10000)(hb:b.length<=10000):Ct prog 114 [dl a,dl b] σ (fun r σ'=>r= .sl true ((jN a b).map aJg)/\σ'=σ):=by
 unfold jN;have hca:=oG a;have hcb:=oG b;refine zf func114 ?_;refine zr q46_3 fun _ _ Z=>?_;simp(disch:=omega)[aB,aA];apply Z;refine zr q46_3 fun _ _ Z=>?_;refine zs 1 fun _ Y=>?_;simp(disch:=omega)[aB,aA];apply Y;refine aF fun _ Y=>?_;simp(disch:=omega)[aB,aA];refine cU (Bx a _ (by omega)) ?_;apply Y;refine zs 1 fun _ Y=>?_;simp(disch:=omega)[aB,aA];apply Y;refine aF fun _ Y=>?_;simp(disch:=omega)[aB,aA];refine cU (Bx b _ (by omega)) ?_;apply Y;simp(disch:=omega)[aB,aA];apply Z;refine zr q46_3 fun _ _ Z=>?_;refine zs 2 fun _ Y=>?_;simp(disch:=omega)[aB,aA];apply Y;refine aF fun _ Y=>?_;simp(disch:=omega)[aB,aA];refine cU (aKk (bV a) (bV b) _ (by omega) (by omega)) ?_;apply Y;simp(disch:=omega)[aB,aA];apply Z;refine zr q46_3 fun _ _ Z=>?_;simp(disch:=omega)[aB,aA];apply Z;apply aE;refine zk [0,1,4,5,6] ?_;refine zr q46_3 fun _ _ Z=>?_;simp(disch:=omega)[aB,aA];and_intros<;>(try omega);apply Z;apply aR;refine zk [1,4,5,6,18,19,20] ?_;have hkl:=Uc (bV b) (bV a);refine bA (fun(k:Nat)=> [(20,.d (.int k)),(6,.d (.sl true ((Hu (bV b) (jX (bV b) (bV a)) ((bV a).take k)).map aJg)))]) [6,8,20,21,22,23,24,25,26,27,28,29,30,31,32,33,34,35] (fun(k:Nat)=>k<=(bV a).length) (fun(k:Nat)=>(bV a).length - k) (0) (by simp <;> rfl) ?_ ?_ ?_
 .simp [Hu]
 .simp
 rintro k hk;simp only [aQ,aP];have hcl:=Iq (bV b) (jX (bV b) (bV a)) ((bV a).take k);simp only [bG] at hcl;refine zr q46_3 fun _ _ Z=>?_;simp(disch:=omega)[aB,aA];apply Z;apply aE;refine zI ?_ ?_<;>intro c1<;>try simp at c1
 .apply kP;refine zr q46_3 fun _ _ Z=>?_;simp(disch:=omega)[aB,aA];and_intros<;>(try omega);apply Z;refine zr q46_3 fun _ _ Z=>?_;refine zs 4 fun _ Y=>?_;simp(disch:=omega)[aB,aA];and_intros<;>(try omega);apply Y;refine aF fun _ Y=>?_;simp(disch:=omega)[aB,aA];refine cU (yJ ((bV b).take (jX (bV b) (bV a))) _ _ (by simp;omega)) ?_;apply Y;simp(disch:=omega)[aB,aA];apply Z;refine zI ?_ ?_<;>intro c2<;>try simp at c2
  .refine zk [1,4,5,6,8,18,19,20] ?_;refine zt q46_3 fun _ _ Z=>?_;simp(disch:=omega)[aB,aA];and_intros<;>(try omega);apply Z;apply zB;refine zk [1,4,5,6,18,19,20] ?_;refine zt q46_3 fun _ _ Z=>?_;simp(disch:=omega)[aB,aA];and_intros<;>(try omega);apply Z;refine zq (k+1) ?_ ?_ ?_
   .omega
   .try dsimp only
    omega
   simp(disch:=omega)[aB,aA,Oq,c2]
  apply nS;refine zk [1,4,5,6,18,19,20] ?_;refine zt q46_3 fun _ _ Z=>?_;simp(disch:=omega)[aB,aA];and_intros<;>(try omega);apply Z;refine zq (k+1) ?_ ?_ ?_
  .omega
  .try dsimp only
   omega
  simp(disch:=omega)[aB,aA,Oq,c2]
 apply zE;apply aE;refine zr q46_3 fun _ _ Z=>?_;simp(disch:=omega)[aB,aA];and_intros<;>(try omega);apply Z;apply aR;refine zk [4,6,38,39,40] ?_;refine bA (fun(j:Nat)=> [(40,.d (.int j)),(6,.d (.sl true ((Hu (bV b) (jX (bV b) (bV a)) (bV a)++Dm (bV b) (jX (bV b) (bV a)) j).map aJg)))]) [6,10,40,41,42,43,44,45,46,47,48,49] (fun(j:Nat)=>jX (bV b) (bV a)+j<=(bV b).length) (fun(j:Nat)=>(bV b).length - j) (0) (by simp <;> rfl) ?_ ?_ ?_
 .simp [Dm];rw [cC (by omega)];simp
 .simp;omega
 rintro j hj;simp only [aQ,aP];have hcl:=Iq (bV b) (jX (bV b) (bV a)) (bV a);have hcl2:=aGh (bV b) (jX (bV b) (bV a)) j;refine zr q46_3 fun _ _ Z=>?_;simp(disch:=omega)[aB,aA];apply Z;apply aE;refine zI ?_ ?_<;>intro c3<;>try simp at c3
 .apply kP;refine zr q46_3 fun _ _ Z=>?_;simp(disch:=omega)[aB,aA];and_intros<;>(try omega);apply Z;refine zt q46_3 fun _ _ Z=>?_;simp(disch:=omega)[aB,aA];and_intros<;>(try omega);apply Z;apply zB;refine zk [4,6,38,39,40] ?_;refine zt q46_3 fun _ _ Z=>?_;simp(disch:=omega)[aB,aA];and_intros<;>(try omega);apply Z;refine zq (j+1) ?_ ?_ ?_
  .omega
  .try dsimp only
   omega
  simp(disch:=omega)[aB,aA,aAl]
 apply zE;refine zr q46_3 fun _ _ Z=>?_;simp(disch:=omega)[aB,aA];apply Z;apply aC;simp [aH,On];rw [aCz _ _ _ (by omega)];simp
def rP(out:Ls)(s:Stp):Ls:=if s.drop=true then kM out s.name else rF out s.name
def Yl(l:Ls)(S:List Stp):Ls:=S.foldl rP (bV l)
theorem jG(c:ByteArray)(l:Ls):has c l=true↔c∈l:=by
 simp [has]
theorem aAb(l:Ls)(c:ByteArray)(h:l.Nodup):(rF l c).Nodup:=by
 unfold rF;split
 .exact h
 rename_i hc;rw [jG] at hc;rw [mB];exact⟨h,by simp,by simp;intro a ha e;subst e;exact hc ha⟩
theorem oV(l:Ls):(bV l).Nodup:=by
 induction l using pH with
 | h0=>simp [bV]
 | h1 l x ih=>rw [mT];exact aAb _ _ ih
theorem Tx(B A:Ls):(B.take (jX B A)).Sublist A:=by
 induction A using pH with
 | h0=>simp [jX]
 | h1 A x ih=>
  rw [Ao];split
  .rename_i h;obtain⟨hn,hx⟩:=aN.1 h;rw [bS B _ hn,hx];exact ih.append (zD _)
  exact ih.trans (List.sublist_append_left _ _)
theorem aQx(a b:ByteArray):(a==b)=true↔a=b:=by
 cases a;cases b;show ByteArray.beq _ _=_↔_
 unfold ByteArray.beq;simp
instance :LawfulBEq ByteArray where
 eq_of_beq {a b} h:=(aQx a b).1 h
 rfl {a} :=(aQx a a).2 rfl
theorem Ko {L A:Ls} (h:L.Sublist A):A.Nodup->A.filter (fun c=>has c L)=L:=by
 induction h with
 | slnil=>intro _;rfl
 | @cons L A a h ih =>
  intro hA;have hA:=gW.1 hA;have h1:has a L=false:=by
   rw [qN];intro e;exact hA.1 (h.subset ((jG _ _).1 e))
  rw [gP,aD (by simp [h1])];exact ih hA.2
 | @cons_cons L A a h ih =>
  intro hA;have hA:=gW.1 hA;rw [gP,aL ((jG _ _).2 (by simp))];congr 1;refine Eq.trans (gX fun c hc=>?_) (ih hA.2);rw [iZ,jG,jG,bN];constructor
  .rintro(rfl | h2)
   .exact absurd hc hA.1
   exact h2
  exact .inr
theorem tI:∀(names X:Ls),(names.map (Stp.mk true)).foldl rP X=X.filter fun c=> !has c names
 | [],X=>by
  rw [iW,pR,eq_comm,nL];intro c _;have:has c []=false:=by rw [qN];intro e;have:=(jG _ _).1 e;simp at this
  simp [this]
 | n::names,X=>by
  rw [cE,dM,tI names];have hs:rP X ⟨true,n⟩=kM X n:=rfl;rw [hs];unfold kM;rw [iL];refine gX fun c _=>?_;rw [iZ];simp only [gO,lV,qN,ne_eq,jG,bN,fM,not_or];exact⟨fun h=>⟨h.2,h.1⟩,fun h=>⟨h.2,h.1⟩⟩
theorem Bo:∀(Y X:Ls),(X++Y).Nodup->(Y.map (Stp.mk false)).foldl rP X=X++Y
 | [],X,_=>by simp
 | y :: Y, X, h => by
  have hs:rP X ⟨false,y⟩=X++ [y]:=by
   have hy:¬has y X=true:=by
    rw [jG];intro e;exact(mB.1 h).2.2 y e y (by simp) rfl
   simp only [rP,rF,hy];simp
  rw [cE,dM,hs,Bo Y (X++ [y]) (by simpa using h)];simp
theorem aAc(a b:Ls):Yl a (jN a b)=bV b:=by
 unfold Yl jN On Hu;rw [jL,tI];have h1:(bV a).filter (fun c=> !has c ((bV a).filter fun c=> !has c ((bV b).take (jX (bV b) (bV a)))))=(bV b).take (jX (bV b) (bV a)):=by
  refine Eq.trans (gX fun c hc=>?_) (Ko (Tx (bV b) (bV a)) (oV a));rw [iZ];simp only [lV,qN,ne_eq,jG,cX,not_and,Fs];exact⟨fun h=>h hc,fun h _=>h⟩
 rw [h1,Bo _ _ (by rw [eO];exact oV b),eO]
structure ST where
 kind:Int
 ID:Int
 at_:Int
 deriving DecidableEq
@[simp] abbrev aY4(s:ST):D:= .agg [.v (.int .i64 s.kind),.v (.int .i64 s.ID),.v (.int .i64 s.at_)]
end Go.Proofs.YtbgfljpnhhdkoaaGreat
namespace Go.Proofs.YtbgfljpnhhdkoaaGreat.Lis
variable {ends:List Nat}{l:List Int}
def vZ(l:List Int)(i:Nat):Int:=l.getD i 0
def below(l:List Int)(ends:List Nat)(x:Int):Nat:=(ends.takeWhile fun e=>decide (vZ l e<x)).length
def Kj(ahead:List Int):Nat->Int->List Nat
 | 0,_=> []
 | n+1,c=>if c<0 then [] else c.toNat::Kj ahead n (ahead.getD c.toNat (-1))
def Ee(l:List Int)(rG:List Nat)(i:Nat):Nat->Nat
 | 0=>1
 | k+1=>if vZ l k<vZ l i/\Ee l rG i k<=rG.getD k 0 then rG.getD k 0+1 else Ee l rG i k
def rG(l:List Int):Nat->List Nat
 | 0=> []
 | i+1=>rG l i++ [Ee l (rG l i) i i]
def lR(l:List Int)(i:Nat):Nat:=(rG l (i+1)).getD i 0
theorem Bs(l:List Int):∀n,(rG l n).length=n
 | 0=>rfl
 | n+1=>by simp [rG,Bs l n]
theorem Vq(l:List Int):∀(n i:Nat),i<n->(rG l n).getD i 0=lR l i
 | n+1,i,h=>by
  by_cases e:i=n
  .subst e;rfl
  have:i<(rG l n).length:=by rw [Bs];omega
  rw [show rG l (n+1)=rG l n++ [Ee l (rG l n) n n] from rfl];rw [kX,bB this,<- kX];exact Vq l n i (by omega)
theorem aJn(l:List Int)(i:Nat):lR l i=Ee l (rG l i) i i:=by
 unfold lR;rw [show rG l (i+1)=rG l i++ [Ee l (rG l i) i i] from rfl,kX,bX (by rw [Bs];exact aV _),Bs,lD];rfl
theorem Nc(l:List Int)(i:Nat):∀k,k<=i->1<=Ee l (rG l i) i k/\(∀j,j<k->vZ l j<vZ l i->lR l j<Ee l (rG l i) i k)/\(Ee l (rG l i) i k=1\/∃j,j<k/\vZ l j<vZ l i/\lR l j+1=Ee l (rG l i) i k)
 | 0,_=>⟨aV _,fun j h=>by omega,.inl rfl⟩
 | k + 1, hk => by
  obtain⟨h1,h2,h3⟩:=Nc l i k (by omega);have hg:=Vq l i k (by omega);simp only [Ee,hg];by_cases c:vZ l k<vZ l i/\Ee l (rG l i) i k<=lR l k
  .rw [aL c];refine⟨by omega,fun j hj hl=>?_,.inr ⟨k,by omega,c.1,rfl⟩⟩;by_cases e:j=k
   .subst e;omega
   have:=h2 j (by omega) hl;omega
  rw [aD c];refine⟨h1,fun j hj hl=>?_,?_⟩
  .by_cases e:j=k
   .subst e;by_cases c2:Ee l (rG l i) i j<=lR l j
    .exact absurd ⟨hl,c2⟩ c
    omega
   exact h2 j (by omega) hl
  rcases h3 with h3 | ⟨j,a,b,d⟩
  .exact .inl h3
  exact .inr ⟨j,by omega,b,d⟩
theorem Ky(l:List Int)(i:Nat):1<=lR l i/\(∀j,j<i->vZ l j<vZ l i->lR l j<lR l i)/\(lR l i=1\/∃j,j<i/\vZ l j<vZ l i/\lR l j+1=lR l i):=by
 rw [aJn];exact Nc l i i (aV _)
def Dis(l:List Int):Prop:=∀i j,i<l.length->j<l.length->vZ l i=vZ l j->i=j
structure Inv(l:List Int)(i:Nat)(ends:List Nat):Prop where
 lt:∀p e,ends[p]?=some e->e<i/\lR l e=p+1/\∀k,k<i->lR l k=p+1->vZ l e<=vZ l k
 all:∀k,k<i->lR l k<=ends.length
 up:∀p e f,ends[p]?=some e->ends[p+1]?=some f->vZ l e<vZ l f
theorem Inv.mono {i:Nat} (h:Inv l i ends):∀(d p:Nat) (e f:Nat),ends[p]?=some e->ends[p+d]?=some f->vZ l e<=vZ l f
 | 0,p,e,f,h1,h2=>by rw [kD,h1] at h2;cases h2;exact mA _
 | d+1,p,e,f,h1,h2=>by
  have hlt:p+d<ends.length:=by have:=(aN.1 h2).1;omega
  have h3:ends[p+d]?=some ends[p+d]:=aS hlt;have:=h.mono d p e _ h1 h3;have:=h.up (p+d) _ f h3 h2;omega
theorem wN {α:Type} (p:α->Bool):∀(l:List α),(∀i a,i<(l.takeWhile p).length->l[i]?=some a->p a=true)/\(∀a,l[(l.takeWhile p).length]?=some a->p a=false)/\(l.takeWhile p).length<=l.length
 | []=>⟨fun i a h=>by simp at h,fun a h=>by simp at h,aV _⟩
 | x :: l => by
  obtain⟨h1,h2,h3⟩:=wN p l;by_cases hx:p x=true
  .rw [List.takeWhile_cons_of_pos hx];refine⟨fun i a hi ha=>?_,fun a ha=>h2 a (by simpa using ha),by simp;omega⟩;cases i with
   | zero=>simp at ha;subst ha;exact hx
   | succ i=>exact h1 i a (by simpa using hi) (by simpa using ha)
  rw [List.takeWhile_cons_of_neg hx];refine⟨fun i a hi=>by simp at hi,fun a ha=>?_,iI _⟩;simp at ha;subst ha;simpa using hx
theorem Inv.next {i:Nat} (h:Inv l i ends)(hi:i<l.length)(hd:Dis l):
  let n:=below l ends (vZ l i)
  lR l i=n+1/\n<=ends.length/\Inv l (i+1) (if n=ends.length then ends++ [i] else if vZ l i<vZ l (ends.getD n 0)then ends.set n i else ends):=by
 intro n;obtain⟨t1,t2,t3⟩:=wN (fun e=>decide (vZ l e<vZ l i)) ends;have hn:n=(ends.takeWhile fun e=>decide (vZ l e<vZ l i)).length:=rfl;rw [<- hn] at t1 t2 t3;obtain⟨s1,s2,s3⟩:=Ky l i;have hlen:lR l i=n+1:=by
  have hle:lR l i<=n+1:=by
   rcases s3 with s3 | ⟨j,a,b,c⟩
   .omega
   by_cases hp:lR l j<=n
   .omega
   exfalso;have hj1:=h.all j a;have hjj:=(Ky l j).1;have hlt:n<ends.length:=by omega
   have hn2:ends[n]?=some ends[n]:=aS hlt;have hx:=t2 _ hn2;have hp2:ends[lR l j - 1]?=some (ends[lR l j - 1]'(by omega)):=aS (by omega);have hm:=(h.lt _ _ hp2).2.2 j a (by omega);have hmo:=h.mono (lR l j - 1 - n) n _ _ hn2 (by rw [show n+(lR l j - 1 - n)=lR l j - 1 by omega];exact hp2);simp at hx;omega
  by_cases h0:n=0
  .omega
  have hlt:n - 1<ends.length:=by omega
  have hp:ends[n - 1]?=some ends[n - 1]:=aS hlt;have hx:=t1 (n - 1) _ (by omega) hp;obtain⟨e1,e2,_⟩:=h.lt _ _ hp;have:=s2 _ e1 (by simpa using hx);omega
 refine⟨hlen,t3,?_⟩;have hsplit:∀k,k<i+1->k<i\/k=i:=fun k hk=>by omega
 by_cases c1:n=ends.length
 .rw [aL c1];refine⟨fun p e hp=>?_,fun k hk=>?_,fun p e f he hf=>?_⟩
  .by_cases hpl:p<ends.length
   .rw [bB hpl] at hp;obtain⟨a,b,c⟩:=h.lt p e hp;refine⟨by omega,b,fun k hk hl=>?_⟩;rcases hsplit k hk with hk | rfl
    .exact c k hk hl
    omega
   rw [bX (by omega)] at hp;have hp0:p - ends.length=0:=by
    have:=(aN.1 hp).1;simp at this;omega
   rw [hp0] at hp;simp at hp;subst hp;refine⟨by omega,by omega,fun k hk hl=>?_⟩;rcases hsplit k hk with hk | rfl
   .have:=h.all k hk;omega
   exact mA _
  .rw [aY,uF];rcases hsplit k hk with hk | rfl
   .have:=h.all k hk;omega
   omega
  by_cases hpl:p+1<ends.length
  .rw [bB (by omega)] at he;rw [bB hpl] at hf;exact h.up p e f he hf
  have hfl:=(aN.1 hf).1;simp at hfl;have hpe:p+1=ends.length:=by omega
  rw [bB (by omega)] at he;rw [bX (by omega),show p+1 - ends.length=0 by omega] at hf;simp at hf;subst hf;have:=t1 p e (by omega) he;simpa using this
 rw [aD c1];have hlt:n<ends.length:=by omega
 have hn2:ends[n]?=some ends[n]:=aS hlt;have hgd:ends.getD n 0=ends[n]:=by rw [kX,hn2];rfl
 have hx:=t2 _ hn2;have hx1:vZ l i<=vZ l ends[n]:=by simpa using hx
 obtain⟨e1,e2,e3⟩:=h.lt _ _ hn2;have hne:vZ l i≠vZ l ends[n]:=fun e=>by
  have:=hd i ends[n] hi (by omega) e;omega
 have c2:vZ l i<vZ l (ends.getD n 0):=by rw [hgd];omega
 rw [aL c2];refine⟨fun p e hp=>?_,fun k hk=>?_,fun p e f he hf=>?_⟩
 .rw [cH] at hp;by_cases hpn:n=p
  .subst hpn;rw [aL rfl,aL hlt] at hp;cases hp;refine⟨by omega,hlen,fun k hk hl=>?_⟩;rcases hsplit k hk with hk | rfl
   .have:=e3 k hk hl;omega
   exact mA _
  rw [aD hpn] at hp;obtain⟨a,b,c⟩:=h.lt p e hp;refine⟨by omega,b,fun k hk hl=>?_⟩;rcases hsplit k hk with hk | rfl
  .exact c k hk hl
  omega
 .rw [bY];rcases hsplit k hk with hk | rfl
  .exact h.all k hk
  omega
 rw [cH] at he hf;by_cases h1:n=p
 .subst h1;rw [aL rfl,aL hlt] at he;rw [aD (by omega)] at hf;cases he;have:=h.up n _ f hn2 hf;omega
 rw [aD h1] at he;by_cases h2:n=p+1
 .rw [aL h2,aL hlt] at hf;cases hf;have:=t1 p e (by omega) he;simpa using this
 rw [aD h2] at hf;exact h.up p e f he hf
end Go.Proofs.YtbgfljpnhhdkoaaGreat.Lis
namespace Go.Proofs.YtbgfljpnhhdkoaaGreat
open Go Go.Vm
variable {a b l now os:List Int}{x:Int}
def plc(l:List Int)(x:Int):Int:=aFl x l+1
theorem aHk (h:x∈l):∃k:Nat,∃hk:k<l.length,aFl x l=k/\l[k]=x/\x∉l.take k:=by
 unfold aFl wB;split
 .rename_i k hf;rw [pV] at hf;obtain⟨hk,he,hn⟩:=hf;refine⟨k,hk,rfl,by simpa using he,fun hx=>?_⟩;obtain⟨j,hj⟩:=eR hx;rw [eJ] at hj;split at hj
  .rename_i hjk;have:=hn j hjk;rw [aS (by omega)] at hj;simp at hj;simp [hj] at this
  cases hj
 rename_i hf;rw [pQ] at hf;have:=hf x h;simp at this
def at_(l:List Int)(x:Int):Int:=if x∈l then plc l x else 0
def aQ5(a b:List Int):List ST:=(a.filter fun x=> !decide (x∈b)).map fun x=>⟨1,x,0⟩
def aGl(b now:List Int)(i:Nat):Nat:=if i+1<b.length then(aFl (b[i+1]?.getD 0) now).toNat else now.length
def aKu(now:List Int)(x:Int):List Int:=now.filter fun y=> !decide (y=x)
def vY(a now:List Int)(x:Int):List Int:=if x∈a then aKu now x else now
def stB(a b os:List Int)(i:Nat)(s:List Int×List ST):List Int×List ST:=
 if b[i]?.getD 0∈os then s else
 (fL (vY a s.1 (b[i]?.getD 0)) (aGl b (vY a s.1 (b[i]?.getD 0)) i) (b[i]?.getD 0),s.2++ [⟨if b[i]?.getD 0∈a then 3 else 2,b[i]?.getD 0,aGl b (vY a s.1 (b[i]?.getD 0)) i⟩])
structure InvB(a b os:List Int)(k:Nat)(now:List Int):Prop where
 stay:∀x∈os,x∈now
 done:∀j,b.length - k<=j->j<b.length->(b[j]?.getD 0)∈now
 len:now.length<=a.length+k
theorem Kv {i:Nat} {y:Int} :y∈fL l i x↔y=x\/y∈l:=by
 unfold fL;rw [bR,bN];constructor
 .rintro(h | h | h)
  .exact .inr (mD h)
  .exact .inl h
  exact .inr (yG h)
 rintro(h | h)
 .exact .inr (.inl h)
 rw [<- eO i l,bR] at h;rcases h with h | h
 .exact .inl h
 exact .inr (.inr h)
theorem aIl(a now:List Int)(x:Int):(vY a now x).length<=now.length:=by
 unfold vY aKu;split
 .exact kH _ _
 exact aV _
theorem Lo {y:Int} (h:y∈now)(hne:y≠x):y∈vY a now x:=by
 unfold vY aKu;split
 .simp [h,hne]
 exact h
theorem aBe (hb:b.Nodup) {i j:Nat} (hi:i<b.length)(hj:j<b.length)(h:i≠j):b[i]?.getD 0≠b[j]?.getD 0:=by
 rw [aS hi,aS hj];intro e;exact h ((List.getElem_inj hb).1 (by simpa using e))
theorem aSl {k:Nat} (hb:b.Nodup)(hk:k<b.length)(h:InvB a b os k now)(hn:¬(b[b.length - 1 - k]?.getD 0)∈os):
  aGl b (vY a now (b[b.length - 1 - k]?.getD 0)) (b.length - 1 - k)<=(vY a now (b[b.length - 1 - k]?.getD 0)).length/\
  ((b.length - 1 - k:Nat)+1<b.length->aFl (b[b.length - 1 - k+1]?.getD 0) (vY a now (b[b.length - 1 - k]?.getD 0))=(aGl b (vY a now (b[b.length - 1 - k]?.getD 0)) (b.length - 1 - k):Nat)):=by
 unfold aGl;split
 .rename_i hlt;have hm:(b[b.length - 1 - k+1]?.getD 0)∈vY a now (b[b.length - 1 - k]?.getD 0):=Lo (h.done _ (by omega) (by omega)) (aBe hb (by omega) (by omega) (by omega));obtain⟨j,hj,h1,_⟩:=aHk hm;exact⟨by omega,fun _=>by omega⟩
 exact⟨aV _,fun h=>by omega⟩
theorem InvB.zero (h:∀x∈os,x∈a/\x∈b):InvB a b os 0 (a.filter fun x=>decide (x∈b)):=
 ⟨fun x hx=>by simp [h x hx],fun j h1 h2=>by omega,by simpa using List.length_filter_le _ _⟩
theorem InvB.next {k:Nat} {s:List Int×List ST} (hb:b.Nodup)(hk:k<b.length)(h:InvB a b os k s.1):InvB a b os (k+1) (stB a b os (b.length - 1 - k) s).1:=by
 have hcase:∀j,b.length - (k+1)<=j->j<b.length->j=b.length - 1 - k\/b.length - k<=j:=fun j h1 h2=>by omega
 unfold stB;by_cases hx:b[b.length - 1 - k]?.getD 0∈os
 .rw [aL hx];refine⟨h.stay,fun j h1 h2=>?_,by have:=h.len;omega⟩;rcases hcase j h1 h2 with rfl | hj
  .exact h.stay _ hx
  exact h.done j hj h2
 rw [aD hx];obtain⟨p1,p2⟩:=aSl hb hk h hx;refine⟨fun x hxo=>?_,fun j h1 h2=>?_,?_⟩
 .exact Kv.2 (.inr (Lo (h.stay x hxo) (by rintro rfl;exact hx hxo)))
 .rcases hcase j h1 h2 with rfl | hj
  .exact Kv.2 (.inl rfl)
  exact Kv.2 (.inr (Lo (h.done j hj h2) (aBe hb h2 (by omega) (by omega))))
 have:=aIl a s.1 (b[b.length - 1 - k]?.getD 0);have:=h.len;rw [jT _ _ _ p1];omega
end Go.Proofs.YtbgfljpnhhdkoaaGreat

import Derived.Test.YtbgfljpnhhdkoaaGreatWkAr9
import Derived.Test.YtbgfljpnhhdkoaaGreatVmTab
import Derived.Test.YtbgfljpnhhdkoaaGreatVmZ
import Derived.Test.YtbgfljpnhhdkoaaGreatWkAr4
set_option linter.all false
set_option maxHeartbeats 8000000
set_option maxRecDepth 20000
open Go.Proofs.Tryz
namespace Go.Proofs.YtbgfljpnhhdkoaaGreat
open Go Go.Vm
structure Stp where
 drop:Bool
 name:ByteArray
 deriving DecidableEq
@[simp] abbrev aIl(s:Stp):D:= .agg [.v (.bool s.drop),.v (.string s.name)]
structure SA where
 drop:Bool
 name:ByteArray
 value:ByteArray
 deriving DecidableEq
@[simp] abbrev Rn(s:SA):D:= .agg [.v (.bool s.drop),.v (.string s.name),.v (.string s.value)]
structure SI where
 drop:Bool
 name:ByteArray
 value:Int
 deriving DecidableEq
@[simp] abbrev Tn(s:SI):D:= .agg [.v (.bool s.drop),.v (.string s.name),.v (.int .i64 s.value)]
structure OW where
 classes:(List ByteArray)
 attrs:(List AT)
 styles:(List PI)
 deriving DecidableEq
@[simp] abbrev vX(s:OW):D:= .agg [.sl false (s.classes.map D.str),.sl false (s.attrs.map cY),.sl false (s.styles.map cR)]
@[simp] abbrev bAv(s:OW):D:= .agg [.sl true (s.classes.map D.str),.sl true (s.attrs.map cY),.sl true (s.styles.map cR)]
def bP(l:Ls):Ls:=l.foldl rQ []
theorem nM(l:Ls)(x:ByteArray):bP (l++ [x])=rQ (bP l) x:=by simp [bP]
theorem By(l:Ls)(k:Nat)(h:k<l.length):bP (l.take (k+1))=rQ (bP (l.take k)) l[k]:=by rw [bJ l k h,nM]
theorem aKo(c x:ByteArray)(l:Ls):qP c (rQ l x)=(qP c l || decide (x=c)):=by
 unfold rQ;split
 .rename_i h;by_cases e:x=c
  .subst e;simp [h]
  simp [e]
 exact Eg c x l
theorem Ha(c:ByteArray)(l:Ls):qP c (bP l)=qP c l:=by
 induction l using pQ with
 | h0=>rfl
 | h1 l x ih=>rw [nM,aKo,Eg,ih]
theorem lT(l:Ls):(bP l).length<=l.length:=by
 induction l using pQ with
 | h0=>exact aY _
 | h1 l x ih=>rw [nM];have:=aMv (bP l) x;simp;omega
@[simp] abbrev q42_1:Cfg:=⟨[2,3,20,25],[],[],[],[]⟩
theorem Oh(l:Ls)(σ:List (List D))(hl:l.length<=1000000):Ct prog 96 [dl l] σ (fun r σ'=>r=dlo (bP l)/\σ'=σ):=by
 refine zf func96 ?_;refine zr q42_1 fun _ _ Z=>?_;simp(disch:=omega);apply Z;refine zr q42_1 fun _ _ Z=>?_;simp(disch:=omega);and_intros<;>(try omega);apply Z;apply aF;refine zr q42_1 fun _ _ Z=>?_;simp(disch:=omega);and_intros<;>(try omega);apply Z;apply aR;refine zk [0,2,3,7,8,9] ?_;refine bA (fun(k:Nat)=> [(9,.d (.int k)),(3,.d (dlo (bP (l.take k))))]) [3,4,5,9,10,11,12,13,14,15,16,17,18,19,20,21,22,23,24] (fun(k:Nat)=>k<=l.length) (fun(k:Nat)=>l.length - k) (0) (by simp <;> rfl) ?_ ?_ ?_
 .simp [bP]
 .simp
 rintro k hk;simp only [aQ,aP];have hcl:=lT (l.take k);simp only [bG] at hcl;refine zr q42_1 fun _ _ Z=>?_;simp(disch:=omega);apply Z;apply aF;refine zI ?_ ?_<;>intro c1<;>try simp at c1
 .apply kB;refine zr q42_1 fun _ _ Z=>?_;simp(disch:=omega);and_intros<;>(try omega);apply Z;refine zk [0,2,3,4,5,7,8,9] ?_;refine zr q42_1 fun _ _ Z=>?_;refine zs 4 fun _ Y=>?_;simp(disch:=omega);and_intros<;>(try omega);apply Y;refine aE fun _ Y=>?_;simp(disch:=omega);refine bS (Qw (l.take k) _ _ (by simp;omega)) ?_;apply Y;simp(disch:=omega);apply Z;refine zI ?_ ?_<;>intro c2<;>try simp at c2
  .refine zk [0,2,3,5,7,8,9] ?_;refine zt q42_1 fun _ _ Z=>?_;simp(disch:=omega);and_intros<;>(try omega);apply Z;apply zB;refine zk [0,2,3,7,8,9] ?_;refine zt q42_1 fun _ _ Z=>?_;simp(disch:=omega);and_intros<;>(try omega);apply Z;refine zq (k+1) ?_ ?_ ?_
   .omega
   .try dsimp only
    omega
   simp(disch:=omega)[By,rQ,Ha,c2]
  apply nD;refine zk [0,2,3,7,8,9] ?_;refine zt q42_1 fun _ _ Z=>?_;simp(disch:=omega);and_intros<;>(try omega);apply Z;refine zq (k+1) ?_ ?_ ?_
  .omega
  .try dsimp only
   omega
  simp(disch:=omega)[By,rQ,Ha,c2]
 apply zE;refine zr q42_1 fun _ _ Z=>?_;simp(disch:=omega);apply Z;apply aD;simp [aJ];rw [bZ (by omega)]
@[simp] abbrev q42_2:Cfg:=⟨[2,3,16],[],[],[],[]⟩
theorem Cy(l:Ls)(σ:List (List D))(hl:l.length<=100000):Ct prog 106 [dl l] σ (fun r σ'=>r=dlo (bP l)/\σ'=σ):=by
 refine zf func106 ?_;refine zr q42_2 fun _ _ Z=>?_;simp(disch:=omega);apply Z;refine zr q42_2 fun _ _ Z=>?_;simp(disch:=omega);apply Z;apply aF;refine zr q42_2 fun _ _ Z=>?_;simp(disch:=omega);and_intros<;>(try omega);apply Z;apply aR;refine zk [2,3,6,7,8] ?_;refine bA (fun(k:Nat)=> [(8,.d (.int k)),(3,.d (dlo (bP (l.take k))))]) [3,5,8,9,10,11,12,13,14,15] (fun(k:Nat)=>k<=l.length) (fun(k:Nat)=>l.length - k) (0) (by simp <;> rfl) ?_ ?_ ?_
 .simp [bP]
 .simp
 rintro k hk;simp only [aQ,aP];have hcl:=lT (l.take k);simp only [bG] at hcl;refine zr q42_2 fun _ _ Z=>?_;simp(disch:=omega);apply Z;apply aF;refine zI ?_ ?_<;>intro c1<;>try simp at c1
 .apply kB;refine zr q42_2 fun _ _ Z=>?_;simp(disch:=omega);and_intros<;>(try omega);apply Z;refine zt q42_2 fun _ _ Z=>?_;refine zs 2 fun _ Y=>?_;simp(disch:=omega);apply Y;refine aE fun _ Y=>?_;simp(disch:=omega);refine bS (aLn (bP (l.take k)) _ _ (by omega)) ?_;apply Y;simp(disch:=omega);apply Z;apply zB;refine zk [2,3,6,7,8] ?_;refine zt q42_2 fun _ _ Z=>?_;simp(disch:=omega);and_intros<;>(try omega);apply Z;refine zq (k+1) ?_ ?_ ?_
  .omega
  .try dsimp only
   omega
  simp(disch:=omega)[By]
 apply zE;refine zr q42_2 fun _ _ Z=>?_;simp(disch:=omega);apply Z;apply aD;simp [aJ];rw [bZ (by omega)]
def kC(b:Ls):Ls->Nat:=fun a=>a.foldl (fun n c=>if b[n]?=some c then n+1 else n) 0
theorem Bc(b a:Ls)(x:ByteArray):kC b (a++ [x])=if b[kC b a]?=some x then kC b a+1 else kC b a:=by
 unfold kC;rw [jO];rfl
theorem Cf(b a:Ls)(k:Nat)(h:k<a.length):kC b (a.take (k+1))=if b[kC b (a.take k)]?=some a[k] then kC b (a.take k)+1 else kC b (a.take k):=by
 rw [bJ a k h,Bc]
theorem Vo(b a:Ls):kC b a<=b.length:=by
 induction a using pQ with
 | h0=>exact jA _
 | h1 l x ih=>
  rw [Bc];split
  .rename_i h;have:=(aO.1 h).1;omega
  exact ih
theorem aJ2(a b:Ls)(σ:List (List D))(ha:a.length<=1000000)(hb:b.length<=1000000):Ct prog 194 [dl a,dl b] σ (fun r σ'=>r= .int (kC b a)/\σ'=σ):=by
 refine zf func194 ?_;refine aZ fun _ _ Z=>?_;simp(disch:=omega);apply Z;refine aZ fun _ _ Z=>?_;simp(disch:=omega);apply Z;apply aF;refine aZ fun _ _ Z=>?_;simp(disch:=omega);and_intros<;>(try omega);apply Z;apply aR;refine zk [1,4,5,8,9,10] ?_;refine bA (fun(k:Nat)=> [(10,.d (.int k)),(5,.d (.int (kC b (a.take k))))]) [5,7,10,11,12,13,14,15,16,17,18,19,20,21,22,23,24,25,26,27,28] (fun(k:Nat)=>k<=a.length) (fun(k:Nat)=>a.length - k) (0) (by simp <;> rfl) ?_ ?_ ?_
 .simp [kC]
 .simp
 rintro k hk;simp only [aQ,aP];have hcl:=Vo b (a.take k);refine aZ fun _ _ Z=>?_;simp(disch:=omega);apply Z;apply aF;refine zI ?_ ?_<;>intro c1<;>try simp at c1
 .apply kB;refine aZ fun _ _ Z=>?_;simp(disch:=omega);and_intros<;>(try omega);apply Z;refine zk [1,4,5,7,8,9,10] ?_;refine iU ⟨[],[],[],[],[]⟩ fun all hall _ Z=>?_;have ga4:aK all 4=some 18:=hall 4;refine zs 5 fun _ Y=>?_;simp(disch:=omega)[ga4];and_intros<;>(try omega);apply Y;refine zb 18 ?_ ?_<;>intro g2<;>try simp at g2
  .simp(disch:=omega)[ga4];and_intros<;>(try omega);apply Z;refine zI ?_ ?_<;>intro c3<;>try simp at c3
   .refine zk [1,4,5,8,9,10] ?_;refine mD fun _ _ Z=>?_;simp(disch:=omega);and_intros<;>(try omega);apply Z;apply zB;refine mD fun _ _ Z=>?_;simp(disch:=omega);and_intros<;>(try omega);apply Z;refine zq (k+1) ?_ ?_ ?_
    .omega
    .try dsimp only
     omega
    simp(disch:=omega) [Cf,g2,c3]
   apply nD;refine zk [1,4,5,8,9,10] ?_;refine mD fun _ _ Z=>?_;simp(disch:=omega);and_intros<;>(try omega);apply Z;refine zq (k+1) ?_ ?_ ?_
   .omega
   .try dsimp only
    omega
   simp(disch:=omega) [Cf,g2,c3]
  simp(disch:=omega)[ga4];apply Z;refine aV (t:=false) (by simp) (fun h=>by cases h) (fun _=>?_);apply nD;refine zk [1,4,5,8,9,10] ?_;refine mD fun _ _ Z=>?_;simp(disch:=omega);and_intros<;>(try omega);apply Z;refine zq (k+1) ?_ ?_ ?_
  .omega
  .try dsimp only
   omega
  simp(disch:=omega) [Cf,g2]
 apply zE;refine aZ fun _ _ Z=>?_;simp(disch:=omega);apply Z;apply aD;simp [aJ];rw [bZ (by omega)]
def Im(B:Ls)(n:Nat)(A:Ls):List Stp:=(A.filter fun c=> !qP c (B.take n)).map (Stp.mk true)
theorem Py(B:Ls)(n:Nat)(A:Ls)(k:Nat)(h:k<A.length):Im B n (A.take (k+1))=Im B n (A.take k)++if qP A[k] (B.take n)=true then [] else [⟨true,A[k]⟩]:=by
 unfold Im;rw [bJ A k h,fZ,cZ,gT];by_cases e:qP A[k] (B.take n)=true <;> simp [e]
theorem Le(B:Ls)(n:Nat)(A:Ls):(Im B n A).length<=A.length:=by
 unfold Im;rw [bU];exact kO _ _
def Oq(A B:Ls):List Stp:=Im B (kC B A) A++(B.drop (kC B A)).map (Stp.mk false)
def jU(a b:Ls):List Stp:=Oq (bP a) (bP b)
def Co(B:Ls)(n k:Nat):List Stp:=((B.drop n).take k).map (Stp.mk false)
theorem Zf(B:Ls)(n k:Nat)(h:n+k<B.length):Co B n (k+1)=Co B n k++ [⟨false,B[n+k]⟩]:=by
 unfold Co;rw [bJ (B.drop n) k (by simp;omega),cZ];simp
theorem aEt(B:Ls)(n j:Nat)(h:B.length<=n+j):Co B n j=(B.drop n).map (Stp.mk false):=by
 unfold Co;rw [bZ (by simp;omega)]
theorem aDn(B:Ls)(n k:Nat):(Co B n k).length<=k:=by simp [Co];omega
@[simp] abbrev q42_3:Cfg:=⟨[4,6,30,44,50],[],[],[],[]⟩
theorem aJp(a b:Ls)(σ:List (List D))(ha:a.length<=10000)(hb:b.length<=10000):Ct prog 114 [dl a,dl b] σ (fun r σ'=>r= .sl true ((jU a b).map aIl)/\σ'=σ):=by
 unfold jU;have hca:=lT a;have hcb:=lT b;refine zf func114 ?_;refine zr q42_3 fun _ _ Z=>?_;simp(disch:=omega)[aB,aC];apply Z;refine zr q42_3 fun _ _ Z=>?_;refine zs 1 fun _ Y=>?_;simp(disch:=omega)[aB,aC];apply Y;refine aE fun _ Y=>?_;simp(disch:=omega)[aB,aC];refine bS (Cy a _ (by omega)) ?_;apply Y;refine zs 1 fun _ Y=>?_;simp(disch:=omega)[aB,aC];apply Y;refine aE fun _ Y=>?_;simp(disch:=omega)[aB,aC];refine bS (Cy b _ (by omega)) ?_;apply Y;simp(disch:=omega)[aB,aC];apply Z;refine zr q42_3 fun _ _ Z=>?_;refine zs 2 fun _ Y=>?_;simp(disch:=omega)[aB,aC];apply Y;refine aE fun _ Y=>?_;simp(disch:=omega)[aB,aC];refine bS (aJ2 (bP a) (bP b) _ (by omega) (by omega)) ?_;apply Y;simp(disch:=omega)[aB,aC];apply Z;refine zr q42_3 fun _ _ Z=>?_;simp(disch:=omega)[aB,aC];apply Z;apply aF;refine zk [0,1,4,5,6] ?_;refine zr q42_3 fun _ _ Z=>?_;simp(disch:=omega)[aB,aC];and_intros<;>(try omega);apply Z;apply aR;refine zk [1,4,5,6,18,19,20] ?_;have hkl:=Vo (bP b) (bP a);refine bA (fun(k:Nat)=> [(20,.d (.int k)),(6,.d (.sl true ((Im (bP b) (kC (bP b) (bP a)) ((bP a).take k)).map aIl)))]) [6,8,20,21,22,23,24,25,26,27,28,29,30,31,32,33,34,35] (fun(k:Nat)=>k<=(bP a).length) (fun(k:Nat)=>(bP a).length - k) (0) (by simp <;> rfl) ?_ ?_ ?_
 .simp [Im]
 .simp
 rintro k hk;simp only [aQ,aP];have hcl:=Le (bP b) (kC (bP b) (bP a)) ((bP a).take k);simp only [bG] at hcl;refine zr q42_3 fun _ _ Z=>?_;simp(disch:=omega)[aB,aC];apply Z;apply aF;refine zI ?_ ?_<;>intro c1<;>try simp at c1
 .apply kB;refine zr q42_3 fun _ _ Z=>?_;simp(disch:=omega)[aB,aC];and_intros<;>(try omega);apply Z;refine zr q42_3 fun _ _ Z=>?_;refine zs 4 fun _ Y=>?_;simp(disch:=omega)[aB,aC];and_intros<;>(try omega);apply Y;refine aE fun _ Y=>?_;simp(disch:=omega)[aB,aC];refine bS (zZ ((bP b).take (kC (bP b) (bP a))) _ _ (by simp;omega)) ?_;apply Y;simp(disch:=omega)[aB,aC];apply Z;refine zI ?_ ?_<;>intro c2<;>try simp at c2
  .refine zk [1,4,5,6,8,18,19,20] ?_;refine zt q42_3 fun _ _ Z=>?_;simp(disch:=omega)[aB,aC];and_intros<;>(try omega);apply Z;apply zB;refine zk [1,4,5,6,18,19,20] ?_;refine zt q42_3 fun _ _ Z=>?_;simp(disch:=omega)[aB,aC];and_intros<;>(try omega);apply Z;refine zq (k+1) ?_ ?_ ?_
   .omega
   .try dsimp only
    omega
   simp(disch:=omega)[aB,aC,Py,c2]
  apply nD;refine zk [1,4,5,6,18,19,20] ?_;refine zt q42_3 fun _ _ Z=>?_;simp(disch:=omega)[aB,aC];and_intros<;>(try omega);apply Z;refine zq (k+1) ?_ ?_ ?_
  .omega
  .try dsimp only
   omega
  simp(disch:=omega)[aB,aC,Py,c2]
 apply zE;apply aF;refine zr q42_3 fun _ _ Z=>?_;simp(disch:=omega)[aB,aC];and_intros<;>(try omega);apply Z;apply aR;refine zk [4,6,38,39,40] ?_;refine bA (fun(j:Nat)=> [(40,.d (.int j)),(6,.d (.sl true ((Im (bP b) (kC (bP b) (bP a)) (bP a)++Co (bP b) (kC (bP b) (bP a)) j).map aIl)))]) [6,10,40,41,42,43,44,45,46,47,48,49] (fun(j:Nat)=>kC (bP b) (bP a)+j<=(bP b).length) (fun(j:Nat)=>(bP b).length - j) (0) (by simp <;> rfl) ?_ ?_ ?_
 .simp [Co];rw [bZ (by omega)];simp
 .simp;omega
 rintro j hj;simp only [aQ,aP];have hcl:=Le (bP b) (kC (bP b) (bP a)) (bP a);have hcl2:=aDn (bP b) (kC (bP b) (bP a)) j;refine zr q42_3 fun _ _ Z=>?_;simp(disch:=omega)[aB,aC];apply Z;apply aF;refine zI ?_ ?_<;>intro c3<;>try simp at c3
 .apply kB;refine zr q42_3 fun _ _ Z=>?_;simp(disch:=omega)[aB,aC];and_intros<;>(try omega);apply Z;refine zt q42_3 fun _ _ Z=>?_;simp(disch:=omega)[aB,aC];and_intros<;>(try omega);apply Z;apply zB;refine zk [4,6,38,39,40] ?_;refine zt q42_3 fun _ _ Z=>?_;simp(disch:=omega)[aB,aC];and_intros<;>(try omega);apply Z;refine zq (j+1) ?_ ?_ ?_
  .omega
  .try dsimp only
   omega
  simp(disch:=omega)[aB,aC,Zf]
 apply zE;refine zr q42_3 fun _ _ Z=>?_;simp(disch:=omega)[aB,aC];apply Z;apply aD;simp [aJ,Oq];rw [aEt _ _ _ (by omega)];simp
def rW(out:Ls)(s:Stp):Ls:=if s.drop=true then kY out s.name else rQ out s.name
def Yb(l:Ls)(S:List Stp):Ls:=S.foldl rW (bP l)
theorem jK(c:ByteArray)(l:Ls):qP c l=true↔c∈l:=by
 simp [qP]
theorem Yd(l:Ls)(c:ByteArray)(h:l.Nodup):(rQ l c).Nodup:=by
 unfold rQ;split
 .exact h
 rename_i hc;rw [jK] at hc;rw [mQ];exact⟨h,by simp,by simp;intro a ha e;subst e;exact hc ha⟩
theorem oU(l:Ls):(bP l).Nodup:=by
 induction l using pQ with
 | h0=>simp [bP]
 | h1 l x ih=>rw [nM];exact Yd _ _ ih
theorem Wp(B A:Ls):(B.take (kC B A)).Sublist A:=by
 induction A using pQ with
 | h0=>simp [kC]
 | h1 A x ih=>
  rw [Bc];split
  .rename_i h;obtain⟨hn,hx⟩:=aO.1 h;rw [bJ B _ hn,hx];exact ih.append (Ho _)
  exact ih.trans (List.sublist_append_left _ _)
theorem aSn(a b:ByteArray):(a==b)=true↔a=b:=by
 cases a;cases b;show ByteArray.beq _ _=_↔_
 unfold ByteArray.beq;simp
instance :LawfulBEq ByteArray where
 eq_of_beq {a b} h:=(aSn a b).1 h
 rfl {a} :=(aSn a a).2 rfl
theorem Jw {L A:Ls} (h:L.Sublist A):A.Nodup->A.filter (fun c=>qP c L)=L:=by
 induction h with
 | slnil=>intro _;rfl
 | @cons L A a h ih =>
  intro hA;have hA:=jB.1 hA;have h1:qP a L=false:=by
   rw [qF];intro e;exact hA.1 (h.subset ((jK _ _).1 e))
  rw [gT,aA (by simp [h1])];exact ih hA.2
 | @cons_cons L A a h ih =>
  intro hA;have hA:=jB.1 hA;rw [gT,aI ((jK _ _).2 (by simp))];congr 1;refine Eq.trans (iG fun c hc=>?_) (ih hA.2);rw [iP,jK,jK,bQ];constructor
  .rintro(rfl | h2)
   .exact absurd hc hA.1
   exact h2
  exact .inr
theorem uA:∀(names X:Ls),(names.map (Stp.mk true)).foldl rW X=X.filter fun c=> !qP c names
 | [],X=>by
  rw [lO,qE,eq_comm,oB];intro c _;have:qP c []=false:=by rw [qF];intro e;have:=(jK _ _).1 e;simp at this
  simp [this]
 | n::names,X=>by
  rw [cM,dO,uA names];have hs:rW X ⟨true,n⟩=kY X n:=rfl;rw [hs];unfold kY;rw [iO];refine iG fun c _=>?_;rw [iP];simp only [gH,lS,qF,ne_eq,jK,bQ,fF,not_or];exact⟨fun h=>⟨h.2,h.1⟩,fun h=>⟨h.2,h.1⟩⟩
theorem Dz:∀(Y X:Ls),(X++Y).Nodup->(Y.map (Stp.mk false)).foldl rW X=X++Y
 | [],X,_=>by simp
 | y :: Y, X, h => by
  have hs:rW X ⟨false,y⟩=X++ [y]:=by
   have hy:¬qP y X=true:=by
    rw [jK];intro e;exact(mQ.1 h).2.2 y e y (by simp) rfl
   simp only [rW,rQ,hy];simp
  rw [cM,dO,hs,Dz Y (X++ [y]) (by simpa using h)];simp
theorem Zt(a b:Ls):Yb a (jU a b)=bP b:=by
 unfold Yb jU Oq Im;rw [jO,uA];have h1:(bP a).filter (fun c=> !qP c ((bP a).filter fun c=> !qP c ((bP b).take (kC (bP b) (bP a)))))=(bP b).take (kC (bP b) (bP a)):=by
  refine Eq.trans (iG fun c hc=>?_) (Jw (Wp (bP b) (bP a)) (oU a));rw [iP];simp only [lS,qF,ne_eq,jK,dP,not_and,Fv];exact⟨fun h=>h hc,fun h _=>h⟩
 rw [h1,Dz _ _ (by rw [fH];exact oU b),fH]
structure ST where
 kind:Int
 ID:Int
 at_:Int
 deriving DecidableEq
@[simp] abbrev bAn(s:ST):D:= .agg [.v (.int .i64 s.kind),.v (.int .i64 s.ID),.v (.int .i64 s.at_)]
end Go.Proofs.YtbgfljpnhhdkoaaGreat
namespace Go.Proofs.YtbgfljpnhhdkoaaGreat.Lis
variable {ends:List Nat}{l:List Int}
def wN(l:List Int)(i:Nat):Int:=l.getD i 0
def below(l:List Int)(ends:List Nat)(x:Int):Nat:=(ends.takeWhile fun e=>decide (wN l e<x)).length
def Oa(ahead:List Int):Nat->Int->List Nat
 | 0,_=> []
 | n+1,c=>if c<0 then [] else c.toNat::Oa ahead n (ahead.getD c.toNat (-1))
def Gn(l:List Int)(rV:List Nat)(i:Nat):Nat->Nat
 | 0=>1
 | k+1=>if wN l k<wN l i/\Gn l rV i k<=rV.getD k 0 then rV.getD k 0+1 else Gn l rV i k
def rV(l:List Int):Nat->List Nat
 | 0=> []
 | i+1=>rV l i++ [Gn l (rV l i) i i]
def mF(l:List Int)(i:Nat):Nat:=(rV l (i+1)).getD i 0
theorem Eh(l:List Int):∀n,(rV l n).length=n
 | 0=>rfl
 | n+1=>by simp [rV,Eh l n]
theorem Vh(l:List Int):∀(n i:Nat),i<n->(rV l n).getD i 0=mF l i
 | n+1,i,h=>by
  by_cases e:i=n
  .subst e;rfl
  have:i<(rV l n).length:=by rw [Eh];omega
  rw [show rV l (n+1)=rV l n++ [Gn l (rV l n) n n] from rfl];rw [lR,bC this,<- lR];exact Vh l n i (by omega)
theorem aLb(l:List Int)(i:Nat):mF l i=Gn l (rV l i) i i:=by
 unfold mF;rw [show rV l (i+1)=rV l i++ [Gn l (rV l i) i i] from rfl,lR,bW (by rw [Eh];exact aY _),Eh,mI];rfl
theorem Oi(l:List Int)(i:Nat):∀k,k<=i->1<=Gn l (rV l i) i k/\(∀j,j<k->wN l j<wN l i->mF l j<Gn l (rV l i) i k)/\(Gn l (rV l i) i k=1\/∃j,j<k/\wN l j<wN l i/\mF l j+1=Gn l (rV l i) i k)
 | 0,_=>⟨aY _,fun j h=>by omega,.inl rfl⟩
 | k + 1, hk => by
  obtain⟨h1,h2,h3⟩:=Oi l i k (by omega);have hg:=Vh l i k (by omega);simp only [Gn,hg];by_cases c:wN l k<wN l i/\Gn l (rV l i) i k<=mF l k
  .rw [aI c];refine⟨by omega,fun j hj hl=>?_,.inr ⟨k,by omega,c.1,rfl⟩⟩;by_cases e:j=k
   .subst e;omega
   have:=h2 j (by omega) hl;omega
  rw [aA c];refine⟨h1,fun j hj hl=>?_,?_⟩
  .by_cases e:j=k
   .subst e;by_cases c2:Gn l (rV l i) i j<=mF l j
    .exact absurd ⟨hl,c2⟩ c
    omega
   exact h2 j (by omega) hl
  rcases h3 with h3 | ⟨j,a,b,d⟩
  .exact .inl h3
  exact .inr ⟨j,by omega,b,d⟩
theorem Lw(l:List Int)(i:Nat):1<=mF l i/\(∀j,j<i->wN l j<wN l i->mF l j<mF l i)/\(mF l i=1\/∃j,j<i/\wN l j<wN l i/\mF l j+1=mF l i):=by
 rw [aLb];exact Oi l i i (aY _)
def Dis(l:List Int):Prop:=∀i j,i<l.length->j<l.length->wN l i=wN l j->i=j
structure Inv(l:List Int)(i:Nat)(ends:List Nat):Prop where
 lt:∀p e,ends[p]?=some e->e<i/\mF l e=p+1/\∀k,k<i->mF l k=p+1->wN l e<=wN l k
 all:∀k,k<i->mF l k<=ends.length
 up:∀p e f,ends[p]?=some e->ends[p+1]?=some f->wN l e<wN l f
theorem Inv.mono {i:Nat} (h:Inv l i ends):∀(d p:Nat) (e f:Nat),ends[p]?=some e->ends[p+d]?=some f->wN l e<=wN l f
 | 0,p,e,f,h1,h2=>by rw [kM,h1] at h2;cases h2;exact oA _
 | d+1,p,e,f,h1,h2=>by
  have hlt:p+d<ends.length:=by have:=(aO.1 h2).1;omega
  have h3:ends[p+d]?=some ends[p+d]:=aU hlt;have:=h.mono d p e _ h1 h3;have:=h.up (p+d) _ f h3 h2;omega
theorem xW {α:Type} (p:α->Bool):∀(l:List α),(∀i a,i<(l.takeWhile p).length->l[i]?=some a->p a=true)/\(∀a,l[(l.takeWhile p).length]?=some a->p a=false)/\(l.takeWhile p).length<=l.length
 | []=>⟨fun i a h=>by simp at h,fun a h=>by simp at h,aY _⟩
 | x :: l => by
  obtain⟨h1,h2,h3⟩:=xW p l;by_cases hx:p x=true
  .rw [List.takeWhile_cons_of_pos hx];refine⟨fun i a hi ha=>?_,fun a ha=>h2 a (by simpa using ha),by simp;omega⟩;cases i with
   | zero=>simp at ha;subst ha;exact hx
   | succ i=>exact h1 i a (by simpa using hi) (by simpa using ha)
  rw [List.takeWhile_cons_of_neg hx];refine⟨fun i a hi=>by simp at hi,fun a ha=>?_,jA _⟩;simp at ha;subst ha;simpa using hx
theorem Inv.next {i:Nat} (h:Inv l i ends)(hi:i<l.length)(hd:Dis l):
  let n:=below l ends (wN l i)
  mF l i=n+1/\n<=ends.length/\Inv l (i+1) (if n=ends.length then ends++ [i] else if wN l i<wN l (ends.getD n 0)then ends.set n i else ends):=by
 intro n;obtain⟨t1,t2,t3⟩:=xW (fun e=>decide (wN l e<wN l i)) ends;have hn:n=(ends.takeWhile fun e=>decide (wN l e<wN l i)).length:=rfl;rw [<- hn] at t1 t2 t3;obtain⟨s1,s2,s3⟩:=Lw l i;have hlen:mF l i=n+1:=by
  have hle:mF l i<=n+1:=by
   rcases s3 with s3 | ⟨j,a,b,c⟩
   .omega
   by_cases hp:mF l j<=n
   .omega
   exfalso;have hj1:=h.all j a;have hjj:=(Lw l j).1;have hlt:n<ends.length:=by omega
   have hn2:ends[n]?=some ends[n]:=aU hlt;have hx:=t2 _ hn2;have hp2:ends[mF l j - 1]?=some (ends[mF l j - 1]'(by omega)):=aU (by omega);have hm:=(h.lt _ _ hp2).2.2 j a (by omega);have hmo:=h.mono (mF l j - 1 - n) n _ _ hn2 (by rw [show n+(mF l j - 1 - n)=mF l j - 1 by omega];exact hp2);simp at hx;omega
  by_cases h0:n=0
  .omega
  have hlt:n - 1<ends.length:=by omega
  have hp:ends[n - 1]?=some ends[n - 1]:=aU hlt;have hx:=t1 (n - 1) _ (by omega) hp;obtain⟨e1,e2,_⟩:=h.lt _ _ hp;have:=s2 _ e1 (by simpa using hx);omega
 refine⟨hlen,t3,?_⟩;have hsplit:∀k,k<i+1->k<i\/k=i:=fun k hk=>by omega
 by_cases c1:n=ends.length
 .rw [aI c1];refine⟨fun p e hp=>?_,fun k hk=>?_,fun p e f he hf=>?_⟩
  .by_cases hpl:p<ends.length
   .rw [bC hpl] at hp;obtain⟨a,b,c⟩:=h.lt p e hp;refine⟨by omega,b,fun k hk hl=>?_⟩;rcases hsplit k hk with hk | rfl
    .exact c k hk hl
    omega
   rw [bW (by omega)] at hp;have hp0:p - ends.length=0:=by
    have:=(aO.1 hp).1;simp at this;omega
   rw [hp0] at hp;simp at hp;subst hp;refine⟨by omega,by omega,fun k hk hl=>?_⟩;rcases hsplit k hk with hk | rfl
   .have:=h.all k hk;omega
   exact oA _
  .rw [bB,vI];rcases hsplit k hk with hk | rfl
   .have:=h.all k hk;omega
   omega
  by_cases hpl:p+1<ends.length
  .rw [bC (by omega)] at he;rw [bC hpl] at hf;exact h.up p e f he hf
  have hfl:=(aO.1 hf).1;simp at hfl;have hpe:p+1=ends.length:=by omega
  rw [bC (by omega)] at he;rw [bW (by omega),show p+1 - ends.length=0 by omega] at hf;simp at hf;subst hf;have:=t1 p e (by omega) he;simpa using this
 rw [aA c1];have hlt:n<ends.length:=by omega
 have hn2:ends[n]?=some ends[n]:=aU hlt;have hgd:ends.getD n 0=ends[n]:=by rw [lR,hn2];rfl
 have hx:=t2 _ hn2;have hx1:wN l i<=wN l ends[n]:=by simpa using hx
 obtain⟨e1,e2,e3⟩:=h.lt _ _ hn2;have hne:wN l i≠wN l ends[n]:=fun e=>by
  have:=hd i ends[n] hi (by omega) e;omega
 have c2:wN l i<wN l (ends.getD n 0):=by rw [hgd];omega
 rw [aI c2];refine⟨fun p e hp=>?_,fun k hk=>?_,fun p e f he hf=>?_⟩
 .rw [cK] at hp;by_cases hpn:n=p
  .subst hpn;rw [aI rfl,aI hlt] at hp;cases hp;refine⟨by omega,hlen,fun k hk hl=>?_⟩;rcases hsplit k hk with hk | rfl
   .have:=e3 k hk hl;omega
   exact oA _
  rw [aA hpn] at hp;obtain⟨a,b,c⟩:=h.lt p e hp;refine⟨by omega,b,fun k hk hl=>?_⟩;rcases hsplit k hk with hk | rfl
  .exact c k hk hl
  omega
 .rw [cH];rcases hsplit k hk with hk | rfl
  .exact h.all k hk
  omega
 rw [cK] at he hf;by_cases h1:n=p
 .subst h1;rw [aI rfl,aI hlt] at he;rw [aA (by omega)] at hf;cases he;have:=h.up n _ f hn2 hf;omega
 rw [aA h1] at he;by_cases h2:n=p+1
 .rw [aI h2,aI hlt] at hf;cases hf;have:=t1 p e (by omega) he;simpa using this
 rw [aA h2] at hf;exact h.up p e f he hf
end Go.Proofs.YtbgfljpnhhdkoaaGreat.Lis
namespace Go.Proofs.YtbgfljpnhhdkoaaGreat
open Go Go.Vm
variable {a b l now os:List Int}{x:Int}
def plc(l:List Int)(x:Int):Int:=aGx x l+1
theorem aJd (h:x∈l):∃k:Nat,∃hk:k<l.length,aGx x l=k/\l[k]=x/\x∉l.take k:=by
 unfold aGx wR;split
 .rename_i k hf;rw [qT] at hf;obtain⟨hk,he,hn⟩:=hf;refine⟨k,hk,rfl,by simpa using he,fun hx=>?_⟩;obtain⟨j,hj⟩:=eW hx;rw [eT] at hj;split at hj
  .rename_i hjk;have:=hn j hjk;rw [aU (by omega)] at hj;simp at hj;simp [hj] at this
  cases hj
 rename_i hf;rw [qX] at hf;have:=hf x h;simp at this
def at_(l:List Int)(x:Int):Int:=if x∈l then plc l x else 0
def aSg(a b:List Int):List ST:=(a.filter fun x=> !decide (x∈b)).map fun x=>⟨1,x,0⟩
def aJ3(b now:List Int)(i:Nat):Nat:=if i+1<b.length then(aGx (b[i+1]?.getD 0) now).toNat else now.length
def aM9(now:List Int)(x:Int):List Int:=now.filter fun y=> !decide (y=x)
def wK(a now:List Int)(x:Int):List Int:=if x∈a then aM9 now x else now
def stB(a b os:List Int)(i:Nat)(s:List Int×List ST):List Int×List ST:=
 if b[i]?.getD 0∈os then s else
 (fP (wK a s.1 (b[i]?.getD 0)) (aJ3 b (wK a s.1 (b[i]?.getD 0)) i) (b[i]?.getD 0),s.2++ [⟨if b[i]?.getD 0∈a then 3 else 2,b[i]?.getD 0,aJ3 b (wK a s.1 (b[i]?.getD 0)) i⟩])
structure InvB(a b os:List Int)(k:Nat)(now:List Int):Prop where
 stay:∀x∈os,x∈now
 done:∀j,b.length - k<=j->j<b.length->(b[j]?.getD 0)∈now
 len:now.length<=a.length+k
theorem Jj {i:Nat} {y:Int} :y∈fP l i x↔y=x\/y∈l:=by
 unfold fP;rw [bN,bQ];constructor
 .rintro(h | h | h)
  .exact .inr (oD h)
  .exact .inl h
  exact .inr (Ac h)
 rintro(h | h)
 .exact .inr (.inl h)
 rw [<- fH i l,bN] at h;rcases h with h | h
 .exact .inl h
 exact .inr (.inr h)
theorem aIx(a now:List Int)(x:Int):(wK a now x).length<=now.length:=by
 unfold wK aM9;split
 .exact kO _ _
 exact aY _
theorem Ka {y:Int} (h:y∈now)(hne:y≠x):y∈wK a now x:=by
 unfold wK aM9;split
 .simp [h,hne]
 exact h
theorem aBb (hb:b.Nodup) {i j:Nat} (hi:i<b.length)(hj:j<b.length)(h:i≠j):b[i]?.getD 0≠b[j]?.getD 0:=by
 rw [aU hi,aU hj];intro e;exact h ((List.getElem_inj hb).1 (by simpa using e))
theorem aUe {k:Nat} (hb:b.Nodup)(hk:k<b.length)(h:InvB a b os k now)(hn:¬(b[b.length - 1 - k]?.getD 0)∈os):
  aJ3 b (wK a now (b[b.length - 1 - k]?.getD 0)) (b.length - 1 - k)<=(wK a now (b[b.length - 1 - k]?.getD 0)).length/\
  ((b.length - 1 - k:Nat)+1<b.length->aGx (b[b.length - 1 - k+1]?.getD 0) (wK a now (b[b.length - 1 - k]?.getD 0))=(aJ3 b (wK a now (b[b.length - 1 - k]?.getD 0)) (b.length - 1 - k):Nat)):=by
 unfold aJ3;split
 .rename_i hlt;have hm:(b[b.length - 1 - k+1]?.getD 0)∈wK a now (b[b.length - 1 - k]?.getD 0):=Ka (h.done _ (by omega) (by omega)) (aBb hb (by omega) (by omega) (by omega));obtain⟨j,hj,h1,_⟩:=aJd hm;exact⟨by omega,fun _=>by omega⟩
 exact⟨aY _,fun h=>by omega⟩
theorem InvB.zero (h:∀x∈os,x∈a/\x∈b):InvB a b os 0 (a.filter fun x=>decide (x∈b)):=
 ⟨fun x hx=>by simp [h x hx],fun j h1 h2=>by omega,by simpa using List.length_filter_le _ _⟩
theorem InvB.next {k:Nat} {s:List Int×List ST} (hb:b.Nodup)(hk:k<b.length)(h:InvB a b os k s.1):InvB a b os (k+1) (stB a b os (b.length - 1 - k) s).1:=by
 have hcase:∀j,b.length - (k+1)<=j->j<b.length->j=b.length - 1 - k\/b.length - k<=j:=fun j h1 h2=>by omega
 unfold stB;by_cases hx:b[b.length - 1 - k]?.getD 0∈os
 .rw [aI hx];refine⟨h.stay,fun j h1 h2=>?_,by have:=h.len;omega⟩;rcases hcase j h1 h2 with rfl | hj
  .exact h.stay _ hx
  exact h.done j hj h2
 rw [aA hx];obtain⟨p1,p2⟩:=aUe hb hk h hx;refine⟨fun x hxo=>?_,fun j h1 h2=>?_,?_⟩
 .exact Jj.2 (.inr (Ka (h.stay x hxo) (by rintro rfl;exact hx hxo)))
 .rcases hcase j h1 h2 with rfl | hj
  .exact Jj.2 (.inl rfl)
  exact Jj.2 (.inr (Ka (h.done j hj h2) (aBb hb h2 (by omega) (by omega))))
 have:=aIx a s.1 (b[b.length - 1 - k]?.getD 0);have:=h.len;rw [jW _ _ _ p1];omega
end Go.Proofs.YtbgfljpnhhdkoaaGreat

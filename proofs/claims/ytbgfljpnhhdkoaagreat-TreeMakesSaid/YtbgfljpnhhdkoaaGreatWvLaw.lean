import Derived.Test.YtbgfljpnhhdkoaaGreatWkAr9
import Derived.Test.YtbgfljpnhhdkoaaGreatVmTab
import Derived.Test.YtbgfljpnhhdkoaaGreatVmZ
import Derived.Test.YtbgfljpnhhdkoaaGreatWkAr4
set_option maxHeartbeats 8000000
set_option linter.all false
set_option maxRecDepth 20000
open Go.Proofs.Tryz
namespace Go.Proofs.YtbgfljpnhhdkoaaGreat
open Go Go.Vm
structure Stp where
 drop:Bool
 name:ByteArray
 deriving DecidableEq
@[simp] abbrev aIb(s:Stp):D:= .agg [.v (.bool s.drop),.v (.string s.name)]
structure SA where
 drop:Bool
 name:ByteArray
 value:ByteArray
 deriving DecidableEq
@[simp] abbrev Ti(s:SA):D:= .agg [.v (.bool s.drop),.v (.string s.name),.v (.string s.value)]
structure SI where
 drop:Bool
 name:ByteArray
 value:Int
 deriving DecidableEq
@[simp] abbrev Qz(s:SI):D:= .agg [.v (.bool s.drop),.v (.string s.name),.v (.int .i64 s.value)]
structure OW where
 classes:(List ByteArray)
 attrs:(List AT)
 styles:(List PI)
 deriving DecidableEq
@[simp] abbrev Ey(s:OW):D:= .agg [.sl false (s.classes.map D.str),.sl false (s.attrs.map dA),.sl false (s.styles.map cQ)]
@[simp] abbrev bBf(s:OW):D:= .agg [.sl true (s.classes.map D.str),.sl true (s.attrs.map dA),.sl true (s.styles.map cQ)]
def bU(l:Ls):Ls:=l.foldl rN []
theorem nF(l:Ls)(x:ByteArray):bU (l++ [x])=rN (bU l) x:=by simp [bU]
theorem Bj(l:Ls)(k:Nat)(h:k<l.length):bU (l.take (k+1))=rN (bU (l.take k)) l[k]:=by rw [bL l k h,nF]
theorem aLs(c x:ByteArray)(l:Ls):has c (rN l x)=(has c l || decide (x=c)):=by
 unfold rN;split
 .rename_i h;by_cases e:x=c
  .subst e;simp [h]
  simp [e]
 exact Cm c x l
theorem Ft(c:ByteArray)(l:Ls):has c (bU l)=has c l:=by
 induction l using pK with
 | h0=>rfl
 | h1 l x ih=>rw [nF,aLs,Cm,ih]
theorem nL(l:Ls):(bU l).length<=l.length:=by
 induction l using pK with
 | h0=>exact aW _
 | h1 l x ih=>rw [nF];have:=aKf (bU l) x;simp;omega
@[simp] abbrev q48_1:Cfg:=⟨[2,3,20,25],[],[],[],[]⟩
theorem aGb(l:Ls)(σ:List (List D))(hl:l.length<=1000000):Ct prog 96 [dl l] σ (fun r σ'=>r=dlo (bU l)/\σ'=σ):=by
 refine zf func96 ?_;refine zr q48_1 fun _ _ Z=>?_;simp(disch:=omega);apply Z;refine zr q48_1 fun _ _ Z=>?_;simp(disch:=omega);and_intros<;>(try omega);apply Z;apply aE;refine zr q48_1 fun _ _ Z=>?_;simp(disch:=omega);and_intros<;>(try omega);apply Z;apply aR;refine zk [0,2,3,7,8,9] ?_;refine aY (fun(k:Nat)=> [(9,.d (.int k)),(3,.d (dlo (bU (l.take k))))]) [3,4,5,9,10,11,12,13,14,15,16,17,18,19,20,21,22,23,24] (fun(k:Nat)=>k<=l.length) (fun(k:Nat)=>l.length - k) (0) (by simp <;> rfl) ?_ ?_ ?_
 .simp [bU]
 .simp
 rintro k hk;simp only [aQ,aO];have hcl:=nL (l.take k);simp only [bG] at hcl;refine zr q48_1 fun _ _ Z=>?_;simp(disch:=omega);apply Z;apply aE;refine zI ?_ ?_<;>intro c1<;>try simp at c1
 .apply jM;refine zr q48_1 fun _ _ Z=>?_;simp(disch:=omega);and_intros<;>(try omega);apply Z;refine zk [0,2,3,4,5,7,8,9] ?_;refine zr q48_1 fun _ _ Z=>?_;refine zs 4 fun _ Y=>?_;simp(disch:=omega);and_intros<;>(try omega);apply Y;refine aF fun _ Y=>?_;simp(disch:=omega);refine cT (Ro (l.take k) _ _ (by simp;omega)) ?_;apply Y;simp(disch:=omega);apply Z;refine zI ?_ ?_<;>intro c2<;>try simp at c2
  .refine zk [0,2,3,5,7,8,9] ?_;refine zt q48_1 fun _ _ Z=>?_;simp(disch:=omega);and_intros<;>(try omega);apply Z;apply zB;refine zk [0,2,3,7,8,9] ?_;refine zt q48_1 fun _ _ Z=>?_;simp(disch:=omega);and_intros<;>(try omega);apply Z;refine zq (k+1) ?_ ?_ ?_
   .omega
   .try dsimp only
    omega
   simp(disch:=omega)[Bj,rN,Ft,c2]
  apply mS;refine zk [0,2,3,7,8,9] ?_;refine zt q48_1 fun _ _ Z=>?_;simp(disch:=omega);and_intros<;>(try omega);apply Z;refine zq (k+1) ?_ ?_ ?_
  .omega
  .try dsimp only
   omega
  simp(disch:=omega)[Bj,rN,Ft,c2]
 apply zE;refine zr q48_1 fun _ _ Z=>?_;simp(disch:=omega);apply Z;apply aC;simp [aH];rw [bZ (by omega)]
@[simp] abbrev q48_2:Cfg:=⟨[2,3,16],[],[],[],[]⟩
theorem Cu(l:Ls)(σ:List (List D))(hl:l.length<=100000):Ct prog 106 [dl l] σ (fun r σ'=>r=dlo (bU l)/\σ'=σ):=by
 refine zf func106 ?_;refine zr q48_2 fun _ _ Z=>?_;simp(disch:=omega);apply Z;refine zr q48_2 fun _ _ Z=>?_;simp(disch:=omega);apply Z;apply aE;refine zr q48_2 fun _ _ Z=>?_;simp(disch:=omega);and_intros<;>(try omega);apply Z;apply aR;refine zk [2,3,6,7,8] ?_;refine aY (fun(k:Nat)=> [(8,.d (.int k)),(3,.d (dlo (bU (l.take k))))]) [3,5,8,9,10,11,12,13,14,15] (fun(k:Nat)=>k<=l.length) (fun(k:Nat)=>l.length - k) (0) (by simp <;> rfl) ?_ ?_ ?_
 .simp [bU]
 .simp
 rintro k hk;simp only [aQ,aO];have hcl:=nL (l.take k);simp only [bG] at hcl;refine zr q48_2 fun _ _ Z=>?_;simp(disch:=omega);apply Z;apply aE;refine zI ?_ ?_<;>intro c1<;>try simp at c1
 .apply jM;refine zr q48_2 fun _ _ Z=>?_;simp(disch:=omega);and_intros<;>(try omega);apply Z;refine zt q48_2 fun _ _ Z=>?_;refine zs 2 fun _ Y=>?_;simp(disch:=omega);apply Y;refine aF fun _ Y=>?_;simp(disch:=omega);refine cT (aJn (bU (l.take k)) _ _ (by omega)) ?_;apply Y;simp(disch:=omega);apply Z;apply zB;refine zk [2,3,6,7,8] ?_;refine zt q48_2 fun _ _ Z=>?_;simp(disch:=omega);and_intros<;>(try omega);apply Z;refine zq (k+1) ?_ ?_ ?_
  .omega
  .try dsimp only
   omega
  simp(disch:=omega)[Bj]
 apply zE;refine zr q48_2 fun _ _ Z=>?_;simp(disch:=omega);apply Z;apply aC;simp [aH];rw [bZ (by omega)]
def kB(b:Ls):Ls->Nat:=fun a=>a.foldl (fun n c=>if b[n]?=some c then n+1 else n) 0
theorem Bc(b a:Ls)(x:ByteArray):kB b (a++ [x])=if b[kB b a]?=some x then kB b a+1 else kB b a:=by
 unfold kB;rw [jR];rfl
theorem Az(b a:Ls)(k:Nat)(h:k<a.length):kB b (a.take (k+1))=if b[kB b (a.take k)]?=some a[k] then kB b (a.take k)+1 else kB b (a.take k):=by
 rw [bL a k h,Bc]
theorem Uv(b a:Ls):kB b a<=b.length:=by
 induction a using pK with
 | h0=>exact iM _
 | h1 l x ih=>
  rw [Bc];split
  .rename_i h;have:=(aP.1 h).1;omega
  exact ih
theorem aNx(a b:Ls)(σ:List (List D))(ha:a.length<=1000000)(hb:b.length<=1000000):Ct prog 194 [dl a,dl b] σ (fun r σ'=>r= .int (kB b a)/\σ'=σ):=by
 refine zf func194 ?_;refine bB fun _ _ Z=>?_;simp(disch:=omega);apply Z;refine bB fun _ _ Z=>?_;simp(disch:=omega);apply Z;apply aE;refine bB fun _ _ Z=>?_;simp(disch:=omega);and_intros<;>(try omega);apply Z;apply aR;refine zk [1,4,5,8,9,10] ?_;refine aY (fun(k:Nat)=> [(10,.d (.int k)),(5,.d (.int (kB b (a.take k))))]) [5,7,10,11,12,13,14,15,16,17,18,19,20,21,22,23,24,25,26,27,28] (fun(k:Nat)=>k<=a.length) (fun(k:Nat)=>a.length - k) (0) (by simp <;> rfl) ?_ ?_ ?_
 .simp [kB]
 .simp
 rintro k hk;simp only [aQ,aO];have hcl:=Uv b (a.take k);refine bB fun _ _ Z=>?_;simp(disch:=omega);apply Z;apply aE;refine zI ?_ ?_<;>intro c1<;>try simp at c1
 .apply jM;refine bB fun _ _ Z=>?_;simp(disch:=omega);and_intros<;>(try omega);apply Z;refine zk [1,4,5,7,8,9,10] ?_;refine mH ⟨[],[],[],[],[]⟩ fun all hall _ Z=>?_;have ga4:aN all 4=some 18:=hall 4;refine zs 5 fun _ Y=>?_;simp(disch:=omega)[ga4];and_intros<;>(try omega);apply Y;refine zb 18 ?_ ?_<;>intro g2<;>try simp at g2
  .simp(disch:=omega)[ga4];and_intros<;>(try omega);apply Z;refine zI ?_ ?_<;>intro c3<;>try simp at c3
   .refine zk [1,4,5,8,9,10] ?_;refine pF fun _ _ Z=>?_;simp(disch:=omega);and_intros<;>(try omega);apply Z;apply zB;refine pF fun _ _ Z=>?_;simp(disch:=omega);and_intros<;>(try omega);apply Z;refine zq (k+1) ?_ ?_ ?_
    .omega
    .try dsimp only
     omega
    simp(disch:=omega) [Az,g2,c3]
   apply mS;refine zk [1,4,5,8,9,10] ?_;refine pF fun _ _ Z=>?_;simp(disch:=omega);and_intros<;>(try omega);apply Z;refine zq (k+1) ?_ ?_ ?_
   .omega
   .try dsimp only
    omega
   simp(disch:=omega) [Az,g2,c3]
  simp(disch:=omega)[ga4];apply Z;refine bA (t:=false) (by simp) (fun h=>by cases h) (fun _=>?_);apply mS;refine zk [1,4,5,8,9,10] ?_;refine pF fun _ _ Z=>?_;simp(disch:=omega);and_intros<;>(try omega);apply Z;refine zq (k+1) ?_ ?_ ?_
  .omega
  .try dsimp only
   omega
  simp(disch:=omega) [Az,g2]
 apply zE;refine bB fun _ _ Z=>?_;simp(disch:=omega);apply Z;apply aC;simp [aH];rw [bZ (by omega)]
def Ip(B:Ls)(n:Nat)(A:Ls):List Stp:=(A.filter fun c=> !has c (B.take n)).map (Stp.mk true)
theorem Qd(B:Ls)(n:Nat)(A:Ls)(k:Nat)(h:k<A.length):Ip B n (A.take (k+1))=Ip B n (A.take k)++if has A[k] (B.take n)=true then [] else [⟨true,A[k]⟩]:=by
 unfold Ip;rw [bL A k h,fX,cE,gQ];by_cases e:has A[k] (B.take n)=true <;> simp [e]
theorem Kn(B:Ls)(n:Nat)(A:Ls):(Ip B n A).length<=A.length:=by
 unfold Ip;rw [bQ];exact jD _ _
def Pp(A B:Ls):List Stp:=Ip B (kB B A) A++(B.drop (kB B A)).map (Stp.mk false)
def jT(a b:Ls):List Stp:=Pp (bU a) (bU b)
def Ds(B:Ls)(n k:Nat):List Stp:=((B.drop n).take k).map (Stp.mk false)
theorem Yj(B:Ls)(n k:Nat)(h:n+k<B.length):Ds B n (k+1)=Ds B n k++ [⟨false,B[n+k]⟩]:=by
 unfold Ds;rw [bL (B.drop n) k (by simp;omega),cE];simp
theorem aFx(B:Ls)(n j:Nat)(h:B.length<=n+j):Ds B n j=(B.drop n).map (Stp.mk false):=by
 unfold Ds;rw [bZ (by simp;omega)]
theorem aDi(B:Ls)(n k:Nat):(Ds B n k).length<=k:=by simp [Ds];omega
@[simp] abbrev q48_3:Cfg:=⟨[4,6,30,44,50],[],[],[],[]⟩
theorem aIo(a b:Ls)(σ:List (List D))(ha:a.length<=10000)(hb:b.length<=10000):Ct prog 114 [dl a,dl b] σ (fun r σ'=>r= .sl true ((jT a b).map aIb)/\σ'=σ):=by
 unfold jT;have hca:=nL a;have hcb:=nL b;refine zf func114 ?_;refine zr q48_3 fun _ _ Z=>?_;simp(disch:=omega)[aA,aB];apply Z;refine zr q48_3 fun _ _ Z=>?_;refine zs 1 fun _ Y=>?_;simp(disch:=omega)[aA,aB];apply Y;refine aF fun _ Y=>?_;simp(disch:=omega)[aA,aB];refine cT (Cu a _ (by omega)) ?_;apply Y;refine zs 1 fun _ Y=>?_;simp(disch:=omega)[aA,aB];apply Y;refine aF fun _ Y=>?_;simp(disch:=omega)[aA,aB];refine cT (Cu b _ (by omega)) ?_;apply Y;simp(disch:=omega)[aA,aB];apply Z;refine zr q48_3 fun _ _ Z=>?_;refine zs 2 fun _ Y=>?_;simp(disch:=omega)[aA,aB];apply Y;refine aF fun _ Y=>?_;simp(disch:=omega)[aA,aB];refine cT (aNx (bU a) (bU b) _ (by omega) (by omega)) ?_;apply Y;simp(disch:=omega)[aA,aB];apply Z;refine zr q48_3 fun _ _ Z=>?_;simp(disch:=omega)[aA,aB];apply Z;apply aE;refine zk [0,1,4,5,6] ?_;refine zr q48_3 fun _ _ Z=>?_;simp(disch:=omega)[aA,aB];and_intros<;>(try omega);apply Z;apply aR;refine zk [1,4,5,6,18,19,20] ?_;have hkl:=Uv (bU b) (bU a);refine aY (fun(k:Nat)=> [(20,.d (.int k)),(6,.d (.sl true ((Ip (bU b) (kB (bU b) (bU a)) ((bU a).take k)).map aIb)))]) [6,8,20,21,22,23,24,25,26,27,28,29,30,31,32,33,34,35] (fun(k:Nat)=>k<=(bU a).length) (fun(k:Nat)=>(bU a).length - k) (0) (by simp <;> rfl) ?_ ?_ ?_
 .simp [Ip]
 .simp
 rintro k hk;simp only [aQ,aO];have hcl:=Kn (bU b) (kB (bU b) (bU a)) ((bU a).take k);simp only [bG] at hcl;refine zr q48_3 fun _ _ Z=>?_;simp(disch:=omega)[aA,aB];apply Z;apply aE;refine zI ?_ ?_<;>intro c1<;>try simp at c1
 .apply jM;refine zr q48_3 fun _ _ Z=>?_;simp(disch:=omega)[aA,aB];and_intros<;>(try omega);apply Z;refine zr q48_3 fun _ _ Z=>?_;refine zs 4 fun _ Y=>?_;simp(disch:=omega)[aA,aB];and_intros<;>(try omega);apply Y;refine aF fun _ Y=>?_;simp(disch:=omega)[aA,aB];refine cT (xZ ((bU b).take (kB (bU b) (bU a))) _ _ (by simp;omega)) ?_;apply Y;simp(disch:=omega)[aA,aB];apply Z;refine zI ?_ ?_<;>intro c2<;>try simp at c2
  .refine zk [1,4,5,6,8,18,19,20] ?_;refine zt q48_3 fun _ _ Z=>?_;simp(disch:=omega)[aA,aB];and_intros<;>(try omega);apply Z;apply zB;refine zk [1,4,5,6,18,19,20] ?_;refine zt q48_3 fun _ _ Z=>?_;simp(disch:=omega)[aA,aB];and_intros<;>(try omega);apply Z;refine zq (k+1) ?_ ?_ ?_
   .omega
   .try dsimp only
    omega
   simp(disch:=omega)[aA,aB,Qd,c2]
  apply mS;refine zk [1,4,5,6,18,19,20] ?_;refine zt q48_3 fun _ _ Z=>?_;simp(disch:=omega)[aA,aB];and_intros<;>(try omega);apply Z;refine zq (k+1) ?_ ?_ ?_
  .omega
  .try dsimp only
   omega
  simp(disch:=omega)[aA,aB,Qd,c2]
 apply zE;apply aE;refine zr q48_3 fun _ _ Z=>?_;simp(disch:=omega)[aA,aB];and_intros<;>(try omega);apply Z;apply aR;refine zk [4,6,38,39,40] ?_;refine aY (fun(j:Nat)=> [(40,.d (.int j)),(6,.d (.sl true ((Ip (bU b) (kB (bU b) (bU a)) (bU a)++Ds (bU b) (kB (bU b) (bU a)) j).map aIb)))]) [6,10,40,41,42,43,44,45,46,47,48,49] (fun(j:Nat)=>kB (bU b) (bU a)+j<=(bU b).length) (fun(j:Nat)=>(bU b).length - j) (0) (by simp <;> rfl) ?_ ?_ ?_
 .simp [Ds];rw [bZ (by omega)];simp
 .simp;omega
 rintro j hj;simp only [aQ,aO];have hcl:=Kn (bU b) (kB (bU b) (bU a)) (bU a);have hcl2:=aDi (bU b) (kB (bU b) (bU a)) j;refine zr q48_3 fun _ _ Z=>?_;simp(disch:=omega)[aA,aB];apply Z;apply aE;refine zI ?_ ?_<;>intro c3<;>try simp at c3
 .apply jM;refine zr q48_3 fun _ _ Z=>?_;simp(disch:=omega)[aA,aB];and_intros<;>(try omega);apply Z;refine zt q48_3 fun _ _ Z=>?_;simp(disch:=omega)[aA,aB];and_intros<;>(try omega);apply Z;apply zB;refine zk [4,6,38,39,40] ?_;refine zt q48_3 fun _ _ Z=>?_;simp(disch:=omega)[aA,aB];and_intros<;>(try omega);apply Z;refine zq (j+1) ?_ ?_ ?_
  .omega
  .try dsimp only
   omega
  simp(disch:=omega)[aA,aB,Yj]
 apply zE;refine zr q48_3 fun _ _ Z=>?_;simp(disch:=omega)[aA,aB];apply Z;apply aC;simp [aH,Pp];rw [aFx _ _ _ (by omega)];simp
def rU(out:Ls)(s:Stp):Ls:=if s.drop=true then kS out s.name else rN out s.name
def Zw(l:Ls)(S:List Stp):Ls:=S.foldl rU (bU l)
theorem jL(c:ByteArray)(l:Ls):has c l=true↔c∈l:=by
 simp [has]
theorem aAq(l:Ls)(c:ByteArray)(h:l.Nodup):(rN l c).Nodup:=by
 unfold rN;split
 .exact h
 rename_i hc;rw [jL] at hc;rw [mJ];exact⟨h,by simp,by simp;intro a ha e;subst e;exact hc ha⟩
theorem oX(l:Ls):(bU l).Nodup:=by
 induction l using pK with
 | h0=>simp [bU]
 | h1 l x ih=>rw [nF];exact aAq _ _ ih
theorem Vw(B A:Ls):(B.take (kB B A)).Sublist A:=by
 induction A using pK with
 | h0=>simp [kB]
 | h1 A x ih=>
  rw [Bc];split
  .rename_i h;obtain⟨hn,hx⟩:=aP.1 h;rw [bL B _ hn,hx];exact ih.append (yC _)
  exact ih.trans (List.sublist_append_left _ _)
theorem aR4(a b:ByteArray):(a==b)=true↔a=b:=by
 cases a;cases b;show ByteArray.beq _ _=_↔_
 unfold ByteArray.beq;simp
instance :LawfulBEq ByteArray where
 eq_of_beq {a b} h:=(aR4 a b).1 h
 rfl {a} :=(aR4 a a).2 rfl
theorem La {L A:Ls} (h:L.Sublist A):A.Nodup->A.filter (fun c=>has c L)=L:=by
 induction h with
 | slnil=>intro _;rfl
 | @cons L A a h ih =>
  intro hA;have hA:=gY.1 hA;have h1:has a L=false:=by
   rw [qL];intro e;exact hA.1 (h.subset ((jL _ _).1 e))
  rw [gQ,aD (by simp [h1])];exact ih hA.2
 | @cons_cons L A a h ih =>
  intro hA;have hA:=gY.1 hA;rw [gQ,aK ((jL _ _).2 (by simp))];congr 1;refine Eq.trans (gZ fun c hc=>?_) (ih hA.2);rw [iZ,jL,jL,bM];constructor
  .rintro(rfl | h2)
   .exact absurd hc hA.1
   exact h2
  exact .inr
theorem uA:∀(names X:Ls),(names.map (Stp.mk true)).foldl rU X=X.filter fun c=> !has c names
 | [],X=>by
  rw [kP,qP,eq_comm,nK];intro c _;have:has c []=false:=by rw [qL];intro e;have:=(jL _ _).1 e;simp at this
  simp [this]
 | n::names,X=>by
  rw [cC,dO,uA names];have hs:rU X ⟨true,n⟩=kS X n:=rfl;rw [hs];unfold kS;rw [iQ];refine gZ fun c _=>?_;rw [iZ];simp only [gP,mE,qL,ne_eq,jL,bM,fN,not_or];exact⟨fun h=>⟨h.2,h.1⟩,fun h=>⟨h.2,h.1⟩⟩
theorem Df:∀(Y X:Ls),(X++Y).Nodup->(Y.map (Stp.mk false)).foldl rU X=X++Y
 | [],X,_=>by simp
 | y :: Y, X, h => by
  have hs:rU X ⟨false,y⟩=X++ [y]:=by
   have hy:¬has y X=true:=by
    rw [jL];intro e;exact(mJ.1 h).2.2 y e y (by simp) rfl
   simp only [rU,rN,hy];simp
  rw [cC,dO,hs,Df Y (X++ [y]) (by simpa using h)];simp
theorem aA9(a b:Ls):Zw a (jT a b)=bU b:=by
 unfold Zw jT Pp Ip;rw [jR,uA];have h1:(bU a).filter (fun c=> !has c ((bU a).filter fun c=> !has c ((bU b).take (kB (bU b) (bU a)))))=(bU b).take (kB (bU b) (bU a)):=by
  refine Eq.trans (gZ fun c hc=>?_) (La (Vw (bU b) (bU a)) (oX a));rw [iZ];simp only [mE,qL,ne_eq,jL,cS,not_and,Gf];exact⟨fun h=>h hc,fun h _=>h⟩
 rw [h1,Df _ _ (by rw [eZ];exact oX b),eZ]
structure ST where
 kind:Int
 ID:Int
 at_:Int
 deriving DecidableEq
@[simp] abbrev bBd(s:ST):D:= .agg [.v (.int .i64 s.kind),.v (.int .i64 s.ID),.v (.int .i64 s.at_)]
end Go.Proofs.YtbgfljpnhhdkoaaGreat
namespace Go.Proofs.YtbgfljpnhhdkoaaGreat.Lis
variable {ends:List Nat}{l:List Int}
def wJ(l:List Int)(i:Nat):Int:=l.getD i 0
def below(l:List Int)(ends:List Nat)(x:Int):Nat:=(ends.takeWhile fun e=>decide (wJ l e<x)).length
def Oh(ahead:List Int):Nat->Int->List Nat
 | 0,_=> []
 | n+1,c=>if c<0 then [] else c.toNat::Oh ahead n (ahead.getD c.toNat (-1))
def Fx(l:List Int)(rR:List Nat)(i:Nat):Nat->Nat
 | 0=>1
 | k+1=>if wJ l k<wJ l i/\Fx l rR i k<=rR.getD k 0 then rR.getD k 0+1 else Fx l rR i k
def rR(l:List Int):Nat->List Nat
 | 0=> []
 | i+1=>rR l i++ [Fx l (rR l i) i i]
def lY(l:List Int)(i:Nat):Nat:=(rR l (i+1)).getD i 0
theorem Cp(l:List Int):∀n,(rR l n).length=n
 | 0=>rfl
 | n+1=>by simp [rR,Cp l n]
theorem Wl(l:List Int):∀(n i:Nat),i<n->(rR l n).getD i 0=lY l i
 | n+1,i,h=>by
  by_cases e:i=n
  .subst e;rfl
  have:i<(rR l n).length:=by rw [Cp];omega
  rw [show rR l (n+1)=rR l n++ [Fx l (rR l n) n n] from rfl];rw [lN,bC this,<- lN];exact Wl l n i (by omega)
theorem aL2(l:List Int)(i:Nat):lY l i=Fx l (rR l i) i i:=by
 unfold lY;rw [show rR l (i+1)=rR l i++ [Fx l (rR l i) i i] from rfl,lN,bX (by rw [Cp];exact aW _),Cp,mB];rfl
theorem Np(l:List Int)(i:Nat):∀k,k<=i->1<=Fx l (rR l i) i k/\(∀j,j<k->wJ l j<wJ l i->lY l j<Fx l (rR l i) i k)/\(Fx l (rR l i) i k=1\/∃j,j<k/\wJ l j<wJ l i/\lY l j+1=Fx l (rR l i) i k)
 | 0,_=>⟨aW _,fun j h=>by omega,.inl rfl⟩
 | k + 1, hk => by
  obtain⟨h1,h2,h3⟩:=Np l i k (by omega);have hg:=Wl l i k (by omega);simp only [Fx,hg];by_cases c:wJ l k<wJ l i/\Fx l (rR l i) i k<=lY l k
  .rw [aK c];refine⟨by omega,fun j hj hl=>?_,.inr ⟨k,by omega,c.1,rfl⟩⟩;by_cases e:j=k
   .subst e;omega
   have:=h2 j (by omega) hl;omega
  rw [aD c];refine⟨h1,fun j hj hl=>?_,?_⟩
  .by_cases e:j=k
   .subst e;by_cases c2:Fx l (rR l i) i j<=lY l j
    .exact absurd ⟨hl,c2⟩ c
    omega
   exact h2 j (by omega) hl
  rcases h3 with h3 | ⟨j,a,b,d⟩
  .exact .inl h3
  exact .inr ⟨j,by omega,b,d⟩
theorem Ke(l:List Int)(i:Nat):1<=lY l i/\(∀j,j<i->wJ l j<wJ l i->lY l j<lY l i)/\(lY l i=1\/∃j,j<i/\wJ l j<wJ l i/\lY l j+1=lY l i):=by
 rw [aL2];exact Np l i i (aW _)
def Dis(l:List Int):Prop:=∀i j,i<l.length->j<l.length->wJ l i=wJ l j->i=j
structure Inv(l:List Int)(i:Nat)(ends:List Nat):Prop where
 lt:∀p e,ends[p]?=some e->e<i/\lY l e=p+1/\∀k,k<i->lY l k=p+1->wJ l e<=wJ l k
 all:∀k,k<i->lY l k<=ends.length
 up:∀p e f,ends[p]?=some e->ends[p+1]?=some f->wJ l e<wJ l f
theorem Inv.mono {i:Nat} (h:Inv l i ends):∀(d p:Nat) (e f:Nat),ends[p]?=some e->ends[p+d]?=some f->wJ l e<=wJ l f
 | 0,p,e,f,h1,h2=>by rw [kK,h1] at h2;cases h2;exact mM _
 | d+1,p,e,f,h1,h2=>by
  have hlt:p+d<ends.length:=by have:=(aP.1 h2).1;omega
  have h3:ends[p+d]?=some ends[p+d]:=aS hlt;have:=h.mono d p e _ h1 h3;have:=h.up (p+d) _ f h3 h2;omega
theorem xU {α:Type} (p:α->Bool):∀(l:List α),(∀i a,i<(l.takeWhile p).length->l[i]?=some a->p a=true)/\(∀a,l[(l.takeWhile p).length]?=some a->p a=false)/\(l.takeWhile p).length<=l.length
 | []=>⟨fun i a h=>by simp at h,fun a h=>by simp at h,aW _⟩
 | x :: l => by
  obtain⟨h1,h2,h3⟩:=xU p l;by_cases hx:p x=true
  .rw [List.takeWhile_cons_of_pos hx];refine⟨fun i a hi ha=>?_,fun a ha=>h2 a (by simpa using ha),by simp;omega⟩;cases i with
   | zero=>simp at ha;subst ha;exact hx
   | succ i=>exact h1 i a (by simpa using hi) (by simpa using ha)
  rw [List.takeWhile_cons_of_neg hx];refine⟨fun i a hi=>by simp at hi,fun a ha=>?_,iM _⟩;simp at ha;subst ha;simpa using hx
theorem Inv.next {i:Nat} (h:Inv l i ends)(hi:i<l.length)(hd:Dis l):
  let n:=below l ends (wJ l i)
  lY l i=n+1/\n<=ends.length/\Inv l (i+1) (if n=ends.length then ends++ [i] else if wJ l i<wJ l (ends.getD n 0)then ends.set n i else ends):=by
 intro n;obtain⟨t1,t2,t3⟩:=xU (fun e=>decide (wJ l e<wJ l i)) ends;have hn:n=(ends.takeWhile fun e=>decide (wJ l e<wJ l i)).length:=rfl;rw [<- hn] at t1 t2 t3;obtain⟨s1,s2,s3⟩:=Ke l i;have hlen:lY l i=n+1:=by
  have hle:lY l i<=n+1:=by
   rcases s3 with s3 | ⟨j,a,b,c⟩
   .omega
   by_cases hp:lY l j<=n
   .omega
   exfalso;have hj1:=h.all j a;have hjj:=(Ke l j).1;have hlt:n<ends.length:=by omega
   have hn2:ends[n]?=some ends[n]:=aS hlt;have hx:=t2 _ hn2;have hp2:ends[lY l j - 1]?=some (ends[lY l j - 1]'(by omega)):=aS (by omega);have hm:=(h.lt _ _ hp2).2.2 j a (by omega);have hmo:=h.mono (lY l j - 1 - n) n _ _ hn2 (by rw [show n+(lY l j - 1 - n)=lY l j - 1 by omega];exact hp2);simp at hx;omega
  by_cases h0:n=0
  .omega
  have hlt:n - 1<ends.length:=by omega
  have hp:ends[n - 1]?=some ends[n - 1]:=aS hlt;have hx:=t1 (n - 1) _ (by omega) hp;obtain⟨e1,e2,_⟩:=h.lt _ _ hp;have:=s2 _ e1 (by simpa using hx);omega
 refine⟨hlen,t3,?_⟩;have hsplit:∀k,k<i+1->k<i\/k=i:=fun k hk=>by omega
 by_cases c1:n=ends.length
 .rw [aK c1];refine⟨fun p e hp=>?_,fun k hk=>?_,fun p e f he hf=>?_⟩
  .by_cases hpl:p<ends.length
   .rw [bC hpl] at hp;obtain⟨a,b,c⟩:=h.lt p e hp;refine⟨by omega,b,fun k hk hl=>?_⟩;rcases hsplit k hk with hk | rfl
    .exact c k hk hl
    omega
   rw [bX (by omega)] at hp;have hp0:p - ends.length=0:=by
    have:=(aP.1 hp).1;simp at this;omega
   rw [hp0] at hp;simp at hp;subst hp;refine⟨by omega,by omega,fun k hk hl=>?_⟩;rcases hsplit k hk with hk | rfl
   .have:=h.all k hk;omega
   exact mM _
  .rw [aZ,uW];rcases hsplit k hk with hk | rfl
   .have:=h.all k hk;omega
   omega
  by_cases hpl:p+1<ends.length
  .rw [bC (by omega)] at he;rw [bC hpl] at hf;exact h.up p e f he hf
  have hfl:=(aP.1 hf).1;simp at hfl;have hpe:p+1=ends.length:=by omega
  rw [bC (by omega)] at he;rw [bX (by omega),show p+1 - ends.length=0 by omega] at hf;simp at hf;subst hf;have:=t1 p e (by omega) he;simpa using this
 rw [aD c1];have hlt:n<ends.length:=by omega
 have hn2:ends[n]?=some ends[n]:=aS hlt;have hgd:ends.getD n 0=ends[n]:=by rw [lN,hn2];rfl
 have hx:=t2 _ hn2;have hx1:wJ l i<=wJ l ends[n]:=by simpa using hx
 obtain⟨e1,e2,e3⟩:=h.lt _ _ hn2;have hne:wJ l i≠wJ l ends[n]:=fun e=>by
  have:=hd i ends[n] hi (by omega) e;omega
 have c2:wJ l i<wJ l (ends.getD n 0):=by rw [hgd];omega
 rw [aK c2];refine⟨fun p e hp=>?_,fun k hk=>?_,fun p e f he hf=>?_⟩
 .rw [cL] at hp;by_cases hpn:n=p
  .subst hpn;rw [aK rfl,aK hlt] at hp;cases hp;refine⟨by omega,hlen,fun k hk hl=>?_⟩;rcases hsplit k hk with hk | rfl
   .have:=e3 k hk hl;omega
   exact mM _
  rw [aD hpn] at hp;obtain⟨a,b,c⟩:=h.lt p e hp;refine⟨by omega,b,fun k hk hl=>?_⟩;rcases hsplit k hk with hk | rfl
  .exact c k hk hl
  omega
 .rw [cK];rcases hsplit k hk with hk | rfl
  .exact h.all k hk
  omega
 rw [cL] at he hf;by_cases h1:n=p
 .subst h1;rw [aK rfl,aK hlt] at he;rw [aD (by omega)] at hf;cases he;have:=h.up n _ f hn2 hf;omega
 rw [aD h1] at he;by_cases h2:n=p+1
 .rw [aK h2,aK hlt] at hf;cases hf;have:=t1 p e (by omega) he;simpa using this
 rw [aD h2] at hf;exact h.up p e f he hf
end Go.Proofs.YtbgfljpnhhdkoaaGreat.Lis
namespace Go.Proofs.YtbgfljpnhhdkoaaGreat
open Go Go.Vm
variable {a b l now os:List Int}{x:Int}
def plc(l:List Int)(x:Int):Int:=aGy x l+1
theorem aK0 (h:x∈l):∃k:Nat,∃hk:k<l.length,aGy x l=k/\l[k]=x/\x∉l.take k:=by
 unfold aGy wR;split
 .rename_i k hf;rw [qB] at hf;obtain⟨hk,he,hn⟩:=hf;refine⟨k,hk,rfl,by simpa using he,fun hx=>?_⟩;obtain⟨j,hj⟩:=eW hx;rw [eN] at hj;split at hj
  .rename_i hjk;have:=hn j hjk;rw [aS (by omega)] at hj;simp at hj;simp [hj] at this
  cases hj
 rename_i hf;rw [qJ] at hf;have:=hf x h;simp at this
def at_(l:List Int)(x:Int):Int:=if x∈l then plc l x else 0
def aR8(a b:List Int):List ST:=(a.filter fun x=> !decide (x∈b)).map fun x=>⟨1,x,0⟩
def aNh(b now:List Int)(i:Nat):Nat:=if i+1<b.length then(aGy (b[i+1]?.getD 0) now).toNat else now.length
def aMc(now:List Int)(x:Int):List Int:=now.filter fun y=> !decide (y=x)
def wH(a now:List Int)(x:Int):List Int:=if x∈a then aMc now x else now
def stB(a b os:List Int)(i:Nat)(s:List Int×List ST):List Int×List ST:=
 if b[i]?.getD 0∈os then s else
 (fQ (wH a s.1 (b[i]?.getD 0)) (aNh b (wH a s.1 (b[i]?.getD 0)) i) (b[i]?.getD 0),s.2++ [⟨if b[i]?.getD 0∈a then 3 else 2,b[i]?.getD 0,aNh b (wH a s.1 (b[i]?.getD 0)) i⟩])
structure InvB(a b os:List Int)(k:Nat)(now:List Int):Prop where
 stay:∀x∈os,x∈now
 done:∀j,b.length - k<=j->j<b.length->(b[j]?.getD 0)∈now
 len:now.length<=a.length+k
theorem Md {i:Nat} {y:Int} :y∈fQ l i x↔y=x\/y∈l:=by
 unfold fQ;rw [bT,bM];constructor
 .rintro(h | h | h)
  .exact .inr (mD h)
  .exact .inl h
  exact .inr (zN h)
 rintro(h | h)
 .exact .inr (.inl h)
 rw [<- eZ i l,bT] at h;rcases h with h | h
 .exact .inl h
 exact .inr (.inr h)
theorem aHo(a now:List Int)(x:Int):(wH a now x).length<=now.length:=by
 unfold wH aMc;split
 .exact jD _ _
 exact aW _
theorem Ln {y:Int} (h:y∈now)(hne:y≠x):y∈wH a now x:=by
 unfold wH aMc;split
 .simp [h,hne]
 exact h
theorem aCs (hb:b.Nodup) {i j:Nat} (hi:i<b.length)(hj:j<b.length)(h:i≠j):b[i]?.getD 0≠b[j]?.getD 0:=by
 rw [aS hi,aS hj];intro e;exact h ((List.getElem_inj hb).1 (by simpa using e))
theorem aVo {k:Nat} (hb:b.Nodup)(hk:k<b.length)(h:InvB a b os k now)(hn:¬(b[b.length - 1 - k]?.getD 0)∈os):
  aNh b (wH a now (b[b.length - 1 - k]?.getD 0)) (b.length - 1 - k)<=(wH a now (b[b.length - 1 - k]?.getD 0)).length/\
  ((b.length - 1 - k:Nat)+1<b.length->aGy (b[b.length - 1 - k+1]?.getD 0) (wH a now (b[b.length - 1 - k]?.getD 0))=(aNh b (wH a now (b[b.length - 1 - k]?.getD 0)) (b.length - 1 - k):Nat)):=by
 unfold aNh;split
 .rename_i hlt;have hm:(b[b.length - 1 - k+1]?.getD 0)∈wH a now (b[b.length - 1 - k]?.getD 0):=Ln (h.done _ (by omega) (by omega)) (aCs hb (by omega) (by omega) (by omega));obtain⟨j,hj,h1,_⟩:=aK0 hm;exact⟨by omega,fun _=>by omega⟩
 exact⟨aW _,fun h=>by omega⟩
theorem InvB.zero (h:∀x∈os,x∈a/\x∈b):InvB a b os 0 (a.filter fun x=>decide (x∈b)):=
 ⟨fun x hx=>by simp [h x hx],fun j h1 h2=>by omega,by simpa using List.length_filter_le _ _⟩
theorem InvB.next {k:Nat} {s:List Int×List ST} (hb:b.Nodup)(hk:k<b.length)(h:InvB a b os k s.1):InvB a b os (k+1) (stB a b os (b.length - 1 - k) s).1:=by
 have hcase:∀j,b.length - (k+1)<=j->j<b.length->j=b.length - 1 - k\/b.length - k<=j:=fun j h1 h2=>by omega
 unfold stB;by_cases hx:b[b.length - 1 - k]?.getD 0∈os
 .rw [aK hx];refine⟨h.stay,fun j h1 h2=>?_,by have:=h.len;omega⟩;rcases hcase j h1 h2 with rfl | hj
  .exact h.stay _ hx
  exact h.done j hj h2
 rw [aD hx];obtain⟨p1,p2⟩:=aVo hb hk h hx;refine⟨fun x hxo=>?_,fun j h1 h2=>?_,?_⟩
 .exact Md.2 (.inr (Ln (h.stay x hxo) (by rintro rfl;exact hx hxo)))
 .rcases hcase j h1 h2 with rfl | hj
  .exact Md.2 (.inl rfl)
  exact Md.2 (.inr (Ln (h.done j hj h2) (aCs hb h2 (by omega) (by omega))))
 have:=aHo a s.1 (b[b.length - 1 - k]?.getD 0);have:=h.len;rw [jS _ _ _ p1];omega
end Go.Proofs.YtbgfljpnhhdkoaaGreat

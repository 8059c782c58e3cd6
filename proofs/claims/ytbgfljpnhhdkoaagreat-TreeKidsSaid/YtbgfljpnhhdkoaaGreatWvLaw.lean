import Derived.Test.YtbgfljpnhhdkoaaGreatWkAr9
import Derived.Test.YtbgfljpnhhdkoaaGreatVmTab
import Derived.Test.YtbgfljpnhhdkoaaGreatVmZ
import Derived.Test.YtbgfljpnhhdkoaaGreatWkAr4
set_option maxHeartbeats 8000000
set_option linter.all false
set_option maxRecDepth 20000
open Go.Proofs.Tryz
namespace Go.Proofs.YtbgfljpnhhdkoaaGreat
open Go Go.Vm
structure Stp where
 drop:Bool
 name:ByteArray
 deriving DecidableEq
@[simp] abbrev aK7(s:Stp):D:= .agg [.v (.bool s.drop),.v (.string s.name)]
structure SA where
 drop:Bool
 name:ByteArray
 value:ByteArray
 deriving DecidableEq
@[simp] abbrev Pk(s:SA):D:= .agg [.v (.bool s.drop),.v (.string s.name),.v (.string s.value)]
structure SI where
 drop:Bool
 name:ByteArray
 value:Int
 deriving DecidableEq
@[simp] abbrev Qu(s:SI):D:= .agg [.v (.bool s.drop),.v (.string s.name),.v (.int .i64 s.value)]
structure OW where
 classes:(List ByteArray)
 attrs:(List AT)
 styles:(List PI)
 deriving DecidableEq
@[simp] abbrev Fk(s:OW):D:= .agg [.sl false (s.classes.map D.str),.sl false (s.attrs.map cZ),.sl false (s.styles.map cL)]
@[simp] abbrev aY6(s:OW):D:= .agg [.sl true (s.classes.map D.str),.sl true (s.attrs.map cZ),.sl true (s.styles.map cL)]
def bS(l:Ls):Ls:=l.foldl sP []
theorem mK(l:Ls)(x:ByteArray):bS (l++ [x])=sP (bS l) x:=by simp [bS]
theorem Wz(l:Ls)(k:Nat)(h:k<l.length):bS (l.take (k+1))=sP (bS (l.take k)) l[k]:=by rw [bR l k h,mK]
theorem aKz(c x:ByteArray)(l:Ls):has c (sP l x)=(has c l || decide (x=c)):=by
 unfold sP;split
 .rename_i h;by_cases e:x=c
  .subst e;simp [h]
  simp [e]
 exact Cx c x l
theorem aCt(c:ByteArray)(l:Ls):has c (bS l)=has c l:=by
 induction l using oW with
 | h0=>rfl
 | h1 l x ih=>rw [mK,aKz,Cx,ih]
theorem pG(l:Ls):(bS l).length<=l.length:=by
 induction l using oW with
 | h0=>exact aX _
 | h1 l x ih=>rw [mK];have:=aIo (bS l) x;simp;omega
@[simp] abbrev q44_1:Cfg:=⟨[2,3,16],[],[],[],[]⟩
theorem Da(l:Ls)(σ:List (List D))(hl:l.length<=100000):Ct prog 106 [dl l] σ (fun r σ'=>r=dlo (bS l)/\σ'=σ):=by
 refine zf func106 ?_;refine zr q44_1 fun _ _ Z=>?_;simp(disch:=omega);apply Z;refine zr q44_1 fun _ _ Z=>?_;simp(disch:=omega);apply Z;apply aE;refine zr q44_1 fun _ _ Z=>?_;simp(disch:=omega);and_intros<;>(try omega);apply Z;apply aR;refine zk [2,3,6,7,8] ?_;refine aY (fun(k:Nat)=> [(8,.d (.int k)),(3,.d (dlo (bS (l.take k))))]) [3,5,8,9,10,11,12,13,14,15] (fun(k:Nat)=>k<=l.length) (fun(k:Nat)=>l.length - k) (0) (by simp <;> rfl) ?_ ?_ ?_
 .simp [bS]
 .simp
 rintro k hk;simp only [aQ,aP];have hcl:=pG (l.take k);simp only [bF] at hcl;refine zr q44_1 fun _ _ Z=>?_;simp(disch:=omega);apply Z;apply aE;refine zI ?_ ?_<;>intro c1<;>try simp at c1
 .apply kO;refine zr q44_1 fun _ _ Z=>?_;simp(disch:=omega);and_intros<;>(try omega);apply Z;refine zt q44_1 fun _ _ Z=>?_;refine zs 2 fun _ Y=>?_;simp(disch:=omega);apply Y;refine aF fun _ Y=>?_;simp(disch:=omega);refine cN (aMf (bS (l.take k)) _ _ (by omega)) ?_;apply Y;simp(disch:=omega);apply Z;apply zB;refine zk [2,3,6,7,8] ?_;refine zt q44_1 fun _ _ Z=>?_;simp(disch:=omega);and_intros<;>(try omega);apply Z;refine zq (k+1) ?_ ?_ ?_
  .omega
  .try dsimp only
   omega
  simp(disch:=omega)[Wz]
 apply zE;refine zr q44_1 fun _ _ Z=>?_;simp(disch:=omega);apply Z;apply aC;simp [aG];rw [bV (by omega)]
def jO(b:Ls):Ls->Nat:=fun a=>a.foldl (fun n c=>if b[n]?=some c then n+1 else n) 0
theorem zR(b a:Ls)(x:ByteArray):jO b (a++ [x])=if b[jO b a]?=some x then jO b a+1 else jO b a:=by
 unfold jO;rw [jD];rfl
theorem Aj(b a:Ls)(k:Nat)(h:k<a.length):jO b (a.take (k+1))=if b[jO b (a.take k)]?=some a[k] then jO b (a.take k)+1 else jO b (a.take k):=by
 rw [bR a k h,zR]
theorem Vj(b a:Ls):jO b a<=b.length:=by
 induction a using oW with
 | h0=>exact iE _
 | h1 l x ih=>
  rw [zR];split
  .rename_i h;have:=(aN.1 h).1;omega
  exact ih
theorem aMc(a b:Ls)(σ:List (List D))(ha:a.length<=1000000)(hb:b.length<=1000000):Ct prog 194 [dl a,dl b] σ (fun r σ'=>r= .int (jO b a)/\σ'=σ):=by
 refine zf func194 ?_;refine bC fun _ _ Z=>?_;simp(disch:=omega);apply Z;refine bC fun _ _ Z=>?_;simp(disch:=omega);apply Z;apply aE;refine bC fun _ _ Z=>?_;simp(disch:=omega);and_intros<;>(try omega);apply Z;apply aR;refine zk [1,4,5,8,9,10] ?_;refine aY (fun(k:Nat)=> [(10,.d (.int k)),(5,.d (.int (jO b (a.take k))))]) [5,7,10,11,12,13,14,15,16,17,18,19,20,21,22,23,24,25,26,27,28] (fun(k:Nat)=>k<=a.length) (fun(k:Nat)=>a.length - k) (0) (by simp <;> rfl) ?_ ?_ ?_
 .simp [jO]
 .simp
 rintro k hk;simp only [aQ,aP];have hcl:=Vj b (a.take k);refine bC fun _ _ Z=>?_;simp(disch:=omega);apply Z;apply aE;refine zI ?_ ?_<;>intro c1<;>try simp at c1
 .apply kO;refine bC fun _ _ Z=>?_;simp(disch:=omega);and_intros<;>(try omega);apply Z;refine zk [1,4,5,7,8,9,10] ?_;refine mE ⟨[],[],[],[],[]⟩ fun all hall _ Z=>?_;have ga4:aO all 4=some 18:=hall 4;refine zs 5 fun _ Y=>?_;simp(disch:=omega)[ga4];and_intros<;>(try omega);apply Y;refine zb 18 ?_ ?_<;>intro g2<;>try simp at g2
  .simp(disch:=omega)[ga4];and_intros<;>(try omega);apply Z;refine zI ?_ ?_<;>intro c3<;>try simp at c3
   .refine zk [1,4,5,8,9,10] ?_;refine qF fun _ _ Z=>?_;simp(disch:=omega);and_intros<;>(try omega);apply Z;apply zB;refine qF fun _ _ Z=>?_;simp(disch:=omega);and_intros<;>(try omega);apply Z;refine zq (k+1) ?_ ?_ ?_
    .omega
    .try dsimp only
     omega
    simp(disch:=omega) [Aj,g2,c3]
   apply nM;refine zk [1,4,5,8,9,10] ?_;refine qF fun _ _ Z=>?_;simp(disch:=omega);and_intros<;>(try omega);apply Z;refine zq (k+1) ?_ ?_ ?_
   .omega
   .try dsimp only
    omega
   simp(disch:=omega) [Aj,g2,c3]
  simp(disch:=omega)[ga4];apply Z;refine aZ (t:=false) (by simp) (fun h=>by cases h) (fun _=>?_);apply nM;refine zk [1,4,5,8,9,10] ?_;refine qF fun _ _ Z=>?_;simp(disch:=omega);and_intros<;>(try omega);apply Z;refine zq (k+1) ?_ ?_ ?_
  .omega
  .try dsimp only
   omega
  simp(disch:=omega) [Aj,g2]
 apply zE;refine bC fun _ _ Z=>?_;simp(disch:=omega);apply Z;apply aC;simp [aG];rw [bV (by omega)]
def Ha(B:Ls)(n:Nat)(A:Ls):List Stp:=(A.filter fun c=> !has c (B.take n)).map (Stp.mk true)
theorem Ml(B:Ls)(n:Nat)(A:Ls)(k:Nat)(h:k<A.length):Ha B n (A.take (k+1))=Ha B n (A.take k)++if has A[k] (B.take n)=true then [] else [⟨true,A[k]⟩]:=by
 unfold Ha;rw [bR A k h,fS,cO,gN];by_cases e:has A[k] (B.take n)=true <;> simp [e]
theorem Kl(B:Ls)(n:Nat)(A:Ls):(Ha B n A).length<=A.length:=by
 unfold Ha;rw [bQ];exact kB _ _
def Mi(A B:Ls):List Stp:=Ha B (jO B A) A++(B.drop (jO B A)).map (Stp.mk false)
def jM(a b:Ls):List Stp:=Mi (bS a) (bS b)
def Ch(B:Ls)(n k:Nat):List Stp:=((B.drop n).take k).map (Stp.mk false)
theorem Ws(B:Ls)(n k:Nat)(h:n+k<B.length):Ch B n (k+1)=Ch B n k++ [⟨false,B[n+k]⟩]:=by
 unfold Ch;rw [bR (B.drop n) k (by simp;omega),cO];simp
theorem aC0(B:Ls)(n j:Nat)(h:B.length<=n+j):Ch B n j=(B.drop n).map (Stp.mk false):=by
 unfold Ch;rw [bV (by simp;omega)]
theorem aEh(B:Ls)(n k:Nat):(Ch B n k).length<=k:=by simp [Ch];omega
@[simp] abbrev q44_2:Cfg:=⟨[4,6,30,44,50],[],[],[],[]⟩
theorem aLt(a b:Ls)(σ:List (List D))(ha:a.length<=10000)(hb:b.length<=10000):Ct prog 114 [dl a,dl b] σ (fun r σ'=>r= .sl true ((jM a b).map aK7)/\σ'=σ):=by
 unfold jM;have hca:=pG a;have hcb:=pG b;refine zf func114 ?_;refine zr q44_2 fun _ _ Z=>?_;simp(disch:=omega)[aA,aB];apply Z;refine zr q44_2 fun _ _ Z=>?_;refine zs 1 fun _ Y=>?_;simp(disch:=omega)[aA,aB];apply Y;refine aF fun _ Y=>?_;simp(disch:=omega)[aA,aB];refine cN (Da a _ (by omega)) ?_;apply Y;refine zs 1 fun _ Y=>?_;simp(disch:=omega)[aA,aB];apply Y;refine aF fun _ Y=>?_;simp(disch:=omega)[aA,aB];refine cN (Da b _ (by omega)) ?_;apply Y;simp(disch:=omega)[aA,aB];apply Z;refine zr q44_2 fun _ _ Z=>?_;refine zs 2 fun _ Y=>?_;simp(disch:=omega)[aA,aB];apply Y;refine aF fun _ Y=>?_;simp(disch:=omega)[aA,aB];refine cN (aMc (bS a) (bS b) _ (by omega) (by omega)) ?_;apply Y;simp(disch:=omega)[aA,aB];apply Z;refine zr q44_2 fun _ _ Z=>?_;simp(disch:=omega)[aA,aB];apply Z;apply aE;refine zk [0,1,4,5,6] ?_;refine zr q44_2 fun _ _ Z=>?_;simp(disch:=omega)[aA,aB];and_intros<;>(try omega);apply Z;apply aR;refine zk [1,4,5,6,18,19,20] ?_;have hkl:=Vj (bS b) (bS a);refine aY (fun(k:Nat)=> [(20,.d (.int k)),(6,.d (.sl true ((Ha (bS b) (jO (bS b) (bS a)) ((bS a).take k)).map aK7)))]) [6,8,20,21,22,23,24,25,26,27,28,29,30,31,32,33,34,35] (fun(k:Nat)=>k<=(bS a).length) (fun(k:Nat)=>(bS a).length - k) (0) (by simp <;> rfl) ?_ ?_ ?_
 .simp [Ha]
 .simp
 rintro k hk;simp only [aQ,aP];have hcl:=Kl (bS b) (jO (bS b) (bS a)) ((bS a).take k);simp only [bF] at hcl;refine zr q44_2 fun _ _ Z=>?_;simp(disch:=omega)[aA,aB];apply Z;apply aE;refine zI ?_ ?_<;>intro c1<;>try simp at c1
 .apply kO;refine zr q44_2 fun _ _ Z=>?_;simp(disch:=omega)[aA,aB];and_intros<;>(try omega);apply Z;refine zr q44_2 fun _ _ Z=>?_;refine zs 4 fun _ Y=>?_;simp(disch:=omega)[aA,aB];and_intros<;>(try omega);apply Y;refine aF fun _ Y=>?_;simp(disch:=omega)[aA,aB];refine cN (yU ((bS b).take (jO (bS b) (bS a))) _ _ (by simp;omega)) ?_;apply Y;simp(disch:=omega)[aA,aB];apply Z;refine zI ?_ ?_<;>intro c2<;>try simp at c2
  .refine zk [1,4,5,6,8,18,19,20] ?_;refine zt q44_2 fun _ _ Z=>?_;simp(disch:=omega)[aA,aB];and_intros<;>(try omega);apply Z;apply zB;refine zk [1,4,5,6,18,19,20] ?_;refine zt q44_2 fun _ _ Z=>?_;simp(disch:=omega)[aA,aB];and_intros<;>(try omega);apply Z;refine zq (k+1) ?_ ?_ ?_
   .omega
   .try dsimp only
    omega
   simp(disch:=omega)[aA,aB,Ml,c2]
  apply nM;refine zk [1,4,5,6,18,19,20] ?_;refine zt q44_2 fun _ _ Z=>?_;simp(disch:=omega)[aA,aB];and_intros<;>(try omega);apply Z;refine zq (k+1) ?_ ?_ ?_
  .omega
  .try dsimp only
   omega
  simp(disch:=omega)[aA,aB,Ml,c2]
 apply zE;apply aE;refine zr q44_2 fun _ _ Z=>?_;simp(disch:=omega)[aA,aB];and_intros<;>(try omega);apply Z;apply aR;refine zk [4,6,38,39,40] ?_;refine aY (fun(j:Nat)=> [(40,.d (.int j)),(6,.d (.sl true ((Ha (bS b) (jO (bS b) (bS a)) (bS a)++Ch (bS b) (jO (bS b) (bS a)) j).map aK7)))]) [6,10,40,41,42,43,44,45,46,47,48,49] (fun(j:Nat)=>jO (bS b) (bS a)+j<=(bS b).length) (fun(j:Nat)=>(bS b).length - j) (0) (by simp <;> rfl) ?_ ?_ ?_
 .simp [Ch];rw [bV (by omega)];simp
 .simp;omega
 rintro j hj;simp only [aQ,aP];have hcl:=Kl (bS b) (jO (bS b) (bS a)) (bS a);have hcl2:=aEh (bS b) (jO (bS b) (bS a)) j;refine zr q44_2 fun _ _ Z=>?_;simp(disch:=omega)[aA,aB];apply Z;apply aE;refine zI ?_ ?_<;>intro c3<;>try simp at c3
 .apply kO;refine zr q44_2 fun _ _ Z=>?_;simp(disch:=omega)[aA,aB];and_intros<;>(try omega);apply Z;refine zt q44_2 fun _ _ Z=>?_;simp(disch:=omega)[aA,aB];and_intros<;>(try omega);apply Z;apply zB;refine zk [4,6,38,39,40] ?_;refine zt q44_2 fun _ _ Z=>?_;simp(disch:=omega)[aA,aB];and_intros<;>(try omega);apply Z;refine zq (j+1) ?_ ?_ ?_
  .omega
  .try dsimp only
   omega
  simp(disch:=omega)[aA,aB,Ws]
 apply zE;refine zr q44_2 fun _ _ Z=>?_;simp(disch:=omega)[aA,aB];apply Z;apply aC;simp [aG,Mi];rw [aC0 _ _ _ (by omega)];simp
def rD(out:Ls)(s:Stp):Ls:=if s.drop=true then kG out s.name else sP out s.name
def Zs(l:Ls)(S:List Stp):Ls:=S.foldl rD (bS l)
theorem iZ(c:ByteArray)(l:Ls):has c l=true↔c∈l:=by
 simp [has]
theorem Wy(l:Ls)(c:ByteArray)(h:l.Nodup):(sP l c).Nodup:=by
 unfold sP;split
 .exact h
 rename_i hc;rw [iZ] at hc;rw [lO];exact⟨h,by simp,by simp;intro a ha e;subst e;exact hc ha⟩
theorem oE(l:Ls):(bS l).Nodup:=by
 induction l using oW with
 | h0=>simp [bS]
 | h1 l x ih=>rw [mK];exact Wy _ _ ih
theorem Uy(B A:Ls):(B.take (jO B A)).Sublist A:=by
 induction A using oW with
 | h0=>simp [jO]
 | h1 A x ih=>
  rw [zR];split
  .rename_i h;obtain⟨hn,hx⟩:=aN.1 h;rw [bR B _ hn,hx];exact ih.append (Fz _)
  exact ih.trans (List.sublist_append_left _ _)
theorem aQc(a b:ByteArray):(a==b)=true↔a=b:=by
 cases a;cases b;show ByteArray.beq _ _=_↔_
 unfold ByteArray.beq;simp
instance :LawfulBEq ByteArray where
 eq_of_beq {a b} h:=(aQc a b).1 h
 rfl {a} :=(aQc a a).2 rfl
theorem La {L A:Ls} (h:L.Sublist A):A.Nodup->A.filter (fun c=>has c L)=L:=by
 induction h with
 | slnil=>intro _;rfl
 | @cons L A a h ih =>
  intro hA;have hA:=gU.1 hA;have h1:has a L=false:=by
   rw [pJ];intro e;exact hA.1 (h.subset ((iZ _ _).1 e))
  rw [gN,aD (by simp [h1])];exact ih hA.2
 | @cons_cons L A a h ih =>
  intro hA;have hA:=gU.1 hA;rw [gN,aJ ((iZ _ _).2 (by simp))];congr 1;refine Eq.trans (gM fun c hc=>?_) (ih hA.2);rw [iH,iZ,iZ,bM];constructor
  .rintro(rfl | h2)
   .exact absurd hc hA.1
   exact h2
  exact .inr
theorem tE:∀(names X:Ls),(names.map (Stp.mk true)).foldl rD X=X.filter fun c=> !has c names
 | [],X=>by
  rw [kY,qC,eq_comm,nC];intro c _;have:has c []=false:=by rw [pJ];intro e;have:=(iZ _ _).1 e;simp at this
  simp [this]
 | n::names,X=>by
  rw [cK,dQ,tE names];have hs:rD X ⟨true,n⟩=kG X n:=rfl;rw [hs];unfold kG;rw [iL];refine gM fun c _=>?_;rw [iH];simp only [gD,lR,pJ,ne_eq,iZ,bM,eZ,not_or];exact⟨fun h=>⟨h.2,h.1⟩,fun h=>⟨h.2,h.1⟩⟩
theorem Ck:∀(Y X:Ls),(X++Y).Nodup->(Y.map (Stp.mk false)).foldl rD X=X++Y
 | [],X,_=>by simp
 | y :: Y, X, h => by
  have hs:rD X ⟨false,y⟩=X++ [y]:=by
   have hy:¬has y X=true:=by
    rw [iZ];intro e;exact(lO.1 h).2.2 y e y (by simp) rfl
   simp only [rD,sP,hy];simp
  rw [cK,dQ,hs,Ck Y (X++ [y]) (by simpa using h)];simp
theorem Zp(a b:Ls):Zs a (jM a b)=bS b:=by
 unfold Zs jM Mi Ha;rw [jD,tE];have h1:(bS a).filter (fun c=> !has c ((bS a).filter fun c=> !has c ((bS b).take (jO (bS b) (bS a)))))=(bS b).take (jO (bS b) (bS a)):=by
  refine Eq.trans (gM fun c hc=>?_) (La (Uy (bS b) (bS a)) (oE a));rw [iH];simp only [lR,pJ,ne_eq,iZ,cS,not_and,Fc];exact⟨fun h=>h hc,fun h _=>h⟩
 rw [h1,Ck _ _ (by rw [fB];exact oE b),fB]
structure ST where
 kind:Int
 ID:Int
 at_:Int
 deriving DecidableEq
@[simp] abbrev aYk(s:ST):D:= .agg [.v (.int .i64 s.kind),.v (.int .i64 s.ID),.v (.int .i64 s.at_)]
end Go.Proofs.YtbgfljpnhhdkoaaGreat
namespace Go.Proofs.YtbgfljpnhhdkoaaGreat.Lis
variable {ends:List Nat}{l:List Int}
def vP(l:List Int)(i:Nat):Int:=l.getD i 0
def below(l:List Int)(ends:List Nat)(x:Int):Nat:=(ends.takeWhile fun e=>decide (vP l e<x)).length
def Nw(ahead:List Int):Nat->Int->List Nat
 | 0,_=> []
 | n+1,c=>if c<0 then [] else c.toNat::Nw ahead n (ahead.getD c.toNat (-1))
def Du(l:List Int)(qX:List Nat)(i:Nat):Nat->Nat
 | 0=>1
 | k+1=>if vP l k<vP l i/\Du l qX i k<=qX.getD k 0 then qX.getD k 0+1 else Du l qX i k
def qX(l:List Int):Nat->List Nat
 | 0=> []
 | i+1=>qX l i++ [Du l (qX l i) i i]
def lJ(l:List Int)(i:Nat):Nat:=(qX l (i+1)).getD i 0
theorem Cn(l:List Int):∀n,(qX l n).length=n
 | 0=>rfl
 | n+1=>by simp [qX,Cn l n]
theorem Th(l:List Int):∀(n i:Nat),i<n->(qX l n).getD i 0=lJ l i
 | n+1,i,h=>by
  by_cases e:i=n
  .subst e;rfl
  have:i<(qX l n).length:=by rw [Cn];omega
  rw [show qX l (n+1)=qX l n++ [Du l (qX l n) n n] from rfl];rw [kW,bB this,<- kW];exact Th l n i (by omega)
theorem aK5(l:List Int)(i:Nat):lJ l i=Du l (qX l i) i i:=by
 unfold lJ;rw [show qX l (i+1)=qX l i++ [Du l (qX l i) i i] from rfl,kW,bT (by rw [Cn];exact aX _),Cn,lU];rfl
theorem Mf(l:List Int)(i:Nat):∀k,k<=i->1<=Du l (qX l i) i k/\(∀j,j<k->vP l j<vP l i->lJ l j<Du l (qX l i) i k)/\(Du l (qX l i) i k=1\/∃j,j<k/\vP l j<vP l i/\lJ l j+1=Du l (qX l i) i k)
 | 0,_=>⟨aX _,fun j h=>by omega,.inl rfl⟩
 | k + 1, hk => by
  obtain⟨h1,h2,h3⟩:=Mf l i k (by omega);have hg:=Th l i k (by omega);simp only [Du,hg];by_cases c:vP l k<vP l i/\Du l (qX l i) i k<=lJ l k
  .rw [aJ c];refine⟨by omega,fun j hj hl=>?_,.inr ⟨k,by omega,c.1,rfl⟩⟩;by_cases e:j=k
   .subst e;omega
   have:=h2 j (by omega) hl;omega
  rw [aD c];refine⟨h1,fun j hj hl=>?_,?_⟩
  .by_cases e:j=k
   .subst e;by_cases c2:Du l (qX l i) i j<=lJ l j
    .exact absurd ⟨hl,c2⟩ c
    omega
   exact h2 j (by omega) hl
  rcases h3 with h3 | ⟨j,a,b,d⟩
  .exact .inl h3
  exact .inr ⟨j,by omega,b,d⟩
theorem Kh(l:List Int)(i:Nat):1<=lJ l i/\(∀j,j<i->vP l j<vP l i->lJ l j<lJ l i)/\(lJ l i=1\/∃j,j<i/\vP l j<vP l i/\lJ l j+1=lJ l i):=by
 rw [aK5];exact Mf l i i (aX _)
def Dis(l:List Int):Prop:=∀i j,i<l.length->j<l.length->vP l i=vP l j->i=j
structure Inv(l:List Int)(i:Nat)(ends:List Nat):Prop where
 lt:∀p e,ends[p]?=some e->e<i/\lJ l e=p+1/\∀k,k<i->lJ l k=p+1->vP l e<=vP l k
 all:∀k,k<i->lJ l k<=ends.length
 up:∀p e f,ends[p]?=some e->ends[p+1]?=some f->vP l e<vP l f
theorem Inv.mono {i:Nat} (h:Inv l i ends):∀(d p:Nat) (e f:Nat),ends[p]?=some e->ends[p+d]?=some f->vP l e<=vP l f
 | 0,p,e,f,h1,h2=>by rw [kA,h1] at h2;cases h2;exact lS _
 | d+1,p,e,f,h1,h2=>by
  have hlt:p+d<ends.length:=by have:=(aN.1 h2).1;omega
  have h3:ends[p+d]?=some ends[p+d]:=aT hlt;have:=h.mono d p e _ h1 h3;have:=h.up (p+d) _ f h3 h2;omega
theorem wU {α:Type} (p:α->Bool):∀(l:List α),(∀i a,i<(l.takeWhile p).length->l[i]?=some a->p a=true)/\(∀a,l[(l.takeWhile p).length]?=some a->p a=false)/\(l.takeWhile p).length<=l.length
 | []=>⟨fun i a h=>by simp at h,fun a h=>by simp at h,aX _⟩
 | x :: l => by
  obtain⟨h1,h2,h3⟩:=wU p l;by_cases hx:p x=true
  .rw [List.takeWhile_cons_of_pos hx];refine⟨fun i a hi ha=>?_,fun a ha=>h2 a (by simpa using ha),by simp;omega⟩;cases i with
   | zero=>simp at ha;subst ha;exact hx
   | succ i=>exact h1 i a (by simpa using hi) (by simpa using ha)
  rw [List.takeWhile_cons_of_neg hx];refine⟨fun i a hi=>by simp at hi,fun a ha=>?_,iE _⟩;simp at ha;subst ha;simpa using hx
theorem Inv.next {i:Nat} (h:Inv l i ends)(hi:i<l.length)(hd:Dis l):
  let n:=below l ends (vP l i)
  lJ l i=n+1/\n<=ends.length/\Inv l (i+1) (if n=ends.length then ends++ [i] else if vP l i<vP l (ends.getD n 0)then ends.set n i else ends):=by
 intro n;obtain⟨t1,t2,t3⟩:=wU (fun e=>decide (vP l e<vP l i)) ends;have hn:n=(ends.takeWhile fun e=>decide (vP l e<vP l i)).length:=rfl;rw [<- hn] at t1 t2 t3;obtain⟨s1,s2,s3⟩:=Kh l i;have hlen:lJ l i=n+1:=by
  have hle:lJ l i<=n+1:=by
   rcases s3 with s3 | ⟨j,a,b,c⟩
   .omega
   by_cases hp:lJ l j<=n
   .omega
   exfalso;have hj1:=h.all j a;have hjj:=(Kh l j).1;have hlt:n<ends.length:=by omega
   have hn2:ends[n]?=some ends[n]:=aT hlt;have hx:=t2 _ hn2;have hp2:ends[lJ l j - 1]?=some (ends[lJ l j - 1]'(by omega)):=aT (by omega);have hm:=(h.lt _ _ hp2).2.2 j a (by omega);have hmo:=h.mono (lJ l j - 1 - n) n _ _ hn2 (by rw [show n+(lJ l j - 1 - n)=lJ l j - 1 by omega];exact hp2);simp at hx;omega
  by_cases h0:n=0
  .omega
  have hlt:n - 1<ends.length:=by omega
  have hp:ends[n - 1]?=some ends[n - 1]:=aT hlt;have hx:=t1 (n - 1) _ (by omega) hp;obtain⟨e1,e2,_⟩:=h.lt _ _ hp;have:=s2 _ e1 (by simpa using hx);omega
 refine⟨hlen,t3,?_⟩;have hsplit:∀k,k<i+1->k<i\/k=i:=fun k hk=>by omega
 by_cases c1:n=ends.length
 .rw [aJ c1];refine⟨fun p e hp=>?_,fun k hk=>?_,fun p e f he hf=>?_⟩
  .by_cases hpl:p<ends.length
   .rw [bB hpl] at hp;obtain⟨a,b,c⟩:=h.lt p e hp;refine⟨by omega,b,fun k hk hl=>?_⟩;rcases hsplit k hk with hk | rfl
    .exact c k hk hl
    omega
   rw [bT (by omega)] at hp;have hp0:p - ends.length=0:=by
    have:=(aN.1 hp).1;simp at this;omega
   rw [hp0] at hp;simp at hp;subst hp;refine⟨by omega,by omega,fun k hk hl=>?_⟩;rcases hsplit k hk with hk | rfl
   .have:=h.all k hk;omega
   exact lS _
  .rw [bA,uJ];rcases hsplit k hk with hk | rfl
   .have:=h.all k hk;omega
   omega
  by_cases hpl:p+1<ends.length
  .rw [bB (by omega)] at he;rw [bB hpl] at hf;exact h.up p e f he hf
  have hfl:=(aN.1 hf).1;simp at hfl;have hpe:p+1=ends.length:=by omega
  rw [bB (by omega)] at he;rw [bT (by omega),show p+1 - ends.length=0 by omega] at hf;simp at hf;subst hf;have:=t1 p e (by omega) he;simpa using this
 rw [aD c1];have hlt:n<ends.length:=by omega
 have hn2:ends[n]?=some ends[n]:=aT hlt;have hgd:ends.getD n 0=ends[n]:=by rw [kW,hn2];rfl
 have hx:=t2 _ hn2;have hx1:vP l i<=vP l ends[n]:=by simpa using hx
 obtain⟨e1,e2,e3⟩:=h.lt _ _ hn2;have hne:vP l i≠vP l ends[n]:=fun e=>by
  have:=hd i ends[n] hi (by omega) e;omega
 have c2:vP l i<vP l (ends.getD n 0):=by rw [hgd];omega
 rw [aJ c2];refine⟨fun p e hp=>?_,fun k hk=>?_,fun p e f he hf=>?_⟩
 .rw [bZ] at hp;by_cases hpn:n=p
  .subst hpn;rw [aJ rfl,aJ hlt] at hp;cases hp;refine⟨by omega,hlen,fun k hk hl=>?_⟩;rcases hsplit k hk with hk | rfl
   .have:=e3 k hk hl;omega
   exact lS _
  rw [aD hpn] at hp;obtain⟨a,b,c⟩:=h.lt p e hp;refine⟨by omega,b,fun k hk hl=>?_⟩;rcases hsplit k hk with hk | rfl
  .exact c k hk hl
  omega
 .rw [cE];rcases hsplit k hk with hk | rfl
  .exact h.all k hk
  omega
 rw [bZ] at he hf;by_cases h1:n=p
 .subst h1;rw [aJ rfl,aJ hlt] at he;rw [aD (by omega)] at hf;cases he;have:=h.up n _ f hn2 hf;omega
 rw [aD h1] at he;by_cases h2:n=p+1
 .rw [aJ h2,aJ hlt] at hf;cases hf;have:=t1 p e (by omega) he;simpa using this
 rw [aD h2] at hf;exact h.up p e f he hf
end Go.Proofs.YtbgfljpnhhdkoaaGreat.Lis
namespace Go.Proofs.YtbgfljpnhhdkoaaGreat
open Go Go.Vm
variable {a b l now os:List Int}{x:Int}
def plc(l:List Int)(x:Int):Int:=aDu x l+1
theorem aI1 (h:x∈l):∃k:Nat,∃hk:k<l.length,aDu x l=k/\l[k]=x/\x∉l.take k:=by
 unfold aDu vR;split
 .rename_i k hf;rw [pQ] at hf;obtain⟨hk,he,hn⟩:=hf;refine⟨k,hk,rfl,by simpa using he,fun hx=>?_⟩;obtain⟨j,hj⟩:=eO hx;rw [eL] at hj;split at hj
  .rename_i hjk;have:=hn j hjk;rw [aT (by omega)] at hj;simp at hj;simp [hj] at this
  cases hj
 rename_i hf;rw [pK] at hf;have:=hf x h;simp at this
def at_(l:List Int)(x:Int):Int:=if x∈l then plc l x else 0
def aQn(a b:List Int):List ST:=(a.filter fun x=> !decide (x∈b)).map fun x=>⟨1,x,0⟩
def aIi(b now:List Int)(i:Nat):Nat:=if i+1<b.length then(aDu (b[i+1]?.getD 0) now).toNat else now.length
def aLs(now:List Int)(x:Int):List Int:=now.filter fun y=> !decide (y=x)
def vM(a now:List Int)(x:Int):List Int:=if x∈a then aLs now x else now
def stB(a b os:List Int)(i:Nat)(s:List Int×List ST):List Int×List ST:=
 if b[i]?.getD 0∈os then s else
 (fI (vM a s.1 (b[i]?.getD 0)) (aIi b (vM a s.1 (b[i]?.getD 0)) i) (b[i]?.getD 0),s.2++ [⟨if b[i]?.getD 0∈a then 3 else 2,b[i]?.getD 0,aIi b (vM a s.1 (b[i]?.getD 0)) i⟩])
structure InvB(a b os:List Int)(k:Nat)(now:List Int):Prop where
 stay:∀x∈os,x∈now
 done:∀j,b.length - k<=j->j<b.length->(b[j]?.getD 0)∈now
 len:now.length<=a.length+k
theorem Kd {i:Nat} {y:Int} :y∈fI l i x↔y=x\/y∈l:=by
 unfold fI;rw [bN,bM];constructor
 .rintro(h | h | h)
  .exact .inr (nE h)
  .exact .inl h
  exact .inr (wZ h)
 rintro(h | h)
 .exact .inr (.inl h)
 rw [<- fB i l,bN] at h;rcases h with h | h
 .exact .inl h
 exact .inr (.inr h)
theorem aIg(a now:List Int)(x:Int):(vM a now x).length<=now.length:=by
 unfold vM aLs;split
 .exact kB _ _
 exact aX _
theorem Il {y:Int} (h:y∈now)(hne:y≠x):y∈vM a now x:=by
 unfold vM aLs;split
 .simp [h,hne]
 exact h
theorem aAh (hb:b.Nodup) {i j:Nat} (hi:i<b.length)(hj:j<b.length)(h:i≠j):b[i]?.getD 0≠b[j]?.getD 0:=by
 rw [aT hi,aT hj];intro e;exact h ((List.getElem_inj hb).1 (by simpa using e))
theorem aRg {k:Nat} (hb:b.Nodup)(hk:k<b.length)(h:InvB a b os k now)(hn:¬(b[b.length - 1 - k]?.getD 0)∈os):
  aIi b (vM a now (b[b.length - 1 - k]?.getD 0)) (b.length - 1 - k)<=(vM a now (b[b.length - 1 - k]?.getD 0)).length/\
  ((b.length - 1 - k:Nat)+1<b.length->aDu (b[b.length - 1 - k+1]?.getD 0) (vM a now (b[b.length - 1 - k]?.getD 0))=(aIi b (vM a now (b[b.length - 1 - k]?.getD 0)) (b.length - 1 - k):Nat)):=by
 unfold aIi;split
 .rename_i hlt;have hm:(b[b.length - 1 - k+1]?.getD 0)∈vM a now (b[b.length - 1 - k]?.getD 0):=Il (h.done _ (by omega) (by omega)) (aAh hb (by omega) (by omega) (by omega));obtain⟨j,hj,h1,_⟩:=aI1 hm;exact⟨by omega,fun _=>by omega⟩
 exact⟨aX _,fun h=>by omega⟩
theorem InvB.zero (h:∀x∈os,x∈a/\x∈b):InvB a b os 0 (a.filter fun x=>decide (x∈b)):=
 ⟨fun x hx=>by simp [h x hx],fun j h1 h2=>by omega,by simpa using List.length_filter_le _ _⟩
theorem InvB.next {k:Nat} {s:List Int×List ST} (hb:b.Nodup)(hk:k<b.length)(h:InvB a b os k s.1):InvB a b os (k+1) (stB a b os (b.length - 1 - k) s).1:=by
 have hcase:∀j,b.length - (k+1)<=j->j<b.length->j=b.length - 1 - k\/b.length - k<=j:=fun j h1 h2=>by omega
 unfold stB;by_cases hx:b[b.length - 1 - k]?.getD 0∈os
 .rw [aJ hx];refine⟨h.stay,fun j h1 h2=>?_,by have:=h.len;omega⟩;rcases hcase j h1 h2 with rfl | hj
  .exact h.stay _ hx
  exact h.done j hj h2
 rw [aD hx];obtain⟨p1,p2⟩:=aRg hb hk h hx;refine⟨fun x hxo=>?_,fun j h1 h2=>?_,?_⟩
 .exact Kd.2 (.inr (Il (h.stay x hxo) (by rintro rfl;exact hx hxo)))
 .rcases hcase j h1 h2 with rfl | hj
  .exact Kd.2 (.inl rfl)
  exact Kd.2 (.inr (Il (h.done j hj h2) (aAh hb h2 (by omega) (by omega))))
 have:=aIg a s.1 (b[b.length - 1 - k]?.getD 0);have:=h.len;rw [jJ _ _ _ p1];omega
end Go.Proofs.YtbgfljpnhhdkoaaGreat

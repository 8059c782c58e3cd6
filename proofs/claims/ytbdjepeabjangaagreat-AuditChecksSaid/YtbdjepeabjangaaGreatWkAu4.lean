import Derived.Test.YtbdjepeabjangaaGreatWkAu1
set_option linter.all false
set_option maxRecDepth 20000
set_option maxHeartbeats 8000000
open Go.Proofs.Tryz
namespace Go.Proofs.YtbdjepeabjangaaGreat
open Go Go.Vm
variable {c:ByteArray}{j:Nat}{l:List AT}{t:TN}{α β:Type}
theorem fX: [0,1]=List.range 2:=by decide
def aMj:ByteArray:=⟨#[116,45,119,97,105,116]⟩
def aP2:ByteArray:=⟨#[116,45,101,110,116,101,114,45,102,114,111,109]⟩
def aJ1:ByteArray:=⟨#[116,45,101,110,116,101,114,45,97,99,116,105,118,101]⟩
def aQa:ByteArray:=⟨#[116,45,101,110,116,101,114,45,116,111]⟩
def aMf:ByteArray:=⟨#[116,45,104,111,108,100]⟩
def aP0:ByteArray:=⟨#[116,45,108,101,97,118,101,45,102,114,111,109]⟩
def aKz:ByteArray:=⟨#[116,45,108,101,97,118,101,45,97,99,116,105,118,101]⟩
def aP8:ByteArray:=⟨#[116,45,108,101,97,118,101,45,116,111]⟩
def aP4:ByteArray:=⟨#[116,45,109,111,118,101]⟩
def Lf:ByteArray:=⟨#[116,45,103,104,111,115,116]⟩
def mDx:ByteArray:=⟨#[116,45,100,120]⟩
def mDy:ByteArray:=⟨#[116,45,100,121]⟩
def Ny(x:LK):Bool:=decide (x.kind=5) || decide (x.kind=6)
def xI(x:LK):Bool:=decide (x.kind=4) || Ny x
def lH(x:LK):Ls:=if x.kind=1 then [aMj] else if x.kind=2 then [aP2,aJ1] else if x.kind=3 then [aJ1,aQa] else if x.kind=4 then [aMf] else if x.kind=5 then [aP0,aKz] else if x.kind=6 then [aKz,aP8] else []
def cR(x:LK):Ls:=if x.move=0 then lH x else lH x++ [aP4]
theorem wZ(x:LK):(lH x).length<=2:=by unfold lH;(repeat' split) <;> simp
theorem zD(x:LK):(cR x).length<=3:=by unfold cR;have:=wZ x;split <;> simp <;> omega
theorem aJx(x:LK)(σ:List (List D))  :Ct prog 104 [Gx x] σ (fun r σ'=>r= .bool (Ny x)/\σ'=σ):=by
 refine zf func104 ?_;refine bT fun _ _ Z=>?_;simp(disch:=omega);apply Z;refine oL ⟨[],[],[],[],[]⟩ fun all hall _ Z=>?_;have ga3:aQ all 3=some 6:=hall 3;refine zs 4 fun _ Y=>?_;simp(disch:=omega)[ga3];apply Y;refine zb 6 ?_ ?_<;>intro g1<;>try simp at g1
 .simp(disch:=omega)[ga3];apply Z;apply aE;simp [aP,Ny, *]
 simp(disch:=omega)[ga3];apply Z;apply aE;simp [aP,Ny, *]
theorem aF2(x:LK)(σ:List (List D))  :Ct prog 60 [Gx x] σ (fun r σ'=>r= .bool (xI x)/\σ'=σ):=by
 refine zf func60 ?_;refine bT fun _ _ Z=>?_;simp(disch:=omega);apply Z;refine oL ⟨[],[],[],[],[]⟩ fun all hall _ Z=>?_;have ga3:aQ all 3=some 6:=hall 3;refine zs 4 fun _ Y=>?_;simp(disch:=omega)[ga3];apply Y;refine zb 6 ?_ ?_<;>intro g1<;>try simp at g1
 .simp(disch:=omega)[ga3];apply Z;apply aE;simp [aP,xI, *]
 refine zs 1 fun _ Y=>?_;simp(disch:=omega)[ga3];apply Y;refine zg ga3 fun _ Y=>?_;simp(disch:=omega)[ga3];refine dX (aJx x _) ?_;apply Y;simp(disch:=omega)[ga3];apply Z;apply aE;simp [aP,xI, *]
theorem aEs(x:LK)(σ:List (List D))  :Ct prog 131 [Gx x] σ (fun r σ'=>r= .sl true ((lH x).map D.str)/\σ'=σ):=by
 refine zf func131 ?_;refine zr ⟨[2],[],[],[],[]⟩ fun _ _ Z=>?_;simp(disch:=omega)[fX];apply Z;apply aF;refine zr ⟨[2],[],[],[],[]⟩ fun _ _ Z=>?_;simp(disch:=omega)[fX];apply Z;apply aN;refine zr ⟨[2],[],[],[],[]⟩ fun _ _ Z=>?_;simp(disch:=omega)[fX];apply Z;refine zI ?_ ?_<;>intro c1<;>try simp at c1
 .refine zr ⟨[2],[],[],[],[]⟩ fun _ _ Z=>?_;simp(disch:=omega)[fX];and_intros<;>(try omega);apply Z;apply aE;simp [aP,lH, *];first | done | rfl | exact⟨rfl,rfl⟩ | exact⟨rfl,rfl,rfl⟩
 refine zr ⟨[2],[],[],[],[]⟩ fun _ _ Z=>?_;simp(disch:=omega)[fX];apply Z;refine zI ?_ ?_<;>intro c2<;>try simp at c2
 .refine zr ⟨[2],[],[],[],[]⟩ fun _ _ Z=>?_;simp(disch:=omega)[fX];and_intros<;>(try omega);apply Z;apply aE;simp [aP,lH, *];first | done | rfl | exact⟨rfl,rfl⟩ | exact⟨rfl,rfl,rfl⟩
 refine zr ⟨[2],[],[],[],[]⟩ fun _ _ Z=>?_;simp(disch:=omega)[fX];apply Z;refine zI ?_ ?_<;>intro c3<;>try simp at c3
 .refine zr ⟨[2],[],[],[],[]⟩ fun _ _ Z=>?_;simp(disch:=omega)[fX];and_intros<;>(try omega);apply Z;apply aE;simp [aP,lH, *];first | done | rfl | exact⟨rfl,rfl⟩ | exact⟨rfl,rfl,rfl⟩
 refine zr ⟨[2],[],[],[],[]⟩ fun _ _ Z=>?_;simp(disch:=omega)[fX];apply Z;refine zI ?_ ?_<;>intro c4<;>try simp at c4
 .refine zk [2] ?_;refine zr ⟨[2],[],[],[],[]⟩ fun _ _ Z=>?_;simp(disch:=omega)[fX];and_intros<;>(try omega);apply Z;apply aE;simp [aP,lH, *];first | done | rfl | exact⟨rfl,rfl⟩ | exact⟨rfl,rfl,rfl⟩
 refine zk [2,4] ?_;refine zr ⟨[2],[],[],[],[]⟩ fun _ _ Z=>?_;simp(disch:=omega)[fX];apply Z;refine zI ?_ ?_<;>intro c5<;>try simp at c5
 .refine zr ⟨[2],[],[],[],[]⟩ fun _ _ Z=>?_;simp(disch:=omega)[fX];and_intros<;>(try omega);apply Z;apply aE;simp [aP,lH, *];first | done | rfl | exact⟨rfl,rfl⟩ | exact⟨rfl,rfl,rfl⟩
 refine zr ⟨[2],[],[],[],[]⟩ fun _ _ Z=>?_;simp(disch:=omega)[fX];apply Z;refine zI ?_ ?_<;>intro c6<;>try simp at c6
 .refine zr ⟨[2],[],[],[],[]⟩ fun _ _ Z=>?_;simp(disch:=omega)[fX];and_intros<;>(try omega);apply Z;apply aE;simp [aP,lH, *];first | done | rfl | exact⟨rfl,rfl⟩ | exact⟨rfl,rfl,rfl⟩
 apply lP;refine zr ⟨[2],[],[],[],[]⟩ fun _ _ Z=>?_;simp(disch:=omega)[fX];apply Z;apply aE;simp [aP,lH, *];first | done | rfl | exact⟨rfl,rfl⟩ | exact⟨rfl,rfl,rfl⟩
@[simp] abbrev q38_1:Cfg:=⟨[2,3,9,12],[],[],[],[]⟩
theorem Na(x:LK)(σ:List (List D))  :Ct prog 101 [Gx x] σ (fun r σ'=>r= .sl true ((cR x).map D.str)/\σ'=σ):=by
 refine zf func101 ?_;have hml:=wZ x;refine zr q38_1 fun _ _ Z=>?_;simp(disch:=omega);apply Z;refine zr q38_1 fun _ _ Z=>?_;refine zs 1 fun _ Y=>?_;simp(disch:=omega);apply Y;refine aG fun _ Y=>?_;simp(disch:=omega);refine dX (aEs x _) ?_;apply Y;simp(disch:=omega);apply Z;apply aF;refine zr q38_1 fun _ _ Z=>?_;simp(disch:=omega);apply Z;refine zI ?_ ?_<;>intro c1<;>try simp at c1
 .refine zt q38_1 fun _ _ Z=>?_;simp(disch:=omega);and_intros<;>(try omega);apply Z;apply iE;refine zk [2,3] ?_;refine zr q38_1 fun _ _ Z=>?_;simp(disch:=omega);apply Z;apply aE;simp [aP,cR, *];first | done | rfl
 apply zA;refine zr q38_1 fun _ _ Z=>?_;simp(disch:=omega);apply Z;apply aE;simp [aP,cR, *];first | done | rfl
theorem Ic(x:LK):(decide (4<=x.kind) && decide (x.kind<=6))=xI x:=by
 unfold xI Ny;rw [jJ];simp only [fF,wC,iS];omega
def aB9(i:Nat):Ls:=match i with
 | 0=> [aMj]
 | 1=> [aP2,aJ1]
 | 2=> [aJ1,aQa]
 | 3=> [aMf]
 | 4=> [aP0,aKz]
 | _=> [aKz,aP8]
theorem Ze(x:LK)(h1:1<=x.kind)(h2:x.kind<=6):aB9 (x.kind - 1).toNat=lH x:=by
 unfold lH;rcases(by omega:x.kind=1\/x.kind=2\/x.kind=3\/x.kind=4\/x.kind=5\/x.kind=6)with h | h | h | h | h | h <;> rw [h] <;> rfl
theorem Ht(x:LK)(h:¬(1<=x.kind/\x.kind<=6)):lH x= []:=by
 unfold lH
 (repeat' split) <;> first | rfl | omega
theorem sO: [0,1,2,3,4,5]=List.range 6:=by decide
theorem Uc(i:Nat)(h:i<6):([D.sl false [D.v (.string ⟨#[116,45,119,97,105,116]⟩)],D.sl false [D.v (.string ⟨#[116,45,101,110,116,101,114,45,102,114,111,109]⟩),D.v (.string ⟨#[116,45,101,110,116,101,114,45,97,99,116,105,118,101]⟩)],D.sl false [D.v (.string ⟨#[116,45,101,110,116,101,114,45,97,99,116,105,118,101]⟩),D.v (.string ⟨#[116,45,101,110,116,101,114,45,116,111]⟩)],D.sl false [D.v (.string ⟨#[116,45,104,111,108,100]⟩)],D.sl false [D.v (.string ⟨#[116,45,108,101,97,118,101,45,102,114,111,109]⟩),D.v (.string ⟨#[116,45,108,101,97,118,101,45,97,99,116,105,118,101]⟩)],D.sl false [D.v (.string ⟨#[116,45,108,101,97,118,101,45,97,99,116,105,118,101]⟩),D.v (.string ⟨#[116,45,108,101,97,118,101,45,116,111]⟩)]][i]?).getD D.any= .sl false ((aB9 i).map D.str):=by
 match i,h with
 | 0,_=>rfl
 | 1,_=>rfl
 | 2,_=>rfl
 | 3,_=>rfl
 | 4,_=>rfl
 | 5,_=>rfl
theorem Zg(x:LK)(σ:List (List D))  :Ct prog 30 [Gx x] σ (fun r σ'=>r= .bool (xI x)/\σ'=σ):=by
 refine zf func30 ?_;refine bT fun _ _ Z=>?_;simp(disch:=omega);apply Z;refine oL ⟨[],[],[],[],[]⟩ fun all hall _ Z=>?_;have ga3:aQ all 3=some 6:=hall 3;refine zs 4 fun _ Y=>?_;simp(disch:=omega)[ga3];apply Y;refine zb 6 ?_ ?_<;>intro g1<;>try simp at g1
 .simp(disch:=omega)[ga3];apply Z;apply aE;simp [aP,<- Ic, *];try omega
 simp(disch:=omega)[ga3];apply Z;apply aE;simp [aP,<- Ic, *];try omega
@[simp] abbrev q38_2:Cfg:=⟨[2,3,13,30,33],[],[],[],[]⟩
theorem Lb(x:LK)(σ:List (List D))  :Ct prog 69 [Gx x] σ (fun r σ'=>r= .sl true ((cR x).map D.str)/\σ'=σ):=by
 refine zf func69 ?_;have hml:=wZ x;refine zr q38_2 fun _ _ Z=>?_;simp(disch:=omega)[fX,sO];apply Z;refine zr q38_2 fun _ _ Z=>?_;simp(disch:=omega)[fX,sO];and_intros<;>(try omega);apply Z;apply aF;refine oL q38_2 fun all hall _ Z=>?_;have ga3:aQ all 3=some 8:=hall 3;refine zs 4 fun _ Y=>?_;simp(disch:=omega)[fX,sO,ga3];apply Y;refine zb 8 ?_ ?_<;>intro g1<;>try simp at g1
 .simp(disch:=omega)[fX,sO,ga3];apply Z;refine zI ?_ ?_<;>intro c2<;>try simp at c2
  .have hget:=Uc (x.kind.toNat - 1) (by omega);have hma:=Ze x (by omega) (by omega);rw [show(x.kind - 1).toNat=x.kind.toNat - 1 by omega] at hma;rw [hma] at hget;refine zk [1,2,3] ?_;refine zt q38_2 fun _ _ Z=>?_;refine zs 8 fun _ Y=>?_;simp(disch:=omega)[fX,sO,hget];and_intros<;>(try omega);apply Y;simp(disch:=omega)[fX,sO,hget];and_intros<;>(try omega);apply Z;apply iE;apply aF;refine zk [1,2,3] ?_;refine zr q38_2 fun _ _ Z=>?_;simp(disch:=omega)[fX,sO,hget];apply Z;refine zI ?_ ?_<;>intro c3<;>try simp at c3
   .refine zt q38_2 fun _ _ Z=>?_;simp(disch:=omega)[fX,sO,hget];and_intros<;>(try omega);apply Z;apply iE;refine zr q38_2 fun _ _ Z=>?_;simp(disch:=omega)[fX,sO,hget];apply Z;apply aE;simp [aP,cR, *];first | done | rfl
   apply zA;refine zr q38_2 fun _ _ Z=>?_;simp(disch:=omega)[fX,sO,hget];apply Z;apply aE;simp [aP,cR, *];first | done | rfl
  have hmf:=Ht x (by omega);apply zA;apply aF;refine zk [1,2,3] ?_;refine zr q38_2 fun _ _ Z=>?_;simp(disch:=omega)[fX,sO];apply Z;refine zI ?_ ?_<;>intro c4<;>try simp at c4
  .refine zt q38_2 fun _ _ Z=>?_;simp(disch:=omega)[fX,sO];and_intros<;>(try omega);apply Z;apply iE;refine zr q38_2 fun _ _ Z=>?_;simp(disch:=omega)[fX,sO];apply Z;apply aE;simp [aP,cR, *];first | done | rfl
  apply zA;refine zr q38_2 fun _ _ Z=>?_;simp(disch:=omega)[fX,sO];apply Z;apply aE;simp [aP,cR, *];first | done | rfl
 have hmf:=Ht x (by omega);simp(disch:=omega)[fX,sO,ga3];apply Z;refine aY (t:=false) (by simp) (fun h=>by cases h) (fun _=>?_);apply zA;apply aF;refine zk [1,2,3] ?_;refine zr q38_2 fun _ _ Z=>?_;simp(disch:=omega)[fX,sO];apply Z;refine zI ?_ ?_<;>intro c5<;>try simp at c5
 .refine zt q38_2 fun _ _ Z=>?_;simp(disch:=omega)[fX,sO];and_intros<;>(try omega);apply Z;apply iE;refine zr q38_2 fun _ _ Z=>?_;simp(disch:=omega)[fX,sO];apply Z;apply aE;simp [aP,cR, *];first | done | rfl
 apply zA;refine zr q38_2 fun _ _ Z=>?_;simp(disch:=omega)[fX,sO];apply Z;apply aE;simp [aP,cR, *];first | done | rfl
theorem aPc (l:List α)(q:α->Bool)(f:α->β):(l.attach.filter fun k=>q k.1).map (fun k=>f k.1)=(l.filter q).map f:=by
 have h1:(fun k: {x // x∈l} =>f k.1)=f ∘ Subtype.val:=rfl;rw [h1,<- nH];congr 1;have h2:(fun k: {x // x∈l} =>q k.1)=q ∘ Subtype.val:=rfl;rw [h2,<- vM,Ax]
theorem aN9 (l:List α)(f:α->Option β):(l.attach.findSome? fun k=>f k.1)=l.findSome? f:=by
 conv=>rhs;rw [<- Ax l,List.findSome?_map]
 rfl
theorem aK2 (l:List α)(m:List β)(f:α->β->Bool):((l.attach.zip m).all fun p=>f p.1.1 p.2)=(l.zip m).all fun p=>f p.1 p.2:=by
 conv=>rhs;rw [<- Ax l,List.zip_map_left,List.all_map]
 rfl
abbrev TE(t:TN):Prop:=TSz t/\eE nA t.attrs/\eE nP t.styles
inductive TI:TN->Prop
 | mk (t:TN) (h:TE t) (hk:∀k∈t.kids,TI k):TI t
theorem TI.e (h:TI t):TE t:=by cases h;assumption
theorem TI.k (h:TI t):∀k∈t.kids,TI k:=by cases h;assumption
def zT:TN:=⟨0,0,⟨#[]⟩,⟨#[]⟩, [], [], [], []⟩
theorem zTI:TI zT:= .mk _ ⟨⟨by decide,by decide,by decide,by decide⟩,List.Pairwise.nil,List.Pairwise.nil⟩ fun k hk=>by cases hk
def iN(t:TN):Bool:=kM nA t.attrs Lf
def jS(t:TN):TN:= { t with classes:=oB t.classes,attrs:=wJ t.attrs,styles:=wS t.styles,kids:=(t.kids.attach.filter fun k=> !iN k.1).map fun k=>jS k.1 }
termination_by SizeOf.sizeOf t
decreasing_by
 have h:=iQ k.2;cases t;simp at h |-;omega
theorem Hi(t:TN):jS t= { t with classes:=oB t.classes,attrs:=wJ t.attrs,styles:=wS t.styles,kids:=(t.kids.filter fun k=> !iN k).map jS } :=by
 rw [jS,aPc t.kids (fun k=> !iN k) jS]
def Ue(t:TN)(j:Nat):List TN:=((t.kids.take j).filter fun k=> !iN k).map jS
theorem Vz(t:TN):Ue t 0= []:=rfl
theorem Vs(t:TN)(j:Nat):(Ue t j).length<=j:=by
 unfold Ue;have:=gE (fun k=> !iN k) (t.kids.take j);simp at this |-;omega
theorem Va (h:j<t.kids.length)(hg:iN t.kids[j]=false):Ue t (j+1)=Ue t j++ [jS t.kids[j]]:=by
 unfold Ue;rw [bB _ _ h,cT,cX];simp [hg]
theorem aGw (h:j<t.kids.length)(hg:iN t.kids[j]=true):Ue t (j+1)=Ue t j:=by
 unfold Ue;rw [bB _ _ h,cT,cX];simp [hg]
theorem Wu(t:TN):jS t= { t with classes:=oB t.classes,attrs:=wJ t.attrs,styles:=wS t.styles,kids:=Ue t t.kids.length } :=by
 rw [Hi];unfold Ue;rw [dY]
abbrev aEp(t:TN):Prop:=∀σ:List (List D),Ct prog 54 [fU t] σ (fun r σ'=>(∃u:TN,r= .tup [fU u,.bool (!iN t)]/\(iN t=false->u=jS t))/\σ'=σ)
abbrev Wb(t:TN):Prop:=∀σ:List (List D),Ct prog 24 [fU t] σ (fun r σ'=>r=fU (jS t)/\σ'=σ)
theorem Iw(l:List AT):(wJ l).length<=l.length:=gE _ _
theorem Jn(l:List PI):(wS l).length<=l.length:=gE _ _
def mkA(l:List AT)(j:Nat):List AT:=wJ (l.take j)
theorem aRn(l:List AT):mkA l 0= []:=rfl
theorem aJo(l:List AT)(j:Nat):(mkA l j).length<=j:=cZ (Iw _) (by simp;omega)
theorem aIv (h:j<l.length)(hg:jH l[j].name=false):mkA l (j+1)=mkA l j++ [l[j]]:=by unfold mkA wJ;rw [bB _ _ h,cT];simp [hg]
theorem aN3 (h:j<l.length)(hg:jH l[j].name=true):mkA l (j+1)=mkA l j:=by unfold mkA wJ;rw [bB _ _ h,cT];simp [hg]
theorem aI1(l:List AT):mkA l l.length=wJ l:=by unfold mkA;rw [dY]
def Yd(l:List PI)(j:Nat):List PI:=wS (l.take j)
theorem aLv(l:List PI):Yd l 0= []:=rfl
theorem aJd(l:List PI)(j:Nat):(Yd l j).length<=j:=cZ (Jn _) (by simp;omega)
theorem aLq {l:List PI} (h:j<l.length)(hg:jH l[j].name=false):Yd l (j+1)=Yd l j++ [l[j]]:=by unfold Yd wS;rw [bB _ _ h,cT];simp [hg]
theorem aNy {l:List PI} (h:j<l.length)(hg:jH l[j].name=true):Yd l (j+1)=Yd l j:=by unfold Yd wS;rw [bB _ _ h,cT];simp [hg]
theorem aJv(l:List PI):Yd l l.length=wS l:=by unfold Yd;rw [dY]
theorem Yg {k:Nat} (h:∀x∈l.take k,decide (x.name=c)=false)(hk:l.length<=k):kM nA l c=false:=by
 rw [bZ hk] at h;unfold kM;rw [Am];intro x hx;simpa using h x hx
theorem aGv {k:Nat} (h:k<l.length)(e:l[k].name=c):kM nA l c=true:=by
 unfold kM;rw [nC];exact⟨l[k],bS h,by simpa using e⟩
theorem aAn(t:TN)(σ:List (List D))(h:TE t)(ih:∀k∈t.kids,aEp k):Ct prog 54 [fU t] σ (fun r σ'=>(r.plain=true/\∃u:TN,r.strip= .tup [fU u,.bool (!iN t)]/\(iN t=false->u=jS t))/\σ'=σ):=by
 refine zf func54 ?_;obtain⟨⟨h1,h2,h3,h4⟩,h5,h6⟩:=h;refine zr ⟨[47],[],[],[],[]⟩ fun _ _ Z=>?_;simp(disch:=omega);apply Z;apply aF;refine zr ⟨[47],[],[],[],[]⟩ fun _ _ Z=>?_;refine zs 2 fun _ Y=>?_;simp(disch:=omega);apply Y;refine aG fun _ Y=>?_;simp(disch:=omega);refine dX (Wk t.attrs Lf _ (by omega) h5) ?_;apply Y;simp(disch:=omega);apply Z;refine zr ⟨[47],[],[],[],[]⟩ fun _ _ Z=>?_;simp(disch:=omega);apply Z;refine zI ?_ ?_<;>intro c1<;>try simp at c1
 .refine zk [1,2,3] ?_;refine zr ⟨[47],[],[],[],[]⟩ fun _ _ Z=>?_;simp(disch:=omega);apply Z;apply aE;simp [aP];exact⟨zT,by simp [zT,iN,c1]⟩
 apply zA;refine zk [1,2,3] ?_;refine zr ⟨[47],[],[],[],[]⟩ fun _ _ Z=>?_;simp(disch:=omega);apply Z;refine zk [1,2,3,6] ?_;refine zd ⟨[47],[],[],[],[]⟩ [.op {},.op {rL:=true},.pure,.op {},.op {rL:=true},.pure,.op {},.op {rL:=true},.pure,.op {},.op {rL:=true,wL:=true},.op {},.op {rL:=true,wL:=true},.op {},.op {rL:=true,wL:=true},.op {},.op {rL:=true,wL:=true}] fun all hall _ Z=>?_;refine iK 2 fun _ Y=>?_;simp(disch:=omega);apply Y;refine bJ fun _ Y=>?_;simp(disch:=omega);refine pH (fun _=>(aFj t.classes _ (by omega))) ?_;apply Y;refine iK 2 fun _ Y=>?_;simp(disch:=omega);apply Y;refine bJ fun _ Y=>?_;simp(disch:=omega);refine pH (fun _=>(aEz t.attrs _ (by omega) h5)) ?_;apply Y;refine iK 2 fun _ Y=>?_;simp(disch:=omega);apply Y;refine bJ fun _ Y=>?_;simp(disch:=omega);refine pH (fun _=>(aDo t.styles _ (by omega) h6)) ?_;apply Y;simp(disch:=omega);apply Z;apply aF;refine zk [1,2,3,6] ?_;refine zr ⟨[47],[],[],[],[]⟩ fun _ _ Z=>?_;simp(disch:=omega);and_intros<;>(try omega);apply Z;apply aN;refine zk [1,2,3,34,35,36] ?_;refine eO (fun(j:Nat)=> [(36,.d (.v (.int .i64 (j:Int)))),(8,.d (.any)),(9,.d (.any)),(10,.d (.any))]) (fun(j:Nat)=> [(0, [D.int t.ID,D.int t.kind,D.str t.tag,D.str t.text,.sl false ((oB t.classes).map D.str),.sl false ((wJ t.attrs).map cH),.sl false ((wS t.styles).map bY),.sl true ((Ue t j).map mK)])]) (fun(j:Nat)=> []) [8,9,10,36,37,38,39,40,41,42,43,44,45,46,47,48,49,50,51,52] (fun(j:Nat)=>j<=t.kids.length) (fun(j:Nat)=>t.kids.length - j) (0) (by simp <;> rfl) ?_ (by simp [Vz]) (by simp) ?_ ?_
 .simp
 .simp
 rintro j hj;simp only [aM,aK,dD,cJ,bK,bN];have hel:=Vs t j;refine zr ⟨[47],[],[],[],[]⟩ fun _ _ Z=>?_;simp(disch:=omega);apply Z;apply aF;refine zI ?_ ?_<;>intro c2<;>try simp at c2
 .apply kL;refine zr ⟨[47],[],[],[],[]⟩ fun _ _ Z=>?_;simp(disch:=omega);and_intros<;>(try omega);apply Z;refine zk [1,2,3,8,9,10,34,35,36] ?_;refine zr ⟨[47],[],[],[],[]⟩ fun _ _ Z=>?_;refine zs 1 fun _ Y=>?_;simp(disch:=omega);apply Y;refine aG fun _ Y=>?_;simp(disch:=omega);refine zcm (ih t.kids[j] (bS _) _) ?_;rintro _ τ9 ⟨⟨u,hr9,hu⟩,hs9⟩;subst hr9;subst hs9;apply Y;simp(disch:=omega);apply Z;refine zk [1,2,3,8,9,10,34,35,36] ?_;refine zr ⟨[47],[],[],[],[]⟩ fun _ _ Z=>?_;simp(disch:=omega);apply Z;refine zI ?_ ?_<;>intro c3<;>try simp at c3
  .have hgk:iN t.kids[j]=false:=by simpa using c3
   have hnx:=Va c2 hgk;rw [hu hgk];refine zt ⟨[47],[],[],[],[]⟩ fun _ _ Z=>?_;simp(disch:=omega);and_intros<;>(try omega);apply Z;apply zB;refine zk [1,2,3,8,9,10,34,35,36] ?_;refine zt ⟨[47],[],[],[],[]⟩ fun _ _ Z=>?_;simp(disch:=omega);and_intros<;>(try omega);apply Z;refine cQ (j+1) ?_ ?_ (aU rfl ?_ (by simp [hnx]) (by simp))
   .omega
   .try dsimp only
    omega
   simp(disch:=omega)
  have hnx:=aGw c2 (by simpa using c3);apply lP;refine zt ⟨[47],[],[],[],[]⟩ fun _ _ Z=>?_;simp(disch:=omega);and_intros<;>(try omega);apply Z;refine cQ (j+1) ?_ ?_ (aU rfl ?_ (by simp [hnx]) (by simp))
  .omega
  .try dsimp only
   omega
  simp(disch:=omega)
 obtain rfl:j=t.kids.length:=by omega
 apply zE;refine zr ⟨[47],[],[],[],[]⟩ fun _ _ Z=>?_;simp(disch:=omega);apply Z;apply aE;simp [aP];exact⟨jS t,by rw [Wu];simp [iN,c1]⟩
theorem Mt(t:TN)(h:TI t):aEp t:=fun σ=>
 (aAn t σ h.e fun k hk=>Mt k (h.k k hk)).strip fun r σ' h=>⟨h.1.1,h.1.2,h.2⟩
termination_by jF t
decreasing_by
 have:=iX hk;omega
theorem wY(t:TN)(σ:List (List D))(h:TSz t):Ct prog 25 [fU t] σ (fun r σ'=>r= .bool (iN t)/\σ'=σ):=by
 refine zf func25 ?_;obtain⟨h1,h2,h3,h4⟩:=h;refine bT fun _ _ Z=>?_;simp(disch:=omega);apply Z;apply aF;refine bT fun _ _ Z=>?_;simp(disch:=omega);and_intros<;>(try omega);apply Z;apply aN;refine zk [2,6,7,8] ?_;refine bA (fun(k:Nat)=> [(8,.d (.v (.int .i64 (k:Int)))),(4,.d (.any))]) [2,4,8,9,10,11,12,13,14,15] (fun(k:Nat)=>k<=t.attrs.length/\∀x∈t.attrs.take k,decide (x.name=Lf)=false) (fun(k:Nat)=>t.attrs.length - k) (0) (by simp <;> rfl) ?_ ?_ ?_
 .simp
 .simp
 rintro k ⟨hk,hh⟩;simp only [aM,aK];refine bT fun _ _ Z=>?_;simp(disch:=omega);apply Z;apply aF;refine zI ?_ ?_<;>intro c1<;>try simp at c1
 .apply kL;refine bT fun _ _ Z=>?_;simp(disch:=omega);and_intros<;>(try omega);apply Z;refine bT fun _ _ Z=>?_;simp(disch:=omega);apply Z;refine zI ?_ ?_<;>intro c2<;>try simp at c2
  .refine bT fun _ _ Z=>?_;simp(disch:=omega);apply Z;apply aE;simp [aP];exact aGv c1 c2
  apply lP;refine tD fun _ _ Z=>?_;simp(disch:=omega);and_intros<;>(try omega);apply Z;refine zq (k+1) ?_ ?_ ?_
  .exact⟨by omega,tH (by omega) hh (zX c2)⟩
  .try dsimp only
   omega
  simp(disch:=omega)
 apply zE;refine bT fun _ _ Z=>?_;simp(disch:=omega);apply Z;apply aE;simp [aP];exact Yg hh (by omega)
theorem Py(s:ByteArray)(σ:List (List D))  :Ct prog 66 [D.str s] σ (fun r σ'=>r= .bool (jH s)/\σ'=σ):=by
 refine zf func66 ?_;refine bT fun _ _ Z=>?_;simp(disch:=omega);apply Z;refine oL ⟨[],[],[],[],[]⟩ fun all hall _ Z=>?_;have ga3:aQ all 3=some 6:=hall 3;refine zs 4 fun _ Y=>?_;simp(disch:=omega)[ga3];and_intros<;>(try omega);apply Y;refine zb 6 ?_ ?_<;>intro g1<;>try simp at g1
 .simp(disch:=omega)[ga3];and_intros<;>(try omega);apply Z;apply aE;first | (simp [aP,jH, *];done) | (simp [aP,jH];intro h;omega)
 simp(disch:=omega)[ga3];apply Z;apply aE;first | (simp [aP,jH, *];done) | (simp [aP,jH];intro h;omega)
@[simp] abbrev q38_3:Cfg:=⟨[34,52,69],[],[3],[],[]⟩
theorem Th(t:TN)(σ:List (List D))(h:TSz t)(ih:∀k∈t.kids,TSz k/\Wb k):Ct prog 24 [fU t] σ (fun r σ'=>(r.plain=true/\r.strip=fU (jS t))/\∃J,σ'=σ++J):=by
 refine zf func24 ?_;obtain⟨h1,h2,h3,h4⟩:=h;refine zr q38_3 fun _ _ Z=>?_;simp(disch:=omega)[aD,aA];apply Z;refine zd q38_3 [.op {},.op {rL:=true},.op {},.op {rL:=true},.op {},.op {rL:=true},.op {},.op {rL:=true},.op {},.op {rL:=true},.pure,.op {},.op {rO:=true,wO:=true},.op {rO:=true,wO:=true}] fun all hall _ Z=>?_;refine iK 8 fun _ Y=>?_;simp(disch:=omega)[aD,aA];apply Y;refine iK 2 fun _ Y=>?_;simp(disch:=omega)[aD,aA];apply Y;refine bJ fun _ Y=>?_;simp(disch:=omega)[aD,aA];refine pH (fun _=>(aE8 t.classes _ (by omega))) ?_;apply Y;simp(disch:=omega)[aD,aA];and_intros<;>(try omega);apply Z;apply aF;refine zk [1,2,3] ?_;refine zr q38_3 fun _ _ Z=>?_;simp(disch:=omega)[aD,aA];and_intros<;>(try omega);apply Z;apply aN;refine zk [1,2,3,23,24,25] ?_;refine eO (fun(k:Nat)=> [(25,.d (.v (.int .i64 (k:Int)))),(5,.d (.any))]) (fun(k:Nat)=> []) (fun(k:Nat)=> [(σ.length, [D.int t.ID,D.int t.kind,D.str t.tag,D.str t.text,.sl false ((oB t.classes).map D.str),.sl true ((mkA t.attrs k).map cH),.sl true ((Yd t.styles 0).map bY),.sl true ((Ue t 0).map mK)])]) [5,25,26,27,28,29,30,31,32,33,34,35,36,37,38,39] (fun(k:Nat)=>k<=t.attrs.length) (fun(k:Nat)=>t.attrs.length - k) (0) (by simp <;> rfl) ?_ (by simp) (by simp [aD,aRn,aLv,Vz]) ?_ ?_
 .simp
 .simp
 rintro k hk;simp only [aM,aK,dD,cJ,bK,bN];have htl:=aJo t.attrs k;refine zr q38_3 fun _ _ Z=>?_;simp(disch:=omega)[aD,aA];apply Z;apply aF;refine zI ?_ ?_<;>intro c1<;>try simp at c1
 .apply kL;refine zr q38_3 fun _ _ Z=>?_;simp(disch:=omega)[aD,aA];and_intros<;>(try omega);apply Z;refine zr q38_3 fun _ _ Z=>?_;refine zs 2 fun _ Y=>?_;simp(disch:=omega)[aD,aA];apply Y;refine aG fun _ Y=>?_;simp(disch:=omega)[aD,aA];refine dX (Py _ _) ?_;apply Y;simp(disch:=omega)[aD,aA];apply Z;refine zI ?_ ?_<;>intro c2<;>try simp at c2
  .have hnx:=aIv c1 (by simpa using c2);refine zk [1,2,3,5,23,24,25] ?_;refine zt q38_3 fun _ _ Z=>?_;simp(disch:=omega)[aD,aA];and_intros<;>(try omega);apply Z;apply zB;refine zk [1,2,3,5,23,24,25] ?_;refine zt q38_3 fun _ _ Z=>?_;simp(disch:=omega)[aD,aA];and_intros<;>(try omega);apply Z;refine cQ (k+1) ?_ ?_ (aU rfl ?_ (by simp) (by simp [hnx]))
   .omega
   .try dsimp only
    omega
   simp(disch:=omega)[aD,aA]
  have hnx:=aN3 c1 (by simpa using c2);apply lP;refine zk [1,2,3,5,23,24,25] ?_;refine zt q38_3 fun _ _ Z=>?_;simp(disch:=omega)[aD,aA];and_intros<;>(try omega);apply Z;refine cQ (k+1) ?_ ?_ (aU rfl ?_ (by simp) (by simp [hnx]))
  .omega
  .try dsimp only
   omega
  simp(disch:=omega)[aD,aA]
 obtain rfl:k=t.attrs.length:=by omega
 apply zE;apply aF;refine zr q38_3 fun _ _ Z=>?_;simp(disch:=omega)[aD,aA];and_intros<;>(try omega);apply Z;apply aN;refine zk [1,2,3,41,42,43] ?_;refine eO (fun(i:Nat)=> [(43,.d (.v (.int .i64 (i:Int)))),(7,.d (.any))]) (fun(i:Nat)=> []) (fun(i:Nat)=> [(σ.length, [D.int t.ID,D.int t.kind,D.str t.tag,D.str t.text,.sl false ((oB t.classes).map D.str),.sl true ((mkA t.attrs t.attrs.length).map cH),.sl true ((Yd t.styles i).map bY),.sl true ((Ue t 0).map mK)])]) [7,43,44,45,46,47,48,49,50,51,52,53,54,55,56,57] (fun(i:Nat)=>i<=t.styles.length) (fun(i:Nat)=>t.styles.length - i) (0) (by simp <;> rfl) ?_ (by simp) (by simp [aD,aLv,Vz]) ?_ ?_
 .simp
 .simp
 rintro i hi;simp only [aM,aK,dD,cJ,bK,bN];have htl1:=aJd t.styles i;refine zr q38_3 fun _ _ Z=>?_;simp(disch:=omega)[aD,aA];apply Z;apply aF;refine zI ?_ ?_<;>intro c3<;>try simp at c3
 .apply kL;refine zr q38_3 fun _ _ Z=>?_;simp(disch:=omega)[aD,aA];and_intros<;>(try omega);apply Z;refine zr q38_3 fun _ _ Z=>?_;refine zs 2 fun _ Y=>?_;simp(disch:=omega)[aD,aA];apply Y;refine aG fun _ Y=>?_;simp(disch:=omega)[aD,aA];refine dX (Py _ _) ?_;apply Y;simp(disch:=omega)[aD,aA];apply Z;refine zI ?_ ?_<;>intro c4<;>try simp at c4
  .have hnx:=aLq c3 (by simpa using c4);refine zk [1,2,3,7,41,42,43] ?_;refine zt q38_3 fun _ _ Z=>?_;simp(disch:=omega)[aD,aA];and_intros<;>(try omega);apply Z;apply zB;refine zk [1,2,3,7,41,42,43] ?_;refine zt q38_3 fun _ _ Z=>?_;simp(disch:=omega)[aD,aA];and_intros<;>(try omega);apply Z;refine cQ (i+1) ?_ ?_ (aU rfl ?_ (by simp) (by simp [hnx]))
   .omega
   .try dsimp only
    omega
   simp(disch:=omega)[aD,aA]
  have hnx:=aNy c3 (by simpa using c4);apply lP;refine zk [1,2,3,7,41,42,43] ?_;refine zt q38_3 fun _ _ Z=>?_;simp(disch:=omega)[aD,aA];and_intros<;>(try omega);apply Z;refine cQ (i+1) ?_ ?_ (aU rfl ?_ (by simp) (by simp [hnx]))
  .omega
  .try dsimp only
   omega
  simp(disch:=omega)[aD,aA]
 obtain rfl:i=t.styles.length:=by omega
 apply zE;apply aF;refine zr q38_3 fun _ _ Z=>?_;simp(disch:=omega)[aD,aA];and_intros<;>(try omega);apply Z;apply aN;refine zk [2,3,59,60,61] ?_;refine eO (fun(j:Nat)=> [(61,.d (.v (.int .i64 (j:Int)))),(9,.d (.any))]) (fun(j:Nat)=> []) (fun(j:Nat)=> [(σ.length, [D.int t.ID,D.int t.kind,D.str t.tag,D.str t.text,.sl false ((oB t.classes).map D.str),.sl true ((mkA t.attrs t.attrs.length).map cH),.sl true ((Yd t.styles t.styles.length).map bY),.sl true ((Ue t j).map mK)])]) [9,61,62,63,64,65,66,67,68,69,70,71,72,73,74,75] (fun(j:Nat)=>j<=t.kids.length) (fun(j:Nat)=>t.kids.length - j) (0) (by simp <;> rfl) ?_ (by simp) (by simp [aD,Vz]) ?_ ?_
 .simp
 .simp
 rintro j hj;simp only [aM,aK,dD,cJ,bK,bN];have htl2:=Vs t j;refine zr q38_3 fun _ _ Z=>?_;simp(disch:=omega)[aD,aA];apply Z;apply aF;refine zI ?_ ?_<;>intro c5<;>try simp at c5
 .apply kL;refine zr q38_3 fun _ _ Z=>?_;simp(disch:=omega)[aD,aA];and_intros<;>(try omega);apply Z;refine zr q38_3 fun _ _ Z=>?_;refine zs 1 fun _ Y=>?_;simp(disch:=omega)[aD,aA];apply Y;refine aG fun _ Y=>?_;simp(disch:=omega)[aD,aA];refine dX (wY t.kids[j] _ (ih _ (bS _)).1) ?_;apply Y;simp(disch:=omega)[aD,aA];apply Z;refine zI ?_ ?_<;>intro c6<;>try simp at c6
  .have hnx:=Va c5 (by simpa using c6);refine zk [2,3,9,59,60,61] ?_;refine ze q38_3 [.op {},.op {rO:=true,wO:=true},.op {rL:=true},.pure,.op {},.op {},.op {},.op {rO:=true,wO:=true}] fun all hall _ Z=>?_;refine iK 3 fun _ Y=>?_;simp(disch:=omega)[aD,aA];apply Y;refine bJ fun _ Y=>?_;simp(disch:=omega)[aD,aA];refine pH (fun _=>((ih t.kids[j] (bS _)).2 _)) ?_;apply Y;simp(disch:=omega)[aD,aA];and_intros<;>(try omega);apply Z;apply zB;refine zk [2,3,9,59,60,61] ?_;refine zt q38_3 fun _ _ Z=>?_;simp(disch:=omega)[aD,aA];and_intros<;>(try omega);apply Z;refine cQ (j+1) ?_ ?_ (aU rfl ?_ (by simp) (by simp [hnx]))
   .omega
   .try dsimp only
    omega
   simp(disch:=omega)[aD,aA]
  have hnx:=aGw c5 (by simpa using c6);apply lP;refine zk [2,3,9,59,60,61] ?_;refine zt q38_3 fun _ _ Z=>?_;simp(disch:=omega)[aD,aA];and_intros<;>(try omega);apply Z;refine cQ (j+1) ?_ ?_ (aU rfl ?_ (by simp) (by simp [hnx]))
  .omega
  .try dsimp only
   omega
  simp(disch:=omega)[aD,aA]
 obtain rfl:j=t.kids.length:=by omega
 rw [aI1,aJv];apply zE;refine zr q38_3 fun _ _ Z=>?_;simp(disch:=omega)[aD,aA];apply Z;apply aE;simp [aP];rw [Wu];simp
theorem Hr(t:TN)(h:TI t):Wb t:=fun σ=>
 have h1:Ct prog 24 [fU t] σ (fun r σ'=>r=fU (jS t)/\∃J,σ'=σ++J):=(Th t σ h.e.1 fun k hk=>⟨(h.k k hk).e.1,Hr k (h.k k hk)⟩).strip fun r σ' h=>⟨h.1.1,h.1.2,h.2⟩
 h1.trim fun r σ' ⟨hr,J,hs⟩=>⟨σ,J,hs,rfl,by rw [hr];exact Fm _ _,fun n cs h=> .inl h,hr,rfl⟩
termination_by jF t
decreasing_by
 have:=iX hk;omega
end Go.Proofs.YtbdjepeabjangaaGreat

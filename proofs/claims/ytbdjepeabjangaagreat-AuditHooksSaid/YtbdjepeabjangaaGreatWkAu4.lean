import Derived.Test.YtbdjepeabjangaaGreatWkAu1
set_option linter.all false
set_option maxRecDepth 20000
set_option maxHeartbeats 8000000
open Go.Proofs.Tryz
namespace Go.Proofs.YtbdjepeabjangaaGreat
open Go Go.Vm
variable {t:TN}{α β:Type}
theorem iR: [0,1]=List.range 2:=by decide
def aMq:ByteArray:=⟨#[116,45,119,97,105,116]⟩
def aN5:ByteArray:=⟨#[116,45,101,110,116,101,114,45,102,114,111,109]⟩
def aK9:ByteArray:=⟨#[116,45,101,110,116,101,114,45,97,99,116,105,118,101]⟩
def aNj:ByteArray:=⟨#[116,45,101,110,116,101,114,45,116,111]⟩
def aLo:ByteArray:=⟨#[116,45,104,111,108,100]⟩
def aNk:ByteArray:=⟨#[116,45,108,101,97,118,101,45,102,114,111,109]⟩
def aLh:ByteArray:=⟨#[116,45,108,101,97,118,101,45,97,99,116,105,118,101]⟩
def aN6:ByteArray:=⟨#[116,45,108,101,97,118,101,45,116,111]⟩
def aL5:ByteArray:=⟨#[116,45,109,111,118,101]⟩
def Qb:ByteArray:=⟨#[116,45,103,104,111,115,116]⟩
def mDx:ByteArray:=⟨#[116,45,100,120]⟩
def mDy:ByteArray:=⟨#[116,45,100,121]⟩
def Se(x:LK):Bool:=decide (x.kind=5) || decide (x.kind=6)
def Hn(x:LK):Bool:=decide (x.kind=4) || Se x
def mR(x:LK):Ls:=if x.kind=1 then [aMq] else if x.kind=2 then [aN5,aK9] else if x.kind=3 then [aK9,aNj] else if x.kind=4 then [aLo] else if x.kind=5 then [aNk,aLh] else if x.kind=6 then [aLh,aN6] else []
def oR(x:LK):Ls:=if x.move=0 then mR x else mR x++ [aL5]
theorem Cx(x:LK):(mR x).length<=2:=by unfold mR;(repeat' split) <;> simp
theorem Gt(x:LK):(oR x).length<=3:=by unfold oR;have:=Cx x;split <;> simp <;> omega
theorem aFc(x:LK)(σ:List (List D))  :Ct prog 104 [Pq x] σ (fun r σ'=>r= .bool (Se x)/\σ'=σ):=by
 refine zf func104 ?_;refine cL fun _ _ Z=>?_;simp(disch:=omega);apply Z;refine vJ ⟨[],[],[],[],[]⟩ fun all hall _ Z=>?_;have ga3:aY all 3=some 6:=hall 3;refine zs 4 fun _ Y=>?_;simp(disch:=omega)[ga3];apply Y;refine zb 6 ?_ ?_<;>intro g1<;>try simp at g1
 .simp(disch:=omega)[ga3];apply Z;apply aC;simp [aT,Se, *]
 simp(disch:=omega)[ga3];apply Z;apply aC;simp [aT,Se, *]
theorem aBf(x:LK)(σ:List (List D))  :Ct prog 60 [Pq x] σ (fun r σ'=>r= .bool (Hn x)/\σ'=σ):=by
 refine zf func60 ?_;refine cL fun _ _ Z=>?_;simp(disch:=omega);apply Z;refine vJ ⟨[],[],[],[],[]⟩ fun all hall _ Z=>?_;have ga3:aY all 3=some 6:=hall 3;refine zs 4 fun _ Y=>?_;simp(disch:=omega)[ga3];apply Y;refine zb 6 ?_ ?_<;>intro g1<;>try simp at g1
 .simp(disch:=omega)[ga3];apply Z;apply aC;simp [aT,Hn, *]
 refine zs 1 fun _ Y=>?_;simp(disch:=omega)[ga3];apply Y;refine zg ga3 fun _ Y=>?_;simp(disch:=omega)[ga3];refine eH (aFc x _) ?_;apply Y;simp(disch:=omega)[ga3];apply Z;apply aC;simp [aT,Hn, *]
theorem aD3(x:LK)(σ:List (List D))  :Ct prog 131 [Pq x] σ (fun r σ'=>r= .sl true ((mR x).map D.str)/\σ'=σ):=by
 refine zf func131 ?_;refine zr ⟨[2],[],[],[],[]⟩ fun _ _ Z=>?_;simp(disch:=omega)[iR];apply Z;apply aE;refine zr ⟨[2],[],[],[],[]⟩ fun _ _ Z=>?_;simp(disch:=omega)[iR];apply Z;apply aQ;refine zr ⟨[2],[],[],[],[]⟩ fun _ _ Z=>?_;simp(disch:=omega)[iR];apply Z;refine zI ?_ ?_<;>intro c1<;>try simp at c1
 .refine zr ⟨[2],[],[],[],[]⟩ fun _ _ Z=>?_;simp(disch:=omega)[iR];and_intros<;>(try omega);apply Z;apply aC;simp [aT,mR, *];first | done | rfl | exact⟨rfl,rfl⟩ | exact⟨rfl,rfl,rfl⟩
 refine zr ⟨[2],[],[],[],[]⟩ fun _ _ Z=>?_;simp(disch:=omega)[iR];apply Z;refine zI ?_ ?_<;>intro c2<;>try simp at c2
 .refine zr ⟨[2],[],[],[],[]⟩ fun _ _ Z=>?_;simp(disch:=omega)[iR];and_intros<;>(try omega);apply Z;apply aC;simp [aT,mR, *];first | done | rfl | exact⟨rfl,rfl⟩ | exact⟨rfl,rfl,rfl⟩
 refine zr ⟨[2],[],[],[],[]⟩ fun _ _ Z=>?_;simp(disch:=omega)[iR];apply Z;refine zI ?_ ?_<;>intro c3<;>try simp at c3
 .refine zr ⟨[2],[],[],[],[]⟩ fun _ _ Z=>?_;simp(disch:=omega)[iR];and_intros<;>(try omega);apply Z;apply aC;simp [aT,mR, *];first | done | rfl | exact⟨rfl,rfl⟩ | exact⟨rfl,rfl,rfl⟩
 refine zr ⟨[2],[],[],[],[]⟩ fun _ _ Z=>?_;simp(disch:=omega)[iR];apply Z;refine zI ?_ ?_<;>intro c4<;>try simp at c4
 .refine zk [2] ?_;refine zr ⟨[2],[],[],[],[]⟩ fun _ _ Z=>?_;simp(disch:=omega)[iR];and_intros<;>(try omega);apply Z;apply aC;simp [aT,mR, *];first | done | rfl | exact⟨rfl,rfl⟩ | exact⟨rfl,rfl,rfl⟩
 refine zk [2,4] ?_;refine zr ⟨[2],[],[],[],[]⟩ fun _ _ Z=>?_;simp(disch:=omega)[iR];apply Z;refine zI ?_ ?_<;>intro c5<;>try simp at c5
 .refine zr ⟨[2],[],[],[],[]⟩ fun _ _ Z=>?_;simp(disch:=omega)[iR];and_intros<;>(try omega);apply Z;apply aC;simp [aT,mR, *];first | done | rfl | exact⟨rfl,rfl⟩ | exact⟨rfl,rfl,rfl⟩
 refine zr ⟨[2],[],[],[],[]⟩ fun _ _ Z=>?_;simp(disch:=omega)[iR];apply Z;refine zI ?_ ?_<;>intro c6<;>try simp at c6
 .refine zr ⟨[2],[],[],[],[]⟩ fun _ _ Z=>?_;simp(disch:=omega)[iR];and_intros<;>(try omega);apply Z;apply aC;simp [aT,mR, *];first | done | rfl | exact⟨rfl,rfl⟩ | exact⟨rfl,rfl,rfl⟩
 apply rK;refine zr ⟨[2],[],[],[],[]⟩ fun _ _ Z=>?_;simp(disch:=omega)[iR];apply Z;apply aC;simp [aT,mR, *];first | done | rfl | exact⟨rfl,rfl⟩ | exact⟨rfl,rfl,rfl⟩
@[simp] abbrev q38_1:Cfg:=⟨[2,3,9,12],[],[],[],[]⟩
theorem Jz(x:LK)(σ:List (List D))  :Ct prog 101 [Pq x] σ (fun r σ'=>r= .sl true ((oR x).map D.str)/\σ'=σ):=by
 refine zf func101 ?_;have hml:=Cx x;refine zr q38_1 fun _ _ Z=>?_;simp(disch:=omega);apply Z;refine zr q38_1 fun _ _ Z=>?_;refine zs 1 fun _ Y=>?_;simp(disch:=omega);apply Y;refine aD fun _ Y=>?_;simp(disch:=omega);refine eH (aD3 x _) ?_;apply Y;simp(disch:=omega);apply Z;apply aE;refine zr q38_1 fun _ _ Z=>?_;simp(disch:=omega);apply Z;refine zI ?_ ?_<;>intro c1<;>try simp at c1
 .refine zt q38_1 fun _ _ Z=>?_;simp(disch:=omega);and_intros<;>(try omega);apply Z;apply kI;refine zk [2,3] ?_;refine zr q38_1 fun _ _ Z=>?_;simp(disch:=omega);apply Z;apply aC;simp [aT,oR, *];first | done | rfl
 apply zA;refine zr q38_1 fun _ _ Z=>?_;simp(disch:=omega);apply Z;apply aC;simp [aT,oR, *];first | done | rfl
theorem aIy (l:List α)(q:α->Bool)(f:α->β):(l.attach.filter fun k=>q k.1).map (fun k=>f k.1)=(l.filter q).map f:=by
 have h1:(fun k: {x // x∈l} =>f k.1)=f ∘ Subtype.val:=rfl;rw [h1,<- pX];congr 1;have h2:(fun k: {x // x∈l} =>q k.1)=q ∘ Subtype.val:=rfl;rw [h2,<- List.filter_map,yA]
theorem aIo (l:List α)(f:α->Option β):(l.attach.findSome? fun k=>f k.1)=l.findSome? f:=by
 conv=>rhs;rw [<- yA l,List.findSome?_map]
 rfl
theorem aFk (l:List α)(m:List β)(f:α->β->Bool):((l.attach.zip m).all fun p=>f p.1.1 p.2)=(l.zip m).all fun p=>f p.1 p.2:=by
 conv=>rhs;rw [<- yA l,List.zip_map_left,List.all_map]
 rfl
abbrev TE(t:TN):Prop:=TSz t/\eC nA t.attrs/\eC nP t.styles
inductive TI:TN->Prop
 | mk (t:TN) (h:TE t) (hk:∀k∈t.kids,TI k):TI t
theorem TI.e (h:TI t):TE t:=by cases h;assumption
theorem TI.k (h:TI t):∀k∈t.kids,TI k:=by cases h;assumption
def zT:TN:=⟨0,0,⟨#[]⟩,⟨#[]⟩, [], [], [], []⟩
theorem zTI:TI zT:= .mk _ ⟨⟨by decide,by decide,by decide,by decide⟩,List.Pairwise.nil,List.Pairwise.nil⟩ fun k hk=>by cases hk
def iN(t:TN):Bool:=sE nA t.attrs Qb
def kP(t:TN):TN:= { t with classes:=zR t.classes,attrs:=Ej t.attrs,styles:=Gc t.styles,kids:=(t.kids.attach.filter fun k=> !iN k.1).map fun k=>kP k.1 }
termination_by SizeOf.sizeOf t
decreasing_by
 have h:=iC k.2;cases t;simp at h |-;omega
theorem Et(t:TN):kP t= { t with classes:=zR t.classes,attrs:=Ej t.attrs,styles:=Gc t.styles,kids:=(t.kids.filter fun k=> !iN k).map kP } :=by
 rw [kP,aIy t.kids (fun k=> !iN k) kP]
def Xn(t:TN)(j:Nat):List TN:=((t.kids.take j).filter fun k=> !iN k).map kP
theorem aMd(t:TN):Xn t 0= []:=rfl
theorem aFu(t:TN)(j:Nat):(Xn t j).length<=j:=by
 unfold Xn;have:=gU (fun k=> !iN k) (t.kids.take j);simp at this |-;omega
theorem aFz {j:Nat} (h:j<t.kids.length)(hg:iN t.kids[j]=false):Xn t (j+1)=Xn t j++ [kP t.kids[j]]:=by
 unfold Xn;rw [bM _ _ h,eW,dC];simp [hg]
theorem aIf {j:Nat} (h:j<t.kids.length)(hg:iN t.kids[j]=true):Xn t (j+1)=Xn t j:=by
 unfold Xn;rw [bM _ _ h,eW,dC];simp [hg]
theorem aEu(t:TN):kP t= { t with classes:=zR t.classes,attrs:=Ej t.attrs,styles:=Gc t.styles,kids:=Xn t t.kids.length } :=by
 rw [Et];unfold Xn;rw [gC]
abbrev Zc(t:TN):Prop:=∀σ:List (List D),Ct prog 54 [iQ t] σ (fun r σ'=>(∃u:TN,r= .tup [iQ u,.bool (!iN t)]/\(iN t=false->u=kP t))/\σ'=σ)
theorem Ti(l:List AT):(Ej l).length<=l.length:=gU _ _
theorem Wj(l:List PI):(Gc l).length<=l.length:=gU _ _
theorem Su(t:TN)(σ:List (List D))(h:TE t)(ih:∀k∈t.kids,Zc k):Ct prog 54 [iQ t] σ (fun r σ'=>(r.plain=true/\∃u:TN,r.strip= .tup [iQ u,.bool (!iN t)]/\(iN t=false->u=kP t))/\σ'=σ):=by
 refine zf func54 ?_;obtain⟨⟨h1,h2,h3,h4⟩,h5,h6⟩:=h;refine zr ⟨[47],[],[],[],[]⟩ fun _ _ Z=>?_;simp(disch:=omega);apply Z;apply aE;refine zr ⟨[47],[],[],[],[]⟩ fun _ _ Z=>?_;refine zs 2 fun _ Y=>?_;simp(disch:=omega);apply Y;refine aD fun _ Y=>?_;simp(disch:=omega);refine eH (Qr t.attrs Qb _ (by omega) h5) ?_;apply Y;simp(disch:=omega);apply Z;refine zr ⟨[47],[],[],[],[]⟩ fun _ _ Z=>?_;simp(disch:=omega);apply Z;refine zI ?_ ?_<;>intro c1<;>try simp at c1
 .refine zk [1,2,3] ?_;refine zr ⟨[47],[],[],[],[]⟩ fun _ _ Z=>?_;simp(disch:=omega);apply Z;apply aC;simp [aT];exact⟨zT,by simp [zT,iN,c1]⟩
 apply zA;refine zk [1,2,3] ?_;refine zr ⟨[47],[],[],[],[]⟩ fun _ _ Z=>?_;simp(disch:=omega);apply Z;refine zk [1,2,3,6] ?_;refine zd ⟨[47],[],[],[],[]⟩ [.op {},.op {rL:=true},.pure,.op {},.op {rL:=true},.pure,.op {},.op {rL:=true},.pure,.op {},.op {rL:=true,wL:=true},.op {},.op {rL:=true,wL:=true},.op {},.op {rL:=true,wL:=true},.op {},.op {rL:=true,wL:=true}] fun all hall _ Z=>?_;refine kY 2 fun _ Y=>?_;simp(disch:=omega);apply Y;refine bJ fun _ Y=>?_;simp(disch:=omega);refine rG (fun _=>(aA6 t.classes _ (by omega))) ?_;apply Y;refine kY 2 fun _ Y=>?_;simp(disch:=omega);apply Y;refine bJ fun _ Y=>?_;simp(disch:=omega);refine rG (fun _=>(aDj t.attrs _ (by omega) h5)) ?_;apply Y;refine kY 2 fun _ Y=>?_;simp(disch:=omega);apply Y;refine bJ fun _ Y=>?_;simp(disch:=omega);refine rG (fun _=>(Zr t.styles _ (by omega) h6)) ?_;apply Y;simp(disch:=omega);apply Z;apply aE;refine zk [1,2,3,6] ?_;refine zr ⟨[47],[],[],[],[]⟩ fun _ _ Z=>?_;simp(disch:=omega);and_intros<;>(try omega);apply Z;apply aQ;refine zk [1,2,3,34,35,36] ?_;refine fP (fun(j:Nat)=> [(36,.d (.v (.int .i64 (j:Int)))),(8,.d (.any)),(9,.d (.any)),(10,.d (.any))]) (fun(j:Nat)=> [(0, [D.int t.ID,D.int t.kind,D.str t.tag,D.str t.text,.sl false ((zR t.classes).map D.str),.sl false ((Ej t.attrs).map cD),.sl false ((Gc t.styles).map bV),.sl true ((Xn t j).map mQ)])]) (fun(j:Nat)=> []) [8,9,10,36,37,38,39,40,41,42,43,44,45,46,47,48,49,50,51,52] (fun(j:Nat)=>j<=t.kids.length) (fun(j:Nat)=>t.kids.length - j) (0) (by simp <;> rfl) ?_ (by simp [aMd]) (by simp) ?_ ?_
 .simp
 .simp
 rintro j hj;simp only [aO,aK,eM,dS,bZ,cN];have hel:=aFu t j;refine zr ⟨[47],[],[],[],[]⟩ fun _ _ Z=>?_;simp(disch:=omega);apply Z;apply aE;refine zI ?_ ?_<;>intro c2<;>try simp at c2
 .apply mT;refine zr ⟨[47],[],[],[],[]⟩ fun _ _ Z=>?_;simp(disch:=omega);and_intros<;>(try omega);apply Z;refine zk [1,2,3,8,9,10,34,35,36] ?_;refine zr ⟨[47],[],[],[],[]⟩ fun _ _ Z=>?_;refine zs 1 fun _ Y=>?_;simp(disch:=omega);apply Y;refine aD fun _ Y=>?_;simp(disch:=omega);refine Xl (ih t.kids[j] (cR _) _) ?_;rintro _ τ9 ⟨⟨u,hr9,hu⟩,hs9⟩;subst hr9;subst hs9;apply Y;simp(disch:=omega);apply Z;refine zk [1,2,3,8,9,10,34,35,36] ?_;refine zr ⟨[47],[],[],[],[]⟩ fun _ _ Z=>?_;simp(disch:=omega);apply Z;refine zI ?_ ?_<;>intro c3<;>try simp at c3
  .have hgk:iN t.kids[j]=false:=by simpa using c3
   have hnx:=aFz c2 hgk;rw [hu hgk];refine zt ⟨[47],[],[],[],[]⟩ fun _ _ Z=>?_;simp(disch:=omega);and_intros<;>(try omega);apply Z;apply zB;refine zk [1,2,3,8,9,10,34,35,36] ?_;refine zt ⟨[47],[],[],[],[]⟩ fun _ _ Z=>?_;simp(disch:=omega);and_intros<;>(try omega);apply Z;refine eL (j+1) ?_ ?_ (bT rfl ?_ (by simp [hnx]) (by simp))
   .omega
   .try dsimp only
    omega
   simp(disch:=omega)
  have hnx:=aIf c2 (by simpa using c3);apply rK;refine zt ⟨[47],[],[],[],[]⟩ fun _ _ Z=>?_;simp(disch:=omega);and_intros<;>(try omega);apply Z;refine eL (j+1) ?_ ?_ (bT rfl ?_ (by simp [hnx]) (by simp))
  .omega
  .try dsimp only
   omega
  simp(disch:=omega)
 obtain rfl:j=t.kids.length:=by omega
 apply zE;refine zr ⟨[47],[],[],[],[]⟩ fun _ _ Z=>?_;simp(disch:=omega);apply Z;apply aC;simp [aT];exact⟨kP t,by rw [aEu];simp [iN,c1]⟩
theorem Ku(t:TN)(h:TI t):Zc t:=fun σ=>
 (Su t σ h.e fun k hk=>Ku k (h.k k hk)).strip fun r σ' h=>⟨h.1.1,h.1.2,h.2⟩
termination_by jJ t
decreasing_by
 have:=jR hk;omega
end Go.Proofs.YtbdjepeabjangaaGreat

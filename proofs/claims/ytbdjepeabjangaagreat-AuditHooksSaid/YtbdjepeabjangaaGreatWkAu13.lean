import Derived.Test.YtbdjepeabjangaaGreatWkAu10
set_option linter.all false
set_option maxRecDepth 20000
set_option maxHeartbeats 8000000
open Go.Proofs.Tryz
namespace Go.Proofs.YtbdjepeabjangaaGreat
open Go Go.Vm
variable {c:List FND}{f:KD->List FND}{i:Nat}{v:VN}{α:Type}
theorem TI.erase:∀ {t:TN},TI t->TI (kP t)
 | t, h => by
  obtain⟨⟨h1,h2,h3,h4⟩,h5,h6⟩:=h.e;rw [Et];refine .mk _ ⟨⟨dJ (aD0 _) h1,dJ (Ti _) h2,dJ (Wj _) h3,?_⟩,yU _ h5,yU _ h6⟩ fun k hk=>?_
  .show((t.kids.filter fun k=> !iN k).map kP).length<=9999
   rw [cC];exact dJ (gU _ _) h4
  obtain⟨y,hy,rfl⟩:=bY.1 hk;exact TI.erase (h.k y (iH.1 hy).1)
termination_by t=>jJ t
decreasing_by
 have:=jR (iH.1 hy).1;omega
def sF(t:TN)(v:VN)(m:Bool):Bool:=if m=true then Mh (kP t).kids [Fh (gG v)] else !decide (0<(kP t).kids.length)
theorem aFj {l:List TN} {o:TN} (h:l.length=1):Mh l [o]=Qz (l[0]'(by omega)) o:=by
 match l,h with
 | [a],_=>simp [Mh]
theorem aFf {l:List TN} {o:TN} (h:¬l.length=1):Mh l [o]=false:=Rw (by simpa using h)
def c0F(t:TN)(v:VN)(m:Bool):List FND:=if sF t v m=true then [] else [⟨1,0⟩]
theorem Rd(t:TN)(v:VN)(m:Bool):(c0F t v m).length<=1:=by unfold c0F;split <;> simp
def Oz(c:List FND)(f:KD->List FND)(l:List KD)(k:Nat):List FND:=c++(l.take k).flatMap f
theorem Yt(c:List FND)(f:KD->List FND)(l:List KD):Oz c f l 0=c:=by simp [Oz]
theorem Gb {l:List KD} {k:Nat} (h:k<l.length):Oz c f l (k+1)=Oz c f l k++f l[k]:=by unfold Oz;rw [bM _ _ h,fN,bN];simp
theorem Lp (l:List KD)(hc:c.length<=1)(hf:∀k,(f k).length<=3):∀k,k<=l.length->(Oz c f l k).length<=1+3 * k
 | 0,_=>by rw [Yt];omega
 | k+1,h=>by rw [Gb (by omega),aX];have:=Lp l hc hf k (by omega);have:=hf l[k];omega
def Iu {α:Type} (p:α->Bool)(f:α->FND)(l:List α)(i:Nat):List FND:=((l.take i).filter p).map f
theorem aCi (p:α->Bool)(f:α->FND)(l:List α)(i:Nat):(Iu p f l i).length<=i:=by
 unfold Iu;have:=gU p (l.take i);simp at this |-;omega
theorem aAx {p:α->Bool} {f:α->FND} {l:List α} (h:i<l.length)(hp:p l[i]=true):Iu p f l (i+1)=Iu p f l i++ [f l[i]]:=by unfold Iu;rw [bM _ _ h,eW,dC];simp [hp]
theorem aF0 {p:α->Bool} {f:α->FND} {l:List α} (h:i<l.length)(hp:p l[i]=false):Iu p f l (i+1)=Iu p f l i:=by unfold Iu;rw [bM _ _ h,eW,dC];simp [hp]
def hkF(l:List HE):List FND:=if lG l=true then [] else [⟨6,0⟩]
theorem Zl(v:VN)(σ:List (List D))(h:VG v)(hc:fB v<=100):Ct prog 56 [kM v] σ (fun r σ'=>r=iQ (Fh (gG v))/\σ'=σ):=(aGd v σ h hc).strip fun r σ' h=>⟨h.1.1,h.1.2,h.2⟩
inductive VS:VN->Prop
 | mk (v:VN) (h1:eC nA v.attrs) (h2:eC nP v.styles) (hk:∀k∈v.kids,VS k):VS v
theorem VS.a (h:VS v):eC nA v.attrs:=by cases h;assumption
theorem VS.p (h:VS v):eC nP v.styles:=by cases h;assumption
theorem VS.k (h:VS v):∀k∈v.kids,VS k:=by cases h;assumption
theorem VS.txt (h:VS v)(s:ByteArray):VS (txt v s):= .mk _ h.a h.p h.k
theorem aDy:∀(v:VN),VS (gG v)
 | v=>by
  rw [oN];refine .mk _ (jV nA _) (jV nP _) fun k hk=>?_;obtain⟨y,hy,s,rfl⟩:=Fa hk;obtain⟨z,hz,rfl⟩:=bY.1 (iH.1 hy).1;exact(aDy z).txt s
termination_by v=>fB v
decreasing_by
 have:=iL hz;omega
theorem aHw:∀ {v:VN},VB v->VS v->TI (Fh v)
 | v,h,hs=>by
  obtain⟨h1,h2,h3,h4,h5⟩:=h.s;rw [Nw];split
  .exact .mk _ ⟨⟨cH _,cH _,cH _,cH _⟩,List.Pairwise.nil,List.Pairwise.nil⟩ fun k hk=>by cases hk
  refine .mk _ ⟨⟨h1,h2,h3,by simpa using h4⟩,hs.a,hs.p⟩ fun k hk=>?_;obtain⟨y,hy,rfl⟩:=bY.1 hk;exact aHw (h.k y hy) (hs.k y hy)
termination_by v=>fB v
decreasing_by
 have:=iL hy;omega
def pI(p:PIC)(i:Nat):List FND:=Iu (zF p.now p.kids) (fun w:PDG=>(⟨5,w.job.node⟩:FND)) p.pending i
def pK(p:PIC)(k:Nat):List FND:=Oz (c0F p.tree p.view p.mounted) (Lj p.tree p.pending) p.kids k
def mP(p:PIC):List FND:=pK p p.kids.length++pI p p.pending.length++hkF p.hooks
theorem aN0(p:PIC):pK p 0=c0F p.tree p.view p.mounted:=Yt _ _ _
theorem aE4 {p:PIC} {k:Nat} (h:k<p.kids.length):pK p (k+1)=pK p k++Lj p.tree p.pending p.kids[k]:=Gb h
theorem Nk(p:PIC)(k:Nat)(h:k<=p.kids.length):(pK p k).length<=1+3 * k:=Lp _ (Rd _ _ _) (Jr _ _) _ h
theorem aNz(p:PIC):pI p 0= []:=rfl
theorem aC9(p:PIC)(i:Nat):(pI p i).length<=i:=aCi _ _ _ _
theorem aJ9 {p:PIC} (h:i<p.pending.length)(hp:zF p.now p.kids p.pending[i]=true):pI p (i+1)=pI p i++ [⟨5,p.pending[i].job.node⟩]:=aAx h hp
theorem aLf {p:PIC} (h:i<p.pending.length)(hp:zF p.now p.kids p.pending[i]=false):pI p (i+1)=pI p i:=aF0 h hp
abbrev Qo(l:List HE):Prop:=∀σ:List (List D),Ct prog 23 [.sl false (l.map lI)] σ (fun r σ'=>r= .bool (lG l)/\σ'=σ)
structure PW(p:PIC):Prop where
 t:TI p.tree
 g:iN p.tree=false
 v:VG p.view
 c:fB p.view<=100
 k:p.kids.length<=100
 w:p.pending.length<=100
 h:p.hooks.length<=1000
theorem Zq(p:PIC)(σ:List (List D))(h:PW p):Ct prog 20 [rN p] σ (fun r σ'=>r= .bool (sF p.tree p.view p.mounted)/\σ'=σ):=by
 refine zf func20 ?_;have hto:=aHw (Pu h.v h.c) (aDy p.view);have hg:=h.g;refine cL fun _ _ Z=>?_;simp(maxSteps:=999999)(disch:=omega)[hg];apply Z;refine cL fun _ _ Z=>?_;refine zs 2 fun _ Y=>?_;simp(maxSteps:=999999)(disch:=omega)[hg];apply Y;refine aD fun _ Y=>?_;simp(maxSteps:=999999)(disch:=omega)[hg];refine Xl (Ku p.tree h.t _) ?_;rintro _ τ9 ⟨⟨E,hr9,hE9⟩,hs9⟩;subst hr9;subst hs9;have hE:=hE9 hg;have hEI:TI E:=by rw [hE];exact h.t.erase
 apply Y;simp(maxSteps:=999999)(disch:=omega)[hg];apply Z;apply aE;refine cL fun _ _ Z=>?_;simp(maxSteps:=999999)(disch:=omega)[hg];apply Z;refine zI ?_ ?_<;>intro c1<;>try simp at c1
 .refine zk [1,2,3] ?_;refine cL fun _ _ Z=>?_;simp(maxSteps:=999999)(disch:=omega)[hg];and_intros<;>try first|omega|exact rfl
  apply Z;apply aC;have hsf:sF p.tree p.view p.mounted=if p.mounted=true then Mh E.kids [Fh (gG p.view)] else !decide (0<E.kids.length):=by unfold sF;rw [hE]
  rw [c1] at hsf;simp [aT,c1,hsf];rcases E.kids with _ | ⟨a,b⟩ <;> simp
 apply zA;refine zk [1,2,3] ?_;refine zd ⟨[],[],[],[],[]⟩ [.op {},.op {rL:=true},.op {},.op {},.op {},.op {},.op {rL:=true},.op {},.op {},.op {},.op {rL:=true},.pure,.pure,.op {},.op {}] fun all hall _ Z=>?_;have ga4:aY all 4=some 22:=hall 4;refine kY 5 fun _ Y=>?_;simp(maxSteps:=999999)(disch:=omega)[hg,ga4];and_intros<;>try first|omega|exact rfl
 apply Y;refine zbD 22 ?_ ?_<;>intro g2<;>try simp at g2
 .have hs1:=aFj (l:=E.kids) (o:=Fh (gG p.view)) (by omega);refine kY 6 fun _ Y=>?_;simp(maxSteps:=999999)(disch:=omega)[hg,ga4];and_intros<;>try first|omega|exact rfl
  apply Y;refine zdg ga4 fun _ Y=>?_;simp(maxSteps:=999999)(disch:=omega)[hg,ga4];refine rG (fun _=>(Zl p.view _ h.v h.c)) ?_;apply Y;refine zdg ga4 fun _ Y=>?_;simp(maxSteps:=999999)(disch:=omega)[hg,ga4];refine rG (fun _=>(Qv (E.kids[0]'(by omega)) (Fh (gG p.view)) (hEI.k _ (cR _)) hto _)) ?_;apply Y;simp(maxSteps:=999999)(disch:=omega)[hg,ga4];apply Z;apply aC;have hsf:sF p.tree p.view p.mounted=if p.mounted=true then Mh E.kids [Fh (gG p.view)] else !decide (0<E.kids.length):=by unfold sF;rw [hE]
  rw [c1] at hsf;simp [aT,c1,hsf,hs1]
 have hs1:=aFf (l:=E.kids) (o:=Fh (gG p.view)) (by omega);refine kY 8 fun _ Y=>?_;simp(maxSteps:=999999)(disch:=omega)[hg,ga4];and_intros<;>try first|omega|exact rfl
 apply Y;simp(maxSteps:=999999)(disch:=omega)[hg,ga4];apply Z;apply aC;have hsf:sF p.tree p.view p.mounted=if p.mounted=true then Mh E.kids [Fh (gG p.view)] else !decide (0<E.kids.length):=by unfold sF;rw [hE]
 rw [c1] at hsf;simp [aT,c1,hsf,hs1]
@[simp] abbrev q34_1:Cfg:=⟨[2,3,11,22,38,50,54],[],[],[],[]⟩
theorem vW(p:PIC)(σ:List (List D))(h:PW p)(hh:Qo p.hooks):Ct prog 8 [rN p] σ (fun r σ'=>r= .sl true ((mP p).map rZ)/\σ'=σ):=by
 refine zf func8 ?_;have hcl:=Rd p.tree p.view p.mounted;have hk:=h.k;have hp:=h.w;have hh1:=h.h;refine zr q34_1 fun _ _ Z=>?_;simp(disch:=omega)[aM,aL];apply Z;refine zr q34_1 fun _ _ Z=>?_;simp(disch:=omega)[aM,aL];apply Z;refine zk [1,2,3] ?_;apply aE;refine nX (fun(_:Unit)=> [(3,.d (.sl true ((c0F p.tree p.view p.mounted).map rZ)))]) (fun(_:Unit)=> []) (fun(_:Unit)=> []) [3,8,9,10,11,12,13,14] (fun(_:Unit)=>True) (by simp <;> rfl) ?_ ?_
 .refine zr q34_1 fun _ _ Z=>?_;refine zs 1 fun _ Y=>?_;simp(disch:=omega)[aM,aL];apply Y;refine aD fun _ Y=>?_;simp(disch:=omega)[aM,aL];refine eH (Zq p _ h) ?_;apply Y;simp(disch:=omega)[aM,aL];apply Z;refine zI ?_ ?_<;>intro c1<;>try simp at c1
  .refine zt q34_1 fun _ _ Z=>?_;simp(disch:=omega)[aM,aL];and_intros<;>(try omega);apply Z;refine kO (()) (trivial) (bT rfl ?_ (by simp) (by simp));simp [uL,c0F, *]
  apply jM;refine kO (()) (trivial) (bT rfl ?_ (by simp) (by simp));simp [uL,c0F, *]
 rintro - -;simp only [aO,aK,eM,dS,bZ,cN];apply aE;refine zr q34_1 fun _ _ Z=>?_;simp(disch:=omega)[aM,aL];and_intros<;>(try omega);apply Z;apply aQ;refine zk [1,2,3,16,17,18] ?_;refine bK (fun(k:Nat)=> [(18,.d (.v (.int .i64 (k:Int)))),(3,.d (.sl true ((pK p k).map rZ))),(5,.d (.any))]) [3,5,18,19,20,21,22,23,24,25,26,27] (fun(k:Nat)=>k<=p.kids.length) (fun(k:Nat)=>p.kids.length - k) (0) (by simp <;> rfl) ?_ ?_ ?_
 .simp [aN0]
 .simp
 rintro k hkk;simp only [aO,aK];have hkl:=Nk p k hkk;refine zr q34_1 fun _ _ Z=>?_;simp(disch:=omega)[aM,aL];apply Z;apply aE;refine zI ?_ ?_<;>intro c2<;>try simp at c2
 .have hnx:=aE4 (p:=p) c2;apply mT;refine zr q34_1 fun _ _ Z=>?_;simp(disch:=omega)[aM,aL];and_intros<;>(try omega);apply Z;refine zt q34_1 fun _ _ Z=>?_;refine zs 3 fun _ Y=>?_;simp(disch:=omega)[aM,aL];apply Y;refine aD fun _ Y=>?_;simp(disch:=omega)[aM,aL];refine eH (aH9 p p.kids[k] _ h.t (by omega)) ?_;have hql:=Jr p.tree p.pending p.kids[k];apply Y;simp(disch:=omega)[aM,aL];and_intros<;>(try omega);apply Z;apply zB;refine zk [1,2,3,5,16,17,18] ?_;refine zt q34_1 fun _ _ Z=>?_;simp(disch:=omega)[aM,aL];and_intros<;>(try omega);apply Z;refine zq (k+1) ?_ ?_ ?_
  .omega
  .try dsimp only
   omega
  simp(disch:=omega)[aM,aL,hnx]
 obtain rfl:k=p.kids.length:=by omega
 apply zE;apply aE;refine zr q34_1 fun _ _ Z=>?_;simp(disch:=omega)[aM,aL];and_intros<;>(try omega);apply Z;apply aQ;refine zk [1,2,3,29,30,31] ?_;refine bK (fun(i:Nat)=> [(31,.d (.v (.int .i64 (i:Int)))),(3,.d (.sl true ((pK p p.kids.length++pI p i).map rZ))),(7,.d (.any))]) [3,7,31,32,33,34,35,36,37,38,39,40,41,42,43,44,45] (fun(i:Nat)=>i<=p.pending.length) (fun(i:Nat)=>p.pending.length - i) (0) (by simp <;> rfl) ?_ ?_ ?_
 .simp [aNz]
 .simp
 rintro i hi;simp only [aO,aK];have hkl:=Nk p p.kids.length (bD _);have hil:=aC9 p i;refine zr q34_1 fun _ _ Z=>?_;simp(disch:=omega)[aM,aL];apply Z;apply aE;refine zI ?_ ?_<;>intro c3<;>try simp at c3
 .have hiw:=c3;apply mT;refine zr q34_1 fun _ _ Z=>?_;simp(disch:=omega)[aM,aL];and_intros<;>(try omega);apply Z;refine zr q34_1 fun _ _ Z=>?_;refine zs 2 fun _ Y=>?_;simp(disch:=omega)[aM,aL];apply Y;refine aD fun _ Y=>?_;simp(disch:=omega)[aM,aL];refine eH (aF6 p p.pending[i] _ (by omega)) ?_;apply Y;simp only [fJ];apply Z;refine zI ?_ ?_<;>intro c4<;>try simp at c4
  .have hnx:=aJ9 hiw c4;refine zk [1,2,3,7,29,30,31] ?_;refine zt q34_1 fun _ _ Z=>?_;simp(disch:=omega)[aM,aL];and_intros<;>(try omega);apply Z;apply zB;refine zk [1,2,3,7,29,30,31] ?_;refine zt q34_1 fun _ _ Z=>?_;simp(disch:=omega)[aM,aL];and_intros<;>(try omega);apply Z;refine zq (i+1) ?_ ?_ ?_
   .omega
   .try dsimp only
    omega
   simp(disch:=omega)[aM,aL,hnx]
  have hnx:=aLf hiw c4;apply rK;refine zk [1,2,3,7,29,30,31] ?_;refine zt q34_1 fun _ _ Z=>?_;simp(disch:=omega)[aM,aL];and_intros<;>(try omega);apply Z;refine zq (i+1) ?_ ?_ ?_
  .omega
  .try dsimp only
   omega
  simp(disch:=omega)[aM,aL,hnx]
 obtain rfl:i=p.pending.length:=by omega
 apply zE;refine zk [1,2,3] ?_;apply aE;refine nX (fun(_:Unit)=> [(3,.d (.sl true ((mP p).map rZ)))]) (fun(_:Unit)=> []) (fun(_:Unit)=> []) [3,46,47,48,49,50,51,52,53] (fun(_:Unit)=>True) (by simp <;> rfl) ?_ ?_
 .refine zr q34_1 fun _ _ Z=>?_;refine zs 2 fun _ Y=>?_;simp(disch:=omega)[aM,aL];apply Y;refine aD fun _ Y=>?_;simp(disch:=omega)[aM,aL];refine eH (hh _) ?_;apply Y;simp(disch:=omega)[aM,aL];apply Z;refine zI ?_ ?_<;>intro c5<;>try simp at c5
  .refine zt q34_1 fun _ _ Z=>?_;simp(disch:=omega)[aM,aL];and_intros<;>(try omega);apply Z;refine kO (()) (trivial) (bT rfl ?_ (by simp) (by simp));simp [uL,mP,hkF, *]
  apply jM;refine kO (()) (trivial) (bT rfl ?_ (by simp) (by simp));simp [uL,mP,hkF, *]
 rintro - -;simp only [aO,aK,eM,dS,bZ,cN];refine zr q34_1 fun _ _ Z=>?_;simp(disch:=omega)[aM,aL];apply Z;apply aC;simp [aT]
end Go.Proofs.YtbdjepeabjangaaGreat

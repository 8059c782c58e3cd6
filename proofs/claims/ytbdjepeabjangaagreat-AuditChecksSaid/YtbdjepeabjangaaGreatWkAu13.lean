import Derived.Test.YtbdjepeabjangaaGreatWkAu10
set_option linter.all false
set_option maxRecDepth 20000
set_option maxHeartbeats 8000000
open Go.Proofs.Tryz
namespace Go.Proofs.YtbdjepeabjangaaGreat
open Go Go.Vm
variable {c:List FND}{f:KD->List FND}{i:Nat}{v:VN}{x:RPC}{α:Type}
theorem TI.erase:∀ {t:TN},TI t->TI (jS t)
 | t, h => by
  obtain⟨⟨h1,h2,h3,h4⟩,h5,h6⟩:=h.e;rw [Hi];refine .mk _ ⟨⟨cZ (Ol _) h1,cZ (Iw _) h2,cZ (Jn _) h3,?_⟩,Ak _ h5,Ak _ h6⟩ fun k hk=>?_
  .show((t.kids.filter fun k=> !iN k).map jS).length<=9999
   rw [cG];exact cZ (gE _ _) h4
  obtain⟨y,hy,rfl⟩:=bW.1 hk;exact TI.erase (h.k y (iP.1 hy).1)
termination_by t=>jF t
decreasing_by
 have:=iX (iP.1 hy).1;omega
theorem aMs:∀ {v:VN},VB v->TB (yJ v)
 | v,h=>by
  obtain⟨h1,h2,h3,h4,h5⟩:=h.s;rw [As];split
  .exact .mk _ ⟨cE _,cE _,cE _,cE _⟩ fun k hk=>by cases hk
  refine .mk _ ⟨h1,h2,h3,by simpa using h4⟩ fun k hk=>?_;obtain⟨y,hy,rfl⟩:=bW.1 hk;exact aMs (h.k y hy)
termination_by v=>fG v
decreasing_by
 have:=iH hy;omega
def nL(t:TN)(v:VN)(m:Bool):Bool:=if m=true then Kv (jS t).kids [yJ (eR v)] else !decide (0<(jS t).kids.length)
theorem Wx {l:List TN} {o:TN} (h:l.length=1):Kv l [o]=Oh (l[0]'(by omega)) o:=by
 match l,h with
 | [a],_=>simp [Kv]
theorem Xa {l:List TN} {o:TN} (h:¬l.length=1):Kv l [o]=false:=Lo (by simpa using h)
def Rl(t:TN)(v:VN)(m:Bool):List FND:=if nL t v m=true then [] else [⟨1,0⟩]
theorem Dg(t:TN)(v:VN)(m:Bool):(Rl t v m).length<=1:=by unfold Rl;split <;> simp
def aBe(l:LK):Int:=if l.kind=2\/l.kind=5 then 1 else 0
def Cc(l:LK):Int:=if l.kind=3\/l.kind=6 then 2 else aBe l
def tW(l:LK):Int:=if l.move<0\/2<l.move then 0 else l.move
def Kg(t:TN)(k:KD):List FND:=if Gp t k.ID=true/\mO (rB t k.ID) k.look=true then [] else [⟨2,k.ID⟩]
def Rh(p:List WAT)(k:KD):List FND:=if tA p k.ID 1 (Cc k.look)=true/\tA p k.ID 2 (tW k.look)=true then [] else [⟨4,k.ID⟩]
def yC(t:TN)(p:List WAT)(k:KD):List FND:=Kg t k++k2F t k++Rh p k
theorem Nd(t:TN)(k:KD):(Kg t k).length<=1:=by unfold Kg;split <;> simp
theorem aD7(t:List WAT)(k:KD):(Rh t k).length<=1:=by unfold Rh;split <;> simp
theorem aAz(t:TN)(p:List WAT)(k:KD):(yC t p k).length<=3:=by
 unfold yC;have:=Nd t k;have:=Dh t k;have:=aD7 p k;simp;omega
def knK(l:List KD)(id:Int)(j:Nat):Bool:=(l.take j).any fun k=>decide (k.ID=id)
def fZ(now:Int)(ks:List KD)(w:WAT):Bool:= !(knK ks w.node ks.length) || (!decide (w.kind=1) && !decide (w.kind=2)) || (w.frame && !decide (w.left=1) && !decide (w.left=2)) || (!w.frame && decide (w.deadline<now))
def Ob(c:List FND)(f:KD->List FND)(l:List KD)(k:Nat):List FND:=c++(l.take k).flatMap f
theorem Ul(c:List FND)(f:KD->List FND)(l:List KD):Ob c f l 0=c:=by simp [Ob]
theorem Bj {l:List KD} {k:Nat} (h:k<l.length):Ob c f l (k+1)=Ob c f l k++f l[k]:=by unfold Ob;rw [bB _ _ h,gB,bU];simp
theorem Fk (l:List KD)(hc:c.length<=1)(hf:∀k,(f k).length<=3):∀k,k<=l.length->(Ob c f l k).length<=1+3 * k
 | 0,_=>by rw [Ul];omega
 | k+1,h=>by rw [Bj (by omega),bC];have:=Fk l hc hf k (by omega);have:=hf l[k];omega
def Az {α:Type} (p:α->Bool)(f:α->FND)(l:List α)(i:Nat):List FND:=((l.take i).filter p).map f
theorem Nc (p:α->Bool)(f:α->FND)(l:List α)(i:Nat):(Az p f l i).length<=i:=by
 unfold Az;have:=gE p (l.take i);simp at this |-;omega
theorem Ox {p:α->Bool} {f:α->FND} {l:List α} (h:i<l.length)(hp:p l[i]=true):Az p f l (i+1)=Az p f l i++ [f l[i]]:=by unfold Az;rw [bB _ _ h,cT,cX];simp [hp]
theorem Wt {p:α->Bool} {f:α->FND} {l:List α} (h:i<l.length)(hp:p l[i]=false):Az p f l (i+1)=Az p f l i:=by unfold Az;rw [bB _ _ h,cT,cX];simp [hp]
def rI(x:RPC)(i:Nat):List FND:=Az (fZ x.now x.kids) (fun w:WAT=>(⟨5,w.node⟩:FND)) x.pending i
def rK(x:RPC)(k:Nat):List FND:=Ob (Rl x.tree x.view x.mounted) (yC x.tree x.pending) x.kids k
def hkF(l:List HE):List FND:=if qO l=true then [] else [⟨6,0⟩]
def sW(x:RPC):List FND:=rK x x.kids.length++rI x x.pending.length++hkF x.hooks
theorem aSw(x:RPC):rK x 0=Rl x.tree x.view x.mounted:=Ul _ _ _
theorem aKa {k:Nat} (h:k<x.kids.length):rK x (k+1)=rK x k++yC x.tree x.pending x.kids[k]:=Bj h
theorem aH1(x:RPC)(k:Nat)(h:k<=x.kids.length):(rK x k).length<=1+3 * k:=Fk _ (Dg _ _ _) (aAz _ _) _ h
theorem aSu(x:RPC):rI x 0= []:=rfl
theorem aM3(x:RPC)(i:Nat):(rI x i).length<=i:=Nc _ _ _ _
theorem oI (h:i<x.pending.length)(hp:fZ x.now x.kids x.pending[i]=true):rI x (i+1)=rI x i++ [⟨5,x.pending[i].node⟩]:=Ox h hp
theorem tC (h:i<x.pending.length)(hp:fZ x.now x.kids x.pending[i]=false):rI x (i+1)=rI x i:=Wt h hp
theorem aPz(l:List KD)(id:Int):knK l id 0=false:=rfl
theorem Mz {l:List KD} {id:Int} {j:Nat} (h:j<l.length):knK l id (j+1)=(knK l id j || decide (l[j].ID=id)):=by unfold knK;rw [bB _ _ h,List.any_append];simp
theorem aK4(l:List KD)(id:Int):knK l id l.length=l.any fun k=>decide (k.ID=id):=by unfold knK;rw [dY]
theorem aKm(v:VN)(σ:List (List D))(h:VG v)(hc:fG v<=100):Ct prog 27 [jN v] σ (fun r σ'=>r=fU (yJ (eR v))/\σ'=σ):=(aOb v σ h hc).strip fun r σ' h=>⟨h.1.1,h.1.2,h.2⟩
theorem aF0(v:VN)(σ:List (List D))(h:VG v)(hc:fG v<=100):Ct prog 56 [jN v] σ (fun r σ'=>r=fU (yJ (eR v))/\σ'=σ):=(aJ5 v σ h hc).strip fun r σ' h=>⟨h.1.1,h.1.2,h.2⟩
inductive VS:VN->Prop
 | mk (v:VN) (h1:eE nA v.attrs) (h2:eE nP v.styles) (hk:∀k∈v.kids,VS k):VS v
theorem VS.a (h:VS v):eE nA v.attrs:=by cases h;assumption
theorem VS.p (h:VS v):eE nP v.styles:=by cases h;assumption
theorem VS.k (h:VS v):∀k∈v.kids,VS k:=by cases h;assumption
theorem VS.txt (h:VS v)(s:ByteArray):VS (txt v s):= .mk _ h.a h.p h.k
theorem aC7:∀(v:VN),VS (eR v)
 | v=>by
  rw [lL];refine .mk _ (jR nA _) (jR nP _) fun k hk=>?_;obtain⟨y,hy,s,rfl⟩:=Jk hk;obtain⟨z,hz,rfl⟩:=bW.1 (iP.1 hy).1;exact(aC7 z).txt s
termination_by v=>fG v
decreasing_by
 have:=iH hz;omega
theorem aL7:∀ {v:VN},VB v->VS v->TI (yJ v)
 | v,h,hs=>by
  obtain⟨h1,h2,h3,h4,h5⟩:=h.s;rw [As];split
  .exact .mk _ ⟨⟨cE _,cE _,cE _,cE _⟩,List.Pairwise.nil,List.Pairwise.nil⟩ fun k hk=>by cases hk
  refine .mk _ ⟨⟨h1,h2,h3,by simpa using h4⟩,hs.a,hs.p⟩ fun k hk=>?_;obtain⟨y,hy,rfl⟩:=bW.1 hk;exact aL7 (h.k y hy) (hs.k y hy)
termination_by v=>fG v
decreasing_by
 have:=iH hy;omega
def pI(p:PIC)(i:Nat):List FND:=Az (wT p.now p.kids) (fun w:PDG=>(⟨5,w.job.node⟩:FND)) p.pending i
def pK(p:PIC)(k:Nat):List FND:=Ob (Rl p.tree p.view p.mounted) (Gq p.tree p.pending) p.kids k
def mL(p:PIC):List FND:=pK p p.kids.length++pI p p.pending.length++hkF p.hooks
theorem aSt(p:PIC):pK p 0=Rl p.tree p.view p.mounted:=Ul _ _ _
theorem aJe {p:PIC} {k:Nat} (h:k<p.kids.length):pK p (k+1)=pK p k++Gq p.tree p.pending p.kids[k]:=Bj h
theorem Tx(p:PIC)(k:Nat)(h:k<=p.kids.length):(pK p k).length<=1+3 * k:=Fk _ (Dg _ _ _) (Oy _ _) _ h
theorem aSm(p:PIC):pI p 0= []:=rfl
theorem aCm(p:PIC)(i:Nat):(pI p i).length<=i:=Nc _ _ _ _
theorem aNt {p:PIC} (h:i<p.pending.length)(hp:wT p.now p.kids p.pending[i]=true):pI p (i+1)=pI p i++ [⟨5,p.pending[i].job.node⟩]:=Ox h hp
theorem aPw {p:PIC} (h:i<p.pending.length)(hp:wT p.now p.kids p.pending[i]=false):pI p (i+1)=pI p i:=Wt h hp
abbrev Wn(l:List HE):Prop:=∀σ:List (List D),Ct prog 23 [.sl false (l.map mZ)] σ (fun r σ'=>r= .bool (qO l)/\σ'=σ)
structure PW(p:PIC):Prop where
 t:TI p.tree
 g:iN p.tree=false
 v:VG p.view
 c:fG p.view<=100
 k:p.kids.length<=100
 w:p.pending.length<=100
 h:p.hooks.length<=1000
theorem aFm(p:PIC)(σ:List (List D))(h:PW p):Ct prog 20 [uG p] σ (fun r σ'=>r= .bool (nL p.tree p.view p.mounted)/\σ'=σ):=by
 refine zf func20 ?_;have hto:=aL7 (Fc h.v h.c) (aC7 p.view);have hg:=h.g;refine bT fun _ _ Z=>?_;simp(maxSteps:=999999)(disch:=omega)[hg];apply Z;refine bT fun _ _ Z=>?_;refine zs 2 fun _ Y=>?_;simp(maxSteps:=999999)(disch:=omega)[hg];apply Y;refine aG fun _ Y=>?_;simp(maxSteps:=999999)(disch:=omega)[hg];refine zcm (Mt p.tree h.t _) ?_;rintro _ τ9 ⟨⟨E,hr9,hE9⟩,hs9⟩;subst hr9;subst hs9;have hE:=hE9 hg;have hEI:TI E:=by rw [hE];exact h.t.erase
 apply Y;simp(maxSteps:=999999)(disch:=omega)[hg];apply Z;apply aF;refine bT fun _ _ Z=>?_;simp(maxSteps:=999999)(disch:=omega)[hg];apply Z;refine zI ?_ ?_<;>intro c1<;>try simp at c1
 .refine zk [1,2,3] ?_;refine bT fun _ _ Z=>?_;simp(maxSteps:=999999)(disch:=omega)[hg];and_intros<;>try first|omega|exact rfl
  apply Z;apply aE;have hsf:nL p.tree p.view p.mounted=if p.mounted=true then Kv E.kids [yJ (eR p.view)] else !decide (0<E.kids.length):=by unfold nL;rw [hE]
  rw [c1] at hsf;simp [aP,c1,hsf];rcases E.kids with _ | ⟨a,b⟩ <;> simp
 apply zA;refine zk [1,2,3] ?_;refine zd ⟨[],[],[],[],[]⟩ [.op {},.op {rL:=true},.op {},.op {},.op {},.op {},.op {rL:=true},.op {},.op {},.op {},.op {rL:=true},.pure,.pure,.op {},.op {}] fun all hall _ Z=>?_;have ga4:aQ all 4=some 22:=hall 4;refine iK 5 fun _ Y=>?_;simp(maxSteps:=999999)(disch:=omega)[hg,ga4];and_intros<;>try first|omega|exact rfl
 apply Y;refine zbD 22 ?_ ?_<;>intro g2<;>try simp at g2
 .have hs1:=Wx (l:=E.kids) (o:=yJ (eR p.view)) (by omega);refine iK 6 fun _ Y=>?_;simp(maxSteps:=999999)(disch:=omega)[hg,ga4];and_intros<;>try first|omega|exact rfl
  apply Y;refine zdg ga4 fun _ Y=>?_;simp(maxSteps:=999999)(disch:=omega)[hg,ga4];refine pH (fun _=>(aF0 p.view _ h.v h.c)) ?_;apply Y;refine zdg ga4 fun _ Y=>?_;simp(maxSteps:=999999)(disch:=omega)[hg,ga4];refine pH (fun _=>(Vj (E.kids[0]'(by omega)) (yJ (eR p.view)) (hEI.k _ (bS _)) hto _)) ?_;apply Y;simp(maxSteps:=999999)(disch:=omega)[hg,ga4];apply Z;apply aE;have hsf:nL p.tree p.view p.mounted=if p.mounted=true then Kv E.kids [yJ (eR p.view)] else !decide (0<E.kids.length):=by unfold nL;rw [hE]
  rw [c1] at hsf;simp [aP,c1,hsf,hs1]
 have hs1:=Xa (l:=E.kids) (o:=yJ (eR p.view)) (by omega);refine iK 8 fun _ Y=>?_;simp(maxSteps:=999999)(disch:=omega)[hg,ga4];and_intros<;>try first|omega|exact rfl
 apply Y;simp(maxSteps:=999999)(disch:=omega)[hg,ga4];apply Z;apply aE;have hsf:nL p.tree p.view p.mounted=if p.mounted=true then Kv E.kids [yJ (eR p.view)] else !decide (0<E.kids.length):=by unfold nL;rw [hE]
 rw [c1] at hsf;simp [aP,c1,hsf,hs1]
@[simp] abbrev q34_1:Cfg:=⟨[2,3,11,22,38,50,54],[],[],[],[]⟩
theorem Fp(p:PIC)(σ:List (List D))(h:PW p)(hh:Wn p.hooks):Ct prog 8 [uG p] σ (fun r σ'=>r= .sl true ((mL p).map mC)/\σ'=σ):=by
 refine zf func8 ?_;have hcl:=Dg p.tree p.view p.mounted;have hk:=h.k;have hp:=h.w;have hh1:=h.h;refine zr q34_1 fun _ _ Z=>?_;simp(disch:=omega)[aC,aB];apply Z;refine zr q34_1 fun _ _ Z=>?_;simp(disch:=omega)[aC,aB];apply Z;refine zk [1,2,3] ?_;apply aF;refine iA (fun(_:Unit)=> [(3,.d (.sl true ((Rl p.tree p.view p.mounted).map mC)))]) (fun(_:Unit)=> []) (fun(_:Unit)=> []) [3,8,9,10,11,12,13,14] (fun(_:Unit)=>True) (by simp <;> rfl) ?_ ?_
 .refine zr q34_1 fun _ _ Z=>?_;refine zs 1 fun _ Y=>?_;simp(disch:=omega)[aC,aB];apply Y;refine aG fun _ Y=>?_;simp(disch:=omega)[aC,aB];refine dX (aFm p _ h) ?_;apply Y;simp(disch:=omega)[aC,aB];apply Z;refine zI ?_ ?_<;>intro c1<;>try simp at c1
  .refine zt q34_1 fun _ _ Z=>?_;simp(disch:=omega)[aC,aB];and_intros<;>(try omega);apply Z;refine eQ (()) (trivial) (aU rfl ?_ (by simp) (by simp));simp [jG,Rl, *]
  apply fM;refine eQ (()) (trivial) (aU rfl ?_ (by simp) (by simp));simp [jG,Rl, *]
 rintro - -;simp only [aM,aK,dD,cJ,bK,bN];apply aF;refine zr q34_1 fun _ _ Z=>?_;simp(disch:=omega)[aC,aB];and_intros<;>(try omega);apply Z;apply aN;refine zk [1,2,3,16,17,18] ?_;refine bA (fun(k:Nat)=> [(18,.d (.v (.int .i64 (k:Int)))),(3,.d (.sl true ((pK p k).map mC))),(5,.d (.any))]) [3,5,18,19,20,21,22,23,24,25,26,27] (fun(k:Nat)=>k<=p.kids.length) (fun(k:Nat)=>p.kids.length - k) (0) (by simp <;> rfl) ?_ ?_ ?_
 .simp [aSt]
 .simp
 rintro k hkk;simp only [aM,aK];have hkl:=Tx p k hkk;refine zr q34_1 fun _ _ Z=>?_;simp(disch:=omega)[aC,aB];apply Z;apply aF;refine zI ?_ ?_<;>intro c2<;>try simp at c2
 .have hnx:=aJe (p:=p) c2;apply kL;refine zr q34_1 fun _ _ Z=>?_;simp(disch:=omega)[aC,aB];and_intros<;>(try omega);apply Z;refine zt q34_1 fun _ _ Z=>?_;refine zs 3 fun _ Y=>?_;simp(disch:=omega)[aC,aB];apply Y;refine aG fun _ Y=>?_;simp(disch:=omega)[aC,aB];refine dX (aOw p p.kids[k] _ h.t (by omega)) ?_;have hql:=Oy p.tree p.pending p.kids[k];apply Y;simp(disch:=omega)[aC,aB];and_intros<;>(try omega);apply Z;apply zB;refine zk [1,2,3,5,16,17,18] ?_;refine zt q34_1 fun _ _ Z=>?_;simp(disch:=omega)[aC,aB];and_intros<;>(try omega);apply Z;refine zq (k+1) ?_ ?_ ?_
  .omega
  .try dsimp only
   omega
  simp(disch:=omega)[aC,aB,hnx]
 obtain rfl:k=p.kids.length:=by omega
 apply zE;apply aF;refine zr q34_1 fun _ _ Z=>?_;simp(disch:=omega)[aC,aB];and_intros<;>(try omega);apply Z;apply aN;refine zk [1,2,3,29,30,31] ?_;refine bA (fun(i:Nat)=> [(31,.d (.v (.int .i64 (i:Int)))),(3,.d (.sl true ((pK p p.kids.length++pI p i).map mC))),(7,.d (.any))]) [3,7,31,32,33,34,35,36,37,38,39,40,41,42,43,44,45] (fun(i:Nat)=>i<=p.pending.length) (fun(i:Nat)=>p.pending.length - i) (0) (by simp <;> rfl) ?_ ?_ ?_
 .simp [aSm]
 .simp
 rintro i hi;simp only [aM,aK];have hkl:=Tx p p.kids.length (bG _);have hil:=aCm p i;refine zr q34_1 fun _ _ Z=>?_;simp(disch:=omega)[aC,aB];apply Z;apply aF;refine zI ?_ ?_<;>intro c3<;>try simp at c3
 .have hiw:=c3;apply kL;refine zr q34_1 fun _ _ Z=>?_;simp(disch:=omega)[aC,aB];and_intros<;>(try omega);apply Z;refine zr q34_1 fun _ _ Z=>?_;refine zs 2 fun _ Y=>?_;simp(disch:=omega)[aC,aB];apply Y;refine aG fun _ Y=>?_;simp(disch:=omega)[aC,aB];refine dX (aJu p p.pending[i] _ (by omega)) ?_;apply Y;simp only [fS];apply Z;refine zI ?_ ?_<;>intro c4<;>try simp at c4
  .have hnx:=aNt hiw c4;refine zk [1,2,3,7,29,30,31] ?_;refine zt q34_1 fun _ _ Z=>?_;simp(disch:=omega)[aC,aB];and_intros<;>(try omega);apply Z;apply zB;refine zk [1,2,3,7,29,30,31] ?_;refine zt q34_1 fun _ _ Z=>?_;simp(disch:=omega)[aC,aB];and_intros<;>(try omega);apply Z;refine zq (i+1) ?_ ?_ ?_
   .omega
   .try dsimp only
    omega
   simp(disch:=omega)[aC,aB,hnx]
  have hnx:=aPw hiw c4;apply lP;refine zk [1,2,3,7,29,30,31] ?_;refine zt q34_1 fun _ _ Z=>?_;simp(disch:=omega)[aC,aB];and_intros<;>(try omega);apply Z;refine zq (i+1) ?_ ?_ ?_
  .omega
  .try dsimp only
   omega
  simp(disch:=omega)[aC,aB,hnx]
 obtain rfl:i=p.pending.length:=by omega
 apply zE;refine zk [1,2,3] ?_;apply aF;refine iA (fun(_:Unit)=> [(3,.d (.sl true ((mL p).map mC)))]) (fun(_:Unit)=> []) (fun(_:Unit)=> []) [3,46,47,48,49,50,51,52,53] (fun(_:Unit)=>True) (by simp <;> rfl) ?_ ?_
 .refine zr q34_1 fun _ _ Z=>?_;refine zs 2 fun _ Y=>?_;simp(disch:=omega)[aC,aB];apply Y;refine aG fun _ Y=>?_;simp(disch:=omega)[aC,aB];refine dX (hh _) ?_;apply Y;simp(disch:=omega)[aC,aB];apply Z;refine zI ?_ ?_<;>intro c5<;>try simp at c5
  .refine zt q34_1 fun _ _ Z=>?_;simp(disch:=omega)[aC,aB];and_intros<;>(try omega);apply Z;refine eQ (()) (trivial) (aU rfl ?_ (by simp) (by simp));simp [jG,mL,hkF, *]
  apply fM;refine eQ (()) (trivial) (aU rfl ?_ (by simp) (by simp));simp [jG,mL,hkF, *]
 rintro - -;simp only [aM,aK,dD,cJ,bK,bN];refine zr q34_1 fun _ _ Z=>?_;simp(disch:=omega)[aC,aB];apply Z;apply aE;simp [aP]
end Go.Proofs.YtbdjepeabjangaaGreat

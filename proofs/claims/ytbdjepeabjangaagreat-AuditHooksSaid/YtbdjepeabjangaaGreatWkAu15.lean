import Derived.Test.YtbdjepeabjangaaGreatWkAu13
import Derived.Test.YtbdjepeabjangaaGreatWkAu12
set_option linter.all false
set_option maxRecDepth 20000
set_option maxHeartbeats 8000000
open Go.Proofs.Tryz
namespace Go.Proofs.YtbdjepeabjangaaGreat
open Go Go.Vm
variable {k:Nat}{l:List WAT}
abbrev TF(t:TN):Prop:=(t.styles.length<=4/\eC nP t.styles)/\(t.attrs.length<=4/\eC nA t.attrs)/\t.text.size<=70/\t.classes.length<=4
inductive TG:TN->Prop
 | mk (t:TN) (h:TF t) (hk:∀k∈t.kids,TG k):TG t
theorem aGb(v:VN)(k:Nat)(h:k<v.kids.length):uF v k+fB v.kids[k]+1<=fB v:=by
 have h1:=nT v k h;have h2:=Gr v (k+1);omega
theorem aB1(v:VN):∀k,k<=v.kids.length->k<=uF v k
 | 0,_=>cH _
 | k+1,h=>by
  have h1:=nT v k (by omega);have h2:=aB1 v k (by omega);have h3:=kZ v.kids[k];omega
abbrev aH0(v:VN):Prop:=∀(i:Nat) (σ:List (List D)),i+fB v<=1000000->Ct prog 17 [kM v,D.int i] σ (fun r σ'=>(∃t:TN,r= .tup [iQ t,D.int ((i+fB v:Nat):Int)]/\TG t/\jJ t=fB v)/\σ'=σ)
@[simp] abbrev q35_1:Cfg:=⟨[2,3,12,17],[],[],[],[]⟩
theorem Uo(l:List PI)(σ:List (List D))(hl:l.length<=999999):Ct prog 51 [.sl false (l.map bV)] σ (fun r σ'=>r= .sl true (l.map bV)/\σ'=σ):=by
 refine zf func51 ?_;refine zr q35_1 fun _ _ Z=>?_;simp(disch:=omega);apply Z;refine zr q35_1 fun _ _ Z=>?_;simp(disch:=omega);apply Z;apply aE;refine zr q35_1 fun _ _ Z=>?_;simp(disch:=omega);and_intros<;>(try omega);apply Z;apply aQ;refine zk [2,3,6,7,8] ?_;refine bK (fun(k:Nat)=> [(8,.d (.v (.int .i64 (k:Int)))),(3,.d (.sl true ((tkP l k).map bV))),(5,.d (.any))]) [3,5,8,9,10,11,12,13,14,15,16] (fun(k:Nat)=>k<=l.length) (fun(k:Nat)=>l.length - k) (0) (by simp <;> rfl) ?_ ?_ ?_
 .simp [Rj]
 .simp
 rintro k hk;simp only [aO,aK];have htl:=Ho l k;refine zr q35_1 fun _ _ Z=>?_;simp(disch:=omega);apply Z;apply aE;refine zI ?_ ?_<;>intro c1<;>try simp at c1
 .apply mT;refine zr q35_1 fun _ _ Z=>?_;simp(disch:=omega);and_intros<;>(try omega);apply Z;refine zt q35_1 fun _ _ Z=>?_;simp(disch:=omega);and_intros<;>(try omega);apply Z;apply zB;refine zk [2,3,5,6,7,8] ?_;refine zt q35_1 fun _ _ Z=>?_;simp(disch:=omega);and_intros<;>(try omega);apply Z;refine zq (k+1) ?_ ?_ ?_
  .omega
  .try dsimp only
   omega
  simp(disch:=omega)[Cv]
 obtain rfl:k=l.length:=by omega
 rw [Gs];apply zE;refine zr q35_1 fun _ _ Z=>?_;simp(disch:=omega);apply Z;apply aC;simp [aT]
theorem aA1(v:VN)(i:Nat)(σ:List (List D))(hv:VF v)(hi:i+fB v<=1000000)(ih:∀k∈v.kids,VG k/\aH0 k):Ct prog 17 [kM v,D.int i] σ (fun r σ'=>(∃t:TN,r= .tup [iQ t,D.int ((i+fB v:Nat):Int)]/\TG t/\jJ t=fB v)/\∃J,σ'=σ++J):=by
 refine zf func17 ?_;have hce:=Ko v;have hck:=aB1 v v.kids.length (bD _);have hv1:=hv.1;have hv2:=hv.2.1;have hv3:=hv.2.2.1;refine zr ⟨[62],[],[6],[],[]⟩ fun _ _ Z=>?_;simp(disch:=omega)[aB,aA];apply Z;refine zd ⟨[62],[],[6],[],[]⟩ [.op {},.op {},.op {rL:=true},.op {},.op {},.op {rL:=true},.op {},.op {rL:=true},.op {},.op {},.op {rL:=true},.op {},.op {},.op {rL:=true},.pure,.pure,.op {},.op {rO:=true,wO:=true},.op {rO:=true,wO:=true}] fun all hall _ Z=>?_;refine kY 8 fun _ Y=>?_;simp(disch:=omega)[aB,aA];and_intros<;>(try omega);apply Y;refine kY 6 fun _ Y=>?_;simp(disch:=omega)[aB,aA];and_intros<;>(try omega);apply Y;refine bJ fun _ Y=>?_;simp(disch:=omega)[aB,aA];refine rG (fun _=>(Uo v.styles _ (by omega))) ?_;apply Y;refine bJ fun _ Y=>?_;simp(disch:=omega)[aB,aA];refine rG (fun _=>(Au v.styles _ (by omega))) ?_;apply Y;simp(disch:=omega)[aB,aA];and_intros<;>(try omega);apply Z;apply aE;refine kC σ.length ([D.int i,D.int (min v.kind 2),D.str v.tag,D.str v.text,.sl false (v.classes.map D.str),.sl false (([]).map cD),.sl false ((oX nP v.styles).map bV),.sl true ([])]) (by simp [aB];rfl) (by simp [Ss,D.s1]) ?_;simp only [aA,bZ];refine zk [1,2,4,5,6] ?_;refine zr ⟨[62],[],[6],[],[]⟩ fun _ _ Z=>?_;simp(disch:=omega)[aB,aA];and_intros<;>(try omega);apply Z;apply aQ;refine zk [1,2,4,5,6,31,32,33] ?_;refine fP (fun(k:Nat)=> [(33,.d (.v (.int .i64 (k:Int)))),(8,.d (.any))]) (fun(k:Nat)=> []) (fun(k:Nat)=> [(σ.length, [D.int i,D.int (min v.kind 2),D.str v.tag,D.str v.text,.sl false (v.classes.map D.str),.sl false ((oX nA (v.attrs.take k)).map cD),.sl false ((oX nP v.styles).map bV),.sl true ([])])]) [8,33,34,35,36,37,38,39,40,41,42,43,44,45] (fun(k:Nat)=>k<=v.attrs.length) (fun(k:Nat)=>v.attrs.length - k) (0) (by simp <;> rfl) ?_ (by simp) (by simp [aB,oX]) ?_ ?_
 .simp
 .simp
 rintro k hk;simp only [aO,aK,eM,dS,bZ,cN];have hol:=lZ nA (v.attrs.take k);simp only [bB] at hol;refine zr ⟨[62],[],[6],[],[]⟩ fun _ _ Z=>?_;simp(disch:=omega)[aB,aA];apply Z;apply aE;refine zI ?_ ?_<;>intro c1<;>try simp at c1
 .apply mT;refine zr ⟨[62],[],[6],[],[]⟩ fun _ _ Z=>?_;simp(disch:=omega)[aB,aA];and_intros<;>(try omega);apply Z;refine zk [1,2,4,5,6,8,31,32,33] ?_;refine zt ⟨[62],[],[6],[],[]⟩ fun _ _ Z=>?_;refine zs 6 fun _ Y=>?_;simp(disch:=omega)[aB,aA];apply Y;refine aD fun _ Y=>?_;simp(disch:=omega)[aB,aA];refine eH (aHe (oX nA (v.attrs.take k)) v.attrs[k].name v.attrs[k].value _ (by omega) (jV nA _)) ?_;apply Y;simp(disch:=omega)[aB,aA];apply Z;apply zB;refine zk [1,2,4,5,6,8,31,32,33] ?_;refine zt ⟨[62],[],[6],[],[]⟩ fun _ _ Z=>?_;simp(disch:=omega)[aB,aA];and_intros<;>(try omega);apply Z;refine eL (k+1) ?_ ?_ (bT rfl ?_ (by simp) (by simp [Ay, *]))
  .omega
  .try dsimp only
   omega
  simp(disch:=omega)[aB,aA]
 obtain rfl:k=v.attrs.length:=by omega
 rw [gC];apply zE;refine zr ⟨[62],[],[6],[],[]⟩ fun _ _ Z=>?_;simp(disch:=omega)[aB,aA];and_intros<;>(try omega);apply Z;apply aE;refine zk [1,2,4,5,6] ?_;refine zr ⟨[62],[],[6],[],[]⟩ fun _ _ Z=>?_;simp(disch:=omega)[aB,aA];and_intros<;>(try omega);apply Z;apply aQ;refine zk [1,4,5,6,49,50,51] ?_;refine fP (fun(p:List TN×Nat)=> [(51,.d (.v (.int .i64 (p.2:Int)))),(1,.d (.v (.int .i64 ((i+1+uF v p.2):Int)))),(10,.d (.any)),(11,.d (.any)),(12,.d (.any))]) (fun(p:List TN×Nat)=> []) (fun(p:List TN×Nat)=> [(σ.length, [D.int i,D.int (min v.kind 2),D.str v.tag,D.str v.text,.sl false (v.classes.map D.str),.sl false ((oX nA v.attrs).map cD),.sl false ((oX nP v.styles).map bV),.sl true (p.1.map mQ)])]) [1,10,11,12,51,52,53,54,55,56,57,58,59,60,61,62,63,64,65,66,67,68] (fun(p:List TN×Nat)=>p.2<=v.kids.length/\(∀t∈p.1,TG t)/\(p.1.map jJ).sum=uF v p.2/\p.1.length<=p.2) (fun(p:List TN×Nat)=>v.kids.length - p.2) (([],0)) (by simp <;> rfl) ?_ (by simp) (by simp [aB]) ?_ ?_
 .simp [Ni]
 .simp [Ni]
 rintro⟨ts,j⟩ ⟨h1,h2,h3,h4⟩;simp only [aO,aK,eM,dS,bZ,cN];dsimp only at h1 h2 h3 h4;have hlt:=aGb v j;refine zr ⟨[62],[],[6],[],[]⟩ fun _ _ Z=>?_;simp(disch:=omega)[aB,aA];apply Z;apply aE;refine zI ?_ ?_<;>intro c2<;>try simp at c2
 .apply mT;refine zr ⟨[62],[],[6],[],[]⟩ fun _ _ Z=>?_;simp(disch:=omega)[aB,aA];and_intros<;>(try omega);apply Z;refine zk [1,4,5,6,10,11,12,49,50,51] ?_;refine zr ⟨[62],[],[6],[],[]⟩ fun _ _ Z=>?_;refine zs 2 fun _ Y=>?_;simp(disch:=omega)[aB,aA];apply Y;refine aD fun _ Y=>?_;simp(disch:=omega)[aB,aA];refine Xl ((ih v.kids[j] (cR _)).2 (i+1+uF v j) _ (by have:=hlt (by assumption);omega)) ?_;rintro _ τ1 ⟨⟨u,hr,hu,hcu⟩,hτ⟩;subst hr hτ;apply Y;simp(disch:=omega)[aB,aA];apply Z;refine zk [1,4,5,6,10,11,12,49,50,51] ?_;refine zr ⟨[62],[],[6],[],[]⟩ fun _ _ Z=>?_;simp(disch:=omega)[aB,aA];and_intros<;>(try omega);apply Z;refine zk [1,4,5,6,10,11,12,49,50,51] ?_;refine zt ⟨[62],[],[6],[],[]⟩ fun _ _ Z=>?_;simp(disch:=omega)[aB,aA];apply Z;apply zB;refine zk [1,4,5,6,10,11,12,49,50,51] ?_;refine zt ⟨[62],[],[6],[],[]⟩ fun _ _ Z=>?_;simp(disch:=omega)[aB,aA];and_intros<;>(try omega);apply Z;refine zq ((ts++ [u],j+1)) ?_ ?_ ?_
  .refine⟨by omega,fun t ht=>?_,?_,?_⟩
   .rcases dZ.1 ht with ht | ht
    .exact h2 t ht
    rw [iM.1 ht];exact hu
   .simp only [dC,tL,fM,nN,nR,List.sum_nil,nT v j (by assumption)];omega
   simp;omega
  .try dsimp only
   omega
  simp(disch:=omega)[aB,aA,nT v j (by omega),Int.add_assoc]
 obtain rfl:j=v.kids.length:=by omega
 apply zE;refine zr ⟨[62],[],[6],[],[]⟩ fun _ _ Z=>?_;simp(disch:=omega)[aB,aA];apply Z;apply aC;simp [aT];refine⟨⟨i,min v.kind 2,v.tag,v.text,v.classes,oX nA v.attrs,oX nP v.styles,ts⟩,?_,?_,?_⟩
 .simp;omega
 .exact .mk _ ⟨⟨dJ (lZ nP v.styles) hv3,jV nP _⟩,⟨dJ (lZ nA v.attrs) hv2,jV nA _⟩,hv.2.2.2.1,hv.1⟩ h2
 rw [tQ];simp only [];omega
theorem aG2 {v:VN} (h:VG v):aH0 v:=by
 induction h with
 | mk v h hk ih =>
  exact fun i σ hi=>(aA1 v i σ h hi (fun k hk'=>⟨hk k hk',ih k hk'⟩)).trim fun r σ' ⟨⟨t,hr,hg,hc⟩,J,hs⟩=>⟨σ,J,hs,rfl,by
   rw [hr];exact Sc.tup fun d hd=>by
    simp only [fQ,kA,kD] at hd;rcases hd with rfl | rfl
    .exact Ju _ t
    exact Sc.v _,fun n cs h=> .inl h,⟨t,hr,hg,hc⟩,rfl⟩
@[simp] abbrev cT:ByteArray:=⟨#[114,111,111,116]⟩
@[simp] abbrev dF(t:TN):TN:=⟨0,2,cT,⟨#[]⟩, [], [], [], [t]⟩
def Mg(l:List KD)(k:Nat):List KD:=l.take k
theorem aLn(l:List KD):Mg l 0= []:=rfl
theorem aCj(l:List KD)(k:Nat)(h:k<l.length):Mg l (k+1)=Mg l k++ [l[k]]:=bM l k h
theorem Qn(l:List KD)(k:Nat):(Mg l k).length<=k:=by unfold Mg;rw [bB];omega
theorem aFh {l:List KD} (h:l.length<=k)(hk:k<=10):Mg l k=Mg l 10:=by unfold Mg;rw [bW h,bW (by omega)]
def Xj(l:List WAT)(k:Nat):List WAT:=l.take k
theorem aBh(l:List WAT):Xj l 0= []:=rfl
theorem Jk(l:List WAT)(k:Nat)(h:k<l.length):Xj l (k+1)=Xj l k++ [l[k]]:=bM l k h
theorem Ri(l:List WAT)(k:Nat):(Xj l k).length<=k:=by unfold Xj;rw [bB];omega
theorem Qh (h:l.length<=k)(hk:k<=10):Xj l k=Xj l 10:=by unfold Xj;rw [bW h,bW (by omega)]
def toP(w:WAT)(i:Nat):PDG:=⟨⟨w.frame,(i:Int)+1⟩,⟨w.kind,w.node⟩,w.left,w.deadline⟩
def Vg(l:List WAT)(k:Nat):List PDG:=(l.take k).zipIdx.map fun q=>toP q.1 q.2
theorem aA2(l:List WAT):Vg l 0= []:=rfl
theorem Lq(l:List WAT)(k:Nat)(h:k<l.length):Vg l (k+1)=Vg l k++ [toP l[k] k]:=by
 unfold Vg;rw [bM l k h,List.zipIdx_append,dC];simp;rw [iA (by omega)]
theorem Ip(l:List WAT)(k:Nat):(Vg l k).length<=k:=by unfold Vg;simp;omega
theorem Rf (h:l.length<=k)(hk:k<=10):Vg l k=Vg l 10:=by unfold Vg;rw [bW h,bW (by omega)]
def Dg(d:DRW)(t:TN)(v:VN):PIC:=⟨dF t,v,d.mounted,d.now,Mg d.kids 10,Vg d.pending 10,mK d.hooks 12⟩
def Tj(d:DRW)(t:TN)(v:VN):RPC:=⟨dF t,v,d.mounted,d.now,Mg d.kids 10,Xj d.pending 10,mK d.hooks 12⟩
theorem aFn {t:TN} (h:TB t):TB (dF t):= .mk _ ⟨cH _,cH _,cH _,by show [t].length<=9999;simp⟩ fun k hk=>by
 simp [dF] at hk;subst hk;exact h
theorem aEr {t:TN} (h:TI t):TI (dF t):= .mk _ ⟨⟨cH _,cH _,cH _,by show [t].length<=9999;simp⟩,List.Pairwise.nil,List.Pairwise.nil⟩ fun k hk=>by
 simp [dF] at hk;subst hk;exact h
theorem aC7:∀ {t:TN},TG t->jJ t<=9999->TI t
 | t, h, hc => by
  cases h with
  | mk _ h hk=>
   obtain⟨⟨h1,h2⟩,⟨h3,h4⟩,h5,h6⟩:=h;have hl:=Kg t;exact .mk _ ⟨⟨by omega,by omega,by omega,by omega⟩,h4,h2⟩ fun k hk'=>aC7 (hk k hk') (by have:=jR hk';omega)
termination_by t=>jJ t
decreasing_by
 have:=jR hk';omega
def Xz(d:DRW)(r:D):Prop:=∃(t:TN) (v:VN),TG t/\jJ t<=25/\VG v/\fB v<=25/\r= .tup [rN (Dg d t v),aHu (Tj d t v)]
theorem Al {d:DRW} {r:D} (t:TN)(v:VN)(h1:TG t)(h2:jJ t<=25)(h3:VG v)(h4:fB v<=25)(h:r= .tup [rN (Dg d t v),aHu (Tj d t v)]):Xz d r:=⟨t,v,h1,h2,h3,h4,h⟩
abbrev DOk(d:DRW):Prop:=(d.tree.length<=9223372036854775807/\∀f∈d.tree,FO f)/\(d.view.length<=9223372036854775807/\∀f∈d.view,FO f)/\d.kids.length<=9223372036854775807/\d.pending.length<=9223372036854775807/\d.hooks.length<=9223372036854775807
@[simp] abbrev q35_2:Cfg:=⟨[64,82,108,128],[],[10,11],[],[]⟩
theorem Yv(d:DRW)(σ:List (List D))(h:DOk d):Ct prog 6 [Ry d] σ (fun r σ'=>(r.plain=true/\Xz d r.strip)/\∃J,σ'=σ++J):=by
 refine zf func6 ?_;obtain⟨⟨h1,h2⟩,⟨h3,h4⟩,h5,h6,h7⟩:=h;refine zr q35_2 fun _ _ Z=>?_;simp(disch:=omega)[aI,aF,aB,aA,dF,cT];apply Z;refine zr q35_2 fun _ _ Z=>?_;refine zs 2 fun _ Y=>?_;simp(disch:=omega)[aI,aF,aB,aA,dF,cT];apply Y;refine aD fun _ Y=>?_;simp(disch:=omega)[aI,aF,aB,aA,dF,cT];refine Xl (Ak d.view 8 _ (by omega) h3 h4) ?_;rintro _ τ1 ⟨⟨v,hr1,hv,hvc⟩,hτ1⟩;subst hr1;replace hτ1:=hτ1.symm;subst hτ1;apply Y;simp(disch:=omega)[aI,aF,aB,aA,dF,cT];apply Z;refine zr q35_2 fun _ _ Z=>?_;refine zs 2 fun _ Y=>?_;simp(disch:=omega)[aI,aF,aB,aA,dF,cT];apply Y;refine aD fun _ Y=>?_;simp(disch:=omega)[aI,aF,aB,aA,dF,cT];refine Xl (Ak d.tree 12 _ (by omega) h1 h2) ?_;rintro _ τ2 ⟨⟨v2,hr2,hv2,hvc2⟩,hτ2⟩;subst hr2;replace hτ2:=hτ2.symm;subst hτ2;apply Y;refine aD fun _ Y=>?_;simp(disch:=omega)[aI,aF,aB,aA,dF,cT];refine Xl (aG2 hv2 1 _ (by omega)) ?_;rintro _ τ3 ⟨⟨t,hr3,htg,htc⟩,hτ3⟩;subst hr3;replace hτ3:=hτ3.symm;subst hτ3;have hti:=aC7 htg (by omega);apply Y;simp(disch:=omega)[aI,aF,aB,aA,dF,cT];apply Z;refine zk [1,2,3,4,5] ?_;refine zr q35_2 fun _ _ Z=>?_;simp(disch:=omega)[aI,aF,aB,aA,dF,cT];and_intros<;>(try omega);apply Z;refine zr q35_2 fun _ _ Z=>?_;refine zs 2 fun _ Y=>?_;simp(disch:=omega)[aI,aF,aB,aA,dF,cT];apply Y;refine aD fun _ Y=>?_;simp(disch:=omega)[aI,aF,aB,aA,dF,cT];refine eH (Lw d.hooks 12 _ h7 (by omega)) ?_;apply Y;simp(disch:=omega)[aI,aF,aB,aA,dF,cT];apply Z;refine zk [1,2,3,4,7,8,9] ?_;refine zd q35_2 [.op {rL:=true},.op {rL:=true},.pure,.op {},.op {rL:=true},.op {},.op {rL:=true},.op {},.op {},.op {rO:=true,wO:=true},.op {rO:=true,wO:=true}] fun all hall _ Z=>?_;refine kY 2 fun _ Y=>?_;simp(disch:=omega)[aI,aF,aB,aA,dF,cT];apply Y;refine bJ fun _ Y=>?_;simp(disch:=omega)[aI,aF,aB,aA,dF,cT];refine rG (fun _=>(Rq v hv (by omega) _)) ?_;apply Y;simp(disch:=omega)[aI,aF,aB,aA,dF,cT];and_intros<;>(try omega);apply Z;refine zk [1,2,3,4,7,9,10] ?_;refine zd q35_2 [.op {rL:=true},.pure,.op {rL:=true},.op {},.op {rL:=true},.op {},.op {rL:=true},.op {},.op {},.op {rO:=true,wO:=true},.op {rO:=true,wO:=true}] fun all hall _ Z=>?_;refine kY 1 fun _ Y=>?_;simp(disch:=omega)[aI,aF,aB,aA,dF,cT];apply Y;refine bJ fun _ Y=>?_;simp(disch:=omega)[aI,aF,aB,aA,dF,cT];refine rG (fun _=>(Qq (dF t) (aFn hti.b) _)) ?_;apply Y;refine kY 8 fun _ Y=>?_;simp(disch:=omega)[aI,aF,aB,aA,dF,cT];and_intros<;>(try omega);apply Y;simp(disch:=omega)[aI,aF,aB,aA,dF,cT];apply Z;apply aE;refine zk [1,2,3,10,11] ?_;refine zr q35_2 fun _ _ Z=>?_;simp(disch:=omega)[aI,aF,aB,aA,dF,cT];apply Z;apply aQ;refine zk [1,2,3,10,11,12] ?_;refine fP (fun(k:Nat)=> [(12,.d (.v (.int .i64 (k:Int))))]) (fun(k:Nat)=> []) (fun(k:Nat)=> [(σ.length, [D.int 0,D.int 2,D.str cT,D.str ⟨#[]⟩,.sl false [],.sl false [],.sl false [],.sl false [mQ t],D.int v.kind,D.str v.tag,D.str v.key,D.str v.text,.sl false (v.classes.map D.str),.sl false (v.attrs.map cD),.sl false (v.styles.map bV),D.int v.opts.enter,D.int v.opts.leave,D.int v.opts.move,D.int v.opts.mode,D.bool v.opts.appear,D.bool v.opts.moves,.sl false (v.kids.map kJ),D.bool d.mounted,D.int d.now,.sl true ((Mg d.kids k).map pG),.sl true ((Vg d.pending 0).map Gg),.sl false ((mK d.hooks 12).map lI)]),((σ.length+1), [D.int 0,D.int 2,D.str cT,D.str ⟨#[]⟩,.sl false [],.sl false [],.sl false [],.sl false [mQ t],D.int v.kind,D.str v.tag,D.str v.key,D.str v.text,.sl false (v.classes.map D.str),.sl false (v.attrs.map cD),.sl false (v.styles.map bV),D.int v.opts.enter,D.int v.opts.leave,D.int v.opts.move,D.int v.opts.mode,D.bool v.opts.appear,D.bool v.opts.moves,.sl false (v.kids.map kJ),D.bool d.mounted,D.int d.now,.sl true ((Mg d.kids k).map pG),.sl true ((Xj d.pending 0).map vS),.sl false ((mK d.hooks 12).map lI)])]) [12,52,53,54,55,56,57,58,59,60,61,62,63,64,65,66,67,68,69,70,71,72,73,74,75,76,77,78,79,80,81,82,83,84,85,86,87,88,89,90] (fun(k:Nat)=>k<=d.kids.length/\k<=10) (fun(k:Nat)=>d.kids.length - k) (0) (by simp <;> rfl) ?_ (by simp) (by simp [aB,aLn,aA2,aBh,cT]) ?_ ?_
 .simp
 .simp
 rintro k ⟨hk,hk2⟩;simp only [aO,aK,eM,dS,bZ,cN];have hkl:=Qn d.kids k;apply aE;refine vJ q35_2 fun all hall _ Z=>?_;have ga5:aY all 5=some 57:=hall 5;refine zs 6 fun _ Y=>?_;simp(disch:=omega)[aI,aF,aB,aA,dF,cT,ga5];and_intros<;>(try omega);apply Y;refine zb 57 ?_ ?_<;>intro g1<;>try simp at g1
 .simp(disch:=omega)[aI,aF,aB,aA,dF,cT,ga5];apply Z;refine zI ?_ ?_<;>intro c2<;>try simp at c2
  .apply mT;refine zk [1,2,3,10,11,12] ?_;refine zd q35_2 [.op {},.op {rO:=true,wO:=true},.op {},.op {rL:=true},.op {},.op {},.op {},.op {},.op {},.op {rL:=true},.op {},.op {},.op {},.op {},.op {},.op {},.op {},.op {},.op {rO:=true,wO:=true}] fun all hall _ Z=>?_;refine kY 8 fun _ Y=>?_;simp(disch:=omega)[aI,aF,aB,aA,dF,cT];and_intros<;>(try omega);apply Y;refine kY 8 fun _ Y=>?_;simp(disch:=omega)[aI,aF,aB,aA,dF,cT];and_intros<;>(try omega);apply Y;simp(disch:=omega)[aI,aF,aB,aA,dF,cT];and_intros<;>(try omega);apply Z;refine zk [1,2,3,10,11,12] ?_;refine ze q35_2 [.op {},.op {rO:=true,wO:=true},.op {},.op {rL:=true},.op {},.op {},.op {},.op {},.op {},.op {},.op {rO:=true,wO:=true}] fun all hall _ Z=>?_;refine kY 8 fun _ Y=>?_;simp(disch:=omega)[aI,aF,aB,aA,dF,cT];and_intros<;>(try omega);apply Y;simp(disch:=omega)[aI,aF,aB,aA,dF,cT];and_intros<;>(try omega);apply Z;apply zB;refine zk [1,2,3,10,11,12] ?_;refine zt q35_2 fun _ _ Z=>?_;simp(disch:=omega)[aI,aF,aB,aA,dF,cT];and_intros<;>(try omega);apply Z;refine eL (k+1) ?_ ?_ (bT rfl ?_ (by simp) (by simp [aCj, *]))
   .omega
   .try dsimp only
    omega
   simp(disch:=omega)[aI,aF,aB,aA,dF,cT]
  obtain rfl:k=10:=by omega
  apply zE;apply aE;refine zk [1,2,3,10,11] ?_;refine zr q35_2 fun _ _ Z=>?_;simp(disch:=omega)[aI,aF,aB,aA,dF,cT];apply Z;apply aQ;refine zk [1,2,3,10,11,13] ?_;refine fP (fun(i:Nat)=> [(13,.d (.v (.int .i64 (i:Int)))),(14,.d (.any))]) (fun(i:Nat)=> []) (fun(i:Nat)=> [(σ.length, [D.int 0,D.int 2,D.str cT,D.str ⟨#[]⟩,.sl false [],.sl false [],.sl false [],.sl false [mQ t],D.int v.kind,D.str v.tag,D.str v.key,D.str v.text,.sl false (v.classes.map D.str),.sl false (v.attrs.map cD),.sl false (v.styles.map bV),D.int v.opts.enter,D.int v.opts.leave,D.int v.opts.move,D.int v.opts.mode,D.bool v.opts.appear,D.bool v.opts.moves,.sl false (v.kids.map kJ),D.bool d.mounted,D.int d.now,.sl true ((Mg d.kids 10).map pG),.sl true ((Vg d.pending i).map Gg),.sl false ((mK d.hooks 12).map lI)]),((σ.length+1), [D.int 0,D.int 2,D.str cT,D.str ⟨#[]⟩,.sl false [],.sl false [],.sl false [],.sl false [mQ t],D.int v.kind,D.str v.tag,D.str v.key,D.str v.text,.sl false (v.classes.map D.str),.sl false (v.attrs.map cD),.sl false (v.styles.map bV),D.int v.opts.enter,D.int v.opts.leave,D.int v.opts.move,D.int v.opts.mode,D.bool v.opts.appear,D.bool v.opts.moves,.sl false (v.kids.map kJ),D.bool d.mounted,D.int d.now,.sl true ((Mg d.kids 10).map pG),.sl true ((Xj d.pending i).map vS),.sl false ((mK d.hooks 12).map lI)])]) [13,14,91,92,93,94,95,96,97,98,99,100,101,102,103,104,105,106,107,108,109,110,111,112,113,114,115,116,117,118,119,120,121,122,123,124,125,126,127,128,129,130,131,132] (fun(i:Nat)=>i<=d.pending.length/\i<=10) (fun(i:Nat)=>d.pending.length - i) (0) (by simp <;> rfl) ?_ (by simp) (by simp [aB,aA2,aBh]) ?_ ?_
  .simp
  .simp
  rintro i ⟨hi,hi2⟩;simp only [aO,aK,eM,dS,bZ,cN];have hpl:=Ip d.pending i;have hwl:=Ri d.pending i;apply aE;refine vJ q35_2 fun all hall _ Z=>?_;have ga5:aY all 5=some 96:=hall 5;refine zs 6 fun _ Y=>?_;simp(disch:=omega)[aI,aF,aB,aA,dF,cT,ga5];and_intros<;>(try omega);apply Y;refine zb 96 ?_ ?_<;>intro g3<;>try simp at g3
  .simp(disch:=omega)[aI,aF,aB,aA,dF,cT,ga5];apply Z;refine zI ?_ ?_<;>intro c4<;>try simp at c4
   .apply mT;refine zk [1,2,3,10,11,13,14] ?_;refine zr q35_2 fun _ _ Z=>?_;simp(disch:=omega)[aI,aF,aB,aA,dF,cT];and_intros<;>(try omega);apply Z;refine zk [1,2,3,10,11,13,14] ?_;refine zr q35_2 fun _ _ Z=>?_;refine zs 8 fun _ Y=>?_;simp(disch:=omega)[aI,aF,aB,aA,dF,cT];and_intros<;>(try omega);apply Y;refine zs 8 fun _ Y=>?_;simp(disch:=omega)[aI,aF,aB,aA,dF,cT];apply Y;simp(disch:=omega)[aI,aF,aB,aA,dF,cT];and_intros<;>(try omega);apply Z;refine zk [1,2,3,10,11,13,14] ?_;refine zt q35_2 fun _ _ Z=>?_;simp(disch:=omega)[aI,aF,aB,aA,dF,cT];and_intros<;>(try omega);apply Z;apply zB;refine zk [1,2,3,10,11,13,14] ?_;refine zt q35_2 fun _ _ Z=>?_;simp(disch:=omega)[aI,aF,aB,aA,dF,cT];and_intros<;>(try omega);apply Z;refine eL (i+1) ?_ ?_ (bT rfl ?_ (by simp) (by simp [Lq,Jk,toP, *]))
    .omega
    .try dsimp only
     omega
    simp(disch:=omega)[aI,aF,aB,aA,dF,cT]
   obtain rfl:i=10:=by omega
   apply zE;refine zk [2,3,10,11] ?_;refine zd q35_2 [.op {rO:=true},.op {rO:=true},.op {rL:=true,wL:=true},.op {rL:=true,wL:=true}] fun all hall _ Z=>?_;simp(disch:=omega)[aI,aF,aB,aA,dF,cT];apply Z;apply aC;simp [aT];exact Al t v htg (by omega) hv hvc (by simp [Dg,Tj])
  rw [Rf g3 hi2,Qh g3 hi2];simp(disch:=omega)[aI,aF,aB,aA,dF,cT,ga5];apply Z;refine cJ (t:=false) (by simp) (fun h=>by cases h) (fun _=>?_);apply zE;refine zk [2,3,10,11] ?_;refine zd q35_2 [.op {rO:=true},.op {rO:=true},.op {rL:=true,wL:=true},.op {rL:=true,wL:=true}] fun all hall _ Z=>?_;simp(disch:=omega)[aI,aF,aB,aA,dF,cT];apply Z;apply aC;simp [aT];exact Al t v htg (by omega) hv hvc (by simp [Dg,Tj])
 rw [aFh g1 hk2];simp(disch:=omega)[aI,aF,aB,aA,dF,cT,ga5];apply Z;refine cJ (t:=false) (by simp) (fun h=>by cases h) (fun _=>?_);apply zE;apply aE;refine zk [1,2,3,10,11] ?_;refine zr q35_2 fun _ _ Z=>?_;simp(disch:=omega)[aI,aF,aB,aA,dF,cT];apply Z;apply aQ;refine zk [1,2,3,10,11,13] ?_;refine fP (fun(i:Nat)=> [(13,.d (.v (.int .i64 (i:Int)))),(14,.d (.any))]) (fun(i:Nat)=> []) (fun(i:Nat)=> [(σ.length, [D.int 0,D.int 2,D.str cT,D.str ⟨#[]⟩,.sl false [],.sl false [],.sl false [],.sl false [mQ t],D.int v.kind,D.str v.tag,D.str v.key,D.str v.text,.sl false (v.classes.map D.str),.sl false (v.attrs.map cD),.sl false (v.styles.map bV),D.int v.opts.enter,D.int v.opts.leave,D.int v.opts.move,D.int v.opts.mode,D.bool v.opts.appear,D.bool v.opts.moves,.sl false (v.kids.map kJ),D.bool d.mounted,D.int d.now,.sl true ((Mg d.kids 10).map pG),.sl true ((Vg d.pending i).map Gg),.sl false ((mK d.hooks 12).map lI)]),((σ.length+1), [D.int 0,D.int 2,D.str cT,D.str ⟨#[]⟩,.sl false [],.sl false [],.sl false [],.sl false [mQ t],D.int v.kind,D.str v.tag,D.str v.key,D.str v.text,.sl false (v.classes.map D.str),.sl false (v.attrs.map cD),.sl false (v.styles.map bV),D.int v.opts.enter,D.int v.opts.leave,D.int v.opts.move,D.int v.opts.mode,D.bool v.opts.appear,D.bool v.opts.moves,.sl false (v.kids.map kJ),D.bool d.mounted,D.int d.now,.sl true ((Mg d.kids 10).map pG),.sl true ((Xj d.pending i).map vS),.sl false ((mK d.hooks 12).map lI)])]) [13,14,91,92,93,94,95,96,97,98,99,100,101,102,103,104,105,106,107,108,109,110,111,112,113,114,115,116,117,118,119,120,121,122,123,124,125,126,127,128,129,130,131,132] (fun(i:Nat)=>i<=d.pending.length/\i<=10) (fun(i:Nat)=>d.pending.length - i) (0) (by simp <;> rfl) ?_ (by simp) (by simp [aB,aA2,aBh]) ?_ ?_
 .simp
 .simp
 rintro i ⟨hi,hi2⟩;simp only [aO,aK,eM,dS,bZ,cN];have hpl:=Ip d.pending i;have hwl:=Ri d.pending i;apply aE;refine vJ q35_2 fun all hall _ Z=>?_;have ga5:aY all 5=some 96:=hall 5;refine zs 6 fun _ Y=>?_;simp(disch:=omega)[aI,aF,aB,aA,dF,cT,ga5];and_intros<;>(try omega);apply Y;refine zb 96 ?_ ?_<;>intro g5<;>try simp at g5
 .simp(disch:=omega)[aI,aF,aB,aA,dF,cT,ga5];apply Z;refine zI ?_ ?_<;>intro c6<;>try simp at c6
  .apply mT;refine zk [1,2,3,10,11,13,14] ?_;refine zr q35_2 fun _ _ Z=>?_;simp(disch:=omega)[aI,aF,aB,aA,dF,cT];and_intros<;>(try omega);apply Z;refine zk [1,2,3,10,11,13,14] ?_;refine zr q35_2 fun _ _ Z=>?_;refine zs 8 fun _ Y=>?_;simp(disch:=omega)[aI,aF,aB,aA,dF,cT];and_intros<;>(try omega);apply Y;refine zs 8 fun _ Y=>?_;simp(disch:=omega)[aI,aF,aB,aA,dF,cT];apply Y;simp(disch:=omega)[aI,aF,aB,aA,dF,cT];and_intros<;>(try omega);apply Z;refine zk [1,2,3,10,11,13,14] ?_;refine zt q35_2 fun _ _ Z=>?_;simp(disch:=omega)[aI,aF,aB,aA,dF,cT];and_intros<;>(try omega);apply Z;apply zB;refine zk [1,2,3,10,11,13,14] ?_;refine zt q35_2 fun _ _ Z=>?_;simp(disch:=omega)[aI,aF,aB,aA,dF,cT];and_intros<;>(try omega);apply Z;refine eL (i+1) ?_ ?_ (bT rfl ?_ (by simp) (by simp [Lq,Jk,toP, *]))
   .omega
   .try dsimp only
    omega
   simp(disch:=omega)[aI,aF,aB,aA,dF,cT]
  obtain rfl:i=10:=by omega
  apply zE;refine zk [2,3,10,11] ?_;refine zd q35_2 [.op {rO:=true},.op {rO:=true},.op {rL:=true,wL:=true},.op {rL:=true,wL:=true}] fun all hall _ Z=>?_;simp(disch:=omega)[aI,aF,aB,aA,dF,cT];apply Z;apply aC;simp [aT];exact Al t v htg (by omega) hv hvc (by simp [Dg,Tj])
 rw [Rf g5 hi2,Qh g5 hi2];simp(disch:=omega)[aI,aF,aB,aA,dF,cT,ga5];apply Z;refine cJ (t:=false) (by simp) (fun h=>by cases h) (fun _=>?_);apply zE;refine zk [2,3,10,11] ?_;refine zd q35_2 [.op {rO:=true},.op {rO:=true},.op {rL:=true,wL:=true},.op {rL:=true,wL:=true}] fun all hall _ Z=>?_;simp(disch:=omega)[aI,aF,aB,aA,dF,cT];apply Z;apply aC;simp [aT];exact Al t v htg (by omega) hv hvc (by simp [Dg,Tj])
theorem aGq(d:DRW)(σ:List (List D))(h:DOk d):Ct prog 6 [Ry d] σ (fun r σ'=>Xz d r/\∃J,σ'=σ++J):=(Yv d σ h).strip fun r σ' h=>⟨h.1.1,h.1.2,h.2⟩
end Go.Proofs.YtbdjepeabjangaaGreat

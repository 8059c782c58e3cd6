import Derived.Test.YtbdjepeabjangaaGreatWkAu13
import Derived.Test.YtbdjepeabjangaaGreatWkAu12
set_option linter.all false
set_option maxRecDepth 20000
set_option maxHeartbeats 8000000
open Go.Proofs.Tryz
namespace Go.Proofs.YtbdjepeabjangaaGreat
open Go Go.Vm
variable {k:Nat}{l:List WAT}
abbrev TF(t:TN):Prop:=(t.styles.length<=4/\eE nP t.styles)/\(t.attrs.length<=4/\eE nA t.attrs)/\t.text.size<=70/\t.classes.length<=4
inductive TG:TN->Prop
 | mk (t:TN) (h:TF t) (hk:∀k∈t.kids,TG k):TG t
theorem aId(v:VN)(k:Nat)(h:k<v.kids.length):Aa v k+fG v.kids[k]+1<=fG v:=by
 have h1:=vD v k h;have h2:=aJy v (k+1);omega
theorem aCk(v:VN):∀k,k<=v.kids.length->k<=Aa v k
 | 0,_=>cE _
 | k+1,h=>by
  have h1:=vD v k (by omega);have h2:=aCk v k (by omega);have h3:=nS v.kids[k];omega
abbrev aL8(v:VN):Prop:=∀(i:Nat) (σ:List (List D)),i+fG v<=1000000->Ct prog 17 [jN v,D.int i] σ (fun r σ'=>(∃t:TN,r= .tup [fU t,D.int ((i+fG v:Nat):Int)]/\TG t/\jF t=fG v)/\σ'=σ)
@[simp] abbrev q35_1:Cfg:=⟨[2,3,12,17],[],[],[],[]⟩
theorem aBm(l:List PI)(σ:List (List D))(hl:l.length<=999999):Ct prog 51 [.sl false (l.map bY)] σ (fun r σ'=>r= .sl true (l.map bY)/\σ'=σ):=by
 refine zf func51 ?_;refine zr q35_1 fun _ _ Z=>?_;simp(disch:=omega);apply Z;refine zr q35_1 fun _ _ Z=>?_;simp(disch:=omega);apply Z;apply aF;refine zr q35_1 fun _ _ Z=>?_;simp(disch:=omega);and_intros<;>(try omega);apply Z;apply aN;refine zk [2,3,6,7,8] ?_;refine bA (fun(k:Nat)=> [(8,.d (.v (.int .i64 (k:Int)))),(3,.d (.sl true ((tkP l k).map bY))),(5,.d (.any))]) [3,5,8,9,10,11,12,13,14,15,16] (fun(k:Nat)=>k<=l.length) (fun(k:Nat)=>l.length - k) (0) (by simp <;> rfl) ?_ ?_ ?_
 .simp [Wm]
 .simp
 rintro k hk;simp only [aM,aK];have htl:=Kn l k;refine zr q35_1 fun _ _ Z=>?_;simp(disch:=omega);apply Z;apply aF;refine zI ?_ ?_<;>intro c1<;>try simp at c1
 .apply kL;refine zr q35_1 fun _ _ Z=>?_;simp(disch:=omega);and_intros<;>(try omega);apply Z;refine zt q35_1 fun _ _ Z=>?_;simp(disch:=omega);and_intros<;>(try omega);apply Z;apply zB;refine zk [2,3,5,6,7,8] ?_;refine zt q35_1 fun _ _ Z=>?_;simp(disch:=omega);and_intros<;>(try omega);apply Z;refine zq (k+1) ?_ ?_ ?_
  .omega
  .try dsimp only
   omega
  simp(disch:=omega)[Fe]
 obtain rfl:k=l.length:=by omega
 rw [Kf];apply zE;refine zr q35_1 fun _ _ Z=>?_;simp(disch:=omega);apply Z;apply aE;simp [aP]
theorem aFo(v:VN)(i:Nat)(σ:List (List D))(hv:VF v)(hi:i+fG v<=1000000)(ih:∀k∈v.kids,VG k/\aL8 k):Ct prog 17 [jN v,D.int i] σ (fun r σ'=>(∃t:TN,r= .tup [fU t,D.int ((i+fG v:Nat):Int)]/\TG t/\jF t=fG v)/\∃J,σ'=σ++J):=by
 refine zf func17 ?_;have hce:=aEl v;have hck:=aCk v v.kids.length (bG _);have hv1:=hv.1;have hv2:=hv.2.1;have hv3:=hv.2.2.1;refine zr ⟨[62],[],[6],[],[]⟩ fun _ _ Z=>?_;simp(disch:=omega)[aD,aA];apply Z;refine zd ⟨[62],[],[6],[],[]⟩ [.op {},.op {},.op {rL:=true},.op {},.op {},.op {rL:=true},.op {},.op {rL:=true},.op {},.op {},.op {rL:=true},.op {},.op {},.op {rL:=true},.pure,.pure,.op {},.op {rO:=true,wO:=true},.op {rO:=true,wO:=true}] fun all hall _ Z=>?_;refine iK 8 fun _ Y=>?_;simp(disch:=omega)[aD,aA];and_intros<;>(try omega);apply Y;refine iK 6 fun _ Y=>?_;simp(disch:=omega)[aD,aA];and_intros<;>(try omega);apply Y;refine bJ fun _ Y=>?_;simp(disch:=omega)[aD,aA];refine pH (fun _=>(aBm v.styles _ (by omega))) ?_;apply Y;refine bJ fun _ Y=>?_;simp(disch:=omega)[aD,aA];refine pH (fun _=>(De v.styles _ (by omega))) ?_;apply Y;simp(disch:=omega)[aD,aA];and_intros<;>(try omega);apply Z;apply aF;refine lB σ.length ([D.int i,D.int (min v.kind 2),D.str v.tag,D.str v.text,.sl false (v.classes.map D.str),.sl false (([]).map cH),.sl false ((jD nP v.styles).map bY),.sl true ([])]) (by simp [aD];rfl) (by simp [leC,D.s1]) ?_;simp only [aA,bK];refine zk [1,2,4,5,6] ?_;refine zr ⟨[62],[],[6],[],[]⟩ fun _ _ Z=>?_;simp(disch:=omega)[aD,aA];and_intros<;>(try omega);apply Z;apply aN;refine zk [1,2,4,5,6,31,32,33] ?_;refine eO (fun(k:Nat)=> [(33,.d (.v (.int .i64 (k:Int)))),(8,.d (.any))]) (fun(k:Nat)=> []) (fun(k:Nat)=> [(σ.length, [D.int i,D.int (min v.kind 2),D.str v.tag,D.str v.text,.sl false (v.classes.map D.str),.sl false ((jD nA (v.attrs.take k)).map cH),.sl false ((jD nP v.styles).map bY),.sl true ([])])]) [8,33,34,35,36,37,38,39,40,41,42,43,44,45] (fun(k:Nat)=>k<=v.attrs.length) (fun(k:Nat)=>v.attrs.length - k) (0) (by simp <;> rfl) ?_ (by simp) (by simp [aD,jD]) ?_ ?_
 .simp
 .simp
 rintro k hk;simp only [aM,aK,dD,cJ,bK,bN];have hol:=lO nA (v.attrs.take k);simp only [bF] at hol;refine zr ⟨[62],[],[6],[],[]⟩ fun _ _ Z=>?_;simp(disch:=omega)[aD,aA];apply Z;apply aF;refine zI ?_ ?_<;>intro c1<;>try simp at c1
 .apply kL;refine zr ⟨[62],[],[6],[],[]⟩ fun _ _ Z=>?_;simp(disch:=omega)[aD,aA];and_intros<;>(try omega);apply Z;refine zk [1,2,4,5,6,8,31,32,33] ?_;refine zt ⟨[62],[],[6],[],[]⟩ fun _ _ Z=>?_;refine zs 6 fun _ Y=>?_;simp(disch:=omega)[aD,aA];apply Y;refine aG fun _ Y=>?_;simp(disch:=omega)[aD,aA];refine dX (aJr (jD nA (v.attrs.take k)) v.attrs[k].name v.attrs[k].value _ (by omega) (jR nA _)) ?_;apply Y;simp(disch:=omega)[aD,aA];apply Z;apply zB;refine zk [1,2,4,5,6,8,31,32,33] ?_;refine zt ⟨[62],[],[6],[],[]⟩ fun _ _ Z=>?_;simp(disch:=omega)[aD,aA];and_intros<;>(try omega);apply Z;refine cQ (k+1) ?_ ?_ (aU rfl ?_ (by simp) (by simp [xW, *]))
  .omega
  .try dsimp only
   omega
  simp(disch:=omega)[aD,aA]
 obtain rfl:k=v.attrs.length:=by omega
 rw [dY];apply zE;refine zr ⟨[62],[],[6],[],[]⟩ fun _ _ Z=>?_;simp(disch:=omega)[aD,aA];and_intros<;>(try omega);apply Z;apply aF;refine zk [1,2,4,5,6] ?_;refine zr ⟨[62],[],[6],[],[]⟩ fun _ _ Z=>?_;simp(disch:=omega)[aD,aA];and_intros<;>(try omega);apply Z;apply aN;refine zk [1,4,5,6,49,50,51] ?_;refine eO (fun(p:List TN×Nat)=> [(51,.d (.v (.int .i64 (p.2:Int)))),(1,.d (.v (.int .i64 ((i+1+Aa v p.2):Int)))),(10,.d (.any)),(11,.d (.any)),(12,.d (.any))]) (fun(p:List TN×Nat)=> []) (fun(p:List TN×Nat)=> [(σ.length, [D.int i,D.int (min v.kind 2),D.str v.tag,D.str v.text,.sl false (v.classes.map D.str),.sl false ((jD nA v.attrs).map cH),.sl false ((jD nP v.styles).map bY),.sl true (p.1.map mK)])]) [1,10,11,12,51,52,53,54,55,56,57,58,59,60,61,62,63,64,65,66,67,68] (fun(p:List TN×Nat)=>p.2<=v.kids.length/\(∀t∈p.1,TG t)/\(p.1.map jF).sum=Aa v p.2/\p.1.length<=p.2) (fun(p:List TN×Nat)=>v.kids.length - p.2) (([],0)) (by simp <;> rfl) ?_ (by simp) (by simp [aD]) ?_ ?_
 .simp [aD8]
 .simp [aD8]
 rintro⟨ts,j⟩ ⟨h1,h2,h3,h4⟩;simp only [aM,aK,dD,cJ,bK,bN];dsimp only at h1 h2 h3 h4;have hlt:=aId v j;refine zr ⟨[62],[],[6],[],[]⟩ fun _ _ Z=>?_;simp(disch:=omega)[aD,aA];apply Z;apply aF;refine zI ?_ ?_<;>intro c2<;>try simp at c2
 .apply kL;refine zr ⟨[62],[],[6],[],[]⟩ fun _ _ Z=>?_;simp(disch:=omega)[aD,aA];and_intros<;>(try omega);apply Z;refine zk [1,4,5,6,10,11,12,49,50,51] ?_;refine zr ⟨[62],[],[6],[],[]⟩ fun _ _ Z=>?_;refine zs 2 fun _ Y=>?_;simp(disch:=omega)[aD,aA];apply Y;refine aG fun _ Y=>?_;simp(disch:=omega)[aD,aA];refine zcm ((ih v.kids[j] (bS _)).2 (i+1+Aa v j) _ (by have:=hlt (by assumption);omega)) ?_;rintro _ τ1 ⟨⟨u,hr,hu,hcu⟩,hτ⟩;subst hr hτ;apply Y;simp(disch:=omega)[aD,aA];apply Z;refine zk [1,4,5,6,10,11,12,49,50,51] ?_;refine zr ⟨[62],[],[6],[],[]⟩ fun _ _ Z=>?_;simp(disch:=omega)[aD,aA];and_intros<;>(try omega);apply Z;refine zk [1,4,5,6,10,11,12,49,50,51] ?_;refine zt ⟨[62],[],[6],[],[]⟩ fun _ _ Z=>?_;simp(disch:=omega)[aD,aA];apply Z;apply zB;refine zk [1,4,5,6,10,11,12,49,50,51] ?_;refine zt ⟨[62],[],[6],[],[]⟩ fun _ _ Z=>?_;simp(disch:=omega)[aD,aA];and_intros<;>(try omega);apply Z;refine zq ((ts++ [u],j+1)) ?_ ?_ ?_
  .refine⟨by omega,fun t ht=>?_,?_,?_⟩
   .rcases dZ.1 ht with ht | ht
    .exact h2 t ht
    rw [iW.1 ht];exact hu
   .simp only [cX,vC,eW,nI,pO,List.sum_nil,vD v j (by assumption)];omega
   simp;omega
  .try dsimp only
   omega
  simp(disch:=omega)[aD,aA,vD v j (by omega),Int.add_assoc]
 obtain rfl:j=v.kids.length:=by omega
 apply zE;refine zr ⟨[62],[],[6],[],[]⟩ fun _ _ Z=>?_;simp(disch:=omega)[aD,aA];apply Z;apply aE;simp [aP];refine⟨⟨i,min v.kind 2,v.tag,v.text,v.classes,jD nA v.attrs,jD nP v.styles,ts⟩,?_,?_,?_⟩
 .simp;omega
 .exact .mk _ ⟨⟨cZ (lO nP v.styles) hv3,jR nP _⟩,⟨cZ (lO nA v.attrs) hv2,jR nA _⟩,hv.2.2.2.1,hv.1⟩ h2
 rw [vI];simp only [];omega
theorem aJl {v:VN} (h:VG v):aL8 v:=by
 induction h with
 | mk v h hk ih =>
  exact fun i σ hi=>(aFo v i σ h hi (fun k hk'=>⟨hk k hk',ih k hk'⟩)).trim fun r σ' ⟨⟨t,hr,hg,hc⟩,J,hs⟩=>⟨σ,J,hs,rfl,by
   rw [hr];exact Sc.tup fun d hd=>by
    simp only [gA,lF,lC] at hd;rcases hd with rfl | rfl
    .exact Fm _ t
    exact Sc.v _,fun n cs h=> .inl h,⟨t,hr,hg,hc⟩,rfl⟩
@[simp] abbrev dC:ByteArray:=⟨#[114,111,111,116]⟩
@[simp] abbrev dL(t:TN):TN:=⟨0,2,dC,⟨#[]⟩, [], [], [], [t]⟩
def Qq(l:List KD)(k:Nat):List KD:=l.take k
theorem aRk(l:List KD):Qq l 0= []:=rfl
theorem aFc(l:List KD)(k:Nat)(h:k<l.length):Qq l (k+1)=Qq l k++ [l[k]]:=bB l k h
theorem Kz(l:List KD)(k:Nat):(Qq l k).length<=k:=by unfold Qq;rw [bF];omega
theorem aIc {l:List KD} (h:l.length<=k)(hk:k<=10):Qq l k=Qq l 10:=by unfold Qq;rw [bZ h,bZ (by omega)]
def Wq(l:List WAT)(k:Nat):List WAT:=l.take k
theorem aFk(l:List WAT):Wq l 0= []:=rfl
theorem Ew(l:List WAT)(k:Nat)(h:k<l.length):Wq l (k+1)=Wq l k++ [l[k]]:=bB l k h
theorem Kt(l:List WAT)(k:Nat):(Wq l k).length<=k:=by unfold Wq;rw [bF];omega
theorem Ma (h:l.length<=k)(hk:k<=10):Wq l k=Wq l 10:=by unfold Wq;rw [bZ h,bZ (by omega)]
def toP(w:WAT)(i:Nat):PDG:=⟨⟨w.frame,(i:Int)+1⟩,⟨w.kind,w.node⟩,w.left,w.deadline⟩
def Tp(l:List WAT)(k:Nat):List PDG:=(l.take k).zipIdx.map fun q=>toP q.1 q.2
theorem aG8(l:List WAT):Tp l 0= []:=rfl
theorem Fw(l:List WAT)(k:Nat)(h:k<l.length):Tp l (k+1)=Tp l k++ [toP l[k] k]:=by
 unfold Tp;rw [bB l k h,List.zipIdx_append,cX];simp;rw [iR (by omega)]
theorem Kp(l:List WAT)(k:Nat):(Tp l k).length<=k:=by unfold Tp;simp;omega
theorem Lm (h:l.length<=k)(hk:k<=10):Tp l k=Tp l 10:=by unfold Tp;rw [bZ h,bZ (by omega)]
def zN(d:DRW)(t:TN)(v:VN):PIC:=⟨dL t,v,d.mounted,d.now,Qq d.kids 10,Tp d.pending 10,oM d.hooks 12⟩
def Ly(d:DRW)(t:TN)(v:VN):RPC:=⟨dL t,v,d.mounted,d.now,Qq d.kids 10,Wq d.pending 10,oM d.hooks 12⟩
theorem aIt {t:TN} (h:TB t):TB (dL t):= .mk _ ⟨cE _,cE _,cE _,by show [t].length<=9999;simp⟩ fun k hk=>by
 simp [dL] at hk;subst hk;exact h
theorem Lh {t:TN} (h:TI t):TI (dL t):= .mk _ ⟨⟨cE _,cE _,cE _,by show [t].length<=9999;simp⟩,List.Pairwise.nil,List.Pairwise.nil⟩ fun k hk=>by
 simp [dL] at hk;subst hk;exact h
theorem Qi:∀ {t:TN},TG t->jF t<=9999->TI t
 | t, h, hc => by
  cases h with
  | mk _ h hk=>
   obtain⟨⟨h1,h2⟩,⟨h3,h4⟩,h5,h6⟩:=h;have hl:=Nf t;exact .mk _ ⟨⟨by omega,by omega,by omega,by omega⟩,h4,h2⟩ fun k hk'=>Qi (hk k hk') (by have:=iX hk';omega)
termination_by t=>jF t
decreasing_by
 have:=iX hk';omega
def aCa(d:DRW)(r:D):Prop:=∃(t:TN) (v:VN),TG t/\jF t<=25/\VG v/\fG v<=25/\r= .tup [uG (zN d t v),Hh (Ly d t v)]
theorem Do {d:DRW} {r:D} (t:TN)(v:VN)(h1:TG t)(h2:jF t<=25)(h3:VG v)(h4:fG v<=25)(h:r= .tup [uG (zN d t v),Hh (Ly d t v)]):aCa d r:=⟨t,v,h1,h2,h3,h4,h⟩
abbrev DOk(d:DRW):Prop:=(d.tree.length<=9223372036854775807/\∀f∈d.tree,FO f)/\(d.view.length<=9223372036854775807/\∀f∈d.view,FO f)/\d.kids.length<=9223372036854775807/\d.pending.length<=9223372036854775807/\d.hooks.length<=9223372036854775807
@[simp] abbrev q35_2:Cfg:=⟨[64,82,108,128],[],[10,11],[],[]⟩
theorem aDb(d:DRW)(σ:List (List D))(h:DOk d):Ct prog 6 [Wo d] σ (fun r σ'=>(r.plain=true/\aCa d r.strip)/\∃J,σ'=σ++J):=by
 refine zf func6 ?_;obtain⟨⟨h1,h2⟩,⟨h3,h4⟩,h5,h6,h7⟩:=h;refine zr q35_2 fun _ _ Z=>?_;simp(disch:=omega)[aL,aI,aD,aA,dL,dC];apply Z;refine zr q35_2 fun _ _ Z=>?_;refine zs 2 fun _ Y=>?_;simp(disch:=omega)[aL,aI,aD,aA,dL,dC];apply Y;refine aG fun _ Y=>?_;simp(disch:=omega)[aL,aI,aD,aA,dL,dC];refine zcm (Vw d.view 8 _ (by omega) h3 h4) ?_;rintro _ τ1 ⟨⟨v,hr1,hv,hvc⟩,hτ1⟩;subst hr1;replace hτ1:=hτ1.symm;subst hτ1;apply Y;simp(disch:=omega)[aL,aI,aD,aA,dL,dC];apply Z;refine zr q35_2 fun _ _ Z=>?_;refine zs 2 fun _ Y=>?_;simp(disch:=omega)[aL,aI,aD,aA,dL,dC];apply Y;refine aG fun _ Y=>?_;simp(disch:=omega)[aL,aI,aD,aA,dL,dC];refine zcm (Vw d.tree 12 _ (by omega) h1 h2) ?_;rintro _ τ2 ⟨⟨v2,hr2,hv2,hvc2⟩,hτ2⟩;subst hr2;replace hτ2:=hτ2.symm;subst hτ2;apply Y;refine aG fun _ Y=>?_;simp(disch:=omega)[aL,aI,aD,aA,dL,dC];refine zcm (aJl hv2 1 _ (by omega)) ?_;rintro _ τ3 ⟨⟨t,hr3,htg,htc⟩,hτ3⟩;subst hr3;replace hτ3:=hτ3.symm;subst hτ3;have hti:=Qi htg (by omega);apply Y;simp(disch:=omega)[aL,aI,aD,aA,dL,dC];apply Z;refine zk [1,2,3,4,5] ?_;refine zr q35_2 fun _ _ Z=>?_;simp(disch:=omega)[aL,aI,aD,aA,dL,dC];and_intros<;>(try omega);apply Z;refine zr q35_2 fun _ _ Z=>?_;refine zs 2 fun _ Y=>?_;simp(disch:=omega)[aL,aI,aD,aA,dL,dC];apply Y;refine aG fun _ Y=>?_;simp(disch:=omega)[aL,aI,aD,aA,dL,dC];refine dX (aGh d.hooks 12 _ h7 (by omega)) ?_;apply Y;simp(disch:=omega)[aL,aI,aD,aA,dL,dC];apply Z;refine zk [1,2,3,4,7,8,9] ?_;refine zd q35_2 [.op {rL:=true},.op {rL:=true},.pure,.op {},.op {rL:=true},.op {},.op {rL:=true},.op {},.op {},.op {rO:=true,wO:=true},.op {rO:=true,wO:=true}] fun all hall _ Z=>?_;refine iK 2 fun _ Y=>?_;simp(disch:=omega)[aL,aI,aD,aA,dL,dC];apply Y;refine bJ fun _ Y=>?_;simp(disch:=omega)[aL,aI,aD,aA,dL,dC];refine pH (fun _=>(Vo v hv (by omega) _)) ?_;apply Y;simp(disch:=omega)[aL,aI,aD,aA,dL,dC];and_intros<;>(try omega);apply Z;refine zk [1,2,3,4,7,9,10] ?_;refine zd q35_2 [.op {rL:=true},.pure,.op {rL:=true},.op {},.op {rL:=true},.op {},.op {rL:=true},.op {},.op {},.op {rO:=true,wO:=true},.op {rO:=true,wO:=true}] fun all hall _ Z=>?_;refine iK 1 fun _ Y=>?_;simp(disch:=omega)[aL,aI,aD,aA,dL,dC];apply Y;refine bJ fun _ Y=>?_;simp(disch:=omega)[aL,aI,aD,aA,dL,dC];refine pH (fun _=>(Wf (dL t) (aIt hti.b) _)) ?_;apply Y;refine iK 8 fun _ Y=>?_;simp(disch:=omega)[aL,aI,aD,aA,dL,dC];and_intros<;>(try omega);apply Y;simp(disch:=omega)[aL,aI,aD,aA,dL,dC];apply Z;apply aF;refine zk [1,2,3,10,11] ?_;refine zr q35_2 fun _ _ Z=>?_;simp(disch:=omega)[aL,aI,aD,aA,dL,dC];apply Z;apply aN;refine zk [1,2,3,10,11,12] ?_;refine eO (fun(k:Nat)=> [(12,.d (.v (.int .i64 (k:Int))))]) (fun(k:Nat)=> []) (fun(k:Nat)=> [(σ.length, [D.int 0,D.int 2,D.str dC,D.str ⟨#[]⟩,.sl false [],.sl false [],.sl false [],.sl false [mK t],D.int v.kind,D.str v.tag,D.str v.key,D.str v.text,.sl false (v.classes.map D.str),.sl false (v.attrs.map cH),.sl false (v.styles.map bY),D.int v.opts.enter,D.int v.opts.leave,D.int v.opts.move,D.int v.opts.mode,D.bool v.opts.appear,D.bool v.opts.moves,.sl false (v.kids.map jO),D.bool d.mounted,D.int d.now,.sl true ((Qq d.kids k).map qX),.sl true ((Tp d.pending 0).map Ie),.sl false ((oM d.hooks 12).map mZ)]),((σ.length+1), [D.int 0,D.int 2,D.str dC,D.str ⟨#[]⟩,.sl false [],.sl false [],.sl false [],.sl false [mK t],D.int v.kind,D.str v.tag,D.str v.key,D.str v.text,.sl false (v.classes.map D.str),.sl false (v.attrs.map cH),.sl false (v.styles.map bY),D.int v.opts.enter,D.int v.opts.leave,D.int v.opts.move,D.int v.opts.mode,D.bool v.opts.appear,D.bool v.opts.moves,.sl false (v.kids.map jO),D.bool d.mounted,D.int d.now,.sl true ((Qq d.kids k).map qX),.sl true ((Wq d.pending 0).map zC),.sl false ((oM d.hooks 12).map mZ)])]) [12,52,53,54,55,56,57,58,59,60,61,62,63,64,65,66,67,68,69,70,71,72,73,74,75,76,77,78,79,80,81,82,83,84,85,86,87,88,89,90] (fun(k:Nat)=>k<=d.kids.length/\k<=10) (fun(k:Nat)=>d.kids.length - k) (0) (by simp <;> rfl) ?_ (by simp) (by simp [aD,aRk,aG8,aFk,dC]) ?_ ?_
 .simp
 .simp
 rintro k ⟨hk,hk2⟩;simp only [aM,aK,dD,cJ,bK,bN];have hkl:=Kz d.kids k;apply aF;refine oL q35_2 fun all hall _ Z=>?_;have ga5:aQ all 5=some 57:=hall 5;refine zs 6 fun _ Y=>?_;simp(disch:=omega)[aL,aI,aD,aA,dL,dC,ga5];and_intros<;>(try omega);apply Y;refine zb 57 ?_ ?_<;>intro g1<;>try simp at g1
 .simp(disch:=omega)[aL,aI,aD,aA,dL,dC,ga5];apply Z;refine zI ?_ ?_<;>intro c2<;>try simp at c2
  .apply kL;refine zk [1,2,3,10,11,12] ?_;refine zd q35_2 [.op {},.op {rO:=true,wO:=true},.op {},.op {rL:=true},.op {},.op {},.op {},.op {},.op {},.op {rL:=true},.op {},.op {},.op {},.op {},.op {},.op {},.op {},.op {},.op {rO:=true,wO:=true}] fun all hall _ Z=>?_;refine iK 8 fun _ Y=>?_;simp(disch:=omega)[aL,aI,aD,aA,dL,dC];and_intros<;>(try omega);apply Y;refine iK 8 fun _ Y=>?_;simp(disch:=omega)[aL,aI,aD,aA,dL,dC];and_intros<;>(try omega);apply Y;simp(disch:=omega)[aL,aI,aD,aA,dL,dC];and_intros<;>(try omega);apply Z;refine zk [1,2,3,10,11,12] ?_;refine ze q35_2 [.op {},.op {rO:=true,wO:=true},.op {},.op {rL:=true},.op {},.op {},.op {},.op {},.op {},.op {},.op {rO:=true,wO:=true}] fun all hall _ Z=>?_;refine iK 8 fun _ Y=>?_;simp(disch:=omega)[aL,aI,aD,aA,dL,dC];and_intros<;>(try omega);apply Y;simp(disch:=omega)[aL,aI,aD,aA,dL,dC];and_intros<;>(try omega);apply Z;apply zB;refine zk [1,2,3,10,11,12] ?_;refine zt q35_2 fun _ _ Z=>?_;simp(disch:=omega)[aL,aI,aD,aA,dL,dC];and_intros<;>(try omega);apply Z;refine cQ (k+1) ?_ ?_ (aU rfl ?_ (by simp) (by simp [aFc, *]))
   .omega
   .try dsimp only
    omega
   simp(disch:=omega)[aL,aI,aD,aA,dL,dC]
  obtain rfl:k=10:=by omega
  apply zE;apply aF;refine zk [1,2,3,10,11] ?_;refine zr q35_2 fun _ _ Z=>?_;simp(disch:=omega)[aL,aI,aD,aA,dL,dC];apply Z;apply aN;refine zk [1,2,3,10,11,13] ?_;refine eO (fun(i:Nat)=> [(13,.d (.v (.int .i64 (i:Int)))),(14,.d (.any))]) (fun(i:Nat)=> []) (fun(i:Nat)=> [(σ.length, [D.int 0,D.int 2,D.str dC,D.str ⟨#[]⟩,.sl false [],.sl false [],.sl false [],.sl false [mK t],D.int v.kind,D.str v.tag,D.str v.key,D.str v.text,.sl false (v.classes.map D.str),.sl false (v.attrs.map cH),.sl false (v.styles.map bY),D.int v.opts.enter,D.int v.opts.leave,D.int v.opts.move,D.int v.opts.mode,D.bool v.opts.appear,D.bool v.opts.moves,.sl false (v.kids.map jO),D.bool d.mounted,D.int d.now,.sl true ((Qq d.kids 10).map qX),.sl true ((Tp d.pending i).map Ie),.sl false ((oM d.hooks 12).map mZ)]),((σ.length+1), [D.int 0,D.int 2,D.str dC,D.str ⟨#[]⟩,.sl false [],.sl false [],.sl false [],.sl false [mK t],D.int v.kind,D.str v.tag,D.str v.key,D.str v.text,.sl false (v.classes.map D.str),.sl false (v.attrs.map cH),.sl false (v.styles.map bY),D.int v.opts.enter,D.int v.opts.leave,D.int v.opts.move,D.int v.opts.mode,D.bool v.opts.appear,D.bool v.opts.moves,.sl false (v.kids.map jO),D.bool d.mounted,D.int d.now,.sl true ((Qq d.kids 10).map qX),.sl true ((Wq d.pending i).map zC),.sl false ((oM d.hooks 12).map mZ)])]) [13,14,91,92,93,94,95,96,97,98,99,100,101,102,103,104,105,106,107,108,109,110,111,112,113,114,115,116,117,118,119,120,121,122,123,124,125,126,127,128,129,130,131,132] (fun(i:Nat)=>i<=d.pending.length/\i<=10) (fun(i:Nat)=>d.pending.length - i) (0) (by simp <;> rfl) ?_ (by simp) (by simp [aD,aG8,aFk]) ?_ ?_
  .simp
  .simp
  rintro i ⟨hi,hi2⟩;simp only [aM,aK,dD,cJ,bK,bN];have hpl:=Kp d.pending i;have hwl:=Kt d.pending i;apply aF;refine oL q35_2 fun all hall _ Z=>?_;have ga5:aQ all 5=some 96:=hall 5;refine zs 6 fun _ Y=>?_;simp(disch:=omega)[aL,aI,aD,aA,dL,dC,ga5];and_intros<;>(try omega);apply Y;refine zb 96 ?_ ?_<;>intro g3<;>try simp at g3
  .simp(disch:=omega)[aL,aI,aD,aA,dL,dC,ga5];apply Z;refine zI ?_ ?_<;>intro c4<;>try simp at c4
   .apply kL;refine zk [1,2,3,10,11,13,14] ?_;refine zr q35_2 fun _ _ Z=>?_;simp(disch:=omega)[aL,aI,aD,aA,dL,dC];and_intros<;>(try omega);apply Z;refine zk [1,2,3,10,11,13,14] ?_;refine zr q35_2 fun _ _ Z=>?_;refine zs 8 fun _ Y=>?_;simp(disch:=omega)[aL,aI,aD,aA,dL,dC];and_intros<;>(try omega);apply Y;refine zs 8 fun _ Y=>?_;simp(disch:=omega)[aL,aI,aD,aA,dL,dC];apply Y;simp(disch:=omega)[aL,aI,aD,aA,dL,dC];and_intros<;>(try omega);apply Z;refine zk [1,2,3,10,11,13,14] ?_;refine zt q35_2 fun _ _ Z=>?_;simp(disch:=omega)[aL,aI,aD,aA,dL,dC];and_intros<;>(try omega);apply Z;apply zB;refine zk [1,2,3,10,11,13,14] ?_;refine zt q35_2 fun _ _ Z=>?_;simp(disch:=omega)[aL,aI,aD,aA,dL,dC];and_intros<;>(try omega);apply Z;refine cQ (i+1) ?_ ?_ (aU rfl ?_ (by simp) (by simp [Fw,Ew,toP, *]))
    .omega
    .try dsimp only
     omega
    simp(disch:=omega)[aL,aI,aD,aA,dL,dC]
   obtain rfl:i=10:=by omega
   apply zE;refine zk [2,3,10,11] ?_;refine zd q35_2 [.op {rO:=true},.op {rO:=true},.op {rL:=true,wL:=true},.op {rL:=true,wL:=true}] fun all hall _ Z=>?_;simp(disch:=omega)[aL,aI,aD,aA,dL,dC];apply Z;apply aE;simp [aP];exact Do t v htg (by omega) hv hvc (by simp [zN,Ly])
  rw [Lm g3 hi2,Ma g3 hi2];simp(disch:=omega)[aL,aI,aD,aA,dL,dC,ga5];apply Z;refine aY (t:=false) (by simp) (fun h=>by cases h) (fun _=>?_);apply zE;refine zk [2,3,10,11] ?_;refine zd q35_2 [.op {rO:=true},.op {rO:=true},.op {rL:=true,wL:=true},.op {rL:=true,wL:=true}] fun all hall _ Z=>?_;simp(disch:=omega)[aL,aI,aD,aA,dL,dC];apply Z;apply aE;simp [aP];exact Do t v htg (by omega) hv hvc (by simp [zN,Ly])
 rw [aIc g1 hk2];simp(disch:=omega)[aL,aI,aD,aA,dL,dC,ga5];apply Z;refine aY (t:=false) (by simp) (fun h=>by cases h) (fun _=>?_);apply zE;apply aF;refine zk [1,2,3,10,11] ?_;refine zr q35_2 fun _ _ Z=>?_;simp(disch:=omega)[aL,aI,aD,aA,dL,dC];apply Z;apply aN;refine zk [1,2,3,10,11,13] ?_;refine eO (fun(i:Nat)=> [(13,.d (.v (.int .i64 (i:Int)))),(14,.d (.any))]) (fun(i:Nat)=> []) (fun(i:Nat)=> [(σ.length, [D.int 0,D.int 2,D.str dC,D.str ⟨#[]⟩,.sl false [],.sl false [],.sl false [],.sl false [mK t],D.int v.kind,D.str v.tag,D.str v.key,D.str v.text,.sl false (v.classes.map D.str),.sl false (v.attrs.map cH),.sl false (v.styles.map bY),D.int v.opts.enter,D.int v.opts.leave,D.int v.opts.move,D.int v.opts.mode,D.bool v.opts.appear,D.bool v.opts.moves,.sl false (v.kids.map jO),D.bool d.mounted,D.int d.now,.sl true ((Qq d.kids 10).map qX),.sl true ((Tp d.pending i).map Ie),.sl false ((oM d.hooks 12).map mZ)]),((σ.length+1), [D.int 0,D.int 2,D.str dC,D.str ⟨#[]⟩,.sl false [],.sl false [],.sl false [],.sl false [mK t],D.int v.kind,D.str v.tag,D.str v.key,D.str v.text,.sl false (v.classes.map D.str),.sl false (v.attrs.map cH),.sl false (v.styles.map bY),D.int v.opts.enter,D.int v.opts.leave,D.int v.opts.move,D.int v.opts.mode,D.bool v.opts.appear,D.bool v.opts.moves,.sl false (v.kids.map jO),D.bool d.mounted,D.int d.now,.sl true ((Qq d.kids 10).map qX),.sl true ((Wq d.pending i).map zC),.sl false ((oM d.hooks 12).map mZ)])]) [13,14,91,92,93,94,95,96,97,98,99,100,101,102,103,104,105,106,107,108,109,110,111,112,113,114,115,116,117,118,119,120,121,122,123,124,125,126,127,128,129,130,131,132] (fun(i:Nat)=>i<=d.pending.length/\i<=10) (fun(i:Nat)=>d.pending.length - i) (0) (by simp <;> rfl) ?_ (by simp) (by simp [aD,aG8,aFk]) ?_ ?_
 .simp
 .simp
 rintro i ⟨hi,hi2⟩;simp only [aM,aK,dD,cJ,bK,bN];have hpl:=Kp d.pending i;have hwl:=Kt d.pending i;apply aF;refine oL q35_2 fun all hall _ Z=>?_;have ga5:aQ all 5=some 96:=hall 5;refine zs 6 fun _ Y=>?_;simp(disch:=omega)[aL,aI,aD,aA,dL,dC,ga5];and_intros<;>(try omega);apply Y;refine zb 96 ?_ ?_<;>intro g5<;>try simp at g5
 .simp(disch:=omega)[aL,aI,aD,aA,dL,dC,ga5];apply Z;refine zI ?_ ?_<;>intro c6<;>try simp at c6
  .apply kL;refine zk [1,2,3,10,11,13,14] ?_;refine zr q35_2 fun _ _ Z=>?_;simp(disch:=omega)[aL,aI,aD,aA,dL,dC];and_intros<;>(try omega);apply Z;refine zk [1,2,3,10,11,13,14] ?_;refine zr q35_2 fun _ _ Z=>?_;refine zs 8 fun _ Y=>?_;simp(disch:=omega)[aL,aI,aD,aA,dL,dC];and_intros<;>(try omega);apply Y;refine zs 8 fun _ Y=>?_;simp(disch:=omega)[aL,aI,aD,aA,dL,dC];apply Y;simp(disch:=omega)[aL,aI,aD,aA,dL,dC];and_intros<;>(try omega);apply Z;refine zk [1,2,3,10,11,13,14] ?_;refine zt q35_2 fun _ _ Z=>?_;simp(disch:=omega)[aL,aI,aD,aA,dL,dC];and_intros<;>(try omega);apply Z;apply zB;refine zk [1,2,3,10,11,13,14] ?_;refine zt q35_2 fun _ _ Z=>?_;simp(disch:=omega)[aL,aI,aD,aA,dL,dC];and_intros<;>(try omega);apply Z;refine cQ (i+1) ?_ ?_ (aU rfl ?_ (by simp) (by simp [Fw,Ew,toP, *]))
   .omega
   .try dsimp only
    omega
   simp(disch:=omega)[aL,aI,aD,aA,dL,dC]
  obtain rfl:i=10:=by omega
  apply zE;refine zk [2,3,10,11] ?_;refine zd q35_2 [.op {rO:=true},.op {rO:=true},.op {rL:=true,wL:=true},.op {rL:=true,wL:=true}] fun all hall _ Z=>?_;simp(disch:=omega)[aL,aI,aD,aA,dL,dC];apply Z;apply aE;simp [aP];exact Do t v htg (by omega) hv hvc (by simp [zN,Ly])
 rw [Lm g5 hi2,Ma g5 hi2];simp(disch:=omega)[aL,aI,aD,aA,dL,dC,ga5];apply Z;refine aY (t:=false) (by simp) (fun h=>by cases h) (fun _=>?_);apply zE;refine zk [2,3,10,11] ?_;refine zd q35_2 [.op {rO:=true},.op {rO:=true},.op {rL:=true,wL:=true},.op {rL:=true,wL:=true}] fun all hall _ Z=>?_;simp(disch:=omega)[aL,aI,aD,aA,dL,dC];apply Z;apply aE;simp [aP];exact Do t v htg (by omega) hv hvc (by simp [zN,Ly])
theorem aLd {x y:FND} (h:x.kind=y.kind/\x.ID=y.ID):x=y:=by cases x;cases y;simp_all
theorem Zu(a b:List FND)(σ:List (List D))(ha:a.length<=99999)(hb:b.length<=99999):Ct prog 7 [.sl false (a.map mC),.sl false (b.map mC)] σ (fun r σ'=>r= .bool (decide (a=b))/\σ'=σ):=by
 refine zf func7 ?_;refine bT fun _ _ Z=>?_;simp(disch:=omega);apply Z;apply aF;refine bT fun _ _ Z=>?_;simp(disch:=omega);and_intros<;>(try omega);apply Z;refine zI ?_ ?_<;>intro c1<;>try simp at c1
 .refine bT fun _ _ Z=>?_;simp(disch:=omega);apply Z;apply aE;simp [aP];intro e;subst e;exact absurd rfl c1
 apply zA;apply aF;refine bT fun _ _ Z=>?_;simp(disch:=omega);and_intros<;>(try omega);apply Z;apply aN;refine zk [0,1,4,12,13] ?_;refine bA (fun(k:Nat)=> [(13,.d (.v (.int .i64 (k:Int)))),(5,.d (.any))]) [4,5,13,14,15,16,17,18,19,20,21,22,23,24,25] (fun(k:Nat)=>k<=b.length/\a.take k=b.take k) (fun(k:Nat)=>b.length - k) (0) (by simp <;> rfl) ?_ ?_ ?_
 .simp
 .simp
 rintro k ⟨hk,hh⟩;simp only [aM,aK];refine bT fun _ _ Z=>?_;simp(disch:=omega);apply Z;apply aF;refine zI ?_ ?_<;>intro c2<;>try simp at c2
 .apply kL;refine bT fun _ _ Z=>?_;simp(disch:=omega);apply Z;refine zd ⟨[],[],[],[],[]⟩ [.op {},.op {},.op {},.op {},.op {},.op {},.op {},.op {},.op {}] fun all hall _ Z=>?_;refine iK 8 fun _ Y=>?_;simp(disch:=omega);and_intros<;>(try omega);apply Y;simp(disch:=omega);apply Z;refine zI ?_ ?_<;>intro c3<;>try simp at c3
  .refine zk [0,1,5,12,13] ?_;refine bT fun _ _ Z=>?_;simp(disch:=omega);apply Z;apply aE;simp [aP];exact lZ (a:=a) (b:=b) (k:=k) (by omega) (by omega) (fun e=>by rw [e] at c3;simp at c3)
  apply lP;refine zk [0,1,5,12,13] ?_;refine tD fun _ _ Z=>?_;simp(disch:=omega);and_intros<;>(try omega);apply Z;refine zq (k+1) ?_ ?_ ?_
  .exact⟨by omega,kT hh (by omega) (by omega) (aLd (by simpa using c3))⟩
  .try dsimp only
   omega
  simp(disch:=omega)
 apply zE;refine bT fun _ _ Z=>?_;simp(disch:=omega);apply Z;apply aE;simp [aP];exact jP hh (by omega) (by omega)
theorem aKv(d:DRW)(σ:List (List D))(h:DOk d):Ct prog 6 [Wo d] σ (fun r σ'=>aCa d r/\∃J,σ'=σ++J):=(aDb d σ h).strip fun r σ' h=>⟨h.1.1,h.1.2,h.2⟩
end Go.Proofs.YtbdjepeabjangaaGreat

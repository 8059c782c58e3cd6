import Derived.Test.YtbgfljpnhhdkoaaGreatWkAr6
set_option maxRecDepth 20000
set_option linter.all false
set_option maxHeartbeats 8000000
open Go.Proofs.Tryz
namespace Go.Proofs.YtbgfljpnhhdkoaaGreat
open Go Go.Vm
structure ND where
 ID:Int
 kind:Int
 tag:ByteArray
 text:ByteArray
 classes:(List ByteArray)
 attrs:(List AT)
 styles:(List PI)
 parent:Int
 kids:(List Int)
 deriving DecidableEq
@[simp] abbrev Fg(s:ND):D:= .agg [.v (.int .i64 s.ID),.v (.int .i64 s.kind),.v (.string s.tag),.v (.string s.text),.sl false (s.classes.map D.str),.sl false (s.attrs.map dA),.sl false (s.styles.map cQ),.v (.int .i64 s.parent),.sl false (s.kids.map D.int)]
@[simp] abbrev aX2(s:ND):D:= .agg [.v (.int .i64 s.ID),.v (.int .i64 s.kind),.v (.string s.tag),.v (.string s.text),.sl true (s.classes.map D.str),.sl true (s.attrs.map dA),.sl true (s.styles.map cQ),.v (.int .i64 s.parent),.sl true (s.kids.map D.int)]
structure RD where
 most:Int
 next:Int
 l:(List ND)
 deriving DecidableEq
@[simp] abbrev jQ(s:RD):D:= .agg [.v (.int .i64 s.most),.v (.int .i64 s.next),.sl false (s.l.map Fg)]
@[simp] abbrev bBc(s:RD):D:= .agg [.v (.int .i64 s.most),.v (.int .i64 s.next),.sl true (s.l.map Fg)]
def Ts:ND:=⟨0,0,⟨#[]⟩,⟨#[]⟩, [], [], [],0, []⟩
def kU(l:List ND)(id:Int):Option ND:=l.find? fun n=>decide (n.ID=id)
def aJ(l:List ND)(id:Int):ND:=(kU l id).getD Ts
def fP(l:List ND)(id:Int):Bool:=(kU l id).isSome
def dK(l:List ND)(n:ND):List ND:=l.map fun x=>if x.ID=n.ID then n else x
theorem aIa {l:List ND} {id:Int} {k:Nat} (h:k<l.length)(hh:∀n∈l.take k,decide (n.ID=id)=false)(e:l[k].ID=id):kU l id=some l[k]:=by
 unfold kU;rw [List.find?_eq_some_iff_getElem];refine⟨by simpa using e,k,h,rfl,fun j hj=>?_⟩;have:=hh (l[j]'(by omega)) (by rw [List.mem_take_iff_getElem];exact⟨j,by omega,rfl⟩);simpa using this
theorem Yw {l:List ND} {id:Int} (hh:∀n∈l,decide (n.ID=id)=false):kU l id=none:=by
 unfold kU;rw [nQ];intro n hn;simpa using hh n hn
structure NB(l:List ND):Prop where
 len:l.length<=1000
 kids:∀n∈l,n.kids.length<=1000
 cls:∀n∈l,n.classes.length<=1000
 ats:∀n∈l,n.attrs.length<=1000
 sts:∀n∈l,n.styles.length<=1000
theorem oS {l:List ND} {id:Int} {n:ND} (h:kU l id=some n):n∈l/\n.ID=id:=by
 unfold kU at h;exact⟨Fo h,by simpa using List.find?_some h⟩
theorem NB.fk {l:List ND} (h:NB l)(id:Int):(aJ l id).kids.length<=1000:=by
 unfold aJ;cases e:kU l id with
 | none=>simp [Ts]
 | some n=>exact h.kids n (oS e).1
theorem NB.fc {l:List ND} (h:NB l)(id:Int):(aJ l id).classes.length<=1000:=by
 unfold aJ;cases e:kU l id with
 | none=>simp [Ts]
 | some n=>exact h.cls n (oS e).1
theorem NB.fa {l:List ND} (h:NB l)(id:Int):(aJ l id).attrs.length<=1000:=by
 unfold aJ;cases e:kU l id with
 | none=>simp [Ts]
 | some n=>exact h.ats n (oS e).1
theorem NB.fs {l:List ND} (h:NB l)(id:Int):(aJ l id).styles.length<=1000:=by
 unfold aJ;cases e:kU l id with
 | none=>simp [Ts]
 | some n=>exact h.sts n (oS e).1
theorem Ob(l:List ND)(n:ND)(k:Nat)(h:k<l.length):dK (l.take (k+1)) n=dK (l.take k) n++ [if l[k].ID=n.ID then n else l[k]]:=by
 unfold dK;rw [bL l k h,cE];rfl
theorem Uh(l:List ND)(n:ND):(dK l n).length=l.length:=by simp [dK]
def Yy(l:List ND)(id:Int):D:=if fP l id=true then Fg (aJ l id)else aX2 Ts
theorem aIf(x:RD)(id:Int)(σ:List (List D))(hx:NB x.l):Ct prog 21 [jQ x,D.int id] σ (fun r σ'=>r= .tup [Yy x.l id,.bool (fP x.l id)]/\σ'=σ):=by
 refine zf func21 ?_;have hxl:=hx.len;refine bB fun _ _ Z=>?_;simp(disch:=omega);apply Z;apply aE;refine bB fun _ _ Z=>?_;simp(disch:=omega);and_intros<;>(try omega);apply Z;apply aR;refine zk [1,4,5,9,10,11] ?_;refine aY (fun(k:Nat)=> [(11,.d (.v (.int .i64 (k:Int))))]) [5,7,11,12,13,14,15,16,17,18,19,20] (fun(k:Nat)=>k<=x.l.length/\∀n∈x.l.take k,decide (n.ID=id)=false) (fun(k:Nat)=>x.l.length - k) (0) (by simp <;> rfl) ?_ ?_ ?_
 .simp
 .simp
 rintro k ⟨hk,hh⟩;simp only [aQ,aO];refine bB fun _ _ Z=>?_;simp(disch:=omega);apply Z;apply aE;refine zI ?_ ?_<;>intro c1<;>try simp at c1
 .apply jM;refine bB fun _ _ Z=>?_;simp(disch:=omega);and_intros<;>(try omega);apply Z;refine bB fun _ _ Z=>?_;simp(disch:=omega);apply Z;refine zI ?_ ?_<;>intro c2<;>try simp at c2
  .refine zk [1,4,7,9,10,11] ?_;refine bB fun _ _ Z=>?_;simp(disch:=omega);apply Z;apply aC;have hf:=aIa c1 hh c2;simp [aH,Yy,aJ,fP,hf]
  apply mS;refine zk [1,4,9,10,11] ?_;refine pF fun _ _ Z=>?_;simp(disch:=omega);and_intros<;>(try omega);apply Z;refine zq (k+1) ?_ ?_ ?_
  .exact⟨by omega,uU (by omega) hh (by simpa using c2)⟩
  .try dsimp only
   omega
  simp(disch:=omega)
 apply zE;refine bB fun _ _ Z=>?_;simp(disch:=omega);apply Z;apply aC;rw [bZ (by omega)] at hh;have hf:=Yw hh;simp [aH,Yy,aJ,fP,hf,Ts]
theorem oK(x:RD)(id:Int)(σ:List (List D))(hx:NB x.l):Ct prog 21 [jQ x,D.int id] σ (fun r σ'=>r= .tup [Fg (aJ x.l id),.bool (fP x.l id)]/\σ'=σ):=
 (aIf x id σ hx).strip fun r σ' ⟨hr,hs⟩=>by
  subst hr;have hd:(fP x.l id=true->aJ x.l id=aJ x.l id):=fun _=>rfl;by_cases e:fP x.l id=true
  .refine⟨by simp [Yy,e,D.plain],?_,hs⟩;simp [Yy,e,D.strip,D.s2,D.s1]
  have hz:aJ x.l id=Ts:=by
   unfold aJ;unfold fP at e;cases hq:kU x.l id with
   | none=>rfl
   | some n=>rw [hq] at e;exact absurd rfl e
  refine⟨by simp [Yy,e,D.plain],?_,hs⟩;simp [Yy,e,D.strip,D.s2,D.s1,hz,Ts]
theorem oJ(x:RD)(n:ND)(σ:List (List D))(hx:NB x.l):Ct prog 79 [jQ x,Fg n] σ (fun r σ'=>r=jQ ⟨x.most,x.next,dK x.l n⟩/\σ'=σ):=by
 refine zf func79 ?_;have hxl:=hx.len;refine zr ⟨[5,22],[],[],[],[]⟩ fun _ _ Z=>?_;simp(disch:=omega);apply Z;refine zr ⟨[5,22],[],[],[],[]⟩ fun _ _ Z=>?_;simp(disch:=omega);and_intros<;>(try omega);apply Z;apply aE;refine zr ⟨[5,22],[],[],[],[]⟩ fun _ _ Z=>?_;simp(disch:=omega);and_intros<;>(try omega);apply Z;apply aR;refine zk [2,3,4,5,10,11,12] ?_;refine aY (fun(k:Nat)=> [(12,.d (.v (.int .i64 (k:Int)))),(5,.d (.sl true ((dK (x.l.take k) n).map Fg)))]) [5,7,12,13,14,15,16,17,18,19,20,21,22,23,24,25,26] (fun(k:Nat)=>k<=x.l.length) (fun(k:Nat)=>x.l.length - k) (0) (by simp <;> rfl) ?_ ?_ ?_
 .simp [dK]
 .simp
 rintro k hk;simp only [aQ,aO];have hpl:=Uh (x.l.take k) n;simp only [bG] at hpl;refine zr ⟨[5,22],[],[],[],[]⟩ fun _ _ Z=>?_;simp(disch:=omega);apply Z;apply aE;refine zI ?_ ?_<;>intro c1<;>try simp at c1
 .apply jM;refine zr ⟨[5,22],[],[],[],[]⟩ fun _ _ Z=>?_;simp(disch:=omega);and_intros<;>(try omega);apply Z;apply aE;refine zr ⟨[5,22],[],[],[],[]⟩ fun _ _ Z=>?_;simp(disch:=omega);apply Z;refine zI ?_ ?_<;>intro c2<;>try simp at c2
  .refine zk [2,3,4,5,7,10,11,12] ?_;refine zt ⟨[5,22],[],[],[],[]⟩ fun _ _ Z=>?_;simp(disch:=omega);apply Z;apply fW;refine zt ⟨[5,22],[],[],[],[]⟩ fun _ _ Z=>?_;simp(disch:=omega);and_intros<;>(try omega);apply Z;apply zB;refine zk [2,3,4,5,10,11,12] ?_;refine zt ⟨[5,22],[],[],[],[]⟩ fun _ _ Z=>?_;simp(disch:=omega);and_intros<;>(try omega);apply Z;refine zq (k+1) ?_ ?_ ?_
   .omega
   .try dsimp only
    omega
   simp(disch:=omega)[Ob, *]
  apply zA;refine zk [2,3,4,5,7,10,11,12] ?_;refine zt ⟨[5,22],[],[],[],[]⟩ fun _ _ Z=>?_;simp(disch:=omega);and_intros<;>(try omega);apply Z;apply zB;refine zk [2,3,4,5,10,11,12] ?_;refine zt ⟨[5,22],[],[],[],[]⟩ fun _ _ Z=>?_;simp(disch:=omega);and_intros<;>(try omega);apply Z;refine zq (k+1) ?_ ?_ ?_
  .omega
  .try dsimp only
   omega
  simp(disch:=omega)[Ob, *]
 apply zE;refine zr ⟨[5,22],[],[],[],[]⟩ fun _ _ Z=>?_;simp(disch:=omega);apply Z;refine zr ⟨[5,22],[],[],[],[]⟩ fun _ _ Z=>?_;simp(disch:=omega);apply Z;apply aC;simp [aH];rw [bZ (by omega)]
structure Tr(l:List ND)(bel:Int->List Int)(rk:Int->Nat):Prop where
 eq:∀id,bel id=id::(aJ l id).kids.flatMap bel
 dec:∀id,∀k∈(aJ l id).kids,rk k<rk id
 len:∀id,(bel id).length<=10000
theorem aOy(bel:Int->List Int)(K:List Int)(k:Nat)(h:k<K.length):(K.take (k+1)).flatMap bel=(K.take k).flatMap bel++bel K[k]:=by
 rw [bL K k h,gR];simp
theorem Wr(bel:Int->List Int)(K:List Int)(k:Nat):((K.take k).flatMap bel).length<=(K.flatMap bel).length:=by
 conv=>rhs;rw [<- eZ k K,gR,aZ]
 omega
theorem Tr.fl {l:List ND} {bel:Int->List Int} {rk:Int->Nat} (h:Tr l bel rk)(id:Int):((aJ l id).kids.flatMap bel).length+1<=10000:=by
 have:=h.len id;rw [h.eq id] at this;simpa using this
@[simp] abbrev q34_1:Cfg:=⟨[4,7,25,31],[],[],[],[]⟩
theorem Om(x:RD)(id:Int)(bel:Int->List Int)(rk:Int->Nat)(σ:List (List D))(hx:NB x.l)(ht:Tr x.l bel rk)(ih:∀k∈(aJ x.l id).kids,∀σ,Ct prog 85 [jQ x,D.int k] σ (fun r σ'=>r= .sl true ((bel k).map D.int)/\σ'=σ)):Ct prog 85 [jQ x,D.int id] σ (fun r σ'=>r= .sl true ((bel id).map D.int)/\σ'=σ):=by
 refine zf func85 ?_;have hk:=hx.fk id;have hfl:=ht.fl id;refine zr q34_1 fun _ _ Z=>?_;simp(disch:=omega);and_intros<;>(try omega)
 all_goals first | (intro a x1 x2 _ _ h;subst h;rfl) | skip
 apply Z;refine zr q34_1 fun _ _ Z=>?_;refine zs 2 fun _ Y=>?_;simp(disch:=omega);and_intros<;>(try omega)
 all_goals first | (intro a x1 x2 _ _ h;subst h;rfl) | skip
 apply Y;refine aF fun _ Y=>?_;simp(disch:=omega);refine cT (oK x id _ hx) ?_;apply Y;simp(disch:=omega);and_intros<;>(try omega)
 all_goals first | (intro a x1 x2 _ _ h;subst h;rfl) | skip
 apply Z;refine zr q34_1 fun _ _ Z=>?_;simp(disch:=omega);and_intros<;>(try omega)
 all_goals first | (intro a x1 x2 _ _ h;subst h;rfl) | skip
 apply Z;apply aE;refine zk [2,4,5,7] ?_;refine zr q34_1 fun _ _ Z=>?_;simp(disch:=omega);and_intros<;>(try omega)
 all_goals first | (intro a x1 x2 _ _ h;subst h;rfl) | skip
 apply Z;apply aR;refine zk [2,4,7,19,20,21] ?_;refine aY (fun(k:Nat)=> [(21,.d (.v (.int .i64 (k:Int)))),(7,.d (.sl true ((id::((aJ x.l id).kids.take k).flatMap bel).map D.int))),(9,.d (.any))]) [7,9,21,22,23,24,25,26,27,28,29,30] (fun(k:Nat)=>k<=(aJ x.l id).kids.length) (fun(k:Nat)=>(aJ x.l id).kids.length - k) (0) (by simp <;> rfl) ?_ ?_ ?_
 .simp
 .simp
 rintro k hk2;simp only [aQ,aO];have hfl2:=Wr bel (aJ x.l id).kids k;simp only [List.length_flatMap,vH] at hfl2 hfl;refine zr q34_1 fun _ _ Z=>?_;simp(disch:=omega);and_intros<;>(try omega)
 all_goals first | (intro a x1 x2 _ _ h;subst h;rfl) | skip
 apply Z;apply aE;refine zI ?_ ?_<;>intro c1<;>try simp at c1
 .have hkk:k<(aJ x.l id).kids.length:=by omega
  have hl28:=ht.len ((aJ x.l id).kids[k]);apply jM;refine zr q34_1 fun _ _ Z=>?_;simp(disch:=omega);and_intros<;>(try omega)
  all_goals first | (intro a x1 x2 _ _ h;subst h;rfl) | skip
  apply Z;refine zt q34_1 fun _ _ Z=>?_;refine zs 3 fun _ Y=>?_;simp(disch:=omega);and_intros<;>(try omega)
  all_goals first | (intro a x1 x2 _ _ h;subst h;rfl) | skip
  apply Y;refine aF fun _ Y=>?_;simp(disch:=omega);refine cT (ih _ (bS hkk) _) ?_;apply Y;simp(disch:=omega);and_intros<;>(try omega)
  all_goals first | (intro a x1 x2 _ _ h;subst h;rfl) | skip
  apply Z;apply zB;refine zk [2,4,7,9,19,20,21] ?_;refine zt q34_1 fun _ _ Z=>?_;simp(disch:=omega);and_intros<;>(try omega)
  all_goals first | (intro a x1 x2 _ _ h;subst h;rfl) | skip
  apply Z;refine zq (k+1) ?_ ?_ ?_
  .omega
  .try dsimp only
   omega
  simp(disch:=omega)[aOy]
 apply zE;refine zr q34_1 fun _ _ Z=>?_;simp(disch:=omega);and_intros<;>(try omega)
 all_goals first | (intro a x1 x2 _ _ h;subst h;rfl) | skip
 apply Z;apply aC;simp [aH];rw [ht.eq id,bZ (by omega)];simp
theorem Lp(x:RD)(id:Int)(bel:Int->List Int)(rk:Int->Nat)(σ:List (List D))(hx:NB x.l)(ht:Tr x.l bel rk):Ct prog 85 [jQ x,D.int id] σ (fun r σ'=>r= .sl true ((bel id).map D.int)/\σ'=σ):=by
 have key:∀(m:Nat) (id:Int) (σ:List (List D)),rk id<=m->Ct prog 85 [jQ x,D.int id] σ (fun r σ'=>r= .sl true ((bel id).map D.int)/\σ'=σ):=by
  intro m;induction m with
  | zero=>exact fun id σ h=>Om x id bel rk σ hx ht fun k hk=>absurd (ht.dec id k hk) (by omega)
  | succ m ih=>exact fun id σ h=>Om x id bel rk σ hx ht fun k hk τ=>ih k τ (by have:=ht.dec id k hk;omega)
 exact key (rk id) id σ (aW _)
def oH(l:List ND)(bel:Int->List Int)(id of_:Int):Bool:=fP l id && fP l of_ && (bel of_).any fun k=>decide (k=id)
def aVc(l:List ND)(id:Int):Int:=if fP l id=true/\0<=(aJ l id).parent then aGy id (aJ l (aJ l id).parent).kids else -1
theorem aA0(x:RD)(id of_:Int)(bel:Int->List Int)(rk:Int->Nat)(σ:List (List D))(hx:NB x.l)(ht:Tr x.l bel rk):Ct prog 69 [jQ x,D.int id,D.int of_] σ (fun r σ'=>r= .bool (oH x.l bel id of_)/\σ'=σ):=by
 refine zf func69 ?_;have hbl:=ht.len of_;refine bB fun _ _ Z=>?_;simp(disch:=omega);apply Z;refine bB fun _ _ Z=>?_;refine zs 2 fun _ Y=>?_;simp(disch:=omega);apply Y;refine aF fun _ Y=>?_;simp(disch:=omega);refine cT (oK x id _ hx) ?_;apply Y;simp(disch:=omega);apply Z;refine bB fun _ _ Z=>?_;refine zs 2 fun _ Y=>?_;simp(disch:=omega);apply Y;refine aF fun _ Y=>?_;simp(disch:=omega);refine cT (oK x of_ _ hx) ?_;apply Y;simp(disch:=omega);apply Z;apply aE;refine zk [1,2,3,6,8,10] ?_;refine mH ⟨[],[],[],[],[]⟩ fun all hall _ Z=>?_;have ga2:aN all 2=some 27:=hall 2;refine zs 3 fun _ Y=>?_;simp(disch:=omega)[ga2];apply Y;refine zb 27 ?_ ?_<;>intro g1<;>try simp at g1
 .simp(disch:=omega)[ga2];apply Z;refine bA (t:=true) (by simp) (fun _=>?_) (fun h=>by cases h);refine zk [1,2,3,6] ?_;refine bB fun _ _ Z=>?_;simp(disch:=omega);apply Z;apply aC;simp [aH,oH, *]
 simp(disch:=omega)[ga2];apply Z;refine zI ?_ ?_<;>intro c2<;>try simp at c2
 .refine zk [1,2,3,6] ?_;refine bB fun _ _ Z=>?_;simp(disch:=omega);apply Z;apply aC;simp [aH,oH, *]
 apply zA;apply aE;refine zk [1,2,3,6] ?_;refine bB fun _ _ Z=>?_;refine zs 2 fun _ Y=>?_;simp(disch:=omega);apply Y;refine aF fun _ Y=>?_;simp(disch:=omega);refine cT (Lp x of_ bel rk _ hx ht) ?_;apply Y;simp(disch:=omega);and_intros<;>(try omega);apply Z;apply aR;refine zk [1,6,33,34,35] ?_;refine aY (fun(k:Nat)=> [(35,.d (.v (.int .i64 (k:Int)))),(12,.d (.any))]) [6,12,35,36,37,38,39,40,41,42] (fun(k:Nat)=>k<=(bel of_).length/\∀y∈(bel of_).take k,decide (y=id)=false) (fun(k:Nat)=>(bel of_).length - k) (0) (by simp <;> rfl) ?_ ?_ ?_
 .simp
 .simp
 rintro k ⟨hk,hh⟩;simp only [aQ,aO];refine bB fun _ _ Z=>?_;simp(disch:=omega);apply Z;apply aE;refine zI ?_ ?_<;>intro c3<;>try simp at c3
 .apply jM;refine bB fun _ _ Z=>?_;simp(disch:=omega);and_intros<;>(try omega);apply Z;refine bB fun _ _ Z=>?_;simp(disch:=omega);apply Z;refine zI ?_ ?_<;>intro c4<;>try simp at c4
  .refine zk [1,12,33,34,35] ?_;refine bB fun _ _ Z=>?_;simp(disch:=omega);apply Z;apply aC;simp [aH];unfold oH;rw [g1,c2,nX,nX,oW];exact⟨_,bS c3,by simpa using c4⟩
  apply mS;refine zk [1,12,33,34,35] ?_;refine pF fun _ _ Z=>?_;simp(disch:=omega);and_intros<;>(try omega);apply Z;refine zq (k+1) ?_ ?_ ?_
  .exact⟨by omega,uU (by omega) hh (by simpa using c4)⟩
  .try dsimp only
   omega
  simp(disch:=omega)
 apply zE;refine bB fun _ _ Z=>?_;simp(disch:=omega);apply Z;apply aC;simp [aH];rw [bZ (by omega)] at hh;unfold oH;rw [g1,c2,nX,nX,qI];exact fun y hy=>by simpa using hh y hy
def gV(id kind:Int)(s:ByteArray):ND:=⟨id,kind,if kind=2 then s else⟨#[]⟩,if kind=2 then⟨#[]⟩else s, [], [], [], -1, []⟩
def addX(x:RD)(kind:Int)(s:ByteArray):RD×Int×Int:=if kind=2/\dT s=false then(x,0,2)else if x.most<(x.l.length:Int)then(x,0,8)else(⟨x.most,x.next+1,x.l++ [gV x.next kind s]⟩,x.next,0)
def oA:ND:=⟨0,2,⟨#[114,111,111,116]⟩,⟨#[]⟩, [], [], [], -1, []⟩
def newX(most:Int):RD:=⟨max 1 (min most 65536),1, [oA]⟩
theorem aXu(N:Nat)(x:AT):Sc N (dA x):=Sc.agg fun d hd=>by
 simp only [bM,gX,iB] at hd;rcases hd with rfl | rfl <;> exact Sc.v _
theorem aWb(N:Nat)(x:PI):Sc N (cQ x):=Sc.agg fun d hd=>by
 simp only [bM,gX,iB] at hd;rcases hd with rfl | rfl <;> exact Sc.v _
theorem aNn(N:Nat)(x:ND):Sc N (Fg x):=Sc.agg fun d hd=>by
 simp only [bM,gX,iB] at hd;rcases hd with rfl | rfl | rfl | rfl | rfl | rfl | rfl | rfl | rfl
 .exact Sc.v _
 .exact Sc.v _
 .exact Sc.v _
 .exact Sc.v _
 .exact Sc.sl (Sc.map fun a=>Sc.v _)
 .exact Sc.sl (Sc.map fun a=>aXu _ a)
 .exact Sc.sl (Sc.map fun a=>aWb _ a)
 .exact Sc.v _
 exact Sc.sl (Sc.map fun a=>Sc.v _)
theorem aX6(N:Nat)(x:RD):Sc N (jQ x):=Sc.agg fun d hd=>by
 simp only [bM,gX,iB] at hd;rcases hd with rfl | rfl | rfl
 .exact Sc.v _
 .exact Sc.v _
 exact Sc.sl (Sc.map fun a=>aNn _ a)
theorem Se {N:Nat} {a b:D} (h1:Sc N a)(h2:Sc N b):Sc N (.tup [a,b]):=Sc.tup fun d hd=>by
 simp only [bM,gX,iB] at hd;rcases hd with rfl | rfl <;> assumption
theorem aRg {N:Nat} {a b c:D} (h1:Sc N a)(h2:Sc N b)(h3:Sc N c):Sc N (.tup [a,b,c]):=Sc.tup fun d hd=>by
 simp only [bM,gX,iB] at hd;rcases hd with rfl | rfl | rfl <;> assumption
theorem aN5(x:RD)(kind:Int)(s:ByteArray)(σ:List (List D))(hx:NB x.l)(hn:0<=x.next/\x.next<=1000000)(hs:s.size<=1000):Ct prog 134 [jQ x,D.int kind,D.str s] σ (fun r σ'=>r= .tup [jQ (addX x kind s).1,D.int (addX x kind s).2.1,D.int (addX x kind s).2.2]/\∃J,σ'=σ++J):=by
 refine zf func134 ?_;have hxl:=hx.len;refine zr ⟨[],[],[9],[],[]⟩ fun _ _ Z=>?_;simp[aA,aB,bI,aX,aI,aG];apply Z;apply aE;refine mH ⟨[],[],[9],[],[]⟩ fun all hall _ Z=>?_;have ga2:aN all 2=some 12:=hall 2;refine zs 3 fun _ Y=>?_;simp[aA,aB,bI,aX,aI,aG,ga2];apply Y;refine zb 12 ?_ ?_<;>intro g1<;>try simp at g1
 .refine zs 1 fun _ Y=>?_;simp[aA,aB,bI,aX,aI,aG,ga2];apply Y;refine zg ga2 fun _ Y=>?_;simp[aA,aB,bI,aX,aI,aG,ga2];refine cT (xB s _ (by omega)) ?_;apply Y;simp[aA,aB,bI,aX,aI,aG,ga2];apply Z;refine zI ?_ ?_<;>intro c2<;>try simp at c2
  .refine zr ⟨[],[],[9],[],[]⟩ fun _ _ Z=>?_;simp[aA,aB,bI,aX,aI,aG];apply Z;apply aC;first | (simp [aH,addX,gV, *];done) | (have h3:¬x.most<(x.l.length:Int):=(by omega);simp [aH,addX,gV, *])
  apply zA;apply aE;refine zr ⟨[],[],[9],[],[]⟩ fun _ _ Z=>?_;simp[aA,aB,bI,aX,aI,aG];and_intros<;>(try omega);apply Z;refine zI ?_ ?_<;>intro c3<;>try simp at c3
  .refine zk [1,2,3,6,7,8] ?_;refine zr ⟨[],[],[9],[],[]⟩ fun _ _ Z=>?_;simp[aA,aB,bI,aX,aI,aG];apply Z;apply aC;first | (simp [aH,addX,gV, *];done) | (have h3:¬x.most<(x.l.length:Int):=(by omega);simp [aH,addX,gV, *])
  apply zA;refine zk [1,2,3,6,7,8] ?_;refine zr ⟨[],[],[9],[],[]⟩ fun _ _ Z=>?_;simp[aA,aB,bI,aX,aI,aG];and_intros<;>(try omega);apply Z;apply aE;refine zr ⟨[],[],[9],[],[]⟩ fun _ _ Z=>?_;simp[aA,aB,bI,aX,aI,aG];apply Z;refine zI ?_ ?_<;>intro c4<;>try simp at c4
  .refine zk [2,3,6,7,8,9] ?_;refine zt ⟨[],[],[9],[],[]⟩ fun _ _ Z=>?_;simp[aA,aB,bI,aX,aI,aG];apply Z;apply fW;refine zd ⟨[],[],[9],[],[]⟩ [.op {},.op {},.op {rL:=true},.op {},.op {rO:=true},.op {},.op {},.op {},.op {rL:=true,wL:=true}] fun all hall _ Z=>?_;refine kF 8 fun _ Y=>?_;simp[aA,aB,bI,aX,aI,aG];and_intros<;>(try omega);apply Y;simp[aA,aB,bI,aX,aI,aG];apply Z;refine zk [3,6,7,8,9] ?_;refine zr ⟨[],[],[9],[],[]⟩ fun _ _ Z=>?_;simp[aA,aB,bI,aX,aI,aG];and_intros<;>(try omega);apply Z;refine zd ⟨[],[],[9],[],[]⟩ [.op {rL:=true},.op {},.op {rO:=true},.op {rL:=true,wL:=true},.op {},.op {}] fun all hall _ Z=>?_;simp[aA,aB,bI,aX,aI,aG];apply Z;apply aC;first | (simp [aH,addX,gV, *];done) | (have h3:¬x.most<(x.l.length:Int):=(by omega);simp [aH,addX,gV, *])
  exact absurd g1 c4
 simp[aA,aB,bI,aX,aI,aG,ga2];apply Z;refine bA (t:=false) (by simp) (fun h=>by cases h) (fun _=>?_);apply zA;apply aE;refine zr ⟨[],[],[9],[],[]⟩ fun _ _ Z=>?_;simp[aA,aB,bI,aX,aI,aG];and_intros<;>(try omega);apply Z;refine zI ?_ ?_<;>intro c5<;>try simp at c5
 .refine zk [1,2,3,6,7,8] ?_;refine zr ⟨[],[],[9],[],[]⟩ fun _ _ Z=>?_;simp[aA,aB,bI,aX,aI,aG];apply Z;apply aC;first | (simp [aH,addX,gV, *];done) | (have h3:¬x.most<(x.l.length:Int):=(by omega);simp [aH,addX,gV, *])
 apply zA;refine zk [1,2,3,6,7,8] ?_;refine zr ⟨[],[],[9],[],[]⟩ fun _ _ Z=>?_;simp[aA,aB,bI,aX,aI,aG];and_intros<;>(try omega);apply Z;apply aE;refine zr ⟨[],[],[9],[],[]⟩ fun _ _ Z=>?_;simp[aA,aB,bI,aX,aI,aG];apply Z;refine zI ?_ ?_<;>intro c6<;>try simp at c6
 .exact absurd c6 g1
 refine zk [2,3,6,7,8,9] ?_;refine zt ⟨[],[],[9],[],[]⟩ fun _ _ Z=>?_;simp[aA,aB,bI,aX,aI,aG];apply Z;apply fW;refine zd ⟨[],[],[9],[],[]⟩ [.op {},.op {},.op {rL:=true},.op {},.op {rO:=true},.op {},.op {},.op {},.op {rL:=true,wL:=true}] fun all hall _ Z=>?_;refine kF 8 fun _ Y=>?_;simp[aA,aB,bI,aX,aI,aG];and_intros<;>(try omega);apply Y;simp[aA,aB,bI,aX,aI,aG];apply Z;refine zk [3,6,7,8,9] ?_;refine zr ⟨[],[],[9],[],[]⟩ fun _ _ Z=>?_;simp[aA,aB,bI,aX,aI,aG];and_intros<;>(try omega);apply Z;refine zd ⟨[],[],[9],[],[]⟩ [.op {rL:=true},.op {},.op {rO:=true},.op {rL:=true,wL:=true},.op {},.op {}] fun all hall _ Z=>?_;simp[aA,aB,bI,aX,aI,aG];apply Z;apply aC;first | (simp [aH,addX,gV, *];done) | (have h3:¬x.most<(x.l.length:Int):=(by omega);simp [aH,addX,gV, *])
theorem aDb(x:RD)(kind:Int)(s:ByteArray)(σ:List (List D))(hx:NB x.l)(hn:0<=x.next/\x.next<=1000000)(hs:s.size<=1000):Ct prog 134 [jQ x,D.int kind,D.str s] σ (fun r σ'=>r= .tup [jQ (addX x kind s).1,D.int (addX x kind s).2.1,D.int (addX x kind s).2.2]/\σ'=σ):=
 (aN5 x kind s σ hx hn hs).trim fun r σ' ⟨hr,J,hs'⟩=>⟨σ,J,hs',rfl,by rw [hr];exact aRg (aX6 _ _) (Sc.v _) (Sc.v _),fun n cs h=> .inl h,hr,rfl⟩
def insX(x:RD)(bel:Int->List Int)(p at_ id:Int):RD×Int:=
 if fP x.l p=false\/fP x.l id=false then(x,11)
 else if ¬(aJ x.l p).kind=2 then(x,14)
 else if id=0\/0<=(aJ x.l id).parent\/oH x.l bel p id=true\/at_<0\/((aJ x.l p).kids.length:Int)<at_ then(x,1)
 else(⟨x.most,x.next,dK (dK x.l { aJ x.l p with kids:=fQ (aJ x.l p).kids at_.toNat id }) { aJ x.l id with parent:=p }⟩,0)
theorem NB.put {l:List ND} (h:NB l) {n:ND} (h1:n.kids.length<=1000)(h2:n.classes.length<=1000)(h3:n.attrs.length<=1000)(h4:n.styles.length<=1000):NB (dK l n):=by
 have key:∀m∈dK l n,m=n\/m∈l:=fun m hm=>by
  unfold dK at hm;obtain⟨x,hx,rfl⟩:=aV.1 hm;split
  .exact .inl rfl
  exact .inr hx
 refine⟨by rw [Uh];exact h.len,fun m hm=>?_,fun m hm=>?_,fun m hm=>?_,fun m hm=>?_⟩
 all_goals rcases key m hm with rfl | hm'
 .exact h1
 .exact h.kids m hm'
 .exact h2
 .exact h.cls m hm'
 .exact h3
 .exact h.ats m hm'
 .exact h4
 exact h.sts m hm'
theorem aQv(x:RD)(p at_ id:Int)(bel:Int->List Int)(rk:Int->Nat)(σ:List (List D))(hx:NB x.l)(ht:Tr x.l bel rk)(hkl:(aJ x.l p).kids.length<=900):Ct prog 137 [jQ x,D.int p,D.int at_,D.int id] σ (fun r σ'=>r= .tup [jQ (insX x bel p at_ id).1,D.int (insX x bel p at_ id).2]/\σ'=σ):=by
 refine zf func137 ?_;refine bB fun _ _ Z=>?_;simp;apply Z;refine bB fun _ _ Z=>?_;refine zs 2 fun _ Y=>?_;simp;apply Y;refine aF fun _ Y=>?_;simp;refine cT (oK x p _ hx) ?_;apply Y;simp;apply Z;refine bB fun _ _ Z=>?_;refine zs 2 fun _ Y=>?_;simp;apply Y;refine aF fun _ Y=>?_;simp;refine cT (oK x id _ hx) ?_;apply Y;simp;apply Z;apply aE;refine zk [1,2,3,4,8,9,10,11,12,13] ?_;refine mH ⟨[],[],[],[],[]⟩ fun all hall _ Z=>?_;have ga2:aN all 2=some 28:=hall 2;refine zs 3 fun _ Y=>?_;simp[ga2];apply Y;refine zb 28 ?_ ?_<;>intro g1<;>try simp at g1
 .simp[ga2];apply Z;refine bA (t:=true) (by simp) (fun _=>?_) (fun h=>by cases h);refine zk [1,2,3,4,8,9,10,12] ?_;refine bB fun _ _ Z=>?_;simp;apply Z;apply aC;simp [aH,insX, *]
 simp[ga2];apply Z;refine zI ?_ ?_<;>intro c2<;>try simp at c2
 .refine zk [1,2,3,4,8,9,10,12] ?_;refine bB fun _ _ Z=>?_;simp;apply Z;apply aC;simp [aH,insX, *]
 apply zA;apply aE;refine zk [1,2,3,4,8,9,10,12] ?_;refine bB fun _ _ Z=>?_;simp;apply Z;refine zI ?_ ?_<;>intro c3<;>try simp at c3
 .refine bB fun _ _ Z=>?_;simp;apply Z;apply aC;simp [aH,insX, *]
 apply zA;apply aE;refine zk [1,2,3,4,8,9,10,12] ?_;refine mH ⟨[],[],[],[],[]⟩ fun all hall _ Z=>?_;have ga2:aN all 2=some 39:=hall 2;have ga7:aN all 7=some 44:=hall 7;have ga13:aN all 13=some 50:=hall 13;have ga17:aN all 17=some 54:=hall 17;refine zs 3 fun _ Y=>?_;simp[ga2,ga7,ga13,ga17];apply Y;refine zb 39 ?_ ?_<;>intro g4<;>try simp at g4
 .refine zs 5 fun _ Y=>?_;simp[ga2,ga7,ga13,ga17];apply Y;refine zs 6 fun _ Y=>?_;simp[ga2,ga7,ga13,ga17];apply Y;refine zs 4 fun _ Y=>?_;simp[ga2,ga7,ga13,ga17];apply Y;simp[ga2,ga7,ga13,ga17];apply Z;refine bA (t:=true) (by simp) (fun _=>?_) (fun h=>by cases h);refine zk [1,2,3,4,8,9,10,12] ?_;refine bB fun _ _ Z=>?_;simp;apply Z;apply aC;subst g4;simp [aH,insX, *]
 refine zs 5 fun _ Y=>?_;simp[ga2,ga7,ga13,ga17];apply Y;refine zb 44 ?_ ?_<;>intro g5<;>try simp at g5
 .refine zs 6 fun _ Y=>?_;simp[ga2,ga7,ga13,ga17];apply Y;refine zs 4 fun _ Y=>?_;simp[ga2,ga7,ga13,ga17];apply Y;simp[ga2,ga7,ga13,ga17];apply Z;refine bA (t:=true) (by simp) (fun _=>?_) (fun h=>by cases h);refine zk [1,2,3,4,8,9,10,12] ?_;refine bB fun _ _ Z=>?_;simp;apply Z;apply aC;simp [aH,insX, *]
 refine zs 3 fun _ Y=>?_;simp[ga2,ga7,ga13,ga17];apply Y;refine zg ga7 fun _ Y=>?_;simp[ga2,ga7,ga13,ga17];refine cT (aA0 x p id bel rk _ hx ht) ?_;apply Y;refine zs 2 fun _ Y=>?_;simp[ga2,ga7,ga13,ga17];apply Y;refine zb 50 ?_ ?_<;>intro g6<;>try simp at g6
 .refine zs 4 fun _ Y=>?_;simp[ga2,ga7,ga13,ga17];apply Y;simp[ga2,ga7,ga13,ga17];apply Z;refine bA (t:=true) (by simp) (fun _=>?_) (fun h=>by cases h);refine zk [1,2,3,4,8,9,10,12] ?_;refine bB fun _ _ Z=>?_;simp;apply Z;apply aC;simp [aH,insX, *]
 refine zs 4 fun _ Y=>?_;simp[ga2,ga7,ga13,ga17];apply Y;refine zb 54 ?_ ?_<;>intro g7<;>try simp at g7
 .simp[ga2,ga7,ga13,ga17];apply Z;refine bA (t:=true) (by simp) (fun _=>?_) (fun h=>by cases h);refine zk [1,2,3,4,8,9,10,12] ?_;refine bB fun _ _ Z=>?_;simp;apply Z;apply aC;simp [aH,insX, *]
 simp[ga2,ga7,ga13,ga17];and_intros<;>(try omega);apply Z;refine zI ?_ ?_<;>intro c8<;>try simp at c8
 .refine zk [1,2,3,4,8,9,10,12] ?_;refine bB fun _ _ Z=>?_;simp;apply Z;apply aC;simp [aH,insX, *]
 obtain⟨i,rfl⟩:∃i:Nat,at_=i:=⟨at_.toNat,by omega⟩;have hnb:NB (dK x.l { aJ x.l p with kids:=fQ (aJ x.l p).kids i id }):=hx.put (by rw [jS _ _ _ (by omega)];omega) (hx.fc p) (hx.fa p) (hx.fs p);apply zA;refine zk [1,2,3,4,8,9,10,12] ?_;refine bB fun _ _ Z=>?_;refine zs 4 fun _ Y=>?_;simp;apply Y;refine aF fun _ Y=>?_;simp;refine cT (aCo (aJ x.l p).kids i id _ (by omega) (by omega)) ?_;apply Y;simp;apply Z;refine zk [1,4,8,9,10,12] ?_;refine bB fun _ _ Z=>?_;simp;apply Z;refine zd ⟨[],[],[],[],[]⟩ [.op {rL:=true},.op {rL:=true},.pure,.op {rL:=true},.pure,.op {rL:=true,wL:=true},.op {}] fun all hall _ Z=>?_;refine kF 2 fun _ Y=>?_;simp;apply Y;refine bY fun _ Y=>?_;simp;refine wI (fun _=>(oJ x { aJ x.l p with kids:=fQ (aJ x.l p).kids i id } _ hx)) ?_;apply Y;refine kF 1 fun _ Y=>?_;simp;apply Y;refine bY fun _ Y=>?_;simp;refine wI (fun _=>(oJ ⟨x.most,x.next,dK x.l { aJ x.l p with kids:=fQ (aJ x.l p).kids i id }⟩ { aJ x.l id with parent:=p } _ hnb)) ?_;apply Y;simp;apply Z;apply aC;have h5:¬0<=(aJ x.l id).parent:=by omega
 have h7:¬(i:Int)<0:=by omega
 have h8:¬((aJ x.l p).kids.length:Int)<(i:Int):=by omega
 simp [aH,insX, *]
def movX(x:RD)(id at_:Int):RD×Int:=
 if fP x.l id=false then(x,11)
 else if fP x.l (aJ x.l id).parent=false\/at_<0\/((aJ x.l (aJ x.l id).parent).kids.length:Int)<=at_ then(x,1)
 else(⟨x.most,x.next,dK x.l { aJ x.l (aJ x.l id).parent with kids:=fQ (kY (aJ x.l (aJ x.l id).parent).kids id) at_.toNat id }⟩,0)
theorem Jb(l:List Int)(x:Int):(kY l x).length<=l.length:=jD _ _
theorem aQw {l:List Int} (h:l.Nodup)(x:Int):l.length<=(kY l x).length+1:=by
 induction l with
 | nil=>simp
 | cons y l ih =>
  have hn:=gY.1 h;unfold kY at *;rw [gQ];by_cases e:y=x
  .subst e;simp only [decide_true,Bool.not_true,gO,bK];have:(l.filter fun z=> !decide (z=y))=l:=by
    rw [nK];intro a ha;have:a≠y:=fun e=>hn.1 (e ▸ ha);simp [this]
   rw [this];simp
  simp only [e,zJ,Bool.not_false,aU,bJ];have:=ih hn.2;omega
theorem aRc(x:RD)(id at_:Int)(σ:List (List D))(hx:NB x.l)(hnd:(aJ x.l (aJ x.l id).parent).kids.Nodup):Ct prog 139 [jQ x,D.int id,D.int at_] σ (fun r σ'=>r= .tup [jQ (movX x id at_).1,D.int (movX x id at_).2]/\σ'=σ):=by
 refine zf func139 ?_;have hfp:=hx.fk (aJ x.l id).parent;have hrl:=Jb (aJ x.l (aJ x.l id).parent).kids id;have hrg:=aQw hnd id;refine bB fun _ _ Z=>?_;simp;apply Z;refine bB fun _ _ Z=>?_;refine zs 2 fun _ Y=>?_;simp;apply Y;refine aF fun _ Y=>?_;simp;refine cT (oK x id _ hx) ?_;apply Y;simp;apply Z;apply aE;refine bB fun _ _ Z=>?_;simp;apply Z;refine zI ?_ ?_<;>intro c1<;>try simp at c1
 .refine zk [1,2,3,6,7,8] ?_;refine bB fun _ _ Z=>?_;simp;apply Z;apply aC;simp [aH,movX, *]
 apply zA;refine zk [1,2,3,6,7,8] ?_;refine bB fun _ _ Z=>?_;refine zs 3 fun _ Y=>?_;simp;apply Y;refine aF fun _ Y=>?_;simp;refine cT (oK x (aJ x.l id).parent _ hx) ?_;apply Y;simp;apply Z;apply aE;refine zk [1,2,3,6,7,10,11] ?_;refine mH ⟨[],[],[],[],[]⟩ fun all hall _ Z=>?_;have ga2:aN all 2=some 30:=hall 2;have ga6:aN all 6=some 34:=hall 6;refine zs 3 fun _ Y=>?_;simp[ga2,ga6];apply Y;refine zb 30 ?_ ?_<;>intro g2<;>try simp at g2
 .refine zs 4 fun _ Y=>?_;simp[ga2,ga6];apply Y;simp[ga2,ga6];apply Z;refine bA (t:=true) (by simp) (fun _=>?_) (fun h=>by cases h);refine zk [1,2,3,6,7,10] ?_;refine bB fun _ _ Z=>?_;simp;apply Z;apply aC;simp [aH,movX, *]
 refine zs 4 fun _ Y=>?_;simp[ga2,ga6];apply Y;refine zb 34 ?_ ?_<;>intro g3<;>try simp at g3
 .simp[ga2,ga6];apply Z;refine bA (t:=true) (by simp) (fun _=>?_) (fun h=>by cases h);refine zk [1,2,3,6,7,10] ?_;refine bB fun _ _ Z=>?_;simp;apply Z;apply aC;simp [aH,movX, *]
 simp[ga2,ga6];and_intros<;>(try omega);apply Z;refine zI ?_ ?_<;>intro c4<;>try simp at c4
 .refine zk [1,2,3,6,7,10] ?_;refine bB fun _ _ Z=>?_;simp;apply Z;apply aC;simp [aH,movX, *]
 obtain⟨i,rfl⟩:∃i:Nat,at_=i:=⟨at_.toNat,by omega⟩;apply zA;refine zk [1,2,3,6,7,10] ?_;refine bB fun _ _ Z=>?_;refine zs 3 fun _ Y=>?_;simp;apply Y;refine aF fun _ Y=>?_;simp;refine cT (Hw (aJ x.l (aJ x.l id).parent).kids id _ (by omega)) ?_;apply Y;refine zs 2 fun _ Y=>?_;simp;apply Y;refine aF fun _ Y=>?_;simp;refine cT (aCo (kY (aJ x.l (aJ x.l id).parent).kids id) i id _ (by omega) (by omega)) ?_;apply Y;simp;apply Z;refine zk [3,6,7,10] ?_;refine bB fun _ _ Z=>?_;refine zs 2 fun _ Y=>?_;simp;apply Y;refine aF fun _ Y=>?_;simp;refine cT (oJ x { (aJ x.l (aJ x.l id).parent)with kids:=fQ (kY (aJ x.l (aJ x.l id).parent).kids id) i id } _ hx) ?_;apply Y;simp;apply Z;apply aC;have h7:¬(i:Int)<0:=by omega
 have h8:¬(aJ x.l (aJ x.l id).parent).kids.length<=i:=by omega
 simp [aH,movX, *]
def lA(n:ND)(K:List Int):ND:= { n with kids:=K }
def remP(l:List ND)(id:Int):List ND:=if fP l (aJ l id).parent=true then dK l (lA (aJ l (aJ l id).parent) (kY (aJ l (aJ l id).parent).kids id))else l
def Ck(l:List ND)(g:List Int):List ND:=l.filter fun n=> !g.any fun k=>decide (k=n.ID)
def remX(x:RD)(bel:Int->List Int)(id:Int):RD×Int:=
 if fP x.l id=false then(x,11)else if id=0 then(x,1)else(⟨x.most,x.next,Ck (remP x.l id) (bel id)⟩,0)
theorem yZ(l:List ND)(g:List Int)(k:Nat)(h:k<l.length):Ck (l.take (k+1)) g=Ck (l.take k) g++if(g.any fun k'=>decide (k'=l[k].ID))=true then [] else [l[k]]:=by
 unfold Ck;rw [bL l k h,fX,gQ];by_cases e:(g.any fun k'=>decide (k'=l[k].ID))=true <;> simp [e]
theorem Vl(l:List ND)(g:List Int):(Ck l g).length<=l.length:=jD _ _
def Cw(g:List Int)(n:ND)(j:Nat):Bool:= !(g.take j).any fun k=>decide (k=n.ID)
theorem vS(g:List Int)(n:ND)(j:Nat)(h:j<g.length):Cw g n (j+1)=(Cw g n j && !decide (g[j]=n.ID)):=by
 unfold Cw;rw [bL g j h,List.any_append];simp [-List.any_eq_true, -List.any_eq_false]
theorem Nq {g:List Int} {n:ND} {j:Nat} (h:g.length<=j):Cw g n j= !g.any fun k=>decide (k=n.ID):=by
 unfold Cw;rw [bZ h]
theorem NB.remP {l:List ND} (h:NB l)(id:Int):NB (remP l id):=by
 unfold Go.Proofs.YtbgfljpnhhdkoaaGreat.remP;split
 .have:=Jb (aJ l (aJ l id).parent).kids id;have h1:=h.fk (aJ l id).parent;exact h.put (by show(kY _ _).length<=1000;omega) (h.fc _) (h.fa _) (h.fs _)
 exact h
@[simp] abbrev q34_2:Cfg:=⟨[11,71],[],[],[],[]⟩
theorem aIy(x:RD)(id:Int)(bel:Int->List Int)(rk:Int->Nat)(σ:List (List D))(hx:NB x.l)(hp:fP x.l (aJ x.l id).parent=true)(ht:Tr (dK x.l (lA (aJ x.l (aJ x.l id).parent) (kY (aJ x.l (aJ x.l id).parent).kids id))) bel rk):Ct prog 141 [jQ x,D.int id] σ (fun r σ'=>r= .tup [jQ (remX x bel id).1,D.int (remX x bel id).2]/\σ'=σ):=by
 refine zf func141 ?_;have hfp:=hx.fk (aJ x.l id).parent;have hrl:=Jb (aJ x.l (aJ x.l id).parent).kids id;have hrp:remP x.l id=(dK x.l (lA (aJ x.l (aJ x.l id).parent) (kY (aJ x.l (aJ x.l id).parent).kids id))):=by unfold remP;simp [hp]
 have hx1:NB (dK x.l (lA (aJ x.l (aJ x.l id).parent) (kY (aJ x.l (aJ x.l id).parent).kids id))):=by rw [<- hrp];exact hx.remP id
 have hxl:=hx1.len;have hbl:=ht.len id;refine zr q34_2 fun _ _ Z=>?_;simp(disch:=omega)[hp];apply Z;refine zr q34_2 fun _ _ Z=>?_;refine zs 2 fun _ Y=>?_;simp(disch:=omega)[hp];apply Y;refine aF fun _ Y=>?_;simp(disch:=omega)[hp];refine cT (oK x id _ hx) ?_;apply Y;simp(disch:=omega)[hp];apply Z;apply aE;refine zr q34_2 fun _ _ Z=>?_;simp(disch:=omega)[hp];apply Z;refine zI ?_ ?_<;>intro c1<;>try simp at c1
 .refine zk [1,2,4,5,6] ?_;refine zr q34_2 fun _ _ Z=>?_;simp(disch:=omega)[hp];apply Z;apply aC;simp [aH,remX, *]
 apply zA;apply aE;refine zk [1,2,4,5,6] ?_;refine zr q34_2 fun _ _ Z=>?_;simp(disch:=omega)[hp];apply Z;refine zI ?_ ?_<;>intro c2<;>try simp at c2
 .refine zr q34_2 fun _ _ Z=>?_;simp(disch:=omega)[hp];apply Z;apply aC;subst c2;simp [aH,remX, *]
 apply zA;apply aE;refine zr q34_2 fun _ _ Z=>?_;refine zs 3 fun _ Y=>?_;simp(disch:=omega)[hp];apply Y;refine aF fun _ Y=>?_;simp(disch:=omega)[hp];refine cT (oK x (aJ x.l id).parent _ hx) ?_;apply Y;simp(disch:=omega)[hp];apply Z;refine zk [1,2,4,5,8,9] ?_;refine zr q34_2 fun _ _ Z=>?_;simp(disch:=omega)[hp];apply Z;refine zI ?_ ?_<;>intro c3<;>try simp at c3
 refine zr q34_2 fun _ _ Z=>?_;refine zs 3 fun _ Y=>?_;simp(disch:=omega)[hp];apply Y;refine aF fun _ Y=>?_;simp(disch:=omega)[hp];refine cT (Hw (aJ x.l (aJ x.l id).parent).kids id _ (by omega)) ?_;apply Y;simp(disch:=omega)[hp];apply Z;refine zk [1,2,4,5,8] ?_;refine zt q34_2 fun _ _ Z=>?_;refine zs 2 fun _ Y=>?_;simp(disch:=omega)[hp];apply Y;refine aF fun _ Y=>?_;simp(disch:=omega)[hp];refine cT (oJ x (lA (aJ x.l (aJ x.l id).parent) (kY (aJ x.l (aJ x.l id).parent).kids id)) _ hx) ?_;apply Y;simp(disch:=omega)[hp];apply Z;apply fW;refine zr q34_2 fun _ _ Z=>?_;refine zs 2 fun _ Y=>?_;simp(disch:=omega)[hp];apply Y;refine aF fun _ Y=>?_;simp(disch:=omega)[hp];refine cT (Lp (⟨x.most,x.next,(dK x.l (lA (aJ x.l (aJ x.l id).parent) (kY (aJ x.l (aJ x.l id).parent).kids id)))⟩:RD) id bel rk _ hx1 ht) ?_;apply Y;simp(disch:=omega)[hp];apply Z;refine zk [2,4,5,10] ?_;refine zr q34_2 fun _ _ Z=>?_;simp(disch:=omega)[hp];and_intros<;>(try omega);apply Z;apply aE;refine zr q34_2 fun _ _ Z=>?_;simp(disch:=omega)[hp];and_intros<;>(try omega);apply Z;apply aR;refine zk [2,4,5,10,11,50,51,52] ?_;refine aY (fun(k:Nat)=> [(52,.d (.v (.int .i64 (k:Int)))),(11,.d (.sl true ((Ck ((dK x.l (lA (aJ x.l (aJ x.l id).parent) (kY (aJ x.l (aJ x.l id).parent).kids id))).take k) (bel id)).map Fg))),(14,.d (.any)),(16,.d (.any))]) [11,13,14,16,52,53,54,55,56,57,58,59,60,61,62,63,64,65,66,67,68,69,70,71,72,73,74,75] (fun(k:Nat)=>k<=(dK x.l (lA (aJ x.l (aJ x.l id).parent) (kY (aJ x.l (aJ x.l id).parent).kids id))).length) (fun(k:Nat)=>(dK x.l (lA (aJ x.l (aJ x.l id).parent) (kY (aJ x.l (aJ x.l id).parent).kids id))).length - k) (0) (by simp <;> rfl) ?_ ?_ ?_
 .simp [Ck]
 .simp
 rintro k hk;simp only [aQ,aO];have hrf:=Vl ((dK x.l (lA (aJ x.l (aJ x.l id).parent) (kY (aJ x.l (aJ x.l id).parent).kids id))).take k) (bel id);simp only [bG] at hrf;refine zr q34_2 fun _ _ Z=>?_;simp(disch:=omega)[hp];apply Z;apply aE;refine zI ?_ ?_<;>intro c4<;>try simp at c4
 .apply jM;refine zr q34_2 fun _ _ Z=>?_;simp(disch:=omega)[hp];and_intros<;>(try omega);apply Z;refine zk [2,4,5,10,11,13,14,16,50,51,52] ?_;refine zr q34_2 fun _ _ Z=>?_;simp(disch:=omega)[hp];apply Z;apply aE;refine zk [2,4,5,10,11,13,14,16,50,51,52] ?_;refine zr q34_2 fun _ _ Z=>?_;simp(disch:=omega)[hp];and_intros<;>(try omega);apply Z;apply aR;refine zk [2,4,5,10,11,13,14,16,50,51,52,56,57,58] ?_;refine aY (fun(j:Nat)=> [(58,.d (.v (.int .i64 (j:Int)))),(14,.d (.bool (Cw (bel id) ((dK x.l (lA (aJ x.l (aJ x.l id).parent) (kY (aJ x.l (aJ x.l id).parent).kids id)))[k]) j))),(16,.d (.any))]) [14,16,58,59,60,61,62,63,64,65,66,67,68,69] (fun(j:Nat)=>j<=(bel id).length) (fun(j:Nat)=>(bel id).length - j) (0) (by simp <;> rfl) ?_ ?_ ?_
  .simp [Cw]
  .simp
  rintro j hj;simp only [aQ,aO];refine zk [2,4,5,10,11,13,14,16,50,51,52,56,57,58] ?_;refine zr q34_2 fun _ _ Z=>?_;simp(disch:=omega)[hp];apply Z;apply aE;refine zI ?_ ?_<;>intro c5<;>try simp at c5
  .apply jM;refine zk [2,4,5,10,11,13,14,16,50,51,52,56,57,58] ?_;refine zr q34_2 fun _ _ Z=>?_;simp(disch:=omega)[hp];and_intros<;>(try omega);apply Z;refine zk [2,4,5,10,11,13,14,16,50,51,52,56,57,58] ?_;refine ztg q34_2 fun all hall _ Z=>?_;have ga1:aN all 1=some 63:=hall 1;refine zs 2 fun _ Y=>?_;simp(disch:=omega)[hp,ga1];apply Y;refine zb 63 ?_ ?_<;>intro g6<;>try simp at g6
   .simp(disch:=omega)[hp,ga1];apply Z;apply zB;refine zk [2,4,5,10,11,13,14,16,50,51,52,56,57,58] ?_;refine zt q34_2 fun _ _ Z=>?_;simp(disch:=omega)[hp];and_intros<;>(try omega);apply Z;refine zq (j+1) ?_ ?_ ?_
    .omega
    .try dsimp only
     omega
    simp(disch:=omega)[hp,vS, *]
   simp(disch:=omega)[hp,ga1];apply Z;apply zB;refine zk [2,4,5,10,11,13,14,16,50,51,52,56,57,58] ?_;refine zt q34_2 fun _ _ Z=>?_;simp(disch:=omega)[hp];and_intros<;>(try omega);apply Z;refine zq (j+1) ?_ ?_ ?_
   .omega
   .try dsimp only
    omega
   simp(disch:=omega)[hp,vS, *]
  obtain rfl:j=(bel id).length:=by omega
  have hst:=Nq (n:=(dK x.l (lA (aJ x.l (aJ x.l id).parent) (kY (aJ x.l (aJ x.l id).parent).kids id)))[k]) (aW (bel id).length);apply zE;refine zk [2,4,5,10,11,13,14,16,50,51,52] ?_;refine zr q34_2 fun _ _ Z=>?_;simp(disch:=omega)[hp];apply Z;refine zI ?_ ?_<;>intro c7<;>try simp at c7
  .have hst2:((bel id).any fun q=>decide (q=(dK x.l (lA (aJ x.l (aJ x.l id).parent) (kY (aJ x.l (aJ x.l id).parent).kids id)))[k].ID))=false:=by rw [hst] at c7;simpa using c7
   refine zk [2,4,5,10,11,13,14,16,50,51,52] ?_;refine zt q34_2 fun _ _ Z=>?_;simp(disch:=omega)[hp];and_intros<;>(try omega);apply Z;apply zB;refine zk [2,4,5,10,11,14,16,50,51,52] ?_;refine zt q34_2 fun _ _ Z=>?_;simp(disch:=omega)[hp];and_intros<;>(try omega);apply Z;refine zq (k+1) ?_ ?_ ?_
   .omega
   .try dsimp only
    omega
   simp(disch:=omega)[hp,yZ,hst2]
  have hst2:((bel id).any fun q=>decide (q=(dK x.l (lA (aJ x.l (aJ x.l id).parent) (kY (aJ x.l (aJ x.l id).parent).kids id)))[k].ID))=true:=by rw [hst] at c7;simpa using c7
  apply mS;refine zk [2,4,5,10,11,14,16,50,51,52] ?_;refine zt q34_2 fun _ _ Z=>?_;simp(disch:=omega)[hp];and_intros<;>(try omega);apply Z;refine zq (k+1) ?_ ?_ ?_
  .omega
  .try dsimp only
   omega
  simp(disch:=omega)[hp,yZ,hst2]
 apply zE;refine zr q34_2 fun _ _ Z=>?_;simp(disch:=omega)[hp];apply Z;refine zk [2,4,5] ?_;refine zr q34_2 fun _ _ Z=>?_;simp(disch:=omega)[hp];apply Z;apply aC;simp [aH,remX,hrp,c1,c2];rw [bZ (by omega)]
theorem aKa(x:RD)(id:Int)(bel:Int->List Int)(rk:Int->Nat)(σ:List (List D))(hx:NB x.l)(hp:fP x.l (aJ x.l id).parent=false)(ht:Tr x.l bel rk):Ct prog 141 [jQ x,D.int id] σ (fun r σ'=>r= .tup [jQ (remX x bel id).1,D.int (remX x bel id).2]/\σ'=σ):=by
 refine zf func141 ?_;have hfp:=hx.fk (aJ x.l id).parent;have hrl:=Jb (aJ x.l (aJ x.l id).parent).kids id;have hrp:remP x.l id=x.l:=by unfold remP;simp [hp]
 have hx1:NB x.l:=by rw [<- hrp];exact hx.remP id
 have hxl:=hx1.len;have hbl:=ht.len id;refine zr q34_2 fun _ _ Z=>?_;simp(disch:=omega)[hp];apply Z;refine zr q34_2 fun _ _ Z=>?_;refine zs 2 fun _ Y=>?_;simp(disch:=omega)[hp];apply Y;refine aF fun _ Y=>?_;simp(disch:=omega)[hp];refine cT (oK x id _ hx) ?_;apply Y;simp(disch:=omega)[hp];apply Z;apply aE;refine zr q34_2 fun _ _ Z=>?_;simp(disch:=omega)[hp];apply Z;refine zI ?_ ?_<;>intro c1<;>try simp at c1
 .refine zk [1,2,4,5,6] ?_;refine zr q34_2 fun _ _ Z=>?_;simp(disch:=omega)[hp];apply Z;apply aC;simp [aH,remX, *]
 apply zA;apply aE;refine zk [1,2,4,5,6] ?_;refine zr q34_2 fun _ _ Z=>?_;simp(disch:=omega)[hp];apply Z;refine zI ?_ ?_<;>intro c2<;>try simp at c2
 .refine zr q34_2 fun _ _ Z=>?_;simp(disch:=omega)[hp];apply Z;apply aC;subst c2;simp [aH,remX, *]
 apply zA;apply aE;refine zr q34_2 fun _ _ Z=>?_;refine zs 3 fun _ Y=>?_;simp(disch:=omega)[hp];apply Y;refine aF fun _ Y=>?_;simp(disch:=omega)[hp];refine cT (oK x (aJ x.l id).parent _ hx) ?_;apply Y;simp(disch:=omega)[hp];apply Z;refine zk [1,2,4,5,8,9] ?_;refine zr q34_2 fun _ _ Z=>?_;simp(disch:=omega)[hp];apply Z;refine zI ?_ ?_<;>intro c3<;>try simp at c3
 apply zA;refine zr q34_2 fun _ _ Z=>?_;refine zs 2 fun _ Y=>?_;simp(disch:=omega)[hp];apply Y;refine aF fun _ Y=>?_;simp(disch:=omega)[hp];refine cT (Lp x id bel rk _ hx1 ht) ?_;apply Y;simp(disch:=omega)[hp];apply Z;refine zr q34_2 fun _ _ Z=>?_;simp(disch:=omega)[hp];and_intros<;>(try omega);apply Z;apply aE;refine zk [2,4,5,10,11] ?_;refine zr q34_2 fun _ _ Z=>?_;simp(disch:=omega)[hp];and_intros<;>(try omega);apply Z;apply aR;refine zk [2,4,5,10,11,50,51,52] ?_;refine aY (fun(k:Nat)=> [(52,.d (.v (.int .i64 (k:Int)))),(11,.d (.sl true ((Ck (x.l.take k) (bel id)).map Fg))),(14,.d (.any)),(16,.d (.any))]) [11,13,14,16,52,53,54,55,56,57,58,59,60,61,62,63,64,65,66,67,68,69,70,71,72,73,74,75] (fun(k:Nat)=>k<=x.l.length) (fun(k:Nat)=>x.l.length - k) (0) (by simp <;> rfl) ?_ ?_ ?_
 .simp [Ck]
 .simp
 rintro k hk;simp only [aQ,aO];have hrf:=Vl (x.l.take k) (bel id);simp only [bG] at hrf;refine zr q34_2 fun _ _ Z=>?_;simp(disch:=omega)[hp];apply Z;apply aE;refine zI ?_ ?_<;>intro c4<;>try simp at c4
 .apply jM;refine zr q34_2 fun _ _ Z=>?_;simp(disch:=omega)[hp];and_intros<;>(try omega);apply Z;refine zk [2,4,5,10,11,13,14,16,50,51,52] ?_;refine zr q34_2 fun _ _ Z=>?_;simp(disch:=omega)[hp];apply Z;apply aE;refine zk [2,4,5,10,11,13,14,16,50,51,52] ?_;refine zr q34_2 fun _ _ Z=>?_;simp(disch:=omega)[hp];and_intros<;>(try omega);apply Z;apply aR;refine zk [2,4,5,10,11,13,14,16,50,51,52,56,57,58] ?_;refine aY (fun(j:Nat)=> [(58,.d (.v (.int .i64 (j:Int)))),(14,.d (.bool (Cw (bel id) (x.l[k]) j))),(16,.d (.any))]) [14,16,58,59,60,61,62,63,64,65,66,67,68,69] (fun(j:Nat)=>j<=(bel id).length) (fun(j:Nat)=>(bel id).length - j) (0) (by simp <;> rfl) ?_ ?_ ?_
  .simp [Cw]
  .simp
  rintro j hj;simp only [aQ,aO];refine zk [2,4,5,10,11,13,14,16,50,51,52,56,57,58] ?_;refine zr q34_2 fun _ _ Z=>?_;simp(disch:=omega)[hp];apply Z;apply aE;refine zI ?_ ?_<;>intro c5<;>try simp at c5
  .apply jM;refine zk [2,4,5,10,11,13,14,16,50,51,52,56,57,58] ?_;refine zr q34_2 fun _ _ Z=>?_;simp(disch:=omega)[hp];and_intros<;>(try omega);apply Z;refine zk [2,4,5,10,11,13,14,16,50,51,52,56,57,58] ?_;refine ztg q34_2 fun all hall _ Z=>?_;have ga1:aN all 1=some 63:=hall 1;refine zs 2 fun _ Y=>?_;simp(disch:=omega)[hp,ga1];apply Y;refine zb 63 ?_ ?_<;>intro g6<;>try simp at g6
   .simp(disch:=omega)[hp,ga1];apply Z;apply zB;refine zk [2,4,5,10,11,13,14,16,50,51,52,56,57,58] ?_;refine zt q34_2 fun _ _ Z=>?_;simp(disch:=omega)[hp];and_intros<;>(try omega);apply Z;refine zq (j+1) ?_ ?_ ?_
    .omega
    .try dsimp only
     omega
    simp(disch:=omega)[hp,vS, *]
   simp(disch:=omega)[hp,ga1];apply Z;apply zB;refine zk [2,4,5,10,11,13,14,16,50,51,52,56,57,58] ?_;refine zt q34_2 fun _ _ Z=>?_;simp(disch:=omega)[hp];and_intros<;>(try omega);apply Z;refine zq (j+1) ?_ ?_ ?_
   .omega
   .try dsimp only
    omega
   simp(disch:=omega)[hp,vS, *]
  obtain rfl:j=(bel id).length:=by omega
  have hst:=Nq (n:=x.l[k]) (aW (bel id).length);apply zE;refine zk [2,4,5,10,11,13,14,16,50,51,52] ?_;refine zr q34_2 fun _ _ Z=>?_;simp(disch:=omega)[hp];apply Z;refine zI ?_ ?_<;>intro c7<;>try simp at c7
  .have hst2:((bel id).any fun q=>decide (q=x.l[k].ID))=false:=by rw [hst] at c7;simpa using c7
   refine zk [2,4,5,10,11,13,14,16,50,51,52] ?_;refine zt q34_2 fun _ _ Z=>?_;simp(disch:=omega)[hp];and_intros<;>(try omega);apply Z;apply zB;refine zk [2,4,5,10,11,14,16,50,51,52] ?_;refine zt q34_2 fun _ _ Z=>?_;simp(disch:=omega)[hp];and_intros<;>(try omega);apply Z;refine zq (k+1) ?_ ?_ ?_
   .omega
   .try dsimp only
    omega
   simp(disch:=omega)[hp,yZ,hst2]
  have hst2:((bel id).any fun q=>decide (q=x.l[k].ID))=true:=by rw [hst] at c7;simpa using c7
  apply mS;refine zk [2,4,5,10,11,14,16,50,51,52] ?_;refine zt q34_2 fun _ _ Z=>?_;simp(disch:=omega)[hp];and_intros<;>(try omega);apply Z;refine zq (k+1) ?_ ?_ ?_
  .omega
  .try dsimp only
   omega
  simp(disch:=omega)[hp,yZ,hst2]
 apply zE;refine zr q34_2 fun _ _ Z=>?_;simp(disch:=omega)[hp];apply Z;refine zk [2,4,5] ?_;refine zr q34_2 fun _ _ Z=>?_;simp(disch:=omega)[hp];apply Z;apply aC;simp [aH,remX,hrp,c1,c2];rw [bZ (by omega)]
theorem aQh(x:RD)(id:Int)(bel:Int->List Int)(rk:Int->Nat)(σ:List (List D))(hx:NB x.l)(ht:Tr (remP x.l id) bel rk):Ct prog 141 [jQ x,D.int id] σ (fun r σ'=>r= .tup [jQ (remX x bel id).1,D.int (remX x bel id).2]/\σ'=σ):=by
 cases hp:fP x.l (aJ x.l id).parent with
 | true=>exact aIy x id bel rk σ hx hp (by unfold remP at ht;rwa [aK hp] at ht)
 | false=>exact aKa x id bel rk σ hx hp (by unfold remP at ht;rwa [aD (by rw [hp];simp)] at ht)
end Go.Proofs.YtbgfljpnhhdkoaaGreat

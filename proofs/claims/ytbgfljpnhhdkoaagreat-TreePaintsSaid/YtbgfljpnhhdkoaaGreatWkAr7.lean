import Derived.Test.YtbgfljpnhhdkoaaGreatWkAr6
set_option maxRecDepth 20000
set_option linter.all false
set_option maxHeartbeats 8000000
open Go.Proofs.Tryz
namespace Go.Proofs.YtbgfljpnhhdkoaaGreat
open Go Go.Vm
structure ND where
 ID:Int
 kind:Int
 tag:ByteArray
 text:ByteArray
 classes:(List ByteArray)
 attrs:(List AT)
 styles:(List PI)
 parent:Int
 kids:(List Int)
 deriving DecidableEq
@[simp] abbrev Gj(s:ND):D:= .agg [.v (.int .i64 s.ID),.v (.int .i64 s.kind),.v (.string s.tag),.v (.string s.text),.sl false (s.classes.map D.str),.sl false (s.attrs.map cY),.sl false (s.styles.map cR),.v (.int .i64 s.parent),.sl false (s.kids.map D.int)]
@[simp] abbrev aXk(s:ND):D:= .agg [.v (.int .i64 s.ID),.v (.int .i64 s.kind),.v (.string s.tag),.v (.string s.text),.sl true (s.classes.map D.str),.sl true (s.attrs.map cY),.sl true (s.styles.map cR),.v (.int .i64 s.parent),.sl true (s.kids.map D.int)]
structure RD where
 most:Int
 next:Int
 l:(List ND)
 deriving DecidableEq
@[simp] abbrev jQ(s:RD):D:= .agg [.v (.int .i64 s.most),.v (.int .i64 s.next),.sl false (s.l.map Gj)]
@[simp] abbrev bA4(s:RD):D:= .agg [.v (.int .i64 s.most),.v (.int .i64 s.next),.sl true (s.l.map Gj)]
def Ts:ND:=⟨0,0,⟨#[]⟩,⟨#[]⟩, [], [], [],0, []⟩
def kV(l:List ND)(id:Int):Option ND:=l.find? fun n=>decide (n.ID=id)
def aL(l:List ND)(id:Int):ND:=(kV l id).getD Ts
def fO(l:List ND)(id:Int):Bool:=(kV l id).isSome
def dJ(l:List ND)(n:ND):List ND:=l.map fun x=>if x.ID=n.ID then n else x
theorem aK2 {l:List ND} {id:Int} {k:Nat} (h:k<l.length)(hh:∀n∈l.take k,decide (n.ID=id)=false)(e:l[k].ID=id):kV l id=some l[k]:=by
 unfold kV;rw [List.find?_eq_some_iff_getElem];refine⟨by simpa using e,k,h,rfl,fun j hj=>?_⟩;have:=hh (l[j]'(by omega)) (by rw [List.mem_take_iff_getElem];exact⟨j,by omega,rfl⟩);simpa using this
theorem Xr {l:List ND} {id:Int} (hh:∀n∈l,decide (n.ID=id)=false):kV l id=none:=by
 unfold kV;rw [sM];intro n hn;simpa using hh n hn
structure NB(l:List ND):Prop where
 len:l.length<=1000
 kids:∀n∈l,n.kids.length<=1000
 cls:∀n∈l,n.classes.length<=1000
 ats:∀n∈l,n.attrs.length<=1000
 sts:∀n∈l,n.styles.length<=1000
theorem oT {l:List ND} {id:Int} {n:ND} (h:kV l id=some n):n∈l/\n.ID=id:=by
 unfold kV at h;exact⟨Pp h,by simpa using List.find?_some h⟩
theorem NB.fk {l:List ND} (h:NB l)(id:Int):(aL l id).kids.length<=1000:=by
 unfold aL;cases e:kV l id with
 | none=>simp [Ts]
 | some n=>exact h.kids n (oT e).1
theorem NB.fc {l:List ND} (h:NB l)(id:Int):(aL l id).classes.length<=1000:=by
 unfold aL;cases e:kV l id with
 | none=>simp [Ts]
 | some n=>exact h.cls n (oT e).1
theorem NB.fa {l:List ND} (h:NB l)(id:Int):(aL l id).attrs.length<=1000:=by
 unfold aL;cases e:kV l id with
 | none=>simp [Ts]
 | some n=>exact h.ats n (oT e).1
theorem NB.fs {l:List ND} (h:NB l)(id:Int):(aL l id).styles.length<=1000:=by
 unfold aL;cases e:kV l id with
 | none=>simp [Ts]
 | some n=>exact h.sts n (oT e).1
theorem Pe(l:List ND)(n:ND)(k:Nat)(h:k<l.length):dJ (l.take (k+1)) n=dJ (l.take k) n++ [if l[k].ID=n.ID then n else l[k]]:=by
 unfold dJ;rw [bJ l k h,cZ];rfl
theorem Vk(l:List ND)(n:ND):(dJ l n).length=l.length:=by simp [dJ]
def Zy(l:List ND)(id:Int):D:=if fO l id=true then Gj (aL l id)else aXk Ts
theorem aL2(x:RD)(id:Int)(σ:List (List D))(hx:NB x.l):Ct prog 21 [jQ x,D.int id] σ (fun r σ'=>r= .tup [Zy x.l id,.bool (fO x.l id)]/\σ'=σ):=by
 refine zf func21 ?_;have hxl:=hx.len;refine aZ fun _ _ Z=>?_;simp(disch:=omega);apply Z;apply aF;refine aZ fun _ _ Z=>?_;simp(disch:=omega);and_intros<;>(try omega);apply Z;apply aR;refine zk [1,4,5,9,10,11] ?_;refine bA (fun(k:Nat)=> [(11,.d (.v (.int .i64 (k:Int))))]) [5,7,11,12,13,14,15,16,17,18,19,20] (fun(k:Nat)=>k<=x.l.length/\∀n∈x.l.take k,decide (n.ID=id)=false) (fun(k:Nat)=>x.l.length - k) (0) (by simp <;> rfl) ?_ ?_ ?_
 .simp
 .simp
 rintro k ⟨hk,hh⟩;simp only [aQ,aP];refine aZ fun _ _ Z=>?_;simp(disch:=omega);apply Z;apply aF;refine zI ?_ ?_<;>intro c1<;>try simp at c1
 .apply kB;refine aZ fun _ _ Z=>?_;simp(disch:=omega);and_intros<;>(try omega);apply Z;refine aZ fun _ _ Z=>?_;simp(disch:=omega);apply Z;refine zI ?_ ?_<;>intro c2<;>try simp at c2
  .refine zk [1,4,7,9,10,11] ?_;refine aZ fun _ _ Z=>?_;simp(disch:=omega);apply Z;apply aD;have hf:=aK2 c1 hh c2;simp [aJ,Zy,aL,fO,hf]
  apply nD;refine zk [1,4,9,10,11] ?_;refine mD fun _ _ Z=>?_;simp(disch:=omega);and_intros<;>(try omega);apply Z;refine zq (k+1) ?_ ?_ ?_
  .exact⟨by omega,uH (by omega) hh (by simpa using c2)⟩
  .try dsimp only
   omega
  simp(disch:=omega)
 apply zE;refine aZ fun _ _ Z=>?_;simp(disch:=omega);apply Z;apply aD;rw [bZ (by omega)] at hh;have hf:=Xr hh;simp [aJ,Zy,aL,fO,hf,Ts]
theorem oQ(x:RD)(id:Int)(σ:List (List D))(hx:NB x.l):Ct prog 21 [jQ x,D.int id] σ (fun r σ'=>r= .tup [Gj (aL x.l id),.bool (fO x.l id)]/\σ'=σ):=
 (aL2 x id σ hx).strip fun r σ' ⟨hr,hs⟩=>by
  subst hr;have hd:(fO x.l id=true->aL x.l id=aL x.l id):=fun _=>rfl;by_cases e:fO x.l id=true
  .refine⟨by simp [Zy,e,D.plain],?_,hs⟩;simp [Zy,e,D.strip,D.s2,D.s1]
  have hz:aL x.l id=Ts:=by
   unfold aL;unfold fO at e;cases hq:kV x.l id with
   | none=>rfl
   | some n=>rw [hq] at e;exact absurd rfl e
  refine⟨by simp [Zy,e,D.plain],?_,hs⟩;simp [Zy,e,D.strip,D.s2,D.s1,hz,Ts]
theorem oP(x:RD)(n:ND)(σ:List (List D))(hx:NB x.l):Ct prog 79 [jQ x,Gj n] σ (fun r σ'=>r=jQ ⟨x.most,x.next,dJ x.l n⟩/\σ'=σ):=by
 refine zf func79 ?_;have hxl:=hx.len;refine zr ⟨[5,22],[],[],[],[]⟩ fun _ _ Z=>?_;simp(disch:=omega);apply Z;refine zr ⟨[5,22],[],[],[],[]⟩ fun _ _ Z=>?_;simp(disch:=omega);and_intros<;>(try omega);apply Z;apply aF;refine zr ⟨[5,22],[],[],[],[]⟩ fun _ _ Z=>?_;simp(disch:=omega);and_intros<;>(try omega);apply Z;apply aR;refine zk [2,3,4,5,10,11,12] ?_;refine bA (fun(k:Nat)=> [(12,.d (.v (.int .i64 (k:Int)))),(5,.d (.sl true ((dJ (x.l.take k) n).map Gj)))]) [5,7,12,13,14,15,16,17,18,19,20,21,22,23,24,25,26] (fun(k:Nat)=>k<=x.l.length) (fun(k:Nat)=>x.l.length - k) (0) (by simp <;> rfl) ?_ ?_ ?_
 .simp [dJ]
 .simp
 rintro k hk;simp only [aQ,aP];have hpl:=Vk (x.l.take k) n;simp only [bG] at hpl;refine zr ⟨[5,22],[],[],[],[]⟩ fun _ _ Z=>?_;simp(disch:=omega);apply Z;apply aF;refine zI ?_ ?_<;>intro c1<;>try simp at c1
 .apply kB;refine zr ⟨[5,22],[],[],[],[]⟩ fun _ _ Z=>?_;simp(disch:=omega);and_intros<;>(try omega);apply Z;apply aF;refine zr ⟨[5,22],[],[],[],[]⟩ fun _ _ Z=>?_;simp(disch:=omega);apply Z;refine zI ?_ ?_<;>intro c2<;>try simp at c2
  .refine zk [2,3,4,5,7,10,11,12] ?_;refine zt ⟨[5,22],[],[],[],[]⟩ fun _ _ Z=>?_;simp(disch:=omega);apply Z;apply bY;refine zt ⟨[5,22],[],[],[],[]⟩ fun _ _ Z=>?_;simp(disch:=omega);and_intros<;>(try omega);apply Z;apply zB;refine zk [2,3,4,5,10,11,12] ?_;refine zt ⟨[5,22],[],[],[],[]⟩ fun _ _ Z=>?_;simp(disch:=omega);and_intros<;>(try omega);apply Z;refine zq (k+1) ?_ ?_ ?_
   .omega
   .try dsimp only
    omega
   simp(disch:=omega)[Pe, *]
  apply zA;refine zk [2,3,4,5,7,10,11,12] ?_;refine zt ⟨[5,22],[],[],[],[]⟩ fun _ _ Z=>?_;simp(disch:=omega);and_intros<;>(try omega);apply Z;apply zB;refine zk [2,3,4,5,10,11,12] ?_;refine zt ⟨[5,22],[],[],[],[]⟩ fun _ _ Z=>?_;simp(disch:=omega);and_intros<;>(try omega);apply Z;refine zq (k+1) ?_ ?_ ?_
  .omega
  .try dsimp only
   omega
  simp(disch:=omega)[Pe, *]
 apply zE;refine zr ⟨[5,22],[],[],[],[]⟩ fun _ _ Z=>?_;simp(disch:=omega);apply Z;refine zr ⟨[5,22],[],[],[],[]⟩ fun _ _ Z=>?_;simp(disch:=omega);apply Z;apply aD;simp [aJ];rw [bZ (by omega)]
structure Tr(l:List ND)(bel:Int->List Int)(rk:Int->Nat):Prop where
 eq:∀id,bel id=id::(aL l id).kids.flatMap bel
 dec:∀id,∀k∈(aL l id).kids,rk k<rk id
 len:∀id,(bel id).length<=10000
theorem aPl(bel:Int->List Int)(K:List Int)(k:Nat)(h:k<K.length):(K.take (k+1)).flatMap bel=(K.take k).flatMap bel++bel K[k]:=by
 rw [bJ K k h,gV];simp
theorem Uy(bel:Int->List Int)(K:List Int)(k:Nat):((K.take k).flatMap bel).length<=(K.flatMap bel).length:=by
 conv=>rhs;rw [<- fH k K,gV,bB]
 omega
theorem Tr.fl {l:List ND} {bel:Int->List Int} {rk:Int->Nat} (h:Tr l bel rk)(id:Int):((aL l id).kids.flatMap bel).length+1<=10000:=by
 have:=h.len id;rw [h.eq id] at this;simpa using this
@[simp] abbrev q31_1:Cfg:=⟨[4,7,25,31],[],[],[],[]⟩
theorem Pl(x:RD)(id:Int)(bel:Int->List Int)(rk:Int->Nat)(σ:List (List D))(hx:NB x.l)(ht:Tr x.l bel rk)(ih:∀k∈(aL x.l id).kids,∀σ,Ct prog 85 [jQ x,D.int k] σ (fun r σ'=>r= .sl true ((bel k).map D.int)/\σ'=σ)):Ct prog 85 [jQ x,D.int id] σ (fun r σ'=>r= .sl true ((bel id).map D.int)/\σ'=σ):=by
 refine zf func85 ?_;have hk:=hx.fk id;have hfl:=ht.fl id;refine zr q31_1 fun _ _ Z=>?_;simp(disch:=omega);and_intros<;>(try omega)
 all_goals first | (intro a x1 x2 _ _ h;subst h;rfl) | skip
 apply Z;refine zr q31_1 fun _ _ Z=>?_;refine zs 2 fun _ Y=>?_;simp(disch:=omega);and_intros<;>(try omega)
 all_goals first | (intro a x1 x2 _ _ h;subst h;rfl) | skip
 apply Y;refine aE fun _ Y=>?_;simp(disch:=omega);refine bS (oQ x id _ hx) ?_;apply Y;simp(disch:=omega);and_intros<;>(try omega)
 all_goals first | (intro a x1 x2 _ _ h;subst h;rfl) | skip
 apply Z;refine zr q31_1 fun _ _ Z=>?_;simp(disch:=omega);and_intros<;>(try omega)
 all_goals first | (intro a x1 x2 _ _ h;subst h;rfl) | skip
 apply Z;apply aF;refine zk [2,4,5,7] ?_;refine zr q31_1 fun _ _ Z=>?_;simp(disch:=omega);and_intros<;>(try omega)
 all_goals first | (intro a x1 x2 _ _ h;subst h;rfl) | skip
 apply Z;apply aR;refine zk [2,4,7,19,20,21] ?_;refine bA (fun(k:Nat)=> [(21,.d (.v (.int .i64 (k:Int)))),(7,.d (.sl true ((id::((aL x.l id).kids.take k).flatMap bel).map D.int))),(9,.d (.any))]) [7,9,21,22,23,24,25,26,27,28,29,30] (fun(k:Nat)=>k<=(aL x.l id).kids.length) (fun(k:Nat)=>(aL x.l id).kids.length - k) (0) (by simp <;> rfl) ?_ ?_ ?_
 .simp
 .simp
 rintro k hk2;simp only [aQ,aP];have hfl2:=Uy bel (aL x.l id).kids k;simp only [List.length_flatMap,yL] at hfl2 hfl;refine zr q31_1 fun _ _ Z=>?_;simp(disch:=omega);and_intros<;>(try omega)
 all_goals first | (intro a x1 x2 _ _ h;subst h;rfl) | skip
 apply Z;apply aF;refine zI ?_ ?_<;>intro c1<;>try simp at c1
 .have hkk:k<(aL x.l id).kids.length:=by omega
  have hl28:=ht.len ((aL x.l id).kids[k]);apply kB;refine zr q31_1 fun _ _ Z=>?_;simp(disch:=omega);and_intros<;>(try omega)
  all_goals first | (intro a x1 x2 _ _ h;subst h;rfl) | skip
  apply Z;refine zt q31_1 fun _ _ Z=>?_;refine zs 3 fun _ Y=>?_;simp(disch:=omega);and_intros<;>(try omega)
  all_goals first | (intro a x1 x2 _ _ h;subst h;rfl) | skip
  apply Y;refine aE fun _ Y=>?_;simp(disch:=omega);refine bS (ih _ (cJ hkk) _) ?_;apply Y;simp(disch:=omega);and_intros<;>(try omega)
  all_goals first | (intro a x1 x2 _ _ h;subst h;rfl) | skip
  apply Z;apply zB;refine zk [2,4,7,9,19,20,21] ?_;refine zt q31_1 fun _ _ Z=>?_;simp(disch:=omega);and_intros<;>(try omega)
  all_goals first | (intro a x1 x2 _ _ h;subst h;rfl) | skip
  apply Z;refine zq (k+1) ?_ ?_ ?_
  .omega
  .try dsimp only
   omega
  simp(disch:=omega)[aPl]
 apply zE;refine zr q31_1 fun _ _ Z=>?_;simp(disch:=omega);and_intros<;>(try omega)
 all_goals first | (intro a x1 x2 _ _ h;subst h;rfl) | skip
 apply Z;apply aD;simp [aJ];rw [ht.eq id,bZ (by omega)];simp
theorem Jf(x:RD)(id:Int)(bel:Int->List Int)(rk:Int->Nat)(σ:List (List D))(hx:NB x.l)(ht:Tr x.l bel rk):Ct prog 85 [jQ x,D.int id] σ (fun r σ'=>r= .sl true ((bel id).map D.int)/\σ'=σ):=by
 have key:∀(m:Nat) (id:Int) (σ:List (List D)),rk id<=m->Ct prog 85 [jQ x,D.int id] σ (fun r σ'=>r= .sl true ((bel id).map D.int)/\σ'=σ):=by
  intro m;induction m with
  | zero=>exact fun id σ h=>Pl x id bel rk σ hx ht fun k hk=>absurd (ht.dec id k hk) (by omega)
  | succ m ih=>exact fun id σ h=>Pl x id bel rk σ hx ht fun k hk τ=>ih k τ (by have:=ht.dec id k hk;omega)
 exact key (rk id) id σ (aY _)
def oJ(l:List ND)(bel:Int->List Int)(id of_:Int):Bool:=fO l id && fO l of_ && (bel of_).any fun k=>decide (k=id)
def aTv(l:List ND)(id:Int):Int:=if fO l id=true/\0<=(aL l id).parent then aGx id (aL l (aL l id).parent).kids else -1
theorem aAt(x:RD)(id of_:Int)(bel:Int->List Int)(rk:Int->Nat)(σ:List (List D))(hx:NB x.l)(ht:Tr x.l bel rk):Ct prog 69 [jQ x,D.int id,D.int of_] σ (fun r σ'=>r= .bool (oJ x.l bel id of_)/\σ'=σ):=by
 refine zf func69 ?_;have hbl:=ht.len of_;refine aZ fun _ _ Z=>?_;simp(disch:=omega);apply Z;refine aZ fun _ _ Z=>?_;refine zs 2 fun _ Y=>?_;simp(disch:=omega);apply Y;refine aE fun _ Y=>?_;simp(disch:=omega);refine bS (oQ x id _ hx) ?_;apply Y;simp(disch:=omega);apply Z;refine aZ fun _ _ Z=>?_;refine zs 2 fun _ Y=>?_;simp(disch:=omega);apply Y;refine aE fun _ Y=>?_;simp(disch:=omega);refine bS (oQ x of_ _ hx) ?_;apply Y;simp(disch:=omega);apply Z;apply aF;refine zk [1,2,3,6,8,10] ?_;refine iU ⟨[],[],[],[],[]⟩ fun all hall _ Z=>?_;have ga2:aK all 2=some 27:=hall 2;refine zs 3 fun _ Y=>?_;simp(disch:=omega)[ga2];apply Y;refine zb 27 ?_ ?_<;>intro g1<;>try simp at g1
 .simp(disch:=omega)[ga2];apply Z;refine aV (t:=true) (by simp) (fun _=>?_) (fun h=>by cases h);refine zk [1,2,3,6] ?_;refine aZ fun _ _ Z=>?_;simp(disch:=omega);apply Z;apply aD;simp [aJ,oJ, *]
 simp(disch:=omega)[ga2];apply Z;refine zI ?_ ?_<;>intro c2<;>try simp at c2
 .refine zk [1,2,3,6] ?_;refine aZ fun _ _ Z=>?_;simp(disch:=omega);apply Z;apply aD;simp [aJ,oJ, *]
 apply zA;apply aF;refine zk [1,2,3,6] ?_;refine aZ fun _ _ Z=>?_;refine zs 2 fun _ Y=>?_;simp(disch:=omega);apply Y;refine aE fun _ Y=>?_;simp(disch:=omega);refine bS (Jf x of_ bel rk _ hx ht) ?_;apply Y;simp(disch:=omega);and_intros<;>(try omega);apply Z;apply aR;refine zk [1,6,33,34,35] ?_;refine bA (fun(k:Nat)=> [(35,.d (.v (.int .i64 (k:Int)))),(12,.d (.any))]) [6,12,35,36,37,38,39,40,41,42] (fun(k:Nat)=>k<=(bel of_).length/\∀y∈(bel of_).take k,decide (y=id)=false) (fun(k:Nat)=>(bel of_).length - k) (0) (by simp <;> rfl) ?_ ?_ ?_
 .simp
 .simp
 rintro k ⟨hk,hh⟩;simp only [aQ,aP];refine aZ fun _ _ Z=>?_;simp(disch:=omega);apply Z;apply aF;refine zI ?_ ?_<;>intro c3<;>try simp at c3
 .apply kB;refine aZ fun _ _ Z=>?_;simp(disch:=omega);and_intros<;>(try omega);apply Z;refine aZ fun _ _ Z=>?_;simp(disch:=omega);apply Z;refine zI ?_ ?_<;>intro c4<;>try simp at c4
  .refine zk [1,12,33,34,35] ?_;refine aZ fun _ _ Z=>?_;simp(disch:=omega);apply Z;apply aD;simp [aJ];unfold oJ;rw [g1,c2,nR,nR,nN];exact⟨_,cJ c3,by simpa using c4⟩
  apply nD;refine zk [1,12,33,34,35] ?_;refine mD fun _ _ Z=>?_;simp(disch:=omega);and_intros<;>(try omega);apply Z;refine zq (k+1) ?_ ?_ ?_
  .exact⟨by omega,uH (by omega) hh (by simpa using c4)⟩
  .try dsimp only
   omega
  simp(disch:=omega)
 apply zE;refine aZ fun _ _ Z=>?_;simp(disch:=omega);apply Z;apply aD;simp [aJ];rw [bZ (by omega)] at hh;unfold oJ;rw [g1,c2,nR,nR,nQ];exact fun y hy=>by simpa using hh y hy
def iD(id kind:Int)(s:ByteArray):ND:=⟨id,kind,if kind=2 then s else⟨#[]⟩,if kind=2 then⟨#[]⟩else s, [], [], [], -1, []⟩
def addX(x:RD)(kind:Int)(s:ByteArray):RD×Int×Int:=if kind=2/\dH s=false then(x,0,2)else if x.most<(x.l.length:Int)then(x,0,8)else(⟨x.most,x.next+1,x.l++ [iD x.next kind s]⟩,x.next,0)
def nK:ND:=⟨0,2,⟨#[114,111,111,116]⟩,⟨#[]⟩, [], [], [], -1, []⟩
def newX(most:Int):RD:=⟨max 1 (min most 65536),1, [nK]⟩
theorem aVk(N:Nat)(x:AT):Sc N (cY x):=Sc.agg fun d hd=>by
 simp only [bQ,gS,gW] at hd;rcases hd with rfl | rfl <;> exact Sc.v _
theorem aVr(N:Nat)(x:PI):Sc N (cR x):=Sc.agg fun d hd=>by
 simp only [bQ,gS,gW] at hd;rcases hd with rfl | rfl <;> exact Sc.v _
theorem aLt(N:Nat)(x:ND):Sc N (Gj x):=Sc.agg fun d hd=>by
 simp only [bQ,gS,gW] at hd;rcases hd with rfl | rfl | rfl | rfl | rfl | rfl | rfl | rfl | rfl
 .exact Sc.v _
 .exact Sc.v _
 .exact Sc.v _
 .exact Sc.v _
 .exact Sc.sl (Sc.map fun a=>Sc.v _)
 .exact Sc.sl (Sc.map fun a=>aVk _ a)
 .exact Sc.sl (Sc.map fun a=>aVr _ a)
 .exact Sc.v _
 exact Sc.sl (Sc.map fun a=>Sc.v _)
theorem aXi(N:Nat)(x:RD):Sc N (jQ x):=Sc.agg fun d hd=>by
 simp only [bQ,gS,gW] at hd;rcases hd with rfl | rfl | rfl
 .exact Sc.v _
 .exact Sc.v _
 exact Sc.sl (Sc.map fun a=>aLt _ a)
theorem Sv {N:Nat} {a b:D} (h1:Sc N a)(h2:Sc N b):Sc N (.tup [a,b]):=Sc.tup fun d hd=>by
 simp only [bQ,gS,gW] at hd;rcases hd with rfl | rfl <;> assumption
theorem aOb {N:Nat} {a b c:D} (h1:Sc N a)(h2:Sc N b)(h3:Sc N c):Sc N (.tup [a,b,c]):=Sc.tup fun d hd=>by
 simp only [bQ,gS,gW] at hd;rcases hd with rfl | rfl | rfl <;> assumption
theorem aIo(x:RD)(kind:Int)(s:ByteArray)(σ:List (List D))(hx:NB x.l)(hn:0<=x.next/\x.next<=1000000)(hs:s.size<=1000):Ct prog 134 [jQ x,D.int kind,D.str s] σ (fun r σ'=>r= .tup [jQ (addX x kind s).1,D.int (addX x kind s).2.1,D.int (addX x kind s).2.2]/\∃J,σ'=σ++J):=by
 refine zf func134 ?_;have hxl:=hx.len;refine zr ⟨[],[],[9],[],[]⟩ fun _ _ Z=>?_;simp[aB,aC,bI,aW,aH,aG];apply Z;apply aF;refine iU ⟨[],[],[9],[],[]⟩ fun all hall _ Z=>?_;have ga2:aK all 2=some 12:=hall 2;refine zs 3 fun _ Y=>?_;simp[aB,aC,bI,aW,aH,aG,ga2];apply Y;refine zb 12 ?_ ?_<;>intro g1<;>try simp at g1
 .refine zs 1 fun _ Y=>?_;simp[aB,aC,bI,aW,aH,aG,ga2];apply Y;refine zg ga2 fun _ Y=>?_;simp[aB,aC,bI,aW,aH,aG,ga2];refine bS (xB s _ (by omega)) ?_;apply Y;simp[aB,aC,bI,aW,aH,aG,ga2];apply Z;refine zI ?_ ?_<;>intro c2<;>try simp at c2
  .refine zr ⟨[],[],[9],[],[]⟩ fun _ _ Z=>?_;simp[aB,aC,bI,aW,aH,aG];apply Z;apply aD;first | (simp [aJ,addX,iD, *];done) | (have h3:¬x.most<(x.l.length:Int):=(by omega);simp [aJ,addX,iD, *])
  apply zA;apply aF;refine zr ⟨[],[],[9],[],[]⟩ fun _ _ Z=>?_;simp[aB,aC,bI,aW,aH,aG];and_intros<;>(try omega);apply Z;refine zI ?_ ?_<;>intro c3<;>try simp at c3
  .refine zk [1,2,3,6,7,8] ?_;refine zr ⟨[],[],[9],[],[]⟩ fun _ _ Z=>?_;simp[aB,aC,bI,aW,aH,aG];apply Z;apply aD;first | (simp [aJ,addX,iD, *];done) | (have h3:¬x.most<(x.l.length:Int):=(by omega);simp [aJ,addX,iD, *])
  apply zA;refine zk [1,2,3,6,7,8] ?_;refine zr ⟨[],[],[9],[],[]⟩ fun _ _ Z=>?_;simp[aB,aC,bI,aW,aH,aG];and_intros<;>(try omega);apply Z;apply aF;refine zr ⟨[],[],[9],[],[]⟩ fun _ _ Z=>?_;simp[aB,aC,bI,aW,aH,aG];apply Z;refine zI ?_ ?_<;>intro c4<;>try simp at c4
  .refine zk [2,3,6,7,8,9] ?_;refine zt ⟨[],[],[9],[],[]⟩ fun _ _ Z=>?_;simp[aB,aC,bI,aW,aH,aG];apply Z;apply bY;refine zd ⟨[],[],[9],[],[]⟩ [.op {},.op {},.op {rL:=true},.op {},.op {rO:=true},.op {},.op {},.op {},.op {rL:=true,wL:=true}] fun all hall _ Z=>?_;refine lY 8 fun _ Y=>?_;simp[aB,aC,bI,aW,aH,aG];and_intros<;>(try omega);apply Y;simp[aB,aC,bI,aW,aH,aG];apply Z;refine zk [3,6,7,8,9] ?_;refine zr ⟨[],[],[9],[],[]⟩ fun _ _ Z=>?_;simp[aB,aC,bI,aW,aH,aG];and_intros<;>(try omega);apply Z;refine zd ⟨[],[],[9],[],[]⟩ [.op {rL:=true},.op {},.op {rO:=true},.op {rL:=true,wL:=true},.op {},.op {}] fun all hall _ Z=>?_;simp[aB,aC,bI,aW,aH,aG];apply Z;apply aD;first | (simp [aJ,addX,iD, *];done) | (have h3:¬x.most<(x.l.length:Int):=(by omega);simp [aJ,addX,iD, *])
  exact absurd g1 c4
 simp[aB,aC,bI,aW,aH,aG,ga2];apply Z;refine aV (t:=false) (by simp) (fun h=>by cases h) (fun _=>?_);apply zA;apply aF;refine zr ⟨[],[],[9],[],[]⟩ fun _ _ Z=>?_;simp[aB,aC,bI,aW,aH,aG];and_intros<;>(try omega);apply Z;refine zI ?_ ?_<;>intro c5<;>try simp at c5
 .refine zk [1,2,3,6,7,8] ?_;refine zr ⟨[],[],[9],[],[]⟩ fun _ _ Z=>?_;simp[aB,aC,bI,aW,aH,aG];apply Z;apply aD;first | (simp [aJ,addX,iD, *];done) | (have h3:¬x.most<(x.l.length:Int):=(by omega);simp [aJ,addX,iD, *])
 apply zA;refine zk [1,2,3,6,7,8] ?_;refine zr ⟨[],[],[9],[],[]⟩ fun _ _ Z=>?_;simp[aB,aC,bI,aW,aH,aG];and_intros<;>(try omega);apply Z;apply aF;refine zr ⟨[],[],[9],[],[]⟩ fun _ _ Z=>?_;simp[aB,aC,bI,aW,aH,aG];apply Z;refine zI ?_ ?_<;>intro c6<;>try simp at c6
 .exact absurd c6 g1
 refine zk [2,3,6,7,8,9] ?_;refine zt ⟨[],[],[9],[],[]⟩ fun _ _ Z=>?_;simp[aB,aC,bI,aW,aH,aG];apply Z;apply bY;refine zd ⟨[],[],[9],[],[]⟩ [.op {},.op {},.op {rL:=true},.op {},.op {rO:=true},.op {},.op {},.op {},.op {rL:=true,wL:=true}] fun all hall _ Z=>?_;refine lY 8 fun _ Y=>?_;simp[aB,aC,bI,aW,aH,aG];and_intros<;>(try omega);apply Y;simp[aB,aC,bI,aW,aH,aG];apply Z;refine zk [3,6,7,8,9] ?_;refine zr ⟨[],[],[9],[],[]⟩ fun _ _ Z=>?_;simp[aB,aC,bI,aW,aH,aG];and_intros<;>(try omega);apply Z;refine zd ⟨[],[],[9],[],[]⟩ [.op {rL:=true},.op {},.op {rO:=true},.op {rL:=true,wL:=true},.op {},.op {}] fun all hall _ Z=>?_;simp[aB,aC,bI,aW,aH,aG];apply Z;apply aD;first | (simp [aJ,addX,iD, *];done) | (have h3:¬x.most<(x.l.length:Int):=(by omega);simp [aJ,addX,iD, *])
theorem aBo(x:RD)(kind:Int)(s:ByteArray)(σ:List (List D))(hx:NB x.l)(hn:0<=x.next/\x.next<=1000000)(hs:s.size<=1000):Ct prog 134 [jQ x,D.int kind,D.str s] σ (fun r σ'=>r= .tup [jQ (addX x kind s).1,D.int (addX x kind s).2.1,D.int (addX x kind s).2.2]/\σ'=σ):=
 (aIo x kind s σ hx hn hs).trim fun r σ' ⟨hr,J,hs'⟩=>⟨σ,J,hs',rfl,by rw [hr];exact aOb (aXi _ _) (Sc.v _) (Sc.v _),fun n cs h=> .inl h,hr,rfl⟩
def insX(x:RD)(bel:Int->List Int)(p at_ id:Int):RD×Int:=
 if fO x.l p=false\/fO x.l id=false then(x,11)
 else if ¬(aL x.l p).kind=2 then(x,14)
 else if id=0\/0<=(aL x.l id).parent\/oJ x.l bel p id=true\/at_<0\/((aL x.l p).kids.length:Int)<at_ then(x,1)
 else(⟨x.most,x.next,dJ (dJ x.l { aL x.l p with kids:=fP (aL x.l p).kids at_.toNat id }) { aL x.l id with parent:=p }⟩,0)
theorem NB.put {l:List ND} (h:NB l) {n:ND} (h1:n.kids.length<=1000)(h2:n.classes.length<=1000)(h3:n.attrs.length<=1000)(h4:n.styles.length<=1000):NB (dJ l n):=by
 have key:∀m∈dJ l n,m=n\/m∈l:=fun m hm=>by
  unfold dJ at hm;obtain⟨x,hx,rfl⟩:=aX.1 hm;split
  .exact .inl rfl
  exact .inr hx
 refine⟨by rw [Vk];exact h.len,fun m hm=>?_,fun m hm=>?_,fun m hm=>?_,fun m hm=>?_⟩
 all_goals rcases key m hm with rfl | hm'
 .exact h1
 .exact h.kids m hm'
 .exact h2
 .exact h.cls m hm'
 .exact h3
 .exact h.ats m hm'
 .exact h4
 exact h.sts m hm'
theorem aP7(x:RD)(p at_ id:Int)(bel:Int->List Int)(rk:Int->Nat)(σ:List (List D))(hx:NB x.l)(ht:Tr x.l bel rk)(hkl:(aL x.l p).kids.length<=900):Ct prog 137 [jQ x,D.int p,D.int at_,D.int id] σ (fun r σ'=>r= .tup [jQ (insX x bel p at_ id).1,D.int (insX x bel p at_ id).2]/\σ'=σ):=by
 refine zf func137 ?_;refine aZ fun _ _ Z=>?_;simp;apply Z;refine aZ fun _ _ Z=>?_;refine zs 2 fun _ Y=>?_;simp;apply Y;refine aE fun _ Y=>?_;simp;refine bS (oQ x p _ hx) ?_;apply Y;simp;apply Z;refine aZ fun _ _ Z=>?_;refine zs 2 fun _ Y=>?_;simp;apply Y;refine aE fun _ Y=>?_;simp;refine bS (oQ x id _ hx) ?_;apply Y;simp;apply Z;apply aF;refine zk [1,2,3,4,8,9,10,11,12,13] ?_;refine iU ⟨[],[],[],[],[]⟩ fun all hall _ Z=>?_;have ga2:aK all 2=some 28:=hall 2;refine zs 3 fun _ Y=>?_;simp[ga2];apply Y;refine zb 28 ?_ ?_<;>intro g1<;>try simp at g1
 .simp[ga2];apply Z;refine aV (t:=true) (by simp) (fun _=>?_) (fun h=>by cases h);refine zk [1,2,3,4,8,9,10,12] ?_;refine aZ fun _ _ Z=>?_;simp;apply Z;apply aD;simp [aJ,insX, *]
 simp[ga2];apply Z;refine zI ?_ ?_<;>intro c2<;>try simp at c2
 .refine zk [1,2,3,4,8,9,10,12] ?_;refine aZ fun _ _ Z=>?_;simp;apply Z;apply aD;simp [aJ,insX, *]
 apply zA;apply aF;refine zk [1,2,3,4,8,9,10,12] ?_;refine aZ fun _ _ Z=>?_;simp;apply Z;refine zI ?_ ?_<;>intro c3<;>try simp at c3
 .refine aZ fun _ _ Z=>?_;simp;apply Z;apply aD;simp [aJ,insX, *]
 apply zA;apply aF;refine zk [1,2,3,4,8,9,10,12] ?_;refine iU ⟨[],[],[],[],[]⟩ fun all hall _ Z=>?_;have ga2:aK all 2=some 39:=hall 2;have ga7:aK all 7=some 44:=hall 7;have ga13:aK all 13=some 50:=hall 13;have ga17:aK all 17=some 54:=hall 17;refine zs 3 fun _ Y=>?_;simp[ga2,ga7,ga13,ga17];apply Y;refine zb 39 ?_ ?_<;>intro g4<;>try simp at g4
 .refine zs 5 fun _ Y=>?_;simp[ga2,ga7,ga13,ga17];apply Y;refine zs 6 fun _ Y=>?_;simp[ga2,ga7,ga13,ga17];apply Y;refine zs 4 fun _ Y=>?_;simp[ga2,ga7,ga13,ga17];apply Y;simp[ga2,ga7,ga13,ga17];apply Z;refine aV (t:=true) (by simp) (fun _=>?_) (fun h=>by cases h);refine zk [1,2,3,4,8,9,10,12] ?_;refine aZ fun _ _ Z=>?_;simp;apply Z;apply aD;subst g4;simp [aJ,insX, *]
 refine zs 5 fun _ Y=>?_;simp[ga2,ga7,ga13,ga17];apply Y;refine zb 44 ?_ ?_<;>intro g5<;>try simp at g5
 .refine zs 6 fun _ Y=>?_;simp[ga2,ga7,ga13,ga17];apply Y;refine zs 4 fun _ Y=>?_;simp[ga2,ga7,ga13,ga17];apply Y;simp[ga2,ga7,ga13,ga17];apply Z;refine aV (t:=true) (by simp) (fun _=>?_) (fun h=>by cases h);refine zk [1,2,3,4,8,9,10,12] ?_;refine aZ fun _ _ Z=>?_;simp;apply Z;apply aD;simp [aJ,insX, *]
 refine zs 3 fun _ Y=>?_;simp[ga2,ga7,ga13,ga17];apply Y;refine zg ga7 fun _ Y=>?_;simp[ga2,ga7,ga13,ga17];refine bS (aAt x p id bel rk _ hx ht) ?_;apply Y;refine zs 2 fun _ Y=>?_;simp[ga2,ga7,ga13,ga17];apply Y;refine zb 50 ?_ ?_<;>intro g6<;>try simp at g6
 .refine zs 4 fun _ Y=>?_;simp[ga2,ga7,ga13,ga17];apply Y;simp[ga2,ga7,ga13,ga17];apply Z;refine aV (t:=true) (by simp) (fun _=>?_) (fun h=>by cases h);refine zk [1,2,3,4,8,9,10,12] ?_;refine aZ fun _ _ Z=>?_;simp;apply Z;apply aD;simp [aJ,insX, *]
 refine zs 4 fun _ Y=>?_;simp[ga2,ga7,ga13,ga17];apply Y;refine zb 54 ?_ ?_<;>intro g7<;>try simp at g7
 .simp[ga2,ga7,ga13,ga17];apply Z;refine aV (t:=true) (by simp) (fun _=>?_) (fun h=>by cases h);refine zk [1,2,3,4,8,9,10,12] ?_;refine aZ fun _ _ Z=>?_;simp;apply Z;apply aD;simp [aJ,insX, *]
 simp[ga2,ga7,ga13,ga17];and_intros<;>(try omega);apply Z;refine zI ?_ ?_<;>intro c8<;>try simp at c8
 .refine zk [1,2,3,4,8,9,10,12] ?_;refine aZ fun _ _ Z=>?_;simp;apply Z;apply aD;simp [aJ,insX, *]
 obtain⟨i,rfl⟩:∃i:Nat,at_=i:=⟨at_.toNat,by omega⟩;have hnb:NB (dJ x.l { aL x.l p with kids:=fP (aL x.l p).kids i id }):=hx.put (by rw [jW _ _ _ (by omega)];omega) (hx.fc p) (hx.fa p) (hx.fs p);apply zA;refine zk [1,2,3,4,8,9,10,12] ?_;refine aZ fun _ _ Z=>?_;refine zs 4 fun _ Y=>?_;simp;apply Y;refine aE fun _ Y=>?_;simp;refine bS (aBw (aL x.l p).kids i id _ (by omega) (by omega)) ?_;apply Y;simp;apply Z;refine zk [1,4,8,9,10,12] ?_;refine aZ fun _ _ Z=>?_;simp;apply Z;refine zd ⟨[],[],[],[],[]⟩ [.op {rL:=true},.op {rL:=true},.pure,.op {rL:=true},.pure,.op {rL:=true,wL:=true},.op {}] fun all hall _ Z=>?_;refine lY 2 fun _ Y=>?_;simp;apply Y;refine cF fun _ Y=>?_;simp;refine Aa (fun _=>(oP x { aL x.l p with kids:=fP (aL x.l p).kids i id } _ hx)) ?_;apply Y;refine lY 1 fun _ Y=>?_;simp;apply Y;refine cF fun _ Y=>?_;simp;refine Aa (fun _=>(oP ⟨x.most,x.next,dJ x.l { aL x.l p with kids:=fP (aL x.l p).kids i id }⟩ { aL x.l id with parent:=p } _ hnb)) ?_;apply Y;simp;apply Z;apply aD;have h5:¬0<=(aL x.l id).parent:=by omega
 have h7:¬(i:Int)<0:=by omega
 have h8:¬((aL x.l p).kids.length:Int)<(i:Int):=by omega
 simp [aJ,insX, *]
def movX(x:RD)(id at_:Int):RD×Int:=
 if fO x.l id=false then(x,11)
 else if fO x.l (aL x.l id).parent=false\/at_<0\/((aL x.l (aL x.l id).parent).kids.length:Int)<=at_ then(x,1)
 else(⟨x.most,x.next,dJ x.l { aL x.l (aL x.l id).parent with kids:=fP (kZ (aL x.l (aL x.l id).parent).kids id) at_.toNat id }⟩,0)
theorem Iv(l:List Int)(x:Int):(kZ l x).length<=l.length:=kO _ _
theorem aQ2 {l:List Int} (h:l.Nodup)(x:Int):l.length<=(kZ l x).length+1:=by
 induction l with
 | nil=>simp
 | cons y l ih =>
  have hn:=jB.1 h;unfold kZ at *;rw [gT];by_cases e:y=x
  .subst e;simp only [decide_true,Bool.not_true,gU,bK];have:(l.filter fun z=> !decide (z=y))=l:=by
    rw [oB];intro a ha;have:a≠y:=fun e=>hn.1 (e ▸ ha);simp [this]
   rw [this];simp
  simp only [e,yO,Bool.not_false,aT,bR];have:=ih hn.2;omega
theorem aPd(x:RD)(id at_:Int)(σ:List (List D))(hx:NB x.l)(hnd:(aL x.l (aL x.l id).parent).kids.Nodup):Ct prog 139 [jQ x,D.int id,D.int at_] σ (fun r σ'=>r= .tup [jQ (movX x id at_).1,D.int (movX x id at_).2]/\σ'=σ):=by
 refine zf func139 ?_;have hfp:=hx.fk (aL x.l id).parent;have hrl:=Iv (aL x.l (aL x.l id).parent).kids id;have hrg:=aQ2 hnd id;refine aZ fun _ _ Z=>?_;simp;apply Z;refine aZ fun _ _ Z=>?_;refine zs 2 fun _ Y=>?_;simp;apply Y;refine aE fun _ Y=>?_;simp;refine bS (oQ x id _ hx) ?_;apply Y;simp;apply Z;apply aF;refine aZ fun _ _ Z=>?_;simp;apply Z;refine zI ?_ ?_<;>intro c1<;>try simp at c1
 .refine zk [1,2,3,6,7,8] ?_;refine aZ fun _ _ Z=>?_;simp;apply Z;apply aD;simp [aJ,movX, *]
 apply zA;refine zk [1,2,3,6,7,8] ?_;refine aZ fun _ _ Z=>?_;refine zs 3 fun _ Y=>?_;simp;apply Y;refine aE fun _ Y=>?_;simp;refine bS (oQ x (aL x.l id).parent _ hx) ?_;apply Y;simp;apply Z;apply aF;refine zk [1,2,3,6,7,10,11] ?_;refine iU ⟨[],[],[],[],[]⟩ fun all hall _ Z=>?_;have ga2:aK all 2=some 30:=hall 2;have ga6:aK all 6=some 34:=hall 6;refine zs 3 fun _ Y=>?_;simp[ga2,ga6];apply Y;refine zb 30 ?_ ?_<;>intro g2<;>try simp at g2
 .refine zs 4 fun _ Y=>?_;simp[ga2,ga6];apply Y;simp[ga2,ga6];apply Z;refine aV (t:=true) (by simp) (fun _=>?_) (fun h=>by cases h);refine zk [1,2,3,6,7,10] ?_;refine aZ fun _ _ Z=>?_;simp;apply Z;apply aD;simp [aJ,movX, *]
 refine zs 4 fun _ Y=>?_;simp[ga2,ga6];apply Y;refine zb 34 ?_ ?_<;>intro g3<;>try simp at g3
 .simp[ga2,ga6];apply Z;refine aV (t:=true) (by simp) (fun _=>?_) (fun h=>by cases h);refine zk [1,2,3,6,7,10] ?_;refine aZ fun _ _ Z=>?_;simp;apply Z;apply aD;simp [aJ,movX, *]
 simp[ga2,ga6];and_intros<;>(try omega);apply Z;refine zI ?_ ?_<;>intro c4<;>try simp at c4
 .refine zk [1,2,3,6,7,10] ?_;refine aZ fun _ _ Z=>?_;simp;apply Z;apply aD;simp [aJ,movX, *]
 obtain⟨i,rfl⟩:∃i:Nat,at_=i:=⟨at_.toNat,by omega⟩;apply zA;refine zk [1,2,3,6,7,10] ?_;refine aZ fun _ _ Z=>?_;refine zs 3 fun _ Y=>?_;simp;apply Y;refine aE fun _ Y=>?_;simp;refine bS (Hz (aL x.l (aL x.l id).parent).kids id _ (by omega)) ?_;apply Y;refine zs 2 fun _ Y=>?_;simp;apply Y;refine aE fun _ Y=>?_;simp;refine bS (aBw (kZ (aL x.l (aL x.l id).parent).kids id) i id _ (by omega) (by omega)) ?_;apply Y;simp;apply Z;refine zk [3,6,7,10] ?_;refine aZ fun _ _ Z=>?_;refine zs 2 fun _ Y=>?_;simp;apply Y;refine aE fun _ Y=>?_;simp;refine bS (oP x { (aL x.l (aL x.l id).parent)with kids:=fP (kZ (aL x.l (aL x.l id).parent).kids id) i id } _ hx) ?_;apply Y;simp;apply Z;apply aD;have h7:¬(i:Int)<0:=by omega
 have h8:¬(aL x.l (aL x.l id).parent).kids.length<=i:=by omega
 simp [aJ,movX, *]
def lH(n:ND)(K:List Int):ND:= { n with kids:=K }
def remP(l:List ND)(id:Int):List ND:=if fO l (aL l id).parent=true then dJ l (lH (aL l (aL l id).parent) (kZ (aL l (aL l id).parent).kids id))else l
def Cz(l:List ND)(g:List Int):List ND:=l.filter fun n=> !g.any fun k=>decide (k=n.ID)
def remX(x:RD)(bel:Int->List Int)(id:Int):RD×Int:=
 if fO x.l id=false then(x,11)else if id=0 then(x,1)else(⟨x.most,x.next,Cz (remP x.l id) (bel id)⟩,0)
theorem yY(l:List ND)(g:List Int)(k:Nat)(h:k<l.length):Cz (l.take (k+1)) g=Cz (l.take k) g++if(g.any fun k'=>decide (k'=l[k].ID))=true then [] else [l[k]]:=by
 unfold Cz;rw [bJ l k h,fZ,gT];by_cases e:(g.any fun k'=>decide (k'=l[k].ID))=true <;> simp [e]
theorem Wo(l:List ND)(g:List Int):(Cz l g).length<=l.length:=kO _ _
def Eo(g:List Int)(n:ND)(j:Nat):Bool:= !(g.take j).any fun k=>decide (k=n.ID)
theorem vZ(g:List Int)(n:ND)(j:Nat)(h:j<g.length):Eo g n (j+1)=(Eo g n j && !decide (g[j]=n.ID)):=by
 unfold Eo;rw [bJ g j h,List.any_append];simp [-List.any_eq_true, -List.any_eq_false]
theorem Qm {g:List Int} {n:ND} {j:Nat} (h:g.length<=j):Eo g n j= !g.any fun k=>decide (k=n.ID):=by
 unfold Eo;rw [bZ h]
theorem NB.remP {l:List ND} (h:NB l)(id:Int):NB (remP l id):=by
 unfold Go.Proofs.YtbgfljpnhhdkoaaGreat.remP;split
 .have:=Iv (aL l (aL l id).parent).kids id;have h1:=h.fk (aL l id).parent;exact h.put (by show(kZ _ _).length<=1000;omega) (h.fc _) (h.fa _) (h.fs _)
 exact h
@[simp] abbrev q31_2:Cfg:=⟨[11,71],[],[],[],[]⟩
theorem aMd(x:RD)(id:Int)(bel:Int->List Int)(rk:Int->Nat)(σ:List (List D))(hx:NB x.l)(hp:fO x.l (aL x.l id).parent=true)(ht:Tr (dJ x.l (lH (aL x.l (aL x.l id).parent) (kZ (aL x.l (aL x.l id).parent).kids id))) bel rk):Ct prog 141 [jQ x,D.int id] σ (fun r σ'=>r= .tup [jQ (remX x bel id).1,D.int (remX x bel id).2]/\σ'=σ):=by
 refine zf func141 ?_;have hfp:=hx.fk (aL x.l id).parent;have hrl:=Iv (aL x.l (aL x.l id).parent).kids id;have hrp:remP x.l id=(dJ x.l (lH (aL x.l (aL x.l id).parent) (kZ (aL x.l (aL x.l id).parent).kids id))):=by unfold remP;simp [hp]
 have hx1:NB (dJ x.l (lH (aL x.l (aL x.l id).parent) (kZ (aL x.l (aL x.l id).parent).kids id))):=by rw [<- hrp];exact hx.remP id
 have hxl:=hx1.len;have hbl:=ht.len id;refine zr q31_2 fun _ _ Z=>?_;simp(disch:=omega)[hp];apply Z;refine zr q31_2 fun _ _ Z=>?_;refine zs 2 fun _ Y=>?_;simp(disch:=omega)[hp];apply Y;refine aE fun _ Y=>?_;simp(disch:=omega)[hp];refine bS (oQ x id _ hx) ?_;apply Y;simp(disch:=omega)[hp];apply Z;apply aF;refine zr q31_2 fun _ _ Z=>?_;simp(disch:=omega)[hp];apply Z;refine zI ?_ ?_<;>intro c1<;>try simp at c1
 .refine zk [1,2,4,5,6] ?_;refine zr q31_2 fun _ _ Z=>?_;simp(disch:=omega)[hp];apply Z;apply aD;simp [aJ,remX, *]
 apply zA;apply aF;refine zk [1,2,4,5,6] ?_;refine zr q31_2 fun _ _ Z=>?_;simp(disch:=omega)[hp];apply Z;refine zI ?_ ?_<;>intro c2<;>try simp at c2
 .refine zr q31_2 fun _ _ Z=>?_;simp(disch:=omega)[hp];apply Z;apply aD;subst c2;simp [aJ,remX, *]
 apply zA;apply aF;refine zr q31_2 fun _ _ Z=>?_;refine zs 3 fun _ Y=>?_;simp(disch:=omega)[hp];apply Y;refine aE fun _ Y=>?_;simp(disch:=omega)[hp];refine bS (oQ x (aL x.l id).parent _ hx) ?_;apply Y;simp(disch:=omega)[hp];apply Z;refine zk [1,2,4,5,8,9] ?_;refine zr q31_2 fun _ _ Z=>?_;simp(disch:=omega)[hp];apply Z;refine zI ?_ ?_<;>intro c3<;>try simp at c3
 refine zr q31_2 fun _ _ Z=>?_;refine zs 3 fun _ Y=>?_;simp(disch:=omega)[hp];apply Y;refine aE fun _ Y=>?_;simp(disch:=omega)[hp];refine bS (Hz (aL x.l (aL x.l id).parent).kids id _ (by omega)) ?_;apply Y;simp(disch:=omega)[hp];apply Z;refine zk [1,2,4,5,8] ?_;refine zt q31_2 fun _ _ Z=>?_;refine zs 2 fun _ Y=>?_;simp(disch:=omega)[hp];apply Y;refine aE fun _ Y=>?_;simp(disch:=omega)[hp];refine bS (oP x (lH (aL x.l (aL x.l id).parent) (kZ (aL x.l (aL x.l id).parent).kids id)) _ hx) ?_;apply Y;simp(disch:=omega)[hp];apply Z;apply bY;refine zr q31_2 fun _ _ Z=>?_;refine zs 2 fun _ Y=>?_;simp(disch:=omega)[hp];apply Y;refine aE fun _ Y=>?_;simp(disch:=omega)[hp];refine bS (Jf (⟨x.most,x.next,(dJ x.l (lH (aL x.l (aL x.l id).parent) (kZ (aL x.l (aL x.l id).parent).kids id)))⟩:RD) id bel rk _ hx1 ht) ?_;apply Y;simp(disch:=omega)[hp];apply Z;refine zk [2,4,5,10] ?_;refine zr q31_2 fun _ _ Z=>?_;simp(disch:=omega)[hp];and_intros<;>(try omega);apply Z;apply aF;refine zr q31_2 fun _ _ Z=>?_;simp(disch:=omega)[hp];and_intros<;>(try omega);apply Z;apply aR;refine zk [2,4,5,10,11,50,51,52] ?_;refine bA (fun(k:Nat)=> [(52,.d (.v (.int .i64 (k:Int)))),(11,.d (.sl true ((Cz ((dJ x.l (lH (aL x.l (aL x.l id).parent) (kZ (aL x.l (aL x.l id).parent).kids id))).take k) (bel id)).map Gj))),(14,.d (.any)),(16,.d (.any))]) [11,13,14,16,52,53,54,55,56,57,58,59,60,61,62,63,64,65,66,67,68,69,70,71,72,73,74,75] (fun(k:Nat)=>k<=(dJ x.l (lH (aL x.l (aL x.l id).parent) (kZ (aL x.l (aL x.l id).parent).kids id))).length) (fun(k:Nat)=>(dJ x.l (lH (aL x.l (aL x.l id).parent) (kZ (aL x.l (aL x.l id).parent).kids id))).length - k) (0) (by simp <;> rfl) ?_ ?_ ?_
 .simp [Cz]
 .simp
 rintro k hk;simp only [aQ,aP];have hrf:=Wo ((dJ x.l (lH (aL x.l (aL x.l id).parent) (kZ (aL x.l (aL x.l id).parent).kids id))).take k) (bel id);simp only [bG] at hrf;refine zr q31_2 fun _ _ Z=>?_;simp(disch:=omega)[hp];apply Z;apply aF;refine zI ?_ ?_<;>intro c4<;>try simp at c4
 .apply kB;refine zr q31_2 fun _ _ Z=>?_;simp(disch:=omega)[hp];and_intros<;>(try omega);apply Z;refine zk [2,4,5,10,11,13,14,16,50,51,52] ?_;refine zr q31_2 fun _ _ Z=>?_;simp(disch:=omega)[hp];apply Z;apply aF;refine zk [2,4,5,10,11,13,14,16,50,51,52] ?_;refine zr q31_2 fun _ _ Z=>?_;simp(disch:=omega)[hp];and_intros<;>(try omega);apply Z;apply aR;refine zk [2,4,5,10,11,13,14,16,50,51,52,56,57,58] ?_;refine bA (fun(j:Nat)=> [(58,.d (.v (.int .i64 (j:Int)))),(14,.d (.bool (Eo (bel id) ((dJ x.l (lH (aL x.l (aL x.l id).parent) (kZ (aL x.l (aL x.l id).parent).kids id)))[k]) j))),(16,.d (.any))]) [14,16,58,59,60,61,62,63,64,65,66,67,68,69] (fun(j:Nat)=>j<=(bel id).length) (fun(j:Nat)=>(bel id).length - j) (0) (by simp <;> rfl) ?_ ?_ ?_
  .simp [Eo]
  .simp
  rintro j hj;simp only [aQ,aP];refine zk [2,4,5,10,11,13,14,16,50,51,52,56,57,58] ?_;refine zr q31_2 fun _ _ Z=>?_;simp(disch:=omega)[hp];apply Z;apply aF;refine zI ?_ ?_<;>intro c5<;>try simp at c5
  .apply kB;refine zk [2,4,5,10,11,13,14,16,50,51,52,56,57,58] ?_;refine zr q31_2 fun _ _ Z=>?_;simp(disch:=omega)[hp];and_intros<;>(try omega);apply Z;refine zk [2,4,5,10,11,13,14,16,50,51,52,56,57,58] ?_;refine ztg q31_2 fun all hall _ Z=>?_;have ga1:aK all 1=some 63:=hall 1;refine zs 2 fun _ Y=>?_;simp(disch:=omega)[hp,ga1];apply Y;refine zb 63 ?_ ?_<;>intro g6<;>try simp at g6
   .simp(disch:=omega)[hp,ga1];apply Z;apply zB;refine zk [2,4,5,10,11,13,14,16,50,51,52,56,57,58] ?_;refine zt q31_2 fun _ _ Z=>?_;simp(disch:=omega)[hp];and_intros<;>(try omega);apply Z;refine zq (j+1) ?_ ?_ ?_
    .omega
    .try dsimp only
     omega
    simp(disch:=omega)[hp,vZ, *]
   simp(disch:=omega)[hp,ga1];apply Z;apply zB;refine zk [2,4,5,10,11,13,14,16,50,51,52,56,57,58] ?_;refine zt q31_2 fun _ _ Z=>?_;simp(disch:=omega)[hp];and_intros<;>(try omega);apply Z;refine zq (j+1) ?_ ?_ ?_
   .omega
   .try dsimp only
    omega
   simp(disch:=omega)[hp,vZ, *]
  obtain rfl:j=(bel id).length:=by omega
  have hst:=Qm (n:=(dJ x.l (lH (aL x.l (aL x.l id).parent) (kZ (aL x.l (aL x.l id).parent).kids id)))[k]) (aY (bel id).length);apply zE;refine zk [2,4,5,10,11,13,14,16,50,51,52] ?_;refine zr q31_2 fun _ _ Z=>?_;simp(disch:=omega)[hp];apply Z;refine zI ?_ ?_<;>intro c7<;>try simp at c7
  .have hst2:((bel id).any fun q=>decide (q=(dJ x.l (lH (aL x.l (aL x.l id).parent) (kZ (aL x.l (aL x.l id).parent).kids id)))[k].ID))=false:=by rw [hst] at c7;simpa using c7
   refine zk [2,4,5,10,11,13,14,16,50,51,52] ?_;refine zt q31_2 fun _ _ Z=>?_;simp(disch:=omega)[hp];and_intros<;>(try omega);apply Z;apply zB;refine zk [2,4,5,10,11,14,16,50,51,52] ?_;refine zt q31_2 fun _ _ Z=>?_;simp(disch:=omega)[hp];and_intros<;>(try omega);apply Z;refine zq (k+1) ?_ ?_ ?_
   .omega
   .try dsimp only
    omega
   simp(disch:=omega)[hp,yY,hst2]
  have hst2:((bel id).any fun q=>decide (q=(dJ x.l (lH (aL x.l (aL x.l id).parent) (kZ (aL x.l (aL x.l id).parent).kids id)))[k].ID))=true:=by rw [hst] at c7;simpa using c7
  apply nD;refine zk [2,4,5,10,11,14,16,50,51,52] ?_;refine zt q31_2 fun _ _ Z=>?_;simp(disch:=omega)[hp];and_intros<;>(try omega);apply Z;refine zq (k+1) ?_ ?_ ?_
  .omega
  .try dsimp only
   omega
  simp(disch:=omega)[hp,yY,hst2]
 apply zE;refine zr q31_2 fun _ _ Z=>?_;simp(disch:=omega)[hp];apply Z;refine zk [2,4,5] ?_;refine zr q31_2 fun _ _ Z=>?_;simp(disch:=omega)[hp];apply Z;apply aD;simp [aJ,remX,hrp,c1,c2];rw [bZ (by omega)]
theorem aM6(x:RD)(id:Int)(bel:Int->List Int)(rk:Int->Nat)(σ:List (List D))(hx:NB x.l)(hp:fO x.l (aL x.l id).parent=false)(ht:Tr x.l bel rk):Ct prog 141 [jQ x,D.int id] σ (fun r σ'=>r= .tup [jQ (remX x bel id).1,D.int (remX x bel id).2]/\σ'=σ):=by
 refine zf func141 ?_;have hfp:=hx.fk (aL x.l id).parent;have hrl:=Iv (aL x.l (aL x.l id).parent).kids id;have hrp:remP x.l id=x.l:=by unfold remP;simp [hp]
 have hx1:NB x.l:=by rw [<- hrp];exact hx.remP id
 have hxl:=hx1.len;have hbl:=ht.len id;refine zr q31_2 fun _ _ Z=>?_;simp(disch:=omega)[hp];apply Z;refine zr q31_2 fun _ _ Z=>?_;refine zs 2 fun _ Y=>?_;simp(disch:=omega)[hp];apply Y;refine aE fun _ Y=>?_;simp(disch:=omega)[hp];refine bS (oQ x id _ hx) ?_;apply Y;simp(disch:=omega)[hp];apply Z;apply aF;refine zr q31_2 fun _ _ Z=>?_;simp(disch:=omega)[hp];apply Z;refine zI ?_ ?_<;>intro c1<;>try simp at c1
 .refine zk [1,2,4,5,6] ?_;refine zr q31_2 fun _ _ Z=>?_;simp(disch:=omega)[hp];apply Z;apply aD;simp [aJ,remX, *]
 apply zA;apply aF;refine zk [1,2,4,5,6] ?_;refine zr q31_2 fun _ _ Z=>?_;simp(disch:=omega)[hp];apply Z;refine zI ?_ ?_<;>intro c2<;>try simp at c2
 .refine zr q31_2 fun _ _ Z=>?_;simp(disch:=omega)[hp];apply Z;apply aD;subst c2;simp [aJ,remX, *]
 apply zA;apply aF;refine zr q31_2 fun _ _ Z=>?_;refine zs 3 fun _ Y=>?_;simp(disch:=omega)[hp];apply Y;refine aE fun _ Y=>?_;simp(disch:=omega)[hp];refine bS (oQ x (aL x.l id).parent _ hx) ?_;apply Y;simp(disch:=omega)[hp];apply Z;refine zk [1,2,4,5,8,9] ?_;refine zr q31_2 fun _ _ Z=>?_;simp(disch:=omega)[hp];apply Z;refine zI ?_ ?_<;>intro c3<;>try simp at c3
 apply zA;refine zr q31_2 fun _ _ Z=>?_;refine zs 2 fun _ Y=>?_;simp(disch:=omega)[hp];apply Y;refine aE fun _ Y=>?_;simp(disch:=omega)[hp];refine bS (Jf x id bel rk _ hx1 ht) ?_;apply Y;simp(disch:=omega)[hp];apply Z;refine zr q31_2 fun _ _ Z=>?_;simp(disch:=omega)[hp];and_intros<;>(try omega);apply Z;apply aF;refine zk [2,4,5,10,11] ?_;refine zr q31_2 fun _ _ Z=>?_;simp(disch:=omega)[hp];and_intros<;>(try omega);apply Z;apply aR;refine zk [2,4,5,10,11,50,51,52] ?_;refine bA (fun(k:Nat)=> [(52,.d (.v (.int .i64 (k:Int)))),(11,.d (.sl true ((Cz (x.l.take k) (bel id)).map Gj))),(14,.d (.any)),(16,.d (.any))]) [11,13,14,16,52,53,54,55,56,57,58,59,60,61,62,63,64,65,66,67,68,69,70,71,72,73,74,75] (fun(k:Nat)=>k<=x.l.length) (fun(k:Nat)=>x.l.length - k) (0) (by simp <;> rfl) ?_ ?_ ?_
 .simp [Cz]
 .simp
 rintro k hk;simp only [aQ,aP];have hrf:=Wo (x.l.take k) (bel id);simp only [bG] at hrf;refine zr q31_2 fun _ _ Z=>?_;simp(disch:=omega)[hp];apply Z;apply aF;refine zI ?_ ?_<;>intro c4<;>try simp at c4
 .apply kB;refine zr q31_2 fun _ _ Z=>?_;simp(disch:=omega)[hp];and_intros<;>(try omega);apply Z;refine zk [2,4,5,10,11,13,14,16,50,51,52] ?_;refine zr q31_2 fun _ _ Z=>?_;simp(disch:=omega)[hp];apply Z;apply aF;refine zk [2,4,5,10,11,13,14,16,50,51,52] ?_;refine zr q31_2 fun _ _ Z=>?_;simp(disch:=omega)[hp];and_intros<;>(try omega);apply Z;apply aR;refine zk [2,4,5,10,11,13,14,16,50,51,52,56,57,58] ?_;refine bA (fun(j:Nat)=> [(58,.d (.v (.int .i64 (j:Int)))),(14,.d (.bool (Eo (bel id) (x.l[k]) j))),(16,.d (.any))]) [14,16,58,59,60,61,62,63,64,65,66,67,68,69] (fun(j:Nat)=>j<=(bel id).length) (fun(j:Nat)=>(bel id).length - j) (0) (by simp <;> rfl) ?_ ?_ ?_
  .simp [Eo]
  .simp
  rintro j hj;simp only [aQ,aP];refine zk [2,4,5,10,11,13,14,16,50,51,52,56,57,58] ?_;refine zr q31_2 fun _ _ Z=>?_;simp(disch:=omega)[hp];apply Z;apply aF;refine zI ?_ ?_<;>intro c5<;>try simp at c5
  .apply kB;refine zk [2,4,5,10,11,13,14,16,50,51,52,56,57,58] ?_;refine zr q31_2 fun _ _ Z=>?_;simp(disch:=omega)[hp];and_intros<;>(try omega);apply Z;refine zk [2,4,5,10,11,13,14,16,50,51,52,56,57,58] ?_;refine ztg q31_2 fun all hall _ Z=>?_;have ga1:aK all 1=some 63:=hall 1;refine zs 2 fun _ Y=>?_;simp(disch:=omega)[hp,ga1];apply Y;refine zb 63 ?_ ?_<;>intro g6<;>try simp at g6
   .simp(disch:=omega)[hp,ga1];apply Z;apply zB;refine zk [2,4,5,10,11,13,14,16,50,51,52,56,57,58] ?_;refine zt q31_2 fun _ _ Z=>?_;simp(disch:=omega)[hp];and_intros<;>(try omega);apply Z;refine zq (j+1) ?_ ?_ ?_
    .omega
    .try dsimp only
     omega
    simp(disch:=omega)[hp,vZ, *]
   simp(disch:=omega)[hp,ga1];apply Z;apply zB;refine zk [2,4,5,10,11,13,14,16,50,51,52,56,57,58] ?_;refine zt q31_2 fun _ _ Z=>?_;simp(disch:=omega)[hp];and_intros<;>(try omega);apply Z;refine zq (j+1) ?_ ?_ ?_
   .omega
   .try dsimp only
    omega
   simp(disch:=omega)[hp,vZ, *]
  obtain rfl:j=(bel id).length:=by omega
  have hst:=Qm (n:=x.l[k]) (aY (bel id).length);apply zE;refine zk [2,4,5,10,11,13,14,16,50,51,52] ?_;refine zr q31_2 fun _ _ Z=>?_;simp(disch:=omega)[hp];apply Z;refine zI ?_ ?_<;>intro c7<;>try simp at c7
  .have hst2:((bel id).any fun q=>decide (q=x.l[k].ID))=false:=by rw [hst] at c7;simpa using c7
   refine zk [2,4,5,10,11,13,14,16,50,51,52] ?_;refine zt q31_2 fun _ _ Z=>?_;simp(disch:=omega)[hp];and_intros<;>(try omega);apply Z;apply zB;refine zk [2,4,5,10,11,14,16,50,51,52] ?_;refine zt q31_2 fun _ _ Z=>?_;simp(disch:=omega)[hp];and_intros<;>(try omega);apply Z;refine zq (k+1) ?_ ?_ ?_
   .omega
   .try dsimp only
    omega
   simp(disch:=omega)[hp,yY,hst2]
  have hst2:((bel id).any fun q=>decide (q=x.l[k].ID))=true:=by rw [hst] at c7;simpa using c7
  apply nD;refine zk [2,4,5,10,11,14,16,50,51,52] ?_;refine zt q31_2 fun _ _ Z=>?_;simp(disch:=omega)[hp];and_intros<;>(try omega);apply Z;refine zq (k+1) ?_ ?_ ?_
  .omega
  .try dsimp only
   omega
  simp(disch:=omega)[hp,yY,hst2]
 apply zE;refine zr q31_2 fun _ _ Z=>?_;simp(disch:=omega)[hp];apply Z;refine zk [2,4,5] ?_;refine zr q31_2 fun _ _ Z=>?_;simp(disch:=omega)[hp];apply Z;apply aD;simp [aJ,remX,hrp,c1,c2];rw [bZ (by omega)]
theorem aPu(x:RD)(id:Int)(bel:Int->List Int)(rk:Int->Nat)(σ:List (List D))(hx:NB x.l)(ht:Tr (remP x.l id) bel rk):Ct prog 141 [jQ x,D.int id] σ (fun r σ'=>r= .tup [jQ (remX x bel id).1,D.int (remX x bel id).2]/\σ'=σ):=by
 cases hp:fO x.l (aL x.l id).parent with
 | true=>exact aMd x id bel rk σ hx hp (by unfold remP at ht;rwa [aI hp] at ht)
 | false=>exact aM6 x id bel rk σ hx hp (by unfold remP at ht;rwa [aA (by rw [hp];simp)] at ht)
end Go.Proofs.YtbgfljpnhhdkoaaGreat

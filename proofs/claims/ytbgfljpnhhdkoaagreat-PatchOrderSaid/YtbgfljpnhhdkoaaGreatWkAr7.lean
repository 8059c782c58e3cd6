import Derived.Test.YtbgfljpnhhdkoaaGreatWkAr6
open Go.Proofs.Tryz
namespace Go.Proofs.YtbgfljpnhhdkoaaGreat
open Go Go.Vm
set_option maxRecDepth 20000
set_option linter.all false
set_option maxHeartbeats 8000000
structure ND where
 ID:Int
 kind:Int
 tag:ByteArray
 text:ByteArray
 classes:(List ByteArray)
 attrs:(List AT)
 styles:(List PI)
 parent:Int
 kids:(List Int)
 deriving DecidableEq
@[simp] abbrev vE(s:ND):D:= .agg [.v (.int .i64 s.ID),.v (.int .i64 s.kind),.v (.string s.tag),.v (.string s.text),.sl false (s.classes.map D.str),.sl false (s.attrs.map cZ),.sl false (s.styles.map cX),.v (.int .i64 s.parent),.sl false (s.kids.map D.int)]
@[simp] abbrev aK8(s:ND):D:= .agg [.v (.int .i64 s.ID),.v (.int .i64 s.kind),.v (.string s.tag),.v (.string s.text),.sl true (s.classes.map D.str),.sl true (s.attrs.map cZ),.sl true (s.styles.map cX),.v (.int .i64 s.parent),.sl true (s.kids.map D.int)]
structure RD where
 most:Int
 next:Int
 l:(List ND)
 deriving DecidableEq
@[simp] abbrev eN(s:RD):D:= .agg [.v (.int .i64 s.most),.v (.int .i64 s.next),.sl false (s.l.map vE)]
@[simp] abbrev aQz(s:RD):D:= .agg [.v (.int .i64 s.most),.v (.int .i64 s.next),.sl true (s.l.map vE)]
def Ew:ND:=⟨0,0,⟨#[]⟩,⟨#[]⟩, [], [], [],0, []⟩
def gV(l:List ND)(id:Int):Option ND:=l.find? fun n=>decide (n.ID=id)
def aF(l:List ND)(id:Int):ND:=(gV l id).getD Ew
def dF(l:List ND)(id:Int):Bool:=(gV l id).isSome
def dH(l:List ND)(n:ND):List ND:=l.map fun x=>if x.ID=n.ID then n else x
theorem Xl {l:List ND} {id:Int} {k:Nat} (h:k<l.length)(hh:∀n∈l.take k,decide (n.ID=id)=false)(e:l[k].ID=id):gV l id=some l[k]:=by
 unfold gV;rw [List.find?_eq_some_iff_getElem];refine⟨by simpa using e,k,h,rfl,fun j hj=>?_⟩;have:=hh (l[j]'(by omega)) (by rw [List.mem_take_iff_getElem];exact⟨j,by omega,rfl⟩);simpa using this
theorem Nz {l:List ND} {id:Int} (hh:∀n∈l,decide (n.ID=id)=false):gV l id=none:=by
 unfold gV;rw [List.find?_eq_none];intro n hn;simpa using hh n hn
structure NB(l:List ND):Prop where
 len:l.length≤1000
 kids:∀n∈l,n.kids.length≤1000
 cls:∀n∈l,n.classes.length≤1000
 ats:∀n∈l,n.attrs.length≤1000
 sts:∀n∈l,n.styles.length≤1000
theorem jT {l:List ND} {id:Int} {n:ND} (h:gV l id=some n):n∈l∧n.ID=id:=by
 unfold gV at h;exact⟨List.mem_of_find?_eq_some h,by simpa using List.find?_some h⟩
theorem NB.fk {l:List ND} (h:NB l)(id:Int):(aF l id).kids.length≤1000:=by
 unfold aF;cases e:gV l id with
 | none=>simp [Ew]
 | some n=>exact h.kids n (jT e).1
theorem NB.fc {l:List ND} (h:NB l)(id:Int):(aF l id).classes.length≤1000:=by
 unfold aF;cases e:gV l id with
 | none=>simp [Ew]
 | some n=>exact h.cls n (jT e).1
theorem NB.fa {l:List ND} (h:NB l)(id:Int):(aF l id).attrs.length≤1000:=by
 unfold aF;cases e:gV l id with
 | none=>simp [Ew]
 | some n=>exact h.ats n (jT e).1
theorem NB.fs {l:List ND} (h:NB l)(id:Int):(aF l id).styles.length≤1000:=by
 unfold aF;cases e:gV l id with
 | none=>simp [Ew]
 | some n=>exact h.sts n (jT e).1
theorem Dt(l:List ND)(n:ND)(k:Nat)(h:k<l.length):dH (l.take (k+1)) n=dH (l.take k) n++ [if l[k].ID=n.ID then n else l[k]]:=by
 unfold dH;rw [dL l k h,List.map_append];rfl
theorem Hj(l:List ND)(n:ND):(dH l n).length=l.length:=by simp [dH]
def Mm(l:List ND)(id:Int):D:=if dF l id=true then vE (aF l id)else aK8 Ew
theorem Zf(x:RD)(id:Int)(σ:List (List D))(hx:NB x.l):Ct prog 21 [eN x,D.int id] σ (fun r σ'=>r= .tup [Mm x.l id,.bool (dF x.l id)]∧σ'=σ):=by
 refine zf (rs:=[.cell 4 62,.tmp 5]) func21 ntmps21 results21 ?_;simp only [aN];have hxl:=hx.len;refine aY fun _ _ Z=>?_;simp(disch:=omega);apply Z;apply aC;refine aY fun _ _ Z=>?_;simp(disch:=omega);and_intros<;>(try omega);apply Z;apply aG;refine zk [1,4,5,9,10,11] ?_;refine bI (fun(k:Nat)=> [(11,.d (.v (.int .i64 (k:Int))))]) [5,7,11,12,13,14,15,16,17,18,19,20] (fun(k:Nat)=>k≤x.l.length∧∀n∈x.l.take k,decide (n.ID=id)=false) (fun(k:Nat)=>x.l.length - k) (0) (by simp <;> rfl) ?_ ?_ ?_
 ·simp
 ·simp
 rintro k ⟨hk,hh⟩;simp only [List.cons_append,List.nil_append];refine aY fun _ _ Z=>?_;simp(disch:=omega);apply Z;apply aC;refine zi ?_;refine⟨fun c1=>?_,fun c1=>?_⟩
 ·try simp at c1
  apply aE;apply aA;apply aC;apply aG;refine aY fun _ _ Z=>?_;simp(disch:=omega);and_intros<;>(try omega);apply Z;refine aY fun _ _ Z=>?_;simp(disch:=omega);apply Z;refine zi ?_;refine⟨fun c2=>?_,fun c2=>?_⟩
  ·try simp at c2
   refine zk [1,4,7,9,10,11] ?_;refine aY fun _ _ Z=>?_;simp(disch:=omega);apply Z;apply aB;apply aQ;apply aJ;apply fD;apply aQ;apply aJ;have hf:=Xl c1 hh c2;simp [aL,Mm,aF,dF,hf]
  try simp at c2
  apply aE;apply aK;apply aA;refine zk [1,4,9,10,11] ?_;refine yL fun _ _ Z=>?_;simp(disch:=omega);and_intros<;>(try omega);apply Z;refine zq (k+1) ?_ ?_ ?_
  ·exact⟨by omega,mP (by omega) hh (by simpa using c2)⟩
  ·try dsimp only
   omega
  simp(disch:=omega)
 try simp at c1
 apply bC;apply bB;apply bD;apply aX;apply aA;refine aY fun _ _ Z=>?_;simp(disch:=omega);apply Z;apply aB;rw [List.take_of_length_le (by omega)] at hh;have hf:=Nz hh;simp [aL,Mm,aF,dF,hf,Ew]
theorem jJ(x:RD)(id:Int)(σ:List (List D))(hx:NB x.l):Ct prog 21 [eN x,D.int id] σ (fun r σ'=>r= .tup [vE (aF x.l id),.bool (dF x.l id)]∧σ'=σ):=
 (Zf x id σ hx).strip fun r σ' ⟨hr,hs⟩=>by
  subst hr;have hd:(dF x.l id=true→aF x.l id=aF x.l id):=fun _=>rfl;by_cases e:dF x.l id=true
  ·refine⟨by simp [Mm,e,D.plain],?_,hs⟩;simp [Mm,e,D.strip,D.s2,D.s1]
  have hz:aF x.l id=Ew:=by
   unfold aF;unfold dF at e;cases hq:gV x.l id with
   | none=>rfl
   | some n=>rw [hq] at e;exact absurd rfl e
  refine⟨by simp [Mm,e,D.plain],?_,hs⟩;simp [Mm,e,D.strip,D.s2,D.s1,hz,Ew]
theorem jI(x:RD)(n:ND)(σ:List (List D))(hx:NB x.l):Ct prog 79 [eN x,vE n] σ (fun r σ'=>r=eN ⟨x.most,x.next,dH x.l n⟩∧σ'=σ):=by
 refine zf (rs:=[.cell 4 30]) func79 ntmps79 results79 ?_;simp only [aN];have hxl:=hx.len;refine zr ⟨[5,22],[],[],[],[]⟩ fun _ _ Z=>?_;simp(disch:=omega);apply Z;refine zr ⟨[5,22],[],[],[],[]⟩ fun _ _ Z=>?_;simp(disch:=omega);and_intros<;>(try omega);apply Z;apply aC;refine zr ⟨[5,22],[],[],[],[]⟩ fun _ _ Z=>?_;simp(disch:=omega);and_intros<;>(try omega);apply Z;apply aG;refine zk [2,3,4,5,10,11,12] ?_;refine bI (fun(k:Nat)=> [(12,.d (.v (.int .i64 (k:Int)))),(5,.d (.sl true ((dH (x.l.take k) n).map vE)))]) [5,7,12,13,14,15,16,17,18,19,20,21,22,23,24,25,26] (fun(k:Nat)=>k≤x.l.length) (fun(k:Nat)=>x.l.length - k) (0) (by simp <;> rfl) ?_ ?_ ?_
 ·simp [dH]
 ·simp
 rintro k hk;simp only [List.cons_append,List.nil_append];have hpl:=Hj (x.l.take k) n;simp only [List.length_take] at hpl;refine zr ⟨[5,22],[],[],[],[]⟩ fun _ _ Z=>?_;simp(disch:=omega);apply Z;apply aC;refine zi ?_;refine⟨fun c1=>?_,fun c1=>?_⟩
 ·try simp at c1
  apply aE;apply aA;apply aC;apply aG;refine zr ⟨[5,22],[],[],[],[]⟩ fun _ _ Z=>?_;simp(disch:=omega);and_intros<;>(try omega);apply Z;apply aC;refine zr ⟨[5,22],[],[],[],[]⟩ fun _ _ Z=>?_;simp(disch:=omega);apply Z;refine zi ?_;refine⟨fun c2=>?_,fun c2=>?_⟩
  ·try simp at c2
   refine zk [2,3,4,5,7,10,11,12] ?_;refine zt ⟨[5,22],[],[],[],[]⟩ fun _ _ Z=>?_;simp(disch:=omega);apply Z;apply aA;refine zt ⟨[5,22],[],[],[],[]⟩ fun _ _ Z=>?_;simp(disch:=omega);and_intros<;>(try omega);apply Z;apply aK;apply aA;refine zk [2,3,4,5,10,11,12] ?_;refine zt ⟨[5,22],[],[],[],[]⟩ fun _ _ Z=>?_;simp(disch:=omega);and_intros<;>(try omega);apply Z;refine zq (k+1) ?_ ?_ ?_
   ·omega
   ·try dsimp only
    omega
   simp(disch:=omega)[Dt, *]
  try simp at c2
  apply aE;apply aA;refine zk [2,3,4,5,7,10,11,12] ?_;refine zt ⟨[5,22],[],[],[],[]⟩ fun _ _ Z=>?_;simp(disch:=omega);and_intros<;>(try omega);apply Z;apply aK;apply aA;refine zk [2,3,4,5,10,11,12] ?_;refine zt ⟨[5,22],[],[],[],[]⟩ fun _ _ Z=>?_;simp(disch:=omega);and_intros<;>(try omega);apply Z;refine zq (k+1) ?_ ?_ ?_
  ·omega
  ·try dsimp only
   omega
  simp(disch:=omega)[Dt, *]
 try simp at c1
 apply bC;apply bB;apply bD;apply aX;apply aA;refine zr ⟨[5,22],[],[],[],[]⟩ fun _ _ Z=>?_;simp(disch:=omega);apply Z;refine zr ⟨[5,22],[],[],[],[]⟩ fun _ _ Z=>?_;simp(disch:=omega);apply Z;apply aB;simp [aL];rw [List.take_of_length_le (by omega)]
structure Tr(l:List ND)(bel:Int→List Int)(rk:Int→Nat):Prop where
 eq:∀id,bel id=id::(aF l id).kids.flatMap bel
 dec:∀id,∀k∈(aF l id).kids,rk k<rk id
 len:∀id,(bel id).length≤10000
theorem Fi(bel:Int→List Int)(K:List Int)(k:Nat)(h:k<K.length):(K.take (k+1)).flatMap bel=(K.take k).flatMap bel++bel K[k]:=by
 rw [dL K k h,List.flatMap_append];simp
theorem xI(bel:Int→List Int)(K:List Int)(k:Nat):((K.take k).flatMap bel).length≤(K.flatMap bel).length:=by
 conv=>rhs;rw [← List.take_append_drop k K,List.flatMap_append,List.length_append]
 omega
theorem Tr.fl {l:List ND} {bel:Int→List Int} {rk:Int→Nat} (h:Tr l bel rk)(id:Int):((aF l id).kids.flatMap bel).length+1≤10000:=by
 have:=h.len id;rw [h.eq id] at this;simpa using this
@[simp] abbrev qAr71:Cfg:=⟨[4,7,25,31],[],[],[],[]⟩
theorem De(x:RD)(id:Int)(bel:Int→List Int)(rk:Int→Nat)(σ:List (List D))(hx:NB x.l)(ht:Tr x.l bel rk)(ih:∀k∈(aF x.l id).kids,∀σ,Ct prog 85 [eN x,D.int k] σ (fun r σ'=>r= .sl true ((bel k).map D.int)∧σ'=σ)):Ct prog 85 [eN x,D.int id] σ (fun r σ'=>r= .sl true ((bel id).map D.int)∧σ'=σ):=by
 refine zf (rs:=[.tmp 4]) func85 ntmps85 results85 ?_;simp only [aN];have hk:=hx.fk id;have hfl:=ht.fl id;refine zr qAr71 fun _ _ Z=>?_;simp(disch:=omega);and_intros<;>(try omega)
 all_goals first | (intro a x1 x2 _ _ h;subst h;rfl) | skip
 apply Z;refine zr qAr71 fun _ _ Z=>?_;refine zs 2 fun _ Y=>?_;simp(disch:=omega);and_intros<;>(try omega)
 all_goals first | (intro a x1 x2 _ _ h;subst h;rfl) | skip
 apply Y;refine aD fun _ Y=>?_;simp(disch:=omega);refine cH (jJ x id _ hx) ?_;apply Y;simp(disch:=omega);and_intros<;>(try omega)
 all_goals first | (intro a x1 x2 _ _ h;subst h;rfl) | skip
 apply Z;refine zr qAr71 fun _ _ Z=>?_;simp(disch:=omega);and_intros<;>(try omega)
 all_goals first | (intro a x1 x2 _ _ h;subst h;rfl) | skip
 apply Z;apply aC;refine zk [2,4,5,7] ?_;refine zr qAr71 fun _ _ Z=>?_;simp(disch:=omega);and_intros<;>(try omega)
 all_goals first | (intro a x1 x2 _ _ h;subst h;rfl) | skip
 apply Z;apply aG;refine zk [2,4,7,19,20,21] ?_;refine bI (fun(k:Nat)=> [(21,.d (.v (.int .i64 (k:Int)))),(7,.d (.sl true ((id::((aF x.l id).kids.take k).flatMap bel).map D.int))),(9,.d (.any))]) [7,9,21,22,23,24,25,26,27,28,29,30] (fun(k:Nat)=>k≤(aF x.l id).kids.length) (fun(k:Nat)=>(aF x.l id).kids.length - k) (0) (by simp <;> rfl) ?_ ?_ ?_
 ·simp
 ·simp
 rintro k hk2;simp only [List.cons_append,List.nil_append];have hfl2:=xI bel (aF x.l id).kids k;simp only [List.length_flatMap,List.map_take] at hfl2 hfl;refine zr qAr71 fun _ _ Z=>?_;simp(disch:=omega);and_intros<;>(try omega)
 all_goals first | (intro a x1 x2 _ _ h;subst h;rfl) | skip
 apply Z;apply aC;refine zi ?_;refine⟨fun c1=>?_,fun c1=>?_⟩
 ·try simp at c1
  have hkk:k<(aF x.l id).kids.length:=by omega
  have hl28:=ht.len ((aF x.l id).kids[k]);apply aE;apply aA;apply aC;apply aG;refine zr qAr71 fun _ _ Z=>?_;simp(disch:=omega);and_intros<;>(try omega)
  all_goals first | (intro a x1 x2 _ _ h;subst h;rfl) | skip
  apply Z;refine zt qAr71 fun _ _ Z=>?_;refine zs 3 fun _ Y=>?_;simp(disch:=omega);and_intros<;>(try omega)
  all_goals first | (intro a x1 x2 _ _ h;subst h;rfl) | skip
  apply Y;refine aD fun _ Y=>?_;simp(disch:=omega);refine cH (ih _ (List.getElem_mem hkk) _) ?_;apply Y;simp(disch:=omega);and_intros<;>(try omega)
  all_goals first | (intro a x1 x2 _ _ h;subst h;rfl) | skip
  apply Z;apply aK;apply aA;refine zk [2,4,7,9,19,20,21] ?_;refine zt qAr71 fun _ _ Z=>?_;simp(disch:=omega);and_intros<;>(try omega)
  all_goals first | (intro a x1 x2 _ _ h;subst h;rfl) | skip
  apply Z;refine zq (k+1) ?_ ?_ ?_
  ·omega
  ·try dsimp only
   omega
  simp(disch:=omega)[Fi]
 try simp at c1
 apply bC;apply bB;apply bD;apply aX;apply aA;refine zr qAr71 fun _ _ Z=>?_;simp(disch:=omega);and_intros<;>(try omega)
 all_goals first | (intro a x1 x2 _ _ h;subst h;rfl) | skip
 apply Z;apply aB;simp [aL];rw [ht.eq id,List.take_of_length_le (by omega)];simp
theorem Ae(x:RD)(id:Int)(bel:Int→List Int)(rk:Int→Nat)(σ:List (List D))(hx:NB x.l)(ht:Tr x.l bel rk):Ct prog 85 [eN x,D.int id] σ (fun r σ'=>r= .sl true ((bel id).map D.int)∧σ'=σ):=by
 have key:∀(m:Nat) (id:Int) (σ:List (List D)),rk id≤m→Ct prog 85 [eN x,D.int id] σ (fun r σ'=>r= .sl true ((bel id).map D.int)∧σ'=σ):=by
  intro m;induction m with
  | zero=>exact fun id σ h=>De x id bel rk σ hx ht fun k hk=>absurd (ht.dec id k hk) (by omega)
  | succ m ih=>exact fun id σ h=>De x id bel rk σ hx ht fun k hk τ=>ih k τ (by have:=ht.dec id k hk;omega)
 exact key (rk id) id σ (Nat.le_refl _)
def gW(l:List ND)(bel:Int→List Int)(id of_:Int):Bool:=dF l id && dF l of_ && (bel of_).any fun k=>decide (k=id)
def aHb(l:List ND)(id:Int):Int:=if dF l id=true∧0≤(aF l id).parent then qB id (aF l (aF l id).parent).kids else -1
theorem Oo(x:RD)(id of_:Int)(bel:Int→List Int)(rk:Int→Nat)(σ:List (List D))(hx:NB x.l)(ht:Tr x.l bel rk):Ct prog 69 [eN x,D.int id,D.int of_] σ (fun r σ'=>r= .bool (gW x.l bel id of_)∧σ'=σ):=by
 refine zf (rs:=[.tmp 6]) func69 ntmps69 results69 ?_;simp only [aN];have hbl:=ht.len of_;refine aY fun _ _ Z=>?_;simp(disch:=omega);apply Z;refine aY fun _ _ Z=>?_;refine zs 2 fun _ Y=>?_;simp(disch:=omega);apply Y;refine aD fun _ Y=>?_;simp(disch:=omega);refine cH (jJ x id _ hx) ?_;apply Y;simp(disch:=omega);apply Z;refine aY fun _ _ Z=>?_;refine zs 2 fun _ Y=>?_;simp(disch:=omega);apply Y;refine aD fun _ Y=>?_;simp(disch:=omega);refine cH (jJ x of_ _ hx) ?_;apply Y;simp(disch:=omega);apply Z;apply aC;refine zk [1,2,3,6,8,10] ?_;refine mY ⟨[],[],[],[],[]⟩ fun all hall _ Z=>?_;have ga2:aR all 2=some 27:=hall 2;refine zs 3 fun _ Y=>?_;simp(disch:=omega)[ga2];apply Y;refine aU 27 (by simp <;> rfl) ?_;refine⟨fun g1=>?_,fun g1=>?_⟩
 ·try simp at g1
  simp(disch:=omega)[ga2];apply Z;refine bM (t:=true) (by simp) (fun _=>?_) (fun h=>by cases h);refine zk [1,2,3,6] ?_;refine aY fun _ _ Z=>?_;simp(disch:=omega);apply Z;apply aB;apply aJ;simp [aL,gW, *]
 try simp at g1
 simp(disch:=omega)[ga2];apply Z;refine zi ?_;refine⟨fun c2=>?_,fun c2=>?_⟩
 ·try simp at c2
  refine zk [1,2,3,6] ?_;refine aY fun _ _ Z=>?_;simp(disch:=omega);apply Z;apply aB;apply aJ;simp [aL,gW, *]
 try simp at c2
 apply aE;apply aA;apply aC;refine zk [1,2,3,6] ?_;refine aY fun _ _ Z=>?_;refine zs 2 fun _ Y=>?_;simp(disch:=omega);apply Y;refine aD fun _ Y=>?_;simp(disch:=omega);refine cH (Ae x of_ bel rk _ hx ht) ?_;apply Y;simp(disch:=omega);and_intros<;>(try omega);apply Z;apply aG;refine zk [1,6,33,34,35] ?_;refine bI (fun(k:Nat)=> [(35,.d (.v (.int .i64 (k:Int)))),(12,.d (.any))]) [6,12,35,36,37,38,39,40,41,42] (fun(k:Nat)=>k≤(bel of_).length∧∀y∈(bel of_).take k,decide (y=id)=false) (fun(k:Nat)=>(bel of_).length - k) (0) (by simp <;> rfl) ?_ ?_ ?_
 ·simp
 ·simp
 rintro k ⟨hk,hh⟩;simp only [List.cons_append,List.nil_append];refine aY fun _ _ Z=>?_;simp(disch:=omega);apply Z;apply aC;refine zi ?_;refine⟨fun c3=>?_,fun c3=>?_⟩
 ·try simp at c3
  apply aE;apply aA;apply aC;apply aG;refine aY fun _ _ Z=>?_;simp(disch:=omega);and_intros<;>(try omega);apply Z;refine aY fun _ _ Z=>?_;simp(disch:=omega);apply Z;refine zi ?_;refine⟨fun c4=>?_,fun c4=>?_⟩
  ·try simp at c4
   refine zk [1,12,33,34,35] ?_;refine aY fun _ _ Z=>?_;simp(disch:=omega);apply Z;apply aB;apply aQ;apply aJ;apply fD;apply aQ;apply aJ;simp [aL];unfold gW;rw [g1,c2,Bool.true_and,Bool.true_and,List.any_eq_true];exact⟨_,List.getElem_mem c3,by simpa using c4⟩
  try simp at c4
  apply aE;apply aK;apply aA;refine zk [1,12,33,34,35] ?_;refine yL fun _ _ Z=>?_;simp(disch:=omega);and_intros<;>(try omega);apply Z;refine zq (k+1) ?_ ?_ ?_
  ·exact⟨by omega,mP (by omega) hh (by simpa using c4)⟩
  ·try dsimp only
   omega
  simp(disch:=omega)
 try simp at c3
 apply bC;apply bB;apply bD;apply aX;apply aA;refine aY fun _ _ Z=>?_;simp(disch:=omega);apply Z;apply aB;simp [aL];rw [List.take_of_length_le (by omega)] at hh;unfold gW;rw [g1,c2,Bool.true_and,Bool.true_and,List.any_eq_false];exact fun y hy=>by simpa using hh y hy
def kW(id kind:Int)(s:ByteArray):ND:=⟨id,kind,if kind=2 then s else⟨#[]⟩,if kind=2 then⟨#[]⟩else s, [], [], [], -1, []⟩
def addX(x:RD)(kind:Int)(s:ByteArray):RD×Int×Int:=if kind=2∧fS s=false then(x,0,2)else if x.most<(x.l.length:Int)then(x,0,8)else(⟨x.most,x.next+1,x.l++ [kW x.next kind s]⟩,x.next,0)
def lM:ND:=⟨0,2,⟨#[114,111,111,116]⟩,⟨#[]⟩, [], [], [], -1, []⟩
def newX(most:Int):RD:=⟨max 1 (min most 65536),1, [lM]⟩
theorem aEy(most:Int)(σ:List (List D))  :Ct prog 59 [D.int most] σ (fun r σ'=>r=eN (newX most)∧σ'=σ):=by
 refine zf (rs:=[.cell 2 30]) func59 ntmps59 results59 ?_;simp only [aN];refine aY fun _ _ Z=>?_;simp;apply Z;refine aY fun _ _ Z=>?_;simp;and_intros<;>(try omega);apply Z;apply aB;simp [aL,newX,lM]
theorem aG8(N:Nat)(x:AT):Sc N (cZ x):=Sc.agg fun d hd=>by
 simp only [List.mem_cons,List.not_mem_nil,or_false] at hd;rcases hd with rfl | rfl <;> exact Sc.v _
theorem aG2(N:Nat)(x:PI):Sc N (cX x):=Sc.agg fun d hd=>by
 simp only [List.mem_cons,List.not_mem_nil,or_false] at hd;rcases hd with rfl | rfl <;> exact Sc.v _
theorem Wx(N:Nat)(x:ND):Sc N (vE x):=Sc.agg fun d hd=>by
 simp only [List.mem_cons,List.not_mem_nil,or_false] at hd;rcases hd with rfl | rfl | rfl | rfl | rfl | rfl | rfl | rfl | rfl
 ·exact Sc.v _
 ·exact Sc.v _
 ·exact Sc.v _
 ·exact Sc.v _
 ·exact Sc.sl (Sc.map fun a=>Sc.v _)
 ·exact Sc.sl (Sc.map fun a=>aG8 _ a)
 ·exact Sc.sl (Sc.map fun a=>aG2 _ a)
 ·exact Sc.v _
 exact Sc.sl (Sc.map fun a=>Sc.v _)
theorem aJ2(N:Nat)(x:RD):Sc N (eN x):=Sc.agg fun d hd=>by
 simp only [List.mem_cons,List.not_mem_nil,or_false] at hd;rcases hd with rfl | rfl | rfl
 ·exact Sc.v _
 ·exact Sc.v _
 exact Sc.sl (Sc.map fun a=>Wx _ a)
theorem Eo {N:Nat} {a b:D} (h1:Sc N a)(h2:Sc N b):Sc N (.tup [a,b]):=Sc.tup fun d hd=>by
 simp only [List.mem_cons,List.not_mem_nil,or_false] at hd;rcases hd with rfl | rfl <;> assumption
theorem aGc {N:Nat} {a b c:D} (h1:Sc N a)(h2:Sc N b)(h3:Sc N c):Sc N (.tup [a,b,c]):=Sc.tup fun d hd=>by
 simp only [List.mem_cons,List.not_mem_nil,or_false] at hd;rcases hd with rfl | rfl | rfl <;> assumption
theorem aAk(x:RD)(kind:Int)(s:ByteArray)(σ:List (List D))(hx:NB x.l)(hn:0≤x.next∧x.next≤1000000)(hs:s.size≤1000):Ct prog 134 [eN x,D.int kind,D.str s] σ (fun r σ'=>r= .tup [eN (addX x kind s).1,D.int (addX x kind s).2.1,D.int (addX x kind s).2.2]∧∃J,σ'=σ++J):=by
 refine zf (rs:=[.cell 6 30,.tmp 7,.tmp 8]) func134 ntmps134 results134 ?_;simp only [aN];have hxl:=hx.len;refine zr ⟨[],[],[9],[],[]⟩ fun _ _ Z=>?_;simp[or_imp,forall_and,aV,aP,aM,aH];apply Z;apply aC;refine mY ⟨[],[],[9],[],[]⟩ fun all hall _ Z=>?_;have ga2:aR all 2=some 12:=hall 2;refine zs 3 fun _ Y=>?_;simp[or_imp,forall_and,aV,aP,aM,aH,ga2];apply Y;refine aU 12 (by simp <;> rfl) ?_;refine⟨fun g1=>?_,fun g1=>?_⟩
 ·try simp at g1
  refine zs 1 fun _ Y=>?_;simp[or_imp,forall_and,aV,aP,aM,aH,ga2];apply Y;refine zg ga2 fun _ Y=>?_;simp[or_imp,forall_and,aV,aP,aM,aH,ga2];refine cH (Ji s _ (by omega)) ?_;apply Y;simp[or_imp,forall_and,aV,aP,aM,aH,ga2];apply Z;refine zi ?_;refine⟨fun c2=>?_,fun c2=>?_⟩
  ·try simp at c2
   refine zr ⟨[],[],[9],[],[]⟩ fun _ _ Z=>?_;simp[or_imp,forall_and,aV,aP,aM,aH];apply Z;apply aB;apply aJ;first | (simp [aL,addX,kW, *];done) | (have h3:¬x.most<(x.l.length:Int):=(by omega);simp [aL,addX,kW, *])
  try simp at c2
  apply aE;apply aA;apply aC;refine zr ⟨[],[],[9],[],[]⟩ fun _ _ Z=>?_;simp[or_imp,forall_and,aV,aP,aM,aH];and_intros<;>(try omega);apply Z;refine zi ?_;refine⟨fun c3=>?_,fun c3=>?_⟩
  ·try simp at c3
   refine zk [1,2,3,6,7,8] ?_;refine zr ⟨[],[],[9],[],[]⟩ fun _ _ Z=>?_;simp[or_imp,forall_and,aV,aP,aM,aH];apply Z;apply aB;apply aJ;first | (simp [aL,addX,kW, *];done) | (have h3:¬x.most<(x.l.length:Int):=(by omega);simp [aL,addX,kW, *])
  try simp at c3
  apply aE;apply aA;refine zk [1,2,3,6,7,8] ?_;refine zr ⟨[],[],[9],[],[]⟩ fun _ _ Z=>?_;simp[or_imp,forall_and,aV,aP,aM,aH];and_intros<;>(try omega);apply Z;apply aC;refine zr ⟨[],[],[9],[],[]⟩ fun _ _ Z=>?_;simp[or_imp,forall_and,aV,aP,aM,aH];apply Z;refine zi ?_;refine⟨fun c4=>?_,fun c4=>?_⟩
  ·try simp at c4
   refine zk [2,3,6,7,8,9] ?_;refine zt ⟨[],[],[9],[],[]⟩ fun _ _ Z=>?_;simp[or_imp,forall_and,aV,aP,aM,aH];apply Z;apply aA;refine zd ⟨[],[],[9],[],[]⟩ [.op {},.op {},.op {rL:=true},.op {},.op {rO:=true},.op {},.op {},.op {},.op {rL:=true,wL:=true}] fun all hall _ Z=>?_;refine jD 8 fun _ Y=>?_;simp[or_imp,forall_and,aV,aP,aM,aH];and_intros<;>(try omega);apply Y;simp[or_imp,forall_and,aV,aP,aM,aH];apply Z;refine zk [3,6,7,8,9] ?_;refine zr ⟨[],[],[9],[],[]⟩ fun _ _ Z=>?_;simp[or_imp,forall_and,aV,aP,aM,aH];and_intros<;>(try omega);apply Z;refine zd ⟨[],[],[9],[],[]⟩ [.op {rL:=true},.op {},.op {rO:=true},.op {rL:=true,wL:=true},.op {},.op {}] fun all hall _ Z=>?_;simp[or_imp,forall_and,aV,aP,aM,aH];apply Z;apply aB;first | (simp [aL,addX,kW, *];done) | (have h3:¬x.most<(x.l.length:Int):=(by omega);simp [aL,addX,kW, *])
  try simp at c4
  exact absurd g1 c4
 try simp at g1
 simp[or_imp,forall_and,aV,aP,aM,aH,ga2];apply Z;refine bM (t:=false) (by simp) (fun h=>by cases h) (fun _=>?_);apply aE;apply aA;apply aC;refine zr ⟨[],[],[9],[],[]⟩ fun _ _ Z=>?_;simp[or_imp,forall_and,aV,aP,aM,aH];and_intros<;>(try omega);apply Z;refine zi ?_;refine⟨fun c5=>?_,fun c5=>?_⟩
 ·try simp at c5
  refine zk [1,2,3,6,7,8] ?_;refine zr ⟨[],[],[9],[],[]⟩ fun _ _ Z=>?_;simp[or_imp,forall_and,aV,aP,aM,aH];apply Z;apply aB;apply aJ;first | (simp [aL,addX,kW, *];done) | (have h3:¬x.most<(x.l.length:Int):=(by omega);simp [aL,addX,kW, *])
 try simp at c5
 apply aE;apply aA;refine zk [1,2,3,6,7,8] ?_;refine zr ⟨[],[],[9],[],[]⟩ fun _ _ Z=>?_;simp[or_imp,forall_and,aV,aP,aM,aH];and_intros<;>(try omega);apply Z;apply aC;refine zr ⟨[],[],[9],[],[]⟩ fun _ _ Z=>?_;simp[or_imp,forall_and,aV,aP,aM,aH];apply Z;refine zi ?_;refine⟨fun c6=>?_,fun c6=>?_⟩
 ·try simp at c6
  exact absurd c6 g1
 try simp at c6
 refine zk [2,3,6,7,8,9] ?_;refine zt ⟨[],[],[9],[],[]⟩ fun _ _ Z=>?_;simp[or_imp,forall_and,aV,aP,aM,aH];apply Z;apply aA;refine zd ⟨[],[],[9],[],[]⟩ [.op {},.op {},.op {rL:=true},.op {},.op {rO:=true},.op {},.op {},.op {},.op {rL:=true,wL:=true}] fun all hall _ Z=>?_;refine jD 8 fun _ Y=>?_;simp[or_imp,forall_and,aV,aP,aM,aH];and_intros<;>(try omega);apply Y;simp[or_imp,forall_and,aV,aP,aM,aH];apply Z;refine zk [3,6,7,8,9] ?_;refine zr ⟨[],[],[9],[],[]⟩ fun _ _ Z=>?_;simp[or_imp,forall_and,aV,aP,aM,aH];and_intros<;>(try omega);apply Z;refine zd ⟨[],[],[9],[],[]⟩ [.op {rL:=true},.op {},.op {rO:=true},.op {rL:=true,wL:=true},.op {},.op {}] fun all hall _ Z=>?_;simp[or_imp,forall_and,aV,aP,aM,aH];apply Z;apply aB;first | (simp [aL,addX,kW, *];done) | (have h3:¬x.most<(x.l.length:Int):=(by omega);simp [aL,addX,kW, *])
theorem yJ(x:RD)(kind:Int)(s:ByteArray)(σ:List (List D))(hx:NB x.l)(hn:0≤x.next∧x.next≤1000000)(hs:s.size≤1000):Ct prog 134 [eN x,D.int kind,D.str s] σ (fun r σ'=>r= .tup [eN (addX x kind s).1,D.int (addX x kind s).2.1,D.int (addX x kind s).2.2]∧σ'=σ):=
 (aAk x kind s σ hx hn hs).trim fun r σ' ⟨hr,J,hs'⟩=>⟨σ,J,hs',rfl,by rw [hr];exact aGc (aJ2 _ _) (Sc.v _) (Sc.v _),fun n cs h=> .inl h,hr,rfl⟩
def insX(x:RD)(bel:Int→List Int)(p at_ id:Int):RD×Int:=
 if dF x.l p=false∨dF x.l id=false then(x,11)
 else if ¬(aF x.l p).kind=2 then(x,14)
 else if id=0∨0≤(aF x.l id).parent∨gW x.l bel p id=true∨at_<0∨((aF x.l p).kids.length:Int)<at_ then(x,1)
 else(⟨x.most,x.next,dH (dH x.l { aF x.l p with kids:=dG (aF x.l p).kids at_.toNat id }) { aF x.l id with parent:=p }⟩,0)
theorem NB.put {l:List ND} (h:NB l) {n:ND} (h1:n.kids.length≤1000)(h2:n.classes.length≤1000)(h3:n.attrs.length≤1000)(h4:n.styles.length≤1000):NB (dH l n):=by
 have key:∀m∈dH l n,m=n∨m∈l:=fun m hm=>by
  unfold dH at hm;obtain⟨x,hx,rfl⟩:=List.mem_map.1 hm;split
  ·exact .inl rfl
  exact .inr hx
 refine⟨by rw [Hj];exact h.len,fun m hm=>?_,fun m hm=>?_,fun m hm=>?_,fun m hm=>?_⟩
 all_goals rcases key m hm with rfl | hm'
 ·exact h1
 ·exact h.kids m hm'
 ·exact h2
 ·exact h.cls m hm'
 ·exact h3
 ·exact h.ats m hm'
 ·exact h4
 exact h.sts m hm'
theorem Qr(x:RD)(p at_ id:Int)(bel:Int→List Int)(rk:Int→Nat)(σ:List (List D))(hx:NB x.l)(ht:Tr x.l bel rk)(hkl:(aF x.l p).kids.length≤900):Ct prog 137 [eN x,D.int p,D.int at_,D.int id] σ (fun r σ'=>r= .tup [eN (insX x bel p at_ id).1,D.int (insX x bel p at_ id).2]∧σ'=σ):=by
 refine zf (rs:=[.cell 8 30,.tmp 9]) func137 ntmps137 results137 ?_;simp only [aN];refine aY fun _ _ Z=>?_;simp;apply Z;refine aY fun _ _ Z=>?_;refine zs 2 fun _ Y=>?_;simp;apply Y;refine aD fun _ Y=>?_;simp;refine cH (jJ x p _ hx) ?_;apply Y;simp;apply Z;refine aY fun _ _ Z=>?_;refine zs 2 fun _ Y=>?_;simp;apply Y;refine aD fun _ Y=>?_;simp;refine cH (jJ x id _ hx) ?_;apply Y;simp;apply Z;apply aC;refine zk [1,2,3,4,8,9,10,11,12,13] ?_;refine mY ⟨[],[],[],[],[]⟩ fun all hall _ Z=>?_;have ga2:aR all 2=some 28:=hall 2;refine zs 3 fun _ Y=>?_;simp[ga2];apply Y;refine aU 28 (by simp <;> rfl) ?_;refine⟨fun g1=>?_,fun g1=>?_⟩
 ·try simp at g1
  simp[ga2];apply Z;refine bM (t:=true) (by simp) (fun _=>?_) (fun h=>by cases h);refine zk [1,2,3,4,8,9,10,12] ?_;refine aY fun _ _ Z=>?_;simp;apply Z;apply aB;apply aJ;simp [aL,insX, *]
 try simp at g1
 simp[ga2];apply Z;refine zi ?_;refine⟨fun c2=>?_,fun c2=>?_⟩
 ·try simp at c2
  refine zk [1,2,3,4,8,9,10,12] ?_;refine aY fun _ _ Z=>?_;simp;apply Z;apply aB;apply aJ;simp [aL,insX, *]
 try simp at c2
 apply aE;apply aA;apply aC;refine zk [1,2,3,4,8,9,10,12] ?_;refine aY fun _ _ Z=>?_;simp;apply Z;refine zi ?_;refine⟨fun c3=>?_,fun c3=>?_⟩
 ·try simp at c3
  refine aY fun _ _ Z=>?_;simp;apply Z;apply aB;apply aJ;simp [aL,insX, *]
 try simp at c3
 apply aE;apply aA;apply aC;refine zk [1,2,3,4,8,9,10,12] ?_;refine mY ⟨[],[],[],[],[]⟩ fun all hall _ Z=>?_;have ga2:aR all 2=some 39:=hall 2;have ga7:aR all 7=some 44:=hall 7;have ga13:aR all 13=some 50:=hall 13;have ga17:aR all 17=some 54:=hall 17;refine zs 3 fun _ Y=>?_;simp[ga2,ga7,ga13,ga17];apply Y;refine aU 39 (by simp <;> rfl) ?_;refine⟨fun g4=>?_,fun g4=>?_⟩
 ·try simp at g4
  refine zs 5 fun _ Y=>?_;simp[ga2,ga7,ga13,ga17];apply Y;refine zs 6 fun _ Y=>?_;simp[ga2,ga7,ga13,ga17];apply Y;refine zs 4 fun _ Y=>?_;simp[ga2,ga7,ga13,ga17];apply Y;simp[ga2,ga7,ga13,ga17];apply Z;refine bM (t:=true) (by simp) (fun _=>?_) (fun h=>by cases h);refine zk [1,2,3,4,8,9,10,12] ?_;refine aY fun _ _ Z=>?_;simp;apply Z;apply aB;apply aJ;subst g4;simp [aL,insX, *]
 try simp at g4
 refine zs 5 fun _ Y=>?_;simp[ga2,ga7,ga13,ga17];apply Y;refine aU 44 (by simp <;> rfl) ?_;refine⟨fun g5=>?_,fun g5=>?_⟩
 ·try simp at g5
  refine zs 6 fun _ Y=>?_;simp[ga2,ga7,ga13,ga17];apply Y;refine zs 4 fun _ Y=>?_;simp[ga2,ga7,ga13,ga17];apply Y;simp[ga2,ga7,ga13,ga17];apply Z;refine bM (t:=true) (by simp) (fun _=>?_) (fun h=>by cases h);refine zk [1,2,3,4,8,9,10,12] ?_;refine aY fun _ _ Z=>?_;simp;apply Z;apply aB;apply aJ;simp [aL,insX, *]
 try simp at g5
 refine zs 3 fun _ Y=>?_;simp[ga2,ga7,ga13,ga17];apply Y;refine zg ga7 fun _ Y=>?_;simp[ga2,ga7,ga13,ga17];refine cH (Oo x p id bel rk _ hx ht) ?_;apply Y;refine zs 2 fun _ Y=>?_;simp[ga2,ga7,ga13,ga17];apply Y;refine aU 50 (by simp <;> rfl) ?_;refine⟨fun g6=>?_,fun g6=>?_⟩
 ·try simp at g6
  refine zs 4 fun _ Y=>?_;simp[ga2,ga7,ga13,ga17];apply Y;simp[ga2,ga7,ga13,ga17];apply Z;refine bM (t:=true) (by simp) (fun _=>?_) (fun h=>by cases h);refine zk [1,2,3,4,8,9,10,12] ?_;refine aY fun _ _ Z=>?_;simp;apply Z;apply aB;apply aJ;simp [aL,insX, *]
 try simp at g6
 refine zs 4 fun _ Y=>?_;simp[ga2,ga7,ga13,ga17];apply Y;refine aU 54 (by simp <;> rfl) ?_;refine⟨fun g7=>?_,fun g7=>?_⟩
 ·try simp at g7
  simp[ga2,ga7,ga13,ga17];apply Z;refine bM (t:=true) (by simp) (fun _=>?_) (fun h=>by cases h);refine zk [1,2,3,4,8,9,10,12] ?_;refine aY fun _ _ Z=>?_;simp;apply Z;apply aB;apply aJ;simp [aL,insX, *]
 try simp at g7
 simp[ga2,ga7,ga13,ga17];and_intros<;>(try omega);apply Z;refine zi ?_;refine⟨fun c8=>?_,fun c8=>?_⟩
 ·try simp at c8
  refine zk [1,2,3,4,8,9,10,12] ?_;refine aY fun _ _ Z=>?_;simp;apply Z;apply aB;apply aJ;simp [aL,insX, *]
 try simp at c8
 obtain⟨i,rfl⟩:∃i:Nat,at_=i:=⟨at_.toNat,by omega⟩;have hnb:NB (dH x.l { aF x.l p with kids:=dG (aF x.l p).kids i id }):=hx.put (by rw [fM _ _ _ (by omega)];omega) (hx.fc p) (hx.fa p) (hx.fs p);apply aE;apply aA;refine zk [1,2,3,4,8,9,10,12] ?_;refine aY fun _ _ Z=>?_;refine zs 4 fun _ Y=>?_;simp;apply Y;refine aD fun _ Y=>?_;simp;refine cH (Qf (aF x.l p).kids i id _ (by omega) (by omega)) ?_;apply Y;simp;apply Z;refine zk [1,4,8,9,10,12] ?_;refine aY fun _ _ Z=>?_;simp;apply Z;refine zd ⟨[],[],[],[],[]⟩ [.op {rL:=true},.op {rL:=true},.pure,.op {rL:=true},.pure,.op {rL:=true,wL:=true},.op {}] fun all hall _ Z=>?_;refine jD 2 fun _ Y=>?_;simp;apply Y;refine dR fun _ Y=>?_;simp;refine To (fun _=>(jI x { aF x.l p with kids:=dG (aF x.l p).kids i id } _ hx)) ?_;apply Y;refine jD 1 fun _ Y=>?_;simp;apply Y;refine dR fun _ Y=>?_;simp;refine To (fun _=>(jI ⟨x.most,x.next,dH x.l { aF x.l p with kids:=dG (aF x.l p).kids i id }⟩ { aF x.l id with parent:=p } _ hnb)) ?_;apply Y;simp;apply Z;apply aB;have h5:¬0≤(aF x.l id).parent:=by omega
 have h7:¬(i:Int)<0:=by omega
 have h8:¬((aF x.l p).kids.length:Int)<(i:Int):=by omega
 simp [aL,insX, *]
def movX(x:RD)(id at_:Int):RD×Int:=
 if dF x.l id=false then(x,11)
 else if dF x.l (aF x.l id).parent=false∨at_<0∨((aF x.l (aF x.l id).parent).kids.length:Int)≤at_ then(x,1)
 else(⟨x.most,x.next,dH x.l { aF x.l (aF x.l id).parent with kids:=dG (eP (aF x.l (aF x.l id).parent).kids id) at_.toNat id }⟩,0)
theorem oF(l:List Int)(x:Int):(eP l x).length≤l.length:=List.length_filter_le _ _
theorem Gl {l:List Int} (h:l.Nodup)(x:Int):l.length≤(eP l x).length+1:=by
 induction l with
 | nil=>simp
 | cons y l ih =>
  have hn:=List.nodup_cons.1 h;unfold eP at *;rw [List.filter_cons];by_cases e:y=x
  ·subst e;simp only [decide_true,Bool.not_true,Bool.false_eq_true,if_false];have:(l.filter fun z=> !decide (z=y))=l:=by
    rw [List.filter_eq_self];intro a ha;have:a≠y:=fun e=>hn.1 (e ▸ ha);simp [this]
   rw [this];simp
  simp only [e,decide_false,Bool.not_false,if_true,List.length_cons];have:=ih hn.2;omega
theorem Qo(x:RD)(id at_:Int)(σ:List (List D))(hx:NB x.l)(hnd:(aF x.l (aF x.l id).parent).kids.Nodup):Ct prog 139 [eN x,D.int id,D.int at_] σ (fun r σ'=>r= .tup [eN (movX x id at_).1,D.int (movX x id at_).2]∧σ'=σ):=by
 refine zf (rs:=[.cell 6 30,.tmp 7]) func139 ntmps139 results139 ?_;simp only [aN];have hfp:=hx.fk (aF x.l id).parent;have hrl:=oF (aF x.l (aF x.l id).parent).kids id;have hrg:=Gl hnd id;refine aY fun _ _ Z=>?_;simp;apply Z;refine aY fun _ _ Z=>?_;refine zs 2 fun _ Y=>?_;simp;apply Y;refine aD fun _ Y=>?_;simp;refine cH (jJ x id _ hx) ?_;apply Y;simp;apply Z;apply aC;refine aY fun _ _ Z=>?_;simp;apply Z;refine zi ?_;refine⟨fun c1=>?_,fun c1=>?_⟩
 ·try simp at c1
  refine zk [1,2,3,6,7,8] ?_;refine aY fun _ _ Z=>?_;simp;apply Z;apply aB;apply aJ;simp [aL,movX, *]
 try simp at c1
 apply aE;apply aA;refine zk [1,2,3,6,7,8] ?_;refine aY fun _ _ Z=>?_;refine zs 3 fun _ Y=>?_;simp;apply Y;refine aD fun _ Y=>?_;simp;refine cH (jJ x (aF x.l id).parent _ hx) ?_;apply Y;simp;apply Z;apply aC;refine zk [1,2,3,6,7,10,11] ?_;refine mY ⟨[],[],[],[],[]⟩ fun all hall _ Z=>?_;have ga2:aR all 2=some 30:=hall 2;have ga6:aR all 6=some 34:=hall 6;refine zs 3 fun _ Y=>?_;simp[ga2,ga6];apply Y;refine aU 30 (by simp <;> rfl) ?_;refine⟨fun g2=>?_,fun g2=>?_⟩
 ·try simp at g2
  refine zs 4 fun _ Y=>?_;simp[ga2,ga6];apply Y;simp[ga2,ga6];apply Z;refine bM (t:=true) (by simp) (fun _=>?_) (fun h=>by cases h);refine zk [1,2,3,6,7,10] ?_;refine aY fun _ _ Z=>?_;simp;apply Z;apply aB;apply aJ;simp [aL,movX, *]
 try simp at g2
 refine zs 4 fun _ Y=>?_;simp[ga2,ga6];apply Y;refine aU 34 (by simp <;> rfl) ?_;refine⟨fun g3=>?_,fun g3=>?_⟩
 ·try simp at g3
  simp[ga2,ga6];apply Z;refine bM (t:=true) (by simp) (fun _=>?_) (fun h=>by cases h);refine zk [1,2,3,6,7,10] ?_;refine aY fun _ _ Z=>?_;simp;apply Z;apply aB;apply aJ;simp [aL,movX, *]
 try simp at g3
 simp[ga2,ga6];and_intros<;>(try omega);apply Z;refine zi ?_;refine⟨fun c4=>?_,fun c4=>?_⟩
 ·try simp at c4
  refine zk [1,2,3,6,7,10] ?_;refine aY fun _ _ Z=>?_;simp;apply Z;apply aB;apply aJ;simp [aL,movX, *]
 try simp at c4
 obtain⟨i,rfl⟩:∃i:Nat,at_=i:=⟨at_.toNat,by omega⟩;apply aE;apply aA;refine zk [1,2,3,6,7,10] ?_;refine aY fun _ _ Z=>?_;refine zs 3 fun _ Y=>?_;simp;apply Y;refine aD fun _ Y=>?_;simp;refine cH (xO (aF x.l (aF x.l id).parent).kids id _ (by omega)) ?_;apply Y;refine zs 2 fun _ Y=>?_;simp;apply Y;refine aD fun _ Y=>?_;simp;refine cH (Qf (eP (aF x.l (aF x.l id).parent).kids id) i id _ (by omega) (by omega)) ?_;apply Y;simp;apply Z;refine zk [3,6,7,10] ?_;refine aY fun _ _ Z=>?_;refine zs 2 fun _ Y=>?_;simp;apply Y;refine aD fun _ Y=>?_;simp;refine cH (jI x { (aF x.l (aF x.l id).parent)with kids:=dG (eP (aF x.l (aF x.l id).parent).kids id) i id } _ hx) ?_;apply Y;simp;apply Z;apply aB;have h7:¬(i:Int)<0:=by omega
 have h8:¬(aF x.l (aF x.l id).parent).kids.length≤i:=by omega
 simp [aL,movX, *]
def fN(n:ND)(K:List Int):ND:= { n with kids:=K }
def remP(l:List ND)(id:Int):List ND:=if dF l (aF l id).parent=true then dH l (fN (aF l (aF l id).parent) (eP (aF l (aF l id).parent).kids id))else l
def oC(l:List ND)(g:List Int):List ND:=l.filter fun n=> !g.any fun k=>decide (k=n.ID)
def remX(x:RD)(bel:Int→List Int)(id:Int):RD×Int:=
 if dF x.l id=false then(x,11)else if id=0 then(x,1)else(⟨x.most,x.next,oC (remP x.l id) (bel id)⟩,0)
theorem rR(l:List ND)(g:List Int)(k:Nat)(h:k<l.length):oC (l.take (k+1)) g=oC (l.take k) g++if(g.any fun k'=>decide (k'=l[k].ID))=true then [] else [l[k]]:=by
 unfold oC;rw [dL l k h,List.filter_append,List.filter_cons];by_cases e:(g.any fun k'=>decide (k'=l[k].ID))=true <;> simp [e]
theorem Kv(l:List ND)(g:List Int):(oC l g).length≤l.length:=List.length_filter_le _ _
def uI(g:List Int)(n:ND)(j:Nat):Bool:= !(g.take j).any fun k=>decide (k=n.ID)
theorem oU(g:List Int)(n:ND)(j:Nat)(h:j<g.length):uI g n (j+1)=(uI g n j && !decide (g[j]=n.ID)):=by
 unfold uI;rw [dL g j h,List.any_append];simp [-List.any_eq_true, -List.any_eq_false]
theorem Cx {g:List Int} {n:ND} {j:Nat} (h:g.length≤j):uI g n j= !g.any fun k=>decide (k=n.ID):=by
 unfold uI;rw [List.take_of_length_le h]
theorem NB.remP {l:List ND} (h:NB l)(id:Int):NB (remP l id):=by
 unfold Go.Proofs.YtbgfljpnhhdkoaaGreat.remP;split
 ·have:=oF (aF l (aF l id).parent).kids id;have h1:=h.fk (aF l id).parent;exact h.put (by show(eP _ _).length≤1000;omega) (h.fc _) (h.fa _) (h.fs _)
 exact h
@[simp] abbrev qAr72:Cfg:=⟨[11,71],[],[],[],[]⟩
theorem aAo(x:RD)(id:Int)(bel:Int→List Int)(rk:Int→Nat)(σ:List (List D))(hx:NB x.l)(hp:dF x.l (aF x.l id).parent=true)(ht:Tr (dH x.l (fN (aF x.l (aF x.l id).parent) (eP (aF x.l (aF x.l id).parent).kids id))) bel rk):Ct prog 141 [eN x,D.int id] σ (fun r σ'=>r= .tup [eN (remX x bel id).1,D.int (remX x bel id).2]∧σ'=σ):=by
 refine zf (rs:=[.cell 4 30,.tmp 5]) func141 ntmps141 results141 ?_;simp only [aN];have hfp:=hx.fk (aF x.l id).parent;have hrl:=oF (aF x.l (aF x.l id).parent).kids id;have hrp:remP x.l id=(dH x.l (fN (aF x.l (aF x.l id).parent) (eP (aF x.l (aF x.l id).parent).kids id))):=by unfold remP;simp [hp]
 have hx1:NB (dH x.l (fN (aF x.l (aF x.l id).parent) (eP (aF x.l (aF x.l id).parent).kids id))):=by rw [← hrp];exact hx.remP id
 have hxl:=hx1.len;have hbl:=ht.len id;refine zr qAr72 fun _ _ Z=>?_;simp(disch:=omega)[hp];apply Z;refine zr qAr72 fun _ _ Z=>?_;refine zs 2 fun _ Y=>?_;simp(disch:=omega)[hp];apply Y;refine aD fun _ Y=>?_;simp(disch:=omega)[hp];refine cH (jJ x id _ hx) ?_;apply Y;simp(disch:=omega)[hp];apply Z;apply aC;refine zr qAr72 fun _ _ Z=>?_;simp(disch:=omega)[hp];apply Z;refine zi ?_;refine⟨fun c1=>?_,fun c1=>?_⟩
 ·try simp at c1
  refine zk [1,2,4,5,6] ?_;refine zr qAr72 fun _ _ Z=>?_;simp(disch:=omega)[hp];apply Z;apply aB;apply aJ;simp [aL,remX, *]
 try simp at c1
 apply aE;apply aA;apply aC;refine zk [1,2,4,5,6] ?_;refine zr qAr72 fun _ _ Z=>?_;simp(disch:=omega)[hp];apply Z;refine zi ?_;refine⟨fun c2=>?_,fun c2=>?_⟩
 ·try simp at c2
  refine zr qAr72 fun _ _ Z=>?_;simp(disch:=omega)[hp];apply Z;apply aB;apply aJ;subst c2;simp [aL,remX, *]
 try simp at c2
 apply aE;apply aA;apply aC;refine zr qAr72 fun _ _ Z=>?_;refine zs 3 fun _ Y=>?_;simp(disch:=omega)[hp];apply Y;refine aD fun _ Y=>?_;simp(disch:=omega)[hp];refine cH (jJ x (aF x.l id).parent _ hx) ?_;apply Y;simp(disch:=omega)[hp];apply Z;refine zk [1,2,4,5,8,9] ?_;refine zr qAr72 fun _ _ Z=>?_;simp(disch:=omega)[hp];apply Z;refine zi ?_;refine⟨fun c3=>?_,fun c3=>?_⟩
 ·try simp at c3
  refine zr qAr72 fun _ _ Z=>?_;refine zs 3 fun _ Y=>?_;simp(disch:=omega)[hp];apply Y;refine aD fun _ Y=>?_;simp(disch:=omega)[hp];refine cH (xO (aF x.l (aF x.l id).parent).kids id _ (by omega)) ?_;apply Y;simp(disch:=omega)[hp];apply Z;refine zk [1,2,4,5,8] ?_;refine zt qAr72 fun _ _ Z=>?_;refine zs 2 fun _ Y=>?_;simp(disch:=omega)[hp];apply Y;refine aD fun _ Y=>?_;simp(disch:=omega)[hp];refine cH (jI x (fN (aF x.l (aF x.l id).parent) (eP (aF x.l (aF x.l id).parent).kids id)) _ hx) ?_;apply Y;simp(disch:=omega)[hp];apply Z;apply aA;refine zr qAr72 fun _ _ Z=>?_;refine zs 2 fun _ Y=>?_;simp(disch:=omega)[hp];apply Y;refine aD fun _ Y=>?_;simp(disch:=omega)[hp];refine cH (Ae (⟨x.most,x.next,(dH x.l (fN (aF x.l (aF x.l id).parent) (eP (aF x.l (aF x.l id).parent).kids id)))⟩:RD) id bel rk _ hx1 ht) ?_;apply Y;simp(disch:=omega)[hp];apply Z;refine zk [2,4,5,10] ?_;refine zr qAr72 fun _ _ Z=>?_;simp(disch:=omega)[hp];and_intros<;>(try omega);apply Z;apply aC;refine zr qAr72 fun _ _ Z=>?_;simp(disch:=omega)[hp];and_intros<;>(try omega);apply Z;apply aG;refine zk [2,4,5,10,11,50,51,52] ?_;refine bI (fun(k:Nat)=> [(52,.d (.v (.int .i64 (k:Int)))),(11,.d (.sl true ((oC ((dH x.l (fN (aF x.l (aF x.l id).parent) (eP (aF x.l (aF x.l id).parent).kids id))).take k) (bel id)).map vE))),(14,.d (.any)),(16,.d (.any))]) [11,13,14,16,52,53,54,55,56,57,58,59,60,61,62,63,64,65,66,67,68,69,70,71,72,73,74,75] (fun(k:Nat)=>k≤(dH x.l (fN (aF x.l (aF x.l id).parent) (eP (aF x.l (aF x.l id).parent).kids id))).length) (fun(k:Nat)=>(dH x.l (fN (aF x.l (aF x.l id).parent) (eP (aF x.l (aF x.l id).parent).kids id))).length - k) (0) (by simp <;> rfl) ?_ ?_ ?_
  ·simp [oC]
  ·simp
  rintro k hk;simp only [List.cons_append,List.nil_append];have hrf:=Kv ((dH x.l (fN (aF x.l (aF x.l id).parent) (eP (aF x.l (aF x.l id).parent).kids id))).take k) (bel id);simp only [List.length_take] at hrf;refine zr qAr72 fun _ _ Z=>?_;simp(disch:=omega)[hp];apply Z;apply aC;refine zi ?_;refine⟨fun c4=>?_,fun c4=>?_⟩
  ·try simp at c4
   apply aE;apply aA;apply aC;apply aG;refine zr qAr72 fun _ _ Z=>?_;simp(disch:=omega)[hp];and_intros<;>(try omega);apply Z;refine zk [2,4,5,10,11,13,14,16,50,51,52] ?_;refine zr qAr72 fun _ _ Z=>?_;simp(disch:=omega)[hp];apply Z;apply aC;refine zk [2,4,5,10,11,13,14,16,50,51,52] ?_;refine zr qAr72 fun _ _ Z=>?_;simp(disch:=omega)[hp];and_intros<;>(try omega);apply Z;apply aG;refine zk [2,4,5,10,11,13,14,16,50,51,52,56,57,58] ?_;refine bI (fun(j:Nat)=> [(58,.d (.v (.int .i64 (j:Int)))),(14,.d (.bool (uI (bel id) ((dH x.l (fN (aF x.l (aF x.l id).parent) (eP (aF x.l (aF x.l id).parent).kids id)))[k]) j))),(16,.d (.any))]) [14,16,58,59,60,61,62,63,64,65,66,67,68,69] (fun(j:Nat)=>j≤(bel id).length) (fun(j:Nat)=>(bel id).length - j) (0) (by simp <;> rfl) ?_ ?_ ?_
   ·simp [uI]
   ·simp
   rintro j hj;simp only [List.cons_append,List.nil_append];refine zk [2,4,5,10,11,13,14,16,50,51,52,56,57,58] ?_;refine zr qAr72 fun _ _ Z=>?_;simp(disch:=omega)[hp];apply Z;apply aC;refine zi ?_;refine⟨fun c5=>?_,fun c5=>?_⟩
   ·try simp at c5
    apply aE;apply aA;apply aC;apply aG;refine zk [2,4,5,10,11,13,14,16,50,51,52,56,57,58] ?_;refine zr qAr72 fun _ _ Z=>?_;simp(disch:=omega)[hp];and_intros<;>(try omega);apply Z;refine zk [2,4,5,10,11,13,14,16,50,51,52,56,57,58] ?_;refine ztg qAr72 fun all hall _ Z=>?_;have ga1:aR all 1=some 63:=hall 1;refine zs 2 fun _ Y=>?_;simp(disch:=omega)[hp,ga1];apply Y;refine aU 63 (by simp <;> rfl) ?_;refine⟨fun g6=>?_,fun g6=>?_⟩
    ·try simp at g6
     simp(disch:=omega)[hp,ga1];apply Z;apply aK;apply aA;refine zk [2,4,5,10,11,13,14,16,50,51,52,56,57,58] ?_;refine zt qAr72 fun _ _ Z=>?_;simp(disch:=omega)[hp];and_intros<;>(try omega);apply Z;refine zq (j+1) ?_ ?_ ?_
     ·omega
     ·try dsimp only
      omega
     simp(disch:=omega)[hp,oU, *]
    try simp at g6
    simp(disch:=omega)[hp,ga1];apply Z;apply aK;apply aA;refine zk [2,4,5,10,11,13,14,16,50,51,52,56,57,58] ?_;refine zt qAr72 fun _ _ Z=>?_;simp(disch:=omega)[hp];and_intros<;>(try omega);apply Z;refine zq (j+1) ?_ ?_ ?_
    ·omega
    ·try dsimp only
     omega
    simp(disch:=omega)[hp,oU, *]
   try simp at c5
   obtain rfl:j=(bel id).length:=by omega
   have hst:=Cx (n:=(dH x.l (fN (aF x.l (aF x.l id).parent) (eP (aF x.l (aF x.l id).parent).kids id)))[k]) (Nat.le_refl (bel id).length);apply bC;apply bB;apply bD;apply aX;apply aA;refine zk [2,4,5,10,11,13,14,16,50,51,52] ?_;refine zr qAr72 fun _ _ Z=>?_;simp(disch:=omega)[hp];apply Z;refine zi ?_;refine⟨fun c7=>?_,fun c7=>?_⟩
   ·try simp at c7
    have hst2:((bel id).any fun q=>decide (q=(dH x.l (fN (aF x.l (aF x.l id).parent) (eP (aF x.l (aF x.l id).parent).kids id)))[k].ID))=false:=by rw [hst] at c7;simpa using c7
    refine zk [2,4,5,10,11,13,14,16,50,51,52] ?_;refine zt qAr72 fun _ _ Z=>?_;simp(disch:=omega)[hp];and_intros<;>(try omega);apply Z;apply aK;apply aA;refine zk [2,4,5,10,11,14,16,50,51,52] ?_;refine zt qAr72 fun _ _ Z=>?_;simp(disch:=omega)[hp];and_intros<;>(try omega);apply Z;refine zq (k+1) ?_ ?_ ?_
    ·omega
    ·try dsimp only
     omega
    simp(disch:=omega)[hp,rR,hst2]
   try simp at c7
   have hst2:((bel id).any fun q=>decide (q=(dH x.l (fN (aF x.l (aF x.l id).parent) (eP (aF x.l (aF x.l id).parent).kids id)))[k].ID))=true:=by rw [hst] at c7;simpa using c7
   apply aE;apply aK;apply aA;refine zk [2,4,5,10,11,14,16,50,51,52] ?_;refine zt qAr72 fun _ _ Z=>?_;simp(disch:=omega)[hp];and_intros<;>(try omega);apply Z;refine zq (k+1) ?_ ?_ ?_
   ·omega
   ·try dsimp only
    omega
   simp(disch:=omega)[hp,rR,hst2]
  try simp at c4
  apply bC;apply bB;apply bD;apply aX;apply aA;refine zr qAr72 fun _ _ Z=>?_;simp(disch:=omega)[hp];apply Z;refine zk [2,4,5] ?_;refine zr qAr72 fun _ _ Z=>?_;simp(disch:=omega)[hp];apply Z;apply aB;simp [aL,remX,hrp,c1,c2];rw [List.take_of_length_le (by omega)]
 simp at c3
theorem aC3(x:RD)(id:Int)(bel:Int→List Int)(rk:Int→Nat)(σ:List (List D))(hx:NB x.l)(hp:dF x.l (aF x.l id).parent=false)(ht:Tr x.l bel rk):Ct prog 141 [eN x,D.int id] σ (fun r σ'=>r= .tup [eN (remX x bel id).1,D.int (remX x bel id).2]∧σ'=σ):=by
 refine zf (rs:=[.cell 4 30,.tmp 5]) func141 ntmps141 results141 ?_;simp only [aN];have hfp:=hx.fk (aF x.l id).parent;have hrl:=oF (aF x.l (aF x.l id).parent).kids id;have hrp:remP x.l id=x.l:=by unfold remP;simp [hp]
 have hx1:NB x.l:=by rw [← hrp];exact hx.remP id
 have hxl:=hx1.len;have hbl:=ht.len id;refine zr qAr72 fun _ _ Z=>?_;simp(disch:=omega)[hp];apply Z;refine zr qAr72 fun _ _ Z=>?_;refine zs 2 fun _ Y=>?_;simp(disch:=omega)[hp];apply Y;refine aD fun _ Y=>?_;simp(disch:=omega)[hp];refine cH (jJ x id _ hx) ?_;apply Y;simp(disch:=omega)[hp];apply Z;apply aC;refine zr qAr72 fun _ _ Z=>?_;simp(disch:=omega)[hp];apply Z;refine zi ?_;refine⟨fun c1=>?_,fun c1=>?_⟩
 ·try simp at c1
  refine zk [1,2,4,5,6] ?_;refine zr qAr72 fun _ _ Z=>?_;simp(disch:=omega)[hp];apply Z;apply aB;apply aJ;simp [aL,remX, *]
 try simp at c1
 apply aE;apply aA;apply aC;refine zk [1,2,4,5,6] ?_;refine zr qAr72 fun _ _ Z=>?_;simp(disch:=omega)[hp];apply Z;refine zi ?_;refine⟨fun c2=>?_,fun c2=>?_⟩
 ·try simp at c2
  refine zr qAr72 fun _ _ Z=>?_;simp(disch:=omega)[hp];apply Z;apply aB;apply aJ;subst c2;simp [aL,remX, *]
 try simp at c2
 apply aE;apply aA;apply aC;refine zr qAr72 fun _ _ Z=>?_;refine zs 3 fun _ Y=>?_;simp(disch:=omega)[hp];apply Y;refine aD fun _ Y=>?_;simp(disch:=omega)[hp];refine cH (jJ x (aF x.l id).parent _ hx) ?_;apply Y;simp(disch:=omega)[hp];apply Z;refine zk [1,2,4,5,8,9] ?_;refine zr qAr72 fun _ _ Z=>?_;simp(disch:=omega)[hp];apply Z;refine zi ?_;refine⟨fun c3=>?_,fun c3=>?_⟩
 ·simp at c3
 try simp at c3
 apply aE;apply aA;refine zr qAr72 fun _ _ Z=>?_;refine zs 2 fun _ Y=>?_;simp(disch:=omega)[hp];apply Y;refine aD fun _ Y=>?_;simp(disch:=omega)[hp];refine cH (Ae x id bel rk _ hx1 ht) ?_;apply Y;simp(disch:=omega)[hp];apply Z;refine zr qAr72 fun _ _ Z=>?_;simp(disch:=omega)[hp];and_intros<;>(try omega);apply Z;apply aC;refine zk [2,4,5,10,11] ?_;refine zr qAr72 fun _ _ Z=>?_;simp(disch:=omega)[hp];and_intros<;>(try omega);apply Z;apply aG;refine zk [2,4,5,10,11,50,51,52] ?_;refine bI (fun(k:Nat)=> [(52,.d (.v (.int .i64 (k:Int)))),(11,.d (.sl true ((oC (x.l.take k) (bel id)).map vE))),(14,.d (.any)),(16,.d (.any))]) [11,13,14,16,52,53,54,55,56,57,58,59,60,61,62,63,64,65,66,67,68,69,70,71,72,73,74,75] (fun(k:Nat)=>k≤x.l.length) (fun(k:Nat)=>x.l.length - k) (0) (by simp <;> rfl) ?_ ?_ ?_
 ·simp [oC]
 ·simp
 rintro k hk;simp only [List.cons_append,List.nil_append];have hrf:=Kv (x.l.take k) (bel id);simp only [List.length_take] at hrf;refine zr qAr72 fun _ _ Z=>?_;simp(disch:=omega)[hp];apply Z;apply aC;refine zi ?_;refine⟨fun c4=>?_,fun c4=>?_⟩
 ·try simp at c4
  apply aE;apply aA;apply aC;apply aG;refine zr qAr72 fun _ _ Z=>?_;simp(disch:=omega)[hp];and_intros<;>(try omega);apply Z;refine zk [2,4,5,10,11,13,14,16,50,51,52] ?_;refine zr qAr72 fun _ _ Z=>?_;simp(disch:=omega)[hp];apply Z;apply aC;refine zk [2,4,5,10,11,13,14,16,50,51,52] ?_;refine zr qAr72 fun _ _ Z=>?_;simp(disch:=omega)[hp];and_intros<;>(try omega);apply Z;apply aG;refine zk [2,4,5,10,11,13,14,16,50,51,52,56,57,58] ?_;refine bI (fun(j:Nat)=> [(58,.d (.v (.int .i64 (j:Int)))),(14,.d (.bool (uI (bel id) (x.l[k]) j))),(16,.d (.any))]) [14,16,58,59,60,61,62,63,64,65,66,67,68,69] (fun(j:Nat)=>j≤(bel id).length) (fun(j:Nat)=>(bel id).length - j) (0) (by simp <;> rfl) ?_ ?_ ?_
  ·simp [uI]
  ·simp
  rintro j hj;simp only [List.cons_append,List.nil_append];refine zk [2,4,5,10,11,13,14,16,50,51,52,56,57,58] ?_;refine zr qAr72 fun _ _ Z=>?_;simp(disch:=omega)[hp];apply Z;apply aC;refine zi ?_;refine⟨fun c5=>?_,fun c5=>?_⟩
  ·try simp at c5
   apply aE;apply aA;apply aC;apply aG;refine zk [2,4,5,10,11,13,14,16,50,51,52,56,57,58] ?_;refine zr qAr72 fun _ _ Z=>?_;simp(disch:=omega)[hp];and_intros<;>(try omega);apply Z;refine zk [2,4,5,10,11,13,14,16,50,51,52,56,57,58] ?_;refine ztg qAr72 fun all hall _ Z=>?_;have ga1:aR all 1=some 63:=hall 1;refine zs 2 fun _ Y=>?_;simp(disch:=omega)[hp,ga1];apply Y;refine aU 63 (by simp <;> rfl) ?_;refine⟨fun g6=>?_,fun g6=>?_⟩
   ·try simp at g6
    simp(disch:=omega)[hp,ga1];apply Z;apply aK;apply aA;refine zk [2,4,5,10,11,13,14,16,50,51,52,56,57,58] ?_;refine zt qAr72 fun _ _ Z=>?_;simp(disch:=omega)[hp];and_intros<;>(try omega);apply Z;refine zq (j+1) ?_ ?_ ?_
    ·omega
    ·try dsimp only
     omega
    simp(disch:=omega)[hp,oU, *]
   try simp at g6
   simp(disch:=omega)[hp,ga1];apply Z;apply aK;apply aA;refine zk [2,4,5,10,11,13,14,16,50,51,52,56,57,58] ?_;refine zt qAr72 fun _ _ Z=>?_;simp(disch:=omega)[hp];and_intros<;>(try omega);apply Z;refine zq (j+1) ?_ ?_ ?_
   ·omega
   ·try dsimp only
    omega
   simp(disch:=omega)[hp,oU, *]
  try simp at c5
  obtain rfl:j=(bel id).length:=by omega
  have hst:=Cx (n:=x.l[k]) (Nat.le_refl (bel id).length);apply bC;apply bB;apply bD;apply aX;apply aA;refine zk [2,4,5,10,11,13,14,16,50,51,52] ?_;refine zr qAr72 fun _ _ Z=>?_;simp(disch:=omega)[hp];apply Z;refine zi ?_;refine⟨fun c7=>?_,fun c7=>?_⟩
  ·try simp at c7
   have hst2:((bel id).any fun q=>decide (q=x.l[k].ID))=false:=by rw [hst] at c7;simpa using c7
   refine zk [2,4,5,10,11,13,14,16,50,51,52] ?_;refine zt qAr72 fun _ _ Z=>?_;simp(disch:=omega)[hp];and_intros<;>(try omega);apply Z;apply aK;apply aA;refine zk [2,4,5,10,11,14,16,50,51,52] ?_;refine zt qAr72 fun _ _ Z=>?_;simp(disch:=omega)[hp];and_intros<;>(try omega);apply Z;refine zq (k+1) ?_ ?_ ?_
   ·omega
   ·try dsimp only
    omega
   simp(disch:=omega)[hp,rR,hst2]
  try simp at c7
  have hst2:((bel id).any fun q=>decide (q=x.l[k].ID))=true:=by rw [hst] at c7;simpa using c7
  apply aE;apply aK;apply aA;refine zk [2,4,5,10,11,14,16,50,51,52] ?_;refine zt qAr72 fun _ _ Z=>?_;simp(disch:=omega)[hp];and_intros<;>(try omega);apply Z;refine zq (k+1) ?_ ?_ ?_
  ·omega
  ·try dsimp only
   omega
  simp(disch:=omega)[hp,rR,hst2]
 try simp at c4
 apply bC;apply bB;apply bD;apply aX;apply aA;refine zr qAr72 fun _ _ Z=>?_;simp(disch:=omega)[hp];apply Z;refine zk [2,4,5] ?_;refine zr qAr72 fun _ _ Z=>?_;simp(disch:=omega)[hp];apply Z;apply aB;simp [aL,remX,hrp,c1,c2];rw [List.take_of_length_le (by omega)]
theorem Pq(x:RD)(id:Int)(bel:Int→List Int)(rk:Int→Nat)(σ:List (List D))(hx:NB x.l)(ht:Tr (remP x.l id) bel rk):Ct prog 141 [eN x,D.int id] σ (fun r σ'=>r= .tup [eN (remX x bel id).1,D.int (remX x bel id).2]∧σ'=σ):=by
 cases hp:dF x.l (aF x.l id).parent with
 | true=>exact aAo x id bel rk σ hx hp (by unfold remP at ht;rwa [if_pos hp] at ht)
 | false=>exact aC3 x id bel rk σ hx hp (by unfold remP at ht;rwa [if_neg (by rw [hp];simp)] at ht)
end Go.Proofs.YtbgfljpnhhdkoaaGreat

import Derived.Test.YtpfmpeaekgdgnaaGreatWkAr6
namespace Go.Proofs.YtpfmpeaekgdgnaaGreat
open Go Go.Vm
set_option maxRecDepth 20000
set_option linter.all false
set_option maxHeartbeats 8000000
structure ND where
 ID : Int
 kind : Int
 tag : ByteArray
 text : ByteArray
 classes : (List ByteArray)
 attrs : (List AT)
 styles : (List PI)
 parent : Int
 kids : (List Int)
 deriving DecidableEq
@[simp] abbrev iT (s : ND) : D := .agg [.v (.int .i64 s.ID), .v (.int .i64 s.kind), .v (.string s.tag), .v (.string s.text), .sl false (s.classes.map D.str), .sl false (s.attrs.map cM), .sl false (s.styles.map cG), .v (.int .i64 s.parent), .sl false (s.kids.map D.int)]
@[simp] abbrev aCu (s : ND) : D := .agg [.v (.int .i64 s.ID), .v (.int .i64 s.kind), .v (.string s.tag), .v (.string s.text), .sl true (s.classes.map D.str), .sl true (s.attrs.map cM), .sl true (s.styles.map cG), .v (.int .i64 s.parent), .sl true (s.kids.map D.int)]
structure RD where
 most : Int
 next : Int
 l : (List ND)
 deriving DecidableEq
@[simp] abbrev gV (s : RD) : D := .agg [.v (.int .i64 s.most), .v (.int .i64 s.next), .sl false (s.l.map iT)]
@[simp] abbrev aJt (s : RD) : D := .agg [.v (.int .i64 s.most), .v (.int .i64 s.next), .sl true (s.l.map iT)]
def gS : ND := ⟨0, 0, ⟨#[]⟩, ⟨#[]⟩, [], [], [], 0, []⟩
def fL (l : List ND) (id : Int) : Option ND := l.find? fun n => decide (n.ID = id)
def aM (l : List ND) (id : Int) : ND := (fL l id).getD gS
def dQ (l : List ND) (id : Int) : Bool := (fL l id).isSome
def dC (l : List ND) (n : ND) : List ND := l.map fun x => if x.ID = n.ID then n else x
theorem Qb {l : List ND} {id : Int} {k : Nat} (h : k < l.length) (hh : ∀ n ∈ l.take k, decide (n.ID = id) = false) (e : l[k].ID = id) : fL l id = some l[k] := by
 unfold fL;rw [List.find?_eq_some_iff_getElem];refine ⟨by simpa using e, k, h, rfl, fun j hj => ?_⟩;have := hh (l[j]'(by omega)) (by rw [List.mem_take_iff_getElem]; exact ⟨j, by omega, rfl⟩);simpa using this
theorem Ht {l : List ND} {id : Int} (hh : ∀ n ∈ l, decide (n.ID = id) = false) : fL l id = none := by
 unfold fL;rw [List.find?_eq_none];intro n hn;simpa using hh n hn
structure NB (l : List ND) : Prop where
 len : l.length ≤ 1000
 kids : ∀ n ∈ l, n.kids.length ≤ 1000
 cls : ∀ n ∈ l, n.classes.length ≤ 1000
 ats : ∀ n ∈ l, n.attrs.length ≤ 1000
 sts : ∀ n ∈ l, n.styles.length ≤ 1000
theorem iG {l : List ND} {id : Int} {n : ND} (h : fL l id = some n) : n ∈ l ∧ n.ID = id := by
 unfold fL at h;exact ⟨List.mem_of_find?_eq_some h, by simpa using List.find?_some h⟩
theorem NB.fk {l : List ND} (h : NB l) (id : Int) : (aM l id).kids.length ≤ 1000 := by
 unfold aM;cases e : fL l id with
 | none => simp [gS]
 | some n => exact h.kids n (iG e).1
theorem NB.fc {l : List ND} (h : NB l) (id : Int) : (aM l id).classes.length ≤ 1000 := by
 unfold aM;cases e : fL l id with
 | none => simp [gS]
 | some n => exact h.cls n (iG e).1
theorem NB.fa {l : List ND} (h : NB l) (id : Int) : (aM l id).attrs.length ≤ 1000 := by
 unfold aM;cases e : fL l id with
 | none => simp [gS]
 | some n => exact h.ats n (iG e).1
theorem NB.fs {l : List ND} (h : NB l) (id : Int) : (aM l id).styles.length ≤ 1000 := by
 unfold aM;cases e : fL l id with
 | none => simp [gS]
 | some n => exact h.sts n (iG e).1
theorem yU (l : List ND) (n : ND) (k : Nat) (h : k < l.length) : dC (l.take (k + 1)) n = dC (l.take k) n ++ [if l[k].ID = n.ID then n else l[k]] := by
 unfold dC; rw [cU l k h, List.map_append]; rfl
theorem Cv (l : List ND) (n : ND) : (dC l n).length = l.length := by simp [dC]
def Gr (l : List ND) (id : Int) : D := if dQ l id = true then iT (aM l id) else aCu gS
theorem Sl (x : RD) (id : Int) (σ : List (List D)) (hx : NB x.l) : Ct Tryz.prog 52 [gV x, D.int id] σ (fun r σ' => r = .tup [Gr x.l id, .bool (dQ x.l id)] ∧ σ' = σ) := by
 refine zf (rs:=[.cell 4 96,.tmp 5]) Tryz.func52 Tryz.ntmps52 Tryz.results52 ?_;simp only [aQ];have hxl := hx.len;refine bC fun _ _ Z=>?_;simp (disch:=omega);and_intros<;>(try omega);apply Z;apply aD;refine bC fun _ _ Z=>?_;simp (disch:=omega);and_intros<;>(try omega);apply Z;apply aK;refine zk [1,4,5,9,10,11] ?_;refine bQ (fun (k : Nat) => [(11, .d (.v (.int .i64 (k : Int))))]) [5, 7, 11, 12, 13, 14, 15, 16, 17, 18, 19, 20] (fun (k : Nat) => k ≤ x.l.length ∧ ∀ n ∈ x.l.take k, decide (n.ID = id) = false) (fun (k : Nat) => x.l.length - k) (0) (by simp <;> rfl) ?_ ?_ ?_
 ·simp
 ·simp
 rintro k ⟨hk, hh⟩;simp only [List.cons_append, List.nil_append];refine bC fun _ _ Z=>?_;simp (disch:=omega);and_intros<;>(try omega);apply Z;apply aD;refine zi ?_;refine ⟨fun c1=>?_,fun c1=>?_⟩
 ·try simp at c1
  apply aH;apply aB;apply aD;apply aK;refine bC fun _ _ Z=>?_;simp (disch:=omega);and_intros<;>(try omega);apply Z;refine bC fun _ _ Z=>?_;simp (disch:=omega);and_intros<;>(try omega);apply Z;refine zi ?_;refine ⟨fun c2=>?_,fun c2=>?_⟩
  ·try simp at c2
   refine zk [1,4,7,9,10,11] ?_;refine bC fun _ _ Z=>?_;simp (disch:=omega);and_intros<;>(try omega);apply Z;apply aE;apply aV;apply aL;apply eE;apply aV;apply aL;have hf := Qb c1 hh c2;simp [aN, Gr, aM, dQ, hf]
  ·try simp at c2
   apply aH;apply aP;apply aB;refine zk [1,4,9,10,11] ?_;refine vS fun _ _ Z=>?_;simp (disch:=omega);and_intros<;>(try omega);apply Z;refine bA (k + 1) ?_ ?_ (aW rfl ?_ (by simp) (by simp))
   ·exact ⟨by omega, jG (by omega) hh (by simpa using c2)⟩
   ·try dsimp only
    omega
   ·simp (disch:=omega)
 ·try simp at c1
  apply bK;apply bJ;apply bL;apply aY;apply aB;refine bC fun _ _ Z=>?_;simp (disch:=omega);and_intros<;>(try omega);apply Z;apply aE;rw [List.take_of_length_le (by omega)] at hh;have hf := Ht hh;simp [aN, Gr, aM, dQ, hf, gS]
theorem fP (x : RD) (id : Int) (σ : List (List D)) (hx : NB x.l) : Ct Tryz.prog 52 [gV x, D.int id] σ (fun r σ' => r = .tup [iT (aM x.l id), .bool (dQ x.l id)] ∧ σ' = σ) :=
 (Sl x id σ hx).strip fun r σ' ⟨hr, hs⟩ => by
  subst hr;have hd : (dQ x.l id = true → aM x.l id = aM x.l id) := fun _ => rfl;by_cases e : dQ x.l id = true
  ·refine ⟨by simp [Gr, e, D.plain], ?_, hs⟩;simp [Gr, e, D.strip, D.s2, D.s1]
  ·have hz : aM x.l id = gS := by
    unfold aM; unfold dQ at e;cases hq : fL x.l id with
    | none => rfl
    | some n => rw [hq] at e; exact absurd rfl e
   refine ⟨by simp [Gr, e, D.plain], ?_, hs⟩;simp [Gr, e, D.strip, D.s2, D.s1, hz, gS]
theorem iA (x : RD) (n : ND) (σ : List (List D)) (hx : NB x.l) : Ct Tryz.prog 85 [gV x, iT n] σ (fun r σ' => r = gV ⟨x.most, x.next, dC x.l n⟩ ∧ σ' = σ) := by
 refine zf (rs:=[.cell 4 28]) Tryz.func85 Tryz.ntmps85 Tryz.results85 ?_;simp only [aQ];have hxl := hx.len;refine zr ⟨[5,22],[],[],[],[]⟩ fun _ _ Z=>?_;simp (disch:=omega);and_intros<;>(try omega);apply Z;refine zr ⟨[5,22],[],[],[],[]⟩ fun _ _ Z=>?_;simp (disch:=omega);and_intros<;>(try omega);apply Z;apply aD;refine zr ⟨[5,22],[],[],[],[]⟩ fun _ _ Z=>?_;simp (disch:=omega);and_intros<;>(try omega);apply Z;apply aK;refine zk [2,3,4,5,10,11,12] ?_;refine bQ (fun (k : Nat) => [(12, .d (.v (.int .i64 (k : Int)))), (5, .d (.sl true ((dC (x.l.take k) n).map iT)))]) [5, 7, 12, 13, 14, 15, 16, 17, 18, 19, 20, 21, 22, 23, 24, 25, 26] (fun (k : Nat) => k ≤ x.l.length) (fun (k : Nat) => x.l.length - k) (0) (by simp <;> rfl) ?_ ?_ ?_
 ·simp [dC]
 ·simp
 rintro k hk;simp only [List.cons_append, List.nil_append];have hpl := Cv (x.l.take k) n;simp only [List.length_take] at hpl;refine zr ⟨[5,22],[],[],[],[]⟩ fun _ _ Z=>?_;simp (disch:=omega);and_intros<;>(try omega);apply Z;apply aD;refine zi ?_;refine ⟨fun c1=>?_,fun c1=>?_⟩
 ·try simp at c1
  apply aH;apply aB;apply aD;apply aK;refine zr ⟨[5,22],[],[],[],[]⟩ fun _ _ Z=>?_;simp (disch:=omega);and_intros<;>(try omega);apply Z;apply aD;refine zr ⟨[5,22],[],[],[],[]⟩ fun _ _ Z=>?_;simp (disch:=omega);and_intros<;>(try omega);apply Z;refine zi ?_;refine ⟨fun c2=>?_,fun c2=>?_⟩
  ·try simp at c2
   refine zk [2,3,4,5,7,10,11,12] ?_;refine zt ⟨[5,22],[],[],[],[]⟩ fun _ _ Z=>?_;simp (disch:=omega);and_intros<;>(try omega);apply Z;apply aB;refine zt ⟨[5,22],[],[],[],[]⟩ fun _ _ Z=>?_;simp (disch:=omega);and_intros<;>(try omega);apply Z;apply aP;apply aB;refine zk [2,3,4,5,10,11,12] ?_;refine zt ⟨[5,22],[],[],[],[]⟩ fun _ _ Z=>?_;simp (disch:=omega);and_intros<;>(try omega);apply Z;refine bA (k + 1) ?_ ?_ (aW rfl ?_ (by simp) (by simp))
   ·omega
   ·try dsimp only
    omega
   ·simp (disch:=omega)[yU, *]
  ·try simp at c2
   apply aH;apply aB;refine zk [2,3,4,5,7,10,11,12] ?_;refine zt ⟨[5,22],[],[],[],[]⟩ fun _ _ Z=>?_;simp (disch:=omega);and_intros<;>(try omega);apply Z;apply aP;apply aB;refine zk [2,3,4,5,10,11,12] ?_;refine zt ⟨[5,22],[],[],[],[]⟩ fun _ _ Z=>?_;simp (disch:=omega);and_intros<;>(try omega);apply Z;refine bA (k + 1) ?_ ?_ (aW rfl ?_ (by simp) (by simp))
   ·omega
   ·try dsimp only
    omega
   ·simp (disch:=omega)[yU, *]
 ·try simp at c1
  apply bK;apply bJ;apply bL;apply aY;apply aB;refine zr ⟨[5,22],[],[],[],[]⟩ fun _ _ Z=>?_;simp (disch:=omega);and_intros<;>(try omega);apply Z;refine zr ⟨[5,22],[],[],[],[]⟩ fun _ _ Z=>?_;simp (disch:=omega);and_intros<;>(try omega);apply Z;apply aE;simp [aN];rw [List.take_of_length_le (by omega)]
structure Tr (l : List ND) (bel : Int → List Int) (rk : Int → Nat) : Prop where
 eq : ∀ id, bel id = id :: (aM l id).kids.flatMap bel
 dec : ∀ id, ∀ k ∈ (aM l id).kids, rk k < rk id
 len : ∀ id, (bel id).length ≤ 10000
theorem Ba (bel : Int → List Int) (K : List Int) (k : Nat) (h : k < K.length) : (K.take (k + 1)).flatMap bel = (K.take k).flatMap bel ++ bel K[k] := by
 rw [cU K k h, List.flatMap_append]; simp
theorem tM (bel : Int → List Int) (K : List Int) (k : Nat) : ((K.take k).flatMap bel).length ≤ (K.flatMap bel).length := by
 conv => rhs; rw [← List.take_append_drop k K, List.flatMap_append, List.length_append]
 omega
theorem Tr.fl {l : List ND} {bel : Int → List Int} {rk : Int → Nat} (h : Tr l bel rk) (id : Int) : ((aM l id).kids.flatMap bel).length + 1 ≤ 10000 := by
 have := h.len id;rw [h.eq id] at this;simpa using this
theorem xS (x : RD) (id : Int) (bel : Int → List Int) (rk : Int → Nat) (σ : List (List D)) (hx : NB x.l) (ht : Tr x.l bel rk) (ih : ∀ k ∈ (aM x.l id).kids, ∀ σ, Ct Tryz.prog 53 [gV x, D.int k] σ (fun r σ' => r = .sl true ((bel k).map D.int) ∧ σ' = σ)) : Ct Tryz.prog 53 [gV x, D.int id] σ (fun r σ' => r = .sl true ((bel id).map D.int) ∧ σ' = σ) := by
 refine zf (rs:=[.tmp 4]) Tryz.func53 Tryz.ntmps53 Tryz.results53 ?_;simp only [aQ];have hk := hx.fk id;have hfl := ht.fl id;refine zr ⟨[4,7,25,31],[],[],[],[]⟩ fun _ _ Z=>?_;simp (disch:=omega);and_intros<;>(try omega)
 all_goals first | (intro a x1 x2 _ _ h; subst h; rfl) | skip
 apply Z;refine zr ⟨[4,7,25,31],[],[],[],[]⟩ fun _ _ Z=>?_;refine aA 2 fun _ Y=>?_;simp (disch:=omega);and_intros<;>(try omega)
 all_goals first | (intro a x1 x2 _ _ h; subst h; rfl) | skip
 apply Y;simp only [List.drop];refine aG fun _ Y=>?_;simp (disch:=omega);refine cO (fP x id _ hx) ?_;apply Y;simp (disch:=omega);and_intros<;>(try omega)
 all_goals first | (intro a x1 x2 _ _ h; subst h; rfl) | skip
 apply Z;refine zr ⟨[4,7,25,31],[],[],[],[]⟩ fun _ _ Z=>?_;simp (disch:=omega);and_intros<;>(try omega)
 all_goals first | (intro a x1 x2 _ _ h; subst h; rfl) | skip
 apply Z;apply aD;refine zk [2,4,5,7] ?_;refine zr ⟨[4,7,25,31],[],[],[],[]⟩ fun _ _ Z=>?_;simp (disch:=omega);and_intros<;>(try omega)
 all_goals first | (intro a x1 x2 _ _ h; subst h; rfl) | skip
 apply Z;apply aK;refine zk [2,4,7,19,20,21] ?_;refine bQ (fun (k : Nat) => [(21, .d (.v (.int .i64 (k : Int)))), (7, .d (.sl true ((id :: ((aM x.l id).kids.take k).flatMap bel).map D.int))), (9, .d (.any))]) [7, 9, 21, 22, 23, 24, 25, 26, 27, 28, 29, 30] (fun (k : Nat) => k ≤ (aM x.l id).kids.length) (fun (k : Nat) => (aM x.l id).kids.length - k) (0) (by simp <;> rfl) ?_ ?_ ?_
 ·simp
 ·simp
 rintro k hk2;simp only [List.cons_append, List.nil_append];have hfl2 := tM bel (aM x.l id).kids k;simp only [List.length_flatMap, List.map_take] at hfl2 hfl;refine zr ⟨[4,7,25,31],[],[],[],[]⟩ fun _ _ Z=>?_;simp (disch:=omega);and_intros<;>(try omega)
 all_goals first | (intro a x1 x2 _ _ h; subst h; rfl) | skip
 apply Z;apply aD;refine zi ?_;refine ⟨fun c1=>?_,fun c1=>?_⟩
 ·try simp at c1
  have hkk : k < (aM x.l id).kids.length := by omega
  have hl28 := ht.len ((aM x.l id).kids[k]);apply aH;apply aB;apply aD;apply aK;refine zr ⟨[4,7,25,31],[],[],[],[]⟩ fun _ _ Z=>?_;simp (disch:=omega);and_intros<;>(try omega)
  all_goals first | (intro a x1 x2 _ _ h; subst h; rfl) | skip
  apply Z;refine zt ⟨[4,7,25,31],[],[],[],[]⟩ fun _ _ Z=>?_;refine aA 3 fun _ Y=>?_;simp (disch:=omega);and_intros<;>(try omega)
  all_goals first | (intro a x1 x2 _ _ h; subst h; rfl) | skip
  apply Y;simp only [List.drop];refine aG fun _ Y=>?_;simp (disch:=omega);refine cO (ih _ (List.getElem_mem hkk) _) ?_;apply Y;simp (disch:=omega);and_intros<;>(try omega)
  all_goals first | (intro a x1 x2 _ _ h; subst h; rfl) | skip
  apply Z;apply aP;apply aB;refine zk [2,4,7,9,19,20,21] ?_;refine zt ⟨[4,7,25,31],[],[],[],[]⟩ fun _ _ Z=>?_;simp (disch:=omega);and_intros<;>(try omega)
  all_goals first | (intro a x1 x2 _ _ h; subst h; rfl) | skip
  apply Z;refine bA (k + 1) ?_ ?_ (aW rfl ?_ (by simp) (by simp))
  ·omega
  ·try dsimp only
   omega
  ·simp (disch:=omega)[Ba]
 ·try simp at c1
  apply bK;apply bJ;apply bL;apply aY;apply aB;refine zr ⟨[4,7,25,31],[],[],[],[]⟩ fun _ _ Z=>?_;simp (disch:=omega);and_intros<;>(try omega)
  all_goals first | (intro a x1 x2 _ _ h; subst h; rfl) | skip
  apply Z;apply aE;simp [aN];rw [ht.eq id, List.take_of_length_le (by omega)]; simp
theorem qS (x : RD) (id : Int) (bel : Int → List Int) (rk : Int → Nat) (σ : List (List D)) (hx : NB x.l) (ht : Tr x.l bel rk) : Ct Tryz.prog 53 [gV x, D.int id] σ (fun r σ' => r = .sl true ((bel id).map D.int) ∧ σ' = σ) := by
 have key : ∀ (m : Nat) (id : Int) (σ : List (List D)), rk id ≤ m → Ct Tryz.prog 53 [gV x, D.int id] σ (fun r σ' => r = .sl true ((bel id).map D.int) ∧ σ' = σ) := by
  intro m;induction m with
  | zero => exact fun id σ h => xS x id bel rk σ hx ht fun k hk => absurd (ht.dec id k hk) (by omega)
  | succ m ih => exact fun id σ h => xS x id bel rk σ hx ht fun k hk τ => ih k τ (by have := ht.dec id k hk; omega)
 exact key (rk id) id σ (Nat.le_refl _)
def iU (l : List ND) (bel : Int → List Int) (id of_ : Int) : Bool := dQ l id && dQ l of_ && (bel of_).any fun k => decide (k = id)
def pH (l : List ND) (id : Int) : Int := if dQ l id = true ∧ 0 ≤ (aM l id).parent then Xo id (aM l (aM l id).parent).kids else -1
theorem Fz (x : RD) (id of_ : Int) (bel : Int → List Int) (rk : Int → Nat) (σ : List (List D)) (hx : NB x.l) (ht : Tr x.l bel rk) : Ct Tryz.prog 16 [gV x, D.int id, D.int of_] σ (fun r σ' => r = .bool (iU x.l bel id of_) ∧ σ' = σ) := by
 refine zf (rs:=[.tmp 6]) Tryz.func16 Tryz.ntmps16 Tryz.results16 ?_;simp only [aQ];have hbl := ht.len of_;refine bC fun _ _ Z=>?_;simp (disch:=omega);and_intros<;>(try omega);apply Z;refine bC fun _ _ Z=>?_;refine aA 2 fun _ Y=>?_;simp (disch:=omega);and_intros<;>(try omega);apply Y;simp only [List.drop];refine aG fun _ Y=>?_;simp (disch:=omega);refine cO (fP x id _ hx) ?_;apply Y;simp (disch:=omega);and_intros<;>(try omega);apply Z;refine bC fun _ _ Z=>?_;refine aA 2 fun _ Y=>?_;simp (disch:=omega);and_intros<;>(try omega);apply Y;simp only [List.drop];refine aG fun _ Y=>?_;simp (disch:=omega);refine cO (fP x of_ _ hx) ?_;apply Y;simp (disch:=omega);and_intros<;>(try omega);apply Z;apply aD;refine zk [1,2,3,6,8,10] ?_;refine lH ⟨[],[],[],[],[]⟩ fun all hall _ Z=>?_;have ga2 : aS all 2 = some 27 := hall 2;refine aA 3 fun _ Y=>?_;simp (disch:=omega)[ga2];and_intros<;>(try omega);apply Y;simp only [List.drop];refine aX 27 (by simp <;> rfl) ?_;refine ⟨fun g1 => ?_, fun g1 => ?_⟩
 ·try simp at g1
  simp (disch:=omega)[ga2];and_intros<;>(try omega);apply Z;refine bR (t := true) (by simp) (fun _ => ?_) (fun h => by cases h);refine zk [1,2,3,6] ?_;refine bC fun _ _ Z=>?_;simp (disch:=omega);and_intros<;>(try omega);apply Z;apply aE;apply aL;simp [aN, iU, *]
 ·try simp at g1
  simp (disch:=omega)[ga2];and_intros<;>(try omega);apply Z;refine zi ?_;refine ⟨fun c2=>?_,fun c2=>?_⟩
  ·try simp at c2
   refine zk [1,2,3,6] ?_;refine bC fun _ _ Z=>?_;simp (disch:=omega);and_intros<;>(try omega);apply Z;apply aE;apply aL;simp [aN, iU, *]
  ·try simp at c2
   apply aH;apply aB;apply aD;refine zk [1,2,3,6] ?_;refine bC fun _ _ Z=>?_;refine aA 2 fun _ Y=>?_;simp (disch:=omega);and_intros<;>(try omega);apply Y;simp only [List.drop];refine aG fun _ Y=>?_;simp (disch:=omega);refine cO (qS x of_ bel rk _ hx ht) ?_;apply Y;simp (disch:=omega);and_intros<;>(try omega);apply Z;apply aK;refine zk [1,6,33,34,35] ?_;refine bQ (fun (k : Nat) => [(35, .d (.v (.int .i64 (k : Int)))), (12, .d (.any))]) [6, 12, 35, 36, 37, 38, 39, 40, 41, 42] (fun (k : Nat) => k ≤ (bel of_).length ∧ ∀ y ∈ (bel of_).take k, decide (y = id) = false) (fun (k : Nat) => (bel of_).length - k) (0) (by simp <;> rfl) ?_ ?_ ?_
   ·simp
   ·simp
   rintro k ⟨hk, hh⟩;simp only [List.cons_append, List.nil_append];refine bC fun _ _ Z=>?_;simp (disch:=omega);and_intros<;>(try omega);apply Z;apply aD;refine zi ?_;refine ⟨fun c3=>?_,fun c3=>?_⟩
   ·try simp at c3
    apply aH;apply aB;apply aD;apply aK;refine bC fun _ _ Z=>?_;simp (disch:=omega);and_intros<;>(try omega);apply Z;refine bC fun _ _ Z=>?_;simp (disch:=omega);and_intros<;>(try omega);apply Z;refine zi ?_;refine ⟨fun c4=>?_,fun c4=>?_⟩
    ·try simp at c4
     refine zk [1,12,33,34,35] ?_;refine bC fun _ _ Z=>?_;simp (disch:=omega);and_intros<;>(try omega);apply Z;apply aE;apply aV;apply aL;apply eE;apply aV;apply aL;simp [aN];unfold iU; rw [g1, c2, Bool.true_and, Bool.true_and, List.any_eq_true]; exact ⟨_, List.getElem_mem c3, by simpa using c4⟩
    ·try simp at c4
     apply aH;apply aP;apply aB;refine zk [1,12,33,34,35] ?_;refine vS fun _ _ Z=>?_;simp (disch:=omega);and_intros<;>(try omega);apply Z;refine bA (k + 1) ?_ ?_ (aW rfl ?_ (by simp) (by simp))
     ·exact ⟨by omega, jG (by omega) hh (by simpa using c4)⟩
     ·try dsimp only
      omega
     ·simp (disch:=omega)
   ·try simp at c3
    apply bK;apply bJ;apply bL;apply aY;apply aB;refine bC fun _ _ Z=>?_;simp (disch:=omega);and_intros<;>(try omega);apply Z;apply aE;simp [aN];rw [List.take_of_length_le (by omega)] at hh;unfold iU; rw [g1, c2, Bool.true_and, Bool.true_and, List.any_eq_false]; exact fun y hy => by simpa using hh y hy
theorem yV (x : RD) (id : Int) (σ : List (List D)) (hx : NB x.l) : Ct Tryz.prog 18 [gV x, D.int id] σ (fun r σ' => r = .int (pH x.l id) ∧ σ' = σ) := by
 refine zf (rs:=[.tmp 4]) Tryz.func18 Tryz.ntmps18 Tryz.results18 ?_;simp only [aQ];have hk := hx.fk (aM x.l id).parent;refine bC fun _ _ Z=>?_;simp (disch:=omega);and_intros<;>(try omega);apply Z;refine bC fun _ _ Z=>?_;refine aA 2 fun _ Y=>?_;simp (disch:=omega);and_intros<;>(try omega);apply Y;simp only [List.drop];refine aG fun _ Y=>?_;simp (disch:=omega);refine cO (fP x id _ hx) ?_;apply Y;simp (disch:=omega);and_intros<;>(try omega);apply Z;apply aD;refine lH ⟨[],[],[],[],[]⟩ fun all hall _ Z=>?_;have ga2 : aS all 2 = some 19 := hall 2;refine aA 3 fun _ Y=>?_;simp (disch:=omega)[ga2];and_intros<;>(try omega);apply Y;simp only [List.drop];refine aX 19 (by simp <;> rfl) ?_;refine ⟨fun g1 => ?_, fun g1 => ?_⟩
 ·try simp at g1
  simp (disch:=omega)[ga2];and_intros<;>(try omega);apply Z;refine bR (t := true) (by simp) (fun _ => ?_) (fun h => by cases h);refine zk [1,2,4,5] ?_;refine bC fun _ _ Z=>?_;simp (disch:=omega);and_intros<;>(try omega);apply Z;apply aE;apply aL;simp [aN, pH, *]
 ·try simp at g1
  simp (disch:=omega)[ga2];and_intros<;>(try omega);apply Z;refine zi ?_;refine ⟨fun c2=>?_,fun c2=>?_⟩
  ·try simp at c2
   refine zk [1,2,4,5] ?_;refine bC fun _ _ Z=>?_;simp (disch:=omega);and_intros<;>(try omega);apply Z;apply aE;apply aL;simp [aN];unfold pH; rw [if_neg (by rintro ⟨_, h⟩; omega)]
  ·try simp at c2
   apply aH;apply aB;refine zk [1,2,4,5] ?_;refine bC fun _ _ Z=>?_;refine aA 3 fun _ Y=>?_;simp (disch:=omega);and_intros<;>(try omega);apply Y;simp only [List.drop];refine aG fun _ Y=>?_;simp (disch:=omega);refine cO (fP x (aM x.l id).parent _ hx) ?_;apply Y;simp (disch:=omega);and_intros<;>(try omega);apply Z;apply aD;refine zk [1,4,7] ?_;refine bC fun _ _ Z=>?_;simp (disch:=omega);and_intros<;>(try omega);apply Z;apply aK;refine zk [1,4,32,33,34] ?_;refine bQ (fun (k : Nat) => [(34, .d (.v (.int .i64 (k : Int)))), (9, .d (.any)), (10, .d (.any))]) [4, 9, 10, 34, 35, 36, 37, 38, 39, 40, 41, 42, 43] (fun (k : Nat) => k ≤ (aM x.l (aM x.l id).parent).kids.length ∧ ∀ y ∈ (aM x.l (aM x.l id).parent).kids.take k, decide (y = id) = false) (fun (k : Nat) => (aM x.l (aM x.l id).parent).kids.length - k) (0) (by simp <;> rfl) ?_ ?_ ?_
   ·simp
   ·simp
   rintro k ⟨hk2, hh⟩;simp only [List.cons_append, List.nil_append];refine bC fun _ _ Z=>?_;simp (disch:=omega);and_intros<;>(try omega);apply Z;apply aD;refine zi ?_;refine ⟨fun c3=>?_,fun c3=>?_⟩
   ·try simp at c3
    apply aH;apply aB;apply aD;apply aK;refine bC fun _ _ Z=>?_;simp (disch:=omega);and_intros<;>(try omega);apply Z;refine zk [1,9,10,32,33,34] ?_;refine bC fun _ _ Z=>?_;simp (disch:=omega);and_intros<;>(try omega);apply Z;refine zi ?_;refine ⟨fun c4=>?_,fun c4=>?_⟩
    ·try simp at c4
     refine bC fun _ _ Z=>?_;simp (disch:=omega);and_intros<;>(try omega);apply Z;apply aE;apply aV;apply aL;apply eE;apply aV;apply aL;simp [aN];unfold pH; rw [if_pos ⟨g1, by omega⟩]; exact (oK c3 hh (by simpa using c4)).symm
    ·try simp at c4
     apply aH;apply aP;apply aB;refine vS fun _ _ Z=>?_;simp (disch:=omega);and_intros<;>(try omega);apply Z;refine bA (k + 1) ?_ ?_ (aW rfl ?_ (by simp) (by simp))
     ·exact ⟨by omega, jG (by omega) hh (by simpa using c4)⟩
     ·try dsimp only
      omega
     ·simp (disch:=omega)
   ·try simp at c3
    apply bK;apply bJ;apply bL;apply aY;apply aB;refine bC fun _ _ Z=>?_;simp (disch:=omega);and_intros<;>(try omega);apply Z;apply aE;simp [aN];rw [List.take_of_length_le (by omega)] at hh;unfold pH; rw [if_pos ⟨g1, by omega⟩]; exact (kA hh).symm
def kO (id kind : Int) (s : ByteArray) : ND := ⟨id, kind, if kind = 2 then s else ⟨#[]⟩, if kind = 2 then ⟨#[]⟩ else s, [], [], [], -1, []⟩
def addX (x : RD) (kind : Int) (s : ByteArray) : RD × Int × Int := if kind = 2 ∧ fE s = false then (x, 0, 2) else if x.most < (x.l.length : Int) then (x, 0, 8) else (⟨x.most, x.next + 1, x.l ++ [kO x.next kind s]⟩, x.next, 0)
def kW : ND := ⟨0, 2, ⟨#[114, 111, 111, 116]⟩, ⟨#[]⟩, [], [], [], -1, []⟩
def newX (most : Int) : RD := ⟨max 1 (min most 65536), 1, [kW]⟩
theorem Vx (most : Int) (σ : List (List D))  : Ct Tryz.prog 13 [D.int most] σ (fun r σ' => r = gV (newX most) ∧ σ' = σ) := by
 refine zf (rs:=[.cell 2 28]) Tryz.func13 Tryz.ntmps13 Tryz.results13 ?_;simp only [aQ];refine bC fun _ _ Z=>?_;simp;and_intros<;>(try omega);apply Z;refine bC fun _ _ Z=>?_;simp;and_intros<;>(try omega);apply Z;apply aE;simp [aN, newX, kW]
theorem Ze (N : Nat) (x : AT) : Sc N (cM x) := Sc.agg fun d hd => by
 simp only [List.mem_cons, List.not_mem_nil, or_false] at hd;rcases hd with rfl | rfl <;> exact Sc.v _
theorem Zo (N : Nat) (x : PI) : Sc N (cG x) := Sc.agg fun d hd => by
 simp only [List.mem_cons, List.not_mem_nil, or_false] at hd;rcases hd with rfl | rfl <;> exact Sc.v _
theorem Um (N : Nat) (x : ND) : Sc N (iT x) := Sc.agg fun d hd => by
 simp only [List.mem_cons, List.not_mem_nil, or_false] at hd;rcases hd with rfl | rfl | rfl | rfl | rfl | rfl | rfl | rfl | rfl
 ·exact Sc.v _
 ·exact Sc.v _
 ·exact Sc.v _
 ·exact Sc.v _
 ·exact Sc.sl (Sc.map fun a => Sc.v _)
 ·exact Sc.sl (Sc.map fun a => Ze _ a)
 ·exact Sc.sl (Sc.map fun a => Zo _ a)
 ·exact Sc.v _
 ·exact Sc.sl (Sc.map fun a => Sc.v _)
theorem aCd (N : Nat) (x : RD) : Sc N (gV x) := Sc.agg fun d hd => by
 simp only [List.mem_cons, List.not_mem_nil, or_false] at hd;rcases hd with rfl | rfl | rfl
 ·exact Sc.v _
 ·exact Sc.v _
 ·exact Sc.sl (Sc.map fun a => Um _ a)
theorem Bb {N : Nat} {a b : D} (h1 : Sc N a) (h2 : Sc N b) : Sc N (.tup [a, b]) := Sc.tup fun d hd => by
 simp only [List.mem_cons, List.not_mem_nil, or_false] at hd;rcases hd with rfl | rfl <;> assumption
theorem Wg {N : Nat} {a b c : D} (h1 : Sc N a) (h2 : Sc N b) (h3 : Sc N c) : Sc N (.tup [a, b, c]) := Sc.tup fun d hd => by
 simp only [List.mem_cons, List.not_mem_nil, or_false] at hd;rcases hd with rfl | rfl | rfl <;> assumption
theorem Tp (x : RD) (kind : Int) (s : ByteArray) (σ : List (List D)) (hx : NB x.l) (hn : 0 ≤ x.next ∧ x.next ≤ 1000000) (hs : s.size ≤ 1000) : Ct Tryz.prog 43 [gV x, D.int kind, D.str s] σ (fun r σ' => r = .tup [gV (addX x kind s).1, D.int (addX x kind s).2.1, D.int (addX x kind s).2.2] ∧ ∃ J, σ' = σ ++ J) := by
 refine zf (rs:=[.cell 6 28,.tmp 7,.tmp 8]) Tryz.func43 Tryz.ntmps43 Tryz.results43 ?_;simp only [aQ];have hxl := hx.len;refine zr ⟨[],[],[9],[],[]⟩ fun _ _ Z=>?_;simp[or_imp,forall_and,aO,aI,aF,aC];and_intros<;>(try omega);apply Z;apply aD;refine lH ⟨[],[],[9],[],[]⟩ fun all hall _ Z=>?_;have ga2 : aS all 2 = some 12 := hall 2;refine aA 3 fun _ Y=>?_;simp[or_imp,forall_and,aO,aI,aF,aC,ga2];and_intros<;>(try omega);apply Y;simp only [List.drop];refine aX 12 (by simp <;> rfl) ?_;refine ⟨fun g1 => ?_, fun g1 => ?_⟩
 ·try simp at g1
  refine aA 1 fun _ Y=>?_;simp[or_imp,forall_and,aO,aI,aF,aC,ga2];and_intros<;>(try omega);apply Y;simp only [List.drop];refine zg ga2 fun _ Y=>?_;simp[or_imp,forall_and,aO,aI,aF,aC,ga2];refine cO (Bi s _ (by omega)) ?_;apply Y;simp[or_imp,forall_and,aO,aI,aF,aC,ga2];and_intros<;>(try omega);apply Z;refine zi ?_;refine ⟨fun c2=>?_,fun c2=>?_⟩
  ·try simp at c2
   refine zr ⟨[],[],[9],[],[]⟩ fun _ _ Z=>?_;simp[or_imp,forall_and,aO,aI,aF,aC];and_intros<;>(try omega);apply Z;apply aE;apply aL;first | (simp [aN, addX, kO, *]; done) | (have h3 : ¬ x.most < (x.l.length : Int) := (by omega); simp [aN, addX, kO, *])
  ·try simp at c2
   apply aH;apply aB;apply aD;refine zr ⟨[],[],[9],[],[]⟩ fun _ _ Z=>?_;simp[or_imp,forall_and,aO,aI,aF,aC];and_intros<;>(try omega);apply Z;refine zi ?_;refine ⟨fun c3=>?_,fun c3=>?_⟩
   ·try simp at c3
    refine zk [1,2,3,6,7,8] ?_;refine zr ⟨[],[],[9],[],[]⟩ fun _ _ Z=>?_;simp[or_imp,forall_and,aO,aI,aF,aC];and_intros<;>(try omega);apply Z;apply aE;apply aL;first | (simp [aN, addX, kO, *]; done) | (have h3 : ¬ x.most < (x.l.length : Int) := (by omega); simp [aN, addX, kO, *])
   ·try simp at c3
    apply aH;apply aB;refine zk [1,2,3,6,7,8] ?_;refine zr ⟨[],[],[9],[],[]⟩ fun _ _ Z=>?_;simp[or_imp,forall_and,aO,aI,aF,aC];and_intros<;>(try omega);apply Z;apply aD;refine zr ⟨[],[],[9],[],[]⟩ fun _ _ Z=>?_;simp[or_imp,forall_and,aO,aI,aF,aC];and_intros<;>(try omega);apply Z;refine zi ?_;refine ⟨fun c4=>?_,fun c4=>?_⟩
    ·try simp at c4
     refine zk [2,3,6,7,8,9] ?_;refine zt ⟨[],[],[9],[],[]⟩ fun _ _ Z=>?_;simp[or_imp,forall_and,aO,aI,aF,aC];and_intros<;>(try omega);apply Z;apply aB;refine zd ⟨[],[],[9],[],[]⟩ [.op {},.op {},.op {rL:=true},.op {},.op {rO:=true},.op {},.op {},.op {},.op {rL:=true,wL:=true}] fun all hall _ Z=>?_;refine aR 8 (by simp) fun _ Y=>?_;simp[or_imp,forall_and,aO,aI,aF,aC];and_intros<;>(try omega);apply Y;simp only [List.drop];simp[or_imp,forall_and,aO,aI,aF,aC];and_intros<;>(try omega);apply Z;refine zk [3,6,7,8,9] ?_;refine zr ⟨[],[],[9],[],[]⟩ fun _ _ Z=>?_;simp[or_imp,forall_and,aO,aI,aF,aC];and_intros<;>(try omega);apply Z;refine zd ⟨[],[],[9],[],[]⟩ [.op {rL:=true},.op {},.op {rO:=true},.op {rL:=true,wL:=true},.op {},.op {}] fun all hall _ Z=>?_;simp[or_imp,forall_and,aO,aI,aF,aC];and_intros<;>(try omega);apply Z;apply aE;first | (simp [aN, addX, kO, *]; done) | (have h3 : ¬ x.most < (x.l.length : Int) := (by omega); simp [aN, addX, kO, *])
    ·try simp at c4
     exact absurd g1 c4
 ·try simp at g1
  simp[or_imp,forall_and,aO,aI,aF,aC,ga2];and_intros<;>(try omega);apply Z;refine bR (t := false) (by simp) (fun h => by cases h) (fun _ => ?_);apply aH;apply aB;apply aD;refine zr ⟨[],[],[9],[],[]⟩ fun _ _ Z=>?_;simp[or_imp,forall_and,aO,aI,aF,aC];and_intros<;>(try omega);apply Z;refine zi ?_;refine ⟨fun c5=>?_,fun c5=>?_⟩
  ·try simp at c5
   refine zk [1,2,3,6,7,8] ?_;refine zr ⟨[],[],[9],[],[]⟩ fun _ _ Z=>?_;simp[or_imp,forall_and,aO,aI,aF,aC];and_intros<;>(try omega);apply Z;apply aE;apply aL;first | (simp [aN, addX, kO, *]; done) | (have h3 : ¬ x.most < (x.l.length : Int) := (by omega); simp [aN, addX, kO, *])
  ·try simp at c5
   apply aH;apply aB;refine zk [1,2,3,6,7,8] ?_;refine zr ⟨[],[],[9],[],[]⟩ fun _ _ Z=>?_;simp[or_imp,forall_and,aO,aI,aF,aC];and_intros<;>(try omega);apply Z;apply aD;refine zr ⟨[],[],[9],[],[]⟩ fun _ _ Z=>?_;simp[or_imp,forall_and,aO,aI,aF,aC];and_intros<;>(try omega);apply Z;refine zi ?_;refine ⟨fun c6=>?_,fun c6=>?_⟩
   ·try simp at c6
    exact absurd c6 g1
   ·try simp at c6
    refine zk [2,3,6,7,8,9] ?_;refine zt ⟨[],[],[9],[],[]⟩ fun _ _ Z=>?_;simp[or_imp,forall_and,aO,aI,aF,aC];and_intros<;>(try omega);apply Z;apply aB;refine zd ⟨[],[],[9],[],[]⟩ [.op {},.op {},.op {rL:=true},.op {},.op {rO:=true},.op {},.op {},.op {},.op {rL:=true,wL:=true}] fun all hall _ Z=>?_;refine aR 8 (by simp) fun _ Y=>?_;simp[or_imp,forall_and,aO,aI,aF,aC];and_intros<;>(try omega);apply Y;simp only [List.drop];simp[or_imp,forall_and,aO,aI,aF,aC];and_intros<;>(try omega);apply Z;refine zk [3,6,7,8,9] ?_;refine zr ⟨[],[],[9],[],[]⟩ fun _ _ Z=>?_;simp[or_imp,forall_and,aO,aI,aF,aC];and_intros<;>(try omega);apply Z;refine zd ⟨[],[],[9],[],[]⟩ [.op {rL:=true},.op {},.op {rO:=true},.op {rL:=true,wL:=true},.op {},.op {}] fun all hall _ Z=>?_;simp[or_imp,forall_and,aO,aI,aF,aC];and_intros<;>(try omega);apply Z;apply aE;first | (simp [aN, addX, kO, *]; done) | (have h3 : ¬ x.most < (x.l.length : Int) := (by omega); simp [aN, addX, kO, *])
theorem Ik (x : RD) (kind : Int) (s : ByteArray) (σ : List (List D)) (hx : NB x.l) (hn : 0 ≤ x.next ∧ x.next ≤ 1000000) (hs : s.size ≤ 1000) : Ct Tryz.prog 43 [gV x, D.int kind, D.str s] σ (fun r σ' => r = .tup [gV (addX x kind s).1, D.int (addX x kind s).2.1, D.int (addX x kind s).2.2] ∧ σ' = σ) :=
 (Tp x kind s σ hx hn hs).trim fun r σ' ⟨hr, J, hs'⟩ => ⟨σ, J, hs', rfl, by rw [hr]; exact Wg (aCd _ _) (Sc.v _) (Sc.v _), fun n cs h => .inl h, hr, rfl⟩
def insX (x : RD) (bel : Int → List Int) (p at_ id : Int) : RD × Int :=
 if dQ x.l p = false ∨ dQ x.l id = false then (x, 11)
 else if ¬ (aM x.l p).kind = 2 then (x, 14)
 else if id = 0 ∨ 0 ≤ (aM x.l id).parent ∨ iU x.l bel p id = true ∨ at_ < 0 ∨ ((aM x.l p).kids.length : Int) < at_ then (x, 1)
 else (⟨x.most, x.next, dC (dC x.l { aM x.l p with kids := dT (aM x.l p).kids at_.toNat id }) { aM x.l id with parent := p }⟩, 0)
theorem NB.put {l : List ND} (h : NB l) {n : ND} (h1 : n.kids.length ≤ 1000) (h2 : n.classes.length ≤ 1000) (h3 : n.attrs.length ≤ 1000) (h4 : n.styles.length ≤ 1000) : NB (dC l n) := by
 have key : ∀ m ∈ dC l n, m = n ∨ m ∈ l := fun m hm => by
  unfold dC at hm;obtain ⟨x, hx, rfl⟩ := List.mem_map.1 hm;split
  ·exact .inl rfl
  ·exact .inr hx
 refine ⟨by rw [Cv]; exact h.len, fun m hm => ?_, fun m hm => ?_, fun m hm => ?_, fun m hm => ?_⟩
 all_goals rcases key m hm with rfl | hm'
 ·exact h1
 ·exact h.kids m hm'
 ·exact h2
 ·exact h.cls m hm'
 ·exact h3
 ·exact h.ats m hm'
 ·exact h4
 ·exact h.sts m hm'
theorem Vo (x : RD) (p at_ id : Int) (bel : Int → List Int) (rk : Int → Nat) (σ : List (List D)) (hx : NB x.l) (ht : Tr x.l bel rk) (hkl : (aM x.l p).kids.length ≤ 900) : Ct Tryz.prog 45 [gV x, D.int p, D.int at_, D.int id] σ (fun r σ' => r = .tup [gV (insX x bel p at_ id).1, D.int (insX x bel p at_ id).2] ∧ σ' = σ) := by
 refine zf (rs:=[.cell 8 28,.tmp 9]) Tryz.func45 Tryz.ntmps45 Tryz.results45 ?_;simp only [aQ];refine bC fun _ _ Z=>?_;simp;and_intros<;>(try omega);apply Z;refine bC fun _ _ Z=>?_;refine aA 2 fun _ Y=>?_;simp;and_intros<;>(try omega);apply Y;simp only [List.drop];refine aG fun _ Y=>?_;simp;refine cO (fP x p _ hx) ?_;apply Y;simp;and_intros<;>(try omega);apply Z;refine bC fun _ _ Z=>?_;refine aA 2 fun _ Y=>?_;simp;and_intros<;>(try omega);apply Y;simp only [List.drop];refine aG fun _ Y=>?_;simp;refine cO (fP x id _ hx) ?_;apply Y;simp;and_intros<;>(try omega);apply Z;apply aD;refine zk [1,2,3,4,8,9,10,11,12,13] ?_;refine lH ⟨[],[],[],[],[]⟩ fun all hall _ Z=>?_;have ga2 : aS all 2 = some 28 := hall 2;refine aA 3 fun _ Y=>?_;simp[ga2];and_intros<;>(try omega);apply Y;simp only [List.drop];refine aX 28 (by simp <;> rfl) ?_;refine ⟨fun g1 => ?_, fun g1 => ?_⟩
 ·try simp at g1
  simp[ga2];and_intros<;>(try omega);apply Z;refine bR (t := true) (by simp) (fun _ => ?_) (fun h => by cases h);refine zk [1,2,3,4,8,9,10,12] ?_;refine bC fun _ _ Z=>?_;simp;and_intros<;>(try omega);apply Z;apply aE;apply aL;simp [aN, insX, *]
 ·try simp at g1
  simp[ga2];and_intros<;>(try omega);apply Z;refine zi ?_;refine ⟨fun c2=>?_,fun c2=>?_⟩
  ·try simp at c2
   refine zk [1,2,3,4,8,9,10,12] ?_;refine bC fun _ _ Z=>?_;simp;and_intros<;>(try omega);apply Z;apply aE;apply aL;simp [aN, insX, *]
  ·try simp at c2
   apply aH;apply aB;apply aD;refine zk [1,2,3,4,8,9,10,12] ?_;refine bC fun _ _ Z=>?_;simp;and_intros<;>(try omega);apply Z;refine zi ?_;refine ⟨fun c3=>?_,fun c3=>?_⟩
   ·try simp at c3
    refine bC fun _ _ Z=>?_;simp;and_intros<;>(try omega);apply Z;apply aE;apply aL;simp [aN, insX, *]
   ·try simp at c3
    apply aH;apply aB;apply aD;refine zk [1,2,3,4,8,9,10,12] ?_;refine lH ⟨[],[],[],[],[]⟩ fun all hall _ Z=>?_;have ga2 : aS all 2 = some 39 := hall 2;have ga7 : aS all 7 = some 44 := hall 7;have ga13 : aS all 13 = some 50 := hall 13;have ga17 : aS all 17 = some 54 := hall 17;refine aA 3 fun _ Y=>?_;simp[ga2,ga7,ga13,ga17];and_intros<;>(try omega);apply Y;simp only [List.drop];refine aX 39 (by simp <;> rfl) ?_;refine ⟨fun g4 => ?_, fun g4 => ?_⟩
    ·try simp at g4
     refine aA 5 fun _ Y=>?_;simp[ga2,ga7,ga13,ga17];and_intros<;>(try omega);apply Y;simp only [List.drop];refine aA 6 fun _ Y=>?_;simp[ga2,ga7,ga13,ga17];and_intros<;>(try omega);apply Y;simp only [List.drop];refine aA 4 fun _ Y=>?_;simp[ga2,ga7,ga13,ga17];and_intros<;>(try omega);apply Y;simp only [List.drop];simp[ga2,ga7,ga13,ga17];and_intros<;>(try omega);apply Z;refine bR (t := true) (by simp) (fun _ => ?_) (fun h => by cases h);refine zk [1,2,3,4,8,9,10,12] ?_;refine bC fun _ _ Z=>?_;simp;and_intros<;>(try omega);apply Z;apply aE;apply aL;subst g4;simp [aN, insX, *]
    ·try simp at g4
     refine aA 5 fun _ Y=>?_;simp[ga2,ga7,ga13,ga17];and_intros<;>(try omega);apply Y;simp only [List.drop];refine aX 44 (by simp <;> rfl) ?_;refine ⟨fun g5 => ?_, fun g5 => ?_⟩
     ·try simp at g5
      refine aA 6 fun _ Y=>?_;simp[ga2,ga7,ga13,ga17];and_intros<;>(try omega);apply Y;simp only [List.drop];refine aA 4 fun _ Y=>?_;simp[ga2,ga7,ga13,ga17];and_intros<;>(try omega);apply Y;simp only [List.drop];simp[ga2,ga7,ga13,ga17];and_intros<;>(try omega);apply Z;refine bR (t := true) (by simp) (fun _ => ?_) (fun h => by cases h);refine zk [1,2,3,4,8,9,10,12] ?_;refine bC fun _ _ Z=>?_;simp;and_intros<;>(try omega);apply Z;apply aE;apply aL;simp [aN, insX, *]
     ·try simp at g5
      refine aA 3 fun _ Y=>?_;simp[ga2,ga7,ga13,ga17];and_intros<;>(try omega);apply Y;simp only [List.drop];refine zg ga7 fun _ Y=>?_;simp[ga2,ga7,ga13,ga17];refine cO (Fz x p id bel rk _ hx ht) ?_;apply Y;refine aA 2 fun _ Y=>?_;simp[ga2,ga7,ga13,ga17];and_intros<;>(try omega);apply Y;simp only [List.drop];refine aX 50 (by simp <;> rfl) ?_;refine ⟨fun g6 => ?_, fun g6 => ?_⟩
      ·try simp at g6
       refine aA 4 fun _ Y=>?_;simp[ga2,ga7,ga13,ga17];and_intros<;>(try omega);apply Y;simp only [List.drop];simp[ga2,ga7,ga13,ga17];and_intros<;>(try omega);apply Z;refine bR (t := true) (by simp) (fun _ => ?_) (fun h => by cases h);refine zk [1,2,3,4,8,9,10,12] ?_;refine bC fun _ _ Z=>?_;simp;and_intros<;>(try omega);apply Z;apply aE;apply aL;simp [aN, insX, *]
      ·try simp at g6
       refine aA 4 fun _ Y=>?_;simp[ga2,ga7,ga13,ga17];and_intros<;>(try omega);apply Y;simp only [List.drop];refine aX 54 (by simp <;> rfl) ?_;refine ⟨fun g7 => ?_, fun g7 => ?_⟩
       ·try simp at g7
        simp[ga2,ga7,ga13,ga17];and_intros<;>(try omega);apply Z;refine bR (t := true) (by simp) (fun _ => ?_) (fun h => by cases h);refine zk [1,2,3,4,8,9,10,12] ?_;refine bC fun _ _ Z=>?_;simp;and_intros<;>(try omega);apply Z;apply aE;apply aL;simp [aN, insX, *]
       ·try simp at g7
        simp[ga2,ga7,ga13,ga17];and_intros<;>(try omega);apply Z;refine zi ?_;refine ⟨fun c8=>?_,fun c8=>?_⟩
        ·try simp at c8
         refine zk [1,2,3,4,8,9,10,12] ?_;refine bC fun _ _ Z=>?_;simp;and_intros<;>(try omega);apply Z;apply aE;apply aL;simp [aN, insX, *]
        ·try simp at c8
         obtain ⟨i, rfl⟩ : ∃ i : Nat, at_ = i := ⟨at_.toNat, by omega⟩;have hnb : NB (dC x.l { aM x.l p with kids := dT (aM x.l p).kids i id }) := hx.put (by rw [eP _ _ _ (by omega)]; omega) (hx.fc p) (hx.fa p) (hx.fs p);apply aH;apply aB;refine zk [1,2,3,4,8,9,10,12] ?_;refine bC fun _ _ Z=>?_;refine aA 4 fun _ Y=>?_;simp;and_intros<;>(try omega);apply Y;simp only [List.drop];refine aG fun _ Y=>?_;simp;refine cO (Ij (aM x.l p).kids i id _ (by omega) (by omega)) ?_;apply Y;simp;and_intros<;>(try omega);apply Z;refine zk [1,4,8,9,10,12] ?_;refine bC fun _ _ Z=>?_;simp;and_intros<;>(try omega);apply Z;refine zd ⟨[],[],[],[],[]⟩ [.op {rL:=true},.op {rL:=true},.pure,.op {rL:=true},.pure,.op {rL:=true,wL:=true},.op {}] fun all hall _ Z=>?_;refine aR 2 (by simp) fun _ Y=>?_;simp;and_intros<;>(try omega);apply Y;simp only [List.drop];refine dH fun _ Y=>?_;simp;refine Js (fun _ => (iA x { aM x.l p with kids := dT (aM x.l p).kids i id } _ hx)) ?_;apply Y;refine aR 1 (by simp) fun _ Y=>?_;simp;and_intros<;>(try omega);apply Y;simp only [List.drop];refine dH fun _ Y=>?_;simp;refine Js (fun _ => (iA ⟨x.most, x.next, dC x.l { aM x.l p with kids := dT (aM x.l p).kids i id }⟩ { aM x.l id with parent := p } _ hnb)) ?_;apply Y;simp;and_intros<;>(try omega);apply Z;apply aE;have h5 : ¬ 0 ≤ (aM x.l id).parent := by omega
         have h7 : ¬ (i : Int) < 0 := by omega
         have h8 : ¬ ((aM x.l p).kids.length : Int) < (i : Int) := by omega
         simp [aN, insX, *]
def movX (x : RD) (id at_ : Int) : RD × Int :=
 if dQ x.l id = false then (x, 11)
 else if dQ x.l (aM x.l id).parent = false ∨ at_ < 0 ∨ ((aM x.l (aM x.l id).parent).kids.length : Int) ≤ at_ then (x, 1)
 else (⟨x.most, x.next, dC x.l { aM x.l (aM x.l id).parent with kids := dT (eN (aM x.l (aM x.l id).parent).kids id) at_.toNat id }⟩, 0)
theorem mL (l : List Int) (x : Int) : (eN l x).length ≤ l.length := List.length_filter_le _ _
theorem zH {l : List Int} (h : l.Nodup) (x : Int) : l.length ≤ (eN l x).length + 1 := by
 induction l with
 | nil => simp
 | cons y l ih =>
  have hn := List.nodup_cons.1 h;unfold eN at *;rw [List.filter_cons];by_cases e : y = x
  ·subst e;simp only [decide_true, Bool.not_true, Bool.false_eq_true, if_false];have : (l.filter fun z => !decide (z = y)) = l := by
    rw [List.filter_eq_self];intro a ha;have : a ≠ y := fun e => hn.1 (e ▸ ha);simp [this]
   rw [this]; simp
  ·simp only [e, decide_false, Bool.not_false, if_true, List.length_cons];have := ih hn.2;omega
theorem Yf (x : RD) (id at_ : Int) (σ : List (List D)) (hx : NB x.l) (hnd : (aM x.l (aM x.l id).parent).kids.Nodup) : Ct Tryz.prog 47 [gV x, D.int id, D.int at_] σ (fun r σ' => r = .tup [gV (movX x id at_).1, D.int (movX x id at_).2] ∧ σ' = σ) := by
 refine zf (rs:=[.cell 6 28,.tmp 7]) Tryz.func47 Tryz.ntmps47 Tryz.results47 ?_;simp only [aQ];have hfp := hx.fk (aM x.l id).parent;have hrl := mL (aM x.l (aM x.l id).parent).kids id;have hrg := zH hnd id;refine bC fun _ _ Z=>?_;simp;and_intros<;>(try omega);apply Z;refine bC fun _ _ Z=>?_;refine aA 2 fun _ Y=>?_;simp;and_intros<;>(try omega);apply Y;simp only [List.drop];refine aG fun _ Y=>?_;simp;refine cO (fP x id _ hx) ?_;apply Y;simp;and_intros<;>(try omega);apply Z;apply aD;refine bC fun _ _ Z=>?_;simp;and_intros<;>(try omega);apply Z;refine zi ?_;refine ⟨fun c1=>?_,fun c1=>?_⟩
 ·try simp at c1
  refine zk [1,2,3,6,7,8] ?_;refine bC fun _ _ Z=>?_;simp;and_intros<;>(try omega);apply Z;apply aE;apply aL;simp [aN, movX, *]
 ·try simp at c1
  apply aH;apply aB;refine zk [1,2,3,6,7,8] ?_;refine bC fun _ _ Z=>?_;refine aA 3 fun _ Y=>?_;simp;and_intros<;>(try omega);apply Y;simp only [List.drop];refine aG fun _ Y=>?_;simp;refine cO (fP x (aM x.l id).parent _ hx) ?_;apply Y;simp;and_intros<;>(try omega);apply Z;apply aD;refine zk [1,2,3,6,7,10,11] ?_;refine lH ⟨[],[],[],[],[]⟩ fun all hall _ Z=>?_;have ga2 : aS all 2 = some 30 := hall 2;have ga6 : aS all 6 = some 34 := hall 6;refine aA 3 fun _ Y=>?_;simp[ga2,ga6];and_intros<;>(try omega);apply Y;simp only [List.drop];refine aX 30 (by simp <;> rfl) ?_;refine ⟨fun g2 => ?_, fun g2 => ?_⟩
  ·try simp at g2
   refine aA 4 fun _ Y=>?_;simp[ga2,ga6];and_intros<;>(try omega);apply Y;simp only [List.drop];simp[ga2,ga6];and_intros<;>(try omega);apply Z;refine bR (t := true) (by simp) (fun _ => ?_) (fun h => by cases h);refine zk [1,2,3,6,7,10] ?_;refine bC fun _ _ Z=>?_;simp;and_intros<;>(try omega);apply Z;apply aE;apply aL;simp [aN, movX, *]
  ·try simp at g2
   refine aA 4 fun _ Y=>?_;simp[ga2,ga6];and_intros<;>(try omega);apply Y;simp only [List.drop];refine aX 34 (by simp <;> rfl) ?_;refine ⟨fun g3 => ?_, fun g3 => ?_⟩
   ·try simp at g3
    simp[ga2,ga6];and_intros<;>(try omega);apply Z;refine bR (t := true) (by simp) (fun _ => ?_) (fun h => by cases h);refine zk [1,2,3,6,7,10] ?_;refine bC fun _ _ Z=>?_;simp;and_intros<;>(try omega);apply Z;apply aE;apply aL;simp [aN, movX, *]
   ·try simp at g3
    simp[ga2,ga6];and_intros<;>(try omega);apply Z;refine zi ?_;refine ⟨fun c4=>?_,fun c4=>?_⟩
    ·try simp at c4
     refine zk [1,2,3,6,7,10] ?_;refine bC fun _ _ Z=>?_;simp;and_intros<;>(try omega);apply Z;apply aE;apply aL;simp [aN, movX, *]
    ·try simp at c4
     obtain ⟨i, rfl⟩ : ∃ i : Nat, at_ = i := ⟨at_.toNat, by omega⟩;apply aH;apply aB;refine zk [1,2,3,6,7,10] ?_;refine bC fun _ _ Z=>?_;refine aA 3 fun _ Y=>?_;simp;and_intros<;>(try omega);apply Y;simp only [List.drop];refine aG fun _ Y=>?_;simp;refine cO (tN (aM x.l (aM x.l id).parent).kids id _ (by omega)) ?_;apply Y;refine aA 2 fun _ Y=>?_;simp;and_intros<;>(try omega);apply Y;simp only [List.drop];refine aG fun _ Y=>?_;simp;refine cO (Ij (eN (aM x.l (aM x.l id).parent).kids id) i id _ (by omega) (by omega)) ?_;apply Y;simp;and_intros<;>(try omega);apply Z;refine zk [3,6,7,10] ?_;refine bC fun _ _ Z=>?_;refine aA 2 fun _ Y=>?_;simp;and_intros<;>(try omega);apply Y;simp only [List.drop];refine aG fun _ Y=>?_;simp;refine cO (iA x { (aM x.l (aM x.l id).parent) with kids := dT (eN (aM x.l (aM x.l id).parent).kids id) i id } _ hx) ?_;apply Y;simp;and_intros<;>(try omega);apply Z;apply aE;have h7 : ¬ (i : Int) < 0 := by omega
     have h8 : ¬ (aM x.l (aM x.l id).parent).kids.length ≤ i := by omega
     simp [aN, movX, *]
def eM (n : ND) (K : List Int) : ND := { n with kids := K }
def remP (l : List ND) (id : Int) : List ND := if dQ l (aM l id).parent = true then dC l (eM (aM l (aM l id).parent) (eN (aM l (aM l id).parent).kids id)) else l
def lW (l : List ND) (g : List Int) : List ND := l.filter fun n => !g.any fun k => decide (k = n.ID)
def remX (x : RD) (bel : Int → List Int) (id : Int) : RD × Int :=
 if dQ x.l id = false then (x, 11) else if id = 0 then (x, 1) else (⟨x.most, x.next, lW (remP x.l id) (bel id)⟩, 0)
theorem oC (l : List ND) (g : List Int) (k : Nat) (h : k < l.length) : lW (l.take (k + 1)) g = lW (l.take k) g ++ if (g.any fun k' => decide (k' = l[k].ID)) = true then [] else [l[k]] := by
 unfold lW;rw [cU l k h, List.filter_append, List.filter_cons];by_cases e : (g.any fun k' => decide (k' = l[k].ID)) = true <;> simp [e]
theorem Cm (l : List ND) (g : List Int) : (lW l g).length ≤ l.length := List.length_filter_le _ _
def qP (g : List Int) (n : ND) (j : Nat) : Bool := !(g.take j).any fun k => decide (k = n.ID)
theorem mM (g : List Int) (n : ND) (j : Nat) (h : j < g.length) : qP g n (j + 1) = (qP g n j && !decide (g[j] = n.ID)) := by
 unfold qP; rw [cU g j h, List.any_append]; simp [-List.any_eq_true, -List.any_eq_false]
theorem xX {g : List Int} {n : ND} {j : Nat} (h : g.length ≤ j) : qP g n j = !g.any fun k => decide (k = n.ID) := by
 unfold qP; rw [List.take_of_length_le h]
theorem NB.remP {l : List ND} (h : NB l) (id : Int) : NB (remP l id) := by
 unfold Go.Proofs.YtpfmpeaekgdgnaaGreat.remP;split
 ·have := mL (aM l (aM l id).parent).kids id;have h1 := h.fk (aM l id).parent;exact h.put (by show (eN _ _).length ≤ 1000; omega) (h.fc _) (h.fa _) (h.fs _)
 ·exact h
theorem Th (x : RD) (id : Int) (bel : Int → List Int) (rk : Int → Nat) (σ : List (List D)) (hx : NB x.l) (hp : dQ x.l (aM x.l id).parent = true) (ht : Tr (dC x.l (eM (aM x.l (aM x.l id).parent) (eN (aM x.l (aM x.l id).parent).kids id))) bel rk) : Ct Tryz.prog 49 [gV x, D.int id] σ (fun r σ' => r = .tup [gV (remX x bel id).1, D.int (remX x bel id).2] ∧ σ' = σ) := by
 refine zf (rs:=[.cell 4 28,.tmp 5]) Tryz.func49 Tryz.ntmps49 Tryz.results49 ?_;simp only [aQ];have hfp := hx.fk (aM x.l id).parent;have hrl := mL (aM x.l (aM x.l id).parent).kids id;have hrp : remP x.l id = (dC x.l (eM (aM x.l (aM x.l id).parent) (eN (aM x.l (aM x.l id).parent).kids id))) := by unfold remP; simp [hp]
 have hx1 : NB (dC x.l (eM (aM x.l (aM x.l id).parent) (eN (aM x.l (aM x.l id).parent).kids id))) := by rw [← hrp]; exact hx.remP id
 have hxl := hx1.len;have hbl := ht.len id;refine zr ⟨[11,71],[],[],[],[]⟩ fun _ _ Z=>?_;simp (disch:=omega)[hp];and_intros<;>(try omega);apply Z;refine zr ⟨[11,71],[],[],[],[]⟩ fun _ _ Z=>?_;refine aA 2 fun _ Y=>?_;simp (disch:=omega)[hp];and_intros<;>(try omega);apply Y;simp only [List.drop];refine aG fun _ Y=>?_;simp (disch:=omega)[hp];refine cO (fP x id _ hx) ?_;apply Y;simp (disch:=omega)[hp];and_intros<;>(try omega);apply Z;apply aD;refine zr ⟨[11,71],[],[],[],[]⟩ fun _ _ Z=>?_;simp (disch:=omega)[hp];and_intros<;>(try omega);apply Z;refine zi ?_;refine ⟨fun c1=>?_,fun c1=>?_⟩
 ·try simp at c1
  refine zk [1,2,4,5,6] ?_;refine zr ⟨[11,71],[],[],[],[]⟩ fun _ _ Z=>?_;simp (disch:=omega)[hp];and_intros<;>(try omega);apply Z;apply aE;apply aL;simp [aN, remX, *]
 ·try simp at c1
  apply aH;apply aB;apply aD;refine zk [1,2,4,5,6] ?_;refine zr ⟨[11,71],[],[],[],[]⟩ fun _ _ Z=>?_;simp (disch:=omega)[hp];and_intros<;>(try omega);apply Z;refine zi ?_;refine ⟨fun c2=>?_,fun c2=>?_⟩
  ·try simp at c2
   refine zr ⟨[11,71],[],[],[],[]⟩ fun _ _ Z=>?_;simp (disch:=omega)[hp];and_intros<;>(try omega);apply Z;apply aE;apply aL;subst c2;simp [aN, remX, *]
  ·try simp at c2
   apply aH;apply aB;apply aD;refine zr ⟨[11,71],[],[],[],[]⟩ fun _ _ Z=>?_;refine aA 3 fun _ Y=>?_;simp (disch:=omega)[hp];and_intros<;>(try omega);apply Y;simp only [List.drop];refine aG fun _ Y=>?_;simp (disch:=omega)[hp];refine cO (fP x (aM x.l id).parent _ hx) ?_;apply Y;simp (disch:=omega)[hp];and_intros<;>(try omega);apply Z;refine zk [1,2,4,5,8,9] ?_;refine zr ⟨[11,71],[],[],[],[]⟩ fun _ _ Z=>?_;simp (disch:=omega)[hp];and_intros<;>(try omega);apply Z;refine zi ?_;refine ⟨fun c3=>?_,fun c3=>?_⟩
   ·try simp at c3
    refine zr ⟨[11,71],[],[],[],[]⟩ fun _ _ Z=>?_;refine aA 3 fun _ Y=>?_;simp (disch:=omega)[hp];and_intros<;>(try omega);apply Y;simp only [List.drop];refine aG fun _ Y=>?_;simp (disch:=omega)[hp];refine cO (tN (aM x.l (aM x.l id).parent).kids id _ (by omega)) ?_;apply Y;simp (disch:=omega)[hp];and_intros<;>(try omega);apply Z;refine zk [1,2,4,5,8] ?_;refine zt ⟨[11,71],[],[],[],[]⟩ fun _ _ Z=>?_;refine aA 2 fun _ Y=>?_;simp (disch:=omega)[hp];and_intros<;>(try omega);apply Y;simp only [List.drop];refine aG fun _ Y=>?_;simp (disch:=omega)[hp];refine cO (iA x (eM (aM x.l (aM x.l id).parent) (eN (aM x.l (aM x.l id).parent).kids id)) _ hx) ?_;apply Y;simp (disch:=omega)[hp];and_intros<;>(try omega);apply Z;apply aB;refine zr ⟨[11,71],[],[],[],[]⟩ fun _ _ Z=>?_;refine aA 2 fun _ Y=>?_;simp (disch:=omega)[hp];and_intros<;>(try omega);apply Y;simp only [List.drop];refine aG fun _ Y=>?_;simp (disch:=omega)[hp];refine cO (qS (⟨x.most, x.next, (dC x.l (eM (aM x.l (aM x.l id).parent) (eN (aM x.l (aM x.l id).parent).kids id)))⟩ : RD) id bel rk _ hx1 ht) ?_;apply Y;simp (disch:=omega)[hp];and_intros<;>(try omega);apply Z;refine zk [2,4,5,10] ?_;refine zr ⟨[11,71],[],[],[],[]⟩ fun _ _ Z=>?_;simp (disch:=omega)[hp];and_intros<;>(try omega);apply Z;apply aD;refine zr ⟨[11,71],[],[],[],[]⟩ fun _ _ Z=>?_;simp (disch:=omega)[hp];and_intros<;>(try omega);apply Z;apply aK;refine zk [2,4,5,10,11,50,51,52] ?_;refine bQ (fun (k : Nat) => [(52, .d (.v (.int .i64 (k : Int)))), (11, .d (.sl true ((lW ((dC x.l (eM (aM x.l (aM x.l id).parent) (eN (aM x.l (aM x.l id).parent).kids id))).take k) (bel id)).map iT))), (14, .d (.any)), (16, .d (.any))]) [11, 13, 14, 16, 52, 53, 54, 55, 56, 57, 58, 59, 60, 61, 62, 63, 64, 65, 66, 67, 68, 69, 70, 71, 72, 73, 74, 75] (fun (k : Nat) => k ≤ (dC x.l (eM (aM x.l (aM x.l id).parent) (eN (aM x.l (aM x.l id).parent).kids id))).length) (fun (k : Nat) => (dC x.l (eM (aM x.l (aM x.l id).parent) (eN (aM x.l (aM x.l id).parent).kids id))).length - k) (0) (by simp <;> rfl) ?_ ?_ ?_
    ·simp [lW]
    ·simp
    rintro k hk;simp only [List.cons_append, List.nil_append];have hrf := Cm ((dC x.l (eM (aM x.l (aM x.l id).parent) (eN (aM x.l (aM x.l id).parent).kids id))).take k) (bel id);simp only [List.length_take] at hrf;refine zr ⟨[11,71],[],[],[],[]⟩ fun _ _ Z=>?_;simp (disch:=omega)[hp];and_intros<;>(try omega);apply Z;apply aD;refine zi ?_;refine ⟨fun c4=>?_,fun c4=>?_⟩
    ·try simp at c4
     apply aH;apply aB;apply aD;apply aK;refine zr ⟨[11,71],[],[],[],[]⟩ fun _ _ Z=>?_;simp (disch:=omega)[hp];and_intros<;>(try omega);apply Z;refine zk [2,4,5,10,11,13,14,16,50,51,52] ?_;refine zr ⟨[11,71],[],[],[],[]⟩ fun _ _ Z=>?_;simp (disch:=omega)[hp];and_intros<;>(try omega);apply Z;apply aD;refine zk [2,4,5,10,11,13,14,16,50,51,52] ?_;refine zr ⟨[11,71],[],[],[],[]⟩ fun _ _ Z=>?_;simp (disch:=omega)[hp];and_intros<;>(try omega);apply Z;apply aK;refine zk [2,4,5,10,11,13,14,16,50,51,52,56,57,58] ?_;refine bQ (fun (j : Nat) => [(58, .d (.v (.int .i64 (j : Int)))), (14, .d (.bool (qP (bel id) ((dC x.l (eM (aM x.l (aM x.l id).parent) (eN (aM x.l (aM x.l id).parent).kids id)))[k]) j))), (16, .d (.any))]) [14, 16, 58, 59, 60, 61, 62, 63, 64, 65, 66, 67, 68, 69] (fun (j : Nat) => j ≤ (bel id).length) (fun (j : Nat) => (bel id).length - j) (0) (by simp <;> rfl) ?_ ?_ ?_
     ·simp [qP]
     ·simp
     rintro j hj;simp only [List.cons_append, List.nil_append];refine zk [2,4,5,10,11,13,14,16,50,51,52,56,57,58] ?_;refine zr ⟨[11,71],[],[],[],[]⟩ fun _ _ Z=>?_;simp (disch:=omega)[hp];and_intros<;>(try omega);apply Z;apply aD;refine zi ?_;refine ⟨fun c5=>?_,fun c5=>?_⟩
     ·try simp at c5
      apply aH;apply aB;apply aD;apply aK;refine zk [2,4,5,10,11,13,14,16,50,51,52,56,57,58] ?_;refine zr ⟨[11,71],[],[],[],[]⟩ fun _ _ Z=>?_;simp (disch:=omega)[hp];and_intros<;>(try omega);apply Z;refine zk [2,4,5,10,11,13,14,16,50,51,52,56,57,58] ?_;refine ztg ⟨[11,71],[],[],[],[]⟩ fun all hall _ Z=>?_;have ga1 : aS all 1 = some 63 := hall 1;refine aA 2 fun _ Y=>?_;simp (disch:=omega)[hp,ga1];and_intros<;>(try omega);apply Y;simp only [List.drop];refine aX 63 (by simp <;> rfl) ?_;refine ⟨fun g6 => ?_, fun g6 => ?_⟩
      ·try simp at g6
       simp (disch:=omega)[hp,ga1];and_intros<;>(try omega);apply Z;apply aP;apply aB;refine zk [2,4,5,10,11,13,14,16,50,51,52,56,57,58] ?_;refine zt ⟨[11,71],[],[],[],[]⟩ fun _ _ Z=>?_;simp (disch:=omega)[hp];and_intros<;>(try omega);apply Z;refine bA (j + 1) ?_ ?_ (aW rfl ?_ (by simp) (by simp))
       ·omega
       ·try dsimp only
        omega
       ·simp (disch:=omega)[hp,mM, *]
      ·try simp at g6
       simp (disch:=omega)[hp,ga1];and_intros<;>(try omega);apply Z;apply aP;apply aB;refine zk [2,4,5,10,11,13,14,16,50,51,52,56,57,58] ?_;refine zt ⟨[11,71],[],[],[],[]⟩ fun _ _ Z=>?_;simp (disch:=omega)[hp];and_intros<;>(try omega);apply Z;refine bA (j + 1) ?_ ?_ (aW rfl ?_ (by simp) (by simp))
       ·omega
       ·try dsimp only
        omega
       ·simp (disch:=omega)[hp,mM, *]
     ·try simp at c5
      obtain rfl : j = (bel id).length := by omega
      have hst := xX (n := (dC x.l (eM (aM x.l (aM x.l id).parent) (eN (aM x.l (aM x.l id).parent).kids id)))[k]) (Nat.le_refl (bel id).length);apply bK;apply bJ;apply bL;apply aY;apply aB;refine zk [2,4,5,10,11,13,14,16,50,51,52] ?_;refine zr ⟨[11,71],[],[],[],[]⟩ fun _ _ Z=>?_;simp (disch:=omega)[hp];and_intros<;>(try omega);apply Z;refine zi ?_;refine ⟨fun c7=>?_,fun c7=>?_⟩
      ·try simp at c7
       have hst2 : ((bel id).any fun q => decide (q = (dC x.l (eM (aM x.l (aM x.l id).parent) (eN (aM x.l (aM x.l id).parent).kids id)))[k].ID)) = false := by rw [hst] at c7; simpa using c7
       refine zk [2,4,5,10,11,13,14,16,50,51,52] ?_;refine zt ⟨[11,71],[],[],[],[]⟩ fun _ _ Z=>?_;simp (disch:=omega)[hp];and_intros<;>(try omega);apply Z;apply aP;apply aB;refine zk [2,4,5,10,11,14,16,50,51,52] ?_;refine zt ⟨[11,71],[],[],[],[]⟩ fun _ _ Z=>?_;simp (disch:=omega)[hp];and_intros<;>(try omega);apply Z;refine bA (k + 1) ?_ ?_ (aW rfl ?_ (by simp) (by simp))
       ·omega
       ·try dsimp only
        omega
       ·simp (disch:=omega)[hp,oC,hst2]
      ·try simp at c7
       have hst2 : ((bel id).any fun q => decide (q = (dC x.l (eM (aM x.l (aM x.l id).parent) (eN (aM x.l (aM x.l id).parent).kids id)))[k].ID)) = true := by rw [hst] at c7; simpa using c7
       apply aH;apply aP;apply aB;refine zk [2,4,5,10,11,14,16,50,51,52] ?_;refine zt ⟨[11,71],[],[],[],[]⟩ fun _ _ Z=>?_;simp (disch:=omega)[hp];and_intros<;>(try omega);apply Z;refine bA (k + 1) ?_ ?_ (aW rfl ?_ (by simp) (by simp))
       ·omega
       ·try dsimp only
        omega
       ·simp (disch:=omega)[hp,oC,hst2]
    ·try simp at c4
     apply bK;apply bJ;apply bL;apply aY;apply aB;refine zr ⟨[11,71],[],[],[],[]⟩ fun _ _ Z=>?_;simp (disch:=omega)[hp];and_intros<;>(try omega);apply Z;refine zk [2,4,5] ?_;refine zr ⟨[11,71],[],[],[],[]⟩ fun _ _ Z=>?_;simp (disch:=omega)[hp];and_intros<;>(try omega);apply Z;apply aE;simp [aN, remX, hrp, c1, c2];rw [List.take_of_length_le (by omega)]
   ·simp at c3
theorem Sp (x : RD) (id : Int) (bel : Int → List Int) (rk : Int → Nat) (σ : List (List D)) (hx : NB x.l) (hp : dQ x.l (aM x.l id).parent = false) (ht : Tr x.l bel rk) : Ct Tryz.prog 49 [gV x, D.int id] σ (fun r σ' => r = .tup [gV (remX x bel id).1, D.int (remX x bel id).2] ∧ σ' = σ) := by
 refine zf (rs:=[.cell 4 28,.tmp 5]) Tryz.func49 Tryz.ntmps49 Tryz.results49 ?_;simp only [aQ];have hfp := hx.fk (aM x.l id).parent;have hrl := mL (aM x.l (aM x.l id).parent).kids id;have hrp : remP x.l id = x.l := by unfold remP; simp [hp]
 have hx1 : NB x.l := by rw [← hrp]; exact hx.remP id
 have hxl := hx1.len;have hbl := ht.len id;refine zr ⟨[11,71],[],[],[],[]⟩ fun _ _ Z=>?_;simp (disch:=omega)[hp];and_intros<;>(try omega);apply Z;refine zr ⟨[11,71],[],[],[],[]⟩ fun _ _ Z=>?_;refine aA 2 fun _ Y=>?_;simp (disch:=omega)[hp];and_intros<;>(try omega);apply Y;simp only [List.drop];refine aG fun _ Y=>?_;simp (disch:=omega)[hp];refine cO (fP x id _ hx) ?_;apply Y;simp (disch:=omega)[hp];and_intros<;>(try omega);apply Z;apply aD;refine zr ⟨[11,71],[],[],[],[]⟩ fun _ _ Z=>?_;simp (disch:=omega)[hp];and_intros<;>(try omega);apply Z;refine zi ?_;refine ⟨fun c1=>?_,fun c1=>?_⟩
 ·try simp at c1
  refine zk [1,2,4,5,6] ?_;refine zr ⟨[11,71],[],[],[],[]⟩ fun _ _ Z=>?_;simp (disch:=omega)[hp];and_intros<;>(try omega);apply Z;apply aE;apply aL;simp [aN, remX, *]
 ·try simp at c1
  apply aH;apply aB;apply aD;refine zk [1,2,4,5,6] ?_;refine zr ⟨[11,71],[],[],[],[]⟩ fun _ _ Z=>?_;simp (disch:=omega)[hp];and_intros<;>(try omega);apply Z;refine zi ?_;refine ⟨fun c2=>?_,fun c2=>?_⟩
  ·try simp at c2
   refine zr ⟨[11,71],[],[],[],[]⟩ fun _ _ Z=>?_;simp (disch:=omega)[hp];and_intros<;>(try omega);apply Z;apply aE;apply aL;subst c2;simp [aN, remX, *]
  ·try simp at c2
   apply aH;apply aB;apply aD;refine zr ⟨[11,71],[],[],[],[]⟩ fun _ _ Z=>?_;refine aA 3 fun _ Y=>?_;simp (disch:=omega)[hp];and_intros<;>(try omega);apply Y;simp only [List.drop];refine aG fun _ Y=>?_;simp (disch:=omega)[hp];refine cO (fP x (aM x.l id).parent _ hx) ?_;apply Y;simp (disch:=omega)[hp];and_intros<;>(try omega);apply Z;refine zk [1,2,4,5,8,9] ?_;refine zr ⟨[11,71],[],[],[],[]⟩ fun _ _ Z=>?_;simp (disch:=omega)[hp];and_intros<;>(try omega);apply Z;refine zi ?_;refine ⟨fun c3=>?_,fun c3=>?_⟩
   ·simp at c3
   ·try simp at c3
    apply aH;apply aB;refine zr ⟨[11,71],[],[],[],[]⟩ fun _ _ Z=>?_;refine aA 2 fun _ Y=>?_;simp (disch:=omega)[hp];and_intros<;>(try omega);apply Y;simp only [List.drop];refine aG fun _ Y=>?_;simp (disch:=omega)[hp];refine cO (qS x id bel rk _ hx1 ht) ?_;apply Y;simp (disch:=omega)[hp];and_intros<;>(try omega);apply Z;refine zr ⟨[11,71],[],[],[],[]⟩ fun _ _ Z=>?_;simp (disch:=omega)[hp];and_intros<;>(try omega);apply Z;apply aD;refine zk [2,4,5,10,11] ?_;refine zr ⟨[11,71],[],[],[],[]⟩ fun _ _ Z=>?_;simp (disch:=omega)[hp];and_intros<;>(try omega);apply Z;apply aK;refine zk [2,4,5,10,11,50,51,52] ?_;refine bQ (fun (k : Nat) => [(52, .d (.v (.int .i64 (k : Int)))), (11, .d (.sl true ((lW (x.l.take k) (bel id)).map iT))), (14, .d (.any)), (16, .d (.any))]) [11, 13, 14, 16, 52, 53, 54, 55, 56, 57, 58, 59, 60, 61, 62, 63, 64, 65, 66, 67, 68, 69, 70, 71, 72, 73, 74, 75] (fun (k : Nat) => k ≤ x.l.length) (fun (k : Nat) => x.l.length - k) (0) (by simp <;> rfl) ?_ ?_ ?_
    ·simp [lW]
    ·simp
    rintro k hk;simp only [List.cons_append, List.nil_append];have hrf := Cm (x.l.take k) (bel id);simp only [List.length_take] at hrf;refine zr ⟨[11,71],[],[],[],[]⟩ fun _ _ Z=>?_;simp (disch:=omega)[hp];and_intros<;>(try omega);apply Z;apply aD;refine zi ?_;refine ⟨fun c4=>?_,fun c4=>?_⟩
    ·try simp at c4
     apply aH;apply aB;apply aD;apply aK;refine zr ⟨[11,71],[],[],[],[]⟩ fun _ _ Z=>?_;simp (disch:=omega)[hp];and_intros<;>(try omega);apply Z;refine zk [2,4,5,10,11,13,14,16,50,51,52] ?_;refine zr ⟨[11,71],[],[],[],[]⟩ fun _ _ Z=>?_;simp (disch:=omega)[hp];and_intros<;>(try omega);apply Z;apply aD;refine zk [2,4,5,10,11,13,14,16,50,51,52] ?_;refine zr ⟨[11,71],[],[],[],[]⟩ fun _ _ Z=>?_;simp (disch:=omega)[hp];and_intros<;>(try omega);apply Z;apply aK;refine zk [2,4,5,10,11,13,14,16,50,51,52,56,57,58] ?_;refine bQ (fun (j : Nat) => [(58, .d (.v (.int .i64 (j : Int)))), (14, .d (.bool (qP (bel id) (x.l[k]) j))), (16, .d (.any))]) [14, 16, 58, 59, 60, 61, 62, 63, 64, 65, 66, 67, 68, 69] (fun (j : Nat) => j ≤ (bel id).length) (fun (j : Nat) => (bel id).length - j) (0) (by simp <;> rfl) ?_ ?_ ?_
     ·simp [qP]
     ·simp
     rintro j hj;simp only [List.cons_append, List.nil_append];refine zk [2,4,5,10,11,13,14,16,50,51,52,56,57,58] ?_;refine zr ⟨[11,71],[],[],[],[]⟩ fun _ _ Z=>?_;simp (disch:=omega)[hp];and_intros<;>(try omega);apply Z;apply aD;refine zi ?_;refine ⟨fun c5=>?_,fun c5=>?_⟩
     ·try simp at c5
      apply aH;apply aB;apply aD;apply aK;refine zk [2,4,5,10,11,13,14,16,50,51,52,56,57,58] ?_;refine zr ⟨[11,71],[],[],[],[]⟩ fun _ _ Z=>?_;simp (disch:=omega)[hp];and_intros<;>(try omega);apply Z;refine zk [2,4,5,10,11,13,14,16,50,51,52,56,57,58] ?_;refine ztg ⟨[11,71],[],[],[],[]⟩ fun all hall _ Z=>?_;have ga1 : aS all 1 = some 63 := hall 1;refine aA 2 fun _ Y=>?_;simp (disch:=omega)[hp,ga1];and_intros<;>(try omega);apply Y;simp only [List.drop];refine aX 63 (by simp <;> rfl) ?_;refine ⟨fun g6 => ?_, fun g6 => ?_⟩
      ·try simp at g6
       simp (disch:=omega)[hp,ga1];and_intros<;>(try omega);apply Z;apply aP;apply aB;refine zk [2,4,5,10,11,13,14,16,50,51,52,56,57,58] ?_;refine zt ⟨[11,71],[],[],[],[]⟩ fun _ _ Z=>?_;simp (disch:=omega)[hp];and_intros<;>(try omega);apply Z;refine bA (j + 1) ?_ ?_ (aW rfl ?_ (by simp) (by simp))
       ·omega
       ·try dsimp only
        omega
       ·simp (disch:=omega)[hp,mM, *]
      ·try simp at g6
       simp (disch:=omega)[hp,ga1];and_intros<;>(try omega);apply Z;apply aP;apply aB;refine zk [2,4,5,10,11,13,14,16,50,51,52,56,57,58] ?_;refine zt ⟨[11,71],[],[],[],[]⟩ fun _ _ Z=>?_;simp (disch:=omega)[hp];and_intros<;>(try omega);apply Z;refine bA (j + 1) ?_ ?_ (aW rfl ?_ (by simp) (by simp))
       ·omega
       ·try dsimp only
        omega
       ·simp (disch:=omega)[hp,mM, *]
     ·try simp at c5
      obtain rfl : j = (bel id).length := by omega
      have hst := xX (n := x.l[k]) (Nat.le_refl (bel id).length);apply bK;apply bJ;apply bL;apply aY;apply aB;refine zk [2,4,5,10,11,13,14,16,50,51,52] ?_;refine zr ⟨[11,71],[],[],[],[]⟩ fun _ _ Z=>?_;simp (disch:=omega)[hp];and_intros<;>(try omega);apply Z;refine zi ?_;refine ⟨fun c7=>?_,fun c7=>?_⟩
      ·try simp at c7
       have hst2 : ((bel id).any fun q => decide (q = x.l[k].ID)) = false := by rw [hst] at c7; simpa using c7
       refine zk [2,4,5,10,11,13,14,16,50,51,52] ?_;refine zt ⟨[11,71],[],[],[],[]⟩ fun _ _ Z=>?_;simp (disch:=omega)[hp];and_intros<;>(try omega);apply Z;apply aP;apply aB;refine zk [2,4,5,10,11,14,16,50,51,52] ?_;refine zt ⟨[11,71],[],[],[],[]⟩ fun _ _ Z=>?_;simp (disch:=omega)[hp];and_intros<;>(try omega);apply Z;refine bA (k + 1) ?_ ?_ (aW rfl ?_ (by simp) (by simp))
       ·omega
       ·try dsimp only
        omega
       ·simp (disch:=omega)[hp,oC,hst2]
      ·try simp at c7
       have hst2 : ((bel id).any fun q => decide (q = x.l[k].ID)) = true := by rw [hst] at c7; simpa using c7
       apply aH;apply aP;apply aB;refine zk [2,4,5,10,11,14,16,50,51,52] ?_;refine zt ⟨[11,71],[],[],[],[]⟩ fun _ _ Z=>?_;simp (disch:=omega)[hp];and_intros<;>(try omega);apply Z;refine bA (k + 1) ?_ ?_ (aW rfl ?_ (by simp) (by simp))
       ·omega
       ·try dsimp only
        omega
       ·simp (disch:=omega)[hp,oC,hst2]
    ·try simp at c4
     apply bK;apply bJ;apply bL;apply aY;apply aB;refine zr ⟨[11,71],[],[],[],[]⟩ fun _ _ Z=>?_;simp (disch:=omega)[hp];and_intros<;>(try omega);apply Z;refine zk [2,4,5] ?_;refine zr ⟨[11,71],[],[],[],[]⟩ fun _ _ Z=>?_;simp (disch:=omega)[hp];and_intros<;>(try omega);apply Z;apply aE;simp [aN, remX, hrp, c1, c2];rw [List.take_of_length_le (by omega)]
theorem Yu (x : RD) (id : Int) (bel : Int → List Int) (rk : Int → Nat) (σ : List (List D)) (hx : NB x.l) (ht : Tr (remP x.l id) bel rk) : Ct Tryz.prog 49 [gV x, D.int id] σ (fun r σ' => r = .tup [gV (remX x bel id).1, D.int (remX x bel id).2] ∧ σ' = σ) := by
 cases hp : dQ x.l (aM x.l id).parent with
 | true => exact Th x id bel rk σ hx hp (by unfold remP at ht; rwa [if_pos hp] at ht)
 | false => exact Sp x id bel rk σ hx hp (by unfold remP at ht; rwa [if_neg (by rw [hp]; simp)] at ht)
end Go.Proofs.YtpfmpeaekgdgnaaGreat


import Derived.Test.YtpfmpeaekgdgnaaGreatVmX7
namespace Go.Vm
open Go
set_option linter.all false
theorem cU {α : Type} (l : List α) (k : Nat) (h : k < l.length) : l.take (k + 1) = l.take k ++ [l[k]] := by
 rw [List.take_add_one, List.getElem?_eq_getElem h]; rfl
theorem qO {α : Type} {p : List α → Prop} (h0 : p []) (h1 : ∀ l x, p l → p (l ++ [x])) (l : List α) : p l := by
 have : ∀ (r : List α), p r.reverse := by
  intro r;induction r with
  | nil => exact h0
  | cons a r ih => rw [List.reverse_cons]; exact h1 _ _ ih
 have := this l.reverse
 rwa [List.reverse_reverse] at this
def pO {α : Type} (p : α → Bool) (l : List α) : Int := match l.findIdx? p with | some k => k | none => -1
theorem oK {α : Type} {p : α → Bool} {l : List α} {k : Nat} (h : k < l.length) (hh : ∀ x ∈ l.take k, p x = false) (e : p l[k] = true) : pO p l = k := by
 have : l.findIdx? p = some k := by
  rw [List.findIdx?_eq_some_iff_getElem];refine ⟨h, e, fun j hj => ?_⟩;have := hh ((l.take k)[j]'(by simp; omega)) (List.getElem_mem _);simpa using this
 simp [pO, this]
theorem kA {α : Type} {p : α → Bool} {l : List α} (h : ∀ x ∈ l, p x = false) : pO p l = -1 := by
 have : l.findIdx? p = none := by
  rw [List.findIdx?_eq_none_iff]; simpa using h
 simp [pO, this]
theorem mS {α : Type} (p : α → Bool) (l : List α) : (pO p l = -1 ∧ l.filter (fun x => !p x) = l) ∨ ∃ k : Nat, pO p l = k ∧ k < l.length ∧ ∀ x ∈ l.take k, p x = false := by
 unfold pO;split
 ·rename_i k h;rw [List.findIdx?_eq_some_iff_getElem] at h;obtain ⟨hk, he, hn⟩ := h;refine .inr ⟨k, rfl, hk, fun x hx => ?_⟩;obtain ⟨j, hj, rfl⟩ := List.getElem_of_mem hx;have := hn j (by simp at hj; omega);simpa using this
 ·rename_i h;rw [List.findIdx?_eq_none_iff] at h;refine .inl ⟨rfl, ?_⟩;rw [List.filter_eq_self];intro x hx; simp [h x hx]
theorem jG {α : Type} {p : α → Bool} {l : List α} {k : Nat} (h : k < l.length) (hh : ∀ x ∈ l.take k, p x = false) (e : p l[k] = false) : ∀ x ∈ l.take (k + 1), p x = false := by
 rw [cU l k h];intro x hx;rcases List.mem_append.1 hx with h1 | h1
 ·exact hh x h1
 ·simp at h1; subst h1; exact e
theorem Cq {α : Type} (f : α → D) (l : List α) (rest : List D) (i : Nat) (x : α) (h : i < l.length) : List.take i (l.map f ++ rest) ++ f x :: List.drop (i + 1) (l.map f ++ rest) = (l.set i x).map f ++ rest := by
 rw [← cF f l rest i x h]; simp
theorem Ch {α : Type} (f : α → D) (l : List α) (rest : List D) (n : Nat) (h : n = l.length) : List.drop n (l.map f ++ rest) = rest := by
 subst h; rw [List.drop_append_of_le_length (by simp), List.drop_eq_nil_of_le (by simp)]; rfl
theorem dA {α : Type} {f : α → D} (h : ∀ a, (f a).cells = [f a]) (l : List α) : (l.map f).flatMap D.cells = l.map f := by
 induction l with
 | nil => rfl
 | cons a l ih => simp only [List.map_cons, List.flatMap_cons, h a, ih]; rfl
def kp {α : Type} (p : α → Bool) (l : List α) (j : Nat) : List α := (l.take j).filter fun x => !p x
def ar {α : Type} (p : α → Bool) (l : List α) (j : Nat) : List α := kp p l j ++ l.drop (kp p l j).length
theorem xY {α : Type} (p : α → Bool) (l : List α) (j : Nat) (h : j ≤ l.length) : (kp p l j).length ≤ j := by
 unfold kp;have := List.length_filter_le (fun x => !p x) (l.take j);rw [List.length_take] at this; omega
theorem aC4 {α : Type} (p : α → Bool) (l : List α) (j : Nat) : (kp p l j).length ≤ l.length := by
 unfold kp;have := List.length_filter_le (fun x => !p x) (l.take j);rw [List.length_take] at this; omega
theorem Ja {α : Type} (p : α → Bool) (l : List α) (j : Nat) (h : j < l.length) : kp p l (j + 1) = kp p l j ++ if p l[j] = true then [] else [l[j]] := by
 unfold kp;rw [cU l j h, List.filter_append, List.filter_cons];by_cases e : p l[j] = true <;> simp [e]
theorem vC {α : Type} (p : α → Bool) (l : List α) (j : Nat) : (ar p l j).length = l.length := by
 unfold ar;have := aC4 p l j;rw [List.length_append, List.length_drop]; omega
theorem Jm {α : Type} (p : α → Bool) (l : List α) (j : Nat) (h : j < l.length) : (ar p l j)[j]'(by rw [vC]; exact h) = l[j] := by
 have hk := xY p l j (by omega);unfold ar;rw [List.getElem_append_right (by omega), List.getElem_drop];congr 1; omega
theorem mH {α : Type} (p : α → Bool) (l : List α) (j : Nat) (h : j < l.length) (e : p l[j] = true) : ar p l (j + 1) = ar p l j ∧ kp p l (j + 1) = kp p l j := by
 have := Ja p l j h;rw [if_pos e, List.append_nil] at this;exact ⟨by unfold ar; rw [this], this⟩
theorem pA {α : Type} (p : α → Bool) (l : List α) (j : Nat) (h : j < l.length) (e : p l[j] = false) : (ar p l j).set (kp p l j).length l[j] = ar p l (j + 1) ∧ (kp p l (j + 1)).length = (kp p l j).length + 1 := by
 have hs := Ja p l j h;have hk := xY p l j (by omega);rw [if_neg (by simp [e])] at hs;refine ⟨?_, by rw [hs]; simp⟩;unfold ar;rw [hs, List.length_append, List.length_singleton, List.set_append_right _ _ (Nat.le_refl _), Nat.sub_self, List.append_assoc];congr 1;rw [List.drop_eq_getElem_cons (by omega)];rfl
theorem Pw {α : Type} (p : α → Bool) (l : List α) (k : Nat) (h : k < l.length) (hh : ∀ x ∈ l.take k, p x = false) (e : p l[k] = true) : ar p l (k + 1) = l ∧ (kp p l (k + 1)).length = k := by
 have h1 : kp p l k = l.take k := by
  unfold kp;rw [List.filter_eq_self];intro x hx; simp [hh x hx]
 have h2 := (mH p l k h e).2;unfold ar;rw [h2, h1, List.length_take, Nat.min_eq_left (by omega)];exact ⟨List.take_append_drop k l, rfl⟩
theorem rE {α : Type} {p : α → Bool} {l : List α} (h : ¬ pO p l = -1) : ∃ k : Nat, pO p l = k ∧ ar p l (k + 1) = l ∧ (kp p l (k + 1)).length = k ∧ k < l.length := by
 unfold pO at *;split at h
 ·rename_i k hf;rw [List.findIdx?_eq_some_iff_getElem] at hf;obtain ⟨hk, he, hn⟩ := hf;have hh : ∀ x ∈ l.take k, p x = false := fun x hx => by
   obtain ⟨j, hj, rfl⟩ := List.getElem_of_mem hx;have := hn j (by simp at hj; omega);simpa using this
  obtain ⟨a, b⟩ := Pw p l k hk hh he;exact ⟨k, rfl, a, b, hk⟩
 ·exact absurd rfl h
theorem gU {α : Type} {l : List α} {m : Nat} {x : α} (h : l[m]? = some x) : m < l.length := (List.getElem?_eq_some_iff.1 h).1
theorem aJ {α : Type} {l : List α} {m : Nat} {x : α} (h : l[m]? = some x) (a : α) : (l.set m a)[m]? = some a := by
 rw [List.getElem?_set, if_pos rfl, if_pos (gU h)]
theorem bO {α : Type} {l : List α} {m : Nat} {x : α} (h : l[m]? = some x) (a : α) (r : List α) : (l.set m a ++ r)[m]? = some a := by
 rw [List.getElem?_append_left (by rw [List.length_set]; exact gU h), aJ h]
theorem bZ {α : Type} {l : List α} {m : Nat} {x : α} (h : l[m]? = some x) (r : List α) : (l ++ r)[m]? = some x := by
 rw [List.getElem?_append_left (gU h)]; exact h
theorem bT {α : Type} {l : List α} {m : Nat} {x : α} (h : l[m]? = some x) (a b : α) (r : List α) : (l.set m a ++ r).set m b = l.set m b ++ r := by
 rw [List.set_append_left _ _ (by rw [List.length_set]; exact gU h), List.set_set]
theorem cK {α : Type} {l : List α} {m : Nat} {x : α} (h : l[m]? = some x) (b : α) (r : List α) : (l ++ r).set m b = l.set m b ++ r := by
 rw [List.set_append_left _ _ (gU h)]
theorem bH {α : Type} (l : List α) (m : Nat) (a b : α) (r : List α) : (l.set m a ++ b :: r)[l.length]? = some b := by
 rw [List.getElem?_append_right (by rw [List.length_set]; omega), List.length_set, Nat.sub_self]; rfl
theorem aZ {α : Type} (l : List α) (m : Nat) (a b c : α) (r : List α) : (l.set m a ++ b :: r).set l.length c = l.set m a ++ c :: r := by
 rw [List.set_append_right _ _ (by rw [List.length_set]; omega), List.length_set, Nat.sub_self]; rfl
theorem bF {α : Type} (l : List α) (b : α) (r : List α) : (l ++ b :: r)[l.length]? = some b := by
 rw [List.getElem?_append_right (by omega), Nat.sub_self]; rfl
theorem bB {α : Type} (l : List α) (b c : α) (r : List α) : (l ++ b :: r).set l.length c = l ++ c :: r := by
 rw [List.set_append_right _ _ (by omega), Nat.sub_self]; rfl
theorem bI {α : Type} (l : List α) (m : Nat) (a b b' : α) (r : List α) : (l.set m a ++ b :: b' :: r)[l.length + 1]? = some b' := by
 rw [List.getElem?_append_right (by rw [List.length_set]; omega), List.length_set, Nat.add_sub_cancel_left]; rfl
theorem bD {α : Type} (l : List α) (m : Nat) (a b b' c : α) (r : List α) : (l.set m a ++ b :: b' :: r).set (l.length + 1) c = l.set m a ++ b :: c :: r := by
 rw [List.set_append_right _ _ (by rw [List.length_set]; omega), List.length_set, Nat.add_sub_cancel_left]; rfl
theorem aO {α : Type} (l r : List α) (k : Nat) : (l ++ r)[l.length + k]? = r[k]? := by
 rw [List.getElem?_append_right (by omega), Nat.add_sub_cancel_left]
theorem aI {α : Type} (l r : List α) (k : Nat) (c : α) : (l ++ r).set (l.length + k) c = l ++ r.set k c := by
 rw [List.set_append_right _ _ (by omega), Nat.add_sub_cancel_left]
theorem aF {α : Type} (l r : List α) : (l ++ r)[l.length]? = r[0]? := aO l r 0
theorem aC {α : Type} (l r : List α) (c : α) : (l ++ r).set l.length c = l ++ r.set 0 c := aI l r 0 c
theorem bV {α : Type} (l : List α) (m : Nat) (a b b' b2 : α) (r : List α) : (l.set m a ++ b :: b' :: b2 :: r)[l.length + 2]? = some b2 := by
 rw [List.getElem?_append_right (by rw [List.length_set]; omega), List.length_set, Nat.add_sub_cancel_left]; rfl
theorem bE {α : Type} (l : List α) (m : Nat) (a b b' b2 c : α) (r : List α) : (l.set m a ++ b :: b' :: b2 :: r).set (l.length + 2) c = l.set m a ++ b :: b' :: c :: r := by
 rw [List.set_append_right _ _ (by rw [List.length_set]; omega), List.length_set, Nat.add_sub_cancel_left]; rfl
section
variable {α : Type} {f : α → List D} {k : Nat}
theorem cB (hf : ∀ a, (f a).length = k) (l : List α) : (l.flatMap f).length = l.length * k := by
 induction l with
 | nil => simp
 | cons a l ih => simp only [List.flatMap_cons, List.length_append, ih, hf, List.length_cons, Nat.add_mul, Nat.one_mul]; omega
theorem pN (l : List α) (i : Nat) (h : i < l.length) : l.flatMap f = (l.take i).flatMap f ++ (f l[i] ++ (l.drop (i + 1)).flatMap f) := by
 have : l = l.take i ++ (l[i] :: l.drop (i + 1)) := by rw [← List.drop_eq_getElem_cons h, List.take_append_drop]
 conv => lhs; rw [this]
 rw [List.flatMap_append, List.flatMap_cons]
theorem jF (hf : ∀ a, (f a).length = k) (l : List α) (i : Nat) (h : i < l.length) : ((l.take i).flatMap f).length = i * k := by
 rw [cB hf, List.length_take, Nat.min_eq_left (by omega)]
theorem xI (hf : ∀ a, (f a).length = k) (l : List α) (rest : List D) (i : Nat) (h : i < l.length) : ((l.flatMap f ++ rest).drop (i * k)).take k = f l[i] := by
 rw [pN l i h, List.append_assoc, ← jF hf l i h, List.drop_left, List.append_assoc, ← hf l[i], List.take_left]
theorem Ml (hf : ∀ a, (f a).length = k) (l : List α) (rest : List D) (i j : Nat) (h : i < l.length) (hj : j < k) : (l.flatMap f ++ rest)[i * k + j]? = (f l[i])[j]? := by
 rw [pN l i h, List.append_assoc, ← jF hf l i h, List.getElem?_append_right (by omega), Nat.add_sub_cancel_left, List.append_assoc, List.getElem?_append_left (by rw [hf]; exact hj)]
theorem Je (hf : ∀ a, (f a).length = k) (l : List α) (rest : List D) (i : Nat) (h : i < l.length) : oD true k ((l.flatMap f ++ rest).drop (i * k)) = some (.agg (f l[i])) := by
 have hle : k ≤ ((l.flatMap f ++ rest).drop (i * k)).length := by
  have := congrArg List.length (xI hf l rest i h);rw [List.length_take, hf] at this; omega
 simp only [oD, if_true, hle, xI hf l rest i h]
theorem Dr (hf : ∀ a, (f a).length = k) (l : List α) (rest : List D) (i j : Nat) (h : i < l.length) (hj : j < k) : oD false 1 ((l.flatMap f ++ rest).drop (i * k + j)) = (f l[i])[j]? := by
 rw [← Ml hf l rest i j h hj];simp only [oD, Bool.false_eq_true, if_false, List.head?_drop]
theorem iF (A B C X : List D) (h : X.length = B.length) : cN (A ++ (B ++ C)) A.length X = A ++ (X ++ C) := by
 unfold cN;rw [List.take_left, h, ← List.append_assoc A B C, ← List.length_append, List.drop_left, List.append_assoc]
theorem tA (hf : ∀ a, (f a).length = k) (l : List α) (rest : List D) (i : Nat) (x : α) (h : i < l.length) : cN (l.flatMap f ++ rest) (i * k) (f x) = (l.set i x).flatMap f ++ rest := by
 have e1 : (l.set i x).flatMap f = (l.take i).flatMap f ++ (f x ++ (l.drop (i + 1)).flatMap f) := by
  rw [List.set_eq_take_append_cons_drop, if_pos h, List.flatMap_append, List.flatMap_cons]
 rw [e1, pN l i h, ← jF hf l i h, List.append_assoc, List.append_assoc, iF _ _ _ _ (by rw [hf, hf]), List.append_assoc, List.append_assoc]
theorem bX {d : α → D} (hd : ∀ a, (d a).cells = f a) (l : List α) : (l.map d).flatMap D.cells = l.flatMap f := by
 induction l with
 | nil => rfl
 | cons a l ih => simp only [List.map_cons, List.flatMap_cons, hd a, ih]
end
end Go.Vm


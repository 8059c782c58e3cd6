import Derived.Test.YtighdhfgcdjmeaaVmX7
namespace Go.Vm
open Go
set_option linter.all false
theorem cS {α : Type} (l : List α) (k : Nat) (h : k < l.length) : l.take (k + 1) = l.take k ++ [l[k]] := by
 rw [List.take_add_one, List.getElem?_eq_getElem h]; rfl
theorem iZ {α : Type} {p : List α → Prop} (h0 : p []) (h1 : ∀ l x, p l → p (l ++ [x])) (l : List α) : p l := by
 have : ∀ (r : List α), p r.reverse := by
  intro r;induction r with
  | nil => exact h0
  | cons a r ih => rw [List.reverse_cons]; exact h1 _ _ ih
 have := this l.reverse
 rwa [List.reverse_reverse] at this
def qI {α : Type} (p : α → Bool) (l : List α) : Int := match l.findIdx? p with | some k => k | none => -1
theorem Cv {α : Type} {p : α → Bool} {l : List α} {k : Nat} (h : k < l.length) (hh : ∀ x ∈ l.take k, p x = false) (e : p l[k] = true) : qI p l = k := by
 have : l.findIdx? p = some k := by
  rw [List.findIdx?_eq_some_iff_getElem];refine ⟨h, e, fun j hj => ?_⟩;have := hh ((l.take k)[j]'(by simp; omega)) (List.getElem_mem _);simpa using this
 simp [qI, this]
theorem uN {α : Type} {p : α → Bool} {l : List α} (h : ∀ x ∈ l, p x = false) : qI p l = -1 := by
 have : l.findIdx? p = none := by
  rw [List.findIdx?_eq_none_iff]; simpa using h
 simp [qI, this]
theorem rS {α : Type} (p : α → Bool) (l : List α) : (qI p l = -1 ∧ l.filter (fun x => !p x) = l) ∨ ∃ k : Nat, qI p l = k ∧ k < l.length ∧ ∀ x ∈ l.take k, p x = false := by
 unfold qI;split
 ·rename_i k h;rw [List.findIdx?_eq_some_iff_getElem] at h;obtain ⟨hk, he, hn⟩ := h;refine .inr ⟨k, rfl, hk, fun x hx => ?_⟩;obtain ⟨j, hj, rfl⟩ := List.getElem_of_mem hx;have := hn j (by simp at hj; omega);simpa using this
 ·rename_i h;rw [List.findIdx?_eq_none_iff] at h;refine .inl ⟨rfl, ?_⟩;rw [List.filter_eq_self];intro x hx; simp [h x hx]
theorem zB {α : Type} {p : α → Bool} {l : List α} {k : Nat} (h : k < l.length) (hh : ∀ x ∈ l.take k, p x = false) (e : p l[k] = false) : ∀ x ∈ l.take (k + 1), p x = false := by
 rw [cS l k h];intro x hx;rcases List.mem_append.1 hx with h1 | h1
 ·exact hh x h1
 ·simp at h1; subst h1; exact e
def kp {α : Type} (p : α → Bool) (l : List α) (j : Nat) : List α := (l.take j).filter fun x => !p x
def ar {α : Type} (p : α → Bool) (l : List α) (j : Nat) : List α := kp p l j ++ l.drop (kp p l j).length
theorem Cq {α : Type} (p : α → Bool) (l : List α) (j : Nat) (h : j ≤ l.length) : (kp p l j).length ≤ j := by
 unfold kp;have := List.length_filter_le (fun x => !p x) (l.take j);rw [List.length_take] at this; omega
theorem Ur {α : Type} (p : α → Bool) (l : List α) (j : Nat) : (kp p l j).length ≤ l.length := by
 unfold kp;have := List.length_filter_le (fun x => !p x) (l.take j);rw [List.length_take] at this; omega
theorem Cp {α : Type} (p : α → Bool) (l : List α) (j : Nat) (h : j < l.length) : kp p l (j + 1) = kp p l j ++ if p l[j] = true then [] else [l[j]] := by
 unfold kp;rw [cS l j h, List.filter_append, List.filter_cons];by_cases e : p l[j] = true <;> simp [e]
theorem Bp {α : Type} (p : α → Bool) (l : List α) (j : Nat) : (ar p l j).length = l.length := by
 unfold ar;have := Ur p l j;rw [List.length_append, List.length_drop]; omega
theorem Qt {α : Type} (p : α → Bool) (l : List α) (j : Nat) (h : j < l.length) : (ar p l j)[j]'(by rw [Bp]; exact h) = l[j] := by
 have hk := Cq p l j (by omega);unfold ar;rw [List.getElem_append_right (by omega), List.getElem_drop];congr 1; omega
theorem rX {α : Type} (p : α → Bool) (l : List α) (j : Nat) (h : j < l.length) (e : p l[j] = true) : ar p l (j + 1) = ar p l j ∧ kp p l (j + 1) = kp p l j := by
 have := Cp p l j h;rw [if_pos e, List.append_nil] at this;exact ⟨by unfold ar; rw [this], this⟩
theorem uB {α : Type} (p : α → Bool) (l : List α) (j : Nat) (h : j < l.length) (e : p l[j] = false) : (ar p l j).set (kp p l j).length l[j] = ar p l (j + 1) ∧ (kp p l (j + 1)).length = (kp p l j).length + 1 := by
 have hs := Cp p l j h;have hk := Cq p l j (by omega);rw [if_neg (by simp [e])] at hs;refine ⟨?_, by rw [hs]; simp⟩;unfold ar;rw [hs, List.length_append, List.length_singleton, List.set_append_right _ _ (Nat.le_refl _), Nat.sub_self, List.append_assoc];congr 1;rw [List.drop_eq_getElem_cons (by omega)];rfl
theorem Lt {α : Type} (p : α → Bool) (l : List α) (k : Nat) (h : k < l.length) (hh : ∀ x ∈ l.take k, p x = false) (e : p l[k] = true) : ar p l (k + 1) = l ∧ (kp p l (k + 1)).length = k := by
 have h1 : kp p l k = l.take k := by
  unfold kp;rw [List.filter_eq_self];intro x hx; simp [hh x hx]
 have h2 := (rX p l k h e).2;unfold ar;rw [h2, h1, List.length_take, Nat.min_eq_left (by omega)];exact ⟨List.take_append_drop k l, rfl⟩
theorem yQ {α : Type} {p : α → Bool} {l : List α} (h : ¬ qI p l = -1) : ∃ k : Nat, qI p l = k ∧ ar p l (k + 1) = l ∧ (kp p l (k + 1)).length = k ∧ k < l.length := by
 unfold qI at *;split at h
 ·rename_i k hf;rw [List.findIdx?_eq_some_iff_getElem] at hf;obtain ⟨hk, he, hn⟩ := hf;have hh : ∀ x ∈ l.take k, p x = false := fun x hx => by
   obtain ⟨j, hj, rfl⟩ := List.getElem_of_mem hx;have := hn j (by simp at hj; omega);simpa using this
  obtain ⟨a, b⟩ := Lt p l k hk hh he;exact ⟨k, rfl, a, b, hk⟩
 ·exact absurd rfl h
theorem Ve {α : Type} {l : List α} {m : Nat} {x : α} (h : l[m]? = some x) : m < l.length := (List.getElem?_eq_some_iff.1 h).1
theorem aX {α : Type} {l : List α} {m : Nat} {x : α} (h : l[m]? = some x) (a : α) : (l.set m a)[m]? = some a := by
 rw [List.getElem?_set, if_pos rfl, if_pos (Ve h)]
theorem aJ {α : Type} (l r : List α) (k : Nat) : (l ++ r)[l.length + k]? = r[k]? := by
 rw [List.getElem?_append_right (by omega), Nat.add_sub_cancel_left]
theorem aG {α : Type} (l r : List α) (k : Nat) (c : α) : (l ++ r).set (l.length + k) c = l ++ r.set k c := by
 rw [List.set_append_right _ _ (by omega), Nat.add_sub_cancel_left]
theorem aB {α : Type} (l r : List α) : (l ++ r)[l.length]? = r[0]? := aJ l r 0
theorem aA {α : Type} (l r : List α) (c : α) : (l ++ r).set l.length c = l ++ r.set 0 c := aG l r 0 c
section
variable {α : Type} {f : α → List D} {k : Nat}
theorem bB (hf : ∀ a, (f a).length = k) (l : List α) : (l.flatMap f).length = l.length * k := by
 induction l with
 | nil => simp
 | cons a l ih => simp only [List.flatMap_cons, List.length_append, ih, hf, List.length_cons, Nat.add_mul, Nat.one_mul]; omega
theorem mV (l : List α) (i : Nat) (h : i < l.length) : l.flatMap f = (l.take i).flatMap f ++ (f l[i] ++ (l.drop (i + 1)).flatMap f) := by
 have : l = l.take i ++ (l[i] :: l.drop (i + 1)) := by rw [← List.drop_eq_getElem_cons h, List.take_append_drop]
 conv => lhs; rw [this]
 rw [List.flatMap_append, List.flatMap_cons]
theorem fO (hf : ∀ a, (f a).length = k) (l : List α) (i : Nat) (h : i < l.length) : ((l.take i).flatMap f).length = i * k := by
 rw [bB hf, List.length_take, Nat.min_eq_left (by omega)]
theorem uD (hf : ∀ a, (f a).length = k) (l : List α) (rest : List D) (i : Nat) (h : i < l.length) : ((l.flatMap f ++ rest).drop (i * k)).take k = f l[i] := by
 rw [mV l i h, List.append_assoc, ← fO hf l i h, List.drop_left, List.append_assoc, ← hf l[i], List.take_left]
theorem Gn (hf : ∀ a, (f a).length = k) (l : List α) (rest : List D) (i j : Nat) (h : i < l.length) (hj : j < k) : (l.flatMap f ++ rest)[i * k + j]? = (f l[i])[j]? := by
 rw [mV l i h, List.append_assoc, ← fO hf l i h, List.getElem?_append_right (by omega), Nat.add_sub_cancel_left, List.append_assoc, List.getElem?_append_left (by rw [hf]; exact hj)]
theorem vH (hf : ∀ a, (f a).length = k) (l : List α) (rest : List D) (i : Nat) (h : i < l.length) : lG true k ((l.flatMap f ++ rest).drop (i * k)) = some (.agg (f l[i])) := by
 have hle : k ≤ ((l.flatMap f ++ rest).drop (i * k)).length := by
  have := congrArg List.length (uD hf l rest i h);rw [List.length_take, hf] at this; omega
 simp only [lG, if_true, hle, uD hf l rest i h]
theorem Li (hf : ∀ a, (f a).length = k) (l : List α) (rest : List D) (i j : Nat) (h : i < l.length) (hj : j < k) : lG false 1 ((l.flatMap f ++ rest).drop (i * k + j)) = (f l[i])[j]? := by
 rw [← Gn hf l rest i j h hj];simp only [lG, Bool.false_eq_true, if_false, List.head?_drop]
theorem fD (A B C X : List D) (h : X.length = B.length) : bJ (A ++ (B ++ C)) A.length X = A ++ (X ++ C) := by
 unfold bJ;rw [List.take_left, h, ← List.append_assoc A B C, ← List.length_append, List.drop_left, List.append_assoc]
theorem kN (hf : ∀ a, (f a).length = k) (l : List α) (rest : List D) (i : Nat) (x : α) (h : i < l.length) : bJ (l.flatMap f ++ rest) (i * k) (f x) = (l.set i x).flatMap f ++ rest := by
 have e1 : (l.set i x).flatMap f = (l.take i).flatMap f ++ (f x ++ (l.drop (i + 1)).flatMap f) := by
  rw [List.set_eq_take_append_cons_drop, if_pos h, List.flatMap_append, List.flatMap_cons]
 rw [e1, mV l i h, ← fO hf l i h, List.append_assoc, List.append_assoc, fD _ _ _ _ (by rw [hf, hf]), List.append_assoc, List.append_assoc]
theorem bA {d : α → D} (hd : ∀ a, (d a).cells = f a) (l : List α) : (l.map d).flatMap D.cells = l.flatMap f := by
 induction l with
 | nil => rfl
 | cons a l ih => simp only [List.map_cons, List.flatMap_cons, hd a, ih]
end
end Go.Vm


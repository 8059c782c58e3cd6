import Derived.Test.YtighdhfgcdjmeaaGreatDoorVmX7
namespace Go.Vm
open Go
set_option linter.all false
theorem cF {α : Type} (l : List α) (k : Nat) (h : k < l.length) : l.take (k + 1) = l.take k ++ [l[k]] := by
 rw [List.take_add_one, List.getElem?_eq_getElem h]; rfl
theorem jC {α : Type} {p : List α → Prop} (h0 : p []) (h1 : ∀ l x, p l → p (l ++ [x])) (l : List α) : p l := by
 have : ∀ (r : List α), p r.reverse := by
  intro r;induction r with
  | nil => exact h0
  | cons a r ih => rw [List.reverse_cons]; exact h1 _ _ ih
 have := this l.reverse
 rwa [List.reverse_reverse] at this
theorem aO {α : Type} (l r : List α) (k : Nat) : (l ++ r)[l.length + k]? = r[k]? := by
 rw [List.getElem?_append_right (by omega), Nat.add_sub_cancel_left]
theorem aK {α : Type} (l r : List α) (k : Nat) (c : α) : (l ++ r).set (l.length + k) c = l ++ r.set k c := by
 rw [List.set_append_right _ _ (by omega), Nat.add_sub_cancel_left]
theorem aD {α : Type} (l r : List α) : (l ++ r)[l.length]? = r[0]? := aO l r 0
theorem aA {α : Type} (l r : List α) (c : α) : (l ++ r).set l.length c = l ++ r.set 0 c := aK l r 0 c
section
variable {α : Type} {f : α → List D} {k : Nat}
theorem bM (hf : ∀ a, (f a).length = k) (l : List α) : (l.flatMap f).length = l.length * k := by
 induction l with
 | nil => simp
 | cons a l ih => simp only [List.flatMap_cons, List.length_append, ih, hf, List.length_cons, Nat.add_mul, Nat.one_mul]; omega
theorem nD (l : List α) (i : Nat) (h : i < l.length) : l.flatMap f = (l.take i).flatMap f ++ (f l[i] ++ (l.drop (i + 1)).flatMap f) := by
 have : l = l.take i ++ (l[i] :: l.drop (i + 1)) := by rw [← List.drop_eq_getElem_cons h, List.take_append_drop]
 conv => lhs; rw [this]
 rw [List.flatMap_append, List.flatMap_cons]
theorem gC (hf : ∀ a, (f a).length = k) (l : List α) (i : Nat) (h : i < l.length) : ((l.take i).flatMap f).length = i * k := by
 rw [bM hf, List.length_take, Nat.min_eq_left (by omega)]
theorem vG (hf : ∀ a, (f a).length = k) (l : List α) (rest : List D) (i : Nat) (h : i < l.length) : ((l.flatMap f ++ rest).drop (i * k)).take k = f l[i] := by
 rw [nD l i h, List.append_assoc, ← gC hf l i h, List.drop_left, List.append_assoc, ← hf l[i], List.take_left]
theorem Fi (hf : ∀ a, (f a).length = k) (l : List α) (rest : List D) (i j : Nat) (h : i < l.length) (hj : j < k) : (l.flatMap f ++ rest)[i * k + j]? = (f l[i])[j]? := by
 rw [nD l i h, List.append_assoc, ← gC hf l i h, List.getElem?_append_right (by omega), Nat.add_sub_cancel_left, List.append_assoc, List.getElem?_append_left (by rw [hf]; exact hj)]
theorem xC (hf : ∀ a, (f a).length = k) (l : List α) (rest : List D) (i : Nat) (h : i < l.length) : lD true k ((l.flatMap f ++ rest).drop (i * k)) = some (.agg (f l[i])) := by
 have hle : k ≤ ((l.flatMap f ++ rest).drop (i * k)).length := by
  have := congrArg List.length (vG hf l rest i h);rw [List.length_take, hf] at this; omega
 simp only [lD, if_true, hle, vG hf l rest i h]
theorem Jn (hf : ∀ a, (f a).length = k) (l : List α) (rest : List D) (i j : Nat) (h : i < l.length) (hj : j < k) : lD false 1 ((l.flatMap f ++ rest).drop (i * k + j)) = (f l[i])[j]? := by
 rw [← Fi hf l rest i j h hj];simp only [lD, Bool.false_eq_true, if_false, List.head?_drop]
theorem iC (A B C X : List D) (h : X.length = B.length) : bO (A ++ (B ++ C)) A.length X = A ++ (X ++ C) := by
 unfold bO;rw [List.take_left, h, ← List.append_assoc A B C, ← List.length_append, List.drop_left, List.append_assoc]
theorem kR (hf : ∀ a, (f a).length = k) (l : List α) (rest : List D) (i : Nat) (x : α) (h : i < l.length) : bO (l.flatMap f ++ rest) (i * k) (f x) = (l.set i x).flatMap f ++ rest := by
 have e1 : (l.set i x).flatMap f = (l.take i).flatMap f ++ (f x ++ (l.drop (i + 1)).flatMap f) := by
  rw [List.set_eq_take_append_cons_drop, if_pos h, List.flatMap_append, List.flatMap_cons]
 rw [e1, nD l i h, ← gC hf l i h, List.append_assoc, List.append_assoc, iC _ _ _ _ (by rw [hf, hf]), List.append_assoc, List.append_assoc]
theorem bI {d : α → D} (hd : ∀ a, (d a).cells = f a) (l : List α) : (l.map d).flatMap D.cells = l.flatMap f := by
 induction l with
 | nil => rfl
 | cons a l ih => simp only [List.map_cons, List.flatMap_cons, hd a, ih]
end
end Go.Vm


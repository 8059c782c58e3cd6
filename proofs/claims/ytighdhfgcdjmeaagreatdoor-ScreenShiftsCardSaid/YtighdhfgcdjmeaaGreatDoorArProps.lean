import Derived.Test.YtighdhfgcdjmeaaGreatDoorWkL2
namespace Go.Proofs.YtighdhfgcdjmeaaGreatDoor
open Go Go.Vm
set_option linter.all false

def cQ (a b : ByteArray) : Bool := Op.bytesLess a.toList b.toList
theorem vA : ∀ a : List UInt8, Op.bytesLess a a = false
  | [] => rfl
  | a :: x => by simp [Op.bytesLess, vA x]
theorem Vr {a b : UInt8} : a < b ↔ a.toNat < b.toNat := Iff.rfl
theorem Ag : ∀ a b c : List UInt8, Op.bytesLess a b = true → Op.bytesLess b c = true → Op.bytesLess a c = true
  | [], [], _, h, _ => by simp [Op.bytesLess] at h
  | _ :: _, [], _, h, _ => by simp [Op.bytesLess] at h
  | [], _ :: _, [], _, h => by simp [Op.bytesLess] at h
  | _ :: _, _ :: _, [], _, h => by simp [Op.bytesLess] at h
  | [], _ :: _, _ :: _, _, _ => by simp [Op.bytesLess]
  | a :: x, b :: y, c :: z, h1, h2 => by
    simp only [Op.bytesLess, Bool.or_eq_true, Bool.and_eq_true, decide_eq_true_eq, beq_iff_eq, Vr] at *;rcases h1 with h1 | ⟨rfl, h1⟩
    · rcases h2 with h2 | ⟨rfl, h2⟩
      · left; omega
      · left; exact h1
    · rcases h2 with h2 | ⟨rfl, h2⟩
      · left; exact h2
      · right; exact ⟨rfl, Ag x y z h1 h2⟩
theorem kW (a : ByteArray) : cQ a a = false := vA _
theorem fL {a b c : ByteArray} (h1 : cQ a b = true) (h2 : cQ b c = true) : cQ a c = true := Ag _ _ _ h1 h2
theorem lG (a b : ByteArray) : cQ a b = true ∨ a = b ∨ cQ b a = true := by
  have h := lL a.toList b.toList;unfold cQ;cases h1 : Op.bytesLess a.toList b.toList with
  | true => left; rfl
  | false =>
    rw [h1, Bool.false_or, gP] at h;cases h2 : Op.bytesLess b.toList a.toList with
    | true => right; right; rfl
    | false => rw [h2] at h; right; left; simpa using h
theorem gW {a b : ByteArray} (h : cQ a b = true) : a ≠ b := by rintro rfl; rw [kW] at h; cases h
theorem uA {a b : ByteArray} (h : cQ a b = false) (hn : a ≠ b) : cQ b a = true := by
  rcases lG a b with h1 | h1 | h1
  · rw [h1] at h; cases h
  · exact absurd h1 hn
  · exact h1
def sQ (a b : ByteArray) : Int := if cQ a b = true then -1 else if cQ b a = true then 1 else 0
theorem tX (a b : ByteArray) : sQ a b < 0 ↔ cQ a b = true := by
  unfold sQ; repeat' split
  all_goals simp_all
theorem Et (a b : ByteArray) : 0 ≤ sQ a b ↔ cQ a b = false := by
  have := tX a b;rw [← Bool.not_eq_true, ← this]; omega
theorem vU (a b : ByteArray) : sQ a b = 0 ↔ a = b := by
  unfold sQ
  repeat' split
  · rename_i h; simp; exact gW h
  · rename_i h; simp; exact fun e => gW h e.symm
  · rename_i h1 h2
    simp only [true_iff];rcases lG a b with h | h | h
    · exact absurd h h1
    · exact h
    · exact absurd h h2

section
variable {α : Type} (nm : α → ByteArray)
def posL : List α → ByteArray → Nat
  | [], _ => 0
  | q :: l, c => if cQ (nm q) c = true then posL l c + 1 else 0
def fnd : List α → ByteArray → Bool
  | [], _ => false
  | q :: l, c => if cQ (nm q) c = true then fnd l c else decide (nm q = c)
def putL : List α → α → List α
  | [], p => [p]
  | q :: l, p => if cQ (nm q) (nm p) = true then q :: putL l p else if nm q = nm p then p :: l else p :: q :: l
def Sorted (l : List α) : Prop := l.Pairwise fun a b => cQ (nm a) (nm b) = true
def ofL (l : List α) : List α := l.foldl (putL nm) []
def nM (l : List α) (c : ByteArray) : Bool := l.any fun p => decide (nm p = c)
theorem posL_le (l : List α) (c : ByteArray) : posL nm l c ≤ l.length := by
  induction l with
  | nil => exact Nat.le_refl _
  | cons q l ih => unfold posL; split <;> simp <;> omega
theorem posL_of : ∀ (l : List α) (c : ByteArray) (i : Nat), i ≤ l.length → (∀ j (h : j < l.length), j < i → cQ (nm l[j]) c = true) → (∀ h : i < l.length, cQ (nm l[i]) c = false) → posL nm l c = i
  | [], c, i, hi, _, _ => by simp at hi; subst hi; rfl
  | q :: l, c, 0, _, _, h2 => by
    have := h2 (by simp);simp only [List.getElem_cons_zero] at this;simp [posL, this]
  | q :: l, c, i + 1, hi, h1, h2 => by
    have h0 := h1 0 (by simp) (by omega);simp only [List.getElem_cons_zero] at h0;have := posL_of l c i (by simpa using hi) (fun j h hj => h1 (j + 1) (by simpa using h) (by omega)) (fun h => h2 (by simpa using h));simp [posL, h0, this]
theorem fnd_at : ∀ (l : List α) (c : ByteArray) (h : posL nm l c < l.length), fnd nm l c = decide (nm l[posL nm l c] = c)
  | [], c, h => by simp at h
  | q :: l, c, h => by
    by_cases e : cQ (nm q) c = true
    · have hp : posL nm (q :: l) c = posL nm l c + 1 := by simp [posL, e]
      have h' : posL nm l c < l.length := by rw [hp] at h; simpa using h
      have := fnd_at l c h';simp only [fnd, e, if_true, this, hp, List.getElem_cons_succ]
    · have hp : posL nm (q :: l) c = 0 := by simp [posL, e]
      simp only [fnd, e, if_false, hp, List.getElem_cons_zero]; rfl
theorem fnd_out : ∀ (l : List α) (c : ByteArray), posL nm l c = l.length → fnd nm l c = false
  | [], c, _ => rfl
  | q :: l, c, h => by
    by_cases e : cQ (nm q) c = true
    · have hp : posL nm (q :: l) c = posL nm l c + 1 := by simp [posL, e]
      simp only [fnd, e, if_true];exact fnd_out l c (by rw [hp] at h; simpa using h)
    · have hp : posL nm (q :: l) c = 0 := by simp [posL, e]
      rw [hp] at h; simp at h
theorem fnd_lt {l : List α} {c : ByteArray} (h : fnd nm l c = true) : posL nm l c < l.length := by
  have := posL_le nm l c;rcases Nat.lt_or_ge (posL nm l c) l.length with h1 | h1
  · exact h1
  · have := fnd_out nm l c (by omega); rw [h] at this; cases this
theorem putL_eq : ∀ (l : List α) (p : α), putL nm l p = if fnd nm l (nm p) = true then l.set (posL nm l (nm p)) p else fB l (posL nm l (nm p)) p
  | [], p => rfl
  | q :: l, p => by
    by_cases e : cQ (nm q) (nm p) = true
    · have ih := putL_eq l p
      simp only [putL, fnd, posL, e, if_true, ih];split <;> simp [fB]
    · simp only [putL, fnd, posL, e, if_false]
      by_cases e2 : nm q = nm p <;> simp [e2, fB]
theorem putL_len (l : List α) (p : α) : (putL nm l p).length ≤ l.length + 1 := by
  induction l with
  | nil => simp [putL]
  | cons q l ih => unfold putL; repeat' split
                   all_goals simp
                   all_goals omega
theorem uD {l : List α} {p x : α} (h : x ∈ putL nm l p) : x = p ∨ x ∈ l := by
  induction l with
  | nil => simp [putL] at h; exact .inl h
  | cons q l ih =>
    unfold putL at h;split at h
    · rcases List.mem_cons.1 h with h | h
      · exact .inr (by simp [h])
      · rcases ih h with h | h
        · exact .inl h
        · exact .inr (by simp [h])
    · split at h
      · rcases List.mem_cons.1 h with h | h
        · exact .inl h
        · exact .inr (by simp [h])
      · rcases List.mem_cons.1 h with h | h
        · exact .inl h
        · exact .inr h
theorem putL_sorted {l : List α} (h : Sorted nm l) (p : α) : Sorted nm (putL nm l p) := by
  induction l with
  | nil => simp [putL, Sorted]
  | cons q l ih =>
    have h' := List.pairwise_cons.1 h;unfold putL;split
    · rename_i e
      refine List.pairwise_cons.2 ⟨fun x hx => ?_, ih h'.2⟩;rcases uD nm hx with rfl | hx
      · exact e
      · exact h'.1 x hx
    · rename_i e
      split
      · rename_i e2
        exact List.pairwise_cons.2 ⟨fun x hx => by rw [← e2]; exact h'.1 x hx, h'.2⟩
      · rename_i e2
        have e3 := uA (by simpa using e) e2;refine List.pairwise_cons.2 ⟨fun x hx => ?_, h⟩;rcases List.mem_cons.1 hx with rfl | hx
        · exact e3
        · exact fL e3 (h'.1 x hx)
theorem ofL_snoc (l : List α) (p : α) : ofL nm (l ++ [p]) = putL nm (ofL nm l) p := by simp [ofL, List.foldl_append]
theorem ofL_take (l : List α) (k : Nat) (h : k < l.length) : ofL nm (l.take (k + 1)) = putL nm (ofL nm (l.take k)) l[k] := by rw [cF l k h, ofL_snoc]
theorem ofL_sorted (l : List α) : Sorted nm (ofL nm l) := by
  induction l using jC with
  | h0 => simp [ofL, Sorted]
  | h1 l x ih => rw [ofL_snoc]; exact putL_sorted nm ih x
theorem ofL_len (l : List α) : (ofL nm l).length ≤ l.length := by
  induction l using jC with
  | h0 => simp [ofL]
  | h1 l x ih => rw [ofL_snoc]; have := putL_len nm (ofL nm l) x; simp; omega
theorem pD {l : List α} {p : α} (h : ∀ x ∈ l, cQ (nm x) (nm p) = true) : putL nm l p = l ++ [p] := by
  induction l with
  | nil => rfl
  | cons q l ih =>
    have := h q (by simp);simp only [putL, this, if_true, List.cons_append];rw [ih fun x hx => h x (by simp [hx])]
theorem ofL_id {l : List α} (h : Sorted nm l) : ofL nm l = l := by
  induction l using jC with
  | h0 => rfl
  | h1 l x ih =>
    have h' := List.pairwise_append.1 h;rw [ofL_snoc, ih h'.1, pD nm fun y hy => h'.2.2 y hy x (by simp)]
theorem rH {l : List α} (h : Sorted nm l) (c : ByteArray) : fnd nm l c = nM nm l c := by
  induction l with
  | nil => rfl
  | cons q l ih =>
    have h' := List.pairwise_cons.1 h;unfold fnd nM;simp only [List.any_cons];split
    · rename_i e
      rw [ih h'.2];have : ¬ nm q = c := gW e;simp [this, nM]
    · rename_i e
      have : (l.any fun p => decide (nm p = c)) = false := by
        rw [List.any_eq_false];intro x hx;simp only [decide_eq_true_eq];rintro rfl;have := h'.1 x hx;exact e this
      rw [this, Bool.or_false]
theorem bs_lo {l : List α} {c : ByteArray} {m : Nat} (hs : Sorted nm l) (hm : m < l.length) (h : cQ (nm l[m]) c = true) : ∀ j (h : j < l.length), j < m + 1 → cQ (nm l[j]) c = true := fun j hj hjm => by
  rcases Nat.lt_or_ge j m with h1 | h1
  · exact fL (List.pairwise_iff_getElem.1 hs j m hj hm h1) h
  · obtain rfl : j = m := by omega
    exact h
theorem bs_hi {l : List α} {c : ByteArray} {m : Nat} (hs : Sorted nm l) (hm : m < l.length) (h : cQ (nm l[m]) c = false) : ∀ j (h : j < l.length), m ≤ j → cQ (nm l[j]) c = false := fun j hj hjm => by
  rcases Nat.lt_or_ge m j with h1 | h1
  · have := List.pairwise_iff_getElem.1 hs m j hm hj h1
    cases e : cQ (nm l[j]) c with
    | false => rfl
    | true => rw [fL this e] at h; cases h
  · obtain rfl : j = m := by omega
    exact h
end
end Go.Proofs.YtighdhfgcdjmeaaGreatDoor


import Derived.Test.YtpfmpeaekgdgnaaGreatWkAr4
namespace Go.Proofs.YtpfmpeaekgdgnaaGreat
open Go Go.Vm
set_option linter.all false

def lessB (a b : ByteArray) : Bool := Op.bytesLess a.toList b.toList
theorem bl_irrefl : ∀ a : List UInt8, Op.bytesLess a a = false
  | [] => rfl
  | a :: x => by simp [Op.bytesLess, bl_irrefl x]
theorem u8_lt {a b : UInt8} : a < b ↔ a.toNat < b.toNat := Iff.rfl
theorem bl_trans : ∀ a b c : List UInt8, Op.bytesLess a b = true → Op.bytesLess b c = true → Op.bytesLess a c = true
  | [], [], _, h, _ => by simp [Op.bytesLess] at h
  | _ :: _, [], _, h, _ => by simp [Op.bytesLess] at h
  | [], _ :: _, [], _, h => by simp [Op.bytesLess] at h
  | _ :: _, _ :: _, [], _, h => by simp [Op.bytesLess] at h
  | [], _ :: _, _ :: _, _, _ => by simp [Op.bytesLess]
  | a :: x, b :: y, c :: z, h1, h2 => by
    simp only [Op.bytesLess, Bool.or_eq_true, Bool.and_eq_true, decide_eq_true_eq, beq_iff_eq, u8_lt] at *
    rcases h1 with h1 | ⟨rfl, h1⟩
    · rcases h2 with h2 | ⟨rfl, h2⟩
      · left; omega
      · left; exact h1
    · rcases h2 with h2 | ⟨rfl, h2⟩
      · left; exact h2
      · right; exact ⟨rfl, bl_trans x y z h1 h2⟩
theorem less_irrefl (a : ByteArray) : lessB a a = false := bl_irrefl _
theorem less_trans {a b c : ByteArray} (h1 : lessB a b = true) (h2 : lessB b c = true) : lessB a c = true := bl_trans _ _ _ h1 h2
theorem less_tri (a b : ByteArray) : lessB a b = true ∨ a = b ∨ lessB b a = true := by
  have h := bytes_tri a.toList b.toList
  unfold lessB
  cases h1 : Op.bytesLess a.toList b.toList with
  | true => left; rfl
  | false =>
    rw [h1, Bool.false_or, bytesList_inj] at h
    cases h2 : Op.bytesLess b.toList a.toList with
    | true => right; right; rfl
    | false => rw [h2] at h; right; left; simpa using h
theorem less_asymm {a b : ByteArray} (h : lessB a b = true) : lessB b a = false := by
  cases h2 : lessB b a with
  | false => rfl
  | true => have := less_trans h h2; rw [less_irrefl] at this; cases this
theorem less_ne {a b : ByteArray} (h : lessB a b = true) : a ≠ b := by rintro rfl; rw [less_irrefl] at h; cases h
theorem not_less {a b : ByteArray} (h : lessB a b = false) (hn : a ≠ b) : lessB b a = true := by
  rcases less_tri a b with h1 | h1 | h1
  · rw [h1] at h; cases h
  · exact absurd h1 hn
  · exact h1
def cmpB (a b : ByteArray) : Int := if lessB a b = true then -1 else if lessB b a = true then 1 else 0
theorem cmpB_neg (a b : ByteArray) : cmpB a b < 0 ↔ lessB a b = true := by
  unfold cmpB; repeat' split
  all_goals simp_all
theorem cmpB_nn (a b : ByteArray) : 0 ≤ cmpB a b ↔ lessB a b = false := by
  have := cmpB_neg a b
  rw [← Bool.not_eq_true, ← this]; omega
theorem cmpB_zero (a b : ByteArray) : cmpB a b = 0 ↔ a = b := by
  unfold cmpB
  repeat' split
  · rename_i h; simp; exact less_ne h
  · rename_i h; simp; exact fun e => less_ne h e.symm
  · rename_i h1 h2
    simp only [true_iff]
    rcases less_tri a b with h | h | h
    · exact absurd h h1
    · exact h
    · exact absurd h h2

section
variable {α : Type} (nm : α → ByteArray)
def posL : List α → ByteArray → Nat
  | [], _ => 0
  | q :: l, c => if lessB (nm q) c = true then posL l c + 1 else 0
def fnd : List α → ByteArray → Bool
  | [], _ => false
  | q :: l, c => if lessB (nm q) c = true then fnd l c else decide (nm q = c)
def putL : List α → α → List α
  | [], p => [p]
  | q :: l, p => if lessB (nm q) (nm p) = true then q :: putL l p else if nm q = nm p then p :: l else p :: q :: l
def Sorted (l : List α) : Prop := l.Pairwise fun a b => lessB (nm a) (nm b) = true
def ofL (l : List α) : List α := l.foldl (putL nm) []
def hasN (l : List α) (c : ByteArray) : Bool := l.any fun p => decide (nm p = c)
def delN (l : List α) (c : ByteArray) : List α := l.filter fun p => !decide (nm p = c)

theorem posL_le (l : List α) (c : ByteArray) : posL nm l c ≤ l.length := by
  induction l with
  | nil => exact Nat.le_refl _
  | cons q l ih => unfold posL; split <;> simp <;> omega
theorem posL_of : ∀ (l : List α) (c : ByteArray) (i : Nat), i ≤ l.length → (∀ j (h : j < l.length), j < i → lessB (nm l[j]) c = true) → (∀ h : i < l.length, lessB (nm l[i]) c = false) → posL nm l c = i
  | [], c, i, hi, _, _ => by simp at hi; subst hi; rfl
  | q :: l, c, 0, _, _, h2 => by
    have := h2 (by simp)
    simp only [List.getElem_cons_zero] at this
    simp [posL, this]
  | q :: l, c, i + 1, hi, h1, h2 => by
    have h0 := h1 0 (by simp) (by omega)
    simp only [List.getElem_cons_zero] at h0
    have := posL_of l c i (by simpa using hi) (fun j h hj => h1 (j + 1) (by simpa using h) (by omega)) (fun h => h2 (by simpa using h))
    simp [posL, h0, this]
theorem fnd_at : ∀ (l : List α) (c : ByteArray) (h : posL nm l c < l.length), fnd nm l c = decide (nm l[posL nm l c] = c)
  | [], c, h => by simp at h
  | q :: l, c, h => by
    by_cases e : lessB (nm q) c = true
    · have hp : posL nm (q :: l) c = posL nm l c + 1 := by simp [posL, e]
      have h' : posL nm l c < l.length := by rw [hp] at h; simpa using h
      have := fnd_at l c h'
      simp only [fnd, e, if_true, this, hp, List.getElem_cons_succ]
    · have hp : posL nm (q :: l) c = 0 := by simp [posL, e]
      simp only [fnd, e, if_false, hp, List.getElem_cons_zero]; rfl
theorem fnd_out : ∀ (l : List α) (c : ByteArray), posL nm l c = l.length → fnd nm l c = false
  | [], c, _ => rfl
  | q :: l, c, h => by
    by_cases e : lessB (nm q) c = true
    · have hp : posL nm (q :: l) c = posL nm l c + 1 := by simp [posL, e]
      simp only [fnd, e, if_true]
      exact fnd_out l c (by rw [hp] at h; simpa using h)
    · have hp : posL nm (q :: l) c = 0 := by simp [posL, e]
      rw [hp] at h; simp at h
theorem fnd_lt {l : List α} {c : ByteArray} (h : fnd nm l c = true) : posL nm l c < l.length := by
  have := posL_le nm l c
  rcases Nat.lt_or_ge (posL nm l c) l.length with h1 | h1
  · exact h1
  · have := fnd_out nm l c (by omega); rw [h] at this; cases this
theorem putL_eq : ∀ (l : List α) (p : α), putL nm l p = if fnd nm l (nm p) = true then l.set (posL nm l (nm p)) p else insL l (posL nm l (nm p)) p
  | [], p => rfl
  | q :: l, p => by
    by_cases e : lessB (nm q) (nm p) = true
    · have ih := putL_eq l p
      simp only [putL, fnd, posL, e, if_true, ih]
      split <;> simp [insL]
    · simp only [putL, fnd, posL, e, if_false]
      by_cases e2 : nm q = nm p <;> simp [e2, insL]
theorem putL_len (l : List α) (p : α) : (putL nm l p).length ≤ l.length + 1 := by
  induction l with
  | nil => simp [putL]
  | cons q l ih => unfold putL; repeat' split
                   all_goals simp
                   all_goals omega
theorem putL_mem {l : List α} {p x : α} (h : x ∈ putL nm l p) : x = p ∨ x ∈ l := by
  induction l with
  | nil => simp [putL] at h; exact .inl h
  | cons q l ih =>
    unfold putL at h
    split at h
    · rcases List.mem_cons.1 h with h | h
      · exact .inr (by simp [h])
      · rcases ih h with h | h
        · exact .inl h
        · exact .inr (by simp [h])
    · split at h
      · rcases List.mem_cons.1 h with h | h
        · exact .inl h
        · exact .inr (by simp [h])
      · rcases List.mem_cons.1 h with h | h
        · exact .inl h
        · exact .inr h
theorem putL_sorted {l : List α} (h : Sorted nm l) (p : α) : Sorted nm (putL nm l p) := by
  induction l with
  | nil => simp [putL, Sorted]
  | cons q l ih =>
    have h' := List.pairwise_cons.1 h
    unfold putL
    split
    · rename_i e
      refine List.pairwise_cons.2 ⟨fun x hx => ?_, ih h'.2⟩
      rcases putL_mem nm hx with rfl | hx
      · exact e
      · exact h'.1 x hx
    · rename_i e
      split
      · rename_i e2
        exact List.pairwise_cons.2 ⟨fun x hx => by rw [← e2]; exact h'.1 x hx, h'.2⟩
      · rename_i e2
        have e3 := not_less (by simpa using e) e2
        refine List.pairwise_cons.2 ⟨fun x hx => ?_, h⟩
        rcases List.mem_cons.1 hx with rfl | hx
        · exact e3
        · exact less_trans e3 (h'.1 x hx)
theorem ofL_snoc (l : List α) (p : α) : ofL nm (l ++ [p]) = putL nm (ofL nm l) p := by simp [ofL, List.foldl_append]
theorem ofL_take (l : List α) (k : Nat) (h : k < l.length) : ofL nm (l.take (k + 1)) = putL nm (ofL nm (l.take k)) l[k] := by rw [take_snoc l k h, ofL_snoc]
theorem ofL_sorted (l : List α) : Sorted nm (ofL nm l) := by
  induction l using snoc_ind with
  | h0 => simp [ofL, Sorted]
  | h1 l x ih => rw [ofL_snoc]; exact putL_sorted nm ih x
theorem ofL_len (l : List α) : (ofL nm l).length ≤ l.length := by
  induction l using snoc_ind with
  | h0 => simp [ofL]
  | h1 l x ih => rw [ofL_snoc]; have := putL_len nm (ofL nm l) x; simp; omega
theorem putL_last {l : List α} {p : α} (h : ∀ x ∈ l, lessB (nm x) (nm p) = true) : putL nm l p = l ++ [p] := by
  induction l with
  | nil => rfl
  | cons q l ih =>
    have := h q (by simp)
    simp only [putL, this, if_true, List.cons_append]
    rw [ih fun x hx => h x (by simp [hx])]
theorem ofL_id {l : List α} (h : Sorted nm l) : ofL nm l = l := by
  induction l using snoc_ind with
  | h0 => rfl
  | h1 l x ih =>
    have h' := List.pairwise_append.1 h
    rw [ofL_snoc, ih h'.1, putL_last nm fun y hy => h'.2.2 y hy x (by simp)]
theorem fnd_has {l : List α} (h : Sorted nm l) (c : ByteArray) : fnd nm l c = hasN nm l c := by
  induction l with
  | nil => rfl
  | cons q l ih =>
    have h' := List.pairwise_cons.1 h
    unfold fnd hasN
    simp only [List.any_cons]
    split
    · rename_i e
      rw [ih h'.2]
      have : ¬ nm q = c := less_ne e
      simp [this, hasN]
    · rename_i e
      have : (l.any fun p => decide (nm p = c)) = false := by
        rw [List.any_eq_false]
        intro x hx
        simp only [decide_eq_true_eq]
        rintro rfl
        have := h'.1 x hx
        exact e this
      rw [this, Bool.or_false]
theorem delN_sorted {l : List α} (h : Sorted nm l) (c : ByteArray) : Sorted nm (delN nm l c) := List.Pairwise.filter _ h
theorem delN_len (l : List α) (c : ByteArray) : (delN nm l c).length ≤ l.length := List.length_filter_le _ _
theorem delN_short {l : List α} (c : ByteArray) : ((delN nm l c).length = l.length) ↔ hasN nm l c = false := by
  unfold delN hasN
  rw [List.length_filter_eq_length_iff, List.any_eq_false]
  simp
theorem delN_take (l : List α) (c : ByteArray) (k : Nat) (h : k < l.length) : delN nm (l.take (k + 1)) c = delN nm (l.take k) c ++ if nm l[k] = c then [] else [l[k]] := by
  unfold delN
  rw [take_snoc l k h, List.filter_append, List.filter_cons]
  by_cases e : nm l[k] = c <;> simp [e]
theorem bs_lo {l : List α} {c : ByteArray} {m : Nat} (hs : Sorted nm l) (hm : m < l.length) (h : lessB (nm l[m]) c = true) : ∀ j (h : j < l.length), j < m + 1 → lessB (nm l[j]) c = true := fun j hj hjm => by
  rcases Nat.lt_or_ge j m with h1 | h1
  · exact less_trans (List.pairwise_iff_getElem.1 hs j m hj hm h1) h
  · obtain rfl : j = m := by omega
    exact h
theorem bs_hi {l : List α} {c : ByteArray} {m : Nat} (hs : Sorted nm l) (hm : m < l.length) (h : lessB (nm l[m]) c = false) : ∀ j (h : j < l.length), m ≤ j → lessB (nm l[j]) c = false := fun j hj hjm => by
  rcases Nat.lt_or_ge m j with h1 | h1
  · have := List.pairwise_iff_getElem.1 hs m j hm hj h1
    cases e : lessB (nm l[j]) c with
    | false => rfl
    | true => rw [less_trans this e] at h; cases h
  · obtain rfl : j = m := by omega
    exact h
def stepA (p : α) (s : List α × Bool) (x : α) : List α × Bool :=
  let s1 := if s.2 = false ∧ lessB (nm x) (nm p) = false then (s.1 ++ [p], true) else s
  if nm x = nm p then s1 else (s1.1 ++ [x], s1.2)
def passA (l : List α) (p : α) : List α × Bool := l.foldl (stepA nm p) ([], false)
def endA (s : List α × Bool) (p : α) : List α := if s.2 = true then s.1 else s.1 ++ [p]
theorem passA_take (l : List α) (p : α) (k : Nat) (h : k < l.length) : passA nm (l.take (k + 1)) p = stepA nm p (passA nm (l.take k) p) l[k] := by
  unfold passA; rw [take_snoc l k h, List.foldl_append]; rfl
theorem passA_len (l : List α) (p : α) : (passA nm l p).1.length ≤ l.length + (if (passA nm l p).2 = true then 1 else 0) := by
  induction l using snoc_ind with
  | h0 => simp [passA]
  | h1 l x ih =>
    have e : passA nm (l ++ [x]) p = stepA nm p (passA nm l p) x := by unfold passA; rw [List.foldl_append]; rfl
    rw [e]
    generalize passA nm l p = s at ih
    obtain ⟨o, b⟩ := s
    unfold stepA
    cases b <;> by_cases e1 : lessB (nm x) (nm p) = false <;> by_cases e2 : nm x = nm p <;> simp_all <;> omega
theorem foldA_true (p : α) : ∀ (l o : List α), (l.foldl (stepA nm p) (o, true)) = (o ++ delN nm l (nm p), true)
  | [], o => by simp [delN]
  | x :: l, o => by
    rw [List.foldl_cons]
    have e : stepA nm p (o, true) x = (if nm x = nm p then o else o ++ [x], true) := by
      unfold stepA; simp; split <;> rfl
    rw [e, foldA_true p l]
    unfold delN
    by_cases e2 : nm x = nm p <;> simp [e2]
theorem foldA_false (p : α) : ∀ (l o : List α), Sorted nm l → endA (l.foldl (stepA nm p) (o, false)) p = o ++ putL nm l p
  | [], o, _ => by simp [endA, putL]
  | x :: l, o, h => by
    have h' := List.pairwise_cons.1 h
    rw [List.foldl_cons]
    by_cases e1 : lessB (nm x) (nm p) = true
    · have e : stepA nm p (o, false) x = (o ++ [x], false) := by
        unfold stepA; simp [e1, less_ne e1]
      rw [e, foldA_false p l _ h'.2]
      simp [putL, e1]
    · have e1' : lessB (nm x) (nm p) = false := by simpa using e1
      have hid : ∀ y ∈ l, nm y ≠ nm p := fun y hy hp => e1 (by have := h'.1 y hy; rw [hp] at this; exact this)
      have hdel : delN nm l (nm p) = l := by
        unfold delN; rw [List.filter_eq_self]; intro y hy; simp [hid y hy]
      have e : stepA nm p (o, false) x = (if nm x = nm p then o ++ [p] else o ++ [p] ++ [x], true) := by
        unfold stepA; simp [e1']; split <;> rfl
      rw [e, foldA_true, hdel]
      by_cases e2 : nm x = nm p <;> simp [endA, putL, e1, e2, less_irrefl]
theorem passA_put {l : List α} (h : Sorted nm l) (p : α) : endA (passA nm l p) p = putL nm l p := by
  have := foldA_false nm p l [] h
  simpa [passA] using this
def aheadL (out : List α) (c : ByteArray) : Bool := match out.getLast? with | none => true | some q => lessB (nm q) c
def cand (l out : List α) : Option α := ((ofL nm l).filter fun p => aheadL nm out (nm p)).head?
theorem filt_put {g : ByteArray → Bool} (hup : ∀ a b, lessB a b = true → g a = true → g b = true) : ∀ (l : List α) (p : α), (putL nm l p).filter (fun q => g (nm q)) = if g (nm p) = true then putL nm (l.filter fun q => g (nm q)) p else l.filter fun q => g (nm q)
  | [], p => by by_cases e : g (nm p) = true <;> simp [putL, e]
  | q :: l, p => by
    have ih := filt_put hup l p
    by_cases e : lessB (nm q) (nm p) = true
    · simp only [putL, e, if_true, List.filter_cons, ih]
      by_cases e1 : g (nm q) = true <;> by_cases e2 : g (nm p) = true <;> simp [e1, e2, putL, e]
    · by_cases e3 : nm q = nm p
      · simp only [putL, e, e3, if_true, if_false, List.filter_cons]
        by_cases e2 : g (nm p) = true
        · simp [e2, putL, e3, less_irrefl]
        · simp [e2, less_irrefl]
      · simp only [putL, e, e3, if_false, List.filter_cons]
        have e4 := not_less (by simpa using e) e3
        by_cases e2 : g (nm p) = true
        · have e1 := hup _ _ e4 e2
          simp [e1, e2, putL, e, e3]
        · by_cases e1 : g (nm q) = true <;> simp [e1, e2, putL, e, e3]
theorem ahead_up (out : List α) : ∀ a b, lessB a b = true → aheadL nm out a = true → aheadL nm out b = true := by
  intro a b h1 h2
  unfold aheadL at *
  split
  · rfl
  · rename_i q hq
    rw [hq] at h2
    exact less_trans h2 h1
theorem cand_take (l out : List α) (k : Nat) (h : k < l.length) : cand nm (l.take (k + 1)) out = if aheadL nm out (nm l[k]) = true then (match cand nm (l.take k) out with | none => some l[k] | some q => if lessB (nm q) (nm l[k]) = true then some q else some l[k]) else cand nm (l.take k) out := by
  unfold cand
  rw [ofL_take nm l k h, filt_put nm (ahead_up nm out)]
  split
  · cases (ofL nm (l.take k)).filter fun p => aheadL nm out (nm p) with
    | nil => rfl
    | cons q r =>
      simp only [putL, List.head?_cons]
      repeat' split
      all_goals rfl
  · rfl
theorem cand_0 (l out : List α) : cand nm (l.take 0) out = none := by simp [cand, ofL]
theorem cand_end (l : List α) (k : Nat) (hk : k ≤ (ofL nm l).length) : cand nm l ((ofL nm l).take k) = (ofL nm l)[k]? := by
  have hs := ofL_sorted nm l
  unfold cand
  generalize ofL nm l = S at *
  have hd : (S.filter fun p => aheadL nm (S.take k) (nm p)) = S.drop k := by
    cases k with
    | zero => simp [aheadL]
    | succ k =>
      have hl : (S.take (k + 1)).getLast? = some S[k] := by rw [take_snoc S k (by omega), List.getLast?_concat]
      have hg : ∀ p, aheadL nm (S.take (k + 1)) (nm p) = lessB (nm S[k]) (nm p) := fun p => by unfold aheadL; rw [hl]
      simp only [hg]
      have hsplit : ∀ q : α → Bool, S.filter q = (S.take (k + 1)).filter q ++ (S.drop (k + 1)).filter q := fun q => by rw [← List.filter_append, List.take_append_drop]
      rw [hsplit]
      have hp : (S.take (k + 1) ++ S.drop (k + 1)).Pairwise fun a b => lessB (nm a) (nm b) = true := by rw [List.take_append_drop]; exact hs
      have h3 := List.pairwise_append.1 hp
      have hmem : S[k] ∈ S.take (k + 1) := by rw [take_snoc S k (by omega)]; exact List.mem_append_right _ (List.mem_singleton.2 rfl)
      have f2 : (S.drop (k + 1)).filter (fun p => lessB (nm S[k]) (nm p)) = S.drop (k + 1) := by
        rw [List.filter_eq_self]; exact fun x hx => h3.2.2 _ hmem x hx
      have f1 : (S.take (k + 1)).filter (fun p => lessB (nm S[k]) (nm p)) = [] := by
        rw [List.filter_eq_nil_iff]
        intro x hx
        rw [take_snoc S k (by omega)] at hx h3
        rcases List.mem_append.1 hx with hx | hx
        · have := (List.pairwise_append.1 h3.1).2.2 x hx S[k] (by simp)
          rw [less_asymm this]; simp
        · simp at hx; subst hx; rw [less_irrefl]; simp
      rw [f1, f2, List.nil_append]
  rw [hd, List.head?_drop]
end
end Go.Proofs.YtpfmpeaekgdgnaaGreat


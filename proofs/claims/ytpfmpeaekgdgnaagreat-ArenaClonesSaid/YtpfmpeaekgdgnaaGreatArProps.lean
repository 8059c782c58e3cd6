import Derived.Test.YtpfmpeaekgdgnaaGreatWkAr4
namespace Go.Proofs.YtpfmpeaekgdgnaaGreat
open Go Go.Vm
set_option linter.all false

def cL (a b : ByteArray) : Bool := Op.bytesLess a.toList b.toList
theorem zK : ∀ a : List UInt8, Op.bytesLess a a = false
  | [] => rfl
  | a :: x => by simp [Op.bytesLess, zK x]
theorem aDg {a b : UInt8} : a < b ↔ a.toNat < b.toNat := Iff.rfl
theorem El : ∀ a b c : List UInt8, Op.bytesLess a b = true → Op.bytesLess b c = true → Op.bytesLess a c = true
  | [], [], _, h, _ => by simp [Op.bytesLess] at h
  | _ :: _, [], _, h, _ => by simp [Op.bytesLess] at h
  | [], _ :: _, [], _, h => by simp [Op.bytesLess] at h
  | _ :: _, _ :: _, [], _, h => by simp [Op.bytesLess] at h
  | [], _ :: _, _ :: _, _, _ => by simp [Op.bytesLess]
  | a :: x, b :: y, c :: z, h1, h2 => by
    simp only [Op.bytesLess, Bool.or_eq_true, Bool.and_eq_true, decide_eq_true_eq, beq_iff_eq, aDg] at *;rcases h1 with h1 | ⟨rfl, h1⟩
    · rcases h2 with h2 | ⟨rfl, h2⟩
      · left; omega
      · left; exact h1
    · rcases h2 with h2 | ⟨rfl, h2⟩
      · left; exact h2
      · right; exact ⟨rfl, El x y z h1 h2⟩
theorem iP (a : ByteArray) : cL a a = false := zK _
theorem kP {a b c : ByteArray} (h1 : cL a b = true) (h2 : cL b c = true) : cL a c = true := El _ _ _ h1 h2
theorem Dj (a b : ByteArray) : cL a b = true ∨ a = b ∨ cL b a = true := by
  have h := pF a.toList b.toList;unfold cL;cases h1 : Op.bytesLess a.toList b.toList with
  | true => left; rfl
  | false =>
    rw [h1, Bool.false_or, jJ] at h;cases h2 : Op.bytesLess b.toList a.toList with
    | true => right; right; rfl
    | false => rw [h2] at h; right; left; simpa using h
theorem Hb {a b : ByteArray} (h : cL a b = true) : cL b a = false := by
  cases h2 : cL b a with
  | false => rfl
  | true => have := kP h h2; rw [iP] at this; cases this
theorem vA {a b : ByteArray} (h : cL a b = true) : a ≠ b := by rintro rfl; rw [iP] at h; cases h
theorem Ep {a b : ByteArray} (h : cL a b = false) (hn : a ≠ b) : cL b a = true := by
  rcases Dj a b with h1 | h1 | h1
  · rw [h1] at h; cases h
  · exact absurd h1 hn
  · exact h1
def xI (a b : ByteArray) : Int := if cL a b = true then -1 else if cL b a = true then 1 else 0
theorem yA (a b : ByteArray) : xI a b < 0 ↔ cL a b = true := by
  unfold xI; repeat' split
  all_goals simp_all
theorem Kj (a b : ByteArray) : 0 ≤ xI a b ↔ cL a b = false := by
  have := yA a b;rw [← Bool.not_eq_true, ← this]; omega
theorem zL (a b : ByteArray) : xI a b = 0 ↔ a = b := by
  unfold xI
  repeat' split
  · rename_i h; simp; exact vA h
  · rename_i h; simp; exact fun e => vA h e.symm
  · rename_i h1 h2
    simp only [true_iff];rcases Dj a b with h | h | h
    · exact absurd h h1
    · exact h
    · exact absurd h h2

section
variable {α : Type} (nm : α → ByteArray)
def gB : List α → ByteArray → Nat
  | [], _ => 0
  | q :: l, c => if cL (nm q) c = true then gB l c + 1 else 0
def Cn : List α → ByteArray → Bool
  | [], _ => false
  | q :: l, c => if cL (nm q) c = true then Cn l c else decide (nm q = c)
def eH : List α → α → List α
  | [], p => [p]
  | q :: l, p => if cL (nm q) (nm p) = true then q :: eH l p else if nm q = nm p then p :: l else p :: q :: l
def cG (l : List α) : Prop := l.Pairwise fun a b => cL (nm a) (nm b) = true
def iC (l : List α) : List α := l.foldl (eH nm) []
def lB (l : List α) (c : ByteArray) : Bool := l.any fun p => decide (nm p = c)
def hD (l : List α) (c : ByteArray) : List α := l.filter fun p => !decide (nm p = c)

theorem Bv (l : List α) (c : ByteArray) : gB nm l c ≤ l.length := by
  induction l with
  | nil => exact Nat.le_refl _
  | cons q l ih => unfold gB; split <;> simp <;> omega
theorem Bl : ∀ (l : List α) (c : ByteArray) (i : Nat), i ≤ l.length → (∀ j (h : j < l.length), j < i → cL (nm l[j]) c = true) → (∀ h : i < l.length, cL (nm l[i]) c = false) → gB nm l c = i
  | [], c, i, hi, _, _ => by simp at hi; subst hi; rfl
  | q :: l, c, 0, _, _, h2 => by
    have := h2 (by simp);simp only [List.getElem_cons_zero] at this;simp [gB, this]
  | q :: l, c, i + 1, hi, h1, h2 => by
    have h0 := h1 0 (by simp) (by omega);simp only [List.getElem_cons_zero] at h0;have := Bl l c i (by simpa using hi) (fun j h hj => h1 (j + 1) (by simpa using h) (by omega)) (fun h => h2 (by simpa using h));simp [gB, h0, this]
theorem Gg : ∀ (l : List α) (c : ByteArray) (h : gB nm l c < l.length), Cn nm l c = decide (nm l[gB nm l c] = c)
  | [], c, h => by simp at h
  | q :: l, c, h => by
    by_cases e : cL (nm q) c = true
    · have hp : gB nm (q :: l) c = gB nm l c + 1 := by simp [gB, e]
      have h' : gB nm l c < l.length := by rw [hp] at h; simpa using h
      have := Gg l c h';simp only [Cn, e, if_true, this, hp, List.getElem_cons_succ]
    · have hp : gB nm (q :: l) c = 0 := by simp [gB, e]
      simp only [Cn, e, if_false, hp, List.getElem_cons_zero]; rfl
theorem vC : ∀ (l : List α) (c : ByteArray), gB nm l c = l.length → Cn nm l c = false
  | [], c, _ => rfl
  | q :: l, c, h => by
    by_cases e : cL (nm q) c = true
    · have hp : gB nm (q :: l) c = gB nm l c + 1 := by simp [gB, e]
      simp only [Cn, e, if_true];exact vC l c (by rw [hp] at h; simpa using h)
    · have hp : gB nm (q :: l) c = 0 := by simp [gB, e]
      rw [hp] at h; simp at h
theorem Bk {l : List α} {c : ByteArray} (h : Cn nm l c = true) : gB nm l c < l.length := by
  have := Bv nm l c;rcases Nat.lt_or_ge (gB nm l c) l.length with h1 | h1
  · exact h1
  · have := vC nm l c (by omega); rw [h] at this; cases this
theorem qS : ∀ (l : List α) (p : α), eH nm l p = if Cn nm l (nm p) = true then l.set (gB nm l (nm p)) p else dV l (gB nm l (nm p)) p
  | [], p => rfl
  | q :: l, p => by
    by_cases e : cL (nm q) (nm p) = true
    · have ih := qS l p
      simp only [eH, Cn, gB, e, if_true, ih];split <;> simp [dV]
    · simp only [eH, Cn, gB, e, if_false]
      by_cases e2 : nm q = nm p <;> simp [e2, dV]
theorem xE (l : List α) (p : α) : (eH nm l p).length ≤ l.length + 1 := by
  induction l with
  | nil => simp [eH]
  | cons q l ih => unfold eH; repeat' split
                   all_goals simp
                   all_goals omega
theorem Tp {l : List α} {p x : α} (h : x ∈ eH nm l p) : x = p ∨ x ∈ l := by
  induction l with
  | nil => simp [eH] at h; exact .inl h
  | cons q l ih =>
    unfold eH at h;split at h
    · rcases List.mem_cons.1 h with h | h
      · exact .inr (by simp [h])
      · rcases ih h with h | h
        · exact .inl h
        · exact .inr (by simp [h])
    · split at h
      · rcases List.mem_cons.1 h with h | h
        · exact .inl h
        · exact .inr (by simp [h])
      · rcases List.mem_cons.1 h with h | h
        · exact .inl h
        · exact .inr h
theorem nT {l : List α} (h : cG nm l) (p : α) : cG nm (eH nm l p) := by
  induction l with
  | nil => simp [eH, cG]
  | cons q l ih =>
    have h' := List.pairwise_cons.1 h;unfold eH;split
    · rename_i e
      refine List.pairwise_cons.2 ⟨fun x hx => ?_, ih h'.2⟩;rcases Tp nm hx with rfl | hx
      · exact e
      · exact h'.1 x hx
    · rename_i e
      split
      · rename_i e2
        exact List.pairwise_cons.2 ⟨fun x hx => by rw [← e2]; exact h'.1 x hx, h'.2⟩
      · rename_i e2
        have e3 := Ep (by simpa using e) e2;refine List.pairwise_cons.2 ⟨fun x hx => ?_, h⟩;rcases List.mem_cons.1 hx with rfl | hx
        · exact e3
        · exact kP e3 (h'.1 x hx)
theorem nX (l : List α) (p : α) : iC nm (l ++ [p]) = eH nm (iC nm l) p := by simp [iC, List.foldl_append]
theorem xZ (l : List α) (k : Nat) (h : k < l.length) : iC nm (l.take (k + 1)) = eH nm (iC nm (l.take k)) l[k] := by rw [cV l k h, nX]
theorem iJ (l : List α) : cG nm (iC nm l) := by
  induction l using rG with
  | h0 => simp [iC, cG]
  | h1 l x ih => rw [nX]; exact nT nm ih x
theorem jY (l : List α) : (iC nm l).length ≤ l.length := by
  induction l using rG with
  | h0 => simp [iC]
  | h1 l x ih => rw [nX]; have := xE nm (iC nm l) x; simp; omega
theorem Oe {l : List α} {p : α} (h : ∀ x ∈ l, cL (nm x) (nm p) = true) : eH nm l p = l ++ [p] := by
  induction l with
  | nil => rfl
  | cons q l ih =>
    have := h q (by simp);simp only [eH, this, if_true, List.cons_append];rw [ih fun x hx => h x (by simp [hx])]
theorem oB {l : List α} (h : cG nm l) : iC nm l = l := by
  induction l using rG with
  | h0 => rfl
  | h1 l x ih =>
    have h' := List.pairwise_append.1 h;rw [nX, ih h'.1, Oe nm fun y hy => h'.2.2 y hy x (by simp)]
theorem Ju {l : List α} (h : cG nm l) (c : ByteArray) : Cn nm l c = lB nm l c := by
  induction l with
  | nil => rfl
  | cons q l ih =>
    have h' := List.pairwise_cons.1 h;unfold Cn lB;simp only [List.any_cons];split
    · rename_i e
      rw [ih h'.2];have : ¬ nm q = c := vA e;simp [this, lB]
    · rename_i e
      have : (l.any fun p => decide (nm p = c)) = false := by
        rw [List.any_eq_false];intro x hx;simp only [decide_eq_true_eq];rintro rfl;have := h'.1 x hx;exact e this
      rw [this, Bool.or_false]
theorem uD {l : List α} (h : cG nm l) (c : ByteArray) : cG nm (hD nm l c) := List.Pairwise.filter _ h
theorem rW (l : List α) (c : ByteArray) : (hD nm l c).length ≤ l.length := List.length_filter_le _ _
theorem wP {l : List α} (c : ByteArray) : ((hD nm l c).length = l.length) ↔ lB nm l c = false := by
  unfold hD lB;rw [List.length_filter_eq_length_iff, List.any_eq_false];simp
theorem oU (l : List α) (c : ByteArray) (k : Nat) (h : k < l.length) : hD nm (l.take (k + 1)) c = hD nm (l.take k) c ++ if nm l[k] = c then [] else [l[k]] := by
  unfold hD;rw [cV l k h, List.filter_append, List.filter_cons];by_cases e : nm l[k] = c <;> simp [e]
theorem aAt {l : List α} {c : ByteArray} {m : Nat} (hs : cG nm l) (hm : m < l.length) (h : cL (nm l[m]) c = true) : ∀ j (h : j < l.length), j < m + 1 → cL (nm l[j]) c = true := fun j hj hjm => by
  rcases Nat.lt_or_ge j m with h1 | h1
  · exact kP (List.pairwise_iff_getElem.1 hs j m hj hm h1) h
  · obtain rfl : j = m := by omega
    exact h
theorem aAv {l : List α} {c : ByteArray} {m : Nat} (hs : cG nm l) (hm : m < l.length) (h : cL (nm l[m]) c = false) : ∀ j (h : j < l.length), m ≤ j → cL (nm l[j]) c = false := fun j hj hjm => by
  rcases Nat.lt_or_ge m j with h1 | h1
  · have := List.pairwise_iff_getElem.1 hs m j hm hj h1
    cases e : cL (nm l[j]) c with
    | false => rfl
    | true => rw [kP this e] at h; cases h
  · obtain rfl : j = m := by omega
    exact h
def gL (p : α) (s : List α × Bool) (x : α) : List α × Bool :=
  let s1 := if s.2 = false ∧ cL (nm x) (nm p) = false then (s.1 ++ [p], true) else s
  if nm x = nm p then s1 else (s1.1 ++ [x], s1.2)
def jX (l : List α) (p : α) : List α × Bool := l.foldl (gL nm p) ([], false)
def Oi (s : List α × Bool) (p : α) : List α := if s.2 = true then s.1 else s.1 ++ [p]
theorem jF (l : List α) (p : α) (k : Nat) (h : k < l.length) : jX nm (l.take (k + 1)) p = gL nm p (jX nm (l.take k) p) l[k] := by
  unfold jX; rw [cV l k h, List.foldl_append]; rfl
theorem Mq (l : List α) (p : α) : (jX nm l p).1.length ≤ l.length + (if (jX nm l p).2 = true then 1 else 0) := by
  induction l using rG with
  | h0 => simp [jX]
  | h1 l x ih =>
    have e : jX nm (l ++ [x]) p = gL nm p (jX nm l p) x := by unfold jX; rw [List.foldl_append]; rfl
    rw [e];generalize jX nm l p = s at ih;obtain ⟨o, b⟩ := s;unfold gL;cases b <;> by_cases e1 : cL (nm x) (nm p) = false <;> by_cases e2 : nm x = nm p <;> simp_all <;> omega
theorem vM (p : α) : ∀ (l o : List α), (l.foldl (gL nm p) (o, true)) = (o ++ hD nm l (nm p), true)
  | [], o => by simp [hD]
  | x :: l, o => by
    rw [List.foldl_cons];have e : gL nm p (o, true) x = (if nm x = nm p then o else o ++ [x], true) := by
      unfold gL; simp; split <;> rfl
    rw [e, vM p l];unfold hD;by_cases e2 : nm x = nm p <;> simp [e2]
theorem uK (p : α) : ∀ (l o : List α), cG nm l → Oi (l.foldl (gL nm p) (o, false)) p = o ++ eH nm l p
  | [], o, _ => by simp [Oi, eH]
  | x :: l, o, h => by
    have h' := List.pairwise_cons.1 h;rw [List.foldl_cons];by_cases e1 : cL (nm x) (nm p) = true
    · have e : gL nm p (o, false) x = (o ++ [x], false) := by
        unfold gL; simp [e1, vA e1]
      rw [e, uK p l _ h'.2];simp [eH, e1]
    · have e1' : cL (nm x) (nm p) = false := by simpa using e1
      have hid : ∀ y ∈ l, nm y ≠ nm p := fun y hy hp => e1 (by have := h'.1 y hy; rw [hp] at this; exact this);have hdel : hD nm l (nm p) = l := by
        unfold hD; rw [List.filter_eq_self]; intro y hy; simp [hid y hy]
      have e : gL nm p (o, false) x = (if nm x = nm p then o ++ [p] else o ++ [p] ++ [x], true) := by
        unfold gL; simp [e1']; split <;> rfl
      rw [e, vM, hdel];by_cases e2 : nm x = nm p <;> simp [Oi, eH, e1, e2, iP]
theorem zV {l : List α} (h : cG nm l) (p : α) : Oi (jX nm l p) p = eH nm l p := by
  have := uK nm p l [] h;simpa [jX] using this
def jU (out : List α) (c : ByteArray) : Bool := match out.getLast? with | none => true | some q => cL (nm q) c
def yK (l out : List α) : Option α := ((iC nm l).filter fun p => jU nm out (nm p)).head?
theorem Ff {g : ByteArray → Bool} (hup : ∀ a b, cL a b = true → g a = true → g b = true) : ∀ (l : List α) (p : α), (eH nm l p).filter (fun q => g (nm q)) = if g (nm p) = true then eH nm (l.filter fun q => g (nm q)) p else l.filter fun q => g (nm q)
  | [], p => by by_cases e : g (nm p) = true <;> simp [eH, e]
  | q :: l, p => by
    have ih := Ff hup l p;by_cases e : cL (nm q) (nm p) = true
    · simp only [eH, e, if_true, List.filter_cons, ih]
      by_cases e1 : g (nm q) = true <;> by_cases e2 : g (nm p) = true <;> simp [e1, e2, eH, e]
    · by_cases e3 : nm q = nm p
      · simp only [eH, e, e3, if_true, if_false, List.filter_cons]
        by_cases e2 : g (nm p) = true
        · simp [e2, eH, e3, iP]
        · simp [e2, iP]
      · simp only [eH, e, e3, if_false, List.filter_cons]
        have e4 := Ep (by simpa using e) e3;by_cases e2 : g (nm p) = true
        · have e1 := hup _ _ e4 e2
          simp [e1, e2, eH, e, e3]
        · by_cases e1 : g (nm q) = true <;> simp [e1, e2, eH, e, e3]
theorem Qe (out : List α) : ∀ a b, cL a b = true → jU nm out a = true → jU nm out b = true := by
  intro a b h1 h2;unfold jU at *;split
  · rfl
  · rename_i q hq
    rw [hq] at h2;exact kP h2 h1
theorem On (l out : List α) (k : Nat) (h : k < l.length) : yK nm (l.take (k + 1)) out = if jU nm out (nm l[k]) = true then (match yK nm (l.take k) out with | none => some l[k] | some q => if cL (nm q) (nm l[k]) = true then some q else some l[k]) else yK nm (l.take k) out := by
  unfold yK;rw [xZ nm l k h, Ff nm (Qe nm out)];split
  · cases (iC nm (l.take k)).filter fun p => jU nm out (nm p) with
    | nil => rfl
    | cons q r =>
      simp only [eH, List.head?_cons]
      repeat' split
      all_goals rfl
  · rfl
theorem aC6 (l out : List α) : yK nm (l.take 0) out = none := by simp [yK, iC]
theorem Wj (l : List α) (k : Nat) (hk : k ≤ (iC nm l).length) : yK nm l ((iC nm l).take k) = (iC nm l)[k]? := by
  have hs := iJ nm l;unfold yK;generalize iC nm l = S at *;have hd : (S.filter fun p => jU nm (S.take k) (nm p)) = S.drop k := by
    cases k with
    | zero => simp [jU]
    | succ k =>
      have hl : (S.take (k + 1)).getLast? = some S[k] := by rw [cV S k (by omega), List.getLast?_concat]
      have hg : ∀ p, jU nm (S.take (k + 1)) (nm p) = cL (nm S[k]) (nm p) := fun p => by unfold jU; rw [hl]
      simp only [hg];have hsplit : ∀ q : α → Bool, S.filter q = (S.take (k + 1)).filter q ++ (S.drop (k + 1)).filter q := fun q => by rw [← List.filter_append, List.take_append_drop]
      rw [hsplit];have hp : (S.take (k + 1) ++ S.drop (k + 1)).Pairwise fun a b => cL (nm a) (nm b) = true := by rw [List.take_append_drop]; exact hs
      have h3 := List.pairwise_append.1 hp;have hmem : S[k] ∈ S.take (k + 1) := by rw [cV S k (by omega)]; exact List.mem_append_right _ (List.mem_singleton.2 rfl)
      have f2 : (S.drop (k + 1)).filter (fun p => cL (nm S[k]) (nm p)) = S.drop (k + 1) := by
        rw [List.filter_eq_self]; exact fun x hx => h3.2.2 _ hmem x hx
      have f1 : (S.take (k + 1)).filter (fun p => cL (nm S[k]) (nm p)) = [] := by
        rw [List.filter_eq_nil_iff];intro x hx;rw [cV S k (by omega)] at hx h3;rcases List.mem_append.1 hx with hx | hx
        · have := (List.pairwise_append.1 h3.1).2.2 x hx S[k] (by simp)
          rw [Hb this]; simp
        · simp at hx; subst hx; rw [iP]; simp
      rw [f1, f2, List.nil_append]
  rw [hd, List.head?_drop]
end
end Go.Proofs.YtpfmpeaekgdgnaaGreat


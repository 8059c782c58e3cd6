import Derived.Test.YtpfmpeaekgdgnaaGreatWkAr4
namespace Go.Proofs.YtpfmpeaekgdgnaaGreat
open Go Go.Vm
set_option linter.all false

def cK (a b : ByteArray) : Bool := Op.bytesLess a.toList b.toList
theorem zF : ∀ a : List UInt8, Op.bytesLess a a = false
  | [] => rfl
  | a :: x => by simp [Op.bytesLess, zF x]
theorem aDr {a b : UInt8} : a < b ↔ a.toNat < b.toNat := Iff.rfl
theorem Dt : ∀ a b c : List UInt8, Op.bytesLess a b = true → Op.bytesLess b c = true → Op.bytesLess a c = true
  | [], [], _, h, _ => by simp [Op.bytesLess] at h
  | _ :: _, [], _, h, _ => by simp [Op.bytesLess] at h
  | [], _ :: _, [], _, h => by simp [Op.bytesLess] at h
  | _ :: _, _ :: _, [], _, h => by simp [Op.bytesLess] at h
  | [], _ :: _, _ :: _, _, _ => by simp [Op.bytesLess]
  | a :: x, b :: y, c :: z, h1, h2 => by
    simp only [Op.bytesLess, Bool.or_eq_true, Bool.and_eq_true, decide_eq_true_eq, beq_iff_eq, aDr] at *;rcases h1 with h1 | ⟨rfl, h1⟩
    · rcases h2 with h2 | ⟨rfl, h2⟩
      · left; omega
      · left; exact h1
    · rcases h2 with h2 | ⟨rfl, h2⟩
      · left; exact h2
      · right; exact ⟨rfl, Dt x y z h1 h2⟩
theorem iN (a : ByteArray) : cK a a = false := zF _
theorem kW {a b c : ByteArray} (h1 : cK a b = true) (h2 : cK b c = true) : cK a c = true := Dt _ _ _ h1 h2
theorem Ep (a b : ByteArray) : cK a b = true ∨ a = b ∨ cK b a = true := by
  have h := oJ a.toList b.toList;unfold cK;cases h1 : Op.bytesLess a.toList b.toList with
  | true => left; rfl
  | false =>
    rw [h1, Bool.false_or, jM] at h;cases h2 : Op.bytesLess b.toList a.toList with
    | true => right; right; rfl
    | false => rw [h2] at h; right; left; simpa using h
theorem Ia {a b : ByteArray} (h : cK a b = true) : cK b a = false := by
  cases h2 : cK b a with
  | false => rfl
  | true => have := kW h h2; rw [iN] at this; cases this
theorem uX {a b : ByteArray} (h : cK a b = true) : a ≠ b := by rintro rfl; rw [iN] at h; cases h
theorem Dy {a b : ByteArray} (h : cK a b = false) (hn : a ≠ b) : cK b a = true := by
  rcases Ep a b with h1 | h1 | h1
  · rw [h1] at h; cases h
  · exact absurd h1 hn
  · exact h1
def xM (a b : ByteArray) : Int := if cK a b = true then -1 else if cK b a = true then 1 else 0
theorem xI (a b : ByteArray) : xM a b < 0 ↔ cK a b = true := by
  unfold xM; repeat' split
  all_goals simp_all
theorem Jh (a b : ByteArray) : 0 ≤ xM a b ↔ cK a b = false := by
  have := xI a b;rw [← Bool.not_eq_true, ← this]; omega
theorem yG (a b : ByteArray) : xM a b = 0 ↔ a = b := by
  unfold xM
  repeat' split
  · rename_i h; simp; exact uX h
  · rename_i h; simp; exact fun e => uX h e.symm
  · rename_i h1 h2
    simp only [true_iff];rcases Ep a b with h | h | h
    · exact absurd h h1
    · exact h
    · exact absurd h h2

section
variable {α : Type} (nm : α → ByteArray)
def fY : List α → ByteArray → Nat
  | [], _ => 0
  | q :: l, c => if cK (nm q) c = true then fY l c + 1 else 0
def Cd : List α → ByteArray → Bool
  | [], _ => false
  | q :: l, c => if cK (nm q) c = true then Cd l c else decide (nm q = c)
def eF : List α → α → List α
  | [], p => [p]
  | q :: l, p => if cK (nm q) (nm p) = true then q :: eF l p else if nm q = nm p then p :: l else p :: q :: l
def cJ (l : List α) : Prop := l.Pairwise fun a b => cK (nm a) (nm b) = true
def gV (l : List α) : List α := l.foldl (eF nm) []
def lC (l : List α) (c : ByteArray) : Bool := l.any fun p => decide (nm p = c)
def gZ (l : List α) (c : ByteArray) : List α := l.filter fun p => !decide (nm p = c)

theorem Ai (l : List α) (c : ByteArray) : fY nm l c ≤ l.length := by
  induction l with
  | nil => exact Nat.le_refl _
  | cons q l ih => unfold fY; split <;> simp <;> omega
theorem Bk : ∀ (l : List α) (c : ByteArray) (i : Nat), i ≤ l.length → (∀ j (h : j < l.length), j < i → cK (nm l[j]) c = true) → (∀ h : i < l.length, cK (nm l[i]) c = false) → fY nm l c = i
  | [], c, i, hi, _, _ => by simp at hi; subst hi; rfl
  | q :: l, c, 0, _, _, h2 => by
    have := h2 (by simp);simp only [List.getElem_cons_zero] at this;simp [fY, this]
  | q :: l, c, i + 1, hi, h1, h2 => by
    have h0 := h1 0 (by simp) (by omega);simp only [List.getElem_cons_zero] at h0;have := Bk l c i (by simpa using hi) (fun j h hj => h1 (j + 1) (by simpa using h) (by omega)) (fun h => h2 (by simpa using h));simp [fY, h0, this]
theorem Iu : ∀ (l : List α) (c : ByteArray) (h : fY nm l c < l.length), Cd nm l c = decide (nm l[fY nm l c] = c)
  | [], c, h => by simp at h
  | q :: l, c, h => by
    by_cases e : cK (nm q) c = true
    · have hp : fY nm (q :: l) c = fY nm l c + 1 := by simp [fY, e]
      have h' : fY nm l c < l.length := by rw [hp] at h; simpa using h
      have := Iu l c h';simp only [Cd, e, if_true, this, hp, List.getElem_cons_succ]
    · have hp : fY nm (q :: l) c = 0 := by simp [fY, e]
      simp only [Cd, e, if_false, hp, List.getElem_cons_zero]; rfl
theorem vB : ∀ (l : List α) (c : ByteArray), fY nm l c = l.length → Cd nm l c = false
  | [], c, _ => rfl
  | q :: l, c, h => by
    by_cases e : cK (nm q) c = true
    · have hp : fY nm (q :: l) c = fY nm l c + 1 := by simp [fY, e]
      simp only [Cd, e, if_true];exact vB l c (by rw [hp] at h; simpa using h)
    · have hp : fY nm (q :: l) c = 0 := by simp [fY, e]
      rw [hp] at h; simp at h
theorem Ad {l : List α} {c : ByteArray} (h : Cd nm l c = true) : fY nm l c < l.length := by
  have := Ai nm l c;rcases Nat.lt_or_ge (fY nm l c) l.length with h1 | h1
  · exact h1
  · have := vB nm l c (by omega); rw [h] at this; cases this
theorem rB : ∀ (l : List α) (p : α), eF nm l p = if Cd nm l (nm p) = true then l.set (fY nm l (nm p)) p else dV l (fY nm l (nm p)) p
  | [], p => rfl
  | q :: l, p => by
    by_cases e : cK (nm q) (nm p) = true
    · have ih := rB l p
      simp only [eF, Cd, fY, e, if_true, ih];split <;> simp [dV]
    · simp only [eF, Cd, fY, e, if_false]
      by_cases e2 : nm q = nm p <;> simp [e2, dV]
theorem vS (l : List α) (p : α) : (eF nm l p).length ≤ l.length + 1 := by
  induction l with
  | nil => simp [eF]
  | cons q l ih => unfold eF; repeat' split
                   all_goals simp
                   all_goals omega
theorem Vb {l : List α} {p x : α} (h : x ∈ eF nm l p) : x = p ∨ x ∈ l := by
  induction l with
  | nil => simp [eF] at h; exact .inl h
  | cons q l ih =>
    unfold eF at h;split at h
    · rcases List.mem_cons.1 h with h | h
      · exact .inr (by simp [h])
      · rcases ih h with h | h
        · exact .inl h
        · exact .inr (by simp [h])
    · split at h
      · rcases List.mem_cons.1 h with h | h
        · exact .inl h
        · exact .inr (by simp [h])
      · rcases List.mem_cons.1 h with h | h
        · exact .inl h
        · exact .inr h
theorem nQ {l : List α} (h : cJ nm l) (p : α) : cJ nm (eF nm l p) := by
  induction l with
  | nil => simp [eF, cJ]
  | cons q l ih =>
    have h' := List.pairwise_cons.1 h;unfold eF;split
    · rename_i e
      refine List.pairwise_cons.2 ⟨fun x hx => ?_, ih h'.2⟩;rcases Vb nm hx with rfl | hx
      · exact e
      · exact h'.1 x hx
    · rename_i e
      split
      · rename_i e2
        exact List.pairwise_cons.2 ⟨fun x hx => by rw [← e2]; exact h'.1 x hx, h'.2⟩
      · rename_i e2
        have e3 := Dy (by simpa using e) e2;refine List.pairwise_cons.2 ⟨fun x hx => ?_, h⟩;rcases List.mem_cons.1 hx with rfl | hx
        · exact e3
        · exact kW e3 (h'.1 x hx)
theorem nR (l : List α) (p : α) : gV nm (l ++ [p]) = eF nm (gV nm l) p := by simp [gV, List.foldl_append]
theorem wS (l : List α) (k : Nat) (h : k < l.length) : gV nm (l.take (k + 1)) = eF nm (gV nm (l.take k)) l[k] := by rw [cY l k h, nR]
theorem iJ (l : List α) : cJ nm (gV nm l) := by
  induction l using qW with
  | h0 => simp [gV, cJ]
  | h1 l x ih => rw [nR]; exact nQ nm ih x
theorem iT (l : List α) : (gV nm l).length ≤ l.length := by
  induction l using qW with
  | h0 => simp [gV]
  | h1 l x ih => rw [nR]; have := vS nm (gV nm l) x; simp; omega
theorem Mv {l : List α} {p : α} (h : ∀ x ∈ l, cK (nm x) (nm p) = true) : eF nm l p = l ++ [p] := by
  induction l with
  | nil => rfl
  | cons q l ih =>
    have := h q (by simp);simp only [eF, this, if_true, List.cons_append];rw [ih fun x hx => h x (by simp [hx])]
theorem oD {l : List α} (h : cJ nm l) : gV nm l = l := by
  induction l using qW with
  | h0 => rfl
  | h1 l x ih =>
    have h' := List.pairwise_append.1 h;rw [nR, ih h'.1, Mv nm fun y hy => h'.2.2 y hy x (by simp)]
theorem Kk {l : List α} (h : cJ nm l) (c : ByteArray) : Cd nm l c = lC nm l c := by
  induction l with
  | nil => rfl
  | cons q l ih =>
    have h' := List.pairwise_cons.1 h;unfold Cd lC;simp only [List.any_cons];split
    · rename_i e
      rw [ih h'.2];have : ¬ nm q = c := uX e;simp [this, lC]
    · rename_i e
      have : (l.any fun p => decide (nm p = c)) = false := by
        rw [List.any_eq_false];intro x hx;simp only [decide_eq_true_eq];rintro rfl;have := h'.1 x hx;exact e this
      rw [this, Bool.or_false]
theorem uI {l : List α} (h : cJ nm l) (c : ByteArray) : cJ nm (gZ nm l c) := List.Pairwise.filter _ h
theorem qO (l : List α) (c : ByteArray) : (gZ nm l c).length ≤ l.length := List.length_filter_le _ _
theorem xH {l : List α} (c : ByteArray) : ((gZ nm l c).length = l.length) ↔ lC nm l c = false := by
  unfold gZ lC;rw [List.length_filter_eq_length_iff, List.any_eq_false];simp
theorem oO (l : List α) (c : ByteArray) (k : Nat) (h : k < l.length) : gZ nm (l.take (k + 1)) c = gZ nm (l.take k) c ++ if nm l[k] = c then [] else [l[k]] := by
  unfold gZ;rw [cY l k h, List.filter_append, List.filter_cons];by_cases e : nm l[k] = c <;> simp [e]
theorem aAn {l : List α} {c : ByteArray} {m : Nat} (hs : cJ nm l) (hm : m < l.length) (h : cK (nm l[m]) c = true) : ∀ j (h : j < l.length), j < m + 1 → cK (nm l[j]) c = true := fun j hj hjm => by
  rcases Nat.lt_or_ge j m with h1 | h1
  · exact kW (List.pairwise_iff_getElem.1 hs j m hj hm h1) h
  · obtain rfl : j = m := by omega
    exact h
theorem aAp {l : List α} {c : ByteArray} {m : Nat} (hs : cJ nm l) (hm : m < l.length) (h : cK (nm l[m]) c = false) : ∀ j (h : j < l.length), m ≤ j → cK (nm l[j]) c = false := fun j hj hjm => by
  rcases Nat.lt_or_ge m j with h1 | h1
  · have := List.pairwise_iff_getElem.1 hs m j hm hj h1
    cases e : cK (nm l[j]) c with
    | false => rfl
    | true => rw [kW this e] at h; cases h
  · obtain rfl : j = m := by omega
    exact h
def gJ (p : α) (s : List α × Bool) (x : α) : List α × Bool :=
  let s1 := if s.2 = false ∧ cK (nm x) (nm p) = false then (s.1 ++ [p], true) else s
  if nm x = nm p then s1 else (s1.1 ++ [x], s1.2)
def kB (l : List α) (p : α) : List α × Bool := l.foldl (gJ nm p) ([], false)
def Ms (s : List α × Bool) (p : α) : List α := if s.2 = true then s.1 else s.1 ++ [p]
theorem jD (l : List α) (p : α) (k : Nat) (h : k < l.length) : kB nm (l.take (k + 1)) p = gJ nm p (kB nm (l.take k) p) l[k] := by
  unfold kB; rw [cY l k h, List.foldl_append]; rfl
theorem Lf (l : List α) (p : α) : (kB nm l p).1.length ≤ l.length + (if (kB nm l p).2 = true then 1 else 0) := by
  induction l using qW with
  | h0 => simp [kB]
  | h1 l x ih =>
    have e : kB nm (l ++ [x]) p = gJ nm p (kB nm l p) x := by unfold kB; rw [List.foldl_append]; rfl
    rw [e];generalize kB nm l p = s at ih;obtain ⟨o, b⟩ := s;unfold gJ;cases b <;> by_cases e1 : cK (nm x) (nm p) = false <;> by_cases e2 : nm x = nm p <;> simp_all <;> omega
theorem wH (p : α) : ∀ (l o : List α), (l.foldl (gJ nm p) (o, true)) = (o ++ gZ nm l (nm p), true)
  | [], o => by simp [gZ]
  | x :: l, o => by
    rw [List.foldl_cons];have e : gJ nm p (o, true) x = (if nm x = nm p then o else o ++ [x], true) := by
      unfold gJ; simp; split <;> rfl
    rw [e, wH p l];unfold gZ;by_cases e2 : nm x = nm p <;> simp [e2]
theorem uA (p : α) : ∀ (l o : List α), cJ nm l → Ms (l.foldl (gJ nm p) (o, false)) p = o ++ eF nm l p
  | [], o, _ => by simp [Ms, eF]
  | x :: l, o, h => by
    have h' := List.pairwise_cons.1 h;rw [List.foldl_cons];by_cases e1 : cK (nm x) (nm p) = true
    · have e : gJ nm p (o, false) x = (o ++ [x], false) := by
        unfold gJ; simp [e1, uX e1]
      rw [e, uA p l _ h'.2];simp [eF, e1]
    · have e1' : cK (nm x) (nm p) = false := by simpa using e1
      have hid : ∀ y ∈ l, nm y ≠ nm p := fun y hy hp => e1 (by have := h'.1 y hy; rw [hp] at this; exact this);have hdel : gZ nm l (nm p) = l := by
        unfold gZ; rw [List.filter_eq_self]; intro y hy; simp [hid y hy]
      have e : gJ nm p (o, false) x = (if nm x = nm p then o ++ [p] else o ++ [p] ++ [x], true) := by
        unfold gJ; simp [e1']; split <;> rfl
      rw [e, wH, hdel];by_cases e2 : nm x = nm p <;> simp [Ms, eF, e1, e2, iN]
theorem yP {l : List α} (h : cJ nm l) (p : α) : Ms (kB nm l p) p = eF nm l p := by
  have := uA nm p l [] h;simpa [kB] using this
def kA (out : List α) (c : ByteArray) : Bool := match out.getLast? with | none => true | some q => cK (nm q) c
def yC (l out : List α) : Option α := ((gV nm l).filter fun p => kA nm out (nm p)).head?
theorem Cg {g : ByteArray → Bool} (hup : ∀ a b, cK a b = true → g a = true → g b = true) : ∀ (l : List α) (p : α), (eF nm l p).filter (fun q => g (nm q)) = if g (nm p) = true then eF nm (l.filter fun q => g (nm q)) p else l.filter fun q => g (nm q)
  | [], p => by by_cases e : g (nm p) = true <;> simp [eF, e]
  | q :: l, p => by
    have ih := Cg hup l p;by_cases e : cK (nm q) (nm p) = true
    · simp only [eF, e, if_true, List.filter_cons, ih]
      by_cases e1 : g (nm q) = true <;> by_cases e2 : g (nm p) = true <;> simp [e1, e2, eF, e]
    · by_cases e3 : nm q = nm p
      · simp only [eF, e, e3, if_true, if_false, List.filter_cons]
        by_cases e2 : g (nm p) = true
        · simp [e2, eF, e3, iN]
        · simp [e2, iN]
      · simp only [eF, e, e3, if_false, List.filter_cons]
        have e4 := Dy (by simpa using e) e3;by_cases e2 : g (nm p) = true
        · have e1 := hup _ _ e4 e2
          simp [e1, e2, eF, e, e3]
        · by_cases e1 : g (nm q) = true <;> simp [e1, e2, eF, e, e3]
theorem Tc (out : List α) : ∀ a b, cK a b = true → kA nm out a = true → kA nm out b = true := by
  intro a b h1 h2;unfold kA at *;split
  · rfl
  · rename_i q hq
    rw [hq] at h2;exact kW h2 h1
theorem Ma (l out : List α) (k : Nat) (h : k < l.length) : yC nm (l.take (k + 1)) out = if kA nm out (nm l[k]) = true then (match yC nm (l.take k) out with | none => some l[k] | some q => if cK (nm q) (nm l[k]) = true then some q else some l[k]) else yC nm (l.take k) out := by
  unfold yC;rw [wS nm l k h, Cg nm (Tc nm out)];split
  · cases (gV nm (l.take k)).filter fun p => kA nm out (nm p) with
    | nil => rfl
    | cons q r =>
      simp only [eF, List.head?_cons]
      repeat' split
      all_goals rfl
  · rfl
theorem aCm (l out : List α) : yC nm (l.take 0) out = none := by simp [yC, gV]
theorem Wb (l : List α) (k : Nat) (hk : k ≤ (gV nm l).length) : yC nm l ((gV nm l).take k) = (gV nm l)[k]? := by
  have hs := iJ nm l;unfold yC;generalize gV nm l = S at *;have hd : (S.filter fun p => kA nm (S.take k) (nm p)) = S.drop k := by
    cases k with
    | zero => simp [kA]
    | succ k =>
      have hl : (S.take (k + 1)).getLast? = some S[k] := by rw [cY S k (by omega), List.getLast?_concat]
      have hg : ∀ p, kA nm (S.take (k + 1)) (nm p) = cK (nm S[k]) (nm p) := fun p => by unfold kA; rw [hl]
      simp only [hg];have hsplit : ∀ q : α → Bool, S.filter q = (S.take (k + 1)).filter q ++ (S.drop (k + 1)).filter q := fun q => by rw [← List.filter_append, List.take_append_drop]
      rw [hsplit];have hp : (S.take (k + 1) ++ S.drop (k + 1)).Pairwise fun a b => cK (nm a) (nm b) = true := by rw [List.take_append_drop]; exact hs
      have h3 := List.pairwise_append.1 hp;have hmem : S[k] ∈ S.take (k + 1) := by rw [cY S k (by omega)]; exact List.mem_append_right _ (List.mem_singleton.2 rfl)
      have f2 : (S.drop (k + 1)).filter (fun p => cK (nm S[k]) (nm p)) = S.drop (k + 1) := by
        rw [List.filter_eq_self]; exact fun x hx => h3.2.2 _ hmem x hx
      have f1 : (S.take (k + 1)).filter (fun p => cK (nm S[k]) (nm p)) = [] := by
        rw [List.filter_eq_nil_iff];intro x hx;rw [cY S k (by omega)] at hx h3;rcases List.mem_append.1 hx with hx | hx
        · have := (List.pairwise_append.1 h3.1).2.2 x hx S[k] (by simp)
          rw [Ia this]; simp
        · simp at hx; subst hx; rw [iN]; simp
      rw [f1, f2, List.nil_append]
  rw [hd, List.head?_drop]
end
end Go.Proofs.YtpfmpeaekgdgnaaGreat


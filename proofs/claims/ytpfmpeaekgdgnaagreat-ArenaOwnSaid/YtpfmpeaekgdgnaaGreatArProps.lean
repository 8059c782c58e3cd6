import Derived.Test.YtpfmpeaekgdgnaaGreatWkAr4
namespace Go.Proofs.YtpfmpeaekgdgnaaGreat
open Go Go.Vm
set_option linter.all false

def cJ (a b : ByteArray) : Bool := Op.bytesLess a.toList b.toList
theorem yB : ∀ a : List UInt8, Op.bytesLess a a = false
  | [] => rfl
  | a :: x => by simp [Op.bytesLess, yB x]
theorem aC9 {a b : UInt8} : a < b ↔ a.toNat < b.toNat := Iff.rfl
theorem Dz : ∀ a b c : List UInt8, Op.bytesLess a b = true → Op.bytesLess b c = true → Op.bytesLess a c = true
  | [], [], _, h, _ => by simp [Op.bytesLess] at h
  | _ :: _, [], _, h, _ => by simp [Op.bytesLess] at h
  | [], _ :: _, [], _, h => by simp [Op.bytesLess] at h
  | _ :: _, _ :: _, [], _, h => by simp [Op.bytesLess] at h
  | [], _ :: _, _ :: _, _, _ => by simp [Op.bytesLess]
  | a :: x, b :: y, c :: z, h1, h2 => by
    simp only [Op.bytesLess, Bool.or_eq_true, Bool.and_eq_true, decide_eq_true_eq, beq_iff_eq, aC9] at *;rcases h1 with h1 | ⟨rfl, h1⟩
    · rcases h2 with h2 | ⟨rfl, h2⟩
      · left; omega
      · left; exact h1
    · rcases h2 with h2 | ⟨rfl, h2⟩
      · left; exact h2
      · right; exact ⟨rfl, Dz x y z h1 h2⟩
theorem iJ (a : ByteArray) : cJ a a = false := yB _
theorem kL {a b c : ByteArray} (h1 : cJ a b = true) (h2 : cJ b c = true) : cJ a c = true := Dz _ _ _ h1 h2
theorem Du (a b : ByteArray) : cJ a b = true ∨ a = b ∨ cJ b a = true := by
  have h := oP a.toList b.toList;unfold cJ;cases h1 : Op.bytesLess a.toList b.toList with
  | true => left; rfl
  | false =>
    rw [h1, Bool.false_or, jB] at h;cases h2 : Op.bytesLess b.toList a.toList with
    | true => right; right; rfl
    | false => rw [h2] at h; right; left; simpa using h
theorem Hz {a b : ByteArray} (h : cJ a b = true) : cJ b a = false := by
  cases h2 : cJ b a with
  | false => rfl
  | true => have := kL h h2; rw [iJ] at this; cases this
theorem uC {a b : ByteArray} (h : cJ a b = true) : a ≠ b := by rintro rfl; rw [iJ] at h; cases h
theorem Dv {a b : ByteArray} (h : cJ a b = false) (hn : a ≠ b) : cJ b a = true := by
  rcases Du a b with h1 | h1 | h1
  · rw [h1] at h; cases h
  · exact absurd h1 hn
  · exact h1
def vU (a b : ByteArray) : Int := if cJ a b = true then -1 else if cJ b a = true then 1 else 0
theorem vL (a b : ByteArray) : vU a b < 0 ↔ cJ a b = true := by
  unfold vU; repeat' split
  all_goals simp_all
theorem Iq (a b : ByteArray) : 0 ≤ vU a b ↔ cJ a b = false := by
  have := vL a b;rw [← Bool.not_eq_true, ← this]; omega
theorem xV (a b : ByteArray) : vU a b = 0 ↔ a = b := by
  unfold vU
  repeat' split
  · rename_i h; simp; exact uC h
  · rename_i h; simp; exact fun e => uC h e.symm
  · rename_i h1 h2
    simp only [true_iff];rcases Du a b with h | h | h
    · exact absurd h h1
    · exact h
    · exact absurd h h2

section
variable {α : Type} (nm : α → ByteArray)
def fY : List α → ByteArray → Nat
  | [], _ => 0
  | q :: l, c => if cJ (nm q) c = true then fY l c + 1 else 0
def Be : List α → ByteArray → Bool
  | [], _ => false
  | q :: l, c => if cJ (nm q) c = true then Be l c else decide (nm q = c)
def eF : List α → α → List α
  | [], p => [p]
  | q :: l, p => if cJ (nm q) (nm p) = true then q :: eF l p else if nm q = nm p then p :: l else p :: q :: l
def cC (l : List α) : Prop := l.Pairwise fun a b => cJ (nm a) (nm b) = true
def hU (l : List α) : List α := l.foldl (eF nm) []
def kY (l : List α) (c : ByteArray) : Bool := l.any fun p => decide (nm p = c)
def gW (l : List α) (c : ByteArray) : List α := l.filter fun p => !decide (nm p = c)

theorem An (l : List α) (c : ByteArray) : fY nm l c ≤ l.length := by
  induction l with
  | nil => exact Nat.le_refl _
  | cons q l ih => unfold fY; split <;> simp <;> omega
theorem Ae : ∀ (l : List α) (c : ByteArray) (i : Nat), i ≤ l.length → (∀ j (h : j < l.length), j < i → cJ (nm l[j]) c = true) → (∀ h : i < l.length, cJ (nm l[i]) c = false) → fY nm l c = i
  | [], c, i, hi, _, _ => by simp at hi; subst hi; rfl
  | q :: l, c, 0, _, _, h2 => by
    have := h2 (by simp);simp only [List.getElem_cons_zero] at this;simp [fY, this]
  | q :: l, c, i + 1, hi, h1, h2 => by
    have h0 := h1 0 (by simp) (by omega);simp only [List.getElem_cons_zero] at h0;have := Ae l c i (by simpa using hi) (fun j h hj => h1 (j + 1) (by simpa using h) (by omega)) (fun h => h2 (by simpa using h));simp [fY, h0, this]
theorem Hb : ∀ (l : List α) (c : ByteArray) (h : fY nm l c < l.length), Be nm l c = decide (nm l[fY nm l c] = c)
  | [], c, h => by simp at h
  | q :: l, c, h => by
    by_cases e : cJ (nm q) c = true
    · have hp : fY nm (q :: l) c = fY nm l c + 1 := by simp [fY, e]
      have h' : fY nm l c < l.length := by rw [hp] at h; simpa using h
      have := Hb l c h';simp only [Be, e, if_true, this, hp, List.getElem_cons_succ]
    · have hp : fY nm (q :: l) c = 0 := by simp [fY, e]
      simp only [Be, e, if_false, hp, List.getElem_cons_zero]; rfl
theorem uF : ∀ (l : List α) (c : ByteArray), fY nm l c = l.length → Be nm l c = false
  | [], c, _ => rfl
  | q :: l, c, h => by
    by_cases e : cJ (nm q) c = true
    · have hp : fY nm (q :: l) c = fY nm l c + 1 := by simp [fY, e]
      simp only [Be, e, if_true];exact uF l c (by rw [hp] at h; simpa using h)
    · have hp : fY nm (q :: l) c = 0 := by simp [fY, e]
      rw [hp] at h; simp at h
theorem Am {l : List α} {c : ByteArray} (h : Be nm l c = true) : fY nm l c < l.length := by
  have := An nm l c;rcases Nat.lt_or_ge (fY nm l c) l.length with h1 | h1
  · exact h1
  · have := uF nm l c (by omega); rw [h] at this; cases this
theorem rA : ∀ (l : List α) (p : α), eF nm l p = if Be nm l (nm p) = true then l.set (fY nm l (nm p)) p else dT l (fY nm l (nm p)) p
  | [], p => rfl
  | q :: l, p => by
    by_cases e : cJ (nm q) (nm p) = true
    · have ih := rA l p
      simp only [eF, Be, fY, e, if_true, ih];split <;> simp [dT]
    · simp only [eF, Be, fY, e, if_false]
      by_cases e2 : nm q = nm p <;> simp [e2, dT]
theorem uZ (l : List α) (p : α) : (eF nm l p).length ≤ l.length + 1 := by
  induction l with
  | nil => simp [eF]
  | cons q l ih => unfold eF; repeat' split
                   all_goals simp
                   all_goals omega
theorem Uy {l : List α} {p x : α} (h : x ∈ eF nm l p) : x = p ∨ x ∈ l := by
  induction l with
  | nil => simp [eF] at h; exact .inl h
  | cons q l ih =>
    unfold eF at h;split at h
    · rcases List.mem_cons.1 h with h | h
      · exact .inr (by simp [h])
      · rcases ih h with h | h
        · exact .inl h
        · exact .inr (by simp [h])
    · split at h
      · rcases List.mem_cons.1 h with h | h
        · exact .inl h
        · exact .inr (by simp [h])
      · rcases List.mem_cons.1 h with h | h
        · exact .inl h
        · exact .inr h
theorem nQ {l : List α} (h : cC nm l) (p : α) : cC nm (eF nm l p) := by
  induction l with
  | nil => simp [eF, cC]
  | cons q l ih =>
    have h' := List.pairwise_cons.1 h;unfold eF;split
    · rename_i e
      refine List.pairwise_cons.2 ⟨fun x hx => ?_, ih h'.2⟩;rcases Uy nm hx with rfl | hx
      · exact e
      · exact h'.1 x hx
    · rename_i e
      split
      · rename_i e2
        exact List.pairwise_cons.2 ⟨fun x hx => by rw [← e2]; exact h'.1 x hx, h'.2⟩
      · rename_i e2
        have e3 := Dv (by simpa using e) e2;refine List.pairwise_cons.2 ⟨fun x hx => ?_, h⟩;rcases List.mem_cons.1 hx with rfl | hx
        · exact e3
        · exact kL e3 (h'.1 x hx)
theorem nE (l : List α) (p : α) : hU nm (l ++ [p]) = eF nm (hU nm l) p := by simp [hU, List.foldl_append]
theorem vT (l : List α) (k : Nat) (h : k < l.length) : hU nm (l.take (k + 1)) = eF nm (hU nm (l.take k)) l[k] := by rw [cU l k h, nE]
theorem iE (l : List α) : cC nm (hU nm l) := by
  induction l using qO with
  | h0 => simp [hU, cC]
  | h1 l x ih => rw [nE]; exact nQ nm ih x
theorem jX (l : List α) : (hU nm l).length ≤ l.length := by
  induction l using qO with
  | h0 => simp [hU]
  | h1 l x ih => rw [nE]; have := uZ nm (hU nm l) x; simp; omega
theorem Nh {l : List α} {p : α} (h : ∀ x ∈ l, cJ (nm x) (nm p) = true) : eF nm l p = l ++ [p] := by
  induction l with
  | nil => rfl
  | cons q l ih =>
    have := h q (by simp);simp only [eF, this, if_true, List.cons_append];rw [ih fun x hx => h x (by simp [hx])]
theorem nV {l : List α} (h : cC nm l) : hU nm l = l := by
  induction l using qO with
  | h0 => rfl
  | h1 l x ih =>
    have h' := List.pairwise_append.1 h;rw [nE, ih h'.1, Nh nm fun y hy => h'.2.2 y hy x (by simp)]
theorem Is {l : List α} (h : cC nm l) (c : ByteArray) : Be nm l c = kY nm l c := by
  induction l with
  | nil => rfl
  | cons q l ih =>
    have h' := List.pairwise_cons.1 h;unfold Be kY;simp only [List.any_cons];split
    · rename_i e
      rw [ih h'.2];have : ¬ nm q = c := uC e;simp [this, kY]
    · rename_i e
      have : (l.any fun p => decide (nm p = c)) = false := by
        rw [List.any_eq_false];intro x hx;simp only [decide_eq_true_eq];rintro rfl;have := h'.1 x hx;exact e this
      rw [this, Bool.or_false]
theorem tK {l : List α} (h : cC nm l) (c : ByteArray) : cC nm (gW nm l c) := List.Pairwise.filter _ h
theorem rG (l : List α) (c : ByteArray) : (gW nm l c).length ≤ l.length := List.length_filter_le _ _
theorem uJ {l : List α} (c : ByteArray) : ((gW nm l c).length = l.length) ↔ kY nm l c = false := by
  unfold gW kY;rw [List.length_filter_eq_length_iff, List.any_eq_false];simp
theorem oF (l : List α) (c : ByteArray) (k : Nat) (h : k < l.length) : gW nm (l.take (k + 1)) c = gW nm (l.take k) c ++ if nm l[k] = c then [] else [l[k]] := by
  unfold gW;rw [cU l k h, List.filter_append, List.filter_cons];by_cases e : nm l[k] = c <;> simp [e]
theorem Zh {l : List α} {c : ByteArray} {m : Nat} (hs : cC nm l) (hm : m < l.length) (h : cJ (nm l[m]) c = true) : ∀ j (h : j < l.length), j < m + 1 → cJ (nm l[j]) c = true := fun j hj hjm => by
  rcases Nat.lt_or_ge j m with h1 | h1
  · exact kL (List.pairwise_iff_getElem.1 hs j m hj hm h1) h
  · obtain rfl : j = m := by omega
    exact h
theorem Zm {l : List α} {c : ByteArray} {m : Nat} (hs : cC nm l) (hm : m < l.length) (h : cJ (nm l[m]) c = false) : ∀ j (h : j < l.length), m ≤ j → cJ (nm l[j]) c = false := fun j hj hjm => by
  rcases Nat.lt_or_ge m j with h1 | h1
  · have := List.pairwise_iff_getElem.1 hs m j hm hj h1
    cases e : cJ (nm l[j]) c with
    | false => rfl
    | true => rw [kL this e] at h; cases h
  · obtain rfl : j = m := by omega
    exact h
def gI (p : α) (s : List α × Bool) (x : α) : List α × Bool :=
  let s1 := if s.2 = false ∧ cJ (nm x) (nm p) = false then (s.1 ++ [p], true) else s
  if nm x = nm p then s1 else (s1.1 ++ [x], s1.2)
def jQ (l : List α) (p : α) : List α × Bool := l.foldl (gI nm p) ([], false)
def Ke (s : List α × Bool) (p : α) : List α := if s.2 = true then s.1 else s.1 ++ [p]
theorem jA (l : List α) (p : α) (k : Nat) (h : k < l.length) : jQ nm (l.take (k + 1)) p = gI nm p (jQ nm (l.take k) p) l[k] := by
  unfold jQ; rw [cU l k h, List.foldl_append]; rfl
theorem Jx (l : List α) (p : α) : (jQ nm l p).1.length ≤ l.length + (if (jQ nm l p).2 = true then 1 else 0) := by
  induction l using qO with
  | h0 => simp [jQ]
  | h1 l x ih =>
    have e : jQ nm (l ++ [x]) p = gI nm p (jQ nm l p) x := by unfold jQ; rw [List.foldl_append]; rfl
    rw [e];generalize jQ nm l p = s at ih;obtain ⟨o, b⟩ := s;unfold gI;cases b <;> by_cases e1 : cJ (nm x) (nm p) = false <;> by_cases e2 : nm x = nm p <;> simp_all <;> omega
theorem uO (p : α) : ∀ (l o : List α), (l.foldl (gI nm p) (o, true)) = (o ++ gW nm l (nm p), true)
  | [], o => by simp [gW]
  | x :: l, o => by
    rw [List.foldl_cons];have e : gI nm p (o, true) x = (if nm x = nm p then o else o ++ [x], true) := by
      unfold gI; simp; split <;> rfl
    rw [e, uO p l];unfold gW;by_cases e2 : nm x = nm p <;> simp [e2]
theorem tC (p : α) : ∀ (l o : List α), cC nm l → Ke (l.foldl (gI nm p) (o, false)) p = o ++ eF nm l p
  | [], o, _ => by simp [Ke, eF]
  | x :: l, o, h => by
    have h' := List.pairwise_cons.1 h;rw [List.foldl_cons];by_cases e1 : cJ (nm x) (nm p) = true
    · have e : gI nm p (o, false) x = (o ++ [x], false) := by
        unfold gI; simp [e1, uC e1]
      rw [e, tC p l _ h'.2];simp [eF, e1]
    · have e1' : cJ (nm x) (nm p) = false := by simpa using e1
      have hid : ∀ y ∈ l, nm y ≠ nm p := fun y hy hp => e1 (by have := h'.1 y hy; rw [hp] at this; exact this);have hdel : gW nm l (nm p) = l := by
        unfold gW; rw [List.filter_eq_self]; intro y hy; simp [hid y hy]
      have e : gI nm p (o, false) x = (if nm x = nm p then o ++ [p] else o ++ [p] ++ [x], true) := by
        unfold gI; simp [e1']; split <;> rfl
      rw [e, uO, hdel];by_cases e2 : nm x = nm p <;> simp [Ke, eF, e1, e2, iJ]
theorem yI {l : List α} (h : cC nm l) (p : α) : Ke (jQ nm l p) p = eF nm l p := by
  have := tC nm p l [] h;simpa [jQ] using this
def jP (out : List α) (c : ByteArray) : Bool := match out.getLast? with | none => true | some q => cJ (nm q) c
def wW (l out : List α) : Option α := ((hU nm l).filter fun p => jP nm out (nm p)).head?
theorem Ds {g : ByteArray → Bool} (hup : ∀ a b, cJ a b = true → g a = true → g b = true) : ∀ (l : List α) (p : α), (eF nm l p).filter (fun q => g (nm q)) = if g (nm p) = true then eF nm (l.filter fun q => g (nm q)) p else l.filter fun q => g (nm q)
  | [], p => by by_cases e : g (nm p) = true <;> simp [eF, e]
  | q :: l, p => by
    have ih := Ds hup l p;by_cases e : cJ (nm q) (nm p) = true
    · simp only [eF, e, if_true, List.filter_cons, ih]
      by_cases e1 : g (nm q) = true <;> by_cases e2 : g (nm p) = true <;> simp [e1, e2, eF, e]
    · by_cases e3 : nm q = nm p
      · simp only [eF, e, e3, if_true, if_false, List.filter_cons]
        by_cases e2 : g (nm p) = true
        · simp [e2, eF, e3, iJ]
        · simp [e2, iJ]
      · simp only [eF, e, e3, if_false, List.filter_cons]
        have e4 := Dv (by simpa using e) e3;by_cases e2 : g (nm p) = true
        · have e1 := hup _ _ e4 e2
          simp [e1, e2, eF, e, e3]
        · by_cases e1 : g (nm q) = true <;> simp [e1, e2, eF, e, e3]
theorem Rd (out : List α) : ∀ a b, cJ a b = true → jP nm out a = true → jP nm out b = true := by
  intro a b h1 h2;unfold jP at *;split
  · rfl
  · rename_i q hq
    rw [hq] at h2;exact kL h2 h1
theorem Nm (l out : List α) (k : Nat) (h : k < l.length) : wW nm (l.take (k + 1)) out = if jP nm out (nm l[k]) = true then (match wW nm (l.take k) out with | none => some l[k] | some q => if cJ (nm q) (nm l[k]) = true then some q else some l[k]) else wW nm (l.take k) out := by
  unfold wW;rw [vT nm l k h, Ds nm (Rd nm out)];split
  · cases (hU nm (l.take k)).filter fun p => jP nm out (nm p) with
    | nil => rfl
    | cons q r =>
      simp only [eF, List.head?_cons]
      repeat' split
      all_goals rfl
  · rfl
theorem Zv (l out : List α) : wW nm (l.take 0) out = none := by simp [wW, hU]
theorem Pp (l : List α) (k : Nat) (hk : k ≤ (hU nm l).length) : wW nm l ((hU nm l).take k) = (hU nm l)[k]? := by
  have hs := iE nm l;unfold wW;generalize hU nm l = S at *;have hd : (S.filter fun p => jP nm (S.take k) (nm p)) = S.drop k := by
    cases k with
    | zero => simp [jP]
    | succ k =>
      have hl : (S.take (k + 1)).getLast? = some S[k] := by rw [cU S k (by omega), List.getLast?_concat]
      have hg : ∀ p, jP nm (S.take (k + 1)) (nm p) = cJ (nm S[k]) (nm p) := fun p => by unfold jP; rw [hl]
      simp only [hg];have hsplit : ∀ q : α → Bool, S.filter q = (S.take (k + 1)).filter q ++ (S.drop (k + 1)).filter q := fun q => by rw [← List.filter_append, List.take_append_drop]
      rw [hsplit];have hp : (S.take (k + 1) ++ S.drop (k + 1)).Pairwise fun a b => cJ (nm a) (nm b) = true := by rw [List.take_append_drop]; exact hs
      have h3 := List.pairwise_append.1 hp;have hmem : S[k] ∈ S.take (k + 1) := by rw [cU S k (by omega)]; exact List.mem_append_right _ (List.mem_singleton.2 rfl)
      have f2 : (S.drop (k + 1)).filter (fun p => cJ (nm S[k]) (nm p)) = S.drop (k + 1) := by
        rw [List.filter_eq_self]; exact fun x hx => h3.2.2 _ hmem x hx
      have f1 : (S.take (k + 1)).filter (fun p => cJ (nm S[k]) (nm p)) = [] := by
        rw [List.filter_eq_nil_iff];intro x hx;rw [cU S k (by omega)] at hx h3;rcases List.mem_append.1 hx with hx | hx
        · have := (List.pairwise_append.1 h3.1).2.2 x hx S[k] (by simp)
          rw [Hz this]; simp
        · simp at hx; subst hx; rw [iJ]; simp
      rw [f1, f2, List.nil_append]
  rw [hd, List.head?_drop]
end
end Go.Proofs.YtpfmpeaekgdgnaaGreat


import Derived.Test.YtpfmpeaekgdgnaaGreatWkTr4
import Derived.Test.YtpfmpeaekgdgnaaGreatTrAw
import Derived.Test.YtpfmpeaekgdgnaaGreatWkTr3
namespace Go.Proofs.YtpfmpeaekgdgnaaGreat
open Go Go.Vm
set_option linter.all false
set_option maxHeartbeats 1000000
theorem addX_err (x : RD) (k : Int) (s : ByteArray) : ¬ (addX x k s).2.2 = 0 → (addX x k s).1 = x := by unfold addX; (repeat' split) <;> simp
theorem insX_err (x : RD) (b : Int → List Int) (p a i : Int) : ¬ (insX x b p a i).2 = 0 → (insX x b p a i).1 = x := by unfold insX; (repeat' split) <;> simp
theorem movX_err (x : RD) (i a : Int) : ¬ (movX x i a).2 = 0 → (movX x i a).1 = x := by unfold movX; (repeat' split) <;> simp
theorem remX_err (x : RD) (b : Int → List Int) (i : Int) : ¬ (remX x b i).2 = 0 → (remX x b i).1 = x := by unfold remX; (repeat' split) <;> simp
theorem setX_err (x : RD) (k i : Int) (n v : ByteArray) (u : Int) : ¬ (setX x k i n v u).2 = 0 → (setX x k i n v u).1 = x := by unfold setX; (repeat' split) <;> simp
variable {k m M : Nat} {d : DS} {rk : Int → Nat} {σ : List (List D)} {x : RD}
theorem tdo_det (h : IX k m M d rk x σ) (hk : k ≤ 800) (o : TOp) (s1 : o.name.size ≤ 1000) (s2 : o.value.size ≤ 1000) :
  ∃ d' rk' σ' y c, Ct Tryz.prog 75 [d_TOp o, .ref m 0] σ (fun r τ => r = D.int c ∧ τ = σ') ∧ IX (k + 1) m M d' rk' y σ' ∧ (∀ τ, Ct Tryz.prog 30 [d_RD x, d_TOp o] τ (fun r τ' => r = .tup [d_RD y, D.int c] ∧ τ' = τ)) ∧ (¬ c = 0 → y = x) := by
 have hh := h
 obtain ⟨hi, hx⟩ := h
 have hnx := dnext_fn m M d σ hi.ho
 have hxn := hx.next
 by_cases q1 : o.kind = 1
 ·by_cases hn : x.next = o.a
  ·obtain ⟨d', rk', σ', hc, hi', e, fr⟩ := el_det k m M d rk o.name σ hi hk s1
   obtain ⟨p1, p2⟩ := hx.addX hi.ip.lt 2 o.name
   exact ⟨d', rk', σ', _, (addX d.x 2 o.name).2.2, tdo_fn m o d.next (addX d.x 2 o.name).2.1 (addX d.x 2 o.name).2.2 σ' σ (fun _ => hnx) (fun _ q => absurd (hxn.symm.trans hn) q) (fun _ _ => hc) (fun q => by omega) (fun q => by omega) (fun q => by omega) (fun q => by omega) (fun q => by omega) (fun q => by omega) (fun q => by omega) (fun q => by omega) (fun q => by omega) (fun q => by omega) (fun q => by omega) (fun q => by omega) (fun q => absurd q1 q.1), ⟨hi', by rw [e]; exact p2⟩, rdo6_ix hh hk o s1 s2 _ _ _ (fun _ q => absurd hn q) (fun _ _ => pair_eq p1) (fun q => by omega) (fun q => by omega) (fun q => by omega) (fun q => by omega) (fun q => by omega) (fun q => by omega), by
    have := congrArg Prod.snd p1
    intro hne
    exact addX_err x 2 o.name (by rw [p1]; exact hne)⟩
  ·exact ⟨d, rk, σ, x, 1, tdo_fn m o d.next 0 1 σ σ (fun _ => hnx) (fun _ _ => ⟨rfl, rfl⟩) (fun _ q => absurd (hxn.trans q) hn) (fun q => by omega) (fun q => by omega) (fun q => by omega) (fun q => by omega) (fun q => by omega) (fun q => by omega) (fun q => by omega) (fun q => by omega) (fun q => by omega) (fun q => by omega) (fun q => by omega) (fun q => by omega) (fun q => absurd q1 q.1), hh.mono, rdo6_ix hh hk o s1 s2 _ 0 _ (fun _ _ => ⟨rfl, rfl⟩) (fun _ q => absurd q hn) (fun _ q => absurd q hn) (fun q => by omega) (fun q => by omega) (fun q => by omega) (fun q => by omega) (fun q => by omega), fun _ => rfl⟩
 by_cases q2 : o.kind = 2
 ·by_cases hn : x.next = o.a
  ·obtain ⟨d', rk', σ', hc, hi', e, fr⟩ := tx_det k m M d rk o.value σ hi hk
   obtain ⟨p1, p2⟩ := hx.addX hi.ip.lt 1 o.value
   exact ⟨d', rk', σ', _, (addX d.x 1 o.value).2.2, tdo_fn m o d.next (addX d.x 1 o.value).2.1 (addX d.x 1 o.value).2.2 σ' σ (fun _ => hnx) (fun _ q => absurd (hxn.symm.trans hn) q) (fun q => by omega) (fun _ _ => hc) (fun q => by omega) (fun q => by omega) (fun q => by omega) (fun q => by omega) (fun q => by omega) (fun q => by omega) (fun q => by omega) (fun q => by omega) (fun q => by omega) (fun q => by omega) (fun q => by omega) (fun q => absurd q2 q.2.1), ⟨hi', by rw [e]; exact p2⟩, rdo6_ix hh hk o s1 s2 _ _ _ (fun _ q => absurd hn q) (fun q => by omega) (fun _ _ => pair_eq p1) (fun q => by omega) (fun q => by omega) (fun q => by omega) (fun q => by omega) (fun q => by omega), by
    have := congrArg Prod.snd p1
    intro hne
    exact addX_err x 1 o.value (by rw [p1]; exact hne)⟩
  ·exact ⟨d, rk, σ, x, 1, tdo_fn m o d.next 0 1 σ σ (fun _ => hnx) (fun _ _ => ⟨rfl, rfl⟩) (fun q => by omega) (fun _ q => absurd (hxn.trans q) hn) (fun q => by omega) (fun q => by omega) (fun q => by omega) (fun q => by omega) (fun q => by omega) (fun q => by omega) (fun q => by omega) (fun q => by omega) (fun q => by omega) (fun q => by omega) (fun q => by omega) (fun q => absurd q2 q.2.1), hh.mono, rdo6_ix hh hk o s1 s2 _ 0 _ (fun _ _ => ⟨rfl, rfl⟩) (fun _ q => absurd q hn) (fun _ q => absurd q hn) (fun q => by omega) (fun q => by omega) (fun q => by omega) (fun q => by omega) (fun q => by omega), fun _ => rfl⟩
 by_cases q3 : o.kind = 3
 ·obtain ⟨d', rk', σ', hc, hi', e, fr⟩ := in_det k m M d rk o.a o.b o.c σ hi hk
  obtain ⟨p1, p2⟩ := hx.insX (belR d.l rk) o.a o.b o.c
  exact ⟨d', rk', σ', _, _, tdo_fn m o d.next 0 _ σ' σ (fun _ => hnx) (fun q => by omega) (fun q => by omega) (fun q => by omega) (fun _ => hc) (fun q => by omega) (fun q => by omega) (fun q => by omega) (fun q => by omega) (fun q => by omega) (fun q => by omega) (fun q => by omega) (fun q => by omega) (fun q => by omega) (fun q => by omega) (fun q => absurd q3 q.2.2.1), ⟨hi', by rw [e]; exact p2⟩, rdo6_ix hh hk o s1 s2 _ 0 _ (fun q => by omega) (fun q => by omega) (fun q => by omega) (fun _ => pair_eq p1) (fun q => by omega) (fun q => by omega) (fun q => by omega) (fun q => by omega), fun hne => insX_err _ _ _ _ _ (by rw [p1]; exact hne)⟩
 by_cases q4 : o.kind = 4
 ·obtain ⟨d', rk', σ', hc, hi', e, fr⟩ := mv_det k m M d rk o.a o.b σ hi hk
  obtain ⟨p1, p2⟩ := hx.movX o.a o.b
  exact ⟨d', rk', σ', _, _, tdo_fn m o d.next 0 _ σ' σ (fun _ => hnx) (fun q => by omega) (fun q => by omega) (fun q => by omega) (fun q => by omega) (fun _ => hc) (fun q => by omega) (fun q => by omega) (fun q => by omega) (fun q => by omega) (fun q => by omega) (fun q => by omega) (fun q => by omega) (fun q => by omega) (fun q => by omega) (fun q => absurd q4 q.2.2.2.1), ⟨hi', by rw [e]; exact p2⟩, rdo6_ix hh hk o s1 s2 _ 0 _ (fun q => by omega) (fun q => by omega) (fun q => by omega) (fun q => by omega) (fun _ => pair_eq p1) (fun q => by omega) (fun q => by omega) (fun q => by omega), fun hne => movX_err _ _ _ (by rw [p1]; exact hne)⟩
 by_cases q5 : o.kind = 5
 ·obtain ⟨d', rk', σ', hc, hi', e, fr⟩ := rm_det k m M d rk o.a σ hi hk
  obtain ⟨p1, p2⟩ := hx.remX (belR (remP d.l o.a) rk) o.a
  exact ⟨d', rk', σ', _, _, tdo_fn m o d.next 0 _ σ' σ (fun _ => hnx) (fun q => by omega) (fun q => by omega) (fun q => by omega) (fun q => by omega) (fun q => by omega) (fun _ => hc) (fun q => by omega) (fun q => by omega) (fun q => by omega) (fun q => by omega) (fun q => by omega) (fun q => by omega) (fun q => by omega) (fun q => by omega) (fun q => absurd q5 q.2.2.2.2.1), ⟨hi', by rw [e]; exact p2⟩, rdo6_ix hh hk o s1 s2 _ 0 _ (fun q => by omega) (fun q => by omega) (fun q => by omega) (fun q => by omega) (fun q => by omega) (fun _ => pair_eq p1) (fun q => by omega) (fun q => by omega), fun hne => remX_err _ _ _ (by rw [p1]; exact hne)⟩
 by_cases q6 : o.kind = 6
 ·obtain ⟨d', rk', σ', hc, hi', e, fr⟩ := tag_det k m M d rk σ o.a o.name o.value o.c hi hk s1
  obtain ⟨p1, p2⟩ := hx.setX 0 o.a o.name o.value o.c
  exact ⟨d', rk', σ', _, _, tdo_fn m o d.next 0 _ σ' σ (fun _ => hnx) (fun q => by omega) (fun q => by omega) (fun q => by omega) (fun q => by omega) (fun q => by omega) (fun q => by omega) (fun _ => hc) (fun q => by omega) (fun q => by omega) (fun q => by omega) (fun q => by omega) (fun q => by omega) (fun q => by omega) (fun q => by omega) (fun q => absurd q6 q.2.2.2.2.2.1), ⟨hi', by rw [e]; exact p2⟩, rdo6_ix hh hk o s1 s2 _ 0 _ (fun q => by omega) (fun q => by omega) (fun q => by omega) (fun q => by omega) (fun q => by omega) (fun q => by omega) (fun q => by omega) (fun _ _ => by rw [show o.kind - 6 = 0 by omega]; exact pair_eq p1), fun hne => setX_err _ _ _ _ _ _ (by rw [p1]; exact hne)⟩
 by_cases q7 : o.kind = 7
 ·obtain ⟨d', rk', σ', hc, hi', e, fr⟩ := txt_det k m M d rk σ o.a o.name o.value o.c hi hk
  obtain ⟨p1, p2⟩ := hx.setX 1 o.a o.name o.value o.c
  exact ⟨d', rk', σ', _, _, tdo_fn m o d.next 0 _ σ' σ (fun _ => hnx) (fun q => by omega) (fun q => by omega) (fun q => by omega) (fun q => by omega) (fun q => by omega) (fun q => by omega) (fun q => by omega) (fun _ => hc) (fun q => by omega) (fun q => by omega) (fun q => by omega) (fun q => by omega) (fun q => by omega) (fun q => by omega) (fun q => absurd q7 q.2.2.2.2.2.2.1), ⟨hi', by rw [e]; exact p2⟩, rdo6_ix hh hk o s1 s2 _ 0 _ (fun q => by omega) (fun q => by omega) (fun q => by omega) (fun q => by omega) (fun q => by omega) (fun q => by omega) (fun q => by omega) (fun _ _ => by rw [show o.kind - 6 = 1 by omega]; exact pair_eq p1), fun hne => setX_err _ _ _ _ _ _ (by rw [p1]; exact hne)⟩
 by_cases q8 : o.kind = 8
 ·obtain ⟨d', rk', σ', hc, hi', e, fr⟩ := att_det k m M d rk σ o.a o.name o.value o.c hi hk s1
  obtain ⟨p1, p2⟩ := hx.setX 2 o.a o.name o.value o.c
  exact ⟨d', rk', σ', _, _, tdo_fn m o d.next 0 _ σ' σ (fun _ => hnx) (fun q => by omega) (fun q => by omega) (fun q => by omega) (fun q => by omega) (fun q => by omega) (fun q => by omega) (fun q => by omega) (fun q => by omega) (fun _ => hc) (fun q => by omega) (fun q => by omega) (fun q => by omega) (fun q => by omega) (fun q => by omega) (fun q => absurd q8 q.2.2.2.2.2.2.2.1), ⟨hi', by rw [e]; exact p2⟩, rdo6_ix hh hk o s1 s2 _ 0 _ (fun q => by omega) (fun q => by omega) (fun q => by omega) (fun q => by omega) (fun q => by omega) (fun q => by omega) (fun q => by omega) (fun _ _ => by rw [show o.kind - 6 = 2 by omega]; exact pair_eq p1), fun hne => setX_err _ _ _ _ _ _ (by rw [p1]; exact hne)⟩
 by_cases q9 : o.kind = 9
 ·obtain ⟨d', rk', σ', hc, hi', e, fr⟩ := datt_det k m M d rk σ o.a o.name o.value o.c hi hk s1
  obtain ⟨p1, p2⟩ := hx.setX 3 o.a o.name o.value o.c
  exact ⟨d', rk', σ', _, _, tdo_fn m o d.next 0 _ σ' σ (fun _ => hnx) (fun q => by omega) (fun q => by omega) (fun q => by omega) (fun q => by omega) (fun q => by omega) (fun q => by omega) (fun q => by omega) (fun q => by omega) (fun q => by omega) (fun _ => hc) (fun q => by omega) (fun q => by omega) (fun q => by omega) (fun q => by omega) (fun q => absurd q9 q.2.2.2.2.2.2.2.2.1), ⟨hi', by rw [e]; exact p2⟩, rdo6_ix hh hk o s1 s2 _ 0 _ (fun q => by omega) (fun q => by omega) (fun q => by omega) (fun q => by omega) (fun q => by omega) (fun q => by omega) (fun q => by omega) (fun _ _ => by rw [show o.kind - 6 = 3 by omega]; exact pair_eq p1), fun hne => setX_err _ _ _ _ _ _ (by rw [p1]; exact hne)⟩
 by_cases q10 : o.kind = 10
 ·obtain ⟨d', rk', σ', hc, hi', e, fr⟩ := sty_det k m M d rk σ o.a o.name o.value o.c hi hk s1
  obtain ⟨p1, p2⟩ := hx.setX 4 o.a o.name o.value o.c
  exact ⟨d', rk', σ', _, _, tdo_fn m o d.next 0 _ σ' σ (fun _ => hnx) (fun q => by omega) (fun q => by omega) (fun q => by omega) (fun q => by omega) (fun q => by omega) (fun q => by omega) (fun q => by omega) (fun q => by omega) (fun q => by omega) (fun q => by omega) (fun _ => hc) (fun q => by omega) (fun q => by omega) (fun q => by omega) (fun q => absurd q10 q.2.2.2.2.2.2.2.2.2.1), ⟨hi', by rw [e]; exact p2⟩, rdo6_ix hh hk o s1 s2 _ 0 _ (fun q => by omega) (fun q => by omega) (fun q => by omega) (fun q => by omega) (fun q => by omega) (fun q => by omega) (fun q => by omega) (fun _ _ => by rw [show o.kind - 6 = 4 by omega]; exact pair_eq p1), fun hne => setX_err _ _ _ _ _ _ (by rw [p1]; exact hne)⟩
 by_cases q11 : o.kind = 11
 ·obtain ⟨d', rk', σ', hc, hi', e, fr⟩ := dsty_det k m M d rk σ o.a o.name o.value o.c hi hk s1
  obtain ⟨p1, p2⟩ := hx.setX 5 o.a o.name o.value o.c
  exact ⟨d', rk', σ', _, _, tdo_fn m o d.next 0 _ σ' σ (fun _ => hnx) (fun q => by omega) (fun q => by omega) (fun q => by omega) (fun q => by omega) (fun q => by omega) (fun q => by omega) (fun q => by omega) (fun q => by omega) (fun q => by omega) (fun q => by omega) (fun q => by omega) (fun _ => hc) (fun q => by omega) (fun q => by omega) (fun q => absurd q11 q.2.2.2.2.2.2.2.2.2.2.1), ⟨hi', by rw [e]; exact p2⟩, rdo6_ix hh hk o s1 s2 _ 0 _ (fun q => by omega) (fun q => by omega) (fun q => by omega) (fun q => by omega) (fun q => by omega) (fun q => by omega) (fun q => by omega) (fun _ _ => by rw [show o.kind - 6 = 5 by omega]; exact pair_eq p1), fun hne => setX_err _ _ _ _ _ _ (by rw [p1]; exact hne)⟩
 by_cases q12 : o.kind = 12
 ·obtain ⟨d', rk', σ', hc, hi', e, fr⟩ := acls_det k m M d rk σ o.a o.name o.value o.c hi hk s1
  obtain ⟨p1, p2⟩ := hx.setX 6 o.a o.name o.value o.c
  exact ⟨d', rk', σ', _, _, tdo_fn m o d.next 0 _ σ' σ (fun _ => hnx) (fun q => by omega) (fun q => by omega) (fun q => by omega) (fun q => by omega) (fun q => by omega) (fun q => by omega) (fun q => by omega) (fun q => by omega) (fun q => by omega) (fun q => by omega) (fun q => by omega) (fun q => by omega) (fun _ => hc) (fun q => by omega) (fun q => absurd q12 q.2.2.2.2.2.2.2.2.2.2.2.1), ⟨hi', by rw [e]; exact p2⟩, rdo6_ix hh hk o s1 s2 _ 0 _ (fun q => by omega) (fun q => by omega) (fun q => by omega) (fun q => by omega) (fun q => by omega) (fun q => by omega) (fun q => by omega) (fun _ _ => by rw [show o.kind - 6 = 6 by omega]; exact pair_eq p1), fun hne => setX_err _ _ _ _ _ _ (by rw [p1]; exact hne)⟩
 by_cases q13 : o.kind = 13
 ·obtain ⟨d', rk', σ', hc, hi', e, fr⟩ := dcls_det k m M d rk σ o.a o.name o.value o.c 7 (by decide) hi hk s1
  obtain ⟨p1, p2⟩ := hx.setX 7 o.a o.name o.value o.c
  exact ⟨d', rk', σ', _, _, tdo_fn m o d.next 0 _ σ' σ (fun _ => hnx) (fun q => by omega) (fun q => by omega) (fun q => by omega) (fun q => by omega) (fun q => by omega) (fun q => by omega) (fun q => by omega) (fun q => by omega) (fun q => by omega) (fun q => by omega) (fun q => by omega) (fun q => by omega) (fun q => by omega) (fun _ => hc) (fun q => absurd q13 q.2.2.2.2.2.2.2.2.2.2.2.2), ⟨hi', by rw [e]; exact p2⟩, rdo6_ix hh hk o s1 s2 _ 0 _ (fun q => by omega) (fun q => by omega) (fun q => by omega) (fun q => by omega) (fun q => by omega) (fun q => by omega) (fun q => by omega) (fun _ _ => by rw [show o.kind - 6 = 7 by omega]; exact pair_eq p1), fun hne => setX_err _ _ _ _ _ _ (by rw [p1]; exact hne)⟩
 have hb : o.kind < 1 ∨ 13 < o.kind := by omega
 exact ⟨d, rk, σ, x, 14, tdo_fn m o d.next 0 14 σ σ (fun _ => hnx) (fun q => by omega) (fun q => by omega) (fun q => by omega) (fun q => by omega) (fun q => by omega) (fun q => by omega) (fun q => by omega) (fun q => by omega) (fun q => by omega) (fun q => by omega) (fun q => by omega) (fun q => by omega) (fun q => by omega) (fun q => by omega) (fun _ => ⟨rfl, rfl⟩), hh.mono, rdo6_ix hh hk o s1 s2 _ 0 _ (fun q => by omega) (fun q => by omega) (fun q => by omega) (fun q => by omega) (fun q => by omega) (fun q => by omega) (fun _ => ⟨rfl, rfl⟩) (fun q q' => by omega), fun _ => rfl⟩
theorem tdo_row (m M : Nat) : ∀ (ops : List TOp) (k : Nat) (d : DS) (rk : Int → Nat) (x : RD) (σ : List (List D)), IX k m M d rk x σ → k + ops.length ≤ 800 → (∀ o ∈ ops, o.name.size ≤ 1000 ∧ o.value.size ≤ 1000) →
  ∃ (ss : Nat → List (List D)) (xs : Nat → RD) (cs : Nat → Int), ss 0 = σ ∧ xs 0 = x ∧ (∀ i, i ≤ ops.length → ∃ d rk, IX (k + i) m M d rk (xs i) (ss i)) ∧
   ∀ i (h : i < ops.length), Ct Tryz.prog 75 [d_TOp ops[i], .ref m 0] (ss i) (fun r τ => r = D.int (cs i) ∧ τ = ss (i + 1)) ∧ (∀ τ, Ct Tryz.prog 30 [d_RD (xs i), d_TOp ops[i]] τ (fun r τ' => r = .tup [d_RD (xs (i + 1)), D.int (cs i)] ∧ τ' = τ)) ∧ (¬ cs i = 0 → xs (i + 1) = xs i)
 | [], k, d, rk, x, σ, h, _, _ => by
  refine ⟨fun _ => σ, fun _ => x, fun _ => 0, rfl, rfl, fun i hi => ⟨d, rk, ?_⟩, fun i hi => absurd hi (by simp)⟩
  obtain rfl : i = 0 := by simpa using hi
  exact h
 | o :: ops, k, d, rk, x, σ, h, hk, hs => by
  simp only [List.length_cons] at hk
  obtain ⟨d', rk', σ', y, c, c1, c2, c3, c4⟩ := tdo_det h (by omega) o (hs o (by simp)).1 (hs o (by simp)).2
  obtain ⟨ss, xs, cs, a1, a2, a3, a4⟩ := tdo_row m M ops (k + 1) d' rk' y σ' c2 (by omega) fun p hp => hs p (by simp [hp])
  refine ⟨fun i => match i with | 0 => σ | i + 1 => ss i, fun i => match i with | 0 => x | i + 1 => xs i, fun i => match i with | 0 => c | i + 1 => cs i, rfl, rfl, fun i hi => ?_, fun i hi => ?_⟩
  ·cases i with
   | zero => exact ⟨d, rk, h⟩
   | succ i =>
    obtain ⟨d2, rk2, h2⟩ := a3 i (by simpa using hi)
    exact ⟨d2, rk2, by rw [show k + (i + 1) = k + 1 + i by omega]; exact h2⟩
  ·cases i with
   | zero =>
    simp only [List.getElem_cons_zero, a1, a2]
    exact ⟨c1, c3, c4⟩
   | succ i =>
    simp only [List.getElem_cons_succ]
    exact a4 i (by simpa using hi)
theorem first_bad (cs : Nat → Int) : ∀ n : Nat, ∃ J, J ≤ n ∧ (∀ i, i < J → cs i = 0) ∧ (J < n → ¬ cs J = 0)
 | 0 => ⟨0, Nat.le_refl _, fun i h => absurd h (by omega), fun h => absurd h (by omega)⟩
 | n + 1 => by
  obtain ⟨J, h1, h2, h3⟩ := first_bad cs n
  by_cases e : J < n
  ·exact ⟨J, by omega, h2, fun _ => h3 e⟩
  ·obtain rfl : J = n := by omega
   by_cases e2 : cs J = 0
   ·exact ⟨J + 1, Nat.le_refl _, fun i hi => by
     rcases Nat.lt_succ_iff_lt_or_eq.1 hi with h | rfl
     ·exact h2 i h
     ·exact e2, fun h => absurd h (by omega)⟩
   ·exact ⟨J, by omega, h2, fun _ => e2⟩
theorem row_end {k m M : Nat} {d : DS} {rk : Int → Nat} {x : RD} {σ : List (List D)} (h : IX k m M d rk x σ) (ops : List TOp) (hk : k + ops.length ≤ 700) (hs : ∀ o ∈ ops, o.name.size ≤ 1000 ∧ o.value.size ≤ 1000) :
  ∃ d' rk' y σ' J c, Ct Tryz.prog 35 [.ref m 0, .sl false (ops.map d_TOp)] σ (fun r τ => r = .tup [D.int J, D.int c] ∧ τ = σ') ∧ (∀ τ, Ct Tryz.prog 36 [d_RD x, .sl false (ops.map d_TOp)] τ (fun r τ' => r = .tup [d_RD y, D.int J, D.int c] ∧ τ' = τ)) ∧ IX (k + ops.length + 1) m M d' rk' y σ' := by
 obtain ⟨ss, xs, cs, rfl, rfl, a3, a4⟩ := tdo_row m M ops k d rk x σ h (by omega) hs
 obtain ⟨J, j1, j2, j3⟩ := first_bad cs ops.length
 have hl : ops.length ≤ 100000 := by omega
 have r1 := replay_fn m J ops cs ss hl j1 j2 j3 fun i hi _ => (a4 i hi).1
 have r2 := fun τ => rreplay_fn J ops cs xs τ hl j1 j2 j3 fun i hi _ => (a4 i hi).2.1
 have mono : ∀ {j n : Nat} {d : DS} {rk : Int → Nat} {x : RD} {σ : List (List D)}, j ≤ n → IX j m M d rk x σ → IX n m M d rk x σ := fun hjn hh => ⟨⟨hh.iv.ho, hh.iv.ip.mono hjn, hh.iv.wt⟩, hh.xp⟩
 by_cases e : J < ops.length
 ·obtain ⟨d', rk', hx⟩ := a3 (J + 1) (by omega)
  rw [(a4 J e).2.2 (j3 e)] at hx
  rw [if_pos e, if_pos e] at r1
  simp only [if_pos e] at r2
  exact ⟨d', rk', _, _, _, _, r1, r2, mono (by omega) hx⟩
 ·obtain ⟨d', rk', hx⟩ := a3 J j1
  rw [if_neg e, if_neg e] at r1
  simp only [if_neg e] at r2
  exact ⟨d', rk', _, _, _, _, r1, r2, mono (by omega) hx⟩
end Go.Proofs.YtpfmpeaekgdgnaaGreat
namespace Go.Proofs.YtpfmpeaekgdgnaaGreat
open Go Go.Vm
set_option maxRecDepth 20000
set_option linter.all false
set_option maxHeartbeats 8000000
def tidyO (o : TOp) : TOp := { o with name := (tidy ⟨0, 0, 0, 0, o.name, o.value⟩).name, value := (tidy ⟨0, 0, 0, 0, o.name, o.value⟩).value }
theorem tops_sz (l : List TOp) : ∀ o ∈ l.map tidyO, o.name.size ≤ 1000 ∧ o.value.size ≤ 1000 := fun o ho => by
 obtain ⟨p, _, rfl⟩ := List.mem_map.1 ho
 have := tidy_len ⟨0, 0, 0, 0, p.name, p.value⟩
 exact ⟨by simp only [tidyO]; omega, by simp only [tidyO]; omega⟩
def tops (ops : List TOp) (k : Nat) : List D := ((ops.take k).map tidyO).map d_TOp
theorem tops_0 (ops : List TOp) : tops ops 0 = [] := rfl
theorem tops_succ (ops : List TOp) (k : Nat) (h : k < ops.length) : tops ops (k + 1) = tops ops k ++ [d_TOp (tidyO ops[k])] := by
 unfold tops; rw [take_snoc ops k h, List.map_append, List.map_append]; rfl
theorem tops_len (ops : List TOp) (k : Nat) : (tops ops k).length ≤ k := by
 unfold tops; rw [List.length_map, List.length_map, List.length_take]; omega
theorem tko_ok (ops : List TOp) (k : Nat) : (∀ d : D, d ∈ tops ops k → d.ncells = 6) ↔ True :=
 ⟨fun _ => trivial, fun _ d hd => by
  obtain ⟨o, _, rfl⟩ := List.mem_map.1 hd; rfl⟩
theorem ocut_ok {ops : List TOp} (ha : ∀ a ∈ ops, a.name.size ≤ 9223372036854775807 ∧ a.value.size ≤ 9223372036854775807) {k : Nat} (hk : k < ops.length) : ops[k].name.size ≤ 9223372036854775807 ∧ ops[k].value.size ≤ 9223372036854775807 := ha _ (List.getElem_mem hk)
theorem lawOps_fn (ops : List TOp) (σ : List (List D)) (hl : ops.length ≤ 9223372036854775807) (ha : ∀ a ∈ ops, a.name.size ≤ 9223372036854775807 ∧ a.value.size ≤ 9223372036854775807) : Ct Tryz.prog 9 [.sl false (ops.map d_TOp)] σ (fun r σ' => r = .bool true) := by
 refine zf (rs:=[.tmp 2]) Tryz.func9 Tryz.ntmps9 Tryz.results9 ?_
 simp only [argEnv]
 refine zr ⟨[3,4,42,45,46,49],[],[],[],[]⟩ fun _ _ Z=>?_
 simp (disch:=omega)[tko_ok,or_imp,forall_and]
 and_intros<;>try omega
 apply Z
 apply awp_seq
 refine zr ⟨[3,4,42,45,46,49],[],[],[],[]⟩ fun _ _ Z=>?_
 refine vcL_step fun _ Y=>?_
 simp (disch:=omega)[tko_ok,or_imp,forall_and]
 refine zcm (awake6_fn _) ?_
 rintro _ σ1 hr9
 subst hr9
 apply Y
 simp (disch:=omega)[tko_ok,or_imp,forall_and]
 and_intros<;>try omega
 apply Z
 refine zi ?_
 refine ⟨fun c1=>?_,fun c1=>?_⟩
 ·simp at c1
 ·try simp at c1
  apply awp_skip
  apply q_then_n
  refine zr ⟨[3,4,42,45,46,49],[],[],[],[]⟩ fun _ _ Z=>?_
  simp (disch:=omega)[tko_ok,or_imp,forall_and]
  and_intros<;>try omega
  apply Z
  refine zr ⟨[3,4,42,45,46,49],[],[],[],[]⟩ fun _ _ Z=>?_
  simp (disch:=omega)[tko_ok,or_imp,forall_and]
  and_intros<;>try omega
  apply Z
  apply awp_seq
  refine zr ⟨[3,4,42,45,46,49],[],[],[],[]⟩ fun _ _ Z=>?_
  simp (disch:=omega)[tko_ok,or_imp,forall_and]
  and_intros<;>try omega
  apply Z
  apply awp_block
  refine zk [0,2,3,4,5] ?_
  refine awp_loopL (fun (k : Nat) => [(5, .d (.v (.int .i64 (k : Int)))), (3, .d (.sl true (tops ops k))), (4, .d (.sl true (tops ops k)))]) (fun (k : Nat) => []) [3, 4, 5, 6, 7, 16, 17, 18, 19, 20, 21, 22, 23, 24, 25, 26, 27, 28, 29, 30, 31, 32, 33, 34, 35, 36, 37, 38, 39, 40, 41, 42, 43, 44, 45, 46, 47, 48, 49] (fun (k : Nat) => k ≤ ops.length ∧ k ≤ 30) (fun (k : Nat) => ops.length - k) (0) (by simp <;> rfl) ?_ (by simp) ?_ ?_
  ·simp [tops_0]
  ·simp
  rintro k ⟨hk, hk3⟩
  simp only [List.cons_append, List.nil_append]
  have htk := tops_len ops k
  have htl : ((ops.take k).map tidyO).length ≤ 30 := by simp only [List.length_map, List.length_take]; omega
  apply awp_seq
  refine zrg ⟨[3,4,42,45,46,49],[],[],[],[]⟩ fun all hall _ Z=>?_
  have ga4 : guardOf all 4 = some 20 := hall 4
  refine vcL_split 5 fun _ Y=>?_
  simp (disch:=omega)[tko_ok,or_imp,forall_and,ga4]
  and_intros<;>try omega
  apply Y
  simp only [List.drop]
  refine vcL_bool 20 (by simp <;> rfl) ?_
  refine ⟨fun g2 => ?_, fun g2 => ?_⟩
  ·try simp at g2
   simp (disch:=omega)[tko_ok,or_imp,forall_and,ga4]
   and_intros<;>try omega
   apply Z
   refine zi ?_
   refine ⟨fun c3=>?_,fun c3=>?_⟩
   ·try simp at c3
    apply awp_skip
    apply q_then_n
    apply awp_seq
    apply awp_block
    refine zk [0,2,3,4,5] ?_
    refine zr ⟨[3,4,42,45,46,49],[],[],[],[]⟩ fun _ _ Z=>?_
    simp (disch:=omega)[tko_ok,or_imp,forall_and]
    and_intros<;>try omega
    apply Z
    refine zr ⟨[3,4,42,45,46,49],[],[],[],[]⟩ fun _ _ Z=>?_
    refine vcL_split 5 fun _ Y=>?_
    simp (disch:=omega)[tko_ok,or_imp,forall_and]
    and_intros<;>try omega
    apply Y
    simp only [List.drop]
    refine vcL_step fun _ Y=>?_
    simp (disch:=omega)[tko_ok,or_imp,forall_and]
    refine zce (tidy_fn ⟨0, 0, 0, 0, ops[k].name, ops[k].value⟩ _ (ocut_ok ha (by omega)).1 (ocut_ok ha (by omega)).2) ?_
    apply Y
    simp (disch:=omega)[tko_ok,or_imp,forall_and]
    and_intros<;>try omega
    apply Z
    refine awp_freezeBox 7 1 (by simp <;> rfl) (by simp <;> rfl) (by simp) ?_
    simp only [List.map_cons, List.map_nil, s1_v, s1_sl]
    refine zk [0,2,3,4,5,6,7] ?_
    refine zd ⟨[3,4,42,45,46,49],[],[],[],[]⟩ [.op {},.op {},.op {},.op {},.op {},.op {rL:=true,wL:=true},.op {},.op {rL:=true,wL:=true}] fun all hall _ Z=>?_
    simp (disch:=omega)[tko_ok,or_imp,forall_and]
    and_intros<;>try omega
    apply Z
    refine zk [0,2,3,4,5,6] ?_
    refine ze ⟨[3,4,42,45,46,49],[],[],[],[]⟩ [.op {},.op {rL:=true},.op {},.op {},.op {},.op {rL:=true},.op {},.op {},.op {},.op {}] fun all hall _ Z=>?_
    refine vcDL_split 8 (by simp) fun _ Y=>?_
    simp (disch:=omega)[tko_ok,or_imp,forall_and]
    and_intros<;>try omega
    apply Y
    simp only [List.drop]
    simp (disch:=omega)[tko_ok,or_imp,forall_and]
    and_intros<;>try omega
    apply Z
    apply q_block_n
    apply q_then_n
    refine zk [0,2,3,4,5] ?_
    refine zt ⟨[3,4,42,45,46,49],[],[],[],[]⟩ fun _ _ Z=>?_
    simp (disch:=omega)[tko_ok,or_imp,forall_and]
    and_intros<;>try omega
    apply Z
    refine q_round (k + 1) ?_ ?_ (weak_mkA rfl ?_ (by simp) (by simp))
    ·omega
    ·try dsimp only
     omega
    ·simp (disch:=omega)[tko_ok,or_imp,forall_and,tops_succ ops k (by omega),tidyO]
   ·try simp at c3
    apply awp_exit
    apply q_then_e
    apply q_loop_e
    apply q_block_e
    apply q_then_n
    refine zk [2,3,4] ?_
    refine zr ⟨[3,4,42,45,46,49],[],[],[],[]⟩ fun _ _ Z=>?_
    refine vcL_step fun _ Y=>?_
    simp (disch:=omega)[tko_ok,or_imp,forall_and]
    refine zcm (anew_fn 12 _) ?_
    rintro _ τ0 ⟨hr9, hs9⟩
    subst hr9
    obtain ⟨m, M, dd, rk0, hm0, hx0, hi0⟩ := new_ix _ _ _ hs9
    rw [hm0]
    clear hs9 hm0
    apply Y
    simp (disch:=omega)[tko_ok,or_imp,forall_and]
    and_intros<;>try omega
    apply Z
    apply awp_seq
    refine zr ⟨[3,4,42,45,46,49],[],[],[],[]⟩ fun _ _ Z=>?_
    simp (disch:=omega)[tko_ok,or_imp,forall_and]
    and_intros<;>try omega
    apply Z
    refine zi ?_
    refine ⟨fun c4=>?_,fun c4=>?_⟩
    ·simp at c4
    ·try simp at c4
     apply awp_skip
     apply q_then_n
     refine zr ⟨[3,4,42,45,46,49],[],[],[],[]⟩ fun _ _ Z=>?_
     refine vcL_split 2 fun _ Y=>?_
     simp (disch:=omega)[tko_ok,or_imp,forall_and]
     and_intros<;>try omega
     apply Y
     simp only [List.drop]
     refine vcL_step fun _ Y=>?_
     simp (disch:=omega)[tko_ok,or_imp,forall_and]
     obtain ⟨d2, rk2, y2, σ2, J, cc, hr1, hr2, hx2⟩ := row_end hi0 ((ops.take k).map tidyO) (by omega) (tops_sz _)
     refine zce (hr1) ?_
     apply Y
     simp (disch:=omega)[tko_ok,or_imp,forall_and]
     and_intros<;>try omega
     apply Z
     refine zk [2,4,8,9,10] ?_
     refine zr ⟨[3,4,42,45,46,49],[],[],[],[]⟩ fun _ _ Z=>?_
     refine vcL_step fun _ Y=>?_
     simp (disch:=omega)[tko_ok,or_imp,forall_and]
     refine zce (new5_fn 12 _) ?_
     apply Y
     refine vcL_split 1 fun _ Y=>?_
     simp (disch:=omega)[tko_ok,or_imp,forall_and]
     and_intros<;>try omega
     apply Y
     simp only [List.drop]
     refine vcL_step fun _ Y=>?_
     simp (disch:=omega)[tko_ok,or_imp,forall_and]
     refine zce (hr2 _) ?_
     apply Y
     simp (disch:=omega)[tko_ok,or_imp,forall_and]
     and_intros<;>try omega
     apply Z
     refine zk [2,8,9,10,11,12,13] ?_
     refine zrg ⟨[3,4,42,45,46,49],[],[],[],[]⟩ fun all hall _ Z=>?_
     have ga3 : guardOf all 3 = some 69 := hall 3
     have ga8 : guardOf all 8 = some 74 := hall 8
     refine vcL_split 4 fun _ Y=>?_
     simp (disch:=omega)[tko_ok,or_imp,forall_and,ga3,ga8]
     and_intros<;>try omega
     apply Y
     simp only [List.drop]
     refine vcL_bool 69 (by simp <;> rfl) ?_
     refine ⟨fun g5 => ?_, fun g5 => ?_⟩
     ·try simp at g5
      refine vcL_split 5 fun _ Y=>?_
      simp (disch:=omega)[tko_ok,or_imp,forall_and,ga3,ga8]
      and_intros<;>try omega
      apply Y
      simp only [List.drop]
      refine vcL_bool 74 (by simp <;> rfl) ?_
      refine ⟨fun g6 => ?_, fun g6 => ?_⟩
      ·try simp at g6
       refine vcL_split 2 fun _ Y=>?_
       simp (disch:=omega)[tko_ok,or_imp,forall_and,ga3,ga8]
       and_intros<;>try omega
       apply Y
       simp only [List.drop]
       refine zg ga8 fun _ Y=>?_
       simp (disch:=omega)[tko_ok,or_imp,forall_and,ga3,ga8]
       refine zce (is_fn _ m M d2 rk2 y2 _ hx2 (by omega)) ?_
       apply Y
       simp (disch:=omega)[tko_ok,or_imp,forall_and,ga3,ga8]
       and_intros<;>try omega
       apply Z
       apply awp_ret
       simp [endQ]
      ·simp at g6
     ·simp at g5
  ·try simp at g2
   simp (disch:=omega)[tko_ok,or_imp,forall_and,ga4]
   and_intros<;>try omega
   apply Z
   refine awp_cond (t := false) (by simp) (fun h => by cases h) (fun _ => ?_)
   apply awp_exit
   apply q_then_e
   apply q_loop_e
   apply q_block_e
   apply q_then_n
   refine zk [2,3,4] ?_
   refine zr ⟨[3,4,42,45,46,49],[],[],[],[]⟩ fun _ _ Z=>?_
   refine vcL_step fun _ Y=>?_
   simp (disch:=omega)[tko_ok,or_imp,forall_and]
   refine zcm (anew_fn 12 _) ?_
   rintro _ τ0 ⟨hr9, hs9⟩
   subst hr9
   obtain ⟨m, M, dd, rk0, hm0, hx0, hi0⟩ := new_ix _ _ _ hs9
   rw [hm0]
   clear hs9 hm0
   apply Y
   simp (disch:=omega)[tko_ok,or_imp,forall_and]
   and_intros<;>try omega
   apply Z
   apply awp_seq
   refine zr ⟨[3,4,42,45,46,49],[],[],[],[]⟩ fun _ _ Z=>?_
   simp (disch:=omega)[tko_ok,or_imp,forall_and]
   and_intros<;>try omega
   apply Z
   refine zi ?_
   refine ⟨fun c7=>?_,fun c7=>?_⟩
   ·simp at c7
   ·try simp at c7
    apply awp_skip
    apply q_then_n
    refine zr ⟨[3,4,42,45,46,49],[],[],[],[]⟩ fun _ _ Z=>?_
    refine vcL_split 2 fun _ Y=>?_
    simp (disch:=omega)[tko_ok,or_imp,forall_and]
    and_intros<;>try omega
    apply Y
    simp only [List.drop]
    refine vcL_step fun _ Y=>?_
    simp (disch:=omega)[tko_ok,or_imp,forall_and]
    obtain ⟨d2, rk2, y2, σ2, J, cc, hr1, hr2, hx2⟩ := row_end hi0 ((ops.take k).map tidyO) (by omega) (tops_sz _)
    refine zce (hr1) ?_
    apply Y
    simp (disch:=omega)[tko_ok,or_imp,forall_and]
    and_intros<;>try omega
    apply Z
    refine zk [2,4,8,9,10] ?_
    refine zr ⟨[3,4,42,45,46,49],[],[],[],[]⟩ fun _ _ Z=>?_
    refine vcL_step fun _ Y=>?_
    simp (disch:=omega)[tko_ok,or_imp,forall_and]
    refine zce (new5_fn 12 _) ?_
    apply Y
    refine vcL_split 1 fun _ Y=>?_
    simp (disch:=omega)[tko_ok,or_imp,forall_and]
    and_intros<;>try omega
    apply Y
    simp only [List.drop]
    refine vcL_step fun _ Y=>?_
    simp (disch:=omega)[tko_ok,or_imp,forall_and]
    refine zce (hr2 _) ?_
    apply Y
    simp (disch:=omega)[tko_ok,or_imp,forall_and]
    and_intros<;>try omega
    apply Z
    refine zk [2,8,9,10,11,12,13] ?_
    refine zrg ⟨[3,4,42,45,46,49],[],[],[],[]⟩ fun all hall _ Z=>?_
    have ga3 : guardOf all 3 = some 69 := hall 3
    have ga8 : guardOf all 8 = some 74 := hall 8
    refine vcL_split 4 fun _ Y=>?_
    simp (disch:=omega)[tko_ok,or_imp,forall_and,ga3,ga8]
    and_intros<;>try omega
    apply Y
    simp only [List.drop]
    refine vcL_bool 69 (by simp <;> rfl) ?_
    refine ⟨fun g8 => ?_, fun g8 => ?_⟩
    ·try simp at g8
     refine vcL_split 5 fun _ Y=>?_
     simp (disch:=omega)[tko_ok,or_imp,forall_and,ga3,ga8]
     and_intros<;>try omega
     apply Y
     simp only [List.drop]
     refine vcL_bool 74 (by simp <;> rfl) ?_
     refine ⟨fun g9 => ?_, fun g9 => ?_⟩
     ·try simp at g9
      refine vcL_split 2 fun _ Y=>?_
      simp (disch:=omega)[tko_ok,or_imp,forall_and,ga3,ga8]
      and_intros<;>try omega
      apply Y
      simp only [List.drop]
      refine zg ga8 fun _ Y=>?_
      simp (disch:=omega)[tko_ok,or_imp,forall_and,ga3,ga8]
      refine zce (is_fn _ m M d2 rk2 y2 _ hx2 (by omega)) ?_
      apply Y
      simp (disch:=omega)[tko_ok,or_imp,forall_and,ga3,ga8]
      and_intros<;>try omega
      apply Z
      apply awp_ret
      simp [endQ]
     ·simp at g9
    ·simp at g8
end Go.Proofs.YtpfmpeaekgdgnaaGreat


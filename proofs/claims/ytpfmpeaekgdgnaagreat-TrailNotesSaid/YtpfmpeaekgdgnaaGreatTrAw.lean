import Derived.Test.YtpfmpeaekgdgnaaGreatWkTr2
import Derived.Test.YtpfmpeaekgdgnaaGreatArAw
namespace Go.Proofs.YtpfmpeaekgdgnaaGreat
open Go Go.Vm
set_option linter.all false
set_option maxHeartbeats 1000000
structure LX (k m M l : Nat) (d : DS) (rk : Int → Nat) (x : RD) (ops : List TOp) (σ : List (List D)) : Prop where
 ix : IX k m M d rk x σ
 off : Off m d l
 at_ : σ[l]? = some (lcel m ops)
 len : ops.length ≤ k
variable {k m M l : Nat} {d d' : DS} {rk rk' : Int → Nat} {σ σ2 : List (List D)} {x y : RD} {ops : List TOp}
theorem LX.step (h : LX k m M l d rk x ops σ) (hi : IX (k + 1) m M d' rk' y σ2) (fr : FrO m d d' σ σ2) : σ2[l]? = some (lcel m ops) ∧ ∀ c o, LX (k + 1) m M l d' rk' y (nto ops c o) (nt l m ops c o σ2) := by
 obtain ⟨o1, o2⟩ := h.off.step (og_lt h.at_) fr
 rw [h.at_] at o2
 refine ⟨o2, fun c o => ⟨?_, o1, nt_get o2, by have := nto_len ops c o; have := h.len; omega⟩⟩
 unfold nt; split
 ·exact hi.put o1 _
 ·exact hi
theorem LX.keep (h : LX k m M l d rk x ops σ) : LX (k + 1) m M l d rk x ops σ := ⟨h.ix.mono, h.off, h.at_, by have := h.len; omega⟩
theorem rdo6_ix (h : IX k m M d rk x σ) (hk : k ≤ 800) (o : TOp) (s1 : o.name.size ≤ 1000) (s2 : o.value.size ≤ 1000) (y : RD) (n c : Int) :
  (q1 : (o.kind = 1 ∨ o.kind = 2) → ¬ x.next = o.a → y = x ∧ c = 1) → (q2 : o.kind = 1 → x.next = o.a → addX x 2 o.name = (y, n, c)) → (q3 : o.kind = 2 → x.next = o.a → addX x 1 o.value = (y, n, c)) → (q4 : o.kind = 3 → insX x (belR d.l rk) o.a o.b o.c = (y, c)) → (q5 : o.kind = 4 → movX x o.a o.b = (y, c)) →
  (q6 : o.kind = 5 → remX x (belR (remP d.l o.a) rk) o.a = (y, c)) → (q7 : o.kind < 1 ∨ 13 < o.kind → y = x ∧ c = 14) → (q8 : 6 ≤ o.kind → o.kind ≤ 13 → setX x (o.kind - 6) o.a o.name o.value o.c = (y, c)) → ∀ τ, Ct Tryz.prog 30 [d_RD x, d_TOp o] τ (fun r τ' => r = .tup [d_RD y, D.int c] ∧ τ' = τ) := by
 obtain ⟨hi, hx⟩ := h
 obtain ⟨b1, b2, b3⟩ := hi.bounds (by omega)
 have hnb : NB x.l := hx.nb (hi.ip.NB (by omega))
 have htr : Tr d.l (belR d.l rk) rk := hi.wt.Tr (by have := hi.ip.len; rw [l_len]; omega)
 have htr1 : Tr x.l (belR d.l rk) rk := htr.perm hx.fd
 have htr2 : Tr (remP x.l o.a) (belR (remP d.l o.a) rk) rk := (rem_Tr hi.wt (by have := hi.ip.len; rw [l_len]; omega) _).perm (findD_perm (hx.remP _) (by rw [remP_ids]; exact hx.nd))
 have hnx : 0 ≤ x.next ∧ x.next ≤ 1000000 := by rw [hx.next]; exact b3
 exact fun q1 q2 q3 q4 q5 q6 q7 q8 τ => rdo6_fn x y o n c (belR d.l rk) (belR (remP d.l o.a) rk) rk τ hnb hnx htr1 htr2 (fun i => by rw [hx.fd]; exact kid_le hi hk i) (fun i => by rw [hx.fd]; exact kid_nd hi i) (fun i => by rw [hx.fd]; exact srt_a hi i) (fun i => by rw [hx.fd]; exact srt_p hi i) s1 s2 q1 q2 q3 q4 q5 q6 q7 q8
def asked (x : RD) (a : Act) (o : TOp) : TOp := if a.kind < 2 then { o with a := x.next } else o
theorem call_det (a : Act) (hkn : (0 ≤ a.kind ∧ a.kind ≤ 4) ∨ (10 ≤ a.kind ∧ a.kind ≤ 17)) (h : LX k m M l d rk x ops σ) (hk : k ≤ 800) (h1 : a.name.size ≤ 1000) (h2 : a.value.size ≤ 1000) :
  ∃ d' rk' σ' y n c, Ct Tryz.prog 29 [.ref l 0, d_Act a] σ (fun r τ => r = .tup [d_TOp (opA a n), D.int c] ∧ τ = σ') ∧ LX (k + 1) m M l d' rk' y (nto ops c (opA a n)) σ' ∧ ∀ τ, Ct Tryz.prog 30 [d_RD x, d_TOp (asked x a (opA a n))] τ (fun r τ' => r = .tup [d_RD y, D.int c] ∧ τ' = τ) := by
 have hh := h
 obtain ⟨⟨hi, hx⟩, hoff, hat, hlen⟩ := h
 have hl : ops.length ≤ 100000 := by omega
 have e0 : (⟨#[]⟩ : ByteArray).size ≤ 1000 := by decide
 by_cases q0 : a.kind = 0
 ·obtain ⟨d', rk', σ', hc, hi', e, fr⟩ := el_det k m M d rk a.name σ hi hk (by omega)
  obtain ⟨p1, p2⟩ := hx.addX hi.ip.lt 2 a.name
  obtain ⟨o2, st⟩ := hh.step ⟨hi', by rw [e]; exact p2⟩ fr
  have ho : ∀ n : Int, opA a n = ⟨1, n, 0, 0, a.name, ⟨#[]⟩⟩ := fun n => by unfold opA; rw [if_pos q0]
  refine ⟨d', rk', _, _, (addX d.x 2 a.name).2.1, _, call0_fn l a (addX d.x 2 a.name).2.1 _ _ σ (fun _ => lElement_fn l m ops a.name _ _ σ' σ hat hc o2 hl) (fun q => by omega) (fun q => by omega) (fun q => by omega) (fun q => by omega) (fun q => by omega) (fun q => by omega) (fun q => by omega) (fun q => by omega) (fun q => by omega) (fun q => by omega) (fun q => by omega) (fun q => absurd q0 q.1), (by rw [ho]; exact st _ _), ?_⟩
  rw [ho]
  unfold asked; rw [if_pos (by omega)]
  exact rdo6_ix ⟨hi, hx⟩ hk _ (by first | exact h1 | exact e0) (by first | exact h2 | exact e0) _ _ _ (fun _ q => absurd rfl q) (fun _ _ => pair_eq p1) (fun q _ => by simp at q) (fun q => by simp at q) (fun q => by simp at q) (fun q => by simp at q) (fun q => by simp at q) (fun q => by simp at q)
 by_cases q1 : a.kind = 1
 ·obtain ⟨d', rk', σ', hc, hi', e, fr⟩ := tx_det k m M d rk a.value σ hi hk
  obtain ⟨p1, p2⟩ := hx.addX hi.ip.lt 1 a.value
  obtain ⟨o2, st⟩ := hh.step ⟨hi', by rw [e]; exact p2⟩ fr
  have ho : ∀ n : Int, opA a n = ⟨2, n, 0, 0, ⟨#[]⟩, a.value⟩ := fun n => by unfold opA; rw [if_neg q0, if_pos q1]
  refine ⟨d', rk', _, _, (addX d.x 1 a.value).2.1, _, call0_fn l a (addX d.x 1 a.value).2.1 _ _ σ (fun q => by omega) (fun _ => lText_fn l m ops a.value _ _ σ' σ hat hc o2 hl) (fun q => by omega) (fun q => by omega) (fun q => by omega) (fun q => by omega) (fun q => by omega) (fun q => by omega) (fun q => by omega) (fun q => by omega) (fun q => by omega) (fun q => by omega) (fun q => absurd q1 q.2.1), (by rw [ho]; exact st _ _), ?_⟩
  rw [ho]
  unfold asked; rw [if_pos (by omega)]
  exact rdo6_ix ⟨hi, hx⟩ hk _ (by first | exact h1 | exact e0) (by first | exact h2 | exact e0) _ _ _ (fun _ q => absurd rfl q) (fun q _ => by simp at q) (fun _ _ => pair_eq p1) (fun q => by simp at q) (fun q => by simp at q) (fun q => by simp at q) (fun q => by simp at q) (fun q => by simp at q)
 by_cases q2 : a.kind = 2
 ·obtain ⟨d', rk', σ', hc, hi', e, fr⟩ := in_det k m M d rk a.a a.b a.c σ hi hk
  obtain ⟨p1, p2⟩ := hx.insX (belR d.l rk) a.a a.b a.c
  obtain ⟨o2, st⟩ := hh.step ⟨hi', by rw [e]; exact p2⟩ fr
  have ho : ∀ n : Int, opA a n = ⟨3, a.a, a.b, a.c, ⟨#[]⟩, ⟨#[]⟩⟩ := fun n => by unfold opA; rw [if_neg q0, if_neg q1, if_pos q2]
  refine ⟨d', rk', _, _, 0, _, call0_fn l a 0 _ _ σ (fun q => by omega) (fun q => by omega) (fun _ => lInsert_fn l m ops a.a a.b a.c _ σ' σ hat hc o2 hl) (fun q => by omega) (fun q => by omega) (fun q => by omega) (fun q => by omega) (fun q => by omega) (fun q => by omega) (fun q => by omega) (fun q => by omega) (fun q => by omega) (fun q => absurd q2 q.2.2.1), (by rw [ho]; exact st _ _), ?_⟩
  rw [ho]
  unfold asked; rw [if_neg (by omega)]
  exact rdo6_ix ⟨hi, hx⟩ hk _ (by first | exact h1 | exact e0) (by first | exact h2 | exact e0) _ 0 _ (fun q _ => by simp at q) (fun q _ => by simp at q) (fun q _ => by simp at q) (fun _ => pair_eq p1) (fun q => by simp at q) (fun q => by simp at q) (fun q => by simp at q) (fun q => by simp at q)
 by_cases q3 : a.kind = 3
 ·obtain ⟨d', rk', σ', hc, hi', e, fr⟩ := mv_det k m M d rk a.a a.b σ hi hk
  obtain ⟨p1, p2⟩ := hx.movX a.a a.b
  obtain ⟨o2, st⟩ := hh.step ⟨hi', by rw [e]; exact p2⟩ fr
  have ho : ∀ n : Int, opA a n = ⟨4, a.a, a.b, 0, ⟨#[]⟩, ⟨#[]⟩⟩ := fun n => by unfold opA; rw [if_neg q0, if_neg q1, if_neg q2, if_pos q3]
  refine ⟨d', rk', _, _, 0, _, call0_fn l a 0 _ _ σ (fun q => by omega) (fun q => by omega) (fun q => by omega) (fun _ => lMove_fn l m ops a.a a.b _ σ' σ hat hc o2 hl) (fun q => by omega) (fun q => by omega) (fun q => by omega) (fun q => by omega) (fun q => by omega) (fun q => by omega) (fun q => by omega) (fun q => by omega) (fun q => absurd q3 q.2.2.2.1), (by rw [ho]; exact st _ _), ?_⟩
  rw [ho]
  unfold asked; rw [if_neg (by omega)]
  exact rdo6_ix ⟨hi, hx⟩ hk _ (by first | exact h1 | exact e0) (by first | exact h2 | exact e0) _ 0 _ (fun q _ => by simp at q) (fun q _ => by simp at q) (fun q _ => by simp at q) (fun q => by simp at q) (fun _ => pair_eq p1) (fun q => by simp at q) (fun q => by simp at q) (fun q => by simp at q)
 by_cases q4 : a.kind = 4
 ·obtain ⟨d', rk', σ', hc, hi', e, fr⟩ := rm_det k m M d rk a.a σ hi hk
  obtain ⟨p1, p2⟩ := hx.remX (belR (remP d.l a.a) rk) a.a
  obtain ⟨o2, st⟩ := hh.step ⟨hi', by rw [e]; exact p2⟩ fr
  have ho : ∀ n : Int, opA a n = ⟨5, a.a, 0, 0, ⟨#[]⟩, ⟨#[]⟩⟩ := fun n => by unfold opA; rw [if_neg q0, if_neg q1, if_neg q2, if_neg q3, if_pos q4]
  refine ⟨d', rk', _, _, 0, _, call0_fn l a 0 _ _ σ (fun q => by omega) (fun q => by omega) (fun q => by omega) (fun q => by omega) (fun _ => lRemove_fn l m ops a.a _ σ' σ hat hc o2 hl) (fun q => by omega) (fun q => by omega) (fun q => by omega) (fun q => by omega) (fun q => by omega) (fun q => by omega) (fun q => by omega) (fun q => absurd q4 q.2.2.2.2.1), (by rw [ho]; exact st _ _), ?_⟩
  rw [ho]
  unfold asked; rw [if_neg (by omega)]
  exact rdo6_ix ⟨hi, hx⟩ hk _ (by first | exact h1 | exact e0) (by first | exact h2 | exact e0) _ 0 _ (fun q _ => by simp at q) (fun q _ => by simp at q) (fun q _ => by simp at q) (fun q => by simp at q) (fun q => by simp at q) (fun _ => pair_eq p1) (fun q => by simp at q) (fun q => by simp at q)
 by_cases q5 : a.kind = 10
 ·obtain ⟨d', rk', σ', hc, hi', e, fr⟩ := tag_det k m M d rk σ a.a a.name ⟨#[]⟩ 0 hi hk (by omega)
  obtain ⟨p1, p2⟩ := hx.setX 0 a.a a.name ⟨#[]⟩ 0
  obtain ⟨o2, st⟩ := hh.step ⟨hi', by rw [e]; exact p2⟩ fr
  have ho : ∀ n : Int, opA a n = ⟨6, a.a, 0, 0, a.name, ⟨#[]⟩⟩ := fun n => by unfold opA; rw [if_neg q0, if_neg q1, if_neg q2, if_neg q3, if_neg q4, if_pos q5]
  refine ⟨d', rk', _, _, 0, _, call0_fn l a 0 _ _ σ (fun q => by omega) (fun q => by omega) (fun q => by omega) (fun q => by omega) (fun q => by omega) (fun _ => lSetTag_fn l m ops a.a a.name _ σ' σ hat hc o2 hl) (fun q => by omega) (fun q => by omega) (fun q => by omega) (fun q => by omega) (fun q => by omega) (fun q => by omega) (fun q => absurd q5 q.2.2.2.2.2.1), (by rw [ho]; exact st _ _), ?_⟩
  rw [ho]
  unfold asked; rw [if_neg (by omega)]
  exact rdo6_ix ⟨hi, hx⟩ hk _ (by first | exact h1 | exact e0) (by first | exact h2 | exact e0) _ 0 _ (fun q _ => by simp at q) (fun q _ => by simp at q) (fun q _ => by simp at q) (fun q => by simp at q) (fun q => by simp at q) (fun q => by simp at q) (fun q => by simp at q) (fun _ _ => pair_eq p1)
 by_cases q6 : a.kind = 11
 ·obtain ⟨d', rk', σ', hc, hi', e, fr⟩ := txt_det k m M d rk σ a.a ⟨#[]⟩ a.value 0 hi hk
  obtain ⟨p1, p2⟩ := hx.setX 1 a.a ⟨#[]⟩ a.value 0
  obtain ⟨o2, st⟩ := hh.step ⟨hi', by rw [e]; exact p2⟩ fr
  have ho : ∀ n : Int, opA a n = ⟨7, a.a, 0, 0, ⟨#[]⟩, a.value⟩ := fun n => by unfold opA; rw [if_neg q0, if_neg q1, if_neg q2, if_neg q3, if_neg q4, if_neg q5, if_pos q6]
  refine ⟨d', rk', _, _, 0, _, call0_fn l a 0 _ _ σ (fun q => by omega) (fun q => by omega) (fun q => by omega) (fun q => by omega) (fun q => by omega) (fun q => by omega) (fun _ => lSetText_fn l m ops a.a a.value _ σ' σ hat hc o2 hl) (fun q => by omega) (fun q => by omega) (fun q => by omega) (fun q => by omega) (fun q => by omega) (fun q => absurd q6 q.2.2.2.2.2.2.1), (by rw [ho]; exact st _ _), ?_⟩
  rw [ho]
  unfold asked; rw [if_neg (by omega)]
  exact rdo6_ix ⟨hi, hx⟩ hk _ (by first | exact h1 | exact e0) (by first | exact h2 | exact e0) _ 0 _ (fun q _ => by simp at q) (fun q _ => by simp at q) (fun q _ => by simp at q) (fun q => by simp at q) (fun q => by simp at q) (fun q => by simp at q) (fun q => by simp at q) (fun _ _ => pair_eq p1)
 by_cases q7 : a.kind = 12
 ·obtain ⟨d', rk', σ', hc, hi', e, fr⟩ := att_det k m M d rk σ a.a a.name a.value 0 hi hk (by omega)
  obtain ⟨p1, p2⟩ := hx.setX 2 a.a a.name a.value 0
  obtain ⟨o2, st⟩ := hh.step ⟨hi', by rw [e]; exact p2⟩ fr
  have ho : ∀ n : Int, opA a n = ⟨8, a.a, 0, 0, a.name, a.value⟩ := fun n => by unfold opA; rw [if_neg q0, if_neg q1, if_neg q2, if_neg q3, if_neg q4, if_neg q5, if_neg q6, if_pos q7]
  refine ⟨d', rk', _, _, 0, _, call0_fn l a 0 _ _ σ (fun q => by omega) (fun q => by omega) (fun q => by omega) (fun q => by omega) (fun q => by omega) (fun q => by omega) (fun q => by omega) (fun _ => lSetAttr_fn l m ops a.a a.name a.value _ σ' σ hat hc o2 hl) (fun q => by omega) (fun q => by omega) (fun q => by omega) (fun q => by omega) (fun q => absurd q7 q.2.2.2.2.2.2.2.1), (by rw [ho]; exact st _ _), ?_⟩
  rw [ho]
  unfold asked; rw [if_neg (by omega)]
  exact rdo6_ix ⟨hi, hx⟩ hk _ (by first | exact h1 | exact e0) (by first | exact h2 | exact e0) _ 0 _ (fun q _ => by simp at q) (fun q _ => by simp at q) (fun q _ => by simp at q) (fun q => by simp at q) (fun q => by simp at q) (fun q => by simp at q) (fun q => by simp at q) (fun _ _ => pair_eq p1)
 by_cases q8 : a.kind = 13
 ·obtain ⟨d', rk', σ', hc, hi', e, fr⟩ := datt_det k m M d rk σ a.a a.name ⟨#[]⟩ 0 hi hk (by omega)
  obtain ⟨p1, p2⟩ := hx.setX 3 a.a a.name ⟨#[]⟩ 0
  obtain ⟨o2, st⟩ := hh.step ⟨hi', by rw [e]; exact p2⟩ fr
  have ho : ∀ n : Int, opA a n = ⟨9, a.a, 0, 0, a.name, ⟨#[]⟩⟩ := fun n => by unfold opA; rw [if_neg q0, if_neg q1, if_neg q2, if_neg q3, if_neg q4, if_neg q5, if_neg q6, if_neg q7, if_pos q8]
  refine ⟨d', rk', _, _, 0, _, call0_fn l a 0 _ _ σ (fun q => by omega) (fun q => by omega) (fun q => by omega) (fun q => by omega) (fun q => by omega) (fun q => by omega) (fun q => by omega) (fun q => by omega) (fun _ => lDropAttr_fn l m ops a.a a.name _ σ' σ hat hc o2 hl) (fun q => by omega) (fun q => by omega) (fun q => by omega) (fun q => absurd q8 q.2.2.2.2.2.2.2.2.1), (by rw [ho]; exact st _ _), ?_⟩
  rw [ho]
  unfold asked; rw [if_neg (by omega)]
  exact rdo6_ix ⟨hi, hx⟩ hk _ (by first | exact h1 | exact e0) (by first | exact h2 | exact e0) _ 0 _ (fun q _ => by simp at q) (fun q _ => by simp at q) (fun q _ => by simp at q) (fun q => by simp at q) (fun q => by simp at q) (fun q => by simp at q) (fun q => by simp at q) (fun _ _ => pair_eq p1)
 by_cases q9 : a.kind = 14
 ·obtain ⟨d', rk', σ', hc, hi', e, fr⟩ := sty_det k m M d rk σ a.a a.name ⟨#[]⟩ a.c hi hk (by omega)
  obtain ⟨p1, p2⟩ := hx.setX 4 a.a a.name ⟨#[]⟩ a.c
  obtain ⟨o2, st⟩ := hh.step ⟨hi', by rw [e]; exact p2⟩ fr
  have ho : ∀ n : Int, opA a n = ⟨10, a.a, 0, a.c, a.name, ⟨#[]⟩⟩ := fun n => by unfold opA; rw [if_neg q0, if_neg q1, if_neg q2, if_neg q3, if_neg q4, if_neg q5, if_neg q6, if_neg q7, if_neg q8, if_pos q9]
  refine ⟨d', rk', _, _, 0, _, call0_fn l a 0 _ _ σ (fun q => by omega) (fun q => by omega) (fun q => by omega) (fun q => by omega) (fun q => by omega) (fun q => by omega) (fun q => by omega) (fun q => by omega) (fun q => by omega) (fun _ => lSetStyle_fn l m ops a.a a.name a.c _ σ' σ hat hc o2 hl) (fun q => by omega) (fun q => by omega) (fun q => absurd q9 q.2.2.2.2.2.2.2.2.2.1), (by rw [ho]; exact st _ _), ?_⟩
  rw [ho]
  unfold asked; rw [if_neg (by omega)]
  exact rdo6_ix ⟨hi, hx⟩ hk _ (by first | exact h1 | exact e0) (by first | exact h2 | exact e0) _ 0 _ (fun q _ => by simp at q) (fun q _ => by simp at q) (fun q _ => by simp at q) (fun q => by simp at q) (fun q => by simp at q) (fun q => by simp at q) (fun q => by simp at q) (fun _ _ => pair_eq p1)
 by_cases q10 : a.kind = 15
 ·obtain ⟨d', rk', σ', hc, hi', e, fr⟩ := dsty_det k m M d rk σ a.a a.name ⟨#[]⟩ 0 hi hk (by omega)
  obtain ⟨p1, p2⟩ := hx.setX 5 a.a a.name ⟨#[]⟩ 0
  obtain ⟨o2, st⟩ := hh.step ⟨hi', by rw [e]; exact p2⟩ fr
  have ho : ∀ n : Int, opA a n = ⟨11, a.a, 0, 0, a.name, ⟨#[]⟩⟩ := fun n => by unfold opA; rw [if_neg q0, if_neg q1, if_neg q2, if_neg q3, if_neg q4, if_neg q5, if_neg q6, if_neg q7, if_neg q8, if_neg q9, if_pos q10]
  refine ⟨d', rk', _, _, 0, _, call0_fn l a 0 _ _ σ (fun q => by omega) (fun q => by omega) (fun q => by omega) (fun q => by omega) (fun q => by omega) (fun q => by omega) (fun q => by omega) (fun q => by omega) (fun q => by omega) (fun q => by omega) (fun _ => lDropStyle_fn l m ops a.a a.name _ σ' σ hat hc o2 hl) (fun q => by omega) (fun q => absurd q10 q.2.2.2.2.2.2.2.2.2.2.1), (by rw [ho]; exact st _ _), ?_⟩
  rw [ho]
  unfold asked; rw [if_neg (by omega)]
  exact rdo6_ix ⟨hi, hx⟩ hk _ (by first | exact h1 | exact e0) (by first | exact h2 | exact e0) _ 0 _ (fun q _ => by simp at q) (fun q _ => by simp at q) (fun q _ => by simp at q) (fun q => by simp at q) (fun q => by simp at q) (fun q => by simp at q) (fun q => by simp at q) (fun _ _ => pair_eq p1)
 by_cases q11 : a.kind = 16
 ·obtain ⟨d', rk', σ', hc, hi', e, fr⟩ := acls_det k m M d rk σ a.a a.name ⟨#[]⟩ 0 hi hk (by omega)
  obtain ⟨p1, p2⟩ := hx.setX 6 a.a a.name ⟨#[]⟩ 0
  obtain ⟨o2, st⟩ := hh.step ⟨hi', by rw [e]; exact p2⟩ fr
  have ho : ∀ n : Int, opA a n = ⟨12, a.a, 0, 0, a.name, ⟨#[]⟩⟩ := fun n => by unfold opA; rw [if_neg q0, if_neg q1, if_neg q2, if_neg q3, if_neg q4, if_neg q5, if_neg q6, if_neg q7, if_neg q8, if_neg q9, if_neg q10, if_pos q11]
  refine ⟨d', rk', _, _, 0, _, call0_fn l a 0 _ _ σ (fun q => by omega) (fun q => by omega) (fun q => by omega) (fun q => by omega) (fun q => by omega) (fun q => by omega) (fun q => by omega) (fun q => by omega) (fun q => by omega) (fun q => by omega) (fun q => by omega) (fun _ => lAddClass_fn l m ops a.a a.name _ σ' σ hat hc o2 hl) (fun q => absurd q11 q.2.2.2.2.2.2.2.2.2.2.2), (by rw [ho]; exact st _ _), ?_⟩
  rw [ho]
  unfold asked; rw [if_neg (by omega)]
  exact rdo6_ix ⟨hi, hx⟩ hk _ (by first | exact h1 | exact e0) (by first | exact h2 | exact e0) _ 0 _ (fun q _ => by simp at q) (fun q _ => by simp at q) (fun q _ => by simp at q) (fun q => by simp at q) (fun q => by simp at q) (fun q => by simp at q) (fun q => by simp at q) (fun _ _ => pair_eq p1)
 have q12 : a.kind = 17 := by omega
 obtain ⟨d', rk', σ', hc, hi', e, fr⟩ := dcls_det k m M d rk σ a.a a.name ⟨#[]⟩ 0 7 (by decide) hi hk (by omega)
 obtain ⟨p1, p2⟩ := hx.setX 7 a.a a.name ⟨#[]⟩ 0
 obtain ⟨o2, st⟩ := hh.step ⟨hi', by rw [e]; exact p2⟩ fr
 have ho : ∀ n : Int, opA a n = ⟨13, a.a, 0, 0, a.name, ⟨#[]⟩⟩ := fun n => by unfold opA; rw [if_neg q0, if_neg q1, if_neg q2, if_neg q3, if_neg q4, if_neg q5, if_neg q6, if_neg q7, if_neg q8, if_neg q9, if_neg q10, if_neg q11]
 refine ⟨d', rk', _, _, 0, _, call0_fn l a 0 _ _ σ (fun q => by omega) (fun q => by omega) (fun q => by omega) (fun q => by omega) (fun q => by omega) (fun q => by omega) (fun q => by omega) (fun q => by omega) (fun q => by omega) (fun q => by omega) (fun q => by omega) (fun q => by omega) (fun _ => lDropClass_fn l m ops a.a a.name _ σ' σ hat hc o2 hl), (by rw [ho]; exact st _ _), ?_⟩
 rw [ho]
 unfold asked; rw [if_neg (by omega)]
 exact rdo6_ix ⟨hi, hx⟩ hk _ (by first | exact h1 | exact e0) (by first | exact h2 | exact e0) _ 0 _ (fun q _ => by simp at q) (fun q _ => by simp at q) (fun q _ => by simp at q) (fun q => by simp at q) (fun q => by simp at q) (fun q => by simp at q) (fun q => by simp at q) (fun _ _ => pair_eq p1)
end Go.Proofs.YtpfmpeaekgdgnaaGreat
namespace Go.Proofs.YtpfmpeaekgdgnaaGreat
open Go Go.Vm
set_option linter.all false
set_option maxHeartbeats 1000000
abbrev op1 : TOp := ⟨1, 1, 0, 0, pB, ⟨#[]⟩⟩
abbrev op2 : TOp := ⟨3, 0, 0, 1, ⟨#[]⟩, ⟨#[]⟩⟩
theorem aw_log {m M l : Nat} {d : DS} {rk : Int → Nat} {τ : List (List D)} (h0 : IX 0 m M d rk (newX 3) τ) (hx : d.x = newX 3) (ho : Off m d l) (hat : τ[l]? = some (lcel m [])) :
  ∃ σ1 σ2, Ct Tryz.prog 40 [.ref m 0, D.str pB] τ (fun r τ' => r = .tup [D.int 1, D.int 0] ∧ τ' = σ1) ∧ σ1[l]? = some (lcel m []) ∧ Ct Tryz.prog 41 [.ref m 0, D.int 0, D.int 0, D.int 1] (nt l m [] 0 op1 σ1) (fun r τ' => r = D.int 0 ∧ τ' = σ2) ∧ (nt l m [] 0 op1 σ1)[l]? = some (lcel m [op1]) ∧ σ2[l]? = some (lcel m [op1]) ∧ (nt l m [op1] 0 op2 σ2)[l]? = some (lcel m [op1, op2]) := by
 have hL : LX 0 m M l d rk (newX 3) [] τ := ⟨h0, ho, hat, Nat.le_refl _⟩
 obtain ⟨d1, rk1, σ1, c1, i1, e1, f1⟩ := el_det 0 m M d rk pB τ h0.iv (by omega) (by decide)
 rw [hx, aw_add] at c1 e1
 obtain ⟨o1, st1⟩ := hL.step (y := awX) ⟨i1, by rw [e1]; exact XP.refl (by decide)⟩ f1
 have L1 := st1 0 op1
 have hl1 : d1.l = awX.l := l_of e1
 obtain ⟨d2, rk2, σ2, c2, i2, e2, f2⟩ := in_det 1 m M d1 rk1 0 0 1 _ L1.ix.iv (by omega)
 rw [e1, hl1, aw_ins (bel := belR awX.l rk1) (fun id => belR_eq (hl1 ▸ i1.wt.Dec) id)] at c2 e2
 obtain ⟨o2, st2⟩ := L1.step (y := awY) ⟨i2, by rw [e2]; exact XP.refl (by decide)⟩ f2
 exact ⟨σ1, σ2, c1, o1, c2, L1.at_, o2, (st2 0 op2).at_⟩
end Go.Proofs.YtpfmpeaekgdgnaaGreat


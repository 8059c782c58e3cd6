import Derived.Test.YtpfmpeaekgdgnaaGreatWkAr16
namespace Go.Proofs.YtpfmpeaekgdgnaaGreat
open Go Go.Vm
set_option linter.all false
set_option maxHeartbeats 1000000
variable {k m M : Nat} {d : DS} {rk : Int → Nat} {σ : List (List D)} {x : RD}
theorem change_det (a : Act) (h : IV k m M d rk σ) (hk : k ≤ 800) (hs : a.name.size ≤ 1000) (hb : 10 ≤ a.kind ∧ a.kind ≤ 17) : DetQ 50 [.ref m 0, d_Act a] σ d k m M (setX d.x (a.kind - 10) a.a a.name a.value a.c) := by
 by_cases q0 : a.kind = 10
 ·obtain ⟨d', rk', σ', hc, hi, e, fr⟩ := tag_det k m M d rk σ a.a a.name a.value a.c h hk hs
  rw [show a.kind - 10 = 0 by omega]
  exact ⟨d', rk', σ', change0_fn m a _ σ' σ hb (fun _ => hc) (fun q => by omega) (fun q => by omega) (fun q => by omega) (fun q => by omega) (fun q => by omega) (fun q => by omega) (fun q => by omega), hi, e, fr⟩
 by_cases q1 : a.kind = 11
 ·obtain ⟨d', rk', σ', hc, hi, e, fr⟩ := txt_det k m M d rk σ a.a a.name a.value a.c h hk
  rw [show a.kind - 10 = 1 by omega]
  exact ⟨d', rk', σ', change0_fn m a _ σ' σ hb (fun q => by omega) (fun _ => hc) (fun q => by omega) (fun q => by omega) (fun q => by omega) (fun q => by omega) (fun q => by omega) (fun q => by omega), hi, e, fr⟩
 by_cases q2 : a.kind = 12
 ·obtain ⟨d', rk', σ', hc, hi, e, fr⟩ := att_det k m M d rk σ a.a a.name a.value a.c h hk hs
  rw [show a.kind - 10 = 2 by omega]
  exact ⟨d', rk', σ', change0_fn m a _ σ' σ hb (fun q => by omega) (fun q => by omega) (fun _ => hc) (fun q => by omega) (fun q => by omega) (fun q => by omega) (fun q => by omega) (fun q => by omega), hi, e, fr⟩
 by_cases q3 : a.kind = 13
 ·obtain ⟨d', rk', σ', hc, hi, e, fr⟩ := datt_det k m M d rk σ a.a a.name a.value a.c h hk hs
  rw [show a.kind - 10 = 3 by omega]
  exact ⟨d', rk', σ', change0_fn m a _ σ' σ hb (fun q => by omega) (fun q => by omega) (fun q => by omega) (fun _ => hc) (fun q => by omega) (fun q => by omega) (fun q => by omega) (fun q => by omega), hi, e, fr⟩
 by_cases q4 : a.kind = 14
 ·obtain ⟨d', rk', σ', hc, hi, e, fr⟩ := sty_det k m M d rk σ a.a a.name a.value a.c h hk hs
  rw [show a.kind - 10 = 4 by omega]
  exact ⟨d', rk', σ', change0_fn m a _ σ' σ hb (fun q => by omega) (fun q => by omega) (fun q => by omega) (fun q => by omega) (fun _ => hc) (fun q => by omega) (fun q => by omega) (fun q => by omega), hi, e, fr⟩
 by_cases q5 : a.kind = 15
 ·obtain ⟨d', rk', σ', hc, hi, e, fr⟩ := dsty_det k m M d rk σ a.a a.name a.value a.c h hk hs
  rw [show a.kind - 10 = 5 by omega]
  exact ⟨d', rk', σ', change0_fn m a _ σ' σ hb (fun q => by omega) (fun q => by omega) (fun q => by omega) (fun q => by omega) (fun q => by omega) (fun _ => hc) (fun q => by omega) (fun q => by omega), hi, e, fr⟩
 by_cases q6 : a.kind = 16
 ·obtain ⟨d', rk', σ', hc, hi, e, fr⟩ := acls_det k m M d rk σ a.a a.name a.value a.c h hk hs
  rw [show a.kind - 10 = 6 by omega]
  exact ⟨d', rk', σ', change0_fn m a _ σ' σ hb (fun q => by omega) (fun q => by omega) (fun q => by omega) (fun q => by omega) (fun q => by omega) (fun q => by omega) (fun _ => hc) (fun q => by omega), hi, e, fr⟩
 ·obtain ⟨d', rk', σ', hc, hi, e, fr⟩ := dcls_det k m M d rk σ a.a a.name a.value a.c (a.kind - 10) (by omega) h hk hs
  exact ⟨d', rk', σ', change0_fn m a _ σ' σ hb (fun q => by omega) (fun q => by omega) (fun q => by omega) (fun q => by omega) (fun q => by omega) (fun q => by omega) (fun q => by omega) (fun _ => hc), hi, e, fr⟩
theorem pair_eq {α β : Type} {p : α × β} {c : β} (h : p.2 = c) : p = (p.1, c) := by rw [← h]
theorem do_det (a : Act) (h : IX k m M d rk x σ) (hk : k ≤ 800) (h1 : a.name.size ≤ 9223372036854775807) (h2 : a.value.size ≤ 9223372036854775807) :
  ∃ d' rk' σ' y, Ct Tryz.prog 14 [.ref m 0, d_RD x, d_Act a] σ (fun r τ => r = .tup [d_RD y, .bool true] ∧ τ = σ') ∧ IX (k + 1) m M d' rk' y σ' ∧ Nx d.x d'.x ∧ FrO m d d' σ σ' := by
 obtain ⟨hi, hx⟩ := h
 obtain ⟨t1, t2⟩ := tidy_len a
 obtain ⟨b1, b2, b3⟩ := hi.bounds (by omega)
 have hnb : NB x.l := hx.nb (hi.ip.NB (by omega))
 have htr : Tr d.l (belR d.l rk) rk := hi.wt.Tr (by have := hi.ip.len; rw [l_len]; omega)
 have htr1 : Tr x.l (belR d.l rk) rk := htr.perm hx.fd
 have htr2 : Tr (remP x.l (tidy a).a) (belR (remP d.l (tidy a).a) rk) rk := (rem_Tr hi.wt (by have := hi.ip.len; rw [l_len]; omega) _).perm (findD_perm (hx.remP _) (by rw [remP_ids]; exact hx.nd))
 have hnx : 0 ≤ x.next ∧ x.next ≤ 1000000 := by rw [hx.next]; exact b3
 have hkl : ∀ i, (findD x.l i).kids.length ≤ 900 := fun i => by rw [hx.fd]; exact kid_le hi hk i
 have hkn : ∀ i, (findD x.l i).kids.Nodup := fun i => by rw [hx.fd]; exact kid_nd hi i
 have hsa : ∀ i, Sorted nA (findD x.l i).attrs := fun i => by rw [hx.fd]; exact srt_a hi i
 have hss : ∀ i, Sorted nP (findD x.l i).styles := fun i => by rw [hx.fd]; exact srt_p hi i
 have W := fun (y : RD) (n c : Int) (σ2 : List (List D)) => do0_fn m x y n c a (belR d.l rk) (belR (remP d.l (tidy a).a) rk) rk σ2 σ hnb hnx htr1 htr2 hkl hkn hsa hss
 by_cases q0 : (tidy a).kind = 0
 ·obtain ⟨d', rk', σ', hc, hi', e, fr⟩ := el_det k m M d rk (tidy a).name σ hi hk (by omega)
  obtain ⟨p1, p2⟩ := hx.addX hi.ip.lt 2 (tidy a).name
  exact ⟨d', rk', σ', _, W _ _ _ σ' (fun _ => ⟨hc, pair_eq p1⟩) (fun q => by omega) (fun q => by omega) (fun q => by omega) (fun q => by omega) (fun q => by omega) (fun q => by omega) h1 h2, ⟨hi', by rw [e]; exact p2⟩, by rw [e]; exact nx_addX _ _ _, fr⟩
 by_cases q1 : (tidy a).kind = 1
 ·obtain ⟨d', rk', σ', hc, hi', e, fr⟩ := tx_det k m M d rk (tidy a).value σ hi hk
  obtain ⟨p1, p2⟩ := hx.addX hi.ip.lt 1 (tidy a).value
  exact ⟨d', rk', σ', _, W _ _ _ σ' (fun q => by omega) (fun _ => ⟨hc, pair_eq p1⟩) (fun q => by omega) (fun q => by omega) (fun q => by omega) (fun q => by omega) (fun q => by omega) h1 h2, ⟨hi', by rw [e]; exact p2⟩, by rw [e]; exact nx_addX _ _ _, fr⟩
 by_cases q2 : (tidy a).kind = 2
 ·obtain ⟨d', rk', σ', hc, hi', e, fr⟩ := in_det k m M d rk (tidy a).a (tidy a).b (tidy a).c σ hi hk
  obtain ⟨p1, p2⟩ := hx.insX (belR d.l rk) (tidy a).a (tidy a).b (tidy a).c
  exact ⟨d', rk', σ', _, W _ 0 _ σ' (fun q => by omega) (fun q => by omega) (fun _ => ⟨hc, pair_eq p1⟩) (fun q => by omega) (fun q => by omega) (fun q => by omega) (fun q => by omega) h1 h2, ⟨hi', by rw [e]; exact p2⟩, by rw [e]; exact nx_insX _ _ _ _ _, fr⟩
 by_cases q3 : (tidy a).kind = 3
 ·obtain ⟨d', rk', σ', hc, hi', e, fr⟩ := mv_det k m M d rk (tidy a).a (tidy a).b σ hi hk
  obtain ⟨p1, p2⟩ := hx.movX (tidy a).a (tidy a).b
  exact ⟨d', rk', σ', _, W _ 0 _ σ' (fun q => by omega) (fun q => by omega) (fun q => by omega) (fun _ => ⟨hc, pair_eq p1⟩) (fun q => by omega) (fun q => by omega) (fun q => by omega) h1 h2, ⟨hi', by rw [e]; exact p2⟩, by rw [e]; exact nx_movX _ _ _, fr⟩
 by_cases q4 : (tidy a).kind = 4
 ·obtain ⟨d', rk', σ', hc, hi', e, fr⟩ := rm_det k m M d rk (tidy a).a σ hi hk
  obtain ⟨p1, p2⟩ := hx.remX (belR (remP d.l (tidy a).a) rk) (tidy a).a
  exact ⟨d', rk', σ', _, W _ 0 _ σ' (fun q => by omega) (fun q => by omega) (fun q => by omega) (fun q => by omega) (fun _ => ⟨hc, pair_eq p1⟩) (fun q => by omega) (fun q => by omega) h1 h2, ⟨hi', by rw [e]; exact p2⟩, by rw [e]; exact nx_remX _ _ _, fr⟩
 by_cases q5 : 10 ≤ (tidy a).kind ∧ (tidy a).kind ≤ 17
 ·obtain ⟨d', rk', σ', hc, hi', e, fr⟩ := change_det (tidy a) hi hk (by omega) q5
  obtain ⟨p1, p2⟩ := hx.setX ((tidy a).kind - 10) (tidy a).a (tidy a).name (tidy a).value (tidy a).c
  exact ⟨d', rk', σ', _, W _ 0 _ σ' (fun q => by omega) (fun q => by omega) (fun q => by omega) (fun q => by omega) (fun q => by omega) (fun _ => ⟨hc, pair_eq p1⟩) (fun q => by omega) h1 h2, ⟨hi', by rw [e]; exact p2⟩, by rw [e]; exact nx_setX _ _ _ _ _ _, fr⟩
 ·exact ⟨d, rk, σ, x, W x 0 0 σ (fun q => by omega) (fun q => by omega) (fun q => by omega) (fun q => by omega) (fun q => by omega) (fun q => by omega) (fun _ => ⟨rfl, rfl⟩) h1 h2, ⟨hi.mono, hx⟩, Nx.refl _, FrO.refl _ _ _⟩
end Go.Proofs.YtpfmpeaekgdgnaaGreat
namespace Go.Proofs.YtpfmpeaekgdgnaaGreat
open Go Go.Vm
set_option linter.all false
set_option maxHeartbeats 1000000
abbrev pB : ByteArray := ⟨#[112]⟩
def awA : ND := ⟨1, 2, pB, ⟨#[]⟩, [], [], [], -1, []⟩
def awB : ND := ⟨1, 2, pB, ⟨#[]⟩, [], [], [], 0, []⟩
def awR : ND := ⟨0, 2, ⟨#[114, 111, 111, 116]⟩, ⟨#[]⟩, [], [], [], -1, [1]⟩
def awX : RD := ⟨3, 2, [rootN, awA]⟩
def awY : RD := ⟨3, 2, [awR, awB]⟩
theorem aw_name : nameB pB = true := by decide
theorem aw_add : addX (newX 3) 2 pB = (awX, 1, 0) := by
 unfold addX
 rw [aw_name]
 rfl
theorem fX0 : findD awX.l 0 = rootN := rfl
theorem fX1 : findD awX.l 1 = awA := rfl
theorem fY0 : findD awY.l 0 = awR := rfl
theorem fY1 : findD awY.l 1 = awB := rfl
theorem aw_ins {bel : Int → List Int} (h : ∀ id, bel id = id :: (findD awX.l id).kids.flatMap bel) : insX awX bel 0 0 1 = (awY, 0) := by
 have hb : bel 1 = [1] := by rw [h, fX1]; rfl
 have hw : withB awX.l bel 0 1 = false := by unfold withB; rw [hb]; rfl
 unfold insX
 rw [hw, fX0, fX1]
 rfl
theorem aw_ins2 (bel : Int → List Int) : insX awY bel 0 0 1 = (awY, 1) := by
 unfold insX
 rw [fY0, fY1]
 rw [if_neg (by decide), if_neg (by decide), if_pos]
 exact .inr (.inl (by decide))
theorem aw_ord {rk : Int → Nat} (hd : Dec awY.l rk) : belR awY.l rk 0 = [0, 1] := by
 rw [belR_eq hd, fY0]
 show (0 : Int) :: ([1] : List Int).flatMap (belR awY.l rk) = [0, 1]
 rw [List.flatMap_cons, List.flatMap_nil, List.append_nil, belR_eq hd, fY1]
 rfl
theorem l_of {d : DS} {x : RD} (h : d.x = x) : d.l = x.l := by rw [← h]
theorem aw_steps {m M : Nat} {d : DS} {rk : Int → Nat} {τ : List (List D)} (h0 : IV 0 m M d rk τ) (hx : d.x = newX 3) : ∃ σ1 σ2 σ3, Ct Tryz.prog 40 [.ref m 0, D.str pB] τ (fun r τ' => r = .tup [D.int 1, D.int 0] ∧ τ' = σ1) ∧ Ct Tryz.prog 41 [.ref m 0, D.int 0, D.int 0, D.int 1] σ1 (fun r τ' => r = D.int 0 ∧ τ' = σ2) ∧
  Ct Tryz.prog 22 [.ref m 0, D.int 1] σ2 (fun r τ' => r = .tup [d_ND awB, .bool true] ∧ τ' = σ2) ∧ Ct Tryz.prog 41 [.ref m 0, D.int 0, D.int 0, D.int 1] σ2 (fun r τ' => r = D.int 1 ∧ τ' = σ3) ∧ Ct Tryz.prog 23 [.ref m 0] σ3 (fun r τ' => r = .sl false ([(0 : Int), 1].map D.int) ∧ τ' = σ3) := by
 obtain ⟨d1, rk1, σ1, c1, i1, e1, _⟩ := el_det 0 m M d rk pB τ h0 (by omega) (by decide)
 rw [hx, aw_add] at c1 e1
 obtain ⟨d2, rk2, σ2, c2, i2, e2, _⟩ := in_det 1 m M d1 rk1 0 0 1 σ1 i1 (by omega)
 have hl1 : d1.l = awX.l := l_of e1
 rw [e1, hl1, aw_ins (bel := belR awX.l rk1) (fun id => belR_eq (hl1 ▸ i1.wt.Dec) id)] at c2 e2
 have hl2 : d2.l = awY.l := l_of e2
 have c3 := get_fn m M d2 1 σ2 i2.ho (i2.ip.NB (by omega))
 rw [hl2, fY1] at c3
 obtain ⟨d3, rk3, σ3, c4, i3, e3, _⟩ := in_det 2 m M d2 rk2 0 0 1 σ2 i2 (by omega)
 rw [e2, aw_ins2] at c4 e3
 have hl3 : d3.l = awY.l := l_of e3
 have c5 := order_fn m M d3 (belR d3.l rk3) rk3 σ3 i3.ho (i3.WD (by omega)) (by rw [hl3]; rfl)
 rw [hl3, aw_ord (hl3 ▸ i3.wt.Dec)] at c5
 exact ⟨σ1, σ2, σ3, c1, c2, c3, c4, c5⟩
end Go.Proofs.YtpfmpeaekgdgnaaGreat


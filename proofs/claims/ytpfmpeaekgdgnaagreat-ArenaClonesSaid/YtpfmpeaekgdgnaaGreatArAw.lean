import Derived.Test.YtpfmpeaekgdgnaaGreatWkAr16
namespace Go.Proofs.YtpfmpeaekgdgnaaGreat
open Go Go.Vm
set_option linter.all false
set_option maxHeartbeats 1000000
variable {k m M : Nat} {d : DS} {rk : Int → Nat} {σ : List (List D)} {x : RD}
theorem Gq (a : Act) (h : IV k m M d rk σ) (hk : k ≤ 800) (hs : a.name.size ≤ 1000) (hb : 10 ≤ a.kind ∧ a.kind ≤ 17) : DetQ 50 [.ref m 0, nE a] σ d k m M (setX d.x (a.kind - 10) a.a a.name a.value a.c) := by
 by_cases q0 : a.kind = 10
 ·obtain ⟨d', rk', σ', hc, hi, e, fr⟩ := Yu k m M d rk σ a.a a.name a.value a.c h hk hs;rw [show a.kind - 10 = 0 by omega];exact ⟨d', rk', σ', gV m a _ σ' σ hb (fun _ => hc) (fun q => by omega) (fun q => by omega) (fun q => by omega) (fun q => by omega) (fun q => by omega) (fun q => by omega) (fun q => by omega), hi, e, fr⟩
 by_cases q1 : a.kind = 11
 ·obtain ⟨d', rk', σ', hc, hi, e, fr⟩ := Xt k m M d rk σ a.a a.name a.value a.c h hk;rw [show a.kind - 10 = 1 by omega];exact ⟨d', rk', σ', gV m a _ σ' σ hb (fun q => by omega) (fun _ => hc) (fun q => by omega) (fun q => by omega) (fun q => by omega) (fun q => by omega) (fun q => by omega) (fun q => by omega), hi, e, fr⟩
 by_cases q2 : a.kind = 12
 ·obtain ⟨d', rk', σ', hc, hi, e, fr⟩ := Wu k m M d rk σ a.a a.name a.value a.c h hk hs;rw [show a.kind - 10 = 2 by omega];exact ⟨d', rk', σ', gV m a _ σ' σ hb (fun q => by omega) (fun q => by omega) (fun _ => hc) (fun q => by omega) (fun q => by omega) (fun q => by omega) (fun q => by omega) (fun q => by omega), hi, e, fr⟩
 by_cases q3 : a.kind = 13
 ·obtain ⟨d', rk', σ', hc, hi, e, fr⟩ := Vf k m M d rk σ a.a a.name a.value a.c h hk hs;rw [show a.kind - 10 = 3 by omega];exact ⟨d', rk', σ', gV m a _ σ' σ hb (fun q => by omega) (fun q => by omega) (fun q => by omega) (fun _ => hc) (fun q => by omega) (fun q => by omega) (fun q => by omega) (fun q => by omega), hi, e, fr⟩
 by_cases q4 : a.kind = 14
 ·obtain ⟨d', rk', σ', hc, hi, e, fr⟩ := Zv k m M d rk σ a.a a.name a.value a.c h hk hs;rw [show a.kind - 10 = 4 by omega];exact ⟨d', rk', σ', gV m a _ σ' σ hb (fun q => by omega) (fun q => by omega) (fun q => by omega) (fun q => by omega) (fun _ => hc) (fun q => by omega) (fun q => by omega) (fun q => by omega), hi, e, fr⟩
 by_cases q5 : a.kind = 15
 ·obtain ⟨d', rk', σ', hc, hi, e, fr⟩ := Qx k m M d rk σ a.a a.name a.value a.c h hk hs;rw [show a.kind - 10 = 5 by omega];exact ⟨d', rk', σ', gV m a _ σ' σ hb (fun q => by omega) (fun q => by omega) (fun q => by omega) (fun q => by omega) (fun q => by omega) (fun _ => hc) (fun q => by omega) (fun q => by omega), hi, e, fr⟩
 by_cases q6 : a.kind = 16
 ·obtain ⟨d', rk', σ', hc, hi, e, fr⟩ := Rh k m M d rk σ a.a a.name a.value a.c h hk hs;rw [show a.kind - 10 = 6 by omega];exact ⟨d', rk', σ', gV m a _ σ' σ hb (fun q => by omega) (fun q => by omega) (fun q => by omega) (fun q => by omega) (fun q => by omega) (fun q => by omega) (fun _ => hc) (fun q => by omega), hi, e, fr⟩
 ·obtain ⟨d', rk', σ', hc, hi, e, fr⟩ := Ta k m M d rk σ a.a a.name a.value a.c (a.kind - 10) (by omega) h hk hs;exact ⟨d', rk', σ', gV m a _ σ' σ hb (fun q => by omega) (fun q => by omega) (fun q => by omega) (fun q => by omega) (fun q => by omega) (fun q => by omega) (fun q => by omega) (fun _ => hc), hi, e, fr⟩
theorem oV {α β : Type} {p : α × β} {c : β} (h : p.2 = c) : p = (p.1, c) := by rw [← h]
theorem Ts (a : Act) (h : IX k m M d rk x σ) (hk : k ≤ 800) (h1 : a.name.size ≤ 9223372036854775807) (h2 : a.value.size ≤ 9223372036854775807) :
  ∃ d' rk' σ' y, Ct Tryz.prog 14 [.ref m 0, hC x, nE a] σ (fun r τ => r = .tup [hC y, .bool true] ∧ τ = σ') ∧ IX (k + 1) m M d' rk' y σ' ∧ Nx d.x d'.x ∧ FrO m d d' σ σ' := by
 obtain ⟨hi, hx⟩ := h;obtain ⟨t1, t2⟩ := Eb a;obtain ⟨b1, b2, b3⟩ := hi.bounds (by omega);have hnb : NB x.l := hx.nb (hi.ip.NB (by omega));have htr : Tr d.l (cH d.l rk) rk := hi.wt.Tr (by have := hi.ip.len; rw [nG]; omega);have htr1 : Tr x.l (cH d.l rk) rk := htr.perm hx.fd;have htr2 : Tr (remP x.l (cT a).a) (cH (remP d.l (cT a).a) rk) rk := (Tb hi.wt (by have := hi.ip.len; rw [nG]; omega) _).perm (vP (hx.remP _) (by rw [Df]; exact hx.nd));have hnx : 0 ≤ x.next ∧ x.next ≤ 1000000 := by rw [hx.next]; exact b3
 have hkl : ∀ i, (aL x.l i).kids.length ≤ 900 := fun i => by rw [hx.fd]; exact aC3 hi hk i
 have hkn : ∀ i, (aL x.l i).kids.Nodup := fun i => by rw [hx.fd]; exact aB5 hi i
 have hsa : ∀ i, cG nA (aL x.l i).attrs := fun i => by rw [hx.fd]; exact aDi hi i
 have hss : ∀ i, cG nP (aL x.l i).styles := fun i => by rw [hx.fd]; exact aDw hi i
 have W := fun (y : RD) (n c : Int) (σ2 : List (List D)) => aBt m x y n c a (cH d.l rk) (cH (remP d.l (cT a).a) rk) rk σ2 σ hnb hnx htr1 htr2 hkl hkn hsa hss;by_cases q0 : (cT a).kind = 0
 ·obtain ⟨d', rk', σ', hc, hi', e, fr⟩ := Qa k m M d rk (cT a).name σ hi hk (by omega);obtain ⟨p1, p2⟩ := hx.addX hi.ip.lt 2 (cT a).name;exact ⟨d', rk', σ', _, W _ _ _ σ' (fun _ => ⟨hc, oV p1⟩) (fun q => by omega) (fun q => by omega) (fun q => by omega) (fun q => by omega) (fun q => by omega) (fun q => by omega) h1 h2, ⟨hi', by rw [e]; exact p2⟩, by rw [e]; exact Jt _ _ _, fr⟩
 by_cases q1 : (cT a).kind = 1
 ·obtain ⟨d', rk', σ', hc, hi', e, fr⟩ := aCe k m M d rk (cT a).value σ hi hk;obtain ⟨p1, p2⟩ := hx.addX hi.ip.lt 1 (cT a).value;exact ⟨d', rk', σ', _, W _ _ _ σ' (fun q => by omega) (fun _ => ⟨hc, oV p1⟩) (fun q => by omega) (fun q => by omega) (fun q => by omega) (fun q => by omega) (fun q => by omega) h1 h2, ⟨hi', by rw [e]; exact p2⟩, by rw [e]; exact Jt _ _ _, fr⟩
 by_cases q2 : (cT a).kind = 2
 ·obtain ⟨d', rk', σ', hc, hi', e, fr⟩ := Fz k m M d rk (cT a).a (cT a).b (cT a).c σ hi hk;obtain ⟨p1, p2⟩ := hx.insX (cH d.l rk) (cT a).a (cT a).b (cT a).c;exact ⟨d', rk', σ', _, W _ 0 _ σ' (fun q => by omega) (fun q => by omega) (fun _ => ⟨hc, oV p1⟩) (fun q => by omega) (fun q => by omega) (fun q => by omega) (fun q => by omega) h1 h2, ⟨hi', by rw [e]; exact p2⟩, by rw [e]; exact Yr _ _ _ _ _, fr⟩
 by_cases q3 : (cT a).kind = 3
 ·obtain ⟨d', rk', σ', hc, hi', e, fr⟩ := aB9 k m M d rk (cT a).a (cT a).b σ hi hk;obtain ⟨p1, p2⟩ := hx.movX (cT a).a (cT a).b;exact ⟨d', rk', σ', _, W _ 0 _ σ' (fun q => by omega) (fun q => by omega) (fun q => by omega) (fun _ => ⟨hc, oV p1⟩) (fun q => by omega) (fun q => by omega) (fun q => by omega) h1 h2, ⟨hi', by rw [e]; exact p2⟩, by rw [e]; exact Zy _ _ _, fr⟩
 by_cases q4 : (cT a).kind = 4
 ·obtain ⟨d', rk', σ', hc, hi', e, fr⟩ := aA2 k m M d rk (cT a).a σ hi hk;obtain ⟨p1, p2⟩ := hx.remX (cH (remP d.l (cT a).a) rk) (cT a).a;exact ⟨d', rk', σ', _, W _ 0 _ σ' (fun q => by omega) (fun q => by omega) (fun q => by omega) (fun q => by omega) (fun _ => ⟨hc, oV p1⟩) (fun q => by omega) (fun q => by omega) h1 h2, ⟨hi', by rw [e]; exact p2⟩, by rw [e]; exact Xu _ _ _, fr⟩
 by_cases q5 : 10 ≤ (cT a).kind ∧ (cT a).kind ≤ 17
 ·obtain ⟨d', rk', σ', hc, hi', e, fr⟩ := Gq (cT a) hi hk (by omega) q5;obtain ⟨p1, p2⟩ := hx.setX ((cT a).kind - 10) (cT a).a (cT a).name (cT a).value (cT a).c;exact ⟨d', rk', σ', _, W _ 0 _ σ' (fun q => by omega) (fun q => by omega) (fun q => by omega) (fun q => by omega) (fun q => by omega) (fun _ => ⟨hc, oV p1⟩) (fun q => by omega) h1 h2, ⟨hi', by rw [e]; exact p2⟩, by rw [e]; exact Yp _ _ _ _ _ _, fr⟩
 ·exact ⟨d, rk, σ, x, W x 0 0 σ (fun q => by omega) (fun q => by omega) (fun q => by omega) (fun q => by omega) (fun q => by omega) (fun q => by omega) (fun _ => ⟨rfl, rfl⟩) h1 h2, ⟨hi.mono, hx⟩, Nx.refl _, FrO.refl _ _ _⟩
end Go.Proofs.YtpfmpeaekgdgnaaGreat
namespace Go.Proofs.YtpfmpeaekgdgnaaGreat
open Go Go.Vm
set_option linter.all false
set_option maxHeartbeats 1000000
abbrev pB : ByteArray := ⟨#[112]⟩
def awA : ND := ⟨1, 2, pB, ⟨#[]⟩, [], [], [], -1, []⟩
def sB : ND := ⟨1, 2, pB, ⟨#[]⟩, [], [], [], 0, []⟩
def awR : ND := ⟨0, 2, ⟨#[114, 111, 111, 116]⟩, ⟨#[]⟩, [], [], [], -1, [1]⟩
def awX : RD := ⟨3, 2, [kQ, awA]⟩
def Wl : RD := ⟨3, 2, [awR, sB]⟩
theorem Ym : fR pB = true := by decide
theorem aC1 : addX (newX 3) 2 pB = (awX, 1, 0) := by
 unfold addX;rw [Ym];rfl
theorem fX0 : aL awX.l 0 = kQ := rfl
theorem fX1 : aL awX.l 1 = awA := rfl
theorem fY0 : aL Wl.l 0 = awR := rfl
theorem fY1 : aL Wl.l 1 = sB := rfl
theorem aCk {bel : Int → List Int} (h : ∀ id, bel id = id :: (aL awX.l id).kids.flatMap bel) : insX awX bel 0 0 1 = (Wl, 0) := by
 have hb : bel 1 = [1] := by rw [h, fX1]; rfl
 have hw : jB awX.l bel 0 1 = false := by unfold jB; rw [hb]; rfl
 unfold insX;rw [hw, fX0, fX1];rfl
theorem Yz (bel : Int → List Int) : insX Wl bel 0 0 1 = (Wl, 1) := by
 unfold insX;rw [fY0, fY1];rw [if_neg (by decide), if_neg (by decide), if_pos];exact .inr (.inl (by decide))
theorem aC8 {rk : Int → Nat} (hd : Dec Wl.l rk) : cH Wl.l rk 0 = [0, 1] := by
 rw [gP hd, fY0];show (0 : Int) :: ([1] : List Int).flatMap (cH Wl.l rk) = [0, 1]
 rw [List.flatMap_cons, List.flatMap_nil, List.append_nil, gP hd, fY1];rfl
theorem aBv {d : DS} {x : RD} (h : d.x = x) : d.l = x.l := by rw [← h]
theorem Tj {m M : Nat} {d : DS} {rk : Int → Nat} {τ : List (List D)} (h0 : IV 0 m M d rk τ) (hx : d.x = newX 3) : ∃ σ1 σ2 σ3, Ct Tryz.prog 40 [.ref m 0, D.str pB] τ (fun r τ' => r = .tup [D.int 1, D.int 0] ∧ τ' = σ1) ∧ Ct Tryz.prog 41 [.ref m 0, D.int 0, D.int 0, D.int 1] σ1 (fun r τ' => r = D.int 0 ∧ τ' = σ2) ∧
  Ct Tryz.prog 22 [.ref m 0, D.int 1] σ2 (fun r τ' => r = .tup [lU sB, .bool true] ∧ τ' = σ2) ∧ Ct Tryz.prog 41 [.ref m 0, D.int 0, D.int 0, D.int 1] σ2 (fun r τ' => r = D.int 1 ∧ τ' = σ3) ∧ Ct Tryz.prog 23 [.ref m 0] σ3 (fun r τ' => r = .sl false ([(0 : Int), 1].map D.int) ∧ τ' = σ3) := by
 obtain ⟨d1, rk1, σ1, c1, i1, e1, _⟩ := Qa 0 m M d rk pB τ h0 (by omega) (by decide);rw [hx, aC1] at c1 e1;obtain ⟨d2, rk2, σ2, c2, i2, e2, _⟩ := Fz 1 m M d1 rk1 0 0 1 σ1 i1 (by omega);have hl1 : d1.l = awX.l := aBv e1;rw [e1, hl1, aCk (bel := cH awX.l rk1) (fun id => gP (hl1 ▸ i1.wt.Dec) id)] at c2 e2;have hl2 : d2.l = Wl.l := aBv e2;have c3 := Ru m M d2 1 σ2 i2.ho (i2.ip.NB (by omega));rw [hl2, fY1] at c3;obtain ⟨d3, rk3, σ3, c4, i3, e3, _⟩ := Fz 2 m M d2 rk2 0 0 1 σ2 i2 (by omega);rw [e2, Yz] at c4 e3;have hl3 : d3.l = Wl.l := aBv e3;have c5 := Ee m M d3 (cH d3.l rk3) rk3 σ3 i3.ho (i3.WD (by omega)) (by rw [hl3]; rfl);rw [hl3, aC8 (hl3 ▸ i3.wt.Dec)] at c5;exact ⟨σ1, σ2, σ3, c1, c2, c3, c4, c5⟩
end Go.Proofs.YtpfmpeaekgdgnaaGreat


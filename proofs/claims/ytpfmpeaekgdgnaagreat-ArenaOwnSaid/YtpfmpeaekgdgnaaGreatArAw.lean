import Derived.Test.YtpfmpeaekgdgnaaGreatWkAr16
namespace Go.Proofs.YtpfmpeaekgdgnaaGreat
open Go Go.Vm
set_option linter.all false
set_option maxHeartbeats 1000000
variable {k m M : Nat} {d : DS} {rk : Int → Nat} {σ : List (List D)} {x : RD}
theorem Gy (a : Act) (h : IV k m M d rk σ) (hk : k ≤ 800) (hs : a.name.size ≤ 1000) (hb : 10 ≤ a.kind ∧ a.kind ≤ 17) : DetQ 50 [.ref m 0, oY a] σ d k m M (setX d.x (a.kind - 10) a.a a.name a.value a.c) := by
 by_cases q0 : a.kind = 10
 ·obtain ⟨d', rk', σ', hc, hi, e, fr⟩ := Xw k m M d rk σ a.a a.name a.value a.c h hk hs;rw [show a.kind - 10 = 0 by omega];exact ⟨d', rk', σ', gM m a _ σ' σ hb (fun _ => hc) (fun q => by omega) (fun q => by omega) (fun q => by omega) (fun q => by omega) (fun q => by omega) (fun q => by omega) (fun q => by omega), hi, e, fr⟩
 by_cases q1 : a.kind = 11
 ·obtain ⟨d', rk', σ', hc, hi, e, fr⟩ := Xk k m M d rk σ a.a a.name a.value a.c h hk;rw [show a.kind - 10 = 1 by omega];exact ⟨d', rk', σ', gM m a _ σ' σ hb (fun q => by omega) (fun _ => hc) (fun q => by omega) (fun q => by omega) (fun q => by omega) (fun q => by omega) (fun q => by omega) (fun q => by omega), hi, e, fr⟩
 by_cases q2 : a.kind = 12
 ·obtain ⟨d', rk', σ', hc, hi, e, fr⟩ := Wa k m M d rk σ a.a a.name a.value a.c h hk hs;rw [show a.kind - 10 = 2 by omega];exact ⟨d', rk', σ', gM m a _ σ' σ hb (fun q => by omega) (fun q => by omega) (fun _ => hc) (fun q => by omega) (fun q => by omega) (fun q => by omega) (fun q => by omega) (fun q => by omega), hi, e, fr⟩
 by_cases q3 : a.kind = 13
 ·obtain ⟨d', rk', σ', hc, hi, e, fr⟩ := Ov k m M d rk σ a.a a.name a.value a.c h hk hs;rw [show a.kind - 10 = 3 by omega];exact ⟨d', rk', σ', gM m a _ σ' σ hb (fun q => by omega) (fun q => by omega) (fun q => by omega) (fun _ => hc) (fun q => by omega) (fun q => by omega) (fun q => by omega) (fun q => by omega), hi, e, fr⟩
 by_cases q4 : a.kind = 14
 ·obtain ⟨d', rk', σ', hc, hi, e, fr⟩ := Vr k m M d rk σ a.a a.name a.value a.c h hk hs;rw [show a.kind - 10 = 4 by omega];exact ⟨d', rk', σ', gM m a _ σ' σ hb (fun q => by omega) (fun q => by omega) (fun q => by omega) (fun q => by omega) (fun _ => hc) (fun q => by omega) (fun q => by omega) (fun q => by omega), hi, e, fr⟩
 by_cases q5 : a.kind = 15
 ·obtain ⟨d', rk', σ', hc, hi, e, fr⟩ := Uo k m M d rk σ a.a a.name a.value a.c h hk hs;rw [show a.kind - 10 = 5 by omega];exact ⟨d', rk', σ', gM m a _ σ' σ hb (fun q => by omega) (fun q => by omega) (fun q => by omega) (fun q => by omega) (fun q => by omega) (fun _ => hc) (fun q => by omega) (fun q => by omega), hi, e, fr⟩
 by_cases q6 : a.kind = 16
 ·obtain ⟨d', rk', σ', hc, hi, e, fr⟩ := Oe k m M d rk σ a.a a.name a.value a.c h hk hs;rw [show a.kind - 10 = 6 by omega];exact ⟨d', rk', σ', gM m a _ σ' σ hb (fun q => by omega) (fun q => by omega) (fun q => by omega) (fun q => by omega) (fun q => by omega) (fun q => by omega) (fun _ => hc) (fun q => by omega), hi, e, fr⟩
 ·obtain ⟨d', rk', σ', hc, hi, e, fr⟩ := Tx k m M d rk σ a.a a.name a.value a.c (a.kind - 10) (by omega) h hk hs;exact ⟨d', rk', σ', gM m a _ σ' σ hb (fun q => by omega) (fun q => by omega) (fun q => by omega) (fun q => by omega) (fun q => by omega) (fun q => by omega) (fun q => by omega) (fun _ => hc), hi, e, fr⟩
theorem oG {α β : Type} {p : α × β} {c : β} (h : p.2 = c) : p = (p.1, c) := by rw [← h]
theorem aBd (a : Act) (h : IX k m M d rk x σ) (hk : k ≤ 800) (h1 : a.name.size ≤ 9223372036854775807) (h2 : a.value.size ≤ 9223372036854775807) :
  ∃ d' rk' σ' y, Ct Tryz.prog 14 [.ref m 0, gV x, oY a] σ (fun r τ => r = .tup [gV y, .bool true] ∧ τ = σ') ∧ IX (k + 1) m M d' rk' y σ' ∧ Nx d.x d'.x ∧ FrO m d d' σ σ' := by
 obtain ⟨hi, hx⟩ := h;obtain ⟨t1, t2⟩ := Bk a;obtain ⟨b1, b2, b3⟩ := hi.bounds (by omega);have hnb : NB x.l := hx.nb (hi.ip.NB (by omega));have htr : Tr d.l (bY d.l rk) rk := hi.wt.Tr (by have := hi.ip.len; rw [mV]; omega);have htr1 : Tr x.l (bY d.l rk) rk := htr.perm hx.fd;have htr2 : Tr (remP x.l (cS a).a) (bY (remP d.l (cS a).a) rk) rk := (Sv hi.wt (by have := hi.ip.len; rw [mV]; omega) _).perm (vB (hx.remP _) (by rw [Cf]; exact hx.nd));have hnx : 0 ≤ x.next ∧ x.next ≤ 1000000 := by rw [hx.next]; exact b3
 have hkl : ∀ i, (aM x.l i).kids.length ≤ 900 := fun i => by rw [hx.fd]; exact aAi hi hk i
 have hkn : ∀ i, (aM x.l i).kids.Nodup := fun i => by rw [hx.fd]; exact aBk hi i
 have hsa : ∀ i, cC nA (aM x.l i).attrs := fun i => by rw [hx.fd]; exact aC7 hi i
 have hss : ∀ i, cC nP (aM x.l i).styles := fun i => by rw [hx.fd]; exact aCn hi i
 have W := fun (y : RD) (n c : Int) (σ2 : List (List D)) => aAz m x y n c a (bY d.l rk) (bY (remP d.l (cS a).a) rk) rk σ2 σ hnb hnx htr1 htr2 hkl hkn hsa hss;by_cases q0 : (cS a).kind = 0
 ·obtain ⟨d', rk', σ', hc, hi', e, fr⟩ := Su k m M d rk (cS a).name σ hi hk (by omega);obtain ⟨p1, p2⟩ := hx.addX hi.ip.lt 2 (cS a).name;exact ⟨d', rk', σ', _, W _ _ _ σ' (fun _ => ⟨hc, oG p1⟩) (fun q => by omega) (fun q => by omega) (fun q => by omega) (fun q => by omega) (fun q => by omega) (fun q => by omega) h1 h2, ⟨hi', by rw [e]; exact p2⟩, by rw [e]; exact Ie _ _ _, fr⟩
 by_cases q1 : (cS a).kind = 1
 ·obtain ⟨d', rk', σ', hc, hi', e, fr⟩ := aB2 k m M d rk (cS a).value σ hi hk;obtain ⟨p1, p2⟩ := hx.addX hi.ip.lt 1 (cS a).value;exact ⟨d', rk', σ', _, W _ _ _ σ' (fun q => by omega) (fun _ => ⟨hc, oG p1⟩) (fun q => by omega) (fun q => by omega) (fun q => by omega) (fun q => by omega) (fun q => by omega) h1 h2, ⟨hi', by rw [e]; exact p2⟩, by rw [e]; exact Ie _ _ _, fr⟩
 by_cases q2 : (cS a).kind = 2
 ·obtain ⟨d', rk', σ', hc, hi', e, fr⟩ := En k m M d rk (cS a).a (cS a).b (cS a).c σ hi hk;obtain ⟨p1, p2⟩ := hx.insX (bY d.l rk) (cS a).a (cS a).b (cS a).c;exact ⟨d', rk', σ', _, W _ 0 _ σ' (fun q => by omega) (fun q => by omega) (fun _ => ⟨hc, oG p1⟩) (fun q => by omega) (fun q => by omega) (fun q => by omega) (fun q => by omega) h1 h2, ⟨hi', by rw [e]; exact p2⟩, by rw [e]; exact Xs _ _ _ _ _, fr⟩
 by_cases q3 : (cS a).kind = 3
 ·obtain ⟨d', rk', σ', hc, hi', e, fr⟩ := aAo k m M d rk (cS a).a (cS a).b σ hi hk;obtain ⟨p1, p2⟩ := hx.movX (cS a).a (cS a).b;exact ⟨d', rk', σ', _, W _ 0 _ σ' (fun q => by omega) (fun q => by omega) (fun q => by omega) (fun _ => ⟨hc, oG p1⟩) (fun q => by omega) (fun q => by omega) (fun q => by omega) h1 h2, ⟨hi', by rw [e]; exact p2⟩, by rw [e]; exact Wm _ _ _, fr⟩
 by_cases q4 : (cS a).kind = 4
 ·obtain ⟨d', rk', σ', hc, hi', e, fr⟩ := aB8 k m M d rk (cS a).a σ hi hk;obtain ⟨p1, p2⟩ := hx.remX (bY (remP d.l (cS a).a) rk) (cS a).a;exact ⟨d', rk', σ', _, W _ 0 _ σ' (fun q => by omega) (fun q => by omega) (fun q => by omega) (fun q => by omega) (fun _ => ⟨hc, oG p1⟩) (fun q => by omega) (fun q => by omega) h1 h2, ⟨hi', by rw [e]; exact p2⟩, by rw [e]; exact Vq _ _ _, fr⟩
 by_cases q5 : 10 ≤ (cS a).kind ∧ (cS a).kind ≤ 17
 ·obtain ⟨d', rk', σ', hc, hi', e, fr⟩ := Gy (cS a) hi hk (by omega) q5;obtain ⟨p1, p2⟩ := hx.setX ((cS a).kind - 10) (cS a).a (cS a).name (cS a).value (cS a).c;exact ⟨d', rk', σ', _, W _ 0 _ σ' (fun q => by omega) (fun q => by omega) (fun q => by omega) (fun q => by omega) (fun q => by omega) (fun _ => ⟨hc, oG p1⟩) (fun q => by omega) h1 h2, ⟨hi', by rw [e]; exact p2⟩, by rw [e]; exact Yn _ _ _ _ _ _, fr⟩
 ·exact ⟨d, rk, σ, x, W x 0 0 σ (fun q => by omega) (fun q => by omega) (fun q => by omega) (fun q => by omega) (fun q => by omega) (fun q => by omega) (fun _ => ⟨rfl, rfl⟩) h1 h2, ⟨hi.mono, hx⟩, Nx.refl _, FrO.refl _ _ _⟩
end Go.Proofs.YtpfmpeaekgdgnaaGreat
namespace Go.Proofs.YtpfmpeaekgdgnaaGreat
open Go Go.Vm
set_option linter.all false
set_option maxHeartbeats 1000000
abbrev pB : ByteArray := ⟨#[112]⟩
def awA : ND := ⟨1, 2, pB, ⟨#[]⟩, [], [], [], -1, []⟩
def rI : ND := ⟨1, 2, pB, ⟨#[]⟩, [], [], [], 0, []⟩
def awR : ND := ⟨0, 2, ⟨#[114, 111, 111, 116]⟩, ⟨#[]⟩, [], [], [], -1, [1]⟩
def Zp : RD := ⟨3, 2, [kW, awA]⟩
def Ve : RD := ⟨3, 2, [awR, rI]⟩
theorem Wq : fE pB = true := by decide
theorem aAx : addX (newX 3) 2 pB = (Zp, 1, 0) := by
 unfold addX;rw [Wq];rfl
theorem fX0 : aM Zp.l 0 = kW := rfl
theorem fX1 : aM Zp.l 1 = awA := rfl
theorem fY0 : aM Ve.l 0 = awR := rfl
theorem fY1 : aM Ve.l 1 = rI := rfl
theorem Zw {bel : Int → List Int} (h : ∀ id, bel id = id :: (aM Zp.l id).kids.flatMap bel) : insX Zp bel 0 0 1 = (Ve, 0) := by
 have hb : bel 1 = [1] := by rw [h, fX1]; rfl
 have hw : iU Zp.l bel 0 1 = false := by unfold iU; rw [hb]; rfl
 unfold insX;rw [hw, fX0, fX1];rfl
theorem Wn (bel : Int → List Int) : insX Ve bel 0 0 1 = (Ve, 1) := by
 unfold insX;rw [fY0, fY1];rw [if_neg (by decide), if_neg (by decide), if_pos];exact .inr (.inl (by decide))
theorem aAr {rk : Int → Nat} (hd : Dec Ve.l rk) : bY Ve.l rk 0 = [0, 1] := by
 rw [gG hd, fY0];show (0 : Int) :: ([1] : List Int).flatMap (bY Ve.l rk) = [0, 1]
 rw [List.flatMap_cons, List.flatMap_nil, List.append_nil, gG hd, fY1];rfl
theorem aAn {d : DS} {x : RD} (h : d.x = x) : d.l = x.l := by rw [← h]
theorem Uq {m M : Nat} {d : DS} {rk : Int → Nat} {τ : List (List D)} (h0 : IV 0 m M d rk τ) (hx : d.x = newX 3) : ∃ σ1 σ2 σ3, Ct Tryz.prog 40 [.ref m 0, D.str pB] τ (fun r τ' => r = .tup [D.int 1, D.int 0] ∧ τ' = σ1) ∧ Ct Tryz.prog 41 [.ref m 0, D.int 0, D.int 0, D.int 1] σ1 (fun r τ' => r = D.int 0 ∧ τ' = σ2) ∧
  Ct Tryz.prog 22 [.ref m 0, D.int 1] σ2 (fun r τ' => r = .tup [iT rI, .bool true] ∧ τ' = σ2) ∧ Ct Tryz.prog 41 [.ref m 0, D.int 0, D.int 0, D.int 1] σ2 (fun r τ' => r = D.int 1 ∧ τ' = σ3) ∧ Ct Tryz.prog 23 [.ref m 0] σ3 (fun r τ' => r = .sl false ([(0 : Int), 1].map D.int) ∧ τ' = σ3) := by
 obtain ⟨d1, rk1, σ1, c1, i1, e1, _⟩ := Su 0 m M d rk pB τ h0 (by omega) (by decide);rw [hx, aAx] at c1 e1;obtain ⟨d2, rk2, σ2, c2, i2, e2, _⟩ := En 1 m M d1 rk1 0 0 1 σ1 i1 (by omega);have hl1 : d1.l = Zp.l := aAn e1;rw [e1, hl1, Zw (bel := bY Zp.l rk1) (fun id => gG (hl1 ▸ i1.wt.Dec) id)] at c2 e2;have hl2 : d2.l = Ve.l := aAn e2;have c3 := Hm m M d2 1 σ2 i2.ho (i2.ip.NB (by omega));rw [hl2, fY1] at c3;obtain ⟨d3, rk3, σ3, c4, i3, e3, _⟩ := En 2 m M d2 rk2 0 0 1 σ2 i2 (by omega);rw [e2, Wn] at c4 e3;have hl3 : d3.l = Ve.l := aAn e3;have c5 := Ce m M d3 (bY d3.l rk3) rk3 σ3 i3.ho (i3.WD (by omega)) (by rw [hl3]; rfl);rw [hl3, aAr (hl3 ▸ i3.wt.Dec)] at c5;exact ⟨σ1, σ2, σ3, c1, c2, c3, c4, c5⟩
end Go.Proofs.YtpfmpeaekgdgnaaGreat


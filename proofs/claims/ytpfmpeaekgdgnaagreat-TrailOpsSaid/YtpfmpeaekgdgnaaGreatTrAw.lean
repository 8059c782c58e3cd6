import Derived.Test.YtpfmpeaekgdgnaaGreatWkTr2
import Derived.Test.YtpfmpeaekgdgnaaGreatArAw
namespace Go.Proofs.YtpfmpeaekgdgnaaGreat
open Go Go.Vm
set_option linter.all false
set_option maxHeartbeats 1000000
structure LX (k m M l : Nat) (d : DS) (rk : Int → Nat) (x : RD) (ops : List TOp) (σ : List (List D)) : Prop where
 ix : IX k m M d rk x σ
 off : Off m d l
 at_ : σ[l]? = some (lcel m ops)
 len : ops.length ≤ k
variable {k m M l : Nat} {d d' : DS} {rk rk' : Int → Nat} {σ σ2 : List (List D)} {x y : RD} {ops : List TOp}
theorem LX.step (h : LX k m M l d rk x ops σ) (hi : IX (k + 1) m M d' rk' y σ2) (fr : FrO m d d' σ σ2) : σ2[l]? = some (lcel m ops) ∧ ∀ c o, LX (k + 1) m M l d' rk' y (nto ops c o) (nt l m ops c o σ2) := by
 obtain ⟨o1, o2⟩ := h.off.step (og_lt h.at_) fr
 rw [h.at_] at o2
 refine ⟨o2, fun c o => ⟨?_, o1, nt_get o2, by have := nto_len ops c o; have := h.len; omega⟩⟩
 unfold nt; split
 ·exact hi.put o1 _
 ·exact hi
theorem LX.keep (h : LX k m M l d rk x ops σ) : LX (k + 1) m M l d rk x ops σ := ⟨h.ix.mono, h.off, h.at_, by have := h.len; omega⟩
theorem rdo6_ix (h : IX k m M d rk x σ) (hk : k ≤ 800) (o : TOp) (s1 : o.name.size ≤ 1000) (s2 : o.value.size ≤ 1000) (y : RD) (n c : Int) :
  (q1 : (o.kind = 1 ∨ o.kind = 2) → ¬ x.next = o.a → y = x ∧ c = 1) → (q2 : o.kind = 1 → x.next = o.a → addX x 2 o.name = (y, n, c)) → (q3 : o.kind = 2 → x.next = o.a → addX x 1 o.value = (y, n, c)) → (q4 : o.kind = 3 → insX x (belR d.l rk) o.a o.b o.c = (y, c)) → (q5 : o.kind = 4 → movX x o.a o.b = (y, c)) →
  (q6 : o.kind = 5 → remX x (belR (remP d.l o.a) rk) o.a = (y, c)) → (q7 : o.kind < 1 ∨ 13 < o.kind → y = x ∧ c = 14) → (q8 : 6 ≤ o.kind → o.kind ≤ 13 → setX x (o.kind - 6) o.a o.name o.value o.c = (y, c)) → ∀ τ, Ct Tryz.prog 30 [d_RD x, d_TOp o] τ (fun r τ' => r = .tup [d_RD y, D.int c] ∧ τ' = τ) := by
 obtain ⟨hi, hx⟩ := h
 obtain ⟨b1, b2, b3⟩ := hi.bounds (by omega)
 have hnb : NB x.l := hx.nb (hi.ip.NB (by omega))
 have htr : Tr d.l (belR d.l rk) rk := hi.wt.Tr (by have := hi.ip.len; rw [l_len]; omega)
 have htr1 : Tr x.l (belR d.l rk) rk := htr.perm hx.fd
 have htr2 : Tr (remP x.l o.a) (belR (remP d.l o.a) rk) rk := (rem_Tr hi.wt (by have := hi.ip.len; rw [l_len]; omega) _).perm (findD_perm (hx.remP _) (by rw [remP_ids]; exact hx.nd))
 have hnx : 0 ≤ x.next ∧ x.next ≤ 1000000 := by rw [hx.next]; exact b3
 exact fun q1 q2 q3 q4 q5 q6 q7 q8 τ => rdo6_fn x y o n c (belR d.l rk) (belR (remP d.l o.a) rk) rk τ hnb hnx htr1 htr2 (fun i => by rw [hx.fd]; exact kid_le hi hk i) (fun i => by rw [hx.fd]; exact kid_nd hi i) (fun i => by rw [hx.fd]; exact srt_a hi i) (fun i => by rw [hx.fd]; exact srt_p hi i) s1 s2 q1 q2 q3 q4 q5 q6 q7 q8
end Go.Proofs.YtpfmpeaekgdgnaaGreat
namespace Go.Proofs.YtpfmpeaekgdgnaaGreat
open Go Go.Vm
set_option linter.all false
set_option maxHeartbeats 1000000
abbrev op1 : TOp := ⟨1, 1, 0, 0, pB, ⟨#[]⟩⟩
abbrev op2 : TOp := ⟨3, 0, 0, 1, ⟨#[]⟩, ⟨#[]⟩⟩
theorem aw_log {m M l : Nat} {d : DS} {rk : Int → Nat} {τ : List (List D)} (h0 : IX 0 m M d rk (newX 3) τ) (hx : d.x = newX 3) (ho : Off m d l) (hat : τ[l]? = some (lcel m [])) :
  ∃ σ1 σ2, Ct Tryz.prog 40 [.ref m 0, D.str pB] τ (fun r τ' => r = .tup [D.int 1, D.int 0] ∧ τ' = σ1) ∧ σ1[l]? = some (lcel m []) ∧ Ct Tryz.prog 41 [.ref m 0, D.int 0, D.int 0, D.int 1] (nt l m [] 0 op1 σ1) (fun r τ' => r = D.int 0 ∧ τ' = σ2) ∧ (nt l m [] 0 op1 σ1)[l]? = some (lcel m [op1]) ∧ σ2[l]? = some (lcel m [op1]) ∧ (nt l m [op1] 0 op2 σ2)[l]? = some (lcel m [op1, op2]) := by
 have hL : LX 0 m M l d rk (newX 3) [] τ := ⟨h0, ho, hat, Nat.le_refl _⟩
 obtain ⟨d1, rk1, σ1, c1, i1, e1, f1⟩ := el_det 0 m M d rk pB τ h0.iv (by omega) (by decide)
 rw [hx, aw_add] at c1 e1
 obtain ⟨o1, st1⟩ := hL.step (y := awX) ⟨i1, by rw [e1]; exact XP.refl (by decide)⟩ f1
 have L1 := st1 0 op1
 have hl1 : d1.l = awX.l := l_of e1
 obtain ⟨d2, rk2, σ2, c2, i2, e2, f2⟩ := in_det 1 m M d1 rk1 0 0 1 _ L1.ix.iv (by omega)
 rw [e1, hl1, aw_ins (bel := belR awX.l rk1) (fun id => belR_eq (hl1 ▸ i1.wt.Dec) id)] at c2 e2
 obtain ⟨o2, st2⟩ := L1.step (y := awY) ⟨i2, by rw [e2]; exact XP.refl (by decide)⟩ f2
 exact ⟨σ1, σ2, c1, o1, c2, L1.at_, o2, (st2 0 op2).at_⟩
end Go.Proofs.YtpfmpeaekgdgnaaGreat


import Derived.Test.YtpfmpeaekgdgnaaGreatRows
import Derived.Test.YtpfmpeaekgdgnaaGreatWkAr24
import Derived.Test.YtpfmpeaekgdgnaaGreatVm23
import Derived.ProofKit
namespace Go.Proofs.YtpfmpeaekgdgnaaGreat
open Go Go.Vm Go.ChangeShapes Go.WideShapes Go.ChangeAt Go.RowKit
theorem Tryz.own : ownKnob Tryz.prog.godebug = none := by kernel_rfl
theorem Tryz.laidOut : laidOutB Tryz.prog = true := by kernel_rfl
abbrev pI (n : Int) : Prop := -9223372036854775808 ≤ n ∧ n ≤ 9223372036854775807
abbrev pT (_ : Bool) : Prop := True
abbrev pS (s : ByteArray) : Prop := s.size ≤ maxLen
theorem k22 : Tryz.prog.cellsOf 22 = 1 := by kernel_rfl
theorem k33 : Tryz.prog.cellsOf 33 = 6 := by kernel_rfl
theorem k3 : Tryz.prog.cellsOf 3 = 1 := by kernel_rfl
theorem o3 : Opens Tryz.prog 3 D.int pI := Nw Tryz.underlying3
theorem k9 : Tryz.prog.cellsOf 9 = 1 := by kernel_rfl
theorem o9 : Opens Tryz.prog 9 D.str pS := Kx Tryz.underlying9
abbrev p33 (s : Act) : Prop := pI s.kind ∧ pI s.a ∧ pI s.b ∧ pI s.c ∧ pS s.name ∧ pS s.value
theorem o33 : Opens Tryz.prog 33 oY p33 :=
 (Av Tryz.underlying33 (iI (m := 1) rfl k3 o3 (iI (m := 1) rfl k3 o3 (iI (m := 1) rfl k3 o3 (iI (m := 1) rfl k3 o3 (iI (m := 1) rfl k9 o9 (iI (m := 1) rfl k9 o9 (by rw [k33]; exact Hn)))))))).map (fun a => ⟨a.1, a.2.1, a.2.2.1, a.2.2.2.1, a.2.2.2.2.1, a.2.2.2.2.2.1⟩) (fun a => rfl) (fun a h => ⟨h.1, h.2.1, h.2.2.1, h.2.2.2.1, h.2.2.2.2.1, h.2.2.2.2.2.1⟩)
abbrev p22 (l : (List Act)) : Prop := l.length ≤ maxLen ∧ ∀ x ∈ l, p33 x
theorem o22 : Opens Tryz.prog 22 (fun l : (List Act) => .sl false (l.map oY)) p22 := Eb Tryz.underlying22 o33 (by rw [k33]; decide)
set_option maxRecDepth 100000 in
theorem Hv (os : Os) (started : os.Started) (H : Type) (enc : TypeId × Value → H) :
  ReturnsInHanded {} Tryz.checked os 6 .any (Rows.arenaOwnSpec.pre6 enc Tryz.prog Tryz.f6 Rows.arenaOwnRow.domain false) (Rows.arenaOwnSpec.post enc Tryz.prog Tryz.f6 false true false false) := by
 refine returnsInHanded_of_change (C := Tryz.checked) Tryz.own started (by kernel_rfl) Tryz.func6
  (ChangeSpec.witness6 (enc := enc) (C := Tryz.checked) false ⟨#[], #[.slice none 0 0, .int .i64 0], []⟩ 8 (by kernel_rfl) (by kernel_rfl) (by kernel_rfl) (by kernel_rfl)) ?_
 intro W base args ds gs before hval0 hW hcnd _;have hval : ∀ (j : Nat) t v, Tryz.f6.params[j]? = some t → args[j]? = some v → Value.okWide Tryz.prog W .any base t v := hval0;have hW' := hW;obtain ⟨p, q, hA0, hV, rfl, hfz, hnd⟩ := hW;have hA : DataW.TrodAll enc Tryz.prog W 0 (fun _ => true) true Tryz.f6.params.toList args.toList ds p := hA0;rw [Tryz.params6] at hA hval;obtain ⟨v0, v1, d0, d1, p0, p1, rfl, rfl, rfl, h0, h1⟩ := trodAll_two hA;obtain ⟨rfl, rfl⟩ := trodVars_none hV;have c0 : v0.oneCell' = true := by obtain ⟨a, n, c, rfl⟩ := okWide_slice Tryz.underlying22 (hval 0 22 v0 rfl rfl); rfl
 have c1 : v1.oneCell' = true := by obtain ⟨x, rfl, _⟩ := open_int Tryz.underlying3 (hval 1 3 v1 rfl rfl) h1; rfl
 obtain ⟨x0, k0, r0, w0⟩ := Ck o22 (fun _ => rfl) c0 h0;obtain ⟨x1, k1, r1, w1⟩ := Ck o3 (fun _ => rfl) c1 h1;clear hA0 hval0;simp only [List.append_nil] at hW';have hlt : ∀ x ∈ p0 ++ p1, x.block < W.heap.size := fun x hx => by simpa using hW'.lt x (by simpa using hx)
 have hct := (Nl x0 x1 ([]) (by simpa [maxLen] using k0.1) (fun a h => by obtain ⟨_, _, _, _, h5, h6⟩ := k0.2 a h; exact ⟨by simpa [maxLen] using h5, by simpa [maxLen] using h6⟩)).mono (Q' := fun r _ => r = .bool true) fun r σ' h => h;refine (aBx (vs := #[v0, v1]) hct rfl (fun i d v e1 e2 => ?_)).mono fun e W' ⟨he, hnx⟩ => ?_
 ·match i with
  | 0 => simp at e1 e2; subst e1; subst e2; exact ⟨r0, w0⟩
  | 1 => simp at e1 e2; subst e1; subst e2; exact ⟨r1, w1⟩
  | i + 2 => simp at e1
 ·subst he;refine ⟨_, rfl, _, _, _, [] ++ [], p0 ++ p1, [], hW', ?_, ?_, rfl, hnx.frame _, fun h => by cases h⟩
  ·exact trodAll_mk1 (shut_bool Tryz.underlying4 true)
  ·exact trodAll_mk2 (Below.trod Tryz.laidOut (by kernel_rfl) (of_decide_eq_true (by kernel_rfl)) h0 hnx fun x hx => hlt x (by simp [hx]))
    (Below.trod Tryz.laidOut (by kernel_rfl) (of_decide_eq_true (by kernel_rfl)) h1 hnx fun x hx => hlt x (by simp [hx]))
theorem own_holds : Rows.ArenaOwnSaid :=
 OpenClaim.holds_of_wide 6 Tryz.f6 rfl rfl rfl rfl rfl rfl rfl ⟨rfl, rfl, rfl, rfl, rfl⟩ rfl rfl rfl rfl rfl (by kernel_rfl) Tryz.func6 (by kernel_rfl)
  (of_decide_eq_true (by kernel_rfl)) (by unfold Func.isWrapper; first | (rw [if_pos (by decide +kernel)]; kernel_rfl) | (rw [if_neg (by decide +kernel)]; exact ⟨rfl, rfl⟩))
  (fun os started H enc _ => Hv os started H enc)
#print axioms own_holds
end Go.Proofs.YtpfmpeaekgdgnaaGreat


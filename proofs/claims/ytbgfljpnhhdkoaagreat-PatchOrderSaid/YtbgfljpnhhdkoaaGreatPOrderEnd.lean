import Derived.Test.YtbgfljpnhhdkoaaGreatRows
import Derived.Test.YtbgfljpnhhdkoaaGreatVm23
import Derived.ProofKit
namespace Go.Proofs.YtbgfljpnhhdkoaaGreat
open Go Go.Vm Go.ChangeShapes Go.WideShapes Go.ChangeAt Go.RowKit
theorem Tryz.own : ownKnob Tryz.prog.godebug = none := by kernel_rfl
theorem Tryz.laidOut : laidOutB Tryz.prog = true := by kernel_rfl
abbrev pI (n : Int) : Prop := -9223372036854775808 ≤ n ∧ n ≤ 9223372036854775807
abbrev pT (_ : Bool) : Prop := True
abbrev pS (s : ByteArray) : Prop := s.size ≤ maxLen
theorem k3 : Tryz.prog.cellsOf 3 = 1 := by kernel_rfl
theorem o3 : Opens Tryz.prog 3 D.int pI := Vr Tryz.underlying3
theorem k22 : Tryz.prog.cellsOf 22 = 1 := by kernel_rfl
abbrev p22 (l : (List Int)) : Prop := l.length ≤ maxLen ∧ ∀ x ∈ l, pI x
theorem o22 : Opens Tryz.prog 22 (fun l : (List Int) => .sl false (l.map D.int)) p22 := Ja Tryz.underlying22 o3 (by rw [k3]; decide)
set_option maxRecDepth 100000 in
theorem Gy (os : Os) (started : os.Started) (H : Type) (enc : TypeId × Value → H) :
  ReturnsInHanded {} Tryz.checked os 3 .any (Rows.patchOrderSpec.pre6 enc Tryz.prog Tryz.f3 Rows.patchOrderRow.domain false) (Rows.patchOrderSpec.post enc Tryz.prog Tryz.f3 false true false false) := by
 refine returnsInHanded_of_change (C := Tryz.checked) Tryz.own started (by kernel_rfl) Tryz.func3
  (ChangeSpec.witness6 (enc := enc) (C := Tryz.checked) false ⟨#[], #[.int .i64 0, .slice none 0 0], []⟩ 8 (by kernel_rfl) (by kernel_rfl) (by kernel_rfl) (by kernel_rfl)) ?_
 intro W base args ds gs before hval0 hW hcnd _;have hval : ∀ (j : Nat) t v, Tryz.f3.params[j]? = some t → args[j]? = some v → Value.okWide Tryz.prog W .any base t v := hval0;have hW' := hW;obtain ⟨p, q, hA0, hV, rfl, hfz, hnd⟩ := hW;have hA : DataW.TrodAll enc Tryz.prog W 0 (fun _ => true) true Tryz.f3.params.toList args.toList ds p := hA0;rw [Tryz.params3] at hA hval;obtain ⟨v0, v1, d0, d1, p0, p1, rfl, rfl, rfl, h0, h1⟩ := trodAll_two hA;obtain ⟨rfl, rfl⟩ := trodVars_none hV;have c0 : v0.oneCell' = true := by obtain ⟨x, rfl, _⟩ := open_int Tryz.underlying3 (hval 0 3 v0 rfl rfl) h0; rfl
 have c1 : v1.oneCell' = true := by obtain ⟨a, n, c, rfl⟩ := okWide_slice Tryz.underlying22 (hval 1 22 v1 rfl rfl); rfl
 obtain ⟨x0, k0, r0, w0⟩ := Kf o3 (fun _ => rfl) c0 h0;obtain ⟨x1, k1, r1, w1⟩ := Kf o22 (fun _ => rfl) c1 h1;clear hA0 hval0;simp only [List.append_nil] at hW';have hlt : ∀ x ∈ p0 ++ p1, x.block < W.heap.size := fun x hx => by simpa using hW'.lt x (by simpa using hx)
 have hct := (Ke x0 x1 ([]) (by simpa [maxLen] using k1.1)).mono (Q' := fun r _ => r = .bool true) fun r σ' h => h;refine (aJk (vs := #[v0, v1]) hct rfl (fun i d v e1 e2 => ?_)).mono fun e W' ⟨he, hnx⟩ => ?_
 ·match i with
  | 0 => simp at e1 e2; subst e1; subst e2; exact ⟨r0, w0⟩
  | 1 => simp at e1 e2; subst e1; subst e2; exact ⟨r1, w1⟩
  | i + 2 => simp at e1
 subst he;refine ⟨_, rfl, _, _, _, [] ++ [], p0 ++ p1, [], hW', ?_, ?_, rfl, hnx.frame _, fun h => by cases h⟩
 ·exact trodAll_mk1 (shut_bool Tryz.underlying4 true)
 exact trodAll_mk2 (Below.trod Tryz.laidOut (by kernel_rfl) (of_decide_eq_true (by kernel_rfl)) h0 hnx fun x hx => hlt x (by simp [hx]))
  (Below.trod Tryz.laidOut (by kernel_rfl) (of_decide_eq_true (by kernel_rfl)) h1 hnx fun x hx => hlt x (by simp [hx]))
theorem order_holds : Rows.PatchOrderSaid :=
 OpenClaim.holds_of_wide 3 Tryz.f3 rfl rfl rfl rfl rfl rfl rfl ⟨rfl, rfl, rfl, rfl, rfl⟩ rfl rfl rfl rfl rfl (by kernel_rfl) Tryz.func3 (by kernel_rfl)
  (of_decide_eq_true (by kernel_rfl)) (by unfold Func.isWrapper; first | (rw [if_pos (by decide +kernel)]; kernel_rfl) | (rw [if_neg (by decide +kernel)]; exact ⟨rfl, rfl⟩))
  (fun os started H enc _ => Gy os started H enc)
#print axioms order_holds
end Go.Proofs.YtbgfljpnhhdkoaaGreat

/- ClassesSame, proved: whatever the input, it returns true, and the input reads as it did. No condition. -/
import Derived.Test.YthieajadepfeoaaRows
import Derived.Test.YthieajadepfeoaaWkSame
import Derived.Test.YthieajadepfeoaaVm23
import Derived.ProofKit
namespace Go.Proofs.Ythieajadepfeoaa
open Go Go.Vm Go.ChangeShapes Go.WideShapes Go.ChangeAt Go.RowKit

theorem Try.own : ownKnob Try.prog.godebug = none := by kernel_rfl
theorem Try.laidOut : laidOutB Try.prog = true := by kernel_rfl

theorem k9 : Try.prog.cellsOf 9 = 1 := by kernel_rfl
theorem o_str : Opens Try.prog 9 D.str (fun s => s.size ≤ maxLen) := opens_str Try.underlying9
theorem o_strs : Opens Try.prog 22 dl (fun l => l.length ≤ maxLen ∧ ∀ s ∈ l, s.size ≤ maxLen) := opens_slice Try.underlying22 o_str (by rw [k9]; decide)

set_option maxRecDepth 100000 in
theorem same_lifted (os : Os) (started : os.Started) (H : Type) (enc : TypeId × Value → H) :
    ReturnsInHanded {} Try.checked os 5 .any (Rows.classesSameSpec.pre6 enc Try.prog Try.f5 Rows.classesSameRow.domain false) (Rows.classesSameSpec.post enc Try.prog Try.f5 false true false false) := by
  refine returnsInHanded_of_change (C := Try.checked) Try.own started (by kernel_rfl) Try.func5
    (ChangeSpec.witness6 (enc := enc) (C := Try.checked) false ⟨#[], #[.slice none 0 0, .slice none 0 0], []⟩ 8 (by kernel_rfl) (by kernel_rfl) (by kernel_rfl) (by kernel_rfl)) ?_
  intro W base args ds gs before hval0 hW hcnd _
  have hval : ∀ (j : Nat) t v, Try.f5.params[j]? = some t → args[j]? = some v → Value.okWide Try.prog W .any base t v := hval0
  have hW' := hW
  obtain ⟨p, q, hA0, hV, rfl, hfz, hnd⟩ := hW
  have hA : DataW.TrodAll enc Try.prog W 0 (fun _ => true) true Try.f5.params.toList args.toList ds p := hA0
  rw [Try.params5] at hA hval
  obtain ⟨v0, v1, d0, d1, p0, p1, rfl, rfl, rfl, h0, h1⟩ := trodAll_two hA
  obtain ⟨rfl, rfl⟩ := trodVars_none hV
  have c0 : v0.oneCell' = true := by obtain ⟨a, n, c, rfl⟩ := okWide_slice Try.underlying22 (hval 0 22 v0 rfl rfl); rfl
  have c1 : v1.oneCell' = true := by obtain ⟨a, n, c, rfl⟩ := okWide_slice Try.underlying22 (hval 1 22 v1 rfl rfl); rfl
  obtain ⟨x0, k0, r0, o0⟩ := arg_open o_strs (fun _ => rfl) c0 h0
  obtain ⟨x1, k1, r1, o1⟩ := arg_open o_strs (fun _ => rfl) c1 h1
  clear hA0 hval0
  simp only [List.append_nil] at hW'
  have hlt : ∀ x ∈ p0 ++ p1, x.block < W.heap.size := fun x hx => by simpa using hW'.lt x (by simpa using hx)
  have hct := (lawSame_fn x0 x1 [] (by simpa [maxLen] using k0.1) (by simpa [maxLen] using k1.1)).mono (Q' := fun r _ => r = .bool true) fun r σ' h => h.1
  refine (bridge (vs := #[v0, v1]) hct rfl (fun i d v e1 e2 => ?_)).mono fun e W' ⟨he, hnx⟩ => ?_
  · match i with
    | 0 => simp at e1 e2; subst e1; subst e2; exact ⟨r0, o0⟩
    | 1 => simp at e1 e2; subst e1; subst e2; exact ⟨r1, o1⟩
    | i + 2 => simp at e1
  · subst he
    refine ⟨_, rfl, _, _, _, [] ++ [], p0 ++ p1, [], hW', ?_, ?_, rfl, hnx.frame _, fun h => by cases h⟩
    · exact trodAll_mk1 (shut_bool Try.underlying4 true)
    · exact trodAll_mk2 (Below.trod Try.laidOut (by kernel_rfl) (of_decide_eq_true (by kernel_rfl)) h0 hnx fun x hx => hlt x (by simp [hx]))
        (Below.trod Try.laidOut (by kernel_rfl) (of_decide_eq_true (by kernel_rfl)) h1 hnx fun x hx => hlt x (by simp [hx]))

theorem same_holds : Rows.ClassesSameSaid :=
  OpenClaim.holds_of_wide 5 Try.f5 rfl rfl rfl rfl rfl rfl rfl ⟨rfl, rfl, rfl, rfl, rfl⟩ rfl rfl rfl rfl rfl (by kernel_rfl) Try.func5 (by kernel_rfl)
    (of_decide_eq_true (by kernel_rfl)) (by unfold Func.isWrapper; first | (rw [if_pos (by decide +kernel)]; kernel_rfl) | (rw [if_neg (by decide +kernel)]; exact ⟨rfl, rfl⟩))
    (fun os started H enc _ => same_lifted os started H enc)

#print axioms same_holds

end Go.Proofs.Ythieajadepfeoaa

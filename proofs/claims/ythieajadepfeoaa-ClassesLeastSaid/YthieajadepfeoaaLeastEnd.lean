/- ClassesLeast, proved: whatever the input, it returns true, and the input reads as it did. No condition. -/
import Derived.Test.YthieajadepfeoaaRows
import Derived.Test.YthieajadepfeoaaWkLeast
import Derived.Test.YthieajadepfeoaaVm23
import Derived.ProofKit
namespace Go.Proofs.Ythieajadepfeoaa
open Go Go.Vm Go.ChangeShapes Go.WideShapes Go.ChangeAt Go.RowKit

theorem Try.own : ownKnob Try.prog.godebug = none := by kernel_rfl
theorem Try.laidOut : laidOutB Try.prog = true := by kernel_rfl

theorem k9 : Try.prog.cellsOf 9 = 1 := by kernel_rfl
theorem k27 : Try.prog.cellsOf 27 = 2 := by kernel_rfl
theorem k4 : Try.prog.cellsOf 4 = 1 := by kernel_rfl
theorem o_str : Opens Try.prog 9 D.str (fun s => s.size ≤ maxLen) := opens_str Try.underlying9
theorem o_strs : Opens Try.prog 22 dl (fun l => l.length ≤ maxLen ∧ ∀ s ∈ l, s.size ≤ maxLen) := opens_slice Try.underlying22 o_str (by rw [k9]; decide)
theorem o_stp : Opens Try.prog 27 dst (fun _ => True) :=
  (opens_struct Try.underlying27 (opensF_cons (m := 1) rfl k4 (opens_bool Try.underlying4) (opensF_cons (m := 1) rfl k9 o_str (by rw [k27]; exact opensF_nil)))).map (fun a => ⟨a.1, a.2.1⟩) (fun a => rfl) (fun _ _ => trivial)
theorem o_stps : Opens Try.prog 23 (fun S : List Stp => .sl false (S.map dst)) (fun S => S.length ≤ maxLen ∧ ∀ s ∈ S, True) := opens_slice Try.underlying23 o_stp (by rw [k27]; decide)

set_option maxRecDepth 100000 in
theorem least_lifted (os : Os) (started : os.Started) (H : Type) (enc : TypeId × Value → H) :
    ReturnsInHanded {} Try.checked os 3 .any (Rows.classesLeastSpec.pre6 enc Try.prog Try.f3 Rows.classesLeastRow.domain false) (Rows.classesLeastSpec.post enc Try.prog Try.f3 false true false false) := by
  refine returnsInHanded_of_change (C := Try.checked) Try.own started (by kernel_rfl) Try.func3
    (ChangeSpec.witness6 (enc := enc) (C := Try.checked) false ⟨#[], #[.slice none 0 0, .slice none 0 0, .slice none 0 0], []⟩ 8 (by kernel_rfl) (by kernel_rfl) (by kernel_rfl) (by kernel_rfl)) ?_
  intro W base args ds gs before hval0 hW hcnd _
  have hval : ∀ (j : Nat) t v, Try.f3.params[j]? = some t → args[j]? = some v → Value.okWide Try.prog W .any base t v := hval0
  have hW' := hW
  obtain ⟨p, q, hA0, hV, rfl, hfz, hnd⟩ := hW
  have hA : DataW.TrodAll enc Try.prog W 0 (fun _ => true) true Try.f3.params.toList args.toList ds p := hA0
  rw [Try.params3] at hA hval
  obtain ⟨v0, v1, v2, d0, d1, d2, p0, p1, p2, rfl, rfl, rfl, h0, h1, h2⟩ := trodAll_three hA
  obtain ⟨rfl, rfl⟩ := trodVars_none hV
  have c0 : v0.oneCell' = true := by obtain ⟨a, n, c, rfl⟩ := okWide_slice Try.underlying22 (hval 0 22 v0 rfl rfl); rfl
  have c1 : v1.oneCell' = true := by obtain ⟨a, n, c, rfl⟩ := okWide_slice Try.underlying22 (hval 1 22 v1 rfl rfl); rfl
  have c2 : v2.oneCell' = true := by obtain ⟨a, n, c, rfl⟩ := okWide_slice Try.underlying23 (hval 2 23 v2 rfl rfl); rfl
  obtain ⟨a, ⟨la, _⟩, ra, oa⟩ := arg_open o_strs (fun _ => rfl) c0 h0
  obtain ⟨b, ⟨lb, _⟩, rb, ob⟩ := arg_open o_strs (fun _ => rfl) c1 h1
  obtain ⟨S, ⟨lS, _⟩, rS, oS⟩ := arg_open o_stps (fun _ => rfl) c2 h2
  clear hA0 hval0
  simp only [List.append_nil] at hW'
  have hlt : ∀ x ∈ p0 ++ p1 ++ p2, x.block < W.heap.size := fun x hx => by simpa using hW'.lt x (by simpa using hx)
  have hct := (least_fn a b S [] (by simpa [maxLen] using la) (by simpa [maxLen] using lb) (by simpa [maxLen] using lS)).mono (Q' := fun r _ => r = .bool true) fun r σ' h => h.1
  refine (bridge (vs := #[v0, v1, v2]) hct rfl (fun i d v e1 e2 => ?_)).mono fun e W' ⟨he, hnx⟩ => ?_
  · match i with
    | 0 => simp at e1 e2; subst e1; subst e2; exact ⟨ra, oa⟩
    | 1 => simp at e1 e2; subst e1; subst e2; exact ⟨rb, ob⟩
    | 2 => simp at e1 e2; subst e1; subst e2; exact ⟨rS, oS⟩
    | i + 3 => simp at e1
  · subst he
    refine ⟨_, rfl, _, _, _, [] ++ [], p0 ++ (p1 ++ p2), [], hW', ?_, ?_, rfl, hnx.frame _, fun h => by cases h⟩
    · exact trodAll_mk1 (shut_bool Try.underlying4 true)
    · exact trodAll_mk3 (Below.trod Try.laidOut (by kernel_rfl) (of_decide_eq_true (by kernel_rfl)) h0 hnx fun x hx => hlt x (by simp [hx]))
        (Below.trod Try.laidOut (by kernel_rfl) (of_decide_eq_true (by kernel_rfl)) h1 hnx fun x hx => hlt x (by simp [hx]))
        (Below.trod Try.laidOut (by kernel_rfl) (of_decide_eq_true (by kernel_rfl)) h2 hnx fun x hx => hlt x (by simp [hx]))

theorem least_holds : Rows.ClassesLeastSaid :=
  OpenClaim.holds_of_wide 3 Try.f3 rfl rfl rfl rfl rfl rfl rfl ⟨rfl, rfl, rfl, rfl, rfl⟩ rfl rfl rfl rfl rfl (by kernel_rfl) Try.func3 (by kernel_rfl)
    (of_decide_eq_true (by kernel_rfl)) (by unfold Func.isWrapper; first | (rw [if_pos (by decide +kernel)]; kernel_rfl) | (rw [if_neg (by decide +kernel)]; exact ⟨rfl, rfl⟩))
    (fun os started H enc _ => least_lifted os started H enc)

#print axioms least_holds

end Go.Proofs.Ythieajadepfeoaa

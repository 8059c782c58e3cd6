/- FramesSecond, proved: whatever the input, it returns true, and the input reads as it did. No condition. -/
import Derived.Test.YthieajadepfeoaaRows
import Derived.Test.YthieajadepfeoaaWkFrames4
import Derived.Test.YthieajadepfeoaaVm23
import Derived.ProofKit
namespace Go.Proofs.Ythieajadepfeoaa
open Go Go.Vm Go.ChangeShapes Go.WideShapes Go.ChangeAt Go.RowKit

theorem Try.own : ownKnob Try.prog.godebug = none := by kernel_rfl
theorem Try.laidOut : laidOutB Try.prog = true := by kernel_rfl
abbrev pI (n : Int) : Prop := -9223372036854775808 ≤ n ∧ n ≤ 9223372036854775807
abbrev pT (_ : Bool) : Prop := True
abbrev pS (s : ByteArray) : Prop := s.size ≤ maxLen
theorem k35 : Try.prog.cellsOf 35 = 1 := by kernel_rfl
theorem k43 : Try.prog.cellsOf 43 = 4 := by kernel_rfl
theorem k3 : Try.prog.cellsOf 3 = 1 := by kernel_rfl
theorem o3 : Opens Try.prog 3 D.int pI := opens_int Try.underlying3
theorem k41 : Try.prog.cellsOf 41 = 2 := by kernel_rfl
abbrev p41 (s : Job) : Prop := pI s.kind ∧ pI s.node
theorem o41 : Opens Try.prog 41 d_Job p41 :=
  (opens_struct Try.underlying41 (opensF_cons (m := 1) rfl k3 o3 (opensF_cons (m := 1) rfl k3 o3 (by rw [k41]; exact opensF_nil)))).map (fun a => ⟨a.1, a.2.1⟩) (fun a => rfl) (fun a h => ⟨h.1, h.2.1⟩)
abbrev p43 (s : FAct) : Prop := pI s.kind ∧ pI s.n ∧ p41 s.job
theorem o43 : Opens Try.prog 43 d_FAct p43 :=
  (opens_struct Try.underlying43 (opensF_cons (m := 1) rfl k3 o3 (opensF_cons (m := 1) rfl k3 o3 (opensF_cons (m := 2) rfl k41 o41 (by rw [k43]; exact opensF_nil))))).map (fun a => ⟨a.1, a.2.1, a.2.2.1⟩) (fun a => rfl) (fun a h => ⟨h.1, h.2.1, h.2.2.1⟩)
abbrev p35 (l : (List FAct)) : Prop := l.length ≤ maxLen ∧ ∀ x ∈ l, p43 x
theorem o35 : Opens Try.prog 35 (fun l : (List FAct) => .sl false (l.map d_FAct)) p35 := opens_slice Try.underlying35 o43 (by rw [k43]; decide)


set_option maxRecDepth 100000 in
theorem second_lifted (os : Os) (started : os.Started) (H : Type) (enc : TypeId × Value → H) :
    ReturnsInHanded {} Try.checked os 4 .any (Rows.framesSecondSpec.pre6 enc Try.prog Try.f4 Rows.framesSecondRow.domain false) (Rows.framesSecondSpec.post enc Try.prog Try.f4 false true false false) := by
  refine returnsInHanded_of_change (C := Try.checked) Try.own started (by kernel_rfl) Try.func4
    (ChangeSpec.witness6 (enc := enc) (C := Try.checked) false ⟨#[], #[.slice none 0 0], []⟩ 8 (by kernel_rfl) (by kernel_rfl) (by kernel_rfl) (by kernel_rfl)) ?_
  intro W base args ds gs before hval0 hW hcnd _
  have hval : ∀ (j : Nat) t v, Try.f4.params[j]? = some t → args[j]? = some v → Value.okWide Try.prog W .any base t v := hval0
  have hW' := hW
  obtain ⟨p, q, hA0, hV, rfl, hfz, hnd⟩ := hW
  have hA : DataW.TrodAll enc Try.prog W 0 (fun _ => true) true Try.f4.params.toList args.toList ds p := hA0
  rw [Try.params4] at hA hval
  obtain ⟨v0, d0, rfl, rfl, h0⟩ := trodAll_one hA
  obtain ⟨rfl, rfl⟩ := trodVars_none hV
  have c0 : v0.oneCell' = true := by obtain ⟨a, n, c, rfl⟩ := okWide_slice Try.underlying35 (hval 0 35 v0 rfl rfl); rfl
  obtain ⟨x0, k0, r0, w0⟩ := arg_open o35 (fun _ => rfl) c0 h0
  clear hA0 hval0
  simp only [List.append_nil] at hW'
  have hlt : ∀ x ∈ p, x.block < W.heap.size := fun x hx => by simpa using hW'.lt x (by simpa using hx)
  have hct := (framesSecond_fn x0 ([]) (by simpa [maxLen] using k0.1)).mono (Q' := fun r _ => r = .bool true) fun r σ' h => h
  refine (bridge (vs := #[v0]) hct rfl (fun i d v e1 e2 => ?_)).mono fun e W' ⟨he, hnx⟩ => ?_
  · match i with
    | 0 => simp at e1 e2; subst e1; subst e2; exact ⟨r0, w0⟩
    | i + 1 => simp at e1
  · subst he
    refine ⟨_, rfl, _, _, _, [] ++ [], p, [], hW', ?_, ?_, rfl, hnx.frame _, fun h => by cases h⟩
    · exact trodAll_mk1 (shut_bool Try.underlying4 true)
    · exact trodAll_mk1 (Below.trod Try.laidOut (by kernel_rfl) (of_decide_eq_true (by kernel_rfl)) h0 hnx fun x hx => hlt x (by simp [hx]))

theorem second_holds : Rows.FramesSecondSaid :=
  OpenClaim.holds_of_wide 4 Try.f4 rfl rfl rfl rfl rfl rfl rfl ⟨rfl, rfl, rfl, rfl, rfl⟩ rfl rfl rfl rfl rfl (by kernel_rfl) Try.func4 (by kernel_rfl)
    (of_decide_eq_true (by kernel_rfl)) (by unfold Func.isWrapper; first | (rw [if_pos (by decide +kernel)]; kernel_rfl) | (rw [if_neg (by decide +kernel)]; exact ⟨rfl, rfl⟩))
    (fun os started H enc _ => second_lifted os started H enc)

#print axioms second_holds

end Go.Proofs.Ythieajadepfeoaa

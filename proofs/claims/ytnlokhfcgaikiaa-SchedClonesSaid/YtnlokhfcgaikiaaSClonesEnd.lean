import Derived.Test.YtnlokhfcgaikiaaRows
import Derived.Test.YtnlokhfcgaikiaaWkSclL
import Derived.Test.YtnlokhfcgaikiaaVm23
import Derived.ProofKit
namespace Go.Proofs.Ytnlokhfcgaikiaa
open Go Go.Vm Go.ChangeShapes Go.WideShapes Go.ChangeAt Go.RowKit
theorem Try.own : ownKnob Try.prog.godebug = none := by kernel_rfl
theorem Try.laidOut : laidOutB Try.prog = true := by kernel_rfl
abbrev pI (n : Int) : Prop := -9223372036854775808 ≤ n ∧ n ≤ 9223372036854775807
abbrev pT (_ : Bool) : Prop := True
abbrev pS (s : ByteArray) : Prop := s.size ≤ maxLen
theorem k41 : Try.prog.cellsOf 41 = 1 := by kernel_rfl
theorem k45 : Try.prog.cellsOf 45 = 5 := by kernel_rfl
theorem k3 : Try.prog.cellsOf 3 = 1 := by kernel_rfl
theorem o3 : Opens Try.prog 3 D.int pI := opens_int Try.underlying3
theorem k4 : Try.prog.cellsOf 4 = 1 := by kernel_rfl
theorem o4 : Opens Try.prog 4 D.bool pT := opens_bool Try.underlying4
theorem k27 : Try.prog.cellsOf 27 = 2 := by kernel_rfl
abbrev p27 (s : Job) : Prop := pI s.kind ∧ pI s.node
theorem o27 : Opens Try.prog 27 d_Job p27 :=
 (opens_struct Try.underlying27 (opensF_cons (m := 1) rfl k3 o3 (opensF_cons (m := 1) rfl k3 o3 (by rw [k27]; exact opensF_nil)))).map (fun a => ⟨a.1, a.2.1⟩) (fun a => rfl) (fun a h => ⟨h.1, h.2.1⟩)
abbrev p45 (s : SAct) : Prop := pI s.kind ∧ pI s.n ∧ pT s.frame ∧ p27 s.job
theorem o45 : Opens Try.prog 45 d_SAct p45 :=
 (opens_struct Try.underlying45 (opensF_cons (m := 1) rfl k3 o3 (opensF_cons (m := 1) rfl k3 o3 (opensF_cons (m := 1) rfl k4 o4 (opensF_cons (m := 2) rfl k27 o27 (by rw [k45]; exact opensF_nil)))))).map (fun a => ⟨a.1, a.2.1, a.2.2.1, a.2.2.2.1⟩) (fun a => rfl) (fun a h => ⟨h.1, h.2.1, h.2.2.1, h.2.2.2.1⟩)
abbrev p41 (l : (List SAct)) : Prop := l.length ≤ maxLen ∧ ∀ x ∈ l, p45 x
theorem o41 : Opens Try.prog 41 (fun l : (List SAct) => .sl false (l.map d_SAct)) p41 := opens_slice Try.underlying41 o45 (by rw [k45]; decide)
set_option maxRecDepth 100000 in
theorem clones_lifted (os : Os) (started : os.Started) (H : Type) (enc : TypeId × Value → H) :
  ReturnsInHanded {} Try.checked os 8 .any (Rows.schedClonesSpec.pre6 enc Try.prog Try.f8 Rows.schedClonesRow.domain false) (Rows.schedClonesSpec.post enc Try.prog Try.f8 false true false false) := by
 refine returnsInHanded_of_change (C := Try.checked) Try.own started (by kernel_rfl) Try.func8
  (ChangeSpec.witness6 (enc := enc) (C := Try.checked) false ⟨#[], #[.slice none 0 0, .slice none 0 0], []⟩ 8 (by kernel_rfl) (by kernel_rfl) (by kernel_rfl) (by kernel_rfl)) ?_
 intro W base args ds gs before hval0 hW hcnd _
 have hval : ∀ (j : Nat) t v, Try.f8.params[j]? = some t → args[j]? = some v → Value.okWide Try.prog W .any base t v := hval0
 have hW' := hW
 obtain ⟨p, q, hA0, hV, rfl, hfz, hnd⟩ := hW
 have hA : DataW.TrodAll enc Try.prog W 0 (fun _ => true) true Try.f8.params.toList args.toList ds p := hA0
 rw [Try.params8] at hA hval
 obtain ⟨v0, v1, d0, d1, p0, p1, rfl, rfl, rfl, h0, h1⟩ := trodAll_two hA
 obtain ⟨rfl, rfl⟩ := trodVars_none hV
 have c0 : v0.oneCell' = true := by obtain ⟨a, n, c, rfl⟩ := okWide_slice Try.underlying41 (hval 0 41 v0 rfl rfl); rfl
 have c1 : v1.oneCell' = true := by obtain ⟨a, n, c, rfl⟩ := okWide_slice Try.underlying41 (hval 1 41 v1 rfl rfl); rfl
 obtain ⟨x0, k0, r0, w0⟩ := arg_open o41 (fun _ => rfl) c0 h0
 obtain ⟨x1, k1, r1, w1⟩ := arg_open o41 (fun _ => rfl) c1 h1
 clear hA0 hval0
 simp only [List.append_nil] at hW'
 have hlt : ∀ x ∈ p0 ++ p1, x.block < W.heap.size := fun x hx => by simpa using hW'.lt x (by simpa using hx)
 have hct := (schedClones_fn x0 x1 ([]) (by simpa [maxLen] using k0.1) (by simpa [maxLen] using k1.1)).mono (Q' := fun r _ => r = .bool true) fun r σ' h => h
 refine (bridge (vs := #[v0, v1]) hct rfl (fun i d v e1 e2 => ?_)).mono fun e W' ⟨he, hnx⟩ => ?_
 ·match i with
  | 0 => simp at e1 e2; subst e1; subst e2; exact ⟨r0, w0⟩
  | 1 => simp at e1 e2; subst e1; subst e2; exact ⟨r1, w1⟩
  | i + 2 => simp at e1
 ·subst he
  refine ⟨_, rfl, _, _, _, [] ++ [], p0 ++ p1, [], hW', ?_, ?_, rfl, hnx.frame _, fun h => by cases h⟩
  ·exact trodAll_mk1 (shut_bool Try.underlying4 true)
  ·exact trodAll_mk2 (Below.trod Try.laidOut (by kernel_rfl) (of_decide_eq_true (by kernel_rfl)) h0 hnx fun x hx => hlt x (by simp [hx]))
    (Below.trod Try.laidOut (by kernel_rfl) (of_decide_eq_true (by kernel_rfl)) h1 hnx fun x hx => hlt x (by simp [hx]))
theorem clones_holds : Rows.SchedClonesSaid :=
 OpenClaim.holds_of_wide 8 Try.f8 rfl rfl rfl rfl rfl rfl rfl ⟨rfl, rfl, rfl, rfl, rfl⟩ rfl rfl rfl rfl rfl (by kernel_rfl) Try.func8 (by kernel_rfl)
  (of_decide_eq_true (by kernel_rfl)) (by unfold Func.isWrapper; first | (rw [if_pos (by decide +kernel)]; kernel_rfl) | (rw [if_neg (by decide +kernel)]; exact ⟨rfl, rfl⟩))
  (fun os started H enc _ => clones_lifted os started H enc)
#print axioms clones_holds
end Go.Proofs.Ytnlokhfcgaikiaa

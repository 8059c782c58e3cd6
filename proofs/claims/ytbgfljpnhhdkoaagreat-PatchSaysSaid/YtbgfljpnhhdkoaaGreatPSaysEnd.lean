import Derived.Test.YtbgfljpnhhdkoaaGreatRows
import Derived.Test.YtbgfljpnhhdkoaaGreatVm23
import Derived.ProofKit
namespace Go.Proofs.YtbgfljpnhhdkoaaGreat
open Go Go.Vm Go.ChangeShapes Go.WideShapes Go.ChangeAt Go.RowKit
theorem Tryz.own : ownKnob Tryz.prog.godebug = none := by kernel_rfl
theorem Tryz.laidOut : laidOutB Tryz.prog = true := by kernel_rfl
abbrev pI (n : Int) : Prop := -9223372036854775808 ≤ n ∧ n ≤ 9223372036854775807
abbrev pT (_ : Bool) : Prop := True
abbrev pS (s : ByteArray) : Prop := s.size ≤ maxLen
theorem k57 : Tryz.prog.cellsOf 57 = 4 := by kernel_rfl
theorem k26 : Tryz.prog.cellsOf 26 = 1 := by kernel_rfl
theorem k25 : Tryz.prog.cellsOf 25 = 6 := by kernel_rfl
theorem k3 : Tryz.prog.cellsOf 3 = 1 := by kernel_rfl
theorem o3 : Opens Tryz.prog 3 D.int pI := Rx Tryz.underlying3
theorem k9 : Tryz.prog.cellsOf 9 = 1 := by kernel_rfl
theorem o9 : Opens Tryz.prog 9 D.str pS := Ro Tryz.underlying9
abbrev p25 (s : Act) : Prop := pI s.kind ∧ pI s.a ∧ pI s.b ∧ pI s.c ∧ pS s.name ∧ pS s.value
theorem o25 : Opens Tryz.prog 25 mK p25 :=
 (tF Tryz.underlying25 (fH (m := 1) rfl k3 o3 (fH (m := 1) rfl k3 o3 (fH (m := 1) rfl k3 o3 (fH (m := 1) rfl k3 o3 (fH (m := 1) rfl k9 o9 (fH (m := 1) rfl k9 o9 (by rw [k25]; exact zT)))))))).map (fun a => ⟨a.1, a.2.1, a.2.2.1, a.2.2.2.1, a.2.2.2.2.1, a.2.2.2.2.2.1⟩) (fun a => rfl) (fun a h => ⟨h.1, h.2.1, h.2.2.1, h.2.2.2.1, h.2.2.2.2.1, h.2.2.2.2.2.1⟩)
abbrev p26 (l : (List Act)) : Prop := l.length ≤ maxLen ∧ ∀ x ∈ l, p25 x
theorem o26 : Opens Tryz.prog 26 (fun l : (List Act) => .sl false (l.map mK)) p26 := Iz Tryz.underlying26 o25 (by rw [k25]; decide)
abbrev p57 (s : Want) : Prop := p26 s.acts ∧ pI s.ID ∧ pS s.tag ∧ pS s.text
theorem o57 : Opens Tryz.prog 57 Zn p57 :=
 (tF Tryz.underlying57 (fH (m := 1) rfl k26 o26 (fH (m := 1) rfl k3 o3 (fH (m := 1) rfl k9 o9 (fH (m := 1) rfl k9 o9 (by rw [k57]; exact zT)))))).map (fun a => ⟨a.1, a.2.1, a.2.2.1, a.2.2.2.1⟩) (fun a => rfl) (fun a h => ⟨h.1, h.2.1, h.2.2.1, h.2.2.2.1⟩)
set_option maxRecDepth 100000 in
theorem Hz (os : Os) (started : os.Started) (H : Type) (enc : TypeId × Value → H) :
  ReturnsInHanded {} Tryz.checked os 5 .any (Rows.patchSaysSpec.pre6 enc Tryz.prog Tryz.f5 Rows.patchSaysRow.domain false) (Rows.patchSaysSpec.post enc Tryz.prog Tryz.f5 false true false false) := by
 refine returnsInHanded_of_change (C := Tryz.checked) Tryz.own started (by kernel_rfl) Tryz.func5
  (ChangeSpec.witness6 (enc := enc) (C := Tryz.checked) false ⟨#[], #[.agg #[.slice none 0 0, .int .i64 0, .string ⟨#[]⟩, .string ⟨#[]⟩]], []⟩ 8 (by kernel_rfl) (by kernel_rfl) (by kernel_rfl) (by kernel_rfl)) ?_
 intro W base args ds gs before hval0 hW hcnd _;have hval : ∀ (j : Nat) t v, Tryz.f5.params[j]? = some t → args[j]? = some v → Value.okWide Tryz.prog W .any base t v := hval0;have hW' := hW;obtain ⟨p, q, hA0, hV, rfl, hfz, hnd⟩ := hW;have hA : DataW.TrodAll enc Tryz.prog W 0 (fun _ => true) true Tryz.f5.params.toList args.toList ds p := hA0;rw [Tryz.params5] at hA hval;obtain ⟨v0, d0, rfl, rfl, h0⟩ := trodAll_one hA;obtain ⟨rfl, rfl⟩ := trodVars_none hV;obtain ⟨a0, rfl⟩ := yT Tryz.underlying57 (hval 0 57 v0 rfl rfl);obtain ⟨x0, k0, r0, w0⟩ := Tz o57 (fun _ => ⟨_, rfl⟩) h0;clear hA0 hval0;simp only [List.append_nil] at hW';have hlt : ∀ x ∈ p, x.block < W.heap.size := fun x hx => by simpa using hW'.lt x (by simpa using hx)
 have hct := (Nw x0 ([]) (by simpa [maxLen] using k0.1.1) (fun a h => by obtain ⟨_, _, _, _, h5, h6⟩ := k0.1.2 a h; exact ⟨by simpa [maxLen] using h5, by simpa [maxLen] using h6⟩)).mono (Q' := fun r _ => r = .bool true) fun r σ' h => h;refine (aHq (vs := #[.agg a0]) hct rfl (fun i d v e1 e2 => ?_)).mono fun e W' ⟨he, hnx⟩ => ?_
 ·match i with
  | 0 => simp at e1 e2; subst e1; subst e2; exact ⟨r0, w0⟩
  | i + 1 => simp at e1
 subst he;refine ⟨_, rfl, _, _, _, [] ++ [], p, [], hW', ?_, ?_, rfl, hnx.frame _, fun h => by cases h⟩
 ·exact trodAll_mk1 (shut_bool Tryz.underlying4 true)
 exact trodAll_mk1 (Below.trod Tryz.laidOut (by kernel_rfl) (of_decide_eq_true (by kernel_rfl)) h0 hnx fun x hx => hlt x (by simp [hx]))
theorem says_holds : Rows.PatchSaysSaid :=
 OpenClaim.holds_of_wide 5 Tryz.f5 rfl rfl rfl rfl rfl rfl rfl ⟨rfl, rfl, rfl, rfl, rfl⟩ rfl rfl rfl rfl rfl (by kernel_rfl) Tryz.func5 (by kernel_rfl)
  (of_decide_eq_true (by kernel_rfl)) (by unfold Func.isWrapper; first | (rw [if_pos (by decide +kernel)]; kernel_rfl) | (rw [if_neg (by decide +kernel)]; exact ⟨rfl, rfl⟩))
  (fun os started H enc _ => Hz os started H enc)
#print axioms says_holds
end Go.Proofs.YtbgfljpnhhdkoaaGreat

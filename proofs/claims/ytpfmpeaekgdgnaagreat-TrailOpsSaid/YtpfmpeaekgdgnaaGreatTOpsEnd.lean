import Derived.Test.YtpfmpeaekgdgnaaGreatRows
import Derived.Test.YtpfmpeaekgdgnaaGreatWkTr5
import Derived.Test.YtpfmpeaekgdgnaaGreatVm23
import Derived.ProofKit
namespace Go.Proofs.YtpfmpeaekgdgnaaGreat
open Go Go.Vm Go.ChangeShapes Go.WideShapes Go.ChangeAt Go.RowKit
theorem Tryz.own : ownKnob Tryz.prog.godebug = none := by kernel_rfl
theorem Tryz.laidOut : laidOutB Tryz.prog = true := by kernel_rfl
abbrev pI (n : Int) : Prop := -9223372036854775808 ≤ n ∧ n ≤ 9223372036854775807
abbrev pT (_ : Bool) : Prop := True
abbrev pS (s : ByteArray) : Prop := s.size ≤ maxLen
theorem k76 : Tryz.prog.cellsOf 76 = 1 := by kernel_rfl
theorem k68 : Tryz.prog.cellsOf 68 = 6 := by kernel_rfl
theorem k3 : Tryz.prog.cellsOf 3 = 1 := by kernel_rfl
theorem o3 : Opens Tryz.prog 3 D.int pI := opens_int Tryz.underlying3
theorem k9 : Tryz.prog.cellsOf 9 = 1 := by kernel_rfl
theorem o9 : Opens Tryz.prog 9 D.str pS := opens_str Tryz.underlying9
abbrev p68 (s : TOp) : Prop := pI s.kind ∧ pI s.a ∧ pI s.b ∧ pI s.c ∧ pS s.name ∧ pS s.value
theorem o68 : Opens Tryz.prog 68 d_TOp p68 :=
 (opens_struct Tryz.underlying68 (opensF_cons (m := 1) rfl k3 o3 (opensF_cons (m := 1) rfl k3 o3 (opensF_cons (m := 1) rfl k3 o3 (opensF_cons (m := 1) rfl k3 o3 (opensF_cons (m := 1) rfl k9 o9 (opensF_cons (m := 1) rfl k9 o9 (by rw [k68]; exact opensF_nil)))))))).map (fun a => ⟨a.1, a.2.1, a.2.2.1, a.2.2.2.1, a.2.2.2.2.1, a.2.2.2.2.2.1⟩) (fun a => rfl) (fun a h => ⟨h.1, h.2.1, h.2.2.1, h.2.2.2.1, h.2.2.2.2.1, h.2.2.2.2.2.1⟩)
abbrev p76 (l : (List TOp)) : Prop := l.length ≤ maxLen ∧ ∀ x ∈ l, p68 x
theorem o76 : Opens Tryz.prog 76 (fun l : (List TOp) => .sl false (l.map d_TOp)) p76 := opens_slice Tryz.underlying76 o68 (by rw [k68]; decide)
set_option maxRecDepth 100000 in
theorem ops_lifted (os : Os) (started : os.Started) (H : Type) (enc : TypeId × Value → H) :
  ReturnsInHanded {} Tryz.checked os 9 .any (Rows.trailOpsSpec.pre6 enc Tryz.prog Tryz.f9 Rows.trailOpsRow.domain false) (Rows.trailOpsSpec.post enc Tryz.prog Tryz.f9 false true false false) := by
 refine returnsInHanded_of_change (C := Tryz.checked) Tryz.own started (by kernel_rfl) Tryz.func9
  (ChangeSpec.witness6 (enc := enc) (C := Tryz.checked) false ⟨#[], #[.slice none 0 0], []⟩ 8 (by kernel_rfl) (by kernel_rfl) (by kernel_rfl) (by kernel_rfl)) ?_
 intro W base args ds gs before hval0 hW hcnd _
 have hval : ∀ (j : Nat) t v, Tryz.f9.params[j]? = some t → args[j]? = some v → Value.okWide Tryz.prog W .any base t v := hval0
 have hW' := hW
 obtain ⟨p, q, hA0, hV, rfl, hfz, hnd⟩ := hW
 have hA : DataW.TrodAll enc Tryz.prog W 0 (fun _ => true) true Tryz.f9.params.toList args.toList ds p := hA0
 rw [Tryz.params9] at hA hval
 obtain ⟨v0, d0, rfl, rfl, h0⟩ := trodAll_one hA
 obtain ⟨rfl, rfl⟩ := trodVars_none hV
 have c0 : v0.oneCell' = true := by obtain ⟨a, n, c, rfl⟩ := okWide_slice Tryz.underlying76 (hval 0 76 v0 rfl rfl); rfl
 obtain ⟨x0, k0, r0, w0⟩ := arg_open o76 (fun _ => rfl) c0 h0
 clear hA0 hval0
 simp only [List.append_nil] at hW'
 have hlt : ∀ x ∈ p, x.block < W.heap.size := fun x hx => by simpa using hW'.lt x (by simpa using hx)
 have hct := (lawOps_fn x0 ([]) (by simpa [maxLen] using k0.1) (fun a h => by obtain ⟨_, _, _, _, h5, h6⟩ := k0.2 a h; exact ⟨by simpa [maxLen] using h5, by simpa [maxLen] using h6⟩)).mono (Q' := fun r _ => r = .bool true) fun r σ' h => h
 refine (bridge (vs := #[v0]) hct rfl (fun i d v e1 e2 => ?_)).mono fun e W' ⟨he, hnx⟩ => ?_
 ·match i with
  | 0 => simp at e1 e2; subst e1; subst e2; exact ⟨r0, w0⟩
  | i + 1 => simp at e1
 ·subst he
  refine ⟨_, rfl, _, _, _, [] ++ [], p, [], hW', ?_, ?_, rfl, hnx.frame _, fun h => by cases h⟩
  ·exact trodAll_mk1 (shut_bool Tryz.underlying4 true)
  ·exact trodAll_mk1 (Below.trod Tryz.laidOut (by kernel_rfl) (of_decide_eq_true (by kernel_rfl)) h0 hnx fun x hx => hlt x (by simp [hx]))
theorem ops_holds : Rows.TrailOpsSaid :=
 OpenClaim.holds_of_wide 9 Tryz.f9 rfl rfl rfl rfl rfl rfl rfl ⟨rfl, rfl, rfl, rfl, rfl⟩ rfl rfl rfl rfl rfl (by kernel_rfl) Tryz.func9 (by kernel_rfl)
  (of_decide_eq_true (by kernel_rfl)) (by unfold Func.isWrapper; first | (rw [if_pos (by decide +kernel)]; kernel_rfl) | (rw [if_neg (by decide +kernel)]; exact ⟨rfl, rfl⟩))
  (fun os started H enc _ => ops_lifted os started H enc)
#print axioms ops_holds
end Go.Proofs.YtpfmpeaekgdgnaaGreat


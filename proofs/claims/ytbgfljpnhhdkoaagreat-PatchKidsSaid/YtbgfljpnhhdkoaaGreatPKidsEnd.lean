import Derived.Test.YtbgfljpnhhdkoaaGreatRows
import Derived.Test.YtbgfljpnhhdkoaaGreatVm23
import Derived.ProofKit
namespace Go.Proofs.YtbgfljpnhhdkoaaGreat
open Go Go.Vm Go.ChangeShapes Go.WideShapes Go.ChangeAt Go.RowKit
theorem Tryz.own : ownKnob Tryz.prog.godebug = none := by kernel_rfl
theorem Tryz.laidOut : laidOutB Tryz.prog = true := by kernel_rfl
abbrev pI (n : Int) : Prop := -9223372036854775808 ≤ n ∧ n ≤ 9223372036854775807
abbrev pT (_ : Bool) : Prop := True
abbrev pS (s : ByteArray) : Prop := s.size ≤ maxLen
theorem k26 : Tryz.prog.cellsOf 26 = 1 := by kernel_rfl
theorem k25 : Tryz.prog.cellsOf 25 = 6 := by kernel_rfl
theorem k3 : Tryz.prog.cellsOf 3 = 1 := by kernel_rfl
theorem o3 : Opens Tryz.prog 3 D.int pI := Sq Tryz.underlying3
theorem k9 : Tryz.prog.cellsOf 9 = 1 := by kernel_rfl
theorem o9 : Opens Tryz.prog 9 D.str pS := Sg Tryz.underlying9
abbrev p25 (s : Act) : Prop := pI s.kind ∧ pI s.a ∧ pI s.b ∧ pI s.c ∧ pS s.name ∧ pS s.value
theorem o25 : Opens Tryz.prog 25 nC p25 :=
 (Fg Tryz.underlying25 (jZ (m := 1) rfl k3 o3 (jZ (m := 1) rfl k3 o3 (jZ (m := 1) rfl k3 o3 (jZ (m := 1) rfl k3 o3 (jZ (m := 1) rfl k9 o9 (jZ (m := 1) rfl k9 o9 (by rw [k25]; exact Nb)))))))).map (fun a => ⟨a.1, a.2.1, a.2.2.1, a.2.2.2.1, a.2.2.2.2.1, a.2.2.2.2.2.1⟩) (fun a => rfl) (fun a h => ⟨h.1, h.2.1, h.2.2.1, h.2.2.2.1, h.2.2.2.2.1, h.2.2.2.2.2.1⟩)
abbrev p26 (l : (List Act)) : Prop := l.length ≤ maxLen ∧ ∀ x ∈ l, p25 x
theorem o26 : Opens Tryz.prog 26 (fun l : (List Act) => .sl false (l.map nC)) p26 := xA Tryz.underlying26 o25 (by rw [k25]; decide)
theorem k22 : Tryz.prog.cellsOf 22 = 1 := by kernel_rfl
abbrev p22 (l : (List Int)) : Prop := l.length ≤ maxLen ∧ ∀ x ∈ l, pI x
theorem o22 : Opens Tryz.prog 22 (fun l : (List Int) => .sl false (l.map D.int)) p22 := xA Tryz.underlying22 o3 (by rw [k3]; decide)
set_option maxRecDepth 100000 in
theorem Je (os : Os) (started : os.Started) (H : Type) (enc : TypeId × Value → H) :
  ReturnsInHanded {} Tryz.checked os 4 .any (Rows.patchKidsSpec.pre6 enc Tryz.prog Tryz.f4 Rows.patchKidsRow.domain false) (Rows.patchKidsSpec.post enc Tryz.prog Tryz.f4 false true false false) := by
 refine returnsInHanded_of_change (C := Tryz.checked) Tryz.own started (by kernel_rfl) Tryz.func4
  (ChangeSpec.witness6 (enc := enc) (C := Tryz.checked) false ⟨#[], #[.slice none 0 0, .int .i64 0, .slice none 0 0], []⟩ 8 (by kernel_rfl) (by kernel_rfl) (by kernel_rfl) (by kernel_rfl)) ?_
 intro W base args ds gs before hval0 hW hcnd _;have hval : ∀ (j : Nat) t v, Tryz.f4.params[j]? = some t → args[j]? = some v → Value.okWide Tryz.prog W .any base t v := hval0;have hW' := hW;obtain ⟨p, q, hA0, hV, rfl, hfz, hnd⟩ := hW;have hA : DataW.TrodAll enc Tryz.prog W 0 (fun _ => true) true Tryz.f4.params.toList args.toList ds p := hA0;rw [Tryz.params4] at hA hval;obtain ⟨v0, v1, v2, d0, d1, d2, p0, p1, p2, rfl, rfl, rfl, h0, h1, h2⟩ := trodAll_three hA;obtain ⟨rfl, rfl⟩ := trodVars_none hV;have c0 : v0.oneCell' = true := by obtain ⟨a, n, c, rfl⟩ := okWide_slice Tryz.underlying26 (hval 0 26 v0 rfl rfl); rfl
 have c1 : v1.oneCell' = true := by obtain ⟨x, rfl, _⟩ := open_int Tryz.underlying3 (hval 1 3 v1 rfl rfl) h1; rfl
 have c2 : v2.oneCell' = true := by obtain ⟨a, n, c, rfl⟩ := okWide_slice Tryz.underlying22 (hval 2 22 v2 rfl rfl); rfl
 obtain ⟨x0, k0, r0, w0⟩ := Bw o26 (fun _ => rfl) c0 h0;obtain ⟨x1, k1, r1, w1⟩ := Bw o3 (fun _ => rfl) c1 h1;obtain ⟨x2, k2, r2, w2⟩ := Bw o22 (fun _ => rfl) c2 h2;clear hA0 hval0;simp only [List.append_nil] at hW';have hlt : ∀ x ∈ p0 ++ p1 ++ p2, x.block < W.heap.size := fun x hx => by simpa using hW'.lt x (by simpa using hx)
 have hct := (Pd x0 x1 x2 ([]) (by simpa [maxLen] using k0.1) (fun a h => by obtain ⟨_, _, _, _, h5, h6⟩ := k0.2 a h; exact ⟨by simpa [maxLen] using h5, by simpa [maxLen] using h6⟩) (by simpa [maxLen] using k2.1)).mono (Q' := fun r _ => r = .bool true) fun r σ' h => h;refine (aI3 (vs := #[v0, v1, v2]) hct rfl (fun i d v e1 e2 => ?_)).mono fun e W' ⟨he, hnx⟩ => ?_
 ·match i with
  | 0 => simp at e1 e2; subst e1; subst e2; exact ⟨r0, w0⟩
  | 1 => simp at e1 e2; subst e1; subst e2; exact ⟨r1, w1⟩
  | 2 => simp at e1 e2; subst e1; subst e2; exact ⟨r2, w2⟩
  | i + 3 => simp at e1
 subst he;refine ⟨_, rfl, _, _, _, [] ++ [], p0 ++ (p1 ++ p2), [], hW', ?_, ?_, rfl, hnx.frame _, fun h => by cases h⟩
 ·exact trodAll_mk1 (shut_bool Tryz.underlying4 true)
 exact trodAll_mk3 (Below.trod Tryz.laidOut (by kernel_rfl) (of_decide_eq_true (by kernel_rfl)) h0 hnx fun x hx => hlt x (by simp [hx]))
  (Below.trod Tryz.laidOut (by kernel_rfl) (of_decide_eq_true (by kernel_rfl)) h1 hnx fun x hx => hlt x (by simp [hx]))
  (Below.trod Tryz.laidOut (by kernel_rfl) (of_decide_eq_true (by kernel_rfl)) h2 hnx fun x hx => hlt x (by simp [hx]))
theorem kids_holds : Rows.PatchKidsSaid :=
 OpenClaim.holds_of_wide 4 Tryz.f4 rfl rfl rfl rfl rfl rfl rfl ⟨rfl, rfl, rfl, rfl, rfl⟩ rfl rfl rfl rfl rfl (by kernel_rfl) Tryz.func4 (by kernel_rfl)
  (of_decide_eq_true (by kernel_rfl)) (by unfold Func.isWrapper; first | (rw [if_pos (by decide +kernel)]; kernel_rfl) | (rw [if_neg (by decide +kernel)]; exact ⟨rfl, rfl⟩))
  (fun os started H enc _ => Je os started H enc)
#print axioms kids_holds
end Go.Proofs.YtbgfljpnhhdkoaaGreat

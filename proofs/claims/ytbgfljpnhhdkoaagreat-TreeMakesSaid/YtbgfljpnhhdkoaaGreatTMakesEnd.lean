import Derived.Test.YtbgfljpnhhdkoaaGreatRows
import Derived.Test.YtbgfljpnhhdkoaaGreatVm23
import Derived.ProofKit
namespace Go.Proofs.YtbgfljpnhhdkoaaGreat
open Go Go.Vm Go.ChangeShapes Go.WideShapes Go.ChangeAt Go.RowKit
theorem Tryz.own : ownKnob Tryz.prog.godebug = none := by kernel_rfl
theorem Tryz.laidOut : laidOutB Tryz.prog = true := by kernel_rfl
abbrev pI (n : Int) : Prop := -9223372036854775808 ≤ n ∧ n ≤ 9223372036854775807
abbrev pT (_ : Bool) : Prop := True
abbrev pS (s : ByteArray) : Prop := s.size ≤ maxLen
theorem k81 : Tryz.prog.cellsOf 81 = 1 := by kernel_rfl
theorem k74 : Tryz.prog.cellsOf 74 = 14 := by kernel_rfl
theorem k3 : Tryz.prog.cellsOf 3 = 1 := by kernel_rfl
theorem o3 : Opens Tryz.prog 3 D.int pI := aFz Tryz.underlying3
theorem k9 : Tryz.prog.cellsOf 9 = 1 := by kernel_rfl
theorem o9 : Opens Tryz.prog 9 D.str pS := aHc Tryz.underlying9
theorem k35 : Tryz.prog.cellsOf 35 = 1 := by kernel_rfl
abbrev p35 (l : (List ByteArray)) : Prop := l.length ≤ maxLen ∧ ∀ x ∈ l, pS x
theorem o35 : Opens Tryz.prog 35 (fun l : (List ByteArray) => .sl false (l.map D.str)) p35 := tU Tryz.underlying35 o9 (by rw [k9]; decide)
theorem k59 : Tryz.prog.cellsOf 59 = 1 := by kernel_rfl
theorem aWt : Tryz.prog.cellsOf 171 = 2 := by kernel_rfl
abbrev aVz (s : AT) : Prop := pS s.name ∧ pS s.value
theorem aYt : Opens Tryz.prog 171 dA aVz :=
 (rX Tryz.underlying171 (eI (m := 1) rfl k9 o9 (eI (m := 1) rfl k9 o9 (by rw [aWt]; exact vW)))).map (fun a => ⟨a.1, a.2.1⟩) (fun a => rfl) (fun a h => ⟨h.1, h.2.1⟩)
abbrev p59 (l : (List AT)) : Prop := l.length ≤ maxLen ∧ ∀ x ∈ l, aVz x
theorem o59 : Opens Tryz.prog 59 (fun l : (List AT) => .sl false (l.map dA)) p59 := tU Tryz.underlying59 aYt (by rw [aWt]; decide)
theorem k60 : Tryz.prog.cellsOf 60 = 1 := by kernel_rfl
theorem aWe : Tryz.prog.cellsOf 136 = 2 := by kernel_rfl
abbrev aX7 (s : PI) : Prop := pS s.name ∧ pI s.value
theorem aZl : Opens Tryz.prog 136 cQ aX7 :=
 (rX Tryz.underlying136 (eI (m := 1) rfl k9 o9 (eI (m := 1) rfl k3 o3 (by rw [aWe]; exact vW)))).map (fun a => ⟨a.1, a.2.1⟩) (fun a => rfl) (fun a h => ⟨h.1, h.2.1⟩)
abbrev p60 (l : (List PI)) : Prop := l.length ≤ maxLen ∧ ∀ x ∈ l, aX7 x
theorem o60 : Opens Tryz.prog 60 (fun l : (List PI) => .sl false (l.map cQ)) p60 := tU Tryz.underlying60 aZl (by rw [aWe]; decide)
theorem k72 : Tryz.prog.cellsOf 72 = 6 := by kernel_rfl
theorem k4 : Tryz.prog.cellsOf 4 = 1 := by kernel_rfl
theorem o4 : Opens Tryz.prog 4 D.bool pT := aAw Tryz.underlying4
abbrev p72 (s : OPT) : Prop := pI s.enter ∧ pI s.leave ∧ pI s.move ∧ pI s.mode ∧ pT s.appear ∧ pT s.moves
theorem o72 : Opens Tryz.prog 72 aX3 p72 :=
 (rX Tryz.underlying72 (eI (m := 1) rfl k3 o3 (eI (m := 1) rfl k3 o3 (eI (m := 1) rfl k3 o3 (eI (m := 1) rfl k3 o3 (eI (m := 1) rfl k4 o4 (eI (m := 1) rfl k4 o4 (by rw [k72]; exact vW)))))))).map (fun a => ⟨a.1, a.2.1, a.2.2.1, a.2.2.2.1, a.2.2.2.2.1, a.2.2.2.2.2.1⟩) (fun a => rfl) (fun a h => ⟨h.1, h.2.1, h.2.2.1, h.2.2.2.1, h.2.2.2.2.1, h.2.2.2.2.2.1⟩)
abbrev p74 (s : FL) : Prop := pI s.deep ∧ pI s.kind ∧ pS s.tag ∧ pS s.key ∧ pS s.text ∧ p35 s.classes ∧ p59 s.attrs ∧ p60 s.styles ∧ p72 s.opts
theorem o74 : Opens Tryz.prog 74 Rc p74 :=
 (rX Tryz.underlying74 (eI (m := 1) rfl k3 o3 (eI (m := 1) rfl k3 o3 (eI (m := 1) rfl k9 o9 (eI (m := 1) rfl k9 o9 (eI (m := 1) rfl k9 o9 (eI (m := 1) rfl k35 o35 (eI (m := 1) rfl k59 o59 (eI (m := 1) rfl k60 o60 (eI (m := 6) rfl k72 o72 (by rw [k74]; exact vW))))))))))).map (fun a => ⟨a.1, a.2.1, a.2.2.1, a.2.2.2.1, a.2.2.2.2.1, a.2.2.2.2.2.1, a.2.2.2.2.2.2.1, a.2.2.2.2.2.2.2.1, a.2.2.2.2.2.2.2.2.1⟩) (fun a => rfl) (fun a h => ⟨h.1, h.2.1, h.2.2.1, h.2.2.2.1, h.2.2.2.2.1, h.2.2.2.2.2.1, h.2.2.2.2.2.2.1, h.2.2.2.2.2.2.2.1, h.2.2.2.2.2.2.2.2.1⟩)
abbrev p81 (l : (List FL)) : Prop := l.length ≤ maxLen ∧ ∀ x ∈ l, p74 x
theorem o81 : Opens Tryz.prog 81 (fun l : (List FL) => .sl false (l.map Rc)) p81 := tU Tryz.underlying81 o74 (by rw [k74]; decide)
set_option maxRecDepth 100000 in
theorem Ta (os : Os) (started : os.Started) (H : Type) (enc : TypeId × Value → H) :
  ReturnsInHanded {} Tryz.checked os 11 .any (Rows.treeMakesSpec.pre6 enc Tryz.prog Tryz.f11 Rows.treeMakesRow.domain false) (Rows.treeMakesSpec.post enc Tryz.prog Tryz.f11 false true false false) := by
 refine returnsInHanded_of_change (C := Tryz.checked) Tryz.own started (by kernel_rfl) Tryz.func11
  (ChangeSpec.witness6 (enc := enc) (C := Tryz.checked) false ⟨#[], #[.slice none 0 0, .int .i64 0], []⟩ 8 (by kernel_rfl) (by kernel_rfl) (by kernel_rfl) (by kernel_rfl)) ?_
 intro W base args ds gs before hval0 hW hcnd _;have hval : ∀ (j : Nat) t v, Tryz.f11.params[j]? = some t → args[j]? = some v → Value.okWide Tryz.prog W .any base t v := hval0;have hW' := hW;obtain ⟨p, q, hA0, hV, rfl, hfz, hnd⟩ := hW;have hA : DataW.TrodAll enc Tryz.prog W 0 (fun _ => true) true Tryz.f11.params.toList args.toList ds p := hA0;rw [Tryz.params11] at hA hval;obtain ⟨v0, v1, d0, d1, p0, p1, rfl, rfl, rfl, h0, h1⟩ := trodAll_two hA;obtain ⟨rfl, rfl⟩ := trodVars_none hV;have c0 : v0.oneCell' = true := by obtain ⟨a, n, c, rfl⟩ := okWide_slice Tryz.underlying81 (hval 0 81 v0 rfl rfl); rfl
 have c1 : v1.oneCell' = true := by obtain ⟨x, rfl, _⟩ := open_int Tryz.underlying3 (hval 1 3 v1 rfl rfl) h1; rfl
 obtain ⟨x0, k0, r0, w0⟩ := Va o81 (fun _ => rfl) c0 h0;obtain ⟨x1, k1, r1, w1⟩ := Va o3 (fun _ => rfl) c1 h1;clear hA0 hval0;simp only [gH] at hW';have hlt : ∀ x ∈ p0 ++ p1, x.block < W.heap.size := fun x hx => by simpa using hW'.lt x (by simpa using hx)
 have hct := (Ub x0 x1 ([]) (by simpa [maxLen] using k0.1) (fun a h => by obtain ⟨_, _, _, _, _, h6, h7, h8, _⟩ := k0.2 a h; exact ⟨by simpa [maxLen] using h6.1, by simpa [maxLen] using h7.1, by simpa [maxLen] using h8.1⟩)).mono (Q' := fun r _ => r = .bool true) fun r σ' h => h;refine (aTc (vs := #[v0, v1]) hct rfl (fun i d v e1 e2 => ?_)).mono fun e W' ⟨he, hnx⟩ => ?_
 ·match i with
  | 0 => simp at e1 e2; subst e1; subst e2; exact ⟨r0, w0⟩
  | 1 => simp at e1 e2; subst e1; subst e2; exact ⟨r1, w1⟩
  | i + 2 => simp at e1
 subst he;refine ⟨_, rfl, _, _, _, [] ++ [], p0 ++ p1, [], hW', ?_, ?_, rfl, hnx.frame _, fun h => by cases h⟩
 ·exact trodAll_mk1 (shut_bool Tryz.underlying4 true)
 exact trodAll_mk2 (Below.trod Tryz.laidOut (by kernel_rfl) (zG (by kernel_rfl)) h0 hnx fun x hx => hlt x (by simp [hx]))
  (Below.trod Tryz.laidOut (by kernel_rfl) (zG (by kernel_rfl)) h1 hnx fun x hx => hlt x (by simp [hx]))
theorem makes_holds : Rows.TreeMakesSaid :=
 OpenClaim.holds_of_wide 11 Tryz.f11 rfl rfl rfl rfl rfl rfl rfl ⟨rfl, rfl, rfl, rfl, rfl⟩ rfl rfl rfl rfl rfl (by kernel_rfl) Tryz.func11 (by kernel_rfl)
  (zG (by kernel_rfl)) (by unfold Func.isWrapper; first | (rw [aK (by decide +kernel)]; kernel_rfl) | (rw [aD (by decide +kernel)]; exact ⟨rfl, rfl⟩))
  (fun os started H enc _ => Ta os started H enc)
#print axioms makes_holds
end Go.Proofs.YtbgfljpnhhdkoaaGreat

import Derived.Test.YtbgfljpnhhdkoaaGreatRows
import Derived.Test.YtbgfljpnhhdkoaaGreatVm23
import Derived.ProofKit
namespace Go.Proofs.YtbgfljpnhhdkoaaGreat
open Go Go.Vm Go.ChangeShapes Go.WideShapes Go.ChangeAt Go.RowKit
theorem Tryz.own : ownKnob Tryz.prog.godebug = none := by kernel_rfl
theorem Tryz.laidOut : laidOutB Tryz.prog = true := by kernel_rfl
abbrev pI (n : Int) : Prop := -9223372036854775808 ≤ n ∧ n ≤ 9223372036854775807
abbrev pT (_ : Bool) : Prop := True
abbrev pS (s : ByteArray) : Prop := s.size ≤ maxLen
theorem k74 : Tryz.prog.cellsOf 74 = 14 := by kernel_rfl
theorem k3 : Tryz.prog.cellsOf 3 = 1 := by kernel_rfl
theorem o3 : Opens Tryz.prog 3 D.int pI := aFe Tryz.underlying3
theorem k9 : Tryz.prog.cellsOf 9 = 1 := by kernel_rfl
theorem o9 : Opens Tryz.prog 9 D.str pS := aG2 Tryz.underlying9
theorem k35 : Tryz.prog.cellsOf 35 = 1 := by kernel_rfl
abbrev p35 (l : (List ByteArray)) : Prop := l.length ≤ maxLen ∧ ∀ x ∈ l, pS x
theorem o35 : Opens Tryz.prog 35 (fun l : (List ByteArray) => .sl false (l.map D.str)) p35 := xC Tryz.underlying35 o9 (by rw [k9]; decide)
theorem k59 : Tryz.prog.cellsOf 59 = 1 := by kernel_rfl
theorem aWk : Tryz.prog.cellsOf 171 = 2 := by kernel_rfl
abbrev aV1 (s : AT) : Prop := pS s.name ∧ pS s.value
theorem aY1 : Opens Tryz.prog 171 cY aV1 :=
 (pN Tryz.underlying171 (dS (m := 1) rfl k9 o9 (dS (m := 1) rfl k9 o9 (by rw [aWk]; exact sU)))).map (fun a => ⟨a.1, a.2.1⟩) (fun a => rfl) (fun a h => ⟨h.1, h.2.1⟩)
abbrev p59 (l : (List AT)) : Prop := l.length ≤ maxLen ∧ ∀ x ∈ l, aV1 x
theorem o59 : Opens Tryz.prog 59 (fun l : (List AT) => .sl false (l.map cY)) p59 := xC Tryz.underlying59 aY1 (by rw [aWk]; decide)
theorem k60 : Tryz.prog.cellsOf 60 = 1 := by kernel_rfl
theorem aV0 : Tryz.prog.cellsOf 136 = 2 := by kernel_rfl
abbrev aWr (s : PI) : Prop := pS s.name ∧ pI s.value
theorem aZf : Opens Tryz.prog 136 cR aWr :=
 (pN Tryz.underlying136 (dS (m := 1) rfl k9 o9 (dS (m := 1) rfl k3 o3 (by rw [aV0]; exact sU)))).map (fun a => ⟨a.1, a.2.1⟩) (fun a => rfl) (fun a h => ⟨h.1, h.2.1⟩)
abbrev p60 (l : (List PI)) : Prop := l.length ≤ maxLen ∧ ∀ x ∈ l, aWr x
theorem o60 : Opens Tryz.prog 60 (fun l : (List PI) => .sl false (l.map cR)) p60 := xC Tryz.underlying60 aZf (by rw [aV0]; decide)
theorem k72 : Tryz.prog.cellsOf 72 = 6 := by kernel_rfl
theorem k4 : Tryz.prog.cellsOf 4 = 1 := by kernel_rfl
theorem o4 : Opens Tryz.prog 4 D.bool pT := Xw Tryz.underlying4
abbrev p72 (s : OPT) : Prop := pI s.enter ∧ pI s.leave ∧ pI s.move ∧ pI s.mode ∧ pT s.appear ∧ pT s.moves
theorem o72 : Opens Tryz.prog 72 aWp p72 :=
 (pN Tryz.underlying72 (dS (m := 1) rfl k3 o3 (dS (m := 1) rfl k3 o3 (dS (m := 1) rfl k3 o3 (dS (m := 1) rfl k3 o3 (dS (m := 1) rfl k4 o4 (dS (m := 1) rfl k4 o4 (by rw [k72]; exact sU)))))))).map (fun a => ⟨a.1, a.2.1, a.2.2.1, a.2.2.2.1, a.2.2.2.2.1, a.2.2.2.2.2.1⟩) (fun a => rfl) (fun a h => ⟨h.1, h.2.1, h.2.2.1, h.2.2.2.1, h.2.2.2.2.1, h.2.2.2.2.2.1⟩)
abbrev p74 (s : FL) : Prop := pI s.deep ∧ pI s.kind ∧ pS s.tag ∧ pS s.key ∧ pS s.text ∧ p35 s.classes ∧ p59 s.attrs ∧ p60 s.styles ∧ p72 s.opts
theorem o74 : Opens Tryz.prog 74 Rk p74 :=
 (pN Tryz.underlying74 (dS (m := 1) rfl k3 o3 (dS (m := 1) rfl k3 o3 (dS (m := 1) rfl k9 o9 (dS (m := 1) rfl k9 o9 (dS (m := 1) rfl k9 o9 (dS (m := 1) rfl k35 o35 (dS (m := 1) rfl k59 o59 (dS (m := 1) rfl k60 o60 (dS (m := 6) rfl k72 o72 (by rw [k74]; exact sU))))))))))).map (fun a => ⟨a.1, a.2.1, a.2.2.1, a.2.2.2.1, a.2.2.2.2.1, a.2.2.2.2.2.1, a.2.2.2.2.2.2.1, a.2.2.2.2.2.2.2.1, a.2.2.2.2.2.2.2.2.1⟩) (fun a => rfl) (fun a h => ⟨h.1, h.2.1, h.2.2.1, h.2.2.2.1, h.2.2.2.2.1, h.2.2.2.2.2.1, h.2.2.2.2.2.2.1, h.2.2.2.2.2.2.2.1, h.2.2.2.2.2.2.2.2.1⟩)
theorem k76 : Tryz.prog.cellsOf 76 = 4 := by kernel_rfl
abbrev p76 (s : LK) : Prop := pI s.kind ∧ pI s.move ∧ pI s.DX ∧ pI s.DY
theorem o76 : Opens Tryz.prog 76 Ao p76 :=
 (pN Tryz.underlying76 (dS (m := 1) rfl k3 o3 (dS (m := 1) rfl k3 o3 (dS (m := 1) rfl k3 o3 (dS (m := 1) rfl k3 o3 (by rw [k76]; exact sU)))))).map (fun a => ⟨a.1, a.2.1, a.2.2.1, a.2.2.2.1⟩) (fun a => rfl) (fun a h => ⟨h.1, h.2.1, h.2.2.1, h.2.2.2.1⟩)
set_option maxRecDepth 100000 in
theorem Ms (os : Os) (started : os.Started) (H : Type) (enc : TypeId × Value → H) :
  ReturnsInHanded {} Tryz.checked os 6 .any (Rows.treePaintsSpec.pre6 enc Tryz.prog Tryz.f6 Rows.treePaintsRow.domain false) (Rows.treePaintsSpec.post enc Tryz.prog Tryz.f6 false true false false) := by
 refine returnsInHanded_of_change (C := Tryz.checked) Tryz.own started (by kernel_rfl) Tryz.func6
  (ChangeSpec.witness6 (enc := enc) (C := Tryz.checked) false ⟨#[], #[.agg #[.int .i64 0, .int .i64 0, .string ⟨#[]⟩, .string ⟨#[]⟩, .string ⟨#[]⟩, .slice none 0 0, .slice none 0 0, .slice none 0 0, .int .i64 0, .int .i64 0, .int .i64 0, .int .i64 0, .bool false, .bool false], .agg #[.int .i64 0, .int .i64 0, .int .i64 0, .int .i64 0]], []⟩ 8 (by kernel_rfl) (by kernel_rfl) (by kernel_rfl) (by kernel_rfl)) ?_
 intro W base args ds gs before hval0 hW hcnd _;have hval : ∀ (j : Nat) t v, Tryz.f6.params[j]? = some t → args[j]? = some v → Value.okWide Tryz.prog W .any base t v := hval0;have hW' := hW;obtain ⟨p, q, hA0, hV, rfl, hfz, hnd⟩ := hW;have hA : DataW.TrodAll enc Tryz.prog W 0 (fun _ => true) true Tryz.f6.params.toList args.toList ds p := hA0;rw [Tryz.params6] at hA hval;obtain ⟨v0, v1, d0, d1, p0, p1, rfl, rfl, rfl, h0, h1⟩ := trodAll_two hA;obtain ⟨rfl, rfl⟩ := trodVars_none hV;obtain ⟨a0, rfl⟩ := xP Tryz.underlying74 (hval 0 74 v0 rfl rfl);obtain ⟨a1, rfl⟩ := xP Tryz.underlying76 (hval 1 76 v1 rfl rfl);obtain ⟨x0, k0, r0, w0⟩ := Oe o74 (fun _ => ⟨_, rfl⟩) h0;obtain ⟨x1, k1, r1, w1⟩ := Oe o76 (fun _ => ⟨_, rfl⟩) h1;clear hA0 hval0;simp only [gN] at hW';have hlt : ∀ x ∈ p0 ++ p1, x.block < W.heap.size := fun x hx => by simpa using hW'.lt x (by simpa using hx)
 have hct := (To x0 x1 ([]) (⟨by simpa [maxLen] using k0.2.2.2.2.2.1.1, by simpa [maxLen] using k0.2.2.2.2.2.2.1.1, by simpa [maxLen] using k0.2.2.2.2.2.2.2.1.1⟩)).mono (Q' := fun r _ => r = .bool true) fun r σ' h => h;refine (aSz (vs := #[.agg a0, .agg a1]) hct rfl (fun i d v e1 e2 => ?_)).mono fun e W' ⟨he, hnx⟩ => ?_
 ·match i with
  | 0 => simp at e1 e2; subst e1; subst e2; exact ⟨r0, w0⟩
  | 1 => simp at e1 e2; subst e1; subst e2; exact ⟨r1, w1⟩
  | i + 2 => simp at e1
 subst he;refine ⟨_, rfl, _, _, _, [] ++ [], p0 ++ p1, [], hW', ?_, ?_, rfl, hnx.frame _, fun h => by cases h⟩
 ·exact trodAll_mk1 (shut_bool Tryz.underlying4 true)
 exact trodAll_mk2 (Below.trod Tryz.laidOut (by kernel_rfl) (zQ (by kernel_rfl)) h0 hnx fun x hx => hlt x (by simp [hx]))
  (Below.trod Tryz.laidOut (by kernel_rfl) (zQ (by kernel_rfl)) h1 hnx fun x hx => hlt x (by simp [hx]))
theorem paints_holds : Rows.TreePaintsSaid :=
 OpenClaim.holds_of_wide 6 Tryz.f6 rfl rfl rfl rfl rfl rfl rfl ⟨rfl, rfl, rfl, rfl, rfl⟩ rfl rfl rfl rfl rfl (by kernel_rfl) Tryz.func6 (by kernel_rfl)
  (zQ (by kernel_rfl)) (by unfold Func.isWrapper; first | (rw [aI (by decide +kernel)]; kernel_rfl) | (rw [aA (by decide +kernel)]; exact ⟨rfl, rfl⟩))
  (fun os started H enc _ => Ms os started H enc)
#print axioms paints_holds
end Go.Proofs.YtbgfljpnhhdkoaaGreat

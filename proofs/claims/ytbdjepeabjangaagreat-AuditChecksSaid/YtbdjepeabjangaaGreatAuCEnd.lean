import Derived.Test.YtbdjepeabjangaaGreatRows
import Derived.Test.YtbdjepeabjangaaGreatVm23
import Derived.ProofKit
namespace Go.Proofs.YtbdjepeabjangaaGreat
open Go Go.Vm Go.ChangeShapes Go.WideShapes Go.ChangeAt Go.RowKit
theorem Tryz.own : ownKnob Tryz.prog.godebug = none := by kernel_rfl
theorem Tryz.laidOut : laidOutB Tryz.prog = true := by kernel_rfl
abbrev qZ (n : Int) : Prop := -9223372036854775808 ≤ n ∧ n ≤ 9223372036854775807
abbrev pT (_ : Bool) : Prop := True
abbrev pS (s : ByteArray) : Prop := s.size ≤ maxLen
theorem k27 : Tryz.prog.cellsOf 27 = 7 := by kernel_rfl
theorem k22 : Tryz.prog.cellsOf 22 = 1 := by kernel_rfl
theorem aR0 : Tryz.prog.cellsOf 121 = 14 := by kernel_rfl
theorem k3 : Tryz.prog.cellsOf 3 = 1 := by kernel_rfl
theorem o3 : Opens Tryz.prog 3 D.int qZ := aAp Tryz.underlying3
theorem k9 : Tryz.prog.cellsOf 9 = 1 := by kernel_rfl
theorem o9 : Opens Tryz.prog 9 D.str pS := Xm Tryz.underlying9
theorem k29 : Tryz.prog.cellsOf 29 = 1 := by kernel_rfl
abbrev p29 (l : (List ByteArray)) : Prop := l.length ≤ maxLen ∧ ∀ x ∈ l, pS x
theorem o29 : Opens Tryz.prog 29 (fun l : (List ByteArray) => .sl false (l.map D.str)) p29 := kX Tryz.underlying29 o9 (by rw [k9]; decide)
theorem k48 : Tryz.prog.cellsOf 48 = 1 := by kernel_rfl
theorem aQw : Tryz.prog.cellsOf 153 = 2 := by kernel_rfl
abbrev aRx (s : AT) : Prop := pS s.name ∧ pS s.value
theorem aSp : Opens Tryz.prog 153 cH aRx :=
 (hU Tryz.underlying153 (bH (m := 1) rfl k9 o9 (bH (m := 1) rfl k9 o9 (by rw [aQw]; exact jU)))).map (fun a => ⟨a.1, a.2.1⟩) (fun a => rfl) (fun a h => ⟨h.1, h.2.1⟩)
abbrev p48 (l : (List AT)) : Prop := l.length ≤ maxLen ∧ ∀ x ∈ l, aRx x
theorem o48 : Opens Tryz.prog 48 (fun l : (List AT) => .sl false (l.map cH)) p48 := kX Tryz.underlying48 aSp (by rw [aQw]; decide)
theorem k49 : Tryz.prog.cellsOf 49 = 1 := by kernel_rfl
theorem aPx : Tryz.prog.cellsOf 159 = 2 := by kernel_rfl
abbrev aRr (s : PI) : Prop := pS s.name ∧ qZ s.value
theorem aSr : Opens Tryz.prog 159 bY aRr :=
 (hU Tryz.underlying159 (bH (m := 1) rfl k9 o9 (bH (m := 1) rfl k3 o3 (by rw [aPx]; exact jU)))).map (fun a => ⟨a.1, a.2.1⟩) (fun a => rfl) (fun a h => ⟨h.1, h.2.1⟩)
abbrev p49 (l : (List PI)) : Prop := l.length ≤ maxLen ∧ ∀ x ∈ l, aRr x
theorem o49 : Opens Tryz.prog 49 (fun l : (List PI) => .sl false (l.map bY)) p49 := kX Tryz.underlying49 aSr (by rw [aPx]; decide)
theorem k53 : Tryz.prog.cellsOf 53 = 6 := by kernel_rfl
theorem k4 : Tryz.prog.cellsOf 4 = 1 := by kernel_rfl
theorem o4 : Opens Tryz.prog 4 D.bool pT := Rv Tryz.underlying4
abbrev p53 (s : OPT) : Prop := qZ s.enter ∧ qZ s.leave ∧ qZ s.move ∧ qZ s.mode ∧ pT s.appear ∧ pT s.moves
theorem o53 : Opens Tryz.prog 53 aPu p53 :=
 (hU Tryz.underlying53 (bH (m := 1) rfl k3 o3 (bH (m := 1) rfl k3 o3 (bH (m := 1) rfl k3 o3 (bH (m := 1) rfl k3 o3 (bH (m := 1) rfl k4 o4 (bH (m := 1) rfl k4 o4 (by rw [k53]; exact jU)))))))).map (fun a => ⟨a.1, a.2.1, a.2.2.1, a.2.2.2.1, a.2.2.2.2.1, a.2.2.2.2.2.1⟩) (fun a => rfl) (fun a h => ⟨h.1, h.2.1, h.2.2.1, h.2.2.2.1, h.2.2.2.2.1, h.2.2.2.2.2.1⟩)
abbrev aPy (s : FL) : Prop := qZ s.deep ∧ qZ s.kind ∧ pS s.tag ∧ pS s.key ∧ pS s.text ∧ p29 s.classes ∧ p48 s.attrs ∧ p49 s.styles ∧ p53 s.opts
theorem aS7 : Opens Tryz.prog 121 Cx aPy :=
 (hU Tryz.underlying121 (bH (m := 1) rfl k3 o3 (bH (m := 1) rfl k3 o3 (bH (m := 1) rfl k9 o9 (bH (m := 1) rfl k9 o9 (bH (m := 1) rfl k9 o9 (bH (m := 1) rfl k29 o29 (bH (m := 1) rfl k48 o48 (bH (m := 1) rfl k49 o49 (bH (m := 6) rfl k53 o53 (by rw [aR0]; exact jU))))))))))).map (fun a => ⟨a.1, a.2.1, a.2.2.1, a.2.2.2.1, a.2.2.2.2.1, a.2.2.2.2.2.1, a.2.2.2.2.2.2.1, a.2.2.2.2.2.2.2.1, a.2.2.2.2.2.2.2.2.1⟩) (fun a => rfl) (fun a h => ⟨h.1, h.2.1, h.2.2.1, h.2.2.2.1, h.2.2.2.2.1, h.2.2.2.2.2.1, h.2.2.2.2.2.2.1, h.2.2.2.2.2.2.2.1, h.2.2.2.2.2.2.2.2.1⟩)
abbrev p22 (l : (List FL)) : Prop := l.length ≤ maxLen ∧ ∀ x ∈ l, aPy x
theorem o22 : Opens Tryz.prog 22 (fun l : (List FL) => .sl false (l.map Cx)) p22 := kX Tryz.underlying22 aS7 (by rw [aR0]; decide)
theorem k23 : Tryz.prog.cellsOf 23 = 1 := by kernel_rfl
theorem k89 : Tryz.prog.cellsOf 89 = 5 := by kernel_rfl
theorem k87 : Tryz.prog.cellsOf 87 = 4 := by kernel_rfl
abbrev p87 (s : LK) : Prop := qZ s.kind ∧ qZ s.move ∧ qZ s.DX ∧ qZ s.DY
theorem o87 : Opens Tryz.prog 87 Gx p87 :=
 (hU Tryz.underlying87 (bH (m := 1) rfl k3 o3 (bH (m := 1) rfl k3 o3 (bH (m := 1) rfl k3 o3 (bH (m := 1) rfl k3 o3 (by rw [k87]; exact jU)))))).map (fun a => ⟨a.1, a.2.1, a.2.2.1, a.2.2.2.1⟩) (fun a => rfl) (fun a h => ⟨h.1, h.2.1, h.2.2.1, h.2.2.2.1⟩)
abbrev p89 (s : KD) : Prop := qZ s.ID ∧ p87 s.look
theorem o89 : Opens Tryz.prog 89 qX p89 :=
 (hU Tryz.underlying89 (bH (m := 1) rfl k3 o3 (bH (m := 4) rfl k87 o87 (by rw [k89]; exact jU)))).map (fun a => ⟨a.1, a.2.1⟩) (fun a => rfl) (fun a h => ⟨h.1, h.2.1⟩)
abbrev p23 (l : (List KD)) : Prop := l.length ≤ maxLen ∧ ∀ x ∈ l, p89 x
theorem o23 : Opens Tryz.prog 23 (fun l : (List KD) => .sl false (l.map qX)) p23 := kX Tryz.underlying23 o89 (by rw [k89]; decide)
theorem k24 : Tryz.prog.cellsOf 24 = 1 := by kernel_rfl
theorem k94 : Tryz.prog.cellsOf 94 = 5 := by kernel_rfl
abbrev p94 (s : WAT) : Prop := pT s.frame ∧ qZ s.kind ∧ qZ s.node ∧ qZ s.left ∧ qZ s.deadline
theorem o94 : Opens Tryz.prog 94 zC p94 :=
 (hU Tryz.underlying94 (bH (m := 1) rfl k4 o4 (bH (m := 1) rfl k3 o3 (bH (m := 1) rfl k3 o3 (bH (m := 1) rfl k3 o3 (bH (m := 1) rfl k3 o3 (by rw [k94]; exact jU))))))).map (fun a => ⟨a.1, a.2.1, a.2.2.1, a.2.2.2.1, a.2.2.2.2.1⟩) (fun a => rfl) (fun a h => ⟨h.1, h.2.1, h.2.2.1, h.2.2.2.1, h.2.2.2.2.1⟩)
abbrev p24 (l : (List WAT)) : Prop := l.length ≤ maxLen ∧ ∀ x ∈ l, p94 x
theorem o24 : Opens Tryz.prog 24 (fun l : (List WAT) => .sl false (l.map zC)) p24 := kX Tryz.underlying24 o94 (by rw [k94]; decide)
theorem k25 : Tryz.prog.cellsOf 25 = 1 := by kernel_rfl
theorem aRw : Tryz.prog.cellsOf 114 = 4 := by kernel_rfl
abbrev aRv (s : HE) : Prop := qZ s.group ∧ qZ s.node ∧ qZ s.hook ∧ pS s.key
theorem aSq : Opens Tryz.prog 114 mZ aRv :=
 (hU Tryz.underlying114 (bH (m := 1) rfl k3 o3 (bH (m := 1) rfl k3 o3 (bH (m := 1) rfl k3 o3 (bH (m := 1) rfl k9 o9 (by rw [aRw]; exact jU)))))).map (fun a => ⟨a.1, a.2.1, a.2.2.1, a.2.2.2.1⟩) (fun a => rfl) (fun a h => ⟨h.1, h.2.1, h.2.2.1, h.2.2.2.1⟩)
abbrev p25 (l : (List HE)) : Prop := l.length ≤ maxLen ∧ ∀ x ∈ l, aRv x
theorem o25 : Opens Tryz.prog 25 (fun l : (List HE) => .sl false (l.map mZ)) p25 := kX Tryz.underlying25 aSq (by rw [aRw]; decide)
abbrev p27 (s : DRW) : Prop := p22 s.tree ∧ p22 s.view ∧ pT s.mounted ∧ qZ s.now ∧ p23 s.kids ∧ p24 s.pending ∧ p25 s.hooks
theorem o27 : Opens Tryz.prog 27 Wo p27 :=
 (hU Tryz.underlying27 (bH (m := 1) rfl k22 o22 (bH (m := 1) rfl k22 o22 (bH (m := 1) rfl k4 o4 (bH (m := 1) rfl k3 o3 (bH (m := 1) rfl k23 o23 (bH (m := 1) rfl k24 o24 (bH (m := 1) rfl k25 o25 (by rw [k27]; exact jU))))))))).map (fun a => ⟨a.1, a.2.1, a.2.2.1, a.2.2.2.1, a.2.2.2.2.1, a.2.2.2.2.2.1, a.2.2.2.2.2.2.1⟩) (fun a => rfl) (fun a h => ⟨h.1, h.2.1, h.2.2.1, h.2.2.2.1, h.2.2.2.2.1, h.2.2.2.2.2.1, h.2.2.2.2.2.2.1⟩)
set_option maxRecDepth 100000 in
theorem Gn (os : Os) (started : os.Started) (H : Type) (enc : TypeId × Value → H) :
  ReturnsInHanded {} Tryz.checked os 3 .any (Rows.auditChecksSpec.pre6 enc Tryz.prog Tryz.f3 Rows.auditChecksRow.domain false) (Rows.auditChecksSpec.post enc Tryz.prog Tryz.f3 false true false false) := by
 refine returnsInHanded_of_change (C := Tryz.checked) Tryz.own started (by kernel_rfl) Tryz.func3
  (ChangeSpec.witness6 (enc := enc) (C := Tryz.checked) false ⟨#[], #[.agg #[.slice none 0 0, .slice none 0 0, .bool false, .int .i64 0, .slice none 0 0, .slice none 0 0, .slice none 0 0]], []⟩ 8 (by kernel_rfl) (by kernel_rfl) (by kernel_rfl) (by kernel_rfl)) ?_
 intro W base args ds gs before hval0 hW hcnd _;have hval : ∀ (j : Nat) t v, Tryz.f3.params[j]? = some t → args[j]? = some v → Value.okWide Tryz.prog W .any base t v := hval0;have hW' := hW;obtain ⟨p, q, hA0, hV, rfl, hfz, hnd⟩ := hW;have hA : DataW.TrodAll enc Tryz.prog W 0 (fun _ => true) true Tryz.f3.params.toList args.toList ds p := hA0;rw [Tryz.params3] at hA hval;obtain ⟨v0, d0, rfl, rfl, h0⟩ := trodAll_one hA;obtain ⟨rfl, rfl⟩ := trodVars_none hV;obtain ⟨a0, rfl⟩ := Ed Tryz.underlying27 (hval 0 27 v0 rfl rfl);obtain ⟨x0, k0, r0, w0⟩ := aAk o27 (fun _ => ⟨_, rfl⟩) h0;clear hA0 hval0;simp only [iC] at hW';have hlt : ∀ x ∈ p, x.block < W.heap.size := fun x hx => by simpa using hW'.lt x (by simpa using hx)
 have hct := (Ki x0 ([]) (⟨⟨by simpa [maxLen] using k0.1.1, fun a h => by obtain ⟨_, _, _, _, _, h6, h7, h8, _⟩ := k0.1.2 a h; exact ⟨by simpa [maxLen] using h6.1, by simpa [maxLen] using h7.1, by simpa [maxLen] using h8.1⟩⟩, ⟨by simpa [maxLen] using k0.2.1.1, fun a h => by obtain ⟨_, _, _, _, _, h6, h7, h8, _⟩ := k0.2.1.2 a h; exact ⟨by simpa [maxLen] using h6.1, by simpa [maxLen] using h7.1, by simpa [maxLen] using h8.1⟩⟩, by simpa [maxLen] using k0.2.2.2.2.1.1, by simpa [maxLen] using k0.2.2.2.2.2.1.1, by simpa [maxLen] using k0.2.2.2.2.2.2.1⟩) (fun e he => (k0.2.2.2.2.2.2.2 e he).1)).mono (Q' := fun r _ => r = .bool true) fun r σ' h => h;refine (aOe (vs := #[.agg a0]) hct rfl (fun i d v e1 e2 => ?_)).mono fun e W' ⟨he, hnx⟩ => ?_
 ·match i with
  | 0 => simp at e1 e2; subst e1; subst e2; exact ⟨r0, w0⟩
  | i + 1 => simp at e1
 subst he;refine ⟨_, rfl, _, _, _, [] ++ [], p, [], hW', ?_, ?_, rfl, hnx.frame _, fun h => by cases h⟩
 ·exact trodAll_mk1 (shut_bool Tryz.underlying4 true)
 exact trodAll_mk1 (Below.trod Tryz.laidOut (by kernel_rfl) (of_decide_eq_true (by kernel_rfl)) h0 hnx fun x hx => hlt x (by simp [hx]))
theorem checks_holds : Rows.AuditChecksSaid :=
 OpenClaim.holds_of_wide 3 Tryz.f3 rfl rfl rfl rfl rfl rfl rfl ⟨rfl, rfl, rfl, rfl, rfl⟩ rfl rfl rfl rfl rfl (by kernel_rfl) Tryz.func3 (by kernel_rfl)
  (of_decide_eq_true (by kernel_rfl)) (by unfold Func.isWrapper; first | (rw [aR (by decide +kernel)]; kernel_rfl) | (rw [aH (by decide +kernel)]; exact ⟨rfl, rfl⟩))
  (fun os started H enc _ => Gn os started H enc)
#print axioms checks_holds
end Go.Proofs.YtbdjepeabjangaaGreat

import Derived.Test.YtbdjepeabjangaaGreatRows
import Derived.Test.YtbdjepeabjangaaGreatVm23
import Derived.ProofKit
namespace Go.Proofs.YtbdjepeabjangaaGreat
open Go Go.Vm Go.ChangeShapes Go.WideShapes Go.ChangeAt Go.RowKit
theorem Tryz.own : ownKnob Tryz.prog.godebug = none := by kernel_rfl
theorem Tryz.laidOut : laidOutB Tryz.prog = true := by kernel_rfl
abbrev pE (n : Int) : Prop := -9223372036854775808 ≤ n ∧ n ≤ 9223372036854775807
abbrev pT (_ : Bool) : Prop := True
abbrev pS (s : ByteArray) : Prop := s.size ≤ maxLen
theorem k27 : Tryz.prog.cellsOf 27 = 7 := by kernel_rfl
theorem k22 : Tryz.prog.cellsOf 22 = 1 := by kernel_rfl
theorem aK5 : Tryz.prog.cellsOf 121 = 14 := by kernel_rfl
theorem k3 : Tryz.prog.cellsOf 3 = 1 := by kernel_rfl
theorem o3 : Opens Tryz.prog 3 D.int pE := Ul Tryz.underlying3
theorem k9 : Tryz.prog.cellsOf 9 = 1 := by kernel_rfl
theorem o9 : Opens Tryz.prog 9 D.str pS := Ui Tryz.underlying9
theorem k29 : Tryz.prog.cellsOf 29 = 1 := by kernel_rfl
abbrev p29 (l : (List ByteArray)) : Prop := l.length ≤ maxLen ∧ ∀ x ∈ l, pS x
theorem o29 : Opens Tryz.prog 29 (fun l : (List ByteArray) => .sl false (l.map D.str)) p29 := jP Tryz.underlying29 o9 (by rw [k9]; decide)
theorem k48 : Tryz.prog.cellsOf 48 = 1 := by kernel_rfl
theorem aK0 : Tryz.prog.cellsOf 153 = 2 := by kernel_rfl
abbrev aMu (s : AT) : Prop := pS s.name ∧ pS s.value
theorem aN1 : Opens Tryz.prog 153 cD aMu :=
 (gO Tryz.underlying153 (bA (m := 1) rfl k9 o9 (bA (m := 1) rfl k9 o9 (by rw [aK0]; exact iT)))).map (fun a => ⟨a.1, a.2.1⟩) (fun a => rfl) (fun a h => ⟨h.1, h.2.1⟩)
abbrev p48 (l : (List AT)) : Prop := l.length ≤ maxLen ∧ ∀ x ∈ l, aMu x
theorem o48 : Opens Tryz.prog 48 (fun l : (List AT) => .sl false (l.map cD)) p48 := jP Tryz.underlying48 aN1 (by rw [aK0]; decide)
theorem k49 : Tryz.prog.cellsOf 49 = 1 := by kernel_rfl
theorem aLy : Tryz.prog.cellsOf 159 = 2 := by kernel_rfl
abbrev aMg (s : PI) : Prop := pS s.name ∧ pE s.value
theorem aNw : Opens Tryz.prog 159 bV aMg :=
 (gO Tryz.underlying159 (bA (m := 1) rfl k9 o9 (bA (m := 1) rfl k3 o3 (by rw [aLy]; exact iT)))).map (fun a => ⟨a.1, a.2.1⟩) (fun a => rfl) (fun a h => ⟨h.1, h.2.1⟩)
abbrev p49 (l : (List PI)) : Prop := l.length ≤ maxLen ∧ ∀ x ∈ l, aMg x
theorem o49 : Opens Tryz.prog 49 (fun l : (List PI) => .sl false (l.map bV)) p49 := jP Tryz.underlying49 aNw (by rw [aLy]; decide)
theorem k53 : Tryz.prog.cellsOf 53 = 6 := by kernel_rfl
theorem k4 : Tryz.prog.cellsOf 4 = 1 := by kernel_rfl
theorem o4 : Opens Tryz.prog 4 D.bool pT := Pn Tryz.underlying4
abbrev p53 (s : OPT) : Prop := pE s.enter ∧ pE s.leave ∧ pE s.move ∧ pE s.mode ∧ pT s.appear ∧ pT s.moves
theorem o53 : Opens Tryz.prog 53 aMf p53 :=
 (gO Tryz.underlying53 (bA (m := 1) rfl k3 o3 (bA (m := 1) rfl k3 o3 (bA (m := 1) rfl k3 o3 (bA (m := 1) rfl k3 o3 (bA (m := 1) rfl k4 o4 (bA (m := 1) rfl k4 o4 (by rw [k53]; exact iT)))))))).map (fun a => ⟨a.1, a.2.1, a.2.2.1, a.2.2.2.1, a.2.2.2.2.1, a.2.2.2.2.2.1⟩) (fun a => rfl) (fun a h => ⟨h.1, h.2.1, h.2.2.1, h.2.2.2.1, h.2.2.2.2.1, h.2.2.2.2.2.1⟩)
abbrev aLb (s : FL) : Prop := pE s.deep ∧ pE s.kind ∧ pS s.tag ∧ pS s.key ∧ pS s.text ∧ p29 s.classes ∧ p48 s.attrs ∧ p49 s.styles ∧ p53 s.opts
theorem aN3 : Opens Tryz.prog 121 Ah aLb :=
 (gO Tryz.underlying121 (bA (m := 1) rfl k3 o3 (bA (m := 1) rfl k3 o3 (bA (m := 1) rfl k9 o9 (bA (m := 1) rfl k9 o9 (bA (m := 1) rfl k9 o9 (bA (m := 1) rfl k29 o29 (bA (m := 1) rfl k48 o48 (bA (m := 1) rfl k49 o49 (bA (m := 6) rfl k53 o53 (by rw [aK5]; exact iT))))))))))).map (fun a => ⟨a.1, a.2.1, a.2.2.1, a.2.2.2.1, a.2.2.2.2.1, a.2.2.2.2.2.1, a.2.2.2.2.2.2.1, a.2.2.2.2.2.2.2.1, a.2.2.2.2.2.2.2.2.1⟩) (fun a => rfl) (fun a h => ⟨h.1, h.2.1, h.2.2.1, h.2.2.2.1, h.2.2.2.2.1, h.2.2.2.2.2.1, h.2.2.2.2.2.2.1, h.2.2.2.2.2.2.2.1, h.2.2.2.2.2.2.2.2.1⟩)
abbrev p22 (l : (List FL)) : Prop := l.length ≤ maxLen ∧ ∀ x ∈ l, aLb x
theorem o22 : Opens Tryz.prog 22 (fun l : (List FL) => .sl false (l.map Ah)) p22 := jP Tryz.underlying22 aN3 (by rw [aK5]; decide)
theorem k23 : Tryz.prog.cellsOf 23 = 1 := by kernel_rfl
theorem k89 : Tryz.prog.cellsOf 89 = 5 := by kernel_rfl
theorem k87 : Tryz.prog.cellsOf 87 = 4 := by kernel_rfl
abbrev p87 (s : LK) : Prop := pE s.kind ∧ pE s.move ∧ pE s.DX ∧ pE s.DY
theorem o87 : Opens Tryz.prog 87 Pq p87 :=
 (gO Tryz.underlying87 (bA (m := 1) rfl k3 o3 (bA (m := 1) rfl k3 o3 (bA (m := 1) rfl k3 o3 (bA (m := 1) rfl k3 o3 (by rw [k87]; exact iT)))))).map (fun a => ⟨a.1, a.2.1, a.2.2.1, a.2.2.2.1⟩) (fun a => rfl) (fun a h => ⟨h.1, h.2.1, h.2.2.1, h.2.2.2.1⟩)
abbrev p89 (s : KD) : Prop := pE s.ID ∧ p87 s.look
theorem o89 : Opens Tryz.prog 89 pG p89 :=
 (gO Tryz.underlying89 (bA (m := 1) rfl k3 o3 (bA (m := 4) rfl k87 o87 (by rw [k89]; exact iT)))).map (fun a => ⟨a.1, a.2.1⟩) (fun a => rfl) (fun a h => ⟨h.1, h.2.1⟩)
abbrev p23 (l : (List KD)) : Prop := l.length ≤ maxLen ∧ ∀ x ∈ l, p89 x
theorem o23 : Opens Tryz.prog 23 (fun l : (List KD) => .sl false (l.map pG)) p23 := jP Tryz.underlying23 o89 (by rw [k89]; decide)
theorem k24 : Tryz.prog.cellsOf 24 = 1 := by kernel_rfl
theorem k94 : Tryz.prog.cellsOf 94 = 5 := by kernel_rfl
abbrev p94 (s : WAT) : Prop := pT s.frame ∧ pE s.kind ∧ pE s.node ∧ pE s.left ∧ pE s.deadline
theorem o94 : Opens Tryz.prog 94 vS p94 :=
 (gO Tryz.underlying94 (bA (m := 1) rfl k4 o4 (bA (m := 1) rfl k3 o3 (bA (m := 1) rfl k3 o3 (bA (m := 1) rfl k3 o3 (bA (m := 1) rfl k3 o3 (by rw [k94]; exact iT))))))).map (fun a => ⟨a.1, a.2.1, a.2.2.1, a.2.2.2.1, a.2.2.2.2.1⟩) (fun a => rfl) (fun a h => ⟨h.1, h.2.1, h.2.2.1, h.2.2.2.1, h.2.2.2.2.1⟩)
abbrev p24 (l : (List WAT)) : Prop := l.length ≤ maxLen ∧ ∀ x ∈ l, p94 x
theorem o24 : Opens Tryz.prog 24 (fun l : (List WAT) => .sl false (l.map vS)) p24 := jP Tryz.underlying24 o94 (by rw [k94]; decide)
theorem k25 : Tryz.prog.cellsOf 25 = 1 := by kernel_rfl
theorem aLl : Tryz.prog.cellsOf 114 = 4 := by kernel_rfl
abbrev aK3 (s : HE) : Prop := pE s.group ∧ pE s.node ∧ pE s.hook ∧ pS s.key
theorem aNc : Opens Tryz.prog 114 lI aK3 :=
 (gO Tryz.underlying114 (bA (m := 1) rfl k3 o3 (bA (m := 1) rfl k3 o3 (bA (m := 1) rfl k3 o3 (bA (m := 1) rfl k9 o9 (by rw [aLl]; exact iT)))))).map (fun a => ⟨a.1, a.2.1, a.2.2.1, a.2.2.2.1⟩) (fun a => rfl) (fun a h => ⟨h.1, h.2.1, h.2.2.1, h.2.2.2.1⟩)
abbrev p25 (l : (List HE)) : Prop := l.length ≤ maxLen ∧ ∀ x ∈ l, aK3 x
theorem o25 : Opens Tryz.prog 25 (fun l : (List HE) => .sl false (l.map lI)) p25 := jP Tryz.underlying25 aNc (by rw [aLl]; decide)
abbrev p27 (s : DRW) : Prop := p22 s.tree ∧ p22 s.view ∧ pT s.mounted ∧ pE s.now ∧ p23 s.kids ∧ p24 s.pending ∧ p25 s.hooks
theorem o27 : Opens Tryz.prog 27 Ry p27 :=
 (gO Tryz.underlying27 (bA (m := 1) rfl k22 o22 (bA (m := 1) rfl k22 o22 (bA (m := 1) rfl k4 o4 (bA (m := 1) rfl k3 o3 (bA (m := 1) rfl k23 o23 (bA (m := 1) rfl k24 o24 (bA (m := 1) rfl k25 o25 (by rw [k27]; exact iT))))))))).map (fun a => ⟨a.1, a.2.1, a.2.2.1, a.2.2.2.1, a.2.2.2.2.1, a.2.2.2.2.2.1, a.2.2.2.2.2.2.1⟩) (fun a => rfl) (fun a h => ⟨h.1, h.2.1, h.2.2.1, h.2.2.2.1, h.2.2.2.2.1, h.2.2.2.2.2.1, h.2.2.2.2.2.2.1⟩)
set_option maxRecDepth 100000 in
theorem Gw (os : Os) (started : os.Started) (H : Type) (enc : TypeId × Value → H) :
  ReturnsInHanded {} Tryz.checked os 4 .any (Rows.auditHooksSpec.pre6 enc Tryz.prog Tryz.f4 Rows.auditHooksRow.domain false) (Rows.auditHooksSpec.post enc Tryz.prog Tryz.f4 false true false false) := by
 refine returnsInHanded_of_change (C := Tryz.checked) Tryz.own started (by kernel_rfl) Tryz.func4
  (ChangeSpec.witness6 (enc := enc) (C := Tryz.checked) false ⟨#[], #[.agg #[.slice none 0 0, .slice none 0 0, .bool false, .int .i64 0, .slice none 0 0, .slice none 0 0, .slice none 0 0], .slice none 0 0], []⟩ 8 (by kernel_rfl) (by kernel_rfl) (by kernel_rfl) (by kernel_rfl)) ?_
 intro W base args ds gs before hval0 hW hcnd _;have hval : ∀ (j : Nat) t v, Tryz.f4.params[j]? = some t → args[j]? = some v → Value.okWide Tryz.prog W .any base t v := hval0;have hW' := hW;obtain ⟨p, q, hA0, hV, rfl, hfz, hnd⟩ := hW;have hA : DataW.TrodAll enc Tryz.prog W 0 (fun _ => true) true Tryz.f4.params.toList args.toList ds p := hA0;rw [Tryz.params4] at hA hval;obtain ⟨v0, v1, d0, d1, p0, p1, rfl, rfl, rfl, h0, h1⟩ := trodAll_two hA;obtain ⟨rfl, rfl⟩ := trodVars_none hV;obtain ⟨a0, rfl⟩ := Cj Tryz.underlying27 (hval 0 27 v0 rfl rfl);have c1 : v1.oneCell' = true := by obtain ⟨a, n, c, rfl⟩ := okWide_slice Tryz.underlying25 (hval 1 25 v1 rfl rfl); rfl
 obtain ⟨x0, k0, r0, w0⟩ := Wq o27 (fun _ => ⟨_, rfl⟩) h0;obtain ⟨x1, k1, r1, w1⟩ := aAp o25 (fun _ => rfl) c1 h1;clear hA0 hval0;simp only [iK] at hW';have hlt : ∀ x ∈ p0 ++ p1, x.block < W.heap.size := fun x hx => by simpa using hW'.lt x (by simpa using hx)
 have hct := (Mb x0 x1 ([]) (⟨⟨by simpa [maxLen] using k0.1.1, fun a h => by obtain ⟨_, _, _, _, _, h6, h7, h8, _⟩ := k0.1.2 a h; exact ⟨by simpa [maxLen] using h6.1, by simpa [maxLen] using h7.1, by simpa [maxLen] using h8.1⟩⟩, ⟨by simpa [maxLen] using k0.2.1.1, fun a h => by obtain ⟨_, _, _, _, _, h6, h7, h8, _⟩ := k0.2.1.2 a h; exact ⟨by simpa [maxLen] using h6.1, by simpa [maxLen] using h7.1, by simpa [maxLen] using h8.1⟩⟩, by simpa [maxLen] using k0.2.2.2.2.1.1, by simpa [maxLen] using k0.2.2.2.2.2.1.1, by simpa [maxLen] using k0.2.2.2.2.2.2.1⟩) (by simpa [maxLen] using k1.1) (fun e he => (k1.2 e he).1)).mono (Q' := fun r _ => r = .bool true) fun r σ' h => h;refine (aKe (vs := #[.agg a0, v1]) hct rfl (fun i d v e1 e2 => ?_)).mono fun e W' ⟨he, hnx⟩ => ?_
 ·match i with
  | 0 => simp at e1 e2; subst e1; subst e2; exact ⟨r0, w0⟩
  | 1 => simp at e1 e2; subst e1; subst e2; exact ⟨r1, w1⟩
  | i + 2 => simp at e1
 subst he;refine ⟨_, rfl, _, _, _, [] ++ [], p0 ++ p1, [], hW', ?_, ?_, rfl, hnx.frame _, fun h => by cases h⟩
 ·exact trodAll_mk1 (shut_bool Tryz.underlying4 true)
 exact trodAll_mk2 (Below.trod Tryz.laidOut (by kernel_rfl) (xO (by kernel_rfl)) h0 hnx fun x hx => hlt x (by simp [hx]))
  (Below.trod Tryz.laidOut (by kernel_rfl) (xO (by kernel_rfl)) h1 hnx fun x hx => hlt x (by simp [hx]))
theorem hooks_holds : Rows.AuditHooksSaid :=
 OpenClaim.holds_of_wide 4 Tryz.f4 rfl rfl rfl rfl rfl rfl rfl ⟨rfl, rfl, rfl, rfl, rfl⟩ rfl rfl rfl rfl rfl (by kernel_rfl) Tryz.func4 (by kernel_rfl)
  (xO (by kernel_rfl)) (by unfold Func.isWrapper; first | (rw [aR (by decide +kernel)]; kernel_rfl) | (rw [aG (by decide +kernel)]; exact ⟨rfl, rfl⟩))
  (fun os started H enc _ => Gw os started H enc)
#print axioms hooks_holds
end Go.Proofs.YtbdjepeabjangaaGreat

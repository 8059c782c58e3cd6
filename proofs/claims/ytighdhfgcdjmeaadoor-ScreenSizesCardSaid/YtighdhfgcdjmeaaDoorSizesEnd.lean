import Derived.Test.YtighdhfgcdjmeaaDoorRows
import Derived.Test.YtighdhfgcdjmeaaDoorWkS10
import Derived.Test.YtighdhfgcdjmeaaDoorVm23
import Derived.ProofKit
import Derived.OpenShut
import Derived.LaidMore
import Derived.Lay
import Derived.SevenTiedAt
import Derived.Stop.Joined
import Derived.Test.YtighdhfgcdjmeaaDoorCards
import Derived.Test.YtighdhfgcdjmeaaDoorTie
namespace Go.Proofs.YtighdhfgcdjmeaaDoor
open Go Go.Vm Go.ChangeShapes Go.WideShapes Go.ChangeAt Go.RowKit
theorem Tryd.own : ownKnob Tryd.prog.godebug = none := by kernel_rfl
theorem Tryd.laidOut : laidOutB Tryd.prog = true := by kernel_rfl
abbrev pI (n : Int) : Prop := -9223372036854775808 ≤ n ∧ n ≤ 9223372036854775807
abbrev pT (_ : Bool) : Prop := True
abbrev pS (s : ByteArray) : Prop := s.size ≤ maxLen
theorem k27 : Tryd.prog.cellsOf 27 = 1 := by kernel_rfl
theorem Xn : Tryd.prog.cellsOf 71 = 14 := by kernel_rfl
theorem k3 : Tryd.prog.cellsOf 3 = 1 := by kernel_rfl
theorem o3 : Opens Tryd.prog 3 D.int pI := Eg Tryd.underlying3
theorem k9 : Tryd.prog.cellsOf 9 = 1 := by kernel_rfl
theorem o9 : Opens Tryd.prog 9 D.str pS := Ep Tryd.underlying9
theorem Yx : Tryd.prog.cellsOf 22 = 1 := by kernel_rfl
abbrev Xs (l : (List ByteArray)) : Prop := l.length ≤ maxLen ∧ ∀ x ∈ l, pS x
theorem Zw : Opens Tryd.prog 22 (fun l : (List ByteArray) => .sl false (l.map D.str)) Xs := hY Tryd.underlying22 o9 (by rw [k9]; decide)
theorem Zb : Tryd.prog.cellsOf 37 = 1 := by kernel_rfl
theorem Ws : Tryd.prog.cellsOf 68 = 2 := by kernel_rfl
abbrev Vv (s : AT) : Prop := pS s.name ∧ pS s.value
theorem o68 : Opens Tryd.prog 68 bZ Vv :=
 (gI Tryd.underlying68 (bG (m := 1) rfl k9 o9 (bG (m := 1) rfl k9 o9 (by rw [Ws]; exact jC)))).map (fun a => ⟨a.1, a.2.1⟩) (fun a => rfl) (fun a h => ⟨h.1, h.2.1⟩)
abbrev Xe (l : (List AT)) : Prop := l.length ≤ maxLen ∧ ∀ x ∈ l, Vv x
theorem o37 : Opens Tryd.prog 37 (fun l : (List AT) => .sl false (l.map bZ)) Xe := hY Tryd.underlying37 o68 (by rw [Ws]; decide)
theorem Yy : Tryd.prog.cellsOf 38 = 1 := by kernel_rfl
theorem Xy : Tryd.prog.cellsOf 92 = 2 := by kernel_rfl
abbrev Vt (s : PI) : Prop := pS s.name ∧ pI s.value
theorem Ys : Opens Tryd.prog 92 bQ Vt :=
 (gI Tryd.underlying92 (bG (m := 1) rfl k9 o9 (bG (m := 1) rfl k3 o3 (by rw [Xy]; exact jC)))).map (fun a => ⟨a.1, a.2.1⟩) (fun a => rfl) (fun a h => ⟨h.1, h.2.1⟩)
abbrev Xb (l : (List PI)) : Prop := l.length ≤ maxLen ∧ ∀ x ∈ l, Vt x
theorem Yb : Opens Tryd.prog 38 (fun l : (List PI) => .sl false (l.map bQ)) Xb := hY Tryd.underlying38 Ys (by rw [Xy]; decide)
theorem Xt : Tryd.prog.cellsOf 40 = 6 := by kernel_rfl
theorem k4 : Tryd.prog.cellsOf 4 = 1 := by kernel_rfl
theorem o4 : Opens Tryd.prog 4 D.bool pT := Bh Tryd.underlying4
abbrev Wr (s : OPT) : Prop := pI s.enter ∧ pI s.leave ∧ pI s.move ∧ pI s.mode ∧ pT s.appear ∧ pT s.moves
theorem o40 : Opens Tryd.prog 40 Ry Wr :=
 (gI Tryd.underlying40 (bG (m := 1) rfl k3 o3 (bG (m := 1) rfl k3 o3 (bG (m := 1) rfl k3 o3 (bG (m := 1) rfl k3 o3 (bG (m := 1) rfl k4 o4 (bG (m := 1) rfl k4 o4 (by rw [Xt]; exact jC)))))))).map (fun a => ⟨a.1, a.2.1, a.2.2.1, a.2.2.2.1, a.2.2.2.2.1, a.2.2.2.2.2.1⟩) (fun a => rfl) (fun a h => ⟨h.1, h.2.1, h.2.2.1, h.2.2.2.1, h.2.2.2.2.1, h.2.2.2.2.2.1⟩)
abbrev Wc (s : FL) : Prop := pI s.deep ∧ pI s.kind ∧ pS s.tag ∧ pS s.key ∧ pS s.text ∧ Xs s.classes ∧ Xe s.attrs ∧ Xb s.styles ∧ Wr s.opts
theorem o71 : Opens Tryd.prog 71 vJ Wc :=
 (gI Tryd.underlying71 (bG (m := 1) rfl k3 o3 (bG (m := 1) rfl k3 o3 (bG (m := 1) rfl k9 o9 (bG (m := 1) rfl k9 o9 (bG (m := 1) rfl k9 o9 (bG (m := 1) rfl Yx Zw (bG (m := 1) rfl Zb o37 (bG (m := 1) rfl Yy Yb (bG (m := 6) rfl Xt o40 (by rw [Xn]; exact jC))))))))))).map (fun a => ⟨a.1, a.2.1, a.2.2.1, a.2.2.2.1, a.2.2.2.2.1, a.2.2.2.2.2.1, a.2.2.2.2.2.2.1, a.2.2.2.2.2.2.2.1, a.2.2.2.2.2.2.2.2.1⟩) (fun a => rfl) (fun a h => ⟨h.1, h.2.1, h.2.2.1, h.2.2.2.1, h.2.2.2.2.1, h.2.2.2.2.2.1, h.2.2.2.2.2.2.1, h.2.2.2.2.2.2.2.1, h.2.2.2.2.2.2.2.2.1⟩)
abbrev Ya (l : (List FL)) : Prop := l.length ≤ maxLen ∧ ∀ x ∈ l, Wc x
theorem Zu : Opens Tryd.prog 27 (fun l : (List FL) => .sl false (l.map vJ)) Ya := hY Tryd.underlying27 o71 (by rw [Xn]; decide)
set_option maxRecDepth 100000 in
theorem uK (os : Os) (started : os.Started) (H : Type) (enc : TypeId × Value → H) :
  ReturnsInHanded {} Tryd.checked os 4 .any (fun w args => (Rows.screenSizesSpec.pre enc Tryd.prog Tryd.f4 Rows.screenSizesRow.domain false w args ∧ laidMetH Tryd.prog Rows.screenSizesRow.laid w) ∧ sizedMet enc Tryd.prog Tryd.f4 (OpenSpec.ofChange Rows.screenSizesSpec) false w args) (Rows.screenSizesSpec.post enc Tryd.prog Tryd.f4 false true false false) := by
 refine returnsInHanded_of_change_and (C := Tryd.checked) (X := fun w _ => laidMetH Tryd.prog Rows.screenSizesRow.laid w) (fun _ _ _ hh h => h.of_heap hh) Tryd.own started (by kernel_rfl) Tryd.func4
  (ChangeSpec.witness_shaped (enc := enc) (C := Tryd.checked) (os := os) (X := fun w _ => laidMetH Tryd.prog Rows.screenSizesRow.laid w) false (World.laidAll Tryd.prog os Rows.screenSizesRow.laid) #[.slice none 0 0, .int .i64 0, .int .i64 0] 8 (World.laidAll_os _ _ _)
   (World.shaped_of_ZipB (by kernel_rfl) (by kernel_rfl)) (by kernel_rfl) (by kernel_rfl) (by kernel_rfl)
   (by rw [MakeChecks.laidMetH_plain _ _ _ (by kernel_rfl)]; exact laidMet_laidAll _ (by kernel_rfl) (by kernel_rfl))) ?_
 intro W base args ds gs before hval0 hW hcnd _ _ _;have hval : ∀ (j : Nat) t v, Tryd.f4.params[j]? = some t → args[j]? = some v → Value.okWide Tryd.prog W .any base t v := hval0;have hW' := hW;obtain ⟨p, q, hA0, hV, rfl, hfz, hnd⟩ := hW;have hA : DataW.TrodAll enc Tryd.prog W 0 (fun _ => true) true Tryd.f4.params.toList args.toList ds p := hA0;rw [Tryd.params4] at hA hval;obtain ⟨v0, v1, v2, d0, d1, d2, p0, p1, p2, rfl, rfl, rfl, h0, h1, h2⟩ := trodAll_three hA;obtain ⟨rfl, rfl⟩ := trodVars_none hV;have c0 : v0.oneCell' = true := by obtain ⟨a, n, c, rfl⟩ := okWide_slice Tryd.underlying27 (hval 0 27 v0 rfl rfl); rfl
 have c1 : v1.oneCell' = true := by obtain ⟨x, rfl, _⟩ := open_int Tryd.underlying3 (hval 1 3 v1 rfl rfl) h1; rfl
 have c2 : v2.oneCell' = true := by obtain ⟨x, rfl, _⟩ := open_int Tryd.underlying3 (hval 2 3 v2 rfl rfl) h2; rfl
 obtain ⟨x0, k0, r0, w0⟩ := qW Zu (fun _ => rfl) c0 h0;obtain ⟨x1, k1, r1, w1⟩ := qW o3 (fun _ => rfl) c1 h1;obtain ⟨x2, k2, r2, w2⟩ := qW o3 (fun _ => rfl) c2 h2;clear hA0 hval0;simp only [List.append_nil] at hW';have hlt : ∀ x ∈ p0 ++ p1 ++ p2, x.block < W.heap.size := fun x hx => by simpa using hW'.lt x (by simpa using hx)
 have hct := (yL x0 x1 x2 ([]) (by simpa [maxLen] using k0.1) (fun a h => by obtain ⟨_, _, _, _, _, h6, h7, h8, _⟩ := k0.2 a h; exact ⟨by simpa [maxLen] using h6.1, by simpa [maxLen] using h7.1, by simpa [maxLen] using h8.1⟩)).mono (Q' := fun r _ => r = .bool true) fun r σ' h => h;refine (Pb (vs := #[v0, v1, v2]) hct rfl (fun i d v e1 e2 => ?_)).mono fun e W' ⟨he, hnx⟩ => ?_
 ·match i with
  | 0 => simp at e1 e2; subst e1; subst e2; exact ⟨r0, w0⟩
  | 1 => simp at e1 e2; subst e1; subst e2; exact ⟨r1, w1⟩
  | 2 => simp at e1 e2; subst e1; subst e2; exact ⟨r2, w2⟩
  | i + 3 => simp at e1
 ·subst he;refine ⟨_, rfl, _, _, _, [] ++ [], p0 ++ (p1 ++ p2), [], hW', ?_, ?_, rfl, hnx.frame _, fun h => by cases h⟩
  ·exact trodAll_mk1 (shut_bool Tryd.underlying4 true)
  ·exact trodAll_mk3 (Below.trod Tryd.laidOut (by kernel_rfl) (of_decide_eq_true (by kernel_rfl)) h0 hnx fun x hx => hlt x (by simp [hx]))
    (Below.trod Tryd.laidOut (by kernel_rfl) (of_decide_eq_true (by kernel_rfl)) h1 hnx fun x hx => hlt x (by simp [hx]))
    (Below.trod Tryd.laidOut (by kernel_rfl) (of_decide_eq_true (by kernel_rfl)) h2 hnx fun x hx => hlt x (by simp [hx]))
theorem Fc : Rows.ScreenSizesSaid :=
 OpenClaim.holds_of_wide 4 Tryd.f4 rfl rfl rfl rfl rfl rfl rfl ⟨rfl, rfl, rfl, rfl, rfl⟩ rfl rfl rfl rfl rfl (by kernel_rfl) Tryd.func4 (by kernel_rfl)
  (of_decide_eq_true (by kernel_rfl)) (by unfold Func.isWrapper; first | (rw [if_pos (by decide +kernel)]; kernel_rfl) | (rw [if_neg (by decide +kernel)]; exact ⟨rfl, rfl⟩))
  (fun os started H enc _ => uK os started H enc)
theorem sizes_holds : Rows.ScreenSizesCardSaid :=
 Claim7.holds_tied_plain_at .later [] [.data, .pinned] true (true, "14f1726b7a318052761a35ac735824e1678dc0b4dc5cc1f396d791825540aadd") false
  Fc (fun _ h => by cases h) (by kernel_rfl) (fun _ h => by cases h) screenSizes_row_tie rfl ⟨rfl, rfl⟩ (by kernel_rfl) rfl
  (fun f fn hf hfn => by
   obtain rfl : f = 4 := Option.some.inj ((show Tryd.prog.funcNamed "scrim/scrimlaw32.ScreenSizes" = some 4 by kernel_rfl).symm.trans hf) |>.symm
   obtain rfl : fn = Tryd.f4 := (Option.some.inj (Tryd.func4.symm.trans hfn)).symm;exact ⟨by kernel_rfl, fun j t ht => by
    rw [Tryd.params4] at ht;have hm : t ∈ [27, 3, 3] := by simpa using Array.mem_of_getElem? ht
    have hall : ([27, 3, 3].all fun u => !Tryd.prog.wantsStandIn u) = true := by kernel_rfl
    exact (show Tryd.prog.wantsStandIn t = false by simpa using List.all_eq_true.1 hall t hm)⟩)
  (by kernel_rfl)
#print axioms sizes_holds
end Go.Proofs.YtighdhfgcdjmeaaDoor


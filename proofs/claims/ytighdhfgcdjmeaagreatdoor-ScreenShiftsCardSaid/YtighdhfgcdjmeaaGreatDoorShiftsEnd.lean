import Derived.Test.YtighdhfgcdjmeaaGreatDoorRows
import Derived.Test.YtighdhfgcdjmeaaGreatDoorWkS27
import Derived.Test.YtighdhfgcdjmeaaGreatDoorVm23
import Derived.ProofKit
import Derived.OpenShut
import Derived.LaidMore
import Derived.Lay
import Derived.SevenTiedAt
import Derived.Stop.Joined
import Derived.Test.YtighdhfgcdjmeaaGreatDoorCards
import Derived.Test.YtighdhfgcdjmeaaGreatDoorTie
namespace Go.Proofs.YtighdhfgcdjmeaaGreatDoor
open Go Go.Vm Go.ChangeShapes Go.WideShapes Go.ChangeAt Go.RowKit
theorem Tryz.own : ownKnob Tryz.prog.godebug = none := by kernel_rfl
theorem Tryz.laidOut : laidOutB Tryz.prog = true := by kernel_rfl
abbrev pI (n : Int) : Prop := -9223372036854775808 ≤ n ∧ n ≤ 9223372036854775807
abbrev pT (_ : Bool) : Prop := True
abbrev pS (s : ByteArray) : Prop := s.size ≤ maxLen
theorem k22 : Tryz.prog.cellsOf 22 = 1 := by kernel_rfl
theorem k73 : Tryz.prog.cellsOf 73 = 14 := by kernel_rfl
theorem k3 : Tryz.prog.cellsOf 3 = 1 := by kernel_rfl
theorem o3 : Opens Tryz.prog 3 D.int pI := Hl Tryz.underlying3
theorem k9 : Tryz.prog.cellsOf 9 = 1 := by kernel_rfl
theorem o9 : Opens Tryz.prog 9 D.str pS := Hf Tryz.underlying9
theorem k25 : Tryz.prog.cellsOf 25 = 1 := by kernel_rfl
abbrev p25 (l : (List ByteArray)) : Prop := l.length ≤ maxLen ∧ ∀ x ∈ l, pS x
theorem o25 : Opens Tryz.prog 25 (fun l : (List ByteArray) => .sl false (l.map D.str)) p25 := gQ Tryz.underlying25 o9 (by rw [k9]; decide)
theorem k35 : Tryz.prog.cellsOf 35 = 1 := by kernel_rfl
theorem k70 : Tryz.prog.cellsOf 70 = 2 := by kernel_rfl
abbrev p70 (s : AT) : Prop := pS s.name ∧ pS s.value
theorem o70 : Opens Tryz.prog 70 bY p70 :=
 (eZ Tryz.underlying70 (bF (m := 1) rfl k9 o9 (bF (m := 1) rfl k9 o9 (by rw [k70]; exact gO)))).map (fun a => ⟨a.1, a.2.1⟩) (fun a => rfl) (fun a h => ⟨h.1, h.2.1⟩)
abbrev p35 (l : (List AT)) : Prop := l.length ≤ maxLen ∧ ∀ x ∈ l, p70 x
theorem o35 : Opens Tryz.prog 35 (fun l : (List AT) => .sl false (l.map bY)) p35 := gQ Tryz.underlying35 o70 (by rw [k70]; decide)
theorem k36 : Tryz.prog.cellsOf 36 = 1 := by kernel_rfl
theorem k91 : Tryz.prog.cellsOf 91 = 2 := by kernel_rfl
abbrev p91 (s : PI) : Prop := pS s.name ∧ pI s.value
theorem o91 : Opens Tryz.prog 91 bS p91 :=
 (eZ Tryz.underlying91 (bF (m := 1) rfl k9 o9 (bF (m := 1) rfl k3 o3 (by rw [k91]; exact gO)))).map (fun a => ⟨a.1, a.2.1⟩) (fun a => rfl) (fun a h => ⟨h.1, h.2.1⟩)
abbrev p36 (l : (List PI)) : Prop := l.length ≤ maxLen ∧ ∀ x ∈ l, p91 x
theorem o36 : Opens Tryz.prog 36 (fun l : (List PI) => .sl false (l.map bS)) p36 := gQ Tryz.underlying36 o91 (by rw [k91]; decide)
theorem k38 : Tryz.prog.cellsOf 38 = 6 := by kernel_rfl
theorem k4 : Tryz.prog.cellsOf 4 = 1 := by kernel_rfl
theorem o4 : Opens Tryz.prog 4 D.bool pT := Cs Tryz.underlying4
abbrev p38 (s : OPT) : Prop := pI s.enter ∧ pI s.leave ∧ pI s.move ∧ pI s.mode ∧ pT s.appear ∧ pT s.moves
theorem o38 : Opens Tryz.prog 38 Vu p38 :=
 (eZ Tryz.underlying38 (bF (m := 1) rfl k3 o3 (bF (m := 1) rfl k3 o3 (bF (m := 1) rfl k3 o3 (bF (m := 1) rfl k3 o3 (bF (m := 1) rfl k4 o4 (bF (m := 1) rfl k4 o4 (by rw [k38]; exact gO)))))))).map (fun a => ⟨a.1, a.2.1, a.2.2.1, a.2.2.2.1, a.2.2.2.2.1, a.2.2.2.2.2.1⟩) (fun a => rfl) (fun a h => ⟨h.1, h.2.1, h.2.2.1, h.2.2.2.1, h.2.2.2.2.1, h.2.2.2.2.2.1⟩)
abbrev p73 (s : FL) : Prop := pI s.deep ∧ pI s.kind ∧ pS s.tag ∧ pS s.key ∧ pS s.text ∧ p25 s.classes ∧ p35 s.attrs ∧ p36 s.styles ∧ p38 s.opts
theorem o73 : Opens Tryz.prog 73 xN p73 :=
 (eZ Tryz.underlying73 (bF (m := 1) rfl k3 o3 (bF (m := 1) rfl k3 o3 (bF (m := 1) rfl k9 o9 (bF (m := 1) rfl k9 o9 (bF (m := 1) rfl k9 o9 (bF (m := 1) rfl k25 o25 (bF (m := 1) rfl k35 o35 (bF (m := 1) rfl k36 o36 (bF (m := 6) rfl k38 o38 (by rw [k73]; exact gO))))))))))).map (fun a => ⟨a.1, a.2.1, a.2.2.1, a.2.2.2.1, a.2.2.2.2.1, a.2.2.2.2.2.1, a.2.2.2.2.2.2.1, a.2.2.2.2.2.2.2.1, a.2.2.2.2.2.2.2.2.1⟩) (fun a => rfl) (fun a h => ⟨h.1, h.2.1, h.2.2.1, h.2.2.2.1, h.2.2.2.2.1, h.2.2.2.2.2.1, h.2.2.2.2.2.2.1, h.2.2.2.2.2.2.2.1, h.2.2.2.2.2.2.2.2.1⟩)
abbrev p22 (l : (List FL)) : Prop := l.length ≤ maxLen ∧ ∀ x ∈ l, p73 x
theorem o22 : Opens Tryz.prog 22 (fun l : (List FL) => .sl false (l.map xN)) p22 := gQ Tryz.underlying22 o73 (by rw [k73]; decide)
theorem k23 : Tryz.prog.cellsOf 23 = 1 := by kernel_rfl
theorem k79 : Tryz.prog.cellsOf 79 = 5 := by kernel_rfl
theorem k77 : Tryz.prog.cellsOf 77 = 4 := by kernel_rfl
abbrev p77 (s : RC) : Prop := pI s.x ∧ pI s.y ∧ pI s.w ∧ pI s.h
theorem o77 : Opens Tryz.prog 77 oS p77 :=
 (eZ Tryz.underlying77 (bF (m := 1) rfl k3 o3 (bF (m := 1) rfl k3 o3 (bF (m := 1) rfl k3 o3 (bF (m := 1) rfl k3 o3 (by rw [k77]; exact gO)))))).map (fun a => ⟨a.1, a.2.1, a.2.2.1, a.2.2.2.1⟩) (fun a => rfl) (fun a h => ⟨h.1, h.2.1, h.2.2.1, h.2.2.2.1⟩)
abbrev p79 (s : EN) : Prop := pI s.ID ∧ p77 s.rect
theorem o79 : Opens Tryz.prog 79 bP p79 :=
 (eZ Tryz.underlying79 (bF (m := 1) rfl k3 o3 (bF (m := 4) rfl k77 o77 (by rw [k79]; exact gO)))).map (fun a => ⟨a.1, a.2.1⟩) (fun a => rfl) (fun a h => ⟨h.1, h.2.1⟩)
abbrev p23 (l : (List EN)) : Prop := l.length ≤ maxLen ∧ ∀ x ∈ l, p79 x
theorem o23 : Opens Tryz.prog 23 (fun l : (List EN) => .sl false (l.map bP)) p23 := gQ Tryz.underlying23 o79 (by rw [k79]; decide)
set_option maxRecDepth 100000 in
theorem uH (os : Os) (started : os.Started) (H : Type) (enc : TypeId × Value → H) :
  ReturnsInHanded {} Tryz.checked os 4 .any (fun w args => (Rows.screenShiftsSpec.pre enc Tryz.prog Tryz.f4 Rows.screenShiftsRow.domain false w args ∧ laidMetH Tryz.prog Rows.screenShiftsRow.laid w) ∧ sizedMet enc Tryz.prog Tryz.f4 (OpenSpec.ofChange Rows.screenShiftsSpec) false w args) (Rows.screenShiftsSpec.post enc Tryz.prog Tryz.f4 false true false false) := by
 refine returnsInHanded_of_change_and (C := Tryz.checked) (X := fun w _ => laidMetH Tryz.prog Rows.screenShiftsRow.laid w) (fun _ _ _ hh h => h.of_heap hh) Tryz.own started (by kernel_rfl) Tryz.func4
  (ChangeSpec.witness_shaped (enc := enc) (C := Tryz.checked) (os := os) (X := fun w _ => laidMetH Tryz.prog Rows.screenShiftsRow.laid w) false (World.laidAll Tryz.prog os Rows.screenShiftsRow.laid) #[.slice none 0 0, .slice none 0 0] 8 (World.laidAll_os _ _ _)
   (World.shaped_of_ZipB (by kernel_rfl) (by kernel_rfl)) (by kernel_rfl) (by kernel_rfl) (by kernel_rfl)
   (by rw [MakeChecks.laidMetH_plain _ _ _ (by kernel_rfl)]; exact laidMet_laidAll _ (by kernel_rfl) (by kernel_rfl))) ?_
 intro W base args ds gs before hval0 hW hcnd _ _ _;have hval : ∀ (j : Nat) t v, Tryz.f4.params[j]? = some t → args[j]? = some v → Value.okWide Tryz.prog W .any base t v := hval0;have hW' := hW;obtain ⟨p, q, hA0, hV, rfl, hfz, hnd⟩ := hW;have hA : DataW.TrodAll enc Tryz.prog W 0 (fun _ => true) true Tryz.f4.params.toList args.toList ds p := hA0;rw [Tryz.params4] at hA hval;obtain ⟨v0, v1, d0, d1, p0, p1, rfl, rfl, rfl, h0, h1⟩ := trodAll_two hA;obtain ⟨rfl, rfl⟩ := trodVars_none hV;have c0 : v0.oneCell' = true := by obtain ⟨a, n, c, rfl⟩ := okWide_slice Tryz.underlying22 (hval 0 22 v0 rfl rfl); rfl
 have c1 : v1.oneCell' = true := by obtain ⟨a, n, c, rfl⟩ := okWide_slice Tryz.underlying23 (hval 1 23 v1 rfl rfl); rfl
 obtain ⟨x0, k0, r0, w0⟩ := yC o22 (fun _ => rfl) c0 h0;obtain ⟨x1, k1, r1, w1⟩ := yC o23 (fun _ => rfl) c1 h1;clear hA0 hval0;simp only [List.append_nil] at hW';have hlt : ∀ x ∈ p0 ++ p1, x.block < W.heap.size := fun x hx => by simpa using hW'.lt x (by simpa using hx)
 have hct := (wR x0 x1 ([]) (by simpa [maxLen] using k0.1) (fun a h => by obtain ⟨_, _, _, _, _, h6, h7, h8, _⟩ := k0.2 a h; exact ⟨by simpa [maxLen] using h6.1, by simpa [maxLen] using h7.1, by simpa [maxLen] using h8.1⟩) (by simpa [maxLen] using k1.1)).mono (Q' := fun r _ => r = .bool true) fun r σ' h => h;refine (Tp (vs := #[v0, v1]) hct rfl (fun i d v e1 e2 => ?_)).mono fun e W' ⟨he, hnx⟩ => ?_
 ·match i with
  | 0 => simp at e1 e2; subst e1; subst e2; exact ⟨r0, w0⟩
  | 1 => simp at e1 e2; subst e1; subst e2; exact ⟨r1, w1⟩
  | i + 2 => simp at e1
 ·subst he;refine ⟨_, rfl, _, _, _, [] ++ [], p0 ++ p1, [], hW', ?_, ?_, rfl, hnx.frame _, fun h => by cases h⟩
  ·exact trodAll_mk1 (shut_bool Tryz.underlying4 true)
  ·exact trodAll_mk2 (Below.trod Tryz.laidOut (by kernel_rfl) (of_decide_eq_true (by kernel_rfl)) h0 hnx fun x hx => hlt x (by simp [hx]))
    (Below.trod Tryz.laidOut (by kernel_rfl) (of_decide_eq_true (by kernel_rfl)) h1 hnx fun x hx => hlt x (by simp [hx]))
theorem Do : Rows.ScreenShiftsSaid :=
 OpenClaim.holds_of_wide 4 Tryz.f4 rfl rfl rfl rfl rfl rfl rfl ⟨rfl, rfl, rfl, rfl, rfl⟩ rfl rfl rfl rfl rfl (by kernel_rfl) Tryz.func4 (by kernel_rfl)
  (of_decide_eq_true (by kernel_rfl)) (by unfold Func.isWrapper; first | (rw [if_pos (by decide +kernel)]; kernel_rfl) | (rw [if_neg (by decide +kernel)]; exact ⟨rfl, rfl⟩))
  (fun os started H enc _ => uH os started H enc)
theorem shifts_holds : Rows.ScreenShiftsCardSaid :=
 Claim7.holds_tied_plain_at .later [] [.data, .pinned] true (true, "e3210ebd469f9c556747029b47a93f5d01c632432b7202cc7087ee02166bad3a") false
  Do (fun _ h => by cases h) (by kernel_rfl) (fun _ h => by cases h) screenShifts_row_tie rfl ⟨rfl, rfl⟩ (by kernel_rfl) rfl
  (fun f fn hf hfn => by
   obtain rfl : f = 4 := Option.some.inj ((show Tryz.prog.funcNamed "scrim/scrimlaw32.ScreenShifts" = some 4 by kernel_rfl).symm.trans hf) |>.symm
   obtain rfl : fn = Tryz.f4 := (Option.some.inj (Tryz.func4.symm.trans hfn)).symm;exact ⟨by kernel_rfl, fun j t ht => by
    rw [Tryz.params4] at ht;have hm : t ∈ [22, 23] := by simpa using Array.mem_of_getElem? ht
    have hall : ([22, 23].all fun u => !Tryz.prog.wantsStandIn u) = true := by kernel_rfl
    exact (show Tryz.prog.wantsStandIn t = false by simpa using List.all_eq_true.1 hall t hm)⟩)
  (by kernel_rfl)
#print axioms shifts_holds
end Go.Proofs.YtighdhfgcdjmeaaGreatDoor


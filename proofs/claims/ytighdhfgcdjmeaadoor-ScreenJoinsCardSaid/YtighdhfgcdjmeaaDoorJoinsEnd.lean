import Derived.Test.YtighdhfgcdjmeaaDoorRows
import Derived.Test.YtighdhfgcdjmeaaDoorWkS9
import Derived.Test.YtighdhfgcdjmeaaDoorVm23
import Derived.ProofKit
import Derived.OpenShut
import Derived.LaidMore
import Derived.Lay
import Derived.SevenTiedAt
import Derived.Stop.Joined
import Derived.Test.YtighdhfgcdjmeaaDoorCards
import Derived.Test.YtighdhfgcdjmeaaDoorTie
namespace Go.Proofs.YtighdhfgcdjmeaaDoor
open Go Go.Vm Go.ChangeShapes Go.WideShapes Go.ChangeAt Go.RowKit
theorem Tryd.own : ownKnob Tryd.prog.godebug = none := by kernel_rfl
theorem Tryd.laidOut : laidOutB Tryd.prog = true := by kernel_rfl
abbrev pI (n : Int) : Prop := -9223372036854775808 ≤ n ∧ n ≤ 9223372036854775807
abbrev pT (_ : Bool) : Prop := True
abbrev pS (s : ByteArray) : Prop := s.size ≤ maxLen
theorem k22 : Tryd.prog.cellsOf 22 = 1 := by kernel_rfl
theorem k9 : Tryd.prog.cellsOf 9 = 1 := by kernel_rfl
theorem o9 : Opens Tryd.prog 9 D.str pS := Dl Tryd.underlying9
abbrev Uq (l : (List ByteArray)) : Prop := l.length ≤ maxLen ∧ ∀ x ∈ l, pS x
theorem Zf : Opens Tryd.prog 22 (fun l : (List ByteArray) => .sl false (l.map D.str)) Uq := xG Tryd.underlying22 o9 (by rw [k9]; decide)
set_option maxRecDepth 100000 in
theorem tB (os : Os) (started : os.Started) (H : Type) (enc : TypeId × Value → H) :
  ReturnsInHanded {} Tryd.checked os 3 .any (fun w args => (Rows.screenJoinsSpec.pre enc Tryd.prog Tryd.f3 Rows.screenJoinsRow.domain false w args ∧ laidMetH Tryd.prog Rows.screenJoinsRow.laid w) ∧ sizedMet enc Tryd.prog Tryd.f3 (OpenSpec.ofChange Rows.screenJoinsSpec) false w args) (Rows.screenJoinsSpec.post enc Tryd.prog Tryd.f3 false true false false) := by
 refine returnsInHanded_of_change_and (C := Tryd.checked) (X := fun w _ => laidMetH Tryd.prog Rows.screenJoinsRow.laid w) (fun _ _ _ hh h => h.of_heap hh) Tryd.own started (by kernel_rfl) Tryd.func3
  (ChangeSpec.witness_shaped (enc := enc) (C := Tryd.checked) (os := os) (X := fun w _ => laidMetH Tryd.prog Rows.screenJoinsRow.laid w) false (World.laidAll Tryd.prog os Rows.screenJoinsRow.laid) #[.slice none 0 0] 8 (World.laidAll_os _ _ _)
   (World.shaped_of_ZipB (by kernel_rfl) (by kernel_rfl)) (by kernel_rfl) (by kernel_rfl) (by kernel_rfl)
   (by rw [MakeChecks.laidMetH_plain _ _ _ (by kernel_rfl)]; exact laidMet_laidAll _ (by kernel_rfl) (by kernel_rfl))) ?_
 intro W base args ds gs before hval0 hW hcnd _ _ _;have hval : ∀ (j : Nat) t v, Tryd.f3.params[j]? = some t → args[j]? = some v → Value.okWide Tryd.prog W .any base t v := hval0;have hW' := hW;obtain ⟨p, q, hA0, hV, rfl, hfz, hnd⟩ := hW;have hA : DataW.TrodAll enc Tryd.prog W 0 (fun _ => true) true Tryd.f3.params.toList args.toList ds p := hA0;rw [Tryd.params3] at hA hval;obtain ⟨v0, d0, rfl, rfl, h0⟩ := trodAll_one hA;obtain ⟨rfl, rfl⟩ := trodVars_none hV;have c0 : v0.oneCell' = true := by obtain ⟨a, n, c, rfl⟩ := okWide_slice Tryd.underlying22 (hval 0 22 v0 rfl rfl); rfl
 obtain ⟨x0, k0, r0, w0⟩ := Hm Zf (fun _ => rfl) c0 h0;clear hA0 hval0;simp only [List.append_nil] at hW';have hlt : ∀ x ∈ p, x.block < W.heap.size := fun x hx => by simpa using hW'.lt x (by simpa using hx)
 have hct := (wK x0 [] (by simpa [maxLen] using k0.1)).mono (Q' := fun r _ => r = .bool true) fun r σ' h => h.1;refine (Ni (vs := #[v0]) hct rfl (fun i d v e1 e2 => ?_)).mono fun e W' ⟨he, hnx⟩ => ?_
 ·match i with
  | 0 => simp at e1 e2; subst e1; subst e2; exact ⟨r0, w0⟩
  | i + 1 => simp at e1
 ·subst he;refine ⟨_, rfl, _, _, _, [] ++ [], p, [], hW', ?_, ?_, rfl, hnx.frame _, fun h => by cases h⟩
  ·exact trodAll_mk1 (shut_bool Tryd.underlying4 true)
  ·exact trodAll_mk1 (Below.trod Tryd.laidOut (by kernel_rfl) (of_decide_eq_true (by kernel_rfl)) h0 hnx fun x hx => hlt x (by simp [hx]))
theorem Cg : Rows.ScreenJoinsSaid :=
 OpenClaim.holds_of_wide 3 Tryd.f3 rfl rfl rfl rfl rfl rfl rfl ⟨rfl, rfl, rfl, rfl, rfl⟩ rfl rfl rfl rfl rfl (by kernel_rfl) Tryd.func3 (by kernel_rfl)
  (of_decide_eq_true (by kernel_rfl)) (by unfold Func.isWrapper; first | (rw [if_pos (by decide +kernel)]; kernel_rfl) | (rw [if_neg (by decide +kernel)]; exact ⟨rfl, rfl⟩))
  (fun os started H enc _ => tB os started H enc)
theorem joins_holds : Rows.ScreenJoinsCardSaid :=
 Claim7.holds_tied_plain_at .later [] [.data, .pinned] true (true, "14f1726b7a318052761a35ac735824e1678dc0b4dc5cc1f396d791825540aadd") false
  Cg (fun _ h => by cases h) (by kernel_rfl) (fun _ h => by cases h) screenJoins_row_tie rfl ⟨rfl, rfl⟩ (by kernel_rfl) rfl
  (fun f fn hf hfn => by
   obtain rfl : f = 3 := Option.some.inj ((show Tryd.prog.funcNamed "scrim/scrimlaw32.ScreenJoins" = some 3 by kernel_rfl).symm.trans hf) |>.symm
   obtain rfl : fn = Tryd.f3 := (Option.some.inj (Tryd.func3.symm.trans hfn)).symm;exact ⟨by kernel_rfl, fun j t ht => by
    rw [Tryd.params3] at ht;have hm : t ∈ [22] := by have := Array.mem_of_getElem? ht; simp at this ⊢; omega
    have hall : ([22].all fun u => !Tryd.prog.wantsStandIn u) = true := by kernel_rfl
    exact (show Tryd.prog.wantsStandIn t = false by simpa using List.all_eq_true.1 hall t hm)⟩)
  (by kernel_rfl)
#print axioms joins_holds
end Go.Proofs.YtighdhfgcdjmeaaDoor


/- Walks: contracts of functions. Written by a program of ours out of annotations. -/
import Derived.Test.YtnlokhfcgaikiaaWkPlay2
import Derived.Test.YtnlokhfcgaikiaaWkOrd
namespace Go.Proofs.Ytnlokhfcgaikiaa
open Go Go.Vm
set_option maxRecDepth 20000
set_option linter.all false
set_option maxHeartbeats 8000000

-- scrim/scrimlaw16.do
theorem do0_fn (w m M : Nat) (s : WS) (x : RW) (a : WAct) (σ : List (List D)) (hw : σ[w]? = some (dwh m s)) (hq : σ[m]? = some (dhp M s.h)) (hs : WOk s) (hne : w ≠ m) (hM : M < σ.length) (hla : s.last ≤ 1000000) (hl : x.l.length ≤ 100000) (hn : 0 ≤ x.last ∧ x.last ≤ 1000000) : Ct Try.prog 24 [.ref w 0, d_RW x, d_WAct a] σ (fun r σ' => r = .tup [d_RW (rdo x a), .bool (decide (okdo s x a))] ∧ ∃ J, σ' = (σ.set w (dwh m (wdo s a))).set m (dhp M (wdo s a).h) ++ J) := by
  refine fn_start (rs := [.cell 6 48, .tmp 7]) Try.func24 rfl rfl Try.ntmps24 Try.results24 (by simp) ?_
  simp only [argEnv]
  refine awp_seq ?_
  refine awp_regionA (c := ⟨[], [4, 5], [15, 17, 18], [], []⟩) (by simp only [lite_cons, lite_nil] <;> rfl) fun all hall K hK => ?_
  clear hall
  simp (maxSteps := 1000000) (disch := first | omega | assumption) [og_at, og_put, og_at0, og_put0, hw, og_get hw, og_app hw, og_app0 hw, og_set hw, og_set0 hw, hq, og_get hq, og_app hq, og_app0 hq, og_set hq, og_set0 hq, og_last, og_setlast, og_last0, og_setlast0, og_last1, og_setlast1, og_last2, og_setlast2]
  repeat' refine And.intro ?_ ?_
  all_goals first | omega | exact rfl | skip
  refine hK _ ?_
  clear hK K
  clear all
  refine q_then_n ?_
  refine awp_seq ?_
  refine awp_seq ?_
  refine awp_regionA (c := ⟨[], [4, 5], [15, 17, 18], [], []⟩) (by simp only [lite_cons, lite_nil] <;> rfl) fun all hall K hK => ?_
  clear hall
  simp (maxSteps := 1000000) (disch := first | omega | assumption) [og_at, og_put, og_at0, og_put0, hw, og_get hw, og_app hw, og_app0 hw, og_set hw, og_set0 hw, hq, og_get hq, og_app hq, og_app0 hq, og_set hq, og_set0 hq, og_last, og_setlast, og_last0, og_setlast0, og_last1, og_setlast1, og_last2, og_setlast2]
  repeat' refine And.intro ?_ ?_
  all_goals first | omega | exact rfl | skip
  refine hK _ ?_
  clear hK K
  clear all
  refine q_then_n ?_
  refine awp_block ?_
  refine awp_seq ?_
  refine awp_regionA (c := ⟨[], [4, 5], [15, 17, 18], [], []⟩) (by simp only [lite_cons, lite_nil] <;> rfl) fun all hall K hK => ?_
  clear hall
  simp (maxSteps := 1000000) (disch := first | omega | assumption) [og_at, og_put, og_at0, og_put0, hw, og_get hw, og_app hw, og_app0 hw, og_set hw, og_set0 hw, hq, og_get hq, og_app hq, og_app0 hq, og_set hq, og_set0 hq, og_last, og_setlast, og_last0, og_setlast0, og_last1, og_setlast1, og_last2, og_setlast2]
  repeat' refine And.intro ?_ ?_
  all_goals first | omega | exact rfl | skip
  refine hK _ ?_
  clear hK K
  clear all
  refine q_then_n ?_
  refine awp_ifB (by simp <;> rfl) ?_
  refine ⟨fun c1 => ?_, fun c1 => ?_⟩
  · try simp at c1
    refine awp_seq ?_
    refine awp_regionA (c := ⟨[], [4, 5], [15, 17, 18], [], []⟩) (by simp only [lite_cons, lite_nil] <;> rfl) fun all hall K hK => ?_
    clear hall
    refine vcL_split 5 fun K' hK' => ?_
    simp (maxSteps := 1000000) (disch := first | omega | assumption) [og_at, og_put, og_at0, og_put0, hw, og_get hw, og_app hw, og_app0 hw, og_set hw, og_set0 hw, hq, og_get hq, og_app hq, og_app0 hq, og_set hq, og_set0 hq, og_last, og_setlast, og_last0, og_setlast0, og_last1, og_setlast1, og_last2, og_setlast2]
    repeat' refine And.intro ?_ ?_
    all_goals first | omega | exact rfl | skip
    refine hK' _ ?_
    clear hK' K'
    simp only [List.drop_succ_cons, List.drop_zero]
    refine vcL_step fun K' hK' => ?_
    simp (maxSteps := 1000000) (disch := first | omega | assumption) [og_at, og_put, og_at0, og_put0, hw, og_get hw, og_app hw, og_app0 hw, og_set hw, og_set0 hw, hq, og_get hq, og_app hq, og_app0 hq, og_set hq, og_set0 hq, og_last, og_setlast, og_last0, og_setlast0, og_last1, og_setlast1, og_last2, og_setlast2]
    refine Ct.mono (Ct.of_le (wadd_fn w m M s a.n a.job _ hw hq hs hne hM hla) (by first | exact leArgs_of rfl | (refine leArgs_of ?_; simp; done) | (refine leArgs_of ?_; simp; rfl) | (simp [leArgs, leArg]; done)) rfl) ?_
    rintro _ _ ⟨hr9, hs9⟩
    subst hr9
    replace hs9 := hs9.symm
    subst hs9
    refine hK' _ ?_
    clear hK' K'
    simp (maxSteps := 1000000) (disch := first | omega | assumption) [og_at, og_put, og_at0, og_put0, hw, og_get hw, og_app hw, og_app0 hw, og_set hw, og_set0 hw, hq, og_get hq, og_app hq, og_app0 hq, og_set hq, og_set0 hq, og_last, og_setlast, og_last0, og_setlast0, og_last1, og_setlast1, og_last2, og_setlast2]
    repeat' refine And.intro ?_ ?_
    all_goals first | omega | exact rfl | skip
    refine hK _ ?_
    clear hK K
    clear all
    refine q_then_n ?_
    refine awp_seq ?_
    refine awp_keep [0, 4, 5, 6, 7, 8, 9] (by simp only [keepL_nil, keepL_cons, envOf_sel, envOf_nil, sel_t, sel_f, Nat.reduceBEq] <;> rfl) ?_
    refine awp_regionA (c := ⟨[], [4, 5], [15, 17, 18], [], []⟩) (by simp only [lite_cons, lite_nil] <;> rfl) fun all hall K hK => ?_
    clear hall
    refine vcL_split 5 fun K' hK' => ?_
    simp (maxSteps := 1000000) (disch := first | omega | assumption) [og_at, og_put, og_at0, og_put0, hw, og_get hw, og_app hw, og_app0 hw, og_set hw, og_set0 hw, hq, og_get hq, og_app hq, og_app0 hq, og_set hq, og_set0 hq, og_last, og_setlast, og_last0, og_setlast0, og_last1, og_setlast1, og_last2, og_setlast2]
    repeat' refine And.intro ?_ ?_
    all_goals first | omega | exact rfl | skip
    refine hK' _ ?_
    clear hK' K'
    simp only [List.drop_succ_cons, List.drop_zero]
    refine vcL_step fun K' hK' => ?_
    simp (maxSteps := 1000000) (disch := first | omega | assumption) [og_at, og_put, og_at0, og_put0, hw, og_get hw, og_app hw, og_app0 hw, og_set hw, og_set0 hw, hq, og_get hq, og_app hq, og_app0 hq, og_set hq, og_set0 hq, og_last, og_setlast, og_last0, og_setlast0, og_last1, og_setlast1, og_last2, og_setlast2]
    refine Ct.mono (Ct.of_le (radd_fn x a.n a.job _ hl hn) (by first | exact leArgs_of rfl | (refine leArgs_of ?_; simp; done) | (refine leArgs_of ?_; simp; rfl) | (simp [leArgs, leArg]; done)) rfl) ?_
    rintro _ _ ⟨hr9, hs9⟩
    subst hr9
    replace hs9 := hs9.symm
    subst hs9
    refine hK' _ ?_
    clear hK' K'
    simp (maxSteps := 1000000) (disch := first | omega | assumption) [og_at, og_put, og_at0, og_put0, hw, og_get hw, og_app hw, og_app0 hw, og_set hw, og_set0 hw, hq, og_get hq, og_app hq, og_app0 hq, og_set hq, og_set0 hq, og_last, og_setlast, og_last0, og_setlast0, og_last1, og_setlast1, og_last2, og_setlast2]
    repeat' refine And.intro ?_ ?_
    all_goals first | omega | exact rfl | skip
    refine hK _ ?_
    clear hK K
    clear all
    refine q_then_n ?_
    refine awp_seq ?_
    refine awp_keep [0, 4, 5, 6, 7, 8, 9, 10, 11, 12] (by simp only [keepL_nil, keepL_cons, envOf_sel, envOf_nil, sel_t, sel_f, Nat.reduceBEq] <;> rfl) ?_
    refine awp_regionA (c := ⟨[], [4, 5], [15, 17, 18], [], []⟩) (by simp only [lite_cons, lite_nil] <;> rfl) fun all hall K hK => ?_
    have ga4 : guardOf all 4 = some 47 := hall 4
    clear hall
    refine vcL_split 5 fun K' hK' => ?_
    simp (maxSteps := 1000000) (disch := first | omega | assumption) [og_at, og_put, og_at0, og_put0, hw, og_get hw, og_app hw, og_app0 hw, og_set hw, og_set0 hw, hq, og_get hq, og_app hq, og_app0 hq, og_set hq, og_set0 hq, og_last, og_setlast, og_last0, og_setlast0, og_last1, og_setlast1, og_last2, og_setlast2, ga4]
    repeat' refine And.intro ?_ ?_
    all_goals first | omega | exact rfl | skip
    refine hK' _ ?_
    clear hK' K'
    simp only [List.drop_succ_cons, List.drop_zero]
    refine vcL_bool 47 (by simp <;> rfl) ?_
    refine ⟨fun g2 => ?_, fun g2 => ?_⟩
    · try simp at g2
      simp (maxSteps := 1000000) (disch := first | omega | assumption) [og_at, og_put, og_at0, og_put0, hw, og_get hw, og_app hw, og_app0 hw, og_set hw, og_set0 hw, hq, og_get hq, og_app hq, og_app0 hq, og_set hq, og_set0 hq, og_last, og_setlast, og_last0, og_setlast0, og_last1, og_setlast1, og_last2, og_setlast2, ga4]
      repeat' refine And.intro ?_ ?_
      all_goals first | omega | exact rfl | skip
      refine hK _ ?_
      clear hK K
      clear ga4
      clear all
      refine q_then_n ?_
      refine awp_ret ?_
      refine q_block_r ?_
      refine q_then_r ?_
      simp [endQ, wdo, rdo, okdo, c1, g2]
    · try simp at g2
      simp (maxSteps := 1000000) (disch := first | omega | assumption) [og_at, og_put, og_at0, og_put0, hw, og_get hw, og_app hw, og_app0 hw, og_set hw, og_set0 hw, hq, og_get hq, og_app hq, og_app0 hq, og_set hq, og_set0 hq, og_last, og_setlast, og_last0, og_setlast0, og_last1, og_setlast1, og_last2, og_setlast2, ga4]
      repeat' refine And.intro ?_ ?_
      all_goals first | omega | exact rfl | skip
      refine hK _ ?_
      clear hK K
      clear ga4
      clear all
      refine q_then_n ?_
      refine awp_ret ?_
      refine q_block_r ?_
      refine q_then_r ?_
      simp [endQ, wdo, rdo, okdo, c1, g2]
  · try simp at c1
    refine awp_seq ?_
    refine awp_regionA (c := ⟨[], [4, 5], [15, 17, 18], [], []⟩) (by simp only [lite_cons, lite_nil] <;> rfl) fun all hall K hK => ?_
    clear hall
    simp (maxSteps := 1000000) (disch := first | omega | assumption) [og_at, og_put, og_at0, og_put0, hw, og_get hw, og_app hw, og_app0 hw, og_set hw, og_set0 hw, hq, og_get hq, og_app hq, og_app0 hq, og_set hq, og_set0 hq, og_last, og_setlast, og_last0, og_setlast0, og_last1, og_setlast1, og_last2, og_setlast2]
    repeat' refine And.intro ?_ ?_
    all_goals first | omega | exact rfl | skip
    refine hK _ ?_
    clear hK K
    clear all
    refine q_then_n ?_
    refine awp_ifB (by simp <;> rfl) ?_
    refine ⟨fun c3 => ?_, fun c3 => ?_⟩
    · try simp at c3
      refine awp_seq ?_
      refine awp_regionA (c := ⟨[], [4, 5], [15, 17, 18], [], []⟩) (by simp only [lite_cons, lite_nil] <;> rfl) fun all hall K hK => ?_
      clear hall
      refine vcL_split 3 fun K' hK' => ?_
      simp (maxSteps := 1000000) (disch := first | omega | assumption) [og_at, og_put, og_at0, og_put0, hw, og_get hw, og_app hw, og_app0 hw, og_set hw, og_set0 hw, hq, og_get hq, og_app hq, og_app0 hq, og_set hq, og_set0 hq, og_last, og_setlast, og_last0, og_setlast0, og_last1, og_setlast1, og_last2, og_setlast2]
      repeat' refine And.intro ?_ ?_
      all_goals first | omega | exact rfl | skip
      refine hK' _ ?_
      clear hK' K'
      simp only [List.drop_succ_cons, List.drop_zero]
      refine vcL_step fun K' hK' => ?_
      simp (maxSteps := 1000000) (disch := first | omega | assumption) [og_at, og_put, og_at0, og_put0, hw, og_get hw, og_app hw, og_app0 hw, og_set hw, og_set0 hw, hq, og_get hq, og_app hq, og_app0 hq, og_set hq, og_set0 hq, og_last, og_setlast, og_last0, og_setlast0, og_last1, og_setlast1, og_last2, og_setlast2]
      refine Ct.mono (Ct.of_le (rcan_fn x a.n _ hl hn) (by first | exact leArgs_of rfl | (refine leArgs_of ?_; simp; done) | (refine leArgs_of ?_; simp; rfl) | (simp [leArgs, leArg]; done)) rfl) ?_
      rintro _ _ ⟨hr9, hs9⟩
      subst hr9
      replace hs9 := hs9.symm
      subst hs9
      refine hK' _ ?_
      clear hK' K'
      simp (maxSteps := 1000000) (disch := first | omega | assumption) [og_at, og_put, og_at0, og_put0, hw, og_get hw, og_app hw, og_app0 hw, og_set hw, og_set0 hw, hq, og_get hq, og_app hq, og_app0 hq, og_set hq, og_set0 hq, og_last, og_setlast, og_last0, og_setlast0, og_last1, og_setlast1, og_last2, og_setlast2]
      repeat' refine And.intro ?_ ?_
      all_goals first | omega | exact rfl | skip
      refine hK _ ?_
      clear hK K
      clear all
      refine q_then_n ?_
      refine awp_seq ?_
      refine awp_keep [0, 4, 5, 6, 7, 13, 14] (by simp only [keepL_nil, keepL_cons, envOf_sel, envOf_nil, sel_t, sel_f, Nat.reduceBEq] <;> rfl) ?_
      refine awp_drawA (c := ⟨[], [4, 5], [15, 17, 18], [], []⟩) [.op ⟨true, false, false, false⟩, .op ⟨false, false, false, false⟩, .op ⟨false, false, false, false⟩, .op ⟨false, false, false, false⟩, .det, .op ⟨false, false, false, false⟩, .op ⟨false, false, false, false⟩, .op ⟨true, true, false, false⟩, .op ⟨false, false, false, false⟩] (by kernel_rfl) (by kernel_rfl) (by simp only [lite_cons, lite_nil] <;> rfl) fun all hall K hK => ?_
      clear hall
      refine vcDL_split 4 (by simp) fun K' hK' => ?_
      simp (maxSteps := 1000000) (disch := first | omega | assumption) [og_at, og_put, og_at0, og_put0, hw, og_get hw, og_app hw, og_app0 hw, og_set hw, og_set0 hw, hq, og_get hq, og_app hq, og_app0 hq, og_set hq, og_set0 hq, og_last, og_setlast, og_last0, og_setlast0, og_last1, og_setlast1, og_last2, og_setlast2]
      repeat' refine And.intro ?_ ?_
      all_goals first | omega | exact rfl | skip
      refine hK' _ ?_
      clear hK' K'
      simp only [List.drop_succ_cons, List.drop_zero]
      refine vcDL_step fun K' hK' => ?_
      simp (maxSteps := 1000000) (disch := first | omega | assumption) [og_at, og_put, og_at0, og_put0, hw, og_get hw, og_app hw, og_app0 hw, og_set hw, og_set0 hw, hq, og_get hq, og_app hq, og_app0 hq, og_set hq, og_set0 hq, og_last, og_setlast, og_last0, og_setlast0, og_last1, og_setlast1, og_last2, og_setlast2]
      refine ⟨_, _, Ct.of_le (wcan_fn w m M s a.n _ hw hq hs hM) (by first | exact leArgs_of rfl | (refine leArgs_of ?_; simp; done) | (refine leArgs_of ?_; simp; rfl) | (simp [leArgs, leArg]; done)) rfl, ?_⟩
      refine hK' _ ?_
      clear hK' K'
      simp (maxSteps := 1000000) (disch := first | omega | assumption) [og_at, og_put, og_at0, og_put0, hw, og_get hw, og_app hw, og_app0 hw, og_set hw, og_set0 hw, hq, og_get hq, og_app hq, og_app0 hq, og_set hq, og_set0 hq, og_last, og_setlast, og_last0, og_setlast0, og_last1, og_setlast1, og_last2, og_setlast2]
      repeat' refine And.intro ?_ ?_
      all_goals first | omega | exact rfl | skip
      refine hK _ ?_
      clear hK K
      clear all
      refine q_then_n ?_
      refine awp_ret ?_
      refine q_block_r ?_
      refine q_then_r ?_
      have ew : σ.set w (dwh m (wcan s a.n).1) = σ := by rw [dwh_can]; exact obj_set_same hw
      simp only [dwh] at ew
      simp [endQ, wdo, rdo, okdo, c1, c3, ew]
      cases (wcan s a.n).snd <;> cases decide ((rdel a.n x.l).length < x.l.length) <;> rfl
    · try simp at c3
      refine awp_skip ?_
      refine q_block_n ?_
      refine q_then_n ?_
      refine awp_seq ?_
      refine awp_regionA (c := ⟨[], [4, 5], [15, 17, 18], [], []⟩) (by simp only [lite_cons, lite_nil] <;> rfl) fun all hall K hK => ?_
      clear hall
      refine vcL_split 3 fun K' hK' => ?_
      simp (maxSteps := 1000000) (disch := first | omega | assumption) [og_at, og_put, og_at0, og_put0, hw, og_get hw, og_app hw, og_app0 hw, og_set hw, og_set0 hw, hq, og_get hq, og_app hq, og_app0 hq, og_set hq, og_set0 hq, og_last, og_setlast, og_last0, og_setlast0, og_last1, og_setlast1, og_last2, og_setlast2]
      repeat' refine And.intro ?_ ?_
      all_goals first | omega | exact rfl | skip
      refine hK' _ ?_
      clear hK' K'
      simp only [List.drop_succ_cons, List.drop_zero]
      refine vcL_step fun K' hK' => ?_
      simp (maxSteps := 1000000) (disch := first | omega | assumption) [og_at, og_put, og_at0, og_put0, hw, og_get hw, og_app hw, og_app0 hw, og_set hw, og_set0 hw, hq, og_get hq, og_app hq, og_app0 hq, og_set hq, og_set0 hq, og_last, og_setlast, og_last0, og_setlast0, og_last1, og_setlast1, og_last2, og_setlast2]
      refine Ct.mono (Ct.of_le (wdue_fn w m M s a.n _ hw hq hs hne hM) (by first | exact leArgs_of rfl | (refine leArgs_of ?_; simp; done) | (refine leArgs_of ?_; simp; rfl) | (simp [leArgs, leArg]; done)) rfl) ?_
      rintro _ _ ⟨hr9, hs9⟩
      subst hr9
      replace hs9 := hs9.symm
      subst hs9
      refine hK' _ ?_
      clear hK' K'
      simp (maxSteps := 1000000) (disch := first | omega | assumption) [og_at, og_put, og_at0, og_put0, hw, og_get hw, og_app hw, og_app0 hw, og_set hw, og_set0 hw, hq, og_get hq, og_app hq, og_app0 hq, og_set hq, og_set0 hq, og_last, og_setlast, og_last0, og_setlast0, og_last1, og_setlast1, og_last2, og_setlast2]
      repeat' refine And.intro ?_ ?_
      all_goals first | omega | exact rfl | skip
      refine hK _ ?_
      clear hK K
      clear all
      refine q_then_n ?_
      refine awp_seq ?_
      refine awp_keep [4, 5, 6, 7, 15, 16] (by simp only [keepL_nil, keepL_cons, envOf_sel, envOf_nil, sel_t, sel_f, Nat.reduceBEq] <;> rfl) ?_
      refine awp_regionA (c := ⟨[], [4, 5], [15, 17, 18], [], []⟩) (by simp only [lite_cons, lite_nil] <;> rfl) fun all hall K hK => ?_
      clear hall
      refine vcL_split 3 fun K' hK' => ?_
      simp (maxSteps := 1000000) (disch := first | omega | assumption) [og_at, og_put, og_at0, og_put0, hw, og_get hw, og_app hw, og_app0 hw, og_set hw, og_set0 hw, hq, og_get hq, og_app hq, og_app0 hq, og_set hq, og_set0 hq, og_last, og_setlast, og_last0, og_setlast0, og_last1, og_setlast1, og_last2, og_setlast2]
      repeat' refine And.intro ?_ ?_
      all_goals first | omega | exact rfl | skip
      refine hK' _ ?_
      clear hK' K'
      simp only [List.drop_succ_cons, List.drop_zero]
      refine vcL_step fun K' hK' => ?_
      simp (maxSteps := 1000000) (disch := first | omega | assumption) [og_at, og_put, og_at0, og_put0, hw, og_get hw, og_app hw, og_app0 hw, og_set hw, og_set0 hw, hq, og_get hq, og_app hq, og_app0 hq, og_set hq, og_set0 hq, og_last, og_setlast, og_last0, og_setlast0, og_last1, og_setlast1, og_last2, og_setlast2]
      refine Ct.mono (Ct.of_le (rdue_fn x a.n _ hl hn) (by first | exact leArgs_of rfl | (refine leArgs_of ?_; simp; done) | (refine leArgs_of ?_; simp; rfl) | (simp [leArgs, leArg]; done)) rfl) ?_
      rintro _ _ ⟨hr9, hs9⟩
      subst hr9
      replace hs9 := hs9.symm
      subst hs9
      refine hK' _ ?_
      clear hK' K'
      refine vcL_split 8 fun K' hK' => ?_
      simp (maxSteps := 1000000) (disch := first | omega | assumption) [og_at, og_put, og_at0, og_put0, hw, og_get hw, og_app hw, og_app0 hw, og_set hw, og_set0 hw, hq, og_get hq, og_app hq, og_app0 hq, og_set hq, og_set0 hq, og_last, og_setlast, og_last0, og_setlast0, og_last1, og_setlast1, og_last2, og_setlast2]
      repeat' refine And.intro ?_ ?_
      all_goals first | omega | exact rfl | skip
      refine hK' _ ?_
      clear hK' K'
      simp only [List.drop_succ_cons, List.drop_zero]
      simp (maxSteps := 1000000) (disch := first | omega | assumption) [og_at, og_put, og_at0, og_put0, hw, og_get hw, og_app hw, og_app0 hw, og_set hw, og_set0 hw, hq, og_get hq, og_app hq, og_app0 hq, og_set hq, og_set0 hq, og_last, og_setlast, og_last0, og_setlast0, og_last1, og_setlast1, og_last2, og_setlast2]
      repeat' refine And.intro ?_ ?_
      all_goals first | omega | exact rfl | skip
      refine hK _ ?_
      clear hK K
      clear all
      refine q_then_n ?_
      refine awp_seq ?_
      refine awp_keep [6, 7, 15, 16, 17, 18, 19] (by simp only [keepL_nil, keepL_cons, envOf_sel, envOf_nil, sel_t, sel_f, Nat.reduceBEq] <;> rfl) ?_
      refine awp_drawA (c := ⟨[], [4, 5], [15, 17, 18], [], []⟩) [.op ⟨false, false, true, false⟩, .op ⟨false, false, false, false⟩, .op ⟨false, false, false, false⟩, .op ⟨false, false, false, false⟩, .op ⟨false, false, false, false⟩, .op ⟨false, false, true, false⟩, .pure, .op ⟨false, false, true, false⟩, .op ⟨false, false, false, false⟩, .op ⟨false, false, false, false⟩, .op ⟨true, true, false, false⟩, .op ⟨false, false, false, false⟩] (by kernel_rfl) (by kernel_rfl) (by simp only [lite_cons, lite_nil] <;> rfl) fun all hall K hK => ?_
      have ga4 : guardOf all 4 = some 87 := hall 4
      clear hall
      refine vcDL_split 5 (by simp) fun K' hK' => ?_
      simp (maxSteps := 1000000) (disch := first | omega | assumption) [og_at, og_put, og_at0, og_put0, hw, og_get hw, og_app hw, og_app0 hw, og_set hw, og_set0 hw, hq, og_get hq, og_app hq, og_app0 hq, og_set hq, og_set0 hq, og_last, og_setlast, og_last0, og_setlast0, og_last1, og_setlast1, og_last2, og_setlast2, ga4]
      repeat' refine And.intro ?_ ?_
      all_goals first | omega | exact rfl | skip
      refine hK' _ ?_
      clear hK' K'
      simp only [List.drop_succ_cons, List.drop_zero]
      refine vcDL_bool 87 (by simp <;> rfl) ?_
      refine ⟨fun g4 => ?_, fun g4 => ?_⟩
      · try simp at g4
        refine vcDL_split 1 (by simp) fun K' hK' => ?_
        simp (maxSteps := 1000000) (disch := first | omega | assumption) [og_at, og_put, og_at0, og_put0, hw, og_get hw, og_app hw, og_app0 hw, og_set hw, og_set0 hw, hq, og_get hq, og_app hq, og_app0 hq, og_set hq, og_set0 hq, og_last, og_setlast, og_last0, og_setlast0, og_last1, og_setlast1, og_last2, og_setlast2, ga4]
        repeat' refine And.intro ?_ ?_
        all_goals first | omega | exact rfl | skip
        refine hK' _ ?_
        clear hK' K'
        simp only [List.drop_succ_cons, List.drop_zero]
        refine vcDL_gt ga4 (by simp <;> rfl) rfl fun K' hK' => ?_
        simp (maxSteps := 1000000) (disch := first | omega | assumption) [og_at, og_put, og_at0, og_put0, hw, og_get hw, og_app hw, og_app0 hw, og_set hw, og_set0 hw, hq, og_get hq, og_app hq, og_app0 hq, og_set hq, og_set0 hq, og_last, og_setlast, og_last0, og_setlast0, og_last1, og_setlast1, og_last2, og_setlast2, ga4]
        refine ⟨_, fun σ => Ct.of_le (told_fn ..) (by first | exact leArgs_of rfl | (refine leArgs_of ?_; simp; done) | (refine leArgs_of ?_; simp; rfl) | (simp [leArgs, leArg]; done)) rfl, ?_⟩
        refine hK' _ ?_
        clear hK' K'
        simp (maxSteps := 1000000) (disch := first | omega | assumption) [og_at, og_put, og_at0, og_put0, hw, og_get hw, og_app hw, og_app0 hw, og_set hw, og_set0 hw, hq, og_get hq, og_app hq, og_app0 hq, og_set hq, og_set0 hq, og_last, og_setlast, og_last0, og_setlast0, og_last1, og_setlast1, og_last2, og_setlast2, ga4]
        repeat' refine And.intro ?_ ?_
        all_goals first | omega | exact rfl | skip
        refine hK _ ?_
        clear hK K
        clear ga4
        clear all
        refine q_then_n ?_
        refine awp_ret ?_
        have ew : σ.set w (dwh m (wdue s a.n)) = σ := by rw [dwh_due]; exact obj_set_same hw
        simp only [dwh] at ew
        simp [endQ, wdo, rdo, okdo, c1, c3, g4, ew]
        exact tm_beq _ _
      · try simp at g4
        simp (maxSteps := 1000000) (disch := first | omega | assumption) [og_at, og_put, og_at0, og_put0, hw, og_get hw, og_app hw, og_app0 hw, og_set hw, og_set0 hw, hq, og_get hq, og_app hq, og_app0 hq, og_set hq, og_set0 hq, og_last, og_setlast, og_last0, og_setlast0, og_last1, og_setlast1, og_last2, og_setlast2, ga4]
        repeat' refine And.intro ?_ ?_
        all_goals first | omega | exact rfl | skip
        refine hK _ ?_
        clear hK K
        clear ga4
        clear all
        refine q_then_n ?_
        refine awp_ret ?_
        have ew : σ.set w (dwh m (wdue s a.n)) = σ := by rw [dwh_due]; exact obj_set_same hw
        simp only [dwh] at ew
        simp [endQ, wdo, rdo, okdo, c1, c3, g4, ew]

theorem do_fn (w m M : Nat) (s : WS) (x : RW) (a : WAct) (σ : List (List D)) (hw : σ[w]? = some (dwh m s)) (hq : σ[m]? = some (dhp M s.h)) (hs : WOk s) (hne : w ≠ m) (hM : M < σ.length) (hla : s.last ≤ 1000000) (hl : x.l.length ≤ 100000) (hn : 0 ≤ x.last ∧ x.last ≤ 1000000) : Ct Try.prog 24 [.ref w 0, d_RW x, d_WAct a] σ (fun r σ' => r = .tup [d_RW (rdo x a), .bool (decide (okdo s x a))] ∧ σ' = (σ.set w (dwh m (wdo s a))).set m (dhp M (wdo s a).h)) :=
  (do0_fn w m M s x a σ hw hq hs hne hM hla hl hn).trim fun r σ' ⟨hr, J, hx⟩ => ⟨_, J, hx, by simp, by
    rw [hr]
    refine Sc.tup fun d hd => ?_
    simp only [List.mem_cons, List.not_mem_nil, or_false] at hd
    rcases hd with rfl | rfl
    · exact rw_sc _ _
    · exact Sc.v _, fun n cs hcs => by
      rcases trim_set (sc_dhp _ _ hM _) n cs hcs with h9 | h9
      · refine trim_set (fun d hd => ?_) n cs h9
        simp only [dwh, List.mem_cons, List.not_mem_nil, or_false] at hd
        rcases hd with rfl | rfl | rfl
        · exact Sc.v _
        · exact Sc.v _
        · exact Sc.ref (og_lt hq)
      · exact .inr h9, hr, rfl⟩

-- scrim/scrimlaw16.WheelPlays
theorem wheelPlays_fn (most : Int) (acts : List WAct) (σ : List (List D)) (hl : acts.length ≤ 9223372036854775807) : Ct Try.prog 5 [D.int most, .sl false (acts.map d_WAct)] σ (fun r σ' => r = .bool true) := by
  refine fn_start (rs := [.tmp 4]) Try.func5 rfl rfl Try.ntmps5 Try.results5 (by simp) ?_
  simp only [argEnv]
  refine awp_seq ?_
  refine awp_regionA (c := ⟨[], [], [6], [], []⟩) (by simp only [lite_cons, lite_nil] <;> rfl) fun all hall K hK => ?_
  clear hall
  simp (maxSteps := 1000000) (disch := first | omega | assumption) [og_at, og_put, og_at0, og_put0]
  repeat' refine And.intro ?_ ?_
  all_goals first | omega | exact rfl | skip
  refine hK _ ?_
  clear hK K
  clear all
  refine q_then_n ?_
  refine awp_seq ?_
  refine awp_seq ?_
  refine awp_regionA (c := ⟨[], [], [6], [], []⟩) (by simp only [lite_cons, lite_nil] <;> rfl) fun all hall K hK => ?_
  clear hall
  refine vcL_step fun K' hK' => ?_
  simp (maxSteps := 1000000) (disch := first | omega | assumption) [og_at, og_put, og_at0, og_put0]
  refine Ct.mono (Ct.of_le (wawake_fn _) (by first | exact leArgs_of rfl | (refine leArgs_of ?_; simp; done) | (refine leArgs_of ?_; simp; rfl) | (simp [leArgs, leArg]; done)) rfl) ?_
  rintro _ _ ⟨hr9, hs9⟩
  subst hr9
  replace hs9 := hs9.symm
  subst hs9
  refine hK' _ ?_
  clear hK' K'
  simp (maxSteps := 1000000) (disch := first | omega | assumption) [og_at, og_put, og_at0, og_put0]
  repeat' refine And.intro ?_ ?_
  all_goals first | omega | exact rfl | skip
  refine hK _ ?_
  clear hK K
  clear all
  refine q_then_n ?_
  refine awp_ifB (by simp <;> rfl) ?_
  refine ⟨fun c1 => ?_, fun c1 => ?_⟩
  · simp at c1
  · try simp at c1
    refine awp_skip ?_
    refine q_then_n ?_
    refine awp_seq ?_
    refine awp_regionA (c := ⟨[], [], [6], [], []⟩) (by simp only [lite_cons, lite_nil] <;> rfl) fun all hall K hK => ?_
    clear hall
    refine vcL_split 1 fun K' hK' => ?_
    simp (maxSteps := 1000000) (disch := first | omega | assumption) [og_at, og_put, og_at0, og_put0]
    repeat' refine And.intro ?_ ?_
    all_goals first | omega | exact rfl | skip
    refine hK' _ ?_
    clear hK' K'
    simp only [List.drop_succ_cons, List.drop_zero]
    refine vcL_step fun K' hK' => ?_
    simp (maxSteps := 1000000) (disch := first | omega | assumption) [og_at, og_put, og_at0, og_put0]
    refine Ct.mono (Ct.of_le (wnew0_fn most _) (by first | exact leArgs_of rfl | (refine leArgs_of ?_; simp; done) | (refine leArgs_of ?_; simp; rfl) | (simp [leArgs, leArg]; done)) rfl) ?_
    rintro _ _ ⟨hr9, hs9⟩
    subst hr9
    replace hs9 := hs9.symm
    subst hs9
    refine hK' _ ?_
    clear hK' K'
    refine vcL_split 1 fun K' hK' => ?_
    simp (maxSteps := 1000000) (disch := first | omega | assumption) [og_at, og_put, og_at0, og_put0]
    repeat' refine And.intro ?_ ?_
    all_goals first | omega | exact rfl | skip
    refine hK' _ ?_
    clear hK' K'
    simp only [List.drop_succ_cons, List.drop_zero]
    refine vcL_step fun K' hK' => ?_
    simp (maxSteps := 1000000) (disch := first | omega | assumption) [og_at, og_put, og_at0, og_put0]
    refine Ct.mono (Ct.of_le (rnew_fn most _) (by first | exact leArgs_of rfl | (refine leArgs_of ?_; simp; done) | (refine leArgs_of ?_; simp; rfl) | (simp [leArgs, leArg]; done)) rfl) ?_
    rintro _ _ ⟨hr9, hs9⟩
    subst hr9
    replace hs9 := hs9.symm
    subst hs9
    refine hK' _ ?_
    clear hK' K'
    simp (maxSteps := 1000000) (disch := first | omega | assumption) [og_at, og_put, og_at0, og_put0]
    repeat' refine And.intro ?_ ?_
    all_goals first | omega | exact rfl | skip
    refine hK _ ?_
    clear hK K
    clear all
    refine q_then_n ?_
    refine awp_seq ?_
    refine awp_seq ?_
    refine awp_regionA (c := ⟨[], [], [6], [], []⟩) (by simp only [lite_cons, lite_nil] <;> rfl) fun all hall K hK => ?_
    clear hall
    simp (maxSteps := 1000000) (disch := first | omega | assumption) [og_at, og_put, og_at0, og_put0]
    repeat' refine And.intro ?_ ?_
    all_goals first | omega | exact rfl | skip
    refine hK _ ?_
    clear hK K
    clear all
    refine q_then_n ?_
    refine awp_ifB (by simp <;> rfl) ?_
    refine ⟨fun c2 => ?_, fun c2 => ?_⟩
    · simp at c2
    · try simp at c2
      refine awp_skip ?_
      refine q_then_n ?_
      refine awp_seq ?_
      refine awp_seq ?_
      refine awp_regionA (c := ⟨[], [], [6], [], []⟩) (by simp only [lite_cons, lite_nil] <;> rfl) fun all hall K hK => ?_
      clear hall
      simp (maxSteps := 1000000) (disch := first | omega | assumption) [og_at, og_put, og_at0, og_put0]
      repeat' refine And.intro ?_ ?_
      all_goals first | omega | exact rfl | skip
      refine hK _ ?_
      clear hK K
      clear all
      refine q_then_n ?_
      refine awp_block ?_
      refine awp_keep [1, 4, 5, 6, 7] (by simp only [keepL_nil, keepL_cons, envOf_sel, envOf_nil, sel_t, sel_f, Nat.reduceBEq] <;> rfl) ?_
      refine awp_loopM (fun (s : PSt) => [(7, .d (.int s.k))]) (fun (s : PSt) => []) (fun (s : PSt) => [(σ.length + 1, dhp σ.length s.s.h), (σ.length + 2, dwh (σ.length + 1) s.s), (σ.length + 3, [D.int s.x.most, D.int s.x.last, .sl false (s.x.l.map d_Tm)])]) [4, 7, 8, 9, 18, 19, 20, 21, 22, 23, 24, 25, 26, 27, 28, 29, 30, 31, 32, 33, 34, 35, 36, 37, 38, 39, 40, 41, 42, 43, 44, 45, 46, 47, 48, 49, 50, 51, 52, 53, 54, 55, 56] (fun (s : PSt) => s.k ≤ acts.length ∧ s.k ≤ 80 ∧ PI s.k s.s s.x) (fun (s : PSt) => acts.length - s.k) (⟨0, ⟨clip most 1 65536, 0, hp0⟩, ⟨max 1 (min most 65536), 0, []⟩⟩) (by simp <;> rfl) ?_ (by simp) (by simp [og_at, og_put, og_at0, og_put0]) ?_ ?_
      · simp
      · exact ⟨by simp, by simp, PI.new most⟩
      rintro ⟨k, s, x⟩ ⟨hk, hk80, hi⟩
      simp only [List.cons_append, List.nil_append, setL_nil, setL_cons, List.set_cons_zero, List.set_cons_succ]
      dsimp only at hk hk80 hi
      have hok := hi.i.ok
      have hxl := hi.xl
      have hxn := hi.xn (by omega)
      have hlk := hi.lk
      refine awp_seq ?_
      refine awp_seq ?_
      refine awp_regionA (c := ⟨[], [], [6], [], []⟩) (by simp only [lite_cons, lite_nil] <;> rfl) fun all hall K hK => ?_
      have ga4 : guardOf all 4 = some 22 := hall 4
      clear hall
      refine vcL_split 5 fun K' hK' => ?_
      simp (maxSteps := 1000000) (disch := first | omega | assumption) [og_at, og_put, og_at0, og_put0, ga4]
      repeat' refine And.intro ?_ ?_
      all_goals first | omega | exact rfl | skip
      refine hK' _ ?_
      clear hK' K'
      simp only [List.drop_succ_cons, List.drop_zero]
      refine vcL_bool 22 (by simp <;> rfl) ?_
      refine ⟨fun g3 => ?_, fun g3 => ?_⟩
      · try simp at g3
        simp (maxSteps := 1000000) (disch := first | omega | assumption) [og_at, og_put, og_at0, og_put0, ga4]
        repeat' refine And.intro ?_ ?_
        all_goals first | omega | exact rfl | skip
        refine hK _ ?_
        clear hK K
        clear ga4
        clear all
        refine q_then_n ?_
        refine awp_ifB (by simp <;> rfl) ?_
        refine ⟨fun c4 => ?_, fun c4 => ?_⟩
        · try simp at c4
          refine awp_skip ?_
          refine q_then_n ?_
          refine awp_seq ?_
          refine awp_block ?_
          refine awp_seq ?_
          refine awp_keep [1, 5, 6, 7] (by simp only [keepL_nil, keepL_cons, envOf_sel, envOf_nil, sel_t, sel_f, Nat.reduceBEq] <;> rfl) ?_
          refine awp_drawA (c := ⟨[], [], [6], [], []⟩) [.op ⟨false, false, false, false⟩, .op ⟨false, false, true, false⟩, .op ⟨false, false, false, false⟩, .op ⟨false, false, false, false⟩, .op ⟨false, false, false, false⟩, .op ⟨false, false, false, false⟩, .det, .op ⟨false, false, false, false⟩, .op ⟨false, false, false, false⟩, .op ⟨false, false, false, false⟩, .op ⟨true, true, false, false⟩, .op ⟨true, true, false, false⟩, .op ⟨false, false, false, false⟩] (by kernel_rfl) (by kernel_rfl) (by simp only [lite_cons, lite_nil] <;> rfl) fun all hall K hK => ?_
          clear hall
          refine vcDL_split 6 (by simp) fun K' hK' => ?_
          simp (maxSteps := 1000000) (disch := first | omega | assumption) [og_at, og_put, og_at0, og_put0]
          repeat' refine And.intro ?_ ?_
          all_goals first | omega | exact rfl | skip
          refine hK' _ ?_
          clear hK' K'
          simp only [List.drop_succ_cons, List.drop_zero]
          refine vcDL_step fun K' hK' => ?_
          simp (maxSteps := 1000000) (disch := first | omega | assumption) [og_at, og_put, og_at0, og_put0]
          refine ⟨_, _, Ct.of_le (do_fn (σ.length + 2) (σ.length + 1) σ.length s x acts[k] _ (by simp [og_at, og_put, og_at0, og_put0]) (by simp [og_at, og_put, og_at0, og_put0]) hok (by omega) (by simp) (by omega) hxl hxn) (by first | exact leArgs_of rfl | (refine leArgs_of ?_; simp; done) | (refine leArgs_of ?_; simp; rfl) | (simp [leArgs, leArg]; done)) rfl, ?_⟩
          refine hK' _ ?_
          clear hK' K'
          simp (maxSteps := 1000000) (disch := first | omega | assumption) [og_at, og_put, og_at0, og_put0]
          repeat' refine And.intro ?_ ?_
          all_goals first | omega | exact rfl | skip
          refine hK _ ?_
          clear hK K
          clear all
          refine q_then_n ?_
          refine awp_seq ?_
          refine awp_keep [1, 5, 6, 7, 8, 9] (by simp only [keepL_nil, keepL_cons, envOf_sel, envOf_nil, sel_t, sel_f, Nat.reduceBEq] <;> rfl) ?_
          refine awp_regionA (c := ⟨[], [], [6], [], []⟩) (by simp only [lite_cons, lite_nil] <;> rfl) fun all hall K hK => ?_
          clear hall
          simp (maxSteps := 1000000) (disch := first | omega | assumption) [og_at, og_put, og_at0, og_put0]
          repeat' refine And.intro ?_ ?_
          all_goals first | omega | exact rfl | skip
          refine hK _ ?_
          clear hK K
          clear all
          refine q_then_n ?_
          refine awp_seq ?_
          refine awp_keep [1, 5, 6, 7, 9] (by simp only [keepL_nil, keepL_cons, envOf_sel, envOf_nil, sel_t, sel_f, Nat.reduceBEq] <;> rfl) ?_
          refine awp_drawA (c := ⟨[], [], [6], [], []⟩) [.op ⟨false, false, false, false⟩, .op ⟨false, false, false, false⟩, .op ⟨false, false, false, false⟩, .op ⟨false, false, false, false⟩, .read, .op ⟨false, false, false, false⟩, .op ⟨false, false, true, false⟩, .op ⟨false, false, false, false⟩, .op ⟨false, false, false, false⟩, .op ⟨false, false, false, false⟩, .op ⟨false, false, false, false⟩, .op ⟨false, false, false, false⟩, .read, .op ⟨false, false, false, false⟩, .op ⟨false, false, true, false⟩, .pure, .op ⟨false, false, false, false⟩, .op ⟨false, false, false, false⟩] (by kernel_rfl) (by kernel_rfl) (by simp only [lite_cons, lite_nil] <;> rfl) fun all hall K hK => ?_
          have ga2 : guardOf all 2 = some 41 := hall 2
          have ga10 : guardOf all 10 = some 49 := hall 10
          clear hall
          refine vcDL_split 3 (by simp) fun K' hK' => ?_
          simp (maxSteps := 1000000) (disch := first | omega | assumption) [og_at, og_put, og_at0, og_put0, ga2, ga10]
          repeat' refine And.intro ?_ ?_
          all_goals first | omega | exact rfl | skip
          refine hK' _ ?_
          clear hK' K'
          simp only [List.drop_succ_cons, List.drop_zero]
          refine vcDL_bool 41 (by simp <;> rfl) ?_
          refine ⟨fun g5 => ?_, fun g5 => ?_⟩
          · try simp at g5
            exact absurd (hi.step acts[k]).2 g5
          · try simp at g5
            refine vcDL_split 1 (by simp) fun K' hK' => ?_
            simp (maxSteps := 1000000) (disch := first | omega | assumption) [og_at, og_put, og_at0, og_put0, ga2, ga10]
            repeat' refine And.intro ?_ ?_
            all_goals first | omega | exact rfl | skip
            refine hK' _ ?_
            clear hK' K'
            simp only [List.drop_succ_cons, List.drop_zero]
            refine vcDL_gt ga2 (by simp <;> rfl) rfl fun K' hK' => ?_
            simp (maxSteps := 1000000) (disch := first | omega | assumption) [og_at, og_put, og_at0, og_put0, ga2, ga10]
            refine ⟨_, Ct.of_le (wlen_fn (σ.length + 2) (σ.length + 1) σ.length (wdo s acts[k]) _ (by simp [og_at, og_put, og_at0, og_put0]) (by simp [og_at, og_put, og_at0, og_put0]) (hi.step acts[k]).1.i.ok.hk) (by first | exact leArgs_of rfl | (refine leArgs_of ?_; simp; done) | (refine leArgs_of ?_; simp; rfl) | (simp [leArgs, leArg]; done)) rfl, ?_⟩
            refine hK' _ ?_
            clear hK' K'
            refine vcDL_split 6 (by simp) fun K' hK' => ?_
            simp (maxSteps := 1000000) (disch := first | omega | assumption) [og_at, og_put, og_at0, og_put0, ga2, ga10]
            repeat' refine And.intro ?_ ?_
            all_goals first | omega | exact rfl | skip
            refine hK' _ ?_
            clear hK' K'
            simp only [List.drop_succ_cons, List.drop_zero]
            refine vcDL_bool 49 (by simp <;> rfl) ?_
            refine ⟨fun g6 => ?_, fun g6 => ?_⟩
            · try simp at g6
              have hz := (hi.step acts[k]).1.len
              exfalso
              omega
            · try simp at g6
              refine vcDL_split 1 (by simp) fun K' hK' => ?_
              simp (maxSteps := 1000000) (disch := first | omega | assumption) [og_at, og_put, og_at0, og_put0, ga2, ga10]
              repeat' refine And.intro ?_ ?_
              all_goals first | omega | exact rfl | skip
              refine hK' _ ?_
              clear hK' K'
              simp only [List.drop_succ_cons, List.drop_zero]
              refine vcDL_gt ga10 (by simp <;> rfl) rfl fun K' hK' => ?_
              simp (maxSteps := 1000000) (disch := first | omega | assumption) [og_at, og_put, og_at0, og_put0, ga2, ga10]
              refine ⟨_, Ct.of_le (wlist_fn (σ.length + 2) (σ.length + 1) σ.length (wdo s acts[k]) (rdo x acts[k]).l _ (by simp [og_at, og_put, og_at0, og_put0]) (by simp [og_at, og_put, og_at0, og_put0]) (hi.step acts[k]).1.i.ok (by omega) (by simp) (hi.step acts[k]).1.hp (hi.step acts[k]).1.so) (by first | exact leArgs_of rfl | (refine leArgs_of ?_; simp; done) | (refine leArgs_of ?_; simp; rfl) | (simp [leArgs, leArg]; done)) rfl, ?_⟩
              refine hK' _ ?_
              clear hK' K'
              refine vcDL_split 2 (by simp) fun K' hK' => ?_
              simp (maxSteps := 1000000) (disch := first | omega | assumption) [og_at, og_put, og_at0, og_put0, ga2, ga10]
              repeat' refine And.intro ?_ ?_
              all_goals first | omega | exact rfl | skip
              refine hK' _ ?_
              clear hK' K'
              simp only [List.drop_succ_cons, List.drop_zero]
              refine vcDL_gt ga10 (by simp <;> rfl) rfl fun K' hK' => ?_
              simp (maxSteps := 1000000) (disch := first | omega | assumption) [og_at, og_put, og_at0, og_put0, ga2, ga10]
              refine ⟨_, fun σ => Ct.of_le (same_fn (rdo x acts[k]).l (rdo x acts[k]).l _ (by have := (hi.step acts[k]).1.xl; omega) (by have := (hi.step acts[k]).1.xl; omega)) (by first | exact leArgs_of rfl | (refine leArgs_of ?_; simp; done) | (refine leArgs_of ?_; simp; rfl) | (simp [leArgs, leArg]; done)) rfl, ?_⟩
              refine hK' _ ?_
              clear hK' K'
              simp (maxSteps := 1000000) (disch := first | omega | assumption) [og_at, og_put, og_at0, og_put0, ga2, ga10]
              repeat' refine And.intro ?_ ?_
              all_goals first | omega | exact rfl | skip
              refine hK _ ?_
              clear hK K
              clear ga2 ga10
              clear all
              refine q_then_n ?_
              refine awp_ifB (by simp <;> rfl) ?_
              refine ⟨fun c7 => ?_, fun c7 => ?_⟩
              · simp at c7
              · try simp at c7
                refine awp_skip ?_
                refine q_block_n ?_
                refine q_then_n ?_
                refine awp_keep [1, 5, 6, 7] (by simp only [keepL_nil, keepL_cons, envOf_sel, envOf_nil, sel_t, sel_f, Nat.reduceBEq] <;> rfl) ?_
                refine awp_regionA (c := ⟨[], [], [6], [], []⟩) (by simp only [lite_cons, lite_nil] <;> rfl) fun all hall K hK => ?_
                clear hall
                simp (maxSteps := 1000000) (disch := first | omega | assumption) [og_at, og_put, og_at0, og_put0]
                repeat' refine And.intro ?_ ?_
                all_goals first | omega | exact rfl | skip
                refine hK _ ?_
                clear hK K
                clear all
                refine q_round (⟨k + 1, wdo s acts[k], rdo x acts[k]⟩) ?_ ?_ (weak_mkA rfl ?_ (by simp) (by simp))
                · exact ⟨by simp at *; omega, by simp at *; omega, by simpa using (hi.step _).1⟩
                · try dsimp only
                  omega
                · simp (maxSteps := 1000000) (disch := first | omega | assumption) [og_at, og_put, og_at0, og_put0]
        · try simp at c4
          refine awp_exit ?_
          refine q_then_e ?_
          refine q_loop_e ?_
          refine q_block_e ?_
          refine q_then_n ?_
          refine awp_seq ?_
          refine awp_keep [] (by simp only [keepL_nil, keepL_cons, envOf_sel, envOf_nil, sel_t, sel_f, Nat.reduceBEq] <;> rfl) ?_
          refine awp_regionA (c := ⟨[], [], [6], [], []⟩) (by simp only [lite_cons, lite_nil] <;> rfl) fun all hall K hK => ?_
          clear hall
          simp (maxSteps := 1000000) (disch := first | omega | assumption) [og_at, og_put, og_at0, og_put0]
          repeat' refine And.intro ?_ ?_
          all_goals first | omega | exact rfl | skip
          refine hK _ ?_
          clear hK K
          clear all
          refine q_then_n ?_
          refine awp_ret ?_
          simp [endQ]
      · try simp at g3
        simp (maxSteps := 1000000) (disch := first | omega | assumption) [og_at, og_put, og_at0, og_put0, ga4]
        repeat' refine And.intro ?_ ?_
        all_goals first | omega | exact rfl | skip
        refine hK _ ?_
        clear hK K
        clear ga4
        clear all
        refine q_then_n ?_
        refine awp_cond (t := false) (by simp) (fun h => by cases h) (fun _ => ?_)
        refine awp_exit ?_
        refine q_then_e ?_
        refine q_loop_e ?_
        refine q_block_e ?_
        refine q_then_n ?_
        refine awp_seq ?_
        refine awp_keep [] (by simp only [keepL_nil, keepL_cons, envOf_sel, envOf_nil, sel_t, sel_f, Nat.reduceBEq] <;> rfl) ?_
        refine awp_regionA (c := ⟨[], [], [6], [], []⟩) (by simp only [lite_cons, lite_nil] <;> rfl) fun all hall K hK => ?_
        clear hall
        simp (maxSteps := 1000000) (disch := first | omega | assumption) [og_at, og_put, og_at0, og_put0]
        repeat' refine And.intro ?_ ?_
        all_goals first | omega | exact rfl | skip
        refine hK _ ?_
        clear hK K
        clear all
        refine q_then_n ?_
        refine awp_ret ?_
        simp [endQ]

end Go.Proofs.Ytnlokhfcgaikiaa

/- Walks: contracts of functions. Written by a program of ours out of annotations. -/
import Derived.Test.YthieajadepfeoaaWkDel
namespace Go.Proofs.Ythieajadepfeoaa
open Go Go.Vm
set_option maxRecDepth 20000
set_option linter.all false
set_option maxHeartbeats 8000000

-- scrim/scrimlaw03.ClassesLists
theorem lawLists_fn (l : Ls) (c : ByteArray) (σ : List (List D)) (ha : l.length ≤ 9223372036854775807) : Ct Try.prog 7 [dl l, D.str c] σ (fun r σ' => r = .bool true ∧ σ' = σ) := by
  have hfa := few_len l 30
  have hcl := clean_len (few l 30)
  have hdl := dropL_len (few l 30) (cutB 20 c)
  have hml := mine_len (few l 30)
  have hal := addL_len (few l 30) (cutB 20 c)
  refine fn_start (rs := [.tmp 4]) Try.func7 rfl rfl Try.ntmps7 Try.results7 (by simp) ?_
  simp only [argEnv]
  refine awp_seq ?_
  refine awp_regionA (c := ⟨[5, 19], [], [], []⟩) (by simp only [lite_cons, lite_nil] <;> rfl) fun all hall K hK => ?_
  clear hall
  simp (maxSteps := 1000000) (disch := first | omega | assumption)
  repeat' refine And.intro ?_ ?_
  all_goals first | omega | exact rfl | skip
  refine hK _ ?_
  clear hK K
  clear all
  refine q_then_n ?_
  refine awp_seq ?_
  refine awp_seq ?_
  refine awp_regionA (c := ⟨[5, 19], [], [], []⟩) (by simp only [lite_cons, lite_nil] <;> rfl) fun all hall K hK => ?_
  clear hall
  refine vcL_step fun K' hK' => ?_
  simp (maxSteps := 1000000) (disch := first | omega | assumption)
  refine Ct.mono (Ct.of_le (awake_fn _) (by first | exact leArgs_of rfl | (refine leArgs_of ?_; simp; done) | (refine leArgs_of ?_; simp; rfl) | (simp [leArgs, leArg]; done)) rfl) ?_
  rintro _ _ ⟨rfl, rfl⟩
  refine hK' _ ?_
  clear hK' K'
  simp (maxSteps := 1000000) (disch := first | omega | assumption)
  repeat' refine And.intro ?_ ?_
  all_goals first | omega | exact rfl | skip
  refine hK _ ?_
  clear hK K
  clear all
  refine q_then_n ?_
  refine awp_ifB (by simp <;> rfl) ?_
  refine ⟨fun c1 => ?_, fun c1 => ?_⟩
  · simp at c1
  · try simp at c1
    refine awp_skip ?_
    refine q_then_n ?_
    refine awp_seq ?_
    refine awp_regionA (c := ⟨[5, 19], [], [], []⟩) (by simp only [lite_cons, lite_nil] <;> rfl) fun all hall K hK => ?_
    clear hall
    refine vcL_split 1 fun K' hK' => ?_
    simp (maxSteps := 1000000) (disch := first | omega | assumption)
    repeat' refine And.intro ?_ ?_
    all_goals first | omega | exact rfl | skip
    refine hK' _ ?_
    clear hK' K'
    simp only [List.drop_succ_cons, List.drop_zero]
    refine vcL_step fun K' hK' => ?_
    simp (maxSteps := 1000000) (disch := first | omega | assumption)
    refine Ct.mono (Ct.of_le (few_fn l 30 _ ha (by omega)) (by first | exact leArgs_of rfl | (refine leArgs_of ?_; simp; done) | (refine leArgs_of ?_; simp; rfl) | (simp [leArgs, leArg]; done)) rfl) ?_
    rintro _ _ ⟨rfl, rfl⟩
    refine hK' _ ?_
    clear hK' K'
    refine vcL_split 1 fun K' hK' => ?_
    simp (maxSteps := 1000000) (disch := first | omega | assumption)
    repeat' refine And.intro ?_ ?_
    all_goals first | omega | exact rfl | skip
    refine hK' _ ?_
    clear hK' K'
    simp only [List.drop_succ_cons, List.drop_zero]
    refine vcL_step fun K' hK' => ?_
    simp (maxSteps := 1000000) (disch := first | omega | assumption)
    refine Ct.mono (Ct.of_le (cut_fn _ 20 _ (by omega)) (by first | exact leArgs_of rfl | (refine leArgs_of ?_; simp; done) | (refine leArgs_of ?_; simp; rfl) | (simp [leArgs, leArg]; done)) rfl) ?_
    rintro _ _ ⟨rfl, rfl⟩
    refine hK' _ ?_
    clear hK' K'
    simp (maxSteps := 1000000) (disch := first | omega | assumption)
    repeat' refine And.intro ?_ ?_
    all_goals first | omega | exact rfl | skip
    refine hK _ ?_
    clear hK K
    clear all
    refine q_then_n ?_
    refine awp_seq ?_
    refine awp_regionA (c := ⟨[5, 19], [], [], []⟩) (by simp only [lite_cons, lite_nil] <;> rfl) fun all hall K hK => ?_
    clear hall
    simp (maxSteps := 1000000) (disch := first | omega | assumption)
    repeat' refine And.intro ?_ ?_
    all_goals first | omega | exact rfl | skip
    refine hK _ ?_
    clear hK K
    clear all
    refine q_then_n ?_
    refine awp_seq ?_
    refine awp_seq ?_
    refine awp_keep [0, 1, 4, 5] (by simp only [keepL_nil, keepL_cons, envOf_sel, envOf_nil, sel_t, sel_f, Nat.reduceBEq] <;> rfl) ?_
    refine awp_regionA (c := ⟨[5, 19], [], [], []⟩) (by simp only [lite_cons, lite_nil] <;> rfl) fun all hall K hK => ?_
    clear hall
    refine vcL_split 2 fun K' hK' => ?_
    simp (maxSteps := 1000000) (disch := first | omega | assumption)
    repeat' refine And.intro ?_ ?_
    all_goals first | omega | exact rfl | skip
    refine hK' _ ?_
    clear hK' K'
    simp only [List.drop_succ_cons, List.drop_zero]
    refine vcL_step fun K' hK' => ?_
    simp (maxSteps := 1000000) (disch := first | omega | assumption)
    refine Ct.mono (Ct.of_le (has_fn (few l 30) _ _ (by omega)) (by first | exact leArgs_of rfl | (refine leArgs_of ?_; simp; done) | (refine leArgs_of ?_; simp; rfl) | (simp [leArgs, leArg]; done)) rfl) ?_
    rintro _ _ ⟨rfl, rfl⟩
    refine hK' _ ?_
    clear hK' K'
    simp (maxSteps := 1000000) (disch := first | omega | assumption)
    repeat' refine And.intro ?_ ?_
    all_goals first | omega | exact rfl | skip
    refine hK _ ?_
    clear hK K
    clear all
    refine q_then_n ?_
    refine awp_ifB (by simp <;> rfl) ?_
    refine ⟨fun c2 => ?_, fun c2 => ?_⟩
    · try simp at c2
      refine awp_regionA (c := ⟨[5, 19], [], [], []⟩) (by simp only [lite_cons, lite_nil] <;> rfl) fun all hall K hK => ?_
      clear hall
      simp (maxSteps := 1000000) (disch := first | omega | assumption)
      repeat' refine And.intro ?_ ?_
      all_goals first | omega | exact rfl | skip
      refine hK _ ?_
      clear hK K
      clear all
      refine q_then_n ?_
      refine awp_seq ?_
      refine awp_keep [0, 1, 4, 5] (by simp only [keepL_nil, keepL_cons, envOf_sel, envOf_nil, sel_t, sel_f, Nat.reduceBEq] <;> rfl) ?_
      refine awp_regionA (c := ⟨[5, 19], [], [], []⟩) (by simp only [lite_cons, lite_nil] <;> rfl) fun all hall K hK => ?_
      have ga5 : guardOf all 5 = some 28 := hall 5
      have ga14 : guardOf all 14 = some 37 := hall 14
      have ga21 : guardOf all 21 = some 44 := hall 21
      have ga30 : guardOf all 30 = some 53 := hall 30
      clear hall
      refine vcL_split 1 fun K' hK' => ?_
      simp (maxSteps := 1000000) (disch := first | omega | assumption) [ga5, ga14, ga21, ga30]
      repeat' refine And.intro ?_ ?_
      all_goals first | omega | exact rfl | skip
      refine hK' _ ?_
      clear hK' K'
      simp only [List.drop_succ_cons, List.drop_zero]
      refine vcL_step fun K' hK' => ?_
      simp (maxSteps := 1000000) (disch := first | omega | assumption) [ga5, ga14, ga21, ga30]
      refine Ct.mono (Ct.of_le (clean_fn (few l 30) _ (by omega)) (by first | exact leArgs_of rfl | (refine leArgs_of ?_; simp; done) | (refine leArgs_of ?_; simp; rfl) | (simp [leArgs, leArg]; done)) rfl) ?_
      rintro _ _ ⟨rfl, rfl⟩
      refine hK' _ ?_
      clear hK' K'
      refine vcL_split 1 fun K' hK' => ?_
      simp (maxSteps := 1000000) (disch := first | omega | assumption) [ga5, ga14, ga21, ga30]
      repeat' refine And.intro ?_ ?_
      all_goals first | omega | exact rfl | skip
      refine hK' _ ?_
      clear hK' K'
      simp only [List.drop_succ_cons, List.drop_zero]
      refine vcL_step fun K' hK' => ?_
      simp (maxSteps := 1000000) (disch := first | omega | assumption) [ga5, ga14, ga21, ga30]
      refine Ct.mono (Ct.of_le (rclean_fn (few l 30) _ (by omega)) (by first | exact leArgs_of rfl | (refine leArgs_of ?_; simp; done) | (refine leArgs_of ?_; simp; rfl) | (simp [leArgs, leArg]; done)) rfl) ?_
      rintro _ _ ⟨rfl, rfl⟩
      refine hK' _ ?_
      clear hK' K'
      refine vcL_step fun K' hK' => ?_
      simp (maxSteps := 1000000) (disch := first | omega | assumption) [ga5, ga14, ga21, ga30]
      refine Ct.mono (Ct.of_le (same_fn (clean (few l 30)) (clean (few l 30)) _ (by omega) (by omega)) (by first | exact leArgs_of rfl | (refine leArgs_of ?_; simp; done) | (refine leArgs_of ?_; simp; rfl) | (simp [leArgs, leArg]; done)) rfl) ?_
      rintro _ _ ⟨rfl, rfl⟩
      refine hK' _ ?_
      clear hK' K'
      refine vcL_split 1 fun K' hK' => ?_
      simp (maxSteps := 1000000) (disch := first | omega | assumption) [ga5, ga14, ga21, ga30]
      repeat' refine And.intro ?_ ?_
      all_goals first | omega | exact rfl | skip
      refine hK' _ ?_
      clear hK' K'
      simp only [List.drop_succ_cons, List.drop_zero]
      refine vcL_bool 28 (by simp <;> rfl) ?_
      refine ⟨fun g3 => ?_, fun g3 => ?_⟩
      · try simp at g3
        refine vcL_split 2 fun K' hK' => ?_
        simp (maxSteps := 1000000) (disch := first | omega | assumption) [ga5, ga14, ga21, ga30]
        repeat' refine And.intro ?_ ?_
        all_goals first | omega | exact rfl | skip
        refine hK' _ ?_
        clear hK' K'
        simp only [List.drop_succ_cons, List.drop_zero]
        refine vcL_gt ga5 (by simp <;> rfl) rfl fun K' hK' => ?_
        simp (maxSteps := 1000000) (disch := first | omega | assumption) [ga5, ga14, ga21, ga30]
        refine Ct.mono (Ct.of_le (chas_fn (few l 30) _ _ (by omega)) (by first | exact leArgs_of rfl | (refine leArgs_of ?_; simp; done) | (refine leArgs_of ?_; simp; rfl) | (simp [leArgs, leArg]; done)) rfl) ?_
        rintro _ _ ⟨rfl, rfl⟩
        refine hK' _ ?_
        clear hK' K'
        refine vcL_split 2 fun K' hK' => ?_
        simp (maxSteps := 1000000) (disch := first | omega | assumption) [ga5, ga14, ga21, ga30]
        repeat' refine And.intro ?_ ?_
        all_goals first | omega | exact rfl | skip
        refine hK' _ ?_
        clear hK' K'
        simp only [List.drop_succ_cons, List.drop_zero]
        refine vcL_gt ga5 (by simp <;> rfl) rfl fun K' hK' => ?_
        simp (maxSteps := 1000000) (disch := first | omega | assumption) [ga5, ga14, ga21, ga30]
        refine Ct.mono (Ct.of_le (has_fn (few l 30) _ _ (by omega)) (by first | exact leArgs_of rfl | (refine leArgs_of ?_; simp; done) | (refine leArgs_of ?_; simp; rfl) | (simp [leArgs, leArg]; done)) rfl) ?_
        rintro _ _ ⟨rfl, rfl⟩
        refine hK' _ ?_
        clear hK' K'
        refine vcL_split 3 fun K' hK' => ?_
        simp (maxSteps := 1000000) (disch := first | omega | assumption) [ga5, ga14, ga21, ga30]
        repeat' refine And.intro ?_ ?_
        all_goals first | omega | exact rfl | skip
        refine hK' _ ?_
        clear hK' K'
        simp only [List.drop_succ_cons, List.drop_zero]
        refine vcL_bool 37 (by simp <;> rfl) ?_
        refine ⟨fun g4 => ?_, fun g4 => ?_⟩
        · try simp at g4
          refine vcL_split 2 fun K' hK' => ?_
          simp (maxSteps := 1000000) (disch := first | omega | assumption) [ga5, ga14, ga21, ga30]
          repeat' refine And.intro ?_ ?_
          all_goals first | omega | exact rfl | skip
          refine hK' _ ?_
          clear hK' K'
          simp only [List.drop_succ_cons, List.drop_zero]
          refine vcL_gt ga14 (by simp <;> rfl) rfl fun K' hK' => ?_
          simp (maxSteps := 1000000) (disch := first | omega | assumption) [ga5, ga14, ga21, ga30]
          refine Ct.mono (Ct.of_le (add_fn (few l 30) _ _ (by omega)) (by first | exact leArgs_of rfl | (refine leArgs_of ?_; simp; done) | (refine leArgs_of ?_; simp; rfl) | (simp [leArgs, leArg]; done)) rfl) ?_
          rintro _ _ ⟨rfl, rfl⟩
          refine hK' _ ?_
          clear hK' K'
          refine vcL_split 1 fun K' hK' => ?_
          simp (maxSteps := 1000000) (disch := first | omega | assumption) [ga5, ga14, ga21, ga30]
          repeat' refine And.intro ?_ ?_
          all_goals first | omega | exact rfl | skip
          refine hK' _ ?_
          clear hK' K'
          simp only [List.drop_succ_cons, List.drop_zero]
          refine vcL_gt ga14 (by simp <;> rfl) rfl fun K' hK' => ?_
          simp (maxSteps := 1000000) (disch := first | omega | assumption) [ga5, ga14, ga21, ga30]
          refine Ct.mono (Ct.of_le (same_fn (addL (few l 30) (cutB 20 c)) (addL (few l 30) (cutB 20 c)) _ (by omega) (by omega)) (by first | exact leArgs_of rfl | (refine leArgs_of ?_; simp; done) | (refine leArgs_of ?_; simp; rfl) | (simp [leArgs, leArg]; done) | (refine leArgs_of ?_; simp [addL, c2]; done)) rfl) ?_
          rintro _ _ ⟨rfl, rfl⟩
          refine hK' _ ?_
          clear hK' K'
          refine vcL_split 2 fun K' hK' => ?_
          simp (maxSteps := 1000000) (disch := first | omega | assumption) [ga5, ga14, ga21, ga30]
          repeat' refine And.intro ?_ ?_
          all_goals first | omega | exact rfl | skip
          refine hK' _ ?_
          clear hK' K'
          simp only [List.drop_succ_cons, List.drop_zero]
          refine vcL_bool 44 (by simp <;> rfl) ?_
          refine ⟨fun g5 => ?_, fun g5 => ?_⟩
          · try simp at g5
            refine vcL_split 2 fun K' hK' => ?_
            simp (maxSteps := 1000000) (disch := first | omega | assumption) [ga5, ga14, ga21, ga30]
            repeat' refine And.intro ?_ ?_
            all_goals first | omega | exact rfl | skip
            refine hK' _ ?_
            clear hK' K'
            simp only [List.drop_succ_cons, List.drop_zero]
            refine vcL_gt ga21 (by simp <;> rfl) rfl fun K' hK' => ?_
            simp (maxSteps := 1000000) (disch := first | omega | assumption) [ga5, ga14, ga21, ga30]
            refine Ct.mono (Ct.of_le (cdrop_fn (few l 30) (cutB 20 c) _ (by omega)) (by first | exact leArgs_of rfl | (refine leArgs_of ?_; simp; done) | (refine leArgs_of ?_; simp; rfl) | (simp [leArgs, leArg]; done)) rfl) ?_
            rintro _ _ ⟨rfl, rfl⟩
            refine hK' _ ?_
            clear hK' K'
            refine vcL_split 2 fun K' hK' => ?_
            simp (maxSteps := 1000000) (disch := first | omega | assumption) [ga5, ga14, ga21, ga30]
            repeat' refine And.intro ?_ ?_
            all_goals first | omega | exact rfl | skip
            refine hK' _ ?_
            clear hK' K'
            simp only [List.drop_succ_cons, List.drop_zero]
            refine vcL_gt ga21 (by simp <;> rfl) rfl fun K' hK' => ?_
            simp (maxSteps := 1000000) (disch := first | omega | assumption) [ga5, ga14, ga21, ga30]
            refine Ct.mono (Ct.of_le (rdrop_fn (few l 30) (cutB 20 c) _ (by omega)) (by first | exact leArgs_of rfl | (refine leArgs_of ?_; simp; done) | (refine leArgs_of ?_; simp; rfl) | (simp [leArgs, leArg]; done)) rfl) ?_
            rintro _ _ ⟨rfl, rfl⟩
            refine hK' _ ?_
            clear hK' K'
            refine vcL_gt ga21 (by simp <;> rfl) rfl fun K' hK' => ?_
            simp (maxSteps := 1000000) (disch := first | omega | assumption) [ga5, ga14, ga21, ga30]
            refine Ct.mono (Ct.of_le (same_fn (dropL (few l 30) (cutB 20 c)) (dropL (few l 30) (cutB 20 c)) _ (by omega) (by omega)) (by first | exact leArgs_of rfl | (refine leArgs_of ?_; simp; done) | (refine leArgs_of ?_; simp; rfl) | (simp [leArgs, leArg]; done)) rfl) ?_
            rintro _ _ ⟨rfl, rfl⟩
            refine hK' _ ?_
            clear hK' K'
            refine vcL_split 2 fun K' hK' => ?_
            simp (maxSteps := 1000000) (disch := first | omega | assumption) [ga5, ga14, ga21, ga30]
            repeat' refine And.intro ?_ ?_
            all_goals first | omega | exact rfl | skip
            refine hK' _ ?_
            clear hK' K'
            simp only [List.drop_succ_cons, List.drop_zero]
            refine vcL_bool 53 (by simp <;> rfl) ?_
            refine ⟨fun g6 => ?_, fun g6 => ?_⟩
            · try simp at g6
              refine vcL_split 1 fun K' hK' => ?_
              simp (maxSteps := 1000000) (disch := first | omega | assumption) [ga5, ga14, ga21, ga30]
              repeat' refine And.intro ?_ ?_
              all_goals first | omega | exact rfl | skip
              refine hK' _ ?_
              clear hK' K'
              simp only [List.drop_succ_cons, List.drop_zero]
              refine vcL_gt ga30 (by simp <;> rfl) rfl fun K' hK' => ?_
              simp (maxSteps := 1000000) (disch := first | omega | assumption) [ga5, ga14, ga21, ga30]
              refine Ct.mono (Ct.of_le (cmine_fn (few l 30) _ (by omega)) (by first | exact leArgs_of rfl | (refine leArgs_of ?_; simp; done) | (refine leArgs_of ?_; simp; rfl) | (simp [leArgs, leArg]; done)) rfl) ?_
              rintro _ _ ⟨rfl, rfl⟩
              refine hK' _ ?_
              clear hK' K'
              refine vcL_split 1 fun K' hK' => ?_
              simp (maxSteps := 1000000) (disch := first | omega | assumption) [ga5, ga14, ga21, ga30]
              repeat' refine And.intro ?_ ?_
              all_goals first | omega | exact rfl | skip
              refine hK' _ ?_
              clear hK' K'
              simp only [List.drop_succ_cons, List.drop_zero]
              refine vcL_gt ga30 (by simp <;> rfl) rfl fun K' hK' => ?_
              simp (maxSteps := 1000000) (disch := first | omega | assumption) [ga5, ga14, ga21, ga30]
              refine Ct.mono (Ct.of_le (rmine_fn (few l 30) _ (by omega)) (by first | exact leArgs_of rfl | (refine leArgs_of ?_; simp; done) | (refine leArgs_of ?_; simp; rfl) | (simp [leArgs, leArg]; done)) rfl) ?_
              rintro _ _ ⟨rfl, rfl⟩
              refine hK' _ ?_
              clear hK' K'
              refine vcL_gt ga30 (by simp <;> rfl) rfl fun K' hK' => ?_
              simp (maxSteps := 1000000) (disch := first | omega | assumption) [ga5, ga14, ga21, ga30]
              refine Ct.mono (Ct.of_le (same_fn (mineL (few l 30)) (mineL (few l 30)) _ (by omega) (by omega)) (by first | exact leArgs_of rfl | (refine leArgs_of ?_; simp; done) | (refine leArgs_of ?_; simp; rfl) | (simp [leArgs, leArg]; done)) rfl) ?_
              rintro _ _ ⟨rfl, rfl⟩
              refine hK' _ ?_
              clear hK' K'
              simp (maxSteps := 1000000) (disch := first | omega | assumption) [ga5, ga14, ga21, ga30]
              repeat' refine And.intro ?_ ?_
              all_goals first | omega | exact rfl | skip
              refine hK _ ?_
              clear hK K
              clear ga5 ga14 ga21 ga30
              clear all
              refine q_then_n ?_
              refine awp_ret ?_
              simp [endQ]
            · simp at g6
          · simp at g5
        · simp at g4
      · simp at g3
    · try simp at c2
      refine awp_skip ?_
      refine q_then_n ?_
      refine awp_seq ?_
      refine awp_keep [0, 1, 4, 5] (by simp only [keepL_nil, keepL_cons, envOf_sel, envOf_nil, sel_t, sel_f, Nat.reduceBEq] <;> rfl) ?_
      refine awp_regionA (c := ⟨[5, 19], [], [], []⟩) (by simp only [lite_cons, lite_nil] <;> rfl) fun all hall K hK => ?_
      have ga5 : guardOf all 5 = some 28 := hall 5
      have ga14 : guardOf all 14 = some 37 := hall 14
      have ga21 : guardOf all 21 = some 44 := hall 21
      have ga30 : guardOf all 30 = some 53 := hall 30
      clear hall
      refine vcL_split 1 fun K' hK' => ?_
      simp (maxSteps := 1000000) (disch := first | omega | assumption) [ga5, ga14, ga21, ga30]
      repeat' refine And.intro ?_ ?_
      all_goals first | omega | exact rfl | skip
      refine hK' _ ?_
      clear hK' K'
      simp only [List.drop_succ_cons, List.drop_zero]
      refine vcL_step fun K' hK' => ?_
      simp (maxSteps := 1000000) (disch := first | omega | assumption) [ga5, ga14, ga21, ga30]
      refine Ct.mono (Ct.of_le (clean_fn (few l 30) _ (by omega)) (by first | exact leArgs_of rfl | (refine leArgs_of ?_; simp; done) | (refine leArgs_of ?_; simp; rfl) | (simp [leArgs, leArg]; done)) rfl) ?_
      rintro _ _ ⟨rfl, rfl⟩
      refine hK' _ ?_
      clear hK' K'
      refine vcL_split 1 fun K' hK' => ?_
      simp (maxSteps := 1000000) (disch := first | omega | assumption) [ga5, ga14, ga21, ga30]
      repeat' refine And.intro ?_ ?_
      all_goals first | omega | exact rfl | skip
      refine hK' _ ?_
      clear hK' K'
      simp only [List.drop_succ_cons, List.drop_zero]
      refine vcL_step fun K' hK' => ?_
      simp (maxSteps := 1000000) (disch := first | omega | assumption) [ga5, ga14, ga21, ga30]
      refine Ct.mono (Ct.of_le (rclean_fn (few l 30) _ (by omega)) (by first | exact leArgs_of rfl | (refine leArgs_of ?_; simp; done) | (refine leArgs_of ?_; simp; rfl) | (simp [leArgs, leArg]; done)) rfl) ?_
      rintro _ _ ⟨rfl, rfl⟩
      refine hK' _ ?_
      clear hK' K'
      refine vcL_step fun K' hK' => ?_
      simp (maxSteps := 1000000) (disch := first | omega | assumption) [ga5, ga14, ga21, ga30]
      refine Ct.mono (Ct.of_le (same_fn (clean (few l 30)) (clean (few l 30)) _ (by omega) (by omega)) (by first | exact leArgs_of rfl | (refine leArgs_of ?_; simp; done) | (refine leArgs_of ?_; simp; rfl) | (simp [leArgs, leArg]; done)) rfl) ?_
      rintro _ _ ⟨rfl, rfl⟩
      refine hK' _ ?_
      clear hK' K'
      refine vcL_split 1 fun K' hK' => ?_
      simp (maxSteps := 1000000) (disch := first | omega | assumption) [ga5, ga14, ga21, ga30]
      repeat' refine And.intro ?_ ?_
      all_goals first | omega | exact rfl | skip
      refine hK' _ ?_
      clear hK' K'
      simp only [List.drop_succ_cons, List.drop_zero]
      refine vcL_bool 28 (by simp <;> rfl) ?_
      refine ⟨fun g7 => ?_, fun g7 => ?_⟩
      · try simp at g7
        refine vcL_split 2 fun K' hK' => ?_
        simp (maxSteps := 1000000) (disch := first | omega | assumption) [ga5, ga14, ga21, ga30]
        repeat' refine And.intro ?_ ?_
        all_goals first | omega | exact rfl | skip
        refine hK' _ ?_
        clear hK' K'
        simp only [List.drop_succ_cons, List.drop_zero]
        refine vcL_gt ga5 (by simp <;> rfl) rfl fun K' hK' => ?_
        simp (maxSteps := 1000000) (disch := first | omega | assumption) [ga5, ga14, ga21, ga30]
        refine Ct.mono (Ct.of_le (chas_fn (few l 30) _ _ (by omega)) (by first | exact leArgs_of rfl | (refine leArgs_of ?_; simp; done) | (refine leArgs_of ?_; simp; rfl) | (simp [leArgs, leArg]; done)) rfl) ?_
        rintro _ _ ⟨rfl, rfl⟩
        refine hK' _ ?_
        clear hK' K'
        refine vcL_split 2 fun K' hK' => ?_
        simp (maxSteps := 1000000) (disch := first | omega | assumption) [ga5, ga14, ga21, ga30]
        repeat' refine And.intro ?_ ?_
        all_goals first | omega | exact rfl | skip
        refine hK' _ ?_
        clear hK' K'
        simp only [List.drop_succ_cons, List.drop_zero]
        refine vcL_gt ga5 (by simp <;> rfl) rfl fun K' hK' => ?_
        simp (maxSteps := 1000000) (disch := first | omega | assumption) [ga5, ga14, ga21, ga30]
        refine Ct.mono (Ct.of_le (has_fn (few l 30) _ _ (by omega)) (by first | exact leArgs_of rfl | (refine leArgs_of ?_; simp; done) | (refine leArgs_of ?_; simp; rfl) | (simp [leArgs, leArg]; done)) rfl) ?_
        rintro _ _ ⟨rfl, rfl⟩
        refine hK' _ ?_
        clear hK' K'
        refine vcL_split 3 fun K' hK' => ?_
        simp (maxSteps := 1000000) (disch := first | omega | assumption) [ga5, ga14, ga21, ga30]
        repeat' refine And.intro ?_ ?_
        all_goals first | omega | exact rfl | skip
        refine hK' _ ?_
        clear hK' K'
        simp only [List.drop_succ_cons, List.drop_zero]
        refine vcL_bool 37 (by simp <;> rfl) ?_
        refine ⟨fun g8 => ?_, fun g8 => ?_⟩
        · try simp at g8
          refine vcL_split 2 fun K' hK' => ?_
          simp (maxSteps := 1000000) (disch := first | omega | assumption) [ga5, ga14, ga21, ga30]
          repeat' refine And.intro ?_ ?_
          all_goals first | omega | exact rfl | skip
          refine hK' _ ?_
          clear hK' K'
          simp only [List.drop_succ_cons, List.drop_zero]
          refine vcL_gt ga14 (by simp <;> rfl) rfl fun K' hK' => ?_
          simp (maxSteps := 1000000) (disch := first | omega | assumption) [ga5, ga14, ga21, ga30]
          refine Ct.mono (Ct.of_le (add_fn (few l 30) _ _ (by omega)) (by first | exact leArgs_of rfl | (refine leArgs_of ?_; simp; done) | (refine leArgs_of ?_; simp; rfl) | (simp [leArgs, leArg]; done)) rfl) ?_
          rintro _ _ ⟨rfl, rfl⟩
          refine hK' _ ?_
          clear hK' K'
          refine vcL_split 1 fun K' hK' => ?_
          simp (maxSteps := 1000000) (disch := first | omega | assumption) [ga5, ga14, ga21, ga30]
          repeat' refine And.intro ?_ ?_
          all_goals first | omega | exact rfl | skip
          refine hK' _ ?_
          clear hK' K'
          simp only [List.drop_succ_cons, List.drop_zero]
          refine vcL_gt ga14 (by simp <;> rfl) rfl fun K' hK' => ?_
          simp (maxSteps := 1000000) (disch := first | omega | assumption) [ga5, ga14, ga21, ga30]
          refine Ct.mono (Ct.of_le (same_fn (addL (few l 30) (cutB 20 c)) (addL (few l 30) (cutB 20 c)) _ (by omega) (by omega)) (by first | exact leArgs_of rfl | (refine leArgs_of ?_; simp; done) | (refine leArgs_of ?_; simp; rfl) | (simp [leArgs, leArg]; done) | (refine leArgs_of ?_; simp [addL, c2]; done)) rfl) ?_
          rintro _ _ ⟨rfl, rfl⟩
          refine hK' _ ?_
          clear hK' K'
          refine vcL_split 2 fun K' hK' => ?_
          simp (maxSteps := 1000000) (disch := first | omega | assumption) [ga5, ga14, ga21, ga30]
          repeat' refine And.intro ?_ ?_
          all_goals first | omega | exact rfl | skip
          refine hK' _ ?_
          clear hK' K'
          simp only [List.drop_succ_cons, List.drop_zero]
          refine vcL_bool 44 (by simp <;> rfl) ?_
          refine ⟨fun g9 => ?_, fun g9 => ?_⟩
          · try simp at g9
            refine vcL_split 2 fun K' hK' => ?_
            simp (maxSteps := 1000000) (disch := first | omega | assumption) [ga5, ga14, ga21, ga30]
            repeat' refine And.intro ?_ ?_
            all_goals first | omega | exact rfl | skip
            refine hK' _ ?_
            clear hK' K'
            simp only [List.drop_succ_cons, List.drop_zero]
            refine vcL_gt ga21 (by simp <;> rfl) rfl fun K' hK' => ?_
            simp (maxSteps := 1000000) (disch := first | omega | assumption) [ga5, ga14, ga21, ga30]
            refine Ct.mono (Ct.of_le (cdrop_fn (few l 30) (cutB 20 c) _ (by omega)) (by first | exact leArgs_of rfl | (refine leArgs_of ?_; simp; done) | (refine leArgs_of ?_; simp; rfl) | (simp [leArgs, leArg]; done)) rfl) ?_
            rintro _ _ ⟨rfl, rfl⟩
            refine hK' _ ?_
            clear hK' K'
            refine vcL_split 2 fun K' hK' => ?_
            simp (maxSteps := 1000000) (disch := first | omega | assumption) [ga5, ga14, ga21, ga30]
            repeat' refine And.intro ?_ ?_
            all_goals first | omega | exact rfl | skip
            refine hK' _ ?_
            clear hK' K'
            simp only [List.drop_succ_cons, List.drop_zero]
            refine vcL_gt ga21 (by simp <;> rfl) rfl fun K' hK' => ?_
            simp (maxSteps := 1000000) (disch := first | omega | assumption) [ga5, ga14, ga21, ga30]
            refine Ct.mono (Ct.of_le (rdrop_fn (few l 30) (cutB 20 c) _ (by omega)) (by first | exact leArgs_of rfl | (refine leArgs_of ?_; simp; done) | (refine leArgs_of ?_; simp; rfl) | (simp [leArgs, leArg]; done)) rfl) ?_
            rintro _ _ ⟨rfl, rfl⟩
            refine hK' _ ?_
            clear hK' K'
            refine vcL_gt ga21 (by simp <;> rfl) rfl fun K' hK' => ?_
            simp (maxSteps := 1000000) (disch := first | omega | assumption) [ga5, ga14, ga21, ga30]
            refine Ct.mono (Ct.of_le (same_fn (dropL (few l 30) (cutB 20 c)) (dropL (few l 30) (cutB 20 c)) _ (by omega) (by omega)) (by first | exact leArgs_of rfl | (refine leArgs_of ?_; simp; done) | (refine leArgs_of ?_; simp; rfl) | (simp [leArgs, leArg]; done)) rfl) ?_
            rintro _ _ ⟨rfl, rfl⟩
            refine hK' _ ?_
            clear hK' K'
            refine vcL_split 2 fun K' hK' => ?_
            simp (maxSteps := 1000000) (disch := first | omega | assumption) [ga5, ga14, ga21, ga30]
            repeat' refine And.intro ?_ ?_
            all_goals first | omega | exact rfl | skip
            refine hK' _ ?_
            clear hK' K'
            simp only [List.drop_succ_cons, List.drop_zero]
            refine vcL_bool 53 (by simp <;> rfl) ?_
            refine ⟨fun g10 => ?_, fun g10 => ?_⟩
            · try simp at g10
              refine vcL_split 1 fun K' hK' => ?_
              simp (maxSteps := 1000000) (disch := first | omega | assumption) [ga5, ga14, ga21, ga30]
              repeat' refine And.intro ?_ ?_
              all_goals first | omega | exact rfl | skip
              refine hK' _ ?_
              clear hK' K'
              simp only [List.drop_succ_cons, List.drop_zero]
              refine vcL_gt ga30 (by simp <;> rfl) rfl fun K' hK' => ?_
              simp (maxSteps := 1000000) (disch := first | omega | assumption) [ga5, ga14, ga21, ga30]
              refine Ct.mono (Ct.of_le (cmine_fn (few l 30) _ (by omega)) (by first | exact leArgs_of rfl | (refine leArgs_of ?_; simp; done) | (refine leArgs_of ?_; simp; rfl) | (simp [leArgs, leArg]; done)) rfl) ?_
              rintro _ _ ⟨rfl, rfl⟩
              refine hK' _ ?_
              clear hK' K'
              refine vcL_split 1 fun K' hK' => ?_
              simp (maxSteps := 1000000) (disch := first | omega | assumption) [ga5, ga14, ga21, ga30]
              repeat' refine And.intro ?_ ?_
              all_goals first | omega | exact rfl | skip
              refine hK' _ ?_
              clear hK' K'
              simp only [List.drop_succ_cons, List.drop_zero]
              refine vcL_gt ga30 (by simp <;> rfl) rfl fun K' hK' => ?_
              simp (maxSteps := 1000000) (disch := first | omega | assumption) [ga5, ga14, ga21, ga30]
              refine Ct.mono (Ct.of_le (rmine_fn (few l 30) _ (by omega)) (by first | exact leArgs_of rfl | (refine leArgs_of ?_; simp; done) | (refine leArgs_of ?_; simp; rfl) | (simp [leArgs, leArg]; done)) rfl) ?_
              rintro _ _ ⟨rfl, rfl⟩
              refine hK' _ ?_
              clear hK' K'
              refine vcL_gt ga30 (by simp <;> rfl) rfl fun K' hK' => ?_
              simp (maxSteps := 1000000) (disch := first | omega | assumption) [ga5, ga14, ga21, ga30]
              refine Ct.mono (Ct.of_le (same_fn (mineL (few l 30)) (mineL (few l 30)) _ (by omega) (by omega)) (by first | exact leArgs_of rfl | (refine leArgs_of ?_; simp; done) | (refine leArgs_of ?_; simp; rfl) | (simp [leArgs, leArg]; done)) rfl) ?_
              rintro _ _ ⟨rfl, rfl⟩
              refine hK' _ ?_
              clear hK' K'
              simp (maxSteps := 1000000) (disch := first | omega | assumption) [ga5, ga14, ga21, ga30]
              repeat' refine And.intro ?_ ?_
              all_goals first | omega | exact rfl | skip
              refine hK _ ?_
              clear hK K
              clear ga5 ga14 ga21 ga30
              clear all
              refine q_then_n ?_
              refine awp_ret ?_
              simp [endQ]
            · simp at g10
          · simp at g9
        · simp at g8
      · simp at g7

end Go.Proofs.Ythieajadepfeoaa

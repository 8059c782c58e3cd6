/- Walks: contracts of functions. Written by a program of ours out of annotations. -/
import Derived.Test.YthieajadepfeoaaWkTurns
namespace Go.Proofs.Ythieajadepfeoaa
open Go Go.Vm
set_option maxRecDepth 20000
set_option linter.all false
set_option maxHeartbeats 8000000

-- scrim/scrimlaw03.ClassesTurns
theorem lawTurns_fn (a b : Ls) (σ : List (List D)) (ha : a.length ≤ 9223372036854775807) (hb : b.length ≤ 9223372036854775807) : Ct Try.prog 8 [dl a, dl b] σ (fun r σ' => r = .bool true ∧ σ' = σ) := by
  have hfa := few_len a 15
  have hfb := few_len b 15
  have htl := turn_len (few a 15) (few b 15)
  have hca := clean_len (few a 15)
  have hcb := clean_len (few b 15)
  refine fn_start (rs := [.tmp 4]) Try.func8 rfl rfl Try.ntmps8 Try.results8 (by simp) ?_
  simp only [argEnv]
  refine awp_seq ?_
  refine awp_regionA (c := ⟨[], [], [], []⟩) (by simp only [lite_cons, lite_nil] <;> rfl) fun all hall K hK => ?_
  clear hall
  simp (maxSteps := 1000000) (disch := first | omega | assumption)
  repeat' refine And.intro ?_ ?_
  all_goals first | omega | exact rfl | skip
  refine hK _ ?_
  clear hK K
  clear all
  refine q_then_n ?_
  refine awp_seq ?_
  refine awp_seq ?_
  refine awp_regionA (c := ⟨[], [], [], []⟩) (by simp only [lite_cons, lite_nil] <;> rfl) fun all hall K hK => ?_
  clear hall
  refine vcL_step fun K' hK' => ?_
  simp (maxSteps := 1000000) (disch := first | omega | assumption)
  refine Ct.mono (Ct.of_le (awake_fn _) (by first | exact leArgs_of rfl | (refine leArgs_of ?_; simp; done) | (refine leArgs_of ?_; simp; rfl) | (simp [leArgs, leArg]; done)) rfl) ?_
  rintro _ _ ⟨rfl, rfl⟩
  refine hK' _ ?_
  clear hK' K'
  simp (maxSteps := 1000000) (disch := first | omega | assumption)
  repeat' refine And.intro ?_ ?_
  all_goals first | omega | exact rfl | skip
  refine hK _ ?_
  clear hK K
  clear all
  refine q_then_n ?_
  refine awp_ifB (by simp <;> rfl) ?_
  refine ⟨fun c1 => ?_, fun c1 => ?_⟩
  · simp at c1
  · try simp at c1
    refine awp_skip ?_
    refine q_then_n ?_
    refine awp_seq ?_
    refine awp_regionA (c := ⟨[], [], [], []⟩) (by simp only [lite_cons, lite_nil] <;> rfl) fun all hall K hK => ?_
    clear hall
    refine vcL_split 1 fun K' hK' => ?_
    simp (maxSteps := 1000000) (disch := first | omega | assumption)
    repeat' refine And.intro ?_ ?_
    all_goals first | omega | exact rfl | skip
    refine hK' _ ?_
    clear hK' K'
    simp only [List.drop_succ_cons, List.drop_zero]
    refine vcL_step fun K' hK' => ?_
    simp (maxSteps := 1000000) (disch := first | omega | assumption)
    refine Ct.mono (Ct.of_le (few_fn a 15 _ ha (by omega)) (by first | exact leArgs_of rfl | (refine leArgs_of ?_; simp; done) | (refine leArgs_of ?_; simp; rfl) | (simp [leArgs, leArg]; done)) rfl) ?_
    rintro _ _ ⟨rfl, rfl⟩
    refine hK' _ ?_
    clear hK' K'
    refine vcL_split 1 fun K' hK' => ?_
    simp (maxSteps := 1000000) (disch := first | omega | assumption)
    repeat' refine And.intro ?_ ?_
    all_goals first | omega | exact rfl | skip
    refine hK' _ ?_
    clear hK' K'
    simp only [List.drop_succ_cons, List.drop_zero]
    refine vcL_step fun K' hK' => ?_
    simp (maxSteps := 1000000) (disch := first | omega | assumption)
    refine Ct.mono (Ct.of_le (few_fn b 15 _ hb (by omega)) (by first | exact leArgs_of rfl | (refine leArgs_of ?_; simp; done) | (refine leArgs_of ?_; simp; rfl) | (simp [leArgs, leArg]; done)) rfl) ?_
    rintro _ _ ⟨rfl, rfl⟩
    refine hK' _ ?_
    clear hK' K'
    simp (maxSteps := 1000000) (disch := first | omega | assumption)
    repeat' refine And.intro ?_ ?_
    all_goals first | omega | exact rfl | skip
    refine hK _ ?_
    clear hK K
    clear all
    refine q_then_n ?_
    refine awp_seq ?_
    refine awp_regionA (c := ⟨[], [], [], []⟩) (by simp only [lite_cons, lite_nil] <;> rfl) fun all hall K hK => ?_
    clear hall
    refine vcL_split 2 fun K' hK' => ?_
    simp (maxSteps := 1000000) (disch := first | omega | assumption)
    repeat' refine And.intro ?_ ?_
    all_goals first | omega | exact rfl | skip
    refine hK' _ ?_
    clear hK' K'
    simp only [List.drop_succ_cons, List.drop_zero]
    refine vcL_step fun K' hK' => ?_
    simp (maxSteps := 1000000) (disch := first | omega | assumption)
    refine Ct.mono (Ct.of_le (turn_fn (few a 15) (few b 15) _ (by omega) (by omega)) (by first | exact leArgs_of rfl | (refine leArgs_of ?_; simp; done) | (refine leArgs_of ?_; simp; rfl) | (simp [leArgs, leArg]; done)) rfl) ?_
    rintro _ _ ⟨rfl, rfl⟩
    refine hK' _ ?_
    clear hK' K'
    refine vcL_split 2 fun K' hK' => ?_
    simp (maxSteps := 1000000) (disch := first | omega | assumption)
    repeat' refine And.intro ?_ ?_
    all_goals first | omega | exact rfl | skip
    refine hK' _ ?_
    clear hK' K'
    simp only [List.drop_succ_cons, List.drop_zero]
    refine vcL_step fun K' hK' => ?_
    simp (maxSteps := 1000000) (disch := first | omega | assumption)
    refine Ct.mono (Ct.of_le (rturn_fn (few a 15) (few b 15) _ (by omega) (by omega)) (by first | exact leArgs_of rfl | (refine leArgs_of ?_; simp; done) | (refine leArgs_of ?_; simp; rfl) | (simp [leArgs, leArg]; done)) rfl) ?_
    rintro _ _ ⟨rfl, rfl⟩
    refine hK' _ ?_
    clear hK' K'
    simp (maxSteps := 1000000) (disch := first | omega | assumption)
    repeat' refine And.intro ?_ ?_
    all_goals first | omega | exact rfl | skip
    refine hK _ ?_
    clear hK K
    clear all
    refine q_then_n ?_
    refine awp_seq ?_
    refine awp_seq ?_
    refine awp_keep [0, 1, 4, 5, 6] (by simp only [keepL_nil, keepL_cons, envOf_sel, envOf_nil, sel_t, sel_f, Nat.reduceBEq] <;> rfl) ?_
    refine awp_regionA (c := ⟨[], [], [], []⟩) (by simp only [lite_cons, lite_nil] <;> rfl) fun all hall K hK => ?_
    clear hall
    simp (maxSteps := 1000000) (disch := first | omega | assumption)
    repeat' refine And.intro ?_ ?_
    all_goals first | omega | exact rfl | skip
    refine hK _ ?_
    clear hK K
    clear all
    refine q_then_n ?_
    refine awp_ifB (by simp <;> rfl) ?_
    refine ⟨fun c2 => ?_, fun c2 => ?_⟩
    · simp at c2
    · try simp at c2
      refine awp_skip ?_
      refine q_then_n ?_
      refine awp_seq ?_
      refine awp_seq ?_
      refine awp_regionA (c := ⟨[], [], [], []⟩) (by simp only [lite_cons, lite_nil] <;> rfl) fun all hall K hK => ?_
      clear hall
      simp (maxSteps := 1000000) (disch := first | omega | assumption)
      repeat' refine And.intro ?_ ?_
      all_goals first | omega | exact rfl | skip
      refine hK _ ?_
      clear hK K
      clear all
      refine q_then_n ?_
      refine awp_block ?_
      refine awp_keep [0, 1, 4, 5, 6, 26, 27] (by simp only [keepL_nil, keepL_cons, envOf_sel, envOf_nil, sel_t, sel_f, Nat.reduceBEq] <;> rfl) ?_
      refine awp_loopE (fun (k : Nat) => [(27, .d (.int k))]) [4, 7, 27, 28, 29, 30, 31, 32, 33, 34, 35, 36, 37, 38, 39] (fun (k : Nat) => k ≤ (turnL (few a 15) (few b 15)).length) (fun (k : Nat) => (turnL (few a 15) (few b 15)).length - k) (0) (by simp <;> rfl) ?_ ?_ ?_
      · simp
      · simp
      rintro k hk
      simp only [List.cons_append, List.nil_append]
      refine awp_seq ?_
      refine awp_regionA (c := ⟨[], [], [], []⟩) (by simp only [lite_cons, lite_nil] <;> rfl) fun all hall K hK => ?_
      clear hall
      simp (maxSteps := 1000000) (disch := first | omega | assumption)
      repeat' refine And.intro ?_ ?_
      all_goals first | omega | exact rfl | skip
      refine hK _ ?_
      clear hK K
      clear all
      refine q_then_n ?_
      refine awp_seq ?_
      refine awp_ifB (by simp <;> rfl) ?_
      refine ⟨fun c3 => ?_, fun c3 => ?_⟩
      · try simp at c3
        refine awp_skip ?_
        refine q_then_n ?_
        refine awp_seq ?_
        refine awp_block ?_
        refine awp_seq ?_
        refine awp_regionA (c := ⟨[], [], [], []⟩) (by simp only [lite_cons, lite_nil] <;> rfl) fun all hall K hK => ?_
        clear hall
        simp (maxSteps := 1000000) (disch := first | omega | assumption)
        repeat' refine And.intro ?_ ?_
        all_goals first | omega | exact rfl | skip
        refine hK _ ?_
        clear hK K
        clear all
        refine q_then_n ?_
        refine awp_seq ?_
        refine awp_drawA (c := ⟨[], [], [], []⟩) [.op ⟨false, false, false, false⟩, .op ⟨false, false, false, false⟩, .op ⟨false, false, false, false⟩, .op ⟨false, false, false, false⟩, .op ⟨false, false, false, false⟩, .op ⟨false, false, false, false⟩, .op ⟨false, false, false, false⟩, .op ⟨false, false, false, false⟩, .op ⟨false, false, false, false⟩] (by kernel_rfl) (by kernel_rfl) (by simp only [lite_cons, lite_nil] <;> rfl) fun all hall K hK => ?_
        clear hall
        refine vcDL_split 8 (by simp) fun K' hK' => ?_
        simp (maxSteps := 1000000) (disch := first | omega | assumption)
        repeat' refine And.intro ?_ ?_
        all_goals first | omega | exact rfl | skip
        refine hK' _ ?_
        clear hK' K'
        simp only [List.drop_succ_cons, List.drop_zero]
        simp (maxSteps := 1000000) (disch := first | omega | assumption)
        repeat' refine And.intro ?_ ?_
        all_goals first | omega | exact rfl | skip
        refine hK _ ?_
        clear hK K
        clear all
        refine q_then_n ?_
        refine awp_ifB (by simp <;> rfl) ?_
        refine ⟨fun c4 => ?_, fun c4 => ?_⟩
        · simp at c4
        · try simp at c4
          refine awp_skip ?_
          refine q_block_n ?_
          refine q_then_n ?_
          refine awp_keep [0, 1, 5, 6, 26, 27] (by simp only [keepL_nil, keepL_cons, envOf_sel, envOf_nil, sel_t, sel_f, Nat.reduceBEq] <;> rfl) ?_
          refine awp_regionA (c := ⟨[], [], [], []⟩) (by simp only [lite_cons, lite_nil] <;> rfl) fun all hall K hK => ?_
          clear hall
          simp (maxSteps := 1000000) (disch := first | omega | assumption)
          repeat' refine And.intro ?_ ?_
          all_goals first | omega | exact rfl | skip
          refine hK _ ?_
          clear hK K
          clear all
          refine q_round (k + 1) ?_ ?_ (weak_mkA rfl ?_ (by simp) (by simp))
          · omega
          · try dsimp only
            omega
          · simp (maxSteps := 1000000) (disch := first | omega | assumption)
      · try simp at c3
        refine awp_exit ?_
        refine q_then_e ?_
        refine q_loop_e ?_
        refine q_block_e ?_
        refine q_then_n ?_
        refine awp_seq ?_
        refine awp_regionA (c := ⟨[], [], [], []⟩) (by simp only [lite_cons, lite_nil] <;> rfl) fun all hall K hK => ?_
        clear hall
        refine vcL_split 2 fun K' hK' => ?_
        simp (maxSteps := 1000000) (disch := first | omega | assumption)
        repeat' refine And.intro ?_ ?_
        all_goals first | omega | exact rfl | skip
        refine hK' _ ?_
        clear hK' K'
        simp only [List.drop_succ_cons, List.drop_zero]
        refine vcL_step fun K' hK' => ?_
        simp (maxSteps := 1000000) (disch := first | omega | assumption)
        refine Ct.mono (Ct.of_le (capply_fn (few a 15) (turnL (few a 15) (few b 15)) _ (by omega) (by omega)) (by first | exact leArgs_of rfl | (refine leArgs_of ?_; simp; done) | (refine leArgs_of ?_; simp; rfl) | (simp [leArgs, leArg]; done)) rfl) ?_
        rintro _ _ ⟨rfl, rfl⟩
        refine hK' _ ?_
        clear hK' K'
        refine vcL_split 1 fun K' hK' => ?_
        simp (maxSteps := 1000000) (disch := first | omega | assumption)
        repeat' refine And.intro ?_ ?_
        all_goals first | omega | exact rfl | skip
        refine hK' _ ?_
        clear hK' K'
        simp only [List.drop_succ_cons, List.drop_zero]
        refine vcL_step fun K' hK' => ?_
        simp (maxSteps := 1000000) (disch := first | omega | assumption)
        refine Ct.mono (Ct.of_le (rclean_fn (few b 15) _ (by omega)) (by first | exact leArgs_of rfl | (refine leArgs_of ?_; simp; done) | (refine leArgs_of ?_; simp; rfl) | (simp [leArgs, leArg]; done)) rfl) ?_
        rintro _ _ ⟨rfl, rfl⟩
        refine hK' _ ?_
        clear hK' K'
        refine vcL_step fun K' hK' => ?_
        simp (maxSteps := 1000000) (disch := first | omega | assumption)
        rw [turn_apply]
        refine Ct.mono (Ct.of_le (same_fn (clean (few b 15)) (clean (few b 15)) _ (by omega) (by omega)) (by first | exact leArgs_of rfl | (refine leArgs_of ?_; simp; done) | (refine leArgs_of ?_; simp; rfl) | (simp [leArgs, leArg]; done)) rfl) ?_
        rintro _ _ ⟨rfl, rfl⟩
        refine hK' _ ?_
        clear hK' K'
        simp (maxSteps := 1000000) (disch := first | omega | assumption)
        repeat' refine And.intro ?_ ?_
        all_goals first | omega | exact rfl | skip
        refine hK _ ?_
        clear hK K
        clear all
        refine q_then_n ?_
        refine awp_ret ?_
        simp [endQ]

end Go.Proofs.Ythieajadepfeoaa

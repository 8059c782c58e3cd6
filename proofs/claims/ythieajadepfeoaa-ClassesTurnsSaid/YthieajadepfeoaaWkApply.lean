/- Walks: contracts of functions. Written by a program of ours out of annotations. -/
import Derived.Test.YthieajadepfeoaaWkLists
namespace Go.Proofs.Ythieajadepfeoaa
open Go Go.Vm
set_option maxRecDepth 20000
set_option linter.all false
set_option maxHeartbeats 8000000

-- scrim/classes.Apply
theorem capply_fn (l : Ls) (S : List Stp) (σ : List (List D)) (hl : l.length ≤ 10000) (hS : S.length ≤ 10000) : Ct Try.prog 41 [dl l, .sl false (S.map dst)] σ (fun r σ' => r = dl (applyL l S) ∧ σ' = σ) := by
  refine fn_start (rs := [.tmp 4]) Try.func41 rfl rfl Try.ntmps41 Try.results41 (by simp) ?_
  simp only [argEnv]
  refine awp_seq ?_
  refine awp_regionA (c := ⟨[0, 4, 26], [], [], []⟩) (by simp only [lite_cons, lite_nil] <;> rfl) fun all hall K hK => ?_
  clear hall
  simp (maxSteps := 1000000) (disch := first | omega | assumption)
  repeat' refine And.intro ?_ ?_
  all_goals first | omega | exact rfl | skip
  refine hK _ ?_
  clear hK K
  clear all
  refine q_then_n ?_
  refine awp_seq ?_
  refine awp_regionA (c := ⟨[0, 4, 26], [], [], []⟩) (by simp only [lite_cons, lite_nil] <;> rfl) fun all hall K hK => ?_
  clear hall
  refine vcL_split 1 fun K' hK' => ?_
  simp (maxSteps := 1000000) (disch := first | omega | assumption)
  repeat' refine And.intro ?_ ?_
  all_goals first | omega | exact rfl | skip
  refine hK' _ ?_
  clear hK' K'
  simp only [List.drop_succ_cons, List.drop_zero]
  refine vcL_step fun K' hK' => ?_
  simp (maxSteps := 1000000) (disch := first | omega | assumption)
  refine Ct.mono (Ct.of_le (clean_fn l _ (by omega)) (by first | exact leArgs_of rfl | (refine leArgs_of ?_; simp; done) | (refine leArgs_of ?_; simp; rfl) | (simp [leArgs, leArg]; done)) rfl) ?_
  rintro _ _ ⟨rfl, rfl⟩
  refine hK' _ ?_
  clear hK' K'
  simp (maxSteps := 1000000) (disch := first | omega | assumption)
  repeat' refine And.intro ?_ ?_
  all_goals first | omega | exact rfl | skip
  refine hK _ ?_
  clear hK K
  clear all
  refine q_then_n ?_
  refine awp_seq ?_
  refine awp_seq ?_
  refine awp_regionA (c := ⟨[0, 4, 26], [], [], []⟩) (by simp only [lite_cons, lite_nil] <;> rfl) fun all hall K hK => ?_
  clear hall
  simp (maxSteps := 1000000) (disch := first | omega | assumption)
  repeat' refine And.intro ?_ ?_
  all_goals first | omega | exact rfl | skip
  refine hK _ ?_
  clear hK K
  clear all
  refine q_then_n ?_
  refine awp_block ?_
  refine awp_keep [0, 4, 9, 10, 11] (by simp only [keepL_nil, keepL_cons, envOf_sel, envOf_nil, sel_t, sel_f, Nat.reduceBEq] <;> rfl) ?_
  refine awp_loopE (fun (k : Nat) => [(11, .d (.int k)), (0, .d (dl (applyL l (S.take k))))]) [0, 6, 11, 12, 13, 14, 15, 16, 17, 18, 19, 20, 21, 22, 23, 24, 25] (fun (k : Nat) => k ≤ S.length) (fun (k : Nat) => S.length - k) (0) (by simp <;> rfl) ?_ ?_ ?_
  · simp [applyL]
  · simp
  rintro k hk
  simp only [List.cons_append, List.nil_append]
  have hcl := applyL_len l (S.take k)
  simp only [List.length_take] at hcl
  refine awp_seq ?_
  refine awp_regionA (c := ⟨[0, 4, 26], [], [], []⟩) (by simp only [lite_cons, lite_nil] <;> rfl) fun all hall K hK => ?_
  clear hall
  simp (maxSteps := 1000000) (disch := first | omega | assumption)
  repeat' refine And.intro ?_ ?_
  all_goals first | omega | exact rfl | skip
  refine hK _ ?_
  clear hK K
  clear all
  refine q_then_n ?_
  refine awp_seq ?_
  refine awp_ifB (by simp <;> rfl) ?_
  refine ⟨fun c1 => ?_, fun c1 => ?_⟩
  · try simp at c1
    refine awp_skip ?_
    refine q_then_n ?_
    refine awp_seq ?_
    refine awp_block ?_
    refine awp_seq ?_
    refine awp_regionA (c := ⟨[0, 4, 26], [], [], []⟩) (by simp only [lite_cons, lite_nil] <;> rfl) fun all hall K hK => ?_
    clear hall
    simp (maxSteps := 1000000) (disch := first | omega | assumption)
    repeat' refine And.intro ?_ ?_
    all_goals first | omega | exact rfl | skip
    refine hK _ ?_
    clear hK K
    clear all
    refine q_then_n ?_
    refine awp_seq ?_
    refine awp_regionA (c := ⟨[0, 4, 26], [], [], []⟩) (by simp only [lite_cons, lite_nil] <;> rfl) fun all hall K hK => ?_
    clear hall
    simp (maxSteps := 1000000) (disch := first | omega | assumption)
    repeat' refine And.intro ?_ ?_
    all_goals first | omega | exact rfl | skip
    refine hK _ ?_
    clear hK K
    clear all
    refine q_then_n ?_
    refine awp_ifB (by simp <;> rfl) ?_
    refine ⟨fun c2 => ?_, fun c2 => ?_⟩
    · try simp at c2
      refine awp_regionA (c := ⟨[0, 4, 26], [], [], []⟩) (by simp only [lite_cons, lite_nil] <;> rfl) fun all hall K hK => ?_
      clear hall
      refine vcL_split 3 fun K' hK' => ?_
      simp (maxSteps := 1000000) (disch := first | omega | assumption)
      repeat' refine And.intro ?_ ?_
      all_goals first | omega | exact rfl | skip
      refine hK' _ ?_
      clear hK' K'
      simp only [List.drop_succ_cons, List.drop_zero]
      refine vcL_step fun K' hK' => ?_
      simp (maxSteps := 1000000) (disch := first | omega | assumption)
      refine Ct.mono (Ct.of_le (cdrop_fn (applyL l (S.take k)) _ _ (by omega)) (by first | exact leArgs_of rfl | (refine leArgs_of ?_; simp; done) | (refine leArgs_of ?_; simp; rfl) | (simp [leArgs, leArg]; done)) rfl) ?_
      rintro _ _ ⟨rfl, rfl⟩
      refine hK' _ ?_
      clear hK' K'
      simp (maxSteps := 1000000) (disch := first | omega | assumption)
      repeat' refine And.intro ?_ ?_
      all_goals first | omega | exact rfl | skip
      refine hK _ ?_
      clear hK K
      clear all
      refine q_block_n ?_
      refine q_then_n ?_
      refine awp_keep [0, 4, 9, 10, 11] (by simp only [keepL_nil, keepL_cons, envOf_sel, envOf_nil, sel_t, sel_f, Nat.reduceBEq] <;> rfl) ?_
      refine awp_regionA (c := ⟨[0, 4, 26], [], [], []⟩) (by simp only [lite_cons, lite_nil] <;> rfl) fun all hall K hK => ?_
      clear hall
      simp (maxSteps := 1000000) (disch := first | omega | assumption)
      repeat' refine And.intro ?_ ?_
      all_goals first | omega | exact rfl | skip
      refine hK _ ?_
      clear hK K
      clear all
      refine q_round (k + 1) ?_ ?_ (weak_mkA rfl ?_ (by simp) (by simp))
      · omega
      · try dsimp only
        omega
      · simp (maxSteps := 1000000) (disch := first | omega | assumption) [applyL_take, stepL, c2]
    · try simp at c2
      refine awp_regionA (c := ⟨[0, 4, 26], [], [], []⟩) (by simp only [lite_cons, lite_nil] <;> rfl) fun all hall K hK => ?_
      clear hall
      refine vcL_split 3 fun K' hK' => ?_
      simp (maxSteps := 1000000) (disch := first | omega | assumption)
      repeat' refine And.intro ?_ ?_
      all_goals first | omega | exact rfl | skip
      refine hK' _ ?_
      clear hK' K'
      simp only [List.drop_succ_cons, List.drop_zero]
      refine vcL_step fun K' hK' => ?_
      simp (maxSteps := 1000000) (disch := first | omega | assumption)
      refine Ct.mono (Ct.of_le (add_fn (applyL l (S.take k)) _ _ (by omega)) (by first | exact leArgs_of rfl | (refine leArgs_of ?_; simp; done) | (refine leArgs_of ?_; simp; rfl) | (simp [leArgs, leArg]; done)) rfl) ?_
      rintro _ _ ⟨rfl, rfl⟩
      refine hK' _ ?_
      clear hK' K'
      simp (maxSteps := 1000000) (disch := first | omega | assumption)
      repeat' refine And.intro ?_ ?_
      all_goals first | omega | exact rfl | skip
      refine hK _ ?_
      clear hK K
      clear all
      refine q_block_n ?_
      refine q_then_n ?_
      refine awp_keep [0, 4, 9, 10, 11] (by simp only [keepL_nil, keepL_cons, envOf_sel, envOf_nil, sel_t, sel_f, Nat.reduceBEq] <;> rfl) ?_
      refine awp_regionA (c := ⟨[0, 4, 26], [], [], []⟩) (by simp only [lite_cons, lite_nil] <;> rfl) fun all hall K hK => ?_
      clear hall
      simp (maxSteps := 1000000) (disch := first | omega | assumption)
      repeat' refine And.intro ?_ ?_
      all_goals first | omega | exact rfl | skip
      refine hK _ ?_
      clear hK K
      clear all
      refine q_round (k + 1) ?_ ?_ (weak_mkA rfl ?_ (by simp) (by simp))
      · omega
      · try dsimp only
        omega
      · simp (maxSteps := 1000000) (disch := first | omega | assumption) [applyL_take, stepL, c2]
  · try simp at c1
    refine awp_exit ?_
    refine q_then_e ?_
    refine q_loop_e ?_
    refine q_block_e ?_
    refine q_then_n ?_
    refine awp_seq ?_
    refine awp_regionA (c := ⟨[0, 4, 26], [], [], []⟩) (by simp only [lite_cons, lite_nil] <;> rfl) fun all hall K hK => ?_
    clear hall
    simp (maxSteps := 1000000) (disch := first | omega | assumption)
    repeat' refine And.intro ?_ ?_
    all_goals first | omega | exact rfl | skip
    refine hK _ ?_
    clear hK K
    clear all
    refine q_then_n ?_
    refine awp_ret ?_
    simp [endQ]
    rw [List.take_of_length_le (by omega)]

end Go.Proofs.Ythieajadepfeoaa

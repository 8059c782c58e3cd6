/- Walks: contracts of functions. Written by a program of ours out of annotations. -/
import Derived.Test.YthieajadepfeoaaWkClasses
namespace Go.Proofs.Ythieajadepfeoaa
open Go Go.Vm
set_option maxRecDepth 20000
set_option linter.all false
set_option maxHeartbeats 8000000

-- slices.Equal[[]string,string]
theorem sleq_fn (a b : Ls) (σ : List (List D)) (ha : a.length ≤ 9223372036854775807) (hb : b.length ≤ 9223372036854775807) : Ct Try.prog 60 [dl a, dl b] σ (fun r σ' => r = .bool (decide (a = b)) ∧ σ' = σ) := by
  refine fn_start (rs := [.tmp 4]) Try.func60 rfl rfl Try.ntmps60 Try.results60 (by simp) ?_
  simp only [argEnv]
  refine awp_seq ?_
  refine awp_region (c := ⟨[], [], []⟩) fun K hK => ?_
  simp (disch := first | omega | assumption)
  repeat' refine And.intro ?_ ?_
  all_goals first | omega | exact rfl | skip
  refine hK _ ?_
  clear hK K
  refine q_then_n ?_
  refine awp_seq ?_
  refine awp_seq ?_
  refine awp_region (c := ⟨[], [], []⟩) fun K hK => ?_
  simp (disch := first | omega | assumption)
  repeat' refine And.intro ?_ ?_
  all_goals first | omega | exact rfl | skip
  refine hK _ ?_
  clear hK K
  refine q_then_n ?_
  refine awp_if (by simp <;> rfl) ?_
  refine ⟨fun c1 => ?_, fun c1 => ?_⟩
  · try simp at c1
    refine awp_seq ?_
    refine awp_region (c := ⟨[], [], []⟩) fun K hK => ?_
    simp (disch := first | omega | assumption)
    repeat' refine And.intro ?_ ?_
    all_goals first | omega | exact rfl | skip
    refine hK _ ?_
    clear hK K
    refine q_then_n ?_
    refine awp_ret ?_
    refine q_then_r ?_
    simp [endQ]
    intro e; subst e; exact absurd rfl c1
  · try simp at c1
    refine awp_skip ?_
    refine q_then_n ?_
    refine awp_seq ?_
    refine awp_seq ?_
    refine awp_region (c := ⟨[], [], []⟩) fun K hK => ?_
    simp (disch := first | omega | assumption)
    repeat' refine And.intro ?_ ?_
    all_goals first | omega | exact rfl | skip
    refine hK _ ?_
    clear hK K
    refine q_then_n ?_
    refine awp_block ?_
    refine awp_loopE (fun (k : Nat) => [(13, .d (.int k))]) [4, 5, 13, 14, 15, 16, 17, 18, 19, 20, 21, 22, 23, 24, 25] (fun (k : Nat) => k ≤ a.length ∧ a.take k = b.take k) (fun (k : Nat) => a.length - k) (0) (by simp <;> rfl) ?_ ?_ ?_
    · simp
    · simp
    rintro k ⟨hk, hh⟩
    simp only [List.cons_append, List.nil_append]
    refine awp_seq ?_
    refine awp_region (c := ⟨[], [], []⟩) fun K hK => ?_
    simp (disch := first | omega | assumption)
    repeat' refine And.intro ?_ ?_
    all_goals first | omega | exact rfl | skip
    refine hK _ ?_
    clear hK K
    refine q_then_n ?_
    refine awp_seq ?_
    refine awp_if (by simp <;> rfl) ?_
    refine ⟨fun c2 => ?_, fun c2 => ?_⟩
    · try simp at c2
      refine awp_skip ?_
      refine q_then_n ?_
      refine awp_seq ?_
      refine awp_block ?_
      refine awp_seq ?_
      refine awp_region (c := ⟨[], [], []⟩) fun K hK => ?_
      simp (disch := first | omega | assumption)
      repeat' refine And.intro ?_ ?_
      all_goals first | omega | exact rfl | skip
      refine hK _ ?_
      clear hK K
      refine q_then_n ?_
      refine awp_seq ?_
      refine awp_draw (c := ⟨[], [], []⟩) [.op ⟨false, false, false, false⟩, .op ⟨false, false, false, false⟩, .op ⟨false, false, false, false⟩, .op ⟨false, false, false, false⟩, .op ⟨false, false, false, false⟩, .op ⟨false, false, false, false⟩, .op ⟨false, false, false, false⟩, .op ⟨false, false, false, false⟩, .op ⟨false, false, false, false⟩] (by kernel_rfl) (by kernel_rfl) fun K hK => ?_
      skip
      simp (disch := first | omega | assumption)
      repeat' refine And.intro ?_ ?_
      all_goals first | omega | exact rfl | skip
      refine hK _ ?_
      clear hK K
      refine q_then_n ?_
      refine awp_if (by simp <;> rfl) ?_
      refine ⟨fun c3 => ?_, fun c3 => ?_⟩
      · try simp at c3
        refine awp_seq ?_
        refine awp_region (c := ⟨[], [], []⟩) fun K hK => ?_
        simp (disch := first | omega | assumption)
        repeat' refine And.intro ?_ ?_
        all_goals first | omega | exact rfl | skip
        refine hK _ ?_
        clear hK K
        refine q_then_n ?_
        refine awp_ret ?_
        refine q_block_r ?_
        refine q_then_r ?_
        refine q_loop_r ?_
        refine q_block_r ?_
        refine q_then_r ?_
        simp [endQ]
        intro e; subst e; exact c3 rfl
      · try simp at c3
        refine awp_skip ?_
        refine q_block_n ?_
        refine q_then_n ?_
        refine awp_region (c := ⟨[], [], []⟩) fun K hK => ?_
        simp (disch := first | omega | assumption)
        repeat' refine And.intro ?_ ?_
        all_goals first | omega | exact rfl | skip
        refine hK _ ?_
        clear hK K
        refine q_round (k + 1) ?_ ?_ (weak_mkA rfl ?_ (by simp) (by simp))
        · exact ⟨by omega, by rw [take_snoc a k (by omega), take_snoc b k (by omega), hh]; simp [*]⟩
        · try dsimp only
          omega
        · simp (disch := first | omega | assumption)
    · try simp at c2
      refine awp_exit ?_
      refine q_then_e ?_
      refine q_loop_e ?_
      refine q_block_e ?_
      refine q_then_n ?_
      refine awp_seq ?_
      refine awp_region (c := ⟨[], [], []⟩) fun K hK => ?_
      simp (disch := first | omega | assumption)
      repeat' refine And.intro ?_ ?_
      all_goals first | omega | exact rfl | skip
      refine hK _ ?_
      clear hK K
      refine q_then_n ?_
      refine awp_ret ?_
      simp [endQ]
      rwa [List.take_of_length_le (by omega), List.take_of_length_le (by omega)] at hh

-- scrim/classes.Same
theorem csame_fn (a b : Ls) (σ : List (List D)) (ha : a.length ≤ 9223372036854775807) (hb : b.length ≤ 9223372036854775807) : Ct Try.prog 27 [dl a, dl b] σ (fun r σ' => r = .bool (decide (a = b)) ∧ σ' = σ) := by
  refine fn_start (rs := [.tmp 4]) Try.func27 rfl rfl Try.ntmps27 Try.results27 (by simp) ?_
  simp only [argEnv]
  refine awp_seq ?_
  refine awp_region (c := ⟨[], [], []⟩) fun K hK => ?_
  simp (disch := first | omega | assumption)
  repeat' refine And.intro ?_ ?_
  all_goals first | omega | exact rfl | skip
  refine hK _ ?_
  clear hK K
  refine q_then_n ?_
  refine awp_seq ?_
  refine awp_region (c := ⟨[], [], []⟩) fun K hK => ?_
  refine vcL_split 2 fun K' hK' => ?_
  simp (disch := first | omega | assumption)
  repeat' refine And.intro ?_ ?_
  all_goals first | omega | exact rfl | skip
  refine hK' _ ?_
  clear hK' K'
  simp only [List.drop_succ_cons, List.drop_zero]
  refine vcL_step fun K' hK' => ?_
  simp (disch := first | omega | assumption)
  refine Ct.mono (Ct.of_eq (sleq_fn a b _ ha hb) (by first | rfl | (simp; done) | (simp; rfl)) rfl) ?_
  rintro _ _ ⟨rfl, rfl⟩
  refine hK' _ ?_
  clear hK' K'
  simp (disch := first | omega | assumption)
  repeat' refine And.intro ?_ ?_
  all_goals first | omega | exact rfl | skip
  refine hK _ ?_
  clear hK K
  refine q_then_n ?_
  refine awp_ret ?_
  simp (disch := first | omega | assumption) [endQ]

-- scrim/scrimlaw03.ClassesSame
theorem lawSame_fn (a b : Ls) (σ : List (List D)) (ha : a.length ≤ 9223372036854775807) (hb : b.length ≤ 9223372036854775807) : Ct Try.prog 5 [dl a, dl b] σ (fun r σ' => r = .bool true ∧ σ' = σ) := by
  have hfa := few_len a 20
  have hfb := few_len b 20
  refine fn_start (rs := [.tmp 4]) Try.func5 rfl rfl Try.ntmps5 Try.results5 (by simp) ?_
  simp only [argEnv]
  refine awp_seq ?_
  refine awp_region (c := ⟨[], [], []⟩) fun K hK => ?_
  simp (disch := first | omega | assumption)
  repeat' refine And.intro ?_ ?_
  all_goals first | omega | exact rfl | skip
  refine hK _ ?_
  clear hK K
  refine q_then_n ?_
  refine awp_seq ?_
  refine awp_seq ?_
  refine awp_region (c := ⟨[], [], []⟩) fun K hK => ?_
  refine vcL_step fun K' hK' => ?_
  simp (disch := first | omega | assumption)
  refine Ct.mono (Ct.of_eq (awake_fn _) (by first | rfl | (simp; done) | (simp; rfl)) rfl) ?_
  rintro _ _ ⟨rfl, rfl⟩
  refine hK' _ ?_
  clear hK' K'
  simp (disch := first | omega | assumption)
  repeat' refine And.intro ?_ ?_
  all_goals first | omega | exact rfl | skip
  refine hK _ ?_
  clear hK K
  refine q_then_n ?_
  refine awp_if (by simp <;> rfl) ?_
  refine ⟨fun c1 => ?_, fun c1 => ?_⟩
  · simp at c1
  · try simp at c1
    refine awp_skip ?_
    refine q_then_n ?_
    refine awp_seq ?_
    refine awp_region (c := ⟨[], [], []⟩) fun K hK => ?_
    refine vcL_split 1 fun K' hK' => ?_
    simp (disch := first | omega | assumption)
    repeat' refine And.intro ?_ ?_
    all_goals first | omega | exact rfl | skip
    refine hK' _ ?_
    clear hK' K'
    simp only [List.drop_succ_cons, List.drop_zero]
    refine vcL_step fun K' hK' => ?_
    simp (disch := first | omega | assumption)
    refine Ct.mono (Ct.of_eq (few_fn a 20 _ ha (by omega)) (by first | rfl | (simp; done) | (simp; rfl)) rfl) ?_
    rintro _ _ ⟨rfl, rfl⟩
    refine hK' _ ?_
    clear hK' K'
    refine vcL_split 1 fun K' hK' => ?_
    simp (disch := first | omega | assumption)
    repeat' refine And.intro ?_ ?_
    all_goals first | omega | exact rfl | skip
    refine hK' _ ?_
    clear hK' K'
    simp only [List.drop_succ_cons, List.drop_zero]
    refine vcL_step fun K' hK' => ?_
    simp (disch := first | omega | assumption)
    refine Ct.mono (Ct.of_eq (few_fn b 20 _ hb (by omega)) (by first | rfl | (simp; done) | (simp; rfl)) rfl) ?_
    rintro _ _ ⟨rfl, rfl⟩
    refine hK' _ ?_
    clear hK' K'
    simp (disch := first | omega | assumption)
    repeat' refine And.intro ?_ ?_
    all_goals first | omega | exact rfl | skip
    refine hK _ ?_
    clear hK K
    refine q_then_n ?_
    refine awp_seq ?_
    refine awp_region (c := ⟨[], [], []⟩) fun K hK => ?_
    refine vcL_split 2 fun K' hK' => ?_
    simp (disch := first | omega | assumption)
    repeat' refine And.intro ?_ ?_
    all_goals first | omega | exact rfl | skip
    refine hK' _ ?_
    clear hK' K'
    simp only [List.drop_succ_cons, List.drop_zero]
    refine vcL_step fun K' hK' => ?_
    simp (disch := first | omega | assumption)
    refine Ct.mono (Ct.of_eq (csame_fn (few a 20) (few b 20) _ (by omega) (by omega)) (by first | rfl | (simp; done) | (simp; rfl)) rfl) ?_
    rintro _ _ ⟨rfl, rfl⟩
    refine hK' _ ?_
    clear hK' K'
    refine vcL_split 2 fun K' hK' => ?_
    simp (disch := first | omega | assumption)
    repeat' refine And.intro ?_ ?_
    all_goals first | omega | exact rfl | skip
    refine hK' _ ?_
    clear hK' K'
    simp only [List.drop_succ_cons, List.drop_zero]
    refine vcL_step fun K' hK' => ?_
    simp (disch := first | omega | assumption)
    refine Ct.mono (Ct.of_eq (same_fn (few a 20) (few b 20) _ (by omega) (by omega)) (by first | rfl | (simp; done) | (simp; rfl)) rfl) ?_
    rintro _ _ ⟨rfl, rfl⟩
    refine hK' _ ?_
    clear hK' K'
    refine vcL_split 2 fun K' hK' => ?_
    simp (disch := first | omega | assumption)
    repeat' refine And.intro ?_ ?_
    all_goals first | omega | exact rfl | skip
    refine hK' _ ?_
    clear hK' K'
    simp only [List.drop_succ_cons, List.drop_zero]
    refine vcL_bool 18 (by simp <;> rfl) ?_
    refine ⟨fun g2 => ?_, fun g2 => ?_⟩
    · try simp at g2
      refine vcL_split 2 fun K' hK' => ?_
      simp (disch := first | omega | assumption)
      repeat' refine And.intro ?_ ?_
      all_goals first | omega | exact rfl | skip
      refine hK' _ ?_
      clear hK' K'
      simp only [List.drop_succ_cons, List.drop_zero]
      refine vcL_gt rfl (by simp <;> rfl) rfl fun K' hK' => ?_
      simp (disch := first | omega | assumption)
      refine Ct.mono (Ct.of_eq (csame_fn (few a 20) (few a 20) _ (by omega) (by omega)) (by first | rfl | (simp; done) | (simp; rfl)) rfl) ?_
      rintro _ _ ⟨rfl, rfl⟩
      refine hK' _ ?_
      clear hK' K'
      simp (disch := first | omega | assumption)
      repeat' refine And.intro ?_ ?_
      all_goals first | omega | exact rfl | skip
      refine hK _ ?_
      clear hK K
      refine q_then_n ?_
      refine awp_ret ?_
      simp (disch := first | omega | assumption) [endQ]
    · simp at g2

end Go.Proofs.Ythieajadepfeoaa

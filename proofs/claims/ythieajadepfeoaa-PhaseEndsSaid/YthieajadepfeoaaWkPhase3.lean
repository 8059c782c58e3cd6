/- Walks: contracts of functions. Written by a program of ours out of annotations. -/
import Derived.Test.YthieajadepfeoaaPhLaw2
namespace Go.Proofs.Ythieajadepfeoaa
open Go Go.Vm
set_option maxRecDepth 20000
set_option linter.all false
set_option maxHeartbeats 8000000

@[simp] theorem told_id (s : State) : told s = s := rfl

-- scrim/scrimlaw21.PhaseEnds
theorem lawEnds_fn (fresh : Bool) (acts : List Act) (hl : acts.length ≤ 9223372036854775807) : Ct Try.prog 12 [D.bool fresh, .sl false (acts.map d_Act)] [] (fun r σ' => r = .bool true) := by
  refine fn_start (rs := [.tmp 4]) Try.func12 rfl rfl Try.ntmps12 Try.results12 (by simp) ?_
  simp only [argEnv]
  refine awp_seq ?_
  refine awp_regionA (c := ⟨[], [], [7]⟩) (by simp only [lite_cons, lite_nil] <;> rfl) fun all hall K hK => ?_
  clear hall
  simp (maxSteps := 1000000) (disch := first | omega | assumption)
  repeat' refine And.intro ?_ ?_
  all_goals first | omega | exact rfl | skip
  refine hK _ ?_
  clear hK K
  clear all
  refine q_then_n ?_
  refine awp_seq ?_
  refine awp_seq ?_
  refine awp_regionA (c := ⟨[], [], [7]⟩) (by simp only [lite_cons, lite_nil] <;> rfl) fun all hall K hK => ?_
  clear hall
  refine vcL_step fun K' hK' => ?_
  simp (maxSteps := 1000000) (disch := first | omega | assumption)
  refine Ct.mono (Ct.of_le (awake_fn _ ) (by first | exact leArgs_of rfl | (simp [leArgs, leArg]; done)) rfl) ?_
  rintro _ _ ⟨rfl, rfl⟩
  refine hK' _ ?_
  clear hK' K'
  simp (maxSteps := 1000000) (disch := first | omega | assumption)
  repeat' refine And.intro ?_ ?_
  all_goals first | omega | exact rfl | skip
  refine hK _ ?_
  clear hK K
  clear all
  refine q_then_n ?_
  refine awp_ifB (by simp <;> rfl) ?_
  refine ⟨fun c1 => ?_, fun c1 => ?_⟩
  · simp at c1
  · try simp at c1
    refine awp_skip ?_
    refine q_then_n ?_
    refine awp_seq ?_
    refine awp_regionA (c := ⟨[], [], [7]⟩) (by simp only [lite_cons, lite_nil] <;> rfl) fun all hall K hK => ?_
    clear hall
    refine vcL_split 1 fun K' hK' => ?_
    simp (maxSteps := 1000000) (disch := first | omega | assumption)
    repeat' refine And.intro ?_ ?_
    all_goals first | omega | exact rfl | skip
    refine hK' _ ?_
    clear hK' K'
    simp only [List.drop_succ_cons, List.drop_zero]
    refine vcL_step fun K' hK' => ?_
    simp (maxSteps := 1000000) (disch := first | omega | assumption)
    refine Ct.mono (Ct.of_le (new_fn fresh _ ) (by first | exact leArgs_of rfl | (simp [leArgs, leArg]; done)) rfl) ?_
    rintro _ _ ⟨rfl, rfl⟩
    generalize hv13 : new fresh = v13
    refine hK' _ ?_
    clear hK' K'
    simp (maxSteps := 1000000) (disch := first | omega | assumption)
    repeat' refine And.intro ?_ ?_
    all_goals first | omega | exact rfl | skip
    refine hK _ ?_
    clear hK K
    clear all
    refine q_then_n ?_
    refine awp_seq ?_
    refine awp_seq ?_
    refine awp_regionA (c := ⟨[], [], [7]⟩) (by simp only [lite_cons, lite_nil] <;> rfl) fun all hall K hK => ?_
    clear hall
    simp (maxSteps := 1000000) (disch := first | omega | assumption)
    repeat' refine And.intro ?_ ?_
    all_goals first | omega | exact rfl | skip
    refine hK _ ?_
    clear hK K
    clear all
    refine q_then_n ?_
    refine awp_block ?_
    refine awp_keep [1, 4, 5, 6] (by simp only [keepL_nil, keepL_cons, envOf_sel, envOf_nil, sel_t, sel_f, Nat.reduceBEq] <;> rfl) ?_
    refine awp_loopO (fun (p : Nat × State × List (List D)) => [(6, .d (.v (.int .i64 p.1)))]) (fun (p : Nat × State × List (List D)) => [[.v (.int .i64 p.2.1.look.kind), .v (.int .i64 p.2.1.look.move), .v (.int .i64 p.2.1.look.DX), .v (.int .i64 p.2.1.look.DY), .v (.int .i64 p.2.1.dur), .v (.int .i64 p.2.1.moveDur)]]) (fun (p : Nat × State × List (List D)) => p.2.2) [4, 6, 7, 14, 15, 16, 17, 18, 19, 20, 21, 22, 23, 24, 25, 26, 27, 28, 29, 30, 31, 32, 33] (fun (p : Nat × State × List (List D)) => p.1 ≤ acts.length ∧ Inv p.2.1) (fun (p : Nat × State × List (List D)) => acts.length - p.1) ((0, v13, [])) (by simp <;> rfl) ?_ (by simp) (by simp) ?_ ?_
    · simp
    · exact ⟨Nat.zero_le _, hv13 ▸ new_inv _⟩
    rintro ⟨k, s, J⟩ ⟨hk, hi⟩
    simp only [List.cons_append, List.nil_append]
    simp only at hk hi
    have hlaw := ends_law s hi
    refine awp_seq ?_
    refine awp_seq ?_
    refine awp_regionA (c := ⟨[], [], [7]⟩) (by simp only [lite_cons, lite_nil] <;> rfl) fun all hall K hK => ?_
    have ga4 : guardOf all 4 = some 18 := hall 4
    clear hall
    refine vcL_split 5 fun K' hK' => ?_
    simp (maxSteps := 1000000) (disch := first | omega | assumption) [ga4]
    repeat' refine And.intro ?_ ?_
    all_goals first | omega | exact rfl | skip
    refine hK' _ ?_
    clear hK' K'
    simp only [List.drop_succ_cons, List.drop_zero]
    refine vcL_bool 18 (by simp <;> rfl) ?_
    refine ⟨fun g2 => ?_, fun g2 => ?_⟩
    · try simp at g2
      simp (maxSteps := 1000000) (disch := first | omega | assumption) [ga4]
      repeat' refine And.intro ?_ ?_
      all_goals first | omega | exact rfl | skip
      refine hK _ ?_
      clear hK K
      clear ga4
      clear all
      refine q_then_n ?_
      refine awp_ifB (by simp <;> rfl) ?_
      refine ⟨fun c3 => ?_, fun c3 => ?_⟩
      · try simp at c3
        refine awp_skip ?_
        refine q_then_n ?_
        refine awp_seq ?_
        refine awp_block ?_
        refine awp_seq ?_
        refine awp_drawA (c := ⟨[], [], [7]⟩) [.op ⟨true, false, false, false⟩, .op ⟨false, false, false, false⟩, .op ⟨false, false, false, false⟩, .op ⟨false, false, false, false⟩, .op ⟨false, false, false, false⟩, .pure, .op ⟨false, false, true, true⟩, .op ⟨false, false, true, true⟩] (by kernel_rfl) (by kernel_rfl) (by simp only [lite_cons, lite_nil] <;> rfl) fun all hall K hK => ?_
        clear hall
        refine vcDL_split 5 (by simp) fun K' hK' => ?_
        simp (maxSteps := 1000000) (disch := first | omega | assumption)
        repeat' refine And.intro ?_ ?_
        all_goals first | omega | exact rfl | skip
        refine hK' _ ?_
        clear hK' K'
        simp only [List.drop_succ_cons, List.drop_zero]
        refine vcDL_step fun K' hK' => ?_
        simp (maxSteps := 1000000) (disch := first | omega | assumption)
        refine ⟨_, fun σ => Ct.of_le (do__fn s (acts[k]) _ ) (by first | exact leArgs_of rfl | (simp [leArgs, leArg]; done)) rfl, ?_⟩
        generalize hv29 : do_ s (acts[k]) = v29
        refine hK' _ ?_
        clear hK' K'
        simp (maxSteps := 1000000) (disch := first | omega | assumption)
        repeat' refine And.intro ?_ ?_
        all_goals first | omega | exact rfl | skip
        refine hK _ ?_
        clear hK K
        clear all
        refine q_then_n ?_
        refine awp_seq ?_
        refine awp_keep [1, 5, 6, 7] (by simp only [keepL_nil, keepL_cons, envOf_sel, envOf_nil, sel_t, sel_f, Nat.reduceBEq] <;> rfl) ?_
        refine awp_regionA (c := ⟨[], [], [7]⟩) (by simp only [lite_cons, lite_nil] <;> rfl) fun all hall K hK => ?_
        clear hall
        simp (maxSteps := 1000000) (disch := first | omega | assumption)
        repeat' refine And.intro ?_ ?_
        all_goals first | omega | exact rfl | skip
        refine hK _ ?_
        clear hK K
        clear all
        refine q_then_n ?_
        refine awp_seq ?_
        refine awp_regionA (c := ⟨[], [], [7]⟩) (by simp only [lite_cons, lite_nil] <;> rfl) fun all hall K hK => ?_
        clear hall
        simp (maxSteps := 1000000) (disch := first | omega | assumption)
        repeat' refine And.intro ?_ ?_
        all_goals first | omega | exact rfl | skip
        refine hK _ ?_
        clear hK K
        clear all
        refine q_then_n ?_
        refine awp_ifB (by simp <;> rfl) ?_
        refine ⟨fun c4 => ?_, fun c4 => ?_⟩
        · try simp at c4
          refine awp_seq ?_
          refine awp_regionA (c := ⟨[], [], [7]⟩) (by simp only [lite_cons, lite_nil] <;> rfl) fun all hall K hK => ?_
          clear hall
          simp (maxSteps := 1000000) (disch := first | omega | assumption)
          repeat' refine And.intro ?_ ?_
          all_goals first | omega | exact rfl | skip
          refine hK _ ?_
          clear hK K
          clear all
          refine q_then_n ?_
          refine awp_ret ?_
          refine q_block_r ?_
          refine q_then_r ?_
          refine q_loop_r ?_
          refine q_block_r ?_
          refine q_then_r ?_
          first | (simp [endQ]; done) | (subst_vars; simp_all [endQ]; done)
        · try simp at c4
          refine awp_skip ?_
          refine q_block_n ?_
          refine q_then_n ?_
          refine awp_regionA (c := ⟨[], [], [7]⟩) (by simp only [lite_cons, lite_nil] <;> rfl) fun all hall K hK => ?_
          clear hall
          simp (maxSteps := 1000000) (disch := first | omega | assumption)
          repeat' refine And.intro ?_ ?_
          all_goals first | omega | exact rfl | skip
          refine hK _ ?_
          clear hK K
          clear all
          refine q_round ((k + 1, v29.state, J ++ [D.cells (o_Out v29)])) ?_ ?_ (weak_mkA rfl ?_ (by simp) (by simp))
          · exact ⟨by simp only; omega, hv29 ▸ do_inv _ _ hi⟩
          · try dsimp only
            omega
          · simp (maxSteps := 1000000) (disch := first | omega | assumption)
      · try simp at c3
        refine awp_exit ?_
        refine q_then_e ?_
        refine q_loop_e ?_
        refine q_block_e ?_
        refine q_then_n ?_
        refine awp_seq ?_
        refine awp_regionA (c := ⟨[], [], [7]⟩) (by simp only [lite_cons, lite_nil] <;> rfl) fun all hall K hK => ?_
        clear hall
        refine vcL_split 1 fun K' hK' => ?_
        simp (maxSteps := 1000000) (disch := first | omega | assumption)
        repeat' refine And.intro ?_ ?_
        all_goals first | omega | exact rfl | skip
        refine hK' _ ?_
        clear hK' K'
        simp only [List.drop_succ_cons, List.drop_zero]
        refine vcL_step fun K' hK' => ?_
        simp (maxSteps := 1000000) (disch := first | omega | assumption)
        refine Ct.mono (Ct.of_le (frame_fn s _ ) (by first | exact leArgs_of rfl | (simp [leArgs, leArg]; done)) rfl) ?_
        rintro _ _ ⟨rfl, rfl⟩
        generalize hv35 : frame s = v35
        refine hK' _ ?_
        clear hK' K'
        simp (maxSteps := 1000000) (disch := first | omega | assumption)
        repeat' refine And.intro ?_ ?_
        all_goals first | omega | exact rfl | skip
        refine hK _ ?_
        clear hK K
        clear all
        refine q_then_n ?_
        refine awp_seq ?_
        refine awp_keep [5] (by simp only [keepL_nil, keepL_cons, envOf_sel, envOf_nil, sel_t, sel_f, Nat.reduceBEq] <;> rfl) ?_
        refine awp_regionA (c := ⟨[], [], [7]⟩) (by simp only [lite_cons, lite_nil] <;> rfl) fun all hall K hK => ?_
        clear hall
        refine vcL_split 1 fun K' hK' => ?_
        simp (maxSteps := 1000000) (disch := first | omega | assumption)
        repeat' refine And.intro ?_ ?_
        all_goals first | omega | exact rfl | skip
        refine hK' _ ?_
        clear hK' K'
        simp only [List.drop_succ_cons, List.drop_zero]
        refine vcL_step fun K' hK' => ?_
        simp (maxSteps := 1000000) (disch := first | omega | assumption)
        refine Ct.mono (Ct.of_le (moveFrame_fn v35.state _ ) (by first | exact leArgs_of rfl | (simp [leArgs, leArg]; done)) rfl) ?_
        rintro _ _ ⟨rfl, rfl⟩
        generalize hv38 : moveFrame v35.state = v38
        refine hK' _ ?_
        clear hK' K'
        simp (maxSteps := 1000000) (disch := first | omega | assumption)
        repeat' refine And.intro ?_ ?_
        all_goals first | omega | exact rfl | skip
        refine hK _ ?_
        clear hK K
        clear all
        refine q_then_n ?_
        refine awp_seq ?_
        refine awp_regionA (c := ⟨[], [], [7]⟩) (by simp only [lite_cons, lite_nil] <;> rfl) fun all hall K hK => ?_
        clear hall
        refine vcL_split 1 fun K' hK' => ?_
        simp (maxSteps := 1000000) (disch := first | omega | assumption)
        repeat' refine And.intro ?_ ?_
        all_goals first | omega | exact rfl | skip
        refine hK' _ ?_
        clear hK' K'
        simp only [List.drop_succ_cons, List.drop_zero]
        refine vcL_step fun K' hK' => ?_
        simp (maxSteps := 1000000) (disch := first | omega | assumption)
        refine Ct.mono (Ct.of_le (finish_fn v38.state _ ) (by first | exact leArgs_of rfl | (simp [leArgs, leArg]; done)) rfl) ?_
        rintro _ _ ⟨rfl, rfl⟩
        generalize hv41 : finish v38.state = v41
        refine hK' _ ?_
        clear hK' K'
        simp (maxSteps := 1000000) (disch := first | omega | assumption)
        repeat' refine And.intro ?_ ?_
        all_goals first | omega | exact rfl | skip
        refine hK _ ?_
        clear hK K
        clear all
        refine q_then_n ?_
        refine awp_seq ?_
        refine awp_seq ?_
        refine awp_regionA (c := ⟨[], [], [7]⟩) (by simp only [lite_cons, lite_nil] <;> rfl) fun all hall K hK => ?_
        clear hall
        simp (maxSteps := 1000000) (disch := first | omega | assumption)
        repeat' refine And.intro ?_ ?_
        all_goals first | omega | exact rfl | skip
        refine hK _ ?_
        clear hK K
        clear all
        refine q_then_n ?_
        refine awp_ifB (by simp <;> rfl) ?_
        refine ⟨fun c5 => ?_, fun c5 => ?_⟩
        · try simp at c5
          refine awp_seq ?_
          refine awp_regionA (c := ⟨[], [], [7]⟩) (by simp only [lite_cons, lite_nil] <;> rfl) fun all hall K hK => ?_
          clear hall
          refine vcL_split 2 fun K' hK' => ?_
          simp (maxSteps := 1000000) (disch := first | omega | assumption)
          repeat' refine And.intro ?_ ?_
          all_goals first | omega | exact rfl | skip
          refine hK' _ ?_
          clear hK' K'
          simp only [List.drop_succ_cons, List.drop_zero]
          refine vcL_step fun K' hK' => ?_
          simp (maxSteps := 1000000) (disch := first | omega | assumption)
          refine Ct.mono (Ct.of_le (leaving_fn v38.state.look _ ) (by first | exact leArgs_of rfl | (simp [leArgs, leArg]; done)) rfl) ?_
          rintro _ _ ⟨rfl, rfl⟩
          refine hK' _ ?_
          clear hK' K'
          simp (maxSteps := 1000000) (disch := first | omega | assumption)
          repeat' refine And.intro ?_ ?_
          all_goals first | omega | exact rfl | skip
          refine hK _ ?_
          clear hK K
          clear all
          refine q_then_n ?_
          refine awp_ret ?_
          refine q_then_r ?_
          first | (simp [endQ]; done) | (subst_vars; simp_all [endQ]; done)
        · try simp at c5
          refine awp_skip ?_
          refine q_then_n ?_
          refine awp_seq ?_
          refine awp_regionA (c := ⟨[], [], [7]⟩) (by simp only [lite_cons, lite_nil] <;> rfl) fun all hall K hK => ?_
          clear hall
          refine vcL_split 2 fun K' hK' => ?_
          simp (maxSteps := 1000000) (disch := first | omega | assumption)
          repeat' refine And.intro ?_ ?_
          all_goals first | omega | exact rfl | skip
          refine hK' _ ?_
          clear hK' K'
          simp only [List.drop_succ_cons, List.drop_zero]
          refine vcL_step fun K' hK' => ?_
          simp (maxSteps := 1000000) (disch := first | omega | assumption)
          refine Ct.mono (Ct.of_le (moveFinish_fn v41.state _ ) (by first | exact leArgs_of rfl | (simp [leArgs, leArg]; done)) rfl) ?_
          rintro _ _ ⟨rfl, rfl⟩
          generalize hv49 : moveFinish v41.state = v49
          refine hK' _ ?_
          clear hK' K'
          simp (maxSteps := 1000000) (disch := first | omega | assumption)
          repeat' refine And.intro ?_ ?_
          all_goals first | omega | exact rfl | skip
          refine hK _ ?_
          clear hK K
          clear all
          refine q_then_n ?_
          refine awp_seq ?_
          refine awp_keep [5] (by simp only [keepL_nil, keepL_cons, envOf_sel, envOf_nil, sel_t, sel_f, Nat.reduceBEq] <;> rfl) ?_
          refine awp_regionA (c := ⟨[], [], [7]⟩) (by simp only [lite_cons, lite_nil] <;> rfl) fun all hall K hK => ?_
          clear hall
          refine vcL_split 1 fun K' hK' => ?_
          simp (maxSteps := 1000000) (disch := first | omega | assumption)
          repeat' refine And.intro ?_ ?_
          all_goals first | omega | exact rfl | skip
          refine hK' _ ?_
          clear hK' K'
          simp only [List.drop_succ_cons, List.drop_zero]
          refine vcL_step fun K' hK' => ?_
          simp (maxSteps := 1000000) (disch := first | omega | assumption)
          refine Ct.mono (Ct.of_le (finish_fn v49.state _ ) (by first | exact leArgs_of rfl | (simp [leArgs, leArg]; done)) rfl) ?_
          rintro _ _ ⟨rfl, rfl⟩
          generalize hv52 : finish v49.state = v52
          refine hK' _ ?_
          clear hK' K'
          simp (maxSteps := 1000000) (disch := first | omega | assumption)
          repeat' refine And.intro ?_ ?_
          all_goals first | omega | exact rfl | skip
          refine hK _ ?_
          clear hK K
          clear all
          refine q_then_n ?_
          refine awp_seq ?_
          refine awp_keep [5, 9] (by simp only [keepL_nil, keepL_cons, envOf_sel, envOf_nil, sel_t, sel_f, Nat.reduceBEq] <;> rfl) ?_
          refine awp_drawA (c := ⟨[], [], [7]⟩) [.op ⟨false, false, false, false⟩, .op ⟨false, false, false, false⟩, .op ⟨true, false, false, false⟩, .op ⟨false, false, false, false⟩, .op ⟨false, false, false, false⟩, .op ⟨false, false, false, false⟩, .op ⟨false, false, false, false⟩, .op ⟨true, false, false, false⟩, .op ⟨false, false, false, false⟩, .op ⟨false, false, false, false⟩, .op ⟨false, false, false, false⟩, .op ⟨false, false, false, false⟩, .op ⟨false, false, false, false⟩, .op ⟨true, false, false, false⟩, .op ⟨false, false, false, false⟩, .op ⟨false, false, false, false⟩, .op ⟨false, false, false, false⟩, .op ⟨false, false, false, false⟩, .op ⟨false, false, false, false⟩, .op ⟨true, false, false, false⟩, .op ⟨false, false, false, false⟩, .op ⟨false, false, false, false⟩, .op ⟨false, false, false, false⟩, .op ⟨false, false, false, false⟩, .op ⟨true, false, false, false⟩, .pure, .op ⟨true, false, false, false⟩, .pure, .op ⟨false, false, false, false⟩, .op ⟨false, false, false, false⟩, .op ⟨false, false, false, false⟩, .op ⟨false, false, false, false⟩, .op ⟨true, false, false, false⟩, .op ⟨false, false, false, false⟩, .op ⟨false, false, false, false⟩, .op ⟨false, false, false, false⟩] (by kernel_rfl) (by kernel_rfl) (by simp only [lite_cons, lite_nil] <;> rfl) fun all hall K hK => ?_
          have ga4 : guardOf all 4 = some 57 := hall 4
          have ga10 : guardOf all 10 = some 63 := hall 10
          have ga16 : guardOf all 16 = some 69 := hall 16
          have ga22 : guardOf all 22 = some 75 := hall 22
          have ga30 : guardOf all 30 = some 83 := hall 30
          clear hall
          refine vcDL_split 5 (by simp) fun K' hK' => ?_
          simp (maxSteps := 1000000) (disch := first | omega | assumption) [ga4, ga10, ga16, ga22, ga30]
          repeat' refine And.intro ?_ ?_
          all_goals first | omega | exact rfl | skip
          refine hK' _ ?_
          clear hK' K'
          simp only [List.drop_succ_cons, List.drop_zero]
          refine vcDL_bool 57 (by simp <;> rfl) ?_
          refine ⟨fun g6 => ?_, fun g6 => ?_⟩
          · try simp at g6
            refine vcDL_split 6 (by simp) fun K' hK' => ?_
            simp (maxSteps := 1000000) (disch := first | omega | assumption) [ga4, ga10, ga16, ga22, ga30]
            repeat' refine And.intro ?_ ?_
            all_goals first | omega | exact rfl | skip
            refine hK' _ ?_
            clear hK' K'
            simp only [List.drop_succ_cons, List.drop_zero]
            refine vcDL_split 6 (by simp) fun K' hK' => ?_
            simp (maxSteps := 1000000) (disch := first | omega | assumption) [ga4, ga10, ga16, ga22, ga30]
            repeat' refine And.intro ?_ ?_
            all_goals first | omega | exact rfl | skip
            refine hK' _ ?_
            clear hK' K'
            simp only [List.drop_succ_cons, List.drop_zero]
            refine vcDL_split 6 (by simp) fun K' hK' => ?_
            simp (maxSteps := 1000000) (disch := first | omega | assumption) [ga4, ga10, ga16, ga22, ga30]
            repeat' refine And.intro ?_ ?_
            all_goals first | omega | exact rfl | skip
            refine hK' _ ?_
            clear hK' K'
            simp only [List.drop_succ_cons, List.drop_zero]
            refine vcDL_bool 75 (by simp <;> rfl) ?_
            refine ⟨fun g7 => ?_, fun g7 => ?_⟩
            · try simp at g7
              refine vcDL_split 2 (by simp) fun K' hK' => ?_
              simp (maxSteps := 1000000) (disch := first | omega | assumption) [ga4, ga10, ga16, ga22, ga30]
              repeat' refine And.intro ?_ ?_
              all_goals first | omega | exact rfl | skip
              refine hK' _ ?_
              clear hK' K'
              simp only [List.drop_succ_cons, List.drop_zero]
              refine vcDL_gt ga22 (by simp <;> rfl) rfl fun K' hK' => ?_
              simp (maxSteps := 1000000) (disch := first | omega | assumption) [ga4, ga10, ga16, ga22, ga30]
              refine ⟨_, fun σ => Ct.of_le (told_fn v52.state _ ) (by first | exact leArgs_of rfl | (simp [leArgs, leArg]; done)) rfl, ?_⟩
              generalize hv78 : told v52.state = v78
              refine hK' _ ?_
              clear hK' K'
              refine vcDL_split 1 (by simp) fun K' hK' => ?_
              simp (maxSteps := 1000000) (disch := first | omega | assumption) [ga4, ga10, ga16, ga22, ga30]
              repeat' refine And.intro ?_ ?_
              all_goals first | omega | exact rfl | skip
              refine hK' _ ?_
              clear hK' K'
              simp only [List.drop_succ_cons, List.drop_zero]
              refine vcDL_gt ga22 (by simp <;> rfl) rfl fun K' hK' => ?_
              simp (maxSteps := 1000000) (disch := first | omega | assumption) [ga4, ga10, ga16, ga22, ga30]
              refine ⟨_, fun σ => Ct.of_le (told_fn v49.state _ ) (by first | exact leArgs_of rfl | (simp [leArgs, leArg]; done)) rfl, ?_⟩
              generalize hv80 : told v49.state = v80
              refine hK' _ ?_
              clear hK' K'
              refine vcDL_split 3 (by simp) fun K' hK' => ?_
              simp (maxSteps := 1000000) (disch := first | omega | assumption) [ga4, ga10, ga16, ga22, ga30]
              repeat' refine And.intro ?_ ?_
              all_goals first | omega | exact rfl | skip
              refine hK' _ ?_
              clear hK' K'
              simp only [List.drop_succ_cons, List.drop_zero]
              refine vcDL_bool 83 (by simp <;> rfl) ?_
              refine ⟨fun g8 => ?_, fun g8 => ?_⟩
              · try simp at g8
                simp (maxSteps := 1000000) (disch := first | omega | assumption) [ga4, ga10, ga16, ga22, ga30]
                repeat' refine And.intro ?_ ?_
                all_goals first | omega | exact rfl | skip
                refine hK _ ?_
                clear hK K
                clear ga4 ga10 ga16 ga22 ga30
                clear all
                refine q_then_n ?_
                refine awp_ret ?_
                first | (simp [endQ]; done) | (subst_vars; simp_all [endQ]; done)
              · try simp at g8
                simp (maxSteps := 1000000) (disch := first | omega | assumption) [ga4, ga10, ga16, ga22, ga30]
                repeat' refine And.intro ?_ ?_
                all_goals first | omega | exact rfl | skip
                refine hK _ ?_
                clear hK K
                clear ga4 ga10 ga16 ga22 ga30
                clear all
                refine q_then_n ?_
                refine awp_ret ?_
                first | (simp [endQ]; done) | (subst_vars; simp_all [endQ]; done)
            · try simp at g7
              refine vcDL_split 8 (by simp) fun K' hK' => ?_
              simp (maxSteps := 1000000) (disch := first | omega | assumption) [ga4, ga10, ga16, ga22, ga30]
              repeat' refine And.intro ?_ ?_
              all_goals first | omega | exact rfl | skip
              refine hK' _ ?_
              clear hK' K'
              simp only [List.drop_succ_cons, List.drop_zero]
              simp (maxSteps := 1000000) (disch := first | omega | assumption) [ga4, ga10, ga16, ga22, ga30]
              repeat' refine And.intro ?_ ?_
              all_goals first | omega | exact rfl | skip
              refine hK _ ?_
              clear hK K
              clear ga4 ga10 ga16 ga22 ga30
              clear all
              refine q_then_n ?_
              refine awp_ret ?_
              first | (simp [endQ]; done) | (subst_vars; simp_all [endQ]; done)
          · try simp at g6
            refine vcDL_split 6 (by simp) fun K' hK' => ?_
            simp (maxSteps := 1000000) (disch := first | omega | assumption) [ga4, ga10, ga16, ga22, ga30]
            repeat' refine And.intro ?_ ?_
            all_goals first | omega | exact rfl | skip
            refine hK' _ ?_
            clear hK' K'
            simp only [List.drop_succ_cons, List.drop_zero]
            refine vcDL_bool 63 (by simp <;> rfl) ?_
            refine ⟨fun g9 => ?_, fun g9 => ?_⟩
            · try simp at g9
              refine vcDL_split 6 (by simp) fun K' hK' => ?_
              simp (maxSteps := 1000000) (disch := first | omega | assumption) [ga4, ga10, ga16, ga22, ga30]
              repeat' refine And.intro ?_ ?_
              all_goals first | omega | exact rfl | skip
              refine hK' _ ?_
              clear hK' K'
              simp only [List.drop_succ_cons, List.drop_zero]
              refine vcDL_split 6 (by simp) fun K' hK' => ?_
              simp (maxSteps := 1000000) (disch := first | omega | assumption) [ga4, ga10, ga16, ga22, ga30]
              repeat' refine And.intro ?_ ?_
              all_goals first | omega | exact rfl | skip
              refine hK' _ ?_
              clear hK' K'
              simp only [List.drop_succ_cons, List.drop_zero]
              refine vcDL_bool 75 (by simp <;> rfl) ?_
              refine ⟨fun g10 => ?_, fun g10 => ?_⟩
              · try simp at g10
                refine vcDL_split 2 (by simp) fun K' hK' => ?_
                simp (maxSteps := 1000000) (disch := first | omega | assumption) [ga4, ga10, ga16, ga22, ga30]
                repeat' refine And.intro ?_ ?_
                all_goals first | omega | exact rfl | skip
                refine hK' _ ?_
                clear hK' K'
                simp only [List.drop_succ_cons, List.drop_zero]
                refine vcDL_gt ga22 (by simp <;> rfl) rfl fun K' hK' => ?_
                simp (maxSteps := 1000000) (disch := first | omega | assumption) [ga4, ga10, ga16, ga22, ga30]
                refine ⟨_, fun σ => Ct.of_le (told_fn v52.state _ ) (by first | exact leArgs_of rfl | (simp [leArgs, leArg]; done)) rfl, ?_⟩
                generalize hv78 : told v52.state = v78
                refine hK' _ ?_
                clear hK' K'
                refine vcDL_split 1 (by simp) fun K' hK' => ?_
                simp (maxSteps := 1000000) (disch := first | omega | assumption) [ga4, ga10, ga16, ga22, ga30]
                repeat' refine And.intro ?_ ?_
                all_goals first | omega | exact rfl | skip
                refine hK' _ ?_
                clear hK' K'
                simp only [List.drop_succ_cons, List.drop_zero]
                refine vcDL_gt ga22 (by simp <;> rfl) rfl fun K' hK' => ?_
                simp (maxSteps := 1000000) (disch := first | omega | assumption) [ga4, ga10, ga16, ga22, ga30]
                refine ⟨_, fun σ => Ct.of_le (told_fn v49.state _ ) (by first | exact leArgs_of rfl | (simp [leArgs, leArg]; done)) rfl, ?_⟩
                generalize hv80 : told v49.state = v80
                refine hK' _ ?_
                clear hK' K'
                refine vcDL_split 3 (by simp) fun K' hK' => ?_
                simp (maxSteps := 1000000) (disch := first | omega | assumption) [ga4, ga10, ga16, ga22, ga30]
                repeat' refine And.intro ?_ ?_
                all_goals first | omega | exact rfl | skip
                refine hK' _ ?_
                clear hK' K'
                simp only [List.drop_succ_cons, List.drop_zero]
                refine vcDL_bool 83 (by simp <;> rfl) ?_
                refine ⟨fun g11 => ?_, fun g11 => ?_⟩
                · try simp at g11
                  simp (maxSteps := 1000000) (disch := first | omega | assumption) [ga4, ga10, ga16, ga22, ga30]
                  repeat' refine And.intro ?_ ?_
                  all_goals first | omega | exact rfl | skip
                  refine hK _ ?_
                  clear hK K
                  clear ga4 ga10 ga16 ga22 ga30
                  clear all
                  refine q_then_n ?_
                  refine awp_ret ?_
                  first | (simp [endQ]; done) | (subst_vars; simp_all [endQ]; done)
                · try simp at g11
                  simp (maxSteps := 1000000) (disch := first | omega | assumption) [ga4, ga10, ga16, ga22, ga30]
                  repeat' refine And.intro ?_ ?_
                  all_goals first | omega | exact rfl | skip
                  refine hK _ ?_
                  clear hK K
                  clear ga4 ga10 ga16 ga22 ga30
                  clear all
                  refine q_then_n ?_
                  refine awp_ret ?_
                  first | (simp [endQ]; done) | (subst_vars; simp_all [endQ]; done)
              · try simp at g10
                refine vcDL_split 8 (by simp) fun K' hK' => ?_
                simp (maxSteps := 1000000) (disch := first | omega | assumption) [ga4, ga10, ga16, ga22, ga30]
                repeat' refine And.intro ?_ ?_
                all_goals first | omega | exact rfl | skip
                refine hK' _ ?_
                clear hK' K'
                simp only [List.drop_succ_cons, List.drop_zero]
                simp (maxSteps := 1000000) (disch := first | omega | assumption) [ga4, ga10, ga16, ga22, ga30]
                repeat' refine And.intro ?_ ?_
                all_goals first | omega | exact rfl | skip
                refine hK _ ?_
                clear hK K
                clear ga4 ga10 ga16 ga22 ga30
                clear all
                refine q_then_n ?_
                refine awp_ret ?_
                first | (simp [endQ]; done) | (subst_vars; simp_all [endQ]; done)
            · try simp at g9
              refine vcDL_split 6 (by simp) fun K' hK' => ?_
              simp (maxSteps := 1000000) (disch := first | omega | assumption) [ga4, ga10, ga16, ga22, ga30]
              repeat' refine And.intro ?_ ?_
              all_goals first | omega | exact rfl | skip
              refine hK' _ ?_
              clear hK' K'
              simp only [List.drop_succ_cons, List.drop_zero]
              refine vcDL_bool 69 (by simp <;> rfl) ?_
              refine ⟨fun g12 => ?_, fun g12 => ?_⟩
              · try simp at g12
                refine vcDL_split 6 (by simp) fun K' hK' => ?_
                simp (maxSteps := 1000000) (disch := first | omega | assumption) [ga4, ga10, ga16, ga22, ga30]
                repeat' refine And.intro ?_ ?_
                all_goals first | omega | exact rfl | skip
                refine hK' _ ?_
                clear hK' K'
                simp only [List.drop_succ_cons, List.drop_zero]
                refine vcDL_bool 75 (by simp <;> rfl) ?_
                refine ⟨fun g13 => ?_, fun g13 => ?_⟩
                · try simp at g13
                  refine vcDL_split 2 (by simp) fun K' hK' => ?_
                  simp (maxSteps := 1000000) (disch := first | omega | assumption) [ga4, ga10, ga16, ga22, ga30]
                  repeat' refine And.intro ?_ ?_
                  all_goals first | omega | exact rfl | skip
                  refine hK' _ ?_
                  clear hK' K'
                  simp only [List.drop_succ_cons, List.drop_zero]
                  refine vcDL_gt ga22 (by simp <;> rfl) rfl fun K' hK' => ?_
                  simp (maxSteps := 1000000) (disch := first | omega | assumption) [ga4, ga10, ga16, ga22, ga30]
                  refine ⟨_, fun σ => Ct.of_le (told_fn v52.state _ ) (by first | exact leArgs_of rfl | (simp [leArgs, leArg]; done)) rfl, ?_⟩
                  generalize hv78 : told v52.state = v78
                  refine hK' _ ?_
                  clear hK' K'
                  refine vcDL_split 1 (by simp) fun K' hK' => ?_
                  simp (maxSteps := 1000000) (disch := first | omega | assumption) [ga4, ga10, ga16, ga22, ga30]
                  repeat' refine And.intro ?_ ?_
                  all_goals first | omega | exact rfl | skip
                  refine hK' _ ?_
                  clear hK' K'
                  simp only [List.drop_succ_cons, List.drop_zero]
                  refine vcDL_gt ga22 (by simp <;> rfl) rfl fun K' hK' => ?_
                  simp (maxSteps := 1000000) (disch := first | omega | assumption) [ga4, ga10, ga16, ga22, ga30]
                  refine ⟨_, fun σ => Ct.of_le (told_fn v49.state _ ) (by first | exact leArgs_of rfl | (simp [leArgs, leArg]; done)) rfl, ?_⟩
                  generalize hv80 : told v49.state = v80
                  refine hK' _ ?_
                  clear hK' K'
                  refine vcDL_split 3 (by simp) fun K' hK' => ?_
                  simp (maxSteps := 1000000) (disch := first | omega | assumption) [ga4, ga10, ga16, ga22, ga30]
                  repeat' refine And.intro ?_ ?_
                  all_goals first | omega | exact rfl | skip
                  refine hK' _ ?_
                  clear hK' K'
                  simp only [List.drop_succ_cons, List.drop_zero]
                  refine vcDL_bool 83 (by simp <;> rfl) ?_
                  refine ⟨fun g14 => ?_, fun g14 => ?_⟩
                  · try simp at g14
                    simp (maxSteps := 1000000) (disch := first | omega | assumption) [ga4, ga10, ga16, ga22, ga30]
                    repeat' refine And.intro ?_ ?_
                    all_goals first | omega | exact rfl | skip
                    refine hK _ ?_
                    clear hK K
                    clear ga4 ga10 ga16 ga22 ga30
                    clear all
                    refine q_then_n ?_
                    refine awp_ret ?_
                    first | (simp [endQ]; done) | (subst_vars; simp_all [endQ]; done)
                  · try simp at g14
                    simp (maxSteps := 1000000) (disch := first | omega | assumption) [ga4, ga10, ga16, ga22, ga30]
                    repeat' refine And.intro ?_ ?_
                    all_goals first | omega | exact rfl | skip
                    refine hK _ ?_
                    clear hK K
                    clear ga4 ga10 ga16 ga22 ga30
                    clear all
                    refine q_then_n ?_
                    refine awp_ret ?_
                    first | (simp [endQ]; done) | (subst_vars; simp_all [endQ]; done)
                · try simp at g13
                  refine vcDL_split 8 (by simp) fun K' hK' => ?_
                  simp (maxSteps := 1000000) (disch := first | omega | assumption) [ga4, ga10, ga16, ga22, ga30]
                  repeat' refine And.intro ?_ ?_
                  all_goals first | omega | exact rfl | skip
                  refine hK' _ ?_
                  clear hK' K'
                  simp only [List.drop_succ_cons, List.drop_zero]
                  simp (maxSteps := 1000000) (disch := first | omega | assumption) [ga4, ga10, ga16, ga22, ga30]
                  repeat' refine And.intro ?_ ?_
                  all_goals first | omega | exact rfl | skip
                  refine hK _ ?_
                  clear hK K
                  clear ga4 ga10 ga16 ga22 ga30
                  clear all
                  refine q_then_n ?_
                  refine awp_ret ?_
                  first | (simp [endQ]; done) | (subst_vars; simp_all [endQ]; done)
              · try simp at g12
                refine vcDL_split 6 (by simp) fun K' hK' => ?_
                simp (maxSteps := 1000000) (disch := first | omega | assumption) [ga4, ga10, ga16, ga22, ga30]
                repeat' refine And.intro ?_ ?_
                all_goals first | omega | exact rfl | skip
                refine hK' _ ?_
                clear hK' K'
                simp only [List.drop_succ_cons, List.drop_zero]
                refine vcDL_split 8 (by simp) fun K' hK' => ?_
                simp (maxSteps := 1000000) (disch := first | omega | assumption) [ga4, ga10, ga16, ga22, ga30]
                repeat' refine And.intro ?_ ?_
                all_goals first | omega | exact rfl | skip
                refine hK' _ ?_
                clear hK' K'
                simp only [List.drop_succ_cons, List.drop_zero]
                simp (maxSteps := 1000000) (disch := first | omega | assumption) [ga4, ga10, ga16, ga22, ga30]
                repeat' refine And.intro ?_ ?_
                all_goals first | omega | exact rfl | skip
                refine hK _ ?_
                clear hK K
                clear ga4 ga10 ga16 ga22 ga30
                clear all
                refine q_then_n ?_
                refine awp_ret ?_
                first | (simp [endQ]; done) | (subst_vars; simp_all [endQ]; done)
    · try simp at g2
      simp (maxSteps := 1000000) (disch := first | omega | assumption) [ga4]
      repeat' refine And.intro ?_ ?_
      all_goals first | omega | exact rfl | skip
      refine hK _ ?_
      clear hK K
      clear ga4
      clear all
      refine q_then_n ?_
      refine awp_cond (t := false) (by simp) (fun h => by cases h) (fun _ => ?_)
      refine awp_exit ?_
      refine q_then_e ?_
      refine q_loop_e ?_
      refine q_block_e ?_
      refine q_then_n ?_
      refine awp_seq ?_
      refine awp_regionA (c := ⟨[], [], [7]⟩) (by simp only [lite_cons, lite_nil] <;> rfl) fun all hall K hK => ?_
      clear hall
      refine vcL_split 1 fun K' hK' => ?_
      simp (maxSteps := 1000000) (disch := first | omega | assumption)
      repeat' refine And.intro ?_ ?_
      all_goals first | omega | exact rfl | skip
      refine hK' _ ?_
      clear hK' K'
      simp only [List.drop_succ_cons, List.drop_zero]
      refine vcL_step fun K' hK' => ?_
      simp (maxSteps := 1000000) (disch := first | omega | assumption)
      refine Ct.mono (Ct.of_le (frame_fn s _ ) (by first | exact leArgs_of rfl | (simp [leArgs, leArg]; done)) rfl) ?_
      rintro _ _ ⟨rfl, rfl⟩
      generalize hv35 : frame s = v35
      refine hK' _ ?_
      clear hK' K'
      simp (maxSteps := 1000000) (disch := first | omega | assumption)
      repeat' refine And.intro ?_ ?_
      all_goals first | omega | exact rfl | skip
      refine hK _ ?_
      clear hK K
      clear all
      refine q_then_n ?_
      refine awp_seq ?_
      refine awp_keep [5] (by simp only [keepL_nil, keepL_cons, envOf_sel, envOf_nil, sel_t, sel_f, Nat.reduceBEq] <;> rfl) ?_
      refine awp_regionA (c := ⟨[], [], [7]⟩) (by simp only [lite_cons, lite_nil] <;> rfl) fun all hall K hK => ?_
      clear hall
      refine vcL_split 1 fun K' hK' => ?_
      simp (maxSteps := 1000000) (disch := first | omega | assumption)
      repeat' refine And.intro ?_ ?_
      all_goals first | omega | exact rfl | skip
      refine hK' _ ?_
      clear hK' K'
      simp only [List.drop_succ_cons, List.drop_zero]
      refine vcL_step fun K' hK' => ?_
      simp (maxSteps := 1000000) (disch := first | omega | assumption)
      refine Ct.mono (Ct.of_le (moveFrame_fn v35.state _ ) (by first | exact leArgs_of rfl | (simp [leArgs, leArg]; done)) rfl) ?_
      rintro _ _ ⟨rfl, rfl⟩
      generalize hv38 : moveFrame v35.state = v38
      refine hK' _ ?_
      clear hK' K'
      simp (maxSteps := 1000000) (disch := first | omega | assumption)
      repeat' refine And.intro ?_ ?_
      all_goals first | omega | exact rfl | skip
      refine hK _ ?_
      clear hK K
      clear all
      refine q_then_n ?_
      refine awp_seq ?_
      refine awp_regionA (c := ⟨[], [], [7]⟩) (by simp only [lite_cons, lite_nil] <;> rfl) fun all hall K hK => ?_
      clear hall
      refine vcL_split 1 fun K' hK' => ?_
      simp (maxSteps := 1000000) (disch := first | omega | assumption)
      repeat' refine And.intro ?_ ?_
      all_goals first | omega | exact rfl | skip
      refine hK' _ ?_
      clear hK' K'
      simp only [List.drop_succ_cons, List.drop_zero]
      refine vcL_step fun K' hK' => ?_
      simp (maxSteps := 1000000) (disch := first | omega | assumption)
      refine Ct.mono (Ct.of_le (finish_fn v38.state _ ) (by first | exact leArgs_of rfl | (simp [leArgs, leArg]; done)) rfl) ?_
      rintro _ _ ⟨rfl, rfl⟩
      generalize hv41 : finish v38.state = v41
      refine hK' _ ?_
      clear hK' K'
      simp (maxSteps := 1000000) (disch := first | omega | assumption)
      repeat' refine And.intro ?_ ?_
      all_goals first | omega | exact rfl | skip
      refine hK _ ?_
      clear hK K
      clear all
      refine q_then_n ?_
      refine awp_seq ?_
      refine awp_seq ?_
      refine awp_regionA (c := ⟨[], [], [7]⟩) (by simp only [lite_cons, lite_nil] <;> rfl) fun all hall K hK => ?_
      clear hall
      simp (maxSteps := 1000000) (disch := first | omega | assumption)
      repeat' refine And.intro ?_ ?_
      all_goals first | omega | exact rfl | skip
      refine hK _ ?_
      clear hK K
      clear all
      refine q_then_n ?_
      refine awp_ifB (by simp <;> rfl) ?_
      refine ⟨fun c15 => ?_, fun c15 => ?_⟩
      · try simp at c15
        refine awp_seq ?_
        refine awp_regionA (c := ⟨[], [], [7]⟩) (by simp only [lite_cons, lite_nil] <;> rfl) fun all hall K hK => ?_
        clear hall
        refine vcL_split 2 fun K' hK' => ?_
        simp (maxSteps := 1000000) (disch := first | omega | assumption)
        repeat' refine And.intro ?_ ?_
        all_goals first | omega | exact rfl | skip
        refine hK' _ ?_
        clear hK' K'
        simp only [List.drop_succ_cons, List.drop_zero]
        refine vcL_step fun K' hK' => ?_
        simp (maxSteps := 1000000) (disch := first | omega | assumption)
        refine Ct.mono (Ct.of_le (leaving_fn v38.state.look _ ) (by first | exact leArgs_of rfl | (simp [leArgs, leArg]; done)) rfl) ?_
        rintro _ _ ⟨rfl, rfl⟩
        refine hK' _ ?_
        clear hK' K'
        simp (maxSteps := 1000000) (disch := first | omega | assumption)
        repeat' refine And.intro ?_ ?_
        all_goals first | omega | exact rfl | skip
        refine hK _ ?_
        clear hK K
        clear all
        refine q_then_n ?_
        refine awp_ret ?_
        refine q_then_r ?_
        first | (simp [endQ]; done) | (subst_vars; simp_all [endQ]; done)
      · try simp at c15
        refine awp_skip ?_
        refine q_then_n ?_
        refine awp_seq ?_
        refine awp_regionA (c := ⟨[], [], [7]⟩) (by simp only [lite_cons, lite_nil] <;> rfl) fun all hall K hK => ?_
        clear hall
        refine vcL_split 2 fun K' hK' => ?_
        simp (maxSteps := 1000000) (disch := first | omega | assumption)
        repeat' refine And.intro ?_ ?_
        all_goals first | omega | exact rfl | skip
        refine hK' _ ?_
        clear hK' K'
        simp only [List.drop_succ_cons, List.drop_zero]
        refine vcL_step fun K' hK' => ?_
        simp (maxSteps := 1000000) (disch := first | omega | assumption)
        refine Ct.mono (Ct.of_le (moveFinish_fn v41.state _ ) (by first | exact leArgs_of rfl | (simp [leArgs, leArg]; done)) rfl) ?_
        rintro _ _ ⟨rfl, rfl⟩
        generalize hv49 : moveFinish v41.state = v49
        refine hK' _ ?_
        clear hK' K'
        simp (maxSteps := 1000000) (disch := first | omega | assumption)
        repeat' refine And.intro ?_ ?_
        all_goals first | omega | exact rfl | skip
        refine hK _ ?_
        clear hK K
        clear all
        refine q_then_n ?_
        refine awp_seq ?_
        refine awp_keep [5] (by simp only [keepL_nil, keepL_cons, envOf_sel, envOf_nil, sel_t, sel_f, Nat.reduceBEq] <;> rfl) ?_
        refine awp_regionA (c := ⟨[], [], [7]⟩) (by simp only [lite_cons, lite_nil] <;> rfl) fun all hall K hK => ?_
        clear hall
        refine vcL_split 1 fun K' hK' => ?_
        simp (maxSteps := 1000000) (disch := first | omega | assumption)
        repeat' refine And.intro ?_ ?_
        all_goals first | omega | exact rfl | skip
        refine hK' _ ?_
        clear hK' K'
        simp only [List.drop_succ_cons, List.drop_zero]
        refine vcL_step fun K' hK' => ?_
        simp (maxSteps := 1000000) (disch := first | omega | assumption)
        refine Ct.mono (Ct.of_le (finish_fn v49.state _ ) (by first | exact leArgs_of rfl | (simp [leArgs, leArg]; done)) rfl) ?_
        rintro _ _ ⟨rfl, rfl⟩
        generalize hv52 : finish v49.state = v52
        refine hK' _ ?_
        clear hK' K'
        simp (maxSteps := 1000000) (disch := first | omega | assumption)
        repeat' refine And.intro ?_ ?_
        all_goals first | omega | exact rfl | skip
        refine hK _ ?_
        clear hK K
        clear all
        refine q_then_n ?_
        refine awp_seq ?_
        refine awp_keep [5, 9] (by simp only [keepL_nil, keepL_cons, envOf_sel, envOf_nil, sel_t, sel_f, Nat.reduceBEq] <;> rfl) ?_
        refine awp_drawA (c := ⟨[], [], [7]⟩) [.op ⟨false, false, false, false⟩, .op ⟨false, false, false, false⟩, .op ⟨true, false, false, false⟩, .op ⟨false, false, false, false⟩, .op ⟨false, false, false, false⟩, .op ⟨false, false, false, false⟩, .op ⟨false, false, false, false⟩, .op ⟨true, false, false, false⟩, .op ⟨false, false, false, false⟩, .op ⟨false, false, false, false⟩, .op ⟨false, false, false, false⟩, .op ⟨false, false, false, false⟩, .op ⟨false, false, false, false⟩, .op ⟨true, false, false, false⟩, .op ⟨false, false, false, false⟩, .op ⟨false, false, false, false⟩, .op ⟨false, false, false, false⟩, .op ⟨false, false, false, false⟩, .op ⟨false, false, false, false⟩, .op ⟨true, false, false, false⟩, .op ⟨false, false, false, false⟩, .op ⟨false, false, false, false⟩, .op ⟨false, false, false, false⟩, .op ⟨false, false, false, false⟩, .op ⟨true, false, false, false⟩, .pure, .op ⟨true, false, false, false⟩, .pure, .op ⟨false, false, false, false⟩, .op ⟨false, false, false, false⟩, .op ⟨false, false, false, false⟩, .op ⟨false, false, false, false⟩, .op ⟨true, false, false, false⟩, .op ⟨false, false, false, false⟩, .op ⟨false, false, false, false⟩, .op ⟨false, false, false, false⟩] (by kernel_rfl) (by kernel_rfl) (by simp only [lite_cons, lite_nil] <;> rfl) fun all hall K hK => ?_
        have ga4 : guardOf all 4 = some 57 := hall 4
        have ga10 : guardOf all 10 = some 63 := hall 10
        have ga16 : guardOf all 16 = some 69 := hall 16
        have ga22 : guardOf all 22 = some 75 := hall 22
        have ga30 : guardOf all 30 = some 83 := hall 30
        clear hall
        refine vcDL_split 5 (by simp) fun K' hK' => ?_
        simp (maxSteps := 1000000) (disch := first | omega | assumption) [ga4, ga10, ga16, ga22, ga30]
        repeat' refine And.intro ?_ ?_
        all_goals first | omega | exact rfl | skip
        refine hK' _ ?_
        clear hK' K'
        simp only [List.drop_succ_cons, List.drop_zero]
        refine vcDL_bool 57 (by simp <;> rfl) ?_
        refine ⟨fun g16 => ?_, fun g16 => ?_⟩
        · try simp at g16
          refine vcDL_split 6 (by simp) fun K' hK' => ?_
          simp (maxSteps := 1000000) (disch := first | omega | assumption) [ga4, ga10, ga16, ga22, ga30]
          repeat' refine And.intro ?_ ?_
          all_goals first | omega | exact rfl | skip
          refine hK' _ ?_
          clear hK' K'
          simp only [List.drop_succ_cons, List.drop_zero]
          refine vcDL_split 6 (by simp) fun K' hK' => ?_
          simp (maxSteps := 1000000) (disch := first | omega | assumption) [ga4, ga10, ga16, ga22, ga30]
          repeat' refine And.intro ?_ ?_
          all_goals first | omega | exact rfl | skip
          refine hK' _ ?_
          clear hK' K'
          simp only [List.drop_succ_cons, List.drop_zero]
          refine vcDL_split 6 (by simp) fun K' hK' => ?_
          simp (maxSteps := 1000000) (disch := first | omega | assumption) [ga4, ga10, ga16, ga22, ga30]
          repeat' refine And.intro ?_ ?_
          all_goals first | omega | exact rfl | skip
          refine hK' _ ?_
          clear hK' K'
          simp only [List.drop_succ_cons, List.drop_zero]
          refine vcDL_bool 75 (by simp <;> rfl) ?_
          refine ⟨fun g17 => ?_, fun g17 => ?_⟩
          · try simp at g17
            refine vcDL_split 2 (by simp) fun K' hK' => ?_
            simp (maxSteps := 1000000) (disch := first | omega | assumption) [ga4, ga10, ga16, ga22, ga30]
            repeat' refine And.intro ?_ ?_
            all_goals first | omega | exact rfl | skip
            refine hK' _ ?_
            clear hK' K'
            simp only [List.drop_succ_cons, List.drop_zero]
            refine vcDL_gt ga22 (by simp <;> rfl) rfl fun K' hK' => ?_
            simp (maxSteps := 1000000) (disch := first | omega | assumption) [ga4, ga10, ga16, ga22, ga30]
            refine ⟨_, fun σ => Ct.of_le (told_fn v52.state _ ) (by first | exact leArgs_of rfl | (simp [leArgs, leArg]; done)) rfl, ?_⟩
            generalize hv78 : told v52.state = v78
            refine hK' _ ?_
            clear hK' K'
            refine vcDL_split 1 (by simp) fun K' hK' => ?_
            simp (maxSteps := 1000000) (disch := first | omega | assumption) [ga4, ga10, ga16, ga22, ga30]
            repeat' refine And.intro ?_ ?_
            all_goals first | omega | exact rfl | skip
            refine hK' _ ?_
            clear hK' K'
            simp only [List.drop_succ_cons, List.drop_zero]
            refine vcDL_gt ga22 (by simp <;> rfl) rfl fun K' hK' => ?_
            simp (maxSteps := 1000000) (disch := first | omega | assumption) [ga4, ga10, ga16, ga22, ga30]
            refine ⟨_, fun σ => Ct.of_le (told_fn v49.state _ ) (by first | exact leArgs_of rfl | (simp [leArgs, leArg]; done)) rfl, ?_⟩
            generalize hv80 : told v49.state = v80
            refine hK' _ ?_
            clear hK' K'
            refine vcDL_split 3 (by simp) fun K' hK' => ?_
            simp (maxSteps := 1000000) (disch := first | omega | assumption) [ga4, ga10, ga16, ga22, ga30]
            repeat' refine And.intro ?_ ?_
            all_goals first | omega | exact rfl | skip
            refine hK' _ ?_
            clear hK' K'
            simp only [List.drop_succ_cons, List.drop_zero]
            refine vcDL_bool 83 (by simp <;> rfl) ?_
            refine ⟨fun g18 => ?_, fun g18 => ?_⟩
            · try simp at g18
              simp (maxSteps := 1000000) (disch := first | omega | assumption) [ga4, ga10, ga16, ga22, ga30]
              repeat' refine And.intro ?_ ?_
              all_goals first | omega | exact rfl | skip
              refine hK _ ?_
              clear hK K
              clear ga4 ga10 ga16 ga22 ga30
              clear all
              refine q_then_n ?_
              refine awp_ret ?_
              first | (simp [endQ]; done) | (subst_vars; simp_all [endQ]; done)
            · try simp at g18
              simp (maxSteps := 1000000) (disch := first | omega | assumption) [ga4, ga10, ga16, ga22, ga30]
              repeat' refine And.intro ?_ ?_
              all_goals first | omega | exact rfl | skip
              refine hK _ ?_
              clear hK K
              clear ga4 ga10 ga16 ga22 ga30
              clear all
              refine q_then_n ?_
              refine awp_ret ?_
              first | (simp [endQ]; done) | (subst_vars; simp_all [endQ]; done)
          · try simp at g17
            refine vcDL_split 8 (by simp) fun K' hK' => ?_
            simp (maxSteps := 1000000) (disch := first | omega | assumption) [ga4, ga10, ga16, ga22, ga30]
            repeat' refine And.intro ?_ ?_
            all_goals first | omega | exact rfl | skip
            refine hK' _ ?_
            clear hK' K'
            simp only [List.drop_succ_cons, List.drop_zero]
            simp (maxSteps := 1000000) (disch := first | omega | assumption) [ga4, ga10, ga16, ga22, ga30]
            repeat' refine And.intro ?_ ?_
            all_goals first | omega | exact rfl | skip
            refine hK _ ?_
            clear hK K
            clear ga4 ga10 ga16 ga22 ga30
            clear all
            refine q_then_n ?_
            refine awp_ret ?_
            first | (simp [endQ]; done) | (subst_vars; simp_all [endQ]; done)
        · try simp at g16
          refine vcDL_split 6 (by simp) fun K' hK' => ?_
          simp (maxSteps := 1000000) (disch := first | omega | assumption) [ga4, ga10, ga16, ga22, ga30]
          repeat' refine And.intro ?_ ?_
          all_goals first | omega | exact rfl | skip
          refine hK' _ ?_
          clear hK' K'
          simp only [List.drop_succ_cons, List.drop_zero]
          refine vcDL_bool 63 (by simp <;> rfl) ?_
          refine ⟨fun g19 => ?_, fun g19 => ?_⟩
          · try simp at g19
            refine vcDL_split 6 (by simp) fun K' hK' => ?_
            simp (maxSteps := 1000000) (disch := first | omega | assumption) [ga4, ga10, ga16, ga22, ga30]
            repeat' refine And.intro ?_ ?_
            all_goals first | omega | exact rfl | skip
            refine hK' _ ?_
            clear hK' K'
            simp only [List.drop_succ_cons, List.drop_zero]
            refine vcDL_split 6 (by simp) fun K' hK' => ?_
            simp (maxSteps := 1000000) (disch := first | omega | assumption) [ga4, ga10, ga16, ga22, ga30]
            repeat' refine And.intro ?_ ?_
            all_goals first | omega | exact rfl | skip
            refine hK' _ ?_
            clear hK' K'
            simp only [List.drop_succ_cons, List.drop_zero]
            refine vcDL_bool 75 (by simp <;> rfl) ?_
            refine ⟨fun g20 => ?_, fun g20 => ?_⟩
            · try simp at g20
              refine vcDL_split 2 (by simp) fun K' hK' => ?_
              simp (maxSteps := 1000000) (disch := first | omega | assumption) [ga4, ga10, ga16, ga22, ga30]
              repeat' refine And.intro ?_ ?_
              all_goals first | omega | exact rfl | skip
              refine hK' _ ?_
              clear hK' K'
              simp only [List.drop_succ_cons, List.drop_zero]
              refine vcDL_gt ga22 (by simp <;> rfl) rfl fun K' hK' => ?_
              simp (maxSteps := 1000000) (disch := first | omega | assumption) [ga4, ga10, ga16, ga22, ga30]
              refine ⟨_, fun σ => Ct.of_le (told_fn v52.state _ ) (by first | exact leArgs_of rfl | (simp [leArgs, leArg]; done)) rfl, ?_⟩
              generalize hv78 : told v52.state = v78
              refine hK' _ ?_
              clear hK' K'
              refine vcDL_split 1 (by simp) fun K' hK' => ?_
              simp (maxSteps := 1000000) (disch := first | omega | assumption) [ga4, ga10, ga16, ga22, ga30]
              repeat' refine And.intro ?_ ?_
              all_goals first | omega | exact rfl | skip
              refine hK' _ ?_
              clear hK' K'
              simp only [List.drop_succ_cons, List.drop_zero]
              refine vcDL_gt ga22 (by simp <;> rfl) rfl fun K' hK' => ?_
              simp (maxSteps := 1000000) (disch := first | omega | assumption) [ga4, ga10, ga16, ga22, ga30]
              refine ⟨_, fun σ => Ct.of_le (told_fn v49.state _ ) (by first | exact leArgs_of rfl | (simp [leArgs, leArg]; done)) rfl, ?_⟩
              generalize hv80 : told v49.state = v80
              refine hK' _ ?_
              clear hK' K'
              refine vcDL_split 3 (by simp) fun K' hK' => ?_
              simp (maxSteps := 1000000) (disch := first | omega | assumption) [ga4, ga10, ga16, ga22, ga30]
              repeat' refine And.intro ?_ ?_
              all_goals first | omega | exact rfl | skip
              refine hK' _ ?_
              clear hK' K'
              simp only [List.drop_succ_cons, List.drop_zero]
              refine vcDL_bool 83 (by simp <;> rfl) ?_
              refine ⟨fun g21 => ?_, fun g21 => ?_⟩
              · try simp at g21
                simp (maxSteps := 1000000) (disch := first | omega | assumption) [ga4, ga10, ga16, ga22, ga30]
                repeat' refine And.intro ?_ ?_
                all_goals first | omega | exact rfl | skip
                refine hK _ ?_
                clear hK K
                clear ga4 ga10 ga16 ga22 ga30
                clear all
                refine q_then_n ?_
                refine awp_ret ?_
                first | (simp [endQ]; done) | (subst_vars; simp_all [endQ]; done)
              · try simp at g21
                simp (maxSteps := 1000000) (disch := first | omega | assumption) [ga4, ga10, ga16, ga22, ga30]
                repeat' refine And.intro ?_ ?_
                all_goals first | omega | exact rfl | skip
                refine hK _ ?_
                clear hK K
                clear ga4 ga10 ga16 ga22 ga30
                clear all
                refine q_then_n ?_
                refine awp_ret ?_
                first | (simp [endQ]; done) | (subst_vars; simp_all [endQ]; done)
            · try simp at g20
              refine vcDL_split 8 (by simp) fun K' hK' => ?_
              simp (maxSteps := 1000000) (disch := first | omega | assumption) [ga4, ga10, ga16, ga22, ga30]
              repeat' refine And.intro ?_ ?_
              all_goals first | omega | exact rfl | skip
              refine hK' _ ?_
              clear hK' K'
              simp only [List.drop_succ_cons, List.drop_zero]
              simp (maxSteps := 1000000) (disch := first | omega | assumption) [ga4, ga10, ga16, ga22, ga30]
              repeat' refine And.intro ?_ ?_
              all_goals first | omega | exact rfl | skip
              refine hK _ ?_
              clear hK K
              clear ga4 ga10 ga16 ga22 ga30
              clear all
              refine q_then_n ?_
              refine awp_ret ?_
              first | (simp [endQ]; done) | (subst_vars; simp_all [endQ]; done)
          · try simp at g19
            refine vcDL_split 6 (by simp) fun K' hK' => ?_
            simp (maxSteps := 1000000) (disch := first | omega | assumption) [ga4, ga10, ga16, ga22, ga30]
            repeat' refine And.intro ?_ ?_
            all_goals first | omega | exact rfl | skip
            refine hK' _ ?_
            clear hK' K'
            simp only [List.drop_succ_cons, List.drop_zero]
            refine vcDL_bool 69 (by simp <;> rfl) ?_
            refine ⟨fun g22 => ?_, fun g22 => ?_⟩
            · try simp at g22
              refine vcDL_split 6 (by simp) fun K' hK' => ?_
              simp (maxSteps := 1000000) (disch := first | omega | assumption) [ga4, ga10, ga16, ga22, ga30]
              repeat' refine And.intro ?_ ?_
              all_goals first | omega | exact rfl | skip
              refine hK' _ ?_
              clear hK' K'
              simp only [List.drop_succ_cons, List.drop_zero]
              refine vcDL_bool 75 (by simp <;> rfl) ?_
              refine ⟨fun g23 => ?_, fun g23 => ?_⟩
              · try simp at g23
                refine vcDL_split 2 (by simp) fun K' hK' => ?_
                simp (maxSteps := 1000000) (disch := first | omega | assumption) [ga4, ga10, ga16, ga22, ga30]
                repeat' refine And.intro ?_ ?_
                all_goals first | omega | exact rfl | skip
                refine hK' _ ?_
                clear hK' K'
                simp only [List.drop_succ_cons, List.drop_zero]
                refine vcDL_gt ga22 (by simp <;> rfl) rfl fun K' hK' => ?_
                simp (maxSteps := 1000000) (disch := first | omega | assumption) [ga4, ga10, ga16, ga22, ga30]
                refine ⟨_, fun σ => Ct.of_le (told_fn v52.state _ ) (by first | exact leArgs_of rfl | (simp [leArgs, leArg]; done)) rfl, ?_⟩
                generalize hv78 : told v52.state = v78
                refine hK' _ ?_
                clear hK' K'
                refine vcDL_split 1 (by simp) fun K' hK' => ?_
                simp (maxSteps := 1000000) (disch := first | omega | assumption) [ga4, ga10, ga16, ga22, ga30]
                repeat' refine And.intro ?_ ?_
                all_goals first | omega | exact rfl | skip
                refine hK' _ ?_
                clear hK' K'
                simp only [List.drop_succ_cons, List.drop_zero]
                refine vcDL_gt ga22 (by simp <;> rfl) rfl fun K' hK' => ?_
                simp (maxSteps := 1000000) (disch := first | omega | assumption) [ga4, ga10, ga16, ga22, ga30]
                refine ⟨_, fun σ => Ct.of_le (told_fn v49.state _ ) (by first | exact leArgs_of rfl | (simp [leArgs, leArg]; done)) rfl, ?_⟩
                generalize hv80 : told v49.state = v80
                refine hK' _ ?_
                clear hK' K'
                refine vcDL_split 3 (by simp) fun K' hK' => ?_
                simp (maxSteps := 1000000) (disch := first | omega | assumption) [ga4, ga10, ga16, ga22, ga30]
                repeat' refine And.intro ?_ ?_
                all_goals first | omega | exact rfl | skip
                refine hK' _ ?_
                clear hK' K'
                simp only [List.drop_succ_cons, List.drop_zero]
                refine vcDL_bool 83 (by simp <;> rfl) ?_
                refine ⟨fun g24 => ?_, fun g24 => ?_⟩
                · try simp at g24
                  simp (maxSteps := 1000000) (disch := first | omega | assumption) [ga4, ga10, ga16, ga22, ga30]
                  repeat' refine And.intro ?_ ?_
                  all_goals first | omega | exact rfl | skip
                  refine hK _ ?_
                  clear hK K
                  clear ga4 ga10 ga16 ga22 ga30
                  clear all
                  refine q_then_n ?_
                  refine awp_ret ?_
                  first | (simp [endQ]; done) | (subst_vars; simp_all [endQ]; done)
                · try simp at g24
                  simp (maxSteps := 1000000) (disch := first | omega | assumption) [ga4, ga10, ga16, ga22, ga30]
                  repeat' refine And.intro ?_ ?_
                  all_goals first | omega | exact rfl | skip
                  refine hK _ ?_
                  clear hK K
                  clear ga4 ga10 ga16 ga22 ga30
                  clear all
                  refine q_then_n ?_
                  refine awp_ret ?_
                  first | (simp [endQ]; done) | (subst_vars; simp_all [endQ]; done)
              · try simp at g23
                refine vcDL_split 8 (by simp) fun K' hK' => ?_
                simp (maxSteps := 1000000) (disch := first | omega | assumption) [ga4, ga10, ga16, ga22, ga30]
                repeat' refine And.intro ?_ ?_
                all_goals first | omega | exact rfl | skip
                refine hK' _ ?_
                clear hK' K'
                simp only [List.drop_succ_cons, List.drop_zero]
                simp (maxSteps := 1000000) (disch := first | omega | assumption) [ga4, ga10, ga16, ga22, ga30]
                repeat' refine And.intro ?_ ?_
                all_goals first | omega | exact rfl | skip
                refine hK _ ?_
                clear hK K
                clear ga4 ga10 ga16 ga22 ga30
                clear all
                refine q_then_n ?_
                refine awp_ret ?_
                first | (simp [endQ]; done) | (subst_vars; simp_all [endQ]; done)
            · try simp at g22
              refine vcDL_split 6 (by simp) fun K' hK' => ?_
              simp (maxSteps := 1000000) (disch := first | omega | assumption) [ga4, ga10, ga16, ga22, ga30]
              repeat' refine And.intro ?_ ?_
              all_goals first | omega | exact rfl | skip
              refine hK' _ ?_
              clear hK' K'
              simp only [List.drop_succ_cons, List.drop_zero]
              refine vcDL_split 8 (by simp) fun K' hK' => ?_
              simp (maxSteps := 1000000) (disch := first | omega | assumption) [ga4, ga10, ga16, ga22, ga30]
              repeat' refine And.intro ?_ ?_
              all_goals first | omega | exact rfl | skip
              refine hK' _ ?_
              clear hK' K'
              simp only [List.drop_succ_cons, List.drop_zero]
              simp (maxSteps := 1000000) (disch := first | omega | assumption) [ga4, ga10, ga16, ga22, ga30]
              repeat' refine And.intro ?_ ?_
              all_goals first | omega | exact rfl | skip
              refine hK _ ?_
              clear hK K
              clear ga4 ga10 ga16 ga22 ga30
              clear all
              refine q_then_n ?_
              refine awp_ret ?_
              first | (simp [endQ]; done) | (subst_vars; simp_all [endQ]; done)

end Go.Proofs.Ythieajadepfeoaa

/- Walks: contracts of functions. Written by a program of ours out of annotations. -/
import Derived.Test.YthieajadepfeoaaWkPhase3
namespace Go.Proofs.Ythieajadepfeoaa
open Go Go.Vm
set_option maxRecDepth 20000
set_option linter.all false
set_option maxHeartbeats 8000000

-- scrim/scrimlaw21.PhaseWords
theorem lawWords_fn (fresh : Bool) (acts : List Act) (hl : acts.length ≤ 9223372036854775807) : Ct Try.prog 11 [D.bool fresh, .sl false (acts.map d_Act)] [] (fun r σ' => r = .bool true) := by
  refine fn_start (rs := [.tmp 4]) Try.func11 rfl rfl Try.ntmps11 Try.results11 (by simp) ?_
  simp only [argEnv]
  refine awp_seq ?_
  refine awp_regionA (c := ⟨[], [], []⟩) (by simp only [lite_cons, lite_nil] <;> rfl) fun all hall K hK => ?_
  clear hall
  simp (maxSteps := 1000000) (disch := first | omega | assumption)
  repeat' refine And.intro ?_ ?_
  all_goals first | omega | exact rfl | skip
  refine hK _ ?_
  clear hK K
  clear all
  refine q_then_n ?_
  refine awp_seq ?_
  refine awp_seq ?_
  refine awp_regionA (c := ⟨[], [], []⟩) (by simp only [lite_cons, lite_nil] <;> rfl) fun all hall K hK => ?_
  clear hall
  refine vcL_step fun K' hK' => ?_
  simp (maxSteps := 1000000) (disch := first | omega | assumption)
  refine Ct.mono (Ct.of_le (awake_fn _ ) (by first | exact leArgs_of rfl | (simp [leArgs, leArg]; done)) rfl) ?_
  rintro _ _ ⟨rfl, rfl⟩
  refine hK' _ ?_
  clear hK' K'
  simp (maxSteps := 1000000) (disch := first | omega | assumption)
  repeat' refine And.intro ?_ ?_
  all_goals first | omega | exact rfl | skip
  refine hK _ ?_
  clear hK K
  clear all
  refine q_then_n ?_
  refine awp_ifB (by simp <;> rfl) ?_
  refine ⟨fun c1 => ?_, fun c1 => ?_⟩
  · simp at c1
  · try simp at c1
    all_goals try (exfalso; omega)
    all_goals
      refine awp_skip ?_
      refine q_then_n ?_
      refine awp_seq ?_
      refine awp_regionA (c := ⟨[], [], []⟩) (by simp only [lite_cons, lite_nil] <;> rfl) fun all hall K hK => ?_
      clear hall
      refine vcL_split 1 fun K' hK' => ?_
      simp (maxSteps := 1000000) (disch := first | omega | assumption)
      repeat' refine And.intro ?_ ?_
      all_goals first | omega | exact rfl | skip
      refine hK' _ ?_
      clear hK' K'
      simp only [List.drop_succ_cons, List.drop_zero]
      refine vcL_step fun K' hK' => ?_
      simp (maxSteps := 1000000) (disch := first | omega | assumption)
      refine Ct.mono (Ct.of_le (new_fn fresh _ ) (by first | exact leArgs_of rfl | (simp [leArgs, leArg]; done)) rfl) ?_
      rintro _ _ ⟨rfl, rfl⟩
      generalize hv15 : new fresh = v15
      refine hK' _ ?_
      clear hK' K'
      simp (maxSteps := 1000000) (disch := first | omega | assumption)
      repeat' refine And.intro ?_ ?_
      all_goals first | omega | exact rfl | skip
      refine hK _ ?_
      clear hK K
      clear all
      refine q_then_n ?_
      refine awp_seq ?_
      refine awp_regionA (c := ⟨[], [], []⟩) (by simp only [lite_cons, lite_nil] <;> rfl) fun all hall K hK => ?_
      clear hall
      simp (maxSteps := 1000000) (disch := first | omega | assumption)
      repeat' refine And.intro ?_ ?_
      all_goals first | omega | exact rfl | skip
      refine hK _ ?_
      clear hK K
      clear all
      refine q_then_n ?_
      refine awp_seq ?_
      refine awp_seq ?_
      refine awp_regionA (c := ⟨[], [], []⟩) (by simp only [lite_cons, lite_nil] <;> rfl) fun all hall K hK => ?_
      clear hall
      simp (maxSteps := 1000000) (disch := first | omega | assumption)
      repeat' refine And.intro ?_ ?_
      all_goals first | omega | exact rfl | skip
      refine hK _ ?_
      clear hK K
      clear all
      refine q_then_n ?_
      refine awp_block ?_
      refine awp_keep [1, 4, 5, 6, 7] (by simp only [keepL_nil, keepL_cons, envOf_sel, envOf_nil, sel_t, sel_f, Nat.reduceBEq] <;> rfl) ?_
      refine awp_loopM (fun (p : Nat × State × Int) => [(7, .d (.v (.int .i64 (p.1 : Int)))), (6, .d (.v (.int .i64 p.2.2)))]) (fun (p : Nat × State × Int) => [(0, [.v (.int .i64 p.2.1.look.kind), .v (.int .i64 p.2.1.look.move), .v (.int .i64 p.2.1.look.DX), .v (.int .i64 p.2.1.look.DY), .v (.int .i64 p.2.1.dur), .v (.int .i64 p.2.1.moveDur)])]) (fun (p : Nat × State × Int) => []) [4, 6, 7, 8, 9, 11, 16, 17, 18, 19, 20, 21, 22, 23, 24, 25, 26, 27, 28, 29, 30, 31, 32, 33, 34, 35, 36, 37, 38, 39, 40, 41, 42, 43, 44, 45, 46, 47, 48, 49, 50, 51, 52, 53, 54, 55, 56, 57, 58, 59, 60, 61, 62, 63, 64, 65, 66, 67, 68, 69, 70, 71, 72, 73, 74, 75, 76, 77, 78, 79, 80, 81, 82, 83, 84, 85, 86, 87, 88, 89, 90, 91, 92, 93, 94, 95, 96, 97, 98, 99, 100, 101, 102, 103, 104, 105, 106, 107, 108, 109, 110, 111, 112, 113, 114, 115, 116, 117] (fun (p : Nat × State × Int) => p.1 ≤ acts.length ∧ InvM p.2.1 ∧ Fits p.2.1 p.2.2) (fun (p : Nat × State × Int) => acts.length - p.1) ((0, v15, 0)) (by simp <;> rfl) ?_ (by simp) (by simp) ?_ ?_
      · simp
      · exact ⟨Nat.zero_le _, hv15 ▸ (new_words fresh).1, hv15 ▸ (new_words fresh).2⟩
      rintro ⟨k, s, st⟩ ⟨hk, hi, hf⟩
      simp only [List.cons_append, List.nil_append, setL_nil, setL_cons, List.set_cons_zero, List.set_cons_succ]
      simp only at hk hi hf
      refine awp_seq ?_
      refine awp_seq ?_
      refine awp_joinT (fun _ : Unit => [(23, .d (.v (.bool (decide (((k : Int) < (acts.length : Int)) ∧ ((k : Int) < 60))))))]) (fun _ => []) (fun _ => []) [16, 17, 18, 19, 20, 21, 22, 23] (fun _ => True) (by simp <;> rfl) ?_ fun _ _ => ?_
      · skip
        refine awp_regionA (c := ⟨[], [], []⟩) (by simp only [lite_cons, lite_nil] <;> rfl) fun all hall K hK => ?_
        have ga4 : guardOf all 4 = some 20 := hall 4
        clear hall
        refine vcL_split 5 fun K' hK' => ?_
        simp (maxSteps := 1000000) (disch := first | omega | assumption) [ga4]
        repeat' refine And.intro ?_ ?_
        all_goals first | omega | exact rfl | skip
        refine hK' _ ?_
        clear hK' K'
        simp only [List.drop_succ_cons, List.drop_zero]
        refine vcL_bool 20 (by simp <;> rfl) ?_
        refine ⟨fun g2 => ?_, fun g2 => ?_⟩
        · try simp at g2
          all_goals try (exfalso; omega)
          all_goals
            simp (maxSteps := 1000000) (disch := first | omega | assumption) [ga4]
            repeat' refine And.intro ?_ ?_
            all_goals first | omega | exact rfl | skip
            refine hK _ ?_
            clear hK K
            clear ga4
            clear all
            refine q_join () trivial (weak_mkA rfl ?_ (by simp [*]) (by simp))
            · first | (simp (maxSteps := 1000000) (disch := first | omega | assumption) [*]; done) | (simp_all [leS]; done) | (simp [leS, *]; omega) | (simp_all [leS]; omega)
        · try simp at g2
          all_goals try (exfalso; omega)
          all_goals
            simp (maxSteps := 1000000) (disch := first | omega | assumption) [ga4]
            repeat' refine And.intro ?_ ?_
            all_goals first | omega | exact rfl | skip
            refine hK _ ?_
            clear hK K
            clear ga4
            clear all
            refine q_join () trivial (weak_mkA rfl ?_ (by simp [*]) (by simp))
            · first | (simp (maxSteps := 1000000) (disch := first | omega | assumption) [*]; done) | (simp_all [leS]; done) | (simp [leS, *]; omega) | (simp_all [leS]; omega)
      simp only [List.cons_append, List.nil_append, setL_nil, setL_cons, List.set_cons_zero, List.set_cons_succ]
      refine awp_ifB (by simp <;> rfl) ?_
      refine ⟨fun c3 => ?_, fun c3 => ?_⟩
      · try simp at c3
        all_goals try (exfalso; omega)
        all_goals
          refine awp_skip ?_
          refine q_then_n ?_
          refine awp_seq ?_
          refine awp_block ?_
          refine awp_seq ?_
          refine awp_regionA (c := ⟨[], [], []⟩) (by simp only [lite_cons, lite_nil] <;> rfl) fun all hall K hK => ?_
          clear hall
          simp (maxSteps := 1000000) (disch := first | omega | assumption)
          repeat' refine And.intro ?_ ?_
          all_goals first | omega | exact rfl | skip
          refine hK _ ?_
          clear hK K
          clear all
          refine q_then_n ?_
          refine awp_seq ?_
          refine awp_drawA (c := ⟨[], [], []⟩) [.op ⟨false, false, false, false⟩, .op ⟨true, false, false, false⟩, .pure, .op ⟨false, false, false, false⟩, .op ⟨true, false, false, false⟩, .pure, .op ⟨false, false, false, false⟩, .op ⟨true, true, false, false⟩, .op ⟨false, false, false, false⟩, .op ⟨true, true, false, false⟩] (by kernel_rfl) (by kernel_rfl) (by simp only [lite_cons, lite_nil] <;> rfl) fun all hall K hK => ?_
          clear hall
          refine vcDL_split 2 (by simp) fun K' hK' => ?_
          simp (maxSteps := 1000000) (disch := first | omega | assumption)
          repeat' refine And.intro ?_ ?_
          all_goals first | omega | exact rfl | skip
          refine hK' _ ?_
          clear hK' K'
          simp only [List.drop_succ_cons, List.drop_zero]
          refine vcDL_step fun K' hK' => ?_
          simp (maxSteps := 1000000) (disch := first | omega | assumption)
          refine ⟨_, fun σ => Ct.of_le (sat_fn ((acts[k]).DX) _ ) (by first | exact leArgs_of rfl | (simp [leArgs, leArg]; done)) rfl, ?_⟩
          refine hK' _ ?_
          clear hK' K'
          refine vcDL_split 2 (by simp) fun K' hK' => ?_
          simp (maxSteps := 1000000) (disch := first | omega | assumption)
          repeat' refine And.intro ?_ ?_
          all_goals first | omega | exact rfl | skip
          refine hK' _ ?_
          clear hK' K'
          simp only [List.drop_succ_cons, List.drop_zero]
          refine vcDL_step fun K' hK' => ?_
          simp (maxSteps := 1000000) (disch := first | omega | assumption)
          refine ⟨_, fun σ => Ct.of_le (sat_fn ((acts[k]).DY) _ ) (by first | exact leArgs_of rfl | (simp [leArgs, leArg]; done)) rfl, ?_⟩
          refine hK' _ ?_
          clear hK' K'
          simp (maxSteps := 1000000) (disch := first | omega | assumption)
          repeat' refine And.intro ?_ ?_
          all_goals first | omega | exact rfl | skip
          refine hK _ ?_
          clear hK K
          clear all
          refine q_then_n ?_
          refine awp_seq ?_
          refine awp_keep [1, 5, 6, 7, 8] (by simp only [keepL_nil, keepL_cons, envOf_sel, envOf_nil, sel_t, sel_f, Nat.reduceBEq] <;> rfl) ?_
          refine awp_regionA (c := ⟨[], [], []⟩) (by simp only [lite_cons, lite_nil] <;> rfl) fun all hall K hK => ?_
          clear hall
          refine vcL_split 2 fun K' hK' => ?_
          simp (maxSteps := 1000000) (disch := first | omega | assumption)
          repeat' refine And.intro ?_ ?_
          all_goals first | omega | exact rfl | skip
          refine hK' _ ?_
          clear hK' K'
          simp only [List.drop_succ_cons, List.drop_zero]
          refine vcL_step fun K' hK' => ?_
          simp (maxSteps := 1000000) (disch := first | omega | assumption)
          refine Ct.mono (Ct.of_le (do__fn s ⟨(acts[k]).call, (acts[k]).dur, sat ((acts[k]).DX), sat ((acts[k]).DY), (acts[k]).once⟩ _ ) (by first | exact leArgs_of rfl | (simp [leArgs, leArg]; done)) rfl) ?_
          rintro _ _ ⟨rfl, rfl⟩
          generalize hv40 : do_ s (⟨(acts[k]).call, (acts[k]).dur, sat ((acts[k]).DX), sat ((acts[k]).DY), (acts[k]).once⟩ : Act) = v40
          refine hK' _ ?_
          clear hK' K'
          simp (maxSteps := 1000000) (disch := first | omega | assumption)
          repeat' refine And.intro ?_ ?_
          all_goals first | omega | exact rfl | skip
          refine hK _ ?_
          clear hK K
          clear all
          refine q_then_n ?_
          refine awp_seq ?_
          refine awp_seq ?_
          refine awp_regionA (c := ⟨[], [], []⟩) (by simp only [lite_cons, lite_nil] <;> rfl) fun all hall K hK => ?_
          clear hall
          simp (maxSteps := 1000000) (disch := first | omega | assumption)
          repeat' refine And.intro ?_ ?_
          all_goals first | omega | exact rfl | skip
          refine hK _ ?_
          clear hK K
          clear all
          refine q_then_n ?_
          refine awp_block ?_
          refine awp_keep [1, 5, 6, 7, 9, 42, 43, 44] (by simp only [keepL_nil, keepL_cons, envOf_sel, envOf_nil, sel_t, sel_f, Nat.reduceBEq] <;> rfl) ?_
          have hw := words_law s ⟨acts[k].call, acts[k].dur, sat acts[k].DX, sat acts[k].DY, acts[k].once⟩ st hi hf (sat_rng _) (sat_rng _)
          rw [hv40] at hw
          have hlen := do_len s ⟨acts[k].call, acts[k].dur, sat acts[k].DX, sat acts[k].DY, acts[k].once⟩ hi.1
          rw [hv40] at hlen
          have hmay := may_law _ hw.inv
          refine awp_loopE (fun (j : Nat) => [(44, .d (.v (.int .i64 (j : Int)))), (6, .d (.v (.int .i64 (runF st (v40.hooks.take j)))))]) [4, 6, 11, 44, 45, 46, 47, 48, 49, 50, 51, 52, 53] (fun (j : Nat) => j ≤ v40.hooks.length) (fun (j : Nat) => v40.hooks.length - j) (0) (by simp <;> rfl) ?_ ?_ ?_
          · simp [runF]
          · simp
          rintro j hj
          simp only [List.cons_append, List.nil_append]
          refine awp_seq ?_
          refine awp_regionA (c := ⟨[], [], []⟩) (by simp only [lite_cons, lite_nil] <;> rfl) fun all hall K hK => ?_
          clear hall
          simp (maxSteps := 1000000) (disch := first | omega | assumption)
          repeat' refine And.intro ?_ ?_
          all_goals first | omega | exact rfl | skip
          refine hK _ ?_
          clear hK K
          clear all
          refine q_then_n ?_
          refine awp_seq ?_
          refine awp_ifB (by simp <;> rfl) ?_
          refine ⟨fun c4 => ?_, fun c4 => ?_⟩
          · try simp at c4
            all_goals try (exfalso; omega)
            all_goals
              refine awp_skip ?_
              refine q_then_n ?_
              refine awp_seq ?_
              refine awp_block ?_
              refine awp_seq ?_
              refine awp_regionA (c := ⟨[], [], []⟩) (by simp only [lite_cons, lite_nil] <;> rfl) fun all hall K hK => ?_
              clear hall
              simp (maxSteps := 1000000) (disch := first | omega | assumption)
              repeat' refine And.intro ?_ ?_
              all_goals first | omega | exact rfl | skip
              refine hK _ ?_
              clear hK K
              clear all
              refine q_then_n ?_
              refine awp_seq ?_
              refine awp_keep [1, 5, 6, 7, 9, 11, 42, 43, 44] (by simp only [keepL_nil, keepL_cons, envOf_sel, envOf_nil, sel_t, sel_f, Nat.reduceBEq] <;> rfl) ?_
              refine awp_regionA (c := ⟨[], [], []⟩) (by simp only [lite_cons, lite_nil] <;> rfl) fun all hall K hK => ?_
              clear hall
              refine vcL_split 2 fun K' hK' => ?_
              simp (maxSteps := 1000000) (disch := first | omega | assumption)
              repeat' refine And.intro ?_ ?_
              all_goals first | omega | exact rfl | skip
              refine hK' _ ?_
              clear hK' K'
              simp only [List.drop_succ_cons, List.drop_zero]
              refine vcL_step fun K' hK' => ?_
              simp (maxSteps := 1000000) (disch := first | omega | assumption)
              refine Ct.mono (Ct.of_le (next_fn (runF st (v40.hooks.take j)) (v40.hooks[j]) _ ) (by first | exact leArgs_of rfl | (simp [leArgs, leArg]; done)) rfl) ?_
              rintro _ _ ⟨rfl, rfl⟩
              refine hK' _ ?_
              clear hK' K'
              simp (maxSteps := 1000000) (disch := first | omega | assumption)
              repeat' refine And.intro ?_ ?_
              all_goals first | omega | exact rfl | skip
              refine hK _ ?_
              clear hK K
              clear all
              refine q_then_n ?_
              refine awp_seq ?_
              refine awp_keep [1, 5, 6, 7, 9, 42, 43, 44] (by simp only [keepL_nil, keepL_cons, envOf_sel, envOf_nil, sel_t, sel_f, Nat.reduceBEq] <;> rfl) ?_
              refine awp_regionA (c := ⟨[], [], []⟩) (by simp only [lite_cons, lite_nil] <;> rfl) fun all hall K hK => ?_
              clear hall
              simp (maxSteps := 1000000) (disch := first | omega | assumption)
              repeat' refine And.intro ?_ ?_
              all_goals first | omega | exact rfl | skip
              refine hK _ ?_
              clear hK K
              clear all
              refine q_then_n ?_
              refine awp_ifB (by simp <;> rfl) ?_
              refine ⟨fun c5 => ?_, fun c5 => ?_⟩
              · try simp at c5
                all_goals try (exfalso; omega)
                all_goals
                  refine awp_seq ?_
                  refine awp_regionA (c := ⟨[], [], []⟩) (by simp only [lite_cons, lite_nil] <;> rfl) fun all hall K hK => ?_
                  clear hall
                  simp (maxSteps := 1000000) (disch := first | omega | assumption)
                  repeat' refine And.intro ?_ ?_
                  all_goals first | omega | exact rfl | skip
                  refine hK _ ?_
                  clear hK K
                  clear all
                  refine q_then_n ?_
                  refine awp_ret ?_
                  refine q_block_r ?_
                  refine q_then_r ?_
                  refine q_loop_r ?_
                  refine q_block_r ?_
                  refine q_then_r ?_
                  refine q_block_r ?_
                  refine q_then_r ?_
                  refine q_loop_r ?_
                  refine q_block_r ?_
                  refine q_then_r ?_
                  first | (simp [endQ]; done) | (exfalso; simp_all; done) | (exfalso; have h := okRun_at v40.hooks st j hw.ok (by assumption); omega) | (have h := hw.gone (by assumption); simp_all [endQ, List.take_of_length_le]; done) | (exfalso; have h := hw.fits (by assumption); have e : List.take j v40.hooks = v40.hooks := List.take_of_length_le (by assumption); simp only [e] at *; rcases c21 with ⟨a, b⟩ | ⟨a, b⟩ | ⟨a, b⟩ | a <;> first | exact b (h.en a) | exact b (h.le a) | (rcases h.wa a with e | e <;> simp [e] at b; done) | (by_cases q : v40.state.look.kind = 0; (simp only [if_pos q] at a; have h2 := h.qu (.inl q); omega); simp only [if_neg q] at a; have h2 := h.qu (.inr a.1); omega))
              · try simp at c5
                all_goals try (exfalso; omega)
                all_goals
                  refine awp_skip ?_
                  refine q_block_n ?_
                  refine q_then_n ?_
                  refine awp_regionA (c := ⟨[], [], []⟩) (by simp only [lite_cons, lite_nil] <;> rfl) fun all hall K hK => ?_
                  clear hall
                  simp (maxSteps := 1000000) (disch := first | omega | assumption)
                  repeat' refine And.intro ?_ ?_
                  all_goals first | omega | exact rfl | skip
                  refine hK _ ?_
                  clear hK K
                  clear all
                  refine q_round (j + 1) ?_ ?_ (weak_mkA rfl ?_ (by simp) (by simp))
                  · omega
                  · try dsimp only
                    omega
                  · simp (maxSteps := 1000000) (disch := first | omega | assumption) [run_snoc]
          · try simp at c4
            all_goals try (exfalso; omega)
            all_goals
              refine awp_exit ?_
              refine q_then_e ?_
              refine q_loop_e ?_
              refine q_block_e ?_
              refine q_then_n ?_
              refine awp_seq ?_
              refine awp_seq ?_
              refine awp_regionA (c := ⟨[], [], []⟩) (by simp only [lite_cons, lite_nil] <;> rfl) fun all hall K hK => ?_
              clear hall
              simp (maxSteps := 1000000) (disch := first | omega | assumption)
              repeat' refine And.intro ?_ ?_
              all_goals first | omega | exact rfl | skip
              refine hK _ ?_
              clear hK K
              clear all
              refine q_then_n ?_
              refine awp_seq ?_
              refine awp_regionA (c := ⟨[], [], []⟩) (by simp only [lite_cons, lite_nil] <;> rfl) fun all hall K hK => ?_
              clear hall
              refine vcL_split 2 fun K' hK' => ?_
              simp (maxSteps := 1000000) (disch := first | omega | assumption)
              repeat' refine And.intro ?_ ?_
              all_goals first | omega | exact rfl | skip
              refine hK' _ ?_
              clear hK' K'
              simp only [List.drop_succ_cons, List.drop_zero]
              refine vcL_step fun K' hK' => ?_
              simp (maxSteps := 1000000) (disch := first | omega | assumption)
              refine Ct.mono (Ct.of_le (may_fn v40.state.look _ ) (by first | exact leArgs_of rfl | (simp [leArgs, leArg]; done)) rfl) ?_
              rintro _ _ ⟨rfl, rfl⟩
              refine hK' _ ?_
              clear hK' K'
              simp (maxSteps := 1000000) (disch := first | omega | assumption)
              repeat' refine And.intro ?_ ?_
              all_goals first | omega | exact rfl | skip
              refine hK _ ?_
              clear hK K
              clear all
              refine q_then_n ?_
              refine awp_ifB (by simp <;> rfl) ?_
              refine ⟨fun c6 => ?_, fun c6 => ?_⟩
              · try simp at c6
                all_goals try (exfalso; omega)
                all_goals
                  refine awp_seq ?_
                  refine awp_keep [1, 5, 6, 7, 9] (by simp only [keepL_nil, keepL_cons, envOf_sel, envOf_nil, sel_t, sel_f, Nat.reduceBEq] <;> rfl) ?_
                  refine awp_regionA (c := ⟨[], [], []⟩) (by simp only [lite_cons, lite_nil] <;> rfl) fun all hall K hK => ?_
                  clear hall
                  simp (maxSteps := 1000000) (disch := first | omega | assumption)
                  repeat' refine And.intro ?_ ?_
                  all_goals first | omega | exact rfl | skip
                  refine hK _ ?_
                  clear hK K
                  clear all
                  refine q_then_n ?_
                  refine awp_ret ?_
                  refine q_then_r ?_
                  refine q_block_r ?_
                  refine q_then_r ?_
                  refine q_loop_r ?_
                  refine q_block_r ?_
                  refine q_then_r ?_
                  first | (simp [endQ]; done) | (exfalso; simp_all; done) | (exfalso; have h := okRun_at v40.hooks st j hw.ok (by assumption); omega) | (have h := hw.gone (by assumption); simp_all [endQ, List.take_of_length_le]; done) | (exfalso; have h := hw.fits (by assumption); have e : List.take j v40.hooks = v40.hooks := List.take_of_length_le (by assumption); simp only [e] at *; rcases c21 with ⟨a, b⟩ | ⟨a, b⟩ | ⟨a, b⟩ | a <;> first | exact b (h.en a) | exact b (h.le a) | (rcases h.wa a with e | e <;> simp [e] at b; done) | (by_cases q : v40.state.look.kind = 0; (simp only [if_pos q] at a; have h2 := h.qu (.inl q); omega); simp only [if_neg q] at a; have h2 := h.qu (.inr a.1); omega))
              · try simp at c6
                all_goals try (exfalso; omega)
                all_goals
                  refine awp_skip ?_
                  refine q_then_n ?_
                  refine awp_block ?_
                  refine awp_seq ?_
                  refine awp_keep [1, 5, 6, 7, 9] (by simp only [keepL_nil, keepL_cons, envOf_sel, envOf_nil, sel_t, sel_f, Nat.reduceBEq] <;> rfl) ?_
                  refine awp_regionA (c := ⟨[], [], []⟩) (by simp only [lite_cons, lite_nil] <;> rfl) fun all hall K hK => ?_
                  clear hall
                  simp (maxSteps := 1000000) (disch := first | omega | assumption)
                  repeat' refine And.intro ?_ ?_
                  all_goals first | omega | exact rfl | skip
                  refine hK _ ?_
                  clear hK K
                  clear all
                  refine q_then_n ?_
                  refine awp_ifB (by simp <;> rfl) ?_
                  refine ⟨fun c7 => ?_, fun c7 => ?_⟩
                  · try simp at c7
                    all_goals try (exfalso; omega)
                    all_goals
                      refine awp_seq ?_
                      refine awp_joinT (fun _ : Unit => [(4, .d (.v (.bool (decide (((runF st (v40.hooks.take j)) = 6) ∨ (((runF st (v40.hooks.take j)) = 0) ∨ ((runF st (v40.hooks.take j)) = 3)))))))]) (fun _ => []) (fun _ => []) [4, 63, 64, 65, 66, 67, 68, 69, 70, 71, 72] (fun _ => True) (by simp <;> rfl) ?_ fun _ _ => ?_
                      · skip
                        refine awp_regionA (c := ⟨[], [], []⟩) (by simp only [lite_cons, lite_nil] <;> rfl) fun all hall K hK => ?_
                        have ga2 : guardOf all 2 = some 65 := hall 2
                        have ga6 : guardOf all 6 = some 69 := hall 6
                        clear hall
                        refine vcL_split 3 fun K' hK' => ?_
                        simp (maxSteps := 1000000) (disch := first | omega | assumption) [ga2, ga6]
                        repeat' refine And.intro ?_ ?_
                        all_goals first | omega | exact rfl | skip
                        refine hK' _ ?_
                        clear hK' K'
                        simp only [List.drop_succ_cons, List.drop_zero]
                        refine vcL_bool 65 (by simp <;> rfl) ?_
                        refine ⟨fun g8 => ?_, fun g8 => ?_⟩
                        · try simp at g8
                          all_goals try (exfalso; omega)
                          all_goals
                            refine vcL_split 4 fun K' hK' => ?_
                            simp (maxSteps := 1000000) (disch := first | omega | assumption) [ga2, ga6]
                            repeat' refine And.intro ?_ ?_
                            all_goals first | omega | exact rfl | skip
                            refine hK' _ ?_
                            clear hK' K'
                            simp only [List.drop_succ_cons, List.drop_zero]
                            simp (maxSteps := 1000000) (disch := first | omega | assumption) [ga2, ga6]
                            repeat' refine And.intro ?_ ?_
                            all_goals first | omega | exact rfl | skip
                            refine hK _ ?_
                            clear hK K
                            clear ga2 ga6
                            clear all
                            refine q_join () trivial (weak_mkA rfl ?_ (by simp [*]) (by simp))
                            · first | (simp (maxSteps := 1000000) (disch := first | omega | assumption) [*]; done) | (simp_all [leS]; done) | (simp [leS, *]; omega) | (simp_all [leS]; omega)
                        · try simp at g8
                          all_goals try (exfalso; omega)
                          all_goals
                            refine vcL_split 4 fun K' hK' => ?_
                            simp (maxSteps := 1000000) (disch := first | omega | assumption) [ga2, ga6]
                            repeat' refine And.intro ?_ ?_
                            all_goals first | omega | exact rfl | skip
                            refine hK' _ ?_
                            clear hK' K'
                            simp only [List.drop_succ_cons, List.drop_zero]
                            refine vcL_bool 69 (by simp <;> rfl) ?_
                            refine ⟨fun g9 => ?_, fun g9 => ?_⟩
                            · try simp at g9
                              all_goals try (exfalso; omega)
                              all_goals
                                simp (maxSteps := 1000000) (disch := first | omega | assumption) [ga2, ga6]
                                repeat' refine And.intro ?_ ?_
                                all_goals first | omega | exact rfl | skip
                                refine hK _ ?_
                                clear hK K
                                clear ga2 ga6
                                clear all
                                refine q_join () trivial (weak_mkA rfl ?_ (by simp [*]) (by simp))
                                · first | (simp (maxSteps := 1000000) (disch := first | omega | assumption) [*]; done) | (simp_all [leS]; done) | (simp [leS, *]; omega) | (simp_all [leS]; omega)
                            · try simp at g9
                              all_goals try (exfalso; omega)
                              all_goals
                                simp (maxSteps := 1000000) (disch := first | omega | assumption) [ga2, ga6]
                                repeat' refine And.intro ?_ ?_
                                all_goals first | omega | exact rfl | skip
                                refine hK _ ?_
                                clear hK K
                                clear ga2 ga6
                                clear all
                                refine q_join () trivial (weak_mkA rfl ?_ (by simp [*]) (by simp))
                                · first | (simp (maxSteps := 1000000) (disch := first | omega | assumption) [*]; done) | (simp_all [leS]; done) | (simp [leS, *]; omega) | (simp_all [leS]; omega)
                      simp only [List.cons_append, List.nil_append, setL_nil, setL_cons, List.set_cons_zero, List.set_cons_succ]
                      refine awp_ret ?_
                      refine q_block_r ?_
                      refine q_block_r ?_
                      refine q_then_r ?_
                      refine q_loop_r ?_
                      refine q_block_r ?_
                      refine q_then_r ?_
                      first | (simp [endQ]; done) | (exfalso; simp_all; done) | (exfalso; have h := okRun_at v40.hooks st j hw.ok (by assumption); omega) | (have h := hw.gone (by assumption); simp_all [endQ, List.take_of_length_le]; done) | (exfalso; have h := hw.fits (by assumption); have e : List.take j v40.hooks = v40.hooks := List.take_of_length_le (by assumption); simp only [e] at *; rcases c21 with ⟨a, b⟩ | ⟨a, b⟩ | ⟨a, b⟩ | a <;> first | exact b (h.en a) | exact b (h.le a) | (rcases h.wa a with e | e <;> simp [e] at b; done) | (by_cases q : v40.state.look.kind = 0; (simp only [if_pos q] at a; have h2 := h.qu (.inl q); omega); simp only [if_neg q] at a; have h2 := h.qu (.inr a.1); omega))
                  · try simp at c7
                    all_goals try (exfalso; omega)
                    all_goals
                      refine awp_seq ?_
                      refine awp_seq ?_
                      refine awp_joinT (fun _ : Unit => [(73, .d (.v (.bool (decide (((entering v40.state.look) = true) ∧ ((runF st (v40.hooks.take j)) ≠ 2))))))]) (fun _ => []) (fun _ => []) [73, 74, 75, 76, 77, 78, 79, 80] (fun _ => True) (by simp <;> rfl) ?_ fun _ _ => ?_
                      · skip
                        refine awp_regionA (c := ⟨[], [], []⟩) (by simp only [lite_cons, lite_nil] <;> rfl) fun all hall K hK => ?_
                        have ga3 : guardOf all 3 = some 77 := hall 3
                        clear hall
                        refine vcL_split 2 fun K' hK' => ?_
                        simp (maxSteps := 1000000) (disch := first | omega | assumption) [ga3]
                        repeat' refine And.intro ?_ ?_
                        all_goals first | omega | exact rfl | skip
                        refine hK' _ ?_
                        clear hK' K'
                        simp only [List.drop_succ_cons, List.drop_zero]
                        refine vcL_step fun K' hK' => ?_
                        simp (maxSteps := 1000000) (disch := first | omega | assumption) [ga3]
                        refine Ct.mono (Ct.of_le (entering_fn v40.state.look _ ) (by first | exact leArgs_of rfl | (simp [leArgs, leArg]; done)) rfl) ?_
                        rintro _ _ ⟨rfl, rfl⟩
                        refine hK' _ ?_
                        clear hK' K'
                        refine vcL_split 1 fun K' hK' => ?_
                        simp (maxSteps := 1000000) (disch := first | omega | assumption) [ga3]
                        repeat' refine And.intro ?_ ?_
                        all_goals first | omega | exact rfl | skip
                        refine hK' _ ?_
                        clear hK' K'
                        simp only [List.drop_succ_cons, List.drop_zero]
                        refine vcL_bool 77 (by simp <;> rfl) ?_
                        refine ⟨fun g10 => ?_, fun g10 => ?_⟩
                        · try simp at g10
                          all_goals try (exfalso; omega)
                          all_goals
                            simp (maxSteps := 1000000) (disch := first | omega | assumption) [ga3]
                            repeat' refine And.intro ?_ ?_
                            all_goals first | omega | exact rfl | skip
                            refine hK _ ?_
                            clear hK K
                            clear ga3
                            clear all
                            refine q_join () trivial (weak_mkA rfl ?_ (by simp [*]) (by simp))
                            · first | (simp (maxSteps := 1000000) (disch := first | omega | assumption) [*]; done) | (simp_all [leS]; done) | (simp [leS, *]; omega) | (simp_all [leS]; omega)
                        · try simp at g10
                          all_goals try (exfalso; omega)
                          all_goals
                            simp (maxSteps := 1000000) (disch := first | omega | assumption) [ga3]
                            repeat' refine And.intro ?_ ?_
                            all_goals first | omega | exact rfl | skip
                            refine hK _ ?_
                            clear hK K
                            clear ga3
                            clear all
                            refine q_join () trivial (weak_mkA rfl ?_ (by simp [*]) (by simp))
                            · first | (simp (maxSteps := 1000000) (disch := first | omega | assumption) [*]; done) | (simp_all [leS]; done) | (simp [leS, *]; omega) | (simp_all [leS]; omega)
                      simp only [List.cons_append, List.nil_append, setL_nil, setL_cons, List.set_cons_zero, List.set_cons_succ]
                      refine awp_joinT (fun _ : Unit => [(73, .d (.v (.bool (decide (if ((entering v40.state.look) = true) ∧ ((runF st (v40.hooks.take j)) ≠ 2) then ((entering v40.state.look) = true) ∧ ((runF st (v40.hooks.take j)) ≠ 2) else if ((leaving v40.state.look) = true) ∧ ((runF st (v40.hooks.take j)) ≠ 5) then ((leaving v40.state.look) = true) ∧ ((runF st (v40.hooks.take j)) ≠ 5) else if (v40.state.look.kind = 1) ∧ (((runF st (v40.hooks.take j)) ≠ 0) ∧ ((runF st (v40.hooks.take j)) ≠ 6)) then (v40.state.look.kind = 1) ∧ (((runF st (v40.hooks.take j)) ≠ 0) ∧ ((runF st (v40.hooks.take j)) ≠ 6)) else if v40.state.look.kind = 0 then ((runF st (v40.hooks.take j)) ≠ 0) ∧ ((runF st (v40.hooks.take j)) ≠ 3) else (v40.state.look.kind = 4) ∧ (((runF st (v40.hooks.take j)) ≠ 0) ∧ ((runF st (v40.hooks.take j)) ≠ 3)))))))]) (fun _ => []) (fun _ => []) [73, 81, 82, 83, 84, 85, 86, 87, 88, 89, 90, 91, 92, 93, 94, 95, 96, 97, 98, 99, 100, 101, 102, 103, 104, 105, 106, 107, 108, 109, 110, 111, 112, 113, 114, 115, 116, 117] (fun _ => True) (by simp <;> rfl) ?_ fun _ _ => ?_
                      · skip
                        refine awp_ifB (by simp <;> rfl) ?_
                        refine ⟨fun c11 => ?_, fun c11 => ?_⟩
                        · try simp at c11
                          all_goals try (exfalso; omega)
                          all_goals
                            refine awp_skip ?_
                            refine q_join () trivial (weak_mkA rfl ?_ (by simp [*]) (by simp))
                            · first | (simp (maxSteps := 1000000) (disch := first | omega | assumption) [*]; done) | (simp_all [leS]; done) | (simp [leS, *]; omega) | (simp_all [leS]; omega)
                        · try simp at c11
                          all_goals try (exfalso; omega)
                          all_goals
                            refine awp_seq ?_
                            refine awp_joinT (fun _ : Unit => [(73, .d (.v (.bool (decide (((leaving v40.state.look) = true) ∧ ((runF st (v40.hooks.take j)) ≠ 5))))))]) (fun _ => []) (fun _ => []) [73, 81, 82, 83, 84, 85, 86, 87] (fun _ => True) (by simp <;> rfl) ?_ fun _ _ => ?_
                            · skip
                              refine awp_regionA (c := ⟨[], [], []⟩) (by simp only [lite_cons, lite_nil] <;> rfl) fun all hall K hK => ?_
                              have ga3 : guardOf all 3 = some 84 := hall 3
                              clear hall
                              refine vcL_split 2 fun K' hK' => ?_
                              simp (maxSteps := 1000000) (disch := first | omega | assumption) [ga3]
                              repeat' refine And.intro ?_ ?_
                              all_goals first | omega | exact rfl | skip
                              refine hK' _ ?_
                              clear hK' K'
                              simp only [List.drop_succ_cons, List.drop_zero]
                              refine vcL_step fun K' hK' => ?_
                              simp (maxSteps := 1000000) (disch := first | omega | assumption) [ga3]
                              refine Ct.mono (Ct.of_le (leaving_fn v40.state.look _ ) (by first | exact leArgs_of rfl | (simp [leArgs, leArg]; done)) rfl) ?_
                              rintro _ _ ⟨rfl, rfl⟩
                              refine hK' _ ?_
                              clear hK' K'
                              refine vcL_split 1 fun K' hK' => ?_
                              simp (maxSteps := 1000000) (disch := first | omega | assumption) [ga3]
                              repeat' refine And.intro ?_ ?_
                              all_goals first | omega | exact rfl | skip
                              refine hK' _ ?_
                              clear hK' K'
                              simp only [List.drop_succ_cons, List.drop_zero]
                              refine vcL_bool 84 (by simp <;> rfl) ?_
                              refine ⟨fun g12 => ?_, fun g12 => ?_⟩
                              · try simp at g12
                                all_goals try (exfalso; omega)
                                all_goals
                                  simp (maxSteps := 1000000) (disch := first | omega | assumption) [ga3]
                                  repeat' refine And.intro ?_ ?_
                                  all_goals first | omega | exact rfl | skip
                                  refine hK _ ?_
                                  clear hK K
                                  clear ga3
                                  clear all
                                  refine q_join () trivial (weak_mkA rfl ?_ (by simp [*]) (by simp))
                                  · first | (simp (maxSteps := 1000000) (disch := first | omega | assumption) [*]; done) | (simp_all [leS]; done) | (simp [leS, *]; omega) | (simp_all [leS]; omega)
                              · try simp at g12
                                all_goals try (exfalso; omega)
                                all_goals
                                  simp (maxSteps := 1000000) (disch := first | omega | assumption) [ga3]
                                  repeat' refine And.intro ?_ ?_
                                  all_goals first | omega | exact rfl | skip
                                  refine hK _ ?_
                                  clear hK K
                                  clear ga3
                                  clear all
                                  refine q_join () trivial (weak_mkA rfl ?_ (by simp [*]) (by simp))
                                  · first | (simp (maxSteps := 1000000) (disch := first | omega | assumption) [*]; done) | (simp_all [leS]; done) | (simp [leS, *]; omega) | (simp_all [leS]; omega)
                            simp only [List.cons_append, List.nil_append, setL_nil, setL_cons, List.set_cons_zero, List.set_cons_succ]
                            refine awp_ifB (by simp <;> rfl) ?_
                            refine ⟨fun c13 => ?_, fun c13 => ?_⟩
                            · try simp at c13
                              all_goals try (exfalso; omega)
                              all_goals
                                refine awp_skip ?_
                                refine q_join () trivial (weak_mkA rfl ?_ (by simp [*]) (by simp))
                                · first | (simp (maxSteps := 1000000) (disch := first | omega | assumption) [*]; done) | (simp_all [leS]; done) | (simp [leS, *]; omega) | (simp_all [leS]; omega)
                            · try simp at c13
                              all_goals try (exfalso; omega)
                              all_goals
                                refine awp_seq ?_
                                refine awp_joinT (fun _ : Unit => [(73, .d (.v (.bool (decide ((v40.state.look.kind = 1) ∧ (((runF st (v40.hooks.take j)) ≠ 0) ∧ ((runF st (v40.hooks.take j)) ≠ 6)))))))]) (fun _ => []) (fun _ => []) [73, 88, 89, 90, 91, 92, 93, 94, 95, 96, 97, 98, 99] (fun _ => True) (by simp <;> rfl) ?_ fun _ _ => ?_
                                · skip
                                  refine awp_keep [1, 5, 6, 7, 9, 60, 61, 62, 73] (by simp only [keepL_nil, keepL_cons, envOf_sel, envOf_nil, sel_t, sel_f, Nat.reduceBEq] <;> rfl) ?_
                                  refine awp_regionA (c := ⟨[], [], []⟩) (by simp only [lite_cons, lite_nil] <;> rfl) fun all hall K hK => ?_
                                  have ga4 : guardOf all 4 = some 92 := hall 4
                                  have ga8 : guardOf all 8 = some 96 := hall 8
                                  clear hall
                                  refine vcL_split 5 fun K' hK' => ?_
                                  simp (maxSteps := 1000000) (disch := first | omega | assumption) [ga4, ga8]
                                  repeat' refine And.intro ?_ ?_
                                  all_goals first | omega | exact rfl | skip
                                  refine hK' _ ?_
                                  clear hK' K'
                                  simp only [List.drop_succ_cons, List.drop_zero]
                                  refine vcL_bool 92 (by simp <;> rfl) ?_
                                  refine ⟨fun g14 => ?_, fun g14 => ?_⟩
                                  · try simp at g14
                                    all_goals try (exfalso; omega)
                                    all_goals
                                      refine vcL_split 4 fun K' hK' => ?_
                                      simp (maxSteps := 1000000) (disch := first | omega | assumption) [ga4, ga8]
                                      repeat' refine And.intro ?_ ?_
                                      all_goals first | omega | exact rfl | skip
                                      refine hK' _ ?_
                                      clear hK' K'
                                      simp only [List.drop_succ_cons, List.drop_zero]
                                      refine vcL_bool 96 (by simp <;> rfl) ?_
                                      refine ⟨fun g15 => ?_, fun g15 => ?_⟩
                                      · try simp at g15
                                        all_goals try (exfalso; omega)
                                        all_goals
                                          simp (maxSteps := 1000000) (disch := first | omega | assumption) [ga4, ga8]
                                          repeat' refine And.intro ?_ ?_
                                          all_goals first | omega | exact rfl | skip
                                          refine hK _ ?_
                                          clear hK K
                                          clear ga4 ga8
                                          clear all
                                          refine q_join () trivial (weak_mkA rfl ?_ (by simp [*]) (by simp))
                                          · first | (simp (maxSteps := 1000000) (disch := first | omega | assumption) [*]; done) | (simp_all [leS]; done) | (simp [leS, *]; omega) | (simp_all [leS]; omega)
                                      · try simp at g15
                                        all_goals try (exfalso; omega)
                                        all_goals
                                          simp (maxSteps := 1000000) (disch := first | omega | assumption) [ga4, ga8]
                                          repeat' refine And.intro ?_ ?_
                                          all_goals first | omega | exact rfl | skip
                                          refine hK _ ?_
                                          clear hK K
                                          clear ga4 ga8
                                          clear all
                                          refine q_join () trivial (weak_mkA rfl ?_ (by simp [*]) (by simp))
                                          · first | (simp (maxSteps := 1000000) (disch := first | omega | assumption) [*]; done) | (simp_all [leS]; done) | (simp [leS, *]; omega) | (simp_all [leS]; omega)
                                  · try simp at g14
                                    all_goals try (exfalso; omega)
                                    all_goals
                                      refine vcL_split 4 fun K' hK' => ?_
                                      simp (maxSteps := 1000000) (disch := first | omega | assumption) [ga4, ga8]
                                      repeat' refine And.intro ?_ ?_
                                      all_goals first | omega | exact rfl | skip
                                      refine hK' _ ?_
                                      clear hK' K'
                                      simp only [List.drop_succ_cons, List.drop_zero]
                                      simp (maxSteps := 1000000) (disch := first | omega | assumption) [ga4, ga8]
                                      repeat' refine And.intro ?_ ?_
                                      all_goals first | omega | exact rfl | skip
                                      refine hK _ ?_
                                      clear hK K
                                      clear ga4 ga8
                                      clear all
                                      refine q_join () trivial (weak_mkA rfl ?_ (by simp [*]) (by simp))
                                      · first | (simp (maxSteps := 1000000) (disch := first | omega | assumption) [*]; done) | (simp_all [leS]; done) | (simp [leS, *]; omega) | (simp_all [leS]; omega)
                                simp only [List.cons_append, List.nil_append, setL_nil, setL_cons, List.set_cons_zero, List.set_cons_succ]
                                refine awp_ifB (by simp <;> rfl) ?_
                                refine ⟨fun c16 => ?_, fun c16 => ?_⟩
                                · try simp at c16
                                  all_goals try (exfalso; omega)
                                  all_goals
                                    refine awp_skip ?_
                                    refine q_join () trivial (weak_mkA rfl ?_ (by simp [*]) (by simp))
                                    · first | (simp (maxSteps := 1000000) (disch := first | omega | assumption) [*]; done) | (simp_all [leS]; done) | (simp [leS, *]; omega) | (simp_all [leS]; omega)
                                · try simp at c16
                                  all_goals try (exfalso; omega)
                                  all_goals
                                    refine awp_keep [1, 5, 6, 7, 9, 60, 61, 62, 73] (by simp only [keepL_nil, keepL_cons, envOf_sel, envOf_nil, sel_t, sel_f, Nat.reduceBEq] <;> rfl) ?_
                                    refine awp_regionA (c := ⟨[], [], []⟩) (by simp only [lite_cons, lite_nil] <;> rfl) fun all hall K hK => ?_
                                    have ga4 : guardOf all 4 = some 104 := hall 4
                                    have ga10 : guardOf all 10 = some 110 := hall 10
                                    have ga14 : guardOf all 14 = some 114 := hall 14
                                    clear hall
                                    refine vcL_split 5 fun K' hK' => ?_
                                    simp (maxSteps := 1000000) (disch := first | omega | assumption) [ga4, ga10, ga14]
                                    repeat' refine And.intro ?_ ?_
                                    all_goals first | omega | exact rfl | skip
                                    refine hK' _ ?_
                                    clear hK' K'
                                    simp only [List.drop_succ_cons, List.drop_zero]
                                    refine vcL_bool 104 (by simp <;> rfl) ?_
                                    refine ⟨fun g17 => ?_, fun g17 => ?_⟩
                                    · try simp at g17
                                      all_goals try (exfalso; omega)
                                      all_goals
                                        refine vcL_split 6 fun K' hK' => ?_
                                        simp (maxSteps := 1000000) (disch := first | omega | assumption) [ga4, ga10, ga14]
                                        repeat' refine And.intro ?_ ?_
                                        all_goals first | omega | exact rfl | skip
                                        refine hK' _ ?_
                                        clear hK' K'
                                        simp only [List.drop_succ_cons, List.drop_zero]
                                        refine vcL_split 4 fun K' hK' => ?_
                                        simp (maxSteps := 1000000) (disch := first | omega | assumption) [ga4, ga10, ga14]
                                        repeat' refine And.intro ?_ ?_
                                        all_goals first | omega | exact rfl | skip
                                        refine hK' _ ?_
                                        clear hK' K'
                                        simp only [List.drop_succ_cons, List.drop_zero]
                                        refine vcL_bool 114 (by simp <;> rfl) ?_
                                        refine ⟨fun g18 => ?_, fun g18 => ?_⟩
                                        · try simp at g18
                                          all_goals try (exfalso; omega)
                                          all_goals
                                            simp (maxSteps := 1000000) (disch := first | omega | assumption) [ga4, ga10, ga14]
                                            repeat' refine And.intro ?_ ?_
                                            all_goals first | omega | exact rfl | skip
                                            refine hK _ ?_
                                            clear hK K
                                            clear ga4 ga10 ga14
                                            clear all
                                            refine q_join () trivial (weak_mkA rfl ?_ (by simp [*]) (by simp))
                                            · first | (simp (maxSteps := 1000000) (disch := first | omega | assumption) [*]; done) | (simp_all [leS]; done) | (simp [leS, *]; omega) | (simp_all [leS]; omega)
                                        · try simp at g18
                                          all_goals try (exfalso; omega)
                                          all_goals
                                            simp (maxSteps := 1000000) (disch := first | omega | assumption) [ga4, ga10, ga14]
                                            repeat' refine And.intro ?_ ?_
                                            all_goals first | omega | exact rfl | skip
                                            refine hK _ ?_
                                            clear hK K
                                            clear ga4 ga10 ga14
                                            clear all
                                            refine q_join () trivial (weak_mkA rfl ?_ (by simp [*]) (by simp))
                                            · first | (simp (maxSteps := 1000000) (disch := first | omega | assumption) [*]; done) | (simp_all [leS]; done) | (simp [leS, *]; omega) | (simp_all [leS]; omega)
                                    · try simp at g17
                                      all_goals try (exfalso; omega)
                                      all_goals
                                        refine vcL_split 6 fun K' hK' => ?_
                                        simp (maxSteps := 1000000) (disch := first | omega | assumption) [ga4, ga10, ga14]
                                        repeat' refine And.intro ?_ ?_
                                        all_goals first | omega | exact rfl | skip
                                        refine hK' _ ?_
                                        clear hK' K'
                                        simp only [List.drop_succ_cons, List.drop_zero]
                                        refine vcL_bool 110 (by simp <;> rfl) ?_
                                        refine ⟨fun g19 => ?_, fun g19 => ?_⟩
                                        · try simp at g19
                                          all_goals try (exfalso; omega)
                                          all_goals
                                            refine vcL_split 4 fun K' hK' => ?_
                                            simp (maxSteps := 1000000) (disch := first | omega | assumption) [ga4, ga10, ga14]
                                            repeat' refine And.intro ?_ ?_
                                            all_goals first | omega | exact rfl | skip
                                            refine hK' _ ?_
                                            clear hK' K'
                                            simp only [List.drop_succ_cons, List.drop_zero]
                                            refine vcL_bool 114 (by simp <;> rfl) ?_
                                            refine ⟨fun g20 => ?_, fun g20 => ?_⟩
                                            · try simp at g20
                                              all_goals try (exfalso; omega)
                                              all_goals
                                                simp (maxSteps := 1000000) (disch := first | omega | assumption) [ga4, ga10, ga14]
                                                repeat' refine And.intro ?_ ?_
                                                all_goals first | omega | exact rfl | skip
                                                refine hK _ ?_
                                                clear hK K
                                                clear ga4 ga10 ga14
                                                clear all
                                                refine q_join () trivial (weak_mkA rfl ?_ (by simp [*]) (by simp))
                                                · first | (simp (maxSteps := 1000000) (disch := first | omega | assumption) [*]; done) | (simp_all [leS]; done) | (simp [leS, *]; omega) | (simp_all [leS]; omega)
                                            · try simp at g20
                                              all_goals try (exfalso; omega)
                                              all_goals
                                                simp (maxSteps := 1000000) (disch := first | omega | assumption) [ga4, ga10, ga14]
                                                repeat' refine And.intro ?_ ?_
                                                all_goals first | omega | exact rfl | skip
                                                refine hK _ ?_
                                                clear hK K
                                                clear ga4 ga10 ga14
                                                clear all
                                                refine q_join () trivial (weak_mkA rfl ?_ (by simp [*]) (by simp))
                                                · first | (simp (maxSteps := 1000000) (disch := first | omega | assumption) [*]; done) | (simp_all [leS]; done) | (simp [leS, *]; omega) | (simp_all [leS]; omega)
                                        · try simp at g19
                                          all_goals try (exfalso; omega)
                                          all_goals
                                            refine vcL_split 4 fun K' hK' => ?_
                                            simp (maxSteps := 1000000) (disch := first | omega | assumption) [ga4, ga10, ga14]
                                            repeat' refine And.intro ?_ ?_
                                            all_goals first | omega | exact rfl | skip
                                            refine hK' _ ?_
                                            clear hK' K'
                                            simp only [List.drop_succ_cons, List.drop_zero]
                                            simp (maxSteps := 1000000) (disch := first | omega | assumption) [ga4, ga10, ga14]
                                            repeat' refine And.intro ?_ ?_
                                            all_goals first | omega | exact rfl | skip
                                            refine hK _ ?_
                                            clear hK K
                                            clear ga4 ga10 ga14
                                            clear all
                                            refine q_join () trivial (weak_mkA rfl ?_ (by simp [*]) (by simp))
                                            · first | (simp (maxSteps := 1000000) (disch := first | omega | assumption) [*]; done) | (simp_all [leS]; done) | (simp [leS, *]; omega) | (simp_all [leS]; omega)
                      simp only [List.cons_append, List.nil_append, setL_nil, setL_cons, List.set_cons_zero, List.set_cons_succ]
                      refine awp_ifB (by simp <;> rfl) ?_
                      refine ⟨fun c21 => ?_, fun c21 => ?_⟩
                      · try simp at c21
                        all_goals try (exfalso; omega)
                        all_goals
                          refine awp_seq ?_
                          refine awp_regionA (c := ⟨[], [], []⟩) (by simp only [lite_cons, lite_nil] <;> rfl) fun all hall K hK => ?_
                          clear hall
                          simp (maxSteps := 1000000) (disch := first | omega | assumption)
                          repeat' refine And.intro ?_ ?_
                          all_goals first | omega | exact rfl | skip
                          refine hK _ ?_
                          clear hK K
                          clear all
                          refine q_then_n ?_
                          refine awp_ret ?_
                          refine q_block_r ?_
                          refine q_block_r ?_
                          refine q_then_r ?_
                          refine q_loop_r ?_
                          refine q_block_r ?_
                          refine q_then_r ?_
                          first | (simp [endQ]; done) | (exfalso; simp_all; done) | (exfalso; have h := okRun_at v40.hooks st j hw.ok (by assumption); omega) | (have h := hw.gone (by assumption); simp_all [endQ, List.take_of_length_le]; done) | (exfalso; have h := hw.fits (by assumption); have e : List.take j v40.hooks = v40.hooks := List.take_of_length_le (by assumption); simp only [e] at *; rcases c21 with ⟨a, b⟩ | ⟨a, b⟩ | ⟨a, b⟩ | a <;> first | exact b (h.en a) | exact b (h.le a) | (rcases h.wa a with e | e <;> simp [e] at b; done) | (by_cases q : v40.state.look.kind = 0; (simp only [if_pos q] at a; have h2 := h.qu (.inl q); omega); simp only [if_neg q] at a; have h2 := h.qu (.inr a.1); omega))
                      · try simp at c21
                        all_goals try (exfalso; omega)
                        all_goals
                          refine awp_skip ?_
                          refine q_block_n ?_
                          refine q_block_n ?_
                          refine q_then_n ?_
                          refine awp_regionA (c := ⟨[], [], []⟩) (by simp only [lite_cons, lite_nil] <;> rfl) fun all hall K hK => ?_
                          clear hall
                          simp (maxSteps := 1000000) (disch := first | omega | assumption)
                          repeat' refine And.intro ?_ ?_
                          all_goals first | omega | exact rfl | skip
                          refine hK _ ?_
                          clear hK K
                          clear all
                          refine q_round ((k + 1, v40.state, runF st v40.hooks)) ?_ ?_ (weak_mkA rfl ?_ (by simp) (by simp))
                          · exact ⟨by simp only; omega, hw.inv, hw.fits (by assumption)⟩
                          · try dsimp only
                            omega
                          · simp (maxSteps := 1000000) (disch := first | omega | assumption) [List.take_of_length_le, c4]
      · try simp at c3
        all_goals try (exfalso; omega)
        all_goals
          refine awp_exit ?_
          refine q_then_e ?_
          refine q_loop_e ?_
          refine q_block_e ?_
          refine q_then_n ?_
          refine awp_seq ?_
          refine awp_regionA (c := ⟨[], [], []⟩) (by simp only [lite_cons, lite_nil] <;> rfl) fun all hall K hK => ?_
          clear hall
          simp (maxSteps := 1000000) (disch := first | omega | assumption)
          repeat' refine And.intro ?_ ?_
          all_goals first | omega | exact rfl | skip
          refine hK _ ?_
          clear hK K
          clear all
          refine q_then_n ?_
          refine awp_ret ?_
          first | (simp [endQ]; done) | (exfalso; simp_all; done) | (exfalso; have h := okRun_at v40.hooks st j hw.ok (by assumption); omega) | (have h := hw.gone (by assumption); simp_all [endQ, List.take_of_length_le]; done) | (exfalso; have h := hw.fits (by assumption); have e : List.take j v40.hooks = v40.hooks := List.take_of_length_le (by assumption); simp only [e] at *; rcases c21 with ⟨a, b⟩ | ⟨a, b⟩ | ⟨a, b⟩ | a <;> first | exact b (h.en a) | exact b (h.le a) | (rcases h.wa a with e | e <;> simp [e] at b; done) | (by_cases q : v40.state.look.kind = 0; (simp only [if_pos q] at a; have h2 := h.qu (.inl q); omega); simp only [if_neg q] at a; have h2 := h.qu (.inr a.1); omega))

end Go.Proofs.Ythieajadepfeoaa

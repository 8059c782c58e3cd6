/- Walks: contracts of functions. Written by a program of ours out of annotations. -/
import Derived.Test.YthieajadepfeoaaWkPhase3
namespace Go.Proofs.Ythieajadepfeoaa
open Go Go.Vm
set_option maxRecDepth 20000
set_option linter.all false
set_option maxHeartbeats 8000000

-- scrim/scrimlaw21.PhaseJobs
theorem lawJobs_fn (fresh : Bool) (acts : List Act) (hl : acts.length ≤ 9223372036854775807) : Ct Try.prog 13 [D.bool fresh, .sl false (acts.map d_Act)] [] (fun r σ' => r = .bool true) := by
  refine fn_start (rs := [.tmp 4]) Try.func13 rfl rfl Try.ntmps13 Try.results13 (by simp) ?_
  simp only [argEnv]
  refine awp_seq ?_
  refine awp_regionA (c := ⟨[], [], []⟩) (by simp only [lite_cons, lite_nil] <;> rfl) fun all hall K hK => ?_
  clear hall
  simp (maxSteps := 1000000) (disch := first | omega | assumption)
  repeat' refine And.intro ?_ ?_
  all_goals first | omega | exact rfl | skip
  refine hK _ ?_
  clear hK K
  clear all
  refine q_then_n ?_
  refine awp_seq ?_
  refine awp_seq ?_
  refine awp_regionA (c := ⟨[], [], []⟩) (by simp only [lite_cons, lite_nil] <;> rfl) fun all hall K hK => ?_
  clear hall
  refine vcL_step fun K' hK' => ?_
  simp (maxSteps := 1000000) (disch := first | omega | assumption)
  refine Ct.mono (Ct.of_le (awake_fn _ ) (by first | exact leArgs_of rfl | (simp [leArgs, leArg]; done)) rfl) ?_
  rintro _ _ ⟨rfl, rfl⟩
  refine hK' _ ?_
  clear hK' K'
  simp (maxSteps := 1000000) (disch := first | omega | assumption)
  repeat' refine And.intro ?_ ?_
  all_goals first | omega | exact rfl | skip
  refine hK _ ?_
  clear hK K
  clear all
  refine q_then_n ?_
  refine awp_ifB (by simp <;> rfl) ?_
  refine ⟨fun c1 => ?_, fun c1 => ?_⟩
  · simp at c1
  · try simp at c1
    all_goals try (exfalso; omega)
    all_goals
      refine awp_skip ?_
      refine q_then_n ?_
      refine awp_seq ?_
      refine awp_regionA (c := ⟨[], [], []⟩) (by simp only [lite_cons, lite_nil] <;> rfl) fun all hall K hK => ?_
      clear hall
      refine vcL_split 1 fun K' hK' => ?_
      simp (maxSteps := 1000000) (disch := first | omega | assumption)
      repeat' refine And.intro ?_ ?_
      all_goals first | omega | exact rfl | skip
      refine hK' _ ?_
      clear hK' K'
      simp only [List.drop_succ_cons, List.drop_zero]
      refine vcL_step fun K' hK' => ?_
      simp (maxSteps := 1000000) (disch := first | omega | assumption)
      refine Ct.mono (Ct.of_le (new_fn fresh _ ) (by first | exact leArgs_of rfl | (simp [leArgs, leArg]; done)) rfl) ?_
      rintro _ _ ⟨rfl, rfl⟩
      generalize hv15 : new fresh = v15
      refine hK' _ ?_
      clear hK' K'
      simp (maxSteps := 1000000) (disch := first | omega | assumption)
      repeat' refine And.intro ?_ ?_
      all_goals first | omega | exact rfl | skip
      refine hK _ ?_
      clear hK K
      clear all
      refine q_then_n ?_
      refine awp_seq ?_
      refine awp_regionA (c := ⟨[], [], []⟩) (by simp only [lite_cons, lite_nil] <;> rfl) fun all hall K hK => ?_
      clear hall
      simp (maxSteps := 1000000) (disch := first | omega | assumption)
      repeat' refine And.intro ?_ ?_
      all_goals first | omega | exact rfl | skip
      refine hK _ ?_
      clear hK K
      clear all
      refine q_then_n ?_
      refine awp_seq ?_
      refine awp_seq ?_
      refine awp_regionA (c := ⟨[], [], []⟩) (by simp only [lite_cons, lite_nil] <;> rfl) fun all hall K hK => ?_
      clear hall
      simp (maxSteps := 1000000) (disch := first | omega | assumption)
      repeat' refine And.intro ?_ ?_
      all_goals first | omega | exact rfl | skip
      refine hK _ ?_
      clear hK K
      clear all
      refine q_then_n ?_
      refine awp_block ?_
      refine awp_keep [1, 4, 5, 6, 7, 8] (by simp only [keepL_nil, keepL_cons, envOf_sel, envOf_nil, sel_t, sel_f, Nat.reduceBEq] <;> rfl) ?_
      refine awp_loopM (fun (p : Nat × State) => [(8, .d (.v (.int .i64 (p.1 : Int)))), (6, .d (.v (.int .i64 (wantF p.2.look.kind)))), (7, .d (.v (.int .i64 p.2.look.move)))]) (fun (p : Nat × State) => [(0, [.v (.int .i64 p.2.look.kind), .v (.int .i64 p.2.look.move), .v (.int .i64 p.2.look.DX), .v (.int .i64 p.2.look.DY), .v (.int .i64 p.2.dur), .v (.int .i64 p.2.moveDur)])]) (fun (p : Nat × State) => []) [4, 6, 7, 8, 9, 10, 11, 16, 17, 18, 19, 20, 21, 22, 23, 24, 25, 26, 27, 28, 29, 30, 31, 32, 33, 34, 35, 36, 37, 38, 39, 40, 41, 42, 43, 44, 45, 46, 47, 48, 49, 50, 51, 52, 53, 54, 55, 56, 57, 58, 59, 60, 61, 62, 63, 64, 65, 66, 67, 68, 69, 70, 71, 72, 73, 74, 75, 76, 77, 78, 79, 80, 81, 82, 83, 84, 85, 86, 87, 88, 89, 90, 91, 92, 93, 94, 95, 96, 97, 98, 99, 100, 101] (fun (p : Nat × State) => p.1 ≤ acts.length ∧ Inv p.2) (fun (p : Nat × State) => acts.length - p.1) ((0, v15)) (by simp <;> rfl) ?_ (by simp) (by simp) ?_ ?_
      · cases fresh <;> simp [new, wantF, ← hv15]
      · exact ⟨Nat.zero_le _, hv15 ▸ new_inv _⟩
      rintro ⟨k, s⟩ ⟨hk, hi⟩
      simp only [List.cons_append, List.nil_append, setL_nil, setL_cons, List.set_cons_zero, List.set_cons_succ]
      simp only at hk hi
      refine awp_seq ?_
      refine awp_seq ?_
      refine awp_joinT (fun _ : Unit => [(23, .d (.v (.bool (decide (((k : Int) < (acts.length : Int)) ∧ ((k : Int) < 60))))))]) (fun _ => []) (fun _ => []) [16, 17, 18, 19, 20, 21, 22, 23] (fun _ => True) (by simp <;> rfl) ?_ fun _ _ => ?_
      · skip
        refine awp_regionA (c := ⟨[], [], []⟩) (by simp only [lite_cons, lite_nil] <;> rfl) fun all hall K hK => ?_
        have ga4 : guardOf all 4 = some 20 := hall 4
        clear hall
        refine vcL_split 5 fun K' hK' => ?_
        simp (maxSteps := 1000000) (disch := first | omega | assumption) [ga4]
        repeat' refine And.intro ?_ ?_
        all_goals first | omega | exact rfl | skip
        refine hK' _ ?_
        clear hK' K'
        simp only [List.drop_succ_cons, List.drop_zero]
        refine vcL_bool 20 (by simp <;> rfl) ?_
        refine ⟨fun g2 => ?_, fun g2 => ?_⟩
        · try simp at g2
          all_goals try (exfalso; omega)
          all_goals
            simp (maxSteps := 1000000) (disch := first | omega | assumption) [ga4]
            repeat' refine And.intro ?_ ?_
            all_goals first | omega | exact rfl | skip
            refine hK _ ?_
            clear hK K
            clear ga4
            clear all
            refine q_join () trivial (weak_mkA rfl ?_ (by simp [*]) (by simp))
            · first | (simp (maxSteps := 1000000) (disch := first | omega | assumption) [*]; done) | (simp_all [leS]; done) | (simp [leS, *]; omega) | (simp_all [leS]; omega)
        · try simp at g2
          all_goals try (exfalso; omega)
          all_goals
            simp (maxSteps := 1000000) (disch := first | omega | assumption) [ga4]
            repeat' refine And.intro ?_ ?_
            all_goals first | omega | exact rfl | skip
            refine hK _ ?_
            clear hK K
            clear ga4
            clear all
            refine q_join () trivial (weak_mkA rfl ?_ (by simp [*]) (by simp))
            · first | (simp (maxSteps := 1000000) (disch := first | omega | assumption) [*]; done) | (simp_all [leS]; done) | (simp [leS, *]; omega) | (simp_all [leS]; omega)
      simp only [List.cons_append, List.nil_append, setL_nil, setL_cons, List.set_cons_zero, List.set_cons_succ]
      refine awp_ifB (by simp <;> rfl) ?_
      refine ⟨fun c3 => ?_, fun c3 => ?_⟩
      · try simp at c3
        all_goals try (exfalso; omega)
        all_goals
          refine awp_skip ?_
          refine q_then_n ?_
          refine awp_seq ?_
          refine awp_block ?_
          refine awp_seq ?_
          refine awp_regionA (c := ⟨[], [], []⟩) (by simp only [lite_cons, lite_nil] <;> rfl) fun all hall K hK => ?_
          clear hall
          simp (maxSteps := 1000000) (disch := first | omega | assumption)
          repeat' refine And.intro ?_ ?_
          all_goals first | omega | exact rfl | skip
          refine hK _ ?_
          clear hK K
          clear all
          refine q_then_n ?_
          refine awp_seq ?_
          refine awp_seq ?_
          refine awp_joinT (fun _ : Unit => [(45, .d (.v (.bool (decide (if ((acts[k]).call) = 4 then ((wantF s.look.kind) ≠ 1) ∨ ((((acts[k]).call) = 9) ∧ (s.look.move ≠ 1)) else (((acts[k]).call) = 9) ∧ (s.look.move ≠ 1))))))]) (fun _ => []) (fun _ => []) [30, 31, 32, 33, 34, 35, 36, 37, 38, 39, 40, 41, 42, 43, 44, 45] (fun _ => True) (by simp <;> rfl) ?_ fun _ _ => ?_
          · skip
            refine awp_keep [1, 5, 6, 7, 8, 9, 23, 26, 27, 28, 29] (by simp only [keepL_nil, keepL_cons, envOf_sel, envOf_nil, sel_t, sel_f, Nat.reduceBEq] <;> rfl) ?_
            refine awp_regionA (c := ⟨[], [], []⟩) (by simp only [lite_cons, lite_nil] <;> rfl) fun all hall K hK => ?_
            have ga3 : guardOf all 3 = some 33 := hall 3
            have ga7 : guardOf all 7 = some 37 := hall 7
            have ga11 : guardOf all 11 = some 41 := hall 11
            clear hall
            refine vcL_split 4 fun K' hK' => ?_
            simp (maxSteps := 1000000) (disch := first | omega | assumption) [ga3, ga7, ga11]
            repeat' refine And.intro ?_ ?_
            all_goals first | omega | exact rfl | skip
            refine hK' _ ?_
            clear hK' K'
            simp only [List.drop_succ_cons, List.drop_zero]
            refine vcL_bool 33 (by simp <;> rfl) ?_
            refine ⟨fun g4 => ?_, fun g4 => ?_⟩
            · try simp at g4
              all_goals try (exfalso; omega)
              all_goals
                refine vcL_split 4 fun K' hK' => ?_
                simp (maxSteps := 1000000) (disch := first | omega | assumption) [ga3, ga7, ga11]
                repeat' refine And.intro ?_ ?_
                all_goals first | omega | exact rfl | skip
                refine hK' _ ?_
                clear hK' K'
                simp only [List.drop_succ_cons, List.drop_zero]
                refine vcL_bool 37 (by simp <;> rfl) ?_
                refine ⟨fun g5 => ?_, fun g5 => ?_⟩
                · try simp at g5
                  all_goals try (exfalso; omega)
                  all_goals
                    simp (maxSteps := 1000000) (disch := first | omega | assumption) [ga3, ga7, ga11]
                    repeat' refine And.intro ?_ ?_
                    all_goals first | omega | exact rfl | skip
                    refine hK _ ?_
                    clear hK K
                    clear ga3 ga7 ga11
                    clear all
                    refine q_join () trivial (weak_mkA rfl ?_ (by simp [*]) (by simp))
                    · first | (simp (maxSteps := 1000000) (disch := first | omega | assumption) [*]; done) | (simp_all [leS]; done) | (simp [leS, *]; omega) | (simp_all [leS]; omega)
                · try simp at g5
                  all_goals try (exfalso; omega)
                  all_goals
                    refine vcL_split 4 fun K' hK' => ?_
                    simp (maxSteps := 1000000) (disch := first | omega | assumption) [ga3, ga7, ga11]
                    repeat' refine And.intro ?_ ?_
                    all_goals first | omega | exact rfl | skip
                    refine hK' _ ?_
                    clear hK' K'
                    simp only [List.drop_succ_cons, List.drop_zero]
                    refine vcL_bool 41 (by simp <;> rfl) ?_
                    refine ⟨fun g6 => ?_, fun g6 => ?_⟩
                    · try simp at g6
                      all_goals try (exfalso; omega)
                      all_goals
                        simp (maxSteps := 1000000) (disch := first | omega | assumption) [ga3, ga7, ga11]
                        repeat' refine And.intro ?_ ?_
                        all_goals first | omega | exact rfl | skip
                        refine hK _ ?_
                        clear hK K
                        clear ga3 ga7 ga11
                        clear all
                        refine q_join () trivial (weak_mkA rfl ?_ (by simp [*]) (by simp))
                        · first | (simp (maxSteps := 1000000) (disch := first | omega | assumption) [*]; done) | (simp_all [leS]; done) | (simp [leS, *]; omega) | (simp_all [leS]; omega)
                    · try simp at g6
                      all_goals try (exfalso; omega)
                      all_goals
                        simp (maxSteps := 1000000) (disch := first | omega | assumption) [ga3, ga7, ga11]
                        repeat' refine And.intro ?_ ?_
                        all_goals first | omega | exact rfl | skip
                        refine hK _ ?_
                        clear hK K
                        clear ga3 ga7 ga11
                        clear all
                        refine q_join () trivial (weak_mkA rfl ?_ (by simp [*]) (by simp))
                        · first | (simp (maxSteps := 1000000) (disch := first | omega | assumption) [*]; done) | (simp_all [leS]; done) | (simp [leS, *]; omega) | (simp_all [leS]; omega)
            · try simp at g4
              all_goals try (exfalso; omega)
              all_goals
                refine vcL_split 4 fun K' hK' => ?_
                simp (maxSteps := 1000000) (disch := first | omega | assumption) [ga3, ga7, ga11]
                repeat' refine And.intro ?_ ?_
                all_goals first | omega | exact rfl | skip
                refine hK' _ ?_
                clear hK' K'
                simp only [List.drop_succ_cons, List.drop_zero]
                refine vcL_split 4 fun K' hK' => ?_
                simp (maxSteps := 1000000) (disch := first | omega | assumption) [ga3, ga7, ga11]
                repeat' refine And.intro ?_ ?_
                all_goals first | omega | exact rfl | skip
                refine hK' _ ?_
                clear hK' K'
                simp only [List.drop_succ_cons, List.drop_zero]
                refine vcL_bool 41 (by simp <;> rfl) ?_
                refine ⟨fun g7 => ?_, fun g7 => ?_⟩
                · try simp at g7
                  all_goals try (exfalso; omega)
                  all_goals
                    simp (maxSteps := 1000000) (disch := first | omega | assumption) [ga3, ga7, ga11]
                    repeat' refine And.intro ?_ ?_
                    all_goals first | omega | exact rfl | skip
                    refine hK _ ?_
                    clear hK K
                    clear ga3 ga7 ga11
                    clear all
                    refine q_join () trivial (weak_mkA rfl ?_ (by simp [*]) (by simp))
                    · first | (simp (maxSteps := 1000000) (disch := first | omega | assumption) [*]; done) | (simp_all [leS]; done) | (simp [leS, *]; omega) | (simp_all [leS]; omega)
                · try simp at g7
                  all_goals try (exfalso; omega)
                  all_goals
                    simp (maxSteps := 1000000) (disch := first | omega | assumption) [ga3, ga7, ga11]
                    repeat' refine And.intro ?_ ?_
                    all_goals first | omega | exact rfl | skip
                    refine hK _ ?_
                    clear hK K
                    clear ga3 ga7 ga11
                    clear all
                    refine q_join () trivial (weak_mkA rfl ?_ (by simp [*]) (by simp))
                    · first | (simp (maxSteps := 1000000) (disch := first | omega | assumption) [*]; done) | (simp_all [leS]; done) | (simp [leS, *]; omega) | (simp_all [leS]; omega)
          simp only [List.cons_append, List.nil_append, setL_nil, setL_cons, List.set_cons_zero, List.set_cons_succ]
          refine awp_ifB (by simp <;> rfl) ?_
          refine ⟨fun c8 => ?_, fun c8 => ?_⟩
          · try simp at c8
            all_goals try (exfalso; omega)
            all_goals
              refine awp_exit ?_
              refine q_then_e ?_
              refine q_block_e ?_
              refine q_then_n ?_
              refine awp_keep [1, 5, 6, 7, 8] (by simp only [keepL_nil, keepL_cons, envOf_sel, envOf_nil, sel_t, sel_f, Nat.reduceBEq] <;> rfl) ?_
              refine awp_regionA (c := ⟨[], [], []⟩) (by simp only [lite_cons, lite_nil] <;> rfl) fun all hall K hK => ?_
              clear hall
              simp (maxSteps := 1000000) (disch := first | omega | assumption)
              repeat' refine And.intro ?_ ?_
              all_goals first | omega | exact rfl | skip
              refine hK _ ?_
              clear hK K
              clear all
              refine q_round ((k + 1, s)) ?_ ?_ (weak_mkA rfl ?_ (by simp) (by simp))
              · first | exact ⟨by simp only; omega, hv48 ▸ do_inv _ _ hi⟩ | exact ⟨by simp only; omega, hi⟩
              · try dsimp only
                omega
              · first | (simp (disch := first | omega | assumption); done) | (have hj := jobs_law s acts[k] hi (by intro h; simp_all) (by intro h; simp_all); rw [hv48] at hj; have h := hj.st (by assumption); simp only [ne_eq, ite_not] at h; simp (disch := first | omega | assumption) [h]; done)
          · try simp at c8
            all_goals try (exfalso; omega)
            all_goals
              refine awp_skip ?_
              refine q_then_n ?_
              refine awp_seq ?_
              refine awp_keep [1, 5, 6, 7, 8, 9] (by simp only [keepL_nil, keepL_cons, envOf_sel, envOf_nil, sel_t, sel_f, Nat.reduceBEq] <;> rfl) ?_
              refine awp_regionA (c := ⟨[], [], []⟩) (by simp only [lite_cons, lite_nil] <;> rfl) fun all hall K hK => ?_
              clear hall
              refine vcL_split 2 fun K' hK' => ?_
              simp (maxSteps := 1000000) (disch := first | omega | assumption)
              repeat' refine And.intro ?_ ?_
              all_goals first | omega | exact rfl | skip
              refine hK' _ ?_
              clear hK' K'
              simp only [List.drop_succ_cons, List.drop_zero]
              refine vcL_step fun K' hK' => ?_
              simp (maxSteps := 1000000) (disch := first | omega | assumption)
              refine Ct.mono (Ct.of_le (do__fn s (acts[k]) _ ) (by first | exact leArgs_of rfl | (simp [leArgs, leArg]; done)) rfl) ?_
              rintro _ _ ⟨rfl, rfl⟩
              generalize hv48 : do_ s (acts[k]) = v48
              refine hK' _ ?_
              clear hK' K'
              simp (maxSteps := 1000000) (disch := first | omega | assumption)
              repeat' refine And.intro ?_ ?_
              all_goals first | omega | exact rfl | skip
              refine hK _ ?_
              clear hK K
              clear all
              refine q_then_n ?_
              refine awp_seq ?_
              refine awp_seq ?_
              refine awp_regionA (c := ⟨[], [], []⟩) (by simp only [lite_cons, lite_nil] <;> rfl) fun all hall K hK => ?_
              clear hall
              simp (maxSteps := 1000000) (disch := first | omega | assumption)
              repeat' refine And.intro ?_ ?_
              all_goals first | omega | exact rfl | skip
              refine hK _ ?_
              clear hK K
              clear all
              refine q_then_n ?_
              refine awp_keep [1, 5, 6, 7, 8, 9, 10, 51] (by simp only [keepL_nil, keepL_cons, envOf_sel, envOf_nil, sel_t, sel_f, Nat.reduceBEq] <;> rfl) ?_
              refine awp_joinT (fun _ : Unit => [(6, .d (.v (.int .i64 (if ((acts[k]).call) = 4 then 0 else wantF s.look.kind))))]) (fun _ => []) (fun _ => []) [6] (fun _ => True) (by simp <;> rfl) ?_ fun _ _ => ?_
              · skip
                refine awp_ifB (by simp <;> rfl) ?_
                refine ⟨fun c9 => ?_, fun c9 => ?_⟩
                · try simp at c9
                  all_goals try (exfalso; omega)
                  all_goals
                    refine awp_regionA (c := ⟨[], [], []⟩) (by simp only [lite_cons, lite_nil] <;> rfl) fun all hall K hK => ?_
                    clear hall
                    simp (maxSteps := 1000000) (disch := first | omega | assumption)
                    repeat' refine And.intro ?_ ?_
                    all_goals first | omega | exact rfl | skip
                    refine hK _ ?_
                    clear hK K
                    clear all
                    refine q_join () trivial (weak_mkA rfl ?_ (by simp [*]) (by simp))
                    · first | (simp (maxSteps := 1000000) (disch := first | omega | assumption) [*]; done) | (simp_all [leS]; done) | (simp [leS, *]; omega) | (simp_all [leS]; omega)
                · try simp at c9
                  all_goals try (exfalso; omega)
                  all_goals
                    refine awp_skip ?_
                    refine q_join () trivial (weak_mkA rfl ?_ (by simp [*]) (by simp))
                    · first | (simp (maxSteps := 1000000) (disch := first | omega | assumption) [*]; done) | (simp_all [leS]; done) | (simp [leS, *]; omega) | (simp_all [leS]; omega)
              simp only [List.cons_append, List.nil_append, setL_nil, setL_cons, List.set_cons_zero, List.set_cons_succ]
              refine awp_seq ?_
              refine awp_seq ?_
              refine awp_regionA (c := ⟨[], [], []⟩) (by simp only [lite_cons, lite_nil] <;> rfl) fun all hall K hK => ?_
              clear hall
              simp (maxSteps := 1000000) (disch := first | omega | assumption)
              repeat' refine And.intro ?_ ?_
              all_goals first | omega | exact rfl | skip
              refine hK _ ?_
              clear hK K
              clear all
              refine q_then_n ?_
              refine awp_joinT (fun _ : Unit => [(7, .d (.v (.int .i64 (if ((acts[k]).call) = 9 then 0 else s.look.move))))]) (fun _ => []) (fun _ => []) [7] (fun _ => True) (by simp <;> rfl) ?_ fun _ _ => ?_
              · skip
                refine awp_ifB (by simp <;> rfl) ?_
                refine ⟨fun c10 => ?_, fun c10 => ?_⟩
                · try simp at c10
                  all_goals try (exfalso; omega)
                  all_goals
                    refine awp_regionA (c := ⟨[], [], []⟩) (by simp only [lite_cons, lite_nil] <;> rfl) fun all hall K hK => ?_
                    clear hall
                    simp (maxSteps := 1000000) (disch := first | omega | assumption)
                    repeat' refine And.intro ?_ ?_
                    all_goals first | omega | exact rfl | skip
                    refine hK _ ?_
                    clear hK K
                    clear all
                    refine q_join () trivial (weak_mkA rfl ?_ (by simp [*]) (by simp))
                    · first | (simp (maxSteps := 1000000) (disch := first | omega | assumption) [*]; done) | (simp_all [leS]; done) | (simp [leS, *]; omega) | (simp_all [leS]; omega)
                · try simp at c10
                  all_goals try (exfalso; omega)
                  all_goals
                    refine awp_skip ?_
                    refine q_join () trivial (weak_mkA rfl ?_ (by simp [*]) (by simp))
                    · first | (simp (maxSteps := 1000000) (disch := first | omega | assumption) [*]; done) | (simp_all [leS]; done) | (simp [leS, *]; omega) | (simp_all [leS]; omega)
              simp only [List.cons_append, List.nil_append, setL_nil, setL_cons, List.set_cons_zero, List.set_cons_succ]
              refine awp_seq ?_
              refine awp_seq ?_
              refine awp_regionA (c := ⟨[], [], []⟩) (by simp only [lite_cons, lite_nil] <;> rfl) fun all hall K hK => ?_
              clear hall
              simp (maxSteps := 1000000) (disch := first | omega | assumption)
              repeat' refine And.intro ?_ ?_
              all_goals first | omega | exact rfl | skip
              refine hK _ ?_
              clear hK K
              clear all
              refine q_then_n ?_
              refine awp_keep [1, 5, 6, 7, 8, 10, 56] (by simp only [keepL_nil, keepL_cons, envOf_sel, envOf_nil, sel_t, sel_f, Nat.reduceBEq] <;> rfl) ?_
              refine awp_joinT (fun _ : Unit => [(6, .d (.v (.int .i64 (if v48.end_ = true then 0 else (if ((acts[k]).call) = 4 then 0 else wantF s.look.kind)))))]) (fun _ => []) (fun _ => []) [6] (fun _ => True) (by simp <;> rfl) ?_ fun _ _ => ?_
              · skip
                refine awp_ifB (by simp <;> rfl) ?_
                refine ⟨fun c11 => ?_, fun c11 => ?_⟩
                · try simp at c11
                  all_goals try (exfalso; omega)
                  all_goals
                    refine awp_regionA (c := ⟨[], [], []⟩) (by simp only [lite_cons, lite_nil] <;> rfl) fun all hall K hK => ?_
                    clear hall
                    simp (maxSteps := 1000000) (disch := first | omega | assumption)
                    repeat' refine And.intro ?_ ?_
                    all_goals first | omega | exact rfl | skip
                    refine hK _ ?_
                    clear hK K
                    clear all
                    refine q_join () trivial (weak_mkA rfl ?_ (by simp [*]) (by simp))
                    · first | (simp (maxSteps := 1000000) (disch := first | omega | assumption) [*]; done) | (simp_all [leS]; done) | (simp [leS, *]; omega) | (simp_all [leS]; omega)
                · try simp at c11
                  all_goals try (exfalso; omega)
                  all_goals
                    refine awp_skip ?_
                    refine q_join () trivial (weak_mkA rfl ?_ (by simp [*]) (by simp))
                    · first | (simp (maxSteps := 1000000) (disch := first | omega | assumption) [*]; done) | (simp_all [leS]; done) | (simp [leS, *]; omega) | (simp_all [leS]; omega)
              simp only [List.cons_append, List.nil_append, setL_nil, setL_cons, List.set_cons_zero, List.set_cons_succ]
              refine awp_seq ?_
              refine awp_seq ?_
              refine awp_regionA (c := ⟨[], [], []⟩) (by simp only [lite_cons, lite_nil] <;> rfl) fun all hall K hK => ?_
              clear hall
              simp (maxSteps := 1000000) (disch := first | omega | assumption)
              repeat' refine And.intro ?_ ?_
              all_goals first | omega | exact rfl | skip
              refine hK _ ?_
              clear hK K
              clear all
              refine q_then_n ?_
              refine awp_joinT (fun _ : Unit => [(7, .d (.v (.int .i64 (if v48.moveEnd = true then 0 else (if ((acts[k]).call) = 9 then 0 else s.look.move)))))]) (fun _ => []) (fun _ => []) [7] (fun _ => True) (by simp <;> rfl) ?_ fun _ _ => ?_
              · skip
                refine awp_ifB (by simp <;> rfl) ?_
                refine ⟨fun c12 => ?_, fun c12 => ?_⟩
                · try simp at c12
                  all_goals try (exfalso; omega)
                  all_goals
                    refine awp_regionA (c := ⟨[], [], []⟩) (by simp only [lite_cons, lite_nil] <;> rfl) fun all hall K hK => ?_
                    clear hall
                    simp (maxSteps := 1000000) (disch := first | omega | assumption)
                    repeat' refine And.intro ?_ ?_
                    all_goals first | omega | exact rfl | skip
                    refine hK _ ?_
                    clear hK K
                    clear all
                    refine q_join () trivial (weak_mkA rfl ?_ (by simp [*]) (by simp))
                    · first | (simp (maxSteps := 1000000) (disch := first | omega | assumption) [*]; done) | (simp_all [leS]; done) | (simp [leS, *]; omega) | (simp_all [leS]; omega)
                · try simp at c12
                  all_goals try (exfalso; omega)
                  all_goals
                    refine awp_skip ?_
                    refine q_join () trivial (weak_mkA rfl ?_ (by simp [*]) (by simp))
                    · first | (simp (maxSteps := 1000000) (disch := first | omega | assumption) [*]; done) | (simp_all [leS]; done) | (simp [leS, *]; omega) | (simp_all [leS]; omega)
              simp only [List.cons_append, List.nil_append, setL_nil, setL_cons, List.set_cons_zero, List.set_cons_succ]
              refine awp_seq ?_
              refine awp_seq ?_
              refine awp_regionA (c := ⟨[], [], []⟩) (by simp only [lite_cons, lite_nil] <;> rfl) fun all hall K hK => ?_
              clear hall
              simp (maxSteps := 1000000) (disch := first | omega | assumption)
              repeat' refine And.intro ?_ ?_
              all_goals first | omega | exact rfl | skip
              refine hK _ ?_
              clear hK K
              clear all
              refine q_then_n ?_
              refine awp_keep [1, 5, 6, 7, 8, 10, 61] (by simp only [keepL_nil, keepL_cons, envOf_sel, envOf_nil, sel_t, sel_f, Nat.reduceBEq] <;> rfl) ?_
              refine awp_joinT (fun _ : Unit => [(6, .d (.v (.int .i64 (if v48.job ≠ 0 then v48.job else (if v48.end_ = true then 0 else (if ((acts[k]).call) = 4 then 0 else wantF s.look.kind))))))]) (fun _ => []) (fun _ => []) [4, 6, 62, 63, 64, 65] (fun _ => True) (by simp <;> rfl) ?_ fun _ _ => ?_
              · skip
                refine awp_ifB (by simp <;> rfl) ?_
                refine ⟨fun c13 => ?_, fun c13 => ?_⟩
                · try simp at c13
                  all_goals try (exfalso; omega)
                  all_goals
                    refine awp_seq ?_
                    refine awp_seq ?_
                    refine awp_regionA (c := ⟨[], [], []⟩) (by simp only [lite_cons, lite_nil] <;> rfl) fun all hall K hK => ?_
                    clear hall
                    simp (maxSteps := 1000000) (disch := first | omega | assumption)
                    repeat' refine And.intro ?_ ?_
                    all_goals first | omega | exact rfl | skip
                    refine hK _ ?_
                    clear hK K
                    clear all
                    refine q_then_n ?_
                    refine awp_ifB (by simp <;> rfl) ?_
                    refine ⟨fun c14 => ?_, fun c14 => ?_⟩
                    · try simp at c14
                      all_goals try (exfalso; omega)
                      all_goals
                        refine awp_seq ?_
                        refine awp_regionA (c := ⟨[], [], []⟩) (by simp only [lite_cons, lite_nil] <;> rfl) fun all hall K hK => ?_
                        clear hall
                        simp (maxSteps := 1000000) (disch := first | omega | assumption)
                        repeat' refine And.intro ?_ ?_
                        all_goals first | omega | exact rfl | skip
                        refine hK _ ?_
                        clear hK K
                        clear all
                        refine q_then_n ?_
                        refine awp_ret ?_
                        refine q_then_r ?_
                        refine q_join_r ?_
                        refine q_block_r ?_
                        refine q_then_r ?_
                        refine q_loop_r ?_
                        refine q_block_r ?_
                        refine q_then_r ?_
                        first | (simp [endQ]; done) | (have hj := jobs_law s acts[k] hi (by intro h; simp_all) (by intro h; simp_all); obtain ⟨j2, m2, gone, hst⟩ := hj; subst_vars; simp_all [endQ]; done) | (have hj := jobs_law s acts[k] hi (by intro h; simp_all) (by intro h; simp_all); obtain ⟨j2, m2, gone, hst⟩ := hj; subst_vars; simp_all [endQ, wantF]; done)
                    · try simp at c14
                      all_goals try (exfalso; omega)
                      all_goals
                        refine awp_skip ?_
                        refine q_then_n ?_
                        refine awp_regionA (c := ⟨[], [], []⟩) (by simp only [lite_cons, lite_nil] <;> rfl) fun all hall K hK => ?_
                        clear hall
                        simp (maxSteps := 1000000) (disch := first | omega | assumption)
                        repeat' refine And.intro ?_ ?_
                        all_goals first | omega | exact rfl | skip
                        refine hK _ ?_
                        clear hK K
                        clear all
                        refine q_join () trivial (weak_mkA rfl ?_ (by simp [*]) (by simp))
                        · first | (simp (maxSteps := 1000000) (disch := first | omega | assumption) [*]; done) | (simp_all [leS]; done) | (simp [leS, *]; omega) | (simp_all [leS]; omega)
                · try simp at c13
                  all_goals try (exfalso; omega)
                  all_goals
                    refine awp_skip ?_
                    refine q_join () trivial (weak_mkA rfl ?_ (by simp [*]) (by simp))
                    · first | (simp (maxSteps := 1000000) (disch := first | omega | assumption) [*]; done) | (simp_all [leS]; done) | (simp [leS, *]; omega) | (simp_all [leS]; omega)
              simp only [List.cons_append, List.nil_append, setL_nil, setL_cons, List.set_cons_zero, List.set_cons_succ]
              refine awp_seq ?_
              refine awp_seq ?_
              refine awp_regionA (c := ⟨[], [], []⟩) (by simp only [lite_cons, lite_nil] <;> rfl) fun all hall K hK => ?_
              clear hall
              simp (maxSteps := 1000000) (disch := first | omega | assumption)
              repeat' refine And.intro ?_ ?_
              all_goals first | omega | exact rfl | skip
              refine hK _ ?_
              clear hK K
              clear all
              refine q_then_n ?_
              refine awp_joinT (fun _ : Unit => [(7, .d (.v (.int .i64 (if v48.moveJob ≠ 0 then v48.moveJob else (if v48.moveEnd = true then 0 else (if ((acts[k]).call) = 9 then 0 else s.look.move))))))]) (fun _ => []) (fun _ => []) [4, 7, 69, 70, 71, 72] (fun _ => True) (by simp <;> rfl) ?_ fun _ _ => ?_
              · skip
                refine awp_ifB (by simp <;> rfl) ?_
                refine ⟨fun c15 => ?_, fun c15 => ?_⟩
                · try simp at c15
                  all_goals try (exfalso; omega)
                  all_goals
                    refine awp_seq ?_
                    refine awp_seq ?_
                    refine awp_regionA (c := ⟨[], [], []⟩) (by simp only [lite_cons, lite_nil] <;> rfl) fun all hall K hK => ?_
                    clear hall
                    simp (maxSteps := 1000000) (disch := first | omega | assumption)
                    repeat' refine And.intro ?_ ?_
                    all_goals first | omega | exact rfl | skip
                    refine hK _ ?_
                    clear hK K
                    clear all
                    refine q_then_n ?_
                    refine awp_ifB (by simp <;> rfl) ?_
                    refine ⟨fun c16 => ?_, fun c16 => ?_⟩
                    · try simp at c16
                      all_goals try (exfalso; omega)
                      all_goals
                        refine awp_seq ?_
                        refine awp_keep [1, 5, 6, 7, 8, 10, 61, 66, 67, 68] (by simp only [keepL_nil, keepL_cons, envOf_sel, envOf_nil, sel_t, sel_f, Nat.reduceBEq] <;> rfl) ?_
                        refine awp_regionA (c := ⟨[], [], []⟩) (by simp only [lite_cons, lite_nil] <;> rfl) fun all hall K hK => ?_
                        clear hall
                        simp (maxSteps := 1000000) (disch := first | omega | assumption)
                        repeat' refine And.intro ?_ ?_
                        all_goals first | omega | exact rfl | skip
                        refine hK _ ?_
                        clear hK K
                        clear all
                        refine q_then_n ?_
                        refine awp_ret ?_
                        refine q_then_r ?_
                        refine q_join_r ?_
                        refine q_block_r ?_
                        refine q_then_r ?_
                        refine q_loop_r ?_
                        refine q_block_r ?_
                        refine q_then_r ?_
                        first | (simp [endQ]; done) | (have hj := jobs_law s acts[k] hi (by intro h; simp_all) (by intro h; simp_all); obtain ⟨j2, m2, gone, hst⟩ := hj; subst_vars; simp_all [endQ]; done) | (have hj := jobs_law s acts[k] hi (by intro h; simp_all) (by intro h; simp_all); obtain ⟨j2, m2, gone, hst⟩ := hj; subst_vars; simp_all [endQ, wantF]; done)
                    · try simp at c16
                      all_goals try (exfalso; omega)
                      all_goals
                        refine awp_skip ?_
                        refine q_then_n ?_
                        refine awp_keep [1, 5, 6, 7, 8, 10, 61, 66, 67, 68] (by simp only [keepL_nil, keepL_cons, envOf_sel, envOf_nil, sel_t, sel_f, Nat.reduceBEq] <;> rfl) ?_
                        refine awp_regionA (c := ⟨[], [], []⟩) (by simp only [lite_cons, lite_nil] <;> rfl) fun all hall K hK => ?_
                        clear hall
                        simp (maxSteps := 1000000) (disch := first | omega | assumption)
                        repeat' refine And.intro ?_ ?_
                        all_goals first | omega | exact rfl | skip
                        refine hK _ ?_
                        clear hK K
                        clear all
                        refine q_join () trivial (weak_mkA rfl ?_ (by simp [*]) (by simp))
                        · first | (simp (maxSteps := 1000000) (disch := first | omega | assumption) [*]; done) | (simp_all [leS]; done) | (simp [leS, *]; omega) | (simp_all [leS]; omega)
                · try simp at c15
                  all_goals try (exfalso; omega)
                  all_goals
                    refine awp_skip ?_
                    refine q_join () trivial (weak_mkA rfl ?_ (by simp [*]) (by simp))
                    · first | (simp (maxSteps := 1000000) (disch := first | omega | assumption) [*]; done) | (simp_all [leS]; done) | (simp [leS, *]; omega) | (simp_all [leS]; omega)
              simp only [List.cons_append, List.nil_append, setL_nil, setL_cons, List.set_cons_zero, List.set_cons_succ]
              refine awp_seq ?_
              refine awp_seq ?_
              refine awp_regionA (c := ⟨[], [], []⟩) (by simp only [lite_cons, lite_nil] <;> rfl) fun all hall K hK => ?_
              clear hall
              simp (maxSteps := 1000000) (disch := first | omega | assumption)
              repeat' refine And.intro ?_ ?_
              all_goals first | omega | exact rfl | skip
              refine hK _ ?_
              clear hK K
              clear all
              refine q_then_n ?_
              refine awp_seq ?_
              refine awp_keep [1, 5, 6, 7, 8, 10] (by simp only [keepL_nil, keepL_cons, envOf_sel, envOf_nil, sel_t, sel_f, Nat.reduceBEq] <;> rfl) ?_
              refine awp_regionA (c := ⟨[], [], []⟩) (by simp only [lite_cons, lite_nil] <;> rfl) fun all hall K hK => ?_
              clear hall
              simp (maxSteps := 1000000) (disch := first | omega | assumption)
              repeat' refine And.intro ?_ ?_
              all_goals first | omega | exact rfl | skip
              refine hK _ ?_
              clear hK K
              clear all
              refine q_then_n ?_
              refine awp_ifB (by simp <;> rfl) ?_
              refine ⟨fun c17 => ?_, fun c17 => ?_⟩
              · try simp at c17
                all_goals try (exfalso; omega)
                all_goals
                  refine awp_seq ?_
                  refine awp_joinT (fun _ : Unit => [(4, .d (.v (.bool (decide (((if v48.job ≠ 0 then v48.job else (if v48.end_ = true then 0 else (if ((acts[k]).call) = 4 then 0 else wantF s.look.kind))) = 0) ∧ ((if v48.moveJob ≠ 0 then v48.moveJob else (if v48.moveEnd = true then 0 else (if ((acts[k]).call) = 9 then 0 else s.look.move))) = 0))))))]) (fun _ => []) (fun _ => []) [4, 77, 78, 79, 80, 81, 82] (fun _ => True) (by simp <;> rfl) ?_ fun _ _ => ?_
                  · skip
                    refine awp_regionA (c := ⟨[], [], []⟩) (by simp only [lite_cons, lite_nil] <;> rfl) fun all hall K hK => ?_
                    have ga2 : guardOf all 2 = some 79 := hall 2
                    clear hall
                    refine vcL_split 3 fun K' hK' => ?_
                    simp (maxSteps := 1000000) (disch := first | omega | assumption) [ga2]
                    repeat' refine And.intro ?_ ?_
                    all_goals first | omega | exact rfl | skip
                    refine hK' _ ?_
                    clear hK' K'
                    simp only [List.drop_succ_cons, List.drop_zero]
                    refine vcL_bool 79 (by simp <;> rfl) ?_
                    refine ⟨fun g18 => ?_, fun g18 => ?_⟩
                    · try simp at g18
                      all_goals try (exfalso; omega)
                      all_goals
                        simp (maxSteps := 1000000) (disch := first | omega | assumption) [ga2]
                        repeat' refine And.intro ?_ ?_
                        all_goals first | omega | exact rfl | skip
                        refine hK _ ?_
                        clear hK K
                        clear ga2
                        clear all
                        refine q_join () trivial (weak_mkA rfl ?_ (by simp [*]) (by simp))
                        · first | (simp (maxSteps := 1000000) (disch := first | omega | assumption) [*]; done) | (simp_all [leS]; done) | (simp [leS, *]; omega) | (simp_all [leS]; omega)
                    · try simp at g18
                      all_goals try (exfalso; omega)
                      all_goals
                        simp (maxSteps := 1000000) (disch := first | omega | assumption) [ga2]
                        repeat' refine And.intro ?_ ?_
                        all_goals first | omega | exact rfl | skip
                        refine hK _ ?_
                        clear hK K
                        clear ga2
                        clear all
                        refine q_join () trivial (weak_mkA rfl ?_ (by simp [*]) (by simp))
                        · first | (simp (maxSteps := 1000000) (disch := first | omega | assumption) [*]; done) | (simp_all [leS]; done) | (simp [leS, *]; omega) | (simp_all [leS]; omega)
                  simp only [List.cons_append, List.nil_append, setL_nil, setL_cons, List.set_cons_zero, List.set_cons_succ]
                  refine awp_ret ?_
                  refine q_then_r ?_
                  refine q_block_r ?_
                  refine q_then_r ?_
                  refine q_loop_r ?_
                  refine q_block_r ?_
                  refine q_then_r ?_
                  first | (simp [endQ]; done) | (have hj := jobs_law s acts[k] hi (by intro h; simp_all) (by intro h; simp_all); obtain ⟨j2, m2, gone, hst⟩ := hj; subst_vars; simp_all [endQ]; done) | (have hj := jobs_law s acts[k] hi (by intro h; simp_all) (by intro h; simp_all); obtain ⟨j2, m2, gone, hst⟩ := hj; subst_vars; simp_all [endQ, wantF]; done)
              · try simp at c17
                all_goals try (exfalso; omega)
                all_goals
                  refine awp_skip ?_
                  refine q_then_n ?_
                  refine awp_seq ?_
                  refine awp_regionA (c := ⟨[], [], []⟩) (by simp only [lite_cons, lite_nil] <;> rfl) fun all hall K hK => ?_
                  clear hall
                  simp (maxSteps := 1000000) (disch := first | omega | assumption)
                  repeat' refine And.intro ?_ ?_
                  all_goals first | omega | exact rfl | skip
                  refine hK _ ?_
                  clear hK K
                  clear all
                  refine q_then_n ?_
                  refine awp_seq ?_
                  refine awp_seq ?_
                  refine awp_regionA (c := ⟨[], [], []⟩) (by simp only [lite_cons, lite_nil] <;> rfl) fun all hall K hK => ?_
                  clear hall
                  simp (maxSteps := 1000000) (disch := first | omega | assumption)
                  repeat' refine And.intro ?_ ?_
                  all_goals first | omega | exact rfl | skip
                  refine hK _ ?_
                  clear hK K
                  clear all
                  refine q_then_n ?_
                  refine awp_block ?_
                  refine awp_seq ?_
                  refine awp_seq ?_
                  refine awp_keep [1, 5, 6, 7, 8, 11, 85] (by simp only [keepL_nil, keepL_cons, envOf_sel, envOf_nil, sel_t, sel_f, Nat.reduceBEq] <;> rfl) ?_
                  refine awp_regionA (c := ⟨[], [], []⟩) (by simp only [lite_cons, lite_nil] <;> rfl) fun all hall K hK => ?_
                  clear hall
                  simp (maxSteps := 1000000) (disch := first | omega | assumption)
                  repeat' refine And.intro ?_ ?_
                  all_goals first | omega | exact rfl | skip
                  refine hK _ ?_
                  clear hK K
                  clear all
                  refine q_then_n ?_
                  refine awp_joinT (fun _ : Unit => [(86, .d (.v (.bool (decide (if v48.state.look.kind = 2 then v48.state.look.kind = 2 else v48.state.look.kind = 5)))))]) (fun _ => []) (fun _ => []) [86, 88] (fun _ => True) (by simp <;> rfl) ?_ fun _ _ => ?_
                  · skip
                    refine awp_ifB (by simp <;> rfl) ?_
                    refine ⟨fun c19 => ?_, fun c19 => ?_⟩
                    · try simp at c19
                      all_goals try (exfalso; omega)
                      all_goals
                        refine awp_skip ?_
                        refine q_join () trivial (weak_mkA rfl ?_ (by simp [*]) (by simp))
                        · first | (simp (maxSteps := 1000000) (disch := first | omega | assumption) [*]; done) | (simp_all [leS]; done) | (simp [leS, *]; omega) | (simp_all [leS]; omega)
                    · try simp at c19
                      all_goals try (exfalso; omega)
                      all_goals
                        refine awp_regionA (c := ⟨[], [], []⟩) (by simp only [lite_cons, lite_nil] <;> rfl) fun all hall K hK => ?_
                        clear hall
                        simp (maxSteps := 1000000) (disch := first | omega | assumption)
                        repeat' refine And.intro ?_ ?_
                        all_goals first | omega | exact rfl | skip
                        refine hK _ ?_
                        clear hK K
                        clear all
                        refine q_join () trivial (weak_mkA rfl ?_ (by simp [*]) (by simp))
                        · first | (simp (maxSteps := 1000000) (disch := first | omega | assumption) [*]; done) | (simp_all [leS]; done) | (simp [leS, *]; omega) | (simp_all [leS]; omega)
                  simp only [List.cons_append, List.nil_append, setL_nil, setL_cons, List.set_cons_zero, List.set_cons_succ]
                  refine awp_ifB (by simp <;> rfl) ?_
                  refine ⟨fun c20 => ?_, fun c20 => ?_⟩
                  · try simp at c20
                    all_goals try (exfalso; omega)
                    all_goals
                      refine awp_regionA (c := ⟨[], [], []⟩) (by simp only [lite_cons, lite_nil] <;> rfl) fun all hall K hK => ?_
                      clear hall
                      simp (maxSteps := 1000000) (disch := first | omega | assumption)
                      repeat' refine And.intro ?_ ?_
                      all_goals first | omega | exact rfl | skip
                      refine hK _ ?_
                      clear hK K
                      clear all
                      refine q_block_n ?_
                      refine q_then_n ?_
                      refine awp_seq ?_
                      refine awp_joinT (fun _ : Unit => [(101, .d (.v (.bool (decide (((if v48.job ≠ 0 then v48.job else (if v48.end_ = true then 0 else (if ((acts[k]).call) = 4 then 0 else wantF s.look.kind))) ≠ 1) ∨ ((if v48.moveJob ≠ 0 then v48.moveJob else (if v48.moveEnd = true then 0 else (if ((acts[k]).call) = 9 then 0 else s.look.move))) ≠ v48.state.look.move))))))]) (fun _ => []) (fun _ => []) [92, 93, 94, 95, 96, 97, 98, 99, 100, 101] (fun _ => True) (by simp <;> rfl) ?_ fun _ _ => ?_
                      · skip
                        refine awp_regionA (c := ⟨[], [], []⟩) (by simp only [lite_cons, lite_nil] <;> rfl) fun all hall K hK => ?_
                        have ga3 : guardOf all 3 = some 95 := hall 3
                        clear hall
                        refine vcL_split 4 fun K' hK' => ?_
                        simp (maxSteps := 1000000) (disch := first | omega | assumption) [ga3]
                        repeat' refine And.intro ?_ ?_
                        all_goals first | omega | exact rfl | skip
                        refine hK' _ ?_
                        clear hK' K'
                        simp only [List.drop_succ_cons, List.drop_zero]
                        refine vcL_bool 95 (by simp <;> rfl) ?_
                        refine ⟨fun g21 => ?_, fun g21 => ?_⟩
                        · try simp at g21
                          all_goals try (exfalso; omega)
                          all_goals
                            simp (maxSteps := 1000000) (disch := first | omega | assumption) [ga3]
                            repeat' refine And.intro ?_ ?_
                            all_goals first | omega | exact rfl | skip
                            refine hK _ ?_
                            clear hK K
                            clear ga3
                            clear all
                            refine q_join () trivial (weak_mkA rfl ?_ (by simp [*]) (by simp))
                            · first | (simp (maxSteps := 1000000) (disch := first | omega | assumption) [*]; done) | (simp_all [leS]; done) | (simp [leS, *]; omega) | (simp_all [leS]; omega)
                        · try simp at g21
                          all_goals try (exfalso; omega)
                          all_goals
                            simp (maxSteps := 1000000) (disch := first | omega | assumption) [ga3]
                            repeat' refine And.intro ?_ ?_
                            all_goals first | omega | exact rfl | skip
                            refine hK _ ?_
                            clear hK K
                            clear ga3
                            clear all
                            refine q_join () trivial (weak_mkA rfl ?_ (by simp [*]) (by simp))
                            · first | (simp (maxSteps := 1000000) (disch := first | omega | assumption) [*]; done) | (simp_all [leS]; done) | (simp [leS, *]; omega) | (simp_all [leS]; omega)
                      simp only [List.cons_append, List.nil_append, setL_nil, setL_cons, List.set_cons_zero, List.set_cons_succ]
                      refine awp_ifB (by simp <;> rfl) ?_
                      refine ⟨fun c22 => ?_, fun c22 => ?_⟩
                      · try simp at c22
                        all_goals try (exfalso; omega)
                        all_goals
                          refine awp_seq ?_
                          refine awp_regionA (c := ⟨[], [], []⟩) (by simp only [lite_cons, lite_nil] <;> rfl) fun all hall K hK => ?_
                          clear hall
                          simp (maxSteps := 1000000) (disch := first | omega | assumption)
                          repeat' refine And.intro ?_ ?_
                          all_goals first | omega | exact rfl | skip
                          refine hK _ ?_
                          clear hK K
                          clear all
                          refine q_then_n ?_
                          refine awp_ret ?_
                          refine q_block_r ?_
                          refine q_then_r ?_
                          refine q_loop_r ?_
                          refine q_block_r ?_
                          refine q_then_r ?_
                          first | (simp [endQ]; done) | (have hj := jobs_law s acts[k] hi (by intro h; simp_all) (by intro h; simp_all); obtain ⟨j2, m2, gone, hst⟩ := hj; subst_vars; simp_all [endQ]; done) | (have hj := jobs_law s acts[k] hi (by intro h; simp_all) (by intro h; simp_all); obtain ⟨j2, m2, gone, hst⟩ := hj; subst_vars; simp_all [endQ, wantF]; done)
                      · try simp at c22
                        all_goals try (exfalso; omega)
                        all_goals
                          refine awp_skip ?_
                          refine q_block_n ?_
                          refine q_then_n ?_
                          refine awp_regionA (c := ⟨[], [], []⟩) (by simp only [lite_cons, lite_nil] <;> rfl) fun all hall K hK => ?_
                          clear hall
                          simp (maxSteps := 1000000) (disch := first | omega | assumption)
                          repeat' refine And.intro ?_ ?_
                          all_goals first | omega | exact rfl | skip
                          refine hK _ ?_
                          clear hK K
                          clear all
                          refine q_round ((k + 1, v48.state)) ?_ ?_ (weak_mkA rfl ?_ (by simp) (by simp))
                          · first | exact ⟨by simp only; omega, hv48 ▸ do_inv _ _ hi⟩ | exact ⟨by simp only; omega, hi⟩
                          · try dsimp only
                            omega
                          · first | (simp (disch := first | omega | assumption); done) | (have hj := jobs_law s acts[k] hi (by intro h; simp_all) (by intro h; simp_all); rw [hv48] at hj; have h := hj.st (by assumption); simp only [ne_eq, ite_not] at h; simp (disch := first | omega | assumption) [h]; done)
                  · try simp at c20
                    all_goals try (exfalso; omega)
                    all_goals
                      refine awp_seq ?_
                      refine awp_seq ?_
                      refine awp_regionA (c := ⟨[], [], []⟩) (by simp only [lite_cons, lite_nil] <;> rfl) fun all hall K hK => ?_
                      clear hall
                      simp (maxSteps := 1000000) (disch := first | omega | assumption)
                      repeat' refine And.intro ?_ ?_
                      all_goals first | omega | exact rfl | skip
                      refine hK _ ?_
                      clear hK K
                      clear all
                      refine q_then_n ?_
                      refine awp_joinT (fun _ : Unit => [(89, .d (.v (.bool (decide (if v48.state.look.kind = 3 then v48.state.look.kind = 3 else v48.state.look.kind = 6)))))]) (fun _ => []) (fun _ => []) [89, 91] (fun _ => True) (by simp <;> rfl) ?_ fun _ _ => ?_
                      · skip
                        refine awp_ifB (by simp <;> rfl) ?_
                        refine ⟨fun c23 => ?_, fun c23 => ?_⟩
                        · try simp at c23
                          all_goals try (exfalso; omega)
                          all_goals
                            refine awp_skip ?_
                            refine q_join () trivial (weak_mkA rfl ?_ (by simp [*]) (by simp))
                            · first | (simp (maxSteps := 1000000) (disch := first | omega | assumption) [*]; done) | (simp_all [leS]; done) | (simp [leS, *]; omega) | (simp_all [leS]; omega)
                        · try simp at c23
                          all_goals try (exfalso; omega)
                          all_goals
                            refine awp_regionA (c := ⟨[], [], []⟩) (by simp only [lite_cons, lite_nil] <;> rfl) fun all hall K hK => ?_
                            clear hall
                            simp (maxSteps := 1000000) (disch := first | omega | assumption)
                            repeat' refine And.intro ?_ ?_
                            all_goals first | omega | exact rfl | skip
                            refine hK _ ?_
                            clear hK K
                            clear all
                            refine q_join () trivial (weak_mkA rfl ?_ (by simp [*]) (by simp))
                            · first | (simp (maxSteps := 1000000) (disch := first | omega | assumption) [*]; done) | (simp_all [leS]; done) | (simp [leS, *]; omega) | (simp_all [leS]; omega)
                      simp only [List.cons_append, List.nil_append, setL_nil, setL_cons, List.set_cons_zero, List.set_cons_succ]
                      refine awp_ifB (by simp <;> rfl) ?_
                      refine ⟨fun c24 => ?_, fun c24 => ?_⟩
                      · try simp at c24
                        all_goals try (exfalso; omega)
                        all_goals
                          refine awp_regionA (c := ⟨[], [], []⟩) (by simp only [lite_cons, lite_nil] <;> rfl) fun all hall K hK => ?_
                          clear hall
                          simp (maxSteps := 1000000) (disch := first | omega | assumption)
                          repeat' refine And.intro ?_ ?_
                          all_goals first | omega | exact rfl | skip
                          refine hK _ ?_
                          clear hK K
                          clear all
                          refine q_block_n ?_
                          refine q_then_n ?_
                          refine awp_seq ?_
                          refine awp_keep [1, 5, 6, 7, 8, 11] (by simp only [keepL_nil, keepL_cons, envOf_sel, envOf_nil, sel_t, sel_f, Nat.reduceBEq] <;> rfl) ?_
                          refine awp_joinT (fun _ : Unit => [(101, .d (.v (.bool (decide (((if v48.job ≠ 0 then v48.job else (if v48.end_ = true then 0 else (if ((acts[k]).call) = 4 then 0 else wantF s.look.kind))) ≠ 2) ∨ ((if v48.moveJob ≠ 0 then v48.moveJob else (if v48.moveEnd = true then 0 else (if ((acts[k]).call) = 9 then 0 else s.look.move))) ≠ v48.state.look.move))))))]) (fun _ => []) (fun _ => []) [92, 93, 94, 95, 96, 97, 98, 99, 100, 101] (fun _ => True) (by simp <;> rfl) ?_ fun _ _ => ?_
                          · skip
                            refine awp_regionA (c := ⟨[], [], []⟩) (by simp only [lite_cons, lite_nil] <;> rfl) fun all hall K hK => ?_
                            have ga3 : guardOf all 3 = some 95 := hall 3
                            clear hall
                            refine vcL_split 4 fun K' hK' => ?_
                            simp (maxSteps := 1000000) (disch := first | omega | assumption) [ga3]
                            repeat' refine And.intro ?_ ?_
                            all_goals first | omega | exact rfl | skip
                            refine hK' _ ?_
                            clear hK' K'
                            simp only [List.drop_succ_cons, List.drop_zero]
                            refine vcL_bool 95 (by simp <;> rfl) ?_
                            refine ⟨fun g25 => ?_, fun g25 => ?_⟩
                            · try simp at g25
                              all_goals try (exfalso; omega)
                              all_goals
                                simp (maxSteps := 1000000) (disch := first | omega | assumption) [ga3]
                                repeat' refine And.intro ?_ ?_
                                all_goals first | omega | exact rfl | skip
                                refine hK _ ?_
                                clear hK K
                                clear ga3
                                clear all
                                refine q_join () trivial (weak_mkA rfl ?_ (by simp [*]) (by simp))
                                · first | (simp (maxSteps := 1000000) (disch := first | omega | assumption) [*]; done) | (simp_all [leS]; done) | (simp [leS, *]; omega) | (simp_all [leS]; omega)
                            · try simp at g25
                              all_goals try (exfalso; omega)
                              all_goals
                                simp (maxSteps := 1000000) (disch := first | omega | assumption) [ga3]
                                repeat' refine And.intro ?_ ?_
                                all_goals first | omega | exact rfl | skip
                                refine hK _ ?_
                                clear hK K
                                clear ga3
                                clear all
                                refine q_join () trivial (weak_mkA rfl ?_ (by simp [*]) (by simp))
                                · first | (simp (maxSteps := 1000000) (disch := first | omega | assumption) [*]; done) | (simp_all [leS]; done) | (simp [leS, *]; omega) | (simp_all [leS]; omega)
                          simp only [List.cons_append, List.nil_append, setL_nil, setL_cons, List.set_cons_zero, List.set_cons_succ]
                          refine awp_ifB (by simp <;> rfl) ?_
                          refine ⟨fun c26 => ?_, fun c26 => ?_⟩
                          · try simp at c26
                            all_goals try (exfalso; omega)
                            all_goals
                              refine awp_seq ?_
                              refine awp_regionA (c := ⟨[], [], []⟩) (by simp only [lite_cons, lite_nil] <;> rfl) fun all hall K hK => ?_
                              clear hall
                              simp (maxSteps := 1000000) (disch := first | omega | assumption)
                              repeat' refine And.intro ?_ ?_
                              all_goals first | omega | exact rfl | skip
                              refine hK _ ?_
                              clear hK K
                              clear all
                              refine q_then_n ?_
                              refine awp_ret ?_
                              refine q_block_r ?_
                              refine q_then_r ?_
                              refine q_loop_r ?_
                              refine q_block_r ?_
                              refine q_then_r ?_
                              first | (simp [endQ]; done) | (have hj := jobs_law s acts[k] hi (by intro h; simp_all) (by intro h; simp_all); obtain ⟨j2, m2, gone, hst⟩ := hj; subst_vars; simp_all [endQ]; done) | (have hj := jobs_law s acts[k] hi (by intro h; simp_all) (by intro h; simp_all); obtain ⟨j2, m2, gone, hst⟩ := hj; subst_vars; simp_all [endQ, wantF]; done)
                          · try simp at c26
                            all_goals try (exfalso; omega)
                            all_goals
                              refine awp_skip ?_
                              refine q_block_n ?_
                              refine q_then_n ?_
                              refine awp_regionA (c := ⟨[], [], []⟩) (by simp only [lite_cons, lite_nil] <;> rfl) fun all hall K hK => ?_
                              clear hall
                              simp (maxSteps := 1000000) (disch := first | omega | assumption)
                              repeat' refine And.intro ?_ ?_
                              all_goals first | omega | exact rfl | skip
                              refine hK _ ?_
                              clear hK K
                              clear all
                              refine q_round ((k + 1, v48.state)) ?_ ?_ (weak_mkA rfl ?_ (by simp) (by simp))
                              · first | exact ⟨by simp only; omega, hv48 ▸ do_inv _ _ hi⟩ | exact ⟨by simp only; omega, hi⟩
                              · try dsimp only
                                omega
                              · first | (simp (disch := first | omega | assumption); done) | (have hj := jobs_law s acts[k] hi (by intro h; simp_all) (by intro h; simp_all); rw [hv48] at hj; have h := hj.st (by assumption); simp only [ne_eq, ite_not] at h; simp (disch := first | omega | assumption) [h]; done)
                      · try simp at c24
                        all_goals try (exfalso; omega)
                        all_goals
                          refine awp_skip ?_
                          refine q_block_n ?_
                          refine q_then_n ?_
                          refine awp_seq ?_
                          refine awp_joinT (fun _ : Unit => [(101, .d (.v (.bool (decide (((if v48.job ≠ 0 then v48.job else (if v48.end_ = true then 0 else (if ((acts[k]).call) = 4 then 0 else wantF s.look.kind))) ≠ 0) ∨ ((if v48.moveJob ≠ 0 then v48.moveJob else (if v48.moveEnd = true then 0 else (if ((acts[k]).call) = 9 then 0 else s.look.move))) ≠ v48.state.look.move))))))]) (fun _ => []) (fun _ => []) [92, 93, 94, 95, 96, 97, 98, 99, 100, 101] (fun _ => True) (by simp <;> rfl) ?_ fun _ _ => ?_
                          · skip
                            refine awp_regionA (c := ⟨[], [], []⟩) (by simp only [lite_cons, lite_nil] <;> rfl) fun all hall K hK => ?_
                            have ga3 : guardOf all 3 = some 95 := hall 3
                            clear hall
                            refine vcL_split 4 fun K' hK' => ?_
                            simp (maxSteps := 1000000) (disch := first | omega | assumption) [ga3]
                            repeat' refine And.intro ?_ ?_
                            all_goals first | omega | exact rfl | skip
                            refine hK' _ ?_
                            clear hK' K'
                            simp only [List.drop_succ_cons, List.drop_zero]
                            refine vcL_bool 95 (by simp <;> rfl) ?_
                            refine ⟨fun g27 => ?_, fun g27 => ?_⟩
                            · try simp at g27
                              all_goals try (exfalso; omega)
                              all_goals
                                simp (maxSteps := 1000000) (disch := first | omega | assumption) [ga3]
                                repeat' refine And.intro ?_ ?_
                                all_goals first | omega | exact rfl | skip
                                refine hK _ ?_
                                clear hK K
                                clear ga3
                                clear all
                                refine q_join () trivial (weak_mkA rfl ?_ (by simp [*]) (by simp))
                                · first | (simp (maxSteps := 1000000) (disch := first | omega | assumption) [*]; done) | (simp_all [leS]; done) | (simp [leS, *]; omega) | (simp_all [leS]; omega)
                            · try simp at g27
                              all_goals try (exfalso; omega)
                              all_goals
                                simp (maxSteps := 1000000) (disch := first | omega | assumption) [ga3]
                                repeat' refine And.intro ?_ ?_
                                all_goals first | omega | exact rfl | skip
                                refine hK _ ?_
                                clear hK K
                                clear ga3
                                clear all
                                refine q_join () trivial (weak_mkA rfl ?_ (by simp [*]) (by simp))
                                · first | (simp (maxSteps := 1000000) (disch := first | omega | assumption) [*]; done) | (simp_all [leS]; done) | (simp [leS, *]; omega) | (simp_all [leS]; omega)
                          simp only [List.cons_append, List.nil_append, setL_nil, setL_cons, List.set_cons_zero, List.set_cons_succ]
                          refine awp_ifB (by simp <;> rfl) ?_
                          refine ⟨fun c28 => ?_, fun c28 => ?_⟩
                          · try simp at c28
                            all_goals try (exfalso; omega)
                            all_goals
                              refine awp_seq ?_
                              refine awp_keep [1, 5, 6, 7, 8] (by simp only [keepL_nil, keepL_cons, envOf_sel, envOf_nil, sel_t, sel_f, Nat.reduceBEq] <;> rfl) ?_
                              refine awp_regionA (c := ⟨[], [], []⟩) (by simp only [lite_cons, lite_nil] <;> rfl) fun all hall K hK => ?_
                              clear hall
                              simp (maxSteps := 1000000) (disch := first | omega | assumption)
                              repeat' refine And.intro ?_ ?_
                              all_goals first | omega | exact rfl | skip
                              refine hK _ ?_
                              clear hK K
                              clear all
                              refine q_then_n ?_
                              refine awp_ret ?_
                              refine q_block_r ?_
                              refine q_then_r ?_
                              refine q_loop_r ?_
                              refine q_block_r ?_
                              refine q_then_r ?_
                              first | (simp [endQ]; done) | (have hj := jobs_law s acts[k] hi (by intro h; simp_all) (by intro h; simp_all); obtain ⟨j2, m2, gone, hst⟩ := hj; subst_vars; simp_all [endQ]; done) | (have hj := jobs_law s acts[k] hi (by intro h; simp_all) (by intro h; simp_all); obtain ⟨j2, m2, gone, hst⟩ := hj; subst_vars; simp_all [endQ, wantF]; done)
                          · try simp at c28
                            all_goals try (exfalso; omega)
                            all_goals
                              refine awp_skip ?_
                              refine q_block_n ?_
                              refine q_then_n ?_
                              refine awp_keep [1, 5, 6, 7, 8] (by simp only [keepL_nil, keepL_cons, envOf_sel, envOf_nil, sel_t, sel_f, Nat.reduceBEq] <;> rfl) ?_
                              refine awp_regionA (c := ⟨[], [], []⟩) (by simp only [lite_cons, lite_nil] <;> rfl) fun all hall K hK => ?_
                              clear hall
                              simp (maxSteps := 1000000) (disch := first | omega | assumption)
                              repeat' refine And.intro ?_ ?_
                              all_goals first | omega | exact rfl | skip
                              refine hK _ ?_
                              clear hK K
                              clear all
                              refine q_round ((k + 1, v48.state)) ?_ ?_ (weak_mkA rfl ?_ (by simp) (by simp))
                              · first | exact ⟨by simp only; omega, hv48 ▸ do_inv _ _ hi⟩ | exact ⟨by simp only; omega, hi⟩
                              · try dsimp only
                                omega
                              · first | (simp (disch := first | omega | assumption); done) | (have hj := jobs_law s acts[k] hi (by intro h; simp_all) (by intro h; simp_all); rw [hv48] at hj; have h := hj.st (by assumption); simp only [ne_eq, ite_not] at h; simp (disch := first | omega | assumption) [h]; done)
      · try simp at c3
        all_goals try (exfalso; omega)
        all_goals
          refine awp_exit ?_
          refine q_then_e ?_
          refine q_loop_e ?_
          refine q_block_e ?_
          refine q_then_n ?_
          refine awp_seq ?_
          refine awp_regionA (c := ⟨[], [], []⟩) (by simp only [lite_cons, lite_nil] <;> rfl) fun all hall K hK => ?_
          clear hall
          simp (maxSteps := 1000000) (disch := first | omega | assumption)
          repeat' refine And.intro ?_ ?_
          all_goals first | omega | exact rfl | skip
          refine hK _ ?_
          clear hK K
          clear all
          refine q_then_n ?_
          refine awp_ret ?_
          first | (simp [endQ]; done) | (have hj := jobs_law s acts[k] hi (by intro h; simp_all) (by intro h; simp_all); obtain ⟨j2, m2, gone, hst⟩ := hj; subst_vars; simp_all [endQ]; done) | (have hj := jobs_law s acts[k] hi (by intro h; simp_all) (by intro h; simp_all); obtain ⟨j2, m2, gone, hst⟩ := hj; subst_vars; simp_all [endQ, wantF]; done)

end Go.Proofs.Ythieajadepfeoaa

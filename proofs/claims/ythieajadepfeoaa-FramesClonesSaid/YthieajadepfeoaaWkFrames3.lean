/- Walks: contracts of functions. Written by a program of ours out of annotations. -/
import Derived.Test.YthieajadepfeoaaWkFrames2
namespace Go.Proofs.Ythieajadepfeoaa
open Go Go.Vm
set_option maxRecDepth 20000
set_option linter.all false
set_option maxHeartbeats 8000000

-- scrim/scrimlaw17.FramesClones
theorem framesClones_fn (acts more : List FAct) (σ : List (List D)) (hl : acts.length ≤ 9223372036854775807) (hl2 : more.length ≤ 9223372036854775807) : Ct Try.prog 10 [.sl false (acts.map d_FAct), .sl false (more.map d_FAct)] σ (fun r σ' => r = .bool true) := by
  refine fn_start (rs := [.tmp 4]) Try.func10 rfl rfl Try.ntmps10 Try.results10 (by simp) ?_
  simp only [argEnv]
  refine awp_seq ?_
  refine awp_regionA (c := ⟨[], [], [], [], []⟩) (by simp only [lite_cons, lite_nil] <;> rfl) fun all hall K hK => ?_
  clear hall
  simp (maxSteps := 1000000) (disch := first | omega | assumption) [og_at, og_put, og_at0, og_put0]
  repeat' refine And.intro ?_ ?_
  all_goals first | omega | exact rfl | skip
  refine hK _ ?_
  clear hK K
  clear all
  refine q_then_n ?_
  refine awp_seq ?_
  refine awp_seq ?_
  refine awp_regionA (c := ⟨[], [], [], [], []⟩) (by simp only [lite_cons, lite_nil] <;> rfl) fun all hall K hK => ?_
  clear hall
  refine vcL_step fun K' hK' => ?_
  simp (maxSteps := 1000000) (disch := first | omega | assumption) [og_at, og_put, og_at0, og_put0]
  refine Ct.mono (Ct.of_le (awake_fn _) (by first | exact leArgs_of rfl | (refine leArgs_of ?_; simp; done) | (refine leArgs_of ?_; simp; rfl) | (simp [leArgs, leArg]; done)) rfl) ?_
  rintro _ _ ⟨hr9, hs9⟩
  subst hr9
  replace hs9 := hs9.symm
  subst hs9
  refine hK' _ ?_
  clear hK' K'
  simp (maxSteps := 1000000) (disch := first | omega | assumption) [og_at, og_put, og_at0, og_put0]
  repeat' refine And.intro ?_ ?_
  all_goals first | omega | exact rfl | skip
  refine hK _ ?_
  clear hK K
  clear all
  refine q_then_n ?_
  refine awp_ifB (by simp <;> rfl) ?_
  refine ⟨fun c1 => ?_, fun c1 => ?_⟩
  · simp at c1
  · try simp at c1
    refine awp_skip ?_
    refine q_then_n ?_
    refine awp_seq ?_
    refine awp_regionA (c := ⟨[], [], [], [], []⟩) (by simp only [lite_cons, lite_nil] <;> rfl) fun all hall K hK => ?_
    clear hall
    refine vcL_step fun K' hK' => ?_
    simp (maxSteps := 1000000) (disch := first | omega | assumption) [og_at, og_put, og_at0, og_put0]
    refine Ct.mono (Ct.of_le (qnew_fn 50 _) (by first | exact leArgs_of rfl | (refine leArgs_of ?_; simp; done) | (refine leArgs_of ?_; simp; rfl) | (simp [leArgs, leArg]; done)) rfl) ?_
    rintro _ _ ⟨hr9, hs9⟩
    subst hr9
    replace hs9 := hs9.symm
    subst hs9
    refine hK' _ ?_
    clear hK' K'
    refine vcL_step fun K' hK' => ?_
    simp (maxSteps := 1000000) (disch := first | omega | assumption) [og_at, og_put, og_at0, og_put0]
    refine Ct.mono (Ct.of_le (rnew_fn 50 _) (by first | exact leArgs_of rfl | (refine leArgs_of ?_; simp; done) | (refine leArgs_of ?_; simp; rfl) | (simp [leArgs, leArg]; done)) rfl) ?_
    rintro _ _ ⟨hr9, hs9⟩
    subst hr9
    replace hs9 := hs9.symm
    subst hs9
    refine hK' _ ?_
    clear hK' K'
    simp (maxSteps := 1000000) (disch := first | omega | assumption) [og_at, og_put, og_at0, og_put0]
    repeat' refine And.intro ?_ ?_
    all_goals first | omega | exact rfl | skip
    refine hK _ ?_
    clear hK K
    clear all
    refine q_then_n ?_
    refine awp_seq ?_
    refine awp_seq ?_
    refine awp_regionA (c := ⟨[], [], [], [], []⟩) (by simp only [lite_cons, lite_nil] <;> rfl) fun all hall K hK => ?_
    clear hall
    simp (maxSteps := 1000000) (disch := first | omega | assumption) [og_at, og_put, og_at0, og_put0]
    repeat' refine And.intro ?_ ?_
    all_goals first | omega | exact rfl | skip
    refine hK _ ?_
    clear hK K
    clear all
    refine q_then_n ?_
    refine awp_ifB (by simp <;> rfl) ?_
    refine ⟨fun c2 => ?_, fun c2 => ?_⟩
    · simp at c2
    · try simp at c2
      refine awp_skip ?_
      refine q_then_n ?_
      refine awp_seq ?_
      refine awp_regionA (c := ⟨[], [], [], [], []⟩) (by simp only [lite_cons, lite_nil] <;> rfl) fun all hall K hK => ?_
      clear hall
      simp (maxSteps := 1000000) (disch := first | omega | assumption) [og_at, og_put, og_at0, og_put0]
      repeat' refine And.intro ?_ ?_
      all_goals first | omega | exact rfl | skip
      refine hK _ ?_
      clear hK K
      clear all
      refine q_then_n ?_
      refine awp_seq ?_
      refine awp_seq ?_
      refine awp_regionA (c := ⟨[], [], [], [], []⟩) (by simp only [lite_cons, lite_nil] <;> rfl) fun all hall K hK => ?_
      clear hall
      simp (maxSteps := 1000000) (disch := first | omega | assumption) [og_at, og_put, og_at0, og_put0]
      repeat' refine And.intro ?_ ?_
      all_goals first | omega | exact rfl | skip
      refine hK _ ?_
      clear hK K
      clear all
      refine q_then_n ?_
      refine awp_block ?_
      refine awp_keep [0, 1, 4, 5, 6, 7, 8] (by simp only [keepL_nil, keepL_cons, envOf_sel, envOf_nil, sel_t, sel_f, Nat.reduceBEq] <;> rfl) ?_
      refine awp_loopM (fun (s : FSt) => [(8, .d (.int s.k)), (7, .d (.any))]) (fun (s : FSt) => [(0, [D.int s.x.most, D.int s.x.last, .sl false (s.x.l.map d_Wt)])]) (fun (s : FSt) => [(σ.length + 1, dqq s.q)]) [4, 7, 8, 18, 19, 20, 21, 22, 23, 24, 25, 26, 27, 28, 29, 30, 31, 32, 33, 34, 35, 36, 37, 38, 39] (fun (s : FSt) => s.k ≤ acts.length ∧ s.k ≤ 30 ∧ Inv s.k s.q s.x) (fun (s : FSt) => acts.length - s.k) (⟨0, ⟨clip 50 1 65536, 0, [], []⟩, ⟨max 1 (min 50 65536), 0, []⟩⟩) (by simp <;> rfl) ?_ (by simp) (by simp [og_at, og_put, og_at0, og_put0]) ?_ ?_
      · simp
      · exact ⟨by simp, by simp, inv_new 50⟩
      rintro ⟨k, q, x⟩ ⟨hk, hk80, hi⟩
      simp only [List.cons_append, List.nil_append, setL_nil, setL_cons, List.set_cons_zero, List.set_cons_succ]
      dsimp only at hk hk80 hi
      have hok := hi.ok (by omega)
      have hxl := hi.xl (by omega)
      have hxn := hi.xn (by omega)
      refine awp_seq ?_
      refine awp_seq ?_
      refine awp_regionA (c := ⟨[], [], [], [], []⟩) (by simp only [lite_cons, lite_nil] <;> rfl) fun all hall K hK => ?_
      have ga4 : guardOf all 4 = some 22 := hall 4
      clear hall
      refine vcL_split 5 fun K' hK' => ?_
      simp (maxSteps := 1000000) (disch := first | omega | assumption) [og_at, og_put, og_at0, og_put0, ga4]
      repeat' refine And.intro ?_ ?_
      all_goals first | omega | exact rfl | skip
      refine hK' _ ?_
      clear hK' K'
      simp only [List.drop_succ_cons, List.drop_zero]
      refine vcL_bool 22 (by simp <;> rfl) ?_
      refine ⟨fun g3 => ?_, fun g3 => ?_⟩
      · try simp at g3
        simp (maxSteps := 1000000) (disch := first | omega | assumption) [og_at, og_put, og_at0, og_put0, ga4]
        repeat' refine And.intro ?_ ?_
        all_goals first | omega | exact rfl | skip
        refine hK _ ?_
        clear hK K
        clear ga4
        clear all
        refine q_then_n ?_
        refine awp_ifB (by simp <;> rfl) ?_
        refine ⟨fun c4 => ?_, fun c4 => ?_⟩
        · try simp at c4
          refine awp_skip ?_
          refine q_then_n ?_
          refine awp_seq ?_
          refine awp_block ?_
          refine awp_seq ?_
          refine awp_keep [0, 1, 5, 6, 7, 8] (by simp only [keepL_nil, keepL_cons, envOf_sel, envOf_nil, sel_t, sel_f, Nat.reduceBEq] <;> rfl) ?_
          refine awp_drawA (c := ⟨[], [], [], [], []⟩) [.op ⟨false, false, false, false⟩, .op ⟨true, false, false, false⟩, .op ⟨false, false, false, false⟩, .op ⟨false, false, false, false⟩, .op ⟨false, false, false, false⟩, .op ⟨false, false, false, false⟩, .det, .op ⟨false, false, false, false⟩, .op ⟨false, false, false, false⟩, .op ⟨false, false, false, false⟩, .op ⟨true, true, false, false⟩, .op ⟨false, false, false, false⟩] (by kernel_rfl) (by kernel_rfl) (by simp only [lite_cons, lite_nil] <;> rfl) fun all hall K hK => ?_
          clear hall
          refine vcDL_split 6 (by simp) fun K' hK' => ?_
          simp (maxSteps := 1000000) (disch := first | omega | assumption) [og_at, og_put, og_at0, og_put0]
          repeat' refine And.intro ?_ ?_
          all_goals first | omega | exact rfl | skip
          refine hK' _ ?_
          clear hK' K'
          simp only [List.drop_succ_cons, List.drop_zero]
          refine vcDL_step fun K' hK' => ?_
          simp (maxSteps := 1000000) (disch := first | omega | assumption) [og_at, og_put, og_at0, og_put0]
          refine ⟨_, _, Ct.of_le (do_fn (σ.length + 1) q x acts[k] _ (by simp [og_at, og_put, og_at0, og_put0]) hok hxl hxn hi.xw) (by first | exact leArgs_of rfl | (refine leArgs_of ?_; simp; done) | (refine leArgs_of ?_; simp; rfl) | (simp [leArgs, leArg]; done)) rfl, ?_⟩
          refine hK' _ ?_
          clear hK' K'
          simp (maxSteps := 1000000) (disch := first | omega | assumption) [og_at, og_put, og_at0, og_put0]
          repeat' refine And.intro ?_ ?_
          all_goals first | omega | exact rfl | skip
          refine hK _ ?_
          clear hK K
          clear all
          refine q_then_n ?_
          refine awp_seq ?_
          refine awp_keep [0, 1, 5, 6, 7, 8] (by simp only [keepL_nil, keepL_cons, envOf_sel, envOf_nil, sel_t, sel_f, Nat.reduceBEq] <;> rfl) ?_
          refine awp_regionA (c := ⟨[], [], [], [], []⟩) (by simp only [lite_cons, lite_nil] <;> rfl) fun all hall K hK => ?_
          clear hall
          simp (maxSteps := 1000000) (disch := first | omega | assumption) [og_at, og_put, og_at0, og_put0]
          repeat' refine And.intro ?_ ?_
          all_goals first | omega | exact rfl | skip
          refine hK _ ?_
          clear hK K
          clear all
          refine q_then_n ?_
          refine awp_ifB (by simp <;> rfl) ?_
          refine ⟨fun c5 => ?_, fun c5 => ?_⟩
          · try simp at c5
            exact absurd (inv_step hi acts[k]).2 c5
          · try simp at c5
            refine awp_skip ?_
            refine q_block_n ?_
            refine q_then_n ?_
            refine awp_regionA (c := ⟨[], [], [], [], []⟩) (by simp only [lite_cons, lite_nil] <;> rfl) fun all hall K hK => ?_
            clear hall
            simp (maxSteps := 1000000) (disch := first | omega | assumption) [og_at, og_put, og_at0, og_put0]
            repeat' refine And.intro ?_ ?_
            all_goals first | omega | exact rfl | skip
            refine hK _ ?_
            clear hK K
            clear all
            refine q_round (⟨k + 1, fdo q acts[k], rdo x acts[k]⟩) ?_ ?_ (weak_mkA rfl ?_ (by simp) (by simp))
            · exact ⟨by simp at *; omega, by simp at *; omega, (inv_step hi _).1⟩
            · try dsimp only
              omega
            · simp (maxSteps := 1000000) (disch := first | omega | assumption) [og_at, og_put, og_at0, og_put0]
        · try simp at c4
          refine awp_exit ?_
          refine q_then_e ?_
          refine q_loop_e ?_
          refine q_block_e ?_
          refine q_then_n ?_
          refine awp_seq ?_
          have hi30 := hi.mono (show k ≤ 30 by omega)
          refine awp_freezeBox 6 0 (by simp <;> rfl) (by simp <;> rfl) (by simp) ?_
          simp only [List.map_cons, List.map_nil, s1_v, s1_sl]
          refine awp_keep [1, 5, 6, 7] (by simp only [keepL_nil, keepL_cons, envOf_sel, envOf_nil, sel_t, sel_f, Nat.reduceBEq] <;> rfl) ?_
          refine awp_drawA (c := ⟨[], [], [], [], []⟩) [.op ⟨false, false, false, false⟩, .det, .op ⟨false, false, false, false⟩, .op ⟨true, true, false, false⟩, .op ⟨false, false, false, false⟩, .op ⟨true, true, false, false⟩] (by kernel_rfl) (by kernel_rfl) (by simp only [lite_cons, lite_nil] <;> rfl) fun all hall K hK => ?_
          clear hall
          refine vcDL_split 1 (by simp) fun K' hK' => ?_
          simp (maxSteps := 1000000) (disch := first | omega | assumption) [og_at, og_put, og_at0, og_put0]
          repeat' refine And.intro ?_ ?_
          all_goals first | omega | exact rfl | skip
          refine hK' _ ?_
          clear hK' K'
          simp only [List.drop_succ_cons, List.drop_zero]
          refine vcDL_step fun K' hK' => ?_
          simp (maxSteps := 1000000) (disch := first | omega | assumption) [og_at, og_put, og_at0, og_put0]
          refine ⟨_, _, Ct.of_le (qclone_fn (σ.length + 1) q _ (by simp [og_at, og_put, og_at0, og_put0]) hok) (by first | exact leArgs_of rfl | (refine leArgs_of ?_; simp; done) | (refine leArgs_of ?_; simp; rfl) | (simp [leArgs, leArg]; done)) rfl, ?_⟩
          refine hK' _ ?_
          clear hK' K'
          simp (maxSteps := 1000000) (disch := first | omega | assumption) [og_at, og_put, og_at0, og_put0]
          repeat' refine And.intro ?_ ?_
          all_goals first | omega | exact rfl | skip
          refine hK _ ?_
          clear hK K
          clear all
          refine q_then_n ?_
          refine awp_seq ?_
          refine awp_seq ?_
          refine awp_regionA (c := ⟨[], [], [], [], []⟩) (by simp only [lite_cons, lite_nil] <;> rfl) fun all hall K hK => ?_
          clear hall
          simp (maxSteps := 1000000) (disch := first | omega | assumption) [og_at, og_put, og_at0, og_put0]
          repeat' refine And.intro ?_ ?_
          all_goals first | omega | exact rfl | skip
          refine hK _ ?_
          clear hK K
          clear all
          refine q_then_n ?_
          refine awp_ifB (by simp <;> rfl) ?_
          refine ⟨fun c6 => ?_, fun c6 => ?_⟩
          · simp at c6
          · try simp at c6
            refine awp_skip ?_
            refine q_then_n ?_
            refine awp_seq ?_
            refine awp_seq ?_
            refine awp_regionA (c := ⟨[], [], [], [], []⟩) (by simp only [lite_cons, lite_nil] <;> rfl) fun all hall K hK => ?_
            clear hall
            simp (maxSteps := 1000000) (disch := first | omega | assumption) [og_at, og_put, og_at0, og_put0]
            repeat' refine And.intro ?_ ?_
            all_goals first | omega | exact rfl | skip
            refine hK _ ?_
            clear hK K
            clear all
            refine q_then_n ?_
            refine awp_block ?_
            refine awp_keep [1, 5, 6, 7, 9, 10, 11] (by simp only [keepL_nil, keepL_cons, envOf_sel, envOf_nil, sel_t, sel_f, Nat.reduceBEq] <;> rfl) ?_
            refine awp_loopM (fun (s : FSt) => [(11, .d (.int s.k)), (7, .d (.any))]) (fun (s : FSt) => [(1, [D.int s.x.most, D.int s.x.last, .sl false (s.x.l.map d_Wt)])]) (fun (s : FSt) => [(σ.length + 4, dqq s.q)]) [4, 7, 11, 45, 46, 47, 48, 49, 50, 51, 52, 53, 54, 55, 56, 57, 58, 59, 60, 61, 62, 63, 64, 65, 66] (fun (s : FSt) => s.k ≤ more.length ∧ s.k ≤ 30 ∧ Inv (30 + s.k) s.q s.x) (fun (s : FSt) => more.length - s.k) (⟨0, q, x⟩) (by simp <;> rfl) ?_ (by simp) (by simp [og_at, og_put, og_at0, og_put0]) ?_ ?_
            · simp
            · exact ⟨by simp, by simp, hi30⟩
            rintro ⟨k2, q2, x2⟩ ⟨hk2, hk280, hi2⟩
            simp only [List.cons_append, List.nil_append, setL_nil, setL_cons, List.set_cons_zero, List.set_cons_succ]
            dsimp only at hk2 hk280 hi2
            have hok2 := hi2.ok (by omega)
            have hxl2 := hi2.xl (by omega)
            have hxn2 := hi2.xn (by omega)
            refine awp_seq ?_
            refine awp_seq ?_
            refine awp_regionA (c := ⟨[], [], [], [], []⟩) (by simp only [lite_cons, lite_nil] <;> rfl) fun all hall K hK => ?_
            have ga4 : guardOf all 4 = some 49 := hall 4
            clear hall
            refine vcL_split 5 fun K' hK' => ?_
            simp (maxSteps := 1000000) (disch := first | omega | assumption) [og_at, og_put, og_at0, og_put0, ga4]
            repeat' refine And.intro ?_ ?_
            all_goals first | omega | exact rfl | skip
            refine hK' _ ?_
            clear hK' K'
            simp only [List.drop_succ_cons, List.drop_zero]
            refine vcL_bool 49 (by simp <;> rfl) ?_
            refine ⟨fun g7 => ?_, fun g7 => ?_⟩
            · try simp at g7
              simp (maxSteps := 1000000) (disch := first | omega | assumption) [og_at, og_put, og_at0, og_put0, ga4]
              repeat' refine And.intro ?_ ?_
              all_goals first | omega | exact rfl | skip
              refine hK _ ?_
              clear hK K
              clear ga4
              clear all
              refine q_then_n ?_
              refine awp_ifB (by simp <;> rfl) ?_
              refine ⟨fun c8 => ?_, fun c8 => ?_⟩
              · try simp at c8
                refine awp_skip ?_
                refine q_then_n ?_
                refine awp_seq ?_
                refine awp_block ?_
                refine awp_seq ?_
                refine awp_keep [1, 5, 6, 7, 9, 10, 11] (by simp only [keepL_nil, keepL_cons, envOf_sel, envOf_nil, sel_t, sel_f, Nat.reduceBEq] <;> rfl) ?_
                refine awp_drawA (c := ⟨[], [], [], [], []⟩) [.op ⟨false, false, false, false⟩, .op ⟨true, false, false, false⟩, .op ⟨false, false, false, false⟩, .op ⟨false, false, false, false⟩, .op ⟨false, false, false, false⟩, .op ⟨false, false, false, false⟩, .det, .op ⟨false, false, false, false⟩, .op ⟨false, false, false, false⟩, .op ⟨false, false, false, false⟩, .op ⟨true, true, false, false⟩, .op ⟨false, false, false, false⟩] (by kernel_rfl) (by kernel_rfl) (by simp only [lite_cons, lite_nil] <;> rfl) fun all hall K hK => ?_
                clear hall
                refine vcDL_split 6 (by simp) fun K' hK' => ?_
                simp (maxSteps := 1000000) (disch := first | omega | assumption) [og_at, og_put, og_at0, og_put0]
                repeat' refine And.intro ?_ ?_
                all_goals first | omega | exact rfl | skip
                refine hK' _ ?_
                clear hK' K'
                simp only [List.drop_succ_cons, List.drop_zero]
                refine vcDL_step fun K' hK' => ?_
                simp (maxSteps := 1000000) (disch := first | omega | assumption) [og_at, og_put, og_at0, og_put0]
                refine ⟨_, _, Ct.of_le (do_fn (σ.length + 4) q2 x2 more[k2] _ (by simp [og_at, og_put, og_at0, og_put0]) hok2 hxl2 hxn2 hi2.xw) (by first | exact leArgs_of rfl | (refine leArgs_of ?_; simp; done) | (refine leArgs_of ?_; simp; rfl) | (simp [leArgs, leArg]; done)) rfl, ?_⟩
                refine hK' _ ?_
                clear hK' K'
                simp (maxSteps := 1000000) (disch := first | omega | assumption) [og_at, og_put, og_at0, og_put0]
                repeat' refine And.intro ?_ ?_
                all_goals first | omega | exact rfl | skip
                refine hK _ ?_
                clear hK K
                clear all
                refine q_then_n ?_
                refine awp_seq ?_
                refine awp_keep [1, 5, 6, 7, 9, 10, 11] (by simp only [keepL_nil, keepL_cons, envOf_sel, envOf_nil, sel_t, sel_f, Nat.reduceBEq] <;> rfl) ?_
                refine awp_regionA (c := ⟨[], [], [], [], []⟩) (by simp only [lite_cons, lite_nil] <;> rfl) fun all hall K hK => ?_
                clear hall
                simp (maxSteps := 1000000) (disch := first | omega | assumption) [og_at, og_put, og_at0, og_put0]
                repeat' refine And.intro ?_ ?_
                all_goals first | omega | exact rfl | skip
                refine hK _ ?_
                clear hK K
                clear all
                refine q_then_n ?_
                refine awp_ifB (by simp <;> rfl) ?_
                refine ⟨fun c9 => ?_, fun c9 => ?_⟩
                · try simp at c9
                  exact absurd (inv_step hi2 more[k2]).2 c9
                · try simp at c9
                  refine awp_skip ?_
                  refine q_block_n ?_
                  refine q_then_n ?_
                  refine awp_regionA (c := ⟨[], [], [], [], []⟩) (by simp only [lite_cons, lite_nil] <;> rfl) fun all hall K hK => ?_
                  clear hall
                  simp (maxSteps := 1000000) (disch := first | omega | assumption) [og_at, og_put, og_at0, og_put0]
                  repeat' refine And.intro ?_ ?_
                  all_goals first | omega | exact rfl | skip
                  refine hK _ ?_
                  clear hK K
                  clear all
                  refine q_round (⟨k2 + 1, fdo q2 more[k2], rdo x2 more[k2]⟩) ?_ ?_ (weak_mkA rfl ?_ (by simp) (by simp))
                  · exact ⟨by simp at *; omega, by simp at *; omega, (inv_step hi2 _).1⟩
                  · try dsimp only
                    omega
                  · simp (maxSteps := 1000000) (disch := first | omega | assumption) [og_at, og_put, og_at0, og_put0]
              · try simp at c8
                refine awp_exit ?_
                refine q_then_e ?_
                refine q_loop_e ?_
                refine q_block_e ?_
                refine q_then_n ?_
                refine awp_seq ?_
                refine awp_keep [5, 6, 9, 10] (by simp only [keepL_nil, keepL_cons, envOf_sel, envOf_nil, sel_t, sel_f, Nat.reduceBEq] <;> rfl) ?_
                refine awp_drawA (c := ⟨[], [], [], [], []⟩) [.op ⟨false, false, false, false⟩, .read, .op ⟨false, false, false, false⟩, .op ⟨false, false, false, false⟩, .pure, .op ⟨false, false, false, false⟩, .op ⟨false, false, false, false⟩, .read, .op ⟨false, false, false, false⟩, .op ⟨true, false, false, false⟩, .pure, .op ⟨false, false, false, false⟩, .op ⟨false, false, false, false⟩] (by kernel_rfl) (by kernel_rfl) (by simp only [lite_cons, lite_nil] <;> rfl) fun all hall K hK => ?_
                have ga5 : guardOf all 5 = some 72 := hall 5
                clear hall
                refine vcDL_split 1 (by simp) fun K' hK' => ?_
                simp (maxSteps := 1000000) (disch := first | omega | assumption) [og_at, og_put, og_at0, og_put0, ga5]
                repeat' refine And.intro ?_ ?_
                all_goals first | omega | exact rfl | skip
                refine hK' _ ?_
                clear hK' K'
                simp only [List.drop_succ_cons, List.drop_zero]
                refine vcDL_step fun K' hK' => ?_
                simp (maxSteps := 1000000) (disch := first | omega | assumption) [og_at, og_put, og_at0, og_put0, ga5]
                refine ⟨_, Ct.of_le (qlist_fn (σ.length + 1) q _ (by simp [og_at, og_put, og_at0, og_put0]) hok) (by first | exact leArgs_of rfl | (refine leArgs_of ?_; simp; done) | (refine leArgs_of ?_; simp; rfl) | (simp [leArgs, leArg]; done)) rfl, ?_⟩
                refine hK' _ ?_
                clear hK' K'
                refine vcDL_split 2 (by simp) fun K' hK' => ?_
                simp (maxSteps := 1000000) (disch := first | omega | assumption) [og_at, og_put, og_at0, og_put0, ga5]
                repeat' refine And.intro ?_ ?_
                all_goals first | omega | exact rfl | skip
                refine hK' _ ?_
                clear hK' K'
                simp only [List.drop_succ_cons, List.drop_zero]
                refine vcDL_step fun K' hK' => ?_
                simp (maxSteps := 1000000) (disch := first | omega | assumption) [og_at, og_put, og_at0, og_put0, ga5]
                refine ⟨_, fun σ => Ct.of_le (same_fn (q.w0 ++ q.w1) x.l _ (by have := hi.len; simp; omega) (by omega)) (by first | exact leArgs_of rfl | (refine leArgs_of ?_; simp; done) | (refine leArgs_of ?_; simp; rfl) | (simp [leArgs, leArg]; done)) rfl, ?_⟩
                refine hK' _ ?_
                clear hK' K'
                refine vcDL_split 1 (by simp) fun K' hK' => ?_
                simp (maxSteps := 1000000) (disch := first | omega | assumption) [og_at, og_put, og_at0, og_put0, ga5]
                repeat' refine And.intro ?_ ?_
                all_goals first | omega | exact rfl | skip
                refine hK' _ ?_
                clear hK' K'
                simp only [List.drop_succ_cons, List.drop_zero]
                refine vcDL_bool 72 (by simp <;> rfl) ?_
                refine ⟨fun g10 => ?_, fun g10 => ?_⟩
                · try simp at g10
                  refine vcDL_split 1 (by simp) fun K' hK' => ?_
                  simp (maxSteps := 1000000) (disch := first | omega | assumption) [og_at, og_put, og_at0, og_put0, ga5]
                  repeat' refine And.intro ?_ ?_
                  all_goals first | omega | exact rfl | skip
                  refine hK' _ ?_
                  clear hK' K'
                  simp only [List.drop_succ_cons, List.drop_zero]
                  refine vcDL_gt ga5 (by simp <;> rfl) rfl fun K' hK' => ?_
                  simp (maxSteps := 1000000) (disch := first | omega | assumption) [og_at, og_put, og_at0, og_put0, ga5]
                  refine ⟨_, Ct.of_le (qlist_fn (σ.length + 4) q2 _ (by simp [og_at, og_put, og_at0, og_put0]) hok2) (by first | exact leArgs_of rfl | (refine leArgs_of ?_; simp; done) | (refine leArgs_of ?_; simp; rfl) | (simp [leArgs, leArg]; done)) rfl, ?_⟩
                  refine hK' _ ?_
                  clear hK' K'
                  refine vcDL_split 2 (by simp) fun K' hK' => ?_
                  simp (maxSteps := 1000000) (disch := first | omega | assumption) [og_at, og_put, og_at0, og_put0, ga5]
                  repeat' refine And.intro ?_ ?_
                  all_goals first | omega | exact rfl | skip
                  refine hK' _ ?_
                  clear hK' K'
                  simp only [List.drop_succ_cons, List.drop_zero]
                  refine vcDL_gt ga5 (by simp <;> rfl) rfl fun K' hK' => ?_
                  simp (maxSteps := 1000000) (disch := first | omega | assumption) [og_at, og_put, og_at0, og_put0, ga5]
                  refine ⟨_, fun σ => Ct.of_le (same_fn (q2.w0 ++ q2.w1) x2.l _ (by have := hi2.len; simp; omega) (by omega)) (by first | exact leArgs_of rfl | (refine leArgs_of ?_; simp; done) | (refine leArgs_of ?_; simp; rfl) | (simp [leArgs, leArg]; done)) rfl, ?_⟩
                  refine hK' _ ?_
                  clear hK' K'
                  simp (maxSteps := 1000000) (disch := first | omega | assumption) [og_at, og_put, og_at0, og_put0, ga5]
                  repeat' refine And.intro ?_ ?_
                  all_goals first | omega | exact rfl | skip
                  refine hK _ ?_
                  clear hK K
                  clear ga5
                  clear all
                  refine q_then_n ?_
                  refine awp_ret ?_
                  simp [endQ]
                  exact hi2.l.symm
                · try simp at g10
                  exact absurd hi.l.symm g10
            · try simp at g7
              simp (maxSteps := 1000000) (disch := first | omega | assumption) [og_at, og_put, og_at0, og_put0, ga4]
              repeat' refine And.intro ?_ ?_
              all_goals first | omega | exact rfl | skip
              refine hK _ ?_
              clear hK K
              clear ga4
              clear all
              refine q_then_n ?_
              refine awp_cond (t := false) (by simp) (fun h => by cases h) (fun _ => ?_)
              refine awp_exit ?_
              refine q_then_e ?_
              refine q_loop_e ?_
              refine q_block_e ?_
              refine q_then_n ?_
              refine awp_seq ?_
              refine awp_keep [5, 6, 9, 10] (by simp only [keepL_nil, keepL_cons, envOf_sel, envOf_nil, sel_t, sel_f, Nat.reduceBEq] <;> rfl) ?_
              refine awp_drawA (c := ⟨[], [], [], [], []⟩) [.op ⟨false, false, false, false⟩, .read, .op ⟨false, false, false, false⟩, .op ⟨false, false, false, false⟩, .pure, .op ⟨false, false, false, false⟩, .op ⟨false, false, false, false⟩, .read, .op ⟨false, false, false, false⟩, .op ⟨true, false, false, false⟩, .pure, .op ⟨false, false, false, false⟩, .op ⟨false, false, false, false⟩] (by kernel_rfl) (by kernel_rfl) (by simp only [lite_cons, lite_nil] <;> rfl) fun all hall K hK => ?_
              have ga5 : guardOf all 5 = some 72 := hall 5
              clear hall
              refine vcDL_split 1 (by simp) fun K' hK' => ?_
              simp (maxSteps := 1000000) (disch := first | omega | assumption) [og_at, og_put, og_at0, og_put0, ga5]
              repeat' refine And.intro ?_ ?_
              all_goals first | omega | exact rfl | skip
              refine hK' _ ?_
              clear hK' K'
              simp only [List.drop_succ_cons, List.drop_zero]
              refine vcDL_step fun K' hK' => ?_
              simp (maxSteps := 1000000) (disch := first | omega | assumption) [og_at, og_put, og_at0, og_put0, ga5]
              refine ⟨_, Ct.of_le (qlist_fn (σ.length + 1) q _ (by simp [og_at, og_put, og_at0, og_put0]) hok) (by first | exact leArgs_of rfl | (refine leArgs_of ?_; simp; done) | (refine leArgs_of ?_; simp; rfl) | (simp [leArgs, leArg]; done)) rfl, ?_⟩
              refine hK' _ ?_
              clear hK' K'
              refine vcDL_split 2 (by simp) fun K' hK' => ?_
              simp (maxSteps := 1000000) (disch := first | omega | assumption) [og_at, og_put, og_at0, og_put0, ga5]
              repeat' refine And.intro ?_ ?_
              all_goals first | omega | exact rfl | skip
              refine hK' _ ?_
              clear hK' K'
              simp only [List.drop_succ_cons, List.drop_zero]
              refine vcDL_step fun K' hK' => ?_
              simp (maxSteps := 1000000) (disch := first | omega | assumption) [og_at, og_put, og_at0, og_put0, ga5]
              refine ⟨_, fun σ => Ct.of_le (same_fn (q.w0 ++ q.w1) x.l _ (by have := hi.len; simp; omega) (by omega)) (by first | exact leArgs_of rfl | (refine leArgs_of ?_; simp; done) | (refine leArgs_of ?_; simp; rfl) | (simp [leArgs, leArg]; done)) rfl, ?_⟩
              refine hK' _ ?_
              clear hK' K'
              refine vcDL_split 1 (by simp) fun K' hK' => ?_
              simp (maxSteps := 1000000) (disch := first | omega | assumption) [og_at, og_put, og_at0, og_put0, ga5]
              repeat' refine And.intro ?_ ?_
              all_goals first | omega | exact rfl | skip
              refine hK' _ ?_
              clear hK' K'
              simp only [List.drop_succ_cons, List.drop_zero]
              refine vcDL_bool 72 (by simp <;> rfl) ?_
              refine ⟨fun g11 => ?_, fun g11 => ?_⟩
              · try simp at g11
                refine vcDL_split 1 (by simp) fun K' hK' => ?_
                simp (maxSteps := 1000000) (disch := first | omega | assumption) [og_at, og_put, og_at0, og_put0, ga5]
                repeat' refine And.intro ?_ ?_
                all_goals first | omega | exact rfl | skip
                refine hK' _ ?_
                clear hK' K'
                simp only [List.drop_succ_cons, List.drop_zero]
                refine vcDL_gt ga5 (by simp <;> rfl) rfl fun K' hK' => ?_
                simp (maxSteps := 1000000) (disch := first | omega | assumption) [og_at, og_put, og_at0, og_put0, ga5]
                refine ⟨_, Ct.of_le (qlist_fn (σ.length + 4) q2 _ (by simp [og_at, og_put, og_at0, og_put0]) hok2) (by first | exact leArgs_of rfl | (refine leArgs_of ?_; simp; done) | (refine leArgs_of ?_; simp; rfl) | (simp [leArgs, leArg]; done)) rfl, ?_⟩
                refine hK' _ ?_
                clear hK' K'
                refine vcDL_split 2 (by simp) fun K' hK' => ?_
                simp (maxSteps := 1000000) (disch := first | omega | assumption) [og_at, og_put, og_at0, og_put0, ga5]
                repeat' refine And.intro ?_ ?_
                all_goals first | omega | exact rfl | skip
                refine hK' _ ?_
                clear hK' K'
                simp only [List.drop_succ_cons, List.drop_zero]
                refine vcDL_gt ga5 (by simp <;> rfl) rfl fun K' hK' => ?_
                simp (maxSteps := 1000000) (disch := first | omega | assumption) [og_at, og_put, og_at0, og_put0, ga5]
                refine ⟨_, fun σ => Ct.of_le (same_fn (q2.w0 ++ q2.w1) x2.l _ (by have := hi2.len; simp; omega) (by omega)) (by first | exact leArgs_of rfl | (refine leArgs_of ?_; simp; done) | (refine leArgs_of ?_; simp; rfl) | (simp [leArgs, leArg]; done)) rfl, ?_⟩
                refine hK' _ ?_
                clear hK' K'
                simp (maxSteps := 1000000) (disch := first | omega | assumption) [og_at, og_put, og_at0, og_put0, ga5]
                repeat' refine And.intro ?_ ?_
                all_goals first | omega | exact rfl | skip
                refine hK _ ?_
                clear hK K
                clear ga5
                clear all
                refine q_then_n ?_
                refine awp_ret ?_
                simp [endQ]
                exact hi2.l.symm
              · try simp at g11
                exact absurd hi.l.symm g11
      · try simp at g3
        simp (maxSteps := 1000000) (disch := first | omega | assumption) [og_at, og_put, og_at0, og_put0, ga4]
        repeat' refine And.intro ?_ ?_
        all_goals first | omega | exact rfl | skip
        refine hK _ ?_
        clear hK K
        clear ga4
        clear all
        refine q_then_n ?_
        refine awp_cond (t := false) (by simp) (fun h => by cases h) (fun _ => ?_)
        refine awp_exit ?_
        refine q_then_e ?_
        refine q_loop_e ?_
        refine q_block_e ?_
        refine q_then_n ?_
        refine awp_seq ?_
        have hi30 := hi.mono (show k ≤ 30 by omega)
        refine awp_freezeBox 6 0 (by simp <;> rfl) (by simp <;> rfl) (by simp) ?_
        simp only [List.map_cons, List.map_nil, s1_v, s1_sl]
        refine awp_keep [1, 5, 6, 7] (by simp only [keepL_nil, keepL_cons, envOf_sel, envOf_nil, sel_t, sel_f, Nat.reduceBEq] <;> rfl) ?_
        refine awp_drawA (c := ⟨[], [], [], [], []⟩) [.op ⟨false, false, false, false⟩, .det, .op ⟨false, false, false, false⟩, .op ⟨true, true, false, false⟩, .op ⟨false, false, false, false⟩, .op ⟨true, true, false, false⟩] (by kernel_rfl) (by kernel_rfl) (by simp only [lite_cons, lite_nil] <;> rfl) fun all hall K hK => ?_
        clear hall
        refine vcDL_split 1 (by simp) fun K' hK' => ?_
        simp (maxSteps := 1000000) (disch := first | omega | assumption) [og_at, og_put, og_at0, og_put0]
        repeat' refine And.intro ?_ ?_
        all_goals first | omega | exact rfl | skip
        refine hK' _ ?_
        clear hK' K'
        simp only [List.drop_succ_cons, List.drop_zero]
        refine vcDL_step fun K' hK' => ?_
        simp (maxSteps := 1000000) (disch := first | omega | assumption) [og_at, og_put, og_at0, og_put0]
        refine ⟨_, _, Ct.of_le (qclone_fn (σ.length + 1) q _ (by simp [og_at, og_put, og_at0, og_put0]) hok) (by first | exact leArgs_of rfl | (refine leArgs_of ?_; simp; done) | (refine leArgs_of ?_; simp; rfl) | (simp [leArgs, leArg]; done)) rfl, ?_⟩
        refine hK' _ ?_
        clear hK' K'
        simp (maxSteps := 1000000) (disch := first | omega | assumption) [og_at, og_put, og_at0, og_put0]
        repeat' refine And.intro ?_ ?_
        all_goals first | omega | exact rfl | skip
        refine hK _ ?_
        clear hK K
        clear all
        refine q_then_n ?_
        refine awp_seq ?_
        refine awp_seq ?_
        refine awp_regionA (c := ⟨[], [], [], [], []⟩) (by simp only [lite_cons, lite_nil] <;> rfl) fun all hall K hK => ?_
        clear hall
        simp (maxSteps := 1000000) (disch := first | omega | assumption) [og_at, og_put, og_at0, og_put0]
        repeat' refine And.intro ?_ ?_
        all_goals first | omega | exact rfl | skip
        refine hK _ ?_
        clear hK K
        clear all
        refine q_then_n ?_
        refine awp_ifB (by simp <;> rfl) ?_
        refine ⟨fun c12 => ?_, fun c12 => ?_⟩
        · simp at c12
        · try simp at c12
          refine awp_skip ?_
          refine q_then_n ?_
          refine awp_seq ?_
          refine awp_seq ?_
          refine awp_regionA (c := ⟨[], [], [], [], []⟩) (by simp only [lite_cons, lite_nil] <;> rfl) fun all hall K hK => ?_
          clear hall
          simp (maxSteps := 1000000) (disch := first | omega | assumption) [og_at, og_put, og_at0, og_put0]
          repeat' refine And.intro ?_ ?_
          all_goals first | omega | exact rfl | skip
          refine hK _ ?_
          clear hK K
          clear all
          refine q_then_n ?_
          refine awp_block ?_
          refine awp_keep [1, 5, 6, 7, 9, 10, 11] (by simp only [keepL_nil, keepL_cons, envOf_sel, envOf_nil, sel_t, sel_f, Nat.reduceBEq] <;> rfl) ?_
          refine awp_loopM (fun (s : FSt) => [(11, .d (.int s.k)), (7, .d (.any))]) (fun (s : FSt) => [(1, [D.int s.x.most, D.int s.x.last, .sl false (s.x.l.map d_Wt)])]) (fun (s : FSt) => [(σ.length + 4, dqq s.q)]) [4, 7, 11, 45, 46, 47, 48, 49, 50, 51, 52, 53, 54, 55, 56, 57, 58, 59, 60, 61, 62, 63, 64, 65, 66] (fun (s : FSt) => s.k ≤ more.length ∧ s.k ≤ 30 ∧ Inv (30 + s.k) s.q s.x) (fun (s : FSt) => more.length - s.k) (⟨0, q, x⟩) (by simp <;> rfl) ?_ (by simp) (by simp [og_at, og_put, og_at0, og_put0]) ?_ ?_
          · simp
          · exact ⟨by simp, by simp, hi30⟩
          rintro ⟨k2, q2, x2⟩ ⟨hk2, hk280, hi2⟩
          simp only [List.cons_append, List.nil_append, setL_nil, setL_cons, List.set_cons_zero, List.set_cons_succ]
          dsimp only at hk2 hk280 hi2
          have hok2 := hi2.ok (by omega)
          have hxl2 := hi2.xl (by omega)
          have hxn2 := hi2.xn (by omega)
          refine awp_seq ?_
          refine awp_seq ?_
          refine awp_regionA (c := ⟨[], [], [], [], []⟩) (by simp only [lite_cons, lite_nil] <;> rfl) fun all hall K hK => ?_
          have ga4 : guardOf all 4 = some 49 := hall 4
          clear hall
          refine vcL_split 5 fun K' hK' => ?_
          simp (maxSteps := 1000000) (disch := first | omega | assumption) [og_at, og_put, og_at0, og_put0, ga4]
          repeat' refine And.intro ?_ ?_
          all_goals first | omega | exact rfl | skip
          refine hK' _ ?_
          clear hK' K'
          simp only [List.drop_succ_cons, List.drop_zero]
          refine vcL_bool 49 (by simp <;> rfl) ?_
          refine ⟨fun g13 => ?_, fun g13 => ?_⟩
          · try simp at g13
            simp (maxSteps := 1000000) (disch := first | omega | assumption) [og_at, og_put, og_at0, og_put0, ga4]
            repeat' refine And.intro ?_ ?_
            all_goals first | omega | exact rfl | skip
            refine hK _ ?_
            clear hK K
            clear ga4
            clear all
            refine q_then_n ?_
            refine awp_ifB (by simp <;> rfl) ?_
            refine ⟨fun c14 => ?_, fun c14 => ?_⟩
            · try simp at c14
              refine awp_skip ?_
              refine q_then_n ?_
              refine awp_seq ?_
              refine awp_block ?_
              refine awp_seq ?_
              refine awp_keep [1, 5, 6, 7, 9, 10, 11] (by simp only [keepL_nil, keepL_cons, envOf_sel, envOf_nil, sel_t, sel_f, Nat.reduceBEq] <;> rfl) ?_
              refine awp_drawA (c := ⟨[], [], [], [], []⟩) [.op ⟨false, false, false, false⟩, .op ⟨true, false, false, false⟩, .op ⟨false, false, false, false⟩, .op ⟨false, false, false, false⟩, .op ⟨false, false, false, false⟩, .op ⟨false, false, false, false⟩, .det, .op ⟨false, false, false, false⟩, .op ⟨false, false, false, false⟩, .op ⟨false, false, false, false⟩, .op ⟨true, true, false, false⟩, .op ⟨false, false, false, false⟩] (by kernel_rfl) (by kernel_rfl) (by simp only [lite_cons, lite_nil] <;> rfl) fun all hall K hK => ?_
              clear hall
              refine vcDL_split 6 (by simp) fun K' hK' => ?_
              simp (maxSteps := 1000000) (disch := first | omega | assumption) [og_at, og_put, og_at0, og_put0]
              repeat' refine And.intro ?_ ?_
              all_goals first | omega | exact rfl | skip
              refine hK' _ ?_
              clear hK' K'
              simp only [List.drop_succ_cons, List.drop_zero]
              refine vcDL_step fun K' hK' => ?_
              simp (maxSteps := 1000000) (disch := first | omega | assumption) [og_at, og_put, og_at0, og_put0]
              refine ⟨_, _, Ct.of_le (do_fn (σ.length + 4) q2 x2 more[k2] _ (by simp [og_at, og_put, og_at0, og_put0]) hok2 hxl2 hxn2 hi2.xw) (by first | exact leArgs_of rfl | (refine leArgs_of ?_; simp; done) | (refine leArgs_of ?_; simp; rfl) | (simp [leArgs, leArg]; done)) rfl, ?_⟩
              refine hK' _ ?_
              clear hK' K'
              simp (maxSteps := 1000000) (disch := first | omega | assumption) [og_at, og_put, og_at0, og_put0]
              repeat' refine And.intro ?_ ?_
              all_goals first | omega | exact rfl | skip
              refine hK _ ?_
              clear hK K
              clear all
              refine q_then_n ?_
              refine awp_seq ?_
              refine awp_keep [1, 5, 6, 7, 9, 10, 11] (by simp only [keepL_nil, keepL_cons, envOf_sel, envOf_nil, sel_t, sel_f, Nat.reduceBEq] <;> rfl) ?_
              refine awp_regionA (c := ⟨[], [], [], [], []⟩) (by simp only [lite_cons, lite_nil] <;> rfl) fun all hall K hK => ?_
              clear hall
              simp (maxSteps := 1000000) (disch := first | omega | assumption) [og_at, og_put, og_at0, og_put0]
              repeat' refine And.intro ?_ ?_
              all_goals first | omega | exact rfl | skip
              refine hK _ ?_
              clear hK K
              clear all
              refine q_then_n ?_
              refine awp_ifB (by simp <;> rfl) ?_
              refine ⟨fun c15 => ?_, fun c15 => ?_⟩
              · try simp at c15
                exact absurd (inv_step hi2 more[k2]).2 c15
              · try simp at c15
                refine awp_skip ?_
                refine q_block_n ?_
                refine q_then_n ?_
                refine awp_regionA (c := ⟨[], [], [], [], []⟩) (by simp only [lite_cons, lite_nil] <;> rfl) fun all hall K hK => ?_
                clear hall
                simp (maxSteps := 1000000) (disch := first | omega | assumption) [og_at, og_put, og_at0, og_put0]
                repeat' refine And.intro ?_ ?_
                all_goals first | omega | exact rfl | skip
                refine hK _ ?_
                clear hK K
                clear all
                refine q_round (⟨k2 + 1, fdo q2 more[k2], rdo x2 more[k2]⟩) ?_ ?_ (weak_mkA rfl ?_ (by simp) (by simp))
                · exact ⟨by simp at *; omega, by simp at *; omega, (inv_step hi2 _).1⟩
                · try dsimp only
                  omega
                · simp (maxSteps := 1000000) (disch := first | omega | assumption) [og_at, og_put, og_at0, og_put0]
            · try simp at c14
              refine awp_exit ?_
              refine q_then_e ?_
              refine q_loop_e ?_
              refine q_block_e ?_
              refine q_then_n ?_
              refine awp_seq ?_
              refine awp_keep [5, 6, 9, 10] (by simp only [keepL_nil, keepL_cons, envOf_sel, envOf_nil, sel_t, sel_f, Nat.reduceBEq] <;> rfl) ?_
              refine awp_drawA (c := ⟨[], [], [], [], []⟩) [.op ⟨false, false, false, false⟩, .read, .op ⟨false, false, false, false⟩, .op ⟨false, false, false, false⟩, .pure, .op ⟨false, false, false, false⟩, .op ⟨false, false, false, false⟩, .read, .op ⟨false, false, false, false⟩, .op ⟨true, false, false, false⟩, .pure, .op ⟨false, false, false, false⟩, .op ⟨false, false, false, false⟩] (by kernel_rfl) (by kernel_rfl) (by simp only [lite_cons, lite_nil] <;> rfl) fun all hall K hK => ?_
              have ga5 : guardOf all 5 = some 72 := hall 5
              clear hall
              refine vcDL_split 1 (by simp) fun K' hK' => ?_
              simp (maxSteps := 1000000) (disch := first | omega | assumption) [og_at, og_put, og_at0, og_put0, ga5]
              repeat' refine And.intro ?_ ?_
              all_goals first | omega | exact rfl | skip
              refine hK' _ ?_
              clear hK' K'
              simp only [List.drop_succ_cons, List.drop_zero]
              refine vcDL_step fun K' hK' => ?_
              simp (maxSteps := 1000000) (disch := first | omega | assumption) [og_at, og_put, og_at0, og_put0, ga5]
              refine ⟨_, Ct.of_le (qlist_fn (σ.length + 1) q _ (by simp [og_at, og_put, og_at0, og_put0]) hok) (by first | exact leArgs_of rfl | (refine leArgs_of ?_; simp; done) | (refine leArgs_of ?_; simp; rfl) | (simp [leArgs, leArg]; done)) rfl, ?_⟩
              refine hK' _ ?_
              clear hK' K'
              refine vcDL_split 2 (by simp) fun K' hK' => ?_
              simp (maxSteps := 1000000) (disch := first | omega | assumption) [og_at, og_put, og_at0, og_put0, ga5]
              repeat' refine And.intro ?_ ?_
              all_goals first | omega | exact rfl | skip
              refine hK' _ ?_
              clear hK' K'
              simp only [List.drop_succ_cons, List.drop_zero]
              refine vcDL_step fun K' hK' => ?_
              simp (maxSteps := 1000000) (disch := first | omega | assumption) [og_at, og_put, og_at0, og_put0, ga5]
              refine ⟨_, fun σ => Ct.of_le (same_fn (q.w0 ++ q.w1) x.l _ (by have := hi.len; simp; omega) (by omega)) (by first | exact leArgs_of rfl | (refine leArgs_of ?_; simp; done) | (refine leArgs_of ?_; simp; rfl) | (simp [leArgs, leArg]; done)) rfl, ?_⟩
              refine hK' _ ?_
              clear hK' K'
              refine vcDL_split 1 (by simp) fun K' hK' => ?_
              simp (maxSteps := 1000000) (disch := first | omega | assumption) [og_at, og_put, og_at0, og_put0, ga5]
              repeat' refine And.intro ?_ ?_
              all_goals first | omega | exact rfl | skip
              refine hK' _ ?_
              clear hK' K'
              simp only [List.drop_succ_cons, List.drop_zero]
              refine vcDL_bool 72 (by simp <;> rfl) ?_
              refine ⟨fun g16 => ?_, fun g16 => ?_⟩
              · try simp at g16
                refine vcDL_split 1 (by simp) fun K' hK' => ?_
                simp (maxSteps := 1000000) (disch := first | omega | assumption) [og_at, og_put, og_at0, og_put0, ga5]
                repeat' refine And.intro ?_ ?_
                all_goals first | omega | exact rfl | skip
                refine hK' _ ?_
                clear hK' K'
                simp only [List.drop_succ_cons, List.drop_zero]
                refine vcDL_gt ga5 (by simp <;> rfl) rfl fun K' hK' => ?_
                simp (maxSteps := 1000000) (disch := first | omega | assumption) [og_at, og_put, og_at0, og_put0, ga5]
                refine ⟨_, Ct.of_le (qlist_fn (σ.length + 4) q2 _ (by simp [og_at, og_put, og_at0, og_put0]) hok2) (by first | exact leArgs_of rfl | (refine leArgs_of ?_; simp; done) | (refine leArgs_of ?_; simp; rfl) | (simp [leArgs, leArg]; done)) rfl, ?_⟩
                refine hK' _ ?_
                clear hK' K'
                refine vcDL_split 2 (by simp) fun K' hK' => ?_
                simp (maxSteps := 1000000) (disch := first | omega | assumption) [og_at, og_put, og_at0, og_put0, ga5]
                repeat' refine And.intro ?_ ?_
                all_goals first | omega | exact rfl | skip
                refine hK' _ ?_
                clear hK' K'
                simp only [List.drop_succ_cons, List.drop_zero]
                refine vcDL_gt ga5 (by simp <;> rfl) rfl fun K' hK' => ?_
                simp (maxSteps := 1000000) (disch := first | omega | assumption) [og_at, og_put, og_at0, og_put0, ga5]
                refine ⟨_, fun σ => Ct.of_le (same_fn (q2.w0 ++ q2.w1) x2.l _ (by have := hi2.len; simp; omega) (by omega)) (by first | exact leArgs_of rfl | (refine leArgs_of ?_; simp; done) | (refine leArgs_of ?_; simp; rfl) | (simp [leArgs, leArg]; done)) rfl, ?_⟩
                refine hK' _ ?_
                clear hK' K'
                simp (maxSteps := 1000000) (disch := first | omega | assumption) [og_at, og_put, og_at0, og_put0, ga5]
                repeat' refine And.intro ?_ ?_
                all_goals first | omega | exact rfl | skip
                refine hK _ ?_
                clear hK K
                clear ga5
                clear all
                refine q_then_n ?_
                refine awp_ret ?_
                simp [endQ]
                exact hi2.l.symm
              · try simp at g16
                exact absurd hi.l.symm g16
          · try simp at g13
            simp (maxSteps := 1000000) (disch := first | omega | assumption) [og_at, og_put, og_at0, og_put0, ga4]
            repeat' refine And.intro ?_ ?_
            all_goals first | omega | exact rfl | skip
            refine hK _ ?_
            clear hK K
            clear ga4
            clear all
            refine q_then_n ?_
            refine awp_cond (t := false) (by simp) (fun h => by cases h) (fun _ => ?_)
            refine awp_exit ?_
            refine q_then_e ?_
            refine q_loop_e ?_
            refine q_block_e ?_
            refine q_then_n ?_
            refine awp_seq ?_
            refine awp_keep [5, 6, 9, 10] (by simp only [keepL_nil, keepL_cons, envOf_sel, envOf_nil, sel_t, sel_f, Nat.reduceBEq] <;> rfl) ?_
            refine awp_drawA (c := ⟨[], [], [], [], []⟩) [.op ⟨false, false, false, false⟩, .read, .op ⟨false, false, false, false⟩, .op ⟨false, false, false, false⟩, .pure, .op ⟨false, false, false, false⟩, .op ⟨false, false, false, false⟩, .read, .op ⟨false, false, false, false⟩, .op ⟨true, false, false, false⟩, .pure, .op ⟨false, false, false, false⟩, .op ⟨false, false, false, false⟩] (by kernel_rfl) (by kernel_rfl) (by simp only [lite_cons, lite_nil] <;> rfl) fun all hall K hK => ?_
            have ga5 : guardOf all 5 = some 72 := hall 5
            clear hall
            refine vcDL_split 1 (by simp) fun K' hK' => ?_
            simp (maxSteps := 1000000) (disch := first | omega | assumption) [og_at, og_put, og_at0, og_put0, ga5]
            repeat' refine And.intro ?_ ?_
            all_goals first | omega | exact rfl | skip
            refine hK' _ ?_
            clear hK' K'
            simp only [List.drop_succ_cons, List.drop_zero]
            refine vcDL_step fun K' hK' => ?_
            simp (maxSteps := 1000000) (disch := first | omega | assumption) [og_at, og_put, og_at0, og_put0, ga5]
            refine ⟨_, Ct.of_le (qlist_fn (σ.length + 1) q _ (by simp [og_at, og_put, og_at0, og_put0]) hok) (by first | exact leArgs_of rfl | (refine leArgs_of ?_; simp; done) | (refine leArgs_of ?_; simp; rfl) | (simp [leArgs, leArg]; done)) rfl, ?_⟩
            refine hK' _ ?_
            clear hK' K'
            refine vcDL_split 2 (by simp) fun K' hK' => ?_
            simp (maxSteps := 1000000) (disch := first | omega | assumption) [og_at, og_put, og_at0, og_put0, ga5]
            repeat' refine And.intro ?_ ?_
            all_goals first | omega | exact rfl | skip
            refine hK' _ ?_
            clear hK' K'
            simp only [List.drop_succ_cons, List.drop_zero]
            refine vcDL_step fun K' hK' => ?_
            simp (maxSteps := 1000000) (disch := first | omega | assumption) [og_at, og_put, og_at0, og_put0, ga5]
            refine ⟨_, fun σ => Ct.of_le (same_fn (q.w0 ++ q.w1) x.l _ (by have := hi.len; simp; omega) (by omega)) (by first | exact leArgs_of rfl | (refine leArgs_of ?_; simp; done) | (refine leArgs_of ?_; simp; rfl) | (simp [leArgs, leArg]; done)) rfl, ?_⟩
            refine hK' _ ?_
            clear hK' K'
            refine vcDL_split 1 (by simp) fun K' hK' => ?_
            simp (maxSteps := 1000000) (disch := first | omega | assumption) [og_at, og_put, og_at0, og_put0, ga5]
            repeat' refine And.intro ?_ ?_
            all_goals first | omega | exact rfl | skip
            refine hK' _ ?_
            clear hK' K'
            simp only [List.drop_succ_cons, List.drop_zero]
            refine vcDL_bool 72 (by simp <;> rfl) ?_
            refine ⟨fun g17 => ?_, fun g17 => ?_⟩
            · try simp at g17
              refine vcDL_split 1 (by simp) fun K' hK' => ?_
              simp (maxSteps := 1000000) (disch := first | omega | assumption) [og_at, og_put, og_at0, og_put0, ga5]
              repeat' refine And.intro ?_ ?_
              all_goals first | omega | exact rfl | skip
              refine hK' _ ?_
              clear hK' K'
              simp only [List.drop_succ_cons, List.drop_zero]
              refine vcDL_gt ga5 (by simp <;> rfl) rfl fun K' hK' => ?_
              simp (maxSteps := 1000000) (disch := first | omega | assumption) [og_at, og_put, og_at0, og_put0, ga5]
              refine ⟨_, Ct.of_le (qlist_fn (σ.length + 4) q2 _ (by simp [og_at, og_put, og_at0, og_put0]) hok2) (by first | exact leArgs_of rfl | (refine leArgs_of ?_; simp; done) | (refine leArgs_of ?_; simp; rfl) | (simp [leArgs, leArg]; done)) rfl, ?_⟩
              refine hK' _ ?_
              clear hK' K'
              refine vcDL_split 2 (by simp) fun K' hK' => ?_
              simp (maxSteps := 1000000) (disch := first | omega | assumption) [og_at, og_put, og_at0, og_put0, ga5]
              repeat' refine And.intro ?_ ?_
              all_goals first | omega | exact rfl | skip
              refine hK' _ ?_
              clear hK' K'
              simp only [List.drop_succ_cons, List.drop_zero]
              refine vcDL_gt ga5 (by simp <;> rfl) rfl fun K' hK' => ?_
              simp (maxSteps := 1000000) (disch := first | omega | assumption) [og_at, og_put, og_at0, og_put0, ga5]
              refine ⟨_, fun σ => Ct.of_le (same_fn (q2.w0 ++ q2.w1) x2.l _ (by have := hi2.len; simp; omega) (by omega)) (by first | exact leArgs_of rfl | (refine leArgs_of ?_; simp; done) | (refine leArgs_of ?_; simp; rfl) | (simp [leArgs, leArg]; done)) rfl, ?_⟩
              refine hK' _ ?_
              clear hK' K'
              simp (maxSteps := 1000000) (disch := first | omega | assumption) [og_at, og_put, og_at0, og_put0, ga5]
              repeat' refine And.intro ?_ ?_
              all_goals first | omega | exact rfl | skip
              refine hK _ ?_
              clear hK K
              clear ga5
              clear all
              refine q_then_n ?_
              refine awp_ret ?_
              simp [endQ]
              exact hi2.l.symm
            · try simp at g17
              exact absurd hi.l.symm g17

end Go.Proofs.Ythieajadepfeoaa

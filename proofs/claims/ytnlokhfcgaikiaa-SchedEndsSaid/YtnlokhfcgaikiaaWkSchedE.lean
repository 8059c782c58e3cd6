/- Walks: contracts of functions. Written by a program of ours out of annotations. -/
import Derived.Test.YtnlokhfcgaikiaaWkSched4
namespace Go.Proofs.Ytnlokhfcgaikiaa
open Go Go.Vm
set_option maxRecDepth 20000
set_option linter.all false
set_option maxHeartbeats 8000000

-- scrim/scrimlaw18.SchedEnds
theorem schedEnds_fn (acts : List SAct) (more : Int) (σ : List (List D)) (hl : acts.length ≤ 9223372036854775807) : Ct Try.prog 4 [.sl false (acts.map d_SAct), D.int more] σ (fun r σ' => r = .bool true) := by
  refine fn_start (rs := [.tmp 4]) Try.func4 rfl rfl Try.ntmps4 Try.results4 (by simp) ?_
  simp only [argEnv]
  have him := iand_rg more
  refine awp_seq ?_
  refine awp_regionA (c := ⟨[], [], [], [], []⟩) (by simp only [lite_cons, lite_nil] <;> rfl) fun all hall K hK => ?_
  clear hall
  simp (maxSteps := 1000000) (disch := first | omega | assumption) [og_at, og_put, og_at0, og_put0, sput, iand_eq]
  repeat' refine And.intro ?_ ?_
  all_goals first | omega | exact rfl | skip
  refine hK _ ?_
  clear hK K
  clear all
  refine q_then_n ?_
  refine awp_seq ?_
  refine awp_seq ?_
  refine awp_regionA (c := ⟨[], [], [], [], []⟩) (by simp only [lite_cons, lite_nil] <;> rfl) fun all hall K hK => ?_
  clear hall
  refine vcL_step fun K' hK' => ?_
  simp (maxSteps := 1000000) (disch := first | omega | assumption) [og_at, og_put, og_at0, og_put0, sput, iand_eq]
  refine Ct.mono (Ct.of_le (swake_fn _) (by first | exact leArgs_of rfl | (refine leArgs_of ?_; simp; done) | (refine leArgs_of ?_; simp; rfl) | (simp [leArgs, leArg]; done)) rfl) ?_
  rintro _ _ ⟨hr9, hs9⟩
  subst hr9
  replace hs9 := hs9.symm
  subst hs9
  refine hK' _ ?_
  clear hK' K'
  simp (maxSteps := 1000000) (disch := first | omega | assumption) [og_at, og_put, og_at0, og_put0, sput, iand_eq]
  repeat' refine And.intro ?_ ?_
  all_goals first | omega | exact rfl | skip
  refine hK _ ?_
  clear hK K
  clear all
  refine q_then_n ?_
  refine awp_ifB (by simp <;> rfl) ?_
  refine ⟨fun c1 => ?_, fun c1 => ?_⟩
  · simp at c1
  · try simp at c1
    refine awp_skip ?_
    refine q_then_n ?_
    refine awp_seq ?_
    refine awp_regionA (c := ⟨[], [], [], [], []⟩) (by simp only [lite_cons, lite_nil] <;> rfl) fun all hall K hK => ?_
    clear hall
    refine vcL_step fun K' hK' => ?_
    simp (maxSteps := 1000000) (disch := first | omega | assumption) [og_at, og_put, og_at0, og_put0, sput, iand_eq]
    refine Ct.mono (Ct.of_le (snew_fn 100 _) (by first | exact leArgs_of rfl | (refine leArgs_of ?_; simp; done) | (refine leArgs_of ?_; simp; rfl) | (simp [leArgs, leArg]; done)) rfl) ?_
    rintro _ _ ⟨hr9, hs9⟩
    subst hr9
    replace hs9 := hs9.symm
    subst hs9
    refine hK' _ ?_
    clear hK' K'
    simp (maxSteps := 1000000) (disch := first | omega | assumption) [og_at, og_put, og_at0, og_put0, sput, iand_eq]
    repeat' refine And.intro ?_ ?_
    all_goals first | omega | exact rfl | skip
    refine hK _ ?_
    clear hK K
    clear all
    refine q_then_n ?_
    refine awp_seq ?_
    refine awp_seq ?_
    refine awp_regionA (c := ⟨[], [], [], [], []⟩) (by simp only [lite_cons, lite_nil] <;> rfl) fun all hall K hK => ?_
    clear hall
    simp (maxSteps := 1000000) (disch := first | omega | assumption) [og_at, og_put, og_at0, og_put0, sput, iand_eq]
    repeat' refine And.intro ?_ ?_
    all_goals first | omega | exact rfl | skip
    refine hK _ ?_
    clear hK K
    clear all
    refine q_then_n ?_
    refine awp_ifB (by simp <;> rfl) ?_
    refine ⟨fun c2 => ?_, fun c2 => ?_⟩
    · simp at c2
    · try simp at c2
      refine awp_skip ?_
      refine q_then_n ?_
      refine awp_seq ?_
      refine awp_regionA (c := ⟨[], [], [], [], []⟩) (by simp only [lite_cons, lite_nil] <;> rfl) fun all hall K hK => ?_
      clear hall
      simp (maxSteps := 1000000) (disch := first | omega | assumption) [og_at, og_put, og_at0, og_put0, sput, iand_eq]
      repeat' refine And.intro ?_ ?_
      all_goals first | omega | exact rfl | skip
      refine hK _ ?_
      clear hK K
      clear all
      refine q_then_n ?_
      refine awp_seq ?_
      refine awp_seq ?_
      refine awp_regionA (c := ⟨[], [], [], [], []⟩) (by simp only [lite_cons, lite_nil] <;> rfl) fun all hall K hK => ?_
      clear hall
      simp (maxSteps := 1000000) (disch := first | omega | assumption) [og_at, og_put, og_at0, og_put0, sput, iand_eq]
      repeat' refine And.intro ?_ ?_
      all_goals first | omega | exact rfl | skip
      refine hK _ ?_
      clear hK K
      clear all
      refine q_then_n ?_
      refine awp_block ?_
      refine awp_keep [0, 1, 4, 5, 6, 7] (by simp only [keepL_nil, keepL_cons, envOf_sel, envOf_nil, sel_t, sel_f, Nat.reduceBEq] <;> rfl) ?_
      refine awp_loopM (fun (s : ESt) => [(7, .d (.int s.k)), (6, .d (.int s.far))]) (fun (s : ESt) => []) (fun (s : ESt) => [(σ.length + 1, dhp σ.length s.s.t.h), (σ.length + 2, dwh (σ.length + 1) s.s.t), (σ.length + 3, dqq s.s.q), (σ.length + 4, dss (σ.length + 2) (σ.length + 3) s.s)]) [6, 7, 8, 17, 18, 19, 20, 21, 22, 23, 24, 25, 26, 27, 28, 29, 30, 31, 32, 33, 34, 35, 36, 37, 38, 39, 40, 41, 42, 43] (fun (s : ESt) => s.k ≤ acts.length ∧ s.k ≤ 40 ∧ SE s.k s.s s.far) (fun (s : ESt) => acts.length - s.k) (⟨0, snew 100, 0⟩) (by simp <;> rfl) ?_ (by simp) (by simp [og_at, og_put, og_at0, og_put0]) ?_ ?_
      · simp
      · exact ⟨by simp, by simp, SE.new⟩
      rintro ⟨k, s, far⟩ ⟨hk, hk40, hi⟩
      simp only [List.cons_append, List.nil_append, setL_nil, setL_cons, List.set_cons_zero, List.set_cons_succ]
      dsimp only at hk hk40 hi
      have hi1 := hi.hi
      have hi2 := hi.lo
      have hi3 := hi.v.nw
      refine awp_seq ?_
      refine awp_seq ?_
      refine awp_regionA (c := ⟨[], [], [], [], []⟩) (by simp only [lite_cons, lite_nil] <;> rfl) fun all hall K hK => ?_
      have ga4 : guardOf all 4 = some 21 := hall 4
      clear hall
      refine vcL_split 5 fun K' hK' => ?_
      simp (maxSteps := 1000000) (disch := first | omega | assumption) [og_at, og_put, og_at0, og_put0, sput, iand_eq, ga4]
      repeat' refine And.intro ?_ ?_
      all_goals first | omega | exact rfl | skip
      refine hK' _ ?_
      clear hK' K'
      simp only [List.drop_succ_cons, List.drop_zero]
      refine vcL_bool 21 (by simp <;> rfl) ?_
      refine ⟨fun g3 => ?_, fun g3 => ?_⟩
      · try simp at g3
        simp (maxSteps := 1000000) (disch := first | omega | assumption) [og_at, og_put, og_at0, og_put0, sput, iand_eq, ga4]
        repeat' refine And.intro ?_ ?_
        all_goals first | omega | exact rfl | skip
        refine hK _ ?_
        clear hK K
        clear ga4
        clear all
        refine q_then_n ?_
        refine awp_ifB (by simp <;> rfl) ?_
        refine ⟨fun c4 => ?_, fun c4 => ?_⟩
        · try simp at c4
          refine awp_skip ?_
          refine q_then_n ?_
          refine awp_seq ?_
          refine awp_block ?_
          refine awp_seq ?_
          refine awp_keep [0, 1, 4, 5, 6, 7] (by simp only [keepL_nil, keepL_cons, envOf_sel, envOf_nil, sel_t, sel_f, Nat.reduceBEq] <;> rfl) ?_
          refine awp_regionA (c := ⟨[], [], [], [], []⟩) (by simp only [lite_cons, lite_nil] <;> rfl) fun all hall K hK => ?_
          clear hall
          simp (maxSteps := 1000000) (disch := first | omega | assumption) [og_at, og_put, og_at0, og_put0, sput, iand_eq]
          repeat' refine And.intro ?_ ?_
          all_goals first | omega | exact rfl | skip
          refine hK _ ?_
          clear hK K
          clear all
          refine q_then_n ?_
          refine awp_seq ?_
          refine awp_regionA (c := ⟨[], [], [], [], []⟩) (by simp only [lite_cons, lite_nil] <;> rfl) fun all hall K hK => ?_
          clear hall
          simp (maxSteps := 1000000) (disch := first | omega | assumption) [og_at, og_put, og_at0, og_put0, sput, iand_eq]
          repeat' refine And.intro ?_ ?_
          all_goals first | omega | exact rfl | skip
          refine hK _ ?_
          clear hK K
          clear all
          refine q_then_n ?_
          refine awp_seq ?_
          refine awp_keep [0, 1, 4, 5, 6, 7, 8] (by simp only [keepL_nil, keepL_cons, envOf_sel, envOf_nil, sel_t, sel_f, Nat.reduceBEq] <;> rfl) ?_
          refine awp_drawA (c := ⟨[], [], [], [], []⟩) [.op ⟨false, false, false, false⟩, .pure, .op ⟨true, false, false, false⟩, .det] (by kernel_rfl) (by kernel_rfl) (by simp only [lite_cons, lite_nil] <;> rfl) fun all hall K hK => ?_
          clear hall
          refine vcDL_split 1 (by simp) fun K' hK' => ?_
          simp (maxSteps := 1000000) (disch := first | omega | assumption) [og_at, og_put, og_at0, og_put0, sput, iand_eq]
          repeat' refine And.intro ?_ ?_
          all_goals first | omega | exact rfl | skip
          refine hK' _ ?_
          clear hK' K'
          simp only [List.drop_succ_cons, List.drop_zero]
          refine vcDL_step fun K' hK' => ?_
          simp (maxSteps := 1000000) (disch := first | omega | assumption) [og_at, og_put, og_at0, og_put0, sput, iand_eq]
          refine ⟨_, fun σ => Ct.of_le (rsnew0_fn 1 _) (by first | exact leArgs_of rfl | (refine leArgs_of ?_; simp; done) | (refine leArgs_of ?_; simp; rfl) | (simp [leArgs, leArg]; done)) rfl, ?_⟩
          refine hK' _ ?_
          clear hK' K'
          refine vcDL_split 1 (by simp) fun K' hK' => ?_
          simp (maxSteps := 1000000) (disch := first | omega | assumption) [og_at, og_put, og_at0, og_put0, sput, iand_eq]
          repeat' refine And.intro ?_ ?_
          all_goals first | omega | exact rfl | skip
          refine hK' _ ?_
          clear hK' K'
          simp only [List.drop_succ_cons, List.drop_zero]
          refine vcDL_step fun K' hK' => ?_
          simp (maxSteps := 1000000) (disch := first | omega | assumption) [og_at, og_put, og_at0, og_put0, sput, iand_eq]
          refine ⟨_, _, Ct.of_le (sdo_fn (σ.length + 4) (σ.length + 2) (σ.length + 1) σ.length (σ.length + 3) s (rsnew 1) (mask acts[k]) _ (SO.lay σ s []) (hi.v.ok (by omega)) ROk.new) (by first | exact leArgs_of rfl | (refine leArgs_of ?_; simp; done) | (refine leArgs_of ?_; simp; rfl) | (simp [leArgs, leArg]; done)) rfl, ?_⟩
          refine hK' _ ?_
          clear hK' K'
          simp only [vcDL_nil]
          refine hK _ ?_
          clear hK K
          clear all
          refine q_then_n ?_
          refine awp_regionA (c := ⟨[], [], [], [], []⟩) (by simp only [lite_cons, lite_nil] <;> rfl) fun all hall K hK => ?_
          clear hall
          refine vcL_split 2 fun K' hK' => ?_
          simp (maxSteps := 1000000) (disch := first | omega | assumption) [og_at, og_put, og_at0, og_put0, sput, iand_eq]
          repeat' refine And.intro ?_ ?_
          all_goals first | omega | exact rfl | skip
          refine hK' _ ?_
          clear hK' K'
          simp only [List.drop_succ_cons, List.drop_zero]
          refine vcL_step fun K' hK' => ?_
          simp (maxSteps := 1000000) (disch := first | omega | assumption) [og_at, og_put, og_at0, og_put0, sput, iand_eq]
          refine Ct.mono (Ct.of_le (snow_fn (σ.length + 4) (σ.length + 2) (σ.length + 1) σ.length (σ.length + 3) (sdo s (mask acts[k])) _ (SO.lay σ (sdo s (mask acts[k])) []) ((hi.v.step (mask acts[k])).ok (by omega))) (by first | exact leArgs_of rfl | (refine leArgs_of ?_; simp; done) | (refine leArgs_of ?_; simp; rfl) | (simp [leArgs, leArg]; done)) rfl) ?_
          rintro _ _ ⟨hr9, hs9⟩
          subst hr9
          replace hs9 := hs9.symm
          subst hs9
          have hnow := (hi.step (mask acts[k]) (iand_rg _)).now
          have hnw := (hi.step (mask acts[k]) (iand_rg _)).v.nw
          refine hK' _ ?_
          clear hK' K'
          simp (maxSteps := 1000000) (disch := first | omega | assumption) [og_at, og_put, og_at0, og_put0, sput, iand_eq]
          repeat' refine And.intro ?_ ?_
          all_goals first | omega | exact rfl | skip
          refine hK _ ?_
          clear hK K
          clear all
          refine q_block_n ?_
          refine q_then_n ?_
          refine awp_keep [0, 1, 4, 5, 6, 7] (by simp only [keepL_nil, keepL_cons, envOf_sel, envOf_nil, sel_t, sel_f, Nat.reduceBEq] <;> rfl) ?_
          refine awp_regionA (c := ⟨[], [], [], [], []⟩) (by simp only [lite_cons, lite_nil] <;> rfl) fun all hall K hK => ?_
          clear hall
          simp (maxSteps := 1000000) (disch := first | omega | assumption) [og_at, og_put, og_at0, og_put0, sput, iand_eq]
          repeat' refine And.intro ?_ ?_
          all_goals first | omega | exact rfl | skip
          refine hK _ ?_
          clear hK K
          clear all
          refine q_round (⟨k + 1, sdo s (mask acts[k]), max far ((sdo s (mask acts[k])).now + 1023)⟩) ?_ ?_ (weak_mkA rfl ?_ (by simp) (by simp))
          · exact ⟨by simp at *; omega, by simp at *; omega, hi.step _ (iand_rg _)⟩
          · try dsimp only
            omega
          · simp (maxSteps := 1000000) (disch := first | omega | assumption) [og_at, og_put, og_at0, og_put0, sput, iand_eq]
        · try simp at c4
          refine awp_exit ?_
          refine q_then_e ?_
          refine q_loop_e ?_
          refine q_block_e ?_
          refine q_then_n ?_
          refine awp_seq ?_
          refine awp_keep [1, 4, 5, 6] (by simp only [keepL_nil, keepL_cons, envOf_sel, envOf_nil, sel_t, sel_f, Nat.reduceBEq] <;> rfl) ?_
          refine awp_regionA (c := ⟨[], [], [], [], []⟩) (by simp only [lite_cons, lite_nil] <;> rfl) fun all hall K hK => ?_
          clear hall
          refine vcL_split 1 fun K' hK' => ?_
          simp (maxSteps := 1000000) (disch := first | omega | assumption) [og_at, og_put, og_at0, og_put0, sput, iand_eq]
          repeat' refine And.intro ?_ ?_
          all_goals first | omega | exact rfl | skip
          refine hK' _ ?_
          clear hK' K'
          simp only [List.drop_succ_cons, List.drop_zero]
          refine vcL_step fun K' hK' => ?_
          simp (maxSteps := 1000000) (disch := first | omega | assumption) [og_at, og_put, og_at0, og_put0, sput, iand_eq]
          refine Ct.mono (Ct.of_le (sframe_fn (σ.length + 4) (σ.length + 2) (σ.length + 1) σ.length (σ.length + 3) s _ (SO.lay σ s []) (hi.v.ok (by omega))) (by first | exact leArgs_of rfl | (refine leArgs_of ?_; simp; done) | (refine leArgs_of ?_; simp; rfl) | (simp [leArgs, leArg]; done)) rfl) ?_
          rintro _ _ ⟨hr9, hs9⟩
          subst hr9
          replace hs9 := hs9.symm
          subst hs9
          refine hK' _ ?_
          clear hK' K'
          simp only [vcL_nil]
          refine hK _ ?_
          clear hK K
          clear all
          refine q_then_n ?_
          refine awp_seq ?_
          refine awp_regionA (c := ⟨[], [], [], [], []⟩) (by simp only [lite_cons, lite_nil] <;> rfl) fun all hall K hK => ?_
          clear hall
          refine vcL_split 1 fun K' hK' => ?_
          simp (maxSteps := 1000000) (disch := first | omega | assumption) [og_at, og_put, og_at0, og_put0, sput, iand_eq]
          repeat' refine And.intro ?_ ?_
          all_goals first | omega | exact rfl | skip
          refine hK' _ ?_
          clear hK' K'
          simp only [List.drop_succ_cons, List.drop_zero]
          refine vcL_step fun K' hK' => ?_
          simp (maxSteps := 1000000) (disch := first | omega | assumption) [og_at, og_put, og_at0, og_put0, sput, iand_eq]
          refine Ct.mono (Ct.of_le (sframe_fn (σ.length + 4) (σ.length + 2) (σ.length + 1) σ.length (σ.length + 3) (sframe s) _ (SO.lay σ (sframe s) []) (hi.v.frame.ok (by omega))) (by first | exact leArgs_of rfl | (refine leArgs_of ?_; simp; done) | (refine leArgs_of ?_; simp; rfl) | (simp [leArgs, leArg]; done)) rfl) ?_
          rintro _ _ ⟨hr9, hs9⟩
          subst hr9
          replace hs9 := hs9.symm
          subst hs9
          refine hK' _ ?_
          clear hK' K'
          simp only [vcL_nil]
          refine hK _ ?_
          clear hK K
          clear all
          refine q_then_n ?_
          refine awp_seq ?_
          refine awp_regionA (c := ⟨[], [], [], [], []⟩) (by simp only [lite_cons, lite_nil] <;> rfl) fun all hall K hK => ?_
          clear hall
          simp (maxSteps := 1000000) (disch := first | omega | assumption) [og_at, og_put, og_at0, og_put0, sput, iand_eq]
          repeat' refine And.intro ?_ ?_
          all_goals first | omega | exact rfl | skip
          refine hK _ ?_
          clear hK K
          clear all
          refine q_then_n ?_
          refine awp_seq ?_
          refine awp_seq ?_
          refine awp_keep [4, 5, 6] (by simp only [keepL_nil, keepL_cons, envOf_sel, envOf_nil, sel_t, sel_f, Nat.reduceBEq] <;> rfl) ?_
          refine awp_regionA (c := ⟨[], [], [], [], []⟩) (by simp only [lite_cons, lite_nil] <;> rfl) fun all hall K hK => ?_
          clear hall
          simp (maxSteps := 1000000) (disch := first | omega | assumption) [og_at, og_put, og_at0, og_put0, sput, iand_eq]
          repeat' refine And.intro ?_ ?_
          all_goals first | omega | exact rfl | skip
          refine hK _ ?_
          clear hK K
          clear all
          refine q_then_n ?_
          refine awp_block ?_
          refine awp_keep [4, 5, 6, 52] (by simp only [keepL_nil, keepL_cons, envOf_sel, envOf_nil, sel_t, sel_f, Nat.reduceBEq] <;> rfl) ?_
          refine awp_loopM (fun (s : FSt2) => [(52, .d (.int s.n))]) (fun (s : FSt2) => []) (fun (s : FSt2) => [(σ.length + 1, dhp σ.length s.s.t.h), (σ.length + 2, dwh (σ.length + 1) s.s.t), (σ.length + 3, dqq s.s.q), (σ.length + 4, dss (σ.length + 2) (σ.length + 3) s.s)]) [4, 9, 10, 11, 52, 53, 54, 55, 56, 57, 58, 59, 60, 61, 62, 63, 64, 65, 66, 67, 68, 69, 70, 71, 72, 73, 74, 75, 76] (fun (s : FSt2) => SF s.n s.s (far + iand more)) (fun (s : FSt2) => s.s.t.h.ts.length) (⟨0, sframe (sframe s)⟩) (by simp <;> rfl) ?_ (by simp) (by simp [og_at, og_put, og_at0, og_put0]) ?_ ?_
          · simp
          · exact hi.out (by omega) _ (iand_rg _)
          rintro ⟨n, s2⟩ hj
          simp only [List.cons_append, List.nil_append, setL_nil, setL_cons, List.set_cons_zero, List.set_cons_succ]
          dsimp only at hj
          have hj1 := hj.len
          refine awp_seq ?_
          refine awp_regionA (c := ⟨[], [], [], [], []⟩) (by simp only [lite_cons, lite_nil] <;> rfl) fun all hall K hK => ?_
          clear hall
          simp (maxSteps := 1000000) (disch := first | omega | assumption) [og_at, og_put, og_at0, og_put0, sput, iand_eq]
          repeat' refine And.intro ?_ ?_
          all_goals first | omega | exact rfl | skip
          refine hK _ ?_
          clear hK K
          clear all
          refine q_then_n ?_
          refine awp_seq ?_
          refine awp_ifB (by simp <;> rfl) ?_
          refine ⟨fun c5 => ?_, fun c5 => ?_⟩
          · try simp at c5
            refine awp_skip ?_
            refine q_then_n ?_
            refine awp_seq ?_
            refine awp_block ?_
            refine awp_seq ?_
            refine awp_regionA (c := ⟨[], [], [], [], []⟩) (by simp only [lite_cons, lite_nil] <;> rfl) fun all hall K hK => ?_
            clear hall
            simp (maxSteps := 1000000) (disch := first | omega | assumption) [og_at, og_put, og_at0, og_put0, sput, iand_eq]
            repeat' refine And.intro ?_ ?_
            all_goals first | omega | exact rfl | skip
            refine hK _ ?_
            clear hK K
            clear all
            refine q_then_n ?_
            refine awp_seq ?_
            refine awp_regionA (c := ⟨[], [], [], [], []⟩) (by simp only [lite_cons, lite_nil] <;> rfl) fun all hall K hK => ?_
            clear hall
            refine vcL_split 2 fun K' hK' => ?_
            simp (maxSteps := 1000000) (disch := first | omega | assumption) [og_at, og_put, og_at0, og_put0, sput, iand_eq]
            repeat' refine And.intro ?_ ?_
            all_goals first | omega | exact rfl | skip
            refine hK' _ ?_
            clear hK' K'
            simp only [List.drop_succ_cons, List.drop_zero]
            refine vcL_step fun K' hK' => ?_
            simp (maxSteps := 1000000) (disch := first | omega | assumption) [og_at, og_put, og_at0, og_put0, sput, iand_eq]
            refine Ct.mono (Ct.of_le (suntil_fn (σ.length + 4) (σ.length + 2) (σ.length + 1) σ.length (σ.length + 3) s2 (far + iand more) _ (SO.lay σ s2 []) (hj.v.ok (by omega))) (by first | exact leArgs_of rfl | (refine leArgs_of ?_; simp; done) | (refine leArgs_of ?_; simp; rfl) | (simp [leArgs, leArg]; done)) rfl) ?_
            rintro _ _ ⟨hr9, hs9⟩
            subst hr9
            replace hs9 := hs9.symm
            subst hs9
            refine hK' _ ?_
            clear hK' K'
            simp (maxSteps := 1000000) (disch := first | omega | assumption) [og_at, og_put, og_at0, og_put0, sput, iand_eq]
            repeat' refine And.intro ?_ ?_
            all_goals first | omega | exact rfl | skip
            refine hK _ ?_
            clear hK K
            clear all
            refine q_then_n ?_
            refine awp_seq ?_
            refine awp_keep [5, 6, 9, 11, 52] (by simp only [keepL_nil, keepL_cons, envOf_sel, envOf_nil, sel_t, sel_f, Nat.reduceBEq] <;> rfl) ?_
            refine awp_regionA (c := ⟨[], [], [], [], []⟩) (by simp only [lite_cons, lite_nil] <;> rfl) fun all hall K hK => ?_
            clear hall
            simp (maxSteps := 1000000) (disch := first | omega | assumption) [og_at, og_put, og_at0, og_put0, sput, iand_eq]
            repeat' refine And.intro ?_ ?_
            all_goals first | omega | exact rfl | skip
            refine hK _ ?_
            clear hK K
            clear all
            refine q_then_n ?_
            refine awp_ifB (by simp <;> rfl) ?_
            refine ⟨fun c6 => ?_, fun c6 => ?_⟩
            · try simp at c6
              refine awp_seq ?_
              refine awp_keep [5, 6, 9, 52] (by simp only [keepL_nil, keepL_cons, envOf_sel, envOf_nil, sel_t, sel_f, Nat.reduceBEq] <;> rfl) ?_
              refine awp_regionA (c := ⟨[], [], [], [], []⟩) (by simp only [lite_cons, lite_nil] <;> rfl) fun all hall K hK => ?_
              have ga3 : guardOf all 3 = some 66 := hall 3
              have ga9 : guardOf all 9 = some 72 := hall 9
              clear hall
              refine vcL_split 1 fun K' hK' => ?_
              simp (maxSteps := 1000000) (disch := first | omega | assumption) [og_at, og_put, og_at0, og_put0, sput, iand_eq, ga3, ga9]
              repeat' refine And.intro ?_ ?_
              all_goals first | omega | exact rfl | skip
              refine hK' _ ?_
              clear hK' K'
              simp only [List.drop_succ_cons, List.drop_zero]
              refine vcL_step fun K' hK' => ?_
              simp (maxSteps := 1000000) (disch := first | omega | assumption) [og_at, og_put, og_at0, og_put0, sput, iand_eq, ga3, ga9]
              refine Ct.mono (Ct.of_le (slen_fn (σ.length + 4) (σ.length + 2) (σ.length + 1) σ.length (σ.length + 3) (suntil s2 (far + iand more)) _ (SO.lay σ (suntil s2 (far + iand more)) []) ((hj.v.until (far + iand more)).ok (by omega))) (by first | exact leArgs_of rfl | (refine leArgs_of ?_; simp; done) | (refine leArgs_of ?_; simp; rfl) | (simp [leArgs, leArg]; done)) rfl) ?_
              rintro _ _ ⟨hr9, hs9⟩
              subst hr9
              replace hs9 := hs9.symm
              subst hs9
              refine hK' _ ?_
              clear hK' K'
              refine vcL_split 2 fun K' hK' => ?_
              simp (maxSteps := 1000000) (disch := first | omega | assumption) [og_at, og_put, og_at0, og_put0, sput, iand_eq, ga3, ga9]
              repeat' refine And.intro ?_ ?_
              all_goals first | omega | exact rfl | skip
              refine hK' _ ?_
              clear hK' K'
              simp only [List.drop_succ_cons, List.drop_zero]
              refine vcL_bool 66 (by simp <;> rfl) ?_
              refine ⟨fun g7 => ?_, fun g7 => ?_⟩
              · try simp at g7
                refine vcL_split 1 fun K' hK' => ?_
                simp (maxSteps := 1000000) (disch := first | omega | assumption) [og_at, og_put, og_at0, og_put0, sput, iand_eq, ga3, ga9]
                repeat' refine And.intro ?_ ?_
                all_goals first | omega | exact rfl | skip
                refine hK' _ ?_
                clear hK' K'
                simp only [List.drop_succ_cons, List.drop_zero]
                refine vcL_gt ga3 (by simp <;> rfl) rfl fun K' hK' => ?_
                simp (maxSteps := 1000000) (disch := first | omega | assumption) [og_at, og_put, og_at0, og_put0, sput, iand_eq, ga3, ga9]
                refine Ct.mono (Ct.of_le (snow_fn (σ.length + 4) (σ.length + 2) (σ.length + 1) σ.length (σ.length + 3) (suntil s2 (far + iand more)) _ (SO.lay σ (suntil s2 (far + iand more)) []) ((hj.v.until (far + iand more)).ok (by omega))) (by first | exact leArgs_of rfl | (refine leArgs_of ?_; simp; done) | (refine leArgs_of ?_; simp; rfl) | (simp [leArgs, leArg]; done)) rfl) ?_
                rintro _ _ ⟨hr9, hs9⟩
                subst hr9
                replace hs9 := hs9.symm
                subst hs9
                refine hK' _ ?_
                clear hK' K'
                refine vcL_split 4 fun K' hK' => ?_
                simp (maxSteps := 1000000) (disch := first | omega | assumption) [og_at, og_put, og_at0, og_put0, sput, iand_eq, ga3, ga9]
                repeat' refine And.intro ?_ ?_
                all_goals first | omega | exact rfl | skip
                refine hK' _ ?_
                clear hK' K'
                simp only [List.drop_succ_cons, List.drop_zero]
                refine vcL_bool 72 (by simp <;> rfl) ?_
                refine ⟨fun g8 => ?_, fun g8 => ?_⟩
                · try simp at g8
                  simp (maxSteps := 1000000) (disch := first | omega | assumption) [og_at, og_put, og_at0, og_put0, sput, iand_eq, ga3, ga9]
                  repeat' refine And.intro ?_ ?_
                  all_goals first | omega | exact rfl | skip
                  refine hK _ ?_
                  clear hK K
                  clear ga3 ga9
                  clear all
                  refine q_then_n ?_
                  refine awp_ret ?_
                  refine q_block_r ?_
                  refine q_then_r ?_
                  refine q_loop_r ?_
                  refine q_block_r ?_
                  refine q_then_r ?_
                  simp [endQ]
                  omega
                · try simp at g8
                  exact absurd (hj.done c6).2 g8
              · try simp at g7
                exact absurd (hj.done c6).1 g7
            · try simp at c6
              refine awp_skip ?_
              refine q_block_n ?_
              refine q_then_n ?_
              refine awp_regionA (c := ⟨[], [], [], [], []⟩) (by simp only [lite_cons, lite_nil] <;> rfl) fun all hall K hK => ?_
              clear hall
              simp (maxSteps := 1000000) (disch := first | omega | assumption) [og_at, og_put, og_at0, og_put0, sput, iand_eq]
              repeat' refine And.intro ?_ ?_
              all_goals first | omega | exact rfl | skip
              refine hK _ ?_
              clear hK K
              clear all
              refine q_round (⟨n + 1, suntil s2 (far + iand more)⟩) ?_ ?_ (weak_mkA rfl ?_ (by simp) (by simp))
              · exact (hj.next (by assumption)).1
              · have hz := (wdue_sub hj.v.wi (sclip s2 (far + iand more))).2.2 (by assumption)
                simp only [suntil]
                omega
              · simp (maxSteps := 1000000) (disch := first | omega | assumption) [og_at, og_put, og_at0, og_put0, sput, iand_eq]
          · try simp at c5
            exfalso; omega
      · try simp at g3
        simp (maxSteps := 1000000) (disch := first | omega | assumption) [og_at, og_put, og_at0, og_put0, sput, iand_eq, ga4]
        repeat' refine And.intro ?_ ?_
        all_goals first | omega | exact rfl | skip
        refine hK _ ?_
        clear hK K
        clear ga4
        clear all
        refine q_then_n ?_
        refine awp_cond (t := false) (by simp) (fun h => by cases h) (fun _ => ?_)
        refine awp_exit ?_
        refine q_then_e ?_
        refine q_loop_e ?_
        refine q_block_e ?_
        refine q_then_n ?_
        refine awp_seq ?_
        refine awp_keep [1, 4, 5, 6] (by simp only [keepL_nil, keepL_cons, envOf_sel, envOf_nil, sel_t, sel_f, Nat.reduceBEq] <;> rfl) ?_
        refine awp_regionA (c := ⟨[], [], [], [], []⟩) (by simp only [lite_cons, lite_nil] <;> rfl) fun all hall K hK => ?_
        clear hall
        refine vcL_split 1 fun K' hK' => ?_
        simp (maxSteps := 1000000) (disch := first | omega | assumption) [og_at, og_put, og_at0, og_put0, sput, iand_eq]
        repeat' refine And.intro ?_ ?_
        all_goals first | omega | exact rfl | skip
        refine hK' _ ?_
        clear hK' K'
        simp only [List.drop_succ_cons, List.drop_zero]
        refine vcL_step fun K' hK' => ?_
        simp (maxSteps := 1000000) (disch := first | omega | assumption) [og_at, og_put, og_at0, og_put0, sput, iand_eq]
        refine Ct.mono (Ct.of_le (sframe_fn (σ.length + 4) (σ.length + 2) (σ.length + 1) σ.length (σ.length + 3) s _ (SO.lay σ s []) (hi.v.ok (by omega))) (by first | exact leArgs_of rfl | (refine leArgs_of ?_; simp; done) | (refine leArgs_of ?_; simp; rfl) | (simp [leArgs, leArg]; done)) rfl) ?_
        rintro _ _ ⟨hr9, hs9⟩
        subst hr9
        replace hs9 := hs9.symm
        subst hs9
        refine hK' _ ?_
        clear hK' K'
        simp only [vcL_nil]
        refine hK _ ?_
        clear hK K
        clear all
        refine q_then_n ?_
        refine awp_seq ?_
        refine awp_regionA (c := ⟨[], [], [], [], []⟩) (by simp only [lite_cons, lite_nil] <;> rfl) fun all hall K hK => ?_
        clear hall
        refine vcL_split 1 fun K' hK' => ?_
        simp (maxSteps := 1000000) (disch := first | omega | assumption) [og_at, og_put, og_at0, og_put0, sput, iand_eq]
        repeat' refine And.intro ?_ ?_
        all_goals first | omega | exact rfl | skip
        refine hK' _ ?_
        clear hK' K'
        simp only [List.drop_succ_cons, List.drop_zero]
        refine vcL_step fun K' hK' => ?_
        simp (maxSteps := 1000000) (disch := first | omega | assumption) [og_at, og_put, og_at0, og_put0, sput, iand_eq]
        refine Ct.mono (Ct.of_le (sframe_fn (σ.length + 4) (σ.length + 2) (σ.length + 1) σ.length (σ.length + 3) (sframe s) _ (SO.lay σ (sframe s) []) (hi.v.frame.ok (by omega))) (by first | exact leArgs_of rfl | (refine leArgs_of ?_; simp; done) | (refine leArgs_of ?_; simp; rfl) | (simp [leArgs, leArg]; done)) rfl) ?_
        rintro _ _ ⟨hr9, hs9⟩
        subst hr9
        replace hs9 := hs9.symm
        subst hs9
        refine hK' _ ?_
        clear hK' K'
        simp only [vcL_nil]
        refine hK _ ?_
        clear hK K
        clear all
        refine q_then_n ?_
        refine awp_seq ?_
        refine awp_regionA (c := ⟨[], [], [], [], []⟩) (by simp only [lite_cons, lite_nil] <;> rfl) fun all hall K hK => ?_
        clear hall
        simp (maxSteps := 1000000) (disch := first | omega | assumption) [og_at, og_put, og_at0, og_put0, sput, iand_eq]
        repeat' refine And.intro ?_ ?_
        all_goals first | omega | exact rfl | skip
        refine hK _ ?_
        clear hK K
        clear all
        refine q_then_n ?_
        refine awp_seq ?_
        refine awp_seq ?_
        refine awp_keep [4, 5, 6] (by simp only [keepL_nil, keepL_cons, envOf_sel, envOf_nil, sel_t, sel_f, Nat.reduceBEq] <;> rfl) ?_
        refine awp_regionA (c := ⟨[], [], [], [], []⟩) (by simp only [lite_cons, lite_nil] <;> rfl) fun all hall K hK => ?_
        clear hall
        simp (maxSteps := 1000000) (disch := first | omega | assumption) [og_at, og_put, og_at0, og_put0, sput, iand_eq]
        repeat' refine And.intro ?_ ?_
        all_goals first | omega | exact rfl | skip
        refine hK _ ?_
        clear hK K
        clear all
        refine q_then_n ?_
        refine awp_block ?_
        refine awp_keep [4, 5, 6, 52] (by simp only [keepL_nil, keepL_cons, envOf_sel, envOf_nil, sel_t, sel_f, Nat.reduceBEq] <;> rfl) ?_
        refine awp_loopM (fun (s : FSt2) => [(52, .d (.int s.n))]) (fun (s : FSt2) => []) (fun (s : FSt2) => [(σ.length + 1, dhp σ.length s.s.t.h), (σ.length + 2, dwh (σ.length + 1) s.s.t), (σ.length + 3, dqq s.s.q), (σ.length + 4, dss (σ.length + 2) (σ.length + 3) s.s)]) [4, 9, 10, 11, 52, 53, 54, 55, 56, 57, 58, 59, 60, 61, 62, 63, 64, 65, 66, 67, 68, 69, 70, 71, 72, 73, 74, 75, 76] (fun (s : FSt2) => SF s.n s.s (far + iand more)) (fun (s : FSt2) => s.s.t.h.ts.length) (⟨0, sframe (sframe s)⟩) (by simp <;> rfl) ?_ (by simp) (by simp [og_at, og_put, og_at0, og_put0]) ?_ ?_
        · simp
        · exact hi.out (by omega) _ (iand_rg _)
        rintro ⟨n, s2⟩ hj
        simp only [List.cons_append, List.nil_append, setL_nil, setL_cons, List.set_cons_zero, List.set_cons_succ]
        dsimp only at hj
        have hj1 := hj.len
        refine awp_seq ?_
        refine awp_regionA (c := ⟨[], [], [], [], []⟩) (by simp only [lite_cons, lite_nil] <;> rfl) fun all hall K hK => ?_
        clear hall
        simp (maxSteps := 1000000) (disch := first | omega | assumption) [og_at, og_put, og_at0, og_put0, sput, iand_eq]
        repeat' refine And.intro ?_ ?_
        all_goals first | omega | exact rfl | skip
        refine hK _ ?_
        clear hK K
        clear all
        refine q_then_n ?_
        refine awp_seq ?_
        refine awp_ifB (by simp <;> rfl) ?_
        refine ⟨fun c9 => ?_, fun c9 => ?_⟩
        · try simp at c9
          refine awp_skip ?_
          refine q_then_n ?_
          refine awp_seq ?_
          refine awp_block ?_
          refine awp_seq ?_
          refine awp_regionA (c := ⟨[], [], [], [], []⟩) (by simp only [lite_cons, lite_nil] <;> rfl) fun all hall K hK => ?_
          clear hall
          simp (maxSteps := 1000000) (disch := first | omega | assumption) [og_at, og_put, og_at0, og_put0, sput, iand_eq]
          repeat' refine And.intro ?_ ?_
          all_goals first | omega | exact rfl | skip
          refine hK _ ?_
          clear hK K
          clear all
          refine q_then_n ?_
          refine awp_seq ?_
          refine awp_regionA (c := ⟨[], [], [], [], []⟩) (by simp only [lite_cons, lite_nil] <;> rfl) fun all hall K hK => ?_
          clear hall
          refine vcL_split 2 fun K' hK' => ?_
          simp (maxSteps := 1000000) (disch := first | omega | assumption) [og_at, og_put, og_at0, og_put0, sput, iand_eq]
          repeat' refine And.intro ?_ ?_
          all_goals first | omega | exact rfl | skip
          refine hK' _ ?_
          clear hK' K'
          simp only [List.drop_succ_cons, List.drop_zero]
          refine vcL_step fun K' hK' => ?_
          simp (maxSteps := 1000000) (disch := first | omega | assumption) [og_at, og_put, og_at0, og_put0, sput, iand_eq]
          refine Ct.mono (Ct.of_le (suntil_fn (σ.length + 4) (σ.length + 2) (σ.length + 1) σ.length (σ.length + 3) s2 (far + iand more) _ (SO.lay σ s2 []) (hj.v.ok (by omega))) (by first | exact leArgs_of rfl | (refine leArgs_of ?_; simp; done) | (refine leArgs_of ?_; simp; rfl) | (simp [leArgs, leArg]; done)) rfl) ?_
          rintro _ _ ⟨hr9, hs9⟩
          subst hr9
          replace hs9 := hs9.symm
          subst hs9
          refine hK' _ ?_
          clear hK' K'
          simp (maxSteps := 1000000) (disch := first | omega | assumption) [og_at, og_put, og_at0, og_put0, sput, iand_eq]
          repeat' refine And.intro ?_ ?_
          all_goals first | omega | exact rfl | skip
          refine hK _ ?_
          clear hK K
          clear all
          refine q_then_n ?_
          refine awp_seq ?_
          refine awp_keep [5, 6, 9, 11, 52] (by simp only [keepL_nil, keepL_cons, envOf_sel, envOf_nil, sel_t, sel_f, Nat.reduceBEq] <;> rfl) ?_
          refine awp_regionA (c := ⟨[], [], [], [], []⟩) (by simp only [lite_cons, lite_nil] <;> rfl) fun all hall K hK => ?_
          clear hall
          simp (maxSteps := 1000000) (disch := first | omega | assumption) [og_at, og_put, og_at0, og_put0, sput, iand_eq]
          repeat' refine And.intro ?_ ?_
          all_goals first | omega | exact rfl | skip
          refine hK _ ?_
          clear hK K
          clear all
          refine q_then_n ?_
          refine awp_ifB (by simp <;> rfl) ?_
          refine ⟨fun c10 => ?_, fun c10 => ?_⟩
          · try simp at c10
            refine awp_seq ?_
            refine awp_keep [5, 6, 9, 52] (by simp only [keepL_nil, keepL_cons, envOf_sel, envOf_nil, sel_t, sel_f, Nat.reduceBEq] <;> rfl) ?_
            refine awp_regionA (c := ⟨[], [], [], [], []⟩) (by simp only [lite_cons, lite_nil] <;> rfl) fun all hall K hK => ?_
            have ga3 : guardOf all 3 = some 66 := hall 3
            have ga9 : guardOf all 9 = some 72 := hall 9
            clear hall
            refine vcL_split 1 fun K' hK' => ?_
            simp (maxSteps := 1000000) (disch := first | omega | assumption) [og_at, og_put, og_at0, og_put0, sput, iand_eq, ga3, ga9]
            repeat' refine And.intro ?_ ?_
            all_goals first | omega | exact rfl | skip
            refine hK' _ ?_
            clear hK' K'
            simp only [List.drop_succ_cons, List.drop_zero]
            refine vcL_step fun K' hK' => ?_
            simp (maxSteps := 1000000) (disch := first | omega | assumption) [og_at, og_put, og_at0, og_put0, sput, iand_eq, ga3, ga9]
            refine Ct.mono (Ct.of_le (slen_fn (σ.length + 4) (σ.length + 2) (σ.length + 1) σ.length (σ.length + 3) (suntil s2 (far + iand more)) _ (SO.lay σ (suntil s2 (far + iand more)) []) ((hj.v.until (far + iand more)).ok (by omega))) (by first | exact leArgs_of rfl | (refine leArgs_of ?_; simp; done) | (refine leArgs_of ?_; simp; rfl) | (simp [leArgs, leArg]; done)) rfl) ?_
            rintro _ _ ⟨hr9, hs9⟩
            subst hr9
            replace hs9 := hs9.symm
            subst hs9
            refine hK' _ ?_
            clear hK' K'
            refine vcL_split 2 fun K' hK' => ?_
            simp (maxSteps := 1000000) (disch := first | omega | assumption) [og_at, og_put, og_at0, og_put0, sput, iand_eq, ga3, ga9]
            repeat' refine And.intro ?_ ?_
            all_goals first | omega | exact rfl | skip
            refine hK' _ ?_
            clear hK' K'
            simp only [List.drop_succ_cons, List.drop_zero]
            refine vcL_bool 66 (by simp <;> rfl) ?_
            refine ⟨fun g11 => ?_, fun g11 => ?_⟩
            · try simp at g11
              refine vcL_split 1 fun K' hK' => ?_
              simp (maxSteps := 1000000) (disch := first | omega | assumption) [og_at, og_put, og_at0, og_put0, sput, iand_eq, ga3, ga9]
              repeat' refine And.intro ?_ ?_
              all_goals first | omega | exact rfl | skip
              refine hK' _ ?_
              clear hK' K'
              simp only [List.drop_succ_cons, List.drop_zero]
              refine vcL_gt ga3 (by simp <;> rfl) rfl fun K' hK' => ?_
              simp (maxSteps := 1000000) (disch := first | omega | assumption) [og_at, og_put, og_at0, og_put0, sput, iand_eq, ga3, ga9]
              refine Ct.mono (Ct.of_le (snow_fn (σ.length + 4) (σ.length + 2) (σ.length + 1) σ.length (σ.length + 3) (suntil s2 (far + iand more)) _ (SO.lay σ (suntil s2 (far + iand more)) []) ((hj.v.until (far + iand more)).ok (by omega))) (by first | exact leArgs_of rfl | (refine leArgs_of ?_; simp; done) | (refine leArgs_of ?_; simp; rfl) | (simp [leArgs, leArg]; done)) rfl) ?_
              rintro _ _ ⟨hr9, hs9⟩
              subst hr9
              replace hs9 := hs9.symm
              subst hs9
              refine hK' _ ?_
              clear hK' K'
              refine vcL_split 4 fun K' hK' => ?_
              simp (maxSteps := 1000000) (disch := first | omega | assumption) [og_at, og_put, og_at0, og_put0, sput, iand_eq, ga3, ga9]
              repeat' refine And.intro ?_ ?_
              all_goals first | omega | exact rfl | skip
              refine hK' _ ?_
              clear hK' K'
              simp only [List.drop_succ_cons, List.drop_zero]
              refine vcL_bool 72 (by simp <;> rfl) ?_
              refine ⟨fun g12 => ?_, fun g12 => ?_⟩
              · try simp at g12
                simp (maxSteps := 1000000) (disch := first | omega | assumption) [og_at, og_put, og_at0, og_put0, sput, iand_eq, ga3, ga9]
                repeat' refine And.intro ?_ ?_
                all_goals first | omega | exact rfl | skip
                refine hK _ ?_
                clear hK K
                clear ga3 ga9
                clear all
                refine q_then_n ?_
                refine awp_ret ?_
                refine q_block_r ?_
                refine q_then_r ?_
                refine q_loop_r ?_
                refine q_block_r ?_
                refine q_then_r ?_
                simp [endQ]
                omega
              · try simp at g12
                exact absurd (hj.done c10).2 g12
            · try simp at g11
              exact absurd (hj.done c10).1 g11
          · try simp at c10
            refine awp_skip ?_
            refine q_block_n ?_
            refine q_then_n ?_
            refine awp_regionA (c := ⟨[], [], [], [], []⟩) (by simp only [lite_cons, lite_nil] <;> rfl) fun all hall K hK => ?_
            clear hall
            simp (maxSteps := 1000000) (disch := first | omega | assumption) [og_at, og_put, og_at0, og_put0, sput, iand_eq]
            repeat' refine And.intro ?_ ?_
            all_goals first | omega | exact rfl | skip
            refine hK _ ?_
            clear hK K
            clear all
            refine q_round (⟨n + 1, suntil s2 (far + iand more)⟩) ?_ ?_ (weak_mkA rfl ?_ (by simp) (by simp))
            · exact (hj.next (by assumption)).1
            · have hz := (wdue_sub hj.v.wi (sclip s2 (far + iand more))).2.2 (by assumption)
              simp only [suntil]
              omega
            · simp (maxSteps := 1000000) (disch := first | omega | assumption) [og_at, og_put, og_at0, og_put0, sput, iand_eq]
        · try simp at c9
          exfalso; omega

end Go.Proofs.Ytnlokhfcgaikiaa

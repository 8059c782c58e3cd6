/- Walks: contracts of functions. Written by a program of ours out of annotations. -/
import Derived.Test.YthieajadepfeoaaWkFrames
namespace Go.Proofs.Ythieajadepfeoaa
open Go Go.Vm
set_option maxRecDepth 20000
set_option linter.all false
set_option maxHeartbeats 8000000

structure Rel (q : Q2) (x : RQ) : Prop where
  ok : Q2ok q
  most : x.most = q.most
  last : x.last = q.last
  l : x.l = q.w0 ++ q.w1
  cap : qlen q ≤ q.most
theorem clip9 : clip 9 1 65536 = 9 := by decide
theorem qask9 : qask ⟨9, 0, [], []⟩ ⟨1, 0⟩ = (⟨9, 1, [], [⟨1, 2, ⟨1, 0⟩⟩]⟩, 1, 0) := by decide

-- scrim/scrimlaw17.awake
theorem awake_fn  (σ : List (List D))  : Ct Try.prog 21 [] σ (fun r σ' => r = .bool true ∧ σ' = σ ++ [dqq ⟨9, 1, [], []⟩]) := by
  refine fn_start (rs := [.tmp 0]) Try.func21 rfl rfl Try.ntmps21 Try.results21 (by simp) ?_
  simp only [argEnv]
  refine awp_seq ?_
  refine awp_regionA (c := ⟨[], [], [], [], []⟩) (by simp only [lite_cons, lite_nil] <;> rfl) fun all hall K hK => ?_
  clear hall
  simp (maxSteps := 1000000) (disch := first | omega | assumption) [clip9, qnext, wdec, wdecs, og_last, og_setlast, og_last0, og_setlast0, og_last1, og_setlast1, og_last2, og_setlast2]
  repeat' refine And.intro ?_ ?_
  all_goals first | omega | exact rfl | skip
  refine hK _ ?_
  clear hK K
  clear all
  refine q_then_n ?_
  refine awp_seq ?_
  refine awp_regionA (c := ⟨[], [], [], [], []⟩) (by simp only [lite_cons, lite_nil] <;> rfl) fun all hall K hK => ?_
  clear hall
  refine vcL_step fun K' hK' => ?_
  simp (maxSteps := 1000000) (disch := first | omega | assumption) [clip9, qnext, wdec, wdecs, og_last, og_setlast, og_last0, og_setlast0, og_last1, og_setlast1, og_last2, og_setlast2]
  refine Ct.mono (Ct.of_le (qnew_fn 9 _) (by first | exact leArgs_of rfl | (refine leArgs_of ?_; simp; done) | (refine leArgs_of ?_; simp; rfl) | (simp [leArgs, leArg]; done)) rfl) ?_
  rintro _ _ ⟨hr9, hs9⟩
  subst hr9
  replace hs9 := hs9.symm
  subst hs9
  rw [clip9]
  refine hK' _ ?_
  clear hK' K'
  simp (maxSteps := 1000000) (disch := first | omega | assumption) [clip9, qnext, wdec, wdecs, og_last, og_setlast, og_last0, og_setlast0, og_last1, og_setlast1, og_last2, og_setlast2]
  repeat' refine And.intro ?_ ?_
  all_goals first | omega | exact rfl | skip
  refine hK _ ?_
  clear hK K
  clear all
  refine q_then_n ?_
  refine awp_seq ?_
  refine awp_seq ?_
  refine awp_regionA (c := ⟨[], [], [], [], []⟩) (by simp only [lite_cons, lite_nil] <;> rfl) fun all hall K hK => ?_
  clear hall
  simp (maxSteps := 1000000) (disch := first | omega | assumption) [clip9, qnext, wdec, wdecs, og_last, og_setlast, og_last0, og_setlast0, og_last1, og_setlast1, og_last2, og_setlast2]
  repeat' refine And.intro ?_ ?_
  all_goals first | omega | exact rfl | skip
  refine hK _ ?_
  clear hK K
  clear all
  refine q_then_n ?_
  refine awp_ifB (by simp <;> rfl) ?_
  refine ⟨fun c1 => ?_, fun c1 => ?_⟩
  · simp at c1
  · try simp at c1
    refine awp_skip ?_
    refine q_then_n ?_
    refine awp_seq ?_
    refine awp_regionA (c := ⟨[], [], [], [], []⟩) (by simp only [lite_cons, lite_nil] <;> rfl) fun all hall K hK => ?_
    clear hall
    refine vcL_split 2 fun K' hK' => ?_
    simp (maxSteps := 1000000) (disch := first | omega | assumption) [clip9, qnext, wdec, wdecs, og_last, og_setlast, og_last0, og_setlast0, og_last1, og_setlast1, og_last2, og_setlast2]
    repeat' refine And.intro ?_ ?_
    all_goals first | omega | exact rfl | skip
    refine hK' _ ?_
    clear hK' K'
    simp only [List.drop_succ_cons, List.drop_zero]
    refine vcL_step fun K' hK' => ?_
    simp (maxSteps := 1000000) (disch := first | omega | assumption) [clip9, qnext, wdec, wdecs, og_last, og_setlast, og_last0, og_setlast0, og_last1, og_setlast1, og_last2, og_setlast2]
    refine Ct.mono (Ct.of_le (qask_fn σ.length ⟨9, 0, [], []⟩ ⟨1, 0⟩ _ (by simp) ⟨by simp, by simp, by simp, by simp, by simp⟩) (by first | exact leArgs_of rfl | (refine leArgs_of ?_; simp; done) | (refine leArgs_of ?_; simp; rfl) | (simp [leArgs, leArg]; done)) rfl) ?_
    rintro _ _ ⟨hr9, hs9⟩
    subst hr9
    replace hs9 := hs9.symm
    subst hs9
    simp only [qask9]
    refine hK' _ ?_
    clear hK' K'
    simp (maxSteps := 1000000) (disch := first | omega | assumption) [clip9, qnext, wdec, wdecs, og_last, og_setlast, og_last0, og_setlast0, og_last1, og_setlast1, og_last2, og_setlast2]
    repeat' refine And.intro ?_ ?_
    all_goals first | omega | exact rfl | skip
    refine hK _ ?_
    clear hK K
    clear all
    refine q_then_n ?_
    refine awp_seq ?_
    refine awp_keep [0, 1, 2, 3] (by simp only [keepL_nil, keepL_cons, envOf_sel, envOf_nil, sel_t, sel_f, Nat.reduceBEq] <;> rfl) ?_
    refine awp_regionA (c := ⟨[], [], [], [], []⟩) (by simp only [lite_cons, lite_nil] <;> rfl) fun all hall K hK => ?_
    clear hall
    refine vcL_split 1 fun K' hK' => ?_
    simp (maxSteps := 1000000) (disch := first | omega | assumption) [clip9, qnext, wdec, wdecs, og_last, og_setlast, og_last0, og_setlast0, og_last1, og_setlast1, og_last2, og_setlast2]
    repeat' refine And.intro ?_ ?_
    all_goals first | omega | exact rfl | skip
    refine hK' _ ?_
    clear hK' K'
    simp only [List.drop_succ_cons, List.drop_zero]
    refine vcL_step fun K' hK' => ?_
    simp (maxSteps := 1000000) (disch := first | omega | assumption) [clip9, qnext, wdec, wdecs, og_last, og_setlast, og_last0, og_setlast0, og_last1, og_setlast1, og_last2, og_setlast2]
    refine Ct.mono (Ct.of_le (qframeS_fn σ.length ⟨9, 1, [], [⟨1, 2, ⟨1, 0⟩⟩]⟩ _ (by simp) ⟨by simp, by simp, by simp, by simp, by simp⟩) (by first | exact leArgs_of rfl | (refine leArgs_of ?_; simp; done) | (refine leArgs_of ?_; simp; rfl) | (simp [leArgs, leArg]; done)) rfl) ?_
    rintro _ _ ⟨hr9, hs9⟩
    subst hr9
    replace hs9 := hs9.symm
    subst hs9
    refine hK' _ ?_
    clear hK' K'
    simp (maxSteps := 1000000) (disch := first | omega | assumption) [clip9, qnext, wdec, wdecs, og_last, og_setlast, og_last0, og_setlast0, og_last1, og_setlast1, og_last2, og_setlast2]
    repeat' refine And.intro ?_ ?_
    all_goals first | omega | exact rfl | skip
    refine hK _ ?_
    clear hK K
    clear all
    refine q_then_n ?_
    refine awp_seq ?_
    refine awp_regionA (c := ⟨[], [], [], [], []⟩) (by simp only [lite_cons, lite_nil] <;> rfl) fun all hall K hK => ?_
    clear hall
    refine vcL_split 1 fun K' hK' => ?_
    simp (maxSteps := 1000000) (disch := first | omega | assumption) [clip9, qnext, wdec, wdecs, og_last, og_setlast, og_last0, og_setlast0, og_last1, og_setlast1, og_last2, og_setlast2]
    repeat' refine And.intro ?_ ?_
    all_goals first | omega | exact rfl | skip
    refine hK' _ ?_
    clear hK' K'
    simp only [List.drop_succ_cons, List.drop_zero]
    refine vcL_step fun K' hK' => ?_
    simp (maxSteps := 1000000) (disch := first | omega | assumption) [clip9, qnext, wdec, wdecs, og_last, og_setlast, og_last0, og_setlast0, og_last1, og_setlast1, og_last2, og_setlast2]
    refine Ct.mono (Ct.of_le (qframeS_fn σ.length ⟨9, 1, [⟨1, 1, ⟨1, 0⟩⟩], []⟩ _ (by simp) ⟨by simp, by simp, by simp, by simp, by simp⟩) (by first | exact leArgs_of rfl | (refine leArgs_of ?_; simp; done) | (refine leArgs_of ?_; simp; rfl) | (simp [leArgs, leArg]; done)) rfl) ?_
    rintro _ _ ⟨hr9, hs9⟩
    subst hr9
    replace hs9 := hs9.symm
    subst hs9
    refine hK' _ ?_
    clear hK' K'
    simp (maxSteps := 1000000) (disch := first | omega | assumption) [clip9, qnext, wdec, wdecs, og_last, og_setlast, og_last0, og_setlast0, og_last1, og_setlast1, og_last2, og_setlast2]
    repeat' refine And.intro ?_ ?_
    all_goals first | omega | exact rfl | skip
    refine hK _ ?_
    clear hK K
    clear all
    refine q_then_n ?_
    refine awp_seq ?_
    refine awp_keep [0, 1, 2, 3, 4, 5] (by simp only [keepL_nil, keepL_cons, envOf_sel, envOf_nil, sel_t, sel_f, Nat.reduceBEq] <;> rfl) ?_
    refine awp_regionA (c := ⟨[], [], [], [], []⟩) (by simp only [lite_cons, lite_nil] <;> rfl) fun all hall K hK => ?_
    have ga2 : guardOf all 2 = some 21 := hall 2
    have ga6 : guardOf all 6 = some 25 := hall 6
    have ga11 : guardOf all 11 = some 30 := hall 11
    have ga16 : guardOf all 16 = some 35 := hall 16
    have ga24 : guardOf all 24 = some 43 := hall 24
    clear hall
    refine vcL_split 3 fun K' hK' => ?_
    simp (maxSteps := 1000000) (disch := first | omega | assumption) [clip9, qnext, wdec, wdecs, og_last, og_setlast, og_last0, og_setlast0, og_last1, og_setlast1, og_last2, og_setlast2, ga2, ga6, ga11, ga16, ga24]
    repeat' refine And.intro ?_ ?_
    all_goals first | omega | exact rfl | skip
    refine hK' _ ?_
    clear hK' K'
    simp only [List.drop_succ_cons, List.drop_zero]
    refine vcL_bool 21 (by simp <;> rfl) ?_
    refine ⟨fun g2 => ?_, fun g2 => ?_⟩
    · try simp at g2
      refine vcL_split 4 fun K' hK' => ?_
      simp (maxSteps := 1000000) (disch := first | omega | assumption) [clip9, qnext, wdec, wdecs, og_last, og_setlast, og_last0, og_setlast0, og_last1, og_setlast1, og_last2, og_setlast2, ga2, ga6, ga11, ga16, ga24]
      repeat' refine And.intro ?_ ?_
      all_goals first | omega | exact rfl | skip
      refine hK' _ ?_
      clear hK' K'
      simp only [List.drop_succ_cons, List.drop_zero]
      refine vcL_bool 25 (by simp <;> rfl) ?_
      refine ⟨fun g3 => ?_, fun g3 => ?_⟩
      · try simp at g3
        refine vcL_split 5 fun K' hK' => ?_
        simp (maxSteps := 1000000) (disch := first | omega | assumption) [clip9, qnext, wdec, wdecs, og_last, og_setlast, og_last0, og_setlast0, og_last1, og_setlast1, og_last2, og_setlast2, ga2, ga6, ga11, ga16, ga24]
        repeat' refine And.intro ?_ ?_
        all_goals first | omega | exact rfl | skip
        refine hK' _ ?_
        clear hK' K'
        simp only [List.drop_succ_cons, List.drop_zero]
        refine vcL_bool 30 (by simp <;> rfl) ?_
        refine ⟨fun g4 => ?_, fun g4 => ?_⟩
        · try simp at g4
          refine vcL_split 5 fun K' hK' => ?_
          simp (maxSteps := 1000000) (disch := first | omega | assumption) [clip9, qnext, wdec, wdecs, og_last, og_setlast, og_last0, og_setlast0, og_last1, og_setlast1, og_last2, og_setlast2, ga2, ga6, ga11, ga16, ga24]
          repeat' refine And.intro ?_ ?_
          all_goals first | omega | exact rfl | skip
          refine hK' _ ?_
          clear hK' K'
          simp only [List.drop_succ_cons, List.drop_zero]
          refine vcL_bool 35 (by simp <;> rfl) ?_
          refine ⟨fun g5 => ?_, fun g5 => ?_⟩
          · try simp at g5
            refine vcL_split 8 fun K' hK' => ?_
            simp (maxSteps := 1000000) (disch := first | omega | assumption) [clip9, qnext, wdec, wdecs, og_last, og_setlast, og_last0, og_setlast0, og_last1, og_setlast1, og_last2, og_setlast2, ga2, ga6, ga11, ga16, ga24]
            repeat' refine And.intro ?_ ?_
            all_goals first | omega | exact rfl | skip
            refine hK' _ ?_
            clear hK' K'
            simp only [List.drop_succ_cons, List.drop_zero]
            refine vcL_bool 43 (by simp <;> rfl) ?_
            refine ⟨fun g6 => ?_, fun g6 => ?_⟩
            · try simp at g6
              refine vcL_split 1 fun K' hK' => ?_
              simp (maxSteps := 1000000) (disch := first | omega | assumption) [clip9, qnext, wdec, wdecs, og_last, og_setlast, og_last0, og_setlast0, og_last1, og_setlast1, og_last2, og_setlast2, ga2, ga6, ga11, ga16, ga24]
              repeat' refine And.intro ?_ ?_
              all_goals first | omega | exact rfl | skip
              refine hK' _ ?_
              clear hK' K'
              simp only [List.drop_succ_cons, List.drop_zero]
              refine vcL_gt ga24 (by simp <;> rfl) rfl fun K' hK' => ?_
              simp (maxSteps := 1000000) (disch := first | omega | assumption) [clip9, qnext, wdec, wdecs, og_last, og_setlast, og_last0, og_setlast0, og_last1, og_setlast1, og_last2, og_setlast2, ga2, ga6, ga11, ga16, ga24]
              refine Ct.mono (Ct.of_le (qlen_fn σ.length ⟨9, 1, [], []⟩ _ (by simp) ⟨by simp, by simp, by simp, by simp, by simp⟩) (by first | exact leArgs_of rfl | (refine leArgs_of ?_; simp; done) | (refine leArgs_of ?_; simp; rfl) | (simp [leArgs, leArg]; done)) rfl) ?_
              rintro _ _ ⟨hr9, hs9⟩
              subst hr9
              replace hs9 := hs9.symm
              subst hs9
              refine hK' _ ?_
              clear hK' K'
              simp (maxSteps := 1000000) (disch := first | omega | assumption) [clip9, qnext, wdec, wdecs, og_last, og_setlast, og_last0, og_setlast0, og_last1, og_setlast1, og_last2, og_setlast2, ga2, ga6, ga11, ga16, ga24]
              repeat' refine And.intro ?_ ?_
              all_goals first | omega | exact rfl | skip
              refine hK _ ?_
              clear hK K
              clear ga2 ga6 ga11 ga16 ga24
              clear all
              refine q_then_n ?_
              refine awp_ret ?_
              simp [endQ, qlen]
            · simp at g6
          · simp at g5
        · simp at g4
      · simp at g3
    · simp at g2

structure FAct where
  kind : Int
  n : Int
  job : Job
  deriving DecidableEq
@[simp] abbrev d_FAct (s : FAct) : D := .agg [.v (.int .i64 s.kind), .v (.int .i64 s.n), .v (.int .i64 s.job.kind), .v (.int .i64 s.job.node)]

def fdo (q : Q2) (a : FAct) : Q2 := if a.kind = 0 then (qask q a.job).1 else if a.kind = 1 then qcan q a.n 2 else qnext q
def rdo (x : RQ) (a : FAct) : RQ := if a.kind = 0 then (rask x a.job).1 else if a.kind = 1 then rcan x a.n else rnext x
def okdo (q : Q2) (x : RQ) (a : FAct) : Prop := if a.kind = 0 then (qask q a.job).2.1 = (rask x a.job).2.1 ∧ (qask q a.job).2.2 = (rask x a.job).2.2
  else if a.kind = 1 then (qlen (qcan q a.n 2) < qlen q ↔ (qdel a.n x.l).length < x.l.length) else wdecs q.w0 = rdue x.l
instance (q : Q2) (x : RQ) (a : FAct) : Decidable (okdo q x a) := by unfold okdo; infer_instance

-- scrim/scrimlaw17.do
theorem do_fn (m : Nat) (q : Q2) (x : RQ) (a : FAct) (σ : List (List D)) (hq : σ[m]? = some (dqq q)) (hk : Q2ok q) (hl : x.l.length ≤ 100000) (hn : 0 ≤ x.last ∧ x.last ≤ 1000000) (hw : ∀ w ∈ x.l, 1 ≤ w.left ∧ w.left ≤ 2) : Ct Try.prog 29 [.ref m 0, d_RQ x, d_FAct a] σ (fun r σ' => r = .tup [d_RQ (rdo x a), .bool (decide (okdo q x a))] ∧ σ' = σ.set m (dqq (fdo q a))) := by
  refine fn_start (rs := [.cell 6 57, .tmp 7]) Try.func29 rfl rfl Try.ntmps29 Try.results29 (by simp) ?_
  simp only [argEnv]
  refine awp_seq ?_
  refine awp_regionA (c := ⟨[], [4, 5], [], [], []⟩) (by simp only [lite_cons, lite_nil] <;> rfl) fun all hall K hK => ?_
  clear hall
  simp (maxSteps := 1000000) (disch := first | omega | assumption) [hq, og_get hq, og_app hq, og_app0 hq, og_set hq, og_set0 hq, og_last, og_setlast, og_last0, og_setlast0, og_last1, og_setlast1, og_last2, og_setlast2]
  repeat' refine And.intro ?_ ?_
  all_goals first | omega | exact rfl | skip
  refine hK _ ?_
  clear hK K
  clear all
  refine q_then_n ?_
  refine awp_seq ?_
  refine awp_seq ?_
  refine awp_regionA (c := ⟨[], [4, 5], [], [], []⟩) (by simp only [lite_cons, lite_nil] <;> rfl) fun all hall K hK => ?_
  clear hall
  simp (maxSteps := 1000000) (disch := first | omega | assumption) [hq, og_get hq, og_app hq, og_app0 hq, og_set hq, og_set0 hq, og_last, og_setlast, og_last0, og_setlast0, og_last1, og_setlast1, og_last2, og_setlast2]
  repeat' refine And.intro ?_ ?_
  all_goals first | omega | exact rfl | skip
  refine hK _ ?_
  clear hK K
  clear all
  refine q_then_n ?_
  refine awp_block ?_
  refine awp_seq ?_
  refine awp_regionA (c := ⟨[], [4, 5], [], [], []⟩) (by simp only [lite_cons, lite_nil] <;> rfl) fun all hall K hK => ?_
  clear hall
  simp (maxSteps := 1000000) (disch := first | omega | assumption) [hq, og_get hq, og_app hq, og_app0 hq, og_set hq, og_set0 hq, og_last, og_setlast, og_last0, og_setlast0, og_last1, og_setlast1, og_last2, og_setlast2]
  repeat' refine And.intro ?_ ?_
  all_goals first | omega | exact rfl | skip
  refine hK _ ?_
  clear hK K
  clear all
  refine q_then_n ?_
  refine awp_ifB (by simp <;> rfl) ?_
  refine ⟨fun c1 => ?_, fun c1 => ?_⟩
  · try simp at c1
    refine awp_seq ?_
    refine awp_regionA (c := ⟨[], [4, 5], [], [], []⟩) (by simp only [lite_cons, lite_nil] <;> rfl) fun all hall K hK => ?_
    clear hall
    refine vcL_split 3 fun K' hK' => ?_
    simp (maxSteps := 1000000) (disch := first | omega | assumption) [hq, og_get hq, og_app hq, og_app0 hq, og_set hq, og_set0 hq, og_last, og_setlast, og_last0, og_setlast0, og_last1, og_setlast1, og_last2, og_setlast2]
    repeat' refine And.intro ?_ ?_
    all_goals first | omega | exact rfl | skip
    refine hK' _ ?_
    clear hK' K'
    simp only [List.drop_succ_cons, List.drop_zero]
    refine vcL_step fun K' hK' => ?_
    simp (maxSteps := 1000000) (disch := first | omega | assumption) [hq, og_get hq, og_app hq, og_app0 hq, og_set hq, og_set0 hq, og_last, og_setlast, og_last0, og_setlast0, og_last1, og_setlast1, og_last2, og_setlast2]
    refine Ct.mono (Ct.of_le (qask_fn m q a.job _ hq hk) (by first | exact leArgs_of rfl | (refine leArgs_of ?_; simp; done) | (refine leArgs_of ?_; simp; rfl) | (simp [leArgs, leArg]; done)) rfl) ?_
    rintro _ _ ⟨hr9, hs9⟩
    subst hr9
    replace hs9 := hs9.symm
    subst hs9
    refine hK' _ ?_
    clear hK' K'
    simp (maxSteps := 1000000) (disch := first | omega | assumption) [hq, og_get hq, og_app hq, og_app0 hq, og_set hq, og_set0 hq, og_last, og_setlast, og_last0, og_setlast0, og_last1, og_setlast1, og_last2, og_setlast2]
    repeat' refine And.intro ?_ ?_
    all_goals first | omega | exact rfl | skip
    refine hK _ ?_
    clear hK K
    clear all
    refine q_then_n ?_
    refine awp_seq ?_
    refine awp_keep [0, 4, 5, 6, 7, 8, 9] (by simp only [keepL_nil, keepL_cons, envOf_sel, envOf_nil, sel_t, sel_f, Nat.reduceBEq] <;> rfl) ?_
    refine awp_regionA (c := ⟨[], [4, 5], [], [], []⟩) (by simp only [lite_cons, lite_nil] <;> rfl) fun all hall K hK => ?_
    clear hall
    refine vcL_split 3 fun K' hK' => ?_
    simp (maxSteps := 1000000) (disch := first | omega | assumption) [hq, og_get hq, og_app hq, og_app0 hq, og_set hq, og_set0 hq, og_last, og_setlast, og_last0, og_setlast0, og_last1, og_setlast1, og_last2, og_setlast2]
    repeat' refine And.intro ?_ ?_
    all_goals first | omega | exact rfl | skip
    refine hK' _ ?_
    clear hK' K'
    simp only [List.drop_succ_cons, List.drop_zero]
    refine vcL_step fun K' hK' => ?_
    simp (maxSteps := 1000000) (disch := first | omega | assumption) [hq, og_get hq, og_app hq, og_app0 hq, og_set hq, og_set0 hq, og_last, og_setlast, og_last0, og_setlast0, og_last1, og_setlast1, og_last2, og_setlast2]
    refine Ct.mono (Ct.of_le (rask_fn x a.job _ hl hn) (by first | exact leArgs_of rfl | (refine leArgs_of ?_; simp; done) | (refine leArgs_of ?_; simp; rfl) | (simp [leArgs, leArg]; done)) rfl) ?_
    rintro _ _ ⟨hr9, hs9⟩
    subst hr9
    replace hs9 := hs9.symm
    subst hs9
    refine hK' _ ?_
    clear hK' K'
    simp (maxSteps := 1000000) (disch := first | omega | assumption) [hq, og_get hq, og_app hq, og_app0 hq, og_set hq, og_set0 hq, og_last, og_setlast, og_last0, og_setlast0, og_last1, og_setlast1, og_last2, og_setlast2]
    repeat' refine And.intro ?_ ?_
    all_goals first | omega | exact rfl | skip
    refine hK _ ?_
    clear hK K
    clear all
    refine q_then_n ?_
    refine awp_seq ?_
    refine awp_keep [0, 4, 6, 7, 8, 9, 10, 11, 12] (by simp only [keepL_nil, keepL_cons, envOf_sel, envOf_nil, sel_t, sel_f, Nat.reduceBEq] <;> rfl) ?_
    refine awp_regionA (c := ⟨[], [4, 5], [], [], []⟩) (by simp only [lite_cons, lite_nil] <;> rfl) fun all hall K hK => ?_
    have ga4 : guardOf all 4 = some 40 := hall 4
    clear hall
    refine vcL_split 5 fun K' hK' => ?_
    simp (maxSteps := 1000000) (disch := first | omega | assumption) [hq, og_get hq, og_app hq, og_app0 hq, og_set hq, og_set0 hq, og_last, og_setlast, og_last0, og_setlast0, og_last1, og_setlast1, og_last2, og_setlast2, ga4]
    repeat' refine And.intro ?_ ?_
    all_goals first | omega | exact rfl | skip
    refine hK' _ ?_
    clear hK' K'
    simp only [List.drop_succ_cons, List.drop_zero]
    refine vcL_bool 40 (by simp <;> rfl) ?_
    refine ⟨fun g2 => ?_, fun g2 => ?_⟩
    · try simp at g2
      simp (maxSteps := 1000000) (disch := first | omega | assumption) [hq, og_get hq, og_app hq, og_app0 hq, og_set hq, og_set0 hq, og_last, og_setlast, og_last0, og_setlast0, og_last1, og_setlast1, og_last2, og_setlast2, ga4]
      repeat' refine And.intro ?_ ?_
      all_goals first | omega | exact rfl | skip
      refine hK _ ?_
      clear hK K
      clear ga4
      clear all
      refine q_then_n ?_
      refine awp_ret ?_
      refine q_block_r ?_
      refine q_then_r ?_
      simp [endQ, fdo, rdo, okdo, *]
    · try simp at g2
      simp (maxSteps := 1000000) (disch := first | omega | assumption) [hq, og_get hq, og_app hq, og_app0 hq, og_set hq, og_set0 hq, og_last, og_setlast, og_last0, og_setlast0, og_last1, og_setlast1, og_last2, og_setlast2, ga4]
      repeat' refine And.intro ?_ ?_
      all_goals first | omega | exact rfl | skip
      refine hK _ ?_
      clear hK K
      clear ga4
      clear all
      refine q_then_n ?_
      refine awp_ret ?_
      refine q_block_r ?_
      refine q_then_r ?_
      simp [endQ, fdo, rdo, okdo, *]
  · try simp at c1
    refine awp_seq ?_
    refine awp_regionA (c := ⟨[], [4, 5], [], [], []⟩) (by simp only [lite_cons, lite_nil] <;> rfl) fun all hall K hK => ?_
    clear hall
    simp (maxSteps := 1000000) (disch := first | omega | assumption) [hq, og_get hq, og_app hq, og_app0 hq, og_set hq, og_set0 hq, og_last, og_setlast, og_last0, og_setlast0, og_last1, og_setlast1, og_last2, og_setlast2]
    repeat' refine And.intro ?_ ?_
    all_goals first | omega | exact rfl | skip
    refine hK _ ?_
    clear hK K
    clear all
    refine q_then_n ?_
    refine awp_ifB (by simp <;> rfl) ?_
    refine ⟨fun c3 => ?_, fun c3 => ?_⟩
    · try simp at c3
      refine awp_seq ?_
      refine awp_regionA (c := ⟨[], [4, 5], [], [], []⟩) (by simp only [lite_cons, lite_nil] <;> rfl) fun all hall K hK => ?_
      clear hall
      refine vcL_split 3 fun K' hK' => ?_
      simp (maxSteps := 1000000) (disch := first | omega | assumption) [hq, og_get hq, og_app hq, og_app0 hq, og_set hq, og_set0 hq, og_last, og_setlast, og_last0, og_setlast0, og_last1, og_setlast1, og_last2, og_setlast2]
      repeat' refine And.intro ?_ ?_
      all_goals first | omega | exact rfl | skip
      refine hK' _ ?_
      clear hK' K'
      simp only [List.drop_succ_cons, List.drop_zero]
      refine vcL_step fun K' hK' => ?_
      simp (maxSteps := 1000000) (disch := first | omega | assumption) [hq, og_get hq, og_app hq, og_app0 hq, og_set hq, og_set0 hq, og_last, og_setlast, og_last0, og_setlast0, og_last1, og_setlast1, og_last2, og_setlast2]
      refine Ct.mono (Ct.of_le (rcan_fn x a.n _ hl hn) (by first | exact leArgs_of rfl | (refine leArgs_of ?_; simp; done) | (refine leArgs_of ?_; simp; rfl) | (simp [leArgs, leArg]; done)) rfl) ?_
      rintro _ _ ⟨hr9, hs9⟩
      subst hr9
      replace hs9 := hs9.symm
      subst hs9
      refine hK' _ ?_
      clear hK' K'
      simp (maxSteps := 1000000) (disch := first | omega | assumption) [hq, og_get hq, og_app hq, og_app0 hq, og_set hq, og_set0 hq, og_last, og_setlast, og_last0, og_setlast0, og_last1, og_setlast1, og_last2, og_setlast2]
      repeat' refine And.intro ?_ ?_
      all_goals first | omega | exact rfl | skip
      refine hK _ ?_
      clear hK K
      clear all
      refine q_then_n ?_
      refine awp_seq ?_
      refine awp_keep [0, 4, 5, 6, 7, 13, 14] (by simp only [keepL_nil, keepL_cons, envOf_sel, envOf_nil, sel_t, sel_f, Nat.reduceBEq] <;> rfl) ?_
      refine awp_drawA (c := ⟨[], [4, 5], [], [], []⟩) [.op ⟨true, false, false, false⟩, .op ⟨false, false, false, false⟩, .op ⟨false, false, false, false⟩, .op ⟨false, false, false, false⟩, .det, .op ⟨false, false, false, false⟩, .op ⟨false, false, false, false⟩, .op ⟨true, true, false, false⟩, .op ⟨false, false, false, false⟩] (by kernel_rfl) (by kernel_rfl) (by simp only [lite_cons, lite_nil] <;> rfl) fun all hall K hK => ?_
      clear hall
      refine vcDL_split 4 (by simp) fun K' hK' => ?_
      simp (maxSteps := 1000000) (disch := first | omega | assumption) [hq, og_get hq, og_app hq, og_app0 hq, og_set hq, og_set0 hq, og_last, og_setlast, og_last0, og_setlast0, og_last1, og_setlast1, og_last2, og_setlast2]
      repeat' refine And.intro ?_ ?_
      all_goals first | omega | exact rfl | skip
      refine hK' _ ?_
      clear hK' K'
      simp only [List.drop_succ_cons, List.drop_zero]
      refine vcDL_step fun K' hK' => ?_
      simp (maxSteps := 1000000) (disch := first | omega | assumption) [hq, og_get hq, og_app hq, og_app0 hq, og_set hq, og_set0 hq, og_last, og_setlast, og_last0, og_setlast0, og_last1, og_setlast1, og_last2, og_setlast2]
      refine ⟨_, _, Ct.of_le (qcancel_fn m q a.n _ hq hk) (by first | exact leArgs_of rfl | (refine leArgs_of ?_; simp; done) | (refine leArgs_of ?_; simp; rfl) | (simp [leArgs, leArg]; done)) rfl, ?_⟩
      refine hK' _ ?_
      clear hK' K'
      simp (maxSteps := 1000000) (disch := first | omega | assumption) [hq, og_get hq, og_app hq, og_app0 hq, og_set hq, og_set0 hq, og_last, og_setlast, og_last0, og_setlast0, og_last1, og_setlast1, og_last2, og_setlast2]
      repeat' refine And.intro ?_ ?_
      all_goals first | omega | exact rfl | skip
      refine hK _ ?_
      clear hK K
      clear all
      refine q_then_n ?_
      refine awp_ret ?_
      refine q_block_r ?_
      refine q_then_r ?_
      simp [endQ, fdo, rdo, okdo, *]
    · try simp at c3
      refine awp_skip ?_
      refine q_block_n ?_
      refine q_then_n ?_
      refine awp_seq ?_
      refine awp_regionA (c := ⟨[], [4, 5], [], [], []⟩) (by simp only [lite_cons, lite_nil] <;> rfl) fun all hall K hK => ?_
      clear hall
      refine vcL_split 1 fun K' hK' => ?_
      simp (maxSteps := 1000000) (disch := first | omega | assumption) [hq, og_get hq, og_app hq, og_app0 hq, og_set hq, og_set0 hq, og_last, og_setlast, og_last0, og_setlast0, og_last1, og_setlast1, og_last2, og_setlast2]
      repeat' refine And.intro ?_ ?_
      all_goals first | omega | exact rfl | skip
      refine hK' _ ?_
      clear hK' K'
      simp only [List.drop_succ_cons, List.drop_zero]
      refine vcL_step fun K' hK' => ?_
      simp (maxSteps := 1000000) (disch := first | omega | assumption) [hq, og_get hq, og_app hq, og_app0 hq, og_set hq, og_set0 hq, og_last, og_setlast, og_last0, og_setlast0, og_last1, og_setlast1, og_last2, og_setlast2]
      refine Ct.mono (Ct.of_le (rframe_fn x _ hl hn hw) (by first | exact leArgs_of rfl | (refine leArgs_of ?_; simp; done) | (refine leArgs_of ?_; simp; rfl) | (simp [leArgs, leArg]; done)) rfl) ?_
      rintro _ _ ⟨hr9, hs9⟩
      subst hr9
      replace hs9 := hs9.symm
      subst hs9
      refine hK' _ ?_
      clear hK' K'
      simp (maxSteps := 1000000) (disch := first | omega | assumption) [hq, og_get hq, og_app hq, og_app0 hq, og_set hq, og_set0 hq, og_last, og_setlast, og_last0, og_setlast0, og_last1, og_setlast1, og_last2, og_setlast2]
      repeat' refine And.intro ?_ ?_
      all_goals first | omega | exact rfl | skip
      refine hK _ ?_
      clear hK K
      clear all
      refine q_then_n ?_
      refine awp_seq ?_
      refine awp_keep [0, 6, 7, 15, 16] (by simp only [keepL_nil, keepL_cons, envOf_sel, envOf_nil, sel_t, sel_f, Nat.reduceBEq] <;> rfl) ?_
      refine awp_drawA (c := ⟨[], [4, 5], [], [], []⟩) [.op ⟨true, false, false, false⟩, .op ⟨false, false, false, false⟩, .det, .op ⟨false, false, false, false⟩, .pure, .op ⟨true, true, false, false⟩, .op ⟨false, false, false, false⟩] (by kernel_rfl) (by kernel_rfl) (by simp only [lite_cons, lite_nil] <;> rfl) fun all hall K hK => ?_
      clear hall
      refine vcDL_split 2 (by simp) fun K' hK' => ?_
      simp (maxSteps := 1000000) (disch := first | omega | assumption) [hq, og_get hq, og_app hq, og_app0 hq, og_set hq, og_set0 hq, og_last, og_setlast, og_last0, og_setlast0, og_last1, og_setlast1, og_last2, og_setlast2]
      repeat' refine And.intro ?_ ?_
      all_goals first | omega | exact rfl | skip
      refine hK' _ ?_
      clear hK' K'
      simp only [List.drop_succ_cons, List.drop_zero]
      refine vcDL_step fun K' hK' => ?_
      simp (maxSteps := 1000000) (disch := first | omega | assumption) [hq, og_get hq, og_app hq, og_app0 hq, og_set hq, og_set0 hq, og_last, og_setlast, og_last0, og_setlast0, og_last1, og_setlast1, og_last2, og_setlast2]
      refine ⟨_, _, Ct.of_le (qframeS_fn m q _ hq hk) (by first | exact leArgs_of rfl | (refine leArgs_of ?_; simp; done) | (refine leArgs_of ?_; simp; rfl) | (simp [leArgs, leArg]; done)) rfl, ?_⟩
      refine hK' _ ?_
      clear hK' K'
      refine vcDL_split 1 (by simp) fun K' hK' => ?_
      simp (maxSteps := 1000000) (disch := first | omega | assumption) [hq, og_get hq, og_app hq, og_app0 hq, og_set hq, og_set0 hq, og_last, og_setlast, og_last0, og_setlast0, og_last1, og_setlast1, og_last2, og_setlast2]
      repeat' refine And.intro ?_ ?_
      all_goals first | omega | exact rfl | skip
      refine hK' _ ?_
      clear hK' K'
      simp only [List.drop_succ_cons, List.drop_zero]
      refine vcDL_step fun K' hK' => ?_
      simp (maxSteps := 1000000) (disch := first | omega | assumption) [hq, og_get hq, og_app hq, og_app0 hq, og_set hq, og_set0 hq, og_last, og_setlast, og_last0, og_setlast0, og_last1, og_setlast1, og_last2, og_setlast2]
      refine ⟨_, fun σ => Ct.of_le (same_fn (wdecs q.w0) (rdue x.l) _ (by have := hk.h0; rw [wdecs_len]; omega) (by have := rdue_len x.l; omega)) (by first | exact leArgs_of rfl | (refine leArgs_of ?_; simp; done) | (refine leArgs_of ?_; simp; rfl) | (simp [leArgs, leArg]; done)) rfl, ?_⟩
      refine hK' _ ?_
      clear hK' K'
      simp (maxSteps := 1000000) (disch := first | omega | assumption) [hq, og_get hq, og_app hq, og_app0 hq, og_set hq, og_set0 hq, og_last, og_setlast, og_last0, og_setlast0, og_last1, og_setlast1, og_last2, og_setlast2]
      repeat' refine And.intro ?_ ?_
      all_goals first | omega | exact rfl | skip
      refine hK _ ?_
      clear hK K
      clear all
      refine q_then_n ?_
      refine awp_ret ?_
      simp [endQ, fdo, rdo, okdo, *]

structure FSt where
  k : Nat
  q : Q2
  x : RQ
structure Inv (k : Nat) (q : Q2) (x : RQ) : Prop where
  len : q.w0.length + q.w1.length ≤ k
  h2 : 0 ≤ q.last ∧ q.last ≤ k
  h3 : ∀ w ∈ q.w0, w.left = 1
  h4 : ∀ w ∈ q.w1, w.left = 2
  most : x.most = q.most
  last : x.last = q.last
  l : x.l = q.w0 ++ q.w1
  cap : qlen q ≤ q.most
theorem Inv.ok {k : Nat} {q : Q2} {x : RQ} (h : Inv k q x) (hk : k ≤ 1000) : Q2ok q := by
  obtain ⟨a, b, c, d, e, f, g, i⟩ := h
  exact ⟨by omega, by omega, by omega, c, d⟩
theorem Inv.xl {k : Nat} {q : Q2} {x : RQ} (h : Inv k q x) (hk : k ≤ 1000) : x.l.length ≤ 100000 := by
  have := h.len; rw [h.l, List.length_append]; omega
theorem Inv.xn {k : Nat} {q : Q2} {x : RQ} (h : Inv k q x) (hk : k ≤ 1000) : 0 ≤ x.last ∧ x.last ≤ 1000000 := by
  have := h.h2; rw [h.last]; omega
theorem Inv.xw {k : Nat} {q : Q2} {x : RQ} (h : Inv k q x) : ∀ w ∈ x.l, 1 ≤ w.left ∧ w.left ≤ 2 := by
  intro w hw
  rw [h.l] at hw
  rcases List.mem_append.1 hw with hw | hw
  · have := h.h3 w hw; omega
  · have := h.h4 w hw; omega
theorem Inv.qlen {k : Nat} {q : Q2} {x : RQ} (h : Inv k q x) : Go.Proofs.Ythieajadepfeoaa.qlen q = (x.l.length : Int) := by rw [h.l, List.length_append]; rfl
theorem Inv.mono {k k' : Nat} {q : Q2} {x : RQ} (h : Inv k q x) (hk : k ≤ k') : Inv k' q x := ⟨Nat.le_trans h.len hk, ⟨h.h2.1, by have := h.h2.2; omega⟩, h.h3, h.h4, h.most, h.last, h.l, h.cap⟩
theorem inv_new (x : Int) : Inv 0 ⟨clip x 1 65536, 0, [], []⟩ ⟨max 1 (min x 65536), 0, []⟩ := by
  refine ⟨by simp, by simp, by simp, by simp, by simp [clip], rfl, rfl, ?_⟩
  simp [qlen, clip]; omega
theorem qdel_app (n : Int) (a b : List Wt) : qdel n (a ++ b) = qdel n a ++ qdel n b := by simp [qdel]
theorem rdue_app (a b : List Wt) : rdue (a ++ b) = rdue a ++ rdue b := by simp [rdue]
theorem rstay_app (a b : List Wt) : rstay (a ++ b) = rstay a ++ rstay b := by simp [rstay]
theorem rdue_one {l : List Wt} (h : ∀ w ∈ l, w.left = 1) : rdue l = wdecs l ∧ rstay l = [] := by
  unfold rdue rstay wdecs
  constructor
  · rw [List.filter_eq_self]
    intro w hw
    obtain ⟨u, hu, rfl⟩ := List.mem_map.1 hw
    simp [wdec, h u hu]
  · rw [List.filter_eq_nil_iff]
    intro w hw
    obtain ⟨u, hu, rfl⟩ := List.mem_map.1 hw
    simp [wdec, h u hu]
theorem rdue_two {l : List Wt} (h : ∀ w ∈ l, w.left = 2) : rdue l = [] ∧ rstay l = wdecs l := by
  unfold rdue rstay wdecs
  constructor
  · rw [List.filter_eq_nil_iff]
    intro w hw
    obtain ⟨u, hu, rfl⟩ := List.mem_map.1 hw
    simp [wdec, h u hu]
  · rw [List.filter_eq_self]
    intro w hw
    obtain ⟨u, hu, rfl⟩ := List.mem_map.1 hw
    simp [wdec, h u hu]
theorem inv_step {k : Nat} {q : Q2} {x : RQ} (h : Inv k q x) (a : FAct) : Inv (k + 1) (fdo q a) (rdo x a) ∧ okdo q x a := by
  obtain ⟨hlen, h2, h3, h4, hm, hla, hl, hc⟩ := h
  have hq : qlen q = ((q.w0.length + q.w1.length : Nat) : Int) := rfl
  have hxl : (x.l.length : Int) = qlen q := by rw [hl, List.length_append, hq]
  unfold fdo rdo okdo
  by_cases k0 : a.kind = 0
  · simp only [k0, if_true]
    unfold qask rask
    rw [hxl, hm, hla]
    by_cases c : q.most ≤ qlen q
    · have c' : qlen q = q.most := by omega
      rw [if_pos c, if_pos c']
      exact ⟨⟨by dsimp only; omega, by dsimp only; omega, h3, h4, hm, hla, hl, hc⟩, rfl, rfl⟩
    · have c' : ¬ qlen q = q.most := by omega
      rw [if_neg c, if_neg c']
      refine ⟨⟨by simp; omega, by dsimp only; omega, h3, ?_, rfl, rfl, by simp [hl], ?_⟩, rfl, rfl⟩
      · intro w hw
        rcases List.mem_append.1 hw with hw | hw
        · exact h4 w hw
        · simp at hw; subst hw; rfl
      · simp only [qlen, List.length_append, List.length_singleton]; omega
  · by_cases k1 : a.kind = 1
    · rw [if_neg k0, if_pos k1, if_neg k0, if_pos k1, if_neg k0, if_pos k1]
      have a0 := qdel_len a.n q.w0
      have a1 := qdel_len a.n q.w1
      have e : qcan q a.n 2 = ⟨q.most, q.last, qdel a.n q.w0, qdel a.n q.w1⟩ := by simp [qcan]
      rw [e]
      refine ⟨⟨by dsimp only; omega, by dsimp only; omega, fun w hw => h3 w (List.mem_filter.1 hw).1, fun w hw => h4 w (List.mem_filter.1 hw).1, hm, hla, by simp only [rcan]; rw [hl, qdel_app], ?_⟩, ?_⟩
      · simp only [qlen]; omega
      · rw [hl, qdel_app]; simp only [qlen, List.length_append]; omega
    · rw [if_neg k0, if_neg k1, if_neg k0, if_neg k1, if_neg k0, if_neg k1]
      obtain ⟨r1, r2⟩ := rdue_one h3
      obtain ⟨r3, r4⟩ := rdue_two h4
      refine ⟨⟨?_, by simp only [qnext]; omega, ?_, by simp [qnext], hm, hla, ?_, ?_⟩, ?_⟩
      · simp [qnext]; omega
      · intro w hw
        obtain ⟨u, hu, rfl⟩ := List.mem_map.1 hw
        simp [wdec, h4 u hu]
      · simp only [rnext, qnext]; rw [hl, rstay_app, r2, r4]; simp [wdecs]
      · simp [qnext, qlen]; simp [qlen] at hc; omega
      · rw [hl, rdue_app, r1, r3, List.append_nil]

-- scrim/scrimlaw17.FramesPlay
theorem framesPlay_fn (most : Int) (acts : List FAct) (σ : List (List D)) (hl : acts.length ≤ 9223372036854775807) : Ct Try.prog 6 [D.int most, .sl false (acts.map d_FAct)] σ (fun r σ' => r = .bool true) := by
  refine fn_start (rs := [.tmp 4]) Try.func6 rfl rfl Try.ntmps6 Try.results6 (by simp) ?_
  simp only [argEnv]
  refine awp_seq ?_
  refine awp_regionA (c := ⟨[], [], [6], [], []⟩) (by simp only [lite_cons, lite_nil] <;> rfl) fun all hall K hK => ?_
  clear hall
  simp (maxSteps := 1000000) (disch := first | omega | assumption) [og_at, og_put, og_at0, og_put0]
  repeat' refine And.intro ?_ ?_
  all_goals first | omega | exact rfl | skip
  refine hK _ ?_
  clear hK K
  clear all
  refine q_then_n ?_
  refine awp_seq ?_
  refine awp_seq ?_
  refine awp_regionA (c := ⟨[], [], [6], [], []⟩) (by simp only [lite_cons, lite_nil] <;> rfl) fun all hall K hK => ?_
  clear hall
  refine vcL_step fun K' hK' => ?_
  simp (maxSteps := 1000000) (disch := first | omega | assumption) [og_at, og_put, og_at0, og_put0]
  refine Ct.mono (Ct.of_le (awake_fn _) (by first | exact leArgs_of rfl | (refine leArgs_of ?_; simp; done) | (refine leArgs_of ?_; simp; rfl) | (simp [leArgs, leArg]; done)) rfl) ?_
  rintro _ _ ⟨hr9, hs9⟩
  subst hr9
  replace hs9 := hs9.symm
  subst hs9
  refine hK' _ ?_
  clear hK' K'
  simp (maxSteps := 1000000) (disch := first | omega | assumption) [og_at, og_put, og_at0, og_put0]
  repeat' refine And.intro ?_ ?_
  all_goals first | omega | exact rfl | skip
  refine hK _ ?_
  clear hK K
  clear all
  refine q_then_n ?_
  refine awp_ifB (by simp <;> rfl) ?_
  refine ⟨fun c1 => ?_, fun c1 => ?_⟩
  · simp at c1
  · try simp at c1
    refine awp_skip ?_
    refine q_then_n ?_
    refine awp_seq ?_
    refine awp_regionA (c := ⟨[], [], [6], [], []⟩) (by simp only [lite_cons, lite_nil] <;> rfl) fun all hall K hK => ?_
    clear hall
    refine vcL_split 1 fun K' hK' => ?_
    simp (maxSteps := 1000000) (disch := first | omega | assumption) [og_at, og_put, og_at0, og_put0]
    repeat' refine And.intro ?_ ?_
    all_goals first | omega | exact rfl | skip
    refine hK' _ ?_
    clear hK' K'
    simp only [List.drop_succ_cons, List.drop_zero]
    refine vcL_step fun K' hK' => ?_
    simp (maxSteps := 1000000) (disch := first | omega | assumption) [og_at, og_put, og_at0, og_put0]
    refine Ct.mono (Ct.of_le (qnew_fn most _) (by first | exact leArgs_of rfl | (refine leArgs_of ?_; simp; done) | (refine leArgs_of ?_; simp; rfl) | (simp [leArgs, leArg]; done)) rfl) ?_
    rintro _ _ ⟨hr9, hs9⟩
    subst hr9
    replace hs9 := hs9.symm
    subst hs9
    refine hK' _ ?_
    clear hK' K'
    refine vcL_split 1 fun K' hK' => ?_
    simp (maxSteps := 1000000) (disch := first | omega | assumption) [og_at, og_put, og_at0, og_put0]
    repeat' refine And.intro ?_ ?_
    all_goals first | omega | exact rfl | skip
    refine hK' _ ?_
    clear hK' K'
    simp only [List.drop_succ_cons, List.drop_zero]
    refine vcL_step fun K' hK' => ?_
    simp (maxSteps := 1000000) (disch := first | omega | assumption) [og_at, og_put, og_at0, og_put0]
    refine Ct.mono (Ct.of_le (rnew_fn most _) (by first | exact leArgs_of rfl | (refine leArgs_of ?_; simp; done) | (refine leArgs_of ?_; simp; rfl) | (simp [leArgs, leArg]; done)) rfl) ?_
    rintro _ _ ⟨hr9, hs9⟩
    subst hr9
    replace hs9 := hs9.symm
    subst hs9
    refine hK' _ ?_
    clear hK' K'
    simp (maxSteps := 1000000) (disch := first | omega | assumption) [og_at, og_put, og_at0, og_put0]
    repeat' refine And.intro ?_ ?_
    all_goals first | omega | exact rfl | skip
    refine hK _ ?_
    clear hK K
    clear all
    refine q_then_n ?_
    refine awp_seq ?_
    refine awp_seq ?_
    refine awp_regionA (c := ⟨[], [], [6], [], []⟩) (by simp only [lite_cons, lite_nil] <;> rfl) fun all hall K hK => ?_
    clear hall
    simp (maxSteps := 1000000) (disch := first | omega | assumption) [og_at, og_put, og_at0, og_put0]
    repeat' refine And.intro ?_ ?_
    all_goals first | omega | exact rfl | skip
    refine hK _ ?_
    clear hK K
    clear all
    refine q_then_n ?_
    refine awp_ifB (by simp <;> rfl) ?_
    refine ⟨fun c2 => ?_, fun c2 => ?_⟩
    · simp at c2
    · try simp at c2
      refine awp_skip ?_
      refine q_then_n ?_
      refine awp_seq ?_
      refine awp_seq ?_
      refine awp_regionA (c := ⟨[], [], [6], [], []⟩) (by simp only [lite_cons, lite_nil] <;> rfl) fun all hall K hK => ?_
      clear hall
      simp (maxSteps := 1000000) (disch := first | omega | assumption) [og_at, og_put, og_at0, og_put0]
      repeat' refine And.intro ?_ ?_
      all_goals first | omega | exact rfl | skip
      refine hK _ ?_
      clear hK K
      clear all
      refine q_then_n ?_
      refine awp_block ?_
      refine awp_keep [1, 4, 5, 6, 7] (by simp only [keepL_nil, keepL_cons, envOf_sel, envOf_nil, sel_t, sel_f, Nat.reduceBEq] <;> rfl) ?_
      refine awp_loopM (fun (s : FSt) => [(7, .d (.int s.k))]) (fun (s : FSt) => []) (fun (s : FSt) => [(σ.length + 1, dqq s.q), (σ.length + 2, [D.int s.x.most, D.int s.x.last, .sl false (s.x.l.map d_Wt)])]) [4, 7, 8, 9, 18, 19, 20, 21, 22, 23, 24, 25, 26, 27, 28, 29, 30, 31, 32, 33, 34, 35, 36, 37, 38, 39, 40, 41, 42, 43, 44, 45, 46, 47, 48, 49, 50, 51, 52, 53, 54, 55, 56] (fun (s : FSt) => s.k ≤ acts.length ∧ s.k ≤ 80 ∧ Inv s.k s.q s.x) (fun (s : FSt) => acts.length - s.k) (⟨0, ⟨clip most 1 65536, 0, [], []⟩, ⟨max 1 (min most 65536), 0, []⟩⟩) (by simp <;> rfl) ?_ (by simp) (by simp [og_at, og_put, og_at0, og_put0]) ?_ ?_
      · simp
      · exact ⟨by simp, by simp, inv_new most⟩
      rintro ⟨k, q, x⟩ ⟨hk, hk80, hi⟩
      simp only [List.cons_append, List.nil_append, setL_nil, setL_cons, List.set_cons_zero, List.set_cons_succ]
      dsimp only at hk hk80 hi
      have hok := hi.ok (by omega)
      have hxl := hi.xl (by omega)
      have hxn := hi.xn (by omega)
      refine awp_seq ?_
      refine awp_seq ?_
      refine awp_regionA (c := ⟨[], [], [6], [], []⟩) (by simp only [lite_cons, lite_nil] <;> rfl) fun all hall K hK => ?_
      have ga4 : guardOf all 4 = some 22 := hall 4
      clear hall
      refine vcL_split 5 fun K' hK' => ?_
      simp (maxSteps := 1000000) (disch := first | omega | assumption) [og_at, og_put, og_at0, og_put0, ga4]
      repeat' refine And.intro ?_ ?_
      all_goals first | omega | exact rfl | skip
      refine hK' _ ?_
      clear hK' K'
      simp only [List.drop_succ_cons, List.drop_zero]
      refine vcL_bool 22 (by simp <;> rfl) ?_
      refine ⟨fun g3 => ?_, fun g3 => ?_⟩
      · try simp at g3
        simp (maxSteps := 1000000) (disch := first | omega | assumption) [og_at, og_put, og_at0, og_put0, ga4]
        repeat' refine And.intro ?_ ?_
        all_goals first | omega | exact rfl | skip
        refine hK _ ?_
        clear hK K
        clear ga4
        clear all
        refine q_then_n ?_
        refine awp_ifB (by simp <;> rfl) ?_
        refine ⟨fun c4 => ?_, fun c4 => ?_⟩
        · try simp at c4
          refine awp_skip ?_
          refine q_then_n ?_
          refine awp_seq ?_
          refine awp_block ?_
          refine awp_seq ?_
          refine awp_keep [1, 5, 6, 7] (by simp only [keepL_nil, keepL_cons, envOf_sel, envOf_nil, sel_t, sel_f, Nat.reduceBEq] <;> rfl) ?_
          refine awp_drawA (c := ⟨[], [], [6], [], []⟩) [.op ⟨false, false, false, false⟩, .op ⟨false, false, true, false⟩, .op ⟨false, false, false, false⟩, .op ⟨false, false, false, false⟩, .op ⟨false, false, false, false⟩, .op ⟨false, false, false, false⟩, .det, .op ⟨false, false, false, false⟩, .op ⟨false, false, false, false⟩, .op ⟨false, false, false, false⟩, .op ⟨true, true, false, false⟩, .op ⟨true, true, false, false⟩, .op ⟨false, false, false, false⟩] (by kernel_rfl) (by kernel_rfl) (by simp only [lite_cons, lite_nil] <;> rfl) fun all hall K hK => ?_
          clear hall
          refine vcDL_split 6 (by simp) fun K' hK' => ?_
          simp (maxSteps := 1000000) (disch := first | omega | assumption) [og_at, og_put, og_at0, og_put0]
          repeat' refine And.intro ?_ ?_
          all_goals first | omega | exact rfl | skip
          refine hK' _ ?_
          clear hK' K'
          simp only [List.drop_succ_cons, List.drop_zero]
          refine vcDL_step fun K' hK' => ?_
          simp (maxSteps := 1000000) (disch := first | omega | assumption) [og_at, og_put, og_at0, og_put0]
          refine ⟨_, _, Ct.of_le (do_fn (σ.length + 1) q x acts[k] _ (by simp [og_at, og_put, og_at0, og_put0]) hok hxl hxn hi.xw) (by first | exact leArgs_of rfl | (refine leArgs_of ?_; simp; done) | (refine leArgs_of ?_; simp; rfl) | (simp [leArgs, leArg]; done)) rfl, ?_⟩
          refine hK' _ ?_
          clear hK' K'
          simp (maxSteps := 1000000) (disch := first | omega | assumption) [og_at, og_put, og_at0, og_put0]
          repeat' refine And.intro ?_ ?_
          all_goals first | omega | exact rfl | skip
          refine hK _ ?_
          clear hK K
          clear all
          refine q_then_n ?_
          refine awp_seq ?_
          refine awp_keep [1, 5, 6, 7, 8, 9] (by simp only [keepL_nil, keepL_cons, envOf_sel, envOf_nil, sel_t, sel_f, Nat.reduceBEq] <;> rfl) ?_
          refine awp_regionA (c := ⟨[], [], [6], [], []⟩) (by simp only [lite_cons, lite_nil] <;> rfl) fun all hall K hK => ?_
          clear hall
          simp (maxSteps := 1000000) (disch := first | omega | assumption) [og_at, og_put, og_at0, og_put0]
          repeat' refine And.intro ?_ ?_
          all_goals first | omega | exact rfl | skip
          refine hK _ ?_
          clear hK K
          clear all
          refine q_then_n ?_
          refine awp_seq ?_
          refine awp_keep [1, 5, 6, 7, 9] (by simp only [keepL_nil, keepL_cons, envOf_sel, envOf_nil, sel_t, sel_f, Nat.reduceBEq] <;> rfl) ?_
          refine awp_drawA (c := ⟨[], [], [6], [], []⟩) [.op ⟨false, false, false, false⟩, .op ⟨false, false, false, false⟩, .op ⟨false, false, false, false⟩, .op ⟨false, false, false, false⟩, .read, .op ⟨false, false, false, false⟩, .op ⟨false, false, true, false⟩, .op ⟨false, false, false, false⟩, .op ⟨false, false, false, false⟩, .op ⟨false, false, false, false⟩, .op ⟨false, false, false, false⟩, .op ⟨false, false, false, false⟩, .read, .op ⟨false, false, false, false⟩, .op ⟨false, false, true, false⟩, .pure, .op ⟨false, false, false, false⟩, .op ⟨false, false, false, false⟩] (by kernel_rfl) (by kernel_rfl) (by simp only [lite_cons, lite_nil] <;> rfl) fun all hall K hK => ?_
          have ga2 : guardOf all 2 = some 41 := hall 2
          have ga10 : guardOf all 10 = some 49 := hall 10
          clear hall
          refine vcDL_split 3 (by simp) fun K' hK' => ?_
          simp (maxSteps := 1000000) (disch := first | omega | assumption) [og_at, og_put, og_at0, og_put0, ga2, ga10]
          repeat' refine And.intro ?_ ?_
          all_goals first | omega | exact rfl | skip
          refine hK' _ ?_
          clear hK' K'
          simp only [List.drop_succ_cons, List.drop_zero]
          refine vcDL_bool 41 (by simp <;> rfl) ?_
          refine ⟨fun g5 => ?_, fun g5 => ?_⟩
          · try simp at g5
            exact absurd (inv_step hi acts[k]).2 g5
          · try simp at g5
            refine vcDL_split 1 (by simp) fun K' hK' => ?_
            simp (maxSteps := 1000000) (disch := first | omega | assumption) [og_at, og_put, og_at0, og_put0, ga2, ga10]
            repeat' refine And.intro ?_ ?_
            all_goals first | omega | exact rfl | skip
            refine hK' _ ?_
            clear hK' K'
            simp only [List.drop_succ_cons, List.drop_zero]
            refine vcDL_gt ga2 (by simp <;> rfl) rfl fun K' hK' => ?_
            simp (maxSteps := 1000000) (disch := first | omega | assumption) [og_at, og_put, og_at0, og_put0, ga2, ga10]
            refine ⟨_, Ct.of_le (qlen_fn (σ.length + 1) (fdo q acts[k]) _ (by simp [og_at, og_put, og_at0, og_put0]) ((inv_step hi acts[k]).1.ok (by omega))) (by first | exact leArgs_of rfl | (refine leArgs_of ?_; simp; done) | (refine leArgs_of ?_; simp; rfl) | (simp [leArgs, leArg]; done)) rfl, ?_⟩
            refine hK' _ ?_
            clear hK' K'
            refine vcDL_split 6 (by simp) fun K' hK' => ?_
            simp (maxSteps := 1000000) (disch := first | omega | assumption) [og_at, og_put, og_at0, og_put0, ga2, ga10]
            repeat' refine And.intro ?_ ?_
            all_goals first | omega | exact rfl | skip
            refine hK' _ ?_
            clear hK' K'
            simp only [List.drop_succ_cons, List.drop_zero]
            refine vcDL_bool 49 (by simp <;> rfl) ?_
            refine ⟨fun g6 => ?_, fun g6 => ?_⟩
            · try simp at g6
              exact absurd (inv_step hi acts[k]).1.qlen g6
            · try simp at g6
              refine vcDL_split 1 (by simp) fun K' hK' => ?_
              simp (maxSteps := 1000000) (disch := first | omega | assumption) [og_at, og_put, og_at0, og_put0, ga2, ga10]
              repeat' refine And.intro ?_ ?_
              all_goals first | omega | exact rfl | skip
              refine hK' _ ?_
              clear hK' K'
              simp only [List.drop_succ_cons, List.drop_zero]
              refine vcDL_gt ga10 (by simp <;> rfl) rfl fun K' hK' => ?_
              simp (maxSteps := 1000000) (disch := first | omega | assumption) [og_at, og_put, og_at0, og_put0, ga2, ga10]
              refine ⟨_, Ct.of_le (qlist_fn (σ.length + 1) (fdo q acts[k]) _ (by simp [og_at, og_put, og_at0, og_put0]) ((inv_step hi acts[k]).1.ok (by omega))) (by first | exact leArgs_of rfl | (refine leArgs_of ?_; simp; done) | (refine leArgs_of ?_; simp; rfl) | (simp [leArgs, leArg]; done)) rfl, ?_⟩
              refine hK' _ ?_
              clear hK' K'
              refine vcDL_split 2 (by simp) fun K' hK' => ?_
              simp (maxSteps := 1000000) (disch := first | omega | assumption) [og_at, og_put, og_at0, og_put0, ga2, ga10]
              repeat' refine And.intro ?_ ?_
              all_goals first | omega | exact rfl | skip
              refine hK' _ ?_
              clear hK' K'
              simp only [List.drop_succ_cons, List.drop_zero]
              refine vcDL_gt ga10 (by simp <;> rfl) rfl fun K' hK' => ?_
              simp (maxSteps := 1000000) (disch := first | omega | assumption) [og_at, og_put, og_at0, og_put0, ga2, ga10]
              refine ⟨_, fun σ => Ct.of_le (same_fn ((fdo q acts[k]).w0 ++ (fdo q acts[k]).w1) (rdo x acts[k]).l _ (by have := (inv_step hi acts[k]).1.len; simp; omega) (by have := (inv_step hi acts[k]).1.xl (by omega); omega)) (by first | exact leArgs_of rfl | (refine leArgs_of ?_; simp; done) | (refine leArgs_of ?_; simp; rfl) | (simp [leArgs, leArg]; done)) rfl, ?_⟩
              refine hK' _ ?_
              clear hK' K'
              simp (maxSteps := 1000000) (disch := first | omega | assumption) [og_at, og_put, og_at0, og_put0, ga2, ga10]
              repeat' refine And.intro ?_ ?_
              all_goals first | omega | exact rfl | skip
              refine hK _ ?_
              clear hK K
              clear ga2 ga10
              clear all
              refine q_then_n ?_
              refine awp_ifB (by simp <;> rfl) ?_
              refine ⟨fun c7 => ?_, fun c7 => ?_⟩
              · try simp at c7
                exact absurd (inv_step hi acts[k]).1.l.symm c7
              · try simp at c7
                refine awp_skip ?_
                refine q_block_n ?_
                refine q_then_n ?_
                refine awp_keep [1, 5, 6, 7] (by simp only [keepL_nil, keepL_cons, envOf_sel, envOf_nil, sel_t, sel_f, Nat.reduceBEq] <;> rfl) ?_
                refine awp_regionA (c := ⟨[], [], [6], [], []⟩) (by simp only [lite_cons, lite_nil] <;> rfl) fun all hall K hK => ?_
                clear hall
                simp (maxSteps := 1000000) (disch := first | omega | assumption) [og_at, og_put, og_at0, og_put0]
                repeat' refine And.intro ?_ ?_
                all_goals first | omega | exact rfl | skip
                refine hK _ ?_
                clear hK K
                clear all
                refine q_round (⟨k + 1, fdo q acts[k], rdo x acts[k]⟩) ?_ ?_ (weak_mkA rfl ?_ (by simp) (by simp))
                · exact ⟨by simp at *; omega, by simp at *; omega, (inv_step hi _).1⟩
                · try dsimp only
                  omega
                · simp (maxSteps := 1000000) (disch := first | omega | assumption) [og_at, og_put, og_at0, og_put0]
        · try simp at c4
          refine awp_exit ?_
          refine q_then_e ?_
          refine q_loop_e ?_
          refine q_block_e ?_
          refine q_then_n ?_
          refine awp_seq ?_
          refine awp_keep [] (by simp only [keepL_nil, keepL_cons, envOf_sel, envOf_nil, sel_t, sel_f, Nat.reduceBEq] <;> rfl) ?_
          refine awp_regionA (c := ⟨[], [], [6], [], []⟩) (by simp only [lite_cons, lite_nil] <;> rfl) fun all hall K hK => ?_
          clear hall
          simp (maxSteps := 1000000) (disch := first | omega | assumption) [og_at, og_put, og_at0, og_put0]
          repeat' refine And.intro ?_ ?_
          all_goals first | omega | exact rfl | skip
          refine hK _ ?_
          clear hK K
          clear all
          refine q_then_n ?_
          refine awp_ret ?_
          simp [endQ]
      · try simp at g3
        simp (maxSteps := 1000000) (disch := first | omega | assumption) [og_at, og_put, og_at0, og_put0, ga4]
        repeat' refine And.intro ?_ ?_
        all_goals first | omega | exact rfl | skip
        refine hK _ ?_
        clear hK K
        clear ga4
        clear all
        refine q_then_n ?_
        refine awp_cond (t := false) (by simp) (fun h => by cases h) (fun _ => ?_)
        refine awp_exit ?_
        refine q_then_e ?_
        refine q_loop_e ?_
        refine q_block_e ?_
        refine q_then_n ?_
        refine awp_seq ?_
        refine awp_keep [] (by simp only [keepL_nil, keepL_cons, envOf_sel, envOf_nil, sel_t, sel_f, Nat.reduceBEq] <;> rfl) ?_
        refine awp_regionA (c := ⟨[], [], [6], [], []⟩) (by simp only [lite_cons, lite_nil] <;> rfl) fun all hall K hK => ?_
        clear hall
        simp (maxSteps := 1000000) (disch := first | omega | assumption) [og_at, og_put, og_at0, og_put0]
        repeat' refine And.intro ?_ ?_
        all_goals first | omega | exact rfl | skip
        refine hK _ ?_
        clear hK K
        clear all
        refine q_then_n ?_
        refine awp_ret ?_
        simp [endQ]

end Go.Proofs.Ythieajadepfeoaa

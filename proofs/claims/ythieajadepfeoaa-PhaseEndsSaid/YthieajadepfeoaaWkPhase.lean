/- Walks: contracts of functions. Written by a program of ours out of annotations. -/
import Derived.Test.YthieajadepfeoaaVmTab
import Derived.Test.YthieajadepfeoaaVm22
namespace Go.Proofs.Ythieajadepfeoaa
open Go Go.Vm
set_option maxRecDepth 20000
set_option linter.all false
set_option maxHeartbeats 8000000

structure Look where
  kind : Int
  move : Int
  DX : Int
  DY : Int
  deriving DecidableEq
@[simp] abbrev d_Look (s : Look) : D := .agg [.v (.int .i64 s.kind), .v (.int .i64 s.move), .v (.int .i64 s.DX), .v (.int .i64 s.DY)]

def entering (x0 : Look) : Bool := if x0.kind = 2 then true
  else decide (x0.kind = 3)
-- (scrim/dress.Look).Entering
theorem entering_fn (x0 : Look) (σ : List (List D))  : Ct Try.prog 49 [d_Look x0] σ (fun r σ' => r = .v (.bool (entering x0)) ∧ σ' = σ) := by
  refine fn_start (rs := [.tmp 2]) Try.func49 rfl rfl Try.ntmps49 Try.results49 (by simp) ?_
  simp only [argEnv]
  refine awp_seq ?_
  refine awp_regionA (c := ⟨[], [], []⟩) (by simp only [lite_cons, lite_nil] <;> rfl) fun all hall K hK => ?_
  clear hall
  simp (maxSteps := 1000000) (disch := first | omega | assumption)
  repeat' refine And.intro ?_ ?_
  all_goals first | omega | exact rfl | skip
  refine hK _ ?_
  clear hK K
  clear all
  refine q_then_n ?_
  refine awp_seq ?_
  refine awp_regionA (c := ⟨[], [], []⟩) (by simp only [lite_cons, lite_nil] <;> rfl) fun all hall K hK => ?_
  have ga3 : guardOf all 3 = some 6 := hall 3
  clear hall
  refine vcL_split 4 fun K' hK' => ?_
  simp (maxSteps := 1000000) (disch := first | omega | assumption) [ga3]
  repeat' refine And.intro ?_ ?_
  all_goals first | omega | exact rfl | skip
  refine hK' _ ?_
  clear hK' K'
  simp only [List.drop_succ_cons, List.drop_zero]
  refine vcL_bool 6 (by simp <;> rfl) ?_
  refine ⟨fun g1 => ?_, fun g1 => ?_⟩
  · try simp at g1
    all_goals try (exfalso; omega)
    all_goals
      simp (maxSteps := 1000000) (disch := first | omega | assumption) [ga3]
      repeat' refine And.intro ?_ ?_
      all_goals first | omega | exact rfl | skip
      refine hK _ ?_
      clear hK K
      clear ga3
      clear all
      refine q_then_n ?_
      refine awp_ret ?_
      first | (simp [endQ, entering, g1]; done) | (simp [endQ, entering]; done) | (simp [endQ]; unfold entering; (repeat' split) <;> first | (exfalso; omega) | (simp_all; done)) | (simp [endQ, entering, *]; done) | (simp_all [endQ, entering]; done) | (simp_all [endQ, entering]; omega) | (simp [endQ, entering] <;> split <;> omega)
  · try simp at g1
    all_goals try (exfalso; omega)
    all_goals
      simp (maxSteps := 1000000) (disch := first | omega | assumption) [ga3]
      repeat' refine And.intro ?_ ?_
      all_goals first | omega | exact rfl | skip
      refine hK _ ?_
      clear hK K
      clear ga3
      clear all
      refine q_then_n ?_
      refine awp_ret ?_
      first | (simp [endQ, entering, g1]; done) | (simp [endQ, entering]; done) | (simp [endQ]; unfold entering; (repeat' split) <;> first | (exfalso; omega) | (simp_all; done)) | (simp [endQ, entering, *]; done) | (simp_all [endQ, entering]; done) | (simp_all [endQ, entering]; omega) | (simp [endQ, entering] <;> split <;> omega)

def leaving (x0 : Look) : Bool := if x0.kind = 5 then true
  else decide (x0.kind = 6)
-- (scrim/dress.Look).Leaving
theorem leaving_fn (x0 : Look) (σ : List (List D))  : Ct Try.prog 50 [d_Look x0] σ (fun r σ' => r = .v (.bool (leaving x0)) ∧ σ' = σ) := by
  refine fn_start (rs := [.tmp 2]) Try.func50 rfl rfl Try.ntmps50 Try.results50 (by simp) ?_
  simp only [argEnv]
  refine awp_seq ?_
  refine awp_regionA (c := ⟨[], [], []⟩) (by simp only [lite_cons, lite_nil] <;> rfl) fun all hall K hK => ?_
  clear hall
  simp (maxSteps := 1000000) (disch := first | omega | assumption)
  repeat' refine And.intro ?_ ?_
  all_goals first | omega | exact rfl | skip
  refine hK _ ?_
  clear hK K
  clear all
  refine q_then_n ?_
  refine awp_seq ?_
  refine awp_regionA (c := ⟨[], [], []⟩) (by simp only [lite_cons, lite_nil] <;> rfl) fun all hall K hK => ?_
  have ga3 : guardOf all 3 = some 6 := hall 3
  clear hall
  refine vcL_split 4 fun K' hK' => ?_
  simp (maxSteps := 1000000) (disch := first | omega | assumption) [ga3]
  repeat' refine And.intro ?_ ?_
  all_goals first | omega | exact rfl | skip
  refine hK' _ ?_
  clear hK' K'
  simp only [List.drop_succ_cons, List.drop_zero]
  refine vcL_bool 6 (by simp <;> rfl) ?_
  refine ⟨fun g1 => ?_, fun g1 => ?_⟩
  · try simp at g1
    all_goals try (exfalso; omega)
    all_goals
      simp (maxSteps := 1000000) (disch := first | omega | assumption) [ga3]
      repeat' refine And.intro ?_ ?_
      all_goals first | omega | exact rfl | skip
      refine hK _ ?_
      clear hK K
      clear ga3
      clear all
      refine q_then_n ?_
      refine awp_ret ?_
      first | (simp [endQ, leaving, g1]; done) | (simp [endQ, leaving]; done) | (simp [endQ]; unfold leaving; (repeat' split) <;> first | (exfalso; omega) | (simp_all; done)) | (simp [endQ, leaving, *]; done) | (simp_all [endQ, leaving]; done) | (simp_all [endQ, leaving]; omega) | (simp [endQ, leaving] <;> split <;> omega)
  · try simp at g1
    all_goals try (exfalso; omega)
    all_goals
      simp (maxSteps := 1000000) (disch := first | omega | assumption) [ga3]
      repeat' refine And.intro ?_ ?_
      all_goals first | omega | exact rfl | skip
      refine hK _ ?_
      clear hK K
      clear ga3
      clear all
      refine q_then_n ?_
      refine awp_ret ?_
      first | (simp [endQ, leaving, g1]; done) | (simp [endQ, leaving]; done) | (simp [endQ]; unfold leaving; (repeat' split) <;> first | (exfalso; omega) | (simp_all; done)) | (simp [endQ, leaving, *]; done) | (simp_all [endQ, leaving]; done) | (simp_all [endQ, leaving]; omega) | (simp [endQ, leaving] <;> split <;> omega)

structure State where
  look : Look
  dur : Int
  moveDur : Int
  deriving DecidableEq
@[simp] abbrev d_State (s : State) : D := .agg [.v (.int .i64 s.look.kind), .v (.int .i64 s.look.move), .v (.int .i64 s.look.DX), .v (.int .i64 s.look.DY), .v (.int .i64 s.dur), .v (.int .i64 s.moveDur)]

structure Out where
  state : State
  hooks : (List Int)
  job : Int
  moveJob : Int
  end_ : Bool
  moveEnd : Bool
  gone : Bool
  deriving DecidableEq
@[simp] abbrev d_Out (s : Out) : D := .agg [.v (.int .i64 s.state.look.kind), .v (.int .i64 s.state.look.move), .v (.int .i64 s.state.look.DX), .v (.int .i64 s.state.look.DY), .v (.int .i64 s.state.dur), .v (.int .i64 s.state.moveDur), .sl false (s.hooks.map D.int), .v (.int .i64 s.job), .v (.int .i64 s.moveJob), .v (.bool s.end_), .v (.bool s.moveEnd), .v (.bool s.gone)]
@[simp] abbrev o_Out (s : Out) : D := .agg [.v (.int .i64 s.state.look.kind), .v (.int .i64 s.state.look.move), .v (.int .i64 s.state.look.DX), .v (.int .i64 s.state.look.DY), .v (.int .i64 s.state.dur), .v (.int .i64 s.state.moveDur), .sl true (s.hooks.map D.int), .v (.int .i64 s.job), .v (.int .i64 s.moveJob), .v (.bool s.end_), .v (.bool s.moveEnd), .v (.bool s.gone)]

def stOut (x0 : State) : Out := ⟨x0, [], 0, 0, false, false, false⟩
-- (scrim/phase.State).out
theorem stOut_fn (x0 : State) (σ : List (List D))  : Ct Try.prog 82 [d_State x0] σ (fun r σ' => r = o_Out (stOut x0) ∧ σ' = σ) := by
  refine fn_start (rs := [.cell 2 81]) Try.func82 rfl rfl Try.ntmps82 Try.results82 (by simp) ?_
  simp only [argEnv]
  refine awp_seq ?_
  refine awp_regionA (c := ⟨[], [], []⟩) (by simp only [lite_cons, lite_nil] <;> rfl) fun all hall K hK => ?_
  clear hall
  simp (maxSteps := 1000000) (disch := first | omega | assumption)
  repeat' refine And.intro ?_ ?_
  all_goals first | omega | exact rfl | skip
  refine hK _ ?_
  clear hK K
  clear all
  refine q_then_n ?_
  refine awp_seq ?_
  refine awp_regionA (c := ⟨[], [], []⟩) (by simp only [lite_cons, lite_nil] <;> rfl) fun all hall K hK => ?_
  clear hall
  simp (maxSteps := 1000000) (disch := first | omega | assumption)
  repeat' refine And.intro ?_ ?_
  all_goals first | omega | exact rfl | skip
  refine hK _ ?_
  clear hK K
  clear all
  refine q_then_n ?_
  refine awp_ret ?_
  first | (simp [endQ, stOut]; done) | (simp [endQ, stOut]; done) | (simp [endQ]; unfold stOut; (repeat' split) <;> first | (exfalso; omega) | (simp_all; done)) | (simp [endQ, stOut, *]; done) | (simp_all [endQ, stOut]; done) | (simp_all [endQ, stOut]; omega) | (simp [endQ, stOut] <;> split <;> omega)

def outTo (x0 : Out) (x1 : Int) (x2 : Int) : Out := ⟨⟨⟨x1, x0.state.look.move, x0.state.look.DX, x0.state.look.DY⟩, x2, x0.state.moveDur⟩, x0.hooks, x0.job, x0.moveJob, x0.end_, x0.moveEnd, x0.gone⟩
-- (scrim/phase.Out).to
theorem outTo_fn (x0 : Out) (x1 : Int) (x2 : Int) (σ : List (List D))  : Ct Try.prog 83 [o_Out x0, .v (.int .i64 x1), .v (.int .i64 x2)] σ (fun r σ' => r = o_Out (outTo x0 x1 x2) ∧ σ' = σ) := by
  refine fn_start (rs := [.cell 6 81]) Try.func83 rfl rfl Try.ntmps83 Try.results83 (by simp) ?_
  simp only [argEnv]
  refine awp_seq ?_
  refine awp_regionA (c := ⟨[14], [], []⟩) (by simp only [lite_cons, lite_nil] <;> rfl) fun all hall K hK => ?_
  clear hall
  simp (maxSteps := 1000000) (disch := first | omega | assumption)
  repeat' refine And.intro ?_ ?_
  all_goals first | omega | exact rfl | skip
  refine hK _ ?_
  clear hK K
  clear all
  refine q_then_n ?_
  refine awp_seq ?_
  refine awp_regionA (c := ⟨[14], [], []⟩) (by simp only [lite_cons, lite_nil] <;> rfl) fun all hall K hK => ?_
  clear hall
  refine vcL_split 8 fun K' hK' => ?_
  simp (maxSteps := 1000000) (disch := first | omega | assumption)
  repeat' refine And.intro ?_ ?_
  all_goals first | omega | exact rfl | skip
  refine hK' _ ?_
  clear hK' K'
  simp only [List.drop_succ_cons, List.drop_zero]
  simp (maxSteps := 1000000) (disch := first | omega | assumption)
  repeat' refine And.intro ?_ ?_
  all_goals first | omega | exact rfl | skip
  refine hK _ ?_
  clear hK K
  clear all
  refine q_then_n ?_
  refine awp_seq ?_
  refine awp_regionA (c := ⟨[14], [], []⟩) (by simp only [lite_cons, lite_nil] <;> rfl) fun all hall K hK => ?_
  clear hall
  simp (maxSteps := 1000000) (disch := first | omega | assumption)
  repeat' refine And.intro ?_ ?_
  all_goals first | omega | exact rfl | skip
  refine hK _ ?_
  clear hK K
  clear all
  refine q_then_n ?_
  refine awp_ret ?_
  first | (simp [endQ, outTo]; done) | (simp [endQ, outTo]; done) | (simp [endQ]; unfold outTo; (repeat' split) <;> first | (exfalso; omega) | (simp_all; done)) | (simp [endQ, outTo, *]; done) | (simp_all [endQ, outTo]; done) | (simp_all [endQ, outTo]; omega) | (simp [endQ, outTo] <;> split <;> omega)

def unmove (x0 : Out) : Out := if x0.state.look.move ≠ 0 then ⟨⟨⟨x0.state.look.kind, 0, 0, 0⟩, x0.state.dur, 0⟩, x0.hooks, x0.job, x0.moveJob, x0.end_, true, x0.gone⟩
  else x0
-- (scrim/phase.Out).unmove
theorem unmove_fn (x0 : Out) (σ : List (List D))  : Ct Try.prog 85 [o_Out x0] σ (fun r σ' => r = o_Out (unmove x0) ∧ σ' = σ) := by
  refine fn_start (rs := [.cell 2 81]) Try.func85 rfl rfl Try.ntmps85 Try.results85 (by simp) ?_
  simp only [argEnv]
  refine awp_seq ?_
  refine awp_regionA (c := ⟨[20], [], []⟩) (by simp only [lite_cons, lite_nil] <;> rfl) fun all hall K hK => ?_
  clear hall
  simp (maxSteps := 1000000) (disch := first | omega | assumption)
  repeat' refine And.intro ?_ ?_
  all_goals first | omega | exact rfl | skip
  refine hK _ ?_
  clear hK K
  clear all
  refine q_then_n ?_
  refine awp_seq ?_
  refine awp_seq ?_
  refine awp_regionA (c := ⟨[20], [], []⟩) (by simp only [lite_cons, lite_nil] <;> rfl) fun all hall K hK => ?_
  clear hall
  simp (maxSteps := 1000000) (disch := first | omega | assumption)
  repeat' refine And.intro ?_ ?_
  all_goals first | omega | exact rfl | skip
  refine hK _ ?_
  clear hK K
  clear all
  refine q_then_n ?_
  refine awp_ifB (by simp <;> rfl) ?_
  refine ⟨fun c1 => ?_, fun c1 => ?_⟩
  · try simp at c1
    all_goals try (exfalso; omega)
    all_goals
      refine awp_seq ?_
      refine awp_keep [1, 2] (by simp only [keepL_nil, keepL_cons, envOf_sel, envOf_nil, sel_t, sel_f, Nat.reduceBEq] <;> rfl) ?_
      refine awp_regionA (c := ⟨[20], [], []⟩) (by simp only [lite_cons, lite_nil] <;> rfl) fun all hall K hK => ?_
      clear hall
      refine vcL_split 8 fun K' hK' => ?_
      simp (maxSteps := 1000000) (disch := first | omega | assumption)
      repeat' refine And.intro ?_ ?_
      all_goals first | omega | exact rfl | skip
      refine hK' _ ?_
      clear hK' K'
      simp only [List.drop_succ_cons, List.drop_zero]
      simp (maxSteps := 1000000) (disch := first | omega | assumption)
      repeat' refine And.intro ?_ ?_
      all_goals first | omega | exact rfl | skip
      refine hK _ ?_
      clear hK K
      clear all
      refine q_then_n ?_
      refine awp_keep [1, 2] (by simp only [keepL_nil, keepL_cons, envOf_sel, envOf_nil, sel_t, sel_f, Nat.reduceBEq] <;> rfl) ?_
      refine awp_regionA (c := ⟨[20], [], []⟩) (by simp only [lite_cons, lite_nil] <;> rfl) fun all hall K hK => ?_
      clear hall
      simp (maxSteps := 1000000) (disch := first | omega | assumption)
      repeat' refine And.intro ?_ ?_
      all_goals first | omega | exact rfl | skip
      refine hK _ ?_
      clear hK K
      clear all
      refine q_then_n ?_
      refine awp_seq ?_
      refine awp_regionA (c := ⟨[20], [], []⟩) (by simp only [lite_cons, lite_nil] <;> rfl) fun all hall K hK => ?_
      clear hall
      simp (maxSteps := 1000000) (disch := first | omega | assumption)
      repeat' refine And.intro ?_ ?_
      all_goals first | omega | exact rfl | skip
      refine hK _ ?_
      clear hK K
      clear all
      refine q_then_n ?_
      refine awp_ret ?_
      first | (simp [endQ, unmove, c1]; done) | (simp [endQ, unmove]; done) | (simp [endQ]; unfold unmove; (repeat' split) <;> first | (exfalso; omega) | (simp_all; done)) | (simp [endQ, unmove, *]; done) | (simp_all [endQ, unmove]; done) | (simp_all [endQ, unmove]; omega) | (simp [endQ, unmove] <;> split <;> omega)
  · try simp at c1
    all_goals try (exfalso; omega)
    all_goals
      refine awp_skip ?_
      refine q_then_n ?_
      refine awp_seq ?_
      refine awp_regionA (c := ⟨[20], [], []⟩) (by simp only [lite_cons, lite_nil] <;> rfl) fun all hall K hK => ?_
      clear hall
      simp (maxSteps := 1000000) (disch := first | omega | assumption)
      repeat' refine And.intro ?_ ?_
      all_goals first | omega | exact rfl | skip
      refine hK _ ?_
      clear hK K
      clear all
      refine q_then_n ?_
      refine awp_ret ?_
      first | (simp [endQ, unmove, c1]; done) | (simp [endQ, unmove]; done) | (simp [endQ]; unfold unmove; (repeat' split) <;> first | (exfalso; omega) | (simp_all; done)) | (simp [endQ, unmove, *]; done) | (simp_all [endQ, unmove]; done) | (simp_all [endQ, unmove]; omega) | (simp [endQ, unmove] <;> split <;> omega)

def outOver (x0 : Out) (x1 : Int) : Out := outTo (⟨x0.state, x0.hooks, x0.job, x0.moveJob, true, x0.moveEnd, x0.gone⟩ : Out) x1 0
-- (scrim/phase.Out).over
theorem outOver_fn (x0 : Out) (x1 : Int) (σ : List (List D))  : Ct Try.prog 94 [o_Out x0, .v (.int .i64 x1)] σ (fun r σ' => r = o_Out (outOver x0 x1) ∧ σ' = σ) := by
  refine fn_start (rs := [.cell 4 81]) Try.func94 rfl rfl Try.ntmps94 Try.results94 (by simp) ?_
  simp only [argEnv]
  refine awp_seq ?_
  refine awp_regionA (c := ⟨[6, 7, 8], [], []⟩) (by simp only [lite_cons, lite_nil] <;> rfl) fun all hall K hK => ?_
  clear hall
  simp (maxSteps := 1000000) (disch := first | omega | assumption)
  repeat' refine And.intro ?_ ?_
  all_goals first | omega | exact rfl | skip
  refine hK _ ?_
  clear hK K
  clear all
  refine q_then_n ?_
  refine awp_seq ?_
  refine awp_regionA (c := ⟨[6, 7, 8], [], []⟩) (by simp only [lite_cons, lite_nil] <;> rfl) fun all hall K hK => ?_
  clear hall
  simp (maxSteps := 1000000) (disch := first | omega | assumption)
  repeat' refine And.intro ?_ ?_
  all_goals first | omega | exact rfl | skip
  refine hK _ ?_
  clear hK K
  clear all
  refine q_then_n ?_
  refine awp_seq ?_
  refine awp_regionA (c := ⟨[6, 7, 8], [], []⟩) (by simp only [lite_cons, lite_nil] <;> rfl) fun all hall K hK => ?_
  clear hall
  refine vcL_split 2 fun K' hK' => ?_
  simp (maxSteps := 1000000) (disch := first | omega | assumption)
  repeat' refine And.intro ?_ ?_
  all_goals first | omega | exact rfl | skip
  refine hK' _ ?_
  clear hK' K'
  simp only [List.drop_succ_cons, List.drop_zero]
  refine vcL_step fun K' hK' => ?_
  simp (maxSteps := 1000000) (disch := first | omega | assumption)
  refine Ct.mono (Ct.of_le (outTo_fn ⟨x0.state, x0.hooks, x0.job, x0.moveJob, true, x0.moveEnd, x0.gone⟩ x1 0 _ ) (by first | exact leArgs_of rfl | (simp [leArgs, leArg]; done)) rfl) ?_
  rintro _ _ ⟨rfl, rfl⟩
  refine hK' _ ?_
  clear hK' K'
  simp (maxSteps := 1000000) (disch := first | omega | assumption)
  repeat' refine And.intro ?_ ?_
  all_goals first | omega | exact rfl | skip
  refine hK _ ?_
  clear hK K
  clear all
  refine q_then_n ?_
  refine awp_ret ?_
  first | (simp [endQ, outOver]; done) | (simp [endQ, outOver]; done) | (simp [endQ]; unfold outOver; (repeat' split) <;> first | (exfalso; omega) | (simp_all; done)) | (simp [endQ, outOver, *]; done) | (simp_all [endQ, outOver]; done) | (simp_all [endQ, outOver]; omega) | (simp [endQ, outOver] <;> split <;> omega)

def tell (x0 : Out) (x1 : (List Int)) : Out := ⟨x0.state, x0.hooks ++ x1, x0.job, x0.moveJob, x0.end_, x0.moveEnd, x0.gone⟩
-- (scrim/phase.Out).tell
theorem tell_fn (x0 : Out) (x1 : (List Int)) (σ : List (List D)) (hx0 : x0.hooks.length ≤ 1000) (hx1 : x1.length ≤ 1000) : Ct Try.prog 91 [o_Out x0, .sl false (x1.map D.int)] σ (fun r σ' => r = o_Out (tell x0 x1) ∧ σ' = σ) := by
  refine fn_start (rs := [.cell 4 81]) Try.func91 rfl rfl Try.ntmps91 Try.results91 (by simp) ?_
  simp only [argEnv]
  refine awp_seq ?_
  refine awp_regionA (c := ⟨[6, 10], [], []⟩) (by simp only [lite_cons, lite_nil] <;> rfl) fun all hall K hK => ?_
  clear hall
  simp (maxSteps := 1000000) (disch := first | omega | assumption)
  repeat' refine And.intro ?_ ?_
  all_goals first | omega | exact rfl | skip
  refine hK _ ?_
  clear hK K
  clear all
  refine q_then_n ?_
  refine awp_seq ?_
  refine awp_regionA (c := ⟨[6, 10], [], []⟩) (by simp only [lite_cons, lite_nil] <;> rfl) fun all hall K hK => ?_
  clear hall
  simp (maxSteps := 1000000) (disch := first | omega | assumption)
  repeat' refine And.intro ?_ ?_
  all_goals first | omega | exact rfl | skip
  refine hK _ ?_
  clear hK K
  clear all
  refine q_then_n ?_
  refine awp_seq ?_
  refine awp_regionA (c := ⟨[6, 10], [], []⟩) (by simp only [lite_cons, lite_nil] <;> rfl) fun all hall K hK => ?_
  clear hall
  simp (maxSteps := 1000000) (disch := first | omega | assumption)
  repeat' refine And.intro ?_ ?_
  all_goals first | omega | exact rfl | skip
  refine hK _ ?_
  clear hK K
  clear all
  refine q_then_n ?_
  refine awp_ret ?_
  first | (simp [endQ, tell]; done) | (simp [endQ, tell]; done) | (simp [endQ]; unfold tell; (repeat' split) <;> first | (exfalso; omega) | (simp_all; done)) | (simp [endQ, tell, *]; done) | (simp_all [endQ, tell]; done) | (simp_all [endQ, tell]; omega) | (simp [endQ, tell] <;> split <;> omega)

def start (x0 : Out) (x1 : Int) (x2 : Int) (x3 : Int) (x4 : Bool) : Out := if x4 = true then outTo (⟨(unmove x0).state, (unmove x0).hooks, 2, (unmove x0).moveJob, (unmove x0).end_, (unmove x0).moveEnd, (unmove x0).gone⟩ : Out) x2 x3
  else outTo (⟨(unmove x0).state, (unmove x0).hooks, 1, (unmove x0).moveJob, (unmove x0).end_, (unmove x0).moveEnd, (unmove x0).gone⟩ : Out) x1 x3
-- (scrim/phase.Out).start
theorem start_fn (x0 : Out) (x1 : Int) (x2 : Int) (x3 : Int) (x4 : Bool) (σ : List (List D))  : Ct Try.prog 92 [o_Out x0, .v (.int .i64 x1), .v (.int .i64 x2), .v (.int .i64 x3), .v (.bool x4)] σ (fun r σ' => r = o_Out (start x0 x1 x2 x3 x4) ∧ σ' = σ) := by
  refine fn_start (rs := [.cell 10 81]) Try.func92 rfl rfl Try.ntmps92 Try.results92 (by simp) ?_
  simp only [argEnv]
  refine awp_seq ?_
  refine awp_regionA (c := ⟨[11, 12, 15, 16, 17, 18, 20, 21, 22, 23], [], []⟩) (by simp only [lite_cons, lite_nil] <;> rfl) fun all hall K hK => ?_
  clear hall
  simp (maxSteps := 1000000) (disch := first | omega | assumption)
  repeat' refine And.intro ?_ ?_
  all_goals first | omega | exact rfl | skip
  refine hK _ ?_
  clear hK K
  clear all
  refine q_then_n ?_
  refine awp_seq ?_
  refine awp_regionA (c := ⟨[11, 12, 15, 16, 17, 18, 20, 21, 22, 23], [], []⟩) (by simp only [lite_cons, lite_nil] <;> rfl) fun all hall K hK => ?_
  clear hall
  refine vcL_split 1 fun K' hK' => ?_
  simp (maxSteps := 1000000) (disch := first | omega | assumption)
  repeat' refine And.intro ?_ ?_
  all_goals first | omega | exact rfl | skip
  refine hK' _ ?_
  clear hK' K'
  simp only [List.drop_succ_cons, List.drop_zero]
  refine vcL_step fun K' hK' => ?_
  simp (maxSteps := 1000000) (disch := first | omega | assumption)
  refine Ct.mono (Ct.of_le (unmove_fn x0 _ ) (by first | exact leArgs_of rfl | (simp [leArgs, leArg]; done)) rfl) ?_
  rintro _ _ ⟨rfl, rfl⟩
  refine hK' _ ?_
  clear hK' K'
  simp (maxSteps := 1000000) (disch := first | omega | assumption)
  repeat' refine And.intro ?_ ?_
  all_goals first | omega | exact rfl | skip
  refine hK _ ?_
  clear hK K
  clear all
  refine q_then_n ?_
  refine awp_seq ?_
  refine awp_seq ?_
  refine awp_regionA (c := ⟨[11, 12, 15, 16, 17, 18, 20, 21, 22, 23], [], []⟩) (by simp only [lite_cons, lite_nil] <;> rfl) fun all hall K hK => ?_
  clear hall
  simp (maxSteps := 1000000) (disch := first | omega | assumption)
  repeat' refine And.intro ?_ ?_
  all_goals first | omega | exact rfl | skip
  refine hK _ ?_
  clear hK K
  clear all
  refine q_then_n ?_
  refine awp_ifB (by simp <;> rfl) ?_
  refine ⟨fun c1 => ?_, fun c1 => ?_⟩
  · try simp at c1
    all_goals try (exfalso; omega)
    all_goals
      refine awp_seq ?_
      refine awp_regionA (c := ⟨[11, 12, 15, 16, 17, 18, 20, 21, 22, 23], [], []⟩) (by simp only [lite_cons, lite_nil] <;> rfl) fun all hall K hK => ?_
      clear hall
      simp (maxSteps := 1000000) (disch := first | omega | assumption)
      repeat' refine And.intro ?_ ?_
      all_goals first | omega | exact rfl | skip
      refine hK _ ?_
      clear hK K
      clear all
      refine q_then_n ?_
      refine awp_seq ?_
      refine awp_regionA (c := ⟨[11, 12, 15, 16, 17, 18, 20, 21, 22, 23], [], []⟩) (by simp only [lite_cons, lite_nil] <;> rfl) fun all hall K hK => ?_
      clear hall
      refine vcL_split 3 fun K' hK' => ?_
      simp (maxSteps := 1000000) (disch := first | omega | assumption)
      repeat' refine And.intro ?_ ?_
      all_goals first | omega | exact rfl | skip
      refine hK' _ ?_
      clear hK' K'
      simp only [List.drop_succ_cons, List.drop_zero]
      refine vcL_step fun K' hK' => ?_
      simp (maxSteps := 1000000) (disch := first | omega | assumption)
      refine Ct.mono (Ct.of_le (outTo_fn ⟨(unmove x0).state, (unmove x0).hooks, 2, (unmove x0).moveJob, (unmove x0).end_, (unmove x0).moveEnd, (unmove x0).gone⟩ x2 x3 _ ) (by first | exact leArgs_of rfl | (simp [leArgs, leArg]; done)) rfl) ?_
      rintro _ _ ⟨rfl, rfl⟩
      refine hK' _ ?_
      clear hK' K'
      simp (maxSteps := 1000000) (disch := first | omega | assumption)
      repeat' refine And.intro ?_ ?_
      all_goals first | omega | exact rfl | skip
      refine hK _ ?_
      clear hK K
      clear all
      refine q_then_n ?_
      refine awp_ret ?_
      refine q_then_r ?_
      first | (simp [endQ, start, c1]; done) | (simp [endQ, start]; done) | (simp [endQ]; unfold start; (repeat' split) <;> first | (exfalso; omega) | (simp_all; done)) | (simp [endQ, start, *]; done) | (simp_all [endQ, start]; done) | (simp_all [endQ, start]; omega) | (simp [endQ, start] <;> split <;> omega)
  · try simp at c1
    all_goals try (exfalso; omega)
    all_goals
      refine awp_skip ?_
      refine q_then_n ?_
      refine awp_seq ?_
      refine awp_regionA (c := ⟨[11, 12, 15, 16, 17, 18, 20, 21, 22, 23], [], []⟩) (by simp only [lite_cons, lite_nil] <;> rfl) fun all hall K hK => ?_
      clear hall
      simp (maxSteps := 1000000) (disch := first | omega | assumption)
      repeat' refine And.intro ?_ ?_
      all_goals first | omega | exact rfl | skip
      refine hK _ ?_
      clear hK K
      clear all
      refine q_then_n ?_
      refine awp_seq ?_
      refine awp_regionA (c := ⟨[11, 12, 15, 16, 17, 18, 20, 21, 22, 23], [], []⟩) (by simp only [lite_cons, lite_nil] <;> rfl) fun all hall K hK => ?_
      clear hall
      refine vcL_split 3 fun K' hK' => ?_
      simp (maxSteps := 1000000) (disch := first | omega | assumption)
      repeat' refine And.intro ?_ ?_
      all_goals first | omega | exact rfl | skip
      refine hK' _ ?_
      clear hK' K'
      simp only [List.drop_succ_cons, List.drop_zero]
      refine vcL_step fun K' hK' => ?_
      simp (maxSteps := 1000000) (disch := first | omega | assumption)
      refine Ct.mono (Ct.of_le (outTo_fn ⟨(unmove x0).state, (unmove x0).hooks, 1, (unmove x0).moveJob, (unmove x0).end_, (unmove x0).moveEnd, (unmove x0).gone⟩ x1 x3 _ ) (by first | exact leArgs_of rfl | (simp [leArgs, leArg]; done)) rfl) ?_
      rintro _ _ ⟨rfl, rfl⟩
      refine hK' _ ?_
      clear hK' K'
      simp (maxSteps := 1000000) (disch := first | omega | assumption)
      repeat' refine And.intro ?_ ?_
      all_goals first | omega | exact rfl | skip
      refine hK _ ?_
      clear hK K
      clear all
      refine q_then_n ?_
      refine awp_ret ?_
      first | (simp [endQ, start, c1]; done) | (simp [endQ, start]; done) | (simp [endQ]; unfold start; (repeat' split) <;> first | (exfalso; omega) | (simp_all; done)) | (simp [endQ, start, *]; done) | (simp_all [endQ, start]; done) | (simp_all [endQ, start]; omega) | (simp [endQ, start] <;> split <;> omega)

def broken (x0 : State) : Out := if ¬((entering x0.look) = true) then stOut x0
  else outOver (tell (stOut x0) [4]) 0
-- (scrim/phase.State).broken
theorem broken_fn (x0 : State) (σ : List (List D))  : Ct Try.prog 93 [d_State x0] σ (fun r σ' => r = o_Out (broken x0) ∧ σ' = σ) := by
  refine fn_start (rs := [.cell 2 81]) Try.func93 rfl rfl Try.ntmps93 Try.results93 (by simp) ?_
  simp only [argEnv]
  refine awp_seq ?_
  refine awp_regionA (c := ⟨[12, 13], [], []⟩) (by simp only [lite_cons, lite_nil] <;> rfl) fun all hall K hK => ?_
  clear hall
  simp (maxSteps := 1000000) (disch := first | omega | assumption)
  repeat' refine And.intro ?_ ?_
  all_goals first | omega | exact rfl | skip
  refine hK _ ?_
  clear hK K
  clear all
  refine q_then_n ?_
  refine awp_seq ?_
  refine awp_seq ?_
  refine awp_regionA (c := ⟨[12, 13], [], []⟩) (by simp only [lite_cons, lite_nil] <;> rfl) fun all hall K hK => ?_
  clear hall
  refine vcL_split 2 fun K' hK' => ?_
  simp (maxSteps := 1000000) (disch := first | omega | assumption)
  repeat' refine And.intro ?_ ?_
  all_goals first | omega | exact rfl | skip
  refine hK' _ ?_
  clear hK' K'
  simp only [List.drop_succ_cons, List.drop_zero]
  refine vcL_step fun K' hK' => ?_
  simp (maxSteps := 1000000) (disch := first | omega | assumption)
  refine Ct.mono (Ct.of_le (entering_fn x0.look _ ) (by first | exact leArgs_of rfl | (simp [leArgs, leArg]; done)) rfl) ?_
  rintro _ _ ⟨rfl, rfl⟩
  refine hK' _ ?_
  clear hK' K'
  simp (maxSteps := 1000000) (disch := first | omega | assumption)
  repeat' refine And.intro ?_ ?_
  all_goals first | omega | exact rfl | skip
  refine hK _ ?_
  clear hK K
  clear all
  refine q_then_n ?_
  refine awp_ifB (by simp <;> rfl) ?_
  refine ⟨fun c1 => ?_, fun c1 => ?_⟩
  · try simp at c1
    all_goals try (exfalso; omega)
    all_goals
      refine awp_seq ?_
      refine awp_regionA (c := ⟨[12, 13], [], []⟩) (by simp only [lite_cons, lite_nil] <;> rfl) fun all hall K hK => ?_
      clear hall
      refine vcL_split 1 fun K' hK' => ?_
      simp (maxSteps := 1000000) (disch := first | omega | assumption)
      repeat' refine And.intro ?_ ?_
      all_goals first | omega | exact rfl | skip
      refine hK' _ ?_
      clear hK' K'
      simp only [List.drop_succ_cons, List.drop_zero]
      refine vcL_step fun K' hK' => ?_
      simp (maxSteps := 1000000) (disch := first | omega | assumption)
      refine Ct.mono (Ct.of_le (stOut_fn x0 _ ) (by first | exact leArgs_of rfl | (simp [leArgs, leArg]; done)) rfl) ?_
      rintro _ _ ⟨rfl, rfl⟩
      refine hK' _ ?_
      clear hK' K'
      simp (maxSteps := 1000000) (disch := first | omega | assumption)
      repeat' refine And.intro ?_ ?_
      all_goals first | omega | exact rfl | skip
      refine hK _ ?_
      clear hK K
      clear all
      refine q_then_n ?_
      refine awp_ret ?_
      refine q_then_r ?_
      first | (simp [endQ, broken, c1]; done) | (simp [endQ, broken]; done) | (simp [endQ]; unfold broken; (repeat' split) <;> first | (exfalso; omega) | (simp_all; done)) | (simp [endQ, broken, *]; done) | (simp_all [endQ, broken]; done) | (simp_all [endQ, broken]; omega) | (simp [endQ, broken] <;> split <;> omega)
  · try simp at c1
    all_goals try (exfalso; omega)
    all_goals
      refine awp_skip ?_
      refine q_then_n ?_
      refine awp_seq ?_
      refine awp_regionA (c := ⟨[12, 13], [], []⟩) (by simp only [lite_cons, lite_nil] <;> rfl) fun all hall K hK => ?_
      clear hall
      refine vcL_split 1 fun K' hK' => ?_
      simp (maxSteps := 1000000) (disch := first | omega | assumption)
      repeat' refine And.intro ?_ ?_
      all_goals first | omega | exact rfl | skip
      refine hK' _ ?_
      clear hK' K'
      simp only [List.drop_succ_cons, List.drop_zero]
      refine vcL_step fun K' hK' => ?_
      simp (maxSteps := 1000000) (disch := first | omega | assumption)
      refine Ct.mono (Ct.of_le (stOut_fn x0 _ ) (by first | exact leArgs_of rfl | (simp [leArgs, leArg]; done)) rfl) ?_
      rintro _ _ ⟨rfl, rfl⟩
      refine hK' _ ?_
      clear hK' K'
      refine vcL_split 1 fun K' hK' => ?_
      simp (maxSteps := 1000000) (disch := first | omega | assumption)
      repeat' refine And.intro ?_ ?_
      all_goals first | omega | exact rfl | skip
      refine hK' _ ?_
      clear hK' K'
      simp only [List.drop_succ_cons, List.drop_zero]
      refine vcL_step fun K' hK' => ?_
      simp (maxSteps := 1000000) (disch := first | omega | assumption)
      refine Ct.mono (Ct.of_le (tell_fn (stOut x0) [4] _ (by first | assumption | omega | (simp [stOut]; done) | (simp [stOut]; omega)) (by first | assumption | omega | (simp [stOut]; done) | (simp [stOut]; omega))) (by first | exact leArgs_of rfl | (simp [leArgs, leArg]; done)) rfl) ?_
      rintro _ _ ⟨rfl, rfl⟩
      refine hK' _ ?_
      clear hK' K'
      refine vcL_step fun K' hK' => ?_
      simp (maxSteps := 1000000) (disch := first | omega | assumption)
      refine Ct.mono (Ct.of_le (outOver_fn (tell (stOut x0) [4]) 0 _ ) (by first | exact leArgs_of rfl | (simp [leArgs, leArg]; done)) rfl) ?_
      rintro _ _ ⟨rfl, rfl⟩
      refine hK' _ ?_
      clear hK' K'
      simp (maxSteps := 1000000) (disch := first | omega | assumption)
      repeat' refine And.intro ?_ ?_
      all_goals first | omega | exact rfl | skip
      refine hK _ ?_
      clear hK K
      clear all
      refine q_then_n ?_
      refine awp_ret ?_
      first | (simp [endQ, broken, c1]; done) | (simp [endQ, broken]; done) | (simp [endQ]; unfold broken; (repeat' split) <;> first | (exfalso; omega) | (simp_all; done)) | (simp [endQ, broken, *]; done) | (simp_all [endQ, broken]; done) | (simp_all [endQ, broken]; omega) | (simp [endQ, broken] <;> split <;> omega)

theorem broken_len (s : State) : (broken s).hooks.length ≤ 1 := by
  unfold broken
  split <;> simp [stOut, outOver, outTo, tell]
theorem broken_len2 (s : State) : (broken s).hooks.length ≤ 1000 := Nat.le_trans (broken_len s) (by decide)

def stEnd (x0 : State) (x1 : Int) : Out := if (entering x0.look) = true then outOver (tell (stOut x0) [x1]) 0
  else if (leaving x0.look) = true then tell (⟨(stOut x0).state, (stOut x0).hooks, (stOut x0).job, (stOut x0).moveJob, true, (stOut x0).moveEnd, true⟩ : Out) [7]
    else stOut x0
-- (scrim/phase.State).end
theorem stEnd_fn (x0 : State) (x1 : Int) (σ : List (List D))  : Ct Try.prog 84 [d_State x0, .v (.int .i64 x1)] σ (fun r σ' => r = o_Out (stEnd x0 x1) ∧ σ' = σ) := by
  refine fn_start (rs := [.cell 4 81]) Try.func84 rfl rfl Try.ntmps84 Try.results84 (by simp) ?_
  simp only [argEnv]
  refine awp_seq ?_
  refine awp_regionA (c := ⟨[12, 15, 16, 23, 25, 26], [], []⟩) (by simp only [lite_cons, lite_nil] <;> rfl) fun all hall K hK => ?_
  clear hall
  simp (maxSteps := 1000000) (disch := first | omega | assumption)
  repeat' refine And.intro ?_ ?_
  all_goals first | omega | exact rfl | skip
  refine hK _ ?_
  clear hK K
  clear all
  refine q_then_n ?_
  refine awp_seq ?_
  refine awp_regionA (c := ⟨[12, 15, 16, 23, 25, 26], [], []⟩) (by simp only [lite_cons, lite_nil] <;> rfl) fun all hall K hK => ?_
  clear hall
  refine vcL_split 1 fun K' hK' => ?_
  simp (maxSteps := 1000000) (disch := first | omega | assumption)
  repeat' refine And.intro ?_ ?_
  all_goals first | omega | exact rfl | skip
  refine hK' _ ?_
  clear hK' K'
  simp only [List.drop_succ_cons, List.drop_zero]
  refine vcL_step fun K' hK' => ?_
  simp (maxSteps := 1000000) (disch := first | omega | assumption)
  refine Ct.mono (Ct.of_le (stOut_fn x0 _ ) (by first | exact leArgs_of rfl | (simp [leArgs, leArg]; done)) rfl) ?_
  rintro _ _ ⟨rfl, rfl⟩
  refine hK' _ ?_
  clear hK' K'
  simp (maxSteps := 1000000) (disch := first | omega | assumption)
  repeat' refine And.intro ?_ ?_
  all_goals first | omega | exact rfl | skip
  refine hK _ ?_
  clear hK K
  clear all
  refine q_then_n ?_
  refine awp_seq ?_
  refine awp_block ?_
  refine awp_seq ?_
  refine awp_regionA (c := ⟨[12, 15, 16, 23, 25, 26], [], []⟩) (by simp only [lite_cons, lite_nil] <;> rfl) fun all hall K hK => ?_
  clear hall
  refine vcL_split 2 fun K' hK' => ?_
  simp (maxSteps := 1000000) (disch := first | omega | assumption)
  repeat' refine And.intro ?_ ?_
  all_goals first | omega | exact rfl | skip
  refine hK' _ ?_
  clear hK' K'
  simp only [List.drop_succ_cons, List.drop_zero]
  refine vcL_step fun K' hK' => ?_
  simp (maxSteps := 1000000) (disch := first | omega | assumption)
  refine Ct.mono (Ct.of_le (entering_fn x0.look _ ) (by first | exact leArgs_of rfl | (simp [leArgs, leArg]; done)) rfl) ?_
  rintro _ _ ⟨rfl, rfl⟩
  refine hK' _ ?_
  clear hK' K'
  simp (maxSteps := 1000000) (disch := first | omega | assumption)
  repeat' refine And.intro ?_ ?_
  all_goals first | omega | exact rfl | skip
  refine hK _ ?_
  clear hK K
  clear all
  refine q_then_n ?_
  refine awp_ifB (by simp <;> rfl) ?_
  refine ⟨fun c1 => ?_, fun c1 => ?_⟩
  · try simp at c1
    all_goals try (exfalso; omega)
    all_goals
      refine awp_seq ?_
      refine awp_regionA (c := ⟨[12, 15, 16, 23, 25, 26], [], []⟩) (by simp only [lite_cons, lite_nil] <;> rfl) fun all hall K hK => ?_
      clear hall
      refine vcL_split 3 fun K' hK' => ?_
      simp (maxSteps := 1000000) (disch := first | omega | assumption)
      repeat' refine And.intro ?_ ?_
      all_goals first | omega | exact rfl | skip
      refine hK' _ ?_
      clear hK' K'
      simp only [List.drop_succ_cons, List.drop_zero]
      refine vcL_step fun K' hK' => ?_
      simp (maxSteps := 1000000) (disch := first | omega | assumption)
      refine Ct.mono (Ct.of_le (tell_fn (stOut x0) [x1] _ (by first | assumption | omega | (simp [stOut, broken_len2]; done) | (simp [stOut, broken_len2]; omega)) (by first | assumption | omega | (simp [stOut, broken_len2]; done) | (simp [stOut, broken_len2]; omega))) (by first | exact leArgs_of rfl | (simp [leArgs, leArg]; done)) rfl) ?_
      rintro _ _ ⟨rfl, rfl⟩
      refine hK' _ ?_
      clear hK' K'
      refine vcL_step fun K' hK' => ?_
      simp (maxSteps := 1000000) (disch := first | omega | assumption)
      refine Ct.mono (Ct.of_le (outOver_fn (tell (stOut x0) [x1]) 0 _ ) (by first | exact leArgs_of rfl | (simp [leArgs, leArg]; done)) rfl) ?_
      rintro _ _ ⟨rfl, rfl⟩
      refine hK' _ ?_
      clear hK' K'
      simp (maxSteps := 1000000) (disch := first | omega | assumption)
      repeat' refine And.intro ?_ ?_
      all_goals first | omega | exact rfl | skip
      refine hK _ ?_
      clear hK K
      clear all
      refine q_then_n ?_
      refine awp_ret ?_
      refine q_block_r ?_
      refine q_then_r ?_
      first | (simp [endQ, stEnd, c1]; done) | (simp [endQ, stEnd]; done) | (simp [endQ]; unfold stEnd; (repeat' split) <;> first | (exfalso; omega) | (simp_all; done)) | (simp [endQ, stEnd, *]; done) | (simp_all [endQ, stEnd]; done) | (simp_all [endQ, stEnd]; omega) | (simp [endQ, stEnd] <;> split <;> omega)
  · try simp at c1
    all_goals try (exfalso; omega)
    all_goals
      refine awp_seq ?_
      refine awp_regionA (c := ⟨[12, 15, 16, 23, 25, 26], [], []⟩) (by simp only [lite_cons, lite_nil] <;> rfl) fun all hall K hK => ?_
      clear hall
      refine vcL_split 2 fun K' hK' => ?_
      simp (maxSteps := 1000000) (disch := first | omega | assumption)
      repeat' refine And.intro ?_ ?_
      all_goals first | omega | exact rfl | skip
      refine hK' _ ?_
      clear hK' K'
      simp only [List.drop_succ_cons, List.drop_zero]
      refine vcL_step fun K' hK' => ?_
      simp (maxSteps := 1000000) (disch := first | omega | assumption)
      refine Ct.mono (Ct.of_le (leaving_fn x0.look _ ) (by first | exact leArgs_of rfl | (simp [leArgs, leArg]; done)) rfl) ?_
      rintro _ _ ⟨rfl, rfl⟩
      refine hK' _ ?_
      clear hK' K'
      simp (maxSteps := 1000000) (disch := first | omega | assumption)
      repeat' refine And.intro ?_ ?_
      all_goals first | omega | exact rfl | skip
      refine hK _ ?_
      clear hK K
      clear all
      refine q_then_n ?_
      refine awp_ifB (by simp <;> rfl) ?_
      refine ⟨fun c2 => ?_, fun c2 => ?_⟩
      · try simp at c2
        all_goals try (exfalso; omega)
        all_goals
          refine awp_seq ?_
          refine awp_keep [4, 5] (by simp only [keepL_nil, keepL_cons, envOf_sel, envOf_nil, sel_t, sel_f, Nat.reduceBEq] <;> rfl) ?_
          refine awp_regionA (c := ⟨[12, 15, 16, 23, 25, 26], [], []⟩) (by simp only [lite_cons, lite_nil] <;> rfl) fun all hall K hK => ?_
          clear hall
          simp (maxSteps := 1000000) (disch := first | omega | assumption)
          repeat' refine And.intro ?_ ?_
          all_goals first | omega | exact rfl | skip
          refine hK _ ?_
          clear hK K
          clear all
          refine q_then_n ?_
          refine awp_seq ?_
          refine awp_regionA (c := ⟨[12, 15, 16, 23, 25, 26], [], []⟩) (by simp only [lite_cons, lite_nil] <;> rfl) fun all hall K hK => ?_
          clear hall
          refine vcL_split 2 fun K' hK' => ?_
          simp (maxSteps := 1000000) (disch := first | omega | assumption)
          repeat' refine And.intro ?_ ?_
          all_goals first | omega | exact rfl | skip
          refine hK' _ ?_
          clear hK' K'
          simp only [List.drop_succ_cons, List.drop_zero]
          refine vcL_step fun K' hK' => ?_
          simp (maxSteps := 1000000) (disch := first | omega | assumption)
          refine Ct.mono (Ct.of_le (tell_fn ⟨(stOut x0).state, (stOut x0).hooks, (stOut x0).job, (stOut x0).moveJob, true, (stOut x0).moveEnd, true⟩ [7] _ (by first | assumption | omega | (simp [stOut, broken_len2]; done) | (simp [stOut, broken_len2]; omega)) (by first | assumption | omega | (simp [stOut, broken_len2]; done) | (simp [stOut, broken_len2]; omega))) (by first | exact leArgs_of rfl | (simp [leArgs, leArg]; done)) rfl) ?_
          rintro _ _ ⟨rfl, rfl⟩
          refine hK' _ ?_
          clear hK' K'
          simp (maxSteps := 1000000) (disch := first | omega | assumption)
          repeat' refine And.intro ?_ ?_
          all_goals first | omega | exact rfl | skip
          refine hK _ ?_
          clear hK K
          clear all
          refine q_then_n ?_
          refine awp_ret ?_
          refine q_block_r ?_
          refine q_then_r ?_
          first | (simp [endQ, stEnd, c1, c2]; done) | (simp [endQ, stEnd]; done) | (simp [endQ]; unfold stEnd; (repeat' split) <;> first | (exfalso; omega) | (simp_all; done)) | (simp [endQ, stEnd, *]; done) | (simp_all [endQ, stEnd]; done) | (simp_all [endQ, stEnd]; omega) | (simp [endQ, stEnd] <;> split <;> omega)
      · try simp at c2
        all_goals try (exfalso; omega)
        all_goals
          refine awp_skip ?_
          refine q_block_n ?_
          refine q_then_n ?_
          refine awp_seq ?_
          refine awp_keep [4, 5] (by simp only [keepL_nil, keepL_cons, envOf_sel, envOf_nil, sel_t, sel_f, Nat.reduceBEq] <;> rfl) ?_
          refine awp_regionA (c := ⟨[12, 15, 16, 23, 25, 26], [], []⟩) (by simp only [lite_cons, lite_nil] <;> rfl) fun all hall K hK => ?_
          clear hall
          simp (maxSteps := 1000000) (disch := first | omega | assumption)
          repeat' refine And.intro ?_ ?_
          all_goals first | omega | exact rfl | skip
          refine hK _ ?_
          clear hK K
          clear all
          refine q_then_n ?_
          refine awp_ret ?_
          first | (simp [endQ, stEnd, c1, c2]; done) | (simp [endQ, stEnd]; done) | (simp [endQ]; unfold stEnd; (repeat' split) <;> first | (exfalso; omega) | (simp_all; done)) | (simp [endQ, stEnd, *]; done) | (simp_all [endQ, stEnd]; done) | (simp_all [endQ, stEnd]; omega) | (simp [endQ, stEnd] <;> split <;> omega)

def enter (x0 : State) (x1 : Int) (x2 : Bool) : Out := if x0.look.kind ≠ 1 then stOut x0
  else start (tell (stOut x0) [1, 2]) 2 3 x1 x2
-- (scrim/phase.State).Enter
theorem enter_fn (x0 : State) (x1 : Int) (x2 : Bool) (σ : List (List D))  : Ct Try.prog 74 [d_State x0, .v (.int .i64 x1), .v (.bool x2)] σ (fun r σ' => r = o_Out (enter x0 x1 x2) ∧ σ' = σ) := by
  refine fn_start (rs := [.cell 6 81]) Try.func74 rfl rfl Try.ntmps74 Try.results74 (by simp) ?_
  simp only [argEnv]
  refine awp_seq ?_
  refine awp_regionA (c := ⟨[16, 17, 18, 19], [], []⟩) (by simp only [lite_cons, lite_nil] <;> rfl) fun all hall K hK => ?_
  clear hall
  simp (maxSteps := 1000000) (disch := first | omega | assumption)
  repeat' refine And.intro ?_ ?_
  all_goals first | omega | exact rfl | skip
  refine hK _ ?_
  clear hK K
  clear all
  refine q_then_n ?_
  refine awp_seq ?_
  refine awp_seq ?_
  refine awp_regionA (c := ⟨[16, 17, 18, 19], [], []⟩) (by simp only [lite_cons, lite_nil] <;> rfl) fun all hall K hK => ?_
  clear hall
  simp (maxSteps := 1000000) (disch := first | omega | assumption)
  repeat' refine And.intro ?_ ?_
  all_goals first | omega | exact rfl | skip
  refine hK _ ?_
  clear hK K
  clear all
  refine q_then_n ?_
  refine awp_ifB (by simp <;> rfl) ?_
  refine ⟨fun c1 => ?_, fun c1 => ?_⟩
  · try simp at c1
    all_goals try (exfalso; omega)
    all_goals
      refine awp_seq ?_
      refine awp_regionA (c := ⟨[16, 17, 18, 19], [], []⟩) (by simp only [lite_cons, lite_nil] <;> rfl) fun all hall K hK => ?_
      clear hall
      refine vcL_split 1 fun K' hK' => ?_
      simp (maxSteps := 1000000) (disch := first | omega | assumption)
      repeat' refine And.intro ?_ ?_
      all_goals first | omega | exact rfl | skip
      refine hK' _ ?_
      clear hK' K'
      simp only [List.drop_succ_cons, List.drop_zero]
      refine vcL_step fun K' hK' => ?_
      simp (maxSteps := 1000000) (disch := first | omega | assumption)
      refine Ct.mono (Ct.of_le (stOut_fn x0 _ ) (by first | exact leArgs_of rfl | (simp [leArgs, leArg]; done)) rfl) ?_
      rintro _ _ ⟨rfl, rfl⟩
      refine hK' _ ?_
      clear hK' K'
      simp (maxSteps := 1000000) (disch := first | omega | assumption)
      repeat' refine And.intro ?_ ?_
      all_goals first | omega | exact rfl | skip
      refine hK _ ?_
      clear hK K
      clear all
      refine q_then_n ?_
      refine awp_ret ?_
      refine q_then_r ?_
      first | (simp [endQ, enter, c1]; done) | (simp [endQ, enter]; done) | (simp [endQ]; unfold enter; (repeat' split) <;> first | (exfalso; omega) | (simp_all; done)) | (simp [endQ, enter, *]; done) | (simp_all [endQ, enter]; done) | (simp_all [endQ, enter]; omega) | (simp [endQ, enter] <;> split <;> omega)
  · try simp at c1
    all_goals try (exfalso; omega)
    all_goals
      refine awp_skip ?_
      refine q_then_n ?_
      refine awp_seq ?_
      refine awp_regionA (c := ⟨[16, 17, 18, 19], [], []⟩) (by simp only [lite_cons, lite_nil] <;> rfl) fun all hall K hK => ?_
      clear hall
      refine vcL_split 1 fun K' hK' => ?_
      simp (maxSteps := 1000000) (disch := first | omega | assumption)
      repeat' refine And.intro ?_ ?_
      all_goals first | omega | exact rfl | skip
      refine hK' _ ?_
      clear hK' K'
      simp only [List.drop_succ_cons, List.drop_zero]
      refine vcL_step fun K' hK' => ?_
      simp (maxSteps := 1000000) (disch := first | omega | assumption)
      refine Ct.mono (Ct.of_le (stOut_fn x0 _ ) (by first | exact leArgs_of rfl | (simp [leArgs, leArg]; done)) rfl) ?_
      rintro _ _ ⟨rfl, rfl⟩
      refine hK' _ ?_
      clear hK' K'
      refine vcL_split 1 fun K' hK' => ?_
      simp (maxSteps := 1000000) (disch := first | omega | assumption)
      repeat' refine And.intro ?_ ?_
      all_goals first | omega | exact rfl | skip
      refine hK' _ ?_
      clear hK' K'
      simp only [List.drop_succ_cons, List.drop_zero]
      refine vcL_step fun K' hK' => ?_
      simp (maxSteps := 1000000) (disch := first | omega | assumption)
      refine Ct.mono (Ct.of_le (tell_fn (stOut x0) [1, 2] _ (by first | assumption | omega | (simp [stOut, broken_len2]; done) | (simp [stOut, broken_len2]; omega)) (by first | assumption | omega | (simp [stOut, broken_len2]; done) | (simp [stOut, broken_len2]; omega))) (by first | exact leArgs_of rfl | (simp [leArgs, leArg]; done)) rfl) ?_
      rintro _ _ ⟨rfl, rfl⟩
      refine hK' _ ?_
      clear hK' K'
      refine vcL_split 2 fun K' hK' => ?_
      simp (maxSteps := 1000000) (disch := first | omega | assumption)
      repeat' refine And.intro ?_ ?_
      all_goals first | omega | exact rfl | skip
      refine hK' _ ?_
      clear hK' K'
      simp only [List.drop_succ_cons, List.drop_zero]
      refine vcL_step fun K' hK' => ?_
      simp (maxSteps := 1000000) (disch := first | omega | assumption)
      refine Ct.mono (Ct.of_le (start_fn (tell (stOut x0) [1, 2]) 2 3 x1 x2 _ ) (by first | exact leArgs_of rfl | (simp [leArgs, leArg]; done)) rfl) ?_
      rintro _ _ ⟨rfl, rfl⟩
      refine hK' _ ?_
      clear hK' K'
      simp (maxSteps := 1000000) (disch := first | omega | assumption)
      repeat' refine And.intro ?_ ?_
      all_goals first | omega | exact rfl | skip
      refine hK _ ?_
      clear hK K
      clear all
      refine q_then_n ?_
      refine awp_ret ?_
      first | (simp [endQ, enter, c1]; done) | (simp [endQ, enter]; done) | (simp [endQ]; unfold enter; (repeat' split) <;> first | (exfalso; omega) | (simp_all; done)) | (simp [endQ, enter, *]; done) | (simp_all [endQ, enter]; done) | (simp_all [endQ, enter]; omega) | (simp [endQ, enter] <;> split <;> omega)

def leave (x0 : State) (x1 : Int) (x2 : Bool) : Out := if ((((broken x0).state).look).kind) ≠ 0 then if ((((broken x0).state).look).kind) ≠ 4 then stOut x0
    else start (tell (broken x0) [5, 6]) 5 6 x1 x2
  else start (tell (broken x0) [5, 6]) 5 6 x1 x2
-- (scrim/phase.State).Leave
theorem leave_fn (x0 : State) (x1 : Int) (x2 : Bool) (σ : List (List D))  : Ct Try.prog 75 [d_State x0, .v (.int .i64 x1), .v (.bool x2)] σ (fun r σ' => r = o_Out (leave x0 x1 x2) ∧ σ' = σ) := by
  refine fn_start (rs := [.cell 6 81]) Try.func75 rfl rfl Try.ntmps75 Try.results75 (by simp) ?_
  simp only [argEnv]
  refine awp_seq ?_
  refine awp_regionA (c := ⟨[24, 26, 27, 28, 29], [], []⟩) (by simp only [lite_cons, lite_nil] <;> rfl) fun all hall K hK => ?_
  clear hall
  simp (maxSteps := 1000000) (disch := first | omega | assumption)
  repeat' refine And.intro ?_ ?_
  all_goals first | omega | exact rfl | skip
  refine hK _ ?_
  clear hK K
  clear all
  refine q_then_n ?_
  refine awp_seq ?_
  refine awp_regionA (c := ⟨[24, 26, 27, 28, 29], [], []⟩) (by simp only [lite_cons, lite_nil] <;> rfl) fun all hall K hK => ?_
  clear hall
  refine vcL_split 1 fun K' hK' => ?_
  simp (maxSteps := 1000000) (disch := first | omega | assumption)
  repeat' refine And.intro ?_ ?_
  all_goals first | omega | exact rfl | skip
  refine hK' _ ?_
  clear hK' K'
  simp only [List.drop_succ_cons, List.drop_zero]
  refine vcL_step fun K' hK' => ?_
  simp (maxSteps := 1000000) (disch := first | omega | assumption)
  refine Ct.mono (Ct.of_le (broken_fn x0 _ ) (by first | exact leArgs_of rfl | (simp [leArgs, leArg]; done)) rfl) ?_
  rintro _ _ ⟨rfl, rfl⟩
  refine hK' _ ?_
  clear hK' K'
  simp (maxSteps := 1000000) (disch := first | omega | assumption)
  repeat' refine And.intro ?_ ?_
  all_goals first | omega | exact rfl | skip
  refine hK _ ?_
  clear hK K
  clear all
  refine q_then_n ?_
  refine awp_seq ?_
  refine awp_seq ?_
  refine awp_keep [1, 2, 3, 6, 7] (by simp only [keepL_nil, keepL_cons, envOf_sel, envOf_nil, sel_t, sel_f, Nat.reduceBEq] <;> rfl) ?_
  refine awp_regionA (c := ⟨[24, 26, 27, 28, 29], [], []⟩) (by simp only [lite_cons, lite_nil] <;> rfl) fun all hall K hK => ?_
  have ga5 : guardOf all 5 = some 15 := hall 5
  clear hall
  refine vcL_split 6 fun K' hK' => ?_
  simp (maxSteps := 1000000) (disch := first | omega | assumption) [ga5]
  repeat' refine And.intro ?_ ?_
  all_goals first | omega | exact rfl | skip
  refine hK' _ ?_
  clear hK' K'
  simp only [List.drop_succ_cons, List.drop_zero]
  refine vcL_bool 15 (by simp <;> rfl) ?_
  refine ⟨fun g1 => ?_, fun g1 => ?_⟩
  · try simp at g1
    all_goals try (exfalso; omega)
    all_goals
      simp (maxSteps := 1000000) (disch := first | omega | assumption) [ga5]
      repeat' refine And.intro ?_ ?_
      all_goals first | omega | exact rfl | skip
      refine hK _ ?_
      clear hK K
      clear ga5
      clear all
      refine q_then_n ?_
      refine awp_ifB (by simp <;> rfl) ?_
      refine ⟨fun c2 => ?_, fun c2 => ?_⟩
      · try simp at c2
        all_goals try (exfalso; omega)
        all_goals
          refine awp_seq ?_
          refine awp_keep [1, 2, 3, 6, 7] (by simp only [keepL_nil, keepL_cons, envOf_sel, envOf_nil, sel_t, sel_f, Nat.reduceBEq] <;> rfl) ?_
          refine awp_regionA (c := ⟨[24, 26, 27, 28, 29], [], []⟩) (by simp only [lite_cons, lite_nil] <;> rfl) fun all hall K hK => ?_
          clear hall
          refine vcL_split 1 fun K' hK' => ?_
          simp (maxSteps := 1000000) (disch := first | omega | assumption)
          repeat' refine And.intro ?_ ?_
          all_goals first | omega | exact rfl | skip
          refine hK' _ ?_
          clear hK' K'
          simp only [List.drop_succ_cons, List.drop_zero]
          refine vcL_step fun K' hK' => ?_
          simp (maxSteps := 1000000) (disch := first | omega | assumption)
          refine Ct.mono (Ct.of_le (stOut_fn x0 _ ) (by first | exact leArgs_of rfl | (simp [leArgs, leArg]; done)) rfl) ?_
          rintro _ _ ⟨rfl, rfl⟩
          refine hK' _ ?_
          clear hK' K'
          simp (maxSteps := 1000000) (disch := first | omega | assumption)
          repeat' refine And.intro ?_ ?_
          all_goals first | omega | exact rfl | skip
          refine hK _ ?_
          clear hK K
          clear all
          refine q_then_n ?_
          refine awp_ret ?_
          refine q_then_r ?_
          first | (simp [endQ, leave, g1, c2]; done) | (simp [endQ, leave]; done) | (simp [endQ]; unfold leave; (repeat' split) <;> first | (exfalso; omega) | (simp_all; done)) | (simp [endQ, leave, *]; done) | (simp_all [endQ, leave]; done) | (simp_all [endQ, leave]; omega) | (simp [endQ, leave] <;> split <;> omega)
      · try simp at c2
        all_goals try (exfalso; omega)
        all_goals
          refine awp_skip ?_
          refine q_then_n ?_
          refine awp_seq ?_
          refine awp_keep [1, 2, 6, 7] (by simp only [keepL_nil, keepL_cons, envOf_sel, envOf_nil, sel_t, sel_f, Nat.reduceBEq] <;> rfl) ?_
          refine awp_regionA (c := ⟨[24, 26, 27, 28, 29], [], []⟩) (by simp only [lite_cons, lite_nil] <;> rfl) fun all hall K hK => ?_
          clear hall
          refine vcL_split 2 fun K' hK' => ?_
          simp (maxSteps := 1000000) (disch := first | omega | assumption)
          repeat' refine And.intro ?_ ?_
          all_goals first | omega | exact rfl | skip
          refine hK' _ ?_
          clear hK' K'
          simp only [List.drop_succ_cons, List.drop_zero]
          refine vcL_step fun K' hK' => ?_
          simp (maxSteps := 1000000) (disch := first | omega | assumption)
          refine Ct.mono (Ct.of_le (tell_fn (broken x0) [5, 6] _ (by first | assumption | omega | (simp [stOut, broken_len2]; done) | (simp [stOut, broken_len2]; omega)) (by first | assumption | omega | (simp [stOut, broken_len2]; done) | (simp [stOut, broken_len2]; omega))) (by first | exact leArgs_of rfl | (simp [leArgs, leArg]; done)) rfl) ?_
          rintro _ _ ⟨rfl, rfl⟩
          refine hK' _ ?_
          clear hK' K'
          refine vcL_split 2 fun K' hK' => ?_
          simp (maxSteps := 1000000) (disch := first | omega | assumption)
          repeat' refine And.intro ?_ ?_
          all_goals first | omega | exact rfl | skip
          refine hK' _ ?_
          clear hK' K'
          simp only [List.drop_succ_cons, List.drop_zero]
          refine vcL_step fun K' hK' => ?_
          simp (maxSteps := 1000000) (disch := first | omega | assumption)
          refine Ct.mono (Ct.of_le (start_fn (tell (broken x0) [5, 6]) 5 6 x1 x2 _ ) (by first | exact leArgs_of rfl | (simp [leArgs, leArg]; done)) rfl) ?_
          rintro _ _ ⟨rfl, rfl⟩
          refine hK' _ ?_
          clear hK' K'
          simp (maxSteps := 1000000) (disch := first | omega | assumption)
          repeat' refine And.intro ?_ ?_
          all_goals first | omega | exact rfl | skip
          refine hK _ ?_
          clear hK K
          clear all
          refine q_then_n ?_
          refine awp_ret ?_
          first | (simp [endQ, leave, g1, c2]; done) | (simp [endQ, leave]; done) | (simp [endQ]; unfold leave; (repeat' split) <;> first | (exfalso; omega) | (simp_all; done)) | (simp [endQ, leave, *]; done) | (simp_all [endQ, leave]; done) | (simp_all [endQ, leave]; omega) | (simp [endQ, leave] <;> split <;> omega)
  · try simp at g1
    all_goals try (exfalso; omega)
    all_goals
      simp (maxSteps := 1000000) (disch := first | omega | assumption) [ga5]
      repeat' refine And.intro ?_ ?_
      all_goals first | omega | exact rfl | skip
      refine hK _ ?_
      clear hK K
      clear ga5
      clear all
      refine q_then_n ?_
      refine awp_cond (t := false) (by simp) (fun h => by cases h) (fun _ => ?_)
      refine awp_skip ?_
      refine q_then_n ?_
      refine awp_seq ?_
      refine awp_keep [1, 2, 6, 7] (by simp only [keepL_nil, keepL_cons, envOf_sel, envOf_nil, sel_t, sel_f, Nat.reduceBEq] <;> rfl) ?_
      refine awp_regionA (c := ⟨[24, 26, 27, 28, 29], [], []⟩) (by simp only [lite_cons, lite_nil] <;> rfl) fun all hall K hK => ?_
      clear hall
      refine vcL_split 2 fun K' hK' => ?_
      simp (maxSteps := 1000000) (disch := first | omega | assumption)
      repeat' refine And.intro ?_ ?_
      all_goals first | omega | exact rfl | skip
      refine hK' _ ?_
      clear hK' K'
      simp only [List.drop_succ_cons, List.drop_zero]
      refine vcL_step fun K' hK' => ?_
      simp (maxSteps := 1000000) (disch := first | omega | assumption)
      refine Ct.mono (Ct.of_le (tell_fn (broken x0) [5, 6] _ (by first | assumption | omega | (simp [stOut, broken_len2]; done) | (simp [stOut, broken_len2]; omega)) (by first | assumption | omega | (simp [stOut, broken_len2]; done) | (simp [stOut, broken_len2]; omega))) (by first | exact leArgs_of rfl | (simp [leArgs, leArg]; done)) rfl) ?_
      rintro _ _ ⟨rfl, rfl⟩
      refine hK' _ ?_
      clear hK' K'
      refine vcL_split 2 fun K' hK' => ?_
      simp (maxSteps := 1000000) (disch := first | omega | assumption)
      repeat' refine And.intro ?_ ?_
      all_goals first | omega | exact rfl | skip
      refine hK' _ ?_
      clear hK' K'
      simp only [List.drop_succ_cons, List.drop_zero]
      refine vcL_step fun K' hK' => ?_
      simp (maxSteps := 1000000) (disch := first | omega | assumption)
      refine Ct.mono (Ct.of_le (start_fn (tell (broken x0) [5, 6]) 5 6 x1 x2 _ ) (by first | exact leArgs_of rfl | (simp [leArgs, leArg]; done)) rfl) ?_
      rintro _ _ ⟨rfl, rfl⟩
      refine hK' _ ?_
      clear hK' K'
      simp (maxSteps := 1000000) (disch := first | omega | assumption)
      repeat' refine And.intro ?_ ?_
      all_goals first | omega | exact rfl | skip
      refine hK _ ?_
      clear hK K
      clear all
      refine q_then_n ?_
      refine awp_ret ?_
      first | (simp [endQ, leave, g1]; done) | (simp [endQ, leave]; done) | (simp [endQ]; unfold leave; (repeat' split) <;> first | (exfalso; omega) | (simp_all; done)) | (simp [endQ, leave, *]; done) | (simp_all [endQ, leave]; done) | (simp_all [endQ, leave]; omega) | (simp [endQ, leave] <;> split <;> omega)

def hold (x0 : State) : Out := if ((((broken x0).state).look).kind) ≠ 0 then stOut x0
  else outTo (unmove (broken x0)) 4 0
-- (scrim/phase.State).Hold
theorem hold_fn (x0 : State) (σ : List (List D))  : Ct Try.prog 77 [d_State x0] σ (fun r σ' => r = o_Out (hold x0) ∧ σ' = σ) := by
  refine fn_start (rs := [.cell 2 81]) Try.func77 rfl rfl Try.ntmps77 Try.results77 (by simp) ?_
  simp only [argEnv]
  refine awp_seq ?_
  refine awp_regionA (c := ⟨[13, 14, 15], [], []⟩) (by simp only [lite_cons, lite_nil] <;> rfl) fun all hall K hK => ?_
  clear hall
  simp (maxSteps := 1000000) (disch := first | omega | assumption)
  repeat' refine And.intro ?_ ?_
  all_goals first | omega | exact rfl | skip
  refine hK _ ?_
  clear hK K
  clear all
  refine q_then_n ?_
  refine awp_seq ?_
  refine awp_regionA (c := ⟨[13, 14, 15], [], []⟩) (by simp only [lite_cons, lite_nil] <;> rfl) fun all hall K hK => ?_
  clear hall
  refine vcL_split 1 fun K' hK' => ?_
  simp (maxSteps := 1000000) (disch := first | omega | assumption)
  repeat' refine And.intro ?_ ?_
  all_goals first | omega | exact rfl | skip
  refine hK' _ ?_
  clear hK' K'
  simp only [List.drop_succ_cons, List.drop_zero]
  refine vcL_step fun K' hK' => ?_
  simp (maxSteps := 1000000) (disch := first | omega | assumption)
  refine Ct.mono (Ct.of_le (broken_fn x0 _ ) (by first | exact leArgs_of rfl | (simp [leArgs, leArg]; done)) rfl) ?_
  rintro _ _ ⟨rfl, rfl⟩
  refine hK' _ ?_
  clear hK' K'
  simp (maxSteps := 1000000) (disch := first | omega | assumption)
  repeat' refine And.intro ?_ ?_
  all_goals first | omega | exact rfl | skip
  refine hK _ ?_
  clear hK K
  clear all
  refine q_then_n ?_
  refine awp_seq ?_
  refine awp_seq ?_
  refine awp_regionA (c := ⟨[13, 14, 15], [], []⟩) (by simp only [lite_cons, lite_nil] <;> rfl) fun all hall K hK => ?_
  clear hall
  simp (maxSteps := 1000000) (disch := first | omega | assumption)
  repeat' refine And.intro ?_ ?_
  all_goals first | omega | exact rfl | skip
  refine hK _ ?_
  clear hK K
  clear all
  refine q_then_n ?_
  refine awp_ifB (by simp <;> rfl) ?_
  refine ⟨fun c1 => ?_, fun c1 => ?_⟩
  · try simp at c1
    all_goals try (exfalso; omega)
    all_goals
      refine awp_seq ?_
      refine awp_regionA (c := ⟨[13, 14, 15], [], []⟩) (by simp only [lite_cons, lite_nil] <;> rfl) fun all hall K hK => ?_
      clear hall
      refine vcL_split 1 fun K' hK' => ?_
      simp (maxSteps := 1000000) (disch := first | omega | assumption)
      repeat' refine And.intro ?_ ?_
      all_goals first | omega | exact rfl | skip
      refine hK' _ ?_
      clear hK' K'
      simp only [List.drop_succ_cons, List.drop_zero]
      refine vcL_step fun K' hK' => ?_
      simp (maxSteps := 1000000) (disch := first | omega | assumption)
      refine Ct.mono (Ct.of_le (stOut_fn x0 _ ) (by first | exact leArgs_of rfl | (simp [leArgs, leArg]; done)) rfl) ?_
      rintro _ _ ⟨rfl, rfl⟩
      refine hK' _ ?_
      clear hK' K'
      simp (maxSteps := 1000000) (disch := first | omega | assumption)
      repeat' refine And.intro ?_ ?_
      all_goals first | omega | exact rfl | skip
      refine hK _ ?_
      clear hK K
      clear all
      refine q_then_n ?_
      refine awp_ret ?_
      refine q_then_r ?_
      first | (simp [endQ, hold, c1]; done) | (simp [endQ, hold]; done) | (simp [endQ]; unfold hold; (repeat' split) <;> first | (exfalso; omega) | (simp_all; done)) | (simp [endQ, hold, *]; done) | (simp_all [endQ, hold]; done) | (simp_all [endQ, hold]; omega) | (simp [endQ, hold] <;> split <;> omega)
  · try simp at c1
    all_goals try (exfalso; omega)
    all_goals
      refine awp_skip ?_
      refine q_then_n ?_
      refine awp_seq ?_
      refine awp_regionA (c := ⟨[13, 14, 15], [], []⟩) (by simp only [lite_cons, lite_nil] <;> rfl) fun all hall K hK => ?_
      clear hall
      refine vcL_split 1 fun K' hK' => ?_
      simp (maxSteps := 1000000) (disch := first | omega | assumption)
      repeat' refine And.intro ?_ ?_
      all_goals first | omega | exact rfl | skip
      refine hK' _ ?_
      clear hK' K'
      simp only [List.drop_succ_cons, List.drop_zero]
      refine vcL_step fun K' hK' => ?_
      simp (maxSteps := 1000000) (disch := first | omega | assumption)
      refine Ct.mono (Ct.of_le (unmove_fn (broken x0) _ ) (by first | exact leArgs_of rfl | (simp [leArgs, leArg]; done)) rfl) ?_
      rintro _ _ ⟨rfl, rfl⟩
      refine hK' _ ?_
      clear hK' K'
      refine vcL_step fun K' hK' => ?_
      simp (maxSteps := 1000000) (disch := first | omega | assumption)
      refine Ct.mono (Ct.of_le (outTo_fn (unmove (broken x0)) 4 0 _ ) (by first | exact leArgs_of rfl | (simp [leArgs, leArg]; done)) rfl) ?_
      rintro _ _ ⟨rfl, rfl⟩
      refine hK' _ ?_
      clear hK' K'
      simp (maxSteps := 1000000) (disch := first | omega | assumption)
      repeat' refine And.intro ?_ ?_
      all_goals first | omega | exact rfl | skip
      refine hK _ ?_
      clear hK K
      clear all
      refine q_then_n ?_
      refine awp_ret ?_
      first | (simp [endQ, hold, c1]; done) | (simp [endQ, hold]; done) | (simp [endQ]; unfold hold; (repeat' split) <;> first | (exfalso; omega) | (simp_all; done)) | (simp [endQ, hold, *]; done) | (simp_all [endQ, hold]; done) | (simp_all [endQ, hold]; omega) | (simp [endQ, hold] <;> split <;> omega)

def return_ (x0 : State) : Out := if (leaving x0.look) = true then outOver (tell (stOut x0) [8]) 1
  else if x0.look.kind = 4 then outTo (stOut x0) 0 x0.dur
    else stOut x0
-- (scrim/phase.State).Return
theorem return__fn (x0 : State) (σ : List (List D))  : Ct Try.prog 78 [d_State x0] σ (fun r σ' => r = o_Out (return_ x0) ∧ σ' = σ) := by
  refine fn_start (rs := [.cell 2 81]) Try.func78 rfl rfl Try.ntmps78 Try.results78 (by simp) ?_
  simp only [argEnv]
  refine awp_seq ?_
  refine awp_regionA (c := ⟨[10, 11, 21], [], []⟩) (by simp only [lite_cons, lite_nil] <;> rfl) fun all hall K hK => ?_
  clear hall
  simp (maxSteps := 1000000) (disch := first | omega | assumption)
  repeat' refine And.intro ?_ ?_
  all_goals first | omega | exact rfl | skip
  refine hK _ ?_
  clear hK K
  clear all
  refine q_then_n ?_
  refine awp_seq ?_
  refine awp_block ?_
  refine awp_seq ?_
  refine awp_regionA (c := ⟨[10, 11, 21], [], []⟩) (by simp only [lite_cons, lite_nil] <;> rfl) fun all hall K hK => ?_
  clear hall
  refine vcL_split 2 fun K' hK' => ?_
  simp (maxSteps := 1000000) (disch := first | omega | assumption)
  repeat' refine And.intro ?_ ?_
  all_goals first | omega | exact rfl | skip
  refine hK' _ ?_
  clear hK' K'
  simp only [List.drop_succ_cons, List.drop_zero]
  refine vcL_step fun K' hK' => ?_
  simp (maxSteps := 1000000) (disch := first | omega | assumption)
  refine Ct.mono (Ct.of_le (leaving_fn x0.look _ ) (by first | exact leArgs_of rfl | (simp [leArgs, leArg]; done)) rfl) ?_
  rintro _ _ ⟨rfl, rfl⟩
  refine hK' _ ?_
  clear hK' K'
  simp (maxSteps := 1000000) (disch := first | omega | assumption)
  repeat' refine And.intro ?_ ?_
  all_goals first | omega | exact rfl | skip
  refine hK _ ?_
  clear hK K
  clear all
  refine q_then_n ?_
  refine awp_ifB (by simp <;> rfl) ?_
  refine ⟨fun c1 => ?_, fun c1 => ?_⟩
  · try simp at c1
    all_goals try (exfalso; omega)
    all_goals
      refine awp_seq ?_
      refine awp_regionA (c := ⟨[10, 11, 21], [], []⟩) (by simp only [lite_cons, lite_nil] <;> rfl) fun all hall K hK => ?_
      clear hall
      refine vcL_split 1 fun K' hK' => ?_
      simp (maxSteps := 1000000) (disch := first | omega | assumption)
      repeat' refine And.intro ?_ ?_
      all_goals first | omega | exact rfl | skip
      refine hK' _ ?_
      clear hK' K'
      simp only [List.drop_succ_cons, List.drop_zero]
      refine vcL_step fun K' hK' => ?_
      simp (maxSteps := 1000000) (disch := first | omega | assumption)
      refine Ct.mono (Ct.of_le (stOut_fn x0 _ ) (by first | exact leArgs_of rfl | (simp [leArgs, leArg]; done)) rfl) ?_
      rintro _ _ ⟨rfl, rfl⟩
      refine hK' _ ?_
      clear hK' K'
      refine vcL_split 1 fun K' hK' => ?_
      simp (maxSteps := 1000000) (disch := first | omega | assumption)
      repeat' refine And.intro ?_ ?_
      all_goals first | omega | exact rfl | skip
      refine hK' _ ?_
      clear hK' K'
      simp only [List.drop_succ_cons, List.drop_zero]
      refine vcL_step fun K' hK' => ?_
      simp (maxSteps := 1000000) (disch := first | omega | assumption)
      refine Ct.mono (Ct.of_le (tell_fn (stOut x0) [8] _ (by first | assumption | omega | (simp [stOut, broken_len2]; done) | (simp [stOut, broken_len2]; omega)) (by first | assumption | omega | (simp [stOut, broken_len2]; done) | (simp [stOut, broken_len2]; omega))) (by first | exact leArgs_of rfl | (simp [leArgs, leArg]; done)) rfl) ?_
      rintro _ _ ⟨rfl, rfl⟩
      refine hK' _ ?_
      clear hK' K'
      refine vcL_step fun K' hK' => ?_
      simp (maxSteps := 1000000) (disch := first | omega | assumption)
      refine Ct.mono (Ct.of_le (outOver_fn (tell (stOut x0) [8]) 1 _ ) (by first | exact leArgs_of rfl | (simp [leArgs, leArg]; done)) rfl) ?_
      rintro _ _ ⟨rfl, rfl⟩
      refine hK' _ ?_
      clear hK' K'
      simp (maxSteps := 1000000) (disch := first | omega | assumption)
      repeat' refine And.intro ?_ ?_
      all_goals first | omega | exact rfl | skip
      refine hK _ ?_
      clear hK K
      clear all
      refine q_then_n ?_
      refine awp_ret ?_
      refine q_block_r ?_
      refine q_then_r ?_
      first | (simp [endQ, return_, c1]; done) | (simp [endQ, return_]; done) | (simp [endQ]; unfold return_; (repeat' split) <;> first | (exfalso; omega) | (simp_all; done)) | (simp [endQ, return_, *]; done) | (simp_all [endQ, return_]; done) | (simp_all [endQ, return_]; omega) | (simp [endQ, return_] <;> split <;> omega)
  · try simp at c1
    all_goals try (exfalso; omega)
    all_goals
      refine awp_seq ?_
      refine awp_regionA (c := ⟨[10, 11, 21], [], []⟩) (by simp only [lite_cons, lite_nil] <;> rfl) fun all hall K hK => ?_
      clear hall
      simp (maxSteps := 1000000) (disch := first | omega | assumption)
      repeat' refine And.intro ?_ ?_
      all_goals first | omega | exact rfl | skip
      refine hK _ ?_
      clear hK K
      clear all
      refine q_then_n ?_
      refine awp_ifB (by simp <;> rfl) ?_
      refine ⟨fun c2 => ?_, fun c2 => ?_⟩
      · try simp at c2
        all_goals try (exfalso; omega)
        all_goals
          refine awp_seq ?_
          refine awp_drawA (c := ⟨[10, 11, 21], [], []⟩) [.op ⟨true, false, false, false⟩, .pure, .op ⟨false, false, false, false⟩, .op ⟨true, false, false, false⟩, .pureT, .op ⟨true, true, false, false⟩] (by kernel_rfl) (by kernel_rfl) (by simp only [lite_cons, lite_nil] <;> rfl) fun all hall K hK => ?_
          clear hall
          refine vcDL_split 1 (by simp) fun K' hK' => ?_
          simp (maxSteps := 1000000) (disch := first | omega | assumption)
          repeat' refine And.intro ?_ ?_
          all_goals first | omega | exact rfl | skip
          refine hK' _ ?_
          clear hK' K'
          simp only [List.drop_succ_cons, List.drop_zero]
          refine vcDL_step fun K' hK' => ?_
          simp (maxSteps := 1000000) (disch := first | omega | assumption)
          refine ⟨_, fun σ => Ct.of_le (stOut_fn x0 _ ) (by first | exact leArgs_of rfl | (simp [leArgs, leArg]; done)) rfl, ?_⟩
          refine hK' _ ?_
          clear hK' K'
          refine vcDL_split 2 (by simp) fun K' hK' => ?_
          simp (maxSteps := 1000000) (disch := first | omega | assumption)
          repeat' refine And.intro ?_ ?_
          all_goals first | omega | exact rfl | skip
          refine hK' _ ?_
          clear hK' K'
          simp only [List.drop_succ_cons, List.drop_zero]
          refine vcDL_step fun K' hK' => ?_
          simp (maxSteps := 1000000) (disch := first | omega | assumption)
          refine ⟨_, fun σ => Ct.of_le (outTo_fn (stOut x0) 0 x0.dur _ ) (by first | exact leArgs_of rfl | (simp [leArgs, leArg]; done)) rfl, ?_⟩
          refine hK' _ ?_
          clear hK' K'
          simp (maxSteps := 1000000) (disch := first | omega | assumption)
          repeat' refine And.intro ?_ ?_
          all_goals first | omega | exact rfl | skip
          refine hK _ ?_
          clear hK K
          clear all
          refine q_then_n ?_
          refine awp_ret ?_
          refine q_block_r ?_
          refine q_then_r ?_
          first | (simp [endQ, return_, c1, c2]; done) | (simp [endQ, return_]; done) | (simp [endQ]; unfold return_; (repeat' split) <;> first | (exfalso; omega) | (simp_all; done)) | (simp [endQ, return_, *]; done) | (simp_all [endQ, return_]; done) | (simp_all [endQ, return_]; omega) | (simp [endQ, return_] <;> split <;> omega)
      · try simp at c2
        all_goals try (exfalso; omega)
        all_goals
          refine awp_skip ?_
          refine q_block_n ?_
          refine q_then_n ?_
          refine awp_seq ?_
          refine awp_regionA (c := ⟨[10, 11, 21], [], []⟩) (by simp only [lite_cons, lite_nil] <;> rfl) fun all hall K hK => ?_
          clear hall
          refine vcL_split 1 fun K' hK' => ?_
          simp (maxSteps := 1000000) (disch := first | omega | assumption)
          repeat' refine And.intro ?_ ?_
          all_goals first | omega | exact rfl | skip
          refine hK' _ ?_
          clear hK' K'
          simp only [List.drop_succ_cons, List.drop_zero]
          refine vcL_step fun K' hK' => ?_
          simp (maxSteps := 1000000) (disch := first | omega | assumption)
          refine Ct.mono (Ct.of_le (stOut_fn x0 _ ) (by first | exact leArgs_of rfl | (simp [leArgs, leArg]; done)) rfl) ?_
          rintro _ _ ⟨rfl, rfl⟩
          refine hK' _ ?_
          clear hK' K'
          simp (maxSteps := 1000000) (disch := first | omega | assumption)
          repeat' refine And.intro ?_ ?_
          all_goals first | omega | exact rfl | skip
          refine hK _ ?_
          clear hK K
          clear all
          refine q_then_n ?_
          refine awp_ret ?_
          first | (simp [endQ, return_, c1, c2]; done) | (simp [endQ, return_]; done) | (simp [endQ]; unfold return_; (repeat' split) <;> first | (exfalso; omega) | (simp_all; done)) | (simp [endQ, return_, *]; done) | (simp_all [endQ, return_]; done) | (simp_all [endQ, return_]; omega) | (simp [endQ, return_] <;> split <;> omega)

def frame (x0 : State) : Out := if x0.look.kind = 2 then outTo (⟨(stOut x0).state, (stOut x0).hooks, 2, (stOut x0).moveJob, (stOut x0).end_, (stOut x0).moveEnd, (stOut x0).gone⟩ : Out) (x0.look.kind + 1) x0.dur
  else if x0.look.kind = 5 then outTo (⟨(stOut x0).state, (stOut x0).hooks, 2, (stOut x0).moveJob, (stOut x0).end_, (stOut x0).moveEnd, (stOut x0).gone⟩ : Out) (x0.look.kind + 1) x0.dur
    else stOut x0
-- (scrim/phase.State).Frame
theorem frame_fn (x0 : State) (σ : List (List D))  : Ct Try.prog 51 [d_State x0] σ (fun r σ' => r = o_Out (frame x0) ∧ σ' = σ) := by
  refine fn_start (rs := [.cell 2 81]) Try.func51 rfl rfl Try.ntmps51 Try.results51 (by simp) ?_
  simp only [argEnv]
  refine awp_seq ?_
  refine awp_regionA (c := ⟨[13, 20, 21], [], []⟩) (by simp only [lite_cons, lite_nil] <;> rfl) fun all hall K hK => ?_
  clear hall
  simp (maxSteps := 1000000) (disch := first | omega | assumption)
  repeat' refine And.intro ?_ ?_
  all_goals first | omega | exact rfl | skip
  refine hK _ ?_
  clear hK K
  clear all
  refine q_then_n ?_
  refine awp_seq ?_
  refine awp_regionA (c := ⟨[13, 20, 21], [], []⟩) (by simp only [lite_cons, lite_nil] <;> rfl) fun all hall K hK => ?_
  clear hall
  refine vcL_split 1 fun K' hK' => ?_
  simp (maxSteps := 1000000) (disch := first | omega | assumption)
  repeat' refine And.intro ?_ ?_
  all_goals first | omega | exact rfl | skip
  refine hK' _ ?_
  clear hK' K'
  simp only [List.drop_succ_cons, List.drop_zero]
  refine vcL_step fun K' hK' => ?_
  simp (maxSteps := 1000000) (disch := first | omega | assumption)
  refine Ct.mono (Ct.of_le (stOut_fn x0 _ ) (by first | exact leArgs_of rfl | (simp [leArgs, leArg]; done)) rfl) ?_
  rintro _ _ ⟨rfl, rfl⟩
  refine hK' _ ?_
  clear hK' K'
  simp (maxSteps := 1000000) (disch := first | omega | assumption)
  repeat' refine And.intro ?_ ?_
  all_goals first | omega | exact rfl | skip
  refine hK _ ?_
  clear hK K
  clear all
  refine q_then_n ?_
  refine awp_seq ?_
  refine awp_seq ?_
  refine awp_regionA (c := ⟨[13, 20, 21], [], []⟩) (by simp only [lite_cons, lite_nil] <;> rfl) fun all hall K hK => ?_
  clear hall
  simp (maxSteps := 1000000) (disch := first | omega | assumption)
  repeat' refine And.intro ?_ ?_
  all_goals first | omega | exact rfl | skip
  refine hK _ ?_
  clear hK K
  clear all
  refine q_then_n ?_
  refine awp_block ?_
  refine awp_seq ?_
  refine awp_seq ?_
  refine awp_regionA (c := ⟨[13, 20, 21], [], []⟩) (by simp only [lite_cons, lite_nil] <;> rfl) fun all hall K hK => ?_
  clear hall
  simp (maxSteps := 1000000) (disch := first | omega | assumption)
  repeat' refine And.intro ?_ ?_
  all_goals first | omega | exact rfl | skip
  refine hK _ ?_
  clear hK K
  clear all
  refine q_then_n ?_
  refine awp_ifB (by simp <;> rfl) ?_
  refine ⟨fun c1 => ?_, fun c1 => ?_⟩
  · try simp at c1
    all_goals try (exfalso; omega)
    all_goals
      refine awp_skip ?_
      refine q_then_n ?_
      refine awp_cond (t := true) (by simp) (fun _ => ?_) (fun h => by cases h)
      refine awp_seq ?_
      refine awp_regionA (c := ⟨[13, 20, 21], [], []⟩) (by simp only [lite_cons, lite_nil] <;> rfl) fun all hall K hK => ?_
      clear hall
      simp (maxSteps := 1000000) (disch := first | omega | assumption)
      repeat' refine And.intro ?_ ?_
      all_goals first | omega | exact rfl | skip
      refine hK _ ?_
      clear hK K
      clear all
      refine q_then_n ?_
      refine awp_seq ?_
      refine awp_regionA (c := ⟨[13, 20, 21], [], []⟩) (by simp only [lite_cons, lite_nil] <;> rfl) fun all hall K hK => ?_
      clear hall
      refine vcL_split 7 fun K' hK' => ?_
      simp (maxSteps := 1000000) (disch := first | omega | assumption)
      repeat' refine And.intro ?_ ?_
      all_goals first | omega | exact rfl | skip
      refine hK' _ ?_
      clear hK' K'
      simp only [List.drop_succ_cons, List.drop_zero]
      refine vcL_step fun K' hK' => ?_
      simp (maxSteps := 1000000) (disch := first | omega | assumption)
      refine Ct.mono (Ct.of_le (outTo_fn ⟨(stOut x0).state, (stOut x0).hooks, 2, (stOut x0).moveJob, (stOut x0).end_, (stOut x0).moveEnd, (stOut x0).gone⟩ (x0.look.kind + 1) x0.dur _ ) (by first | exact leArgs_of rfl | (simp [leArgs, leArg]; done)) rfl) ?_
      rintro _ _ ⟨rfl, rfl⟩
      refine hK' _ ?_
      clear hK' K'
      simp (maxSteps := 1000000) (disch := first | omega | assumption)
      repeat' refine And.intro ?_ ?_
      all_goals first | omega | exact rfl | skip
      refine hK _ ?_
      clear hK K
      clear all
      refine q_then_n ?_
      refine awp_ret ?_
      refine q_block_r ?_
      refine q_then_r ?_
      first | (simp [endQ, frame, c1]; done) | (simp [endQ, frame]; done) | (simp [endQ]; unfold frame; (repeat' split) <;> first | (exfalso; omega) | (simp_all; done)) | (simp [endQ, frame, *]; done) | (simp_all [endQ, frame]; done) | (simp_all [endQ, frame]; omega) | (simp [endQ, frame] <;> split <;> omega)
  · try simp at c1
    all_goals try (exfalso; omega)
    all_goals
      refine awp_regionA (c := ⟨[13, 20, 21], [], []⟩) (by simp only [lite_cons, lite_nil] <;> rfl) fun all hall K hK => ?_
      clear hall
      simp (maxSteps := 1000000) (disch := first | omega | assumption)
      repeat' refine And.intro ?_ ?_
      all_goals first | omega | exact rfl | skip
      refine hK _ ?_
      clear hK K
      clear all
      refine q_then_n ?_
      refine awp_ifB (by simp <;> rfl) ?_
      refine ⟨fun c2 => ?_, fun c2 => ?_⟩
      · try simp at c2
        all_goals try (exfalso; omega)
        all_goals
          refine awp_seq ?_
          refine awp_keep [1, 2, 3] (by simp only [keepL_nil, keepL_cons, envOf_sel, envOf_nil, sel_t, sel_f, Nat.reduceBEq] <;> rfl) ?_
          refine awp_regionA (c := ⟨[13, 20, 21], [], []⟩) (by simp only [lite_cons, lite_nil] <;> rfl) fun all hall K hK => ?_
          clear hall
          simp (maxSteps := 1000000) (disch := first | omega | assumption)
          repeat' refine And.intro ?_ ?_
          all_goals first | omega | exact rfl | skip
          refine hK _ ?_
          clear hK K
          clear all
          refine q_then_n ?_
          refine awp_seq ?_
          refine awp_regionA (c := ⟨[13, 20, 21], [], []⟩) (by simp only [lite_cons, lite_nil] <;> rfl) fun all hall K hK => ?_
          clear hall
          refine vcL_split 7 fun K' hK' => ?_
          simp (maxSteps := 1000000) (disch := first | omega | assumption)
          repeat' refine And.intro ?_ ?_
          all_goals first | omega | exact rfl | skip
          refine hK' _ ?_
          clear hK' K'
          simp only [List.drop_succ_cons, List.drop_zero]
          refine vcL_step fun K' hK' => ?_
          simp (maxSteps := 1000000) (disch := first | omega | assumption)
          refine Ct.mono (Ct.of_le (outTo_fn ⟨(stOut x0).state, (stOut x0).hooks, 2, (stOut x0).moveJob, (stOut x0).end_, (stOut x0).moveEnd, (stOut x0).gone⟩ (x0.look.kind + 1) x0.dur _ ) (by first | exact leArgs_of rfl | (simp [leArgs, leArg]; done)) rfl) ?_
          rintro _ _ ⟨rfl, rfl⟩
          refine hK' _ ?_
          clear hK' K'
          simp (maxSteps := 1000000) (disch := first | omega | assumption)
          repeat' refine And.intro ?_ ?_
          all_goals first | omega | exact rfl | skip
          refine hK _ ?_
          clear hK K
          clear all
          refine q_then_n ?_
          refine awp_ret ?_
          refine q_block_r ?_
          refine q_then_r ?_
          first | (simp [endQ, frame, c1, c2]; done) | (simp [endQ, frame]; done) | (simp [endQ]; unfold frame; (repeat' split) <;> first | (exfalso; omega) | (simp_all; done)) | (simp [endQ, frame, *]; done) | (simp_all [endQ, frame]; done) | (simp_all [endQ, frame]; omega) | (simp [endQ, frame] <;> split <;> omega)
      · try simp at c2
        all_goals try (exfalso; omega)
        all_goals
          refine awp_skip ?_
          refine q_block_n ?_
          refine q_then_n ?_
          refine awp_seq ?_
          refine awp_keep [2, 3] (by simp only [keepL_nil, keepL_cons, envOf_sel, envOf_nil, sel_t, sel_f, Nat.reduceBEq] <;> rfl) ?_
          refine awp_regionA (c := ⟨[13, 20, 21], [], []⟩) (by simp only [lite_cons, lite_nil] <;> rfl) fun all hall K hK => ?_
          clear hall
          simp (maxSteps := 1000000) (disch := first | omega | assumption)
          repeat' refine And.intro ?_ ?_
          all_goals first | omega | exact rfl | skip
          refine hK _ ?_
          clear hK K
          clear all
          refine q_then_n ?_
          refine awp_ret ?_
          first | (simp [endQ, frame, c1, c2]; done) | (simp [endQ, frame]; done) | (simp [endQ]; unfold frame; (repeat' split) <;> first | (exfalso; omega) | (simp_all; done)) | (simp [endQ, frame, *]; done) | (simp_all [endQ, frame]; done) | (simp_all [endQ, frame]; omega) | (simp [endQ, frame] <;> split <;> omega)

def finish (x0 : State) : Out := if x0.look.kind ≠ 3 then if x0.look.kind ≠ 6 then stOut x0
    else stEnd x0 3
  else stEnd x0 3
-- (scrim/phase.State).Finish
theorem finish_fn (x0 : State) (σ : List (List D))  : Ct Try.prog 53 [d_State x0] σ (fun r σ' => r = o_Out (finish x0) ∧ σ' = σ) := by
  refine fn_start (rs := [.cell 2 81]) Try.func53 rfl rfl Try.ntmps53 Try.results53 (by simp) ?_
  simp only [argEnv]
  refine awp_seq ?_
  refine awp_regionA (c := ⟨[], [], []⟩) (by simp only [lite_cons, lite_nil] <;> rfl) fun all hall K hK => ?_
  clear hall
  simp (maxSteps := 1000000) (disch := first | omega | assumption)
  repeat' refine And.intro ?_ ?_
  all_goals first | omega | exact rfl | skip
  refine hK _ ?_
  clear hK K
  clear all
  refine q_then_n ?_
  refine awp_seq ?_
  refine awp_seq ?_
  refine awp_regionA (c := ⟨[], [], []⟩) (by simp only [lite_cons, lite_nil] <;> rfl) fun all hall K hK => ?_
  have ga4 : guardOf all 4 = some 7 := hall 4
  clear hall
  refine vcL_split 5 fun K' hK' => ?_
  simp (maxSteps := 1000000) (disch := first | omega | assumption) [ga4]
  repeat' refine And.intro ?_ ?_
  all_goals first | omega | exact rfl | skip
  refine hK' _ ?_
  clear hK' K'
  simp only [List.drop_succ_cons, List.drop_zero]
  refine vcL_bool 7 (by simp <;> rfl) ?_
  refine ⟨fun g1 => ?_, fun g1 => ?_⟩
  · try simp at g1
    all_goals try (exfalso; omega)
    all_goals
      simp (maxSteps := 1000000) (disch := first | omega | assumption) [ga4]
      repeat' refine And.intro ?_ ?_
      all_goals first | omega | exact rfl | skip
      refine hK _ ?_
      clear hK K
      clear ga4
      clear all
      refine q_then_n ?_
      refine awp_ifB (by simp <;> rfl) ?_
      refine ⟨fun c2 => ?_, fun c2 => ?_⟩
      · try simp at c2
        all_goals try (exfalso; omega)
        all_goals
          refine awp_seq ?_
          refine awp_keep [1, 2] (by simp only [keepL_nil, keepL_cons, envOf_sel, envOf_nil, sel_t, sel_f, Nat.reduceBEq] <;> rfl) ?_
          refine awp_regionA (c := ⟨[], [], []⟩) (by simp only [lite_cons, lite_nil] <;> rfl) fun all hall K hK => ?_
          clear hall
          refine vcL_split 1 fun K' hK' => ?_
          simp (maxSteps := 1000000) (disch := first | omega | assumption)
          repeat' refine And.intro ?_ ?_
          all_goals first | omega | exact rfl | skip
          refine hK' _ ?_
          clear hK' K'
          simp only [List.drop_succ_cons, List.drop_zero]
          refine vcL_step fun K' hK' => ?_
          simp (maxSteps := 1000000) (disch := first | omega | assumption)
          refine Ct.mono (Ct.of_le (stOut_fn x0 _ ) (by first | exact leArgs_of rfl | (simp [leArgs, leArg]; done)) rfl) ?_
          rintro _ _ ⟨rfl, rfl⟩
          refine hK' _ ?_
          clear hK' K'
          simp (maxSteps := 1000000) (disch := first | omega | assumption)
          repeat' refine And.intro ?_ ?_
          all_goals first | omega | exact rfl | skip
          refine hK _ ?_
          clear hK K
          clear all
          refine q_then_n ?_
          refine awp_ret ?_
          refine q_then_r ?_
          first | (simp [endQ, finish, g1, c2]; done) | (simp [endQ, finish]; done) | (simp [endQ]; unfold finish; (repeat' split) <;> first | (exfalso; omega) | (simp_all; done)) | (simp [endQ, finish, *]; done) | (simp_all [endQ, finish]; done) | (simp_all [endQ, finish]; omega) | (simp [endQ, finish] <;> split <;> omega)
      · try simp at c2
        all_goals try (exfalso; omega)
        all_goals
          refine awp_skip ?_
          refine q_then_n ?_
          refine awp_seq ?_
          refine awp_keep [1, 2] (by simp only [keepL_nil, keepL_cons, envOf_sel, envOf_nil, sel_t, sel_f, Nat.reduceBEq] <;> rfl) ?_
          refine awp_regionA (c := ⟨[], [], []⟩) (by simp only [lite_cons, lite_nil] <;> rfl) fun all hall K hK => ?_
          clear hall
          refine vcL_split 1 fun K' hK' => ?_
          simp (maxSteps := 1000000) (disch := first | omega | assumption)
          repeat' refine And.intro ?_ ?_
          all_goals first | omega | exact rfl | skip
          refine hK' _ ?_
          clear hK' K'
          simp only [List.drop_succ_cons, List.drop_zero]
          refine vcL_step fun K' hK' => ?_
          simp (maxSteps := 1000000) (disch := first | omega | assumption)
          refine Ct.mono (Ct.of_le (stEnd_fn x0 3 _ ) (by first | exact leArgs_of rfl | (simp [leArgs, leArg]; done)) rfl) ?_
          rintro _ _ ⟨rfl, rfl⟩
          refine hK' _ ?_
          clear hK' K'
          simp (maxSteps := 1000000) (disch := first | omega | assumption)
          repeat' refine And.intro ?_ ?_
          all_goals first | omega | exact rfl | skip
          refine hK _ ?_
          clear hK K
          clear all
          refine q_then_n ?_
          refine awp_ret ?_
          first | (simp [endQ, finish, g1, c2]; done) | (simp [endQ, finish]; done) | (simp [endQ]; unfold finish; (repeat' split) <;> first | (exfalso; omega) | (simp_all; done)) | (simp [endQ, finish, *]; done) | (simp_all [endQ, finish]; done) | (simp_all [endQ, finish]; omega) | (simp [endQ, finish] <;> split <;> omega)
  · try simp at g1
    all_goals try (exfalso; omega)
    all_goals
      simp (maxSteps := 1000000) (disch := first | omega | assumption) [ga4]
      repeat' refine And.intro ?_ ?_
      all_goals first | omega | exact rfl | skip
      refine hK _ ?_
      clear hK K
      clear ga4
      clear all
      refine q_then_n ?_
      refine awp_cond (t := false) (by simp) (fun h => by cases h) (fun _ => ?_)
      refine awp_skip ?_
      refine q_then_n ?_
      refine awp_seq ?_
      refine awp_keep [1, 2] (by simp only [keepL_nil, keepL_cons, envOf_sel, envOf_nil, sel_t, sel_f, Nat.reduceBEq] <;> rfl) ?_
      refine awp_regionA (c := ⟨[], [], []⟩) (by simp only [lite_cons, lite_nil] <;> rfl) fun all hall K hK => ?_
      clear hall
      refine vcL_split 1 fun K' hK' => ?_
      simp (maxSteps := 1000000) (disch := first | omega | assumption)
      repeat' refine And.intro ?_ ?_
      all_goals first | omega | exact rfl | skip
      refine hK' _ ?_
      clear hK' K'
      simp only [List.drop_succ_cons, List.drop_zero]
      refine vcL_step fun K' hK' => ?_
      simp (maxSteps := 1000000) (disch := first | omega | assumption)
      refine Ct.mono (Ct.of_le (stEnd_fn x0 3 _ ) (by first | exact leArgs_of rfl | (simp [leArgs, leArg]; done)) rfl) ?_
      rintro _ _ ⟨rfl, rfl⟩
      refine hK' _ ?_
      clear hK' K'
      simp (maxSteps := 1000000) (disch := first | omega | assumption)
      repeat' refine And.intro ?_ ?_
      all_goals first | omega | exact rfl | skip
      refine hK _ ?_
      clear hK K
      clear all
      refine q_then_n ?_
      refine awp_ret ?_
      first | (simp [endQ, finish, g1]; done) | (simp [endQ, finish]; done) | (simp [endQ]; unfold finish; (repeat' split) <;> first | (exfalso; omega) | (simp_all; done)) | (simp [endQ, finish, *]; done) | (simp_all [endQ, finish]; done) | (simp_all [endQ, finish]; omega) | (simp [endQ, finish] <;> split <;> omega)

def cancel (x0 : State) : Out := unmove (stEnd x0 4)
-- (scrim/phase.State).Cancel
theorem cancel_fn (x0 : State) (σ : List (List D))  : Ct Try.prog 79 [d_State x0] σ (fun r σ' => r = o_Out (cancel x0) ∧ σ' = σ) := by
  refine fn_start (rs := [.cell 2 81]) Try.func79 rfl rfl Try.ntmps79 Try.results79 (by simp) ?_
  simp only [argEnv]
  refine awp_seq ?_
  refine awp_regionA (c := ⟨[5], [], []⟩) (by simp only [lite_cons, lite_nil] <;> rfl) fun all hall K hK => ?_
  clear hall
  simp (maxSteps := 1000000) (disch := first | omega | assumption)
  repeat' refine And.intro ?_ ?_
  all_goals first | omega | exact rfl | skip
  refine hK _ ?_
  clear hK K
  clear all
  refine q_then_n ?_
  refine awp_seq ?_
  refine awp_regionA (c := ⟨[5], [], []⟩) (by simp only [lite_cons, lite_nil] <;> rfl) fun all hall K hK => ?_
  clear hall
  refine vcL_split 1 fun K' hK' => ?_
  simp (maxSteps := 1000000) (disch := first | omega | assumption)
  repeat' refine And.intro ?_ ?_
  all_goals first | omega | exact rfl | skip
  refine hK' _ ?_
  clear hK' K'
  simp only [List.drop_succ_cons, List.drop_zero]
  refine vcL_step fun K' hK' => ?_
  simp (maxSteps := 1000000) (disch := first | omega | assumption)
  refine Ct.mono (Ct.of_le (stEnd_fn x0 4 _ ) (by first | exact leArgs_of rfl | (simp [leArgs, leArg]; done)) rfl) ?_
  rintro _ _ ⟨rfl, rfl⟩
  refine hK' _ ?_
  clear hK' K'
  refine vcL_step fun K' hK' => ?_
  simp (maxSteps := 1000000) (disch := first | omega | assumption)
  refine Ct.mono (Ct.of_le (unmove_fn (stEnd x0 4) _ ) (by first | exact leArgs_of rfl | (simp [leArgs, leArg]; done)) rfl) ?_
  rintro _ _ ⟨rfl, rfl⟩
  refine hK' _ ?_
  clear hK' K'
  simp (maxSteps := 1000000) (disch := first | omega | assumption)
  repeat' refine And.intro ?_ ?_
  all_goals first | omega | exact rfl | skip
  refine hK _ ?_
  clear hK K
  clear all
  refine q_then_n ?_
  refine awp_ret ?_
  first | (simp [endQ, cancel]; done) | (simp [endQ, cancel]; done) | (simp [endQ]; unfold cancel; (repeat' split) <;> first | (exfalso; omega) | (simp_all; done)) | (simp [endQ, cancel, *]; done) | (simp_all [endQ, cancel]; done) | (simp_all [endQ, cancel]; omega) | (simp [endQ, cancel] <;> split <;> omega)

def settle (x0 : State) : Out := if ((cancel x0).gone) = true then ⟨(cancel x0).state, (cancel x0).hooks, (cancel x0).job, (cancel x0).moveJob, (cancel x0).end_, (cancel x0).moveEnd, true⟩
  else if x0.look.kind = 1 then ⟨(cancel x0).state, (cancel x0).hooks, (cancel x0).job, (cancel x0).moveJob, (cancel x0).end_, (cancel x0).moveEnd, true⟩
    else ⟨(cancel x0).state, (cancel x0).hooks, (cancel x0).job, (cancel x0).moveJob, (cancel x0).end_, (cancel x0).moveEnd, decide (x0.look.kind = 4)⟩
-- (scrim/phase.State).Settle
theorem settle_fn (x0 : State) (σ : List (List D))  : Ct Try.prog 80 [d_State x0] σ (fun r σ' => r = o_Out (settle x0) ∧ σ' = σ) := by
  refine fn_start (rs := [.cell 2 81]) Try.func80 rfl rfl Try.ntmps80 Try.results80 (by simp) ?_
  simp only [argEnv]
  refine awp_seq ?_
  refine awp_regionA (c := ⟨[21], [], []⟩) (by simp only [lite_cons, lite_nil] <;> rfl) fun all hall K hK => ?_
  clear hall
  simp (maxSteps := 1000000) (disch := first | omega | assumption)
  repeat' refine And.intro ?_ ?_
  all_goals first | omega | exact rfl | skip
  refine hK _ ?_
  clear hK K
  clear all
  refine q_then_n ?_
  refine awp_seq ?_
  refine awp_regionA (c := ⟨[21], [], []⟩) (by simp only [lite_cons, lite_nil] <;> rfl) fun all hall K hK => ?_
  clear hall
  refine vcL_split 1 fun K' hK' => ?_
  simp (maxSteps := 1000000) (disch := first | omega | assumption)
  repeat' refine And.intro ?_ ?_
  all_goals first | omega | exact rfl | skip
  refine hK' _ ?_
  clear hK' K'
  simp only [List.drop_succ_cons, List.drop_zero]
  refine vcL_step fun K' hK' => ?_
  simp (maxSteps := 1000000) (disch := first | omega | assumption)
  refine Ct.mono (Ct.of_le (cancel_fn x0 _ ) (by first | exact leArgs_of rfl | (simp [leArgs, leArg]; done)) rfl) ?_
  rintro _ _ ⟨rfl, rfl⟩
  refine hK' _ ?_
  clear hK' K'
  simp (maxSteps := 1000000) (disch := first | omega | assumption)
  repeat' refine And.intro ?_ ?_
  all_goals first | omega | exact rfl | skip
  refine hK _ ?_
  clear hK K
  clear all
  refine q_then_n ?_
  refine awp_seq ?_
  refine awp_keep [1, 2, 3] (by simp only [keepL_nil, keepL_cons, envOf_sel, envOf_nil, sel_t, sel_f, Nat.reduceBEq] <;> rfl) ?_
  refine awp_regionA (c := ⟨[21], [], []⟩) (by simp only [lite_cons, lite_nil] <;> rfl) fun all hall K hK => ?_
  have ga2 : guardOf all 2 = some 8 := hall 2
  have ga8 : guardOf all 8 = some 14 := hall 8
  clear hall
  refine vcL_split 3 fun K' hK' => ?_
  simp (maxSteps := 1000000) (disch := first | omega | assumption) [ga2, ga8]
  repeat' refine And.intro ?_ ?_
  all_goals first | omega | exact rfl | skip
  refine hK' _ ?_
  clear hK' K'
  simp only [List.drop_succ_cons, List.drop_zero]
  refine vcL_bool 8 (by simp <;> rfl) ?_
  refine ⟨fun g1 => ?_, fun g1 => ?_⟩
  · try simp at g1
    all_goals try (exfalso; omega)
    all_goals
      refine vcL_split 6 fun K' hK' => ?_
      simp (maxSteps := 1000000) (disch := first | omega | assumption) [ga2, ga8]
      repeat' refine And.intro ?_ ?_
      all_goals first | omega | exact rfl | skip
      refine hK' _ ?_
      clear hK' K'
      simp only [List.drop_succ_cons, List.drop_zero]
      simp (maxSteps := 1000000) (disch := first | omega | assumption) [ga2, ga8]
      repeat' refine And.intro ?_ ?_
      all_goals first | omega | exact rfl | skip
      refine hK _ ?_
      clear hK K
      clear ga2 ga8
      clear all
      refine q_then_n ?_
      refine awp_seq ?_
      refine awp_keep [2, 3] (by simp only [keepL_nil, keepL_cons, envOf_sel, envOf_nil, sel_t, sel_f, Nat.reduceBEq] <;> rfl) ?_
      refine awp_regionA (c := ⟨[21], [], []⟩) (by simp only [lite_cons, lite_nil] <;> rfl) fun all hall K hK => ?_
      clear hall
      simp (maxSteps := 1000000) (disch := first | omega | assumption)
      repeat' refine And.intro ?_ ?_
      all_goals first | omega | exact rfl | skip
      refine hK _ ?_
      clear hK K
      clear all
      refine q_then_n ?_
      refine awp_ret ?_
      first | (simp [endQ, settle, g1]; done) | (simp [endQ, settle]; done) | (simp [endQ]; unfold settle; (repeat' split) <;> first | (exfalso; omega) | (simp_all; done)) | (simp [endQ, settle, *]; done) | (simp_all [endQ, settle]; done) | (simp_all [endQ, settle]; omega) | (simp [endQ, settle] <;> split <;> omega)
  · try simp at g1
    all_goals try (exfalso; omega)
    all_goals
      refine vcL_split 6 fun K' hK' => ?_
      simp (maxSteps := 1000000) (disch := first | omega | assumption) [ga2, ga8]
      repeat' refine And.intro ?_ ?_
      all_goals first | omega | exact rfl | skip
      refine hK' _ ?_
      clear hK' K'
      simp only [List.drop_succ_cons, List.drop_zero]
      refine vcL_bool 14 (by simp <;> rfl) ?_
      refine ⟨fun g2 => ?_, fun g2 => ?_⟩
      · try simp at g2
        all_goals try (exfalso; omega)
        all_goals
          simp (maxSteps := 1000000) (disch := first | omega | assumption) [ga2, ga8]
          repeat' refine And.intro ?_ ?_
          all_goals first | omega | exact rfl | skip
          refine hK _ ?_
          clear hK K
          clear ga2 ga8
          clear all
          refine q_then_n ?_
          refine awp_seq ?_
          refine awp_keep [2, 3] (by simp only [keepL_nil, keepL_cons, envOf_sel, envOf_nil, sel_t, sel_f, Nat.reduceBEq] <;> rfl) ?_
          refine awp_regionA (c := ⟨[21], [], []⟩) (by simp only [lite_cons, lite_nil] <;> rfl) fun all hall K hK => ?_
          clear hall
          simp (maxSteps := 1000000) (disch := first | omega | assumption)
          repeat' refine And.intro ?_ ?_
          all_goals first | omega | exact rfl | skip
          refine hK _ ?_
          clear hK K
          clear all
          refine q_then_n ?_
          refine awp_ret ?_
          first | (simp [endQ, settle, g1, g2]; done) | (simp [endQ, settle]; done) | (simp [endQ]; unfold settle; (repeat' split) <;> first | (exfalso; omega) | (simp_all; done)) | (simp [endQ, settle, *]; done) | (simp_all [endQ, settle]; done) | (simp_all [endQ, settle]; omega) | (simp [endQ, settle] <;> split <;> omega)
      · try simp at g2
        all_goals try (exfalso; omega)
        all_goals
          simp (maxSteps := 1000000) (disch := first | omega | assumption) [ga2, ga8]
          repeat' refine And.intro ?_ ?_
          all_goals first | omega | exact rfl | skip
          refine hK _ ?_
          clear hK K
          clear ga2 ga8
          clear all
          refine q_then_n ?_
          refine awp_seq ?_
          refine awp_keep [2, 3] (by simp only [keepL_nil, keepL_cons, envOf_sel, envOf_nil, sel_t, sel_f, Nat.reduceBEq] <;> rfl) ?_
          refine awp_regionA (c := ⟨[21], [], []⟩) (by simp only [lite_cons, lite_nil] <;> rfl) fun all hall K hK => ?_
          clear hall
          simp (maxSteps := 1000000) (disch := first | omega | assumption)
          repeat' refine And.intro ?_ ?_
          all_goals first | omega | exact rfl | skip
          refine hK _ ?_
          clear hK K
          clear all
          refine q_then_n ?_
          refine awp_ret ?_
          first | (simp [endQ, settle, g1, g2]; done) | (simp [endQ, settle]; done) | (simp [endQ]; unfold settle; (repeat' split) <;> first | (exfalso; omega) | (simp_all; done)) | (simp [endQ, settle, *]; done) | (simp_all [endQ, settle]; done) | (simp_all [endQ, settle]; omega) | (simp [endQ, settle] <;> split <;> omega)

def shift (x0 : State) (x1 : Int) (x2 : Int) (x3 : Int) : Out := if x0.look.kind ≠ 0 then stOut x0
  else if x1 = 0 then if x2 = 0 then stOut x0
      else ⟨⟨⟨(((unmove (stOut x0)).state).look).kind, 1, x1, x2⟩, ((unmove (stOut x0)).state).dur, x3⟩, (unmove (stOut x0)).hooks, (unmove (stOut x0)).job, 1, (unmove (stOut x0)).end_, (unmove (stOut x0)).moveEnd, (unmove (stOut x0)).gone⟩
    else ⟨⟨⟨(((unmove (stOut x0)).state).look).kind, 1, x1, x2⟩, ((unmove (stOut x0)).state).dur, x3⟩, (unmove (stOut x0)).hooks, (unmove (stOut x0)).job, 1, (unmove (stOut x0)).end_, (unmove (stOut x0)).moveEnd, (unmove (stOut x0)).gone⟩
-- (scrim/phase.State).Shift
theorem shift_fn (x0 : State) (x1 : Int) (x2 : Int) (x3 : Int) (σ : List (List D))  : Ct Try.prog 81 [d_State x0, .v (.int .i64 x1), .v (.int .i64 x2), .v (.int .i64 x3)] σ (fun r σ' => r = o_Out (shift x0 x1 x2 x3) ∧ σ' = σ) := by
  refine fn_start (rs := [.cell 8 81]) Try.func81 rfl rfl Try.ntmps81 Try.results81 (by simp) ?_
  simp only [argEnv]
  refine awp_seq ?_
  refine awp_regionA (c := ⟨[26, 42], [], []⟩) (by simp only [lite_cons, lite_nil] <;> rfl) fun all hall K hK => ?_
  clear hall
  simp (maxSteps := 1000000) (disch := first | omega | assumption)
  repeat' refine And.intro ?_ ?_
  all_goals first | omega | exact rfl | skip
  refine hK _ ?_
  clear hK K
  clear all
  refine q_then_n ?_
  refine awp_seq ?_
  refine awp_seq ?_
  refine awp_regionA (c := ⟨[26, 42], [], []⟩) (by simp only [lite_cons, lite_nil] <;> rfl) fun all hall K hK => ?_
  have ga4 : guardOf all 4 = some 14 := hall 4
  have ga7 : guardOf all 7 = some 17 := hall 7
  clear hall
  refine vcL_split 5 fun K' hK' => ?_
  simp (maxSteps := 1000000) (disch := first | omega | assumption) [ga4, ga7]
  repeat' refine And.intro ?_ ?_
  all_goals first | omega | exact rfl | skip
  refine hK' _ ?_
  clear hK' K'
  simp only [List.drop_succ_cons, List.drop_zero]
  refine vcL_bool 14 (by simp <;> rfl) ?_
  refine ⟨fun g1 => ?_, fun g1 => ?_⟩
  · try simp at g1
    all_goals try (exfalso; omega)
    all_goals
      simp (maxSteps := 1000000) (disch := first | omega | assumption) [ga4, ga7]
      repeat' refine And.intro ?_ ?_
      all_goals first | omega | exact rfl | skip
      refine hK _ ?_
      clear hK K
      clear ga4 ga7
      clear all
      refine q_then_n ?_
      refine awp_cond (t := true) (by simp) (fun _ => ?_) (fun h => by cases h)
      refine awp_seq ?_
      refine awp_keep [1, 2, 3, 4, 8] (by simp only [keepL_nil, keepL_cons, envOf_sel, envOf_nil, sel_t, sel_f, Nat.reduceBEq] <;> rfl) ?_
      refine awp_regionA (c := ⟨[26, 42], [], []⟩) (by simp only [lite_cons, lite_nil] <;> rfl) fun all hall K hK => ?_
      clear hall
      refine vcL_split 1 fun K' hK' => ?_
      simp (maxSteps := 1000000) (disch := first | omega | assumption)
      repeat' refine And.intro ?_ ?_
      all_goals first | omega | exact rfl | skip
      refine hK' _ ?_
      clear hK' K'
      simp only [List.drop_succ_cons, List.drop_zero]
      refine vcL_step fun K' hK' => ?_
      simp (maxSteps := 1000000) (disch := first | omega | assumption)
      refine Ct.mono (Ct.of_le (stOut_fn x0 _ ) (by first | exact leArgs_of rfl | (simp [leArgs, leArg]; done)) rfl) ?_
      rintro _ _ ⟨rfl, rfl⟩
      refine hK' _ ?_
      clear hK' K'
      simp (maxSteps := 1000000) (disch := first | omega | assumption)
      repeat' refine And.intro ?_ ?_
      all_goals first | omega | exact rfl | skip
      refine hK _ ?_
      clear hK K
      clear all
      refine q_then_n ?_
      refine awp_ret ?_
      refine q_then_r ?_
      first | (simp [endQ, shift, g1]; done) | (simp [endQ, shift]; done) | (simp [endQ]; unfold shift; (repeat' split) <;> first | (exfalso; omega) | (simp_all; done)) | (simp [endQ, shift, *]; done) | (simp_all [endQ, shift]; done) | (simp_all [endQ, shift]; omega) | (simp [endQ, shift] <;> split <;> omega)
  · try simp at g1
    all_goals try (exfalso; omega)
    all_goals
      refine vcL_split 3 fun K' hK' => ?_
      simp (maxSteps := 1000000) (disch := first | omega | assumption) [ga4, ga7]
      repeat' refine And.intro ?_ ?_
      all_goals first | omega | exact rfl | skip
      refine hK' _ ?_
      clear hK' K'
      simp only [List.drop_succ_cons, List.drop_zero]
      refine vcL_bool 17 (by simp <;> rfl) ?_
      refine ⟨fun g2 => ?_, fun g2 => ?_⟩
      · try simp at g2
        all_goals try (exfalso; omega)
        all_goals
          simp (maxSteps := 1000000) (disch := first | omega | assumption) [ga4, ga7]
          repeat' refine And.intro ?_ ?_
          all_goals first | omega | exact rfl | skip
          refine hK _ ?_
          clear hK K
          clear ga4 ga7
          clear all
          refine q_then_n ?_
          refine awp_ifB (by simp <;> rfl) ?_
          refine ⟨fun c3 => ?_, fun c3 => ?_⟩
          · try simp at c3
            all_goals try (exfalso; omega)
            all_goals
              refine awp_seq ?_
              refine awp_keep [1, 2, 3, 4, 8] (by simp only [keepL_nil, keepL_cons, envOf_sel, envOf_nil, sel_t, sel_f, Nat.reduceBEq] <;> rfl) ?_
              refine awp_regionA (c := ⟨[26, 42], [], []⟩) (by simp only [lite_cons, lite_nil] <;> rfl) fun all hall K hK => ?_
              clear hall
              refine vcL_split 1 fun K' hK' => ?_
              simp (maxSteps := 1000000) (disch := first | omega | assumption)
              repeat' refine And.intro ?_ ?_
              all_goals first | omega | exact rfl | skip
              refine hK' _ ?_
              clear hK' K'
              simp only [List.drop_succ_cons, List.drop_zero]
              refine vcL_step fun K' hK' => ?_
              simp (maxSteps := 1000000) (disch := first | omega | assumption)
              refine Ct.mono (Ct.of_le (stOut_fn x0 _ ) (by first | exact leArgs_of rfl | (simp [leArgs, leArg]; done)) rfl) ?_
              rintro _ _ ⟨rfl, rfl⟩
              refine hK' _ ?_
              clear hK' K'
              simp (maxSteps := 1000000) (disch := first | omega | assumption)
              repeat' refine And.intro ?_ ?_
              all_goals first | omega | exact rfl | skip
              refine hK _ ?_
              clear hK K
              clear all
              refine q_then_n ?_
              refine awp_ret ?_
              refine q_then_r ?_
              first | (simp [endQ, shift, g1, g2, c3]; done) | (simp [endQ, shift]; done) | (simp [endQ]; unfold shift; (repeat' split) <;> first | (exfalso; omega) | (simp_all; done)) | (simp [endQ, shift, *]; done) | (simp_all [endQ, shift]; done) | (simp_all [endQ, shift]; omega) | (simp [endQ, shift] <;> split <;> omega)
          · try simp at c3
            all_goals try (exfalso; omega)
            all_goals
              refine awp_skip ?_
              refine q_then_n ?_
              refine awp_seq ?_
              refine awp_keep [1, 2, 3, 4, 8] (by simp only [keepL_nil, keepL_cons, envOf_sel, envOf_nil, sel_t, sel_f, Nat.reduceBEq] <;> rfl) ?_
              refine awp_regionA (c := ⟨[26, 42], [], []⟩) (by simp only [lite_cons, lite_nil] <;> rfl) fun all hall K hK => ?_
              clear hall
              refine vcL_split 1 fun K' hK' => ?_
              simp (maxSteps := 1000000) (disch := first | omega | assumption)
              repeat' refine And.intro ?_ ?_
              all_goals first | omega | exact rfl | skip
              refine hK' _ ?_
              clear hK' K'
              simp only [List.drop_succ_cons, List.drop_zero]
              refine vcL_step fun K' hK' => ?_
              simp (maxSteps := 1000000) (disch := first | omega | assumption)
              refine Ct.mono (Ct.of_le (stOut_fn x0 _ ) (by first | exact leArgs_of rfl | (simp [leArgs, leArg]; done)) rfl) ?_
              rintro _ _ ⟨rfl, rfl⟩
              refine hK' _ ?_
              clear hK' K'
              refine vcL_step fun K' hK' => ?_
              simp (maxSteps := 1000000) (disch := first | omega | assumption)
              refine Ct.mono (Ct.of_le (unmove_fn (stOut x0) _ ) (by first | exact leArgs_of rfl | (simp [leArgs, leArg]; done)) rfl) ?_
              rintro _ _ ⟨rfl, rfl⟩
              refine hK' _ ?_
              clear hK' K'
              simp (maxSteps := 1000000) (disch := first | omega | assumption)
              repeat' refine And.intro ?_ ?_
              all_goals first | omega | exact rfl | skip
              refine hK _ ?_
              clear hK K
              clear all
              refine q_then_n ?_
              refine awp_seq ?_
              refine awp_keep [1, 2, 3, 8, 9] (by simp only [keepL_nil, keepL_cons, envOf_sel, envOf_nil, sel_t, sel_f, Nat.reduceBEq] <;> rfl) ?_
              refine awp_regionA (c := ⟨[26, 42], [], []⟩) (by simp only [lite_cons, lite_nil] <;> rfl) fun all hall K hK => ?_
              clear hall
              refine vcL_split 8 fun K' hK' => ?_
              simp (maxSteps := 1000000) (disch := first | omega | assumption)
              repeat' refine And.intro ?_ ?_
              all_goals first | omega | exact rfl | skip
              refine hK' _ ?_
              clear hK' K'
              simp only [List.drop_succ_cons, List.drop_zero]
              refine vcL_split 8 fun K' hK' => ?_
              simp (maxSteps := 1000000) (disch := first | omega | assumption)
              repeat' refine And.intro ?_ ?_
              all_goals first | omega | exact rfl | skip
              refine hK' _ ?_
              clear hK' K'
              simp only [List.drop_succ_cons, List.drop_zero]
              simp (maxSteps := 1000000) (disch := first | omega | assumption)
              repeat' refine And.intro ?_ ?_
              all_goals first | omega | exact rfl | skip
              refine hK _ ?_
              clear hK K
              clear all
              refine q_then_n ?_
              refine awp_seq ?_
              refine awp_keep [8, 9] (by simp only [keepL_nil, keepL_cons, envOf_sel, envOf_nil, sel_t, sel_f, Nat.reduceBEq] <;> rfl) ?_
              refine awp_regionA (c := ⟨[26, 42], [], []⟩) (by simp only [lite_cons, lite_nil] <;> rfl) fun all hall K hK => ?_
              clear hall
              simp (maxSteps := 1000000) (disch := first | omega | assumption)
              repeat' refine And.intro ?_ ?_
              all_goals first | omega | exact rfl | skip
              refine hK _ ?_
              clear hK K
              clear all
              refine q_then_n ?_
              refine awp_seq ?_
              refine awp_regionA (c := ⟨[26, 42], [], []⟩) (by simp only [lite_cons, lite_nil] <;> rfl) fun all hall K hK => ?_
              clear hall
              simp (maxSteps := 1000000) (disch := first | omega | assumption)
              repeat' refine And.intro ?_ ?_
              all_goals first | omega | exact rfl | skip
              refine hK _ ?_
              clear hK K
              clear all
              refine q_then_n ?_
              refine awp_ret ?_
              first | (simp [endQ, shift, g1, g2, c3]; done) | (simp [endQ, shift]; done) | (simp [endQ]; unfold shift; (repeat' split) <;> first | (exfalso; omega) | (simp_all; done)) | (simp [endQ, shift, *]; done) | (simp_all [endQ, shift]; done) | (simp_all [endQ, shift]; omega) | (simp [endQ, shift] <;> split <;> omega)
      · try simp at g2
        all_goals try (exfalso; omega)
        all_goals
          simp (maxSteps := 1000000) (disch := first | omega | assumption) [ga4, ga7]
          repeat' refine And.intro ?_ ?_
          all_goals first | omega | exact rfl | skip
          refine hK _ ?_
          clear hK K
          clear ga4 ga7
          clear all
          refine q_then_n ?_
          refine awp_cond (t := false) (by simp) (fun h => by cases h) (fun _ => ?_)
          refine awp_skip ?_
          refine q_then_n ?_
          refine awp_seq ?_
          refine awp_keep [1, 2, 3, 4, 8] (by simp only [keepL_nil, keepL_cons, envOf_sel, envOf_nil, sel_t, sel_f, Nat.reduceBEq] <;> rfl) ?_
          refine awp_regionA (c := ⟨[26, 42], [], []⟩) (by simp only [lite_cons, lite_nil] <;> rfl) fun all hall K hK => ?_
          clear hall
          refine vcL_split 1 fun K' hK' => ?_
          simp (maxSteps := 1000000) (disch := first | omega | assumption)
          repeat' refine And.intro ?_ ?_
          all_goals first | omega | exact rfl | skip
          refine hK' _ ?_
          clear hK' K'
          simp only [List.drop_succ_cons, List.drop_zero]
          refine vcL_step fun K' hK' => ?_
          simp (maxSteps := 1000000) (disch := first | omega | assumption)
          refine Ct.mono (Ct.of_le (stOut_fn x0 _ ) (by first | exact leArgs_of rfl | (simp [leArgs, leArg]; done)) rfl) ?_
          rintro _ _ ⟨rfl, rfl⟩
          refine hK' _ ?_
          clear hK' K'
          refine vcL_step fun K' hK' => ?_
          simp (maxSteps := 1000000) (disch := first | omega | assumption)
          refine Ct.mono (Ct.of_le (unmove_fn (stOut x0) _ ) (by first | exact leArgs_of rfl | (simp [leArgs, leArg]; done)) rfl) ?_
          rintro _ _ ⟨rfl, rfl⟩
          refine hK' _ ?_
          clear hK' K'
          simp (maxSteps := 1000000) (disch := first | omega | assumption)
          repeat' refine And.intro ?_ ?_
          all_goals first | omega | exact rfl | skip
          refine hK _ ?_
          clear hK K
          clear all
          refine q_then_n ?_
          refine awp_seq ?_
          refine awp_keep [1, 2, 3, 8, 9] (by simp only [keepL_nil, keepL_cons, envOf_sel, envOf_nil, sel_t, sel_f, Nat.reduceBEq] <;> rfl) ?_
          refine awp_regionA (c := ⟨[26, 42], [], []⟩) (by simp only [lite_cons, lite_nil] <;> rfl) fun all hall K hK => ?_
          clear hall
          refine vcL_split 8 fun K' hK' => ?_
          simp (maxSteps := 1000000) (disch := first | omega | assumption)
          repeat' refine And.intro ?_ ?_
          all_goals first | omega | exact rfl | skip
          refine hK' _ ?_
          clear hK' K'
          simp only [List.drop_succ_cons, List.drop_zero]
          refine vcL_split 8 fun K' hK' => ?_
          simp (maxSteps := 1000000) (disch := first | omega | assumption)
          repeat' refine And.intro ?_ ?_
          all_goals first | omega | exact rfl | skip
          refine hK' _ ?_
          clear hK' K'
          simp only [List.drop_succ_cons, List.drop_zero]
          simp (maxSteps := 1000000) (disch := first | omega | assumption)
          repeat' refine And.intro ?_ ?_
          all_goals first | omega | exact rfl | skip
          refine hK _ ?_
          clear hK K
          clear all
          refine q_then_n ?_
          refine awp_seq ?_
          refine awp_keep [8, 9] (by simp only [keepL_nil, keepL_cons, envOf_sel, envOf_nil, sel_t, sel_f, Nat.reduceBEq] <;> rfl) ?_
          refine awp_regionA (c := ⟨[26, 42], [], []⟩) (by simp only [lite_cons, lite_nil] <;> rfl) fun all hall K hK => ?_
          clear hall
          simp (maxSteps := 1000000) (disch := first | omega | assumption)
          repeat' refine And.intro ?_ ?_
          all_goals first | omega | exact rfl | skip
          refine hK _ ?_
          clear hK K
          clear all
          refine q_then_n ?_
          refine awp_seq ?_
          refine awp_regionA (c := ⟨[26, 42], [], []⟩) (by simp only [lite_cons, lite_nil] <;> rfl) fun all hall K hK => ?_
          clear hall
          simp (maxSteps := 1000000) (disch := first | omega | assumption)
          repeat' refine And.intro ?_ ?_
          all_goals first | omega | exact rfl | skip
          refine hK _ ?_
          clear hK K
          clear all
          refine q_then_n ?_
          refine awp_ret ?_
          first | (simp [endQ, shift, g1, g2]; done) | (simp [endQ, shift]; done) | (simp [endQ]; unfold shift; (repeat' split) <;> first | (exfalso; omega) | (simp_all; done)) | (simp [endQ, shift, *]; done) | (simp_all [endQ, shift]; done) | (simp_all [endQ, shift]; omega) | (simp [endQ, shift] <;> split <;> omega)

def moveFrame (x0 : State) : Out := if x0.look.move = 1 then ⟨⟨⟨(((stOut x0).state).look).kind, 2, 0, 0⟩, ((stOut x0).state).dur, ((stOut x0).state).moveDur⟩, (stOut x0).hooks, (stOut x0).job, 2, (stOut x0).end_, (stOut x0).moveEnd, (stOut x0).gone⟩
  else stOut x0
-- (scrim/phase.State).MoveFrame
theorem moveFrame_fn (x0 : State) (σ : List (List D))  : Ct Try.prog 52 [d_State x0] σ (fun r σ' => r = o_Out (moveFrame x0) ∧ σ' = σ) := by
  refine fn_start (rs := [.cell 2 81]) Try.func52 rfl rfl Try.ntmps52 Try.results52 (by simp) ?_
  simp only [argEnv]
  refine awp_seq ?_
  refine awp_regionA (c := ⟨[20], [], []⟩) (by simp only [lite_cons, lite_nil] <;> rfl) fun all hall K hK => ?_
  clear hall
  simp (maxSteps := 1000000) (disch := first | omega | assumption)
  repeat' refine And.intro ?_ ?_
  all_goals first | omega | exact rfl | skip
  refine hK _ ?_
  clear hK K
  clear all
  refine q_then_n ?_
  refine awp_seq ?_
  refine awp_regionA (c := ⟨[20], [], []⟩) (by simp only [lite_cons, lite_nil] <;> rfl) fun all hall K hK => ?_
  clear hall
  refine vcL_split 1 fun K' hK' => ?_
  simp (maxSteps := 1000000) (disch := first | omega | assumption)
  repeat' refine And.intro ?_ ?_
  all_goals first | omega | exact rfl | skip
  refine hK' _ ?_
  clear hK' K'
  simp only [List.drop_succ_cons, List.drop_zero]
  refine vcL_step fun K' hK' => ?_
  simp (maxSteps := 1000000) (disch := first | omega | assumption)
  refine Ct.mono (Ct.of_le (stOut_fn x0 _ ) (by first | exact leArgs_of rfl | (simp [leArgs, leArg]; done)) rfl) ?_
  rintro _ _ ⟨rfl, rfl⟩
  refine hK' _ ?_
  clear hK' K'
  simp (maxSteps := 1000000) (disch := first | omega | assumption)
  repeat' refine And.intro ?_ ?_
  all_goals first | omega | exact rfl | skip
  refine hK _ ?_
  clear hK K
  clear all
  refine q_then_n ?_
  refine awp_seq ?_
  refine awp_seq ?_
  refine awp_regionA (c := ⟨[20], [], []⟩) (by simp only [lite_cons, lite_nil] <;> rfl) fun all hall K hK => ?_
  clear hall
  simp (maxSteps := 1000000) (disch := first | omega | assumption)
  repeat' refine And.intro ?_ ?_
  all_goals first | omega | exact rfl | skip
  refine hK _ ?_
  clear hK K
  clear all
  refine q_then_n ?_
  refine awp_ifB (by simp <;> rfl) ?_
  refine ⟨fun c1 => ?_, fun c1 => ?_⟩
  · try simp at c1
    all_goals try (exfalso; omega)
    all_goals
      refine awp_seq ?_
      refine awp_keep [2, 3] (by simp only [keepL_nil, keepL_cons, envOf_sel, envOf_nil, sel_t, sel_f, Nat.reduceBEq] <;> rfl) ?_
      refine awp_regionA (c := ⟨[20], [], []⟩) (by simp only [lite_cons, lite_nil] <;> rfl) fun all hall K hK => ?_
      clear hall
      refine vcL_split 8 fun K' hK' => ?_
      simp (maxSteps := 1000000) (disch := first | omega | assumption)
      repeat' refine And.intro ?_ ?_
      all_goals first | omega | exact rfl | skip
      refine hK' _ ?_
      clear hK' K'
      simp only [List.drop_succ_cons, List.drop_zero]
      simp (maxSteps := 1000000) (disch := first | omega | assumption)
      repeat' refine And.intro ?_ ?_
      all_goals first | omega | exact rfl | skip
      refine hK _ ?_
      clear hK K
      clear all
      refine q_then_n ?_
      refine awp_regionA (c := ⟨[20], [], []⟩) (by simp only [lite_cons, lite_nil] <;> rfl) fun all hall K hK => ?_
      clear hall
      simp (maxSteps := 1000000) (disch := first | omega | assumption)
      repeat' refine And.intro ?_ ?_
      all_goals first | omega | exact rfl | skip
      refine hK _ ?_
      clear hK K
      clear all
      refine q_then_n ?_
      refine awp_seq ?_
      refine awp_keep [2, 3] (by simp only [keepL_nil, keepL_cons, envOf_sel, envOf_nil, sel_t, sel_f, Nat.reduceBEq] <;> rfl) ?_
      refine awp_regionA (c := ⟨[20], [], []⟩) (by simp only [lite_cons, lite_nil] <;> rfl) fun all hall K hK => ?_
      clear hall
      simp (maxSteps := 1000000) (disch := first | omega | assumption)
      repeat' refine And.intro ?_ ?_
      all_goals first | omega | exact rfl | skip
      refine hK _ ?_
      clear hK K
      clear all
      refine q_then_n ?_
      refine awp_ret ?_
      first | (simp [endQ, moveFrame, c1]; done) | (simp [endQ, moveFrame]; done) | (simp [endQ]; unfold moveFrame; (repeat' split) <;> first | (exfalso; omega) | (simp_all; done)) | (simp [endQ, moveFrame, *]; done) | (simp_all [endQ, moveFrame]; done) | (simp_all [endQ, moveFrame]; omega) | (simp [endQ, moveFrame] <;> split <;> omega)
  · try simp at c1
    all_goals try (exfalso; omega)
    all_goals
      refine awp_skip ?_
      refine q_then_n ?_
      refine awp_seq ?_
      refine awp_regionA (c := ⟨[20], [], []⟩) (by simp only [lite_cons, lite_nil] <;> rfl) fun all hall K hK => ?_
      clear hall
      simp (maxSteps := 1000000) (disch := first | omega | assumption)
      repeat' refine And.intro ?_ ?_
      all_goals first | omega | exact rfl | skip
      refine hK _ ?_
      clear hK K
      clear all
      refine q_then_n ?_
      refine awp_ret ?_
      first | (simp [endQ, moveFrame, c1]; done) | (simp [endQ, moveFrame]; done) | (simp [endQ]; unfold moveFrame; (repeat' split) <;> first | (exfalso; omega) | (simp_all; done)) | (simp [endQ, moveFrame, *]; done) | (simp_all [endQ, moveFrame]; done) | (simp_all [endQ, moveFrame]; omega) | (simp [endQ, moveFrame] <;> split <;> omega)

def moveFinish (x0 : State) : Out := if x0.look.move ≠ 2 then stOut x0
  else unmove (stOut x0)
-- (scrim/phase.State).MoveFinish
theorem moveFinish_fn (x0 : State) (σ : List (List D))  : Ct Try.prog 54 [d_State x0] σ (fun r σ' => r = o_Out (moveFinish x0) ∧ σ' = σ) := by
  refine fn_start (rs := [.cell 2 81]) Try.func54 rfl rfl Try.ntmps54 Try.results54 (by simp) ?_
  simp only [argEnv]
  refine awp_seq ?_
  refine awp_regionA (c := ⟨[11], [], []⟩) (by simp only [lite_cons, lite_nil] <;> rfl) fun all hall K hK => ?_
  clear hall
  simp (maxSteps := 1000000) (disch := first | omega | assumption)
  repeat' refine And.intro ?_ ?_
  all_goals first | omega | exact rfl | skip
  refine hK _ ?_
  clear hK K
  clear all
  refine q_then_n ?_
  refine awp_seq ?_
  refine awp_seq ?_
  refine awp_regionA (c := ⟨[11], [], []⟩) (by simp only [lite_cons, lite_nil] <;> rfl) fun all hall K hK => ?_
  clear hall
  simp (maxSteps := 1000000) (disch := first | omega | assumption)
  repeat' refine And.intro ?_ ?_
  all_goals first | omega | exact rfl | skip
  refine hK _ ?_
  clear hK K
  clear all
  refine q_then_n ?_
  refine awp_ifB (by simp <;> rfl) ?_
  refine ⟨fun c1 => ?_, fun c1 => ?_⟩
  · try simp at c1
    all_goals try (exfalso; omega)
    all_goals
      refine awp_seq ?_
      refine awp_regionA (c := ⟨[11], [], []⟩) (by simp only [lite_cons, lite_nil] <;> rfl) fun all hall K hK => ?_
      clear hall
      refine vcL_split 1 fun K' hK' => ?_
      simp (maxSteps := 1000000) (disch := first | omega | assumption)
      repeat' refine And.intro ?_ ?_
      all_goals first | omega | exact rfl | skip
      refine hK' _ ?_
      clear hK' K'
      simp only [List.drop_succ_cons, List.drop_zero]
      refine vcL_step fun K' hK' => ?_
      simp (maxSteps := 1000000) (disch := first | omega | assumption)
      refine Ct.mono (Ct.of_le (stOut_fn x0 _ ) (by first | exact leArgs_of rfl | (simp [leArgs, leArg]; done)) rfl) ?_
      rintro _ _ ⟨rfl, rfl⟩
      refine hK' _ ?_
      clear hK' K'
      simp (maxSteps := 1000000) (disch := first | omega | assumption)
      repeat' refine And.intro ?_ ?_
      all_goals first | omega | exact rfl | skip
      refine hK _ ?_
      clear hK K
      clear all
      refine q_then_n ?_
      refine awp_ret ?_
      refine q_then_r ?_
      first | (simp [endQ, moveFinish, c1]; done) | (simp [endQ, moveFinish]; done) | (simp [endQ]; unfold moveFinish; (repeat' split) <;> first | (exfalso; omega) | (simp_all; done)) | (simp [endQ, moveFinish, *]; done) | (simp_all [endQ, moveFinish]; done) | (simp_all [endQ, moveFinish]; omega) | (simp [endQ, moveFinish] <;> split <;> omega)
  · try simp at c1
    all_goals try (exfalso; omega)
    all_goals
      refine awp_skip ?_
      refine q_then_n ?_
      refine awp_seq ?_
      refine awp_regionA (c := ⟨[11], [], []⟩) (by simp only [lite_cons, lite_nil] <;> rfl) fun all hall K hK => ?_
      clear hall
      refine vcL_split 1 fun K' hK' => ?_
      simp (maxSteps := 1000000) (disch := first | omega | assumption)
      repeat' refine And.intro ?_ ?_
      all_goals first | omega | exact rfl | skip
      refine hK' _ ?_
      clear hK' K'
      simp only [List.drop_succ_cons, List.drop_zero]
      refine vcL_step fun K' hK' => ?_
      simp (maxSteps := 1000000) (disch := first | omega | assumption)
      refine Ct.mono (Ct.of_le (stOut_fn x0 _ ) (by first | exact leArgs_of rfl | (simp [leArgs, leArg]; done)) rfl) ?_
      rintro _ _ ⟨rfl, rfl⟩
      refine hK' _ ?_
      clear hK' K'
      refine vcL_step fun K' hK' => ?_
      simp (maxSteps := 1000000) (disch := first | omega | assumption)
      refine Ct.mono (Ct.of_le (unmove_fn (stOut x0) _ ) (by first | exact leArgs_of rfl | (simp [leArgs, leArg]; done)) rfl) ?_
      rintro _ _ ⟨rfl, rfl⟩
      refine hK' _ ?_
      clear hK' K'
      simp (maxSteps := 1000000) (disch := first | omega | assumption)
      repeat' refine And.intro ?_ ?_
      all_goals first | omega | exact rfl | skip
      refine hK _ ?_
      clear hK K
      clear all
      refine q_then_n ?_
      refine awp_ret ?_
      first | (simp [endQ, moveFinish, c1]; done) | (simp [endQ, moveFinish]; done) | (simp [endQ]; unfold moveFinish; (repeat' split) <;> first | (exfalso; omega) | (simp_all; done)) | (simp [endQ, moveFinish, *]; done) | (simp_all [endQ, moveFinish]; done) | (simp_all [endQ, moveFinish]; omega) | (simp [endQ, moveFinish] <;> split <;> omega)

def new (x0 : Bool) : State := if x0 = true then ⟨⟨1, 0, 0, 0⟩, 0, 0⟩
  else ⟨⟨0, 0, 0, 0⟩, 0, 0⟩
-- scrim/scrimlaw21.New
theorem new_fn (x0 : Bool) (σ : List (List D))  : Ct Try.prog 44 [.v (.bool x0)] σ (fun r σ' => r = d_State (new x0) ∧ σ' = σ) := by
  refine fn_start (rs := [.cell 2 75]) Try.func44 rfl rfl Try.ntmps44 Try.results44 (by simp) ?_
  simp only [argEnv]
  refine awp_seq ?_
  refine awp_regionA (c := ⟨[], [], []⟩) (by simp only [lite_cons, lite_nil] <;> rfl) fun all hall K hK => ?_
  clear hall
  simp (maxSteps := 1000000) (disch := first | omega | assumption)
  repeat' refine And.intro ?_ ?_
  all_goals first | omega | exact rfl | skip
  refine hK _ ?_
  clear hK K
  clear all
  refine q_then_n ?_
  refine awp_seq ?_
  refine awp_seq ?_
  refine awp_regionA (c := ⟨[], [], []⟩) (by simp only [lite_cons, lite_nil] <;> rfl) fun all hall K hK => ?_
  clear hall
  simp (maxSteps := 1000000) (disch := first | omega | assumption)
  repeat' refine And.intro ?_ ?_
  all_goals first | omega | exact rfl | skip
  refine hK _ ?_
  clear hK K
  clear all
  refine q_then_n ?_
  refine awp_ifB (by simp <;> rfl) ?_
  refine ⟨fun c1 => ?_, fun c1 => ?_⟩
  · try simp at c1
    all_goals try (exfalso; omega)
    all_goals
      refine awp_seq ?_
      refine awp_regionA (c := ⟨[], [], []⟩) (by simp only [lite_cons, lite_nil] <;> rfl) fun all hall K hK => ?_
      clear hall
      simp (maxSteps := 1000000) (disch := first | omega | assumption)
      repeat' refine And.intro ?_ ?_
      all_goals first | omega | exact rfl | skip
      refine hK _ ?_
      clear hK K
      clear all
      refine q_then_n ?_
      refine awp_ret ?_
      refine q_then_r ?_
      first | (simp [endQ, new, c1]; done) | (simp [endQ, new]; done) | (simp [endQ]; unfold new; (repeat' split) <;> first | (exfalso; omega) | (simp_all; done)) | (simp [endQ, new, *]; done) | (simp_all [endQ, new]; done) | (simp_all [endQ, new]; omega) | (simp [endQ, new] <;> split <;> omega)
  · try simp at c1
    all_goals try (exfalso; omega)
    all_goals
      refine awp_skip ?_
      refine q_then_n ?_
      refine awp_seq ?_
      refine awp_regionA (c := ⟨[], [], []⟩) (by simp only [lite_cons, lite_nil] <;> rfl) fun all hall K hK => ?_
      clear hall
      simp (maxSteps := 1000000) (disch := first | omega | assumption)
      repeat' refine And.intro ?_ ?_
      all_goals first | omega | exact rfl | skip
      refine hK _ ?_
      clear hK K
      clear all
      refine q_then_n ?_
      refine awp_ret ?_
      first | (simp [endQ, new, c1]; done) | (simp [endQ, new]; done) | (simp [endQ]; unfold new; (repeat' split) <;> first | (exfalso; omega) | (simp_all; done)) | (simp [endQ, new, *]; done) | (simp_all [endQ, new]; done) | (simp_all [endQ, new]; omega) | (simp [endQ, new] <;> split <;> omega)

def told (x0 : State) : State := x0
-- scrim/scrimlaw21.Told
theorem told_fn (x0 : State) (σ : List (List D))  : Ct Try.prog 55 [d_State x0] σ (fun r σ' => r = d_State (told x0) ∧ σ' = σ) := by
  refine fn_start (rs := [.cell 2 89]) Try.func55 rfl rfl Try.ntmps55 Try.results55 (by simp) ?_
  simp only [argEnv]
  refine awp_seq ?_
  refine awp_regionA (c := ⟨[], [], []⟩) (by simp only [lite_cons, lite_nil] <;> rfl) fun all hall K hK => ?_
  clear hall
  simp (maxSteps := 1000000) (disch := first | omega | assumption)
  repeat' refine And.intro ?_ ?_
  all_goals first | omega | exact rfl | skip
  refine hK _ ?_
  clear hK K
  clear all
  refine q_then_n ?_
  refine awp_seq ?_
  refine awp_regionA (c := ⟨[], [], []⟩) (by simp only [lite_cons, lite_nil] <;> rfl) fun all hall K hK => ?_
  clear hall
  simp (maxSteps := 1000000) (disch := first | omega | assumption)
  repeat' refine And.intro ?_ ?_
  all_goals first | omega | exact rfl | skip
  refine hK _ ?_
  clear hK K
  clear all
  refine q_then_n ?_
  refine awp_ret ?_
  first | (simp [endQ, told]; done) | (simp [endQ, told]; done) | (simp [endQ]; unfold told; (repeat' split) <;> first | (exfalso; omega) | (simp_all; done)) | (simp [endQ, told, *]; done) | (simp_all [endQ, told]; done) | (simp_all [endQ, told]; omega) | (simp [endQ, told] <;> split <;> omega)

structure Act where
  call : Int
  dur : Int
  DX : Int
  DY : Int
  once : Bool
  deriving DecidableEq
@[simp] abbrev d_Act (s : Act) : D := .agg [.v (.int .i64 s.call), .v (.int .i64 s.dur), .v (.int .i64 s.DX), .v (.int .i64 s.DY), .v (.bool s.once)]

def do_ (x0 : State) (x1 : Act) : Out := if x1.call = 0 then enter x0 x1.dur x1.once
  else if x1.call = 1 then leave x0 x1.dur x1.once
    else if x1.call = 2 then hold x0
      else if x1.call = 3 then return_ x0
        else if x1.call = 4 then frame x0
          else if x1.call = 5 then finish x0
            else if x1.call = 6 then cancel x0
              else if x1.call = 7 then settle x0
                else if x1.call = 8 then shift x0 x1.DX x1.DY x1.dur
                  else if x1.call = 9 then moveFrame x0
                    else moveFinish x0
-- scrim/scrimlaw21.Do
theorem do__fn (x0 : State) (x1 : Act) (σ : List (List D))  : Ct Try.prog 46 [d_State x0, d_Act x1] σ (fun r σ' => r = o_Out (do_ x0 x1) ∧ σ' = σ) := by
  refine fn_start (rs := [.cell 4 81]) Try.func46 rfl rfl Try.ntmps46 Try.results46 (by simp) ?_
  simp only [argEnv]
  refine awp_seq ?_
  refine awp_regionA (c := ⟨[], [], []⟩) (by simp only [lite_cons, lite_nil] <;> rfl) fun all hall K hK => ?_
  clear hall
  simp (maxSteps := 1000000) (disch := first | omega | assumption)
  repeat' refine And.intro ?_ ?_
  all_goals first | omega | exact rfl | skip
  refine hK _ ?_
  clear hK K
  clear all
  refine q_then_n ?_
  refine awp_seq ?_
  refine awp_seq ?_
  refine awp_regionA (c := ⟨[], [], []⟩) (by simp only [lite_cons, lite_nil] <;> rfl) fun all hall K hK => ?_
  clear hall
  simp (maxSteps := 1000000) (disch := first | omega | assumption)
  repeat' refine And.intro ?_ ?_
  all_goals first | omega | exact rfl | skip
  refine hK _ ?_
  clear hK K
  clear all
  refine q_then_n ?_
  refine awp_block ?_
  refine awp_seq ?_
  refine awp_regionA (c := ⟨[], [], []⟩) (by simp only [lite_cons, lite_nil] <;> rfl) fun all hall K hK => ?_
  clear hall
  simp (maxSteps := 1000000) (disch := first | omega | assumption)
  repeat' refine And.intro ?_ ?_
  all_goals first | omega | exact rfl | skip
  refine hK _ ?_
  clear hK K
  clear all
  refine q_then_n ?_
  refine awp_ifB (by simp <;> rfl) ?_
  refine ⟨fun c1 => ?_, fun c1 => ?_⟩
  · try simp at c1
    all_goals try (exfalso; omega)
    all_goals
      refine awp_seq ?_
      refine awp_regionA (c := ⟨[], [], []⟩) (by simp only [lite_cons, lite_nil] <;> rfl) fun all hall K hK => ?_
      clear hall
      refine vcL_split 5 fun K' hK' => ?_
      simp (maxSteps := 1000000) (disch := first | omega | assumption)
      repeat' refine And.intro ?_ ?_
      all_goals first | omega | exact rfl | skip
      refine hK' _ ?_
      clear hK' K'
      simp only [List.drop_succ_cons, List.drop_zero]
      refine vcL_step fun K' hK' => ?_
      simp (maxSteps := 1000000) (disch := first | omega | assumption)
      refine Ct.mono (Ct.of_le (enter_fn x0 x1.dur x1.once _ ) (by first | exact leArgs_of rfl | (simp [leArgs, leArg]; done)) rfl) ?_
      rintro _ _ ⟨rfl, rfl⟩
      refine hK' _ ?_
      clear hK' K'
      simp (maxSteps := 1000000) (disch := first | omega | assumption)
      repeat' refine And.intro ?_ ?_
      all_goals first | omega | exact rfl | skip
      refine hK _ ?_
      clear hK K
      clear all
      refine q_then_n ?_
      refine awp_ret ?_
      refine q_block_r ?_
      refine q_then_r ?_
      first | (simp [endQ, do_, c1]; done) | (simp [endQ, do_]; done) | (simp [endQ]; unfold do_; (repeat' split) <;> first | (exfalso; omega) | (simp_all; done)) | (simp [endQ, do_, *]; done) | (simp_all [endQ, do_]; done) | (simp_all [endQ, do_]; omega) | (simp [endQ, do_] <;> split <;> omega)
  · try simp at c1
    all_goals try (exfalso; omega)
    all_goals
      refine awp_seq ?_
      refine awp_regionA (c := ⟨[], [], []⟩) (by simp only [lite_cons, lite_nil] <;> rfl) fun all hall K hK => ?_
      clear hall
      simp (maxSteps := 1000000) (disch := first | omega | assumption)
      repeat' refine And.intro ?_ ?_
      all_goals first | omega | exact rfl | skip
      refine hK _ ?_
      clear hK K
      clear all
      refine q_then_n ?_
      refine awp_ifB (by simp <;> rfl) ?_
      refine ⟨fun c2 => ?_, fun c2 => ?_⟩
      · try simp at c2
        all_goals try (exfalso; omega)
        all_goals
          refine awp_seq ?_
          refine awp_regionA (c := ⟨[], [], []⟩) (by simp only [lite_cons, lite_nil] <;> rfl) fun all hall K hK => ?_
          clear hall
          refine vcL_split 5 fun K' hK' => ?_
          simp (maxSteps := 1000000) (disch := first | omega | assumption)
          repeat' refine And.intro ?_ ?_
          all_goals first | omega | exact rfl | skip
          refine hK' _ ?_
          clear hK' K'
          simp only [List.drop_succ_cons, List.drop_zero]
          refine vcL_step fun K' hK' => ?_
          simp (maxSteps := 1000000) (disch := first | omega | assumption)
          refine Ct.mono (Ct.of_le (leave_fn x0 x1.dur x1.once _ ) (by first | exact leArgs_of rfl | (simp [leArgs, leArg]; done)) rfl) ?_
          rintro _ _ ⟨rfl, rfl⟩
          refine hK' _ ?_
          clear hK' K'
          simp (maxSteps := 1000000) (disch := first | omega | assumption)
          repeat' refine And.intro ?_ ?_
          all_goals first | omega | exact rfl | skip
          refine hK _ ?_
          clear hK K
          clear all
          refine q_then_n ?_
          refine awp_ret ?_
          refine q_block_r ?_
          refine q_then_r ?_
          first | (simp [endQ, do_, c1, c2]; done) | (simp [endQ, do_]; done) | (simp [endQ]; unfold do_; (repeat' split) <;> first | (exfalso; omega) | (simp_all; done)) | (simp [endQ, do_, *]; done) | (simp_all [endQ, do_]; done) | (simp_all [endQ, do_]; omega) | (simp [endQ, do_] <;> split <;> omega)
      · try simp at c2
        all_goals try (exfalso; omega)
        all_goals
          refine awp_seq ?_
          refine awp_regionA (c := ⟨[], [], []⟩) (by simp only [lite_cons, lite_nil] <;> rfl) fun all hall K hK => ?_
          clear hall
          simp (maxSteps := 1000000) (disch := first | omega | assumption)
          repeat' refine And.intro ?_ ?_
          all_goals first | omega | exact rfl | skip
          refine hK _ ?_
          clear hK K
          clear all
          refine q_then_n ?_
          refine awp_ifB (by simp <;> rfl) ?_
          refine ⟨fun c3 => ?_, fun c3 => ?_⟩
          · try simp at c3
            all_goals try (exfalso; omega)
            all_goals
              refine awp_seq ?_
              refine awp_regionA (c := ⟨[], [], []⟩) (by simp only [lite_cons, lite_nil] <;> rfl) fun all hall K hK => ?_
              clear hall
              refine vcL_split 1 fun K' hK' => ?_
              simp (maxSteps := 1000000) (disch := first | omega | assumption)
              repeat' refine And.intro ?_ ?_
              all_goals first | omega | exact rfl | skip
              refine hK' _ ?_
              clear hK' K'
              simp only [List.drop_succ_cons, List.drop_zero]
              refine vcL_step fun K' hK' => ?_
              simp (maxSteps := 1000000) (disch := first | omega | assumption)
              refine Ct.mono (Ct.of_le (hold_fn x0 _ ) (by first | exact leArgs_of rfl | (simp [leArgs, leArg]; done)) rfl) ?_
              rintro _ _ ⟨rfl, rfl⟩
              refine hK' _ ?_
              clear hK' K'
              simp (maxSteps := 1000000) (disch := first | omega | assumption)
              repeat' refine And.intro ?_ ?_
              all_goals first | omega | exact rfl | skip
              refine hK _ ?_
              clear hK K
              clear all
              refine q_then_n ?_
              refine awp_ret ?_
              refine q_block_r ?_
              refine q_then_r ?_
              first | (simp [endQ, do_, c1, c2, c3]; done) | (simp [endQ, do_]; done) | (simp [endQ]; unfold do_; (repeat' split) <;> first | (exfalso; omega) | (simp_all; done)) | (simp [endQ, do_, *]; done) | (simp_all [endQ, do_]; done) | (simp_all [endQ, do_]; omega) | (simp [endQ, do_] <;> split <;> omega)
          · try simp at c3
            all_goals try (exfalso; omega)
            all_goals
              refine awp_seq ?_
              refine awp_regionA (c := ⟨[], [], []⟩) (by simp only [lite_cons, lite_nil] <;> rfl) fun all hall K hK => ?_
              clear hall
              simp (maxSteps := 1000000) (disch := first | omega | assumption)
              repeat' refine And.intro ?_ ?_
              all_goals first | omega | exact rfl | skip
              refine hK _ ?_
              clear hK K
              clear all
              refine q_then_n ?_
              refine awp_ifB (by simp <;> rfl) ?_
              refine ⟨fun c4 => ?_, fun c4 => ?_⟩
              · try simp at c4
                all_goals try (exfalso; omega)
                all_goals
                  refine awp_seq ?_
                  refine awp_keep [2, 4] (by simp only [keepL_nil, keepL_cons, envOf_sel, envOf_nil, sel_t, sel_f, Nat.reduceBEq] <;> rfl) ?_
                  refine awp_regionA (c := ⟨[], [], []⟩) (by simp only [lite_cons, lite_nil] <;> rfl) fun all hall K hK => ?_
                  clear hall
                  refine vcL_split 1 fun K' hK' => ?_
                  simp (maxSteps := 1000000) (disch := first | omega | assumption)
                  repeat' refine And.intro ?_ ?_
                  all_goals first | omega | exact rfl | skip
                  refine hK' _ ?_
                  clear hK' K'
                  simp only [List.drop_succ_cons, List.drop_zero]
                  refine vcL_step fun K' hK' => ?_
                  simp (maxSteps := 1000000) (disch := first | omega | assumption)
                  refine Ct.mono (Ct.of_le (return__fn x0 _ ) (by first | exact leArgs_of rfl | (simp [leArgs, leArg]; done)) rfl) ?_
                  rintro _ _ ⟨rfl, rfl⟩
                  refine hK' _ ?_
                  clear hK' K'
                  simp (maxSteps := 1000000) (disch := first | omega | assumption)
                  repeat' refine And.intro ?_ ?_
                  all_goals first | omega | exact rfl | skip
                  refine hK _ ?_
                  clear hK K
                  clear all
                  refine q_then_n ?_
                  refine awp_ret ?_
                  refine q_block_r ?_
                  refine q_then_r ?_
                  first | (simp [endQ, do_, c1, c2, c3, c4]; done) | (simp [endQ, do_]; done) | (simp [endQ]; unfold do_; (repeat' split) <;> first | (exfalso; omega) | (simp_all; done)) | (simp [endQ, do_, *]; done) | (simp_all [endQ, do_]; done) | (simp_all [endQ, do_]; omega) | (simp [endQ, do_] <;> split <;> omega)
              · try simp at c4
                all_goals try (exfalso; omega)
                all_goals
                  refine awp_seq ?_
                  refine awp_keep [2, 3, 4, 6] (by simp only [keepL_nil, keepL_cons, envOf_sel, envOf_nil, sel_t, sel_f, Nat.reduceBEq] <;> rfl) ?_
                  refine awp_regionA (c := ⟨[], [], []⟩) (by simp only [lite_cons, lite_nil] <;> rfl) fun all hall K hK => ?_
                  clear hall
                  simp (maxSteps := 1000000) (disch := first | omega | assumption)
                  repeat' refine And.intro ?_ ?_
                  all_goals first | omega | exact rfl | skip
                  refine hK _ ?_
                  clear hK K
                  clear all
                  refine q_then_n ?_
                  refine awp_ifB (by simp <;> rfl) ?_
                  refine ⟨fun c5 => ?_, fun c5 => ?_⟩
                  · try simp at c5
                    all_goals try (exfalso; omega)
                    all_goals
                      refine awp_seq ?_
                      refine awp_regionA (c := ⟨[], [], []⟩) (by simp only [lite_cons, lite_nil] <;> rfl) fun all hall K hK => ?_
                      clear hall
                      refine vcL_split 1 fun K' hK' => ?_
                      simp (maxSteps := 1000000) (disch := first | omega | assumption)
                      repeat' refine And.intro ?_ ?_
                      all_goals first | omega | exact rfl | skip
                      refine hK' _ ?_
                      clear hK' K'
                      simp only [List.drop_succ_cons, List.drop_zero]
                      refine vcL_step fun K' hK' => ?_
                      simp (maxSteps := 1000000) (disch := first | omega | assumption)
                      refine Ct.mono (Ct.of_le (frame_fn x0 _ ) (by first | exact leArgs_of rfl | (simp [leArgs, leArg]; done)) rfl) ?_
                      rintro _ _ ⟨rfl, rfl⟩
                      refine hK' _ ?_
                      clear hK' K'
                      simp (maxSteps := 1000000) (disch := first | omega | assumption)
                      repeat' refine And.intro ?_ ?_
                      all_goals first | omega | exact rfl | skip
                      refine hK _ ?_
                      clear hK K
                      clear all
                      refine q_then_n ?_
                      refine awp_ret ?_
                      refine q_block_r ?_
                      refine q_then_r ?_
                      first | (simp [endQ, do_, c1, c2, c3, c4, c5]; done) | (simp [endQ, do_]; done) | (simp [endQ]; unfold do_; (repeat' split) <;> first | (exfalso; omega) | (simp_all; done)) | (simp [endQ, do_, *]; done) | (simp_all [endQ, do_]; done) | (simp_all [endQ, do_]; omega) | (simp [endQ, do_] <;> split <;> omega)
                  · try simp at c5
                    all_goals try (exfalso; omega)
                    all_goals
                      refine awp_seq ?_
                      refine awp_regionA (c := ⟨[], [], []⟩) (by simp only [lite_cons, lite_nil] <;> rfl) fun all hall K hK => ?_
                      clear hall
                      simp (maxSteps := 1000000) (disch := first | omega | assumption)
                      repeat' refine And.intro ?_ ?_
                      all_goals first | omega | exact rfl | skip
                      refine hK _ ?_
                      clear hK K
                      clear all
                      refine q_then_n ?_
                      refine awp_ifB (by simp <;> rfl) ?_
                      refine ⟨fun c6 => ?_, fun c6 => ?_⟩
                      · try simp at c6
                        all_goals try (exfalso; omega)
                        all_goals
                          refine awp_seq ?_
                          refine awp_regionA (c := ⟨[], [], []⟩) (by simp only [lite_cons, lite_nil] <;> rfl) fun all hall K hK => ?_
                          clear hall
                          refine vcL_split 1 fun K' hK' => ?_
                          simp (maxSteps := 1000000) (disch := first | omega | assumption)
                          repeat' refine And.intro ?_ ?_
                          all_goals first | omega | exact rfl | skip
                          refine hK' _ ?_
                          clear hK' K'
                          simp only [List.drop_succ_cons, List.drop_zero]
                          refine vcL_step fun K' hK' => ?_
                          simp (maxSteps := 1000000) (disch := first | omega | assumption)
                          refine Ct.mono (Ct.of_le (finish_fn x0 _ ) (by first | exact leArgs_of rfl | (simp [leArgs, leArg]; done)) rfl) ?_
                          rintro _ _ ⟨rfl, rfl⟩
                          refine hK' _ ?_
                          clear hK' K'
                          simp (maxSteps := 1000000) (disch := first | omega | assumption)
                          repeat' refine And.intro ?_ ?_
                          all_goals first | omega | exact rfl | skip
                          refine hK _ ?_
                          clear hK K
                          clear all
                          refine q_then_n ?_
                          refine awp_ret ?_
                          refine q_block_r ?_
                          refine q_then_r ?_
                          first | (simp [endQ, do_, c1, c2, c3, c4, c5, c6]; done) | (simp [endQ, do_]; done) | (simp [endQ]; unfold do_; (repeat' split) <;> first | (exfalso; omega) | (simp_all; done)) | (simp [endQ, do_, *]; done) | (simp_all [endQ, do_]; done) | (simp_all [endQ, do_]; omega) | (simp [endQ, do_] <;> split <;> omega)
                      · try simp at c6
                        all_goals try (exfalso; omega)
                        all_goals
                          refine awp_seq ?_
                          refine awp_regionA (c := ⟨[], [], []⟩) (by simp only [lite_cons, lite_nil] <;> rfl) fun all hall K hK => ?_
                          clear hall
                          simp (maxSteps := 1000000) (disch := first | omega | assumption)
                          repeat' refine And.intro ?_ ?_
                          all_goals first | omega | exact rfl | skip
                          refine hK _ ?_
                          clear hK K
                          clear all
                          refine q_then_n ?_
                          refine awp_ifB (by simp <;> rfl) ?_
                          refine ⟨fun c7 => ?_, fun c7 => ?_⟩
                          · try simp at c7
                            all_goals try (exfalso; omega)
                            all_goals
                              refine awp_seq ?_
                              refine awp_regionA (c := ⟨[], [], []⟩) (by simp only [lite_cons, lite_nil] <;> rfl) fun all hall K hK => ?_
                              clear hall
                              refine vcL_split 1 fun K' hK' => ?_
                              simp (maxSteps := 1000000) (disch := first | omega | assumption)
                              repeat' refine And.intro ?_ ?_
                              all_goals first | omega | exact rfl | skip
                              refine hK' _ ?_
                              clear hK' K'
                              simp only [List.drop_succ_cons, List.drop_zero]
                              refine vcL_step fun K' hK' => ?_
                              simp (maxSteps := 1000000) (disch := first | omega | assumption)
                              refine Ct.mono (Ct.of_le (cancel_fn x0 _ ) (by first | exact leArgs_of rfl | (simp [leArgs, leArg]; done)) rfl) ?_
                              rintro _ _ ⟨rfl, rfl⟩
                              refine hK' _ ?_
                              clear hK' K'
                              simp (maxSteps := 1000000) (disch := first | omega | assumption)
                              repeat' refine And.intro ?_ ?_
                              all_goals first | omega | exact rfl | skip
                              refine hK _ ?_
                              clear hK K
                              clear all
                              refine q_then_n ?_
                              refine awp_ret ?_
                              refine q_block_r ?_
                              refine q_then_r ?_
                              first | (simp [endQ, do_, c1, c2, c3, c4, c5, c6, c7]; done) | (simp [endQ, do_]; done) | (simp [endQ]; unfold do_; (repeat' split) <;> first | (exfalso; omega) | (simp_all; done)) | (simp [endQ, do_, *]; done) | (simp_all [endQ, do_]; done) | (simp_all [endQ, do_]; omega) | (simp [endQ, do_] <;> split <;> omega)
                          · try simp at c7
                            all_goals try (exfalso; omega)
                            all_goals
                              refine awp_seq ?_
                              refine awp_regionA (c := ⟨[], [], []⟩) (by simp only [lite_cons, lite_nil] <;> rfl) fun all hall K hK => ?_
                              clear hall
                              simp (maxSteps := 1000000) (disch := first | omega | assumption)
                              repeat' refine And.intro ?_ ?_
                              all_goals first | omega | exact rfl | skip
                              refine hK _ ?_
                              clear hK K
                              clear all
                              refine q_then_n ?_
                              refine awp_ifB (by simp <;> rfl) ?_
                              refine ⟨fun c8 => ?_, fun c8 => ?_⟩
                              · try simp at c8
                                all_goals try (exfalso; omega)
                                all_goals
                                  refine awp_seq ?_
                                  refine awp_keep [2, 4] (by simp only [keepL_nil, keepL_cons, envOf_sel, envOf_nil, sel_t, sel_f, Nat.reduceBEq] <;> rfl) ?_
                                  refine awp_regionA (c := ⟨[], [], []⟩) (by simp only [lite_cons, lite_nil] <;> rfl) fun all hall K hK => ?_
                                  clear hall
                                  refine vcL_split 1 fun K' hK' => ?_
                                  simp (maxSteps := 1000000) (disch := first | omega | assumption)
                                  repeat' refine And.intro ?_ ?_
                                  all_goals first | omega | exact rfl | skip
                                  refine hK' _ ?_
                                  clear hK' K'
                                  simp only [List.drop_succ_cons, List.drop_zero]
                                  refine vcL_step fun K' hK' => ?_
                                  simp (maxSteps := 1000000) (disch := first | omega | assumption)
                                  refine Ct.mono (Ct.of_le (settle_fn x0 _ ) (by first | exact leArgs_of rfl | (simp [leArgs, leArg]; done)) rfl) ?_
                                  rintro _ _ ⟨rfl, rfl⟩
                                  refine hK' _ ?_
                                  clear hK' K'
                                  simp (maxSteps := 1000000) (disch := first | omega | assumption)
                                  repeat' refine And.intro ?_ ?_
                                  all_goals first | omega | exact rfl | skip
                                  refine hK _ ?_
                                  clear hK K
                                  clear all
                                  refine q_then_n ?_
                                  refine awp_ret ?_
                                  refine q_block_r ?_
                                  refine q_then_r ?_
                                  first | (simp [endQ, do_, c1, c2, c3, c4, c5, c6, c7, c8]; done) | (simp [endQ, do_]; done) | (simp [endQ]; unfold do_; (repeat' split) <;> first | (exfalso; omega) | (simp_all; done)) | (simp [endQ, do_, *]; done) | (simp_all [endQ, do_]; done) | (simp_all [endQ, do_]; omega) | (simp [endQ, do_] <;> split <;> omega)
                              · try simp at c8
                                all_goals try (exfalso; omega)
                                all_goals
                                  refine awp_seq ?_
                                  refine awp_keep [2, 3, 4, 6] (by simp only [keepL_nil, keepL_cons, envOf_sel, envOf_nil, sel_t, sel_f, Nat.reduceBEq] <;> rfl) ?_
                                  refine awp_regionA (c := ⟨[], [], []⟩) (by simp only [lite_cons, lite_nil] <;> rfl) fun all hall K hK => ?_
                                  clear hall
                                  simp (maxSteps := 1000000) (disch := first | omega | assumption)
                                  repeat' refine And.intro ?_ ?_
                                  all_goals first | omega | exact rfl | skip
                                  refine hK _ ?_
                                  clear hK K
                                  clear all
                                  refine q_then_n ?_
                                  refine awp_ifB (by simp <;> rfl) ?_
                                  refine ⟨fun c9 => ?_, fun c9 => ?_⟩
                                  · try simp at c9
                                    all_goals try (exfalso; omega)
                                    all_goals
                                      refine awp_seq ?_
                                      refine awp_regionA (c := ⟨[], [], []⟩) (by simp only [lite_cons, lite_nil] <;> rfl) fun all hall K hK => ?_
                                      clear hall
                                      refine vcL_split 7 fun K' hK' => ?_
                                      simp (maxSteps := 1000000) (disch := first | omega | assumption)
                                      repeat' refine And.intro ?_ ?_
                                      all_goals first | omega | exact rfl | skip
                                      refine hK' _ ?_
                                      clear hK' K'
                                      simp only [List.drop_succ_cons, List.drop_zero]
                                      refine vcL_step fun K' hK' => ?_
                                      simp (maxSteps := 1000000) (disch := first | omega | assumption)
                                      refine Ct.mono (Ct.of_le (shift_fn x0 x1.DX x1.DY x1.dur _ ) (by first | exact leArgs_of rfl | (simp [leArgs, leArg]; done)) rfl) ?_
                                      rintro _ _ ⟨rfl, rfl⟩
                                      refine hK' _ ?_
                                      clear hK' K'
                                      simp (maxSteps := 1000000) (disch := first | omega | assumption)
                                      repeat' refine And.intro ?_ ?_
                                      all_goals first | omega | exact rfl | skip
                                      refine hK _ ?_
                                      clear hK K
                                      clear all
                                      refine q_then_n ?_
                                      refine awp_ret ?_
                                      refine q_block_r ?_
                                      refine q_then_r ?_
                                      first | (simp [endQ, do_, c1, c2, c3, c4, c5, c6, c7, c8, c9]; done) | (simp [endQ, do_]; done) | (simp [endQ]; unfold do_; (repeat' split) <;> first | (exfalso; omega) | (simp_all; done)) | (simp [endQ, do_, *]; done) | (simp_all [endQ, do_]; done) | (simp_all [endQ, do_]; omega) | (simp [endQ, do_] <;> split <;> omega)
                                  · try simp at c9
                                    all_goals try (exfalso; omega)
                                    all_goals
                                      refine awp_seq ?_
                                      refine awp_regionA (c := ⟨[], [], []⟩) (by simp only [lite_cons, lite_nil] <;> rfl) fun all hall K hK => ?_
                                      clear hall
                                      simp (maxSteps := 1000000) (disch := first | omega | assumption)
                                      repeat' refine And.intro ?_ ?_
                                      all_goals first | omega | exact rfl | skip
                                      refine hK _ ?_
                                      clear hK K
                                      clear all
                                      refine q_then_n ?_
                                      refine awp_ifB (by simp <;> rfl) ?_
                                      refine ⟨fun c10 => ?_, fun c10 => ?_⟩
                                      · try simp at c10
                                        all_goals try (exfalso; omega)
                                        all_goals
                                          refine awp_seq ?_
                                          refine awp_regionA (c := ⟨[], [], []⟩) (by simp only [lite_cons, lite_nil] <;> rfl) fun all hall K hK => ?_
                                          clear hall
                                          refine vcL_split 1 fun K' hK' => ?_
                                          simp (maxSteps := 1000000) (disch := first | omega | assumption)
                                          repeat' refine And.intro ?_ ?_
                                          all_goals first | omega | exact rfl | skip
                                          refine hK' _ ?_
                                          clear hK' K'
                                          simp only [List.drop_succ_cons, List.drop_zero]
                                          refine vcL_step fun K' hK' => ?_
                                          simp (maxSteps := 1000000) (disch := first | omega | assumption)
                                          refine Ct.mono (Ct.of_le (moveFrame_fn x0 _ ) (by first | exact leArgs_of rfl | (simp [leArgs, leArg]; done)) rfl) ?_
                                          rintro _ _ ⟨rfl, rfl⟩
                                          refine hK' _ ?_
                                          clear hK' K'
                                          simp (maxSteps := 1000000) (disch := first | omega | assumption)
                                          repeat' refine And.intro ?_ ?_
                                          all_goals first | omega | exact rfl | skip
                                          refine hK _ ?_
                                          clear hK K
                                          clear all
                                          refine q_then_n ?_
                                          refine awp_ret ?_
                                          refine q_block_r ?_
                                          refine q_then_r ?_
                                          first | (simp [endQ, do_, c1, c2, c3, c4, c5, c6, c7, c8, c9, c10]; done) | (simp [endQ, do_]; done) | (simp [endQ]; unfold do_; (repeat' split) <;> first | (exfalso; omega) | (simp_all; done)) | (simp [endQ, do_, *]; done) | (simp_all [endQ, do_]; done) | (simp_all [endQ, do_]; omega) | (simp [endQ, do_] <;> split <;> omega)
                                      · try simp at c10
                                        all_goals try (exfalso; omega)
                                        all_goals
                                          refine awp_skip ?_
                                          refine q_block_n ?_
                                          refine q_then_n ?_
                                          refine awp_seq ?_
                                          refine awp_regionA (c := ⟨[], [], []⟩) (by simp only [lite_cons, lite_nil] <;> rfl) fun all hall K hK => ?_
                                          clear hall
                                          refine vcL_split 1 fun K' hK' => ?_
                                          simp (maxSteps := 1000000) (disch := first | omega | assumption)
                                          repeat' refine And.intro ?_ ?_
                                          all_goals first | omega | exact rfl | skip
                                          refine hK' _ ?_
                                          clear hK' K'
                                          simp only [List.drop_succ_cons, List.drop_zero]
                                          refine vcL_step fun K' hK' => ?_
                                          simp (maxSteps := 1000000) (disch := first | omega | assumption)
                                          refine Ct.mono (Ct.of_le (moveFinish_fn x0 _ ) (by first | exact leArgs_of rfl | (simp [leArgs, leArg]; done)) rfl) ?_
                                          rintro _ _ ⟨rfl, rfl⟩
                                          refine hK' _ ?_
                                          clear hK' K'
                                          simp (maxSteps := 1000000) (disch := first | omega | assumption)
                                          repeat' refine And.intro ?_ ?_
                                          all_goals first | omega | exact rfl | skip
                                          refine hK _ ?_
                                          clear hK K
                                          clear all
                                          refine q_then_n ?_
                                          refine awp_ret ?_
                                          first | (simp [endQ, do_, c1, c2, c3, c4, c5, c6, c7, c8, c9, c10]; done) | (simp [endQ, do_]; done) | (simp [endQ]; unfold do_; (repeat' split) <;> first | (exfalso; omega) | (simp_all; done)) | (simp [endQ, do_, *]; done) | (simp_all [endQ, do_]; done) | (simp_all [endQ, do_]; omega) | (simp [endQ, do_] <;> split <;> omega)

def sat (x0 : Int) : Int := if x0 > 2147483647 then 2147483647
  else if x0 < (-2147483648) then (-2147483648)
    else x0
-- scrim/scrimref01.Sat
theorem sat_fn (x0 : Int) (σ : List (List D))  : Ct Try.prog 45 [.v (.int .i64 x0)] σ (fun r σ' => r = .v (.int .i64 (sat x0)) ∧ σ' = σ) := by
  refine fn_start (rs := [.tmp 2]) Try.func45 rfl rfl Try.ntmps45 Try.results45 (by simp) ?_
  simp only [argEnv]
  refine awp_seq ?_
  refine awp_regionA (c := ⟨[], [], []⟩) (by simp only [lite_cons, lite_nil] <;> rfl) fun all hall K hK => ?_
  clear hall
  simp (maxSteps := 1000000) (disch := first | omega | assumption)
  repeat' refine And.intro ?_ ?_
  all_goals first | omega | exact rfl | skip
  refine hK _ ?_
  clear hK K
  clear all
  refine q_then_n ?_
  refine awp_seq ?_
  refine awp_seq ?_
  refine awp_regionA (c := ⟨[], [], []⟩) (by simp only [lite_cons, lite_nil] <;> rfl) fun all hall K hK => ?_
  clear hall
  simp (maxSteps := 1000000) (disch := first | omega | assumption)
  repeat' refine And.intro ?_ ?_
  all_goals first | omega | exact rfl | skip
  refine hK _ ?_
  clear hK K
  clear all
  refine q_then_n ?_
  refine awp_ifB (by simp <;> rfl) ?_
  refine ⟨fun c1 => ?_, fun c1 => ?_⟩
  · try simp at c1
    all_goals try (exfalso; omega)
    all_goals
      refine awp_seq ?_
      refine awp_regionA (c := ⟨[], [], []⟩) (by simp only [lite_cons, lite_nil] <;> rfl) fun all hall K hK => ?_
      clear hall
      simp (maxSteps := 1000000) (disch := first | omega | assumption)
      repeat' refine And.intro ?_ ?_
      all_goals first | omega | exact rfl | skip
      refine hK _ ?_
      clear hK K
      clear all
      refine q_then_n ?_
      refine awp_ret ?_
      refine q_then_r ?_
      first | (simp [endQ, sat, c1]; done) | (simp [endQ, sat]; done) | (simp [endQ]; unfold sat; (repeat' split) <;> first | (exfalso; omega) | (simp_all; done)) | (simp [endQ, sat, *]; done) | (simp_all [endQ, sat]; done) | (simp_all [endQ, sat]; omega) | (simp [endQ, sat] <;> split <;> omega)
  · try simp at c1
    all_goals try (exfalso; omega)
    all_goals
      refine awp_skip ?_
      refine q_then_n ?_
      refine awp_seq ?_
      refine awp_seq ?_
      refine awp_regionA (c := ⟨[], [], []⟩) (by simp only [lite_cons, lite_nil] <;> rfl) fun all hall K hK => ?_
      clear hall
      simp (maxSteps := 1000000) (disch := first | omega | assumption)
      repeat' refine And.intro ?_ ?_
      all_goals first | omega | exact rfl | skip
      refine hK _ ?_
      clear hK K
      clear all
      refine q_then_n ?_
      refine awp_ifB (by simp <;> rfl) ?_
      refine ⟨fun c2 => ?_, fun c2 => ?_⟩
      · try simp at c2
        all_goals try (exfalso; omega)
        all_goals
          refine awp_seq ?_
          refine awp_regionA (c := ⟨[], [], []⟩) (by simp only [lite_cons, lite_nil] <;> rfl) fun all hall K hK => ?_
          clear hall
          simp (maxSteps := 1000000) (disch := first | omega | assumption)
          repeat' refine And.intro ?_ ?_
          all_goals first | omega | exact rfl | skip
          refine hK _ ?_
          clear hK K
          clear all
          refine q_then_n ?_
          refine awp_ret ?_
          refine q_then_r ?_
          first | (simp [endQ, sat, c1, c2]; done) | (simp [endQ, sat]; done) | (simp [endQ]; unfold sat; (repeat' split) <;> first | (exfalso; omega) | (simp_all; done)) | (simp [endQ, sat, *]; done) | (simp_all [endQ, sat]; done) | (simp_all [endQ, sat]; omega) | (simp [endQ, sat] <;> split <;> omega)
      · try simp at c2
        all_goals try (exfalso; omega)
        all_goals
          refine awp_skip ?_
          refine q_then_n ?_
          refine awp_seq ?_
          refine awp_regionA (c := ⟨[], [], []⟩) (by simp only [lite_cons, lite_nil] <;> rfl) fun all hall K hK => ?_
          clear hall
          simp (maxSteps := 1000000) (disch := first | omega | assumption)
          repeat' refine And.intro ?_ ?_
          all_goals first | omega | exact rfl | skip
          refine hK _ ?_
          clear hK K
          clear all
          refine q_then_n ?_
          refine awp_ret ?_
          first | (simp [endQ, sat, c1, c2]; done) | (simp [endQ, sat]; done) | (simp [endQ]; unfold sat; (repeat' split) <;> first | (exfalso; omega) | (simp_all; done)) | (simp [endQ, sat, *]; done) | (simp_all [endQ, sat]; done) | (simp_all [endQ, sat]; omega) | (simp [endQ, sat] <;> split <;> omega)

def may (x0 : Look) : Bool := if x0.kind < 0 then false
  else if x0.kind > 6 then false
    else if x0.move < 0 then false
      else if x0.move > 2 then false
        else if x0.kind > 0 then if x0.move > 0 then false
            else if x0.move = 1 then if x0.DX ≥ (-2147483648) then if x0.DX ≤ 2147483647 then if x0.DY ≥ (-2147483648) then decide (x0.DY ≤ 2147483647)
                    else false
                  else false
                else false
              else if x0.DX = 0 then decide (x0.DY = 0)
                else false
          else if x0.move = 1 then if x0.DX ≥ (-2147483648) then if x0.DX ≤ 2147483647 then if x0.DY ≥ (-2147483648) then decide (x0.DY ≤ 2147483647)
                  else false
                else false
              else false
            else if x0.DX = 0 then decide (x0.DY = 0)
              else false
-- scrim/scrimref20.May
theorem may_fn (x0 : Look) (σ : List (List D))  : Ct Try.prog 48 [d_Look x0] σ (fun r σ' => r = .v (.bool (may x0)) ∧ σ' = σ) := by
  refine fn_start (rs := [.tmp 2]) Try.func48 rfl rfl Try.ntmps48 Try.results48 (by simp) ?_
  simp only [argEnv]
  refine awp_seq ?_
  refine awp_regionA (c := ⟨[], [], []⟩) (by simp only [lite_cons, lite_nil] <;> rfl) fun all hall K hK => ?_
  clear hall
  simp (maxSteps := 1000000) (disch := first | omega | assumption)
  repeat' refine And.intro ?_ ?_
  all_goals first | omega | exact rfl | skip
  refine hK _ ?_
  clear hK K
  clear all
  refine q_then_n ?_
  refine awp_seq ?_
  refine awp_seq ?_
  refine awp_regionA (c := ⟨[], [], []⟩) (by simp only [lite_cons, lite_nil] <;> rfl) fun all hall K hK => ?_
  have ga3 : guardOf all 3 = some 6 := hall 3
  have ga8 : guardOf all 8 = some 11 := hall 8
  have ga13 : guardOf all 13 = some 16 := hall 13
  have ga18 : guardOf all 18 = some 21 := hall 18
  have ga22 : guardOf all 22 = some 25 := hall 22
  clear hall
  refine vcL_split 4 fun K' hK' => ?_
  simp (maxSteps := 1000000) (disch := first | omega | assumption) [ga3, ga8, ga13, ga18, ga22]
  repeat' refine And.intro ?_ ?_
  all_goals first | omega | exact rfl | skip
  refine hK' _ ?_
  clear hK' K'
  simp only [List.drop_succ_cons, List.drop_zero]
  refine vcL_bool 6 (by simp <;> rfl) ?_
  refine ⟨fun g1 => ?_, fun g1 => ?_⟩
  · try simp at g1
    all_goals try (exfalso; omega)
    all_goals
      refine vcL_split 5 fun K' hK' => ?_
      simp (maxSteps := 1000000) (disch := first | omega | assumption) [ga3, ga8, ga13, ga18, ga22]
      repeat' refine And.intro ?_ ?_
      all_goals first | omega | exact rfl | skip
      refine hK' _ ?_
      clear hK' K'
      simp only [List.drop_succ_cons, List.drop_zero]
      refine vcL_split 5 fun K' hK' => ?_
      simp (maxSteps := 1000000) (disch := first | omega | assumption) [ga3, ga8, ga13, ga18, ga22]
      repeat' refine And.intro ?_ ?_
      all_goals first | omega | exact rfl | skip
      refine hK' _ ?_
      clear hK' K'
      simp only [List.drop_succ_cons, List.drop_zero]
      refine vcL_split 5 fun K' hK' => ?_
      simp (maxSteps := 1000000) (disch := first | omega | assumption) [ga3, ga8, ga13, ga18, ga22]
      repeat' refine And.intro ?_ ?_
      all_goals first | omega | exact rfl | skip
      refine hK' _ ?_
      clear hK' K'
      simp only [List.drop_succ_cons, List.drop_zero]
      refine vcL_split 8 fun K' hK' => ?_
      simp (maxSteps := 1000000) (disch := first | omega | assumption) [ga3, ga8, ga13, ga18, ga22]
      repeat' refine And.intro ?_ ?_
      all_goals first | omega | exact rfl | skip
      refine hK' _ ?_
      clear hK' K'
      simp only [List.drop_succ_cons, List.drop_zero]
      simp (maxSteps := 1000000) (disch := first | omega | assumption) [ga3, ga8, ga13, ga18, ga22]
      repeat' refine And.intro ?_ ?_
      all_goals first | omega | exact rfl | skip
      refine hK _ ?_
      clear hK K
      clear ga3 ga8 ga13 ga18 ga22
      clear all
      refine q_then_n ?_
      refine awp_cond (t := true) (by simp) (fun _ => ?_) (fun h => by cases h)
      refine awp_seq ?_
      refine awp_keep [1, 2] (by simp only [keepL_nil, keepL_cons, envOf_sel, envOf_nil, sel_t, sel_f, Nat.reduceBEq] <;> rfl) ?_
      refine awp_regionA (c := ⟨[], [], []⟩) (by simp only [lite_cons, lite_nil] <;> rfl) fun all hall K hK => ?_
      clear hall
      simp (maxSteps := 1000000) (disch := first | omega | assumption)
      repeat' refine And.intro ?_ ?_
      all_goals first | omega | exact rfl | skip
      refine hK _ ?_
      clear hK K
      clear all
      refine q_then_n ?_
      refine awp_ret ?_
      refine q_then_r ?_
      first | (simp [endQ, may, g1]; done) | (simp [endQ, may]; done) | (simp [endQ]; unfold may; (repeat' split) <;> first | (exfalso; omega) | (simp_all; done)) | (simp [endQ, may, *]; done) | (simp_all [endQ, may]; done) | (simp_all [endQ, may]; omega) | (simp [endQ, may] <;> split <;> omega)
  · try simp at g1
    all_goals try (exfalso; omega)
    all_goals
      refine vcL_split 5 fun K' hK' => ?_
      simp (maxSteps := 1000000) (disch := first | omega | assumption) [ga3, ga8, ga13, ga18, ga22]
      repeat' refine And.intro ?_ ?_
      all_goals first | omega | exact rfl | skip
      refine hK' _ ?_
      clear hK' K'
      simp only [List.drop_succ_cons, List.drop_zero]
      refine vcL_bool 11 (by simp <;> rfl) ?_
      refine ⟨fun g2 => ?_, fun g2 => ?_⟩
      · try simp at g2
        all_goals try (exfalso; omega)
        all_goals
          refine vcL_split 5 fun K' hK' => ?_
          simp (maxSteps := 1000000) (disch := first | omega | assumption) [ga3, ga8, ga13, ga18, ga22]
          repeat' refine And.intro ?_ ?_
          all_goals first | omega | exact rfl | skip
          refine hK' _ ?_
          clear hK' K'
          simp only [List.drop_succ_cons, List.drop_zero]
          refine vcL_split 5 fun K' hK' => ?_
          simp (maxSteps := 1000000) (disch := first | omega | assumption) [ga3, ga8, ga13, ga18, ga22]
          repeat' refine And.intro ?_ ?_
          all_goals first | omega | exact rfl | skip
          refine hK' _ ?_
          clear hK' K'
          simp only [List.drop_succ_cons, List.drop_zero]
          refine vcL_split 8 fun K' hK' => ?_
          simp (maxSteps := 1000000) (disch := first | omega | assumption) [ga3, ga8, ga13, ga18, ga22]
          repeat' refine And.intro ?_ ?_
          all_goals first | omega | exact rfl | skip
          refine hK' _ ?_
          clear hK' K'
          simp only [List.drop_succ_cons, List.drop_zero]
          simp (maxSteps := 1000000) (disch := first | omega | assumption) [ga3, ga8, ga13, ga18, ga22]
          repeat' refine And.intro ?_ ?_
          all_goals first | omega | exact rfl | skip
          refine hK _ ?_
          clear hK K
          clear ga3 ga8 ga13 ga18 ga22
          clear all
          refine q_then_n ?_
          refine awp_cond (t := true) (by simp) (fun _ => ?_) (fun h => by cases h)
          refine awp_seq ?_
          refine awp_keep [1, 2] (by simp only [keepL_nil, keepL_cons, envOf_sel, envOf_nil, sel_t, sel_f, Nat.reduceBEq] <;> rfl) ?_
          refine awp_regionA (c := ⟨[], [], []⟩) (by simp only [lite_cons, lite_nil] <;> rfl) fun all hall K hK => ?_
          clear hall
          simp (maxSteps := 1000000) (disch := first | omega | assumption)
          repeat' refine And.intro ?_ ?_
          all_goals first | omega | exact rfl | skip
          refine hK _ ?_
          clear hK K
          clear all
          refine q_then_n ?_
          refine awp_ret ?_
          refine q_then_r ?_
          first | (simp [endQ, may, g1, g2]; done) | (simp [endQ, may]; done) | (simp [endQ]; unfold may; (repeat' split) <;> first | (exfalso; omega) | (simp_all; done)) | (simp [endQ, may, *]; done) | (simp_all [endQ, may]; done) | (simp_all [endQ, may]; omega) | (simp [endQ, may] <;> split <;> omega)
      · try simp at g2
        all_goals try (exfalso; omega)
        all_goals
          refine vcL_split 5 fun K' hK' => ?_
          simp (maxSteps := 1000000) (disch := first | omega | assumption) [ga3, ga8, ga13, ga18, ga22]
          repeat' refine And.intro ?_ ?_
          all_goals first | omega | exact rfl | skip
          refine hK' _ ?_
          clear hK' K'
          simp only [List.drop_succ_cons, List.drop_zero]
          refine vcL_bool 16 (by simp <;> rfl) ?_
          refine ⟨fun g3 => ?_, fun g3 => ?_⟩
          · try simp at g3
            all_goals try (exfalso; omega)
            all_goals
              refine vcL_split 5 fun K' hK' => ?_
              simp (maxSteps := 1000000) (disch := first | omega | assumption) [ga3, ga8, ga13, ga18, ga22]
              repeat' refine And.intro ?_ ?_
              all_goals first | omega | exact rfl | skip
              refine hK' _ ?_
              clear hK' K'
              simp only [List.drop_succ_cons, List.drop_zero]
              refine vcL_split 8 fun K' hK' => ?_
              simp (maxSteps := 1000000) (disch := first | omega | assumption) [ga3, ga8, ga13, ga18, ga22]
              repeat' refine And.intro ?_ ?_
              all_goals first | omega | exact rfl | skip
              refine hK' _ ?_
              clear hK' K'
              simp only [List.drop_succ_cons, List.drop_zero]
              simp (maxSteps := 1000000) (disch := first | omega | assumption) [ga3, ga8, ga13, ga18, ga22]
              repeat' refine And.intro ?_ ?_
              all_goals first | omega | exact rfl | skip
              refine hK _ ?_
              clear hK K
              clear ga3 ga8 ga13 ga18 ga22
              clear all
              refine q_then_n ?_
              refine awp_cond (t := true) (by simp) (fun _ => ?_) (fun h => by cases h)
              refine awp_seq ?_
              refine awp_keep [1, 2] (by simp only [keepL_nil, keepL_cons, envOf_sel, envOf_nil, sel_t, sel_f, Nat.reduceBEq] <;> rfl) ?_
              refine awp_regionA (c := ⟨[], [], []⟩) (by simp only [lite_cons, lite_nil] <;> rfl) fun all hall K hK => ?_
              clear hall
              simp (maxSteps := 1000000) (disch := first | omega | assumption)
              repeat' refine And.intro ?_ ?_
              all_goals first | omega | exact rfl | skip
              refine hK _ ?_
              clear hK K
              clear all
              refine q_then_n ?_
              refine awp_ret ?_
              refine q_then_r ?_
              first | (simp [endQ, may, g1, g2, g3]; done) | (simp [endQ, may]; done) | (simp [endQ]; unfold may; (repeat' split) <;> first | (exfalso; omega) | (simp_all; done)) | (simp [endQ, may, *]; done) | (simp_all [endQ, may]; done) | (simp_all [endQ, may]; omega) | (simp [endQ, may] <;> split <;> omega)
          · try simp at g3
            all_goals try (exfalso; omega)
            all_goals
              refine vcL_split 5 fun K' hK' => ?_
              simp (maxSteps := 1000000) (disch := first | omega | assumption) [ga3, ga8, ga13, ga18, ga22]
              repeat' refine And.intro ?_ ?_
              all_goals first | omega | exact rfl | skip
              refine hK' _ ?_
              clear hK' K'
              simp only [List.drop_succ_cons, List.drop_zero]
              refine vcL_bool 21 (by simp <;> rfl) ?_
              refine ⟨fun g4 => ?_, fun g4 => ?_⟩
              · try simp at g4
                all_goals try (exfalso; omega)
                all_goals
                  refine vcL_split 8 fun K' hK' => ?_
                  simp (maxSteps := 1000000) (disch := first | omega | assumption) [ga3, ga8, ga13, ga18, ga22]
                  repeat' refine And.intro ?_ ?_
                  all_goals first | omega | exact rfl | skip
                  refine hK' _ ?_
                  clear hK' K'
                  simp only [List.drop_succ_cons, List.drop_zero]
                  simp (maxSteps := 1000000) (disch := first | omega | assumption) [ga3, ga8, ga13, ga18, ga22]
                  repeat' refine And.intro ?_ ?_
                  all_goals first | omega | exact rfl | skip
                  refine hK _ ?_
                  clear hK K
                  clear ga3 ga8 ga13 ga18 ga22
                  clear all
                  refine q_then_n ?_
                  refine awp_cond (t := true) (by simp) (fun _ => ?_) (fun h => by cases h)
                  refine awp_seq ?_
                  refine awp_keep [1, 2] (by simp only [keepL_nil, keepL_cons, envOf_sel, envOf_nil, sel_t, sel_f, Nat.reduceBEq] <;> rfl) ?_
                  refine awp_regionA (c := ⟨[], [], []⟩) (by simp only [lite_cons, lite_nil] <;> rfl) fun all hall K hK => ?_
                  clear hall
                  simp (maxSteps := 1000000) (disch := first | omega | assumption)
                  repeat' refine And.intro ?_ ?_
                  all_goals first | omega | exact rfl | skip
                  refine hK _ ?_
                  clear hK K
                  clear all
                  refine q_then_n ?_
                  refine awp_ret ?_
                  refine q_then_r ?_
                  first | (simp [endQ, may, g1, g2, g3, g4]; done) | (simp [endQ, may]; done) | (simp [endQ]; unfold may; (repeat' split) <;> first | (exfalso; omega) | (simp_all; done)) | (simp [endQ, may, *]; done) | (simp_all [endQ, may]; done) | (simp_all [endQ, may]; omega) | (simp [endQ, may] <;> split <;> omega)
              · try simp at g4
                all_goals try (exfalso; omega)
                all_goals
                  refine vcL_split 4 fun K' hK' => ?_
                  simp (maxSteps := 1000000) (disch := first | omega | assumption) [ga3, ga8, ga13, ga18, ga22]
                  repeat' refine And.intro ?_ ?_
                  all_goals first | omega | exact rfl | skip
                  refine hK' _ ?_
                  clear hK' K'
                  simp only [List.drop_succ_cons, List.drop_zero]
                  refine vcL_bool 25 (by simp <;> rfl) ?_
                  refine ⟨fun g5 => ?_, fun g5 => ?_⟩
                  · try simp at g5
                    all_goals try (exfalso; omega)
                    all_goals
                      simp (maxSteps := 1000000) (disch := first | omega | assumption) [ga3, ga8, ga13, ga18, ga22]
                      repeat' refine And.intro ?_ ?_
                      all_goals first | omega | exact rfl | skip
                      refine hK _ ?_
                      clear hK K
                      clear ga3 ga8 ga13 ga18 ga22
                      clear all
                      refine q_then_n ?_
                      refine awp_ifB (by simp <;> rfl) ?_
                      refine ⟨fun c6 => ?_, fun c6 => ?_⟩
                      · try simp at c6
                        all_goals try (exfalso; omega)
                        all_goals
                          refine awp_seq ?_
                          refine awp_keep [1, 2] (by simp only [keepL_nil, keepL_cons, envOf_sel, envOf_nil, sel_t, sel_f, Nat.reduceBEq] <;> rfl) ?_
                          refine awp_regionA (c := ⟨[], [], []⟩) (by simp only [lite_cons, lite_nil] <;> rfl) fun all hall K hK => ?_
                          clear hall
                          simp (maxSteps := 1000000) (disch := first | omega | assumption)
                          repeat' refine And.intro ?_ ?_
                          all_goals first | omega | exact rfl | skip
                          refine hK _ ?_
                          clear hK K
                          clear all
                          refine q_then_n ?_
                          refine awp_ret ?_
                          refine q_then_r ?_
                          first | (simp [endQ, may, g1, g2, g3, g4, g5, c6]; done) | (simp [endQ, may]; done) | (simp [endQ]; unfold may; (repeat' split) <;> first | (exfalso; omega) | (simp_all; done)) | (simp [endQ, may, *]; done) | (simp_all [endQ, may]; done) | (simp_all [endQ, may]; omega) | (simp [endQ, may] <;> split <;> omega)
                      · try simp at c6
                        all_goals try (exfalso; omega)
                        all_goals
                          refine awp_skip ?_
                          refine q_then_n ?_
                          refine awp_seq ?_
                          refine awp_seq ?_
                          refine awp_keep [1, 2] (by simp only [keepL_nil, keepL_cons, envOf_sel, envOf_nil, sel_t, sel_f, Nat.reduceBEq] <;> rfl) ?_
                          refine awp_regionA (c := ⟨[], [], []⟩) (by simp only [lite_cons, lite_nil] <;> rfl) fun all hall K hK => ?_
                          clear hall
                          simp (maxSteps := 1000000) (disch := first | omega | assumption)
                          repeat' refine And.intro ?_ ?_
                          all_goals first | omega | exact rfl | skip
                          refine hK _ ?_
                          clear hK K
                          clear all
                          refine q_then_n ?_
                          refine awp_ifB (by simp <;> rfl) ?_
                          refine ⟨fun c7 => ?_, fun c7 => ?_⟩
                          · try simp at c7
                            all_goals try (exfalso; omega)
                            all_goals
                              refine awp_seq ?_
                              refine awp_keep [1, 2] (by simp only [keepL_nil, keepL_cons, envOf_sel, envOf_nil, sel_t, sel_f, Nat.reduceBEq] <;> rfl) ?_
                              refine awp_regionA (c := ⟨[], [], []⟩) (by simp only [lite_cons, lite_nil] <;> rfl) fun all hall K hK => ?_
                              have ga3 : guardOf all 3 = some 37 := hall 3
                              have ga8 : guardOf all 8 = some 42 := hall 8
                              have ga13 : guardOf all 13 = some 47 := hall 13
                              clear hall
                              refine vcL_split 4 fun K' hK' => ?_
                              simp (maxSteps := 1000000) (disch := first | omega | assumption) [ga3, ga8, ga13]
                              repeat' refine And.intro ?_ ?_
                              all_goals first | omega | exact rfl | skip
                              refine hK' _ ?_
                              clear hK' K'
                              simp only [List.drop_succ_cons, List.drop_zero]
                              refine vcL_bool 37 (by simp <;> rfl) ?_
                              refine ⟨fun g8 => ?_, fun g8 => ?_⟩
                              · try simp at g8
                                all_goals try (exfalso; omega)
                                all_goals
                                  refine vcL_split 5 fun K' hK' => ?_
                                  simp (maxSteps := 1000000) (disch := first | omega | assumption) [ga3, ga8, ga13]
                                  repeat' refine And.intro ?_ ?_
                                  all_goals first | omega | exact rfl | skip
                                  refine hK' _ ?_
                                  clear hK' K'
                                  simp only [List.drop_succ_cons, List.drop_zero]
                                  refine vcL_bool 42 (by simp <;> rfl) ?_
                                  refine ⟨fun g9 => ?_, fun g9 => ?_⟩
                                  · try simp at g9
                                    all_goals try (exfalso; omega)
                                    all_goals
                                      refine vcL_split 5 fun K' hK' => ?_
                                      simp (maxSteps := 1000000) (disch := first | omega | assumption) [ga3, ga8, ga13]
                                      repeat' refine And.intro ?_ ?_
                                      all_goals first | omega | exact rfl | skip
                                      refine hK' _ ?_
                                      clear hK' K'
                                      simp only [List.drop_succ_cons, List.drop_zero]
                                      refine vcL_bool 47 (by simp <;> rfl) ?_
                                      refine ⟨fun g10 => ?_, fun g10 => ?_⟩
                                      · try simp at g10
                                        all_goals try (exfalso; omega)
                                        all_goals
                                          simp (maxSteps := 1000000) (disch := first | omega | assumption) [ga3, ga8, ga13]
                                          repeat' refine And.intro ?_ ?_
                                          all_goals first | omega | exact rfl | skip
                                          refine hK _ ?_
                                          clear hK K
                                          clear ga3 ga8 ga13
                                          clear all
                                          refine q_then_n ?_
                                          refine awp_ret ?_
                                          refine q_then_r ?_
                                          first | (simp [endQ, may, g1, g2, g3, g4, g5, c6, c7, g8, g9, g10]; done) | (simp [endQ, may]; done) | (simp [endQ]; unfold may; (repeat' split) <;> first | (exfalso; omega) | (simp_all; done)) | (simp [endQ, may, *]; done) | (simp_all [endQ, may]; done) | (simp_all [endQ, may]; omega) | (simp [endQ, may] <;> split <;> omega)
                                      · try simp at g10
                                        all_goals try (exfalso; omega)
                                        all_goals
                                          simp (maxSteps := 1000000) (disch := first | omega | assumption) [ga3, ga8, ga13]
                                          repeat' refine And.intro ?_ ?_
                                          all_goals first | omega | exact rfl | skip
                                          refine hK _ ?_
                                          clear hK K
                                          clear ga3 ga8 ga13
                                          clear all
                                          refine q_then_n ?_
                                          refine awp_ret ?_
                                          refine q_then_r ?_
                                          first | (simp [endQ, may, g1, g2, g3, g4, g5, c6, c7, g8, g9, g10]; done) | (simp [endQ, may]; done) | (simp [endQ]; unfold may; (repeat' split) <;> first | (exfalso; omega) | (simp_all; done)) | (simp [endQ, may, *]; done) | (simp_all [endQ, may]; done) | (simp_all [endQ, may]; omega) | (simp [endQ, may] <;> split <;> omega)
                                  · try simp at g9
                                    all_goals try (exfalso; omega)
                                    all_goals
                                      refine vcL_split 5 fun K' hK' => ?_
                                      simp (maxSteps := 1000000) (disch := first | omega | assumption) [ga3, ga8, ga13]
                                      repeat' refine And.intro ?_ ?_
                                      all_goals first | omega | exact rfl | skip
                                      refine hK' _ ?_
                                      clear hK' K'
                                      simp only [List.drop_succ_cons, List.drop_zero]
                                      simp (maxSteps := 1000000) (disch := first | omega | assumption) [ga3, ga8, ga13]
                                      repeat' refine And.intro ?_ ?_
                                      all_goals first | omega | exact rfl | skip
                                      refine hK _ ?_
                                      clear hK K
                                      clear ga3 ga8 ga13
                                      clear all
                                      refine q_then_n ?_
                                      refine awp_ret ?_
                                      refine q_then_r ?_
                                      first | (simp [endQ, may, g1, g2, g3, g4, g5, c6, c7, g8, g9]; done) | (simp [endQ, may]; done) | (simp [endQ]; unfold may; (repeat' split) <;> first | (exfalso; omega) | (simp_all; done)) | (simp [endQ, may, *]; done) | (simp_all [endQ, may]; done) | (simp_all [endQ, may]; omega) | (simp [endQ, may] <;> split <;> omega)
                              · try simp at g8
                                all_goals try (exfalso; omega)
                                all_goals
                                  refine vcL_split 5 fun K' hK' => ?_
                                  simp (maxSteps := 1000000) (disch := first | omega | assumption) [ga3, ga8, ga13]
                                  repeat' refine And.intro ?_ ?_
                                  all_goals first | omega | exact rfl | skip
                                  refine hK' _ ?_
                                  clear hK' K'
                                  simp only [List.drop_succ_cons, List.drop_zero]
                                  refine vcL_split 5 fun K' hK' => ?_
                                  simp (maxSteps := 1000000) (disch := first | omega | assumption) [ga3, ga8, ga13]
                                  repeat' refine And.intro ?_ ?_
                                  all_goals first | omega | exact rfl | skip
                                  refine hK' _ ?_
                                  clear hK' K'
                                  simp only [List.drop_succ_cons, List.drop_zero]
                                  simp (maxSteps := 1000000) (disch := first | omega | assumption) [ga3, ga8, ga13]
                                  repeat' refine And.intro ?_ ?_
                                  all_goals first | omega | exact rfl | skip
                                  refine hK _ ?_
                                  clear hK K
                                  clear ga3 ga8 ga13
                                  clear all
                                  refine q_then_n ?_
                                  refine awp_ret ?_
                                  refine q_then_r ?_
                                  first | (simp [endQ, may, g1, g2, g3, g4, g5, c6, c7, g8]; done) | (simp [endQ, may]; done) | (simp [endQ]; unfold may; (repeat' split) <;> first | (exfalso; omega) | (simp_all; done)) | (simp [endQ, may, *]; done) | (simp_all [endQ, may]; done) | (simp_all [endQ, may]; omega) | (simp [endQ, may] <;> split <;> omega)
                          · try simp at c7
                            all_goals try (exfalso; omega)
                            all_goals
                              refine awp_skip ?_
                              refine q_then_n ?_
                              refine awp_seq ?_
                              refine awp_regionA (c := ⟨[], [], []⟩) (by simp only [lite_cons, lite_nil] <;> rfl) fun all hall K hK => ?_
                              have ga3 : guardOf all 3 = some 55 := hall 3
                              clear hall
                              refine vcL_split 4 fun K' hK' => ?_
                              simp (maxSteps := 1000000) (disch := first | omega | assumption) [ga3]
                              repeat' refine And.intro ?_ ?_
                              all_goals first | omega | exact rfl | skip
                              refine hK' _ ?_
                              clear hK' K'
                              simp only [List.drop_succ_cons, List.drop_zero]
                              refine vcL_bool 55 (by simp <;> rfl) ?_
                              refine ⟨fun g11 => ?_, fun g11 => ?_⟩
                              · try simp at g11
                                all_goals try (exfalso; omega)
                                all_goals
                                  simp (maxSteps := 1000000) (disch := first | omega | assumption) [ga3]
                                  repeat' refine And.intro ?_ ?_
                                  all_goals first | omega | exact rfl | skip
                                  refine hK _ ?_
                                  clear hK K
                                  clear ga3
                                  clear all
                                  refine q_then_n ?_
                                  refine awp_ret ?_
                                  first | (simp [endQ, may, g1, g2, g3, g4, g5, c6, c7, g11]; done) | (simp [endQ, may]; done) | (simp [endQ]; unfold may; (repeat' split) <;> first | (exfalso; omega) | (simp_all; done)) | (simp [endQ, may, *]; done) | (simp_all [endQ, may]; done) | (simp_all [endQ, may]; omega) | (simp [endQ, may] <;> split <;> omega)
                              · try simp at g11
                                all_goals try (exfalso; omega)
                                all_goals
                                  simp (maxSteps := 1000000) (disch := first | omega | assumption) [ga3]
                                  repeat' refine And.intro ?_ ?_
                                  all_goals first | omega | exact rfl | skip
                                  refine hK _ ?_
                                  clear hK K
                                  clear ga3
                                  clear all
                                  refine q_then_n ?_
                                  refine awp_ret ?_
                                  first | (simp [endQ, may, g1, g2, g3, g4, g5, c6, c7, g11]; done) | (simp [endQ, may]; done) | (simp [endQ]; unfold may; (repeat' split) <;> first | (exfalso; omega) | (simp_all; done)) | (simp [endQ, may, *]; done) | (simp_all [endQ, may]; done) | (simp_all [endQ, may]; omega) | (simp [endQ, may] <;> split <;> omega)
                  · try simp at g5
                    all_goals try (exfalso; omega)
                    all_goals
                      simp (maxSteps := 1000000) (disch := first | omega | assumption) [ga3, ga8, ga13, ga18, ga22]
                      repeat' refine And.intro ?_ ?_
                      all_goals first | omega | exact rfl | skip
                      refine hK _ ?_
                      clear hK K
                      clear ga3 ga8 ga13 ga18 ga22
                      clear all
                      refine q_then_n ?_
                      refine awp_cond (t := false) (by simp) (fun h => by cases h) (fun _ => ?_)
                      refine awp_skip ?_
                      refine q_then_n ?_
                      refine awp_seq ?_
                      refine awp_seq ?_
                      refine awp_keep [1, 2] (by simp only [keepL_nil, keepL_cons, envOf_sel, envOf_nil, sel_t, sel_f, Nat.reduceBEq] <;> rfl) ?_
                      refine awp_regionA (c := ⟨[], [], []⟩) (by simp only [lite_cons, lite_nil] <;> rfl) fun all hall K hK => ?_
                      clear hall
                      simp (maxSteps := 1000000) (disch := first | omega | assumption)
                      repeat' refine And.intro ?_ ?_
                      all_goals first | omega | exact rfl | skip
                      refine hK _ ?_
                      clear hK K
                      clear all
                      refine q_then_n ?_
                      refine awp_ifB (by simp <;> rfl) ?_
                      refine ⟨fun c12 => ?_, fun c12 => ?_⟩
                      · try simp at c12
                        all_goals try (exfalso; omega)
                        all_goals
                          refine awp_seq ?_
                          refine awp_keep [1, 2] (by simp only [keepL_nil, keepL_cons, envOf_sel, envOf_nil, sel_t, sel_f, Nat.reduceBEq] <;> rfl) ?_
                          refine awp_regionA (c := ⟨[], [], []⟩) (by simp only [lite_cons, lite_nil] <;> rfl) fun all hall K hK => ?_
                          have ga3 : guardOf all 3 = some 37 := hall 3
                          have ga8 : guardOf all 8 = some 42 := hall 8
                          have ga13 : guardOf all 13 = some 47 := hall 13
                          clear hall
                          refine vcL_split 4 fun K' hK' => ?_
                          simp (maxSteps := 1000000) (disch := first | omega | assumption) [ga3, ga8, ga13]
                          repeat' refine And.intro ?_ ?_
                          all_goals first | omega | exact rfl | skip
                          refine hK' _ ?_
                          clear hK' K'
                          simp only [List.drop_succ_cons, List.drop_zero]
                          refine vcL_bool 37 (by simp <;> rfl) ?_
                          refine ⟨fun g13 => ?_, fun g13 => ?_⟩
                          · try simp at g13
                            all_goals try (exfalso; omega)
                            all_goals
                              refine vcL_split 5 fun K' hK' => ?_
                              simp (maxSteps := 1000000) (disch := first | omega | assumption) [ga3, ga8, ga13]
                              repeat' refine And.intro ?_ ?_
                              all_goals first | omega | exact rfl | skip
                              refine hK' _ ?_
                              clear hK' K'
                              simp only [List.drop_succ_cons, List.drop_zero]
                              refine vcL_bool 42 (by simp <;> rfl) ?_
                              refine ⟨fun g14 => ?_, fun g14 => ?_⟩
                              · try simp at g14
                                all_goals try (exfalso; omega)
                                all_goals
                                  refine vcL_split 5 fun K' hK' => ?_
                                  simp (maxSteps := 1000000) (disch := first | omega | assumption) [ga3, ga8, ga13]
                                  repeat' refine And.intro ?_ ?_
                                  all_goals first | omega | exact rfl | skip
                                  refine hK' _ ?_
                                  clear hK' K'
                                  simp only [List.drop_succ_cons, List.drop_zero]
                                  refine vcL_bool 47 (by simp <;> rfl) ?_
                                  refine ⟨fun g15 => ?_, fun g15 => ?_⟩
                                  · try simp at g15
                                    all_goals try (exfalso; omega)
                                    all_goals
                                      simp (maxSteps := 1000000) (disch := first | omega | assumption) [ga3, ga8, ga13]
                                      repeat' refine And.intro ?_ ?_
                                      all_goals first | omega | exact rfl | skip
                                      refine hK _ ?_
                                      clear hK K
                                      clear ga3 ga8 ga13
                                      clear all
                                      refine q_then_n ?_
                                      refine awp_ret ?_
                                      refine q_then_r ?_
                                      first | (simp [endQ, may, g1, g2, g3, g4, g5, c12, g13, g14, g15]; done) | (simp [endQ, may]; done) | (simp [endQ]; unfold may; (repeat' split) <;> first | (exfalso; omega) | (simp_all; done)) | (simp [endQ, may, *]; done) | (simp_all [endQ, may]; done) | (simp_all [endQ, may]; omega) | (simp [endQ, may] <;> split <;> omega)
                                  · try simp at g15
                                    all_goals try (exfalso; omega)
                                    all_goals
                                      simp (maxSteps := 1000000) (disch := first | omega | assumption) [ga3, ga8, ga13]
                                      repeat' refine And.intro ?_ ?_
                                      all_goals first | omega | exact rfl | skip
                                      refine hK _ ?_
                                      clear hK K
                                      clear ga3 ga8 ga13
                                      clear all
                                      refine q_then_n ?_
                                      refine awp_ret ?_
                                      refine q_then_r ?_
                                      first | (simp [endQ, may, g1, g2, g3, g4, g5, c12, g13, g14, g15]; done) | (simp [endQ, may]; done) | (simp [endQ]; unfold may; (repeat' split) <;> first | (exfalso; omega) | (simp_all; done)) | (simp [endQ, may, *]; done) | (simp_all [endQ, may]; done) | (simp_all [endQ, may]; omega) | (simp [endQ, may] <;> split <;> omega)
                              · try simp at g14
                                all_goals try (exfalso; omega)
                                all_goals
                                  refine vcL_split 5 fun K' hK' => ?_
                                  simp (maxSteps := 1000000) (disch := first | omega | assumption) [ga3, ga8, ga13]
                                  repeat' refine And.intro ?_ ?_
                                  all_goals first | omega | exact rfl | skip
                                  refine hK' _ ?_
                                  clear hK' K'
                                  simp only [List.drop_succ_cons, List.drop_zero]
                                  simp (maxSteps := 1000000) (disch := first | omega | assumption) [ga3, ga8, ga13]
                                  repeat' refine And.intro ?_ ?_
                                  all_goals first | omega | exact rfl | skip
                                  refine hK _ ?_
                                  clear hK K
                                  clear ga3 ga8 ga13
                                  clear all
                                  refine q_then_n ?_
                                  refine awp_ret ?_
                                  refine q_then_r ?_
                                  first | (simp [endQ, may, g1, g2, g3, g4, g5, c12, g13, g14]; done) | (simp [endQ, may]; done) | (simp [endQ]; unfold may; (repeat' split) <;> first | (exfalso; omega) | (simp_all; done)) | (simp [endQ, may, *]; done) | (simp_all [endQ, may]; done) | (simp_all [endQ, may]; omega) | (simp [endQ, may] <;> split <;> omega)
                          · try simp at g13
                            all_goals try (exfalso; omega)
                            all_goals
                              refine vcL_split 5 fun K' hK' => ?_
                              simp (maxSteps := 1000000) (disch := first | omega | assumption) [ga3, ga8, ga13]
                              repeat' refine And.intro ?_ ?_
                              all_goals first | omega | exact rfl | skip
                              refine hK' _ ?_
                              clear hK' K'
                              simp only [List.drop_succ_cons, List.drop_zero]
                              refine vcL_split 5 fun K' hK' => ?_
                              simp (maxSteps := 1000000) (disch := first | omega | assumption) [ga3, ga8, ga13]
                              repeat' refine And.intro ?_ ?_
                              all_goals first | omega | exact rfl | skip
                              refine hK' _ ?_
                              clear hK' K'
                              simp only [List.drop_succ_cons, List.drop_zero]
                              simp (maxSteps := 1000000) (disch := first | omega | assumption) [ga3, ga8, ga13]
                              repeat' refine And.intro ?_ ?_
                              all_goals first | omega | exact rfl | skip
                              refine hK _ ?_
                              clear hK K
                              clear ga3 ga8 ga13
                              clear all
                              refine q_then_n ?_
                              refine awp_ret ?_
                              refine q_then_r ?_
                              first | (simp [endQ, may, g1, g2, g3, g4, g5, c12, g13]; done) | (simp [endQ, may]; done) | (simp [endQ]; unfold may; (repeat' split) <;> first | (exfalso; omega) | (simp_all; done)) | (simp [endQ, may, *]; done) | (simp_all [endQ, may]; done) | (simp_all [endQ, may]; omega) | (simp [endQ, may] <;> split <;> omega)
                      · try simp at c12
                        all_goals try (exfalso; omega)
                        all_goals
                          refine awp_skip ?_
                          refine q_then_n ?_
                          refine awp_seq ?_
                          refine awp_regionA (c := ⟨[], [], []⟩) (by simp only [lite_cons, lite_nil] <;> rfl) fun all hall K hK => ?_
                          have ga3 : guardOf all 3 = some 55 := hall 3
                          clear hall
                          refine vcL_split 4 fun K' hK' => ?_
                          simp (maxSteps := 1000000) (disch := first | omega | assumption) [ga3]
                          repeat' refine And.intro ?_ ?_
                          all_goals first | omega | exact rfl | skip
                          refine hK' _ ?_
                          clear hK' K'
                          simp only [List.drop_succ_cons, List.drop_zero]
                          refine vcL_bool 55 (by simp <;> rfl) ?_
                          refine ⟨fun g16 => ?_, fun g16 => ?_⟩
                          · try simp at g16
                            all_goals try (exfalso; omega)
                            all_goals
                              simp (maxSteps := 1000000) (disch := first | omega | assumption) [ga3]
                              repeat' refine And.intro ?_ ?_
                              all_goals first | omega | exact rfl | skip
                              refine hK _ ?_
                              clear hK K
                              clear ga3
                              clear all
                              refine q_then_n ?_
                              refine awp_ret ?_
                              first | (simp [endQ, may, g1, g2, g3, g4, g5, c12, g16]; done) | (simp [endQ, may]; done) | (simp [endQ]; unfold may; (repeat' split) <;> first | (exfalso; omega) | (simp_all; done)) | (simp [endQ, may, *]; done) | (simp_all [endQ, may]; done) | (simp_all [endQ, may]; omega) | (simp [endQ, may] <;> split <;> omega)
                          · try simp at g16
                            all_goals try (exfalso; omega)
                            all_goals
                              simp (maxSteps := 1000000) (disch := first | omega | assumption) [ga3]
                              repeat' refine And.intro ?_ ?_
                              all_goals first | omega | exact rfl | skip
                              refine hK _ ?_
                              clear hK K
                              clear ga3
                              clear all
                              refine q_then_n ?_
                              refine awp_ret ?_
                              first | (simp [endQ, may, g1, g2, g3, g4, g5, c12, g16]; done) | (simp [endQ, may]; done) | (simp [endQ]; unfold may; (repeat' split) <;> first | (exfalso; omega) | (simp_all; done)) | (simp [endQ, may, *]; done) | (simp_all [endQ, may]; done) | (simp_all [endQ, may]; omega) | (simp [endQ, may] <;> split <;> omega)

end Go.Proofs.Ythieajadepfeoaa

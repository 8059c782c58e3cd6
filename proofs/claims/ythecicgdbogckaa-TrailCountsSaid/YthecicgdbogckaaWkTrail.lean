/- Walks: contracts of functions. Written by a program of ours out of annotations. -/
import Derived.Test.YthecicgdbogckaaVmTab
import Derived.Test.YthecicgdbogckaaVmX10
namespace Go.Proofs.Ythecicgdbogckaa
open Go Go.Vm
set_option maxRecDepth 20000
set_option linter.all false
set_option maxHeartbeats 8000000

def clip (x0 : Int) (x1 : Int) (x2 : Int) : Int := max x1 (min x0 x2)
-- scrim/sat.Clip
theorem clip_fn (x0 : Int) (x1 : Int) (x2 : Int) (σ : List (List D))  : Ct Try.prog 35 [.v (.int .i64 x0), .v (.int .i64 x1), .v (.int .i64 x2)] σ (fun r σ' => r = .v (.int .i64 (clip x0 x1 x2)) ∧ σ' = σ) := by
  refine fn_start (rs := [.tmp 6]) Try.func35 rfl rfl Try.ntmps35 Try.results35 (by simp) ?_
  simp only [argEnv]
  refine awp_seq ?_
  refine awp_regionA (c := ⟨[], [], [], [], []⟩) (by simp only [lite_cons, lite_nil] <;> rfl) fun all hall K hK => ?_
  clear hall
  simp (maxSteps := 1000000) (disch := first | omega | assumption)
  repeat' refine And.intro ?_ ?_
  all_goals first | omega | exact rfl | skip
  refine hK _ ?_
  clear hK K
  clear all
  refine q_then_n ?_
  refine awp_seq ?_
  refine awp_regionA (c := ⟨[], [], [], [], []⟩) (by simp only [lite_cons, lite_nil] <;> rfl) fun all hall K hK => ?_
  clear hall
  simp (maxSteps := 1000000) (disch := first | omega | assumption)
  repeat' refine And.intro ?_ ?_
  all_goals first | omega | exact rfl | skip
  refine hK _ ?_
  clear hK K
  clear all
  refine q_then_n ?_
  refine awp_ret ?_
  first | (simp [endQ, clip]; done) | (simp [endQ, clip]; done) | (simp [endQ]; unfold clip; (repeat' split) <;> first | (exfalso; omega) | (simp_all; done)) | (simp [endQ, clip, *]; done) | (simp_all [endQ, clip]; done) | (simp_all [endQ, clip]; omega) | (simp [endQ, clip] <;> split <;> omega)

structure TOp where
  kind : Int
  a : Int
  b : Int
  c : Int
  name : ByteArray
  value : ByteArray
  deriving DecidableEq
@[simp] abbrev d_TOp (s : TOp) : D := .agg [.v (.int .i64 s.kind), .v (.int .i64 s.a), .v (.int .i64 s.b), .v (.int .i64 s.c), .v (.string s.name), .v (.string s.value)]

abbrev sP : ByteArray := ⟨#[112]⟩
abbrev sRoot : ByteArray := ⟨#[114, 111, 111, 116]⟩
def cnt (k : Int) (l : List TOp) : Nat := (l.filter fun o => decide (o.kind = k)).length
theorem cnt_le (k : Int) (l : List TOp) : cnt k l ≤ l.length := List.length_filter_le _ _
theorem cnt_take (k : Int) (l : List TOp) (i : Nat) (h : i < l.length) : cnt k (l.take (i + 1)) = cnt k (l.take i) + if l[i].kind = k then 1 else 0 := by
  unfold cnt
  rw [List.take_succ_eq_append_getElem h, List.filter_append, List.length_append, List.filter_cons]
  by_cases e : l[i].kind = k <;> simp [e]

-- scrim/trail.Count
theorem count_fn (ops : List TOp) (kind : Int) (σ : List (List D)) (hl : ops.length ≤ 9223372036854775807) : Ct Try.prog 6 [.sl false (ops.map d_TOp), D.int kind] σ (fun r σ' => r = .int ((cnt kind ops : Nat) : Int) ∧ σ' = σ) := by
  refine fn_start (rs := [.tmp 4]) Try.func6 rfl rfl Try.ntmps6 Try.results6 (by simp) ?_
  simp only [argEnv]
  refine awp_seq ?_
  refine awp_regionA (c := ⟨[], [], [], [], []⟩) (by simp only [lite_cons, lite_nil] <;> rfl) fun all hall K hK => ?_
  clear hall
  simp (maxSteps := 1000000) (disch := first | omega | assumption)
  repeat' refine And.intro ?_ ?_
  all_goals first | omega | exact rfl | skip
  refine hK _ ?_
  clear hK K
  clear all
  refine q_then_n ?_
  refine awp_seq ?_
  refine awp_regionA (c := ⟨[], [], [], [], []⟩) (by simp only [lite_cons, lite_nil] <;> rfl) fun all hall K hK => ?_
  clear hall
  simp (maxSteps := 1000000) (disch := first | omega | assumption)
  repeat' refine And.intro ?_ ?_
  all_goals first | omega | exact rfl | skip
  refine hK _ ?_
  clear hK K
  clear all
  refine q_then_n ?_
  refine awp_seq ?_
  refine awp_seq ?_
  refine awp_regionA (c := ⟨[], [], [], [], []⟩) (by simp only [lite_cons, lite_nil] <;> rfl) fun all hall K hK => ?_
  clear hall
  simp (maxSteps := 1000000) (disch := first | omega | assumption)
  repeat' refine And.intro ?_ ?_
  all_goals first | omega | exact rfl | skip
  refine hK _ ?_
  clear hK K
  clear all
  refine q_then_n ?_
  refine awp_block ?_
  refine awp_keep [1, 4, 5, 8, 9, 10] (by simp only [keepL_nil, keepL_cons, envOf_sel, envOf_nil, sel_t, sel_f, Nat.reduceBEq] <;> rfl) ?_
  refine awp_loopE (fun (k : Nat) => [(10, .d (.v (.int .i64 (k : Int)))), (5, .d (.int ((cnt kind (ops.take k) : Nat) : Int)))]) [5, 7, 10, 11, 12, 13, 14, 15, 16, 17, 18, 19, 20] (fun (k : Nat) => k ≤ ops.length) (fun (k : Nat) => ops.length - k) (0) (by simp <;> rfl) ?_ ?_ ?_
  · simp [cnt]
  · simp
  rintro k hk
  simp only [List.cons_append, List.nil_append]
  have hcl := cnt_le kind (ops.take k)
  simp only [List.length_take] at hcl
  refine awp_seq ?_
  refine awp_regionA (c := ⟨[], [], [], [], []⟩) (by simp only [lite_cons, lite_nil] <;> rfl) fun all hall K hK => ?_
  clear hall
  simp (maxSteps := 1000000) (disch := first | omega | assumption)
  repeat' refine And.intro ?_ ?_
  all_goals first | omega | exact rfl | skip
  refine hK _ ?_
  clear hK K
  clear all
  refine q_then_n ?_
  refine awp_seq ?_
  refine awp_ifB (by simp <;> rfl) ?_
  refine ⟨fun c1 => ?_, fun c1 => ?_⟩
  · try simp at c1
    refine awp_skip ?_
    refine q_then_n ?_
    refine awp_seq ?_
    refine awp_block ?_
    refine awp_seq ?_
    refine awp_regionA (c := ⟨[], [], [], [], []⟩) (by simp only [lite_cons, lite_nil] <;> rfl) fun all hall K hK => ?_
    clear hall
    simp (maxSteps := 1000000) (disch := first | omega | assumption)
    repeat' refine And.intro ?_ ?_
    all_goals first | omega | exact rfl | skip
    refine hK _ ?_
    clear hK K
    clear all
    refine q_then_n ?_
    refine awp_seq ?_
    refine awp_regionA (c := ⟨[], [], [], [], []⟩) (by simp only [lite_cons, lite_nil] <;> rfl) fun all hall K hK => ?_
    clear hall
    simp (maxSteps := 1000000) (disch := first | omega | assumption)
    repeat' refine And.intro ?_ ?_
    all_goals first | omega | exact rfl | skip
    refine hK _ ?_
    clear hK K
    clear all
    refine q_then_n ?_
    refine awp_ifB (by simp <;> rfl) ?_
    refine ⟨fun c2 => ?_, fun c2 => ?_⟩
    · try simp at c2
      refine awp_keep [1, 4, 5, 8, 9, 10] (by simp only [keepL_nil, keepL_cons, envOf_sel, envOf_nil, sel_t, sel_f, Nat.reduceBEq] <;> rfl) ?_
      refine awp_regionA (c := ⟨[], [], [], [], []⟩) (by simp only [lite_cons, lite_nil] <;> rfl) fun all hall K hK => ?_
      clear hall
      simp (maxSteps := 1000000) (disch := first | omega | assumption)
      repeat' refine And.intro ?_ ?_
      all_goals first | omega | exact rfl | skip
      refine hK _ ?_
      clear hK K
      clear all
      refine q_block_n ?_
      refine q_then_n ?_
      refine awp_regionA (c := ⟨[], [], [], [], []⟩) (by simp only [lite_cons, lite_nil] <;> rfl) fun all hall K hK => ?_
      clear hall
      simp (maxSteps := 1000000) (disch := first | omega | assumption)
      repeat' refine And.intro ?_ ?_
      all_goals first | omega | exact rfl | skip
      refine hK _ ?_
      clear hK K
      clear all
      refine q_round (k + 1) ?_ ?_ (weak_mkA rfl ?_ (by simp) (by simp))
      · omega
      · try dsimp only
        omega
      · simp (maxSteps := 1000000) (disch := first | omega | assumption) [cnt_take, c2]
    · try simp at c2
      refine awp_skip ?_
      refine q_block_n ?_
      refine q_then_n ?_
      refine awp_keep [1, 4, 5, 8, 9, 10] (by simp only [keepL_nil, keepL_cons, envOf_sel, envOf_nil, sel_t, sel_f, Nat.reduceBEq] <;> rfl) ?_
      refine awp_regionA (c := ⟨[], [], [], [], []⟩) (by simp only [lite_cons, lite_nil] <;> rfl) fun all hall K hK => ?_
      clear hall
      simp (maxSteps := 1000000) (disch := first | omega | assumption)
      repeat' refine And.intro ?_ ?_
      all_goals first | omega | exact rfl | skip
      refine hK _ ?_
      clear hK K
      clear all
      refine q_round (k + 1) ?_ ?_ (weak_mkA rfl ?_ (by simp) (by simp))
      · omega
      · try dsimp only
        omega
      · simp (maxSteps := 1000000) (disch := first | omega | assumption) [cnt_take, c2]
  · try simp at c1
    obtain rfl : k = ops.length := by omega
    rw [List.take_length]
    refine awp_exit ?_
    refine q_then_e ?_
    refine q_loop_e ?_
    refine q_block_e ?_
    refine q_then_n ?_
    refine awp_seq ?_
    refine awp_regionA (c := ⟨[], [], [], [], []⟩) (by simp only [lite_cons, lite_nil] <;> rfl) fun all hall K hK => ?_
    clear hall
    simp (maxSteps := 1000000) (disch := first | omega | assumption)
    repeat' refine And.intro ?_ ?_
    all_goals first | omega | exact rfl | skip
    refine hK _ ?_
    clear hK K
    clear all
    refine q_then_n ?_
    refine awp_ret ?_
    simp [endQ]

def letter (x0 : Int) : Bool := if x0 ≥ 97 then decide (x0 ≤ 122)
  else false
-- scrim/word.letter
theorem letter_fn (x0 : Int) (σ : List (List D))  : Ct Try.prog 94 [.v (.int .u8 x0)] σ (fun r σ' => r = .v (.bool (letter x0)) ∧ σ' = σ) := by
  refine fn_start (rs := [.tmp 2]) Try.func94 rfl rfl Try.ntmps94 Try.results94 (by simp) ?_
  simp only [argEnv]
  refine awp_seq ?_
  refine awp_regionA (c := ⟨[], [], [], [], []⟩) (by simp only [lite_cons, lite_nil] <;> rfl) fun all hall K hK => ?_
  clear hall
  simp (maxSteps := 1000000) (disch := first | omega | assumption)
  repeat' refine And.intro ?_ ?_
  all_goals first | omega | exact rfl | skip
  refine hK _ ?_
  clear hK K
  clear all
  refine q_then_n ?_
  refine awp_seq ?_
  refine awp_regionA (c := ⟨[], [], [], [], []⟩) (by simp only [lite_cons, lite_nil] <;> rfl) fun all hall K hK => ?_
  have ga2 : guardOf all 2 = some 5 := hall 2
  clear hall
  refine vcL_split 3 fun K' hK' => ?_
  simp (maxSteps := 1000000) (disch := first | omega | assumption) [ga2]
  repeat' refine And.intro ?_ ?_
  all_goals first | omega | exact rfl | skip
  refine hK' _ ?_
  clear hK' K'
  simp only [List.drop_succ_cons, List.drop_zero]
  refine vcL_bool 5 (by simp <;> rfl) ?_
  refine ⟨fun g1 => ?_, fun g1 => ?_⟩
  · try simp at g1
    all_goals try (exfalso; omega)
    all_goals
      simp (maxSteps := 1000000) (disch := first | omega | assumption) [ga2]
      repeat' refine And.intro ?_ ?_
      all_goals first | omega | exact rfl | skip
      refine hK _ ?_
      clear hK K
      clear ga2
      clear all
      refine q_then_n ?_
      refine awp_ret ?_
      first | (simp [endQ, letter, g1]; done) | (simp [endQ, letter]; done) | (simp [endQ]; unfold letter; (repeat' split) <;> first | (exfalso; omega) | (simp_all; done)) | (simp [endQ, letter, *]; done) | (simp_all [endQ, letter]; done) | (simp_all [endQ, letter]; omega) | (simp [endQ, letter] <;> split <;> omega)
  · try simp at g1
    all_goals try (exfalso; omega)
    all_goals
      simp (maxSteps := 1000000) (disch := first | omega | assumption) [ga2]
      repeat' refine And.intro ?_ ?_
      all_goals first | omega | exact rfl | skip
      refine hK _ ?_
      clear hK K
      clear ga2
      clear all
      refine q_then_n ?_
      refine awp_ret ?_
      first | (simp [endQ, letter, g1]; done) | (simp [endQ, letter]; done) | (simp [endQ]; unfold letter; (repeat' split) <;> first | (exfalso; omega) | (simp_all; done)) | (simp [endQ, letter, *]; done) | (simp_all [endQ, letter]; done) | (simp_all [endQ, letter]; omega) | (simp [endQ, letter] <;> split <;> omega)

def digit (x0 : Int) : Bool := if x0 ≥ 48 then decide (x0 ≤ 57)
  else false
-- scrim/word.digit
theorem digit_fn (x0 : Int) (σ : List (List D))  : Ct Try.prog 126 [.v (.int .u8 x0)] σ (fun r σ' => r = .v (.bool (digit x0)) ∧ σ' = σ) := by
  refine fn_start (rs := [.tmp 2]) Try.func126 rfl rfl Try.ntmps126 Try.results126 (by simp) ?_
  simp only [argEnv]
  refine awp_seq ?_
  refine awp_regionA (c := ⟨[], [], [], [], []⟩) (by simp only [lite_cons, lite_nil] <;> rfl) fun all hall K hK => ?_
  clear hall
  simp (maxSteps := 1000000) (disch := first | omega | assumption)
  repeat' refine And.intro ?_ ?_
  all_goals first | omega | exact rfl | skip
  refine hK _ ?_
  clear hK K
  clear all
  refine q_then_n ?_
  refine awp_seq ?_
  refine awp_regionA (c := ⟨[], [], [], [], []⟩) (by simp only [lite_cons, lite_nil] <;> rfl) fun all hall K hK => ?_
  have ga2 : guardOf all 2 = some 5 := hall 2
  clear hall
  refine vcL_split 3 fun K' hK' => ?_
  simp (maxSteps := 1000000) (disch := first | omega | assumption) [ga2]
  repeat' refine And.intro ?_ ?_
  all_goals first | omega | exact rfl | skip
  refine hK' _ ?_
  clear hK' K'
  simp only [List.drop_succ_cons, List.drop_zero]
  refine vcL_bool 5 (by simp <;> rfl) ?_
  refine ⟨fun g1 => ?_, fun g1 => ?_⟩
  · try simp at g1
    all_goals try (exfalso; omega)
    all_goals
      simp (maxSteps := 1000000) (disch := first | omega | assumption) [ga2]
      repeat' refine And.intro ?_ ?_
      all_goals first | omega | exact rfl | skip
      refine hK _ ?_
      clear hK K
      clear ga2
      clear all
      refine q_then_n ?_
      refine awp_ret ?_
      first | (simp [endQ, digit, g1]; done) | (simp [endQ, digit]; done) | (simp [endQ]; unfold digit; (repeat' split) <;> first | (exfalso; omega) | (simp_all; done)) | (simp [endQ, digit, *]; done) | (simp_all [endQ, digit]; done) | (simp_all [endQ, digit]; omega) | (simp [endQ, digit] <;> split <;> omega)
  · try simp at g1
    all_goals try (exfalso; omega)
    all_goals
      simp (maxSteps := 1000000) (disch := first | omega | assumption) [ga2]
      repeat' refine And.intro ?_ ?_
      all_goals first | omega | exact rfl | skip
      refine hK _ ?_
      clear hK K
      clear ga2
      clear all
      refine q_then_n ?_
      refine awp_ret ?_
      first | (simp [endQ, digit, g1]; done) | (simp [endQ, digit]; done) | (simp [endQ]; unfold digit; (repeat' split) <;> first | (exfalso; omega) | (simp_all; done)) | (simp [endQ, digit, *]; done) | (simp_all [endQ, digit]; done) | (simp_all [endQ, digit]; omega) | (simp [endQ, digit] <;> split <;> omega)

def plain (x0 : Int) : Bool := if (letter x0) = true then true
  else if (digit x0) = true then true
    else decide (x0 = 45)
-- scrim/word.plain
theorem plain_fn (x0 : Int) (σ : List (List D))  : Ct Try.prog 115 [.v (.int .u8 x0)] σ (fun r σ' => r = .v (.bool (plain x0)) ∧ σ' = σ) := by
  refine fn_start (rs := [.tmp 2]) Try.func115 rfl rfl Try.ntmps115 Try.results115 (by simp) ?_
  simp only [argEnv]
  refine awp_seq ?_
  refine awp_regionA (c := ⟨[], [], [], [], []⟩) (by simp only [lite_cons, lite_nil] <;> rfl) fun all hall K hK => ?_
  clear hall
  simp (maxSteps := 1000000) (disch := first | omega | assumption)
  repeat' refine And.intro ?_ ?_
  all_goals first | omega | exact rfl | skip
  refine hK _ ?_
  clear hK K
  clear all
  refine q_then_n ?_
  refine awp_seq ?_
  refine awp_regionA (c := ⟨[], [], [], [], []⟩) (by simp only [lite_cons, lite_nil] <;> rfl) fun all hall K hK => ?_
  have ga2 : guardOf all 2 = some 5 := hall 2
  have ga6 : guardOf all 6 = some 9 := hall 6
  clear hall
  refine vcL_split 1 fun K' hK' => ?_
  simp (maxSteps := 1000000) (disch := first | omega | assumption) [ga2, ga6]
  repeat' refine And.intro ?_ ?_
  all_goals first | omega | exact rfl | skip
  refine hK' _ ?_
  clear hK' K'
  simp only [List.drop_succ_cons, List.drop_zero]
  refine vcL_step fun K' hK' => ?_
  simp (maxSteps := 1000000) (disch := first | omega | assumption) [ga2, ga6]
  refine Ct.mono (Ct.of_le (letter_fn x0 _ ) (by first | exact leArgs_of rfl | (refine leArgs_of ?_; simp; done) | (refine leArgs_of ?_; simp; rfl) | (simp [leArgs, leArg]; done)) rfl) ?_
  rintro _ _ ⟨hr9, hs9⟩
  subst hr9
  replace hs9 := hs9.symm
  subst hs9
  refine hK' _ ?_
  clear hK' K'
  refine vcL_split 1 fun K' hK' => ?_
  simp (maxSteps := 1000000) (disch := first | omega | assumption) [ga2, ga6]
  repeat' refine And.intro ?_ ?_
  all_goals first | omega | exact rfl | skip
  refine hK' _ ?_
  clear hK' K'
  simp only [List.drop_succ_cons, List.drop_zero]
  refine vcL_bool 5 (by simp <;> rfl) ?_
  refine ⟨fun g1 => ?_, fun g1 => ?_⟩
  · try simp at g1
    all_goals try (exfalso; omega)
    all_goals
      refine vcL_split 4 fun K' hK' => ?_
      simp (maxSteps := 1000000) (disch := first | omega | assumption) [ga2, ga6]
      repeat' refine And.intro ?_ ?_
      all_goals first | omega | exact rfl | skip
      refine hK' _ ?_
      clear hK' K'
      simp only [List.drop_succ_cons, List.drop_zero]
      simp (maxSteps := 1000000) (disch := first | omega | assumption) [ga2, ga6]
      repeat' refine And.intro ?_ ?_
      all_goals first | omega | exact rfl | skip
      refine hK _ ?_
      clear hK K
      clear ga2 ga6
      clear all
      refine q_then_n ?_
      refine awp_ret ?_
      first | (simp [endQ, plain, g1]; done) | (simp [endQ, plain]; done) | (simp [endQ]; unfold plain; (repeat' split) <;> first | (exfalso; omega) | (simp_all; done)) | (simp [endQ, plain, *]; done) | (simp_all [endQ, plain]; done) | (simp_all [endQ, plain]; omega) | (simp [endQ, plain] <;> split <;> omega)
  · try simp at g1
    all_goals try (exfalso; omega)
    all_goals
      refine vcL_split 1 fun K' hK' => ?_
      simp (maxSteps := 1000000) (disch := first | omega | assumption) [ga2, ga6]
      repeat' refine And.intro ?_ ?_
      all_goals first | omega | exact rfl | skip
      refine hK' _ ?_
      clear hK' K'
      simp only [List.drop_succ_cons, List.drop_zero]
      refine vcL_gt ga2 (by simp <;> rfl) rfl fun K' hK' => ?_
      simp (maxSteps := 1000000) (disch := first | omega | assumption) [ga2, ga6]
      refine Ct.mono (Ct.of_le (digit_fn x0 _ ) (by first | exact leArgs_of rfl | (refine leArgs_of ?_; simp; done) | (refine leArgs_of ?_; simp; rfl) | (simp [leArgs, leArg]; done)) rfl) ?_
      rintro _ _ ⟨hr9, hs9⟩
      subst hr9
      replace hs9 := hs9.symm
      subst hs9
      refine hK' _ ?_
      clear hK' K'
      refine vcL_split 2 fun K' hK' => ?_
      simp (maxSteps := 1000000) (disch := first | omega | assumption) [ga2, ga6]
      repeat' refine And.intro ?_ ?_
      all_goals first | omega | exact rfl | skip
      refine hK' _ ?_
      clear hK' K'
      simp only [List.drop_succ_cons, List.drop_zero]
      refine vcL_bool 9 (by simp <;> rfl) ?_
      refine ⟨fun g2 => ?_, fun g2 => ?_⟩
      · try simp at g2
        all_goals try (exfalso; omega)
        all_goals
          simp (maxSteps := 1000000) (disch := first | omega | assumption) [ga2, ga6]
          repeat' refine And.intro ?_ ?_
          all_goals first | omega | exact rfl | skip
          refine hK _ ?_
          clear hK K
          clear ga2 ga6
          clear all
          refine q_then_n ?_
          refine awp_ret ?_
          first | (simp [endQ, plain, g1, g2]; done) | (simp [endQ, plain]; done) | (simp [endQ]; unfold plain; (repeat' split) <;> first | (exfalso; omega) | (simp_all; done)) | (simp [endQ, plain, *]; done) | (simp_all [endQ, plain]; done) | (simp_all [endQ, plain]; omega) | (simp [endQ, plain] <;> split <;> omega)
      · try simp at g2
        all_goals try (exfalso; omega)
        all_goals
          simp (maxSteps := 1000000) (disch := first | omega | assumption) [ga2, ga6]
          repeat' refine And.intro ?_ ?_
          all_goals first | omega | exact rfl | skip
          refine hK _ ?_
          clear hK K
          clear ga2 ga6
          clear all
          refine q_then_n ?_
          refine awp_ret ?_
          first | (simp [endQ, plain, g1, g2]; done) | (simp [endQ, plain]; done) | (simp [endQ]; unfold plain; (repeat' split) <;> first | (exfalso; omega) | (simp_all; done)) | (simp [endQ, plain, *]; done) | (simp_all [endQ, plain]; done) | (simp_all [endQ, plain]; omega) | (simp [endQ, plain] <;> split <;> omega)

theorem get_app {σ : List (List D)} {i : Nat} {a : List D} (J : List (List D)) (h : σ[i]? = some a) : (σ ++ J)[i]? = some a := by rw [List.getElem?_append_left (og_lt h)]; exact h
theorem set_app {σ : List (List D)} {i : Nat} {a : List D} (J : List (List D)) (b : List D) (h : σ[i]? = some a) : (σ ++ J).set i b = σ.set i b ++ J := List.set_append_left _ _ (og_lt h)
theorem putM_eq {σ : List (List D)} {m : Nat} {cs : List D} (h : σ[m]? = some cs) (i N : Nat) (kd : TypeDesc) (ck : Nat) (kvs : List (Value × Nat × D)) : putM σ m i N kd ck kvs = σ.set m (cs.set i (.mp N kd ck kvs)) := by
  unfold putM; rw [List.getD_eq_getElem?_getD, h]; rfl
theorem keyI (k : Int) : MapKept.IsKey (.int .i64) (.int .i64 k) := rfl

-- scrim/word.all
theorem wall_fn  (σ : List (List D))  : Ct Try.prog 114 [D.str sP, .clo (.func 115) [] []] σ (fun r σ' => r = .bool true ∧ σ' = σ) := by
  refine fn_start (rs := [.tmp 4]) Try.func114 rfl rfl Try.ntmps114 Try.results114 (by simp) ?_
  simp only [argEnv]
  have hsz : sP.size = 1 := rfl
  refine awp_seq ?_
  refine awp_regionA (c := ⟨[], [], [], [], []⟩) (by simp only [lite_cons, lite_nil] <;> rfl) fun all hall K hK => ?_
  clear hall
  simp (maxSteps := 1000000) (disch := first | omega | assumption)
  repeat' refine And.intro ?_ ?_
  all_goals first | omega | exact rfl | skip
  refine hK _ ?_
  clear hK K
  clear all
  refine q_then_n ?_
  refine awp_seq ?_
  refine awp_seq ?_
  refine awp_regionA (c := ⟨[], [], [], [], []⟩) (by simp only [lite_cons, lite_nil] <;> rfl) fun all hall K hK => ?_
  clear hall
  simp (maxSteps := 1000000) (disch := first | omega | assumption)
  repeat' refine And.intro ?_ ?_
  all_goals first | omega | exact rfl | skip
  refine hK _ ?_
  clear hK K
  clear all
  refine q_then_n ?_
  refine awp_block ?_
  refine awp_keep [0, 1, 4, 7, 8] (by simp only [keepL_nil, keepL_cons, envOf_sel, envOf_nil, sel_t, sel_f, Nat.reduceBEq] <;> rfl) ?_
  refine awp_loopE (fun (k : Nat) => [(8, .d (.v (.int .i64 (k : Int)))), (5, .d (.any))]) [4, 5, 8, 9, 10, 11, 12, 13, 14, 15, 16, 17] (fun (k : Nat) => k ≤ 1) (fun (k : Nat) => 1 - k) (0) (by simp <;> rfl) ?_ ?_ ?_
  · simp
  · simp
  rintro k hk
  simp only [List.cons_append, List.nil_append]
  refine awp_seq ?_
  refine awp_regionA (c := ⟨[], [], [], [], []⟩) (by simp only [lite_cons, lite_nil] <;> rfl) fun all hall K hK => ?_
  clear hall
  simp (maxSteps := 1000000) (disch := first | omega | assumption)
  repeat' refine And.intro ?_ ?_
  all_goals first | omega | exact rfl | skip
  refine hK _ ?_
  clear hK K
  clear all
  refine q_then_n ?_
  refine awp_seq ?_
  refine awp_ifB (by simp <;> rfl) ?_
  refine ⟨fun c1 => ?_, fun c1 => ?_⟩
  · try simp at c1
    obtain rfl : k = 0 := by omega
    refine awp_skip ?_
    refine q_then_n ?_
    refine awp_seq ?_
    refine awp_block ?_
    refine awp_seq ?_
    refine awp_regionA (c := ⟨[], [], [], [], []⟩) (by simp only [lite_cons, lite_nil] <;> rfl) fun all hall K hK => ?_
    clear hall
    simp (maxSteps := 1000000) (disch := first | omega | assumption)
    repeat' refine And.intro ?_ ?_
    all_goals first | omega | exact rfl | skip
    refine hK _ ?_
    clear hK K
    clear all
    refine q_then_n ?_
    refine awp_seq ?_
    refine awp_regionA (c := ⟨[], [], [], [], []⟩) (by simp only [lite_cons, lite_nil] <;> rfl) fun all hall K hK => ?_
    clear hall
    refine vcL_split 4 fun K' hK' => ?_
    simp (maxSteps := 1000000) (disch := first | omega | assumption)
    repeat' refine And.intro ?_ ?_
    all_goals first | omega | exact rfl | skip
    refine hK' _ ?_
    clear hK' K'
    simp only [List.drop_succ_cons, List.drop_zero]
    refine vcL_step fun K' hK' => ?_
    simp (maxSteps := 1000000) (disch := first | omega | assumption)
    refine Ct.mono (Ct.of_le (plain_fn 112 _) (by first | exact leArgs_of rfl | (refine leArgs_of ?_; simp; done) | (refine leArgs_of ?_; simp; rfl) | (simp [leArgs, leArg]; done)) rfl) ?_
    rintro _ _ ⟨hr9, hs9⟩
    subst hr9
    replace hs9 := hs9.symm
    subst hs9
    refine hK' _ ?_
    clear hK' K'
    simp (maxSteps := 1000000) (disch := first | omega | assumption)
    repeat' refine And.intro ?_ ?_
    all_goals first | omega | exact rfl | skip
    refine hK _ ?_
    clear hK K
    clear all
    refine q_then_n ?_
    refine awp_ifB (by simp <;> rfl) ?_
    refine ⟨fun c2 => ?_, fun c2 => ?_⟩
    · try simp at c2
      exact absurd c2 (by decide)
    · try simp at c2
      refine awp_skip ?_
      refine q_block_n ?_
      refine q_then_n ?_
      refine awp_keep [0, 1, 5, 7, 8] (by simp only [keepL_nil, keepL_cons, envOf_sel, envOf_nil, sel_t, sel_f, Nat.reduceBEq] <;> rfl) ?_
      refine awp_regionA (c := ⟨[], [], [], [], []⟩) (by simp only [lite_cons, lite_nil] <;> rfl) fun all hall K hK => ?_
      clear hall
      simp (maxSteps := 1000000) (disch := first | omega | assumption)
      repeat' refine And.intro ?_ ?_
      all_goals first | omega | exact rfl | skip
      refine hK _ ?_
      clear hK K
      clear all
      refine q_round (1) ?_ ?_ (weak_mkA rfl ?_ (by simp) (by simp))
      · omega
      · try dsimp only
        omega
      · simp (maxSteps := 1000000) (disch := first | omega | assumption)
  · try simp at c1
    refine awp_exit ?_
    refine q_then_e ?_
    refine q_loop_e ?_
    refine q_block_e ?_
    refine q_then_n ?_
    refine awp_seq ?_
    refine awp_regionA (c := ⟨[], [], [], [], []⟩) (by simp only [lite_cons, lite_nil] <;> rfl) fun all hall K hK => ?_
    clear hall
    simp (maxSteps := 1000000) (disch := first | omega | assumption)
    repeat' refine And.intro ?_ ?_
    all_goals first | omega | exact rfl | skip
    refine hK _ ?_
    clear hK K
    clear all
    refine q_then_n ?_
    refine awp_ret ?_
    simp [endQ]

-- scrim/word.Key
theorem wkey_fn  (σ : List (List D))  : Ct Try.prog 93 [D.str sP] σ (fun r σ' => r = .bool true ∧ σ' = σ) := by
  refine fn_start (rs := [.tmp 2]) Try.func93 rfl rfl Try.ntmps93 Try.results93 (by simp) ?_
  simp only [argEnv]
  have hsz : sP.size = 1 := rfl
  refine awp_seq ?_
  refine awp_regionA (c := ⟨[], [], [], [], []⟩) (by simp only [lite_cons, lite_nil] <;> rfl) fun all hall K hK => ?_
  clear hall
  simp (maxSteps := 1000000) (disch := first | omega | assumption)
  repeat' refine And.intro ?_ ?_
  all_goals first | omega | exact rfl | skip
  refine hK _ ?_
  clear hK K
  clear all
  refine q_then_n ?_
  refine awp_seq ?_
  refine awp_regionA (c := ⟨[], [], [], [], []⟩) (by simp only [lite_cons, lite_nil] <;> rfl) fun all hall K hK => ?_
  have ga2 : guardOf all 2 = some 5 := hall 2
  have ga7 : guardOf all 7 = some 10 := hall 7
  clear hall
  refine vcL_split 3 fun K' hK' => ?_
  simp (maxSteps := 1000000) (disch := first | omega | assumption) [ga2, ga7]
  repeat' refine And.intro ?_ ?_
  all_goals first | omega | exact rfl | skip
  refine hK' _ ?_
  clear hK' K'
  simp only [List.drop_succ_cons, List.drop_zero]
  refine vcL_bool 5 (by simp <;> rfl) ?_
  refine ⟨fun g1 => ?_, fun g1 => ?_⟩
  · try simp at g1
    refine vcL_split 5 fun K' hK' => ?_
    simp (maxSteps := 1000000) (disch := first | omega | assumption) [ga2, ga7]
    repeat' refine And.intro ?_ ?_
    all_goals first | omega | exact rfl | skip
    refine hK' _ ?_
    clear hK' K'
    simp only [List.drop_succ_cons, List.drop_zero]
    refine vcL_bool 10 (by simp <;> rfl) ?_
    refine ⟨fun g2 => ?_, fun g2 => ?_⟩
    · try simp at g2
      refine vcL_split 1 fun K' hK' => ?_
      simp (maxSteps := 1000000) (disch := first | omega | assumption) [ga2, ga7]
      repeat' refine And.intro ?_ ?_
      all_goals first | omega | exact rfl | skip
      refine hK' _ ?_
      clear hK' K'
      simp only [List.drop_succ_cons, List.drop_zero]
      refine vcL_gt ga7 (by simp <;> rfl) rfl fun K' hK' => ?_
      simp (maxSteps := 1000000) (disch := first | omega | assumption) [ga2, ga7]
      refine Ct.mono (Ct.of_le (wall_fn _) (by first | exact leArgs_of rfl | (refine leArgs_of ?_; simp; done) | (refine leArgs_of ?_; simp; rfl) | (simp [leArgs, leArg]; done)) rfl) ?_
      rintro _ _ ⟨hr9, hs9⟩
      subst hr9
      replace hs9 := hs9.symm
      subst hs9
      refine hK' _ ?_
      clear hK' K'
      simp (maxSteps := 1000000) (disch := first | omega | assumption) [ga2, ga7]
      repeat' refine And.intro ?_ ?_
      all_goals first | omega | exact rfl | skip
      refine hK _ ?_
      clear hK K
      clear ga2 ga7
      clear all
      refine q_then_n ?_
      refine awp_ret ?_
      simp [endQ]
    · try simp at g2
      exfalso; omega
  · simp at g1

-- scrim/word.Name
theorem wname_fn  (σ : List (List D))  : Ct Try.prog 64 [D.str sP] σ (fun r σ' => r = .bool true ∧ σ' = σ) := by
  refine fn_start (rs := [.tmp 2]) Try.func64 rfl rfl Try.ntmps64 Try.results64 (by simp) ?_
  simp only [argEnv]
  have hsz : sP.size = 1 := rfl
  refine awp_seq ?_
  refine awp_regionA (c := ⟨[], [], [], [], []⟩) (by simp only [lite_cons, lite_nil] <;> rfl) fun all hall K hK => ?_
  clear hall
  simp (maxSteps := 1000000) (disch := first | omega | assumption)
  repeat' refine And.intro ?_ ?_
  all_goals first | omega | exact rfl | skip
  refine hK _ ?_
  clear hK K
  clear all
  refine q_then_n ?_
  refine awp_seq ?_
  refine awp_regionA (c := ⟨[], [], [], [], []⟩) (by simp only [lite_cons, lite_nil] <;> rfl) fun all hall K hK => ?_
  have ga2 : guardOf all 2 = some 5 := hall 2
  clear hall
  refine vcL_split 1 fun K' hK' => ?_
  simp (maxSteps := 1000000) (disch := first | omega | assumption) [ga2]
  repeat' refine And.intro ?_ ?_
  all_goals first | omega | exact rfl | skip
  refine hK' _ ?_
  clear hK' K'
  simp only [List.drop_succ_cons, List.drop_zero]
  refine vcL_step fun K' hK' => ?_
  simp (maxSteps := 1000000) (disch := first | omega | assumption) [ga2]
  refine Ct.mono (Ct.of_le (wkey_fn _) (by first | exact leArgs_of rfl | (refine leArgs_of ?_; simp; done) | (refine leArgs_of ?_; simp; rfl) | (simp [leArgs, leArg]; done)) rfl) ?_
  rintro _ _ ⟨hr9, hs9⟩
  subst hr9
  replace hs9 := hs9.symm
  subst hs9
  refine hK' _ ?_
  clear hK' K'
  refine vcL_split 1 fun K' hK' => ?_
  simp (maxSteps := 1000000) (disch := first | omega | assumption) [ga2]
  repeat' refine And.intro ?_ ?_
  all_goals first | omega | exact rfl | skip
  refine hK' _ ?_
  clear hK' K'
  simp only [List.drop_succ_cons, List.drop_zero]
  refine vcL_bool 5 (by simp <;> rfl) ?_
  refine ⟨fun g1 => ?_, fun g1 => ?_⟩
  · try simp at g1
    refine vcL_split 2 fun K' hK' => ?_
    simp (maxSteps := 1000000) (disch := first | omega | assumption) [ga2]
    repeat' refine And.intro ?_ ?_
    all_goals first | omega | exact rfl | skip
    refine hK' _ ?_
    clear hK' K'
    simp only [List.drop_succ_cons, List.drop_zero]
    refine vcL_gt ga2 (by simp <;> rfl) rfl fun K' hK' => ?_
    simp (maxSteps := 1000000) (disch := first | omega | assumption) [ga2]
    refine Ct.mono (Ct.of_le (letter_fn 112 _) (by first | exact leArgs_of rfl | (refine leArgs_of ?_; simp; done) | (refine leArgs_of ?_; simp; rfl) | (simp [leArgs, leArg]; done)) rfl) ?_
    rintro _ _ ⟨hr9, hs9⟩
    subst hr9
    replace hs9 := hs9.symm
    subst hs9
    refine hK' _ ?_
    clear hK' K'
    simp (maxSteps := 1000000) (disch := first | omega | assumption) [ga2]
    repeat' refine And.intro ?_ ?_
    all_goals first | omega | exact rfl | skip
    refine hK _ ?_
    clear hK K
    clear ga2
    clear all
    refine q_then_n ?_
    refine awp_ret ?_
    simp [endQ]
    decide
  · simp at g1

-- scrim/arena.New
theorem anew_fn (x : Int) (σ : List (List D))  : Ct Try.prog 15 [D.int x] σ (fun r σ' => r = .ref (σ.length + 1) 0 ∧ σ' = σ ++ [[], [D.int (clip x 1 65536), D.int 1, .mp σ.length (.int .i64) 1 [(.int .i64 0, 0, .ref (σ.length + 2) 0)]], [D.int 0, D.int 2, D.str sRoot, D.str ⟨#[]⟩, .sl true [], .sl true [], .sl true [], D.int (-1), .sl true []]]) := by
  refine fn_start (rs := [.tmp 2]) Try.func15 rfl rfl Try.ntmps15 Try.results15 (by simp) ?_
  simp only [argEnv]
  refine awp_seq ?_
  refine awp_regionA (c := ⟨[], [], [8, 14], [], []⟩) (by simp only [lite_cons, lite_nil] <;> rfl) fun all hall K hK => ?_
  clear hall
  simp (maxSteps := 1000000) (disch := first | omega | assumption) [og_at, og_put, og_at0, og_put0]
  repeat' refine And.intro ?_ ?_
  all_goals first | omega | exact rfl | skip
  refine hK _ ?_
  clear hK K
  clear all
  refine q_then_n ?_
  refine awp_seq ?_
  refine awp_regionA (c := ⟨[], [], [8, 14], [], []⟩) (by simp only [lite_cons, lite_nil] <;> rfl) fun all hall K hK => ?_
  clear hall
  refine vcL_split 1 fun K' hK' => ?_
  simp (maxSteps := 1000000) (disch := first | omega | assumption) [og_at, og_put, og_at0, og_put0]
  repeat' refine And.intro ?_ ?_
  all_goals first | omega | exact rfl | skip
  refine hK' _ ?_
  clear hK' K'
  simp only [List.drop_succ_cons, List.drop_zero]
  refine vcL_step fun K' hK' => ?_
  simp (maxSteps := 1000000) (disch := first | omega | assumption) [og_at, og_put, og_at0, og_put0]
  refine Ct.mono (Ct.of_le (clip_fn ..) (by first | exact leArgs_of rfl | (refine leArgs_of ?_; simp; done) | (refine leArgs_of ?_; simp; rfl) | (simp [leArgs, leArg]; done)) rfl) ?_
  rintro _ _ ⟨hr9, hs9⟩
  subst hr9
  replace hs9 := hs9.symm
  subst hs9
  refine hK' _ ?_
  clear hK' K'
  simp (maxSteps := 1000000) (disch := first | omega | assumption) [og_at, og_put, og_at0, og_put0]
  repeat' refine And.intro ?_ ?_
  all_goals first | omega | exact rfl | skip
  refine hK _ ?_
  clear hK K
  clear all
  refine q_then_n ?_
  refine awp_seq ?_
  refine awp_mapToCell 6 (σ.length + 1) 2 (N := σ.length) (kd := .int .i64) (clock := 0) (kvs := []) (by simp) (by simp [og_at, og_put, og_at0, og_put0] <;> rfl) (by simp <;> rfl) ?_
  simp only [og_put, List.set_cons_zero, List.set_cons_succ]
  refine awp_regionA (c := ⟨[], [], [8, 14], [], []⟩) (by simp only [lite_cons, lite_nil] <;> rfl) fun all hall K hK => ?_
  clear hall
  simp (maxSteps := 1000000) (disch := first | omega | assumption) [og_at, og_put, og_at0, og_put0]
  refine ⟨σ.length + 1, 2, 0, [], 1, _, ⟨⟨_, by simp [og_at, og_put, og_at0, og_put0] <;> rfl, rfl⟩, keyI _, rfl, .inr ⟨by simp, rfl, rfl⟩⟩, ?_⟩
  rw [putM_eq (by simp [og_at, og_put, og_at0, og_put0] <;> rfl)]
  repeat' refine And.intro ?_ ?_
  all_goals first | omega | exact rfl | skip
  refine hK _ ?_
  clear hK K
  clear all
  refine q_then_n ?_
  refine awp_seq ?_
  refine awp_keep [2, 3] (by simp only [keepL_nil, keepL_cons, envOf_sel, envOf_nil, sel_t, sel_f, Nat.reduceBEq] <;> rfl) ?_
  refine awp_regionA (c := ⟨[], [], [8, 14], [], []⟩) (by simp only [lite_cons, lite_nil] <;> rfl) fun all hall K hK => ?_
  clear hall
  simp (maxSteps := 1000000) (disch := first | omega | assumption) [og_at, og_put, og_at0, og_put0]
  repeat' refine And.intro ?_ ?_
  all_goals first | omega | exact rfl | skip
  refine hK _ ?_
  clear hK K
  clear all
  refine q_then_n ?_
  refine awp_ret ?_
  simp [endQ]

-- (*scrim/arena.Dom).Count
theorem dcount_fn (m M ck : Nat) (most nxt : Int) (kvs : List (Value × Nat × D)) (σ : List (List D)) (hq : σ[m]? = some [D.int most, D.int nxt, .mp M (.int .i64) ck kvs]) (hl : kvs.length ≤ 100000) : Ct Try.prog 116 [.ref m 0] σ (fun r σ' => r = .int ((kvs.length : Int) - 1) ∧ σ' = σ) := by
  refine fn_start (rs := [.tmp 2]) Try.func116 rfl rfl Try.ntmps116 Try.results116 (by simp) ?_
  simp only [argEnv]
  refine awp_seq ?_
  refine awp_regionA (c := ⟨[], [], [], [], [7, 7, 1000007]⟩) (by simp only [lite_cons, lite_nil] <;> rfl) fun all hall K hK => ?_
  clear hall
  simp (maxSteps := 1000000) (disch := first | omega | assumption) [hq]
  repeat' refine And.intro ?_ ?_
  all_goals first | omega | exact rfl | skip
  refine hK _ ?_
  clear hK K
  clear all
  refine q_then_n ?_
  refine awp_seq ?_
  refine awp_regionA (c := ⟨[], [], [], [], [7, 7, 1000007]⟩) (by simp only [lite_cons, lite_nil] <;> rfl) fun all hall K hK => ?_
  clear hall
  refine vcL_split 5 fun K' hK' => ?_
  simp (maxSteps := 1000000) (disch := first | omega | assumption) [hq]
  refine ⟨m, 2, ck, kvs, ⟨_, hq, rfl⟩, ?_⟩
  repeat' refine And.intro ?_ ?_
  all_goals first | omega | exact rfl | skip
  refine hK' _ ?_
  clear hK' K'
  simp only [List.drop_succ_cons, List.drop_zero]
  simp (maxSteps := 1000000) (disch := first | omega | assumption) [hq]
  repeat' refine And.intro ?_ ?_
  all_goals first | omega | exact rfl | skip
  refine hK _ ?_
  clear hK K
  clear all
  refine q_then_n ?_
  refine awp_ret ?_
  simp [endQ]

-- (*scrim/arena.Dom).Room
theorem droom_fn (m M ck : Nat) (most nxt : Int) (kvs : List (Value × Nat × D)) (σ : List (List D)) (hq : σ[m]? = some [D.int most, D.int nxt, .mp M (.int .i64) ck kvs]) (hl : kvs.length ≤ 100000) (hm : 0 ≤ most ∧ most ≤ 100000) : Ct Try.prog 95 [.ref m 0] σ (fun r σ' => r = .int (most - ((kvs.length : Int) - 1)) ∧ σ' = σ) := by
  refine fn_start (rs := [.tmp 2]) Try.func95 rfl rfl Try.ntmps95 Try.results95 (by simp) ?_
  simp only [argEnv]
  refine awp_seq ?_
  refine awp_regionA (c := ⟨[], [], [], [], []⟩) (by simp only [lite_cons, lite_nil] <;> rfl) fun all hall K hK => ?_
  clear hall
  simp (maxSteps := 1000000) (disch := first | omega | assumption) [hq]
  repeat' refine And.intro ?_ ?_
  all_goals first | omega | exact rfl | skip
  refine hK _ ?_
  clear hK K
  clear all
  refine q_then_n ?_
  refine awp_seq ?_
  refine awp_drawA (c := ⟨[], [], [], [], []⟩) [.op ⟨false, false, false, false⟩, .op ⟨false, false, false, false⟩, .op ⟨false, false, false, false⟩, .op ⟨false, false, true, false⟩, .op ⟨false, false, false, false⟩, .read, .op ⟨false, false, false, false⟩, .op ⟨false, false, false, false⟩] (by kernel_rfl) (by kernel_rfl) (by simp only [lite_cons, lite_nil] <;> rfl) fun all hall K hK => ?_
  clear hall
  refine vcDL_split 5 (by simp) fun K' hK' => ?_
  simp (maxSteps := 1000000) (disch := first | omega | assumption) [hq]
  repeat' refine And.intro ?_ ?_
  all_goals first | omega | exact rfl | skip
  refine hK' _ ?_
  clear hK' K'
  simp only [List.drop_succ_cons, List.drop_zero]
  refine vcDL_step fun K' hK' => ?_
  simp (maxSteps := 1000000) (disch := first | omega | assumption) [hq]
  refine ⟨_, Ct.of_le (dcount_fn m M ck most nxt kvs _ hq hl) (by first | exact leArgs_of rfl | (refine leArgs_of ?_; simp; done) | (refine leArgs_of ?_; simp; rfl) | (simp [leArgs, leArg]; done)) rfl, ?_⟩
  refine hK' _ ?_
  clear hK' K'
  simp (maxSteps := 1000000) (disch := first | omega | assumption) [hq]
  repeat' refine And.intro ?_ ?_
  all_goals first | omega | exact rfl | skip
  refine hK _ ?_
  clear hK K
  clear all
  refine q_then_n ?_
  refine awp_ret ?_
  simp [endQ]

-- (*scrim/arena.Dom).add
theorem dadd_fn (m M rt : Nat) (σ : List (List D)) (hq : σ[m]? = some [D.int 3, D.int 1, .mp M (.int .i64) 1 [(.int .i64 0, 0, .ref rt 0)]]) : Ct Try.prog 65 [.ref m 0, .agg [D.int 0, D.int 2, D.str sP, D.str ⟨#[]⟩, .sl false [], .sl false [], .sl false [], D.int 0, .sl false []]] σ (fun r σ' => r = .tup [D.int 1, D.int 0] ∧ σ' = σ.set m [D.int 3, D.int 2, .mp M (.int .i64) 2 [(.int .i64 0, 0, .ref rt 0), (.int .i64 1, 1, .ref σ.length 0)]] ++ [[D.int 1, D.int 2, D.str sP, D.str ⟨#[]⟩, .sl false [], .sl false [], .sl false [], D.int (-1), .sl false []]]) := by
  refine fn_start (rs := [.tmp 4, .tmp 5]) Try.func65 rfl rfl Try.ntmps65 Try.results65 (by simp) ?_
  simp only [argEnv]
  refine awp_seq ?_
  refine awp_regionA (c := ⟨[], [], [3], [], []⟩) (by simp only [lite_cons, lite_nil] <;> rfl) fun all hall K hK => ?_
  clear hall
  simp (maxSteps := 1000000) (disch := first | omega | assumption) [hq, get_app _ hq, set_app _ _ hq, og_app hq, og_set hq, og_last, og_at, og_put, og_at0, og_put0]
  repeat' refine And.intro ?_ ?_
  all_goals first | omega | exact rfl | skip
  refine hK _ ?_
  clear hK K
  clear all
  refine q_then_n ?_
  refine awp_seq ?_
  refine awp_seq ?_
  refine awp_regionA (c := ⟨[], [], [3], [], []⟩) (by simp only [lite_cons, lite_nil] <;> rfl) fun all hall K hK => ?_
  clear hall
  refine vcL_split 1 fun K' hK' => ?_
  simp (maxSteps := 1000000) (disch := first | omega | assumption) [hq, get_app _ hq, set_app _ _ hq, og_app hq, og_set hq, og_last, og_at, og_put, og_at0, og_put0]
  repeat' refine And.intro ?_ ?_
  all_goals first | omega | exact rfl | skip
  refine hK' _ ?_
  clear hK' K'
  simp only [List.drop_succ_cons, List.drop_zero]
  refine vcL_step fun K' hK' => ?_
  simp (maxSteps := 1000000) (disch := first | omega | assumption) [hq, get_app _ hq, set_app _ _ hq, og_app hq, og_set hq, og_last, og_at, og_put, og_at0, og_put0]
  refine Ct.mono (Ct.of_le (droom_fn m M 1 3 1 [(.int .i64 0, 0, .ref rt 0)] _ (get_app _ hq) (by simp) (by omega)) (by first | exact leArgs_of rfl | (refine leArgs_of ?_; simp; done) | (refine leArgs_of ?_; simp; rfl) | (simp [leArgs, leArg]; done)) rfl) ?_
  rintro _ _ ⟨hr9, hs9⟩
  subst hr9
  replace hs9 := hs9.symm
  subst hs9
  refine hK' _ ?_
  clear hK' K'
  simp (maxSteps := 1000000) (disch := first | omega | assumption) [hq, get_app _ hq, set_app _ _ hq, og_app hq, og_set hq, og_last, og_at, og_put, og_at0, og_put0]
  repeat' refine And.intro ?_ ?_
  all_goals first | omega | exact rfl | skip
  refine hK _ ?_
  clear hK K
  clear all
  refine q_then_n ?_
  refine awp_ifB (by simp <;> rfl) ?_
  refine ⟨fun c1 => ?_, fun c1 => ?_⟩
  · simp at c1
  · try simp at c1
    refine awp_skip ?_
    refine q_then_n ?_
    refine awp_seq ?_
    refine awp_regionA (c := ⟨[], [], [3], [], []⟩) (by simp only [lite_cons, lite_nil] <;> rfl) fun all hall K hK => ?_
    clear hall
    simp (maxSteps := 1000000) (disch := first | omega | assumption) [hq, get_app _ hq, set_app _ _ hq, og_app hq, og_set hq, og_last, og_at, og_put, og_at0, og_put0]
    repeat' refine And.intro ?_ ?_
    all_goals first | omega | exact rfl | skip
    refine hK _ ?_
    clear hK K
    clear all
    refine q_then_n ?_
    refine awp_seq ?_
    refine awp_keep [0, 3, 4, 5] (by simp only [keepL_nil, keepL_cons, envOf_sel, envOf_nil, sel_t, sel_f, Nat.reduceBEq] <;> rfl) ?_
    refine awp_drawA (c := ⟨[], [], [3], [], []⟩) [.op ⟨false, false, false, false⟩, .op ⟨false, false, false, false⟩, .op ⟨false, false, false, false⟩, .op ⟨false, false, true, false⟩, .op ⟨false, false, false, false⟩, .op ⟨false, false, true, false⟩, .op ⟨false, false, true, true⟩] (by kernel_rfl) (by kernel_rfl) (by simp only [lite_cons, lite_nil] <;> rfl) fun all hall K hK => ?_
    clear hall
    simp (maxSteps := 1000000) (disch := first | omega | assumption) [hq, get_app _ hq, set_app _ _ hq, og_app hq, og_set hq, og_last, og_at, og_put, og_at0, og_put0]
    refine ⟨m, 2, 1, [(.int .i64 0, 0, .ref rt 0)], 2, _, ⟨⟨_, get_app _ hq, rfl⟩, keyI _, rfl, .inr ⟨by simp, rfl, rfl⟩⟩, ?_⟩
    rw [putM_eq (get_app _ hq), set_app _ _ hq]
    repeat' refine And.intro ?_ ?_
    all_goals first | omega | exact rfl | skip
    refine hK _ ?_
    clear hK K
    clear all
    refine q_then_n ?_
    refine awp_seq ?_
    refine awp_regionA (c := ⟨[], [], [3], [], []⟩) (by simp only [lite_cons, lite_nil] <;> rfl) fun all hall K hK => ?_
    clear hall
    simp (maxSteps := 1000000) (disch := first | omega | assumption) [hq, get_app _ hq, set_app _ _ hq, og_app hq, og_set hq, og_last, og_at, og_put, og_at0, og_put0]
    repeat' refine And.intro ?_ ?_
    all_goals first | omega | exact rfl | skip
    refine hK _ ?_
    clear hK K
    clear all
    refine q_then_n ?_
    refine awp_seq ?_
    refine awp_keep [3, 4, 5] (by simp only [keepL_nil, keepL_cons, envOf_sel, envOf_nil, sel_t, sel_f, Nat.reduceBEq] <;> rfl) ?_
    refine awp_regionA (c := ⟨[], [], [3], [], []⟩) (by simp only [lite_cons, lite_nil] <;> rfl) fun all hall K hK => ?_
    clear hall
    simp (maxSteps := 1000000) (disch := first | omega | assumption) [hq, get_app _ hq, set_app _ _ hq, og_app hq, og_set hq, og_last, og_at, og_put, og_at0, og_put0]
    repeat' refine And.intro ?_ ?_
    all_goals first | omega | exact rfl | skip
    refine hK _ ?_
    clear hK K
    clear all
    refine q_then_n ?_
    refine awp_ret ?_
    simp [endQ]

-- (*scrim/arena.Dom).Element
theorem delem_fn (m M rt : Nat) (σ : List (List D)) (hq : σ[m]? = some [D.int 3, D.int 1, .mp M (.int .i64) 1 [(.int .i64 0, 0, .ref rt 0)]]) : Ct Try.prog 36 [.ref m 0, D.str sP] σ (fun r σ' => r = .tup [D.int 1, D.int 0] ∧ σ' = σ.set m [D.int 3, D.int 2, .mp M (.int .i64) 2 [(.int .i64 0, 0, .ref rt 0), (.int .i64 1, 1, .ref σ.length 0)]] ++ [[D.int 1, D.int 2, D.str sP, D.str ⟨#[]⟩, .sl false [], .sl false [], .sl false [], D.int (-1), .sl false []]]) := by
  refine fn_start (rs := [.tmp 4, .tmp 5]) Try.func36 rfl rfl Try.ntmps36 Try.results36 (by simp) ?_
  simp only [argEnv]
  refine awp_seq ?_
  refine awp_regionA (c := ⟨[], [], [], [], []⟩) (by simp only [lite_cons, lite_nil] <;> rfl) fun all hall K hK => ?_
  clear hall
  simp (maxSteps := 1000000) (disch := first | omega | assumption)
  repeat' refine And.intro ?_ ?_
  all_goals first | omega | exact rfl | skip
  refine hK _ ?_
  clear hK K
  clear all
  refine q_then_n ?_
  refine awp_seq ?_
  refine awp_seq ?_
  refine awp_regionA (c := ⟨[], [], [], [], []⟩) (by simp only [lite_cons, lite_nil] <;> rfl) fun all hall K hK => ?_
  clear hall
  refine vcL_split 1 fun K' hK' => ?_
  simp (maxSteps := 1000000) (disch := first | omega | assumption)
  repeat' refine And.intro ?_ ?_
  all_goals first | omega | exact rfl | skip
  refine hK' _ ?_
  clear hK' K'
  simp only [List.drop_succ_cons, List.drop_zero]
  refine vcL_step fun K' hK' => ?_
  simp (maxSteps := 1000000) (disch := first | omega | assumption)
  refine Ct.mono (Ct.of_le (wname_fn _) (by first | exact leArgs_of rfl | (refine leArgs_of ?_; simp; done) | (refine leArgs_of ?_; simp; rfl) | (simp [leArgs, leArg]; done)) rfl) ?_
  rintro _ _ ⟨hr9, hs9⟩
  subst hr9
  replace hs9 := hs9.symm
  subst hs9
  refine hK' _ ?_
  clear hK' K'
  simp (maxSteps := 1000000) (disch := first | omega | assumption)
  repeat' refine And.intro ?_ ?_
  all_goals first | omega | exact rfl | skip
  refine hK _ ?_
  clear hK K
  clear all
  refine q_then_n ?_
  refine awp_ifB (by simp <;> rfl) ?_
  refine ⟨fun c1 => ?_, fun c1 => ?_⟩
  · simp at c1
  · try simp at c1
    refine awp_skip ?_
    refine q_then_n ?_
    refine awp_seq ?_
    refine awp_regionA (c := ⟨[], [], [], [], []⟩) (by simp only [lite_cons, lite_nil] <;> rfl) fun all hall K hK => ?_
    clear hall
    refine vcL_split 3 fun K' hK' => ?_
    simp (maxSteps := 1000000) (disch := first | omega | assumption)
    repeat' refine And.intro ?_ ?_
    all_goals first | omega | exact rfl | skip
    refine hK' _ ?_
    clear hK' K'
    simp only [List.drop_succ_cons, List.drop_zero]
    refine vcL_step fun K' hK' => ?_
    simp (maxSteps := 1000000) (disch := first | omega | assumption)
    refine Ct.mono (Ct.of_le (dadd_fn m M rt _ hq) (by first | exact leArgs_of rfl | (refine leArgs_of ?_; simp; done) | (refine leArgs_of ?_; simp; rfl) | (simp [leArgs, leArg]; done)) rfl) ?_
    rintro _ _ ⟨hr9, hs9⟩
    subst hr9
    replace hs9 := hs9.symm
    subst hs9
    refine hK' _ ?_
    clear hK' K'
    simp (maxSteps := 1000000) (disch := first | omega | assumption)
    repeat' refine And.intro ?_ ?_
    all_goals first | omega | exact rfl | skip
    refine hK _ ?_
    clear hK K
    clear all
    refine q_then_n ?_
    refine awp_ret ?_
    simp [endQ]

-- (*scrim/trail.Log).note
theorem note_fn (l d : Nat) (ops : List TOp) (o : TOp) (σ : List (List D)) (hq : σ[l]? = some [.ref d 0, .sl true (ops.map d_TOp)]) (hl : ops.length ≤ 100000) : Ct Try.prog 37 [.ref l 0, D.int 0, d_TOp o] σ (fun r σ' => r = D.int 0 ∧ σ' = σ.set l [.ref d 0, .sl true ((ops ++ [o]).map d_TOp)]) := by
  refine fn_start (rs := [.tmp 6]) Try.func37 rfl rfl Try.ntmps37 Try.results37 (by simp) ?_
  simp only [argEnv]
  refine awp_seq ?_
  refine awp_regionA (c := ⟨[13], [5], [], [], []⟩) (by simp only [lite_cons, lite_nil] <;> rfl) fun all hall K hK => ?_
  clear hall
  simp (maxSteps := 1000000) (disch := first | omega | assumption) [hq, og_get hq]
  repeat' refine And.intro ?_ ?_
  all_goals first | omega | exact rfl | skip
  refine hK _ ?_
  clear hK K
  clear all
  refine q_then_n ?_
  refine awp_seq ?_
  refine awp_seq ?_
  refine awp_regionA (c := ⟨[13], [5], [], [], []⟩) (by simp only [lite_cons, lite_nil] <;> rfl) fun all hall K hK => ?_
  clear hall
  simp (maxSteps := 1000000) (disch := first | omega | assumption) [hq, og_get hq]
  repeat' refine And.intro ?_ ?_
  all_goals first | omega | exact rfl | skip
  refine hK _ ?_
  clear hK K
  clear all
  refine q_then_n ?_
  refine awp_ifB (by simp <;> rfl) ?_
  refine ⟨fun c1 => ?_, fun c1 => ?_⟩
  · try simp at c1
    refine awp_drawA (c := ⟨[13], [5], [], [], []⟩) [.op ⟨false, false, false, false⟩, .op ⟨false, false, false, false⟩, .op ⟨false, false, false, false⟩, .op ⟨false, false, false, false⟩, .op ⟨false, false, true, true⟩, .op ⟨false, false, false, false⟩, .op ⟨false, false, false, false⟩, .op ⟨false, false, false, false⟩, .op ⟨false, false, false, false⟩, .op ⟨false, false, false, false⟩, .op ⟨false, false, true, true⟩] (by kernel_rfl) (by kernel_rfl) (by simp only [lite_cons, lite_nil] <;> rfl) fun all hall K hK => ?_
    clear hall
    refine vcDL_split 8 (by simp) fun K' hK' => ?_
    simp (maxSteps := 1000000) (disch := first | omega | assumption) [hq, og_get hq]
    repeat' refine And.intro ?_ ?_
    all_goals first | omega | exact rfl | skip
    refine hK' _ ?_
    clear hK' K'
    simp only [List.drop_succ_cons, List.drop_zero]
    simp (maxSteps := 1000000) (disch := first | omega | assumption) [hq, og_get hq]
    repeat' refine And.intro ?_ ?_
    all_goals first | omega | exact rfl | skip
    refine hK _ ?_
    clear hK K
    clear all
    refine q_then_n ?_
    refine awp_seq ?_
    refine awp_keep [1, 6] (by simp only [keepL_nil, keepL_cons, envOf_sel, envOf_nil, sel_t, sel_f, Nat.reduceBEq] <;> rfl) ?_
    refine awp_regionA (c := ⟨[13], [5], [], [], []⟩) (by simp only [lite_cons, lite_nil] <;> rfl) fun all hall K hK => ?_
    clear hall
    simp (maxSteps := 1000000) (disch := first | omega | assumption) [hq, og_get hq]
    repeat' refine And.intro ?_ ?_
    all_goals first | omega | exact rfl | skip
    refine hK _ ?_
    clear hK K
    clear all
    refine q_then_n ?_
    refine awp_ret ?_
    simp [endQ]
  · simp at c1

-- (*scrim/trail.Log).Element
theorem lelem_fn (l m M rt : Nat) (σ : List (List D)) (hq : σ[m]? = some [D.int 3, D.int 1, .mp M (.int .i64) 1 [(.int .i64 0, 0, .ref rt 0)]]) (hg : σ[l]? = some [.ref m 0, .sl true ([])]) (hne : m ≠ l) : Ct Try.prog 17 [.ref l 0, D.str sP] σ (fun r σ' => r = .tup [D.int 1, D.int 0] ∧ σ' = (σ.set m [D.int 3, D.int 2, .mp M (.int .i64) 2 [(.int .i64 0, 0, .ref rt 0), (.int .i64 1, 1, .ref σ.length 0)]]).set l [.ref m 0, .sl true ([⟨1, 1, 0, 0, sP, ⟨#[]⟩⟩].map d_TOp)] ++ [[D.int 1, D.int 2, D.str sP, D.str ⟨#[]⟩, .sl false [], .sl false [], .sl false [], D.int (-1), .sl false []]]) := by
  refine fn_start (rs := [.tmp 4, .tmp 5]) Try.func17 rfl rfl Try.ntmps17 Try.results17 (by simp) ?_
  simp only [argEnv]
  have hg2 : ∀ a J, (σ.set m a ++ J)[l]? = some [.ref m 0, .sl true ([])] := fun a J => get_app J (by rw [List.getElem?_set_ne hne]; exact hg)
  refine awp_seq ?_
  refine awp_regionA (c := ⟨[], [], [], [], []⟩) (by simp only [lite_cons, lite_nil] <;> rfl) fun all hall K hK => ?_
  clear hall
  simp (maxSteps := 1000000) (disch := first | omega | assumption) [hg]
  repeat' refine And.intro ?_ ?_
  all_goals first | omega | exact rfl | skip
  refine hK _ ?_
  clear hK K
  clear all
  refine q_then_n ?_
  refine awp_seq ?_
  refine awp_regionA (c := ⟨[], [], [], [], []⟩) (by simp only [lite_cons, lite_nil] <;> rfl) fun all hall K hK => ?_
  clear hall
  refine vcL_split 5 fun K' hK' => ?_
  simp (maxSteps := 1000000) (disch := first | omega | assumption) [hg]
  repeat' refine And.intro ?_ ?_
  all_goals first | omega | exact rfl | skip
  refine hK' _ ?_
  clear hK' K'
  simp only [List.drop_succ_cons, List.drop_zero]
  refine vcL_step fun K' hK' => ?_
  simp (maxSteps := 1000000) (disch := first | omega | assumption) [hg]
  refine Ct.mono (Ct.of_le (delem_fn m M rt _ hq) (by first | exact leArgs_of rfl | (refine leArgs_of ?_; simp; done) | (refine leArgs_of ?_; simp; rfl) | (simp [leArgs, leArg]; done)) rfl) ?_
  rintro _ _ ⟨hr9, hs9⟩
  subst hr9
  replace hs9 := hs9.symm
  subst hs9
  refine hK' _ ?_
  clear hK' K'
  simp (maxSteps := 1000000) (disch := first | omega | assumption) [hg]
  repeat' refine And.intro ?_ ?_
  all_goals first | omega | exact rfl | skip
  refine hK _ ?_
  clear hK K
  clear all
  refine q_then_n ?_
  refine awp_seq ?_
  refine awp_keep [0, 1, 4, 5, 6, 7] (by simp only [keepL_nil, keepL_cons, envOf_sel, envOf_nil, sel_t, sel_f, Nat.reduceBEq] <;> rfl) ?_
  refine awp_regionA (c := ⟨[], [], [], [], []⟩) (by simp only [lite_cons, lite_nil] <;> rfl) fun all hall K hK => ?_
  clear hall
  refine vcL_split 6 fun K' hK' => ?_
  simp (maxSteps := 1000000) (disch := first | omega | assumption) [hg]
  repeat' refine And.intro ?_ ?_
  all_goals first | omega | exact rfl | skip
  refine hK' _ ?_
  clear hK' K'
  simp only [List.drop_succ_cons, List.drop_zero]
  refine vcL_step fun K' hK' => ?_
  simp (maxSteps := 1000000) (disch := first | omega | assumption) [hg]
  refine Ct.mono (Ct.of_le (note_fn l m [] ⟨1, 1, 0, 0, sP, ⟨#[]⟩⟩ _ (hg2 _ _) (by simp)) (by first | exact leArgs_of rfl | (refine leArgs_of ?_; simp; done) | (refine leArgs_of ?_; simp; rfl) | (simp [leArgs, leArg]; done)) rfl) ?_
  rintro _ _ ⟨hr9, hs9⟩
  subst hr9
  replace hs9 := hs9.symm
  subst hs9
  rw [set_app _ _ (show (σ.set m [D.int 3, D.int 2, .mp M (.int .i64) 2 [(.int .i64 0, 0, .ref rt 0), (.int .i64 1, 1, .ref σ.length 0)]])[l]? = some [.ref m 0, .sl true ([])] from by rw [List.getElem?_set_ne hne]; exact hg)]
  refine hK' _ ?_
  clear hK' K'
  simp (maxSteps := 1000000) (disch := first | omega | assumption) [hg]
  repeat' refine And.intro ?_ ?_
  all_goals first | omega | exact rfl | skip
  refine hK _ ?_
  clear hK K
  clear all
  refine q_then_n ?_
  refine awp_ret ?_
  simp [endQ]

-- (*scrim/arena.Dom).Within
theorem within_fn (m M rt nd : Nat) (σ : List (List D)) (hq : σ[m]? = some [D.int 3, D.int 2, .mp M (.int .i64) 2 [(.int .i64 0, 0, .ref rt 0), (.int .i64 1, 1, .ref nd 0)]]) (hr : σ[rt]? = some [D.int 0, D.int 2, D.str sRoot, D.str ⟨#[]⟩, .sl true [], .sl true [], .sl true [], D.int (-1), .sl true []]) (hn : σ[nd]? = some [D.int 1, D.int 2, D.str sP, D.str ⟨#[]⟩, .sl false [], .sl false [], .sl false [], D.int (-1), .sl false []]) : Ct Try.prog 66 [.ref m 0, D.int 0, D.int 1] σ (fun r σ' => r = .bool false ∧ σ' = σ) := by
  refine fn_start (rs := [.tmp 6]) Try.func66 rfl rfl Try.ntmps66 Try.results66 (by simp) ?_
  simp only [argEnv]
  refine awp_seq ?_
  refine awp_regionA (c := ⟨[], [], [], [], []⟩) (by simp only [lite_cons, lite_nil] <;> rfl) fun all hall K hK => ?_
  clear hall
  simp (maxSteps := 1000000) (disch := first | omega | assumption) [hq, hr, hn]
  repeat' refine And.intro ?_ ?_
  all_goals first | omega | exact rfl | skip
  refine hK _ ?_
  clear hK K
  clear all
  refine q_then_n ?_
  refine awp_seq ?_
  refine awp_seq ?_
  refine awp_regionA (c := ⟨[], [], [], [], []⟩) (by simp only [lite_cons, lite_nil] <;> rfl) fun all hall K hK => ?_
  clear hall
  refine vcL_split 6 fun K' hK' => ?_
  simp (maxSteps := 1000000) (disch := first | omega | assumption) [hq, hr, hn]
  refine ⟨m, 2, 2, _, .ref nd 0, ⟨⟨_, hq, rfl⟩, keyI _, .inr (.inl ⟨rfl, 1, 1, rfl⟩)⟩, ?_⟩
  repeat' refine And.intro ?_ ?_
  all_goals first | omega | exact rfl | skip
  refine hK' _ ?_
  clear hK' K'
  simp only [List.drop_succ_cons, List.drop_zero]
  simp (maxSteps := 1000000) (disch := first | omega | assumption) [hq, hr, hn]
  repeat' refine And.intro ?_ ?_
  all_goals first | omega | exact rfl | skip
  refine hK _ ?_
  clear hK K
  clear all
  refine q_then_n ?_
  refine awp_ifB (by simp <;> rfl) ?_
  refine ⟨fun c1 => ?_, fun c1 => ?_⟩
  · simp at c1
  · try simp at c1
    refine awp_skip ?_
    refine q_then_n ?_
    refine awp_seq ?_
    refine awp_seq ?_
    refine awp_regionA (c := ⟨[], [], [], [], []⟩) (by simp only [lite_cons, lite_nil] <;> rfl) fun all hall K hK => ?_
    clear hall
    refine vcL_split 6 fun K' hK' => ?_
    simp (maxSteps := 1000000) (disch := first | omega | assumption) [hq, hr, hn]
    refine ⟨m, 2, 2, _, .ref rt 0, ⟨⟨_, hq, rfl⟩, keyI _, .inr (.inl ⟨rfl, 0, 0, rfl⟩)⟩, ?_⟩
    repeat' refine And.intro ?_ ?_
    all_goals first | omega | exact rfl | skip
    refine hK' _ ?_
    clear hK' K'
    simp only [List.drop_succ_cons, List.drop_zero]
    simp (maxSteps := 1000000) (disch := first | omega | assumption) [hq, hr, hn]
    repeat' refine And.intro ?_ ?_
    all_goals first | omega | exact rfl | skip
    refine hK _ ?_
    clear hK K
    clear all
    refine q_then_n ?_
    refine awp_block ?_
    refine awp_keep [0, 2, 6, 7] (by simp only [keepL_nil, keepL_cons, envOf_sel, envOf_nil, sel_t, sel_f, Nat.reduceBEq] <;> rfl) ?_
    refine awp_loopE (fun (k : Nat) => [(7, .d (if k = 0 then .ref rt 0 else .v (.pointer none)))]) [6, 7, 21, 22, 23, 24, 25, 26, 27, 28, 29, 30, 31, 32, 33, 34, 35, 36, 37] (fun (k : Nat) => k ≤ 1) (fun (k : Nat) => 1 - k) (0) (by simp <;> rfl) ?_ ?_ ?_
    · simp
    · simp
    rintro k hk
    simp only [List.cons_append, List.nil_append]
    rcases (by omega : k = 0 ∨ k = 1) with rfl | rfl
    · try simp only []
      refine awp_seq ?_
      refine awp_seq ?_
      refine awp_regionA (c := ⟨[], [], [], [], []⟩) (by simp only [lite_cons, lite_nil] <;> rfl) fun all hall K hK => ?_
      clear hall
      simp (maxSteps := 1000000) (disch := first | omega | assumption) [hq, hr, hn]
      repeat' refine And.intro ?_ ?_
      all_goals first | omega | exact rfl | skip
      refine hK _ ?_
      clear hK K
      clear all
      refine q_then_n ?_
      refine awp_cond (t := true) (by simp) (fun _ => ?_) (fun h => by cases h)
      refine awp_skip ?_
      refine q_then_n ?_
      refine awp_seq ?_
      refine awp_block ?_
      refine awp_seq ?_
      refine awp_regionA (c := ⟨[], [], [], [], []⟩) (by simp only [lite_cons, lite_nil] <;> rfl) fun all hall K hK => ?_
      clear hall
      simp (maxSteps := 1000000) (disch := first | omega | assumption) [hq, hr, hn]
      repeat' refine And.intro ?_ ?_
      all_goals first | omega | exact rfl | skip
      refine hK _ ?_
      clear hK K
      clear all
      refine q_then_n ?_
      refine awp_ifB (by simp <;> rfl) ?_
      refine ⟨fun c2 => ?_, fun c2 => ?_⟩
      · simp at c2
      · try simp at c2
        refine awp_skip ?_
        refine q_block_n ?_
        refine q_then_n ?_
        refine awp_drawA (c := ⟨[], [], [], [], []⟩) [.op ⟨false, false, false, false⟩, .op ⟨false, false, false, false⟩, .op ⟨false, false, false, false⟩, .op ⟨false, false, true, false⟩, .op ⟨false, false, false, false⟩, .op ⟨false, false, false, false⟩, .op ⟨false, false, false, false⟩, .op ⟨false, false, true, false⟩, .op ⟨false, false, true, false⟩, .op ⟨false, false, false, false⟩] (by kernel_rfl) (by kernel_rfl) (by simp only [lite_cons, lite_nil] <;> rfl) fun all hall K hK => ?_
        clear hall
        refine vcDL_split 8 (by simp) fun K' hK' => ?_
        simp (maxSteps := 1000000) (disch := first | omega | assumption) [hq, hr, hn]
        repeat' refine And.intro ?_ ?_
        all_goals first | omega | exact rfl | skip
        refine hK' _ ?_
        clear hK' K'
        simp only [List.drop_succ_cons, List.drop_zero]
        refine vcDL_split 1 (by simp) fun K' hK' => ?_
        simp (maxSteps := 1000000) (disch := first | omega | assumption) [hq, hr, hn]
        refine ⟨m, 2, 2, _, .v (.pointer none), ⟨⟨_, hq, rfl⟩, keyI _, .inl (.inr ⟨rfl, rfl, by simp⟩)⟩, ?_⟩
        repeat' refine And.intro ?_ ?_
        all_goals first | omega | exact rfl | skip
        refine hK' _ ?_
        clear hK' K'
        simp only [List.drop_succ_cons, List.drop_zero]
        simp (maxSteps := 1000000) (disch := first | omega | assumption) [hq, hr, hn]
        repeat' refine And.intro ?_ ?_
        all_goals first | omega | exact rfl | skip
        refine hK _ ?_
        clear hK K
        clear all
        refine q_round (1) ?_ ?_ (weak_mkA rfl ?_ (by simp) (by simp))
        · omega
        · try dsimp only
          omega
        · simp (maxSteps := 1000000) (disch := first | omega | assumption) [hq, hr, hn]
    · try simp only []
      refine awp_seq ?_
      refine awp_seq ?_
      refine awp_regionA (c := ⟨[], [], [], [], []⟩) (by simp only [lite_cons, lite_nil] <;> rfl) fun all hall K hK => ?_
      clear hall
      simp (maxSteps := 1000000) (disch := first | omega | assumption) [hq, hr, hn]
      repeat' refine And.intro ?_ ?_
      all_goals first | omega | exact rfl | skip
      refine hK _ ?_
      clear hK K
      clear all
      refine q_then_n ?_
      refine awp_cond (t := false) (by simp) (fun h => by cases h) (fun _ => ?_)
      refine awp_exit ?_
      refine q_then_e ?_
      refine q_loop_e ?_
      refine q_block_e ?_
      refine q_then_n ?_
      refine awp_seq ?_
      refine awp_regionA (c := ⟨[], [], [], [], []⟩) (by simp only [lite_cons, lite_nil] <;> rfl) fun all hall K hK => ?_
      clear hall
      simp (maxSteps := 1000000) (disch := first | omega | assumption) [hq, hr, hn]
      repeat' refine And.intro ?_ ?_
      all_goals first | omega | exact rfl | skip
      refine hK _ ?_
      clear hK K
      clear all
      refine q_then_n ?_
      refine awp_ret ?_
      simp [endQ]

-- slices.Insert[[]int,int]
theorem sins_fn  (σ : List (List D))  : Ct Try.prog 67 [.sl true [], D.int 0, .sl true [D.int 1]] σ (fun r σ' => r = .sl true [D.int 1] ∧ σ' = σ) := by
  refine fn_start (rs := [.tmp 6]) Try.func67 rfl rfl Try.ntmps67 Try.results67 (by simp) ?_
  simp only [argEnv]
  refine awp_seq ?_
  refine awp_regionA (c := ⟨[0, 6, 9, 17, 23, 55, 83, 94], [], [], [], []⟩) (by simp only [lite_cons, lite_nil] <;> rfl) fun all hall K hK => ?_
  clear hall
  simp (maxSteps := 1000000) (disch := first | omega | assumption)
  repeat' refine And.intro ?_ ?_
  all_goals first | omega | exact rfl | skip
  refine hK _ ?_
  clear hK K
  clear all
  refine q_then_n ?_
  refine awp_seq ?_
  refine awp_regionA (c := ⟨[0, 6, 9, 17, 23, 55, 83, 94], [], [], [], []⟩) (by simp only [lite_cons, lite_nil] <;> rfl) fun all hall K hK => ?_
  clear hall
  simp (maxSteps := 1000000) (disch := first | omega | assumption)
  repeat' refine And.intro ?_ ?_
  all_goals first | omega | exact rfl | skip
  refine hK _ ?_
  clear hK K
  clear all
  refine q_then_n ?_
  refine awp_seq ?_
  refine awp_regionA (c := ⟨[0, 6, 9, 17, 23, 55, 83, 94], [], [], [], []⟩) (by simp only [lite_cons, lite_nil] <;> rfl) fun all hall K hK => ?_
  clear hall
  simp (maxSteps := 1000000) (disch := first | omega | assumption)
  repeat' refine And.intro ?_ ?_
  all_goals first | omega | exact rfl | skip
  refine hK _ ?_
  clear hK K
  clear all
  refine q_then_n ?_
  refine awp_seq ?_
  refine awp_seq ?_
  refine awp_regionA (c := ⟨[0, 6, 9, 17, 23, 55, 83, 94], [], [], [], []⟩) (by simp only [lite_cons, lite_nil] <;> rfl) fun all hall K hK => ?_
  clear hall
  simp (maxSteps := 1000000) (disch := first | omega | assumption)
  repeat' refine And.intro ?_ ?_
  all_goals first | omega | exact rfl | skip
  refine hK _ ?_
  clear hK K
  clear all
  refine q_then_n ?_
  refine awp_ifB (by simp <;> rfl) ?_
  refine ⟨fun c1 => ?_, fun c1 => ?_⟩
  · simp at c1
  · try simp at c1
    refine awp_skip ?_
    refine q_then_n ?_
    refine awp_seq ?_
    refine awp_regionA (c := ⟨[0, 6, 9, 17, 23, 55, 83, 94], [], [], [], []⟩) (by simp only [lite_cons, lite_nil] <;> rfl) fun all hall K hK => ?_
    clear hall
    simp (maxSteps := 1000000) (disch := first | omega | assumption)
    repeat' refine And.intro ?_ ?_
    all_goals first | omega | exact rfl | skip
    refine hK _ ?_
    clear hK K
    clear all
    refine q_then_n ?_
    refine awp_seq ?_
    refine awp_seq ?_
    refine awp_keep [0, 1, 2, 6, 7, 8] (by simp only [keepL_nil, keepL_cons, envOf_sel, envOf_nil, sel_t, sel_f, Nat.reduceBEq] <;> rfl) ?_
    refine awp_regionA (c := ⟨[0, 6, 9, 17, 23, 55, 83, 94], [], [], [], []⟩) (by simp only [lite_cons, lite_nil] <;> rfl) fun all hall K hK => ?_
    clear hall
    simp (maxSteps := 1000000) (disch := first | omega | assumption)
    repeat' refine And.intro ?_ ?_
    all_goals first | omega | exact rfl | skip
    refine hK _ ?_
    clear hK K
    clear all
    refine q_then_n ?_
    refine awp_ifB (by simp <;> rfl) ?_
    refine ⟨fun c2 => ?_, fun c2 => ?_⟩
    · try simp at c2
      refine awp_seq ?_
      refine awp_regionA (c := ⟨[0, 6, 9, 17, 23, 55, 83, 94], [], [], [], []⟩) (by simp only [lite_cons, lite_nil] <;> rfl) fun all hall K hK => ?_
      clear hall
      simp (maxSteps := 1000000) (disch := first | omega | assumption)
      repeat' refine And.intro ?_ ?_
      all_goals first | omega | exact rfl | skip
      refine hK _ ?_
      clear hK K
      clear all
      refine q_then_n ?_
      refine awp_ret ?_
      refine q_then_r ?_
      simp [endQ]
    · simp at c2

-- (*scrim/arena.Dom).Insert
theorem dins_fn (m M rt nd : Nat) (σ : List (List D)) (hq : σ[m]? = some [D.int 3, D.int 2, .mp M (.int .i64) 2 [(.int .i64 0, 0, .ref rt 0), (.int .i64 1, 1, .ref nd 0)]]) (hr : σ[rt]? = some [D.int 0, D.int 2, D.str sRoot, D.str ⟨#[]⟩, .sl true [], .sl true [], .sl true [], D.int (-1), .sl true []]) (hn : σ[nd]? = some [D.int 1, D.int 2, D.str sP, D.str ⟨#[]⟩, .sl false [], .sl false [], .sl false [], D.int (-1), .sl false []]) (h1 : m ≠ rt) (h2 : m ≠ nd) (h3 : rt ≠ nd) : Ct Try.prog 38 [.ref m 0, D.int 0, D.int 0, D.int 1] σ (fun r σ' => r = .int 0 ∧ σ' = (σ.set rt [D.int 0, D.int 2, D.str sRoot, D.str ⟨#[]⟩, .sl true [], .sl true [], .sl true [], D.int (-1), .sl true [D.int 1]]).set nd [D.int 1, D.int 2, D.str sP, D.str ⟨#[]⟩, .sl false [], .sl false [], .sl false [], D.int 0, .sl false []]) := by
  refine fn_start (rs := [.tmp 8]) Try.func38 rfl rfl Try.ntmps38 Try.results38 (by simp) ?_
  simp only [argEnv]
  have hn2 : ∀ a, (σ.set rt a)[nd]? = some [D.int 1, D.int 2, D.str sP, D.str ⟨#[]⟩, .sl false [], .sl false [], .sl false [], D.int (-1), .sl false []] := fun a => by rw [List.getElem?_set_ne h3]; exact hn
  refine awp_seq ?_
  refine awp_regionA (c := ⟨[70, 74], [], [], [], []⟩) (by simp only [lite_cons, lite_nil] <;> rfl) fun all hall K hK => ?_
  clear hall
  simp (maxSteps := 1000000) (disch := first | omega | assumption) [hq, hr, hn, og_get hr, hn2, List.set_set]
  repeat' refine And.intro ?_ ?_
  all_goals first | omega | exact rfl | skip
  refine hK _ ?_
  clear hK K
  clear all
  refine q_then_n ?_
  refine awp_seq ?_
  refine awp_drawA (c := ⟨[70, 74], [], [], [], []⟩) [.op ⟨false, false, false, false⟩, .op ⟨false, false, false, false⟩, .op ⟨false, false, false, false⟩, .op ⟨false, false, true, false⟩, .op ⟨false, false, false, false⟩, .op ⟨false, false, true, false⟩, .op ⟨false, false, false, false⟩, .op ⟨false, false, false, false⟩, .op ⟨false, false, false, false⟩, .op ⟨false, false, true, false⟩, .op ⟨false, false, false, false⟩, .op ⟨false, false, true, false⟩, .op ⟨false, false, false, false⟩, .op ⟨false, false, false, false⟩] (by kernel_rfl) (by kernel_rfl) (by simp only [lite_cons, lite_nil] <;> rfl) fun all hall K hK => ?_
  clear hall
  refine vcDL_split 6 (by simp) fun K' hK' => ?_
  simp (maxSteps := 1000000) (disch := first | omega | assumption) [hq, hr, hn, og_get hr, hn2, List.set_set]
  refine ⟨m, 2, 2, _, .ref rt 0, ⟨⟨_, hq, rfl⟩, keyI _, .inr (.inl ⟨rfl, 0, 0, rfl⟩)⟩, ?_⟩
  repeat' refine And.intro ?_ ?_
  all_goals first | omega | exact rfl | skip
  refine hK' _ ?_
  clear hK' K'
  simp only [List.drop_succ_cons, List.drop_zero]
  refine vcDL_split 6 (by simp) fun K' hK' => ?_
  simp (maxSteps := 1000000) (disch := first | omega | assumption) [hq, hr, hn, og_get hr, hn2, List.set_set]
  refine ⟨m, 2, 2, _, .ref nd 0, ⟨⟨_, hq, rfl⟩, keyI _, .inr (.inl ⟨rfl, 1, 1, rfl⟩)⟩, ?_⟩
  repeat' refine And.intro ?_ ?_
  all_goals first | omega | exact rfl | skip
  refine hK' _ ?_
  clear hK' K'
  simp only [List.drop_succ_cons, List.drop_zero]
  simp (maxSteps := 1000000) (disch := first | omega | assumption) [hq, hr, hn, og_get hr, hn2, List.set_set]
  repeat' refine And.intro ?_ ?_
  all_goals first | omega | exact rfl | skip
  refine hK _ ?_
  clear hK K
  clear all
  refine q_then_n ?_
  refine awp_seq ?_
  refine awp_block ?_
  refine awp_seq ?_
  refine awp_keep [0, 1, 2, 3, 8, 9, 10] (by simp only [keepL_nil, keepL_cons, envOf_sel, envOf_nil, sel_t, sel_f, Nat.reduceBEq] <;> rfl) ?_
  refine awp_regionA (c := ⟨[70, 74], [], [], [], []⟩) (by simp only [lite_cons, lite_nil] <;> rfl) fun all hall K hK => ?_
  have ga2 : guardOf all 2 = some 26 := hall 2
  clear hall
  refine vcL_split 3 fun K' hK' => ?_
  simp (maxSteps := 1000000) (disch := first | omega | assumption) [hq, hr, hn, og_get hr, hn2, List.set_set, ga2]
  repeat' refine And.intro ?_ ?_
  all_goals first | omega | exact rfl | skip
  refine hK' _ ?_
  clear hK' K'
  simp only [List.drop_succ_cons, List.drop_zero]
  refine vcL_bool 26 (by simp <;> rfl) ?_
  refine ⟨fun g1 => ?_, fun g1 => ?_⟩
  · simp at g1
  · try simp at g1
    simp (maxSteps := 1000000) (disch := first | omega | assumption) [hq, hr, hn, og_get hr, hn2, List.set_set, ga2]
    repeat' refine And.intro ?_ ?_
    all_goals first | omega | exact rfl | skip
    refine hK _ ?_
    clear hK K
    clear ga2
    clear all
    refine q_then_n ?_
    refine awp_ifB (by simp <;> rfl) ?_
    refine ⟨fun c2 => ?_, fun c2 => ?_⟩
    · simp at c2
    · try simp at c2
      refine awp_seq ?_
      refine awp_keep [0, 1, 2, 3, 8, 9, 10] (by simp only [keepL_nil, keepL_cons, envOf_sel, envOf_nil, sel_t, sel_f, Nat.reduceBEq] <;> rfl) ?_
      refine awp_regionA (c := ⟨[70, 74], [], [], [], []⟩) (by simp only [lite_cons, lite_nil] <;> rfl) fun all hall K hK => ?_
      clear hall
      simp (maxSteps := 1000000) (disch := first | omega | assumption) [hq, hr, hn, og_get hr, hn2, List.set_set]
      repeat' refine And.intro ?_ ?_
      all_goals first | omega | exact rfl | skip
      refine hK _ ?_
      clear hK K
      clear all
      refine q_then_n ?_
      refine awp_ifB (by simp <;> rfl) ?_
      refine ⟨fun c3 => ?_, fun c3 => ?_⟩
      · simp at c3
      · try simp at c3
        refine awp_seq ?_
        refine awp_keep [0, 1, 2, 3, 8, 9, 10] (by simp only [keepL_nil, keepL_cons, envOf_sel, envOf_nil, sel_t, sel_f, Nat.reduceBEq] <;> rfl) ?_
        refine awp_regionA (c := ⟨[70, 74], [], [], [], []⟩) (by simp only [lite_cons, lite_nil] <;> rfl) fun all hall K hK => ?_
        have ga2 : guardOf all 2 = some 39 := hall 2
        have ga9 : guardOf all 9 = some 46 := hall 9
        have ga15 : guardOf all 15 = some 52 := hall 15
        have ga19 : guardOf all 19 = some 56 := hall 19
        clear hall
        refine vcL_split 3 fun K' hK' => ?_
        simp (maxSteps := 1000000) (disch := first | omega | assumption) [hq, hr, hn, og_get hr, hn2, List.set_set, ga2, ga9, ga15, ga19]
        repeat' refine And.intro ?_ ?_
        all_goals first | omega | exact rfl | skip
        refine hK' _ ?_
        clear hK' K'
        simp only [List.drop_succ_cons, List.drop_zero]
        refine vcL_bool 39 (by simp <;> rfl) ?_
        refine ⟨fun g4 => ?_, fun g4 => ?_⟩
        · simp at g4
        · try simp at g4
          refine vcL_split 7 fun K' hK' => ?_
          simp (maxSteps := 1000000) (disch := first | omega | assumption) [hq, hr, hn, og_get hr, hn2, List.set_set, ga2, ga9, ga15, ga19]
          repeat' refine And.intro ?_ ?_
          all_goals first | omega | exact rfl | skip
          refine hK' _ ?_
          clear hK' K'
          simp only [List.drop_succ_cons, List.drop_zero]
          refine vcL_bool 46 (by simp <;> rfl) ?_
          refine ⟨fun g5 => ?_, fun g5 => ?_⟩
          · simp at g5
          · try simp at g5
            refine vcL_split 3 fun K' hK' => ?_
            simp (maxSteps := 1000000) (disch := first | omega | assumption) [hq, hr, hn, og_get hr, hn2, List.set_set, ga2, ga9, ga15, ga19]
            repeat' refine And.intro ?_ ?_
            all_goals first | omega | exact rfl | skip
            refine hK' _ ?_
            clear hK' K'
            simp only [List.drop_succ_cons, List.drop_zero]
            refine vcL_gt ga9 (by simp <;> rfl) rfl fun K' hK' => ?_
            simp (maxSteps := 1000000) (disch := first | omega | assumption) [hq, hr, hn, og_get hr, hn2, List.set_set, ga2, ga9, ga15, ga19]
            refine Ct.mono (Ct.of_le (within_fn m M rt nd _ hq hr hn) (by first | exact leArgs_of rfl | (refine leArgs_of ?_; simp; done) | (refine leArgs_of ?_; simp; rfl) | (simp [leArgs, leArg]; done)) rfl) ?_
            rintro _ _ ⟨hr9, hs9⟩
            subst hr9
            replace hs9 := hs9.symm
            subst hs9
            refine hK' _ ?_
            clear hK' K'
            refine vcL_split 2 fun K' hK' => ?_
            simp (maxSteps := 1000000) (disch := first | omega | assumption) [hq, hr, hn, og_get hr, hn2, List.set_set, ga2, ga9, ga15, ga19]
            repeat' refine And.intro ?_ ?_
            all_goals first | omega | exact rfl | skip
            refine hK' _ ?_
            clear hK' K'
            simp only [List.drop_succ_cons, List.drop_zero]
            refine vcL_bool 52 (by simp <;> rfl) ?_
            refine ⟨fun g6 => ?_, fun g6 => ?_⟩
            · simp at g6
            · try simp at g6
              refine vcL_split 4 fun K' hK' => ?_
              simp (maxSteps := 1000000) (disch := first | omega | assumption) [hq, hr, hn, og_get hr, hn2, List.set_set, ga2, ga9, ga15, ga19]
              repeat' refine And.intro ?_ ?_
              all_goals first | omega | exact rfl | skip
              refine hK' _ ?_
              clear hK' K'
              simp only [List.drop_succ_cons, List.drop_zero]
              refine vcL_bool 56 (by simp <;> rfl) ?_
              refine ⟨fun g7 => ?_, fun g7 => ?_⟩
              · simp at g7
              · try simp at g7
                refine vcL_split 8 fun K' hK' => ?_
                simp (maxSteps := 1000000) (disch := first | omega | assumption) [hq, hr, hn, og_get hr, hn2, List.set_set, ga2, ga9, ga15, ga19]
                repeat' refine And.intro ?_ ?_
                all_goals first | omega | exact rfl | skip
                refine hK' _ ?_
                clear hK' K'
                simp only [List.drop_succ_cons, List.drop_zero]
                simp (maxSteps := 1000000) (disch := first | omega | assumption) [hq, hr, hn, og_get hr, hn2, List.set_set, ga2, ga9, ga15, ga19]
                repeat' refine And.intro ?_ ?_
                all_goals first | omega | exact rfl | skip
                refine hK _ ?_
                clear hK K
                clear ga2 ga9 ga15 ga19
                clear all
                refine q_then_n ?_
                refine awp_ifB (by simp <;> rfl) ?_
                refine ⟨fun c8 => ?_, fun c8 => ?_⟩
                · simp at c8
                · try simp at c8
                  refine awp_skip ?_
                  refine q_block_n ?_
                  refine q_then_n ?_
                  refine awp_seq ?_
                  refine awp_keep [1, 2, 3, 8, 9, 10] (by simp only [keepL_nil, keepL_cons, envOf_sel, envOf_nil, sel_t, sel_f, Nat.reduceBEq] <;> rfl) ?_
                  refine awp_regionA (c := ⟨[70, 74], [], [], [], []⟩) (by simp only [lite_cons, lite_nil] <;> rfl) fun all hall K hK => ?_
                  clear hall
                  refine vcL_split 8 fun K' hK' => ?_
                  simp (maxSteps := 1000000) (disch := first | omega | assumption) [hq, hr, hn, og_get hr, hn2, List.set_set]
                  repeat' refine And.intro ?_ ?_
                  all_goals first | omega | exact rfl | skip
                  refine hK' _ ?_
                  clear hK' K'
                  simp only [List.drop_succ_cons, List.drop_zero]
                  refine vcL_split 1 fun K' hK' => ?_
                  simp (maxSteps := 1000000) (disch := first | omega | assumption) [hq, hr, hn, og_get hr, hn2, List.set_set]
                  repeat' refine And.intro ?_ ?_
                  all_goals first | omega | exact rfl | skip
                  refine hK' _ ?_
                  clear hK' K'
                  simp only [List.drop_succ_cons, List.drop_zero]
                  refine vcL_step fun K' hK' => ?_
                  simp (maxSteps := 1000000) (disch := first | omega | assumption) [hq, hr, hn, og_get hr, hn2, List.set_set]
                  refine Ct.mono (Ct.of_le (sins_fn _) (by first | exact leArgs_of rfl | (refine leArgs_of ?_; simp; done) | (refine leArgs_of ?_; simp; rfl) | (simp [leArgs, leArg]; done)) rfl) ?_
                  rintro _ _ ⟨hr9, hs9⟩
                  subst hr9
                  replace hs9 := hs9.symm
                  subst hs9
                  refine hK' _ ?_
                  clear hK' K'
                  simp (maxSteps := 1000000) (disch := first | omega | assumption) [hq, hr, hn, og_get hr, hn2, List.set_set]
                  repeat' refine And.intro ?_ ?_
                  all_goals first | omega | exact rfl | skip
                  refine hK _ ?_
                  clear hK K
                  clear all
                  refine q_then_n ?_
                  refine awp_seq ?_
                  refine awp_keep [8] (by simp only [keepL_nil, keepL_cons, envOf_sel, envOf_nil, sel_t, sel_f, Nat.reduceBEq] <;> rfl) ?_
                  refine awp_regionA (c := ⟨[70, 74], [], [], [], []⟩) (by simp only [lite_cons, lite_nil] <;> rfl) fun all hall K hK => ?_
                  clear hall
                  simp (maxSteps := 1000000) (disch := first | omega | assumption) [hq, hr, hn, og_get hr, hn2, List.set_set]
                  repeat' refine And.intro ?_ ?_
                  all_goals first | omega | exact rfl | skip
                  refine hK _ ?_
                  clear hK K
                  clear all
                  refine q_then_n ?_
                  refine awp_ret ?_
                  simp [endQ]

-- (*scrim/trail.Log).Insert
theorem lins_fn (l m M rt nd : Nat) (σ : List (List D)) (hq : σ[m]? = some [D.int 3, D.int 2, .mp M (.int .i64) 2 [(.int .i64 0, 0, .ref rt 0), (.int .i64 1, 1, .ref nd 0)]]) (hr : σ[rt]? = some [D.int 0, D.int 2, D.str sRoot, D.str ⟨#[]⟩, .sl true [], .sl true [], .sl true [], D.int (-1), .sl true []]) (hn : σ[nd]? = some [D.int 1, D.int 2, D.str sP, D.str ⟨#[]⟩, .sl false [], .sl false [], .sl false [], D.int (-1), .sl false []]) (hg : σ[l]? = some [.ref m 0, .sl true ([⟨1, 1, 0, 0, sP, ⟨#[]⟩⟩].map d_TOp)]) (h1 : m ≠ rt) (h2 : m ≠ nd) (h3 : rt ≠ nd) (h4 : rt ≠ l) (h5 : nd ≠ l) : Ct Try.prog 18 [.ref l 0, D.int 0, D.int 0, D.int 1] σ (fun r σ' => r = .int 0 ∧ σ' = ((σ.set rt [D.int 0, D.int 2, D.str sRoot, D.str ⟨#[]⟩, .sl true [], .sl true [], .sl true [], D.int (-1), .sl true [D.int 1]]).set nd [D.int 1, D.int 2, D.str sP, D.str ⟨#[]⟩, .sl false [], .sl false [], .sl false [], D.int 0, .sl false []]).set l [.ref m 0, .sl true ([⟨1, 1, 0, 0, sP, ⟨#[]⟩⟩, ⟨3, 0, 0, 1, ⟨#[]⟩, ⟨#[]⟩⟩].map d_TOp)]) := by
  refine fn_start (rs := [.tmp 8]) Try.func18 rfl rfl Try.ntmps18 Try.results18 (by simp) ?_
  simp only [argEnv]
  have hg2 : ((σ.set rt [D.int 0, D.int 2, D.str sRoot, D.str ⟨#[]⟩, .sl true [], .sl true [], .sl true [], D.int (-1), .sl true [D.int 1]]).set nd [D.int 1, D.int 2, D.str sP, D.str ⟨#[]⟩, .sl false [], .sl false [], .sl false [], D.int 0, .sl false []])[l]? = some [.ref m 0, .sl true ([⟨1, 1, 0, 0, sP, ⟨#[]⟩⟩].map d_TOp)] := by rw [List.getElem?_set_ne h5, List.getElem?_set_ne h4]; exact hg
  refine awp_seq ?_
  refine awp_regionA (c := ⟨[], [], [], [], []⟩) (by simp only [lite_cons, lite_nil] <;> rfl) fun all hall K hK => ?_
  clear hall
  simp (maxSteps := 1000000) (disch := first | omega | assumption) [hg]
  repeat' refine And.intro ?_ ?_
  all_goals first | omega | exact rfl | skip
  refine hK _ ?_
  clear hK K
  clear all
  refine q_then_n ?_
  refine awp_seq ?_
  refine awp_regionA (c := ⟨[], [], [], [], []⟩) (by simp only [lite_cons, lite_nil] <;> rfl) fun all hall K hK => ?_
  clear hall
  refine vcL_split 8 fun K' hK' => ?_
  simp (maxSteps := 1000000) (disch := first | omega | assumption) [hg]
  repeat' refine And.intro ?_ ?_
  all_goals first | omega | exact rfl | skip
  refine hK' _ ?_
  clear hK' K'
  simp only [List.drop_succ_cons, List.drop_zero]
  refine vcL_step fun K' hK' => ?_
  simp (maxSteps := 1000000) (disch := first | omega | assumption) [hg]
  refine Ct.mono (Ct.of_le (dins_fn m M rt nd _ hq hr hn h1 h2 h3) (by first | exact leArgs_of rfl | (refine leArgs_of ?_; simp; done) | (refine leArgs_of ?_; simp; rfl) | (simp [leArgs, leArg]; done)) rfl) ?_
  rintro _ _ ⟨hr9, hs9⟩
  subst hr9
  replace hs9 := hs9.symm
  subst hs9
  refine hK' _ ?_
  clear hK' K'
  refine vcL_split 4 fun K' hK' => ?_
  simp (maxSteps := 1000000) (disch := first | omega | assumption) [hg]
  repeat' refine And.intro ?_ ?_
  all_goals first | omega | exact rfl | skip
  refine hK' _ ?_
  clear hK' K'
  simp only [List.drop_succ_cons, List.drop_zero]
  refine vcL_step fun K' hK' => ?_
  simp (maxSteps := 1000000) (disch := first | omega | assumption) [hg]
  refine Ct.mono (Ct.of_le (note_fn l m [⟨1, 1, 0, 0, sP, ⟨#[]⟩⟩] ⟨3, 0, 0, 1, ⟨#[]⟩, ⟨#[]⟩⟩ _ hg2 (by simp)) (by first | exact leArgs_of rfl | (refine leArgs_of ?_; simp; done) | (refine leArgs_of ?_; simp; rfl) | (simp [leArgs, leArg]; done)) rfl) ?_
  rintro _ _ ⟨hr9, hs9⟩
  subst hr9
  replace hs9 := hs9.symm
  subst hs9
  refine hK' _ ?_
  clear hK' K'
  simp (maxSteps := 1000000) (disch := first | omega | assumption) [hg]
  repeat' refine And.intro ?_ ?_
  all_goals first | omega | exact rfl | skip
  refine hK _ ?_
  clear hK K
  clear all
  refine q_then_n ?_
  refine awp_ret ?_
  simp [endQ]

-- slices.Clone[[]scrim/trail.Op,scrim/trail.Op]
theorem oclone_fn (ops : List TOp) (σ : List (List D)) (hl : ops.length ≤ 100000) : Ct Try.prog 39 [.sl false (ops.map d_TOp)] σ (fun r σ' => r = .sl true (ops.map d_TOp) ∧ σ' = σ) := by
  refine fn_start (rs := [.tmp 2]) Try.func39 rfl rfl Try.ntmps39 Try.results39 (by simp) ?_
  simp only [argEnv]
  refine awp_seq ?_
  refine awp_regionA (c := ⟨[2], [], [], [], []⟩) (by simp only [lite_cons, lite_nil] <;> rfl) fun all hall K hK => ?_
  clear hall
  simp (maxSteps := 1000000) (disch := first | omega | assumption)
  repeat' refine And.intro ?_ ?_
  all_goals first | omega | exact rfl | skip
  refine hK _ ?_
  clear hK K
  clear all
  refine q_then_n ?_
  refine awp_seq ?_
  refine awp_seq ?_
  refine awp_regionA (c := ⟨[2], [], [], [], []⟩) (by simp only [lite_cons, lite_nil] <;> rfl) fun all hall K hK => ?_
  clear hall
  refine vcL_split 1 fun K' hK' => ?_
  simp (maxSteps := 1000000) (disch := first | omega | assumption)
  repeat' refine And.intro ?_ ?_
  all_goals first | omega | exact rfl | skip
  refine hK' _ ?_
  clear hK' K'
  simp only [List.drop_succ_cons, List.drop_zero]
  refine vcL_step fun K' hK' => ?_
  simp (maxSteps := 1000000) (disch := first | omega | assumption)
  refine ⟨hK' _ ?_, fun e1 => hK' _ ?_⟩
  · clear hK' K'
    simp only [vcL_nil]
    refine hK _ ?_
    clear hK K
    clear all
    refine q_then_n ?_
    refine awp_cond (t := false) (by simp) (fun h => by cases h) (fun _ => ?_)
    refine awp_skip ?_
    refine q_then_n ?_
    refine awp_seq ?_
    refine awp_regionA (c := ⟨[2], [], [], [], []⟩) (by simp only [lite_cons, lite_nil] <;> rfl) fun all hall K hK => ?_
    clear hall
    simp (maxSteps := 1000000) (disch := first | omega | assumption)
    repeat' refine And.intro ?_ ?_
    all_goals first | omega | exact rfl | skip
    refine hK _ ?_
    clear hK K
    clear all
    refine q_then_n ?_
    refine awp_ret ?_
    simp [endQ]
  · clear hK' K'
    simp only [vcL_nil]
    refine hK _ ?_
    clear hK K
    clear all
    refine q_then_n ?_
    refine awp_cond (t := true) (by simp) (fun _ => ?_) (fun h => by cases h)
    refine awp_seq ?_
    refine awp_regionA (c := ⟨[2], [], [], [], []⟩) (by simp only [lite_cons, lite_nil] <;> rfl) fun all hall K hK => ?_
    clear hall
    simp (maxSteps := 1000000) (disch := first | omega | assumption)
    repeat' refine And.intro ?_ ?_
    all_goals first | omega | exact rfl | skip
    refine hK _ ?_
    clear hK K
    clear all
    refine q_then_n ?_
    refine awp_ret ?_
    refine q_then_r ?_
    simp [endQ, e1]

-- (*scrim/trail.Log).Ops
theorem lops_fn (l m : Nat) (ops : List TOp) (σ : List (List D)) (hl : ops.length ≤ 100000) (hg : σ[l]? = some [.ref m 0, .sl true (ops.map d_TOp)]) : Ct Try.prog 19 [.ref l 0] σ (fun r σ' => r = .sl true (ops.map d_TOp) ∧ σ' = σ) := by
  refine fn_start (rs := [.tmp 2]) Try.func19 rfl rfl Try.ntmps19 Try.results19 (by simp) ?_
  simp only [argEnv]
  refine awp_seq ?_
  refine awp_regionA (c := ⟨[2], [], [], [], []⟩) (by simp only [lite_cons, lite_nil] <;> rfl) fun all hall K hK => ?_
  clear hall
  simp (maxSteps := 1000000) (disch := first | omega | assumption) [hg]
  repeat' refine And.intro ?_ ?_
  all_goals first | omega | exact rfl | skip
  refine hK _ ?_
  clear hK K
  clear all
  refine q_then_n ?_
  refine awp_seq ?_
  refine awp_regionA (c := ⟨[2], [], [], [], []⟩) (by simp only [lite_cons, lite_nil] <;> rfl) fun all hall K hK => ?_
  clear hall
  refine vcL_split 4 fun K' hK' => ?_
  simp (maxSteps := 1000000) (disch := first | omega | assumption) [hg]
  repeat' refine And.intro ?_ ?_
  all_goals first | omega | exact rfl | skip
  refine hK' _ ?_
  clear hK' K'
  simp only [List.drop_succ_cons, List.drop_zero]
  refine vcL_step fun K' hK' => ?_
  simp (maxSteps := 1000000) (disch := first | omega | assumption) [hg]
  refine Ct.mono (Ct.of_le (oclone_fn ops _ hl) (by first | exact leArgs_of rfl | (refine leArgs_of ?_; simp; done) | (refine leArgs_of ?_; simp; rfl) | (simp [leArgs, leArg]; done)) rfl) ?_
  rintro _ _ ⟨hr9, hs9⟩
  subst hr9
  replace hs9 := hs9.symm
  subst hs9
  refine hK' _ ?_
  clear hK' K'
  simp (maxSteps := 1000000) (disch := first | omega | assumption) [hg]
  repeat' refine And.intro ?_ ?_
  all_goals first | omega | exact rfl | skip
  refine hK _ ?_
  clear hK K
  clear all
  refine q_then_n ?_
  refine awp_ret ?_
  simp [endQ]

-- scrim/trail.On
theorem ton_fn (m : Nat) (σ : List (List D))  : Ct Try.prog 16 [.ref m 0] σ (fun r σ' => r = .ref σ.length 0 ∧ σ' = σ ++ [[.ref m 0, .sl true ([])]]) := by
  refine fn_start (rs := [.tmp 2]) Try.func16 rfl rfl Try.ntmps16 Try.results16 (by simp) ?_
  simp only [argEnv]
  refine awp_seq ?_
  refine awp_regionA (c := ⟨[], [], [5], [], []⟩) (by simp only [lite_cons, lite_nil] <;> rfl) fun all hall K hK => ?_
  clear hall
  simp (maxSteps := 1000000) (disch := first | omega | assumption) [og_at, og_put, og_at0, og_put0]
  repeat' refine And.intro ?_ ?_
  all_goals first | omega | exact rfl | skip
  refine hK _ ?_
  clear hK K
  clear all
  refine q_then_n ?_
  refine awp_seq ?_
  refine awp_regionA (c := ⟨[], [], [5], [], []⟩) (by simp only [lite_cons, lite_nil] <;> rfl) fun all hall K hK => ?_
  clear hall
  simp (maxSteps := 1000000) (disch := first | omega | assumption) [og_at, og_put, og_at0, og_put0]
  repeat' refine And.intro ?_ ?_
  all_goals first | omega | exact rfl | skip
  refine hK _ ?_
  clear hK K
  clear all
  refine q_then_n ?_
  refine awp_ret ?_
  simp [endQ]

-- scrim/scrimlaw06.awake
theorem awake0_fn  (σ : List (List D))  : Ct Try.prog 5 [] σ (fun r σ' => r = .bool true ∧ ∃ J, σ' = σ ++ J) := by
  refine fn_start (rs := [.tmp 0]) Try.func5 rfl rfl Try.ntmps5 Try.results5 (by simp) ?_
  simp only [argEnv]
  refine awp_seq ?_
  refine awp_regionA (c := ⟨[], [], [], [], []⟩) (by simp only [lite_cons, lite_nil] <;> rfl) fun all hall K hK => ?_
  clear hall
  simp (maxSteps := 1000000) (disch := first | omega | assumption) [og_at, og_put, og_at0, og_put0]
  repeat' refine And.intro ?_ ?_
  all_goals first | omega | exact rfl | skip
  refine hK _ ?_
  clear hK K
  clear all
  refine q_then_n ?_
  refine awp_seq ?_
  refine awp_regionA (c := ⟨[], [], [], [], []⟩) (by simp only [lite_cons, lite_nil] <;> rfl) fun all hall K hK => ?_
  clear hall
  refine vcL_step fun K' hK' => ?_
  simp (maxSteps := 1000000) (disch := first | omega | assumption) [og_at, og_put, og_at0, og_put0]
  refine Ct.mono (Ct.of_le (anew_fn 3 _) (by first | exact leArgs_of rfl | (refine leArgs_of ?_; simp; done) | (refine leArgs_of ?_; simp; rfl) | (simp [leArgs, leArg]; done)) rfl) ?_
  rintro _ _ ⟨hr9, hs9⟩
  subst hr9
  replace hs9 := hs9.symm
  subst hs9
  refine hK' _ ?_
  clear hK' K'
  simp (maxSteps := 1000000) (disch := first | omega | assumption) [og_at, og_put, og_at0, og_put0]
  repeat' refine And.intro ?_ ?_
  all_goals first | omega | exact rfl | skip
  refine hK _ ?_
  clear hK K
  clear all
  refine q_then_n ?_
  refine awp_seq ?_
  refine awp_seq ?_
  refine awp_regionA (c := ⟨[], [], [], [], []⟩) (by simp only [lite_cons, lite_nil] <;> rfl) fun all hall K hK => ?_
  clear hall
  simp (maxSteps := 1000000) (disch := first | omega | assumption) [og_at, og_put, og_at0, og_put0]
  repeat' refine And.intro ?_ ?_
  all_goals first | omega | exact rfl | skip
  refine hK _ ?_
  clear hK K
  clear all
  refine q_then_n ?_
  refine awp_ifB (by simp <;> rfl) ?_
  refine ⟨fun c1 => ?_, fun c1 => ?_⟩
  · simp at c1
  · try simp at c1
    refine awp_skip ?_
    refine q_then_n ?_
    refine awp_seq ?_
    refine awp_regionA (c := ⟨[], [], [], [], []⟩) (by simp only [lite_cons, lite_nil] <;> rfl) fun all hall K hK => ?_
    clear hall
    refine vcL_split 1 fun K' hK' => ?_
    simp (maxSteps := 1000000) (disch := first | omega | assumption) [og_at, og_put, og_at0, og_put0]
    repeat' refine And.intro ?_ ?_
    all_goals first | omega | exact rfl | skip
    refine hK' _ ?_
    clear hK' K'
    simp only [List.drop_succ_cons, List.drop_zero]
    refine vcL_step fun K' hK' => ?_
    simp (maxSteps := 1000000) (disch := first | omega | assumption) [og_at, og_put, og_at0, og_put0]
    refine Ct.mono (Ct.of_le (ton_fn (σ.length + 1) _) (by first | exact leArgs_of rfl | (refine leArgs_of ?_; simp; done) | (refine leArgs_of ?_; simp; rfl) | (simp [leArgs, leArg]; done)) rfl) ?_
    rintro _ _ ⟨hr9, hs9⟩
    subst hr9
    replace hs9 := hs9.symm
    subst hs9
    refine hK' _ ?_
    clear hK' K'
    simp (maxSteps := 1000000) (disch := first | omega | assumption) [og_at, og_put, og_at0, og_put0]
    repeat' refine And.intro ?_ ?_
    all_goals first | omega | exact rfl | skip
    refine hK _ ?_
    clear hK K
    clear all
    refine q_then_n ?_
    refine awp_seq ?_
    refine awp_seq ?_
    refine awp_regionA (c := ⟨[], [], [], [], []⟩) (by simp only [lite_cons, lite_nil] <;> rfl) fun all hall K hK => ?_
    have ga2 : guardOf all 2 = some 14 := hall 2
    clear hall
    refine vcL_split 3 fun K' hK' => ?_
    simp (maxSteps := 1000000) (disch := first | omega | assumption) [og_at, og_put, og_at0, og_put0, ga2]
    repeat' refine And.intro ?_ ?_
    all_goals first | omega | exact rfl | skip
    refine hK' _ ?_
    clear hK' K'
    simp only [List.drop_succ_cons, List.drop_zero]
    refine vcL_bool 14 (by simp <;> rfl) ?_
    refine ⟨fun g2 => ?_, fun g2 => ?_⟩
    · simp at g2
    · try simp at g2
      simp (maxSteps := 1000000) (disch := first | omega | assumption) [og_at, og_put, og_at0, og_put0, ga2]
      repeat' refine And.intro ?_ ?_
      all_goals first | omega | exact rfl | skip
      refine hK _ ?_
      clear hK K
      clear ga2
      clear all
      refine q_then_n ?_
      refine awp_ifB (by simp <;> rfl) ?_
      refine ⟨fun c3 => ?_, fun c3 => ?_⟩
      · simp at c3
      · try simp at c3
        refine awp_skip ?_
        refine q_then_n ?_
        refine awp_seq ?_
        refine awp_keep [0, 2] (by simp only [keepL_nil, keepL_cons, envOf_sel, envOf_nil, sel_t, sel_f, Nat.reduceBEq] <;> rfl) ?_
        refine awp_regionA (c := ⟨[], [], [], [], []⟩) (by simp only [lite_cons, lite_nil] <;> rfl) fun all hall K hK => ?_
        clear hall
        refine vcL_split 1 fun K' hK' => ?_
        simp (maxSteps := 1000000) (disch := first | omega | assumption) [og_at, og_put, og_at0, og_put0]
        repeat' refine And.intro ?_ ?_
        all_goals first | omega | exact rfl | skip
        refine hK' _ ?_
        clear hK' K'
        simp only [List.drop_succ_cons, List.drop_zero]
        refine vcL_step fun K' hK' => ?_
        simp (maxSteps := 1000000) (disch := first | omega | assumption) [og_at, og_put, og_at0, og_put0]
        refine Ct.mono (Ct.of_le (lelem_fn (σ.length + 3) (σ.length + 1) σ.length (σ.length + 2) _ (by simp [og_at, og_put, og_at0, og_put0]; rfl) (by simp [og_at, og_put, og_at0, og_put0]) (by omega)) (by first | exact leArgs_of rfl | (refine leArgs_of ?_; simp; done) | (refine leArgs_of ?_; simp; rfl) | (simp [leArgs, leArg]; done)) rfl) ?_
        rintro _ _ ⟨hr9, hs9⟩
        subst hr9
        replace hs9 := hs9.symm
        subst hs9
        refine hK' _ ?_
        clear hK' K'
        simp (maxSteps := 1000000) (disch := first | omega | assumption) [og_at, og_put, og_at0, og_put0]
        repeat' refine And.intro ?_ ?_
        all_goals first | omega | exact rfl | skip
        refine hK _ ?_
        clear hK K
        clear all
        refine q_then_n ?_
        refine awp_seq ?_
        refine awp_regionA (c := ⟨[], [], [], [], []⟩) (by simp only [lite_cons, lite_nil] <;> rfl) fun all hall K hK => ?_
        clear hall
        refine vcL_split 2 fun K' hK' => ?_
        simp (maxSteps := 1000000) (disch := first | omega | assumption) [og_at, og_put, og_at0, og_put0]
        repeat' refine And.intro ?_ ?_
        all_goals first | omega | exact rfl | skip
        refine hK' _ ?_
        clear hK' K'
        simp only [List.drop_succ_cons, List.drop_zero]
        refine vcL_step fun K' hK' => ?_
        simp (maxSteps := 1000000) (disch := first | omega | assumption) [og_at, og_put, og_at0, og_put0]
        refine Ct.mono (Ct.of_le (lins_fn (σ.length + 3) (σ.length + 1) σ.length (σ.length + 2) (σ.length + 4) _ (by simp [og_at, og_put, og_at0, og_put0]) (by simp [og_at, og_put, og_at0, og_put0]) (by simp [og_at, og_put, og_at0, og_put0]) (by simp [og_at, og_put, og_at0, og_put0]) (by omega) (by omega) (by omega) (by omega) (by omega)) (by first | exact leArgs_of rfl | (refine leArgs_of ?_; simp; done) | (refine leArgs_of ?_; simp; rfl) | (simp [leArgs, leArg]; done)) rfl) ?_
        rintro _ _ ⟨hr9, hs9⟩
        subst hr9
        replace hs9 := hs9.symm
        subst hs9
        refine hK' _ ?_
        clear hK' K'
        simp (maxSteps := 1000000) (disch := first | omega | assumption) [og_at, og_put, og_at0, og_put0]
        repeat' refine And.intro ?_ ?_
        all_goals first | omega | exact rfl | skip
        refine hK _ ?_
        clear hK K
        clear all
        refine q_then_n ?_
        refine awp_seq ?_
        refine awp_keep [0, 2, 3, 4, 5] (by simp only [keepL_nil, keepL_cons, envOf_sel, envOf_nil, sel_t, sel_f, Nat.reduceBEq] <;> rfl) ?_
        refine awp_regionA (c := ⟨[], [], [], [], []⟩) (by simp only [lite_cons, lite_nil] <;> rfl) fun all hall K hK => ?_
        clear hall
        refine vcL_split 1 fun K' hK' => ?_
        simp (maxSteps := 1000000) (disch := first | omega | assumption) [og_at, og_put, og_at0, og_put0]
        repeat' refine And.intro ?_ ?_
        all_goals first | omega | exact rfl | skip
        refine hK' _ ?_
        clear hK' K'
        simp only [List.drop_succ_cons, List.drop_zero]
        refine vcL_step fun K' hK' => ?_
        simp (maxSteps := 1000000) (disch := first | omega | assumption) [og_at, og_put, og_at0, og_put0]
        refine Ct.mono (Ct.of_le (lops_fn (σ.length + 3) (σ.length + 1) [⟨1, 1, 0, 0, sP, ⟨#[]⟩⟩, ⟨3, 0, 0, 1, ⟨#[]⟩, ⟨#[]⟩⟩] _ (by simp) (by simp [og_at, og_put, og_at0, og_put0])) (by first | exact leArgs_of rfl | (refine leArgs_of ?_; simp; done) | (refine leArgs_of ?_; simp; rfl) | (simp [leArgs, leArg]; done)) rfl) ?_
        rintro _ _ ⟨hr9, hs9⟩
        subst hr9
        replace hs9 := hs9.symm
        subst hs9
        refine hK' _ ?_
        clear hK' K'
        simp (maxSteps := 1000000) (disch := first | omega | assumption) [og_at, og_put, og_at0, og_put0]
        repeat' refine And.intro ?_ ?_
        all_goals first | omega | exact rfl | skip
        refine hK _ ?_
        clear hK K
        clear all
        refine q_then_n ?_
        refine awp_seq ?_
        refine awp_keep [0, 3, 4, 5, 6] (by simp only [keepL_nil, keepL_cons, envOf_sel, envOf_nil, sel_t, sel_f, Nat.reduceBEq] <;> rfl) ?_
        refine awp_regionA (c := ⟨[], [], [], [], []⟩) (by simp only [lite_cons, lite_nil] <;> rfl) fun all hall K hK => ?_
        have ga2 : guardOf all 2 = some 33 := hall 2
        have ga6 : guardOf all 6 = some 37 := hall 6
        have ga10 : guardOf all 10 = some 41 := hall 10
        have ga15 : guardOf all 15 = some 46 := hall 15
        have ga22 : guardOf all 22 = some 53 := hall 22
        clear hall
        refine vcL_split 3 fun K' hK' => ?_
        simp (maxSteps := 1000000) (disch := first | omega | assumption) [og_at, og_put, og_at0, og_put0, ga2, ga6, ga10, ga15, ga22]
        repeat' refine And.intro ?_ ?_
        all_goals first | omega | exact rfl | skip
        refine hK' _ ?_
        clear hK' K'
        simp only [List.drop_succ_cons, List.drop_zero]
        refine vcL_bool 33 (by simp <;> rfl) ?_
        refine ⟨fun g4 => ?_, fun g4 => ?_⟩
        · try simp at g4
          refine vcL_split 4 fun K' hK' => ?_
          simp (maxSteps := 1000000) (disch := first | omega | assumption) [og_at, og_put, og_at0, og_put0, ga2, ga6, ga10, ga15, ga22]
          repeat' refine And.intro ?_ ?_
          all_goals first | omega | exact rfl | skip
          refine hK' _ ?_
          clear hK' K'
          simp only [List.drop_succ_cons, List.drop_zero]
          refine vcL_bool 37 (by simp <;> rfl) ?_
          refine ⟨fun g5 => ?_, fun g5 => ?_⟩
          · try simp at g5
            refine vcL_split 4 fun K' hK' => ?_
            simp (maxSteps := 1000000) (disch := first | omega | assumption) [og_at, og_put, og_at0, og_put0, ga2, ga6, ga10, ga15, ga22]
            repeat' refine And.intro ?_ ?_
            all_goals first | omega | exact rfl | skip
            refine hK' _ ?_
            clear hK' K'
            simp only [List.drop_succ_cons, List.drop_zero]
            refine vcL_bool 41 (by simp <;> rfl) ?_
            refine ⟨fun g6 => ?_, fun g6 => ?_⟩
            · try simp at g6
              refine vcL_split 5 fun K' hK' => ?_
              simp (maxSteps := 1000000) (disch := first | omega | assumption) [og_at, og_put, og_at0, og_put0, ga2, ga6, ga10, ga15, ga22]
              repeat' refine And.intro ?_ ?_
              all_goals first | omega | exact rfl | skip
              refine hK' _ ?_
              clear hK' K'
              simp only [List.drop_succ_cons, List.drop_zero]
              refine vcL_bool 46 (by simp <;> rfl) ?_
              refine ⟨fun g7 => ?_, fun g7 => ?_⟩
              · try simp at g7
                refine vcL_split 7 fun K' hK' => ?_
                simp (maxSteps := 1000000) (disch := first | omega | assumption) [og_at, og_put, og_at0, og_put0, ga2, ga6, ga10, ga15, ga22]
                repeat' refine And.intro ?_ ?_
                all_goals first | omega | exact rfl | skip
                refine hK' _ ?_
                clear hK' K'
                simp only [List.drop_succ_cons, List.drop_zero]
                refine vcL_bool 53 (by simp <;> rfl) ?_
                refine ⟨fun g8 => ?_, fun g8 => ?_⟩
                · try simp at g8
                  simp (maxSteps := 1000000) (disch := first | omega | assumption) [og_at, og_put, og_at0, og_put0, ga2, ga6, ga10, ga15, ga22]
                  repeat' refine And.intro ?_ ?_
                  all_goals first | omega | exact rfl | skip
                  refine hK _ ?_
                  clear hK K
                  clear ga2 ga6 ga10 ga15 ga22
                  clear all
                  refine q_then_n ?_
                  refine awp_ret ?_
                  simp [endQ]
                · simp at g8
              · simp at g7
            · simp at g6
          · simp at g5
        · simp at g4

theorem awake_fn (σ : List (List D)) : Ct Try.prog 5 [] σ (fun r σ' => r = .bool true ∧ σ' = σ) :=
  (awake0_fn σ).trim fun r σ' ⟨hr, J, hs⟩ => ⟨σ, J, hs, rfl, by rw [hr]; exact Sc.v _, fun n cs h => .inl h, hr, rfl⟩

-- scrim/scrimlaw06.TrailCounts
theorem trailCounts_fn (ops : List TOp) (kind : Int) (σ : List (List D)) (hl : ops.length ≤ 9223372036854775807) : Ct Try.prog 3 [.sl false (ops.map d_TOp), D.int kind] σ (fun r σ' => r = .bool true ∧ σ' = σ) := by
  refine fn_start (rs := [.tmp 4]) Try.func3 rfl rfl Try.ntmps3 Try.results3 (by simp) ?_
  simp only [argEnv]
  refine awp_seq ?_
  refine awp_regionA (c := ⟨[], [], [], [], []⟩) (by simp only [lite_cons, lite_nil] <;> rfl) fun all hall K hK => ?_
  clear hall
  simp (maxSteps := 1000000) (disch := first | omega | assumption)
  repeat' refine And.intro ?_ ?_
  all_goals first | omega | exact rfl | skip
  refine hK _ ?_
  clear hK K
  clear all
  refine q_then_n ?_
  refine awp_seq ?_
  refine awp_seq ?_
  refine awp_regionA (c := ⟨[], [], [], [], []⟩) (by simp only [lite_cons, lite_nil] <;> rfl) fun all hall K hK => ?_
  clear hall
  refine vcL_step fun K' hK' => ?_
  simp (maxSteps := 1000000) (disch := first | omega | assumption)
  refine Ct.mono (Ct.of_le (awake_fn _) (by first | exact leArgs_of rfl | (refine leArgs_of ?_; simp; done) | (refine leArgs_of ?_; simp; rfl) | (simp [leArgs, leArg]; done)) rfl) ?_
  rintro _ _ ⟨hr9, hs9⟩
  subst hr9
  replace hs9 := hs9.symm
  subst hs9
  refine hK' _ ?_
  clear hK' K'
  simp (maxSteps := 1000000) (disch := first | omega | assumption)
  repeat' refine And.intro ?_ ?_
  all_goals first | omega | exact rfl | skip
  refine hK _ ?_
  clear hK K
  clear all
  refine q_then_n ?_
  refine awp_ifB (by simp <;> rfl) ?_
  refine ⟨fun c1 => ?_, fun c1 => ?_⟩
  · simp at c1
  · try simp at c1
    refine awp_skip ?_
    refine q_then_n ?_
    refine awp_seq ?_
    refine awp_regionA (c := ⟨[], [], [], [], []⟩) (by simp only [lite_cons, lite_nil] <;> rfl) fun all hall K hK => ?_
    clear hall
    simp (maxSteps := 1000000) (disch := first | omega | assumption)
    repeat' refine And.intro ?_ ?_
    all_goals first | omega | exact rfl | skip
    refine hK _ ?_
    clear hK K
    clear all
    refine q_then_n ?_
    refine awp_seq ?_
    refine awp_seq ?_
    refine awp_regionA (c := ⟨[], [], [], [], []⟩) (by simp only [lite_cons, lite_nil] <;> rfl) fun all hall K hK => ?_
    clear hall
    simp (maxSteps := 1000000) (disch := first | omega | assumption)
    repeat' refine And.intro ?_ ?_
    all_goals first | omega | exact rfl | skip
    refine hK _ ?_
    clear hK K
    clear all
    refine q_then_n ?_
    refine awp_block ?_
    refine awp_keep [0, 1, 4, 5, 10, 11, 12] (by simp only [keepL_nil, keepL_cons, envOf_sel, envOf_nil, sel_t, sel_f, Nat.reduceBEq] <;> rfl) ?_
    refine awp_loopE (fun (k : Nat) => [(12, .d (.v (.int .i64 (k : Int)))), (5, .d (.int ((cnt kind (ops.take k) : Nat) : Int)))]) [5, 7, 12, 13, 14, 15, 16, 17, 18, 19, 20, 21, 22] (fun (k : Nat) => k ≤ ops.length) (fun (k : Nat) => ops.length - k) (0) (by simp <;> rfl) ?_ ?_ ?_
    · simp [cnt]
    · simp
    rintro k hk
    simp only [List.cons_append, List.nil_append]
    have hcl := cnt_le kind (ops.take k)
    simp only [List.length_take] at hcl
    refine awp_seq ?_
    refine awp_regionA (c := ⟨[], [], [], [], []⟩) (by simp only [lite_cons, lite_nil] <;> rfl) fun all hall K hK => ?_
    clear hall
    simp (maxSteps := 1000000) (disch := first | omega | assumption)
    repeat' refine And.intro ?_ ?_
    all_goals first | omega | exact rfl | skip
    refine hK _ ?_
    clear hK K
    clear all
    refine q_then_n ?_
    refine awp_seq ?_
    refine awp_ifB (by simp <;> rfl) ?_
    refine ⟨fun c2 => ?_, fun c2 => ?_⟩
    · try simp at c2
      refine awp_skip ?_
      refine q_then_n ?_
      refine awp_seq ?_
      refine awp_block ?_
      refine awp_seq ?_
      refine awp_regionA (c := ⟨[], [], [], [], []⟩) (by simp only [lite_cons, lite_nil] <;> rfl) fun all hall K hK => ?_
      clear hall
      simp (maxSteps := 1000000) (disch := first | omega | assumption)
      repeat' refine And.intro ?_ ?_
      all_goals first | omega | exact rfl | skip
      refine hK _ ?_
      clear hK K
      clear all
      refine q_then_n ?_
      refine awp_seq ?_
      refine awp_regionA (c := ⟨[], [], [], [], []⟩) (by simp only [lite_cons, lite_nil] <;> rfl) fun all hall K hK => ?_
      clear hall
      simp (maxSteps := 1000000) (disch := first | omega | assumption)
      repeat' refine And.intro ?_ ?_
      all_goals first | omega | exact rfl | skip
      refine hK _ ?_
      clear hK K
      clear all
      refine q_then_n ?_
      refine awp_ifB (by simp <;> rfl) ?_
      refine ⟨fun c3 => ?_, fun c3 => ?_⟩
      · try simp at c3
        refine awp_keep [0, 1, 4, 5, 10, 11, 12] (by simp only [keepL_nil, keepL_cons, envOf_sel, envOf_nil, sel_t, sel_f, Nat.reduceBEq] <;> rfl) ?_
        refine awp_regionA (c := ⟨[], [], [], [], []⟩) (by simp only [lite_cons, lite_nil] <;> rfl) fun all hall K hK => ?_
        clear hall
        simp (maxSteps := 1000000) (disch := first | omega | assumption)
        repeat' refine And.intro ?_ ?_
        all_goals first | omega | exact rfl | skip
        refine hK _ ?_
        clear hK K
        clear all
        refine q_block_n ?_
        refine q_then_n ?_
        refine awp_regionA (c := ⟨[], [], [], [], []⟩) (by simp only [lite_cons, lite_nil] <;> rfl) fun all hall K hK => ?_
        clear hall
        simp (maxSteps := 1000000) (disch := first | omega | assumption)
        repeat' refine And.intro ?_ ?_
        all_goals first | omega | exact rfl | skip
        refine hK _ ?_
        clear hK K
        clear all
        refine q_round (k + 1) ?_ ?_ (weak_mkA rfl ?_ (by simp) (by simp))
        · omega
        · try dsimp only
          omega
        · simp (maxSteps := 1000000) (disch := first | omega | assumption) [cnt_take, c3]
      · try simp at c3
        refine awp_skip ?_
        refine q_block_n ?_
        refine q_then_n ?_
        refine awp_keep [0, 1, 4, 5, 10, 11, 12] (by simp only [keepL_nil, keepL_cons, envOf_sel, envOf_nil, sel_t, sel_f, Nat.reduceBEq] <;> rfl) ?_
        refine awp_regionA (c := ⟨[], [], [], [], []⟩) (by simp only [lite_cons, lite_nil] <;> rfl) fun all hall K hK => ?_
        clear hall
        simp (maxSteps := 1000000) (disch := first | omega | assumption)
        repeat' refine And.intro ?_ ?_
        all_goals first | omega | exact rfl | skip
        refine hK _ ?_
        clear hK K
        clear all
        refine q_round (k + 1) ?_ ?_ (weak_mkA rfl ?_ (by simp) (by simp))
        · omega
        · try dsimp only
          omega
        · simp (maxSteps := 1000000) (disch := first | omega | assumption) [cnt_take, c3]
    · try simp at c2
      obtain rfl : k = ops.length := by omega
      rw [List.take_length]
      refine awp_exit ?_
      refine q_then_e ?_
      refine q_loop_e ?_
      refine q_block_e ?_
      refine q_then_n ?_
      refine awp_seq ?_
      refine awp_regionA (c := ⟨[], [], [], [], []⟩) (by simp only [lite_cons, lite_nil] <;> rfl) fun all hall K hK => ?_
      clear hall
      refine vcL_split 2 fun K' hK' => ?_
      simp (maxSteps := 1000000) (disch := first | omega | assumption)
      repeat' refine And.intro ?_ ?_
      all_goals first | omega | exact rfl | skip
      refine hK' _ ?_
      clear hK' K'
      simp only [List.drop_succ_cons, List.drop_zero]
      refine vcL_step fun K' hK' => ?_
      simp (maxSteps := 1000000) (disch := first | omega | assumption)
      refine Ct.mono (Ct.of_le (count_fn ops kind _ hl) (by first | exact leArgs_of rfl | (refine leArgs_of ?_; simp; done) | (refine leArgs_of ?_; simp; rfl) | (simp [leArgs, leArg]; done)) rfl) ?_
      rintro _ _ ⟨hr9, hs9⟩
      subst hr9
      replace hs9 := hs9.symm
      subst hs9
      refine hK' _ ?_
      clear hK' K'
      simp (maxSteps := 1000000) (disch := first | omega | assumption)
      repeat' refine And.intro ?_ ?_
      all_goals first | omega | exact rfl | skip
      refine hK _ ?_
      clear hK K
      clear all
      refine q_then_n ?_
      refine awp_ret ?_
      simp [endQ]

end Go.Proofs.Ythecicgdbogckaa

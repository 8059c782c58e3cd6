/- Walks: contracts of functions. Written by a program of ours out of annotations. -/
import Derived.Test.YthieajadepfeoaaWkPhase
namespace Go.Proofs.Ythieajadepfeoaa
open Go Go.Vm
set_option maxRecDepth 20000
set_option linter.all false
set_option maxHeartbeats 8000000

theorem take_snoc {α : Type} (l : List α) (k : Nat) (h : k < l.length) : l.take (k + 1) = l.take k ++ [l[k]] := by
  rw [List.take_add_one, List.getElem?_eq_getElem h]; rfl

-- scrim/scrimlaw05.Numbers
theorem numbers_fn (a b : List Int) (σ : List (List D)) (ha : a.length ≤ 9223372036854775807) (hb : b.length ≤ 9223372036854775807) : Ct Try.prog 76 [.sl false (a.map D.int), .sl false (b.map D.int)] σ (fun r σ' => r = .bool (decide (a = b)) ∧ σ' = σ) := by
  refine fn_start (rs := [.tmp 4]) Try.func76 rfl rfl Try.ntmps76 Try.results76 (by simp) ?_
  simp only [argEnv]
  refine awp_seq ?_
  refine awp_regionA (c := ⟨[], [], []⟩) (by simp only [lite_cons, lite_nil] <;> rfl) fun all hall K hK => ?_
  clear hall
  simp (maxSteps := 1000000) (disch := first | omega | assumption)
  repeat' refine And.intro ?_ ?_
  all_goals first | omega | exact rfl | skip
  refine hK _ ?_
  clear hK K
  clear all
  refine q_then_n ?_
  refine awp_seq ?_
  refine awp_seq ?_
  refine awp_regionA (c := ⟨[], [], []⟩) (by simp only [lite_cons, lite_nil] <;> rfl) fun all hall K hK => ?_
  clear hall
  simp (maxSteps := 1000000) (disch := first | omega | assumption)
  repeat' refine And.intro ?_ ?_
  all_goals first | omega | exact rfl | skip
  refine hK _ ?_
  clear hK K
  clear all
  refine q_then_n ?_
  refine awp_ifB (by simp <;> rfl) ?_
  refine ⟨fun c1 => ?_, fun c1 => ?_⟩
  · try simp at c1
    refine awp_seq ?_
    refine awp_regionA (c := ⟨[], [], []⟩) (by simp only [lite_cons, lite_nil] <;> rfl) fun all hall K hK => ?_
    clear hall
    simp (maxSteps := 1000000) (disch := first | omega | assumption)
    repeat' refine And.intro ?_ ?_
    all_goals first | omega | exact rfl | skip
    refine hK _ ?_
    clear hK K
    clear all
    refine q_then_n ?_
    refine awp_ret ?_
    refine q_then_r ?_
    simp [endQ]
    intro e; subst e; exact absurd rfl c1
  · try simp at c1
    refine awp_skip ?_
    refine q_then_n ?_
    refine awp_seq ?_
    refine awp_seq ?_
    refine awp_regionA (c := ⟨[], [], []⟩) (by simp only [lite_cons, lite_nil] <;> rfl) fun all hall K hK => ?_
    clear hall
    simp (maxSteps := 1000000) (disch := first | omega | assumption)
    repeat' refine And.intro ?_ ?_
    all_goals first | omega | exact rfl | skip
    refine hK _ ?_
    clear hK K
    clear all
    refine q_then_n ?_
    refine awp_block ?_
    refine awp_keep [0, 1, 4, 12, 13] (by simp only [keepL_nil, keepL_cons, envOf_sel, envOf_nil, sel_t, sel_f, Nat.reduceBEq] <;> rfl) ?_
    refine awp_loopE (fun (k : Nat) => [(13, .d (.int k))]) [4, 5, 13, 14, 15, 16, 17, 18, 19, 20, 21, 22, 23, 24, 25] (fun (k : Nat) => k ≤ a.length ∧ a.take k = b.take k) (fun (k : Nat) => a.length - k) (0) (by simp <;> rfl) ?_ ?_ ?_
    · simp
    · simp
    rintro k ⟨hk, hh⟩
    simp only [List.cons_append, List.nil_append]
    refine awp_seq ?_
    refine awp_regionA (c := ⟨[], [], []⟩) (by simp only [lite_cons, lite_nil] <;> rfl) fun all hall K hK => ?_
    clear hall
    simp (maxSteps := 1000000) (disch := first | omega | assumption)
    repeat' refine And.intro ?_ ?_
    all_goals first | omega | exact rfl | skip
    refine hK _ ?_
    clear hK K
    clear all
    refine q_then_n ?_
    refine awp_seq ?_
    refine awp_ifB (by simp <;> rfl) ?_
    refine ⟨fun c2 => ?_, fun c2 => ?_⟩
    · try simp at c2
      refine awp_skip ?_
      refine q_then_n ?_
      refine awp_seq ?_
      refine awp_block ?_
      refine awp_seq ?_
      refine awp_regionA (c := ⟨[], [], []⟩) (by simp only [lite_cons, lite_nil] <;> rfl) fun all hall K hK => ?_
      clear hall
      simp (maxSteps := 1000000) (disch := first | omega | assumption)
      repeat' refine And.intro ?_ ?_
      all_goals first | omega | exact rfl | skip
      refine hK _ ?_
      clear hK K
      clear all
      refine q_then_n ?_
      refine awp_seq ?_
      refine awp_drawA (c := ⟨[], [], []⟩) [.op ⟨false, false, false, false⟩, .op ⟨false, false, false, false⟩, .op ⟨false, false, false, false⟩, .op ⟨false, false, false, false⟩, .op ⟨false, false, false, false⟩, .op ⟨false, false, false, false⟩, .op ⟨false, false, false, false⟩, .op ⟨false, false, false, false⟩, .op ⟨false, false, false, false⟩] (by kernel_rfl) (by kernel_rfl) (by simp only [lite_cons, lite_nil] <;> rfl) fun all hall K hK => ?_
      clear hall
      refine vcDL_split 8 (by simp) fun K' hK' => ?_
      simp (maxSteps := 1000000) (disch := first | omega | assumption)
      repeat' refine And.intro ?_ ?_
      all_goals first | omega | exact rfl | skip
      refine hK' _ ?_
      clear hK' K'
      simp only [List.drop_succ_cons, List.drop_zero]
      simp (maxSteps := 1000000) (disch := first | omega | assumption)
      repeat' refine And.intro ?_ ?_
      all_goals first | omega | exact rfl | skip
      refine hK _ ?_
      clear hK K
      clear all
      refine q_then_n ?_
      refine awp_ifB (by simp <;> rfl) ?_
      refine ⟨fun c3 => ?_, fun c3 => ?_⟩
      · try simp at c3
        refine awp_seq ?_
        refine awp_keep [0, 1, 12, 13] (by simp only [keepL_nil, keepL_cons, envOf_sel, envOf_nil, sel_t, sel_f, Nat.reduceBEq] <;> rfl) ?_
        refine awp_regionA (c := ⟨[], [], []⟩) (by simp only [lite_cons, lite_nil] <;> rfl) fun all hall K hK => ?_
        clear hall
        simp (maxSteps := 1000000) (disch := first | omega | assumption)
        repeat' refine And.intro ?_ ?_
        all_goals first | omega | exact rfl | skip
        refine hK _ ?_
        clear hK K
        clear all
        refine q_then_n ?_
        refine awp_ret ?_
        refine q_block_r ?_
        refine q_then_r ?_
        refine q_loop_r ?_
        refine q_block_r ?_
        refine q_then_r ?_
        simp [endQ]
        intro e; subst e; exact c3 rfl
      · try simp at c3
        refine awp_skip ?_
        refine q_block_n ?_
        refine q_then_n ?_
        refine awp_keep [0, 1, 12, 13] (by simp only [keepL_nil, keepL_cons, envOf_sel, envOf_nil, sel_t, sel_f, Nat.reduceBEq] <;> rfl) ?_
        refine awp_regionA (c := ⟨[], [], []⟩) (by simp only [lite_cons, lite_nil] <;> rfl) fun all hall K hK => ?_
        clear hall
        simp (maxSteps := 1000000) (disch := first | omega | assumption)
        repeat' refine And.intro ?_ ?_
        all_goals first | omega | exact rfl | skip
        refine hK _ ?_
        clear hK K
        clear all
        refine q_round (k + 1) ?_ ?_ (weak_mkA rfl ?_ (by simp) (by simp))
        · exact ⟨by omega, by rw [take_snoc a k (by omega), take_snoc b k (by omega), hh]; simp [*]⟩
        · try dsimp only
          omega
        · simp (maxSteps := 1000000) (disch := first | omega | assumption)
    · try simp at c2
      refine awp_exit ?_
      refine q_then_e ?_
      refine q_loop_e ?_
      refine q_block_e ?_
      refine q_then_n ?_
      refine awp_seq ?_
      refine awp_regionA (c := ⟨[], [], []⟩) (by simp only [lite_cons, lite_nil] <;> rfl) fun all hall K hK => ?_
      clear hall
      simp (maxSteps := 1000000) (disch := first | omega | assumption)
      repeat' refine And.intro ?_ ?_
      all_goals first | omega | exact rfl | skip
      refine hK _ ?_
      clear hK K
      clear all
      refine q_then_n ?_
      refine awp_ret ?_
      simp [endQ]
      rwa [List.take_of_length_le (by omega), List.take_of_length_le (by omega)] at hh

def rows : List (List Int) := [[0, 1, 1], [0, 5, 4], [1, 2, 2], [2, 3, 3], [2, 4, 3], [3, 5, 4], [4, 6, 5], [5, 7, 6], [5, 8, 6], [6, 1, 1]]
def nextL : List (List Int) → Int → Int → Int
  | [], _, _ => -1
  | r :: l, s, h => if r[0]? = some s ∧ r[1]? = some h then (r[2]?).getD 0 else nextL l s h
def nextF (s h : Int) : Int := nextL rows s h
theorem rows_len (k : Nat) (h : k < rows.length) : rows[k].length = 3 := by
  have : ∀ r ∈ rows, r.length = 3 := by decide
  exact this _ (List.getElem_mem h)
theorem next_at (s h : Int) : ∀ (l : List (List Int)) (k : Nat) (hk : k < l.length) (h3 : l[k].length = 3), (∀ j (hj : j < k), ¬ ((l[j]'(by omega))[0]? = some s ∧ (l[j]'(by omega))[1]? = some h)) → l[k][0] = s → l[k][1] = h → nextL l s h = l[k][2]
  | r :: l, 0, _, h3, _, e1, e2 => by
    have h3' : r.length = 3 := h3
    have e1' : r[0]'(by omega) = s := e1
    have e2' : r[1]'(by omega) = h := e2
    show nextL (r :: l) s h = r[2]'(by omega)
    have : r[0]? = some s ∧ r[1]? = some h := ⟨by rw [List.getElem?_eq_getElem (by omega), e1'], by rw [List.getElem?_eq_getElem (by omega), e2']⟩
    rw [nextL, if_pos this, List.getElem?_eq_getElem (by omega)]; rfl
  | r :: l, k + 1, hk, h3, hn, e1, e2 => by
    simp only [List.getElem_cons_succ] at *
    have := hn 0 (by omega)
    simp only [List.getElem_cons_zero] at this
    rw [nextL, if_neg this]
    exact next_at s h l k (by simp at hk; omega) h3 (fun j hj => by have := hn (j + 1) (by omega); simpa using this) e1 e2
theorem next_no (s h : Int) : ∀ (l : List (List Int)), (∀ j (hj : j < l.length), ¬ (l[j][0]? = some s ∧ l[j][1]? = some h)) → nextL l s h = -1
  | [], _ => rfl
  | r :: l, hn => by
    have := hn 0 (by simp)
    simp only [List.getElem_cons_zero] at this
    rw [nextL, if_neg this]
    exact next_no s h l fun j hj => by have := hn (j + 1) (by simp; omega); simpa using this
def Not (s h : Int) (k : Nat) : Prop := ∀ j (hj : j < k) (hl : j < rows.length), ¬ (rows[j][0]? = some s ∧ rows[j][1]? = some h)
theorem Not.succ {s h : Int} {k : Nat} (hn : Not s h k) (hk : k < rows.length) (h3 : rows[k].length = 3) (h1 : ¬ (rows[k][0] = s ∧ rows[k][1] = h)) : Not s h (k + 1) := by
  intro j hj hl
  by_cases e : j = k
  · subst e
    rw [List.getElem?_eq_getElem (by omega), List.getElem?_eq_getElem (by omega)]
    simpa using h1
  · exact hn j (by omega) hl

-- scrim/scrimref19.Next
theorem next_fn (x y : Int) (σ : List (List D))  : Ct Try.prog 47 [D.int x, D.int y] σ (fun r σ' => r = .v (.int .i64 (nextF x y)) ∧ σ' = σ) := by
  refine fn_start (rs := [.tmp 4]) Try.func47 rfl rfl Try.ntmps47 Try.results47 (by simp) ?_
  simp only [argEnv]
  refine awp_seq ?_
  refine awp_regionA (c := ⟨[], [], []⟩) (by simp only [lite_cons, lite_nil] <;> rfl) fun all hall K hK => ?_
  clear hall
  simp (maxSteps := 1000000) (disch := first | omega | assumption)
  repeat' refine And.intro ?_ ?_
  all_goals first | omega | exact rfl | skip
  refine hK _ ?_
  clear hK K
  clear all
  refine q_then_n ?_
  refine awp_seq ?_
  refine awp_seq ?_
  refine awp_regionA (c := ⟨[], [], []⟩) (by simp only [lite_cons, lite_nil] <;> rfl) fun all hall K hK => ?_
  clear hall
  refine vcL_split 8 fun K' hK' => ?_
  simp (maxSteps := 1000000) (disch := first | omega | assumption)
  repeat' refine And.intro ?_ ?_
  all_goals first | omega | exact rfl | skip
  refine hK' _ ?_
  clear hK' K'
  simp only [List.drop_succ_cons, List.drop_zero]
  simp (maxSteps := 1000000) (disch := first | omega | assumption)
  repeat' refine And.intro ?_ ?_
  all_goals first | omega | exact rfl | skip
  refine hK _ ?_
  clear hK K
  clear all
  refine q_then_n ?_
  refine awp_block ?_
  refine awp_keep [0, 1, 4, 17, 18, 19] (by simp only [keepL_nil, keepL_cons, envOf_sel, envOf_nil, sel_t, sel_f, Nat.reduceBEq] <;> rfl) ?_
  refine awp_loopE (fun (k : Nat) => [(19, .d (.int k)), (17, .d (.sl false (rows.map fun r => .sl false (r.map D.int))))]) [4, 6, 17, 19, 20, 21, 22, 23, 24, 25, 26, 27, 28, 29, 30, 31, 32, 33, 34, 35, 36, 37, 38] (fun (k : Nat) => k ≤ 10 ∧ Not x y k) (fun (k : Nat) => 10 - k) (0) (by simp <;> rfl) ?_ ?_ ?_
  · simp [rows]
  · simp [Not]
  rintro k ⟨hk, hn⟩
  simp only [List.cons_append, List.nil_append]
  refine awp_seq ?_
  refine awp_regionA (c := ⟨[], [], []⟩) (by simp only [lite_cons, lite_nil] <;> rfl) fun all hall K hK => ?_
  clear hall
  simp (maxSteps := 1000000) (disch := first | omega | assumption)
  repeat' refine And.intro ?_ ?_
  all_goals first | omega | exact rfl | skip
  refine hK _ ?_
  clear hK K
  clear all
  refine q_then_n ?_
  refine awp_seq ?_
  refine awp_ifB (by simp <;> rfl) ?_
  refine ⟨fun c1 => ?_, fun c1 => ?_⟩
  · try simp at c1
    have hkl : k < rows.length := by show k < 10; omega
    have h3 := rows_len k hkl
    refine awp_skip ?_
    refine q_then_n ?_
    refine awp_seq ?_
    refine awp_block ?_
    refine awp_seq ?_
    refine awp_regionA (c := ⟨[], [], []⟩) (by simp only [lite_cons, lite_nil] <;> rfl) fun all hall K hK => ?_
    clear hall
    simp (maxSteps := 1000000) (disch := first | omega | assumption)
    repeat' refine And.intro ?_ ?_
    all_goals first | omega | exact rfl | skip
    refine hK _ ?_
    clear hK K
    clear all
    refine q_then_n ?_
    refine awp_seq ?_
    refine awp_keep [0, 1, 6, 17, 18, 19] (by simp only [keepL_nil, keepL_cons, envOf_sel, envOf_nil, sel_t, sel_f, Nat.reduceBEq] <;> rfl) ?_
    refine awp_regionA (c := ⟨[], [], []⟩) (by simp only [lite_cons, lite_nil] <;> rfl) fun all hall K hK => ?_
    have ga5 : guardOf all 5 = some 28 := hall 5
    clear hall
    refine vcL_split 6 fun K' hK' => ?_
    simp (maxSteps := 1000000) (disch := first | omega | assumption) [ga5]
    repeat' refine And.intro ?_ ?_
    all_goals first | omega | exact rfl | skip
    refine hK' _ ?_
    clear hK' K'
    simp only [List.drop_succ_cons, List.drop_zero]
    refine vcL_bool 28 (by simp <;> rfl) ?_
    refine ⟨fun g2 => ?_, fun g2 => ?_⟩
    · try simp at g2
      simp (maxSteps := 1000000) (disch := first | omega | assumption) [ga5]
      repeat' refine And.intro ?_ ?_
      all_goals first | omega | exact rfl | skip
      refine hK _ ?_
      clear hK K
      clear ga5
      clear all
      refine q_then_n ?_
      refine awp_ifB (by simp <;> rfl) ?_
      refine ⟨fun c3 => ?_, fun c3 => ?_⟩
      · try simp at c3
        refine awp_seq ?_
        refine awp_keep [0, 1, 6, 17, 18, 19] (by simp only [keepL_nil, keepL_cons, envOf_sel, envOf_nil, sel_t, sel_f, Nat.reduceBEq] <;> rfl) ?_
        refine awp_regionA (c := ⟨[], [], []⟩) (by simp only [lite_cons, lite_nil] <;> rfl) fun all hall K hK => ?_
        clear hall
        simp (maxSteps := 1000000) (disch := first | omega | assumption)
        repeat' refine And.intro ?_ ?_
        all_goals first | omega | exact rfl | skip
        refine hK _ ?_
        clear hK K
        clear all
        refine q_then_n ?_
        refine awp_ret ?_
        refine q_block_r ?_
        refine q_then_r ?_
        refine q_loop_r ?_
        refine q_block_r ?_
        refine q_then_r ?_
        simp [endQ]
        exact (next_at x y rows k hkl h3 (fun j hj => hn j hj (by omega)) g2 c3).symm
      · try simp at c3
        refine awp_skip ?_
        refine q_block_n ?_
        refine q_then_n ?_
        refine awp_keep [0, 1, 17, 18, 19] (by simp only [keepL_nil, keepL_cons, envOf_sel, envOf_nil, sel_t, sel_f, Nat.reduceBEq] <;> rfl) ?_
        refine awp_regionA (c := ⟨[], [], []⟩) (by simp only [lite_cons, lite_nil] <;> rfl) fun all hall K hK => ?_
        clear hall
        simp (maxSteps := 1000000) (disch := first | omega | assumption)
        repeat' refine And.intro ?_ ?_
        all_goals first | omega | exact rfl | skip
        refine hK _ ?_
        clear hK K
        clear all
        refine q_round (k + 1) ?_ ?_ (weak_mkA rfl ?_ (by simp) (by simp))
        · refine ⟨by omega, hn.succ (by show k < 10; omega) h3 ?_⟩
          simp [*]
        · try dsimp only
          omega
        · simp (maxSteps := 1000000) (disch := first | omega | assumption)
    · try simp at g2
      simp (maxSteps := 1000000) (disch := first | omega | assumption) [ga5]
      repeat' refine And.intro ?_ ?_
      all_goals first | omega | exact rfl | skip
      refine hK _ ?_
      clear hK K
      clear ga5
      clear all
      refine q_then_n ?_
      refine awp_cond (t := false) (by simp) (fun h => by cases h) (fun _ => ?_)
      refine awp_skip ?_
      refine q_block_n ?_
      refine q_then_n ?_
      refine awp_keep [0, 1, 17, 18, 19] (by simp only [keepL_nil, keepL_cons, envOf_sel, envOf_nil, sel_t, sel_f, Nat.reduceBEq] <;> rfl) ?_
      refine awp_regionA (c := ⟨[], [], []⟩) (by simp only [lite_cons, lite_nil] <;> rfl) fun all hall K hK => ?_
      clear hall
      simp (maxSteps := 1000000) (disch := first | omega | assumption)
      repeat' refine And.intro ?_ ?_
      all_goals first | omega | exact rfl | skip
      refine hK _ ?_
      clear hK K
      clear all
      refine q_round (k + 1) ?_ ?_ (weak_mkA rfl ?_ (by simp) (by simp))
      · refine ⟨by omega, hn.succ (by show k < 10; omega) h3 ?_⟩
        simp [*]
      · try dsimp only
        omega
      · simp (maxSteps := 1000000) (disch := first | omega | assumption)
  · try simp at c1
    refine awp_exit ?_
    refine q_then_e ?_
    refine q_loop_e ?_
    refine q_block_e ?_
    refine q_then_n ?_
    refine awp_seq ?_
    refine awp_regionA (c := ⟨[], [], []⟩) (by simp only [lite_cons, lite_nil] <;> rfl) fun all hall K hK => ?_
    clear hall
    simp (maxSteps := 1000000) (disch := first | omega | assumption)
    repeat' refine And.intro ?_ ?_
    all_goals first | omega | exact rfl | skip
    refine hK _ ?_
    clear hK K
    clear all
    refine q_then_n ?_
    refine awp_ret ?_
    simp [endQ]
    exact (next_no x y rows fun j hj => hn j (by simp [rows] at hj; omega) hj).symm

-- scrim/scrimlaw21.awake
theorem awake_fn  (σ : List (List D))  : Ct Try.prog 43 [] σ (fun r σ' => r = .bool true ∧ σ' = σ) := by
  refine fn_start (rs := [.tmp 0]) Try.func43 rfl rfl Try.ntmps43 Try.results43 (by simp) ?_
  simp only [argEnv]
  refine awp_seq ?_
  refine awp_regionA (c := ⟨[], [], []⟩) (by simp only [lite_cons, lite_nil] <;> rfl) fun all hall K hK => ?_
  clear hall
  simp (maxSteps := 1000000) (disch := first | omega | assumption)
  repeat' refine And.intro ?_ ?_
  all_goals first | omega | exact rfl | skip
  refine hK _ ?_
  clear hK K
  clear all
  refine q_then_n ?_
  refine awp_seq ?_
  refine awp_regionA (c := ⟨[], [], []⟩) (by simp only [lite_cons, lite_nil] <;> rfl) fun all hall K hK => ?_
  clear hall
  refine vcL_step fun K' hK' => ?_
  simp (maxSteps := 1000000) (disch := first | omega | assumption)
  refine Ct.mono (Ct.of_le (new_fn true _ ) (by first | exact leArgs_of rfl | (simp [leArgs, leArg]; done)) rfl) ?_
  rintro _ _ ⟨rfl, rfl⟩
  refine hK' _ ?_
  clear hK' K'
  refine vcL_step fun K' hK' => ?_
  simp (maxSteps := 1000000) (disch := first | omega | assumption)
  refine Ct.mono (Ct.of_le (enter_fn (new true) 5 false _ ) (by first | exact leArgs_of rfl | (simp [leArgs, leArg]; done)) rfl) ?_
  rintro _ _ ⟨rfl, rfl⟩
  refine hK' _ ?_
  clear hK' K'
  simp (maxSteps := 1000000) (disch := first | omega | assumption)
  repeat' refine And.intro ?_ ?_
  all_goals first | omega | exact rfl | skip
  refine hK _ ?_
  clear hK K
  clear all
  refine q_then_n ?_
  refine awp_seq ?_
  refine awp_regionA (c := ⟨[], [], []⟩) (by simp only [lite_cons, lite_nil] <;> rfl) fun all hall K hK => ?_
  clear hall
  refine vcL_split 2 fun K' hK' => ?_
  simp (maxSteps := 1000000) (disch := first | omega | assumption)
  repeat' refine And.intro ?_ ?_
  all_goals first | omega | exact rfl | skip
  refine hK' _ ?_
  clear hK' K'
  simp only [List.drop_succ_cons, List.drop_zero]
  refine vcL_step fun K' hK' => ?_
  simp (maxSteps := 1000000) (disch := first | omega | assumption)
  refine Ct.mono (Ct.of_le (leave_fn ((enter (new true) 5 false).state) 3 false _ ) (by first | exact leArgs_of rfl | (simp [leArgs, leArg]; done)) rfl) ?_
  rintro _ _ ⟨rfl, rfl⟩
  refine hK' _ ?_
  clear hK' K'
  simp (maxSteps := 1000000) (disch := first | omega | assumption)
  repeat' refine And.intro ?_ ?_
  all_goals first | omega | exact rfl | skip
  refine hK _ ?_
  clear hK K
  clear all
  refine q_then_n ?_
  refine awp_seq ?_
  refine awp_keep [0, 1, 2] (by simp only [keepL_nil, keepL_cons, envOf_sel, envOf_nil, sel_t, sel_f, Nat.reduceBEq] <;> rfl) ?_
  refine awp_regionA (c := ⟨[], [], []⟩) (by simp only [lite_cons, lite_nil] <;> rfl) fun all hall K hK => ?_
  have ga3 : guardOf all 3 = some 11 := hall 3
  have ga10 : guardOf all 10 = some 18 := hall 10
  have ga16 : guardOf all 16 = some 24 := hall 16
  have ga22 : guardOf all 22 = some 30 := hall 22
  have ga26 : guardOf all 26 = some 34 := hall 26
  clear hall
  refine vcL_split 4 fun K' hK' => ?_
  simp (maxSteps := 1000000) (disch := first | omega | assumption) [ga3, ga10, ga16, ga22, ga26]
  repeat' refine And.intro ?_ ?_
  all_goals first | omega | exact rfl | skip
  refine hK' _ ?_
  clear hK' K'
  simp only [List.drop_succ_cons, List.drop_zero]
  refine vcL_bool 11 (by simp <;> rfl) ?_
  refine ⟨fun g1 => ?_, fun g1 => ?_⟩
  · try simp at g1
    refine vcL_split 7 fun K' hK' => ?_
    simp (maxSteps := 1000000) (disch := first | omega | assumption) [ga3, ga10, ga16, ga22, ga26]
    repeat' refine And.intro ?_ ?_
    all_goals first | omega | exact rfl | skip
    refine hK' _ ?_
    clear hK' K'
    simp only [List.drop_succ_cons, List.drop_zero]
    refine vcL_bool 18 (by simp <;> rfl) ?_
    refine ⟨fun g2 => ?_, fun g2 => ?_⟩
    · try simp at g2
      refine vcL_split 3 fun K' hK' => ?_
      simp (maxSteps := 1000000) (disch := first | omega | assumption) [ga3, ga10, ga16, ga22, ga26]
      repeat' refine And.intro ?_ ?_
      all_goals first | omega | exact rfl | skip
      refine hK' _ ?_
      clear hK' K'
      simp only [List.drop_succ_cons, List.drop_zero]
      refine vcL_gt ga10 (by simp <;> rfl) rfl fun K' hK' => ?_
      simp (maxSteps := 1000000) (disch := first | omega | assumption) [ga3, ga10, ga16, ga22, ga26]
      refine Ct.mono (Ct.of_le (numbers_fn ((leave ((enter (new true) 5 false).state) 3 false).hooks) [4, 5, 6] _ (by first | assumption | omega | (simp [enter, leave, new, start, tell, stOut, unmove, outTo, outOver, broken, entering]; done) | (simp [enter, leave, new, start, tell, stOut, unmove, outTo, outOver, broken, entering]; omega)) (by first | assumption | omega | (simp [enter, leave, new, start, tell, stOut, unmove, outTo, outOver, broken, entering]; done) | (simp [enter, leave, new, start, tell, stOut, unmove, outTo, outOver, broken, entering]; omega))) (by first | exact leArgs_of rfl | (simp [leArgs, leArg]; done)) rfl) ?_
      rintro _ _ ⟨rfl, rfl⟩
      refine hK' _ ?_
      clear hK' K'
      refine vcL_split 2 fun K' hK' => ?_
      simp (maxSteps := 1000000) (disch := first | omega | assumption) [ga3, ga10, ga16, ga22, ga26]
      repeat' refine And.intro ?_ ?_
      all_goals first | omega | exact rfl | skip
      refine hK' _ ?_
      clear hK' K'
      simp only [List.drop_succ_cons, List.drop_zero]
      refine vcL_bool 24 (by simp <;> rfl) ?_
      refine ⟨fun g3 => ?_, fun g3 => ?_⟩
      · try simp at g3
        refine vcL_split 6 fun K' hK' => ?_
        simp (maxSteps := 1000000) (disch := first | omega | assumption) [ga3, ga10, ga16, ga22, ga26]
        repeat' refine And.intro ?_ ?_
        all_goals first | omega | exact rfl | skip
        refine hK' _ ?_
        clear hK' K'
        simp only [List.drop_succ_cons, List.drop_zero]
        refine vcL_bool 30 (by simp <;> rfl) ?_
        refine ⟨fun g4 => ?_, fun g4 => ?_⟩
        · try simp at g4
          refine vcL_split 4 fun K' hK' => ?_
          simp (maxSteps := 1000000) (disch := first | omega | assumption) [ga3, ga10, ga16, ga22, ga26]
          repeat' refine And.intro ?_ ?_
          all_goals first | omega | exact rfl | skip
          refine hK' _ ?_
          clear hK' K'
          simp only [List.drop_succ_cons, List.drop_zero]
          refine vcL_bool 34 (by simp <;> rfl) ?_
          refine ⟨fun g5 => ?_, fun g5 => ?_⟩
          · try simp at g5
            simp (maxSteps := 1000000) (disch := first | omega | assumption) [ga3, ga10, ga16, ga22, ga26]
            repeat' refine And.intro ?_ ?_
            all_goals first | omega | exact rfl | skip
            refine hK _ ?_
            clear hK K
            clear ga3 ga10 ga16 ga22 ga26
            clear all
            refine q_then_n ?_
            refine awp_ret ?_
            simp_all [endQ, enter, leave, new, start, tell, stOut, unmove, outTo, outOver, broken, entering]
          · try simp at g5
            simp (maxSteps := 1000000) (disch := first | omega | assumption) [ga3, ga10, ga16, ga22, ga26]
            repeat' refine And.intro ?_ ?_
            all_goals first | omega | exact rfl | skip
            refine hK _ ?_
            clear hK K
            clear ga3 ga10 ga16 ga22 ga26
            clear all
            refine q_then_n ?_
            refine awp_ret ?_
            simp_all [endQ, enter, leave, new, start, tell, stOut, unmove, outTo, outOver, broken, entering]
        · try simp at g4
          refine vcL_split 4 fun K' hK' => ?_
          simp (maxSteps := 1000000) (disch := first | omega | assumption) [ga3, ga10, ga16, ga22, ga26]
          repeat' refine And.intro ?_ ?_
          all_goals first | omega | exact rfl | skip
          refine hK' _ ?_
          clear hK' K'
          simp only [List.drop_succ_cons, List.drop_zero]
          simp (maxSteps := 1000000) (disch := first | omega | assumption) [ga3, ga10, ga16, ga22, ga26]
          repeat' refine And.intro ?_ ?_
          all_goals first | omega | exact rfl | skip
          refine hK _ ?_
          clear hK K
          clear ga3 ga10 ga16 ga22 ga26
          clear all
          refine q_then_n ?_
          refine awp_ret ?_
          simp_all [endQ, enter, leave, new, start, tell, stOut, unmove, outTo, outOver, broken, entering]
      · try simp at g3
        refine vcL_split 6 fun K' hK' => ?_
        simp (maxSteps := 1000000) (disch := first | omega | assumption) [ga3, ga10, ga16, ga22, ga26]
        repeat' refine And.intro ?_ ?_
        all_goals first | omega | exact rfl | skip
        refine hK' _ ?_
        clear hK' K'
        simp only [List.drop_succ_cons, List.drop_zero]
        refine vcL_split 4 fun K' hK' => ?_
        simp (maxSteps := 1000000) (disch := first | omega | assumption) [ga3, ga10, ga16, ga22, ga26]
        repeat' refine And.intro ?_ ?_
        all_goals first | omega | exact rfl | skip
        refine hK' _ ?_
        clear hK' K'
        simp only [List.drop_succ_cons, List.drop_zero]
        simp (maxSteps := 1000000) (disch := first | omega | assumption) [ga3, ga10, ga16, ga22, ga26]
        repeat' refine And.intro ?_ ?_
        all_goals first | omega | exact rfl | skip
        refine hK _ ?_
        clear hK K
        clear ga3 ga10 ga16 ga22 ga26
        clear all
        refine q_then_n ?_
        refine awp_ret ?_
        simp_all [endQ, enter, leave, new, start, tell, stOut, unmove, outTo, outOver, broken, entering]
    · try simp at g2
      refine vcL_split 6 fun K' hK' => ?_
      simp (maxSteps := 1000000) (disch := first | omega | assumption) [ga3, ga10, ga16, ga22, ga26]
      repeat' refine And.intro ?_ ?_
      all_goals first | omega | exact rfl | skip
      refine hK' _ ?_
      clear hK' K'
      simp only [List.drop_succ_cons, List.drop_zero]
      refine vcL_split 6 fun K' hK' => ?_
      simp (maxSteps := 1000000) (disch := first | omega | assumption) [ga3, ga10, ga16, ga22, ga26]
      repeat' refine And.intro ?_ ?_
      all_goals first | omega | exact rfl | skip
      refine hK' _ ?_
      clear hK' K'
      simp only [List.drop_succ_cons, List.drop_zero]
      refine vcL_split 4 fun K' hK' => ?_
      simp (maxSteps := 1000000) (disch := first | omega | assumption) [ga3, ga10, ga16, ga22, ga26]
      repeat' refine And.intro ?_ ?_
      all_goals first | omega | exact rfl | skip
      refine hK' _ ?_
      clear hK' K'
      simp only [List.drop_succ_cons, List.drop_zero]
      simp (maxSteps := 1000000) (disch := first | omega | assumption) [ga3, ga10, ga16, ga22, ga26]
      repeat' refine And.intro ?_ ?_
      all_goals first | omega | exact rfl | skip
      refine hK _ ?_
      clear hK K
      clear ga3 ga10 ga16 ga22 ga26
      clear all
      refine q_then_n ?_
      refine awp_ret ?_
      simp_all [endQ, enter, leave, new, start, tell, stOut, unmove, outTo, outOver, broken, entering]
  · try simp at g1
    refine vcL_split 7 fun K' hK' => ?_
    simp (maxSteps := 1000000) (disch := first | omega | assumption) [ga3, ga10, ga16, ga22, ga26]
    repeat' refine And.intro ?_ ?_
    all_goals first | omega | exact rfl | skip
    refine hK' _ ?_
    clear hK' K'
    simp only [List.drop_succ_cons, List.drop_zero]
    refine vcL_split 6 fun K' hK' => ?_
    simp (maxSteps := 1000000) (disch := first | omega | assumption) [ga3, ga10, ga16, ga22, ga26]
    repeat' refine And.intro ?_ ?_
    all_goals first | omega | exact rfl | skip
    refine hK' _ ?_
    clear hK' K'
    simp only [List.drop_succ_cons, List.drop_zero]
    refine vcL_split 6 fun K' hK' => ?_
    simp (maxSteps := 1000000) (disch := first | omega | assumption) [ga3, ga10, ga16, ga22, ga26]
    repeat' refine And.intro ?_ ?_
    all_goals first | omega | exact rfl | skip
    refine hK' _ ?_
    clear hK' K'
    simp only [List.drop_succ_cons, List.drop_zero]
    refine vcL_split 4 fun K' hK' => ?_
    simp (maxSteps := 1000000) (disch := first | omega | assumption) [ga3, ga10, ga16, ga22, ga26]
    repeat' refine And.intro ?_ ?_
    all_goals first | omega | exact rfl | skip
    refine hK' _ ?_
    clear hK' K'
    simp only [List.drop_succ_cons, List.drop_zero]
    simp (maxSteps := 1000000) (disch := first | omega | assumption) [ga3, ga10, ga16, ga22, ga26]
    repeat' refine And.intro ?_ ?_
    all_goals first | omega | exact rfl | skip
    refine hK _ ?_
    clear hK K
    clear ga3 ga10 ga16 ga22 ga26
    clear all
    refine q_then_n ?_
    refine awp_ret ?_
    simp_all [endQ, enter, leave, new, start, tell, stOut, unmove, outTo, outOver, broken, entering]

end Go.Proofs.Ythieajadepfeoaa

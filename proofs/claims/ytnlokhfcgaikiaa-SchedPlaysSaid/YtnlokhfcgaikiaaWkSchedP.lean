/- Walks: contracts of functions. Written by a program of ours out of annotations. -/
import Derived.Test.YtnlokhfcgaikiaaWkSched5
namespace Go.Proofs.Ytnlokhfcgaikiaa
open Go Go.Vm
set_option maxRecDepth 20000
set_option linter.all false
set_option maxHeartbeats 8000000

theorem SR.spend {k : Nat} {s : SS} {x : RS} (h : SR k s x) (xs : List Tm) : spend s xs = pall x.queue.l xs := by unfold Ytnlokhfcgaikiaa.spend; rw [h.i.l]
theorem pall_q {a : List Wt} {b : List Tm} {k : Nat} (hk : k < a.length) (h : k < (pall a b).length) : (pall a b)[k] = pw a[k] := by
  simp only [pall]
  rw [List.getElem_append_left (by rw [pws_len]; exact hk)]
  simp [pws]
theorem pall_t {a : List Wt} {b : List Tm} {k : Nat} (hk : k < b.length) (h : a.length + k < (pall a b).length) : (pall a b)[a.length + k] = pt b[k] := by
  simp only [pall]
  rw [List.getElem_append_right (by rw [pws_len]; omega)]
  simp [pws, pts]
theorem pall_t2 {a : List Wt} {b : List Tm} {k : Nat} (hk : k < b.length) (h : ((a.length : Int) + (k : Int)).toNat < (pall a b).length) : (pall a b)[((a.length : Int) + (k : Int)).toNat] = pt b[k] := by
  have e : ((a.length : Int) + (k : Int)).toNat = a.length + k := by omega
  simp only [e]
  exact pall_t hk _
structure PSt2 where
  k : Nat
  s : SS
  x : RS

-- scrim/scrimlaw18.Is
theorem sis_fn (S w m M q : Nat) (s : SS) (x : RS) (n : Nat) (σ : List (List D)) (ho : SO S w m M q s σ) (hs : SOk s) (hr : SR n s x) (hn : n ≤ 1000) : Ct Try.prog 28 [.ref S 0, d_RS x] σ (fun r σ' => r = .bool true ∧ σ' = σ) := by
  refine fn_start (rs := [.tmp 4]) Try.func28 rfl rfl Try.ntmps28 Try.results28 (by simp) ?_
  simp only [argEnv]
  have hrk := hr.ok hn
  have hxl := hr.len
  have hxn := hr.now
  have h1 := hrk.h1
  have h3 := hrk.h3
  have hpl : (pall x.queue.l x.wheel.l).length = x.queue.l.length + x.wheel.l.length := pall_len _ _
  have hrl : rslen x = x.wheel.l.length + x.queue.l.length := rfl
  refine awp_seq ?_
  refine awp_regionA (c := ⟨[], [3], [], [], []⟩) (by simp only [lite_cons, lite_nil] <;> rfl) fun all hall K hK => ?_
  clear hall
  simp (maxSteps := 1000000) (disch := first | omega | assumption) [pall_len]
  repeat' refine And.intro ?_ ?_
  all_goals first | omega | exact rfl | skip
  refine hK _ ?_
  clear hK K
  clear all
  refine q_then_n ?_
  refine awp_seq ?_
  refine awp_regionA (c := ⟨[], [3], [], [], []⟩) (by simp only [lite_cons, lite_nil] <;> rfl) fun all hall K hK => ?_
  clear hall
  refine vcL_split 1 fun K' hK' => ?_
  simp (maxSteps := 1000000) (disch := first | omega | assumption) [pall_len]
  repeat' refine And.intro ?_ ?_
  all_goals first | omega | exact rfl | skip
  refine hK' _ ?_
  clear hK' K'
  simp only [List.drop_succ_cons, List.drop_zero]
  refine vcL_step fun K' hK' => ?_
  simp (maxSteps := 1000000) (disch := first | omega | assumption) [pall_len]
  refine Ct.mono (Ct.of_le (slist_fn S w m M q s x.wheel.l _ ho hs hr.p.hp hr.p.so) (by first | exact leArgs_of rfl | (refine leArgs_of ?_; simp; done) | (refine leArgs_of ?_; simp; rfl) | (simp [leArgs, leArg]; done)) rfl) ?_
  rintro _ _ ⟨hr9, hs9⟩
  subst hr9
  replace hs9 := hs9.symm
  subst hs9
  rw [hr.spend]
  refine hK' _ ?_
  clear hK' K'
  simp (maxSteps := 1000000) (disch := first | omega | assumption) [pall_len]
  repeat' refine And.intro ?_ ?_
  all_goals first | omega | exact rfl | skip
  refine hK _ ?_
  clear hK K
  clear all
  refine q_then_n ?_
  refine awp_seq ?_
  refine awp_seq ?_
  refine awp_keep [0, 3, 4, 5] (by simp only [keepL_nil, keepL_cons, envOf_sel, envOf_nil, sel_t, sel_f, Nat.reduceBEq] <;> rfl) ?_
  refine awp_drawA (c := ⟨[], [3], [], [], []⟩) [.op ⟨false, false, false, false⟩, .read, .op ⟨false, false, false, false⟩, .op ⟨false, false, false, false⟩, .op ⟨false, false, false, false⟩, .op ⟨false, false, false, false⟩, .op ⟨false, false, false, false⟩, .read, .op ⟨false, false, false, false⟩, .pure, .op ⟨false, false, false, false⟩, .op ⟨false, false, false, false⟩, .op ⟨false, false, false, false⟩, .op ⟨false, false, false, false⟩, .op ⟨false, false, false, false⟩, .op ⟨false, false, false, false⟩, .pure, .op ⟨false, false, false, false⟩, .op ⟨false, false, false, false⟩] (by kernel_rfl) (by kernel_rfl) (by simp only [lite_cons, lite_nil] <;> rfl) fun all hall K hK => ?_
  have ga5 : guardOf all 5 = some 18 := hall 5
  have ga12 : guardOf all 12 = some 25 := hall 12
  clear hall
  refine vcDL_split 1 (by simp) fun K' hK' => ?_
  simp (maxSteps := 1000000) (disch := first | omega | assumption) [pall_len, ga5, ga12]
  repeat' refine And.intro ?_ ?_
  all_goals first | omega | exact rfl | skip
  refine hK' _ ?_
  clear hK' K'
  simp only [List.drop_succ_cons, List.drop_zero]
  refine vcDL_step fun K' hK' => ?_
  simp (maxSteps := 1000000) (disch := first | omega | assumption) [pall_len, ga5, ga12]
  refine ⟨_, Ct.of_le (snow_fn S w m M q s _ ho hs) (by first | exact leArgs_of rfl | (refine leArgs_of ?_; simp; done) | (refine leArgs_of ?_; simp; rfl) | (simp [leArgs, leArg]; done)) rfl, ?_⟩
  refine hK' _ ?_
  clear hK' K'
  refine vcDL_split 4 (by simp) fun K' hK' => ?_
  simp (maxSteps := 1000000) (disch := first | omega | assumption) [pall_len, ga5, ga12]
  repeat' refine And.intro ?_ ?_
  all_goals first | omega | exact rfl | skip
  refine hK' _ ?_
  clear hK' K'
  simp only [List.drop_succ_cons, List.drop_zero]
  refine vcDL_bool 18 (by simp <;> rfl) ?_
  refine ⟨fun g1 => ?_, fun g1 => ?_⟩
  · try simp at g1
    exfalso; omega
  · try simp at g1
    refine vcDL_split 1 (by simp) fun K' hK' => ?_
    simp (maxSteps := 1000000) (disch := first | omega | assumption) [pall_len, ga5, ga12]
    repeat' refine And.intro ?_ ?_
    all_goals first | omega | exact rfl | skip
    refine hK' _ ?_
    clear hK' K'
    simp only [List.drop_succ_cons, List.drop_zero]
    refine vcDL_gt ga5 (by simp <;> rfl) rfl fun K' hK' => ?_
    simp (maxSteps := 1000000) (disch := first | omega | assumption) [pall_len, ga5, ga12]
    refine ⟨_, Ct.of_le (slen_fn S w m M q s _ ho hs) (by first | exact leArgs_of rfl | (refine leArgs_of ?_; simp; done) | (refine leArgs_of ?_; simp; rfl) | (simp [leArgs, leArg]; done)) rfl, ?_⟩
    refine hK' _ ?_
    clear hK' K'
    refine vcDL_split 1 (by simp) fun K' hK' => ?_
    simp (maxSteps := 1000000) (disch := first | omega | assumption) [pall_len, ga5, ga12]
    repeat' refine And.intro ?_ ?_
    all_goals first | omega | exact rfl | skip
    refine hK' _ ?_
    clear hK' K'
    simp only [List.drop_succ_cons, List.drop_zero]
    refine vcDL_gt ga5 (by simp <;> rfl) rfl fun K' hK' => ?_
    simp (maxSteps := 1000000) (disch := first | omega | assumption) [pall_len, ga5, ga12]
    refine ⟨_, fun σ => Ct.of_le (rslen_fn x _ hrk) (by first | exact leArgs_of rfl | (refine leArgs_of ?_; simp; done) | (refine leArgs_of ?_; simp; rfl) | (simp [leArgs, leArg]; done)) rfl, ?_⟩
    refine hK' _ ?_
    clear hK' K'
    refine vcDL_split 3 (by simp) fun K' hK' => ?_
    simp (maxSteps := 1000000) (disch := first | omega | assumption) [pall_len, ga5, ga12]
    repeat' refine And.intro ?_ ?_
    all_goals first | omega | exact rfl | skip
    refine hK' _ ?_
    clear hK' K'
    simp only [List.drop_succ_cons, List.drop_zero]
    refine vcDL_bool 25 (by simp <;> rfl) ?_
    refine ⟨fun g2 => ?_, fun g2 => ?_⟩
    · try simp at g2
      exfalso; omega
    · try simp at g2
      refine vcDL_split 3 (by simp) fun K' hK' => ?_
      simp (maxSteps := 1000000) (disch := first | omega | assumption) [pall_len, ga5, ga12]
      repeat' refine And.intro ?_ ?_
      all_goals first | omega | exact rfl | skip
      refine hK' _ ?_
      clear hK' K'
      simp only [List.drop_succ_cons, List.drop_zero]
      refine vcDL_gt ga12 (by simp <;> rfl) rfl fun K' hK' => ?_
      simp (maxSteps := 1000000) (disch := first | omega | assumption) [pall_len, ga5, ga12]
      refine ⟨_, fun σ => Ct.of_le (rslen_fn x _ hrk) (by first | exact leArgs_of rfl | (refine leArgs_of ?_; simp; done) | (refine leArgs_of ?_; simp; rfl) | (simp [leArgs, leArg]; done)) rfl, ?_⟩
      refine hK' _ ?_
      clear hK' K'
      simp (maxSteps := 1000000) (disch := first | omega | assumption) [pall_len, ga5, ga12]
      repeat' refine And.intro ?_ ?_
      all_goals first | omega | exact rfl | skip
      refine hK _ ?_
      clear hK K
      clear ga5 ga12
      clear all
      refine q_then_n ?_
      refine awp_ifB (by simp <;> rfl) ?_
      refine ⟨fun c3 => ?_, fun c3 => ?_⟩
      · try simp at c3
        exfalso; omega
      · try simp at c3
        refine awp_skip ?_
        refine q_then_n ?_
        refine awp_seq ?_
        refine awp_seq ?_
        refine awp_keep [3, 4, 5] (by simp only [keepL_nil, keepL_cons, envOf_sel, envOf_nil, sel_t, sel_f, Nat.reduceBEq] <;> rfl) ?_
        refine awp_regionA (c := ⟨[], [3], [], [], []⟩) (by simp only [lite_cons, lite_nil] <;> rfl) fun all hall K hK => ?_
        clear hall
        simp (maxSteps := 1000000) (disch := first | omega | assumption) [pall_len]
        repeat' refine And.intro ?_ ?_
        all_goals first | omega | exact rfl | skip
        refine hK _ ?_
        clear hK K
        clear all
        refine q_then_n ?_
        refine awp_block ?_
        refine awp_keep [3, 4, 5, 34, 35, 36] (by simp only [keepL_nil, keepL_cons, envOf_sel, envOf_nil, sel_t, sel_f, Nat.reduceBEq] <;> rfl) ?_
        refine awp_loopE (fun (k : Nat) => [(36, .d (.v (.int .i64 (k : Int)))), (6, .d (.any))]) [4, 6, 7, 36, 37, 38, 39, 40, 41, 42, 43, 44, 45, 46, 47, 48, 49, 50, 51, 52, 53, 54] (fun (k : Nat) => k ≤ x.queue.l.length) (fun (k : Nat) => x.queue.l.length - k) (0) (by simp <;> rfl) ?_ ?_ ?_
        · simp
        · simp
        rintro k hk
        simp only [List.cons_append, List.nil_append]
        refine awp_seq ?_
        refine awp_regionA (c := ⟨[], [3], [], [], []⟩) (by simp only [lite_cons, lite_nil] <;> rfl) fun all hall K hK => ?_
        clear hall
        simp (maxSteps := 1000000) (disch := first | omega | assumption) [pall_len]
        repeat' refine And.intro ?_ ?_
        all_goals first | omega | exact rfl | skip
        refine hK _ ?_
        clear hK K
        clear all
        refine q_then_n ?_
        refine awp_seq ?_
        refine awp_ifB (by simp <;> rfl) ?_
        refine ⟨fun c4 => ?_, fun c4 => ?_⟩
        · try simp at c4
          refine awp_skip ?_
          refine q_then_n ?_
          refine awp_seq ?_
          refine awp_block ?_
          refine awp_seq ?_
          refine awp_regionA (c := ⟨[], [3], [], [], []⟩) (by simp only [lite_cons, lite_nil] <;> rfl) fun all hall K hK => ?_
          clear hall
          simp (maxSteps := 1000000) (disch := first | omega | assumption) [pall_len]
          repeat' refine And.intro ?_ ?_
          all_goals first | omega | exact rfl | skip
          refine hK _ ?_
          clear hK K
          clear all
          refine q_then_n ?_
          refine awp_seq ?_
          refine awp_keep [3, 5, 6, 7, 34, 35, 36] (by simp only [keepL_nil, keepL_cons, envOf_sel, envOf_nil, sel_t, sel_f, Nat.reduceBEq] <;> rfl) ?_
          refine awp_drawA (c := ⟨[], [3], [], [], []⟩) [.op ⟨false, false, false, false⟩, .op ⟨false, false, false, false⟩, .op ⟨false, false, false, false⟩, .op ⟨false, false, false, false⟩, .op ⟨false, false, false, false⟩, .op ⟨true, false, false, false⟩, .op ⟨false, false, false, false⟩, .op ⟨false, false, false, false⟩, .op ⟨true, false, false, false⟩, .op ⟨false, false, false, false⟩, .op ⟨true, false, false, false⟩, .op ⟨false, false, false, false⟩, .op ⟨false, false, false, false⟩] (by kernel_rfl) (by kernel_rfl) (by simp only [lite_cons, lite_nil] <;> rfl) fun all hall K hK => ?_
          clear hall
          refine vcDL_split 8 (by simp) fun K' hK' => ?_
          simp (maxSteps := 1000000) (disch := first | omega | assumption) [pall_len]
          repeat' refine And.intro ?_ ?_
          all_goals first | omega | exact rfl | skip
          refine hK' _ ?_
          clear hK' K'
          simp only [List.drop_succ_cons, List.drop_zero]
          simp (maxSteps := 1000000) (disch := first | omega | assumption) [pall_len]
          repeat' refine And.intro ?_ ?_
          all_goals first | omega | exact rfl | skip
          refine hK _ ?_
          clear hK K
          clear all
          refine q_then_n ?_
          refine awp_ifB (by simp <;> rfl) ?_
          refine ⟨fun c5 => ?_, fun c5 => ?_⟩
          · try simp at c5
            rw [pall_q c4] at c5
            simp [pw] at c5
          · try simp at c5
            refine awp_skip ?_
            refine q_block_n ?_
            refine q_then_n ?_
            refine awp_keep [3, 5, 6, 34, 35, 36] (by simp only [keepL_nil, keepL_cons, envOf_sel, envOf_nil, sel_t, sel_f, Nat.reduceBEq] <;> rfl) ?_
            refine awp_regionA (c := ⟨[], [3], [], [], []⟩) (by simp only [lite_cons, lite_nil] <;> rfl) fun all hall K hK => ?_
            clear hall
            simp (maxSteps := 1000000) (disch := first | omega | assumption) [pall_len]
            repeat' refine And.intro ?_ ?_
            all_goals first | omega | exact rfl | skip
            refine hK _ ?_
            clear hK K
            clear all
            refine q_round (k + 1) ?_ ?_ (weak_mkA rfl ?_ (by simp) (by simp))
            · omega
            · try dsimp only
              omega
            · simp (maxSteps := 1000000) (disch := first | omega | assumption) [pall_len]
        · try simp at c4
          refine awp_exit ?_
          refine q_then_e ?_
          refine q_loop_e ?_
          refine q_block_e ?_
          refine q_then_n ?_
          refine awp_seq ?_
          refine awp_regionA (c := ⟨[], [3], [], [], []⟩) (by simp only [lite_cons, lite_nil] <;> rfl) fun all hall K hK => ?_
          clear hall
          simp (maxSteps := 1000000) (disch := first | omega | assumption) [pall_len]
          repeat' refine And.intro ?_ ?_
          all_goals first | omega | exact rfl | skip
          refine hK _ ?_
          clear hK K
          clear all
          refine q_then_n ?_
          refine awp_seq ?_
          refine awp_seq ?_
          refine awp_keep [3, 5, 8] (by simp only [keepL_nil, keepL_cons, envOf_sel, envOf_nil, sel_t, sel_f, Nat.reduceBEq] <;> rfl) ?_
          refine awp_regionA (c := ⟨[], [3], [], [], []⟩) (by simp only [lite_cons, lite_nil] <;> rfl) fun all hall K hK => ?_
          clear hall
          simp (maxSteps := 1000000) (disch := first | omega | assumption) [pall_len]
          repeat' refine And.intro ?_ ?_
          all_goals first | omega | exact rfl | skip
          refine hK _ ?_
          clear hK K
          clear all
          refine q_then_n ?_
          refine awp_block ?_
          refine awp_keep [5, 8, 61, 62, 63] (by simp only [keepL_nil, keepL_cons, envOf_sel, envOf_nil, sel_t, sel_f, Nat.reduceBEq] <;> rfl) ?_
          refine awp_loopE (fun (k : Nat) => [(63, .d (.v (.int .i64 (k : Int)))), (9, .d (.any))]) [4, 9, 10, 63, 64, 65, 66, 67, 68, 69, 70, 71, 72, 73, 74, 75, 76, 77, 78, 79, 80, 81, 82, 83] (fun (k : Nat) => k ≤ x.wheel.l.length) (fun (k : Nat) => x.wheel.l.length - k) (0) (by simp <;> rfl) ?_ ?_ ?_
          · simp
          · simp
          rintro k hk
          simp only [List.cons_append, List.nil_append]
          refine awp_seq ?_
          refine awp_regionA (c := ⟨[], [3], [], [], []⟩) (by simp only [lite_cons, lite_nil] <;> rfl) fun all hall K hK => ?_
          clear hall
          simp (maxSteps := 1000000) (disch := first | omega | assumption) [pall_len]
          repeat' refine And.intro ?_ ?_
          all_goals first | omega | exact rfl | skip
          refine hK _ ?_
          clear hK K
          clear all
          refine q_then_n ?_
          refine awp_seq ?_
          refine awp_ifB (by simp <;> rfl) ?_
          refine ⟨fun c6 => ?_, fun c6 => ?_⟩
          · try simp at c6
            refine awp_skip ?_
            refine q_then_n ?_
            refine awp_seq ?_
            refine awp_block ?_
            refine awp_seq ?_
            refine awp_regionA (c := ⟨[], [3], [], [], []⟩) (by simp only [lite_cons, lite_nil] <;> rfl) fun all hall K hK => ?_
            clear hall
            simp (maxSteps := 1000000) (disch := first | omega | assumption) [pall_len]
            repeat' refine And.intro ?_ ?_
            all_goals first | omega | exact rfl | skip
            refine hK _ ?_
            clear hK K
            clear all
            refine q_then_n ?_
            refine awp_seq ?_
            refine awp_keep [5, 8, 9, 10, 61, 62, 63] (by simp only [keepL_nil, keepL_cons, envOf_sel, envOf_nil, sel_t, sel_f, Nat.reduceBEq] <;> rfl) ?_
            refine awp_drawA (c := ⟨[], [3], [], [], []⟩) [.op ⟨false, false, false, false⟩, .op ⟨false, false, false, false⟩, .op ⟨false, false, false, false⟩, .op ⟨false, false, false, false⟩, .op ⟨false, false, false, false⟩, .op ⟨false, false, false, false⟩, .op ⟨false, false, false, false⟩, .op ⟨true, false, false, false⟩, .op ⟨false, false, false, false⟩, .op ⟨false, false, false, false⟩, .op ⟨true, false, false, false⟩, .op ⟨false, false, false, false⟩, .op ⟨true, false, false, false⟩, .op ⟨false, false, false, false⟩, .op ⟨false, false, false, false⟩] (by kernel_rfl) (by kernel_rfl) (by simp only [lite_cons, lite_nil] <;> rfl) fun all hall K hK => ?_
            clear hall
            refine vcDL_split 8 (by simp) fun K' hK' => ?_
            simp (maxSteps := 1000000) (disch := first | omega | assumption) [pall_len]
            repeat' refine And.intro ?_ ?_
            all_goals first | omega | exact rfl | skip
            refine hK' _ ?_
            clear hK' K'
            simp only [List.drop_succ_cons, List.drop_zero]
            simp (maxSteps := 1000000) (disch := first | omega | assumption) [pall_len]
            repeat' refine And.intro ?_ ?_
            all_goals first | omega | exact rfl | skip
            refine hK _ ?_
            clear hK K
            clear all
            refine q_then_n ?_
            refine awp_ifB (by simp <;> rfl) ?_
            refine ⟨fun c7 => ?_, fun c7 => ?_⟩
            · try simp at c7
              rw [pall_t2 c6] at c7
              simp [pt] at c7
            · try simp at c7
              refine awp_skip ?_
              refine q_block_n ?_
              refine q_then_n ?_
              refine awp_keep [5, 8, 9, 61, 62, 63] (by simp only [keepL_nil, keepL_cons, envOf_sel, envOf_nil, sel_t, sel_f, Nat.reduceBEq] <;> rfl) ?_
              refine awp_regionA (c := ⟨[], [3], [], [], []⟩) (by simp only [lite_cons, lite_nil] <;> rfl) fun all hall K hK => ?_
              clear hall
              simp (maxSteps := 1000000) (disch := first | omega | assumption) [pall_len]
              repeat' refine And.intro ?_ ?_
              all_goals first | omega | exact rfl | skip
              refine hK _ ?_
              clear hK K
              clear all
              refine q_round (k + 1) ?_ ?_ (weak_mkA rfl ?_ (by simp) (by simp))
              · omega
              · try dsimp only
                omega
              · simp (maxSteps := 1000000) (disch := first | omega | assumption) [pall_len]
          · try simp at c6
            refine awp_exit ?_
            refine q_then_e ?_
            refine q_loop_e ?_
            refine q_block_e ?_
            refine q_then_n ?_
            refine awp_seq ?_
            refine awp_regionA (c := ⟨[], [3], [], [], []⟩) (by simp only [lite_cons, lite_nil] <;> rfl) fun all hall K hK => ?_
            clear hall
            simp (maxSteps := 1000000) (disch := first | omega | assumption) [pall_len]
            repeat' refine And.intro ?_ ?_
            all_goals first | omega | exact rfl | skip
            refine hK _ ?_
            clear hK K
            clear all
            refine q_then_n ?_
            refine awp_ret ?_
            simp [endQ]

-- scrim/scrimlaw18.SchedPlays
theorem schedPlays_fn (most : Int) (acts : List SAct) (σ : List (List D)) (hl : acts.length ≤ 9223372036854775807) : Ct Try.prog 7 [D.int most, .sl false (acts.map d_SAct)] σ (fun r σ' => r = .bool true) := by
  refine fn_start (rs := [.tmp 4]) Try.func7 rfl rfl Try.ntmps7 Try.results7 (by simp) ?_
  simp only [argEnv]
  refine awp_seq ?_
  refine awp_regionA (c := ⟨[], [], [6], [], []⟩) (by simp only [lite_cons, lite_nil] <;> rfl) fun all hall K hK => ?_
  clear hall
  simp (maxSteps := 1000000) (disch := first | omega | assumption) [og_at, og_put, og_at0, og_put0, sput]
  repeat' refine And.intro ?_ ?_
  all_goals first | omega | exact rfl | skip
  refine hK _ ?_
  clear hK K
  clear all
  refine q_then_n ?_
  refine awp_seq ?_
  refine awp_seq ?_
  refine awp_regionA (c := ⟨[], [], [6], [], []⟩) (by simp only [lite_cons, lite_nil] <;> rfl) fun all hall K hK => ?_
  clear hall
  refine vcL_step fun K' hK' => ?_
  simp (maxSteps := 1000000) (disch := first | omega | assumption) [og_at, og_put, og_at0, og_put0, sput]
  refine Ct.mono (Ct.of_le (swake_fn _) (by first | exact leArgs_of rfl | (refine leArgs_of ?_; simp; done) | (refine leArgs_of ?_; simp; rfl) | (simp [leArgs, leArg]; done)) rfl) ?_
  rintro _ _ ⟨hr9, hs9⟩
  subst hr9
  replace hs9 := hs9.symm
  subst hs9
  refine hK' _ ?_
  clear hK' K'
  simp (maxSteps := 1000000) (disch := first | omega | assumption) [og_at, og_put, og_at0, og_put0, sput]
  repeat' refine And.intro ?_ ?_
  all_goals first | omega | exact rfl | skip
  refine hK _ ?_
  clear hK K
  clear all
  refine q_then_n ?_
  refine awp_ifB (by simp <;> rfl) ?_
  refine ⟨fun c1 => ?_, fun c1 => ?_⟩
  · simp at c1
  · try simp at c1
    refine awp_skip ?_
    refine q_then_n ?_
    refine awp_seq ?_
    refine awp_regionA (c := ⟨[], [], [6], [], []⟩) (by simp only [lite_cons, lite_nil] <;> rfl) fun all hall K hK => ?_
    clear hall
    refine vcL_split 1 fun K' hK' => ?_
    simp (maxSteps := 1000000) (disch := first | omega | assumption) [og_at, og_put, og_at0, og_put0, sput]
    repeat' refine And.intro ?_ ?_
    all_goals first | omega | exact rfl | skip
    refine hK' _ ?_
    clear hK' K'
    simp only [List.drop_succ_cons, List.drop_zero]
    refine vcL_step fun K' hK' => ?_
    simp (maxSteps := 1000000) (disch := first | omega | assumption) [og_at, og_put, og_at0, og_put0, sput]
    refine Ct.mono (Ct.of_le (snew_fn most _) (by first | exact leArgs_of rfl | (refine leArgs_of ?_; simp; done) | (refine leArgs_of ?_; simp; rfl) | (simp [leArgs, leArg]; done)) rfl) ?_
    rintro _ _ ⟨hr9, hs9⟩
    subst hr9
    replace hs9 := hs9.symm
    subst hs9
    refine hK' _ ?_
    clear hK' K'
    refine vcL_split 1 fun K' hK' => ?_
    simp (maxSteps := 1000000) (disch := first | omega | assumption) [og_at, og_put, og_at0, og_put0, sput]
    repeat' refine And.intro ?_ ?_
    all_goals first | omega | exact rfl | skip
    refine hK' _ ?_
    clear hK' K'
    simp only [List.drop_succ_cons, List.drop_zero]
    refine vcL_step fun K' hK' => ?_
    simp (maxSteps := 1000000) (disch := first | omega | assumption) [og_at, og_put, og_at0, og_put0, sput]
    refine Ct.mono (Ct.of_le (rsnew0_fn most _) (by first | exact leArgs_of rfl | (refine leArgs_of ?_; simp; done) | (refine leArgs_of ?_; simp; rfl) | (simp [leArgs, leArg]; done)) rfl) ?_
    rintro _ _ ⟨hr9, hs9⟩
    subst hr9
    replace hs9 := hs9.symm
    subst hs9
    refine hK' _ ?_
    clear hK' K'
    simp (maxSteps := 1000000) (disch := first | omega | assumption) [og_at, og_put, og_at0, og_put0, sput]
    repeat' refine And.intro ?_ ?_
    all_goals first | omega | exact rfl | skip
    refine hK _ ?_
    clear hK K
    clear all
    refine q_then_n ?_
    refine awp_seq ?_
    refine awp_seq ?_
    refine awp_regionA (c := ⟨[], [], [6], [], []⟩) (by simp only [lite_cons, lite_nil] <;> rfl) fun all hall K hK => ?_
    clear hall
    simp (maxSteps := 1000000) (disch := first | omega | assumption) [og_at, og_put, og_at0, og_put0, sput]
    repeat' refine And.intro ?_ ?_
    all_goals first | omega | exact rfl | skip
    refine hK _ ?_
    clear hK K
    clear all
    refine q_then_n ?_
    refine awp_ifB (by simp <;> rfl) ?_
    refine ⟨fun c2 => ?_, fun c2 => ?_⟩
    · simp at c2
    · try simp at c2
      refine awp_skip ?_
      refine q_then_n ?_
      refine awp_seq ?_
      refine awp_seq ?_
      refine awp_regionA (c := ⟨[], [], [6], [], []⟩) (by simp only [lite_cons, lite_nil] <;> rfl) fun all hall K hK => ?_
      clear hall
      simp (maxSteps := 1000000) (disch := first | omega | assumption) [og_at, og_put, og_at0, og_put0, sput]
      repeat' refine And.intro ?_ ?_
      all_goals first | omega | exact rfl | skip
      refine hK _ ?_
      clear hK K
      clear all
      refine q_then_n ?_
      refine awp_block ?_
      refine awp_keep [1, 4, 5, 6, 7] (by simp only [keepL_nil, keepL_cons, envOf_sel, envOf_nil, sel_t, sel_f, Nat.reduceBEq] <;> rfl) ?_
      refine awp_loopM (fun (s : PSt2) => [(7, .d (.int s.k))]) (fun (s : PSt2) => []) (fun (s : PSt2) => [(σ.length + 1, dhp σ.length s.s.t.h), (σ.length + 2, dwh (σ.length + 1) s.s.t), (σ.length + 3, dqq s.s.q), (σ.length + 4, dss (σ.length + 2) (σ.length + 3) s.s), (σ.length + 5, [D.int s.x.now, D.int s.x.most, D.int s.x.wheel.most, D.int s.x.wheel.last, .sl false (s.x.wheel.l.map d_Tm), D.int s.x.queue.most, D.int s.x.queue.last, .sl false (s.x.queue.l.map d_Wt)])]) [4, 7, 8, 9, 18, 19, 20, 21, 22, 23, 24, 25, 26, 27, 28, 29, 30, 31, 32, 33, 34, 35, 36, 37, 38, 39, 40, 41, 42, 43, 44, 45, 46] (fun (s : PSt2) => s.k ≤ acts.length ∧ s.k ≤ 60 ∧ SR s.k s.s s.x) (fun (s : PSt2) => acts.length - s.k) (⟨0, snew most, rsnew most⟩) (by simp <;> rfl) ?_ (by simp) (by simp [og_at, og_put, og_at0, og_put0]) ?_ ?_
      · simp
      · exact ⟨by simp, by simp, SR.new most⟩
      rintro ⟨k, s, x⟩ ⟨hk, hk60, hi⟩
      simp only [List.cons_append, List.nil_append, setL_nil, setL_cons, List.set_cons_zero, List.set_cons_succ]
      dsimp only at hk hk60 hi
      refine awp_seq ?_
      refine awp_seq ?_
      refine awp_regionA (c := ⟨[], [], [6], [], []⟩) (by simp only [lite_cons, lite_nil] <;> rfl) fun all hall K hK => ?_
      have ga4 : guardOf all 4 = some 22 := hall 4
      clear hall
      refine vcL_split 5 fun K' hK' => ?_
      simp (maxSteps := 1000000) (disch := first | omega | assumption) [og_at, og_put, og_at0, og_put0, sput, ga4]
      repeat' refine And.intro ?_ ?_
      all_goals first | omega | exact rfl | skip
      refine hK' _ ?_
      clear hK' K'
      simp only [List.drop_succ_cons, List.drop_zero]
      refine vcL_bool 22 (by simp <;> rfl) ?_
      refine ⟨fun g3 => ?_, fun g3 => ?_⟩
      · try simp at g3
        simp (maxSteps := 1000000) (disch := first | omega | assumption) [og_at, og_put, og_at0, og_put0, sput, ga4]
        repeat' refine And.intro ?_ ?_
        all_goals first | omega | exact rfl | skip
        refine hK _ ?_
        clear hK K
        clear ga4
        clear all
        refine q_then_n ?_
        refine awp_ifB (by simp <;> rfl) ?_
        refine ⟨fun c4 => ?_, fun c4 => ?_⟩
        · try simp at c4
          refine awp_skip ?_
          refine q_then_n ?_
          refine awp_seq ?_
          refine awp_block ?_
          refine awp_seq ?_
          refine awp_keep [1, 5, 6, 7] (by simp only [keepL_nil, keepL_cons, envOf_sel, envOf_nil, sel_t, sel_f, Nat.reduceBEq] <;> rfl) ?_
          refine awp_drawA (c := ⟨[], [], [6], [], []⟩) [.op ⟨false, false, false, false⟩, .op ⟨false, false, true, false⟩, .op ⟨false, false, false, false⟩, .op ⟨false, false, false, false⟩, .op ⟨false, false, false, false⟩, .op ⟨false, false, false, false⟩, .det, .op ⟨false, false, false, false⟩, .op ⟨false, false, false, false⟩, .op ⟨false, false, false, false⟩, .op ⟨true, true, false, false⟩, .op ⟨true, true, false, false⟩, .op ⟨false, false, false, false⟩] (by kernel_rfl) (by kernel_rfl) (by simp only [lite_cons, lite_nil] <;> rfl) fun all hall K hK => ?_
          clear hall
          refine vcDL_split 6 (by simp) fun K' hK' => ?_
          simp (maxSteps := 1000000) (disch := first | omega | assumption) [og_at, og_put, og_at0, og_put0, sput]
          repeat' refine And.intro ?_ ?_
          all_goals first | omega | exact rfl | skip
          refine hK' _ ?_
          clear hK' K'
          simp only [List.drop_succ_cons, List.drop_zero]
          refine vcDL_step fun K' hK' => ?_
          simp (maxSteps := 1000000) (disch := first | omega | assumption) [og_at, og_put, og_at0, og_put0, sput]
          refine ⟨_, _, Ct.of_le (sdo_fn (σ.length + 4) (σ.length + 2) (σ.length + 1) σ.length (σ.length + 3) s x acts[k] _ (SO.lay σ s _) (hi.v.ok (by omega)) (hi.ok (by omega))) (by first | exact leArgs_of rfl | (refine leArgs_of ?_; simp; done) | (refine leArgs_of ?_; simp; rfl) | (simp [leArgs, leArg]; done)) rfl, ?_⟩
          refine hK' _ ?_
          clear hK' K'
          simp (maxSteps := 1000000) (disch := first | omega | assumption) [og_at, og_put, og_at0, og_put0, sput]
          repeat' refine And.intro ?_ ?_
          all_goals first | omega | exact rfl | skip
          refine hK _ ?_
          clear hK K
          clear all
          refine q_then_n ?_
          refine awp_seq ?_
          refine awp_keep [1, 5, 6, 7, 8, 9] (by simp only [keepL_nil, keepL_cons, envOf_sel, envOf_nil, sel_t, sel_f, Nat.reduceBEq] <;> rfl) ?_
          refine awp_regionA (c := ⟨[], [], [6], [], []⟩) (by simp only [lite_cons, lite_nil] <;> rfl) fun all hall K hK => ?_
          clear hall
          simp (maxSteps := 1000000) (disch := first | omega | assumption) [og_at, og_put, og_at0, og_put0, sput]
          repeat' refine And.intro ?_ ?_
          all_goals first | omega | exact rfl | skip
          refine hK _ ?_
          clear hK K
          clear all
          refine q_then_n ?_
          refine awp_seq ?_
          refine awp_regionA (c := ⟨[], [], [6], [], []⟩) (by simp only [lite_cons, lite_nil] <;> rfl) fun all hall K hK => ?_
          have ga2 : guardOf all 2 = some 41 := hall 2
          clear hall
          refine vcL_split 3 fun K' hK' => ?_
          simp (maxSteps := 1000000) (disch := first | omega | assumption) [og_at, og_put, og_at0, og_put0, sput, ga2]
          repeat' refine And.intro ?_ ?_
          all_goals first | omega | exact rfl | skip
          refine hK' _ ?_
          clear hK' K'
          simp only [List.drop_succ_cons, List.drop_zero]
          refine vcL_bool 41 (by simp <;> rfl) ?_
          refine ⟨fun g5 => ?_, fun g5 => ?_⟩
          · try simp at g5
            exact absurd (hi.step acts[k]).2 g5
          · try simp at g5
            refine vcL_split 2 fun K' hK' => ?_
            simp (maxSteps := 1000000) (disch := first | omega | assumption) [og_at, og_put, og_at0, og_put0, sput, ga2]
            repeat' refine And.intro ?_ ?_
            all_goals first | omega | exact rfl | skip
            refine hK' _ ?_
            clear hK' K'
            simp only [List.drop_succ_cons, List.drop_zero]
            refine vcL_gt ga2 (by simp <;> rfl) rfl fun K' hK' => ?_
            simp (maxSteps := 1000000) (disch := first | omega | assumption) [og_at, og_put, og_at0, og_put0, sput, ga2]
            refine Ct.mono (Ct.of_le (sis_fn (σ.length + 4) (σ.length + 2) (σ.length + 1) σ.length (σ.length + 3) (sdo s acts[k]) (rsdo x acts[k]) (k + 1) _ (SO.lay σ (sdo s acts[k]) _) ((hi.step acts[k]).1.v.ok (by omega)) (hi.step acts[k]).1 (by omega)) (by first | exact leArgs_of rfl | (refine leArgs_of ?_; simp; done) | (refine leArgs_of ?_; simp; rfl) | (simp [leArgs, leArg]; done)) rfl) ?_
            rintro _ _ ⟨hr9, hs9⟩
            subst hr9
            replace hs9 := hs9.symm
            subst hs9
            refine hK' _ ?_
            clear hK' K'
            simp (maxSteps := 1000000) (disch := first | omega | assumption) [og_at, og_put, og_at0, og_put0, sput, ga2]
            repeat' refine And.intro ?_ ?_
            all_goals first | omega | exact rfl | skip
            refine hK _ ?_
            clear hK K
            clear ga2
            clear all
            refine q_then_n ?_
            refine awp_ifB (by simp <;> rfl) ?_
            refine ⟨fun c6 => ?_, fun c6 => ?_⟩
            · simp at c6
            · try simp at c6
              refine awp_skip ?_
              refine q_block_n ?_
              refine q_then_n ?_
              refine awp_keep [1, 5, 6, 7] (by simp only [keepL_nil, keepL_cons, envOf_sel, envOf_nil, sel_t, sel_f, Nat.reduceBEq] <;> rfl) ?_
              refine awp_regionA (c := ⟨[], [], [6], [], []⟩) (by simp only [lite_cons, lite_nil] <;> rfl) fun all hall K hK => ?_
              clear hall
              simp (maxSteps := 1000000) (disch := first | omega | assumption) [og_at, og_put, og_at0, og_put0, sput]
              repeat' refine And.intro ?_ ?_
              all_goals first | omega | exact rfl | skip
              refine hK _ ?_
              clear hK K
              clear all
              refine q_round (⟨k + 1, sdo s acts[k], rsdo x acts[k]⟩) ?_ ?_ (weak_mkA rfl ?_ (by simp) (by simp))
              · exact ⟨by simp at *; omega, by simp at *; omega, (hi.step _).1⟩
              · try dsimp only
                omega
              · simp (maxSteps := 1000000) (disch := first | omega | assumption) [og_at, og_put, og_at0, og_put0, sput]
        · try simp at c4
          refine awp_exit ?_
          refine q_then_e ?_
          refine q_loop_e ?_
          refine q_block_e ?_
          refine q_then_n ?_
          refine awp_seq ?_
          refine awp_keep [] (by simp only [keepL_nil, keepL_cons, envOf_sel, envOf_nil, sel_t, sel_f, Nat.reduceBEq] <;> rfl) ?_
          refine awp_regionA (c := ⟨[], [], [6], [], []⟩) (by simp only [lite_cons, lite_nil] <;> rfl) fun all hall K hK => ?_
          clear hall
          simp (maxSteps := 1000000) (disch := first | omega | assumption) [og_at, og_put, og_at0, og_put0, sput]
          repeat' refine And.intro ?_ ?_
          all_goals first | omega | exact rfl | skip
          refine hK _ ?_
          clear hK K
          clear all
          refine q_then_n ?_
          refine awp_ret ?_
          simp [endQ]
      · try simp at g3
        simp (maxSteps := 1000000) (disch := first | omega | assumption) [og_at, og_put, og_at0, og_put0, sput, ga4]
        repeat' refine And.intro ?_ ?_
        all_goals first | omega | exact rfl | skip
        refine hK _ ?_
        clear hK K
        clear ga4
        clear all
        refine q_then_n ?_
        refine awp_cond (t := false) (by simp) (fun h => by cases h) (fun _ => ?_)
        refine awp_exit ?_
        refine q_then_e ?_
        refine q_loop_e ?_
        refine q_block_e ?_
        refine q_then_n ?_
        refine awp_seq ?_
        refine awp_keep [] (by simp only [keepL_nil, keepL_cons, envOf_sel, envOf_nil, sel_t, sel_f, Nat.reduceBEq] <;> rfl) ?_
        refine awp_regionA (c := ⟨[], [], [6], [], []⟩) (by simp only [lite_cons, lite_nil] <;> rfl) fun all hall K hK => ?_
        clear hall
        simp (maxSteps := 1000000) (disch := first | omega | assumption) [og_at, og_put, og_at0, og_put0, sput]
        repeat' refine And.intro ?_ ?_
        all_goals first | omega | exact rfl | skip
        refine hK _ ?_
        clear hK K
        clear all
        refine q_then_n ?_
        refine awp_ret ?_
        simp [endQ]

end Go.Proofs.Ytnlokhfcgaikiaa

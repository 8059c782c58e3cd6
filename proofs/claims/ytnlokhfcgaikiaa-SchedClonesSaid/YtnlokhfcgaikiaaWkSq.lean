import Derived.Test.YtnlokhfcgaikiaaWkPlay2
namespace Go.Proofs.Ytnlokhfcgaikiaa
open Go Go.Vm
set_option maxRecDepth 20000
set_option linter.all false
set_option maxHeartbeats 8000000
structure Wt where
 token : Int
 left : Int
 job : Job
 deriving DecidableEq
@[simp] abbrev d_Wt (s : Wt) : D := .agg [.v (.int .i64 s.token), .v (.int .i64 s.left), .v (.int .i64 s.job.kind), .v (.int .i64 s.job.node)]
@[simp] abbrev cw (w : Wt) : List D := [D.int w.token, D.int w.left, D.int w.job.kind, D.int w.job.node]
theorem cw_len (w : Wt) : (cw w).length = 4 := rfl
structure Q2 where
 most : Int
 last : Int
 w0 : List Wt
 w1 : List Wt
 deriving DecidableEq
@[simp] abbrev dqq (q : Q2) : List D := [D.int q.most, D.int q.last, .xs 4 (q.w0.map d_Wt), .xs 4 (q.w1.map d_Wt)]
structure Q2ok (q : Q2) : Prop where
 h0 : q.w0.length ≤ 100000
 h1 : q.w1.length ≤ 100000
 h2 : 0 ≤ q.last ∧ q.last ≤ 1000000
 h3 : ∀ w ∈ q.w0, w.left = 1
 h4 : ∀ w ∈ q.w1, w.left = 2
def qat (a b k : Nat) : Nat := if k = 0 then a else b
def qsum (a b k : Nat) : Nat := if k = 0 then 0 else if k = 1 then a else a + b
theorem ld2 (a b : Nat) (k : Nat) (h : k < 2) : ([D.xl a, D.xl b])[k]? = some (.xl (qat a b k)) := by
 match k, h with
 | 0, _ => rfl
 | 1, _ => rfl
theorem qsum_succ (a b k : Nat) (h : k < 2) : qsum a b (k + 1) = qsum a b k + qat a b k := by
 match k, h with
 | 0, _ => simp [qsum, qat]
 | 1, _ => simp [qsum, qat]
theorem qsum_two (a b : Nat) : qsum a b 2 = a + b := by simp [qsum]
theorem qsum_le (a b k : Nat) : qsum a b k + qat a b k ≤ a + b + a + b := by
 unfold qsum qat; repeat' split
 all_goals omega
theorem wt_flat (l : List Wt) : (l.map d_Wt).flatMap D.cells = l.flatMap cw := rows_flat (fun _ => rfl) l
theorem wt_arr (l : List Wt) : ∀ d ∈ l.map d_Wt, d.ncells = 4 ∧ d.arr = true := by
 intro d hd
 obtain ⟨a, _, rfl⟩ := List.mem_map.1 hd
 exact ⟨rfl, rfl⟩
@[simp high] theorem wt_len (l : List Wt) : (l.flatMap cw).length = l.length * 4 := rows_len (f := cw) (fun _ => rfl) l
@[simp high] theorem wt_ld (l : List Wt) (rest : List D) (i : Nat) (h : i < l.length) : ldD true 4 ((l.flatMap cw ++ rest).drop (i * 4)) = some (.agg (cw l[i])) := rows_ld (f := cw) (fun _ => rfl) l rest i h
@[simp high] theorem wt_sp (l : List Wt) (rest : List D) (i : Nat) (x : Wt) (h : i < l.length) : splice (l.flatMap cw ++ rest) (i * 4) [D.int x.token, D.int x.left, D.int x.job.kind, D.int x.job.node] = (l.set i x).flatMap cw ++ rest := rows_splice (f := cw) (fun _ => rfl) l rest i x h
theorem wt_sc (N : Nat) (l : List Wt) : Sc N (.xs 4 (l.map d_Wt)) := Sc.xs fun e he y hy => by
 obtain ⟨a, _, rfl⟩ := List.mem_map.1 he
 simp only [D.cells, List.mem_cons, List.not_mem_nil, or_false] at hy
 rcases hy with rfl | rfl | rfl | rfl <;> exact Sc.v _
def qlen (q : Q2) : Int := ((q.w0.length + q.w1.length : Nat) : Int)
def qask (q : Q2) (j : Job) : Q2 × Int × Int := if q.most ≤ qlen q then (q, 0, 9) else (⟨q.most, q.last + 1, q.w0, q.w1 ++ [⟨q.last + 1, 2, j⟩]⟩, q.last + 1, 0)
theorem qlen_fn (m : Nat) (q : Q2) (σ : List (List D)) (hq : σ[m]? = some (dqq q)) (hk : Q2ok q) : Ct Try.prog 46 [.ref m 0] σ (fun r σ' => r = .int (qlen q) ∧ σ' = σ) := by
 refine fn_start (rs := [.tmp 2]) Try.func46 rfl rfl Try.ntmps46 Try.results46 (by simp) ?_
 simp only [argEnv]
 obtain ⟨h0, h1, h2, h3, h4⟩ := hk
 refine awp_seq ?_
 refine awp_regionA (c := ⟨[], [], [], [15], []⟩) (by simp only [lite_cons, lite_nil] <;> rfl) fun all hall K hK => ?_
 clear hall
 simp (maxSteps := 1000000) (disch := first | omega | assumption) [hq, ld2]
 repeat' refine And.intro ?_ ?_
 all_goals first | omega | exact rfl | skip
 refine hK _ ?_
 clear hK K
 clear all
 refine q_then_n ?_
 refine awp_seq ?_
 refine awp_regionA (c := ⟨[], [], [], [15], []⟩) (by simp only [lite_cons, lite_nil] <;> rfl) fun all hall K hK => ?_
 clear hall
 simp (maxSteps := 1000000) (disch := first | omega | assumption) [hq, ld2]
 repeat' refine And.intro ?_ ?_
 all_goals first | omega | exact rfl | skip
 refine hK _ ?_
 clear hK K
 clear all
 refine q_then_n ?_
 refine awp_seq ?_
 refine awp_seq ?_
 refine awp_regionA (c := ⟨[], [], [], [15], []⟩) (by simp only [lite_cons, lite_nil] <;> rfl) fun all hall K hK => ?_
 clear hall
 simp (maxSteps := 1000000) (disch := first | omega | assumption) [hq, ld2]
 repeat' refine And.intro ?_ ?_
 all_goals first | omega | exact rfl | skip
 refine hK _ ?_
 clear hK K
 clear all
 refine q_then_n ?_
 refine awp_block ?_
 refine awp_keep [2, 3, 9, 10] (by simp only [keepL_nil, keepL_cons, envOf_sel, envOf_nil, sel_t, sel_f, Nat.reduceBEq] <;> rfl) ?_
 refine awp_loopE (fun (k : Nat) => [(10, .d (.int k)), (3, .d (.int ((qsum q.w0.length q.w1.length k : Nat) : Int)))]) [3, 5, 10, 11, 12, 13, 14, 15, 16, 17] (fun (k : Nat) => k ≤ 2) (fun (k : Nat) => 2 - k) (0) (by simp <;> rfl) ?_ ?_ ?_
 ·simp [qsum]
 ·simp
 rintro k hk
 simp only [List.cons_append, List.nil_append]
 have hqs := qsum_le q.w0.length q.w1.length k
 refine awp_seq ?_
 refine awp_regionA (c := ⟨[], [], [], [15], []⟩) (by simp only [lite_cons, lite_nil] <;> rfl) fun all hall K hK => ?_
 clear hall
 simp (maxSteps := 1000000) (disch := first | omega | assumption) [hq, ld2]
 repeat' refine And.intro ?_ ?_
 all_goals first | omega | exact rfl | skip
 refine hK _ ?_
 clear hK K
 clear all
 refine q_then_n ?_
 refine awp_seq ?_
 refine awp_ifB (by simp <;> rfl) ?_
 refine ⟨fun c1 => ?_, fun c1 => ?_⟩
 ·try simp at c1
  refine awp_skip ?_
  refine q_then_n ?_
  refine awp_seq ?_
  refine awp_block ?_
  refine awp_seq ?_
  refine awp_regionA (c := ⟨[], [], [], [15], []⟩) (by simp only [lite_cons, lite_nil] <;> rfl) fun all hall K hK => ?_
  clear hall
  simp (maxSteps := 1000000) (disch := first | omega | assumption) [hq, ld2]
  repeat' refine And.intro ?_ ?_
  all_goals first | omega | exact rfl | skip
  refine hK _ ?_
  clear hK K
  clear all
  refine q_then_n ?_
  refine awp_regionA (c := ⟨[], [], [], [15], []⟩) (by simp only [lite_cons, lite_nil] <;> rfl) fun all hall K hK => ?_
  clear hall
  simp (maxSteps := 1000000) (disch := first | omega | assumption) [hq, ld2]
  repeat' refine And.intro ?_ ?_
  all_goals first | omega | exact rfl | skip
  refine hK _ ?_
  clear hK K
  clear all
  refine q_block_n ?_
  refine q_then_n ?_
  refine awp_keep [2, 3, 9, 10] (by simp only [keepL_nil, keepL_cons, envOf_sel, envOf_nil, sel_t, sel_f, Nat.reduceBEq] <;> rfl) ?_
  refine awp_regionA (c := ⟨[], [], [], [15], []⟩) (by simp only [lite_cons, lite_nil] <;> rfl) fun all hall K hK => ?_
  clear hall
  simp (maxSteps := 1000000) (disch := first | omega | assumption) [hq, ld2]
  repeat' refine And.intro ?_ ?_
  all_goals first | omega | exact rfl | skip
  refine hK _ ?_
  clear hK K
  clear all
  refine q_round (k + 1) ?_ ?_ (weak_mkA rfl ?_ (by simp) (by simp))
  ·omega
  ·try dsimp only
   omega
  ·simp (maxSteps := 1000000) (disch := first | omega | assumption) [hq, ld2, qsum_succ]
 ·try simp at c1
  refine awp_exit ?_
  refine q_then_e ?_
  refine q_loop_e ?_
  refine q_block_e ?_
  refine q_then_n ?_
  refine awp_seq ?_
  refine awp_regionA (c := ⟨[], [], [], [15], []⟩) (by simp only [lite_cons, lite_nil] <;> rfl) fun all hall K hK => ?_
  clear hall
  simp (maxSteps := 1000000) (disch := first | omega | assumption) [hq, ld2]
  repeat' refine And.intro ?_ ?_
  all_goals first | omega | exact rfl | skip
  refine hK _ ?_
  clear hK K
  clear all
  refine q_then_n ?_
  refine awp_ret ?_
  simp [endQ, qlen]
  rw [show k = 2 by omega, qsum_two]; simp
theorem qnew_fn (x : Int) (σ : List (List D))  : Ct Try.prog 37 [D.int x] σ (fun r σ' => r = .ref σ.length 0 ∧ σ' = σ ++ [dqq ⟨clip x 1 65536, 0, [], []⟩]) := by
 refine fn_start (rs := [.tmp 2]) Try.func37 rfl rfl Try.ntmps37 Try.results37 (by simp) ?_
 simp only [argEnv]
 refine awp_seq ?_
 refine awp_regionA (c := ⟨[], [], [6], [], []⟩) (by simp only [lite_cons, lite_nil] <;> rfl) fun all hall K hK => ?_
 clear hall
 simp (maxSteps := 1000000) (disch := first | omega | assumption)
 repeat' refine And.intro ?_ ?_
 all_goals first | omega | exact rfl | skip
 refine hK _ ?_
 clear hK K
 clear all
 refine q_then_n ?_
 refine awp_seq ?_
 refine awp_regionA (c := ⟨[], [], [6], [], []⟩) (by simp only [lite_cons, lite_nil] <;> rfl) fun all hall K hK => ?_
 clear hall
 refine vcL_split 1 fun K' hK' => ?_
 simp (maxSteps := 1000000) (disch := first | omega | assumption)
 repeat' refine And.intro ?_ ?_
 all_goals first | omega | exact rfl | skip
 refine hK' _ ?_
 clear hK' K'
 simp only [List.drop_succ_cons, List.drop_zero]
 refine vcL_step fun K' hK' => ?_
 simp (maxSteps := 1000000) (disch := first | omega | assumption)
 refine Ct.mono (Ct.of_le (clip_fn ..) (by first | exact leArgs_of rfl | (refine leArgs_of ?_; simp; done) | (refine leArgs_of ?_; simp; rfl) | (simp [leArgs, leArg]; done)) rfl) ?_
 rintro _ _ ⟨hr9, hs9⟩
 subst hr9
 replace hs9 := hs9.symm
 subst hs9
 refine hK' _ ?_
 clear hK' K'
 simp (maxSteps := 1000000) (disch := first | omega | assumption)
 repeat' refine And.intro ?_ ?_
 all_goals first | omega | exact rfl | skip
 refine hK _ ?_
 clear hK K
 clear all
 refine q_then_n ?_
 refine awp_toXO σ.length 2 4 (by simp <;> rfl) (by simp) ?_
 simp only [set_last, List.set_cons_zero, List.set_cons_succ]
 refine awp_toXO σ.length 3 4 (by simp <;> rfl) (by simp) ?_
 simp only [set_last, List.set_cons_zero, List.set_cons_succ]
 refine awp_ret ?_
 simp (maxSteps := 1000000) (disch := first | omega | assumption) [endQ]
theorem qask0_fn (m : Nat) (q : Q2) (j : Job) (σ : List (List D)) (hq : σ[m]? = some (dqq q)) (hk : Q2ok q) : Ct Try.prog 64 [.ref m 0, d_Job j] σ (fun r σ' => r = .tup [D.int (qask q j).2.1, D.int (qask q j).2.2] ∧ ∃ J, σ' = σ.set m (dqq (qask q j).1) ++ J) := by
 refine fn_start (rs := [.tmp 4, .tmp 5]) Try.func64 rfl rfl Try.ntmps64 Try.results64 (by simp) ?_
 simp only [argEnv]
 obtain ⟨h0, h1, h2, h3, h4⟩ := hk
 have hqc : qlen q = ((q.w0.length + q.w1.length : Nat) : Int) := rfl
 refine awp_seq ?_
 refine awp_regionA (c := ⟨[], [3], [], [33], []⟩) (by simp only [lite_cons, lite_nil] <;> rfl) fun all hall K hK => ?_
 clear hall
 simp (maxSteps := 1000000) (disch := first | omega | assumption) [hq, og_get hq, og_app hq, og_app0 hq, og_set hq, og_set0 hq, og_last, og_setlast, og_last0, og_setlast0, og_last1, og_setlast1, og_last2, og_setlast2]
 repeat' refine And.intro ?_ ?_
 all_goals first | omega | exact rfl | skip
 refine hK _ ?_
 clear hK K
 clear all
 refine q_then_n ?_
 refine awp_seq ?_
 refine awp_seq ?_
 refine awp_drawA (c := ⟨[], [3], [], [33], []⟩) [.op ⟨false, false, false, false⟩, .read, .op ⟨false, false, false, false⟩, .op ⟨false, false, false, false⟩, .op ⟨false, false, false, false⟩, .op ⟨false, false, true, false⟩, .op ⟨false, false, false, false⟩] (by kernel_rfl) (by kernel_rfl) (by simp only [lite_cons, lite_nil] <;> rfl) fun all hall K hK => ?_
 clear hall
 refine vcDL_split 1 (by simp) fun K' hK' => ?_
 simp (maxSteps := 1000000) (disch := first | omega | assumption) [hq, og_get hq, og_app hq, og_app0 hq, og_set hq, og_set0 hq, og_last, og_setlast, og_last0, og_setlast0, og_last1, og_setlast1, og_last2, og_setlast2]
 repeat' refine And.intro ?_ ?_
 all_goals first | omega | exact rfl | skip
 refine hK' _ ?_
 clear hK' K'
 simp only [List.drop_succ_cons, List.drop_zero]
 refine vcDL_step fun K' hK' => ?_
 simp (maxSteps := 1000000) (disch := first | omega | assumption) [hq, og_get hq, og_app hq, og_app0 hq, og_set hq, og_set0 hq, og_last, og_setlast, og_last0, og_setlast0, og_last1, og_setlast1, og_last2, og_setlast2]
 refine ⟨_, Ct.of_le (qlen_fn m q _ hq ⟨h0, h1, h2, h3, h4⟩) (by first | exact leArgs_of rfl | (refine leArgs_of ?_; simp; done) | (refine leArgs_of ?_; simp; rfl) | (simp [leArgs, leArg]; done)) rfl, ?_⟩
 refine hK' _ ?_
 clear hK' K'
 simp (maxSteps := 1000000) (disch := first | omega | assumption) [hq, og_get hq, og_app hq, og_app0 hq, og_set hq, og_set0 hq, og_last, og_setlast, og_last0, og_setlast0, og_last1, og_setlast1, og_last2, og_setlast2]
 repeat' refine And.intro ?_ ?_
 all_goals first | omega | exact rfl | skip
 refine hK _ ?_
 clear hK K
 clear all
 refine q_then_n ?_
 refine awp_ifB (by simp <;> rfl) ?_
 refine ⟨fun c1 => ?_, fun c1 => ?_⟩
 ·try simp at c1
  refine awp_seq ?_
  refine awp_regionA (c := ⟨[], [3], [], [33], []⟩) (by simp only [lite_cons, lite_nil] <;> rfl) fun all hall K hK => ?_
  clear hall
  simp (maxSteps := 1000000) (disch := first | omega | assumption) [hq, og_get hq, og_app hq, og_app0 hq, og_set hq, og_set0 hq, og_last, og_setlast, og_last0, og_setlast0, og_last1, og_setlast1, og_last2, og_setlast2]
  repeat' refine And.intro ?_ ?_
  all_goals first | omega | exact rfl | skip
  refine hK _ ?_
  clear hK K
  clear all
  refine q_then_n ?_
  refine awp_ret ?_
  refine q_then_r ?_
  simp [endQ, qask, c1]
  exact ⟨[], by rw [obj_set_same hq, List.append_nil]⟩
 ·try simp at c1
  refine awp_skip ?_
  refine q_then_n ?_
  refine awp_seq ?_
  refine awp_regionA (c := ⟨[], [3], [], [33], []⟩) (by simp only [lite_cons, lite_nil] <;> rfl) fun all hall K hK => ?_
  clear hall
  simp (maxSteps := 1000000) (disch := first | omega | assumption) [hq, og_get hq, og_app hq, og_app0 hq, og_set hq, og_set0 hq, og_last, og_setlast, og_last0, og_setlast0, og_last1, og_setlast1, og_last2, og_setlast2]
  repeat' refine And.intro ?_ ?_
  all_goals first | omega | exact rfl | skip
  refine hK _ ?_
  clear hK K
  clear all
  refine q_then_n ?_
  refine awp_seq ?_
  refine awp_openXO m 3 4 (og_get hq _) (by simp <;> rfl) (by decide) fun cap rest hcap hcm hrest hes => ?_
  simp only [List.length_map] at hcap hrest ⊢
  rw [wt_flat]
  refine awp_keep [0, 3, 4, 5] (by simp only [keepL_nil, keepL_cons, envOf_sel, envOf_nil, sel_t, sel_f, Nat.reduceBEq] <;> rfl) ?_
  refine awp_drawA (c := ⟨[], [3], [], [33], []⟩) [.op ⟨false, false, false, false⟩, .op ⟨false, false, false, false⟩, .op ⟨false, false, false, false⟩, .op ⟨false, false, false, false⟩, .op ⟨false, false, false, false⟩, .op ⟨false, false, true, false⟩, .op ⟨false, false, false, false⟩, .op ⟨false, false, false, false⟩, .op ⟨false, false, false, false⟩, .op ⟨false, false, true, false⟩, .op ⟨false, false, false, false⟩, .op ⟨false, false, false, false⟩, .op ⟨false, false, false, false⟩, .op ⟨false, false, true, true⟩, .op ⟨false, false, false, false⟩, .op ⟨false, false, false, false⟩, .op ⟨false, false, false, false⟩, .op ⟨false, false, true, true⟩] (by kernel_rfl) (by kernel_rfl) (by simp only [lite_cons, lite_nil] <;> rfl) fun all hall K hK => ?_
  clear hall
  refine vcDL_split 8 (by simp) fun K' hK' => ?_
  simp (maxSteps := 1000000) (disch := first | omega | assumption) [hq, og_get hq, og_app hq, og_app0 hq, og_set hq, og_set0 hq, og_last, og_setlast, og_last0, og_setlast0, og_last1, og_setlast1, og_last2, og_setlast2]
  repeat' refine And.intro ?_ ?_
  all_goals first | omega | exact rfl | skip
  refine hK' _ ?_
  clear hK' K'
  simp only [List.drop_succ_cons, List.drop_zero]
  refine vcDL_split 6 (by simp) fun K' hK' => ?_
  simp (maxSteps := 1000000) (disch := first | omega | assumption) [hq, og_get hq, og_app hq, og_app0 hq, og_set hq, og_set0 hq, og_last, og_setlast, og_last0, og_setlast0, og_last1, og_setlast1, og_last2, og_setlast2]
  refine ⟨rfl, _, q.w1.map d_Wt, ⟨rfl, by simp [hrest]; omega, by simp, wt_arr _, by rw [wt_flat]; exact List.prefix_append _ _, by simp; omega, by simp; omega⟩, ?_⟩
  repeat' refine And.intro ?_ ?_
  all_goals first | omega | exact rfl | skip
  refine hK' _ ?_
  clear hK' K'
  simp only [List.drop_succ_cons, List.drop_zero]
  simp (maxSteps := 1000000) (disch := first | omega | assumption) [hq, og_get hq, og_app hq, og_app0 hq, og_set hq, og_set0 hq, og_last, og_setlast, og_last0, og_setlast0, og_last1, og_setlast1, og_last2, og_setlast2]
  repeat' refine And.intro ?_ ?_
  all_goals first | omega | exact rfl | skip
  refine hK _ ?_
  clear hK K
  clear all
  refine q_then_n ?_
  refine awp_seq ?_
  refine awp_keep [0, 4, 5] (by simp only [keepL_nil, keepL_cons, envOf_sel, envOf_nil, sel_t, sel_f, Nat.reduceBEq] <;> rfl) ?_
  refine awp_regionA (c := ⟨[], [3], [], [33], []⟩) (by simp only [lite_cons, lite_nil] <;> rfl) fun all hall K hK => ?_
  clear hall
  simp (maxSteps := 1000000) (disch := first | omega | assumption) [hq, og_get hq, og_app hq, og_app0 hq, og_set hq, og_set0 hq, og_last, og_setlast, og_last0, og_setlast0, og_last1, og_setlast1, og_last2, og_setlast2]
  repeat' refine And.intro ?_ ?_
  all_goals first | omega | exact rfl | skip
  refine hK _ ?_
  clear hK K
  clear all
  refine q_then_n ?_
  refine awp_ret ?_
  have c2 : ¬ q.most ≤ qlen q := by omega
  simp [endQ, qask, c2]
theorem sc_dqq (N : Nat) (q : Q2) : ∀ d ∈ dqq q, Sc N d := by
 intro d hd
 simp only [dqq, List.mem_cons, List.not_mem_nil, or_false] at hd
 rcases hd with rfl | rfl | rfl | rfl
 ·exact Sc.v _
 ·exact Sc.v _
 ·exact wt_sc _ _
 ·exact wt_sc _ _
theorem qask_fn (m : Nat) (q : Q2) (j : Job) (σ : List (List D)) (hq : σ[m]? = some (dqq q)) (hk : Q2ok q) : Ct Try.prog 64 [.ref m 0, d_Job j] σ (fun r σ' => r = .tup [D.int (qask q j).2.1, D.int (qask q j).2.2] ∧ σ' = σ.set m (dqq (qask q j).1)) :=
 (qask0_fn m q j σ hq hk).trim fun r σ' ⟨hr, J, hs⟩ => ⟨_, J, hs, by simp, by rw [hr]; exact Sc.tup (by intro d hd; simp only [List.mem_cons, List.not_mem_nil, or_false] at hd; rcases hd with rfl | rfl <;> exact Sc.v _), trim_set (sc_dqq _ _), hr, rfl⟩
theorem wtclear (p : Wt → Bool) (l : List Wt) (j : Nat) (rest : List D) : splice ((ar p l j).flatMap cw ++ rest) ((kp p l j).length * 4) (zerosD #[.int .i64 0, .int .i64 0, .int .i64 0, .int .i64 0] (l.length - (kp p l j).length)) = (kp p l j).flatMap cw ++ (zerosD #[.int .i64 0, .int .i64 0, .int .i64 0, .int .i64 0] (l.length - (kp p l j).length) ++ rest) := by
 have hz : (zerosD #[.int .i64 0, .int .i64 0, .int .i64 0, .int .i64 0] (l.length - (kp p l j).length)).length = ((l.drop (kp p l j).length).flatMap cw).length := by
  rw [rows_len (f := cw) (k := 4) (fun _ => rfl), zerosD_len (k := 4) rfl, List.length_drop]
 have hk : ((kp p l j).flatMap cw).length = (kp p l j).length * 4 := rows_len (f := cw) (fun _ => rfl) _
 unfold ar
 rw [List.flatMap_append, List.append_assoc, ← hk, splice_mid _ _ _ _ hz]
theorem wtindexO_fn (l : List Wt) (p : Wt → Bool) (f : FuncId) (caps : List D) (m cap : Nat) (rest : List D) (σ : List (List D)) (hl : l.length ≤ 9223372036854775807) (hσ : σ[m]? = some (l.flatMap cw ++ rest)) (hcp : ∀ d ∈ caps, d.plain = true) (hcs : caps.map D.strip = caps) (hp : ∀ x τ, Ct Try.prog f (d_Wt x :: caps) τ (fun r τ' => r = .bool (p x) ∧ τ' = τ)) : Ct Try.prog 84 [.slo m 0 l.length cap, .clo (.func f) [] caps] σ (fun r σ' => r = .int (idxP p l) ∧ σ' = σ) := by
 refine fn_start (rs := [.tmp 4]) Try.func84 rfl rfl Try.ntmps84 Try.results84 (by simp) ?_
 simp only [argEnv]
 refine awp_seq ?_
 refine awp_regionA (c := ⟨[], [], [], [7, 14], []⟩) (by simp only [lite_cons, lite_nil] <;> rfl) fun all hall K hK => ?_
 clear hall
 simp (maxSteps := 1000000) (disch := first | omega | assumption) [hσ, hcs]
 repeat' refine And.intro ?_ ?_
 all_goals first | omega | exact rfl | skip
 refine hK _ ?_
 clear hK K
 clear all
 refine q_then_n ?_
 refine awp_seq ?_
 refine awp_seq ?_
 refine awp_regionA (c := ⟨[], [], [], [7, 14], []⟩) (by simp only [lite_cons, lite_nil] <;> rfl) fun all hall K hK => ?_
 clear hall
 simp (maxSteps := 1000000) (disch := first | omega | assumption) [hσ, hcs]
 repeat' refine And.intro ?_ ?_
 all_goals first | omega | exact rfl | skip
 refine hK _ ?_
 clear hK K
 clear all
 refine q_then_n ?_
 refine awp_block ?_
 refine awp_keep [0, 1, 4, 7, 8] (by simp only [keepL_nil, keepL_cons, envOf_sel, envOf_nil, sel_t, sel_f, Nat.reduceBEq] <;> rfl) ?_
 refine awp_loopE (fun (k : Nat) => [(8, .d (.v (.int .i64 (k : Int))))]) [4, 5, 8, 9, 10, 11, 12, 13, 14, 15, 16, 17, 18] (fun (k : Nat) => k ≤ l.length ∧ ∀ x ∈ l.take k, p x = false) (fun (k : Nat) => l.length - k) (0) (by simp <;> rfl) ?_ ?_ ?_
 ·simp
 ·simp
 rintro k ⟨hk, hh⟩
 simp only [List.cons_append, List.nil_append]
 refine awp_seq ?_
 refine awp_regionA (c := ⟨[], [], [], [7, 14], []⟩) (by simp only [lite_cons, lite_nil] <;> rfl) fun all hall K hK => ?_
 clear hall
 simp (maxSteps := 1000000) (disch := first | omega | assumption) [hσ, hcs]
 repeat' refine And.intro ?_ ?_
 all_goals first | omega | exact rfl | skip
 refine hK _ ?_
 clear hK K
 clear all
 refine q_then_n ?_
 refine awp_seq ?_
 refine awp_ifB (by simp <;> rfl) ?_
 refine ⟨fun c1 => ?_, fun c1 => ?_⟩
 ·try simp at c1
  refine awp_skip ?_
  refine q_then_n ?_
  refine awp_seq ?_
  refine awp_block ?_
  refine awp_seq ?_
  refine awp_regionA (c := ⟨[], [], [], [7, 14], []⟩) (by simp only [lite_cons, lite_nil] <;> rfl) fun all hall K hK => ?_
  clear hall
  simp (maxSteps := 1000000) (disch := first | omega | assumption) [hσ, hcs]
  repeat' refine And.intro ?_ ?_
  all_goals first | omega | exact rfl | skip
  refine hK _ ?_
  clear hK K
  clear all
  refine q_then_n ?_
  refine awp_seq ?_
  refine awp_regionA (c := ⟨[], [], [], [7, 14], []⟩) (by simp only [lite_cons, lite_nil] <;> rfl) fun all hall K hK => ?_
  clear hall
  refine vcL_split 5 fun K' hK' => ?_
  simp (maxSteps := 1000000) (disch := first | omega | assumption) [hσ, hcs]
  repeat' refine And.intro ?_ ?_
  all_goals first | omega | exact rfl | skip
  refine hK' _ ?_
  clear hK' K'
  simp only [List.drop_succ_cons, List.drop_zero]
  refine vcL_step fun K' hK' => ?_
  simp (maxSteps := 1000000) (disch := first | omega | assumption) [hσ, hcs]
  refine ⟨hcp, ?_⟩
  refine Ct.mono (Ct.of_le (hp l[k] _) (by first | exact leArgs_of rfl | (refine leArgs_of ?_; simp; done) | (refine leArgs_of ?_; simp; rfl) | (simp [leArgs, leArg]; done)) rfl) ?_
  rintro _ _ ⟨hr9, hs9⟩
  subst hr9
  replace hs9 := hs9.symm
  subst hs9
  refine hK' _ ?_
  clear hK' K'
  simp only [vcL_nil]
  refine hK _ ?_
  clear hK K
  clear all
  refine q_then_n ?_
  refine awp_ifB (by simp <;> rfl) ?_
  refine ⟨fun c2 => ?_, fun c2 => ?_⟩
  ·try simp at c2
   refine awp_seq ?_
   refine awp_keep [0, 1, 5, 7, 8] (by simp only [keepL_nil, keepL_cons, envOf_sel, envOf_nil, sel_t, sel_f, Nat.reduceBEq] <;> rfl) ?_
   refine awp_regionA (c := ⟨[], [], [], [7, 14], []⟩) (by simp only [lite_cons, lite_nil] <;> rfl) fun all hall K hK => ?_
   clear hall
   simp (maxSteps := 1000000) (disch := first | omega | assumption) [hσ, hcs]
   repeat' refine And.intro ?_ ?_
   all_goals first | omega | exact rfl | skip
   refine hK _ ?_
   clear hK K
   clear all
   refine q_then_n ?_
   refine awp_ret ?_
   refine q_block_r ?_
   refine q_then_r ?_
   refine q_loop_r ?_
   refine q_block_r ?_
   refine q_then_r ?_
   simp [endQ]
   exact (idxP_at c1 hh c2).symm
  ·try simp at c2
   refine awp_skip ?_
   refine q_block_n ?_
   refine q_then_n ?_
   refine awp_keep [0, 1, 7, 8] (by simp only [keepL_nil, keepL_cons, envOf_sel, envOf_nil, sel_t, sel_f, Nat.reduceBEq] <;> rfl) ?_
   refine awp_regionA (c := ⟨[], [], [], [7, 14], []⟩) (by simp only [lite_cons, lite_nil] <;> rfl) fun all hall K hK => ?_
   clear hall
   simp (maxSteps := 1000000) (disch := first | omega | assumption) [hσ, hcs]
   repeat' refine And.intro ?_ ?_
   all_goals first | omega | exact rfl | skip
   refine hK _ ?_
   clear hK K
   clear all
   refine q_round (k + 1) ?_ ?_ (weak_mkA rfl ?_ (by simp) (by simp))
   ·exact ⟨by omega, all_take (by omega) hh c2⟩
   ·try dsimp only
    omega
   ·simp (maxSteps := 1000000) (disch := first | omega | assumption) [hσ, hcs]
 ·try simp at c1
  refine awp_exit ?_
  refine q_then_e ?_
  refine q_loop_e ?_
  refine q_block_e ?_
  refine q_then_n ?_
  refine awp_seq ?_
  refine awp_regionA (c := ⟨[], [], [], [7, 14], []⟩) (by simp only [lite_cons, lite_nil] <;> rfl) fun all hall K hK => ?_
  clear hall
  simp (maxSteps := 1000000) (disch := first | omega | assumption) [hσ, hcs]
  repeat' refine And.intro ?_ ?_
  all_goals first | omega | exact rfl | skip
  refine hK _ ?_
  clear hK K
  clear all
  refine q_then_n ?_
  refine awp_ret ?_
  simp [endQ]
  rw [List.take_of_length_le (by omega)] at hh; exact (idxP_none hh).symm
theorem wtdelete0_fn (l : List Wt) (p : Wt → Bool) (f : FuncId) (caps : List D) (σ : List (List D)) (hl : l.length ≤ 1000000) (hcp : ∀ d ∈ caps, d.plain = true) (hcs : caps.map D.strip = caps) (hp : ∀ x τ, Ct Try.prog f (d_Wt x :: caps) τ (fun r τ' => r = .bool (p x) ∧ τ' = τ)) : Ct Try.prog 77 [.xs 4 (l.map d_Wt), .clo (.func f) [] caps] σ (fun r σ' => r = .xs 4 ((l.filter fun x => !p x).map d_Wt) ∧ σ' = σ ++ [[]]) := by
 refine fn_start (rs := [.tmp 4]) Try.func77 rfl rfl Try.ntmps77 Try.results77 (by simp) ?_
 simp only [argEnv]
 refine awp_openX 0 4 rfl (by decide) fun cap rest hcap hcm hrest hk0 hes => ?_
 simp only [List.length_map] at hcap hrest ⊢
 rw [wt_flat]
 refine awp_seq ?_
 refine awp_regionA (c := ⟨[4, 13], [], [], [18, 24, 33, 38, 41], []⟩) (by simp only [lite_cons, lite_nil] <;> rfl) fun all hall K hK => ?_
 clear hall
 simp (maxSteps := 1000000) (disch := first | omega | assumption) [hcs, wtclear]
 repeat' refine And.intro ?_ ?_
 all_goals first | omega | exact rfl | skip
 refine hK _ ?_
 clear hK K
 clear all
 refine q_then_n ?_
 refine awp_seq ?_
 refine awp_regionA (c := ⟨[4, 13], [], [], [18, 24, 33, 38, 41], []⟩) (by simp only [lite_cons, lite_nil] <;> rfl) fun all hall K hK => ?_
 clear hall
 refine vcL_split 2 fun K' hK' => ?_
 simp (maxSteps := 1000000) (disch := first | omega | assumption) [hcs, wtclear]
 repeat' refine And.intro ?_ ?_
 all_goals first | omega | exact rfl | skip
 refine hK' _ ?_
 clear hK' K'
 simp only [List.drop_succ_cons, List.drop_zero]
 refine vcL_step fun K' hK' => ?_
 simp (maxSteps := 1000000) (disch := first | omega | assumption) [hcs, wtclear]
 refine Ct.mono (Ct.of_le (wtindexO_fn l p f caps σ.length cap rest _ (by omega) (by simp) hcp hcs hp) (by first | exact leArgs_of rfl | (refine leArgs_of ?_; simp; done) | (refine leArgs_of ?_; simp; rfl) | (simp [leArgs, leArg]; done)) rfl) ?_
 rintro _ _ ⟨hr9, hs9⟩
 subst hr9
 replace hs9 := hs9.symm
 subst hs9
 refine hK' _ ?_
 clear hK' K'
 simp (maxSteps := 1000000) (disch := first | omega | assumption) [hcs, wtclear]
 repeat' refine And.intro ?_ ?_
 all_goals first | omega | exact rfl | skip
 refine hK _ ?_
 clear hK K
 clear all
 refine q_then_n ?_
 refine awp_seq ?_
 refine awp_seq ?_
 refine awp_regionA (c := ⟨[4, 13], [], [], [18, 24, 33, 38, 41], []⟩) (by simp only [lite_cons, lite_nil] <;> rfl) fun all hall K hK => ?_
 clear hall
 simp (maxSteps := 1000000) (disch := first | omega | assumption) [hcs, wtclear]
 repeat' refine And.intro ?_ ?_
 all_goals first | omega | exact rfl | skip
 refine hK _ ?_
 clear hK K
 clear all
 refine q_then_n ?_
 refine awp_ifB (by simp <;> rfl) ?_
 refine ⟨fun c1 => ?_, fun c1 => ?_⟩
 ·try simp at c1
  refine awp_seq ?_
  refine awp_regionA (c := ⟨[4, 13], [], [], [18, 24, 33, 38, 41], []⟩) (by simp only [lite_cons, lite_nil] <;> rfl) fun all hall K hK => ?_
  clear hall
  simp (maxSteps := 1000000) (disch := first | omega | assumption) [hcs, wtclear]
  repeat' refine And.intro ?_ ?_
  all_goals first | omega | exact rfl | skip
  refine hK _ ?_
  clear hK K
  clear all
  refine q_then_n ?_
  refine awp_closeX 4 4 σ.length l.length cap (l.map d_Wt) (l.flatMap cw ++ rest) (by simp <;> rfl) (by simp) (by omega) (by simp [hrest, zerosD_len (z := #[.int .i64 0, .int .i64 0, .int .i64 0, .int .i64 0]) (k := 4) rfl]; omega) (by simp) (wt_arr _) (by rw [wt_flat]; exact List.prefix_append _ _) ?_
  simp only [set_last]
  refine awp_ret ?_
  refine q_then_r ?_
  simp [endQ]
  rcases idxP_cases p l with ⟨_, h⟩ | ⟨k, h, _⟩
  ·rw [h]
  ·omega
 ·try simp at c1
  obtain ⟨k0, e0, e1, e2, e3⟩ := idxP_pos c1
  rw [e0]
  refine awp_skip ?_
  refine q_then_n ?_
  refine awp_seq ?_
  refine awp_seq ?_
  refine awp_regionA (c := ⟨[4, 13], [], [], [18, 24, 33, 38, 41], []⟩) (by simp only [lite_cons, lite_nil] <;> rfl) fun all hall K hK => ?_
  clear hall
  simp (maxSteps := 1000000) (disch := first | omega | assumption) [hcs, wtclear]
  repeat' refine And.intro ?_ ?_
  all_goals first | omega | exact rfl | skip
  refine hK _ ?_
  clear hK K
  clear all
  refine q_then_n ?_
  refine awp_block ?_
  refine awp_keep [0, 1, 4, 5, 6] (by simp only [keepL_nil, keepL_cons, envOf_sel, envOf_nil, sel_t, sel_f, Nat.reduceBEq] <;> rfl) ?_
  refine awp_loopM (fun (j : Nat) => [(5, .d (.v (.int .i64 ((kp p l j).length : Int)))), (6, .d (.v (.int .i64 (j : Int))))]) (fun (j : Nat) => []) (fun (j : Nat) => [(σ.length, (ar p l j).flatMap cw ++ rest)]) [5, 6, 7, 16, 17, 18, 19, 20, 21, 22, 23, 24, 25, 26, 27, 28, 29, 30, 31, 32, 33, 34, 35] (fun (j : Nat) => j ≤ l.length) (fun (j : Nat) => l.length - j) (k0 + 1) (by simp <;> rfl) ?_ (by simp) (by simp [e1]) ?_ ?_
  ·simp [e1, e2]
  ·omega
  rintro j hj
  simp only [List.cons_append, List.nil_append, setL_nil, setL_cons, List.set_cons_zero, List.set_cons_succ]
  have hkl := kp_le p l j hj
  have hal := ar_len p l j
  refine awp_seq ?_
  refine awp_seq ?_
  refine awp_regionA (c := ⟨[4, 13], [], [], [18, 24, 33, 38, 41], []⟩) (by simp only [lite_cons, lite_nil] <;> rfl) fun all hall K hK => ?_
  clear hall
  simp (maxSteps := 1000000) (disch := first | omega | assumption) [hcs, wtclear]
  repeat' refine And.intro ?_ ?_
  all_goals first | omega | exact rfl | skip
  refine hK _ ?_
  clear hK K
  clear all
  refine q_then_n ?_
  refine awp_ifB (by simp <;> rfl) ?_
  refine ⟨fun c2 => ?_, fun c2 => ?_⟩
  ·try simp at c2
   refine awp_skip ?_
   refine q_then_n ?_
   refine awp_seq ?_
   refine awp_block ?_
   refine awp_seq ?_
   refine awp_regionA (c := ⟨[4, 13], [], [], [18, 24, 33, 38, 41], []⟩) (by simp only [lite_cons, lite_nil] <;> rfl) fun all hall K hK => ?_
   clear hall
   simp (maxSteps := 1000000) (disch := first | omega | assumption) [hcs, wtclear]
   repeat' refine And.intro ?_ ?_
   all_goals first | omega | exact rfl | skip
   refine hK _ ?_
   clear hK K
   clear all
   refine q_then_n ?_
   refine awp_seq ?_
   refine awp_keep [0, 1, 4, 5, 6, 7] (by simp only [keepL_nil, keepL_cons, envOf_sel, envOf_nil, sel_t, sel_f, Nat.reduceBEq] <;> rfl) ?_
   refine awp_regionA (c := ⟨[4, 13], [], [], [18, 24, 33, 38, 41], []⟩) (by simp only [lite_cons, lite_nil] <;> rfl) fun all hall K hK => ?_
   clear hall
   refine vcL_split 2 fun K' hK' => ?_
   simp (maxSteps := 1000000) (disch := first | omega | assumption) [hcs, wtclear]
   repeat' refine And.intro ?_ ?_
   all_goals first | omega | exact rfl | skip
   refine hK' _ ?_
   clear hK' K'
   simp only [List.drop_succ_cons, List.drop_zero]
   refine vcL_step fun K' hK' => ?_
   simp (maxSteps := 1000000) (disch := first | omega | assumption) [hcs, wtclear]
   simp only [ar_at p l j (by omega)]
   refine ⟨hcp, ?_⟩
   refine Ct.mono (Ct.of_le (hp l[j] _) (by first | exact leArgs_of rfl | (refine leArgs_of ?_; simp; done) | (refine leArgs_of ?_; simp; rfl) | (simp [leArgs, leArg]; done)) rfl) ?_
   rintro _ _ ⟨hr9, hs9⟩
   subst hr9
   replace hs9 := hs9.symm
   subst hs9
   refine hK' _ ?_
   clear hK' K'
   simp (maxSteps := 1000000) (disch := first | omega | assumption) [hcs, wtclear]
   repeat' refine And.intro ?_ ?_
   all_goals first | omega | exact rfl | skip
   refine hK _ ?_
   clear hK K
   clear all
   refine q_then_n ?_
   refine awp_ifB (by simp <;> rfl) ?_
   refine ⟨fun c3 => ?_, fun c3 => ?_⟩
   ·try simp at c3
    refine awp_seq ?_
    refine awp_regionA (c := ⟨[4, 13], [], [], [18, 24, 33, 38, 41], []⟩) (by simp only [lite_cons, lite_nil] <;> rfl) fun all hall K hK => ?_
    clear hall
    simp (maxSteps := 1000000) (disch := first | omega | assumption) [hcs, wtclear]
    repeat' refine And.intro ?_ ?_
    all_goals first | omega | exact rfl | skip
    refine hK _ ?_
    clear hK K
    clear all
    refine q_then_n ?_
    refine awp_keep [0, 1, 4, 5, 6] (by simp only [keepL_nil, keepL_cons, envOf_sel, envOf_nil, sel_t, sel_f, Nat.reduceBEq] <;> rfl) ?_
    refine awp_regionA (c := ⟨[4, 13], [], [], [18, 24, 33, 38, 41], []⟩) (by simp only [lite_cons, lite_nil] <;> rfl) fun all hall K hK => ?_
    clear hall
    simp (maxSteps := 1000000) (disch := first | omega | assumption) [hcs, wtclear]
    repeat' refine And.intro ?_ ?_
    all_goals first | omega | exact rfl | skip
    refine hK _ ?_
    clear hK K
    clear all
    refine q_block_n ?_
    refine q_then_n ?_
    refine awp_regionA (c := ⟨[4, 13], [], [], [18, 24, 33, 38, 41], []⟩) (by simp only [lite_cons, lite_nil] <;> rfl) fun all hall K hK => ?_
    clear hall
    simp (maxSteps := 1000000) (disch := first | omega | assumption) [hcs, wtclear]
    repeat' refine And.intro ?_ ?_
    all_goals first | omega | exact rfl | skip
    refine hK _ ?_
    clear hK K
    clear all
    refine q_round (j + 1) ?_ ?_ (weak_mkA rfl ?_ (by simp) (by first | (simp [← (ar_no p l j (by omega) c3).1]; done) | (simp [(ar_no p l j (by omega) c3).1]; done)))
    ·omega
    ·try dsimp only
     omega
    ·simp (maxSteps := 1000000) (disch := first | omega | assumption) [hcs, wtclear, (ar_no p l j (by omega) c3).2]
   ·try simp at c3
    refine awp_skip ?_
    refine q_block_n ?_
    refine q_then_n ?_
    refine awp_regionA (c := ⟨[4, 13], [], [], [18, 24, 33, 38, 41], []⟩) (by simp only [lite_cons, lite_nil] <;> rfl) fun all hall K hK => ?_
    clear hall
    simp (maxSteps := 1000000) (disch := first | omega | assumption) [hcs, wtclear]
    repeat' refine And.intro ?_ ?_
    all_goals first | omega | exact rfl | skip
    refine hK _ ?_
    clear hK K
    clear all
    refine q_round (j + 1) ?_ ?_ (weak_mkA rfl ?_ (by simp) (by simp [(ar_yes p l j (by omega) c3).1]))
    ·omega
    ·try dsimp only
     omega
    ·simp (maxSteps := 1000000) (disch := first | omega | assumption) [hcs, wtclear, (ar_yes p l j (by omega) c3).2]
  ·try simp at c2
   refine awp_exit ?_
   refine q_then_e ?_
   refine q_loop_e ?_
   refine q_block_e ?_
   refine q_then_n ?_
   refine awp_seq ?_
   refine awp_regionA (c := ⟨[4, 13], [], [], [18, 24, 33, 38, 41], []⟩) (by simp only [lite_cons, lite_nil] <;> rfl) fun all hall K hK => ?_
   clear hall
   simp (maxSteps := 1000000) (disch := first | omega | assumption) [hcs, wtclear]
   repeat' refine And.intro ?_ ?_
   all_goals first | omega | exact rfl | skip
   refine hK _ ?_
   clear hK K
   clear all
   refine q_then_n ?_
   refine awp_seq ?_
   refine awp_keep [0, 4, 5] (by simp only [keepL_nil, keepL_cons, envOf_sel, envOf_nil, sel_t, sel_f, Nat.reduceBEq] <;> rfl) ?_
   refine awp_regionA (c := ⟨[4, 13], [], [], [18, 24, 33, 38, 41], []⟩) (by simp only [lite_cons, lite_nil] <;> rfl) fun all hall K hK => ?_
   clear hall
   simp (maxSteps := 1000000) (disch := first | omega | assumption) [hcs, wtclear]
   repeat' refine And.intro ?_ ?_
   all_goals first | omega | exact rfl | skip
   refine hK _ ?_
   clear hK K
   clear all
   refine q_then_n ?_
   refine awp_closeX 4 4 σ.length (kp p l j).length cap ((kp p l j).map d_Wt) ((kp p l j).flatMap cw ++ (zerosD #[.int .i64 0, .int .i64 0, .int .i64 0, .int .i64 0] (l.length - (kp p l j).length) ++ rest)) (by simp <;> rfl) (by simp) (by omega) (by simp [hrest, zerosD_len (z := #[.int .i64 0, .int .i64 0, .int .i64 0, .int .i64 0]) (k := 4) rfl]; omega) (by simp) (wt_arr _) (by rw [wt_flat]; exact List.prefix_append _ _) ?_
   simp only [set_last]
   refine awp_ret ?_
   simp [endQ]
   unfold kp; rw [List.take_of_length_le (by omega)]
theorem wtdelete_fn (l : List Wt) (p : Wt → Bool) (f : FuncId) (caps : List D) (σ : List (List D)) (hl : l.length ≤ 1000000) (hcp : ∀ d ∈ caps, d.plain = true) (hcs : caps.map D.strip = caps) (hp : ∀ x τ, Ct Try.prog f (d_Wt x :: caps) τ (fun r τ' => r = .bool (p x) ∧ τ' = τ)) :
  Ct Try.prog 77 [.xs 4 (l.map d_Wt), .clo (.func f) [] caps] σ (fun r σ' => r = .xs 4 ((l.filter fun x => !p x).map d_Wt) ∧ σ' = σ) :=
 (wtdelete0_fn l p f caps σ hl hcp hcs hp).trim fun r σ' ⟨hr, hs⟩ => ⟨σ, [[]], hs, rfl, by rw [hr]; exact wt_sc _ _, fun n cs h => .inl h, hr, rfl⟩
theorem qcan1_fn (w : Wt) (n : Int) (σ : List (List D))  : Ct Try.prog 78 [d_Wt w, .adr [D.int n]] σ (fun r σ' => r = .bool (decide (w.token = n)) ∧ σ' = σ) := by
 refine fn_start (rs := [.tmp 3]) Try.func78 rfl rfl Try.ntmps78 Try.results78 (by simp) ?_
 simp only [argEnv]
 refine awp_seq ?_
 refine awp_regionA (c := ⟨[], [2], [], [], []⟩) (by simp only [lite_cons, lite_nil] <;> rfl) fun all hall K hK => ?_
 clear hall
 simp (maxSteps := 1000000) (disch := first | omega | assumption)
 repeat' refine And.intro ?_ ?_
 all_goals first | omega | exact rfl | skip
 refine hK _ ?_
 clear hK K
 clear all
 refine q_then_n ?_
 refine awp_seq ?_
 refine awp_regionA (c := ⟨[], [2], [], [], []⟩) (by simp only [lite_cons, lite_nil] <;> rfl) fun all hall K hK => ?_
 clear hall
 simp (maxSteps := 1000000) (disch := first | omega | assumption)
 repeat' refine And.intro ?_ ?_
 all_goals first | omega | exact rfl | skip
 refine hK _ ?_
 clear hK K
 clear all
 refine q_then_n ?_
 refine awp_ret ?_
 simp (maxSteps := 1000000) (disch := first | omega | assumption) [endQ]
def qdel (n : Int) (l : List Wt) : List Wt := l.filter fun w => !decide (w.token = n)
def qcan (q : Q2) (n : Int) (k : Nat) : Q2 := ⟨q.most, q.last, if 1 ≤ k then qdel n q.w0 else q.w0, if 2 ≤ k then qdel n q.w1 else q.w1⟩
theorem qdel_len (n : Int) (l : List Wt) : (qdel n l).length ≤ l.length := List.length_filter_le _ _
theorem qcan_ok {q : Q2} (h : Q2ok q) (n : Int) (k : Nat) : Q2ok (qcan q n k) := by
 obtain ⟨h0, h1, h2, h3, h4⟩ := h
 have a := qdel_len n q.w0
 have b := qdel_len n q.w1
 refine ⟨?_, ?_, h2, ?_, ?_⟩
 ·unfold qcan; dsimp only; split <;> omega
 ·unfold qcan; dsimp only; split <;> omega
 ·intro w hw; unfold qcan at hw; dsimp only at hw
  split at hw
  ·exact h3 w (List.mem_filter.1 hw).1
  ·exact h3 w hw
 ·intro w hw; unfold qcan at hw; dsimp only at hw
  split at hw
  ·exact h4 w (List.mem_filter.1 hw).1
  ·exact h4 w hw
theorem qx_ld (a b : D) (w0 w1 : List Wt) (k : Nat) (h : k < 2) : ldD false 1 (List.drop (2 + k) [a, b, .xs 4 (w0.map d_Wt), .xs 4 (w1.map d_Wt)]) = some (.xs 4 ((if k = 0 then w0 else w1).map d_Wt)) := by
 match k, h with
 | 0, _ => rfl
 | 1, _ => rfl
theorem qx_sp (a b x y v : D) (k : Nat) (h : k < 2) : splice [a, b, x, y] (2 + k) [v] = [a, b, if k = 0 then v else x, if k = 0 then y else v] := by
 match k, h with
 | 0, _ => rfl
 | 1, _ => rfl
theorem qcancel_fn (m : Nat) (q : Q2) (n : Int) (σ : List (List D)) (hq : σ[m]? = some (dqq q)) (hk : Q2ok q) : Ct Try.prog 67 [.ref m 0, D.int n] σ (fun r σ' => r = .bool (decide (qlen (qcan q n 2) < qlen q)) ∧ σ' = σ.set m (dqq (qcan q n 2))) := by
 refine fn_start (rs := [.tmp 4]) Try.func67 rfl rfl Try.ntmps67 Try.results67 (by simp) ?_
 simp only [argEnv]
 have hqc : qlen q = ((q.w0.length + q.w1.length : Nat) : Int) := rfl
 refine awp_seq ?_
 refine awp_regionA (c := ⟨[19, 21], [3], [], [], []⟩) (by simp only [lite_cons, lite_nil] <;> rfl) fun all hall K hK => ?_
 clear hall
 simp (maxSteps := 1000000) (disch := first | omega | assumption) [qx_ld, qx_sp, hq, og_get hq, og_app hq, og_app0 hq, og_set hq, og_set0 hq, og_last, og_setlast, og_last0, og_setlast0, og_last1, og_setlast1, og_last2, og_setlast2]
 repeat' refine And.intro ?_ ?_
 all_goals first | omega | exact rfl | skip
 refine hK _ ?_
 clear hK K
 clear all
 refine q_then_n ?_
 refine awp_seq ?_
 refine awp_regionA (c := ⟨[19, 21], [3], [], [], []⟩) (by simp only [lite_cons, lite_nil] <;> rfl) fun all hall K hK => ?_
 clear hall
 refine vcL_split 1 fun K' hK' => ?_
 simp (maxSteps := 1000000) (disch := first | omega | assumption) [qx_ld, qx_sp, hq, og_get hq, og_app hq, og_app0 hq, og_set hq, og_set0 hq, og_last, og_setlast, og_last0, og_setlast0, og_last1, og_setlast1, og_last2, og_setlast2]
 repeat' refine And.intro ?_ ?_
 all_goals first | omega | exact rfl | skip
 refine hK' _ ?_
 clear hK' K'
 simp only [List.drop_succ_cons, List.drop_zero]
 refine vcL_step fun K' hK' => ?_
 simp (maxSteps := 1000000) (disch := first | omega | assumption) [qx_ld, qx_sp, hq, og_get hq, og_app hq, og_app0 hq, og_set hq, og_set0 hq, og_last, og_setlast, og_last0, og_setlast0, og_last1, og_setlast1, og_last2, og_setlast2]
 refine Ct.mono (Ct.of_le (qlen_fn m q _ hq hk) (by first | exact leArgs_of rfl | (refine leArgs_of ?_; simp; done) | (refine leArgs_of ?_; simp; rfl) | (simp [leArgs, leArg]; done)) rfl) ?_
 rintro _ _ ⟨hr9, hs9⟩
 subst hr9
 replace hs9 := hs9.symm
 subst hs9
 refine hK' _ ?_
 clear hK' K'
 simp (maxSteps := 1000000) (disch := first | omega | assumption) [qx_ld, qx_sp, hq, og_get hq, og_app hq, og_app0 hq, og_set hq, og_set0 hq, og_last, og_setlast, og_last0, og_setlast0, og_last1, og_setlast1, og_last2, og_setlast2]
 repeat' refine And.intro ?_ ?_
 all_goals first | omega | exact rfl | skip
 refine hK _ ?_
 clear hK K
 clear all
 refine q_then_n ?_
 refine awp_seq ?_
 refine awp_seq ?_
 refine awp_regionA (c := ⟨[19, 21], [3], [], [], []⟩) (by simp only [lite_cons, lite_nil] <;> rfl) fun all hall K hK => ?_
 clear hall
 simp (maxSteps := 1000000) (disch := first | omega | assumption) [qx_ld, qx_sp, hq, og_get hq, og_app hq, og_app0 hq, og_set hq, og_set0 hq, og_last, og_setlast, og_last0, og_setlast0, og_last1, og_setlast1, og_last2, og_setlast2]
 repeat' refine And.intro ?_ ?_
 all_goals first | omega | exact rfl | skip
 refine hK _ ?_
 clear hK K
 clear all
 refine q_then_n ?_
 refine awp_block ?_
 refine awp_keep [0, 3, 4, 5, 9] (by simp only [keepL_nil, keepL_cons, envOf_sel, envOf_nil, sel_t, sel_f, Nat.reduceBEq] <;> rfl) ?_
 refine awp_loopM (fun (k : Nat) => [(9, .d (.v (.int .i64 (k : Int))))]) (fun (k : Nat) => []) (fun (k : Nat) => [(m, dqq (qcan q n k))]) [6, 9, 10, 11, 12, 13, 14, 15, 16, 17, 18, 19, 20, 21, 22, 23, 24, 25] (fun (k : Nat) => k ≤ 2) (fun (k : Nat) => 2 - k) (0) (by simp <;> rfl) ?_ (by simp) (by simp [qcan]; exact obj_set_same hq) ?_ ?_
 ·simp
 ·simp
 rintro k hk2
 simp only [List.cons_append, List.nil_append, setL_nil, setL_cons, List.set_cons_zero, List.set_cons_succ]
 refine awp_seq ?_
 refine awp_regionA (c := ⟨[19, 21], [3], [], [], []⟩) (by simp only [lite_cons, lite_nil] <;> rfl) fun all hall K hK => ?_
 clear hall
 simp (maxSteps := 1000000) (disch := first | omega | assumption) [qx_ld, qx_sp, hq, og_get hq, og_app hq, og_app0 hq, og_set hq, og_set0 hq, og_last, og_setlast, og_last0, og_setlast0, og_last1, og_setlast1, og_last2, og_setlast2]
 repeat' refine And.intro ?_ ?_
 all_goals first | omega | exact rfl | skip
 refine hK _ ?_
 clear hK K
 clear all
 refine q_then_n ?_
 refine awp_seq ?_
 refine awp_ifB (by simp <;> rfl) ?_
 refine ⟨fun c1 => ?_, fun c1 => ?_⟩
 ·try simp at c1
  refine awp_skip ?_
  refine q_then_n ?_
  refine awp_seq ?_
  refine awp_block ?_
  refine awp_seq ?_
  refine awp_regionA (c := ⟨[19, 21], [3], [], [], []⟩) (by simp only [lite_cons, lite_nil] <;> rfl) fun all hall K hK => ?_
  clear hall
  simp (maxSteps := 1000000) (disch := first | omega | assumption) [qx_ld, qx_sp, hq, og_get hq, og_app hq, og_app0 hq, og_set hq, og_set0 hq, og_last, og_setlast, og_last0, og_setlast0, og_last1, og_setlast1, og_last2, og_setlast2]
  repeat' refine And.intro ?_ ?_
  all_goals first | omega | exact rfl | skip
  refine hK _ ?_
  clear hK K
  clear all
  refine q_then_n ?_
  refine awp_keep [0, 3, 4, 5, 6, 9] (by simp only [keepL_nil, keepL_cons, envOf_sel, envOf_nil, sel_t, sel_f, Nat.reduceBEq] <;> rfl) ?_
  refine awp_drawA (c := ⟨[19, 21], [3], [], [], []⟩) [.op ⟨false, false, false, false⟩, .op ⟨false, false, false, false⟩, .op ⟨false, false, false, false⟩, .op ⟨false, false, false, false⟩, .op ⟨false, false, false, false⟩, .op ⟨false, false, false, false⟩, .op ⟨false, false, false, false⟩, .op ⟨false, false, true, true⟩, .op ⟨false, false, false, false⟩, .pureT, .op ⟨false, false, false, false⟩, .op ⟨false, false, false, false⟩, .op ⟨false, false, false, false⟩, .op ⟨false, false, true, true⟩] (by kernel_rfl) (by kernel_rfl) (by simp only [lite_cons, lite_nil] <;> rfl) fun all hall K hK => ?_
  clear hall
  refine vcDL_split 8 (by simp) fun K' hK' => ?_
  simp (maxSteps := 1000000) (disch := first | omega | assumption) [qx_ld, qx_sp, hq, og_get hq, og_app hq, og_app0 hq, og_set hq, og_set0 hq, og_last, og_setlast, og_last0, og_setlast0, og_last1, og_setlast1, og_last2, og_setlast2]
  repeat' refine And.intro ?_ ?_
  all_goals first | omega | exact rfl | skip
  refine hK' _ ?_
  clear hK' K'
  simp only [List.drop_succ_cons, List.drop_zero]
  refine vcDL_split 1 (by simp) fun K' hK' => ?_
  simp (maxSteps := 1000000) (disch := first | omega | assumption) [qx_ld, qx_sp, hq, og_get hq, og_app hq, og_app0 hq, og_set hq, og_set0 hq, og_last, og_setlast, og_last0, og_setlast0, og_last1, og_setlast1, og_last2, og_setlast2]
  repeat' refine And.intro ?_ ?_
  all_goals first | omega | exact rfl | skip
  refine hK' _ ?_
  clear hK' K'
  simp only [List.drop_succ_cons, List.drop_zero]
  refine vcDL_step fun K' hK' => ?_
  simp (maxSteps := 1000000) (disch := first | omega | assumption) [qx_ld, qx_sp, hq, og_get hq, og_app hq, og_app0 hq, og_set hq, og_set0 hq, og_last, og_setlast, og_last0, og_setlast0, og_last1, og_setlast1, og_last2, og_setlast2]
  refine ⟨_, fun σ => Ct.of_le (wtdelete_fn (if k = 0 then (qcan q n k).w0 else (qcan q n k).w1) (fun w => decide (w.token = n)) 78 [.adr [D.int n]] _ (by have h5 := (qcan_ok hk n k).h0; have h6 := (qcan_ok hk n k).h1; split <;> omega) (by simp) (by simp) (fun x τ => qcan1_fn x n τ)) (by first | exact leArgs_of rfl | (refine leArgs_of ?_; simp; done) | (refine leArgs_of ?_; simp; rfl) | (simp [leArgs, leArg]; done)) rfl, ?_⟩
  refine hK' _ ?_
  clear hK' K'
  simp (maxSteps := 1000000) (disch := first | omega | assumption) [qx_ld, qx_sp, hq, og_get hq, og_app hq, og_app0 hq, og_set hq, og_set0 hq, og_last, og_setlast, og_last0, og_setlast0, og_last1, og_setlast1, og_last2, og_setlast2]
  repeat' refine And.intro ?_ ?_
  all_goals first | omega | exact rfl | skip
  refine hK _ ?_
  clear hK K
  clear all
  refine q_block_n ?_
  refine q_then_n ?_
  refine awp_keep [0, 3, 4, 5, 9] (by simp only [keepL_nil, keepL_cons, envOf_sel, envOf_nil, sel_t, sel_f, Nat.reduceBEq] <;> rfl) ?_
  refine awp_regionA (c := ⟨[19, 21], [3], [], [], []⟩) (by simp only [lite_cons, lite_nil] <;> rfl) fun all hall K hK => ?_
  clear hall
  simp (maxSteps := 1000000) (disch := first | omega | assumption) [qx_ld, qx_sp, hq, og_get hq, og_app hq, og_app0 hq, og_set hq, og_set0 hq, og_last, og_setlast, og_last0, og_setlast0, og_last1, og_setlast1, og_last2, og_setlast2]
  repeat' refine And.intro ?_ ?_
  all_goals first | omega | exact rfl | skip
  refine hK _ ?_
  clear hK K
  clear all
  refine q_round (k + 1) ?_ ?_ (weak_mkA rfl ?_ (by simp) (by rcases (by omega : k = 0 ∨ k = 1) with rfl | rfl <;> simp [qcan, qdel]))
  ·omega
  ·try dsimp only
   omega
  ·simp (maxSteps := 1000000) (disch := first | omega | assumption) [qx_ld, qx_sp, hq, og_get hq, og_app hq, og_app0 hq, og_set hq, og_set0 hq, og_last, og_setlast, og_last0, og_setlast0, og_last1, og_setlast1, og_last2, og_setlast2]
 ·try simp at c1
  obtain rfl : k = 2 := by omega
  refine awp_exit ?_
  refine q_then_e ?_
  refine q_loop_e ?_
  refine q_block_e ?_
  refine q_then_n ?_
  refine awp_seq ?_
  refine awp_regionA (c := ⟨[19, 21], [3], [], [], []⟩) (by simp only [lite_cons, lite_nil] <;> rfl) fun all hall K hK => ?_
  clear hall
  refine vcL_split 1 fun K' hK' => ?_
  simp (maxSteps := 1000000) (disch := first | omega | assumption) [qx_ld, qx_sp, hq, og_get hq, og_app hq, og_app0 hq, og_set hq, og_set0 hq, og_last, og_setlast, og_last0, og_setlast0, og_last1, og_setlast1, og_last2, og_setlast2]
  repeat' refine And.intro ?_ ?_
  all_goals first | omega | exact rfl | skip
  refine hK' _ ?_
  clear hK' K'
  simp only [List.drop_succ_cons, List.drop_zero]
  refine vcL_step fun K' hK' => ?_
  simp (maxSteps := 1000000) (disch := first | omega | assumption) [qx_ld, qx_sp, hq, og_get hq, og_app hq, og_app0 hq, og_set hq, og_set0 hq, og_last, og_setlast, og_last0, og_setlast0, og_last1, og_setlast1, og_last2, og_setlast2]
  refine Ct.mono (Ct.of_le (qlen_fn m (qcan q n 2) _ (og_get hq _) (qcan_ok hk n 2)) (by first | exact leArgs_of rfl | (refine leArgs_of ?_; simp; done) | (refine leArgs_of ?_; simp; rfl) | (simp [leArgs, leArg]; done)) rfl) ?_
  rintro _ _ ⟨hr9, hs9⟩
  subst hr9
  replace hs9 := hs9.symm
  subst hs9
  refine hK' _ ?_
  clear hK' K'
  simp (maxSteps := 1000000) (disch := first | omega | assumption) [qx_ld, qx_sp, hq, og_get hq, og_app hq, og_app0 hq, og_set hq, og_set0 hq, og_last, og_setlast, og_last0, og_setlast0, og_last1, og_setlast1, og_last2, og_setlast2]
  repeat' refine And.intro ?_ ?_
  all_goals first | omega | exact rfl | skip
  refine hK _ ?_
  clear hK K
  clear all
  refine q_then_n ?_
  refine awp_ret ?_
  simp [endQ]
def wdec (w : Wt) : Wt := ⟨w.token, w.left - 1, w.job⟩
def decs (l : List Wt) (i : Nat) : List Wt := (l.take i).map wdec ++ l.drop i
theorem decs_len (l : List Wt) (i : Nat) : (decs l i).length = l.length := by simp [decs]; omega
theorem decs_zero (l : List Wt) : decs l 0 = l := rfl
theorem decs_all (l : List Wt) : decs l l.length = l.map wdec := by simp [decs]
theorem decs_get (l : List Wt) (i : Nat) (h : i < l.length) : (decs l i)[i]'(by rw [decs_len]; exact h) = l[i] := by
 simp only [decs]
 rw [List.getElem_append_right (by simp; omega)]
 simp [Nat.min_eq_left (Nat.le_of_lt h)]
theorem decs_set (l : List Wt) (i : Nat) (h : i < l.length) : (decs l i).set i (wdec l[i]) = decs l (i + 1) := by
 unfold decs
 rw [List.set_append_right _ _ (by simp; omega), take_snoc l i h, List.map_append, List.append_assoc]
 have : i - (List.map wdec (List.take i l)).length = 0 := by simp; omega
 rw [this, List.drop_eq_getElem_cons h]
 rfl
@[simp high] theorem wt_left (l : List Wt) (rest : List D) (i : Nat) (h : i < l.length) : ldD false 1 ((l.flatMap cw ++ rest).drop (i * 4 + 1)) = some (D.int l[i].left) := rows_ld1 (f := cw) (k := 4) (fun _ => rfl) l rest i 1 h (by decide)
@[simp high] theorem wt_setleft (l : List Wt) (rest : List D) (i : Nat) (v : Int) (h : i < l.length) : splice (l.flatMap cw ++ rest) (i * 4 + 1) [D.int v] = (l.set i ⟨l[i].token, v, l[i].job⟩).flatMap cw ++ rest := rows_splice1 (f := cw) (k := 4) (fun _ => rfl) l rest i 1 (D.int v) ⟨l[i].token, v, l[i].job⟩ h (by decide) rfl
def qnext (q : Q2) : Q2 := ⟨q.most, q.last, q.w1.map wdec, []⟩
theorem ifl {α : Type} {p : Prop} [Decidable p] (h : p) (a b : α) : (if p then a else b) = a := if_pos h
theorem qframe0_fn (m : Nat) (q : Q2) (σ : List (List D)) (hq : σ[m]? = some (dqq q)) (hk : Q2ok q) : Ct Try.prog 45 [.ref m 0] σ (fun r σ' => r = .xs 4 ((q.w0.map wdec).map d_Wt) ∧ ∃ J, σ' = σ.set m (dqq (qnext q)) ++ J) := by
 refine fn_start (rs := [.tmp 2]) Try.func45 rfl rfl Try.ntmps45 Try.results45 (by simp) ?_
 simp only [argEnv]
 obtain ⟨h0, h1, h2, h3, h4⟩ := hk
 refine awp_seq ?_
 refine awp_regionA (c := ⟨[2, 3, 11, 52], [], [], [38, 44, 48], [15, 19, 20, 1000020]⟩) (by simp only [lite_cons, lite_nil] <;> rfl) fun all hall K hK => ?_
 clear hall
 simp (maxSteps := 1000000) (disch := first | omega | assumption) [decs_get, hq, og_get hq, og_app hq, og_app0 hq, og_set hq, og_set0 hq, og_last, og_setlast, og_last0, og_setlast0, og_last1, og_setlast1, og_last2, og_setlast2]
 repeat' refine And.intro ?_ ?_
 all_goals first | omega | exact rfl | skip
 refine hK _ ?_
 clear hK K
 clear all
 refine q_then_n ?_
 refine awp_seq ?_
 refine awp_regionA (c := ⟨[2, 3, 11, 52], [], [], [38, 44, 48], [15, 19, 20, 1000020]⟩) (by simp only [lite_cons, lite_nil] <;> rfl) fun all hall K hK => ?_
 clear hall
 simp (maxSteps := 1000000) (disch := first | omega | assumption) [decs_get, hq, og_get hq, og_app hq, og_app0 hq, og_set hq, og_set0 hq, og_last, og_setlast, og_last0, og_setlast0, og_last1, og_setlast1, og_last2, og_setlast2]
 repeat' refine And.intro ?_ ?_
 all_goals first | omega | exact rfl | skip
 refine hK _ ?_
 clear hK K
 clear all
 refine q_then_n ?_
 refine awp_seq ?_
 refine awp_drawA (c := ⟨[2, 3, 11, 52], [], [], [38, 44, 48], [15, 19, 20, 1000020]⟩) [.op ⟨false, false, false, false⟩, .op ⟨false, false, false, false⟩, .op ⟨false, false, false, false⟩, .op ⟨false, false, false, false⟩, .op ⟨false, false, false, false⟩, .op ⟨false, false, false, false⟩, .op ⟨false, false, false, false⟩, .op ⟨false, false, false, false⟩, .op ⟨false, false, true, true⟩] (by kernel_rfl) (by kernel_rfl) (by simp only [lite_cons, lite_nil] <;> rfl) fun all hall K hK => ?_
 clear hall
 refine vcDL_split 8 (by simp) fun K' hK' => ?_
 simp (maxSteps := 1000000) (disch := first | omega | assumption) [decs_get, hq, og_get hq, og_app hq, og_app0 hq, og_set hq, og_set0 hq, og_last, og_setlast, og_last0, og_setlast0, og_last1, og_setlast1, og_last2, og_setlast2]
 repeat' refine And.intro ?_ ?_
 all_goals first | omega | exact rfl | skip
 refine hK' _ ?_
 clear hK' K'
 simp only [List.drop_succ_cons, List.drop_zero]
 simp (maxSteps := 1000000) (disch := first | omega | assumption) [decs_get, hq, og_get hq, og_app hq, og_app0 hq, og_set hq, og_set0 hq, og_last, og_setlast, og_last0, og_setlast0, og_last1, og_setlast1, og_last2, og_setlast2]
 repeat' refine And.intro ?_ ?_
 all_goals first | omega | exact rfl | skip
 refine hK _ ?_
 clear hK K
 clear all
 refine q_then_n ?_
 refine awp_seq ?_
 refine awp_keep [0, 2, 3] (by simp only [keepL_nil, keepL_cons, envOf_sel, envOf_nil, sel_t, sel_f, Nat.reduceBEq] <;> rfl) ?_
 refine awp_regionA (c := ⟨[2, 3, 11, 52], [], [], [38, 44, 48], [15, 19, 20, 1000020]⟩) (by simp only [lite_cons, lite_nil] <;> rfl) fun all hall K hK => ?_
 clear hall
 simp (maxSteps := 1000000) (disch := first | omega | assumption) [decs_get, hq, og_get hq, og_app hq, og_app0 hq, og_set hq, og_set0 hq, og_last, og_setlast, og_last0, og_setlast0, og_last1, og_setlast1, og_last2, og_setlast2]
 repeat' refine And.intro ?_ ?_
 all_goals first | omega | exact rfl | skip
 refine hK _ ?_
 clear hK K
 clear all
 refine q_then_n ?_
 refine awp_seq ?_
 refine awp_seq ?_
 refine awp_toXO m 3 4 (og_get hq _) (by simp) ?_
 simp only [List.set_set, List.set_cons_zero, List.set_cons_succ]
 refine awp_openXO m 2 4 (og_get hq _) (by simp <;> rfl) (by decide) fun cap1 rest1 hcap1 hcm1 hrest1 hes1 => ?_
 simp only [List.length_map, List.set_set, List.length_set, List.set_cons_zero, List.set_cons_succ] at hcap1 hrest1 ⊢
 refine awp_openX 3 4 (by simp <;> rfl) (by decide) fun cap0 rest0 hcap0 hcm0 hrest0 hk0 hes0 => ?_
 simp only [List.length_map, List.length_set, List.length_append, List.append_assoc, List.cons_append, List.nil_append, List.length_singleton] at hcap0 hrest0 ⊢
 rw [wt_flat, wt_flat]
 refine awp_regionA (c := ⟨[2, 3, 11, 52], [], [], [38, 44, 48], [15, 19, 20, 1000020]⟩) (by simp only [lite_cons, lite_nil] <;> rfl) fun all hall K hK => ?_
 clear hall
 refine vcL_split 8 fun K' hK' => ?_
 simp (maxSteps := 1000000) (disch := first | omega | assumption) [decs_get, hq, og_get hq, og_app hq, og_app0 hq, og_set hq, og_set0 hq, og_last, og_setlast, og_last0, og_setlast0, og_last1, og_setlast1, og_last2, og_setlast2]
 repeat' refine And.intro ?_ ?_
 all_goals first | omega | exact rfl | skip
 refine hK' _ ?_
 clear hK' K'
 simp only [List.drop_succ_cons, List.drop_zero]
 simp (maxSteps := 1000000) (disch := first | omega | assumption) [decs_get, hq, og_get hq, og_app hq, og_app0 hq, og_set hq, og_set0 hq, og_last, og_setlast, og_last0, og_setlast0, og_last1, og_setlast1, og_last2, og_setlast2]
 repeat' refine And.intro ?_ ?_
 all_goals first | omega | exact rfl | skip
 refine hK _ ?_
 clear hK K
 clear all
 refine q_then_n ?_
 refine awp_block ?_
 refine awp_keep [2, 3, 31, 32, 33] (by simp only [keepL_nil, keepL_cons, envOf_sel, envOf_nil, sel_t, sel_f, Nat.reduceBEq] <;> rfl) ?_
 refine awp_loopM (fun (k : Nat) => [(33, .d (.v (.int .i64 (k : Int))))]) (fun (k : Nat) => []) (fun (k : Nat) => [(σ.length, (decs q.w1 (if 2 ≤ k then q.w1.length else 0)).flatMap cw ++ rest1), (σ.length + 1, (decs q.w0 (if 1 ≤ k then q.w0.length else 0)).flatMap cw ++ rest0)]) [5, 6, 33, 34, 35, 36, 37, 38, 39, 40, 41, 42, 43, 44, 45, 46, 47, 48, 49, 50, 51] (fun (k : Nat) => k ≤ 2) (fun (k : Nat) => 2 - k) (0) (by simp <;> rfl) ?_ (by simp) (by simp [decs_zero]) ?_ ?_
 ·simp
 ·simp
 rintro k hk
 simp only [List.cons_append, List.nil_append, setL_nil, setL_cons, List.set_cons_zero, List.set_cons_succ]
 rcases (by omega : k = 0 ∨ k = 1 ∨ k = 2) with rfl | rfl | rfl
 ·try simp only []
  refine awp_seq ?_
  refine awp_regionA (c := ⟨[2, 3, 11, 52], [], [], [38, 44, 48], [15, 19, 20, 1000020]⟩) (by simp only [lite_cons, lite_nil] <;> rfl) fun all hall K hK => ?_
  clear hall
  simp (maxSteps := 1000000) (disch := first | omega | assumption) [decs_get, hq, og_get hq, og_app hq, og_app0 hq, og_set hq, og_set0 hq, og_last, og_setlast, og_last0, og_setlast0, og_last1, og_setlast1, og_last2, og_setlast2]
  repeat' refine And.intro ?_ ?_
  all_goals first | omega | exact rfl | skip
  refine hK _ ?_
  clear hK K
  clear all
  refine q_then_n ?_
  refine awp_seq ?_
  refine awp_cond (t := true) (by simp) (fun _ => ?_) (fun h => by cases h)
  refine awp_skip ?_
  refine q_then_n ?_
  refine awp_seq ?_
  refine awp_block ?_
  refine awp_seq ?_
  refine awp_regionA (c := ⟨[2, 3, 11, 52], [], [], [38, 44, 48], [15, 19, 20, 1000020]⟩) (by simp only [lite_cons, lite_nil] <;> rfl) fun all hall K hK => ?_
  clear hall
  simp (maxSteps := 1000000) (disch := first | omega | assumption) [decs_get, hq, og_get hq, og_app hq, og_app0 hq, og_set hq, og_set0 hq, og_last, og_setlast, og_last0, og_setlast0, og_last1, og_setlast1, og_last2, og_setlast2]
  repeat' refine And.intro ?_ ?_
  all_goals first | omega | exact rfl | skip
  refine hK _ ?_
  clear hK K
  clear all
  refine q_then_n ?_
  refine awp_seq ?_
  refine awp_regionA (c := ⟨[2, 3, 11, 52], [], [], [38, 44, 48], [15, 19, 20, 1000020]⟩) (by simp only [lite_cons, lite_nil] <;> rfl) fun all hall K hK => ?_
  clear hall
  simp (maxSteps := 1000000) (disch := first | omega | assumption) [decs_get, hq, og_get hq, og_app hq, og_app0 hq, og_set hq, og_set0 hq, og_last, og_setlast, og_last0, og_setlast0, og_last1, og_setlast1, og_last2, og_setlast2]
  repeat' refine And.intro ?_ ?_
  all_goals first | omega | exact rfl | skip
  refine hK _ ?_
  clear hK K
  clear all
  refine q_then_n ?_
  refine awp_block ?_
  refine awp_keep [2, 3, 5, 31, 32, 33, 38, 39] (by simp only [keepL_nil, keepL_cons, envOf_sel, envOf_nil, sel_t, sel_f, Nat.reduceBEq] <;> rfl) ?_
  refine awp_loopM (fun (i : Nat) => [(39, .d (.v (.int .i64 (i : Int))))]) (fun (i : Nat) => []) (fun (i : Nat) => [(σ.length + 1, (decs q.w0 i).flatMap cw ++ rest0)]) [6, 39, 40, 41, 42, 43, 44, 45, 46, 47, 48, 49, 50] (fun (i : Nat) => i ≤ q.w0.length) (fun (i : Nat) => q.w0.length - i) (0) (by simp <;> rfl) ?_ (by simp) (by simp [decs_zero]) ?_ ?_
  ·simp
  ·simp
  rintro i hi
  simp only [List.cons_append, List.nil_append, setL_nil, setL_cons, List.set_cons_zero, List.set_cons_succ]
  have hdl := decs_len q.w0 i
  refine awp_seq ?_
  refine awp_regionA (c := ⟨[2, 3, 11, 52], [], [], [38, 44, 48], [15, 19, 20, 1000020]⟩) (by simp only [lite_cons, lite_nil] <;> rfl) fun all hall K hK => ?_
  clear hall
  simp (maxSteps := 1000000) (disch := first | omega | assumption) [decs_get, hq, og_get hq, og_app hq, og_app0 hq, og_set hq, og_set0 hq, og_last, og_setlast, og_last0, og_setlast0, og_last1, og_setlast1, og_last2, og_setlast2]
  repeat' refine And.intro ?_ ?_
  all_goals first | omega | exact rfl | skip
  refine hK _ ?_
  clear hK K
  clear all
  refine q_then_n ?_
  refine awp_seq ?_
  refine awp_ifB (by simp <;> rfl) ?_
  refine ⟨fun c1 => ?_, fun c1 => ?_⟩
  ·try simp at c1
   have hlb := h3 _ (List.getElem_mem (show i < q.w0.length by omega))
   refine awp_skip ?_
   refine q_then_n ?_
   refine awp_seq ?_
   refine awp_block ?_
   refine awp_seq ?_
   refine awp_regionA (c := ⟨[2, 3, 11, 52], [], [], [38, 44, 48], [15, 19, 20, 1000020]⟩) (by simp only [lite_cons, lite_nil] <;> rfl) fun all hall K hK => ?_
   clear hall
   simp (maxSteps := 1000000) (disch := first | omega | assumption) [decs_get, hq, og_get hq, og_app hq, og_app0 hq, og_set hq, og_set0 hq, og_last, og_setlast, og_last0, og_setlast0, og_last1, og_setlast1, og_last2, og_setlast2]
   repeat' refine And.intro ?_ ?_
   all_goals first | omega | exact rfl | skip
   refine hK _ ?_
   clear hK K
   clear all
   refine q_then_n ?_
   refine awp_regionA (c := ⟨[2, 3, 11, 52], [], [], [38, 44, 48], [15, 19, 20, 1000020]⟩) (by simp only [lite_cons, lite_nil] <;> rfl) fun all hall K hK => ?_
   clear hall
   refine vcL_split 8 fun K' hK' => ?_
   simp (maxSteps := 1000000) (disch := first | omega | assumption) [decs_get, hq, og_get hq, og_app hq, og_app0 hq, og_set hq, og_set0 hq, og_last, og_setlast, og_last0, og_setlast0, og_last1, og_setlast1, og_last2, og_setlast2]
   repeat' refine And.intro ?_ ?_
   all_goals first | omega | exact rfl | skip
   refine hK' _ ?_
   clear hK' K'
   simp only [List.drop_succ_cons, List.drop_zero]
   simp (maxSteps := 1000000) (disch := first | omega | assumption) [decs_get, hq, og_get hq, og_app hq, og_app0 hq, og_set hq, og_set0 hq, og_last, og_setlast, og_last0, og_setlast0, og_last1, og_setlast1, og_last2, og_setlast2]
   repeat' refine And.intro ?_ ?_
   all_goals first | omega | exact rfl | skip
   refine hK _ ?_
   clear hK K
   clear all
   refine q_block_n ?_
   refine q_then_n ?_
   refine awp_keep [2, 3, 5, 31, 32, 33, 38, 39] (by simp only [keepL_nil, keepL_cons, envOf_sel, envOf_nil, sel_t, sel_f, Nat.reduceBEq] <;> rfl) ?_
   refine awp_regionA (c := ⟨[2, 3, 11, 52], [], [], [38, 44, 48], [15, 19, 20, 1000020]⟩) (by simp only [lite_cons, lite_nil] <;> rfl) fun all hall K hK => ?_
   clear hall
   simp (maxSteps := 1000000) (disch := first | omega | assumption) [decs_get, hq, og_get hq, og_app hq, og_app0 hq, og_set hq, og_set0 hq, og_last, og_setlast, og_last0, og_setlast0, og_last1, og_setlast1, og_last2, og_setlast2]
   repeat' refine And.intro ?_ ?_
   all_goals first | omega | exact rfl | skip
   refine hK _ ?_
   clear hK K
   clear all
   refine q_round (i + 1) ?_ ?_ (weak_mkA rfl ?_ (by simp) (by simp [← decs_set q.w0 i (by omega), wdec]))
   ·omega
   ·try dsimp only
    omega
   ·simp (maxSteps := 1000000) (disch := first | omega | assumption) [decs_get, hq, og_get hq, og_app hq, og_app0 hq, og_set hq, og_set0 hq, og_last, og_setlast, og_last0, og_setlast0, og_last1, og_setlast1, og_last2, og_setlast2]
  ·try simp at c1
   obtain rfl : i = q.w0.length := by omega
   refine awp_exit ?_
   refine q_then_e ?_
   refine q_loop_e ?_
   refine q_block_e ?_
   refine q_block_n ?_
   refine q_then_n ?_
   refine awp_regionA (c := ⟨[2, 3, 11, 52], [], [], [38, 44, 48], [15, 19, 20, 1000020]⟩) (by simp only [lite_cons, lite_nil] <;> rfl) fun all hall K hK => ?_
   clear hall
   simp (maxSteps := 1000000) (disch := first | omega | assumption) [decs_get, hq, og_get hq, og_app hq, og_app0 hq, og_set hq, og_set0 hq, og_last, og_setlast, og_last0, og_setlast0, og_last1, og_setlast1, og_last2, og_setlast2]
   repeat' refine And.intro ?_ ?_
   all_goals first | omega | exact rfl | skip
   refine hK _ ?_
   clear hK K
   clear all
   refine q_round (1) ?_ ?_ (weak_mkA rfl ?_ (by simp) (by simp))
   ·omega
   ·try dsimp only
    omega
   ·simp (maxSteps := 1000000) (disch := first | omega | assumption) [decs_get, hq, og_get hq, og_app hq, og_app0 hq, og_set hq, og_set0 hq, og_last, og_setlast, og_last0, og_setlast0, og_last1, og_setlast1, og_last2, og_setlast2]
 ·try simp only []
  refine awp_seq ?_
  refine awp_regionA (c := ⟨[2, 3, 11, 52], [], [], [38, 44, 48], [15, 19, 20, 1000020]⟩) (by simp only [lite_cons, lite_nil] <;> rfl) fun all hall K hK => ?_
  clear hall
  simp (maxSteps := 1000000) (disch := first | omega | assumption) [decs_get, hq, og_get hq, og_app hq, og_app0 hq, og_set hq, og_set0 hq, og_last, og_setlast, og_last0, og_setlast0, og_last1, og_setlast1, og_last2, og_setlast2]
  repeat' refine And.intro ?_ ?_
  all_goals first | omega | exact rfl | skip
  refine hK _ ?_
  clear hK K
  clear all
  refine q_then_n ?_
  refine awp_seq ?_
  refine awp_cond (t := true) (by simp) (fun _ => ?_) (fun h => by cases h)
  refine awp_skip ?_
  refine q_then_n ?_
  refine awp_seq ?_
  refine awp_block ?_
  refine awp_seq ?_
  refine awp_regionA (c := ⟨[2, 3, 11, 52], [], [], [38, 44, 48], [15, 19, 20, 1000020]⟩) (by simp only [lite_cons, lite_nil] <;> rfl) fun all hall K hK => ?_
  clear hall
  simp (maxSteps := 1000000) (disch := first | omega | assumption) [decs_get, hq, og_get hq, og_app hq, og_app0 hq, og_set hq, og_set0 hq, og_last, og_setlast, og_last0, og_setlast0, og_last1, og_setlast1, og_last2, og_setlast2]
  repeat' refine And.intro ?_ ?_
  all_goals first | omega | exact rfl | skip
  refine hK _ ?_
  clear hK K
  clear all
  refine q_then_n ?_
  refine awp_seq ?_
  refine awp_regionA (c := ⟨[2, 3, 11, 52], [], [], [38, 44, 48], [15, 19, 20, 1000020]⟩) (by simp only [lite_cons, lite_nil] <;> rfl) fun all hall K hK => ?_
  clear hall
  simp (maxSteps := 1000000) (disch := first | omega | assumption) [decs_get, hq, og_get hq, og_app hq, og_app0 hq, og_set hq, og_set0 hq, og_last, og_setlast, og_last0, og_setlast0, og_last1, og_setlast1, og_last2, og_setlast2]
  repeat' refine And.intro ?_ ?_
  all_goals first | omega | exact rfl | skip
  refine hK _ ?_
  clear hK K
  clear all
  refine q_then_n ?_
  refine awp_block ?_
  refine awp_keep [2, 3, 5, 31, 32, 33, 38, 39] (by simp only [keepL_nil, keepL_cons, envOf_sel, envOf_nil, sel_t, sel_f, Nat.reduceBEq] <;> rfl) ?_
  refine awp_loopM (fun (i : Nat) => [(39, .d (.v (.int .i64 (i : Int))))]) (fun (i : Nat) => []) (fun (i : Nat) => [(σ.length, (decs q.w1 i).flatMap cw ++ rest1)]) [6, 39, 40, 41, 42, 43, 44, 45, 46, 47, 48, 49, 50] (fun (i : Nat) => i ≤ q.w1.length) (fun (i : Nat) => q.w1.length - i) (0) (by simp <;> rfl) ?_ (by simp) (by simp [decs_zero]) ?_ ?_
  ·simp
  ·simp
  rintro i hi
  simp only [List.cons_append, List.nil_append, setL_nil, setL_cons, List.set_cons_zero, List.set_cons_succ]
  have hdl := decs_len q.w1 i
  refine awp_seq ?_
  refine awp_regionA (c := ⟨[2, 3, 11, 52], [], [], [38, 44, 48], [15, 19, 20, 1000020]⟩) (by simp only [lite_cons, lite_nil] <;> rfl) fun all hall K hK => ?_
  clear hall
  simp (maxSteps := 1000000) (disch := first | omega | assumption) [decs_get, hq, og_get hq, og_app hq, og_app0 hq, og_set hq, og_set0 hq, og_last, og_setlast, og_last0, og_setlast0, og_last1, og_setlast1, og_last2, og_setlast2]
  repeat' refine And.intro ?_ ?_
  all_goals first | omega | exact rfl | skip
  refine hK _ ?_
  clear hK K
  clear all
  refine q_then_n ?_
  refine awp_seq ?_
  refine awp_ifB (by simp <;> rfl) ?_
  refine ⟨fun c2 => ?_, fun c2 => ?_⟩
  ·try simp at c2
   have hlb := h4 _ (List.getElem_mem (show i < q.w1.length by omega))
   refine awp_skip ?_
   refine q_then_n ?_
   refine awp_seq ?_
   refine awp_block ?_
   refine awp_seq ?_
   refine awp_regionA (c := ⟨[2, 3, 11, 52], [], [], [38, 44, 48], [15, 19, 20, 1000020]⟩) (by simp only [lite_cons, lite_nil] <;> rfl) fun all hall K hK => ?_
   clear hall
   simp (maxSteps := 1000000) (disch := first | omega | assumption) [decs_get, hq, og_get hq, og_app hq, og_app0 hq, og_set hq, og_set0 hq, og_last, og_setlast, og_last0, og_setlast0, og_last1, og_setlast1, og_last2, og_setlast2]
   repeat' refine And.intro ?_ ?_
   all_goals first | omega | exact rfl | skip
   refine hK _ ?_
   clear hK K
   clear all
   refine q_then_n ?_
   refine awp_regionA (c := ⟨[2, 3, 11, 52], [], [], [38, 44, 48], [15, 19, 20, 1000020]⟩) (by simp only [lite_cons, lite_nil] <;> rfl) fun all hall K hK => ?_
   clear hall
   refine vcL_split 8 fun K' hK' => ?_
   simp (maxSteps := 1000000) (disch := first | omega | assumption) [decs_get, hq, og_get hq, og_app hq, og_app0 hq, og_set hq, og_set0 hq, og_last, og_setlast, og_last0, og_setlast0, og_last1, og_setlast1, og_last2, og_setlast2]
   repeat' refine And.intro ?_ ?_
   all_goals first | omega | exact rfl | skip
   refine hK' _ ?_
   clear hK' K'
   simp only [List.drop_succ_cons, List.drop_zero]
   simp (maxSteps := 1000000) (disch := first | omega | assumption) [decs_get, hq, og_get hq, og_app hq, og_app0 hq, og_set hq, og_set0 hq, og_last, og_setlast, og_last0, og_setlast0, og_last1, og_setlast1, og_last2, og_setlast2]
   repeat' refine And.intro ?_ ?_
   all_goals first | omega | exact rfl | skip
   refine hK _ ?_
   clear hK K
   clear all
   refine q_block_n ?_
   refine q_then_n ?_
   refine awp_keep [2, 3, 5, 31, 32, 33, 38, 39] (by simp only [keepL_nil, keepL_cons, envOf_sel, envOf_nil, sel_t, sel_f, Nat.reduceBEq] <;> rfl) ?_
   refine awp_regionA (c := ⟨[2, 3, 11, 52], [], [], [38, 44, 48], [15, 19, 20, 1000020]⟩) (by simp only [lite_cons, lite_nil] <;> rfl) fun all hall K hK => ?_
   clear hall
   simp (maxSteps := 1000000) (disch := first | omega | assumption) [decs_get, hq, og_get hq, og_app hq, og_app0 hq, og_set hq, og_set0 hq, og_last, og_setlast, og_last0, og_setlast0, og_last1, og_setlast1, og_last2, og_setlast2]
   repeat' refine And.intro ?_ ?_
   all_goals first | omega | exact rfl | skip
   refine hK _ ?_
   clear hK K
   clear all
   refine q_round (i + 1) ?_ ?_ (weak_mkA rfl ?_ (by simp) (by simp [← decs_set q.w1 i (by omega), wdec]))
   ·omega
   ·try dsimp only
    omega
   ·simp (maxSteps := 1000000) (disch := first | omega | assumption) [decs_get, hq, og_get hq, og_app hq, og_app0 hq, og_set hq, og_set0 hq, og_last, og_setlast, og_last0, og_setlast0, og_last1, og_setlast1, og_last2, og_setlast2]
  ·try simp at c2
   obtain rfl : i = q.w1.length := by omega
   refine awp_exit ?_
   refine q_then_e ?_
   refine q_loop_e ?_
   refine q_block_e ?_
   refine q_block_n ?_
   refine q_then_n ?_
   refine awp_regionA (c := ⟨[2, 3, 11, 52], [], [], [38, 44, 48], [15, 19, 20, 1000020]⟩) (by simp only [lite_cons, lite_nil] <;> rfl) fun all hall K hK => ?_
   clear hall
   simp (maxSteps := 1000000) (disch := first | omega | assumption) [decs_get, hq, og_get hq, og_app hq, og_app0 hq, og_set hq, og_set0 hq, og_last, og_setlast, og_last0, og_setlast0, og_last1, og_setlast1, og_last2, og_setlast2]
   repeat' refine And.intro ?_ ?_
   all_goals first | omega | exact rfl | skip
   refine hK _ ?_
   clear hK K
   clear all
   refine q_round (2) ?_ ?_ (weak_mkA rfl ?_ (by simp) (by simp))
   ·omega
   ·try dsimp only
    omega
   ·simp (maxSteps := 1000000) (disch := first | omega | assumption) [decs_get, hq, og_get hq, og_app hq, og_app0 hq, og_set hq, og_set0 hq, og_last, og_setlast, og_last0, og_setlast0, og_last1, og_setlast1, og_last2, og_setlast2]
 ·try simp only []
  refine awp_seq ?_
  refine awp_regionA (c := ⟨[2, 3, 11, 52], [], [], [38, 44, 48], [15, 19, 20, 1000020]⟩) (by simp only [lite_cons, lite_nil] <;> rfl) fun all hall K hK => ?_
  clear hall
  simp (maxSteps := 1000000) (disch := first | omega | assumption) [decs_get, hq, og_get hq, og_app hq, og_app0 hq, og_set hq, og_set0 hq, og_last, og_setlast, og_last0, og_setlast0, og_last1, og_setlast1, og_last2, og_setlast2]
  repeat' refine And.intro ?_ ?_
  all_goals first | omega | exact rfl | skip
  refine hK _ ?_
  clear hK K
  clear all
  refine q_then_n ?_
  refine awp_seq ?_
  refine awp_cond (t := false) (by simp) (fun h => by cases h) (fun _ => ?_)
  refine awp_exit ?_
  refine q_then_e ?_
  refine q_loop_e ?_
  refine q_block_e ?_
  refine q_then_n ?_
  refine awp_seq ?_
  refine awp_closeXO m 2 4 σ.length q.w1.length cap1 ((q.w1.map wdec).map d_Wt) _ ((q.w1.map wdec).flatMap cw ++ rest1) (og_app hq _ _) (by simp) (by simp [og_last, decs_all]) (by have := og_lt hq; omega) (by decide) (by simp [hrest1]; omega) (by simp) (wt_arr _) (by rw [wt_flat]; exact List.prefix_append _ _) ?_
  refine awp_closeX 3 4 (σ.length + 1) q.w0.length cap0 ((q.w0.map wdec).map d_Wt) ((q.w0.map wdec).flatMap cw ++ rest0) (by simp <;> rfl) (by simp [og_set hq, og_setlast, og_last1, decs_all]) (by decide) (by simp [hrest0]; omega) (by simp) (wt_arr _) (by rw [wt_flat]; exact List.prefix_append _ _) ?_
  simp only [og_set hq, og_setlast, og_setlast1, List.set_cons_zero, List.set_cons_succ]
  refine awp_regionA (c := ⟨[2, 3, 11, 52], [], [], [38, 44, 48], [15, 19, 20, 1000020]⟩) (by simp only [lite_cons, lite_nil] <;> rfl) fun all hall K hK => ?_
  clear hall
  simp (maxSteps := 1000000) (disch := first | omega | assumption) [decs_get, hq, og_get hq, og_app hq, og_app0 hq, og_set hq, og_set0 hq, og_last, og_setlast, og_last0, og_setlast0, og_last1, og_setlast1, og_last2, og_setlast2]
  repeat' refine And.intro ?_ ?_
  all_goals first | omega | exact rfl | skip
  refine hK _ ?_
  clear hK K
  clear all
  refine q_then_n ?_
  refine awp_ret ?_
  simp [endQ, qnext]
def wdecs (l : List Wt) : List Wt := l.map wdec
theorem wdecs_len (l : List Wt) : (wdecs l).length = l.length := by simp [wdecs]
theorem qframe_fn (m : Nat) (q : Q2) (σ : List (List D)) (hq : σ[m]? = some (dqq q)) (hk : Q2ok q) : Ct Try.prog 45 [.ref m 0] σ (fun r σ' => r = .xs 4 ((wdecs q.w0).map d_Wt) ∧ σ' = σ.set m (dqq (qnext q))) :=
 (qframe0_fn m q σ hq hk).trim fun r σ' ⟨hr, J, hs⟩ => ⟨_, J, hs, by simp, by rw [hr]; exact wt_sc _ _, trim_set (sc_dqq _ _), hr, rfl⟩
theorem qframeS_fn (m : Nat) (q : Q2) (σ : List (List D)) (hq : σ[m]? = some (dqq q)) (hk : Q2ok q) : Ct Try.prog 45 [.ref m 0] σ (fun r σ' => r = .sl false ((wdecs q.w0).map d_Wt) ∧ σ' = σ.set m (dqq (qnext q))) :=
 Ct.freeze (qframe_fn m q σ hq hk) fun r σ' h => h
theorem wtgrow0_fn (n : Nat) (σ : List (List D)) (hn : n ≤ 1000000) : Ct Try.prog 95 [.v (.slice none 0 0), D.int n] σ (fun r σ' => baseX 4 [] r ∧ σ' = σ) := by
 refine fn_start (rs := [.tmp 4]) Try.func95 rfl rfl Try.ntmps95 Try.results95 (by simp) ?_
 simp only [argEnv]
 refine awp_seq ?_
 refine awp_regionA (c := ⟨[0, 4, 25, 26], [], [], [], [10, 12, 19, 20, 22, 24, 25]⟩) (by simp only [lite_cons, lite_nil] <;> rfl) fun all hall K hK => ?_
 clear hall
 simp (maxSteps := 1000000) (disch := first | omega | assumption)
 repeat' refine And.intro ?_ ?_
 all_goals first | omega | exact rfl | skip
 refine hK _ ?_
 clear hK K
 clear all
 refine q_then_n ?_
 refine awp_seq ?_
 refine awp_seq ?_
 refine awp_regionA (c := ⟨[0, 4, 25, 26], [], [], [], [10, 12, 19, 20, 22, 24, 25]⟩) (by simp only [lite_cons, lite_nil] <;> rfl) fun all hall K hK => ?_
 clear hall
 simp (maxSteps := 1000000) (disch := first | omega | assumption)
 repeat' refine And.intro ?_ ?_
 all_goals first | omega | exact rfl | skip
 refine hK _ ?_
 clear hK K
 clear all
 refine q_then_n ?_
 refine awp_ifB (by simp <;> rfl) ?_
 refine ⟨fun c1 => ?_, fun c1 => ?_⟩
 ·try simp at c1
  exfalso; omega
 ·try simp at c1
  refine awp_skip ?_
  refine q_then_n ?_
  refine awp_seq ?_
  refine awp_seq ?_
  refine awp_regionA (c := ⟨[0, 4, 25, 26], [], [], [], [10, 12, 19, 20, 22, 24, 25]⟩) (by simp only [lite_cons, lite_nil] <;> rfl) fun all hall K hK => ?_
  clear hall
  simp (maxSteps := 1000000) (disch := first | omega | assumption)
  repeat' refine And.intro ?_ ?_
  all_goals first | omega | exact rfl | skip
  refine hK _ ?_
  clear hK K
  clear all
  refine q_then_n ?_
  refine awp_seq ?_
  refine awp_regionA (c := ⟨[0, 4, 25, 26], [], [], [], [10, 12, 19, 20, 22, 24, 25]⟩) (by simp only [lite_cons, lite_nil] <;> rfl) fun all hall K hK => ?_
  clear hall
  simp (maxSteps := 1000000) (disch := first | omega | assumption)
  repeat' refine And.intro ?_ ?_
  all_goals first | omega | exact rfl | skip
  refine hK _ ?_
  clear hK K
  clear all
  refine q_then_n ?_
  refine awp_ifB (by simp <;> rfl) ?_
  refine ⟨fun c2 => ?_, fun c2 => ?_⟩
  ·try simp at c2
   refine awp_keep [0, 1, 4] (by simp only [keepL_nil, keepL_cons, envOf_sel, envOf_nil, sel_t, sel_f, Nat.reduceBEq] <;> rfl) ?_
   refine awp_regionA (c := ⟨[0, 4, 25, 26], [], [], [], [10, 12, 19, 20, 22, 24, 25]⟩) (by simp only [lite_cons, lite_nil] <;> rfl) fun all hall K hK => ?_
   clear hall
   refine vcL_split 8 fun K' hK' => ?_
   simp (maxSteps := 1000000) (disch := first | omega | assumption)
   repeat' refine And.intro ?_ ?_
   all_goals first | omega | exact rfl | skip
   refine hK' _ ?_
   clear hK' K'
   simp only [List.drop_succ_cons, List.drop_zero]
   simp (maxSteps := 1000000) (disch := first | omega | assumption)
   repeat' refine And.intro ?_ ?_
   all_goals first | omega | exact rfl | skip
   refine hK _ ?_
   clear hK K
   clear all
   refine q_then_n ?_
   refine awp_seq ?_
   refine awp_keep [0, 4] (by simp only [keepL_nil, keepL_cons, envOf_sel, envOf_nil, sel_t, sel_f, Nat.reduceBEq] <;> rfl) ?_
   refine awp_regionA (c := ⟨[0, 4, 25, 26], [], [], [], [10, 12, 19, 20, 22, 24, 25]⟩) (by simp only [lite_cons, lite_nil] <;> rfl) fun all hall K hK => ?_
   clear hall
   simp (maxSteps := 1000000) (disch := first | omega | assumption)
   repeat' refine And.intro ?_ ?_
   all_goals first | omega | exact rfl | skip
   refine hK _ ?_
   clear hK K
   clear all
   refine q_then_n ?_
   refine awp_ret ?_
   simp [endQ, baseX]
  ·try simp at c2
   refine awp_skip ?_
   refine q_then_n ?_
   refine awp_seq ?_
   refine awp_keep [0, 4] (by simp only [keepL_nil, keepL_cons, envOf_sel, envOf_nil, sel_t, sel_f, Nat.reduceBEq] <;> rfl) ?_
   refine awp_regionA (c := ⟨[0, 4, 25, 26], [], [], [], [10, 12, 19, 20, 22, 24, 25]⟩) (by simp only [lite_cons, lite_nil] <;> rfl) fun all hall K hK => ?_
   clear hall
   simp (maxSteps := 1000000) (disch := first | omega | assumption)
   repeat' refine And.intro ?_ ?_
   all_goals first | omega | exact rfl | skip
   refine hK _ ?_
   clear hK K
   clear all
   refine q_then_n ?_
   refine awp_ret ?_
   simp [endQ, baseX]
theorem wtgrow_fn (n : Nat) (σ : List (List D)) (hn : n ≤ 1000000) : Ct Try.prog 95 [.v (.slice none 0 0), D.int n] σ (fun r σ' => r = .xs 4 [] ∧ σ' = σ) := (wtgrow0_fn n σ hn).toX fun _ _ h => h
def qcat {α : Type} (a b : List α) (k : Nat) : List α := if k = 0 then [] else if k = 1 then a else a ++ b
theorem qc_ld (a b : D) (n0 n1 c0 c1 N0 N1 k : Nat) (h : k < 2) : ldD false 1 (List.drop (2 + k) [a, b, .slo N0 0 n0 c0, .slo N1 0 n1 c1]) = some (.slo (if k = 0 then N0 else N1) 0 (qat n0 n1 k) (if k = 0 then c0 else c1)) := by
 match k, h with
 | 0, _ => rfl
 | 1, _ => rfl
theorem qsrc {σ : List (List D)} {N0 N1 k : Nat} {l0 l1 : List Wt} {r0 r1 : List D} (hk : k < 2) (h0 : σ[N0]? = some (l0.flatMap cw ++ r0)) (h1 : σ[N1]? = some (l1.flatMap cw ++ r1)) : ((if k = 0 then l0 else l1).map d_Wt).length = qat l0.length l1.length k ∧ ∃ cs, σ[if k = 0 then N0 else N1]? = some cs ∧ ((if k = 0 then l0 else l1).map d_Wt).flatMap D.cells <+: cs := by
 rw [wt_flat]
 match k, hk with
 | 0, _ => exact ⟨by simp [qat], _, h0, List.prefix_append _ _⟩
 | 1, _ => exact ⟨by simp [qat], _, h1, List.prefix_append _ _⟩
theorem qat_le {a b k n : Nat} (ha : a ≤ n) (hb : b ≤ n) : qat a b k ≤ n := by unfold qat; split <;> assumption
theorem qcat_len {α : Type} (a b : List α) (k : Nat) : (qcat a b k).length ≤ a.length + b.length := by
 unfold qcat; repeat' split
 all_goals simp
theorem qcat_succ {α : Type} (a b : List α) (k : Nat) (h : k < 2) : qcat a b (k + 1) = qcat a b k ++ (if k = 0 then a else b) := by
 match k, h with
 | 0, _ => simp [qcat]
 | 1, _ => simp [qcat]
theorem wtconcat_fn (m N0 N1 c0 c1 : Nat) (a b : D) (l0 l1 : List Wt) (r0 r1 : List D) (σ : List (List D)) (hm : σ[m]? = some [a, b, .slo N0 0 l0.length c0, .slo N1 0 l1.length c1]) (h0 : σ[N0]? = some (l0.flatMap cw ++ r0)) (h1 : σ[N1]? = some (l1.flatMap cw ++ r1)) (k0 : l0.length ≤ 100000) (k1 : l1.length ≤ 100000) : Ct Try.prog 83 [.slo m 2 2 2] σ (fun r σ' => r = .xs 4 ((l0 ++ l1).map d_Wt) ∧ σ' = σ) := by
 refine fn_start (rs := [.tmp 2]) Try.func83 rfl rfl Try.ntmps83 Try.results83 (by simp) ?_
 simp only [argEnv]
 refine awp_seq ?_
 refine awp_regionA (c := ⟨[2, 6, 24, 31, 33, 35], [], [], [10, 13, 17, 26, 29], [33]⟩) (by simp only [lite_cons, lite_nil] <;> rfl) fun all hall K hK => ?_
 clear hall
 simp (maxSteps := 1000000) (disch := first | omega | assumption) [hm, qc_ld]
 repeat' refine And.intro ?_ ?_
 all_goals first | omega | exact rfl | skip
 refine hK _ ?_
 clear hK K
 clear all
 refine q_then_n ?_
 refine awp_seq ?_
 refine awp_regionA (c := ⟨[2, 6, 24, 31, 33, 35], [], [], [10, 13, 17, 26, 29], [33]⟩) (by simp only [lite_cons, lite_nil] <;> rfl) fun all hall K hK => ?_
 clear hall
 simp (maxSteps := 1000000) (disch := first | omega | assumption) [hm, qc_ld]
 repeat' refine And.intro ?_ ?_
 all_goals first | omega | exact rfl | skip
 refine hK _ ?_
 clear hK K
 clear all
 refine q_then_n ?_
 refine awp_seq ?_
 refine awp_seq ?_
 refine awp_regionA (c := ⟨[2, 6, 24, 31, 33, 35], [], [], [10, 13, 17, 26, 29], [33]⟩) (by simp only [lite_cons, lite_nil] <;> rfl) fun all hall K hK => ?_
 clear hall
 simp (maxSteps := 1000000) (disch := first | omega | assumption) [hm, qc_ld]
 repeat' refine And.intro ?_ ?_
 all_goals first | omega | exact rfl | skip
 refine hK _ ?_
 clear hK K
 clear all
 refine q_then_n ?_
 refine awp_block ?_
 refine awp_keep [0, 2, 3, 9, 10, 11] (by simp only [keepL_nil, keepL_cons, envOf_sel, envOf_nil, sel_t, sel_f, Nat.reduceBEq] <;> rfl) ?_
 refine awp_loopE (fun (k : Nat) => [(11, .d (.v (.int .i64 (k : Int)))), (3, .d (.int ((qsum l0.length l1.length k : Nat) : Int)))]) [3, 5, 11, 12, 13, 14, 15, 16, 17, 18, 19, 20, 21, 22] (fun (k : Nat) => k ≤ 2) (fun (k : Nat) => 2 - k) (0) (by simp <;> rfl) ?_ ?_ ?_
 ·simp [qsum]
 ·simp
 rintro k hk
 simp only [List.cons_append, List.nil_append]
 have hqs := qsum_le l0.length l1.length k
 refine awp_seq ?_
 refine awp_regionA (c := ⟨[2, 6, 24, 31, 33, 35], [], [], [10, 13, 17, 26, 29], [33]⟩) (by simp only [lite_cons, lite_nil] <;> rfl) fun all hall K hK => ?_
 clear hall
 simp (maxSteps := 1000000) (disch := first | omega | assumption) [hm, qc_ld]
 repeat' refine And.intro ?_ ?_
 all_goals first | omega | exact rfl | skip
 refine hK _ ?_
 clear hK K
 clear all
 refine q_then_n ?_
 refine awp_seq ?_
 refine awp_ifB (by simp <;> rfl) ?_
 refine ⟨fun c1 => ?_, fun c1 => ?_⟩
 ·try simp at c1
  refine awp_skip ?_
  refine q_then_n ?_
  refine awp_seq ?_
  refine awp_block ?_
  refine awp_seq ?_
  refine awp_regionA (c := ⟨[2, 6, 24, 31, 33, 35], [], [], [10, 13, 17, 26, 29], [33]⟩) (by simp only [lite_cons, lite_nil] <;> rfl) fun all hall K hK => ?_
  clear hall
  simp (maxSteps := 1000000) (disch := first | omega | assumption) [hm, qc_ld]
  repeat' refine And.intro ?_ ?_
  all_goals first | omega | exact rfl | skip
  refine hK _ ?_
  clear hK K
  clear all
  refine q_then_n ?_
  refine awp_seq ?_
  refine awp_regionA (c := ⟨[2, 6, 24, 31, 33, 35], [], [], [10, 13, 17, 26, 29], [33]⟩) (by simp only [lite_cons, lite_nil] <;> rfl) fun all hall K hK => ?_
  clear hall
  simp (maxSteps := 1000000) (disch := first | omega | assumption) [hm, qc_ld]
  repeat' refine And.intro ?_ ?_
  all_goals first | omega | exact rfl | skip
  refine hK _ ?_
  clear hK K
  clear all
  refine q_then_n ?_
  refine awp_seq ?_
  refine awp_keep [0, 2, 3, 9, 10, 11] (by simp only [keepL_nil, keepL_cons, envOf_sel, envOf_nil, sel_t, sel_f, Nat.reduceBEq] <;> rfl) ?_
  refine awp_regionA (c := ⟨[2, 6, 24, 31, 33, 35], [], [], [10, 13, 17, 26, 29], [33]⟩) (by simp only [lite_cons, lite_nil] <;> rfl) fun all hall K hK => ?_
  clear hall
  simp (maxSteps := 1000000) (disch := first | omega | assumption) [hm, qc_ld]
  repeat' refine And.intro ?_ ?_
  all_goals first | omega | exact rfl | skip
  refine hK _ ?_
  clear hK K
  clear all
  refine q_then_n ?_
  refine awp_ifB (by simp <;> rfl) ?_
  refine ⟨fun c2 => ?_, fun c2 => ?_⟩
  ·try simp at c2
   exfalso; omega
  ·try simp at c2
   refine awp_skip ?_
   refine q_block_n ?_
   refine q_then_n ?_
   refine awp_regionA (c := ⟨[2, 6, 24, 31, 33, 35], [], [], [10, 13, 17, 26, 29], [33]⟩) (by simp only [lite_cons, lite_nil] <;> rfl) fun all hall K hK => ?_
   clear hall
   simp (maxSteps := 1000000) (disch := first | omega | assumption) [hm, qc_ld]
   repeat' refine And.intro ?_ ?_
   all_goals first | omega | exact rfl | skip
   refine hK _ ?_
   clear hK K
   clear all
   refine q_round (k + 1) ?_ ?_ (weak_mkA rfl ?_ (by simp) (by simp))
   ·omega
   ·try dsimp only
    omega
   ·simp (maxSteps := 1000000) (disch := first | omega | assumption) [hm, qc_ld, qsum_succ]
 ·try simp at c1
  obtain rfl : k = 2 := by omega
  rw [qsum_two]
  refine awp_exit ?_
  refine q_then_e ?_
  refine q_loop_e ?_
  refine q_block_e ?_
  refine q_then_n ?_
  refine awp_seq ?_
  refine awp_regionA (c := ⟨[2, 6, 24, 31, 33, 35], [], [], [10, 13, 17, 26, 29], [33]⟩) (by simp only [lite_cons, lite_nil] <;> rfl) fun all hall K hK => ?_
  clear hall
  refine vcL_split 1 fun K' hK' => ?_
  simp (maxSteps := 1000000) (disch := first | omega | assumption) [hm, qc_ld]
  repeat' refine And.intro ?_ ?_
  all_goals first | omega | exact rfl | skip
  refine hK' _ ?_
  clear hK' K'
  simp only [List.drop_succ_cons, List.drop_zero]
  refine vcL_step fun K' hK' => ?_
  simp (maxSteps := 1000000) (disch := first | omega | assumption) [hm, qc_ld]
  refine Ct.mono (Ct.of_le (wtgrow_fn (l0.length + l1.length) _ (by omega)) (by first | exact leArgs_of rfl | (refine leArgs_of ?_; simp; done) | (refine leArgs_of ?_; simp; rfl) | (simp [leArgs, leArg]; done)) rfl) ?_
  rintro _ _ ⟨hr9, hs9⟩
  subst hr9
  replace hs9 := hs9.symm
  subst hs9
  refine hK' _ ?_
  clear hK' K'
  simp (maxSteps := 1000000) (disch := first | omega | assumption) [hm, qc_ld]
  repeat' refine And.intro ?_ ?_
  all_goals first | omega | exact rfl | skip
  refine hK _ ?_
  clear hK K
  clear all
  refine q_then_n ?_
  refine awp_seq ?_
  refine awp_seq ?_
  refine awp_regionA (c := ⟨[2, 6, 24, 31, 33, 35], [], [], [10, 13, 17, 26, 29], [33]⟩) (by simp only [lite_cons, lite_nil] <;> rfl) fun all hall K hK => ?_
  clear hall
  simp (maxSteps := 1000000) (disch := first | omega | assumption) [hm, qc_ld]
  repeat' refine And.intro ?_ ?_
  all_goals first | omega | exact rfl | skip
  refine hK _ ?_
  clear hK K
  clear all
  refine q_then_n ?_
  refine awp_block ?_
  refine awp_keep [2, 6, 25, 26, 27] (by simp only [keepL_nil, keepL_cons, envOf_sel, envOf_nil, sel_t, sel_f, Nat.reduceBEq] <;> rfl) ?_
  refine awp_loopE (fun (k : Nat) => [(27, .d (.v (.int .i64 (k : Int)))), (6, .d (.xs 4 ((qcat l0 l1 k).map d_Wt)))]) [6, 8, 27, 28, 29, 30, 31, 32, 33, 34] (fun (k : Nat) => k ≤ 2) (fun (k : Nat) => 2 - k) (0) (by simp <;> rfl) ?_ ?_ ?_
  ·simp [qcat]
  ·simp
  rintro k hk
  simp only [List.cons_append, List.nil_append]
  refine awp_seq ?_
  refine awp_regionA (c := ⟨[2, 6, 24, 31, 33, 35], [], [], [10, 13, 17, 26, 29], [33]⟩) (by simp only [lite_cons, lite_nil] <;> rfl) fun all hall K hK => ?_
  clear hall
  simp (maxSteps := 1000000) (disch := first | omega | assumption) [hm, qc_ld]
  repeat' refine And.intro ?_ ?_
  all_goals first | omega | exact rfl | skip
  refine hK _ ?_
  clear hK K
  clear all
  refine q_then_n ?_
  refine awp_seq ?_
  refine awp_ifB (by simp <;> rfl) ?_
  refine ⟨fun c3 => ?_, fun c3 => ?_⟩
  ·try simp at c3
   refine awp_skip ?_
   refine q_then_n ?_
   refine awp_seq ?_
   refine awp_block ?_
   refine awp_seq ?_
   refine awp_regionA (c := ⟨[2, 6, 24, 31, 33, 35], [], [], [10, 13, 17, 26, 29], [33]⟩) (by simp only [lite_cons, lite_nil] <;> rfl) fun all hall K hK => ?_
   clear hall
   simp (maxSteps := 1000000) (disch := first | omega | assumption) [hm, qc_ld]
   repeat' refine And.intro ?_ ?_
   all_goals first | omega | exact rfl | skip
   refine hK _ ?_
   clear hK K
   clear all
   refine q_then_n ?_
   refine awp_regionA (c := ⟨[2, 6, 24, 31, 33, 35], [], [], [10, 13, 17, 26, 29], [33]⟩) (by simp only [lite_cons, lite_nil] <;> rfl) fun all hall K hK => ?_
   clear hall
   refine vcL_split 3 fun K' hK' => ?_
   simp (maxSteps := 1000000) (disch := first | omega | assumption) [hm, qc_ld]
   have hqc := qcat_len l0 l1 k
   have hql := qat_le (k := k) k0 k1
   have hqs := qsrc (k := k) (by omega) h0 h1
   refine ⟨(if k = 0 then l0 else l1).map d_Wt, ⟨hqs, wt_arr _, rfl⟩, ⟨by rw [hqs.1]; omega, by rw [hqs.1]; omega⟩, ?_⟩
   repeat' refine And.intro ?_ ?_
   all_goals first | omega | exact rfl | skip
   refine hK' _ ?_
   clear hK' K'
   simp only [List.drop_succ_cons, List.drop_zero]
   simp (maxSteps := 1000000) (disch := first | omega | assumption) [hm, qc_ld]
   repeat' refine And.intro ?_ ?_
   all_goals first | omega | exact rfl | skip
   refine hK _ ?_
   clear hK K
   clear all
   refine q_block_n ?_
   refine q_then_n ?_
   refine awp_keep [2, 6, 25, 26, 27] (by simp only [keepL_nil, keepL_cons, envOf_sel, envOf_nil, sel_t, sel_f, Nat.reduceBEq] <;> rfl) ?_
   refine awp_regionA (c := ⟨[2, 6, 24, 31, 33, 35], [], [], [10, 13, 17, 26, 29], [33]⟩) (by simp only [lite_cons, lite_nil] <;> rfl) fun all hall K hK => ?_
   clear hall
   simp (maxSteps := 1000000) (disch := first | omega | assumption) [hm, qc_ld]
   repeat' refine And.intro ?_ ?_
   all_goals first | omega | exact rfl | skip
   refine hK _ ?_
   clear hK K
   clear all
   refine q_round (k + 1) ?_ ?_ (weak_mkA rfl ?_ (by simp) (by simp))
   ·omega
   ·try dsimp only
    omega
   ·simp (maxSteps := 1000000) (disch := first | omega | assumption) [hm, qc_ld, qcat_succ]
  ·try simp at c3
   obtain rfl : k = 2 := by omega
   refine awp_exit ?_
   refine q_then_e ?_
   refine q_loop_e ?_
   refine q_block_e ?_
   refine q_then_n ?_
   refine awp_seq ?_
   refine awp_regionA (c := ⟨[2, 6, 24, 31, 33, 35], [], [], [10, 13, 17, 26, 29], [33]⟩) (by simp only [lite_cons, lite_nil] <;> rfl) fun all hall K hK => ?_
   clear hall
   simp (maxSteps := 1000000) (disch := first | omega | assumption) [hm, qc_ld]
   repeat' refine And.intro ?_ ?_
   all_goals first | omega | exact rfl | skip
   refine hK _ ?_
   clear hK K
   clear all
   refine q_then_n ?_
   refine awp_ret ?_
   simp [endQ, qcat]
theorem qlist0_fn (m : Nat) (q : Q2) (σ : List (List D)) (hq : σ[m]? = some (dqq q)) (hk : Q2ok q) : Ct Try.prog 75 [.ref m 0] σ (fun r σ' => r = .xs 4 ((q.w0 ++ q.w1).map d_Wt) ∧ ∃ J, σ' = σ ++ J) := by
 refine fn_start (rs := [.tmp 2]) Try.func75 rfl rfl Try.ntmps75 Try.results75 (by simp) ?_
 simp only [argEnv]
 obtain ⟨h0, h1, h2, h3, h4⟩ := hk
 refine awp_openXO m 2 4 hq (by simp <;> rfl) (by decide) fun cap0 rest0 hcap0 hcm0 hrest0 hes0 => ?_
 simp only [List.length_map, List.set_cons_zero, List.set_cons_succ] at hcap0 hrest0 ⊢
 refine awp_openXO m 3 4 (og_app hq _ _) (by simp <;> rfl) (by decide) fun cap1 rest1 hcap1 hcm1 hrest1 hes1 => ?_
 simp only [List.length_map, og_set hq, List.length_set, List.length_append, List.length_singleton, List.append_assoc, List.cons_append, List.nil_append, List.set_cons_zero, List.set_cons_succ] at hcap1 hrest1 ⊢
 rw [wt_flat, wt_flat]
 refine awp_seq ?_
 refine awp_regionA (c := ⟨[2, 7], [], [], [], [6]⟩) (by simp only [lite_cons, lite_nil] <;> rfl) fun all hall K hK => ?_
 clear hall
 simp (maxSteps := 1000000) (disch := first | omega | assumption) [hq, og_get hq, og_app hq, og_app0 hq, og_set hq, og_set0 hq, og_last, og_setlast, og_last0, og_setlast0, og_last1, og_setlast1, og_last2, og_setlast2]
 repeat' refine And.intro ?_ ?_
 all_goals first | omega | exact rfl | skip
 refine hK _ ?_
 clear hK K
 clear all
 refine q_then_n ?_
 refine awp_seq ?_
 refine awp_regionA (c := ⟨[2, 7], [], [], [], [6]⟩) (by simp only [lite_cons, lite_nil] <;> rfl) fun all hall K hK => ?_
 clear hall
 refine vcL_split 4 fun K' hK' => ?_
 simp (maxSteps := 1000000) (disch := first | omega | assumption) [hq, og_get hq, og_app hq, og_app0 hq, og_set hq, og_set0 hq, og_last, og_setlast, og_last0, og_setlast0, og_last1, og_setlast1, og_last2, og_setlast2]
 repeat' refine And.intro ?_ ?_
 all_goals first | omega | exact rfl | skip
 refine hK' _ ?_
 clear hK' K'
 simp only [List.drop_succ_cons, List.drop_zero]
 refine vcL_step fun K' hK' => ?_
 simp (maxSteps := 1000000) (disch := first | omega | assumption) [hq, og_get hq, og_app hq, og_app0 hq, og_set hq, og_set0 hq, og_last, og_setlast, og_last0, og_setlast0, og_last1, og_setlast1, og_last2, og_setlast2]
 refine Ct.mono (Ct.of_le (wtconcat_fn m σ.length (σ.length + 1) cap0 cap1 (D.int q.most) (D.int q.last) q.w0 q.w1 rest0 rest1 _ (og_app hq _ _) (by simp [og_last]) (by simp [og_last1]) h0 h1) (by first | exact leArgs_of rfl | (refine leArgs_of ?_; simp; done) | (refine leArgs_of ?_; simp; rfl) | (simp [leArgs, leArg]; done)) rfl) ?_
 rintro _ _ ⟨hr9, hs9⟩
 subst hr9
 replace hs9 := hs9.symm
 subst hs9
 refine hK' _ ?_
 clear hK' K'
 simp (maxSteps := 1000000) (disch := first | omega | assumption) [hq, og_get hq, og_app hq, og_app0 hq, og_set hq, og_set0 hq, og_last, og_setlast, og_last0, og_setlast0, og_last1, og_setlast1, og_last2, og_setlast2]
 repeat' refine And.intro ?_ ?_
 all_goals first | omega | exact rfl | skip
 refine hK _ ?_
 clear hK K
 clear all
 refine q_then_n ?_
 refine awp_closeXO m 2 4 σ.length q.w0.length cap0 (q.w0.map d_Wt) _ (q.w0.flatMap cw ++ rest0) (og_app hq _ _) (by simp) (by simp [og_last]) (by have := og_lt hq; omega) (by decide) (by simp [hrest0]; omega) (by simp) (wt_arr _) (by rw [wt_flat]; exact List.prefix_append _ _) ?_
 simp only [og_set hq, og_setlast, List.set_cons_zero, List.set_cons_succ]
 refine awp_closeXO m 3 4 (σ.length + 1) q.w1.length cap1 (q.w1.map d_Wt) _ (q.w1.flatMap cw ++ rest1) (og_app hq _ _) (by simp) (by simp [og_last1]) (by have := og_lt hq; omega) (by decide) (by simp [hrest1]; omega) (by simp) (wt_arr _) (by rw [wt_flat]; exact List.prefix_append _ _) ?_
 simp only [og_set hq, og_setlast1, List.set_cons_zero, List.set_cons_succ]
 refine awp_ret ?_
 simp [endQ]
 exact ⟨[[], []], by rw [← obj_set_same hq]; simp⟩
theorem qlist_fn (m : Nat) (q : Q2) (σ : List (List D)) (hq : σ[m]? = some (dqq q)) (hk : Q2ok q) : Ct Try.prog 75 [.ref m 0] σ (fun r σ' => r = .sl false ((q.w0 ++ q.w1).map d_Wt) ∧ σ' = σ) :=
 Ct.freeze ((qlist0_fn m q σ hq hk).trim (Q' := fun r σ' => r = .xs 4 ((q.w0 ++ q.w1).map d_Wt) ∧ σ' = σ) fun r σ' ⟨hr, J, hs⟩ => ⟨σ, J, hs, rfl, by rw [hr]; exact wt_sc _ _, fun n cs h => .inl h, hr, rfl⟩) fun r σ' h => h
structure RQ where
 most : Int
 last : Int
 l : (List Wt)
 deriving DecidableEq
@[simp] abbrev d_RQ (s : RQ) : D := .agg [.v (.int .i64 s.most), .v (.int .i64 s.last), .sl false (s.l.map d_Wt)]
@[simp] abbrev o_RQ (s : RQ) : D := .agg [.v (.int .i64 s.most), .v (.int .i64 s.last), .sl true (s.l.map d_Wt)]
def fask (q : RQ) (j : Job) : RQ × Int × Int := if (q.l.length : Int) = q.most then (q, 0, 9) else (⟨q.most, q.last + 1, q.l ++ [⟨q.last + 1, 2, j⟩]⟩, q.last + 1, 0)
def fcan (q : RQ) (n : Int) : RQ := ⟨q.most, q.last, qdel n q.l⟩
def fdue (l : List Wt) : List Wt := (l.map wdec).filter fun w => decide (w.left = 0)
def rstay (l : List Wt) : List Wt := (l.map wdec).filter fun w => !decide (w.left = 0)
def rnext (q : RQ) : RQ := ⟨q.most, q.last, rstay q.l⟩
theorem qdel_take (n : Int) (l : List Wt) (k : Nat) (h : k < l.length) : qdel n (l.take (k + 1)) = qdel n (l.take k) ++ if l[k].token = n then [] else [l[k]] := by
 unfold qdel
 rw [take_snoc l k h, List.filter_append, List.filter_cons]
 by_cases e : l[k].token = n <;> simp [e]
theorem fdue_take (l : List Wt) (k : Nat) (h : k < l.length) : fdue (l.take (k + 1)) = fdue (l.take k) ++ if l[k].left - 1 = 0 then [wdec l[k]] else [] := by
 unfold fdue
 rw [take_snoc l k h, List.map_append, List.filter_append, List.map_cons, List.filter_cons]
 by_cases e : l[k].left - 1 = 0 <;> simp [e, wdec]
theorem rstay_take (l : List Wt) (k : Nat) (h : k < l.length) : rstay (l.take (k + 1)) = rstay (l.take k) ++ if l[k].left - 1 = 0 then [] else [wdec l[k]] := by
 unfold rstay
 rw [take_snoc l k h, List.map_append, List.filter_append, List.map_cons, List.filter_cons]
 by_cases e : l[k].left - 1 = 0 <;> simp [e, wdec]
theorem fdue_len (l : List Wt) : (fdue l).length ≤ l.length := by have := List.length_filter_le (fun w : Wt => decide (w.left = 0)) (l.map wdec); simpa [fdue] using this
theorem rstay_len (l : List Wt) : (rstay l).length ≤ l.length := by have := List.length_filter_le (fun w : Wt => !decide (w.left = 0)) (l.map wdec); simpa [rstay] using this
theorem fnew0_fn (x : Int) (σ : List (List D))  : Ct Try.prog 44 [D.int x] σ (fun r σ' => r = o_RQ ⟨max 1 (min x 65536), 0, []⟩ ∧ σ' = σ) := by
 refine fn_start (rs := [.cell 2 51]) Try.func44 rfl rfl Try.ntmps44 Try.results44 (by simp) ?_
 simp only [argEnv]
 refine awp_seq ?_
 refine awp_regionA (c := ⟨[], [], [], [], []⟩) (by simp only [lite_cons, lite_nil] <;> rfl) fun all hall K hK => ?_
 clear hall
 simp (maxSteps := 1000000) (disch := first | omega | assumption)
 repeat' refine And.intro ?_ ?_
 all_goals first | omega | exact rfl | skip
 refine hK _ ?_
 clear hK K
 clear all
 refine q_then_n ?_
 refine awp_seq ?_
 refine awp_regionA (c := ⟨[], [], [], [], []⟩) (by simp only [lite_cons, lite_nil] <;> rfl) fun all hall K hK => ?_
 clear hall
 simp (maxSteps := 1000000) (disch := first | omega | assumption)
 repeat' refine And.intro ?_ ?_
 all_goals first | omega | exact rfl | skip
 refine hK _ ?_
 clear hK K
 clear all
 refine q_then_n ?_
 refine awp_ret ?_
 simp (maxSteps := 1000000) (disch := first | omega | assumption) [endQ]
theorem fnew_fn (x : Int) (σ : List (List D)) : Ct Try.prog 44 [D.int x] σ (fun r σ' => r = d_RQ ⟨max 1 (min x 65536), 0, []⟩ ∧ σ' = σ) := (fnew0_fn x σ).strip fun r σ' h => by obtain ⟨rfl, rfl⟩ := h; exact ⟨rfl, rfl, rfl⟩
theorem fask0_fn (q : RQ) (j : Job) (σ : List (List D)) (hl : q.l.length ≤ 100000) (hn : 0 ≤ q.last ∧ q.last ≤ 1000000) : Ct Try.prog 65 [d_RQ q, d_Job j] σ (fun r σ' => r = .tup [d_RQ (fask q j).1, D.int (fask q j).2.1, D.int (fask q j).2.2] ∧ ∃ J, σ' = σ ++ J) := by
 refine fn_start (rs := [.cell 4 51, .tmp 5, .tmp 6]) Try.func65 rfl rfl Try.ntmps65 Try.results65 (by simp) ?_
 simp only [argEnv]
 refine awp_seq ?_
 refine awp_regionA (c := ⟨[], [], [2], [], []⟩) (by simp only [lite_cons, lite_nil] <;> rfl) fun all hall K hK => ?_
 clear hall
 simp (maxSteps := 1000000) (disch := first | omega | assumption)
 repeat' refine And.intro ?_ ?_
 all_goals first | omega | exact rfl | skip
 refine hK _ ?_
 clear hK K
 clear all
 refine q_then_n ?_
 refine awp_seq ?_
 refine awp_seq ?_
 refine awp_regionA (c := ⟨[], [], [2], [], []⟩) (by simp only [lite_cons, lite_nil] <;> rfl) fun all hall K hK => ?_
 clear hall
 simp (maxSteps := 1000000) (disch := first | omega | assumption)
 repeat' refine And.intro ?_ ?_
 all_goals first | omega | exact rfl | skip
 refine hK _ ?_
 clear hK K
 clear all
 refine q_then_n ?_
 refine awp_ifB (by simp <;> rfl) ?_
 refine ⟨fun c1 => ?_, fun c1 => ?_⟩
 ·try simp at c1
  refine awp_seq ?_
  refine awp_regionA (c := ⟨[], [], [2], [], []⟩) (by simp only [lite_cons, lite_nil] <;> rfl) fun all hall K hK => ?_
  clear hall
  simp (maxSteps := 1000000) (disch := first | omega | assumption)
  repeat' refine And.intro ?_ ?_
  all_goals first | omega | exact rfl | skip
  refine hK _ ?_
  clear hK K
  clear all
  refine q_then_n ?_
  refine awp_ret ?_
  refine q_then_r ?_
  simp [endQ, fask, c1]
 ·try simp at c1
  refine awp_skip ?_
  refine q_then_n ?_
  refine awp_seq ?_
  refine awp_regionA (c := ⟨[], [], [2], [], []⟩) (by simp only [lite_cons, lite_nil] <;> rfl) fun all hall K hK => ?_
  clear hall
  simp (maxSteps := 1000000) (disch := first | omega | assumption)
  repeat' refine And.intro ?_ ?_
  all_goals first | omega | exact rfl | skip
  refine hK _ ?_
  clear hK K
  clear all
  refine q_then_n ?_
  refine awp_seq ?_
  refine awp_keep [2, 3, 4, 5, 6] (by simp only [keepL_nil, keepL_cons, envOf_sel, envOf_nil, sel_t, sel_f, Nat.reduceBEq] <;> rfl) ?_
  refine awp_drawA (c := ⟨[], [], [2], [], []⟩) [.op ⟨false, false, false, false⟩, .op ⟨false, false, false, false⟩, .op ⟨false, false, true, false⟩, .op ⟨false, false, false, false⟩, .op ⟨false, false, false, false⟩, .op ⟨false, false, true, false⟩, .op ⟨true, false, false, false⟩, .op ⟨false, false, false, false⟩, .op ⟨false, false, false, false⟩, .op ⟨false, false, false, false⟩, .op ⟨false, false, false, false⟩, .op ⟨false, false, true, true⟩] (by kernel_rfl) (by kernel_rfl) (by simp only [lite_cons, lite_nil] <;> rfl) fun all hall K hK => ?_
  clear hall
  refine vcDL_split 8 (by simp) fun K' hK' => ?_
  simp (maxSteps := 1000000) (disch := first | omega | assumption)
  repeat' refine And.intro ?_ ?_
  all_goals first | omega | exact rfl | skip
  refine hK' _ ?_
  clear hK' K'
  simp only [List.drop_succ_cons, List.drop_zero]
  simp (maxSteps := 1000000) (disch := first | omega | assumption)
  repeat' refine And.intro ?_ ?_
  all_goals first | omega | exact rfl | skip
  refine hK _ ?_
  clear hK K
  clear all
  refine q_then_n ?_
  refine awp_seq ?_
  refine awp_keep [2, 4, 5, 6] (by simp only [keepL_nil, keepL_cons, envOf_sel, envOf_nil, sel_t, sel_f, Nat.reduceBEq] <;> rfl) ?_
  refine awp_drawA (c := ⟨[], [], [2], [], []⟩) [.op ⟨false, false, true, false⟩, .op ⟨false, false, false, false⟩, .op ⟨false, false, true, false⟩, .op ⟨true, true, false, false⟩, .op ⟨false, false, false, false⟩, .op ⟨false, false, false, false⟩] (by kernel_rfl) (by kernel_rfl) (by simp only [lite_cons, lite_nil] <;> rfl) fun all hall K hK => ?_
  clear hall
  simp (maxSteps := 1000000) (disch := first | omega | assumption)
  repeat' refine And.intro ?_ ?_
  all_goals first | omega | exact rfl | skip
  refine hK _ ?_
  clear hK K
  clear all
  refine q_then_n ?_
  refine awp_ret ?_
  simp [endQ, fask, c1]
theorem wt_sc2 (N : Nat) (o : Bool) (l : List Wt) : Sc N (.sl o (l.map d_Wt)) := Sc.sl (Sc.map fun a => Sc.agg fun d hd => by
 simp only [List.mem_cons, List.not_mem_nil, or_false] at hd
 rcases hd with rfl | rfl | rfl | rfl <;> exact Sc.v _)
theorem rq_sc (N : Nat) (q : RQ) : Sc N (d_RQ q) := Sc.agg fun d hd => by
 simp only [List.mem_cons, List.not_mem_nil, or_false] at hd
 rcases hd with rfl | rfl | rfl
 ·exact Sc.v _
 ·exact Sc.v _
 ·exact wt_sc2 _ _ _
theorem fask_fn (q : RQ) (j : Job) (σ : List (List D)) (hl : q.l.length ≤ 100000) (hn : 0 ≤ q.last ∧ q.last ≤ 1000000) : Ct Try.prog 65 [d_RQ q, d_Job j] σ (fun r σ' => r = .tup [d_RQ (fask q j).1, D.int (fask q j).2.1, D.int (fask q j).2.2] ∧ σ' = σ) :=
 (fask0_fn q j σ hl hn).trim fun r σ' ⟨hr, J, hs⟩ => ⟨σ, J, hs, rfl, by
  rw [hr]
  refine Sc.tup fun d hd => ?_
  simp only [List.mem_cons, List.not_mem_nil, or_false] at hd
  rcases hd with rfl | rfl | rfl
  ·exact rq_sc _ _
  ·exact Sc.v _
  ·exact Sc.v _, fun n cs h => .inl h, hr, rfl⟩
theorem fcan_fn (q : RQ) (n : Int) (σ : List (List D)) (hl : q.l.length ≤ 100000) (hn : 0 ≤ q.last ∧ q.last ≤ 1000000) : Ct Try.prog 66 [d_RQ q, D.int n] σ (fun r σ' => r = .tup [d_RQ (fcan q n), .bool (decide ((qdel n q.l).length < q.l.length))] ∧ σ' = σ) := by
 refine fn_start (rs := [.cell 4 51, .tmp 5]) Try.func66 rfl rfl Try.ntmps66 Try.results66 (by simp) ?_
 simp only [argEnv]
 refine awp_seq ?_
 refine awp_regionA (c := ⟨[6, 22], [], [], [], []⟩) (by simp only [lite_cons, lite_nil] <;> rfl) fun all hall K hK => ?_
 clear hall
 simp (maxSteps := 1000000) (disch := first | omega | assumption)
 repeat' refine And.intro ?_ ?_
 all_goals first | omega | exact rfl | skip
 refine hK _ ?_
 clear hK K
 clear all
 refine q_then_n ?_
 refine awp_seq ?_
 refine awp_regionA (c := ⟨[6, 22], [], [], [], []⟩) (by simp only [lite_cons, lite_nil] <;> rfl) fun all hall K hK => ?_
 clear hall
 simp (maxSteps := 1000000) (disch := first | omega | assumption)
 repeat' refine And.intro ?_ ?_
 all_goals first | omega | exact rfl | skip
 refine hK _ ?_
 clear hK K
 clear all
 refine q_then_n ?_
 refine awp_seq ?_
 refine awp_seq ?_
 refine awp_regionA (c := ⟨[6, 22], [], [], [], []⟩) (by simp only [lite_cons, lite_nil] <;> rfl) fun all hall K hK => ?_
 clear hall
 simp (maxSteps := 1000000) (disch := first | omega | assumption)
 repeat' refine And.intro ?_ ?_
 all_goals first | omega | exact rfl | skip
 refine hK _ ?_
 clear hK K
 clear all
 refine q_then_n ?_
 refine awp_block ?_
 refine awp_keep [1, 2, 4, 5, 6, 12, 13, 14] (by simp only [keepL_nil, keepL_cons, envOf_sel, envOf_nil, sel_t, sel_f, Nat.reduceBEq] <;> rfl) ?_
 refine awp_loopE (fun (k : Nat) => [(14, .d (.v (.int .i64 (k : Int)))), (6, .d (.sl true ((qdel n (q.l.take k)).map d_Wt)))]) [6, 8, 14, 15, 16, 17, 18, 19, 20, 21, 22, 23, 24, 25, 26] (fun (k : Nat) => k ≤ q.l.length) (fun (k : Nat) => q.l.length - k) (0) (by simp <;> rfl) ?_ ?_ ?_
 ·simp [qdel]
 ·simp
 rintro k hk
 simp only [List.cons_append, List.nil_append]
 have hcl := qdel_len n (q.l.take k)
 simp only [List.length_take] at hcl
 refine awp_seq ?_
 refine awp_regionA (c := ⟨[6, 22], [], [], [], []⟩) (by simp only [lite_cons, lite_nil] <;> rfl) fun all hall K hK => ?_
 clear hall
 simp (maxSteps := 1000000) (disch := first | omega | assumption)
 repeat' refine And.intro ?_ ?_
 all_goals first | omega | exact rfl | skip
 refine hK _ ?_
 clear hK K
 clear all
 refine q_then_n ?_
 refine awp_seq ?_
 refine awp_ifB (by simp <;> rfl) ?_
 refine ⟨fun c1 => ?_, fun c1 => ?_⟩
 ·try simp at c1
  refine awp_skip ?_
  refine q_then_n ?_
  refine awp_seq ?_
  refine awp_block ?_
  refine awp_seq ?_
  refine awp_regionA (c := ⟨[6, 22], [], [], [], []⟩) (by simp only [lite_cons, lite_nil] <;> rfl) fun all hall K hK => ?_
  clear hall
  simp (maxSteps := 1000000) (disch := first | omega | assumption)
  repeat' refine And.intro ?_ ?_
  all_goals first | omega | exact rfl | skip
  refine hK _ ?_
  clear hK K
  clear all
  refine q_then_n ?_
  refine awp_seq ?_
  refine awp_keep [1, 2, 4, 5, 6, 8, 12, 13, 14] (by simp only [keepL_nil, keepL_cons, envOf_sel, envOf_nil, sel_t, sel_f, Nat.reduceBEq] <;> rfl) ?_
  refine awp_regionA (c := ⟨[6, 22], [], [], [], []⟩) (by simp only [lite_cons, lite_nil] <;> rfl) fun all hall K hK => ?_
  clear hall
  simp (maxSteps := 1000000) (disch := first | omega | assumption)
  repeat' refine And.intro ?_ ?_
  all_goals first | omega | exact rfl | skip
  refine hK _ ?_
  clear hK K
  clear all
  refine q_then_n ?_
  refine awp_ifB (by simp <;> rfl) ?_
  refine ⟨fun c2 => ?_, fun c2 => ?_⟩
  ·try simp at c2
   refine awp_keep [1, 2, 4, 5, 6, 8, 12, 13, 14] (by simp only [keepL_nil, keepL_cons, envOf_sel, envOf_nil, sel_t, sel_f, Nat.reduceBEq] <;> rfl) ?_
   refine awp_regionA (c := ⟨[6, 22], [], [], [], []⟩) (by simp only [lite_cons, lite_nil] <;> rfl) fun all hall K hK => ?_
   clear hall
   simp (maxSteps := 1000000) (disch := first | omega | assumption)
   repeat' refine And.intro ?_ ?_
   all_goals first | omega | exact rfl | skip
   refine hK _ ?_
   clear hK K
   clear all
   refine q_block_n ?_
   refine q_then_n ?_
   refine awp_keep [1, 2, 4, 5, 6, 12, 13, 14] (by simp only [keepL_nil, keepL_cons, envOf_sel, envOf_nil, sel_t, sel_f, Nat.reduceBEq] <;> rfl) ?_
   refine awp_regionA (c := ⟨[6, 22], [], [], [], []⟩) (by simp only [lite_cons, lite_nil] <;> rfl) fun all hall K hK => ?_
   clear hall
   simp (maxSteps := 1000000) (disch := first | omega | assumption)
   repeat' refine And.intro ?_ ?_
   all_goals first | omega | exact rfl | skip
   refine hK _ ?_
   clear hK K
   clear all
   refine q_round (k + 1) ?_ ?_ (weak_mkA rfl ?_ (by simp) (by simp))
   ·omega
   ·try dsimp only
    omega
   ·simp (maxSteps := 1000000) (disch := first | omega | assumption) [qdel_take, c2]
  ·try simp at c2
   refine awp_skip ?_
   refine q_block_n ?_
   refine q_then_n ?_
   refine awp_keep [1, 2, 4, 5, 6, 12, 13, 14] (by simp only [keepL_nil, keepL_cons, envOf_sel, envOf_nil, sel_t, sel_f, Nat.reduceBEq] <;> rfl) ?_
   refine awp_regionA (c := ⟨[6, 22], [], [], [], []⟩) (by simp only [lite_cons, lite_nil] <;> rfl) fun all hall K hK => ?_
   clear hall
   simp (maxSteps := 1000000) (disch := first | omega | assumption)
   repeat' refine And.intro ?_ ?_
   all_goals first | omega | exact rfl | skip
   refine hK _ ?_
   clear hK K
   clear all
   refine q_round (k + 1) ?_ ?_ (weak_mkA rfl ?_ (by simp) (by simp))
   ·omega
   ·try dsimp only
    omega
   ·simp (maxSteps := 1000000) (disch := first | omega | assumption) [qdel_take, c2]
 ·try simp at c1
  obtain rfl : k = q.l.length := by omega
  rw [List.take_length]
  refine awp_exit ?_
  refine q_then_e ?_
  refine q_loop_e ?_
  refine q_block_e ?_
  refine q_then_n ?_
  refine awp_seq ?_
  refine awp_regionA (c := ⟨[6, 22], [], [], [], []⟩) (by simp only [lite_cons, lite_nil] <;> rfl) fun all hall K hK => ?_
  clear hall
  simp (maxSteps := 1000000) (disch := first | omega | assumption)
  repeat' refine And.intro ?_ ?_
  all_goals first | omega | exact rfl | skip
  refine hK _ ?_
  clear hK K
  clear all
  refine q_then_n ?_
  refine awp_seq ?_
  refine awp_keep [2, 4, 5, 6, 9] (by simp only [keepL_nil, keepL_cons, envOf_sel, envOf_nil, sel_t, sel_f, Nat.reduceBEq] <;> rfl) ?_
  refine awp_regionA (c := ⟨[6, 22], [], [], [], []⟩) (by simp only [lite_cons, lite_nil] <;> rfl) fun all hall K hK => ?_
  clear hall
  simp (maxSteps := 1000000) (disch := first | omega | assumption)
  repeat' refine And.intro ?_ ?_
  all_goals first | omega | exact rfl | skip
  refine hK _ ?_
  clear hK K
  clear all
  refine q_then_n ?_
  refine awp_seq ?_
  refine awp_regionA (c := ⟨[6, 22], [], [], [], []⟩) (by simp only [lite_cons, lite_nil] <;> rfl) fun all hall K hK => ?_
  clear hall
  simp (maxSteps := 1000000) (disch := first | omega | assumption)
  repeat' refine And.intro ?_ ?_
  all_goals first | omega | exact rfl | skip
  refine hK _ ?_
  clear hK K
  clear all
  refine q_then_n ?_
  refine awp_ret ?_
  simp [endQ, fcan]
theorem fframe_fn (q : RQ) (σ : List (List D)) (hl : q.l.length ≤ 100000) (hn : 0 ≤ q.last ∧ q.last ≤ 1000000) (hw : ∀ w ∈ q.l, 1 ≤ w.left ∧ w.left ≤ 2) : Ct Try.prog 68 [d_RQ q] σ (fun r σ' => r = .tup [d_RQ (rnext q), .sl false ((fdue q.l).map d_Wt)] ∧ σ' = σ) := by
 refine fn_start (rs := [.cell 2 51, .tmp 3]) Try.func68 rfl rfl Try.ntmps68 Try.results68 (by simp) ?_
 simp only [argEnv]
 refine awp_seq ?_
 refine awp_regionA (c := ⟨[4, 5, 24, 28], [], [], [], []⟩) (by simp only [lite_cons, lite_nil] <;> rfl) fun all hall K hK => ?_
 clear hall
 simp (maxSteps := 1000000) (disch := first | omega | assumption)
 repeat' refine And.intro ?_ ?_
 all_goals first | omega | exact rfl | skip
 refine hK _ ?_
 clear hK K
 clear all
 refine q_then_n ?_
 refine awp_seq ?_
 refine awp_regionA (c := ⟨[4, 5, 24, 28], [], [], [], []⟩) (by simp only [lite_cons, lite_nil] <;> rfl) fun all hall K hK => ?_
 clear hall
 simp (maxSteps := 1000000) (disch := first | omega | assumption)
 repeat' refine And.intro ?_ ?_
 all_goals first | omega | exact rfl | skip
 refine hK _ ?_
 clear hK K
 clear all
 refine q_then_n ?_
 refine awp_seq ?_
 refine awp_regionA (c := ⟨[4, 5, 24, 28], [], [], [], []⟩) (by simp only [lite_cons, lite_nil] <;> rfl) fun all hall K hK => ?_
 clear hall
 simp (maxSteps := 1000000) (disch := first | omega | assumption)
 repeat' refine And.intro ?_ ?_
 all_goals first | omega | exact rfl | skip
 refine hK _ ?_
 clear hK K
 clear all
 refine q_then_n ?_
 refine awp_seq ?_
 refine awp_seq ?_
 refine awp_regionA (c := ⟨[4, 5, 24, 28], [], [], [], []⟩) (by simp only [lite_cons, lite_nil] <;> rfl) fun all hall K hK => ?_
 clear hall
 simp (maxSteps := 1000000) (disch := first | omega | assumption)
 repeat' refine And.intro ?_ ?_
 all_goals first | omega | exact rfl | skip
 refine hK _ ?_
 clear hK K
 clear all
 refine q_then_n ?_
 refine awp_block ?_
 refine awp_keep [1, 2, 3, 4, 5, 11, 12, 13] (by simp only [keepL_nil, keepL_cons, envOf_sel, envOf_nil, sel_t, sel_f, Nat.reduceBEq] <;> rfl) ?_
 refine awp_loopE (fun (k : Nat) => [(13, .d (.v (.int .i64 (k : Int)))), (4, .d (.sl true ((fdue (q.l.take k)).map d_Wt))), (5, .d (.sl true ((rstay (q.l.take k)).map d_Wt)))]) [4, 5, 7, 13, 14, 15, 16, 17, 18, 19, 20, 21, 22, 23, 24, 25, 26, 27, 28, 29, 30, 31, 32] (fun (k : Nat) => k ≤ q.l.length) (fun (k : Nat) => q.l.length - k) (0) (by simp <;> rfl) ?_ ?_ ?_
 ·simp [fdue, rstay]
 ·simp
 rintro k hk
 simp only [List.cons_append, List.nil_append]
 have hcl := fdue_len (q.l.take k)
 have hcs := rstay_len (q.l.take k)
 simp only [List.length_take] at hcl hcs
 refine awp_seq ?_
 refine awp_regionA (c := ⟨[4, 5, 24, 28], [], [], [], []⟩) (by simp only [lite_cons, lite_nil] <;> rfl) fun all hall K hK => ?_
 clear hall
 simp (maxSteps := 1000000) (disch := first | omega | assumption)
 repeat' refine And.intro ?_ ?_
 all_goals first | omega | exact rfl | skip
 refine hK _ ?_
 clear hK K
 clear all
 refine q_then_n ?_
 refine awp_seq ?_
 refine awp_ifB (by simp <;> rfl) ?_
 refine ⟨fun c1 => ?_, fun c1 => ?_⟩
 ·try simp at c1
  have hwk := hw _ (List.getElem_mem (show k < q.l.length by omega))
  refine awp_skip ?_
  refine q_then_n ?_
  refine awp_seq ?_
  refine awp_block ?_
  refine awp_seq ?_
  refine awp_regionA (c := ⟨[4, 5, 24, 28], [], [], [], []⟩) (by simp only [lite_cons, lite_nil] <;> rfl) fun all hall K hK => ?_
  clear hall
  simp (maxSteps := 1000000) (disch := first | omega | assumption)
  repeat' refine And.intro ?_ ?_
  all_goals first | omega | exact rfl | skip
  refine hK _ ?_
  clear hK K
  clear all
  refine q_then_n ?_
  refine awp_seq ?_
  refine awp_keep [1, 2, 3, 4, 5, 7, 11, 12, 13] (by simp only [keepL_nil, keepL_cons, envOf_sel, envOf_nil, sel_t, sel_f, Nat.reduceBEq] <;> rfl) ?_
  refine awp_regionA (c := ⟨[4, 5, 24, 28], [], [], [], []⟩) (by simp only [lite_cons, lite_nil] <;> rfl) fun all hall K hK => ?_
  clear hall
  simp (maxSteps := 1000000) (disch := first | omega | assumption)
  repeat' refine And.intro ?_ ?_
  all_goals first | omega | exact rfl | skip
  refine hK _ ?_
  clear hK K
  clear all
  refine q_then_n ?_
  refine awp_seq ?_
  refine awp_keep [1, 2, 3, 4, 5, 7, 11, 12, 13] (by simp only [keepL_nil, keepL_cons, envOf_sel, envOf_nil, sel_t, sel_f, Nat.reduceBEq] <;> rfl) ?_
  refine awp_regionA (c := ⟨[4, 5, 24, 28], [], [], [], []⟩) (by simp only [lite_cons, lite_nil] <;> rfl) fun all hall K hK => ?_
  clear hall
  simp (maxSteps := 1000000) (disch := first | omega | assumption)
  repeat' refine And.intro ?_ ?_
  all_goals first | omega | exact rfl | skip
  refine hK _ ?_
  clear hK K
  clear all
  refine q_then_n ?_
  refine awp_ifB (by simp <;> rfl) ?_
  refine ⟨fun c2 => ?_, fun c2 => ?_⟩
  ·try simp at c2
   refine awp_keep [1, 2, 3, 4, 5, 7, 11, 12, 13] (by simp only [keepL_nil, keepL_cons, envOf_sel, envOf_nil, sel_t, sel_f, Nat.reduceBEq] <;> rfl) ?_
   refine awp_regionA (c := ⟨[4, 5, 24, 28], [], [], [], []⟩) (by simp only [lite_cons, lite_nil] <;> rfl) fun all hall K hK => ?_
   clear hall
   simp (maxSteps := 1000000) (disch := first | omega | assumption)
   repeat' refine And.intro ?_ ?_
   all_goals first | omega | exact rfl | skip
   refine hK _ ?_
   clear hK K
   clear all
   refine q_block_n ?_
   refine q_then_n ?_
   refine awp_keep [1, 2, 3, 4, 5, 11, 12, 13] (by simp only [keepL_nil, keepL_cons, envOf_sel, envOf_nil, sel_t, sel_f, Nat.reduceBEq] <;> rfl) ?_
   refine awp_regionA (c := ⟨[4, 5, 24, 28], [], [], [], []⟩) (by simp only [lite_cons, lite_nil] <;> rfl) fun all hall K hK => ?_
   clear hall
   simp (maxSteps := 1000000) (disch := first | omega | assumption)
   repeat' refine And.intro ?_ ?_
   all_goals first | omega | exact rfl | skip
   refine hK _ ?_
   clear hK K
   clear all
   refine q_round (k + 1) ?_ ?_ (weak_mkA rfl ?_ (by simp) (by simp))
   ·omega
   ·try dsimp only
    omega
   ·simp (maxSteps := 1000000) (disch := first | omega | assumption) [fdue_take, rstay_take, c2, wdec]
  ·try simp at c2
   refine awp_keep [1, 2, 3, 4, 5, 7, 11, 12, 13] (by simp only [keepL_nil, keepL_cons, envOf_sel, envOf_nil, sel_t, sel_f, Nat.reduceBEq] <;> rfl) ?_
   refine awp_regionA (c := ⟨[4, 5, 24, 28], [], [], [], []⟩) (by simp only [lite_cons, lite_nil] <;> rfl) fun all hall K hK => ?_
   clear hall
   simp (maxSteps := 1000000) (disch := first | omega | assumption)
   repeat' refine And.intro ?_ ?_
   all_goals first | omega | exact rfl | skip
   refine hK _ ?_
   clear hK K
   clear all
   refine q_block_n ?_
   refine q_then_n ?_
   refine awp_keep [1, 2, 3, 4, 5, 11, 12, 13] (by simp only [keepL_nil, keepL_cons, envOf_sel, envOf_nil, sel_t, sel_f, Nat.reduceBEq] <;> rfl) ?_
   refine awp_regionA (c := ⟨[4, 5, 24, 28], [], [], [], []⟩) (by simp only [lite_cons, lite_nil] <;> rfl) fun all hall K hK => ?_
   clear hall
   simp (maxSteps := 1000000) (disch := first | omega | assumption)
   repeat' refine And.intro ?_ ?_
   all_goals first | omega | exact rfl | skip
   refine hK _ ?_
   clear hK K
   clear all
   refine q_round (k + 1) ?_ ?_ (weak_mkA rfl ?_ (by simp) (by simp))
   ·omega
   ·try dsimp only
    omega
   ·simp (maxSteps := 1000000) (disch := first | omega | assumption) [fdue_take, rstay_take, c2, wdec]
 ·try simp at c1
  obtain rfl : k = q.l.length := by omega
  rw [List.take_length]
  refine awp_exit ?_
  refine q_then_e ?_
  refine q_loop_e ?_
  refine q_block_e ?_
  refine q_then_n ?_
  refine awp_seq ?_
  refine awp_regionA (c := ⟨[4, 5, 24, 28], [], [], [], []⟩) (by simp only [lite_cons, lite_nil] <;> rfl) fun all hall K hK => ?_
  clear hall
  simp (maxSteps := 1000000) (disch := first | omega | assumption)
  repeat' refine And.intro ?_ ?_
  all_goals first | omega | exact rfl | skip
  refine hK _ ?_
  clear hK K
  clear all
  refine q_then_n ?_
  refine awp_seq ?_
  refine awp_regionA (c := ⟨[4, 5, 24, 28], [], [], [], []⟩) (by simp only [lite_cons, lite_nil] <;> rfl) fun all hall K hK => ?_
  clear hall
  simp (maxSteps := 1000000) (disch := first | omega | assumption)
  repeat' refine And.intro ?_ ?_
  all_goals first | omega | exact rfl | skip
  refine hK _ ?_
  clear hK K
  clear all
  refine q_then_n ?_
  refine awp_ret ?_
  simp [endQ, rnext]
end Go.Proofs.Ytnlokhfcgaikiaa

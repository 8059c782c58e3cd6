import Derived.Test.YtnlokhfcgaikiaaWkWheel3
import Derived.Test.YtnlokhfcgaikiaaItCt
namespace Go.Proofs.Ytnlokhfcgaikiaa
open Go Go.Vm
set_option maxRecDepth 20000
set_option linter.all false
set_option maxHeartbeats 8000000
structure RW where
 most : Int
 last : Int
 l : (List Tm)
 deriving DecidableEq
@[simp] abbrev d_RW (s : RW) : D := .agg [.v (.int .i64 s.most), .v (.int .i64 s.last), .sl false (s.l.map d_Tm)]
@[simp] abbrev o_RW (s : RW) : D := .agg [.v (.int .i64 s.most), .v (.int .i64 s.last), .sl true (s.l.map d_Tm)]
theorem take_snoc {α : Type} (l : List α) (k : Nat) (h : k < l.length) : l.take (k + 1) = l.take k ++ [l[k]] := List.take_succ_eq_append_getElem h
def tle (d : Int) (t : Tm) : Bool := decide (t.deadline ≤ d)
def rins (t : Tm) (l : List Tm) : List Tm := l.takeWhile (tle t.deadline) ++ t :: l.dropWhile (tle t.deadline)
def radd (x : RW) (n : Int) (j : Job) : RW × Int × Int := if (x.l.length : Int) = x.most then (x, 0, 9) else (⟨x.most, x.last + 1, rins ⟨x.last + 1, max 0 (min n 1099511627776), j⟩ x.l⟩, x.last + 1, 0)
def rdel (n : Int) (l : List Tm) : List Tm := l.filter fun t => decide (t.token ≠ n)
theorem rdel_len (n : Int) (l : List Tm) : (rdel n l).length ≤ l.length := List.length_filter_le _ _
theorem rdel_take (n : Int) (l : List Tm) (k : Nat) (h : k < l.length) : rdel n (l.take (k + 1)) = rdel n (l.take k) ++ if l[k].token = n then [] else [l[k]] := by
 unfold rdel
 rw [take_snoc l k h, List.filter_append, List.filter_cons]
 by_cases e : l[k].token = n <;> simp [e]
def rduec (x : RW) (n : Int) : Bool := decide (0 < x.l.length ∧ (at_ x.l 0).deadline ≤ n)
def rdue (x : RW) (n : Int) : RW := if rduec x n = true then ⟨x.most, x.last, x.l.drop 1⟩ else x
def rduet (x : RW) (n : Int) : Tm := if rduec x n = true then at_ x.l 0 else tm0
theorem below_succ {l : List Tm} {k : Nat} {d : Int} (hd : ∀ i (hi : i < l.length), i < k → l[i].deadline ≤ d) (hk : k < l.length) (h3 : l[k].deadline ≤ d) : ∀ i (hi : i < l.length), i < k + 1 → l[i].deadline ≤ d := by
 intro i hi h
 by_cases e : i = k
 ·subst e; exact h3
 ·exact hd i hi (by omega)
theorem nc4 (l : List Tm) (a b c e : D) : (∀ d : D, ((∃ t, t ∈ l ∧ D.agg [.v (.int .i64 t.token), .v (.int .i64 t.deadline), .v (.int .i64 t.job.kind), .v (.int .i64 t.job.node)] = d) ∨ d = D.agg [a, b, c, e]) → d.ncells = 4) ↔ True := iff_true_intro (by rintro d (⟨t, _, rfl⟩ | rfl) <;> rfl)
theorem rins_at {t : Tm} {l : List Tm} {k : Nat} (hk : k ≤ l.length) (h1 : ∀ i (hi : i < l.length), i < k → l[i].deadline ≤ t.deadline) (h2 : ∀ h : k < l.length, ¬ l[k].deadline ≤ t.deadline) : l.take k ++ t :: l.drop k = rins t l := by
 have e : l.takeWhile (tle t.deadline) = l.take k ∧ l.dropWhile (tle t.deadline) = l.drop k := by
  induction l generalizing k with
  | nil => simp at hk; subst hk; simp
  | cons a l ih =>
   cases k with
   | zero =>
    have := h2 (by simp)
    simp at this
    simp [tle, this]
   | succ k =>
    have ha := h1 0 (by simp) (by omega)
    simp at ha
    have := ih (k := k) (by simpa using hk) (fun i hi hik => by have := h1 (i + 1) (by simpa using hi) (by omega); simpa using this) (fun h => by have := h2 (by simpa using h); simpa using this)
    rw [List.takeWhile_cons, List.dropWhile_cons]
    simp [tle, ha]
    exact this
 unfold rins
 rw [e.1, e.2]
theorem rnew0_fn (x : Int) (σ : List (List D))  : Ct Try.prog 23 [D.int x] σ (fun r σ' => r = o_RW ⟨max 1 (min x 65536), 0, []⟩ ∧ σ' = σ) := by
 refine fn_start (rs := [.cell 2 48]) Try.func23 rfl rfl Try.ntmps23 Try.results23 (by simp) ?_
 simp only [argEnv]
 refine awp_seq ?_
 refine awp_regionA (c := ⟨[], [], [], [], []⟩) (by simp only [lite_cons, lite_nil] <;> rfl) fun all hall K hK => ?_
 clear hall
 simp (maxSteps := 1000000) (disch := first | omega | assumption)
 repeat' refine And.intro ?_ ?_
 all_goals first | omega | exact rfl | skip
 refine hK _ ?_
 clear hK K
 clear all
 refine q_then_n ?_
 refine awp_seq ?_
 refine awp_regionA (c := ⟨[], [], [], [], []⟩) (by simp only [lite_cons, lite_nil] <;> rfl) fun all hall K hK => ?_
 clear hall
 simp (maxSteps := 1000000) (disch := first | omega | assumption)
 repeat' refine And.intro ?_ ?_
 all_goals first | omega | exact rfl | skip
 refine hK _ ?_
 clear hK K
 clear all
 refine q_then_n ?_
 refine awp_ret ?_
 simp (maxSteps := 1000000) (disch := first | omega | assumption) [endQ]
theorem rnew_fn (x : Int) (σ : List (List D)) : Ct Try.prog 23 [D.int x] σ (fun r σ' => r = d_RW ⟨max 1 (min x 65536), 0, []⟩ ∧ σ' = σ) := (rnew0_fn x σ).strip fun r σ' h => by obtain ⟨rfl, rfl⟩ := h; exact ⟨rfl, rfl, rfl⟩
theorem rcan_fn (x : RW) (n : Int) (σ : List (List D)) (hl : x.l.length ≤ 100000) (hn : 0 ≤ x.last ∧ x.last ≤ 1000000) : Ct Try.prog 48 [d_RW x, D.int n] σ (fun r σ' => r = .tup [d_RW ⟨x.most, x.last, rdel n x.l⟩, .bool (decide ((rdel n x.l).length < x.l.length))] ∧ σ' = σ) := by
 refine fn_start (rs := [.cell 4 48, .tmp 5]) Try.func48 rfl rfl Try.ntmps48 Try.results48 (by simp) ?_
 simp only [argEnv]
 refine awp_seq ?_
 refine awp_regionA (c := ⟨[6, 22], [], [], [], []⟩) (by simp only [lite_cons, lite_nil] <;> rfl) fun all hall K hK => ?_
 clear hall
 simp (maxSteps := 1000000) (disch := first | omega | assumption)
 repeat' refine And.intro ?_ ?_
 all_goals first | omega | exact rfl | skip
 refine hK _ ?_
 clear hK K
 clear all
 refine q_then_n ?_
 refine awp_seq ?_
 refine awp_regionA (c := ⟨[6, 22], [], [], [], []⟩) (by simp only [lite_cons, lite_nil] <;> rfl) fun all hall K hK => ?_
 clear hall
 simp (maxSteps := 1000000) (disch := first | omega | assumption)
 repeat' refine And.intro ?_ ?_
 all_goals first | omega | exact rfl | skip
 refine hK _ ?_
 clear hK K
 clear all
 refine q_then_n ?_
 refine awp_seq ?_
 refine awp_seq ?_
 refine awp_regionA (c := ⟨[6, 22], [], [], [], []⟩) (by simp only [lite_cons, lite_nil] <;> rfl) fun all hall K hK => ?_
 clear hall
 simp (maxSteps := 1000000) (disch := first | omega | assumption)
 repeat' refine And.intro ?_ ?_
 all_goals first | omega | exact rfl | skip
 refine hK _ ?_
 clear hK K
 clear all
 refine q_then_n ?_
 refine awp_block ?_
 refine awp_keep [1, 2, 4, 5, 6, 12, 13, 14] (by simp only [keepL_nil, keepL_cons, envOf_sel, envOf_nil, sel_t, sel_f, Nat.reduceBEq] <;> rfl) ?_
 refine awp_loopE (fun (k : Nat) => [(14, .d (.v (.int .i64 (k : Int)))), (6, .d (.sl true ((rdel n (x.l.take k)).map d_Tm)))]) [6, 8, 14, 15, 16, 17, 18, 19, 20, 21, 22, 23, 24, 25, 26] (fun (k : Nat) => k ≤ x.l.length) (fun (k : Nat) => x.l.length - k) (0) (by simp <;> rfl) ?_ ?_ ?_
 ·simp [rdel]
 ·simp
 rintro k hk
 simp only [List.cons_append, List.nil_append]
 have hcl := rdel_len n (x.l.take k)
 simp only [List.length_take] at hcl
 refine awp_seq ?_
 refine awp_regionA (c := ⟨[6, 22], [], [], [], []⟩) (by simp only [lite_cons, lite_nil] <;> rfl) fun all hall K hK => ?_
 clear hall
 simp (maxSteps := 1000000) (disch := first | omega | assumption)
 repeat' refine And.intro ?_ ?_
 all_goals first | omega | exact rfl | skip
 refine hK _ ?_
 clear hK K
 clear all
 refine q_then_n ?_
 refine awp_seq ?_
 refine awp_ifB (by simp <;> rfl) ?_
 refine ⟨fun c1 => ?_, fun c1 => ?_⟩
 ·try simp at c1
  refine awp_skip ?_
  refine q_then_n ?_
  refine awp_seq ?_
  refine awp_block ?_
  refine awp_seq ?_
  refine awp_regionA (c := ⟨[6, 22], [], [], [], []⟩) (by simp only [lite_cons, lite_nil] <;> rfl) fun all hall K hK => ?_
  clear hall
  simp (maxSteps := 1000000) (disch := first | omega | assumption)
  repeat' refine And.intro ?_ ?_
  all_goals first | omega | exact rfl | skip
  refine hK _ ?_
  clear hK K
  clear all
  refine q_then_n ?_
  refine awp_seq ?_
  refine awp_keep [1, 2, 4, 5, 6, 8, 12, 13, 14] (by simp only [keepL_nil, keepL_cons, envOf_sel, envOf_nil, sel_t, sel_f, Nat.reduceBEq] <;> rfl) ?_
  refine awp_regionA (c := ⟨[6, 22], [], [], [], []⟩) (by simp only [lite_cons, lite_nil] <;> rfl) fun all hall K hK => ?_
  clear hall
  simp (maxSteps := 1000000) (disch := first | omega | assumption)
  repeat' refine And.intro ?_ ?_
  all_goals first | omega | exact rfl | skip
  refine hK _ ?_
  clear hK K
  clear all
  refine q_then_n ?_
  refine awp_ifB (by simp <;> rfl) ?_
  refine ⟨fun c2 => ?_, fun c2 => ?_⟩
  ·try simp at c2
   refine awp_keep [1, 2, 4, 5, 6, 8, 12, 13, 14] (by simp only [keepL_nil, keepL_cons, envOf_sel, envOf_nil, sel_t, sel_f, Nat.reduceBEq] <;> rfl) ?_
   refine awp_regionA (c := ⟨[6, 22], [], [], [], []⟩) (by simp only [lite_cons, lite_nil] <;> rfl) fun all hall K hK => ?_
   clear hall
   simp (maxSteps := 1000000) (disch := first | omega | assumption)
   repeat' refine And.intro ?_ ?_
   all_goals first | omega | exact rfl | skip
   refine hK _ ?_
   clear hK K
   clear all
   refine q_block_n ?_
   refine q_then_n ?_
   refine awp_keep [1, 2, 4, 5, 6, 12, 13, 14] (by simp only [keepL_nil, keepL_cons, envOf_sel, envOf_nil, sel_t, sel_f, Nat.reduceBEq] <;> rfl) ?_
   refine awp_regionA (c := ⟨[6, 22], [], [], [], []⟩) (by simp only [lite_cons, lite_nil] <;> rfl) fun all hall K hK => ?_
   clear hall
   simp (maxSteps := 1000000) (disch := first | omega | assumption)
   repeat' refine And.intro ?_ ?_
   all_goals first | omega | exact rfl | skip
   refine hK _ ?_
   clear hK K
   clear all
   refine q_round (k + 1) ?_ ?_ (weak_mkA rfl ?_ (by simp) (by simp))
   ·omega
   ·try dsimp only
    omega
   ·simp (maxSteps := 1000000) (disch := first | omega | assumption) [rdel_take, c2]
  ·try simp at c2
   refine awp_skip ?_
   refine q_block_n ?_
   refine q_then_n ?_
   refine awp_keep [1, 2, 4, 5, 6, 12, 13, 14] (by simp only [keepL_nil, keepL_cons, envOf_sel, envOf_nil, sel_t, sel_f, Nat.reduceBEq] <;> rfl) ?_
   refine awp_regionA (c := ⟨[6, 22], [], [], [], []⟩) (by simp only [lite_cons, lite_nil] <;> rfl) fun all hall K hK => ?_
   clear hall
   simp (maxSteps := 1000000) (disch := first | omega | assumption)
   repeat' refine And.intro ?_ ?_
   all_goals first | omega | exact rfl | skip
   refine hK _ ?_
   clear hK K
   clear all
   refine q_round (k + 1) ?_ ?_ (weak_mkA rfl ?_ (by simp) (by simp))
   ·omega
   ·try dsimp only
    omega
   ·simp (maxSteps := 1000000) (disch := first | omega | assumption) [rdel_take, c2]
 ·try simp at c1
  obtain rfl : k = x.l.length := by omega
  rw [List.take_length]
  refine awp_exit ?_
  refine q_then_e ?_
  refine q_loop_e ?_
  refine q_block_e ?_
  refine q_then_n ?_
  refine awp_seq ?_
  refine awp_regionA (c := ⟨[6, 22], [], [], [], []⟩) (by simp only [lite_cons, lite_nil] <;> rfl) fun all hall K hK => ?_
  clear hall
  simp (maxSteps := 1000000) (disch := first | omega | assumption)
  repeat' refine And.intro ?_ ?_
  all_goals first | omega | exact rfl | skip
  refine hK _ ?_
  clear hK K
  clear all
  refine q_then_n ?_
  refine awp_seq ?_
  refine awp_keep [2, 4, 5, 6, 9] (by simp only [keepL_nil, keepL_cons, envOf_sel, envOf_nil, sel_t, sel_f, Nat.reduceBEq] <;> rfl) ?_
  refine awp_regionA (c := ⟨[6, 22], [], [], [], []⟩) (by simp only [lite_cons, lite_nil] <;> rfl) fun all hall K hK => ?_
  clear hall
  simp (maxSteps := 1000000) (disch := first | omega | assumption)
  repeat' refine And.intro ?_ ?_
  all_goals first | omega | exact rfl | skip
  refine hK _ ?_
  clear hK K
  clear all
  refine q_then_n ?_
  refine awp_seq ?_
  refine awp_regionA (c := ⟨[6, 22], [], [], [], []⟩) (by simp only [lite_cons, lite_nil] <;> rfl) fun all hall K hK => ?_
  clear hall
  simp (maxSteps := 1000000) (disch := first | omega | assumption)
  repeat' refine And.intro ?_ ?_
  all_goals first | omega | exact rfl | skip
  refine hK _ ?_
  clear hK K
  clear all
  refine q_then_n ?_
  refine awp_ret ?_
  simp [endQ]
theorem rdue0_fn (x : RW) (n : Int) (σ : List (List D)) (hl : x.l.length ≤ 100000) (hn : 0 ≤ x.last ∧ x.last ≤ 1000000) : Ct Try.prog 49 [d_RW x, D.int n] σ (fun r σ' => r = .tup [d_RW (rdue x n), d_Tm (rduet x n), .bool (rduec x n)] ∧ ∃ J, σ' = σ ++ J) := by
 refine fn_start (rs := [.cell 4 48, .cell 5 115, .tmp 6]) Try.func49 rfl rfl Try.ntmps49 Try.results49 (by simp) ?_
 simp only [argEnv]
 refine awp_seq ?_
 refine awp_regionA (c := ⟨[], [], [2, 7], [], []⟩) (by simp only [lite_cons, lite_nil] <;> rfl) fun all hall K hK => ?_
 clear hall
 simp (maxSteps := 1000000) (disch := first | omega | assumption) [og_at, og_put, og_at0, og_put0]
 repeat' refine And.intro ?_ ?_
 all_goals first | omega | exact rfl | skip
 refine hK _ ?_
 clear hK K
 clear all
 refine q_then_n ?_
 refine awp_seq ?_
 refine awp_seq ?_
 refine awp_keep [1, 2, 4, 5, 6] (by simp only [keepL_nil, keepL_cons, envOf_sel, envOf_nil, sel_t, sel_f, Nat.reduceBEq] <;> rfl) ?_
 refine awp_regionA (c := ⟨[], [], [2, 7], [], []⟩) (by simp only [lite_cons, lite_nil] <;> rfl) fun all hall K hK => ?_
 have ga4 : guardOf all 4 = some 12 := hall 4
 clear hall
 refine vcL_split 5 fun K' hK' => ?_
 simp (maxSteps := 1000000) (disch := first | omega | assumption) [og_at, og_put, og_at0, og_put0, ga4]
 repeat' refine And.intro ?_ ?_
 all_goals first | omega | exact rfl | skip
 refine hK' _ ?_
 clear hK' K'
 simp only [List.drop_succ_cons, List.drop_zero]
 refine vcL_bool 12 (by simp <;> rfl) ?_
 refine ⟨fun g1 => ?_, fun g1 => ?_⟩
 ·try simp at g1
  simp (maxSteps := 1000000) (disch := first | omega | assumption) [og_at, og_put, og_at0, og_put0, ga4]
  repeat' refine And.intro ?_ ?_
  all_goals first | omega | exact rfl | skip
  refine hK _ ?_
  clear hK K
  clear ga4
  clear all
  refine q_then_n ?_
  refine awp_cond (t := true) (by simp) (fun _ => ?_) (fun h => by cases h)
  refine awp_seq ?_
  refine awp_keep [2, 4, 5, 6] (by simp only [keepL_nil, keepL_cons, envOf_sel, envOf_nil, sel_t, sel_f, Nat.reduceBEq] <;> rfl) ?_
  refine awp_regionA (c := ⟨[], [], [2, 7], [], []⟩) (by simp only [lite_cons, lite_nil] <;> rfl) fun all hall K hK => ?_
  clear hall
  simp (maxSteps := 1000000) (disch := first | omega | assumption) [og_at, og_put, og_at0, og_put0]
  repeat' refine And.intro ?_ ?_
  all_goals first | omega | exact rfl | skip
  refine hK _ ?_
  clear hK K
  clear all
  refine q_then_n ?_
  refine awp_ret ?_
  refine q_then_r ?_
  have hd : rduec x n = false := by simp [rduec, g1]
  simp [endQ, rdue, rduet, hd, tm0]
 ·try simp at g1
  have h0 : 0 < x.l.length := List.length_pos_iff.2 g1
  simp (maxSteps := 1000000) (disch := first | omega | assumption) [og_at, og_put, og_at0, og_put0, ga4]
  repeat' refine And.intro ?_ ?_
  all_goals first | omega | exact rfl | skip
  refine hK _ ?_
  clear hK K
  clear ga4
  clear all
  refine q_then_n ?_
  refine awp_ifB (by simp <;> rfl) ?_
  refine ⟨fun c2 => ?_, fun c2 => ?_⟩
  ·try simp at c2
   refine awp_seq ?_
   refine awp_keep [2, 4, 5, 6] (by simp only [keepL_nil, keepL_cons, envOf_sel, envOf_nil, sel_t, sel_f, Nat.reduceBEq] <;> rfl) ?_
   refine awp_regionA (c := ⟨[], [], [2, 7], [], []⟩) (by simp only [lite_cons, lite_nil] <;> rfl) fun all hall K hK => ?_
   clear hall
   simp (maxSteps := 1000000) (disch := first | omega | assumption) [og_at, og_put, og_at0, og_put0]
   repeat' refine And.intro ?_ ?_
   all_goals first | omega | exact rfl | skip
   refine hK _ ?_
   clear hK K
   clear all
   refine q_then_n ?_
   refine awp_ret ?_
   refine q_then_r ?_
   have hd : rduec x n = false := by unfold rduec; rw [at_get _ _ h0]; simp; omega
   simp [endQ, rdue, rduet, hd, tm0]
  ·try simp at c2
   refine awp_skip ?_
   refine q_then_n ?_
   refine awp_seq ?_
   refine awp_keep [2, 4, 5, 6] (by simp only [keepL_nil, keepL_cons, envOf_sel, envOf_nil, sel_t, sel_f, Nat.reduceBEq] <;> rfl) ?_
   refine awp_regionA (c := ⟨[], [], [2, 7], [], []⟩) (by simp only [lite_cons, lite_nil] <;> rfl) fun all hall K hK => ?_
   clear hall
   simp (maxSteps := 1000000) (disch := first | omega | assumption) [og_at, og_put, og_at0, og_put0]
   repeat' refine And.intro ?_ ?_
   all_goals first | omega | exact rfl | skip
   refine hK _ ?_
   clear hK K
   clear all
   refine q_then_n ?_
   refine awp_seq ?_
   refine awp_regionA (c := ⟨[], [], [2, 7], [], []⟩) (by simp only [lite_cons, lite_nil] <;> rfl) fun all hall K hK => ?_
   clear hall
   simp (maxSteps := 1000000) (disch := first | omega | assumption) [og_at, og_put, og_at0, og_put0]
   repeat' refine And.intro ?_ ?_
   all_goals first | omega | exact rfl | skip
   refine hK _ ?_
   clear hK K
   clear all
   refine q_then_n ?_
   refine awp_seq ?_
   refine awp_keep [2, 4, 5, 6, 7] (by simp only [keepL_nil, keepL_cons, envOf_sel, envOf_nil, sel_t, sel_f, Nat.reduceBEq] <;> rfl) ?_
   refine awp_drawA (c := ⟨[], [], [2, 7], [], []⟩) [.op ⟨false, false, true, false⟩, .op ⟨false, false, true, false⟩, .op ⟨true, true, false, false⟩, .op ⟨true, true, false, false⟩, .op ⟨false, false, false, false⟩] (by kernel_rfl) (by kernel_rfl) (by simp only [lite_cons, lite_nil] <;> rfl) fun all hall K hK => ?_
   clear hall
   simp (maxSteps := 1000000) (disch := first | omega | assumption) [og_at, og_put, og_at0, og_put0]
   repeat' refine And.intro ?_ ?_
   all_goals first | omega | exact rfl | skip
   refine hK _ ?_
   clear hK K
   clear all
   refine q_then_n ?_
   refine awp_ret ?_
   have hd : rduec x n = true := by unfold rduec; rw [at_get _ _ h0]; simp; omega
   simp [endQ, rdue, rduet, hd, at_get _ _ h0]
   rw [List.take_of_length_le (by simp)]
theorem radd0_fn (x : RW) (n : Int) (j : Job) (σ : List (List D)) (hl : x.l.length ≤ 100000) (hn : 0 ≤ x.last ∧ x.last ≤ 1000000) : Ct Try.prog 47 [d_RW x, D.int n, d_Job j] σ (fun r σ' => r = .tup [d_RW (radd x n j).1, D.int (radd x n j).2.1, D.int (radd x n j).2.2] ∧ ∃ J, σ' = σ ++ J) := by
 refine fn_start (rs := [.cell 6 48, .tmp 7, .tmp 8]) Try.func47 rfl rfl Try.ntmps47 Try.results47 (by simp) ?_
 simp only [argEnv]
 refine awp_seq ?_
 refine awp_regionA (c := ⟨[11, 54, 58], [], [3, 9], [], []⟩) (by simp only [lite_cons, lite_nil] <;> rfl) fun all hall K hK => ?_
 clear hall
 simp (maxSteps := 1000000) (disch := first | omega | assumption) [← List.map_take, ← List.map_drop, nc4, og_at, og_put, og_at0, og_put0]
 repeat' refine And.intro ?_ ?_
 all_goals first | omega | exact rfl | skip
 refine hK _ ?_
 clear hK K
 clear all
 refine q_then_n ?_
 refine awp_seq ?_
 refine awp_seq ?_
 refine awp_regionA (c := ⟨[11, 54, 58], [], [3, 9], [], []⟩) (by simp only [lite_cons, lite_nil] <;> rfl) fun all hall K hK => ?_
 clear hall
 simp (maxSteps := 1000000) (disch := first | omega | assumption) [← List.map_take, ← List.map_drop, nc4, og_at, og_put, og_at0, og_put0]
 repeat' refine And.intro ?_ ?_
 all_goals first | omega | exact rfl | skip
 refine hK _ ?_
 clear hK K
 clear all
 refine q_then_n ?_
 refine awp_ifB (by simp <;> rfl) ?_
 refine ⟨fun c1 => ?_, fun c1 => ?_⟩
 ·try simp at c1
  refine awp_seq ?_
  refine awp_regionA (c := ⟨[11, 54, 58], [], [3, 9], [], []⟩) (by simp only [lite_cons, lite_nil] <;> rfl) fun all hall K hK => ?_
  clear hall
  simp (maxSteps := 1000000) (disch := first | omega | assumption) [← List.map_take, ← List.map_drop, nc4, og_at, og_put, og_at0, og_put0]
  repeat' refine And.intro ?_ ?_
  all_goals first | omega | exact rfl | skip
  refine hK _ ?_
  clear hK K
  clear all
  refine q_then_n ?_
  refine awp_ret ?_
  refine q_then_r ?_
  simp [endQ, radd, c1]
 ·try simp at c1
  refine awp_skip ?_
  refine q_then_n ?_
  refine awp_seq ?_
  refine awp_regionA (c := ⟨[11, 54, 58], [], [3, 9], [], []⟩) (by simp only [lite_cons, lite_nil] <;> rfl) fun all hall K hK => ?_
  clear hall
  simp (maxSteps := 1000000) (disch := first | omega | assumption) [← List.map_take, ← List.map_drop, nc4, og_at, og_put, og_at0, og_put0]
  repeat' refine And.intro ?_ ?_
  all_goals first | omega | exact rfl | skip
  refine hK _ ?_
  clear hK K
  clear all
  refine q_then_n ?_
  refine awp_seq ?_
  refine awp_keep [1, 3, 5, 6, 7, 8] (by simp only [keepL_nil, keepL_cons, envOf_sel, envOf_nil, sel_t, sel_f, Nat.reduceBEq] <;> rfl) ?_
  refine awp_regionA (c := ⟨[11, 54, 58], [], [3, 9], [], []⟩) (by simp only [lite_cons, lite_nil] <;> rfl) fun all hall K hK => ?_
  clear hall
  refine vcL_split 8 fun K' hK' => ?_
  simp (maxSteps := 1000000) (disch := first | omega | assumption) [← List.map_take, ← List.map_drop, nc4, og_at, og_put, og_at0, og_put0]
  repeat' refine And.intro ?_ ?_
  all_goals first | omega | exact rfl | skip
  refine hK' _ ?_
  clear hK' K'
  simp only [List.drop_succ_cons, List.drop_zero]
  simp (maxSteps := 1000000) (disch := first | omega | assumption) [← List.map_take, ← List.map_drop, nc4, og_at, og_put, og_at0, og_put0]
  repeat' refine And.intro ?_ ?_
  all_goals first | omega | exact rfl | skip
  refine hK _ ?_
  clear hK K
  clear all
  refine q_then_n ?_
  refine awp_seq ?_
  refine awp_keep [3, 6, 7, 8, 9] (by simp only [keepL_nil, keepL_cons, envOf_sel, envOf_nil, sel_t, sel_f, Nat.reduceBEq] <;> rfl) ?_
  refine awp_regionA (c := ⟨[11, 54, 58], [], [3, 9], [], []⟩) (by simp only [lite_cons, lite_nil] <;> rfl) fun all hall K hK => ?_
  clear hall
  simp (maxSteps := 1000000) (disch := first | omega | assumption) [← List.map_take, ← List.map_drop, nc4, og_at, og_put, og_at0, og_put0]
  repeat' refine And.intro ?_ ?_
  all_goals first | omega | exact rfl | skip
  refine hK _ ?_
  clear hK K
  clear all
  refine q_then_n ?_
  refine awp_seq ?_
  refine awp_block ?_
  refine awp_keep [3, 6, 7, 8, 9, 10] (by simp only [keepL_nil, keepL_cons, envOf_sel, envOf_nil, sel_t, sel_f, Nat.reduceBEq] <;> rfl) ?_
  refine awp_loopE (fun (k : Nat) => [(10, .d (.v (.int .i64 (k : Int))))]) [10, 30, 31, 32, 33, 34, 35, 36, 37, 38, 39, 40, 41, 42, 43, 44, 45, 46, 47] (fun (k : Nat) => k ≤ x.l.length ∧ ∀ i (hi : i < x.l.length), i < k → x.l[i].deadline ≤ max 0 (min n 1099511627776)) (fun (k : Nat) => x.l.length - k) (0) (by simp <;> rfl) ?_ ?_ ?_
  ·simp
  ·exact ⟨by simp, fun i hi h => absurd h (by omega)⟩
  rintro k ⟨hk, hd⟩
  simp only [List.cons_append, List.nil_append]
  refine awp_seq ?_
  refine awp_seq ?_
  refine awp_keep [3, 6, 7, 8, 9, 10] (by simp only [keepL_nil, keepL_cons, envOf_sel, envOf_nil, sel_t, sel_f, Nat.reduceBEq] <;> rfl) ?_
  refine awp_drawA (c := ⟨[11, 54, 58], [], [3, 9], [], []⟩) [.op ⟨false, false, false, false⟩, .op ⟨false, false, false, false⟩, .op ⟨false, false, true, false⟩, .op ⟨false, false, false, false⟩, .op ⟨false, false, false, false⟩, .op ⟨false, false, false, false⟩, .op ⟨false, false, false, false⟩, .op ⟨false, false, true, false⟩, .op ⟨false, false, false, false⟩, .op ⟨false, false, false, false⟩, .op ⟨false, false, false, false⟩, .op ⟨false, false, false, false⟩, .op ⟨false, false, false, false⟩, .op ⟨false, false, true, false⟩, .op ⟨false, false, false, false⟩, .op ⟨false, false, false, false⟩] (by kernel_rfl) (by kernel_rfl) (by simp only [lite_cons, lite_nil] <;> rfl) fun all hall K hK => ?_
  have ga5 : guardOf all 5 = some 35 := hall 5
  clear hall
  refine vcDL_split 6 (by simp) fun K' hK' => ?_
  simp (maxSteps := 1000000) (disch := first | omega | assumption) [← List.map_take, ← List.map_drop, nc4, og_at, og_put, og_at0, og_put0, ga5]
  repeat' refine And.intro ?_ ?_
  all_goals first | omega | exact rfl | skip
  refine hK' _ ?_
  clear hK' K'
  simp only [List.drop_succ_cons, List.drop_zero]
  refine vcDL_bool 35 (by simp <;> rfl) ?_
  refine ⟨fun g2 => ?_, fun g2 => ?_⟩
  ·try simp at g2
   refine vcDL_split 8 (by simp) fun K' hK' => ?_
   simp (maxSteps := 1000000) (disch := first | omega | assumption) [← List.map_take, ← List.map_drop, nc4, og_at, og_put, og_at0, og_put0, ga5]
   repeat' refine And.intro ?_ ?_
   all_goals first | omega | exact rfl | skip
   refine hK' _ ?_
   clear hK' K'
   simp only [List.drop_succ_cons, List.drop_zero]
   simp (maxSteps := 1000000) (disch := first | omega | assumption) [← List.map_take, ← List.map_drop, nc4, og_at, og_put, og_at0, og_put0, ga5]
   repeat' refine And.intro ?_ ?_
   all_goals first | omega | exact rfl | skip
   refine hK _ ?_
   clear hK K
   clear ga5
   clear all
   refine q_then_n ?_
   refine awp_ifB (by simp <;> rfl) ?_
   refine ⟨fun c3 => ?_, fun c3 => ?_⟩
   ·try simp at c3
    refine awp_skip ?_
    refine q_then_n ?_
    refine awp_block ?_
    refine awp_keep [3, 6, 7, 8, 9, 10] (by simp only [keepL_nil, keepL_cons, envOf_sel, envOf_nil, sel_t, sel_f, Nat.reduceBEq] <;> rfl) ?_
    refine awp_regionA (c := ⟨[11, 54, 58], [], [3, 9], [], []⟩) (by simp only [lite_cons, lite_nil] <;> rfl) fun all hall K hK => ?_
    clear hall
    simp (maxSteps := 1000000) (disch := first | omega | assumption) [← List.map_take, ← List.map_drop, nc4, og_at, og_put, og_at0, og_put0]
    repeat' refine And.intro ?_ ?_
    all_goals first | omega | exact rfl | skip
    refine hK _ ?_
    clear hK K
    clear all
    refine q_block_n ?_
    refine q_round (k + 1) ?_ ?_ (weak_mkA rfl ?_ (by simp) (by simp))
    ·exact ⟨by omega, below_succ hd g2 c3⟩
    ·try dsimp only
     omega
    ·simp (maxSteps := 1000000) (disch := first | omega | assumption) [← List.map_take, ← List.map_drop, nc4, og_at, og_put, og_at0, og_put0]
   ·try simp at c3
    refine awp_exit ?_
    refine q_then_e ?_
    refine q_loop_e ?_
    refine q_block_e ?_
    refine q_then_n ?_
    refine awp_seq ?_
    refine awp_keep [3, 6, 7, 8, 9, 10] (by simp only [keepL_nil, keepL_cons, envOf_sel, envOf_nil, sel_t, sel_f, Nat.reduceBEq] <;> rfl) ?_
    refine awp_regionA (c := ⟨[11, 54, 58], [], [3, 9], [], []⟩) (by simp only [lite_cons, lite_nil] <;> rfl) fun all hall K hK => ?_
    clear hall
    simp (maxSteps := 1000000) (disch := first | omega | assumption) [← List.map_take, ← List.map_drop, nc4, og_at, og_put, og_at0, og_put0]
    repeat' refine And.intro ?_ ?_
    all_goals first | omega | exact rfl | skip
    refine hK _ ?_
    clear hK K
    clear all
    refine q_then_n ?_
    refine awp_seq ?_
    refine awp_keep [3, 6, 7, 8, 9, 10, 11] (by simp only [keepL_nil, keepL_cons, envOf_sel, envOf_nil, sel_t, sel_f, Nat.reduceBEq] <;> rfl) ?_
    refine awp_regionA (c := ⟨[11, 54, 58], [], [3, 9], [], []⟩) (by simp only [lite_cons, lite_nil] <;> rfl) fun all hall K hK => ?_
    clear hall
    simp (maxSteps := 1000000) (disch := first | omega | assumption) [← List.map_take, ← List.map_drop, nc4, og_at, og_put, og_at0, og_put0]
    repeat' refine And.intro ?_ ?_
    all_goals first | omega | exact rfl | skip
    refine hK _ ?_
    clear hK K
    clear all
    refine q_then_n ?_
    refine awp_seq ?_
    refine awp_keep [3, 6, 7, 8, 9, 10, 11] (by simp only [keepL_nil, keepL_cons, envOf_sel, envOf_nil, sel_t, sel_f, Nat.reduceBEq] <;> rfl) ?_
    refine awp_regionA (c := ⟨[11, 54, 58], [], [3, 9], [], []⟩) (by simp only [lite_cons, lite_nil] <;> rfl) fun all hall K hK => ?_
    clear hall
    simp (maxSteps := 1000000) (disch := first | omega | assumption) [← List.map_take, ← List.map_drop, nc4, og_at, og_put, og_at0, og_put0]
    repeat' refine And.intro ?_ ?_
    all_goals first | omega | exact rfl | skip
    refine hK _ ?_
    clear hK K
    clear all
    refine q_then_n ?_
    refine awp_seq ?_
    refine awp_keep [3, 6, 7, 8, 9] (by simp only [keepL_nil, keepL_cons, envOf_sel, envOf_nil, sel_t, sel_f, Nat.reduceBEq] <;> rfl) ?_
    refine awp_drawA (c := ⟨[11, 54, 58], [], [3, 9], [], []⟩) [.op ⟨false, false, true, false⟩, .op ⟨false, false, false, false⟩, .op ⟨false, false, true, false⟩, .op ⟨true, true, false, false⟩, .op ⟨false, false, false, false⟩, .op ⟨false, false, false, false⟩] (by kernel_rfl) (by kernel_rfl) (by simp only [lite_cons, lite_nil] <;> rfl) fun all hall K hK => ?_
    clear hall
    simp (maxSteps := 1000000) (disch := first | omega | assumption) [← List.map_take, ← List.map_drop, nc4, og_at, og_put, og_at0, og_put0]
    repeat' refine And.intro ?_ ?_
    all_goals first | omega | exact rfl | skip
    refine hK _ ?_
    clear hK K
    clear all
    refine q_then_n ?_
    refine awp_ret ?_
    have he := rins_at (t := ⟨x.last + 1, max 0 (min n 1099511627776), j⟩) hk (fun i hi h => hd i hi h) (fun _ => by dsimp only; omega)
    simp [endQ, radd, c1, ← he]
  ·try simp at g2
   refine vcDL_split 8 (by simp) fun K' hK' => ?_
   simp (maxSteps := 1000000) (disch := first | omega | assumption) [← List.map_take, ← List.map_drop, nc4, og_at, og_put, og_at0, og_put0, ga5]
   repeat' refine And.intro ?_ ?_
   all_goals first | omega | exact rfl | skip
   refine hK' _ ?_
   clear hK' K'
   simp only [List.drop_succ_cons, List.drop_zero]
   simp (maxSteps := 1000000) (disch := first | omega | assumption) [← List.map_take, ← List.map_drop, nc4, og_at, og_put, og_at0, og_put0, ga5]
   repeat' refine And.intro ?_ ?_
   all_goals first | omega | exact rfl | skip
   refine hK _ ?_
   clear hK K
   clear ga5
   clear all
   refine q_then_n ?_
   refine awp_cond (t := false) (by simp) (fun h => by cases h) (fun _ => ?_)
   refine awp_exit ?_
   refine q_then_e ?_
   refine q_loop_e ?_
   refine q_block_e ?_
   refine q_then_n ?_
   refine awp_seq ?_
   refine awp_keep [3, 6, 7, 8, 9, 10] (by simp only [keepL_nil, keepL_cons, envOf_sel, envOf_nil, sel_t, sel_f, Nat.reduceBEq] <;> rfl) ?_
   refine awp_regionA (c := ⟨[11, 54, 58], [], [3, 9], [], []⟩) (by simp only [lite_cons, lite_nil] <;> rfl) fun all hall K hK => ?_
   clear hall
   simp (maxSteps := 1000000) (disch := first | omega | assumption) [← List.map_take, ← List.map_drop, nc4, og_at, og_put, og_at0, og_put0]
   repeat' refine And.intro ?_ ?_
   all_goals first | omega | exact rfl | skip
   refine hK _ ?_
   clear hK K
   clear all
   refine q_then_n ?_
   refine awp_seq ?_
   refine awp_keep [3, 6, 7, 8, 9, 10, 11] (by simp only [keepL_nil, keepL_cons, envOf_sel, envOf_nil, sel_t, sel_f, Nat.reduceBEq] <;> rfl) ?_
   refine awp_regionA (c := ⟨[11, 54, 58], [], [3, 9], [], []⟩) (by simp only [lite_cons, lite_nil] <;> rfl) fun all hall K hK => ?_
   clear hall
   simp (maxSteps := 1000000) (disch := first | omega | assumption) [← List.map_take, ← List.map_drop, nc4, og_at, og_put, og_at0, og_put0]
   repeat' refine And.intro ?_ ?_
   all_goals first | omega | exact rfl | skip
   refine hK _ ?_
   clear hK K
   clear all
   refine q_then_n ?_
   refine awp_seq ?_
   refine awp_keep [3, 6, 7, 8, 9, 10, 11] (by simp only [keepL_nil, keepL_cons, envOf_sel, envOf_nil, sel_t, sel_f, Nat.reduceBEq] <;> rfl) ?_
   refine awp_regionA (c := ⟨[11, 54, 58], [], [3, 9], [], []⟩) (by simp only [lite_cons, lite_nil] <;> rfl) fun all hall K hK => ?_
   clear hall
   simp (maxSteps := 1000000) (disch := first | omega | assumption) [← List.map_take, ← List.map_drop, nc4, og_at, og_put, og_at0, og_put0]
   repeat' refine And.intro ?_ ?_
   all_goals first | omega | exact rfl | skip
   refine hK _ ?_
   clear hK K
   clear all
   refine q_then_n ?_
   refine awp_seq ?_
   refine awp_keep [3, 6, 7, 8, 9] (by simp only [keepL_nil, keepL_cons, envOf_sel, envOf_nil, sel_t, sel_f, Nat.reduceBEq] <;> rfl) ?_
   refine awp_drawA (c := ⟨[11, 54, 58], [], [3, 9], [], []⟩) [.op ⟨false, false, true, false⟩, .op ⟨false, false, false, false⟩, .op ⟨false, false, true, false⟩, .op ⟨true, true, false, false⟩, .op ⟨false, false, false, false⟩, .op ⟨false, false, false, false⟩] (by kernel_rfl) (by kernel_rfl) (by simp only [lite_cons, lite_nil] <;> rfl) fun all hall K hK => ?_
   clear hall
   simp (maxSteps := 1000000) (disch := first | omega | assumption) [← List.map_take, ← List.map_drop, nc4, og_at, og_put, og_at0, og_put0]
   repeat' refine And.intro ?_ ?_
   all_goals first | omega | exact rfl | skip
   refine hK _ ?_
   clear hK K
   clear all
   refine q_then_n ?_
   refine awp_ret ?_
   have he := rins_at (t := ⟨x.last + 1, max 0 (min n 1099511627776), j⟩) hk (fun i hi h => hd i hi h) (fun h => absurd h (by omega))
   simp [endQ, radd, c1, ← he]
theorem rw_sc (N : Nat) (x : RW) : Sc N (d_RW x) := Sc.agg fun d hd => by
 simp only [List.mem_cons, List.not_mem_nil, or_false] at hd
 rcases hd with rfl | rfl | rfl
 ·exact Sc.v _
 ·exact Sc.v _
 ·exact Sc.sl (Sc.map fun a => tm_scl _ _)
theorem radd_fn (x : RW) (n : Int) (j : Job) (σ : List (List D)) (hl : x.l.length ≤ 100000) (hn : 0 ≤ x.last ∧ x.last ≤ 1000000) : Ct Try.prog 47 [d_RW x, D.int n, d_Job j] σ (fun r σ' => r = .tup [d_RW (radd x n j).1, D.int (radd x n j).2.1, D.int (radd x n j).2.2] ∧ σ' = σ) :=
 (radd0_fn x n j σ hl hn).trim fun r σ' ⟨hr, J, hs⟩ => ⟨σ, J, hs, rfl, by
  rw [hr]
  refine Sc.tup fun d hd => ?_
  simp only [List.mem_cons, List.not_mem_nil, or_false] at hd
  rcases hd with rfl | rfl | rfl
  ·exact rw_sc _ _
  ·exact Sc.v _
  ·exact Sc.v _, fun n cs h => .inl h, hr, rfl⟩
theorem rdue_fn (x : RW) (n : Int) (σ : List (List D)) (hl : x.l.length ≤ 100000) (hn : 0 ≤ x.last ∧ x.last ≤ 1000000) : Ct Try.prog 49 [d_RW x, D.int n] σ (fun r σ' => r = .tup [d_RW (rdue x n), d_Tm (rduet x n), .bool (rduec x n)] ∧ σ' = σ) :=
 (rdue0_fn x n σ hl hn).trim fun r σ' ⟨hr, J, hs⟩ => ⟨σ, J, hs, rfl, by
  rw [hr]
  refine Sc.tup fun d hd => ?_
  simp only [List.mem_cons, List.not_mem_nil, or_false] at hd
  rcases hd with rfl | rfl | rfl
  ·exact rw_sc _ _
  ·exact tm_scl _ _
  ·exact Sc.v _, fun n cs h => .inl h, hr, rfl⟩
theorem tm_ext {a b : Tm} (h : ((a.token = b.token ∧ a.deadline = b.deadline) ∧ a.job.kind = b.job.kind) ∧ a.job.node = b.job.node) : a = b := by
 obtain ⟨t, l, ⟨k, n⟩⟩ := a
 obtain ⟨t', l', ⟨k', n'⟩⟩ := b
 simp_all
theorem take_eq_snoc {α : Type} {a b : List α} {k : Nat} (ha : k < a.length) (hb : k < b.length) (h : a.take k = b.take k) (e : a[k] = b[k]) : a.take (k + 1) = b.take (k + 1) := by
 rw [take_snoc a k ha, take_snoc b k hb, h, e]
def told (x0 : Tm) : Tm := x0
theorem told_fn (x0 : Tm) (σ : List (List D))  : Ct Try.prog 50 [d_Tm x0] σ (fun r σ' => r = d_Tm (told x0) ∧ σ' = σ) := by
 refine fn_start (rs := [.cell 2 115]) Try.func50 rfl rfl Try.ntmps50 Try.results50 (by simp) ?_
 simp only [argEnv]
 refine awp_seq ?_
 refine awp_regionA (c := ⟨[], [], [], [], []⟩) (by simp only [lite_cons, lite_nil] <;> rfl) fun all hall K hK => ?_
 clear hall
 simp (maxSteps := 1000000) (disch := first | omega | assumption)
 repeat' refine And.intro ?_ ?_
 all_goals first | omega | exact rfl | skip
 refine hK _ ?_
 clear hK K
 clear all
 refine q_then_n ?_
 refine awp_seq ?_
 refine awp_regionA (c := ⟨[], [], [], [], []⟩) (by simp only [lite_cons, lite_nil] <;> rfl) fun all hall K hK => ?_
 clear hall
 simp (maxSteps := 1000000) (disch := first | omega | assumption)
 repeat' refine And.intro ?_ ?_
 all_goals first | omega | exact rfl | skip
 refine hK _ ?_
 clear hK K
 clear all
 refine q_then_n ?_
 refine awp_ret ?_
 first | (simp [endQ, told]; done) | (simp [endQ, told]; done) | (simp [endQ]; unfold told; (repeat' split) <;> first | (exfalso; omega) | (simp_all; done)) | (simp [endQ, told, *]; done) | (simp_all [endQ, told]; done) | (simp_all [endQ, told]; omega) | (simp [endQ, told] <;> split <;> omega)
theorem told_id (w : Tm) : told w = w := rfl
theorem same_fn (a b : List Tm) (σ : List (List D)) (ha : a.length ≤ 1000000) (hb : b.length ≤ 1000000) : Ct Try.prog 25 [.sl false (a.map d_Tm), .sl false (b.map d_Tm)] σ (fun r σ' => r = .bool (decide (a = b)) ∧ σ' = σ) := by
 refine fn_start (rs := [.tmp 4]) Try.func25 rfl rfl Try.ntmps25 Try.results25 (by simp) ?_
 simp only [argEnv]
 refine awp_seq ?_
 refine awp_regionA (c := ⟨[], [], [], [], []⟩) (by simp only [lite_cons, lite_nil] <;> rfl) fun all hall K hK => ?_
 clear hall
 simp (maxSteps := 1000000) (disch := first | omega | assumption) [told_id]
 repeat' refine And.intro ?_ ?_
 all_goals first | omega | exact rfl | skip
 refine hK _ ?_
 clear hK K
 clear all
 refine q_then_n ?_
 refine awp_seq ?_
 refine awp_seq ?_
 refine awp_regionA (c := ⟨[], [], [], [], []⟩) (by simp only [lite_cons, lite_nil] <;> rfl) fun all hall K hK => ?_
 clear hall
 simp (maxSteps := 1000000) (disch := first | omega | assumption) [told_id]
 repeat' refine And.intro ?_ ?_
 all_goals first | omega | exact rfl | skip
 refine hK _ ?_
 clear hK K
 clear all
 refine q_then_n ?_
 refine awp_ifB (by simp <;> rfl) ?_
 refine ⟨fun c1 => ?_, fun c1 => ?_⟩
 ·try simp at c1
  refine awp_seq ?_
  refine awp_regionA (c := ⟨[], [], [], [], []⟩) (by simp only [lite_cons, lite_nil] <;> rfl) fun all hall K hK => ?_
  clear hall
  simp (maxSteps := 1000000) (disch := first | omega | assumption) [told_id]
  repeat' refine And.intro ?_ ?_
  all_goals first | omega | exact rfl | skip
  refine hK _ ?_
  clear hK K
  clear all
  refine q_then_n ?_
  refine awp_ret ?_
  refine q_then_r ?_
  simp [endQ]
  intro e; subst e; exact c1 rfl
 ·try simp at c1
  refine awp_skip ?_
  refine q_then_n ?_
  refine awp_seq ?_
  refine awp_seq ?_
  refine awp_regionA (c := ⟨[], [], [], [], []⟩) (by simp only [lite_cons, lite_nil] <;> rfl) fun all hall K hK => ?_
  clear hall
  simp (maxSteps := 1000000) (disch := first | omega | assumption) [told_id]
  repeat' refine And.intro ?_ ?_
  all_goals first | omega | exact rfl | skip
  refine hK _ ?_
  clear hK K
  clear all
  refine q_then_n ?_
  refine awp_block ?_
  refine awp_keep [0, 1, 4, 12, 13] (by simp only [keepL_nil, keepL_cons, envOf_sel, envOf_nil, sel_t, sel_f, Nat.reduceBEq] <;> rfl) ?_
  refine awp_loopE (fun (k : Nat) => [(13, .d (.v (.int .i64 (k : Int))))]) [4, 5, 13, 14, 15, 16, 17, 18, 19, 20, 21, 22, 23, 24, 25, 26] (fun (k : Nat) => k ≤ a.length ∧ a.take k = b.take k) (fun (k : Nat) => a.length - k) (0) (by simp <;> rfl) ?_ ?_ ?_
  ·simp
  ·simp
  rintro k ⟨hk, hh⟩
  simp only [List.cons_append, List.nil_append]
  refine awp_seq ?_
  refine awp_regionA (c := ⟨[], [], [], [], []⟩) (by simp only [lite_cons, lite_nil] <;> rfl) fun all hall K hK => ?_
  clear hall
  simp (maxSteps := 1000000) (disch := first | omega | assumption) [told_id]
  repeat' refine And.intro ?_ ?_
  all_goals first | omega | exact rfl | skip
  refine hK _ ?_
  clear hK K
  clear all
  refine q_then_n ?_
  refine awp_seq ?_
  refine awp_ifB (by simp <;> rfl) ?_
  refine ⟨fun c2 => ?_, fun c2 => ?_⟩
  ·try simp at c2
   refine awp_skip ?_
   refine q_then_n ?_
   refine awp_seq ?_
   refine awp_block ?_
   refine awp_seq ?_
   refine awp_regionA (c := ⟨[], [], [], [], []⟩) (by simp only [lite_cons, lite_nil] <;> rfl) fun all hall K hK => ?_
   clear hall
   simp (maxSteps := 1000000) (disch := first | omega | assumption) [told_id]
   repeat' refine And.intro ?_ ?_
   all_goals first | omega | exact rfl | skip
   refine hK _ ?_
   clear hK K
   clear all
   refine q_then_n ?_
   refine awp_seq ?_
   refine awp_drawA (c := ⟨[], [], [], [], []⟩) [.op ⟨false, false, false, false⟩, .op ⟨false, false, false, false⟩, .op ⟨false, false, false, false⟩, .op ⟨false, false, false, false⟩, .pure, .op ⟨false, false, false, false⟩, .op ⟨false, false, false, false⟩, .op ⟨false, false, false, false⟩, .op ⟨false, false, false, false⟩, .op ⟨false, false, false, false⟩] (by kernel_rfl) (by kernel_rfl) (by simp only [lite_cons, lite_nil] <;> rfl) fun all hall K hK => ?_
   clear hall
   refine vcDL_split 4 (by simp) fun K' hK' => ?_
   simp (maxSteps := 1000000) (disch := first | omega | assumption) [told_id]
   repeat' refine And.intro ?_ ?_
   all_goals first | omega | exact rfl | skip
   refine hK' _ ?_
   clear hK' K'
   simp only [List.drop_succ_cons, List.drop_zero]
   refine vcDL_step fun K' hK' => ?_
   simp (maxSteps := 1000000) (disch := first | omega | assumption) [told_id]
   refine ⟨_, fun σ => Ct.of_le (told_fn ..) (by first | exact leArgs_of rfl | (refine leArgs_of ?_; simp; done) | (refine leArgs_of ?_; simp; rfl) | (simp [leArgs, leArg]; done)) rfl, ?_⟩
   refine hK' _ ?_
   clear hK' K'
   simp (maxSteps := 1000000) (disch := first | omega | assumption) [told_id]
   repeat' refine And.intro ?_ ?_
   all_goals first | omega | exact rfl | skip
   refine hK _ ?_
   clear hK K
   clear all
   refine q_then_n ?_
   refine awp_ifB (by simp <;> rfl) ?_
   refine ⟨fun c3 => ?_, fun c3 => ?_⟩
   ·try simp at c3
    refine awp_seq ?_
    refine awp_keep [0, 1, 12, 13] (by simp only [keepL_nil, keepL_cons, envOf_sel, envOf_nil, sel_t, sel_f, Nat.reduceBEq] <;> rfl) ?_
    refine awp_regionA (c := ⟨[], [], [], [], []⟩) (by simp only [lite_cons, lite_nil] <;> rfl) fun all hall K hK => ?_
    clear hall
    simp (maxSteps := 1000000) (disch := first | omega | assumption) [told_id]
    repeat' refine And.intro ?_ ?_
    all_goals first | omega | exact rfl | skip
    refine hK _ ?_
    clear hK K
    clear all
    refine q_then_n ?_
    refine awp_ret ?_
    refine q_block_r ?_
    refine q_then_r ?_
    refine q_loop_r ?_
    refine q_block_r ?_
    refine q_then_r ?_
    simp [endQ]
    intro e; subst e; simp at c3
   ·try simp at c3
    refine awp_skip ?_
    refine q_block_n ?_
    refine q_then_n ?_
    refine awp_keep [0, 1, 12, 13] (by simp only [keepL_nil, keepL_cons, envOf_sel, envOf_nil, sel_t, sel_f, Nat.reduceBEq] <;> rfl) ?_
    refine awp_regionA (c := ⟨[], [], [], [], []⟩) (by simp only [lite_cons, lite_nil] <;> rfl) fun all hall K hK => ?_
    clear hall
    simp (maxSteps := 1000000) (disch := first | omega | assumption) [told_id]
    repeat' refine And.intro ?_ ?_
    all_goals first | omega | exact rfl | skip
    refine hK _ ?_
    clear hK K
    clear all
    refine q_round (k + 1) ?_ ?_ (weak_mkA rfl ?_ (by simp) (by simp))
    ·exact ⟨by omega, take_eq_snoc (by omega) c2 hh (tm_ext c3)⟩
    ·try dsimp only
     omega
    ·simp (maxSteps := 1000000) (disch := first | omega | assumption) [told_id]
  ·try simp at c2
   refine awp_exit ?_
   refine q_then_e ?_
   refine q_loop_e ?_
   refine q_block_e ?_
   refine q_then_n ?_
   refine awp_seq ?_
   refine awp_regionA (c := ⟨[], [], [], [], []⟩) (by simp only [lite_cons, lite_nil] <;> rfl) fun all hall K hK => ?_
   clear hall
   simp (maxSteps := 1000000) (disch := first | omega | assumption) [told_id]
   repeat' refine And.intro ?_ ?_
   all_goals first | omega | exact rfl | skip
   refine hK _ ?_
   clear hK K
   clear all
   refine q_then_n ?_
   refine awp_ret ?_
   simp [endQ]
   rwa [List.take_of_length_le (by omega), List.take_of_length_le (by omega)] at hh
end Go.Proofs.Ytnlokhfcgaikiaa

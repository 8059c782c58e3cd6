/- Walks: contracts of functions. Written by a program of ours out of annotations. -/
import Derived.Test.YthieajadepfeoaaWkApply
import Derived.Test.YthieajadepfeoaaWkLeast
namespace Go.Proofs.Ythieajadepfeoaa
open Go Go.Vm
set_option maxRecDepth 20000
set_option linter.all false
set_option maxHeartbeats 8000000

theorem bb_eq (a b : ByteArray) : (a == b) = true ↔ a = b := by
  cases a; cases b
  show ByteArray.beq _ _ = _ ↔ _
  unfold ByteArray.beq
  simp
instance : LawfulBEq ByteArray where
  eq_of_beq {a b} h := (bb_eq a b).1 h
  rfl {a} := (bb_eq a a).2 rfl
theorem filter_sub {L A : Ls} (h : L.Sublist A) : A.Nodup → A.filter (fun c => has c L) = L := by
  induction h with
  | slnil => intro _; rfl
  | @cons L A a h ih =>
    intro hA
    have hA := List.nodup_cons.1 hA
    have h1 : has a L = false := by
      rw [Bool.eq_false_iff]; intro e; exact hA.1 (h.subset ((has_iff _ _).1 e))
    rw [List.filter_cons, if_neg (by simp [h1])]
    exact ih hA.2
  | @cons_cons L A a h ih =>
    intro hA
    have hA := List.nodup_cons.1 hA
    rw [List.filter_cons, if_pos ((has_iff _ _).2 (by simp))]
    congr 1
    refine Eq.trans (List.filter_congr fun c hc => ?_) (ih hA.2)
    rw [Bool.eq_iff_iff, has_iff, has_iff, List.mem_cons]
    constructor
    · rintro (rfl | h2)
      · exact absurd hc hA.1
      · exact h2
    · exact .inr
theorem fold_drop_all : ∀ (names X : Ls), (names.map (Stp.mk true)).foldl stepL X = X.filter fun c => !has c names
  | [], X => by
    rw [List.map_nil, List.foldl_nil, eq_comm, List.filter_eq_self]
    intro c _
    have : has c [] = false := by rw [Bool.eq_false_iff]; intro e; have := (has_iff _ _).1 e; simp at this
    simp [this]
  | n :: names, X => by
    rw [List.map_cons, List.foldl_cons, fold_drop_all names]
    have hs : stepL X ⟨true, n⟩ = dropL X n := rfl
    rw [hs]; unfold dropL
    rw [List.filter_filter]
    refine List.filter_congr fun c _ => ?_
    rw [Bool.eq_iff_iff]
    simp only [Bool.and_eq_true, Bool.not_eq_true', Bool.eq_false_iff, ne_eq, has_iff, List.mem_cons, decide_eq_true_eq, not_or]
    exact ⟨fun h => ⟨h.2, h.1⟩, fun h => ⟨h.2, h.1⟩⟩
theorem fold_add_all : ∀ (Y X : Ls), (X ++ Y).Nodup → (Y.map (Stp.mk false)).foldl stepL X = X ++ Y
  | [], X, _ => by simp
  | y :: Y, X, h => by
    have hs : stepL X ⟨false, y⟩ = X ++ [y] := by
      have hy : ¬ has y X = true := by
        rw [has_iff]; intro e
        exact (List.nodup_append.1 h).2.2 y e y (by simp) rfl
      simp only [stepL, addL, hy]
      simp
    rw [List.map_cons, List.foldl_cons, hs, fold_add_all Y (X ++ [y]) (by simpa using h)]
    simp
theorem turn_apply (a b : Ls) : applyL a (turnL a b) = clean b := by
  unfold applyL turnL turn2 outs
  rw [List.foldl_append, fold_drop_all]
  have h1 : (clean a).filter (fun c => !has c ((clean a).filter fun c => !has c ((clean b).take (keptL (clean b) (clean a))))) = (clean b).take (keptL (clean b) (clean a)) := by
    refine Eq.trans (List.filter_congr fun c hc => ?_) (filter_sub (kept_sub (clean b) (clean a)) (clean_nodup a))
    rw [Bool.eq_iff_iff]
    simp only [Bool.not_eq_true', Bool.eq_false_iff, ne_eq, has_iff, List.mem_filter, not_and, Classical.not_not]
    exact ⟨fun h => h hc, fun h _ => h⟩
  rw [h1, fold_add_all _ _ (by rw [List.take_append_drop]; exact clean_nodup b), List.take_append_drop]
theorem isSub_skip (n : ByteArray) (ns r : Ls) : ∀ p : Ls, n ∉ p → (n :: ns).isSublist (p ++ r) = (n :: ns).isSublist r
  | [], _ => rfl
  | x :: p, h => by
    have hx : (n == x) = false := by simp; intro e; exact h (by simp [e])
    rw [List.cons_append, List.isSublist]
    rw [if_neg (by simp [hx]), isSub_skip n ns r p (fun e => h (by simp [e]))]
theorem sub_hit {n : ByteArray} {ns l : Ls} {k : Nat} (h : k < l.length) (hm : n ∉ l.take k) (e : l[k] = n) : (n :: ns).isSublist l = ns.isSublist (l.drop (k + 1)) := by
  have hl : l.take k ++ l.drop k = l := List.take_append_drop k l
  rw [← hl, isSub_skip n ns _ _ hm, hl, List.drop_eq_getElem_cons h, e, List.isSublist]
  simp
theorem sub_miss {n : ByteArray} {ns l : Ls} (hm : n ∉ l) : (n :: ns).isSublist l = false := by
  have := isSub_skip n ns [] l hm
  rw [List.append_nil] at this
  rw [this]; rfl
theorem not_take {n : ByteArray} {l : Ls} {k : Nat} (h : k < l.length) (hm : n ∉ l.take k) (e : ¬ l[k] = n) : n ∉ l.take (k + 1) := by
  rw [take_snoc l k h]
  simp only [List.mem_append, List.mem_singleton, not_or]
  exact ⟨hm, fun h => e h.symm⟩
theorem notSub {X A : Ls} (h : X.isSublist A = false) : ¬ X.Sublist A := by
  intro e
  rw [← List.isSublist_iff_sublist] at e
  rw [e] at h; cases h
theorem notSub_pos {B A : Ls} {n : Nat} (h : (B.take n).isSublist A = false) : 0 < n := by
  cases n with
  | zero => rw [List.take_zero] at h; cases A <;> cases h
  | succ n => omega
theorem kept_is {B A : Ls} {n : Nat} (hn : n ≤ B.length) (h : (B.take n).isSublist A = true) (hm : ∀ m, n < m → m ≤ B.length → ¬ (B.take m).Sublist A) : n = keptL B A := by
  have h1 := kept_best B A n hn (List.isSublist_iff_sublist.1 h)
  have h2 := keptL_le B A
  by_cases e : n < keptL B A
  · exact absurd (kept_sub B A) (hm _ e h2)
  · omega
theorem notSub_all {B A : Ls} {n : Nat} (h : (B.take n).isSublist A = false) (hm : ∀ m, n < m → m ≤ B.length → ¬ (B.take m).Sublist A) : ∀ m, n - 1 < m → m ≤ B.length → ¬ (B.take m).Sublist A := by
  intro m h1 h2
  by_cases e : m = n
  · subst e; exact notSub h
  · exact hm m (by omega) h2

-- scrim/scrimref03.stands
theorem stands0_fn (l : Ls) (σ : List (List D)) (hl : l.length ≤ 1000000) : Ct Try.prog 72 [dl l, dl []] σ (fun r σ' => r = .bool true ∧ σ' = σ) := by
  refine fn_start (rs := [.tmp 4]) Try.func72 rfl rfl Try.ntmps72 Try.results72 (by simp) ?_
  simp only [argEnv]
  refine awp_seq ?_
  refine awp_regionA (c := ⟨[], [], [], []⟩) (by simp only [lite_cons, lite_nil] <;> rfl) fun all hall K hK => ?_
  clear hall
  simp (maxSteps := 1000000) (disch := first | omega | assumption)
  repeat' refine And.intro ?_ ?_
  all_goals first | omega | exact rfl | skip
  refine hK _ ?_
  clear hK K
  clear all
  refine q_then_n ?_
  refine awp_seq ?_
  refine awp_seq ?_
  refine awp_regionA (c := ⟨[], [], [], []⟩) (by simp only [lite_cons, lite_nil] <;> rfl) fun all hall K hK => ?_
  clear hall
  simp (maxSteps := 1000000) (disch := first | omega | assumption)
  repeat' refine And.intro ?_ ?_
  all_goals first | omega | exact rfl | skip
  refine hK _ ?_
  clear hK K
  clear all
  refine q_then_n ?_
  refine awp_ifB (by simp <;> rfl) ?_
  refine ⟨fun c1 => ?_, fun c1 => ?_⟩
  · try simp at c1
    refine awp_seq ?_
    refine awp_regionA (c := ⟨[], [], [], []⟩) (by simp only [lite_cons, lite_nil] <;> rfl) fun all hall K hK => ?_
    clear hall
    simp (maxSteps := 1000000) (disch := first | omega | assumption)
    repeat' refine And.intro ?_ ?_
    all_goals first | omega | exact rfl | skip
    refine hK _ ?_
    clear hK K
    clear all
    refine q_then_n ?_
    refine awp_ret ?_
    refine q_then_r ?_
    simp [endQ]
  · simp at c1

-- scrim/scrimref03.stands
theorem stands1_fn (l : Ls) (n : ByteArray) (ns : Ls) (σ : List (List D)) (hl : l.length ≤ 1000000) (hn : ns.length ≤ 1000000) (ih : ∀ (l : Ls) σ, l.length ≤ 1000000 → Ct Try.prog 72 [dl l, dl ns] σ (fun r σ' => r = .bool (ns.isSublist l) ∧ σ' = σ)) : Ct Try.prog 72 [dl l, dl (n :: ns)] σ (fun r σ' => r = .bool ((n :: ns).isSublist l) ∧ σ' = σ) := by
  refine fn_start (rs := [.tmp 4]) Try.func72 rfl rfl Try.ntmps72 Try.results72 (by simp) ?_
  simp only [argEnv]
  refine awp_seq ?_
  refine awp_regionA (c := ⟨[], [], [], []⟩) (by simp only [lite_cons, lite_nil] <;> rfl) fun all hall K hK => ?_
  clear hall
  simp (maxSteps := 1000000) (disch := first | omega | assumption)
  repeat' refine And.intro ?_ ?_
  all_goals first | omega | exact rfl | skip
  refine hK _ ?_
  clear hK K
  clear all
  refine q_then_n ?_
  refine awp_seq ?_
  refine awp_seq ?_
  refine awp_regionA (c := ⟨[], [], [], []⟩) (by simp only [lite_cons, lite_nil] <;> rfl) fun all hall K hK => ?_
  clear hall
  simp (maxSteps := 1000000) (disch := first | omega | assumption)
  repeat' refine And.intro ?_ ?_
  all_goals first | omega | exact rfl | skip
  refine hK _ ?_
  clear hK K
  clear all
  refine q_then_n ?_
  refine awp_ifB (by simp <;> rfl) ?_
  refine ⟨fun c1 => ?_, fun c1 => ?_⟩
  · try simp at c1
    all_goals (exfalso; omega)
  · try simp at c1
    refine awp_skip ?_
    refine q_then_n ?_
    refine awp_seq ?_
    refine awp_seq ?_
    refine awp_regionA (c := ⟨[], [], [], []⟩) (by simp only [lite_cons, lite_nil] <;> rfl) fun all hall K hK => ?_
    clear hall
    simp (maxSteps := 1000000) (disch := first | omega | assumption)
    repeat' refine And.intro ?_ ?_
    all_goals first | omega | exact rfl | skip
    refine hK _ ?_
    clear hK K
    clear all
    refine q_then_n ?_
    refine awp_block ?_
    refine awp_keep [0, 1, 4, 10, 11, 12] (by simp only [keepL_nil, keepL_cons, envOf_sel, envOf_nil, sel_t, sel_f, Nat.reduceBEq] <;> rfl) ?_
    refine awp_loopE (fun (k : Nat) => [(12, .d (.int k))]) [4, 5, 6, 12, 13, 14, 15, 16, 17, 18, 19, 20, 21, 22, 23, 24, 25, 26, 27, 28, 29] (fun (k : Nat) => k ≤ l.length ∧ n ∉ l.take k) (fun (k : Nat) => l.length - k) (0) (by simp <;> rfl) ?_ ?_ ?_
    · simp
    · simp
    rintro k ⟨hk, hm⟩
    simp only [List.cons_append, List.nil_append]
    refine awp_seq ?_
    refine awp_regionA (c := ⟨[], [], [], []⟩) (by simp only [lite_cons, lite_nil] <;> rfl) fun all hall K hK => ?_
    clear hall
    simp (maxSteps := 1000000) (disch := first | omega | assumption)
    repeat' refine And.intro ?_ ?_
    all_goals first | omega | exact rfl | skip
    refine hK _ ?_
    clear hK K
    clear all
    refine q_then_n ?_
    refine awp_seq ?_
    refine awp_ifB (by simp <;> rfl) ?_
    refine ⟨fun c2 => ?_, fun c2 => ?_⟩
    · try simp at c2
      refine awp_skip ?_
      refine q_then_n ?_
      refine awp_seq ?_
      refine awp_block ?_
      refine awp_seq ?_
      refine awp_regionA (c := ⟨[], [], [], []⟩) (by simp only [lite_cons, lite_nil] <;> rfl) fun all hall K hK => ?_
      clear hall
      simp (maxSteps := 1000000) (disch := first | omega | assumption)
      repeat' refine And.intro ?_ ?_
      all_goals first | omega | exact rfl | skip
      refine hK _ ?_
      clear hK K
      clear all
      refine q_then_n ?_
      refine awp_seq ?_
      refine awp_regionA (c := ⟨[], [], [], []⟩) (by simp only [lite_cons, lite_nil] <;> rfl) fun all hall K hK => ?_
      clear hall
      simp (maxSteps := 1000000) (disch := first | omega | assumption)
      repeat' refine And.intro ?_ ?_
      all_goals first | omega | exact rfl | skip
      refine hK _ ?_
      clear hK K
      clear all
      refine q_then_n ?_
      refine awp_ifB (by simp <;> rfl) ?_
      refine ⟨fun c3 => ?_, fun c3 => ?_⟩
      · try simp at c3
        refine awp_seq ?_
        refine awp_keep [0, 1, 5, 10, 11, 12] (by simp only [keepL_nil, keepL_cons, envOf_sel, envOf_nil, sel_t, sel_f, Nat.reduceBEq] <;> rfl) ?_
        refine awp_drawA (c := ⟨[], [], [], []⟩) [.op ⟨false, false, false, false⟩, .op ⟨false, false, false, false⟩, .op ⟨false, false, false, false⟩, .op ⟨false, false, false, false⟩, .op ⟨false, false, false, false⟩, .op ⟨false, false, false, false⟩, .pure, .op ⟨false, false, false, false⟩] (by kernel_rfl) (by kernel_rfl) (by simp only [lite_cons, lite_nil] <;> rfl) fun all hall K hK => ?_
        clear hall
        refine vcDL_split 6 (by simp) fun K' hK' => ?_
        simp (maxSteps := 1000000) (disch := first | omega | assumption)
        repeat' refine And.intro ?_ ?_
        all_goals first | omega | exact rfl | skip
        refine hK' _ ?_
        clear hK' K'
        simp only [List.drop_succ_cons, List.drop_zero]
        refine vcDL_step fun K' hK' => ?_
        simp (maxSteps := 1000000) (disch := first | omega | assumption)
        refine ⟨_, fun σ => Ct.of_le (ih (l.drop (k + 1)) _ (by simp; omega)) (by first | exact leArgs_of rfl | (refine leArgs_of ?_; simp; done) | (refine leArgs_of ?_; simp; rfl) | (simp [leArgs, leArg]; done) | (refine leArgs_of ?_; simp [List.take_of_length_le]; done)) rfl, ?_⟩
        refine hK' _ ?_
        clear hK' K'
        simp (maxSteps := 1000000) (disch := first | omega | assumption)
        repeat' refine And.intro ?_ ?_
        all_goals first | omega | exact rfl | skip
        refine hK _ ?_
        clear hK K
        clear all
        refine q_then_n ?_
        refine awp_ret ?_
        refine q_block_r ?_
        refine q_then_r ?_
        refine q_loop_r ?_
        refine q_block_r ?_
        refine q_then_r ?_
        simp [endQ]
        first | exact (sub_hit (by omega) hm c3).symm | exact sub_hit (by omega) hm c3
      · try simp at c3
        refine awp_skip ?_
        refine q_block_n ?_
        refine q_then_n ?_
        refine awp_keep [0, 1, 10, 11, 12] (by simp only [keepL_nil, keepL_cons, envOf_sel, envOf_nil, sel_t, sel_f, Nat.reduceBEq] <;> rfl) ?_
        refine awp_regionA (c := ⟨[], [], [], []⟩) (by simp only [lite_cons, lite_nil] <;> rfl) fun all hall K hK => ?_
        clear hall
        simp (maxSteps := 1000000) (disch := first | omega | assumption)
        repeat' refine And.intro ?_ ?_
        all_goals first | omega | exact rfl | skip
        refine hK _ ?_
        clear hK K
        clear all
        refine q_round (k + 1) ?_ ?_ (weak_mkA rfl ?_ (by simp) (by simp))
        · exact ⟨by omega, not_take (by omega) hm c3⟩
        · try dsimp only
          omega
        · simp (maxSteps := 1000000) (disch := first | omega | assumption)
    · try simp at c2
      refine awp_exit ?_
      refine q_then_e ?_
      refine q_loop_e ?_
      refine q_block_e ?_
      refine q_then_n ?_
      refine awp_seq ?_
      refine awp_regionA (c := ⟨[], [], [], []⟩) (by simp only [lite_cons, lite_nil] <;> rfl) fun all hall K hK => ?_
      clear hall
      simp (maxSteps := 1000000) (disch := first | omega | assumption)
      repeat' refine And.intro ?_ ?_
      all_goals first | omega | exact rfl | skip
      refine hK _ ?_
      clear hK K
      clear all
      refine q_then_n ?_
      refine awp_ret ?_
      simp [endQ]
      rw [List.take_of_length_le (by omega)] at hm
      first | exact (sub_miss hm).symm | exact sub_miss hm

theorem stands_fn : ∀ (ns l : Ls) (σ : List (List D)), ns.length ≤ 1000000 → l.length ≤ 1000000 → Ct Try.prog 72 [dl l, dl ns] σ (fun r σ' => r = .bool (ns.isSublist l) ∧ σ' = σ)
  | [], l, σ, _, hl => by rw [show ([] : Ls).isSublist l = true by cases l <;> rfl]; exact stands0_fn l σ hl
  | n :: ns, l, σ, hn, hl => stands1_fn l n ns σ hl (by simp at hn; omega) fun l τ h => stands_fn ns l τ (by simp at hn; omega) h

-- scrim/scrimref03.Turn
theorem rturn_fn (a b : Ls) (σ : List (List D)) (ha : a.length ≤ 10000) (hb : b.length ≤ 10000) : Ct Try.prog 40 [dl a, dl b] σ (fun r σ' => r = .sl true ((turnL a b).map dst) ∧ σ' = σ) := by
  unfold turnL
  have hca := clean_len a
  have hcb := clean_len b
  refine fn_start (rs := [.tmp 4]) Try.func40 rfl rfl Try.ntmps40 Try.results40 (by simp) ?_
  simp only [argEnv]
  refine awp_seq ?_
  refine awp_regionA (c := ⟨[4, 8, 40, 54, 60], [], [], []⟩) (by simp only [lite_cons, lite_nil] <;> rfl) fun all hall K hK => ?_
  clear hall
  simp (maxSteps := 1000000) (disch := first | omega | assumption) [or_imp, forall_and]
  repeat' refine And.intro ?_ ?_
  all_goals first | omega | exact rfl | skip
  refine hK _ ?_
  clear hK K
  clear all
  refine q_then_n ?_
  refine awp_seq ?_
  refine awp_regionA (c := ⟨[4, 8, 40, 54, 60], [], [], []⟩) (by simp only [lite_cons, lite_nil] <;> rfl) fun all hall K hK => ?_
  clear hall
  refine vcL_split 1 fun K' hK' => ?_
  simp (maxSteps := 1000000) (disch := first | omega | assumption) [or_imp, forall_and]
  repeat' refine And.intro ?_ ?_
  all_goals first | omega | exact rfl | skip
  refine hK' _ ?_
  clear hK' K'
  simp only [List.drop_succ_cons, List.drop_zero]
  refine vcL_step fun K' hK' => ?_
  simp (maxSteps := 1000000) (disch := first | omega | assumption) [or_imp, forall_and]
  refine Ct.mono (Ct.of_le (rclean_fn a _ (by omega)) (by first | exact leArgs_of rfl | (refine leArgs_of ?_; simp; done) | (refine leArgs_of ?_; simp; rfl) | (simp [leArgs, leArg]; done)) rfl) ?_
  rintro _ _ ⟨rfl, rfl⟩
  refine hK' _ ?_
  clear hK' K'
  simp (maxSteps := 1000000) (disch := first | omega | assumption) [or_imp, forall_and]
  repeat' refine And.intro ?_ ?_
  all_goals first | omega | exact rfl | skip
  refine hK _ ?_
  clear hK K
  clear all
  refine q_then_n ?_
  refine awp_seq ?_
  refine awp_regionA (c := ⟨[4, 8, 40, 54, 60], [], [], []⟩) (by simp only [lite_cons, lite_nil] <;> rfl) fun all hall K hK => ?_
  clear hall
  refine vcL_split 1 fun K' hK' => ?_
  simp (maxSteps := 1000000) (disch := first | omega | assumption) [or_imp, forall_and]
  repeat' refine And.intro ?_ ?_
  all_goals first | omega | exact rfl | skip
  refine hK' _ ?_
  clear hK' K'
  simp only [List.drop_succ_cons, List.drop_zero]
  refine vcL_step fun K' hK' => ?_
  simp (maxSteps := 1000000) (disch := first | omega | assumption) [or_imp, forall_and]
  refine Ct.mono (Ct.of_le (rclean_fn b _ (by omega)) (by first | exact leArgs_of rfl | (refine leArgs_of ?_; simp; done) | (refine leArgs_of ?_; simp; rfl) | (simp [leArgs, leArg]; done)) rfl) ?_
  rintro _ _ ⟨rfl, rfl⟩
  refine hK' _ ?_
  clear hK' K'
  simp (maxSteps := 1000000) (disch := first | omega | assumption) [or_imp, forall_and]
  repeat' refine And.intro ?_ ?_
  all_goals first | omega | exact rfl | skip
  refine hK _ ?_
  clear hK K
  clear all
  refine q_then_n ?_
  refine awp_seq ?_
  refine awp_regionA (c := ⟨[4, 8, 40, 54, 60], [], [], []⟩) (by simp only [lite_cons, lite_nil] <;> rfl) fun all hall K hK => ?_
  clear hall
  simp (maxSteps := 1000000) (disch := first | omega | assumption) [or_imp, forall_and]
  repeat' refine And.intro ?_ ?_
  all_goals first | omega | exact rfl | skip
  refine hK _ ?_
  clear hK K
  clear all
  refine q_then_n ?_
  refine awp_seq ?_
  refine awp_block ?_
  refine awp_keep [4, 5, 6, 7] (by simp only [keepL_nil, keepL_cons, envOf_sel, envOf_nil, sel_t, sel_f, Nat.reduceBEq] <;> rfl) ?_
  refine awp_loopE (fun (n : Nat) => [(7, .d (.v (.int .i64 (n : Int))))]) [7, 19, 20, 21, 22, 23, 24, 25, 26] (fun (n : Nat) => n ≤ (clean b).length ∧ ∀ m, n < m → m ≤ (clean b).length → ¬ ((clean b).take m).Sublist (clean a)) (fun (n : Nat) => n) ((clean b).length) (by simp <;> rfl) ?_ ?_ ?_
  · simp
  · exact ⟨Nat.le_refl _, fun m h1 h2 => by omega⟩
  rintro n ⟨hk, hm⟩
  simp only [List.cons_append, List.nil_append]
  refine awp_seq ?_
  refine awp_seq ?_
  refine awp_regionA (c := ⟨[4, 8, 40, 54, 60], [], [], []⟩) (by simp only [lite_cons, lite_nil] <;> rfl) fun all hall K hK => ?_
  clear hall
  refine vcL_split 4 fun K' hK' => ?_
  simp (maxSteps := 1000000) (disch := first | omega | assumption) [or_imp, forall_and]
  repeat' refine And.intro ?_ ?_
  all_goals first | omega | exact rfl | skip
  refine hK' _ ?_
  clear hK' K'
  simp only [List.drop_succ_cons, List.drop_zero]
  refine vcL_step fun K' hK' => ?_
  simp (maxSteps := 1000000) (disch := first | omega | assumption) [or_imp, forall_and]
  refine Ct.mono (Ct.of_le (stands_fn ((clean b).take n) (clean a) _ (by simp; omega) (by omega)) (by first | exact leArgs_of rfl | (refine leArgs_of ?_; simp; done) | (refine leArgs_of ?_; simp; rfl) | (simp [leArgs, leArg]; done)) rfl) ?_
  rintro _ _ ⟨rfl, rfl⟩
  refine hK' _ ?_
  clear hK' K'
  simp (maxSteps := 1000000) (disch := first | omega | assumption) [or_imp, forall_and]
  repeat' refine And.intro ?_ ?_
  all_goals first | omega | exact rfl | skip
  refine hK _ ?_
  clear hK K
  clear all
  refine q_then_n ?_
  refine awp_ifB (by simp <;> rfl) ?_
  refine ⟨fun c1 => ?_, fun c1 => ?_⟩
  · try simp at c1
    have hn0 := notSub_pos c1
    refine awp_skip ?_
    refine q_then_n ?_
    refine awp_block ?_
    refine awp_regionA (c := ⟨[4, 8, 40, 54, 60], [], [], []⟩) (by simp only [lite_cons, lite_nil] <;> rfl) fun all hall K hK => ?_
    clear hall
    simp (maxSteps := 1000000) (disch := first | omega | assumption) [or_imp, forall_and]
    repeat' refine And.intro ?_ ?_
    all_goals first | omega | exact rfl | skip
    refine hK _ ?_
    clear hK K
    clear all
    refine q_block_n ?_
    refine q_round (n - 1) ?_ ?_ (weak_mkA rfl ?_ (by simp) (by simp))
    · exact ⟨by omega, notSub_all c1 hm⟩
    · try dsimp only
      omega
    · simp (maxSteps := 1000000) (disch := first | omega | assumption) [or_imp, forall_and, show ((n - 1 : Nat) : Int) = (n : Int) - 1 from by omega]
  · try simp at c1
    refine awp_exit ?_
    refine q_then_e ?_
    refine q_loop_e ?_
    refine q_block_e ?_
    refine q_then_n ?_
    refine awp_seq ?_
    refine awp_regionA (c := ⟨[4, 8, 40, 54, 60], [], [], []⟩) (by simp only [lite_cons, lite_nil] <;> rfl) fun all hall K hK => ?_
    clear hall
    simp (maxSteps := 1000000) (disch := first | omega | assumption) [or_imp, forall_and]
    repeat' refine And.intro ?_ ?_
    all_goals first | omega | exact rfl | skip
    refine hK _ ?_
    clear hK K
    clear all
    refine q_then_n ?_
    refine awp_seq ?_
    refine awp_seq ?_
    refine awp_keep [4, 5, 6, 7, 8] (by simp only [keepL_nil, keepL_cons, envOf_sel, envOf_nil, sel_t, sel_f, Nat.reduceBEq] <;> rfl) ?_
    refine awp_regionA (c := ⟨[4, 8, 40, 54, 60], [], [], []⟩) (by simp only [lite_cons, lite_nil] <;> rfl) fun all hall K hK => ?_
    clear hall
    simp (maxSteps := 1000000) (disch := first | omega | assumption) [or_imp, forall_and]
    repeat' refine And.intro ?_ ?_
    all_goals first | omega | exact rfl | skip
    refine hK _ ?_
    clear hK K
    clear all
    refine q_then_n ?_
    refine awp_block ?_
    refine awp_keep [4, 6, 7, 8, 28, 29, 30] (by simp only [keepL_nil, keepL_cons, envOf_sel, envOf_nil, sel_t, sel_f, Nat.reduceBEq] <;> rfl) ?_
    have hkl := keptL_le (clean b) (clean a)
    have hnk := kept_is (by omega) (List.isSublist_iff_sublist.2 c1) hm
    subst hnk
    refine awp_loopE (fun (k : Nat) => [(30, .d (.int k)), (8, .d (.sl true ((outs (clean b) (keptL (clean b) (clean a)) ((clean a).take k)).map dst)))]) [8, 10, 30, 31, 32, 33, 34, 35, 36, 37, 38, 39, 40, 41, 42, 43, 44, 45] (fun (k : Nat) => k ≤ (clean a).length) (fun (k : Nat) => (clean a).length - k) (0) (by simp <;> rfl) ?_ ?_ ?_
    · simp [outs]
    · simp
    rintro k hk
    simp only [List.cons_append, List.nil_append]
    have hcl := outs_len (clean b) (keptL (clean b) (clean a)) ((clean a).take k)
    simp only [List.length_take] at hcl
    refine awp_seq ?_
    refine awp_regionA (c := ⟨[4, 8, 40, 54, 60], [], [], []⟩) (by simp only [lite_cons, lite_nil] <;> rfl) fun all hall K hK => ?_
    clear hall
    simp (maxSteps := 1000000) (disch := first | omega | assumption) [or_imp, forall_and]
    repeat' refine And.intro ?_ ?_
    all_goals first | omega | exact rfl | skip
    refine hK _ ?_
    clear hK K
    clear all
    refine q_then_n ?_
    refine awp_seq ?_
    refine awp_ifB (by simp <;> rfl) ?_
    refine ⟨fun c2 => ?_, fun c2 => ?_⟩
    · try simp at c2
      refine awp_skip ?_
      refine q_then_n ?_
      refine awp_seq ?_
      refine awp_block ?_
      refine awp_seq ?_
      refine awp_regionA (c := ⟨[4, 8, 40, 54, 60], [], [], []⟩) (by simp only [lite_cons, lite_nil] <;> rfl) fun all hall K hK => ?_
      clear hall
      simp (maxSteps := 1000000) (disch := first | omega | assumption) [or_imp, forall_and]
      repeat' refine And.intro ?_ ?_
      all_goals first | omega | exact rfl | skip
      refine hK _ ?_
      clear hK K
      clear all
      refine q_then_n ?_
      refine awp_seq ?_
      refine awp_regionA (c := ⟨[4, 8, 40, 54, 60], [], [], []⟩) (by simp only [lite_cons, lite_nil] <;> rfl) fun all hall K hK => ?_
      clear hall
      refine vcL_split 4 fun K' hK' => ?_
      simp (maxSteps := 1000000) (disch := first | omega | assumption) [or_imp, forall_and]
      repeat' refine And.intro ?_ ?_
      all_goals first | omega | exact rfl | skip
      refine hK' _ ?_
      clear hK' K'
      simp only [List.drop_succ_cons, List.drop_zero]
      refine vcL_step fun K' hK' => ?_
      simp (maxSteps := 1000000) (disch := first | omega | assumption) [or_imp, forall_and]
      refine Ct.mono (Ct.of_le (has_fn ((clean b).take (keptL (clean b) (clean a))) _ _ (by simp; omega)) (by first | exact leArgs_of rfl | (refine leArgs_of ?_; simp; done) | (refine leArgs_of ?_; simp; rfl) | (simp [leArgs, leArg]; done)) rfl) ?_
      rintro _ _ ⟨rfl, rfl⟩
      refine hK' _ ?_
      clear hK' K'
      simp (maxSteps := 1000000) (disch := first | omega | assumption) [or_imp, forall_and]
      repeat' refine And.intro ?_ ?_
      all_goals first | omega | exact rfl | skip
      refine hK _ ?_
      clear hK K
      clear all
      refine q_then_n ?_
      refine awp_ifB (by simp <;> rfl) ?_
      refine ⟨fun c3 => ?_, fun c3 => ?_⟩
      · try simp at c3
        refine awp_keep [4, 6, 7, 8, 10, 28, 29, 30] (by simp only [keepL_nil, keepL_cons, envOf_sel, envOf_nil, sel_t, sel_f, Nat.reduceBEq] <;> rfl) ?_
        refine awp_regionA (c := ⟨[4, 8, 40, 54, 60], [], [], []⟩) (by simp only [lite_cons, lite_nil] <;> rfl) fun all hall K hK => ?_
        clear hall
        simp (maxSteps := 1000000) (disch := first | omega | assumption) [or_imp, forall_and]
        repeat' refine And.intro ?_ ?_
        all_goals first | omega | exact rfl | skip
        refine hK _ ?_
        clear hK K
        clear all
        refine q_block_n ?_
        refine q_then_n ?_
        refine awp_keep [4, 6, 7, 8, 28, 29, 30] (by simp only [keepL_nil, keepL_cons, envOf_sel, envOf_nil, sel_t, sel_f, Nat.reduceBEq] <;> rfl) ?_
        refine awp_regionA (c := ⟨[4, 8, 40, 54, 60], [], [], []⟩) (by simp only [lite_cons, lite_nil] <;> rfl) fun all hall K hK => ?_
        clear hall
        simp (maxSteps := 1000000) (disch := first | omega | assumption) [or_imp, forall_and]
        repeat' refine And.intro ?_ ?_
        all_goals first | omega | exact rfl | skip
        refine hK _ ?_
        clear hK K
        clear all
        refine q_round (k + 1) ?_ ?_ (weak_mkA rfl ?_ (by simp) (by simp))
        · omega
        · try dsimp only
          omega
        · simp (maxSteps := 1000000) (disch := first | omega | assumption) [or_imp, forall_and, outs_take, c3]
      · try simp at c3
        refine awp_skip ?_
        refine q_block_n ?_
        refine q_then_n ?_
        refine awp_keep [4, 6, 7, 8, 28, 29, 30] (by simp only [keepL_nil, keepL_cons, envOf_sel, envOf_nil, sel_t, sel_f, Nat.reduceBEq] <;> rfl) ?_
        refine awp_regionA (c := ⟨[4, 8, 40, 54, 60], [], [], []⟩) (by simp only [lite_cons, lite_nil] <;> rfl) fun all hall K hK => ?_
        clear hall
        simp (maxSteps := 1000000) (disch := first | omega | assumption) [or_imp, forall_and]
        repeat' refine And.intro ?_ ?_
        all_goals first | omega | exact rfl | skip
        refine hK _ ?_
        clear hK K
        clear all
        refine q_round (k + 1) ?_ ?_ (weak_mkA rfl ?_ (by simp) (by simp))
        · omega
        · try dsimp only
          omega
        · simp (maxSteps := 1000000) (disch := first | omega | assumption) [or_imp, forall_and, outs_take, c3]
    · try simp at c2
      refine awp_exit ?_
      refine q_then_e ?_
      refine q_loop_e ?_
      refine q_block_e ?_
      refine q_then_n ?_
      refine awp_seq ?_
      refine awp_seq ?_
      refine awp_regionA (c := ⟨[4, 8, 40, 54, 60], [], [], []⟩) (by simp only [lite_cons, lite_nil] <;> rfl) fun all hall K hK => ?_
      clear hall
      simp (maxSteps := 1000000) (disch := first | omega | assumption) [or_imp, forall_and]
      repeat' refine And.intro ?_ ?_
      all_goals first | omega | exact rfl | skip
      refine hK _ ?_
      clear hK K
      clear all
      refine q_then_n ?_
      refine awp_block ?_
      refine awp_keep [4, 8, 48, 49, 50] (by simp only [keepL_nil, keepL_cons, envOf_sel, envOf_nil, sel_t, sel_f, Nat.reduceBEq] <;> rfl) ?_
      refine awp_loopE (fun (j : Nat) => [(50, .d (.int j)), (8, .d (.sl true ((outs (clean b) (keptL (clean b) (clean a)) (clean a) ++ addsT (clean b) (keptL (clean b) (clean a)) j).map dst)))]) [8, 12, 50, 51, 52, 53, 54, 55, 56, 57, 58, 59] (fun (j : Nat) => keptL (clean b) (clean a) + j ≤ (clean b).length) (fun (j : Nat) => (clean b).length - j) (0) (by simp <;> rfl) ?_ ?_ ?_
      · simp [addsT]
        rw [List.take_of_length_le (by omega)]; simp
      · simp; omega
      rintro j hj
      simp only [List.cons_append, List.nil_append]
      have hcl := outs_len (clean b) (keptL (clean b) (clean a)) (clean a)
      have hcl2 := addsT_len (clean b) (keptL (clean b) (clean a)) j
      refine awp_seq ?_
      refine awp_regionA (c := ⟨[4, 8, 40, 54, 60], [], [], []⟩) (by simp only [lite_cons, lite_nil] <;> rfl) fun all hall K hK => ?_
      clear hall
      simp (maxSteps := 1000000) (disch := first | omega | assumption) [or_imp, forall_and]
      repeat' refine And.intro ?_ ?_
      all_goals first | omega | exact rfl | skip
      refine hK _ ?_
      clear hK K
      clear all
      refine q_then_n ?_
      refine awp_seq ?_
      refine awp_ifB (by simp <;> rfl) ?_
      refine ⟨fun c4 => ?_, fun c4 => ?_⟩
      · try simp at c4
        refine awp_skip ?_
        refine q_then_n ?_
        refine awp_seq ?_
        refine awp_block ?_
        refine awp_seq ?_
        refine awp_regionA (c := ⟨[4, 8, 40, 54, 60], [], [], []⟩) (by simp only [lite_cons, lite_nil] <;> rfl) fun all hall K hK => ?_
        clear hall
        simp (maxSteps := 1000000) (disch := first | omega | assumption) [or_imp, forall_and]
        repeat' refine And.intro ?_ ?_
        all_goals first | omega | exact rfl | skip
        refine hK _ ?_
        clear hK K
        clear all
        refine q_then_n ?_
        refine awp_regionA (c := ⟨[4, 8, 40, 54, 60], [], [], []⟩) (by simp only [lite_cons, lite_nil] <;> rfl) fun all hall K hK => ?_
        clear hall
        simp (maxSteps := 1000000) (disch := first | omega | assumption) [or_imp, forall_and]
        repeat' refine And.intro ?_ ?_
        all_goals first | omega | exact rfl | skip
        refine hK _ ?_
        clear hK K
        clear all
        refine q_block_n ?_
        refine q_then_n ?_
        refine awp_keep [4, 8, 48, 49, 50] (by simp only [keepL_nil, keepL_cons, envOf_sel, envOf_nil, sel_t, sel_f, Nat.reduceBEq] <;> rfl) ?_
        refine awp_regionA (c := ⟨[4, 8, 40, 54, 60], [], [], []⟩) (by simp only [lite_cons, lite_nil] <;> rfl) fun all hall K hK => ?_
        clear hall
        simp (maxSteps := 1000000) (disch := first | omega | assumption) [or_imp, forall_and]
        repeat' refine And.intro ?_ ?_
        all_goals first | omega | exact rfl | skip
        refine hK _ ?_
        clear hK K
        clear all
        refine q_round (j + 1) ?_ ?_ (weak_mkA rfl ?_ (by simp) (by simp))
        · omega
        · try dsimp only
          omega
        · simp (maxSteps := 1000000) (disch := first | omega | assumption) [or_imp, forall_and, addsT_take]
      · try simp at c4
        refine awp_exit ?_
        refine q_then_e ?_
        refine q_loop_e ?_
        refine q_block_e ?_
        refine q_then_n ?_
        refine awp_seq ?_
        refine awp_regionA (c := ⟨[4, 8, 40, 54, 60], [], [], []⟩) (by simp only [lite_cons, lite_nil] <;> rfl) fun all hall K hK => ?_
        clear hall
        simp (maxSteps := 1000000) (disch := first | omega | assumption) [or_imp, forall_and]
        repeat' refine And.intro ?_ ?_
        all_goals first | omega | exact rfl | skip
        refine hK _ ?_
        clear hK K
        clear all
        refine q_then_n ?_
        refine awp_ret ?_
        simp [endQ, turn2]
        rw [addsT_all _ _ _ (by omega)]; simp

end Go.Proofs.Ythieajadepfeoaa

/- Walks: contracts of functions. Written by a program of ours out of annotations. -/
import Derived.Test.YthieajadepfeoaaWkClasses
namespace Go.Proofs.Ythieajadepfeoaa
open Go Go.Vm
set_option maxRecDepth 20000
set_option linter.all false
set_option maxHeartbeats 8000000

theorem has_iff (c : ByteArray) (l : Ls) : has c l = true ↔ c ∈ l := by
  simp [has]
theorem addL_nodup (l : Ls) (c : ByteArray) (h : l.Nodup) : (addL l c).Nodup := by
  unfold addL
  split
  · exact h
  · rename_i hc
    rw [has_iff] at hc
    rw [List.nodup_append]
    exact ⟨h, by simp, by simp; intro a ha e; subst e; exact hc ha⟩
theorem clean_nodup (l : Ls) : (clean l).Nodup := by
  induction l using snoc_ind with
  | h0 => simp [clean]
  | h1 l x ih => rw [clean_snoc]; exact addL_nodup _ _ ih
theorem kept_sub (B A : Ls) : (B.take (keptL B A)).Sublist A := by
  induction A using snoc_ind with
  | h0 => simp [keptL]
  | h1 A x ih =>
    rw [keptL_snoc]
    split
    · rename_i h
      obtain ⟨hn, hx⟩ := List.getElem?_eq_some_iff.1 h
      rw [take_snoc B _ hn, hx]
      exact ih.append (List.Sublist.refl _)
    · exact ih.trans (List.sublist_append_left _ _)
theorem sub_snoc {l r : Ls} {y x : ByteArray} (h : (l ++ [y]).Sublist (r ++ [x])) : (l ++ [y]).Sublist r ∨ (l.Sublist r ∧ y = x) := by
  rw [← List.reverse_sublist] at h
  simp only [List.reverse_append, List.reverse_cons, List.reverse_nil, List.nil_append, List.singleton_append] at h
  cases h with
  | cons _ h => left; rw [← List.reverse_sublist]; simpa using h
  | cons_cons _ h => right; exact ⟨by rw [← List.reverse_sublist]; exact h, rfl⟩
theorem kept_best (B A : Ls) : ∀ m, m ≤ B.length → (B.take m).Sublist A → m ≤ keptL B A := by
  induction A using snoc_ind with
  | h0 => intro m hm h; have := h.length_le; simp only [List.length_take, List.length_nil] at this; omega
  | h1 A x ih =>
    intro m hm h
    rw [keptL_snoc]
    cases m with
    | zero => exact Nat.zero_le _
    | succ m =>
      rw [take_snoc B m (by omega)] at h
      rcases sub_snoc h with h | ⟨h, e⟩
      · rw [← take_snoc B m (by omega)] at h
        have := ih (m + 1) hm h
        split <;> omega
      · have h1 := ih m (by omega) h
        split
        · omega
        · rename_i hne
          by_cases e2 : keptL B A = m
          · exfalso
            apply hne
            rw [e2, List.getElem?_eq_getElem (by omega), e]
          · omega
theorem sub_filter {T A : Ls} (h : T.Sublist A) (hA : A.Nodup) : (A.filter fun c => has c T) = T := by
  induction h with
  | slnil => rfl
  | @cons T A a h ih =>
    have hn := List.nodup_cons.1 hA
    rw [List.filter_cons, if_neg]
    · exact ih hn.2
    · rw [has_iff]; exact fun hm => hn.1 (h.subset hm)
  | @cons_cons T A a h ih =>
    have hn := List.nodup_cons.1 hA
    rw [List.filter_cons, if_pos (by rw [has_iff]; simp)]
    congr 1
    have : (A.filter fun c => has c (a :: T)) = A.filter fun c => has c T := by
      apply List.filter_congr
      intro x hx
      have : a ≠ x := fun e => hn.1 (e ▸ hx)
      simp [has, this]
    rw [this]
    exact ih hn.2
theorem outs_eq (B A : Ls) (n : Nat) (hA : A.Nodup) (h : (B.take n).Sublist A) (hn : n ≤ B.length) : (outs B n A).length + n = A.length := by
  have h1 := sub_filter h hA
  have h2 : (A.filter fun c => has c (B.take n)).length = n := by rw [h1, List.length_take]; omega
  unfold outs
  rw [List.length_map]
  have h3 := List.length_eq_countP_add_countP (fun c => has c (B.take n)) (l := A)
  rw [List.countP_eq_length_filter, List.countP_eq_length_filter] at h3
  have h4 : (A.filter fun c => decide ¬(has c (B.take n) = true)) = A.filter fun c => !has c (B.take n) := by
    apply List.filter_congr
    intro x _
    cases has x (B.take n) <;> rfl
  rw [h4] at h3
  omega
theorem dropL_drop (l : Ls) (c : ByteArray) (h : l.Nodup) : l.length ≤ (dropL l c).length + 1 := by
  induction l with
  | nil => simp
  | cons x l ih =>
    have hn := List.nodup_cons.1 h
    unfold dropL at *
    rw [List.filter_cons]
    by_cases e : x = c
    · subst e
      simp only [decide_true, Bool.not_true, Bool.false_eq_true, if_false]
      have : (l.filter fun y => !decide (y = x)) = l := by
        rw [List.filter_eq_self]
        intro a ha
        have : a ≠ x := fun e => hn.1 (e ▸ ha)
        simp [this]
      rw [this]; simp
    · simp only [e, decide_false, Bool.not_false, if_true, List.length_cons]
      have := ih hn.2
      omega
theorem fold_drops : ∀ (D : List Stp) (X : Ls), (∀ s ∈ D, s.drop = true) → X.Nodup → (D.foldl stepL X).Sublist X ∧ (D.foldl stepL X).Nodup ∧ X.length ≤ (D.foldl stepL X).length + D.length
  | [], X, _, h => ⟨List.Sublist.refl _, h, by simp⟩
  | s :: D, X, hD, h => by
    have hs : stepL X s = dropL X s.name := by simp [stepL, hD s (by simp)]
    have h1 : (dropL X s.name).Sublist X := List.filter_sublist
    obtain ⟨a, b, c⟩ := fold_drops D (stepL X s) (fun t ht => hD t (by simp [ht])) (by rw [hs]; exact h.sublist h1)
    rw [hs] at a b c
    have := dropL_drop X s.name h
    simp only [List.foldl_cons, List.length_cons, hs]
    exact ⟨a.trans h1, b, by omega⟩
theorem fold_adds : ∀ (E : List Stp) (X : Ls), (∀ s ∈ E, s.drop = false) → ∃ Y : Ls, E.foldl stepL X = X ++ Y ∧ Y.length ≤ E.length
  | [], X, _ => ⟨[], by simp, by simp⟩
  | s :: E, X, hE => by
    have hs : stepL X s = addL X s.name := by simp [stepL, hE s (by simp)]
    obtain ⟨Y, h1, h2⟩ := fold_adds E (stepL X s) (fun t ht => hE t (by simp [ht]))
    rw [hs] at h1
    simp only [List.foldl_cons, List.length_cons, hs]
    unfold addL at h1 ⊢
    split at h1
    · rename_i hc; rw [if_pos hc]; exact ⟨Y, h1, by omega⟩
    · rename_i hc; rw [if_neg hc]; exact ⟨s.name :: Y, by rw [h1]; simp, by simp; omega⟩
def DA (S : List Stp) : Prop := S.Pairwise fun s t => s.drop = false → t.drop = false
theorem DA_split (S : List Stp) (h : DA S) : ∃ D E, S = D ++ E ∧ (∀ s ∈ D, s.drop = true) ∧ ∀ s ∈ E, s.drop = false := by
  induction S with
  | nil => exact ⟨[], [], rfl, by simp, by simp⟩
  | cons s S ih =>
    have hp := List.pairwise_cons.1 h
    cases e : s.drop with
    | false => exact ⟨[], s :: S, rfl, by simp, fun t ht => by rcases List.mem_cons.1 ht with rfl | ht; exact e; exact hp.1 t ht e⟩
    | true =>
      obtain ⟨D, E, rfl, h1, h2⟩ := ih hp.2
      exact ⟨s :: D, E, rfl, fun t ht => by rcases List.mem_cons.1 ht with rfl | ht; exact e; exact h1 t ht, h2⟩
theorem least_law (a b : Ls) (S : List Stp) (h : DA S) (e : applyL a S = clean b) : (turnL a b).length ≤ S.length := by
  obtain ⟨D, E, rfl, hD, hE⟩ := DA_split S h
  unfold applyL at e
  rw [List.foldl_append] at e
  obtain ⟨h1, h2, h3⟩ := fold_drops D (clean a) hD (clean_nodup a)
  obtain ⟨Y, h4, h5⟩ := fold_adds E (D.foldl stepL (clean a)) hE
  rw [h4] at e
  have hlen : (clean b).length = (D.foldl stepL (clean a)).length + Y.length := by rw [← e]; simp
  have htake : (clean b).take (D.foldl stepL (clean a)).length = D.foldl stepL (clean a) := by rw [← e]; simp
  have hk := kept_best (clean b) (clean a) (D.foldl stepL (clean a)).length (by omega) (by rw [htake]; exact h1)
  have hk2 := keptL_le (clean b) (clean a)
  have ho := outs_eq (clean b) (clean a) (keptL (clean b) (clean a)) (clean_nodup a) (kept_sub _ _) hk2
  unfold turnL turn2
  simp only [List.length_append, List.length_map, List.length_drop]
  omega

def cst (s : Stp) : Stp := ⟨s.drop, cutB 20 s.name⟩
theorem DA_snoc {S : List Stp} {s : Stp} (h : DA S) (hs : s.drop = true → ∀ (hl : 0 < S.length), (S[S.length - 1]'(by omega)).drop = true) : DA (S ++ [s]) := by
  unfold DA at *
  rw [List.pairwise_append]
  refine ⟨h, List.pairwise_singleton _ _, fun x hx y hy hd => ?_⟩
  simp at hy
  subst hy
  cases e : y.drop with
  | false => rfl
  | true =>
    exfalso
    obtain ⟨i, hi, rfl⟩ := List.getElem_of_mem hx
    have h1 := hs e (by omega)
    by_cases hlast : i = S.length - 1
    · subst hlast; rw [h1] at hd; cases hd
    · have := List.pairwise_iff_getElem.1 h i (S.length - 1) hi (by omega) (by omega) hd
      rw [h1] at this; cases this
def trl (tried : List Stp) (k : Nat) : List Stp := (tried.take k).map cst
theorem trl_take (tried : List Stp) (k : Nat) (h : k < tried.length) : trl tried (k + 1) = trl tried k ++ [cst tried[k]] := by
  unfold trl
  rw [take_snoc tried k h, List.map_append]; rfl
theorem trl_len (tried : List Stp) (k : Nat) : (trl tried k).length ≤ k := by simp [trl]; omega
theorem trl_len2 (tried : List Stp) (k : Nat) (h : k ≤ tried.length) : (trl tried k).length = k := by simp [trl]; omega
theorem turn_len (a b : Ls) : (turnL a b).length ≤ (clean a).length + (clean b).length := by
  unfold turnL turn2
  have := outs_len (clean b) (keptL (clean b) (clean a)) (clean a)
  simp only [List.length_append, List.length_map, List.length_drop]
  omega

-- scrim/scrimlaw03.ClassesLeast
theorem least_fn (a b : Ls) (tried : List Stp) (σ : List (List D)) (ha : a.length ≤ 9223372036854775807) (hb : b.length ≤ 9223372036854775807) (ht : tried.length ≤ 9223372036854775807) : Ct Try.prog 3 [dl a, dl b, .sl false (tried.map dst)] σ (fun r σ' => r = .bool true ∧ σ' = σ) := by
  have hfa := few_len a 10
  have hfb := few_len b 10
  refine fn_start (rs := [.tmp 6]) Try.func3 rfl rfl Try.ntmps3 Try.results3 (by simp) ?_
  simp only [argEnv]
  refine awp_seq ?_
  refine awp_regionA (c := ⟨[7, 55], [], [], []⟩) (by simp only [lite_cons, lite_nil] <;> rfl) fun all hall K hK => ?_
  clear hall
  simp (maxSteps := 1000000) (disch := first | omega | assumption)
  repeat' refine And.intro ?_ ?_
  all_goals first | omega | exact rfl | skip
  refine hK _ ?_
  clear hK K
  clear all
  refine q_then_n ?_
  refine awp_seq ?_
  refine awp_seq ?_
  refine awp_regionA (c := ⟨[7, 55], [], [], []⟩) (by simp only [lite_cons, lite_nil] <;> rfl) fun all hall K hK => ?_
  clear hall
  refine vcL_step fun K' hK' => ?_
  simp (maxSteps := 1000000) (disch := first | omega | assumption)
  refine Ct.mono (Ct.of_le (awake_fn _) (by first | exact leArgs_of rfl | (refine leArgs_of ?_; simp; done) | (refine leArgs_of ?_; simp; rfl) | (simp [leArgs, leArg]; done)) rfl) ?_
  rintro _ _ ⟨rfl, rfl⟩
  refine hK' _ ?_
  clear hK' K'
  simp (maxSteps := 1000000) (disch := first | omega | assumption)
  repeat' refine And.intro ?_ ?_
  all_goals first | omega | exact rfl | skip
  refine hK _ ?_
  clear hK K
  clear all
  refine q_then_n ?_
  refine awp_ifB (by simp <;> rfl) ?_
  refine ⟨fun c1 => ?_, fun c1 => ?_⟩
  · simp at c1
  · try simp at c1
    refine awp_skip ?_
    refine q_then_n ?_
    refine awp_seq ?_
    refine awp_regionA (c := ⟨[7, 55], [], [], []⟩) (by simp only [lite_cons, lite_nil] <;> rfl) fun all hall K hK => ?_
    clear hall
    refine vcL_split 1 fun K' hK' => ?_
    simp (maxSteps := 1000000) (disch := first | omega | assumption)
    repeat' refine And.intro ?_ ?_
    all_goals first | omega | exact rfl | skip
    refine hK' _ ?_
    clear hK' K'
    simp only [List.drop_succ_cons, List.drop_zero]
    refine vcL_step fun K' hK' => ?_
    simp (maxSteps := 1000000) (disch := first | omega | assumption)
    refine Ct.mono (Ct.of_le (few_fn a 10 _ ha (by omega)) (by first | exact leArgs_of rfl | (refine leArgs_of ?_; simp; done) | (refine leArgs_of ?_; simp; rfl) | (simp [leArgs, leArg]; done)) rfl) ?_
    rintro _ _ ⟨rfl, rfl⟩
    refine hK' _ ?_
    clear hK' K'
    refine vcL_split 1 fun K' hK' => ?_
    simp (maxSteps := 1000000) (disch := first | omega | assumption)
    repeat' refine And.intro ?_ ?_
    all_goals first | omega | exact rfl | skip
    refine hK' _ ?_
    clear hK' K'
    simp only [List.drop_succ_cons, List.drop_zero]
    refine vcL_step fun K' hK' => ?_
    simp (maxSteps := 1000000) (disch := first | omega | assumption)
    refine Ct.mono (Ct.of_le (few_fn b 10 _ hb (by omega)) (by first | exact leArgs_of rfl | (refine leArgs_of ?_; simp; done) | (refine leArgs_of ?_; simp; rfl) | (simp [leArgs, leArg]; done)) rfl) ?_
    rintro _ _ ⟨rfl, rfl⟩
    refine hK' _ ?_
    clear hK' K'
    simp (maxSteps := 1000000) (disch := first | omega | assumption)
    repeat' refine And.intro ?_ ?_
    all_goals first | omega | exact rfl | skip
    refine hK _ ?_
    clear hK K
    clear all
    refine q_then_n ?_
    refine awp_seq ?_
    refine awp_regionA (c := ⟨[7, 55], [], [], []⟩) (by simp only [lite_cons, lite_nil] <;> rfl) fun all hall K hK => ?_
    clear hall
    simp (maxSteps := 1000000) (disch := first | omega | assumption)
    repeat' refine And.intro ?_ ?_
    all_goals first | omega | exact rfl | skip
    refine hK _ ?_
    clear hK K
    clear all
    refine q_then_n ?_
    refine awp_seq ?_
    refine awp_seq ?_
    refine awp_regionA (c := ⟨[7, 55], [], [], []⟩) (by simp only [lite_cons, lite_nil] <;> rfl) fun all hall K hK => ?_
    clear hall
    simp (maxSteps := 1000000) (disch := first | omega | assumption)
    repeat' refine And.intro ?_ ?_
    all_goals first | omega | exact rfl | skip
    refine hK _ ?_
    clear hK K
    clear all
    refine q_then_n ?_
    refine awp_block ?_
    refine awp_keep [0, 1, 2, 6, 7, 8] (by simp only [keepL_nil, keepL_cons, envOf_sel, envOf_nil, sel_t, sel_f, Nat.reduceBEq] <;> rfl) ?_
    refine awp_loopE (fun (k : Nat) => [(8, .d (.int k)), (7, .d (.sl true ((trl tried k).map dst)))]) [7, 8, 9, 16, 17, 18, 19, 20, 21, 22, 23, 24, 25, 26, 27, 28, 29, 30, 31, 32, 33, 34, 35, 36, 37, 38, 39, 40, 41, 42, 43, 44, 45, 46, 47, 48, 49, 50, 51, 52, 53, 54, 55, 56, 57, 58] (fun (k : Nat) => k ≤ tried.length ∧ k ≤ 20 ∧ DA (trl tried k)) (fun (k : Nat) => tried.length - k) (0) (by simp <;> rfl) ?_ ?_ ?_
    · simp [trl]
    · simp [trl, DA]
    rintro k ⟨hk, hk2, hda⟩
    simp only [List.cons_append, List.nil_append]
    have hcl := trl_len2 tried k hk
    have hal := applyL_len (few a 10) (trl tried k)
    have hca := clean_len (few a 10)
    have hcb := clean_len (few b 10)
    have htl := turn_len (few a 10) (few b 10)
    refine awp_seq ?_
    refine awp_seq ?_
    refine awp_regionA (c := ⟨[7, 55], [], [], []⟩) (by simp only [lite_cons, lite_nil] <;> rfl) fun all hall K hK => ?_
    have ga4 : guardOf all 4 = some 20 := hall 4
    clear hall
    refine vcL_split 5 fun K' hK' => ?_
    simp (maxSteps := 1000000) (disch := first | omega | assumption) [ga4]
    repeat' refine And.intro ?_ ?_
    all_goals first | omega | exact rfl | skip
    refine hK' _ ?_
    clear hK' K'
    simp only [List.drop_succ_cons, List.drop_zero]
    refine vcL_bool 20 (by simp <;> rfl) ?_
    refine ⟨fun g2 => ?_, fun g2 => ?_⟩
    · try simp at g2
      simp (maxSteps := 1000000) (disch := first | omega | assumption) [ga4]
      repeat' refine And.intro ?_ ?_
      all_goals first | omega | exact rfl | skip
      refine hK _ ?_
      clear hK K
      clear ga4
      clear all
      refine q_then_n ?_
      refine awp_ifB (by simp <;> rfl) ?_
      refine ⟨fun c3 => ?_, fun c3 => ?_⟩
      · try simp at c3
        refine awp_skip ?_
        refine q_then_n ?_
        refine awp_seq ?_
        refine awp_block ?_
        refine awp_seq ?_
        refine awp_keep [0, 1, 2, 6, 7, 8] (by simp only [keepL_nil, keepL_cons, envOf_sel, envOf_nil, sel_t, sel_f, Nat.reduceBEq] <;> rfl) ?_
        refine awp_drawA (c := ⟨[7, 55], [], [], []⟩) [.op ⟨false, false, false, false⟩, .op ⟨false, false, false, false⟩, .op ⟨false, false, false, false⟩, .op ⟨false, false, false, false⟩, .op ⟨false, false, false, false⟩, .op ⟨false, false, false, false⟩, .op ⟨false, false, false, false⟩, .op ⟨false, false, false, false⟩, .op ⟨false, false, false, false⟩, .op ⟨false, false, false, false⟩, .pure, .op ⟨false, false, false, false⟩, .op ⟨true, true, false, false⟩, .op ⟨true, true, false, false⟩] (by kernel_rfl) (by kernel_rfl) (by simp only [lite_cons, lite_nil] <;> rfl) fun all hall K hK => ?_
        clear hall
        refine vcDL_split 8 (by simp) fun K' hK' => ?_
        simp (maxSteps := 1000000) (disch := first | omega | assumption)
        repeat' refine And.intro ?_ ?_
        all_goals first | omega | exact rfl | skip
        refine hK' _ ?_
        clear hK' K'
        simp only [List.drop_succ_cons, List.drop_zero]
        refine vcDL_split 2 (by simp) fun K' hK' => ?_
        simp (maxSteps := 1000000) (disch := first | omega | assumption)
        repeat' refine And.intro ?_ ?_
        all_goals first | omega | exact rfl | skip
        refine hK' _ ?_
        clear hK' K'
        simp only [List.drop_succ_cons, List.drop_zero]
        refine vcDL_step fun K' hK' => ?_
        simp (maxSteps := 1000000) (disch := first | omega | assumption)
        refine ⟨_, fun σ => Ct.of_le (cut_fn _ 20 _ (by omega)) (by first | exact leArgs_of rfl | (refine leArgs_of ?_; simp; done) | (refine leArgs_of ?_; simp; rfl) | (simp [leArgs, leArg]; done)) rfl, ?_⟩
        refine hK' _ ?_
        clear hK' K'
        simp (maxSteps := 1000000) (disch := first | omega | assumption)
        repeat' refine And.intro ?_ ?_
        all_goals first | omega | exact rfl | skip
        refine hK _ ?_
        clear hK K
        clear all
        refine q_then_n ?_
        refine awp_seq ?_
        refine awp_seq ?_
        refine awp_keep [0, 1, 2, 6, 7, 8, 9] (by simp only [keepL_nil, keepL_cons, envOf_sel, envOf_nil, sel_t, sel_f, Nat.reduceBEq] <;> rfl) ?_
        refine awp_regionA (c := ⟨[7, 55], [], [], []⟩) (by simp only [lite_cons, lite_nil] <;> rfl) fun all hall K hK => ?_
        have ga2 : guardOf all 2 = some 40 := hall 2
        have ga7 : guardOf all 7 = some 45 := hall 7
        clear hall
        refine vcL_split 3 fun K' hK' => ?_
        simp (maxSteps := 1000000) (disch := first | omega | assumption) [ga2, ga7]
        repeat' refine And.intro ?_ ?_
        all_goals first | omega | exact rfl | skip
        refine hK' _ ?_
        clear hK' K'
        simp only [List.drop_succ_cons, List.drop_zero]
        refine vcL_bool 40 (by simp <;> rfl) ?_
        refine ⟨fun g4 => ?_, fun g4 => ?_⟩
        · try simp at g4
          refine vcL_split 5 fun K' hK' => ?_
          simp (maxSteps := 1000000) (disch := first | omega | assumption) [ga2, ga7]
          repeat' refine And.intro ?_ ?_
          all_goals first | omega | exact rfl | skip
          refine hK' _ ?_
          clear hK' K'
          simp only [List.drop_succ_cons, List.drop_zero]
          refine vcL_bool 45 (by simp <;> rfl) ?_
          refine ⟨fun g5 => ?_, fun g5 => ?_⟩
          · try simp at g5
            refine vcL_split 8 fun K' hK' => ?_
            simp (maxSteps := 1000000) (disch := first | omega | assumption) [ga2, ga7]
            repeat' refine And.intro ?_ ?_
            all_goals first | omega | exact rfl | skip
            refine hK' _ ?_
            clear hK' K'
            simp only [List.drop_succ_cons, List.drop_zero]
            simp (maxSteps := 1000000) (disch := first | omega | assumption) [ga2, ga7]
            repeat' refine And.intro ?_ ?_
            all_goals first | omega | exact rfl | skip
            refine hK _ ?_
            clear hK K
            clear ga2 ga7
            clear all
            refine q_then_n ?_
            refine awp_ifB (by simp <;> rfl) ?_
            refine ⟨fun c6 => ?_, fun c6 => ?_⟩
            · try simp at c6
              refine awp_exit ?_
              refine q_then_e ?_
              refine q_block_o (by decide) ?_
              refine q_then_e ?_
              refine q_loop_e ?_
              refine q_block_e ?_
              refine q_then_n ?_
              refine awp_seq ?_
              refine awp_seq ?_
              refine awp_keep [0, 1, 6, 7] (by simp only [keepL_nil, keepL_cons, envOf_sel, envOf_nil, sel_t, sel_f, Nat.reduceBEq] <;> rfl) ?_
              refine awp_regionA (c := ⟨[7, 55], [], [], []⟩) (by simp only [lite_cons, lite_nil] <;> rfl) fun all hall K hK => ?_
              clear hall
              refine vcL_split 2 fun K' hK' => ?_
              simp (maxSteps := 1000000) (disch := first | omega | assumption)
              repeat' refine And.intro ?_ ?_
              all_goals first | omega | exact rfl | skip
              refine hK' _ ?_
              clear hK' K'
              simp only [List.drop_succ_cons, List.drop_zero]
              refine vcL_step fun K' hK' => ?_
              simp (maxSteps := 1000000) (disch := first | omega | assumption)
              refine Ct.mono (Ct.of_le (rapply_fn (few a 10) (trl tried k) _ (by omega) (by omega)) (by first | exact leArgs_of rfl | (refine leArgs_of ?_; simp; done) | (refine leArgs_of ?_; simp; rfl) | (simp [leArgs, leArg]; done)) rfl) ?_
              rintro _ _ ⟨rfl, rfl⟩
              refine hK' _ ?_
              clear hK' K'
              refine vcL_split 1 fun K' hK' => ?_
              simp (maxSteps := 1000000) (disch := first | omega | assumption)
              repeat' refine And.intro ?_ ?_
              all_goals first | omega | exact rfl | skip
              refine hK' _ ?_
              clear hK' K'
              simp only [List.drop_succ_cons, List.drop_zero]
              refine vcL_step fun K' hK' => ?_
              simp (maxSteps := 1000000) (disch := first | omega | assumption)
              refine Ct.mono (Ct.of_le (rclean_fn (few b 10) _ (by omega)) (by first | exact leArgs_of rfl | (refine leArgs_of ?_; simp; done) | (refine leArgs_of ?_; simp; rfl) | (simp [leArgs, leArg]; done)) rfl) ?_
              rintro _ _ ⟨rfl, rfl⟩
              refine hK' _ ?_
              clear hK' K'
              refine vcL_step fun K' hK' => ?_
              simp (maxSteps := 1000000) (disch := first | omega | assumption)
              refine Ct.mono (Ct.of_le (same_fn (applyL (few a 10) (trl tried k)) (clean (few b 10)) _ (by omega) (by omega)) (by first | exact leArgs_of rfl | (refine leArgs_of ?_; simp; done) | (refine leArgs_of ?_; simp; rfl) | (simp [leArgs, leArg]; done)) rfl) ?_
              rintro _ _ ⟨rfl, rfl⟩
              refine hK' _ ?_
              clear hK' K'
              simp (maxSteps := 1000000) (disch := first | omega | assumption)
              repeat' refine And.intro ?_ ?_
              all_goals first | omega | exact rfl | skip
              refine hK _ ?_
              clear hK K
              clear all
              refine q_then_n ?_
              refine awp_ifB (by simp <;> rfl) ?_
              refine ⟨fun c7 => ?_, fun c7 => ?_⟩
              · try simp at c7
                refine awp_seq ?_
                refine awp_keep [0, 1, 6, 7] (by simp only [keepL_nil, keepL_cons, envOf_sel, envOf_nil, sel_t, sel_f, Nat.reduceBEq] <;> rfl) ?_
                refine awp_regionA (c := ⟨[7, 55], [], [], []⟩) (by simp only [lite_cons, lite_nil] <;> rfl) fun all hall K hK => ?_
                clear hall
                refine vcL_split 2 fun K' hK' => ?_
                simp (maxSteps := 1000000) (disch := first | omega | assumption)
                repeat' refine And.intro ?_ ?_
                all_goals first | omega | exact rfl | skip
                refine hK' _ ?_
                clear hK' K'
                simp only [List.drop_succ_cons, List.drop_zero]
                refine vcL_step fun K' hK' => ?_
                simp (maxSteps := 1000000) (disch := first | omega | assumption)
                refine Ct.mono (Ct.of_le (turn_fn (few a 10) (few b 10) _ (by omega) (by omega)) (by first | exact leArgs_of rfl | (refine leArgs_of ?_; simp; done) | (refine leArgs_of ?_; simp; rfl) | (simp [leArgs, leArg]; done)) rfl) ?_
                rintro _ _ ⟨rfl, rfl⟩
                refine hK' _ ?_
                clear hK' K'
                refine vcL_split 2 fun K' hK' => ?_
                simp (maxSteps := 1000000) (disch := first | omega | assumption)
                repeat' refine And.intro ?_ ?_
                all_goals first | omega | exact rfl | skip
                refine hK' _ ?_
                clear hK' K'
                simp only [List.drop_succ_cons, List.drop_zero]
                refine vcL_step fun K' hK' => ?_
                simp (maxSteps := 1000000) (disch := first | omega | assumption)
                refine Ct.mono (Ct.of_le (rclean_fn (few a 10) _ (by omega)) (by first | exact leArgs_of rfl | (refine leArgs_of ?_; simp; done) | (refine leArgs_of ?_; simp; rfl) | (simp [leArgs, leArg]; done)) rfl) ?_
                rintro _ _ ⟨rfl, rfl⟩
                refine hK' _ ?_
                clear hK' K'
                refine vcL_split 2 fun K' hK' => ?_
                simp (maxSteps := 1000000) (disch := first | omega | assumption)
                repeat' refine And.intro ?_ ?_
                all_goals first | omega | exact rfl | skip
                refine hK' _ ?_
                clear hK' K'
                simp only [List.drop_succ_cons, List.drop_zero]
                refine vcL_step fun K' hK' => ?_
                simp (maxSteps := 1000000) (disch := first | omega | assumption)
                refine Ct.mono (Ct.of_le (rclean_fn (few b 10) _ (by omega)) (by first | exact leArgs_of rfl | (refine leArgs_of ?_; simp; done) | (refine leArgs_of ?_; simp; rfl) | (simp [leArgs, leArg]; done)) rfl) ?_
                rintro _ _ ⟨rfl, rfl⟩
                refine hK' _ ?_
                clear hK' K'
                simp (maxSteps := 1000000) (disch := first | omega | assumption)
                repeat' refine And.intro ?_ ?_
                all_goals first | omega | exact rfl | skip
                refine hK _ ?_
                clear hK K
                clear all
                refine q_then_n ?_
                refine awp_ret ?_
                refine q_then_r ?_
                simp [endQ]
                have h1 := turn_len (few a 10) (few b 10)
                omega
              · try simp at c7
                refine awp_skip ?_
                refine q_then_n ?_
                refine awp_seq ?_
                refine awp_regionA (c := ⟨[7, 55], [], [], []⟩) (by simp only [lite_cons, lite_nil] <;> rfl) fun all hall K hK => ?_
                clear hall
                refine vcL_split 2 fun K' hK' => ?_
                simp (maxSteps := 1000000) (disch := first | omega | assumption)
                repeat' refine And.intro ?_ ?_
                all_goals first | omega | exact rfl | skip
                refine hK' _ ?_
                clear hK' K'
                simp only [List.drop_succ_cons, List.drop_zero]
                refine vcL_step fun K' hK' => ?_
                simp (maxSteps := 1000000) (disch := first | omega | assumption)
                refine Ct.mono (Ct.of_le (turn_fn (few a 10) (few b 10) _ (by omega) (by omega)) (by first | exact leArgs_of rfl | (refine leArgs_of ?_; simp; done) | (refine leArgs_of ?_; simp; rfl) | (simp [leArgs, leArg]; done)) rfl) ?_
                rintro _ _ ⟨rfl, rfl⟩
                refine hK' _ ?_
                clear hK' K'
                simp (maxSteps := 1000000) (disch := first | omega | assumption)
                repeat' refine And.intro ?_ ?_
                all_goals first | omega | exact rfl | skip
                refine hK _ ?_
                clear hK K
                clear all
                refine q_then_n ?_
                refine awp_ret ?_
                simp [endQ]
                have h1 := least_law _ _ _ hda (by assumption)
                omega
            · try simp at c6
              refine awp_skip ?_
              refine q_then_n ?_
              refine awp_keep [0, 1, 2, 6, 7, 8, 9] (by simp only [keepL_nil, keepL_cons, envOf_sel, envOf_nil, sel_t, sel_f, Nat.reduceBEq] <;> rfl) ?_
              refine awp_regionA (c := ⟨[7, 55], [], [], []⟩) (by simp only [lite_cons, lite_nil] <;> rfl) fun all hall K hK => ?_
              clear hall
              simp (maxSteps := 1000000) (disch := first | omega | assumption)
              repeat' refine And.intro ?_ ?_
              all_goals first | omega | exact rfl | skip
              refine hK _ ?_
              clear hK K
              clear all
              refine q_block_n ?_
              refine q_then_n ?_
              refine awp_keep [0, 1, 2, 6, 7, 8] (by simp only [keepL_nil, keepL_cons, envOf_sel, envOf_nil, sel_t, sel_f, Nat.reduceBEq] <;> rfl) ?_
              refine awp_regionA (c := ⟨[7, 55], [], [], []⟩) (by simp only [lite_cons, lite_nil] <;> rfl) fun all hall K hK => ?_
              clear hall
              simp (maxSteps := 1000000) (disch := first | omega | assumption)
              repeat' refine And.intro ?_ ?_
              all_goals first | omega | exact rfl | skip
              refine hK _ ?_
              clear hK K
              clear all
              refine q_round (k + 1) ?_ ?_ (weak_mkA rfl ?_ (by simp) (by simp))
              · refine ⟨by omega, by omega, ?_⟩
                rw [trl_take tried k (by omega)]
                refine DA_snoc hda fun hd hl => ?_
                simp only [cst] at hd
                first | assumption | (rw [g4] at hd; cases hd; done) | (rw [g5] at hl; simp at hl; done) | (simp at g5; omega) | (simp_all; done) | (exfalso; omega)
              · try dsimp only
                omega
              · simp (maxSteps := 1000000) (disch := first | omega | assumption) [trl_take, cst]
          · try simp at g5
            refine vcL_split 8 fun K' hK' => ?_
            simp (maxSteps := 1000000) (disch := first | omega | assumption) [ga2, ga7]
            repeat' refine And.intro ?_ ?_
            all_goals first | omega | exact rfl | skip
            refine hK' _ ?_
            clear hK' K'
            simp only [List.drop_succ_cons, List.drop_zero]
            simp (maxSteps := 1000000) (disch := first | omega | assumption) [ga2, ga7]
            repeat' refine And.intro ?_ ?_
            all_goals first | omega | exact rfl | skip
            refine hK _ ?_
            clear hK K
            clear ga2 ga7
            clear all
            refine q_then_n ?_
            refine awp_cond (t := false) (by simp) (fun h => by cases h) (fun _ => ?_)
            refine awp_skip ?_
            refine q_then_n ?_
            refine awp_keep [0, 1, 2, 6, 7, 8, 9] (by simp only [keepL_nil, keepL_cons, envOf_sel, envOf_nil, sel_t, sel_f, Nat.reduceBEq] <;> rfl) ?_
            refine awp_regionA (c := ⟨[7, 55], [], [], []⟩) (by simp only [lite_cons, lite_nil] <;> rfl) fun all hall K hK => ?_
            clear hall
            simp (maxSteps := 1000000) (disch := first | omega | assumption)
            repeat' refine And.intro ?_ ?_
            all_goals first | omega | exact rfl | skip
            refine hK _ ?_
            clear hK K
            clear all
            refine q_block_n ?_
            refine q_then_n ?_
            refine awp_keep [0, 1, 2, 6, 7, 8] (by simp only [keepL_nil, keepL_cons, envOf_sel, envOf_nil, sel_t, sel_f, Nat.reduceBEq] <;> rfl) ?_
            refine awp_regionA (c := ⟨[7, 55], [], [], []⟩) (by simp only [lite_cons, lite_nil] <;> rfl) fun all hall K hK => ?_
            clear hall
            simp (maxSteps := 1000000) (disch := first | omega | assumption)
            repeat' refine And.intro ?_ ?_
            all_goals first | omega | exact rfl | skip
            refine hK _ ?_
            clear hK K
            clear all
            refine q_round (k + 1) ?_ ?_ (weak_mkA rfl ?_ (by simp) (by simp))
            · refine ⟨by omega, by omega, ?_⟩
              rw [trl_take tried k (by omega)]
              refine DA_snoc hda fun hd hl => ?_
              simp only [cst] at hd
              first | assumption | (rw [g4] at hd; cases hd; done) | (rw [g5] at hl; simp at hl; done) | (simp at g5; omega) | (simp_all; done) | (exfalso; omega)
            · try dsimp only
              omega
            · simp (maxSteps := 1000000) (disch := first | omega | assumption) [trl_take, cst]
        · try simp at g4
          refine vcL_split 5 fun K' hK' => ?_
          simp (maxSteps := 1000000) (disch := first | omega | assumption) [ga2, ga7]
          repeat' refine And.intro ?_ ?_
          all_goals first | omega | exact rfl | skip
          refine hK' _ ?_
          clear hK' K'
          simp only [List.drop_succ_cons, List.drop_zero]
          refine vcL_split 8 fun K' hK' => ?_
          simp (maxSteps := 1000000) (disch := first | omega | assumption) [ga2, ga7]
          repeat' refine And.intro ?_ ?_
          all_goals first | omega | exact rfl | skip
          refine hK' _ ?_
          clear hK' K'
          simp only [List.drop_succ_cons, List.drop_zero]
          simp (maxSteps := 1000000) (disch := first | omega | assumption) [ga2, ga7]
          repeat' refine And.intro ?_ ?_
          all_goals first | omega | exact rfl | skip
          refine hK _ ?_
          clear hK K
          clear ga2 ga7
          clear all
          refine q_then_n ?_
          refine awp_cond (t := false) (by simp) (fun h => by cases h) (fun _ => ?_)
          refine awp_skip ?_
          refine q_then_n ?_
          refine awp_keep [0, 1, 2, 6, 7, 8, 9] (by simp only [keepL_nil, keepL_cons, envOf_sel, envOf_nil, sel_t, sel_f, Nat.reduceBEq] <;> rfl) ?_
          refine awp_regionA (c := ⟨[7, 55], [], [], []⟩) (by simp only [lite_cons, lite_nil] <;> rfl) fun all hall K hK => ?_
          clear hall
          simp (maxSteps := 1000000) (disch := first | omega | assumption)
          repeat' refine And.intro ?_ ?_
          all_goals first | omega | exact rfl | skip
          refine hK _ ?_
          clear hK K
          clear all
          refine q_block_n ?_
          refine q_then_n ?_
          refine awp_keep [0, 1, 2, 6, 7, 8] (by simp only [keepL_nil, keepL_cons, envOf_sel, envOf_nil, sel_t, sel_f, Nat.reduceBEq] <;> rfl) ?_
          refine awp_regionA (c := ⟨[7, 55], [], [], []⟩) (by simp only [lite_cons, lite_nil] <;> rfl) fun all hall K hK => ?_
          clear hall
          simp (maxSteps := 1000000) (disch := first | omega | assumption)
          repeat' refine And.intro ?_ ?_
          all_goals first | omega | exact rfl | skip
          refine hK _ ?_
          clear hK K
          clear all
          refine q_round (k + 1) ?_ ?_ (weak_mkA rfl ?_ (by simp) (by simp))
          · refine ⟨by omega, by omega, ?_⟩
            rw [trl_take tried k (by omega)]
            refine DA_snoc hda fun hd hl => ?_
            simp only [cst] at hd
            first | assumption | (rw [g4] at hd; cases hd; done) | (rw [g5] at hl; simp at hl; done) | (simp at g5; omega) | (simp_all; done) | (exfalso; omega)
          · try dsimp only
            omega
          · simp (maxSteps := 1000000) (disch := first | omega | assumption) [trl_take, cst]
      · try simp at c3
        refine awp_exit ?_
        refine q_then_e ?_
        refine q_loop_e ?_
        refine q_block_e ?_
        refine q_then_n ?_
        refine awp_seq ?_
        refine awp_seq ?_
        refine awp_keep [0, 1, 6, 7] (by simp only [keepL_nil, keepL_cons, envOf_sel, envOf_nil, sel_t, sel_f, Nat.reduceBEq] <;> rfl) ?_
        refine awp_regionA (c := ⟨[7, 55], [], [], []⟩) (by simp only [lite_cons, lite_nil] <;> rfl) fun all hall K hK => ?_
        clear hall
        refine vcL_split 2 fun K' hK' => ?_
        simp (maxSteps := 1000000) (disch := first | omega | assumption)
        repeat' refine And.intro ?_ ?_
        all_goals first | omega | exact rfl | skip
        refine hK' _ ?_
        clear hK' K'
        simp only [List.drop_succ_cons, List.drop_zero]
        refine vcL_step fun K' hK' => ?_
        simp (maxSteps := 1000000) (disch := first | omega | assumption)
        refine Ct.mono (Ct.of_le (rapply_fn (few a 10) (trl tried k) _ (by omega) (by omega)) (by first | exact leArgs_of rfl | (refine leArgs_of ?_; simp; done) | (refine leArgs_of ?_; simp; rfl) | (simp [leArgs, leArg]; done)) rfl) ?_
        rintro _ _ ⟨rfl, rfl⟩
        refine hK' _ ?_
        clear hK' K'
        refine vcL_split 1 fun K' hK' => ?_
        simp (maxSteps := 1000000) (disch := first | omega | assumption)
        repeat' refine And.intro ?_ ?_
        all_goals first | omega | exact rfl | skip
        refine hK' _ ?_
        clear hK' K'
        simp only [List.drop_succ_cons, List.drop_zero]
        refine vcL_step fun K' hK' => ?_
        simp (maxSteps := 1000000) (disch := first | omega | assumption)
        refine Ct.mono (Ct.of_le (rclean_fn (few b 10) _ (by omega)) (by first | exact leArgs_of rfl | (refine leArgs_of ?_; simp; done) | (refine leArgs_of ?_; simp; rfl) | (simp [leArgs, leArg]; done)) rfl) ?_
        rintro _ _ ⟨rfl, rfl⟩
        refine hK' _ ?_
        clear hK' K'
        refine vcL_step fun K' hK' => ?_
        simp (maxSteps := 1000000) (disch := first | omega | assumption)
        refine Ct.mono (Ct.of_le (same_fn (applyL (few a 10) (trl tried k)) (clean (few b 10)) _ (by omega) (by omega)) (by first | exact leArgs_of rfl | (refine leArgs_of ?_; simp; done) | (refine leArgs_of ?_; simp; rfl) | (simp [leArgs, leArg]; done)) rfl) ?_
        rintro _ _ ⟨rfl, rfl⟩
        refine hK' _ ?_
        clear hK' K'
        simp (maxSteps := 1000000) (disch := first | omega | assumption)
        repeat' refine And.intro ?_ ?_
        all_goals first | omega | exact rfl | skip
        refine hK _ ?_
        clear hK K
        clear all
        refine q_then_n ?_
        refine awp_ifB (by simp <;> rfl) ?_
        refine ⟨fun c8 => ?_, fun c8 => ?_⟩
        · try simp at c8
          refine awp_seq ?_
          refine awp_keep [0, 1, 6, 7] (by simp only [keepL_nil, keepL_cons, envOf_sel, envOf_nil, sel_t, sel_f, Nat.reduceBEq] <;> rfl) ?_
          refine awp_regionA (c := ⟨[7, 55], [], [], []⟩) (by simp only [lite_cons, lite_nil] <;> rfl) fun all hall K hK => ?_
          clear hall
          refine vcL_split 2 fun K' hK' => ?_
          simp (maxSteps := 1000000) (disch := first | omega | assumption)
          repeat' refine And.intro ?_ ?_
          all_goals first | omega | exact rfl | skip
          refine hK' _ ?_
          clear hK' K'
          simp only [List.drop_succ_cons, List.drop_zero]
          refine vcL_step fun K' hK' => ?_
          simp (maxSteps := 1000000) (disch := first | omega | assumption)
          refine Ct.mono (Ct.of_le (turn_fn (few a 10) (few b 10) _ (by omega) (by omega)) (by first | exact leArgs_of rfl | (refine leArgs_of ?_; simp; done) | (refine leArgs_of ?_; simp; rfl) | (simp [leArgs, leArg]; done)) rfl) ?_
          rintro _ _ ⟨rfl, rfl⟩
          refine hK' _ ?_
          clear hK' K'
          refine vcL_split 2 fun K' hK' => ?_
          simp (maxSteps := 1000000) (disch := first | omega | assumption)
          repeat' refine And.intro ?_ ?_
          all_goals first | omega | exact rfl | skip
          refine hK' _ ?_
          clear hK' K'
          simp only [List.drop_succ_cons, List.drop_zero]
          refine vcL_step fun K' hK' => ?_
          simp (maxSteps := 1000000) (disch := first | omega | assumption)
          refine Ct.mono (Ct.of_le (rclean_fn (few a 10) _ (by omega)) (by first | exact leArgs_of rfl | (refine leArgs_of ?_; simp; done) | (refine leArgs_of ?_; simp; rfl) | (simp [leArgs, leArg]; done)) rfl) ?_
          rintro _ _ ⟨rfl, rfl⟩
          refine hK' _ ?_
          clear hK' K'
          refine vcL_split 2 fun K' hK' => ?_
          simp (maxSteps := 1000000) (disch := first | omega | assumption)
          repeat' refine And.intro ?_ ?_
          all_goals first | omega | exact rfl | skip
          refine hK' _ ?_
          clear hK' K'
          simp only [List.drop_succ_cons, List.drop_zero]
          refine vcL_step fun K' hK' => ?_
          simp (maxSteps := 1000000) (disch := first | omega | assumption)
          refine Ct.mono (Ct.of_le (rclean_fn (few b 10) _ (by omega)) (by first | exact leArgs_of rfl | (refine leArgs_of ?_; simp; done) | (refine leArgs_of ?_; simp; rfl) | (simp [leArgs, leArg]; done)) rfl) ?_
          rintro _ _ ⟨rfl, rfl⟩
          refine hK' _ ?_
          clear hK' K'
          simp (maxSteps := 1000000) (disch := first | omega | assumption)
          repeat' refine And.intro ?_ ?_
          all_goals first | omega | exact rfl | skip
          refine hK _ ?_
          clear hK K
          clear all
          refine q_then_n ?_
          refine awp_ret ?_
          refine q_then_r ?_
          simp [endQ]
          have h1 := turn_len (few a 10) (few b 10)
          omega
        · try simp at c8
          refine awp_skip ?_
          refine q_then_n ?_
          refine awp_seq ?_
          refine awp_regionA (c := ⟨[7, 55], [], [], []⟩) (by simp only [lite_cons, lite_nil] <;> rfl) fun all hall K hK => ?_
          clear hall
          refine vcL_split 2 fun K' hK' => ?_
          simp (maxSteps := 1000000) (disch := first | omega | assumption)
          repeat' refine And.intro ?_ ?_
          all_goals first | omega | exact rfl | skip
          refine hK' _ ?_
          clear hK' K'
          simp only [List.drop_succ_cons, List.drop_zero]
          refine vcL_step fun K' hK' => ?_
          simp (maxSteps := 1000000) (disch := first | omega | assumption)
          refine Ct.mono (Ct.of_le (turn_fn (few a 10) (few b 10) _ (by omega) (by omega)) (by first | exact leArgs_of rfl | (refine leArgs_of ?_; simp; done) | (refine leArgs_of ?_; simp; rfl) | (simp [leArgs, leArg]; done)) rfl) ?_
          rintro _ _ ⟨rfl, rfl⟩
          refine hK' _ ?_
          clear hK' K'
          simp (maxSteps := 1000000) (disch := first | omega | assumption)
          repeat' refine And.intro ?_ ?_
          all_goals first | omega | exact rfl | skip
          refine hK _ ?_
          clear hK K
          clear all
          refine q_then_n ?_
          refine awp_ret ?_
          simp [endQ]
          have h1 := least_law _ _ _ hda (by assumption)
          omega
    · try simp at g2
      simp (maxSteps := 1000000) (disch := first | omega | assumption) [ga4]
      repeat' refine And.intro ?_ ?_
      all_goals first | omega | exact rfl | skip
      refine hK _ ?_
      clear hK K
      clear ga4
      clear all
      refine q_then_n ?_
      refine awp_cond (t := false) (by simp) (fun h => by cases h) (fun _ => ?_)
      refine awp_exit ?_
      refine q_then_e ?_
      refine q_loop_e ?_
      refine q_block_e ?_
      refine q_then_n ?_
      refine awp_seq ?_
      refine awp_seq ?_
      refine awp_keep [0, 1, 6, 7] (by simp only [keepL_nil, keepL_cons, envOf_sel, envOf_nil, sel_t, sel_f, Nat.reduceBEq] <;> rfl) ?_
      refine awp_regionA (c := ⟨[7, 55], [], [], []⟩) (by simp only [lite_cons, lite_nil] <;> rfl) fun all hall K hK => ?_
      clear hall
      refine vcL_split 2 fun K' hK' => ?_
      simp (maxSteps := 1000000) (disch := first | omega | assumption)
      repeat' refine And.intro ?_ ?_
      all_goals first | omega | exact rfl | skip
      refine hK' _ ?_
      clear hK' K'
      simp only [List.drop_succ_cons, List.drop_zero]
      refine vcL_step fun K' hK' => ?_
      simp (maxSteps := 1000000) (disch := first | omega | assumption)
      refine Ct.mono (Ct.of_le (rapply_fn (few a 10) (trl tried k) _ (by omega) (by omega)) (by first | exact leArgs_of rfl | (refine leArgs_of ?_; simp; done) | (refine leArgs_of ?_; simp; rfl) | (simp [leArgs, leArg]; done)) rfl) ?_
      rintro _ _ ⟨rfl, rfl⟩
      refine hK' _ ?_
      clear hK' K'
      refine vcL_split 1 fun K' hK' => ?_
      simp (maxSteps := 1000000) (disch := first | omega | assumption)
      repeat' refine And.intro ?_ ?_
      all_goals first | omega | exact rfl | skip
      refine hK' _ ?_
      clear hK' K'
      simp only [List.drop_succ_cons, List.drop_zero]
      refine vcL_step fun K' hK' => ?_
      simp (maxSteps := 1000000) (disch := first | omega | assumption)
      refine Ct.mono (Ct.of_le (rclean_fn (few b 10) _ (by omega)) (by first | exact leArgs_of rfl | (refine leArgs_of ?_; simp; done) | (refine leArgs_of ?_; simp; rfl) | (simp [leArgs, leArg]; done)) rfl) ?_
      rintro _ _ ⟨rfl, rfl⟩
      refine hK' _ ?_
      clear hK' K'
      refine vcL_step fun K' hK' => ?_
      simp (maxSteps := 1000000) (disch := first | omega | assumption)
      refine Ct.mono (Ct.of_le (same_fn (applyL (few a 10) (trl tried k)) (clean (few b 10)) _ (by omega) (by omega)) (by first | exact leArgs_of rfl | (refine leArgs_of ?_; simp; done) | (refine leArgs_of ?_; simp; rfl) | (simp [leArgs, leArg]; done)) rfl) ?_
      rintro _ _ ⟨rfl, rfl⟩
      refine hK' _ ?_
      clear hK' K'
      simp (maxSteps := 1000000) (disch := first | omega | assumption)
      repeat' refine And.intro ?_ ?_
      all_goals first | omega | exact rfl | skip
      refine hK _ ?_
      clear hK K
      clear all
      refine q_then_n ?_
      refine awp_ifB (by simp <;> rfl) ?_
      refine ⟨fun c9 => ?_, fun c9 => ?_⟩
      · try simp at c9
        refine awp_seq ?_
        refine awp_keep [0, 1, 6, 7] (by simp only [keepL_nil, keepL_cons, envOf_sel, envOf_nil, sel_t, sel_f, Nat.reduceBEq] <;> rfl) ?_
        refine awp_regionA (c := ⟨[7, 55], [], [], []⟩) (by simp only [lite_cons, lite_nil] <;> rfl) fun all hall K hK => ?_
        clear hall
        refine vcL_split 2 fun K' hK' => ?_
        simp (maxSteps := 1000000) (disch := first | omega | assumption)
        repeat' refine And.intro ?_ ?_
        all_goals first | omega | exact rfl | skip
        refine hK' _ ?_
        clear hK' K'
        simp only [List.drop_succ_cons, List.drop_zero]
        refine vcL_step fun K' hK' => ?_
        simp (maxSteps := 1000000) (disch := first | omega | assumption)
        refine Ct.mono (Ct.of_le (turn_fn (few a 10) (few b 10) _ (by omega) (by omega)) (by first | exact leArgs_of rfl | (refine leArgs_of ?_; simp; done) | (refine leArgs_of ?_; simp; rfl) | (simp [leArgs, leArg]; done)) rfl) ?_
        rintro _ _ ⟨rfl, rfl⟩
        refine hK' _ ?_
        clear hK' K'
        refine vcL_split 2 fun K' hK' => ?_
        simp (maxSteps := 1000000) (disch := first | omega | assumption)
        repeat' refine And.intro ?_ ?_
        all_goals first | omega | exact rfl | skip
        refine hK' _ ?_
        clear hK' K'
        simp only [List.drop_succ_cons, List.drop_zero]
        refine vcL_step fun K' hK' => ?_
        simp (maxSteps := 1000000) (disch := first | omega | assumption)
        refine Ct.mono (Ct.of_le (rclean_fn (few a 10) _ (by omega)) (by first | exact leArgs_of rfl | (refine leArgs_of ?_; simp; done) | (refine leArgs_of ?_; simp; rfl) | (simp [leArgs, leArg]; done)) rfl) ?_
        rintro _ _ ⟨rfl, rfl⟩
        refine hK' _ ?_
        clear hK' K'
        refine vcL_split 2 fun K' hK' => ?_
        simp (maxSteps := 1000000) (disch := first | omega | assumption)
        repeat' refine And.intro ?_ ?_
        all_goals first | omega | exact rfl | skip
        refine hK' _ ?_
        clear hK' K'
        simp only [List.drop_succ_cons, List.drop_zero]
        refine vcL_step fun K' hK' => ?_
        simp (maxSteps := 1000000) (disch := first | omega | assumption)
        refine Ct.mono (Ct.of_le (rclean_fn (few b 10) _ (by omega)) (by first | exact leArgs_of rfl | (refine leArgs_of ?_; simp; done) | (refine leArgs_of ?_; simp; rfl) | (simp [leArgs, leArg]; done)) rfl) ?_
        rintro _ _ ⟨rfl, rfl⟩
        refine hK' _ ?_
        clear hK' K'
        simp (maxSteps := 1000000) (disch := first | omega | assumption)
        repeat' refine And.intro ?_ ?_
        all_goals first | omega | exact rfl | skip
        refine hK _ ?_
        clear hK K
        clear all
        refine q_then_n ?_
        refine awp_ret ?_
        refine q_then_r ?_
        simp [endQ]
        have h1 := turn_len (few a 10) (few b 10)
        omega
      · try simp at c9
        refine awp_skip ?_
        refine q_then_n ?_
        refine awp_seq ?_
        refine awp_regionA (c := ⟨[7, 55], [], [], []⟩) (by simp only [lite_cons, lite_nil] <;> rfl) fun all hall K hK => ?_
        clear hall
        refine vcL_split 2 fun K' hK' => ?_
        simp (maxSteps := 1000000) (disch := first | omega | assumption)
        repeat' refine And.intro ?_ ?_
        all_goals first | omega | exact rfl | skip
        refine hK' _ ?_
        clear hK' K'
        simp only [List.drop_succ_cons, List.drop_zero]
        refine vcL_step fun K' hK' => ?_
        simp (maxSteps := 1000000) (disch := first | omega | assumption)
        refine Ct.mono (Ct.of_le (turn_fn (few a 10) (few b 10) _ (by omega) (by omega)) (by first | exact leArgs_of rfl | (refine leArgs_of ?_; simp; done) | (refine leArgs_of ?_; simp; rfl) | (simp [leArgs, leArg]; done)) rfl) ?_
        rintro _ _ ⟨rfl, rfl⟩
        refine hK' _ ?_
        clear hK' K'
        simp (maxSteps := 1000000) (disch := first | omega | assumption)
        repeat' refine And.intro ?_ ?_
        all_goals first | omega | exact rfl | skip
        refine hK _ ?_
        clear hK K
        clear all
        refine q_then_n ?_
        refine awp_ret ?_
        simp [endQ]
        have h1 := least_law _ _ _ hda (by assumption)
        omega

end Go.Proofs.Ythieajadepfeoaa

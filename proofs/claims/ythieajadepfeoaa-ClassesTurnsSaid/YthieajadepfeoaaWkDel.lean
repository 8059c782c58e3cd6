/- Walks: contracts of functions. Written by a program of ours out of annotations. -/
import Derived.Test.YthieajadepfeoaaWkClasses
import Derived.Test.YthieajadepfeoaaVmX6
namespace Go.Proofs.Ythieajadepfeoaa
open Go Go.Vm
set_option maxRecDepth 20000
set_option linter.all false
set_option maxHeartbeats 8000000

def idxP {α : Type} (p : α → Bool) (l : List α) : Int := match l.findIdx? p with | some k => k | none => -1
theorem idxP_at {α : Type} {p : α → Bool} {l : List α} {k : Nat} (h : k < l.length) (hh : ∀ x ∈ l.take k, p x = false) (e : p l[k] = true) : idxP p l = k := by
  have : l.findIdx? p = some k := by
    rw [List.findIdx?_eq_some_iff_getElem]
    refine ⟨h, e, fun j hj => ?_⟩
    have := hh ((l.take k)[j]'(by simp; omega)) (List.getElem_mem _)
    simpa using this
  simp [idxP, this]
theorem idxP_none {α : Type} {p : α → Bool} {l : List α} (h : ∀ x ∈ l, p x = false) : idxP p l = -1 := by
  have : l.findIdx? p = none := by
    rw [List.findIdx?_eq_none_iff]; simpa using h
  simp [idxP, this]
theorem idxP_cases {α : Type} (p : α → Bool) (l : List α) : (idxP p l = -1 ∧ l.filter (fun x => !p x) = l) ∨ ∃ k : Nat, idxP p l = k ∧ k < l.length ∧ ∀ x ∈ l.take k, p x = false := by
  unfold idxP
  split
  · rename_i k h
    rw [List.findIdx?_eq_some_iff_getElem] at h
    obtain ⟨hk, he, hn⟩ := h
    refine .inr ⟨k, rfl, hk, fun x hx => ?_⟩
    obtain ⟨j, hj, rfl⟩ := List.getElem_of_mem hx
    have := hn j (by simp at hj; omega)
    simpa using this
  · rename_i h
    rw [List.findIdx?_eq_none_iff] at h
    refine .inl ⟨rfl, ?_⟩
    rw [List.filter_eq_self]
    intro x hx; simp [h x hx]
theorem all_take {α : Type} {p : α → Bool} {l : List α} {k : Nat} (h : k < l.length) (hh : ∀ x ∈ l.take k, p x = false) (e : p l[k] = false) : ∀ x ∈ l.take (k + 1), p x = false := by
  rw [take_snoc l k h]
  intro x hx
  rcases List.mem_append.1 hx with h1 | h1
  · exact hh x h1
  · simp at h1; subst h1; exact e

-- slices.IndexFunc[[]string,string]
theorem indexFuncO_fn (l : Ls) (p : ByteArray → Bool) (f : FuncId) (caps : List D) (m cap : Nat) (rest : List D) (σ : List (List D)) (hl : l.length ≤ 9223372036854775807) (hσ : σ[m]? = some (l.map D.str ++ rest)) (hcp : ∀ d ∈ caps, d.plain = true) (hcs : caps.map D.strip = caps) (hp : ∀ x τ, Ct Try.prog f (D.str x :: caps) τ (fun r τ' => r = .bool (p x) ∧ τ' = τ)) : Ct Try.prog 95 [.slo m 0 l.length cap, .clo (.func f) [] caps] σ (fun r σ' => r = .int (idxP p l) ∧ σ' = σ) := by
  refine fn_start (rs := [.tmp 4]) Try.func95 rfl rfl Try.ntmps95 Try.results95 (by simp) ?_
  simp only [argEnv]
  refine awp_seq ?_
  refine awp_regionA (c := ⟨[], [], [], [7, 14]⟩) (by simp only [lite_cons, lite_nil] <;> rfl) fun all hall K hK => ?_
  clear hall
  simp (maxSteps := 1000000) (disch := first | omega | assumption) [hσ, hcs, row_get]
  repeat' refine And.intro ?_ ?_
  all_goals first | omega | exact rfl | skip
  refine hK _ ?_
  clear hK K
  clear all
  refine q_then_n ?_
  refine awp_seq ?_
  refine awp_seq ?_
  refine awp_regionA (c := ⟨[], [], [], [7, 14]⟩) (by simp only [lite_cons, lite_nil] <;> rfl) fun all hall K hK => ?_
  clear hall
  simp (maxSteps := 1000000) (disch := first | omega | assumption) [hσ, hcs, row_get]
  repeat' refine And.intro ?_ ?_
  all_goals first | omega | exact rfl | skip
  refine hK _ ?_
  clear hK K
  clear all
  refine q_then_n ?_
  refine awp_block ?_
  refine awp_keep [0, 1, 4, 7, 8] (by simp only [keepL_nil, keepL_cons, envOf_sel, envOf_nil, sel_t, sel_f, Nat.reduceBEq] <;> rfl) ?_
  refine awp_loopE (fun (k : Nat) => [(8, .d (.v (.int .i64 (k : Int))))]) [4, 5, 8, 9, 10, 11, 12, 13, 14, 15, 16, 17, 18] (fun (k : Nat) => k ≤ l.length ∧ ∀ x ∈ l.take k, p x = false) (fun (k : Nat) => l.length - k) (0) (by simp <;> rfl) ?_ ?_ ?_
  · simp
  · simp
  rintro k ⟨hk, hh⟩
  simp only [List.cons_append, List.nil_append]
  refine awp_seq ?_
  refine awp_regionA (c := ⟨[], [], [], [7, 14]⟩) (by simp only [lite_cons, lite_nil] <;> rfl) fun all hall K hK => ?_
  clear hall
  simp (maxSteps := 1000000) (disch := first | omega | assumption) [hσ, hcs, row_get]
  repeat' refine And.intro ?_ ?_
  all_goals first | omega | exact rfl | skip
  refine hK _ ?_
  clear hK K
  clear all
  refine q_then_n ?_
  refine awp_seq ?_
  refine awp_ifB (by simp <;> rfl) ?_
  refine ⟨fun c1 => ?_, fun c1 => ?_⟩
  · try simp at c1
    refine awp_skip ?_
    refine q_then_n ?_
    refine awp_seq ?_
    refine awp_block ?_
    refine awp_seq ?_
    refine awp_regionA (c := ⟨[], [], [], [7, 14]⟩) (by simp only [lite_cons, lite_nil] <;> rfl) fun all hall K hK => ?_
    clear hall
    simp (maxSteps := 1000000) (disch := first | omega | assumption) [hσ, hcs, row_get]
    repeat' refine And.intro ?_ ?_
    all_goals first | omega | exact rfl | skip
    refine hK _ ?_
    clear hK K
    clear all
    refine q_then_n ?_
    refine awp_seq ?_
    refine awp_regionA (c := ⟨[], [], [], [7, 14]⟩) (by simp only [lite_cons, lite_nil] <;> rfl) fun all hall K hK => ?_
    clear hall
    refine vcL_split 5 fun K' hK' => ?_
    simp (maxSteps := 1000000) (disch := first | omega | assumption) [hσ, hcs, row_get]
    repeat' refine And.intro ?_ ?_
    all_goals first | omega | exact rfl | skip
    refine hK' _ ?_
    clear hK' K'
    simp only [List.drop_succ_cons, List.drop_zero]
    refine vcL_step fun K' hK' => ?_
    simp (maxSteps := 1000000) (disch := first | omega | assumption) [hσ, hcs, row_get]
    refine ⟨hcp, ?_⟩
    refine Ct.mono (Ct.of_le (hp l[k] _) (by first | exact leArgs_of rfl | (refine leArgs_of ?_; simp; done) | (refine leArgs_of ?_; simp; rfl) | (simp [leArgs, leArg]; done)) rfl) ?_
    rintro _ _ ⟨rfl, rfl⟩
    refine hK' _ ?_
    clear hK' K'
    simp only [vcL_nil]
    refine hK _ ?_
    clear hK K
    clear all
    refine q_then_n ?_
    refine awp_ifB (by simp <;> rfl) ?_
    refine ⟨fun c2 => ?_, fun c2 => ?_⟩
    · try simp at c2
      refine awp_seq ?_
      refine awp_keep [0, 1, 5, 7, 8] (by simp only [keepL_nil, keepL_cons, envOf_sel, envOf_nil, sel_t, sel_f, Nat.reduceBEq] <;> rfl) ?_
      refine awp_regionA (c := ⟨[], [], [], [7, 14]⟩) (by simp only [lite_cons, lite_nil] <;> rfl) fun all hall K hK => ?_
      clear hall
      simp (maxSteps := 1000000) (disch := first | omega | assumption) [hσ, hcs, row_get]
      repeat' refine And.intro ?_ ?_
      all_goals first | omega | exact rfl | skip
      refine hK _ ?_
      clear hK K
      clear all
      refine q_then_n ?_
      refine awp_ret ?_
      refine q_block_r ?_
      refine q_then_r ?_
      refine q_loop_r ?_
      refine q_block_r ?_
      refine q_then_r ?_
      simp [endQ]
      exact (idxP_at c1 hh c2).symm
    · try simp at c2
      refine awp_skip ?_
      refine q_block_n ?_
      refine q_then_n ?_
      refine awp_keep [0, 1, 7, 8] (by simp only [keepL_nil, keepL_cons, envOf_sel, envOf_nil, sel_t, sel_f, Nat.reduceBEq] <;> rfl) ?_
      refine awp_regionA (c := ⟨[], [], [], [7, 14]⟩) (by simp only [lite_cons, lite_nil] <;> rfl) fun all hall K hK => ?_
      clear hall
      simp (maxSteps := 1000000) (disch := first | omega | assumption) [hσ, hcs, row_get]
      repeat' refine And.intro ?_ ?_
      all_goals first | omega | exact rfl | skip
      refine hK _ ?_
      clear hK K
      clear all
      refine q_round (k + 1) ?_ ?_ (weak_mkA rfl ?_ (by simp) (by simp))
      · exact ⟨by omega, all_take (by omega) hh c2⟩
      · try dsimp only
        omega
      · simp (maxSteps := 1000000) (disch := first | omega | assumption) [hσ, hcs, row_get]
  · try simp at c1
    refine awp_exit ?_
    refine q_then_e ?_
    refine q_loop_e ?_
    refine q_block_e ?_
    refine q_then_n ?_
    refine awp_seq ?_
    refine awp_regionA (c := ⟨[], [], [], [7, 14]⟩) (by simp only [lite_cons, lite_nil] <;> rfl) fun all hall K hK => ?_
    clear hall
    simp (maxSteps := 1000000) (disch := first | omega | assumption) [hσ, hcs, row_get]
    repeat' refine And.intro ?_ ?_
    all_goals first | omega | exact rfl | skip
    refine hK _ ?_
    clear hK K
    clear all
    refine q_then_n ?_
    refine awp_ret ?_
    simp [endQ]
    rw [List.take_of_length_le (by omega)] at hh; exact (idxP_none hh).symm

-- slices.IndexFunc[[]string,string]
theorem indexFunc0_fn (f : FuncId) (caps : List D) (σ : List (List D)) (hcp : ∀ d ∈ caps, d.plain = true) : Ct Try.prog 95 [.xl 0, .clo (.func f) [] caps] σ (fun r σ' => r = .int (-1) ∧ σ' = σ) := by
  refine fn_start (rs := [.tmp 4]) Try.func95 rfl rfl Try.ntmps95 Try.results95 (by simp) ?_
  simp only [argEnv]
  refine awp_seq ?_
  refine awp_regionA (c := ⟨[], [], [], [7]⟩) (by simp only [lite_cons, lite_nil] <;> rfl) fun all hall K hK => ?_
  clear hall
  simp (maxSteps := 1000000) (disch := first | omega | assumption)
  repeat' refine And.intro ?_ ?_
  all_goals first | omega | exact rfl | skip
  refine hK _ ?_
  clear hK K
  clear all
  refine q_then_n ?_
  refine awp_seq ?_
  refine awp_seq ?_
  refine awp_regionA (c := ⟨[], [], [], [7]⟩) (by simp only [lite_cons, lite_nil] <;> rfl) fun all hall K hK => ?_
  clear hall
  simp (maxSteps := 1000000) (disch := first | omega | assumption)
  repeat' refine And.intro ?_ ?_
  all_goals first | omega | exact rfl | skip
  refine hK _ ?_
  clear hK K
  clear all
  refine q_then_n ?_
  refine awp_block ?_
  refine awp_keep [0, 1, 4, 7, 8] (by simp only [keepL_nil, keepL_cons, envOf_sel, envOf_nil, sel_t, sel_f, Nat.reduceBEq] <;> rfl) ?_
  refine awp_loopE (fun (k : Nat) => [(8, .d (.int 0))]) [4, 5, 8, 9, 10, 11, 12, 13, 14, 15, 16, 17, 18] (fun (k : Nat) => k = 0) (fun (k : Nat) => 0) (0) (by simp <;> rfl) ?_ ?_ ?_
  · simp
  · rfl
  rintro k hk
  simp only [List.cons_append, List.nil_append]
  refine awp_seq ?_
  refine awp_regionA (c := ⟨[], [], [], [7]⟩) (by simp only [lite_cons, lite_nil] <;> rfl) fun all hall K hK => ?_
  clear hall
  simp (maxSteps := 1000000) (disch := first | omega | assumption)
  repeat' refine And.intro ?_ ?_
  all_goals first | omega | exact rfl | skip
  refine hK _ ?_
  clear hK K
  clear all
  refine q_then_n ?_
  refine awp_seq ?_
  refine awp_ifB (by simp <;> rfl) ?_
  refine ⟨fun c1 => ?_, fun c1 => ?_⟩
  · simp at c1
  · try simp at c1
    refine awp_exit ?_
    refine q_then_e ?_
    refine q_loop_e ?_
    refine q_block_e ?_
    refine q_then_n ?_
    refine awp_seq ?_
    refine awp_regionA (c := ⟨[], [], [], [7]⟩) (by simp only [lite_cons, lite_nil] <;> rfl) fun all hall K hK => ?_
    clear hall
    simp (maxSteps := 1000000) (disch := first | omega | assumption)
    repeat' refine And.intro ?_ ?_
    all_goals first | omega | exact rfl | skip
    refine hK _ ?_
    clear hK K
    clear all
    refine q_then_n ?_
    refine awp_ret ?_
    simp [endQ]

theorem row_set2 {α : Type} (f : α → D) (l : List α) (rest : List D) (i : Nat) (x : α) (h : i < l.length) : List.take i (l.map f ++ rest) ++ f x :: List.drop (i + 1) (l.map f ++ rest) = (l.set i x).map f ++ rest := by
  rw [← row_set f l rest i x h]; simp
theorem clear_take0 (p : ByteArray → Bool) (l k : Ls) (rest : List D) : List.take k.length ((k ++ l).map D.str ++ rest) = k.map D.str := by
  rw [List.map_append, List.append_assoc, List.take_append_of_le_length (by simp)]
  rw [List.take_of_length_le (by simp)]
theorem drop_row {α : Type} (f : α → D) (l : List α) (rest : List D) (n : Nat) (h : n = l.length) : List.drop n (l.map f ++ rest) = rest := by
  subst h; rw [List.drop_append_of_le_length (by simp), List.drop_eq_nil_of_le (by simp)]; rfl
theorem flat_one {α : Type} {f : α → D} (h : ∀ a, (f a).cells = [f a]) (l : List α) : (l.map f).flatMap D.cells = l.map f := by
  induction l with
  | nil => rfl
  | cons a l ih => simp only [List.map_cons, List.flatMap_cons, h a, ih]; rfl
def kp (p : ByteArray → Bool) (l : Ls) (j : Nat) : Ls := (l.take j).filter fun x => !p x
def ar (p : ByteArray → Bool) (l : Ls) (j : Nat) : Ls := kp p l j ++ l.drop (kp p l j).length
theorem kp_le (p : ByteArray → Bool) (l : Ls) (j : Nat) (h : j ≤ l.length) : (kp p l j).length ≤ j := by
  unfold kp
  have := List.length_filter_le (fun x => !p x) (l.take j)
  rw [List.length_take] at this; omega
theorem kp_lt (p : ByteArray → Bool) (l : Ls) (j : Nat) : (kp p l j).length ≤ l.length := by
  unfold kp
  have := List.length_filter_le (fun x => !p x) (l.take j)
  rw [List.length_take] at this; omega
theorem kp_succ (p : ByteArray → Bool) (l : Ls) (j : Nat) (h : j < l.length) : kp p l (j + 1) = kp p l j ++ if p l[j] = true then [] else [l[j]] := by
  unfold kp
  rw [take_snoc l j h, List.filter_append, List.filter_cons]
  by_cases e : p l[j] = true <;> simp [e]
theorem ar_len (p : ByteArray → Bool) (l : Ls) (j : Nat) : (ar p l j).length = l.length := by
  unfold ar
  have := kp_lt p l j
  rw [List.length_append, List.length_drop]; omega
theorem ar_at (p : ByteArray → Bool) (l : Ls) (j : Nat) (h : j < l.length) : (ar p l j)[j]'(by rw [ar_len]; exact h) = l[j] := by
  have hk := kp_le p l j (by omega)
  unfold ar
  rw [List.getElem_append_right (by omega), List.getElem_drop]
  congr 1; omega
theorem ar_yes (p : ByteArray → Bool) (l : Ls) (j : Nat) (h : j < l.length) (e : p l[j] = true) : ar p l (j + 1) = ar p l j ∧ kp p l (j + 1) = kp p l j := by
  have := kp_succ p l j h
  rw [if_pos e, List.append_nil] at this
  exact ⟨by unfold ar; rw [this], this⟩
theorem ar_no (p : ByteArray → Bool) (l : Ls) (j : Nat) (h : j < l.length) (e : p l[j] = false) : (ar p l j).set (kp p l j).length l[j] = ar p l (j + 1) ∧ (kp p l (j + 1)).length = (kp p l j).length + 1 := by
  have hs := kp_succ p l j h
  have hk := kp_le p l j (by omega)
  rw [if_neg (by simp [e])] at hs
  refine ⟨?_, by rw [hs]; simp⟩
  unfold ar
  rw [hs, List.length_append, List.length_singleton, List.set_append_right _ _ (Nat.le_refl _), Nat.sub_self, List.append_assoc]
  congr 1
  rw [List.drop_eq_getElem_cons (by omega)]
  rfl
theorem ar_start (p : ByteArray → Bool) (l : Ls) (k : Nat) (h : k < l.length) (hh : ∀ x ∈ l.take k, p x = false) (e : p l[k] = true) : ar p l (k + 1) = l ∧ (kp p l (k + 1)).length = k := by
  have h1 : kp p l k = l.take k := by
    unfold kp
    rw [List.filter_eq_self]
    intro x hx; simp [hh x hx]
  have h2 := (ar_yes p l k h e).2
  unfold ar
  rw [h2, h1, List.length_take, Nat.min_eq_left (by omega)]
  exact ⟨List.take_append_drop k l, rfl⟩
theorem idxP_pos {p : ByteArray → Bool} {l : Ls} (h : ¬ idxP p l = -1) : ∃ k : Nat, idxP p l = k ∧ ar p l (k + 1) = l ∧ (kp p l (k + 1)).length = k ∧ k < l.length := by
  unfold idxP at *
  split at h
  · rename_i k hf
    rw [List.findIdx?_eq_some_iff_getElem] at hf
    obtain ⟨hk, he, hn⟩ := hf
    have hh : ∀ x ∈ l.take k, p x = false := fun x hx => by
      obtain ⟨j, hj, rfl⟩ := List.getElem_of_mem hx
      have := hn j (by simp at hj; omega)
      simpa using this
    obtain ⟨a, b⟩ := ar_start p l k hk hh he
    exact ⟨k, rfl, a, b, hk⟩
  · exact absurd rfl h

-- slices.DeleteFunc[[]string,string]
theorem deleteFunc1_fn (l : Ls) (p : ByteArray → Bool) (f : FuncId) (caps : List D) (σ : List (List D)) (hl : l.length ≤ 1000000) (hne : l ≠ []) (hcp : ∀ d ∈ caps, d.plain = true) (hcs : caps.map D.strip = caps) (hp : ∀ x τ, Ct Try.prog f (D.str x :: caps) τ (fun r τ' => r = .bool (p x) ∧ τ' = τ)) : Ct Try.prog 89 [.xs 1 (l.map D.str), .clo (.func f) [] caps] σ (fun r σ' => r = .xs 1 ((l.filter fun x => !p x).map D.str) ∧ σ' = σ ++ [[]]) := by
  refine fn_start (rs := [.tmp 4]) Try.func89 rfl rfl Try.ntmps89 Try.results89 (by simp) ?_
  simp only [argEnv]
  refine awp_openX 0 1 rfl (by simpa using hne) fun cap rest hcap hcm hrest hk0 hes => ?_
  simp only [List.length_map] at hcap hrest ⊢
  rw [flat_one (f := D.str) (fun _ => rfl)]
  refine awp_seq ?_
  refine awp_regionA (c := ⟨[4, 13], [], [], [18, 24, 33, 38, 41]⟩) (by simp only [lite_cons, lite_nil] <;> rfl) fun all hall K hK => ?_
  clear hall
  simp (maxSteps := 1000000) (disch := first | omega | assumption) [hcs, row_get, row_set]
  repeat' refine And.intro ?_ ?_
  all_goals first | omega | exact rfl | skip
  refine hK _ ?_
  clear hK K
  clear all
  refine q_then_n ?_
  refine awp_seq ?_
  refine awp_regionA (c := ⟨[4, 13], [], [], [18, 24, 33, 38, 41]⟩) (by simp only [lite_cons, lite_nil] <;> rfl) fun all hall K hK => ?_
  clear hall
  refine vcL_split 2 fun K' hK' => ?_
  simp (maxSteps := 1000000) (disch := first | omega | assumption) [hcs, row_get, row_set]
  repeat' refine And.intro ?_ ?_
  all_goals first | omega | exact rfl | skip
  refine hK' _ ?_
  clear hK' K'
  simp only [List.drop_succ_cons, List.drop_zero]
  refine vcL_step fun K' hK' => ?_
  simp (maxSteps := 1000000) (disch := first | omega | assumption) [hcs, row_get, row_set]
  refine Ct.mono (Ct.of_le (indexFuncO_fn l p f caps σ.length cap rest _ (by omega) (by simp) hcp hcs hp) (by first | exact leArgs_of rfl | (refine leArgs_of ?_; simp; done) | (refine leArgs_of ?_; simp; rfl) | (simp [leArgs, leArg]; done)) rfl) ?_
  rintro _ _ ⟨rfl, rfl⟩
  refine hK' _ ?_
  clear hK' K'
  simp (maxSteps := 1000000) (disch := first | omega | assumption) [hcs, row_get, row_set]
  repeat' refine And.intro ?_ ?_
  all_goals first | omega | exact rfl | skip
  refine hK _ ?_
  clear hK K
  clear all
  refine q_then_n ?_
  refine awp_seq ?_
  refine awp_seq ?_
  refine awp_regionA (c := ⟨[4, 13], [], [], [18, 24, 33, 38, 41]⟩) (by simp only [lite_cons, lite_nil] <;> rfl) fun all hall K hK => ?_
  clear hall
  simp (maxSteps := 1000000) (disch := first | omega | assumption) [hcs, row_get, row_set]
  repeat' refine And.intro ?_ ?_
  all_goals first | omega | exact rfl | skip
  refine hK _ ?_
  clear hK K
  clear all
  refine q_then_n ?_
  refine awp_ifB (by simp <;> rfl) ?_
  refine ⟨fun c1 => ?_, fun c1 => ?_⟩
  · try simp at c1
    refine awp_seq ?_
    refine awp_regionA (c := ⟨[4, 13], [], [], [18, 24, 33, 38, 41]⟩) (by simp only [lite_cons, lite_nil] <;> rfl) fun all hall K hK => ?_
    clear hall
    simp (maxSteps := 1000000) (disch := first | omega | assumption) [hcs, row_get, row_set]
    repeat' refine And.intro ?_ ?_
    all_goals first | omega | exact rfl | skip
    refine hK _ ?_
    clear hK K
    clear all
    refine q_then_n ?_
    refine awp_closeX 4 1 σ.length l.length cap (l.map D.str) (l.map D.str ++ rest) (by simp <;> rfl) (by simp) (by simp [hne]) (by omega) (by simp [hrest]; omega) (by simp) (by simp) (by rw [flat_one (fun _ => rfl)]; exact List.prefix_append _ _) ?_
    simp only [set_last]
    refine awp_ret ?_
    refine q_then_r ?_
    simp [endQ]
    rcases idxP_cases p l with ⟨_, h⟩ | ⟨k, h, _⟩
    · rw [h]
    · omega
  · try simp at c1
    obtain ⟨k0, e0, e1, e2, e3⟩ := idxP_pos c1
    rw [e0]
    refine awp_skip ?_
    refine q_then_n ?_
    refine awp_seq ?_
    refine awp_seq ?_
    refine awp_regionA (c := ⟨[4, 13], [], [], [18, 24, 33, 38, 41]⟩) (by simp only [lite_cons, lite_nil] <;> rfl) fun all hall K hK => ?_
    clear hall
    simp (maxSteps := 1000000) (disch := first | omega | assumption) [hcs, row_get, row_set]
    repeat' refine And.intro ?_ ?_
    all_goals first | omega | exact rfl | skip
    refine hK _ ?_
    clear hK K
    clear all
    refine q_then_n ?_
    refine awp_block ?_
    refine awp_keep [0, 1, 4, 5, 6] (by simp only [keepL_nil, keepL_cons, envOf_sel, envOf_nil, sel_t, sel_f, Nat.reduceBEq] <;> rfl) ?_
    refine awp_loopM (fun (j : Nat) => [(5, .d (.v (.int .i64 ((kp p l j).length : Int)))), (6, .d (.v (.int .i64 (j : Int))))]) (fun (j : Nat) => []) (fun (j : Nat) => [(σ.length, (ar p l j).map D.str ++ rest)]) [5, 6, 7, 16, 17, 18, 19, 20, 21, 22, 23, 24, 25, 26, 27, 28, 29, 30, 31, 32, 33, 34, 35] (fun (j : Nat) => j ≤ l.length) (fun (j : Nat) => l.length - j) (k0 + 1) (by simp <;> rfl) ?_ (by simp) (by simp [e1]) ?_ ?_
    · simp [e1, e2]
    · omega
    rintro j hj
    simp only [List.cons_append, List.nil_append, setL_nil, setL_cons, List.set_cons_zero, List.set_cons_succ]
    have hkl := kp_le p l j hj
    have hal := ar_len p l j
    refine awp_seq ?_
    refine awp_seq ?_
    refine awp_regionA (c := ⟨[4, 13], [], [], [18, 24, 33, 38, 41]⟩) (by simp only [lite_cons, lite_nil] <;> rfl) fun all hall K hK => ?_
    clear hall
    simp (maxSteps := 1000000) (disch := first | omega | assumption) [hcs, row_get, row_set]
    repeat' refine And.intro ?_ ?_
    all_goals first | omega | exact rfl | skip
    refine hK _ ?_
    clear hK K
    clear all
    refine q_then_n ?_
    refine awp_ifB (by simp <;> rfl) ?_
    refine ⟨fun c2 => ?_, fun c2 => ?_⟩
    · try simp at c2
      refine awp_skip ?_
      refine q_then_n ?_
      refine awp_seq ?_
      refine awp_block ?_
      refine awp_seq ?_
      refine awp_regionA (c := ⟨[4, 13], [], [], [18, 24, 33, 38, 41]⟩) (by simp only [lite_cons, lite_nil] <;> rfl) fun all hall K hK => ?_
      clear hall
      simp (maxSteps := 1000000) (disch := first | omega | assumption) [hcs, row_get, row_set]
      repeat' refine And.intro ?_ ?_
      all_goals first | omega | exact rfl | skip
      refine hK _ ?_
      clear hK K
      clear all
      refine q_then_n ?_
      refine awp_seq ?_
      refine awp_keep [0, 1, 4, 5, 6, 7] (by simp only [keepL_nil, keepL_cons, envOf_sel, envOf_nil, sel_t, sel_f, Nat.reduceBEq] <;> rfl) ?_
      refine awp_regionA (c := ⟨[4, 13], [], [], [18, 24, 33, 38, 41]⟩) (by simp only [lite_cons, lite_nil] <;> rfl) fun all hall K hK => ?_
      clear hall
      refine vcL_split 2 fun K' hK' => ?_
      simp (maxSteps := 1000000) (disch := first | omega | assumption) [hcs, row_get, row_set]
      repeat' refine And.intro ?_ ?_
      all_goals first | omega | exact rfl | skip
      refine hK' _ ?_
      clear hK' K'
      simp only [List.drop_succ_cons, List.drop_zero]
      refine vcL_step fun K' hK' => ?_
      simp (maxSteps := 1000000) (disch := first | omega | assumption) [hcs, row_get, row_set]
      simp only [ar_at p l j (by omega)]
      refine ⟨hcp, ?_⟩
      refine Ct.mono (Ct.of_le (hp l[j] _) (by first | exact leArgs_of rfl | (refine leArgs_of ?_; simp; done) | (refine leArgs_of ?_; simp; rfl) | (simp [leArgs, leArg]; done)) rfl) ?_
      rintro _ _ ⟨rfl, rfl⟩
      refine hK' _ ?_
      clear hK' K'
      simp (maxSteps := 1000000) (disch := first | omega | assumption) [hcs, row_get, row_set]
      repeat' refine And.intro ?_ ?_
      all_goals first | omega | exact rfl | skip
      refine hK _ ?_
      clear hK K
      clear all
      refine q_then_n ?_
      refine awp_ifB (by simp <;> rfl) ?_
      refine ⟨fun c3 => ?_, fun c3 => ?_⟩
      · try simp at c3
        refine awp_seq ?_
        refine awp_regionA (c := ⟨[4, 13], [], [], [18, 24, 33, 38, 41]⟩) (by simp only [lite_cons, lite_nil] <;> rfl) fun all hall K hK => ?_
        clear hall
        simp (maxSteps := 1000000) (disch := first | omega | assumption) [hcs, row_get, row_set]
        repeat' refine And.intro ?_ ?_
        all_goals first | omega | exact rfl | skip
        refine hK _ ?_
        clear hK K
        clear all
        refine q_then_n ?_
        refine awp_keep [0, 1, 4, 5, 6] (by simp only [keepL_nil, keepL_cons, envOf_sel, envOf_nil, sel_t, sel_f, Nat.reduceBEq] <;> rfl) ?_
        refine awp_regionA (c := ⟨[4, 13], [], [], [18, 24, 33, 38, 41]⟩) (by simp only [lite_cons, lite_nil] <;> rfl) fun all hall K hK => ?_
        clear hall
        simp (maxSteps := 1000000) (disch := first | omega | assumption) [hcs, row_get, row_set]
        repeat' refine And.intro ?_ ?_
        all_goals first | omega | exact rfl | skip
        refine hK _ ?_
        clear hK K
        clear all
        refine q_block_n ?_
        refine q_then_n ?_
        refine awp_regionA (c := ⟨[4, 13], [], [], [18, 24, 33, 38, 41]⟩) (by simp only [lite_cons, lite_nil] <;> rfl) fun all hall K hK => ?_
        clear hall
        simp (maxSteps := 1000000) (disch := first | omega | assumption) [hcs, row_get, row_set]
        repeat' refine And.intro ?_ ?_
        all_goals first | omega | exact rfl | skip
        refine hK _ ?_
        clear hK K
        clear all
        refine q_round (j + 1) ?_ ?_ (weak_mkA rfl ?_ (by simp) (by rw [← (ar_no p l j (by omega) c3).1]; simp (disch := omega) [row_set2, hal]))
        · omega
        · try dsimp only
          omega
        · simp (maxSteps := 1000000) (disch := first | omega | assumption) [hcs, row_get, row_set, (ar_no p l j (by omega) c3).2]
      · try simp at c3
        refine awp_skip ?_
        refine q_block_n ?_
        refine q_then_n ?_
        refine awp_regionA (c := ⟨[4, 13], [], [], [18, 24, 33, 38, 41]⟩) (by simp only [lite_cons, lite_nil] <;> rfl) fun all hall K hK => ?_
        clear hall
        simp (maxSteps := 1000000) (disch := first | omega | assumption) [hcs, row_get, row_set]
        repeat' refine And.intro ?_ ?_
        all_goals first | omega | exact rfl | skip
        refine hK _ ?_
        clear hK K
        clear all
        refine q_round (j + 1) ?_ ?_ (weak_mkA rfl ?_ (by simp) (by simp [(ar_yes p l j (by omega) c3).1]))
        · omega
        · try dsimp only
          omega
        · simp (maxSteps := 1000000) (disch := first | omega | assumption) [hcs, row_get, row_set, (ar_yes p l j (by omega) c3).2]
    · try simp at c2
      refine awp_exit ?_
      refine q_then_e ?_
      refine q_loop_e ?_
      refine q_block_e ?_
      refine q_then_n ?_
      refine awp_seq ?_
      refine awp_regionA (c := ⟨[4, 13], [], [], [18, 24, 33, 38, 41]⟩) (by simp only [lite_cons, lite_nil] <;> rfl) fun all hall K hK => ?_
      clear hall
      simp (maxSteps := 1000000) (disch := first | omega | assumption) [hcs, row_get, row_set]
      repeat' refine And.intro ?_ ?_
      all_goals first | omega | exact rfl | skip
      refine hK _ ?_
      clear hK K
      clear all
      refine q_then_n ?_
      refine awp_seq ?_
      refine awp_keep [0, 4, 5] (by simp only [keepL_nil, keepL_cons, envOf_sel, envOf_nil, sel_t, sel_f, Nat.reduceBEq] <;> rfl) ?_
      refine awp_regionA (c := ⟨[4, 13], [], [], [18, 24, 33, 38, 41]⟩) (by simp only [lite_cons, lite_nil] <;> rfl) fun all hall K hK => ?_
      clear hall
      simp (maxSteps := 1000000) (disch := first | omega | assumption) [hcs, row_get, row_set]
      repeat' refine And.intro ?_ ?_
      all_goals first | omega | exact rfl | skip
      refine hK _ ?_
      clear hK K
      clear all
      refine q_then_n ?_
      refine awp_closeX 4 1 σ.length (kp p l j).length cap ((kp p l j).map D.str) ((kp p l j).map D.str ++ (zerosD #[.string ⟨#[]⟩] (l.length - (kp p l j).length) ++ rest)) (by simp <;> rfl) (by rw [show List.map D.str (kp p l j) = List.take (kp p l j).length (List.map D.str (ar p l j) ++ rest) from (clear_take0 p _ _ rest).symm]; simp [drop_row D.str (ar p l j) rest l.length hal.symm]) (by intro e; have h9 := congrArg List.length e; rw [List.length_append, List.length_append, zerosD_len (k := 1) rfl, List.length_map] at h9; simp only [List.length_nil] at h9; omega) (by omega) (by simp [hrest]; omega) (by simp) (by simp) (by rw [flat_one (fun _ => rfl)]; exact List.prefix_append _ _) ?_
      simp only [set_last]
      refine awp_ret ?_
      simp [endQ]
      unfold kp; rw [List.take_of_length_le (by omega)]

-- slices.DeleteFunc[[]string,string]
theorem deleteFunc0_fn (f : FuncId) (caps : List D) (σ : List (List D)) (hcp : ∀ d ∈ caps, d.plain = true) : Ct Try.prog 89 [.xs 1 [], .clo (.func f) [] caps] σ (fun r σ' => r = .xs 1 [] ∧ σ' = σ) := by
  refine fn_start (rs := [.tmp 4]) Try.func89 rfl rfl Try.ntmps89 Try.results89 (by simp) ?_
  simp only [argEnv]
  refine awp_seq ?_
  refine awp_regionA (c := ⟨[4, 13], [], [], []⟩) (by simp only [lite_cons, lite_nil] <;> rfl) fun all hall K hK => ?_
  clear hall
  simp (maxSteps := 1000000) (disch := first | omega | assumption)
  repeat' refine And.intro ?_ ?_
  all_goals first | omega | exact rfl | skip
  refine hK _ ?_
  clear hK K
  clear all
  refine q_then_n ?_
  refine awp_seq ?_
  refine awp_regionA (c := ⟨[4, 13], [], [], []⟩) (by simp only [lite_cons, lite_nil] <;> rfl) fun all hall K hK => ?_
  clear hall
  refine vcL_split 2 fun K' hK' => ?_
  simp (maxSteps := 1000000) (disch := first | omega | assumption)
  repeat' refine And.intro ?_ ?_
  all_goals first | omega | exact rfl | skip
  refine hK' _ ?_
  clear hK' K'
  simp only [List.drop_succ_cons, List.drop_zero]
  refine vcL_step fun K' hK' => ?_
  simp (maxSteps := 1000000) (disch := first | omega | assumption)
  refine Ct.mono (Ct.of_le (indexFunc0_fn f caps _ hcp) (by first | exact leArgs_of rfl | (refine leArgs_of ?_; simp; done) | (refine leArgs_of ?_; simp; rfl) | (simp [leArgs, leArg]; done)) rfl) ?_
  rintro _ _ ⟨rfl, rfl⟩
  refine hK' _ ?_
  clear hK' K'
  simp (maxSteps := 1000000) (disch := first | omega | assumption)
  repeat' refine And.intro ?_ ?_
  all_goals first | omega | exact rfl | skip
  refine hK _ ?_
  clear hK K
  clear all
  refine q_then_n ?_
  refine awp_seq ?_
  refine awp_seq ?_
  refine awp_regionA (c := ⟨[4, 13], [], [], []⟩) (by simp only [lite_cons, lite_nil] <;> rfl) fun all hall K hK => ?_
  clear hall
  simp (maxSteps := 1000000) (disch := first | omega | assumption)
  repeat' refine And.intro ?_ ?_
  all_goals first | omega | exact rfl | skip
  refine hK _ ?_
  clear hK K
  clear all
  refine q_then_n ?_
  refine awp_ifB (by simp <;> rfl) ?_
  refine ⟨fun c1 => ?_, fun c1 => ?_⟩
  · try simp at c1
    refine awp_seq ?_
    refine awp_regionA (c := ⟨[4, 13], [], [], []⟩) (by simp only [lite_cons, lite_nil] <;> rfl) fun all hall K hK => ?_
    clear hall
    simp (maxSteps := 1000000) (disch := first | omega | assumption)
    repeat' refine And.intro ?_ ?_
    all_goals first | omega | exact rfl | skip
    refine hK _ ?_
    clear hK K
    clear all
    refine q_then_n ?_
    refine awp_ret ?_
    refine q_then_r ?_
    simp (maxSteps := 1000000) (disch := first | omega | assumption) [endQ]
  · simp at c1

theorem sc_strs (N : Nat) (l : Ls) : Sc N (.xs 1 (l.map D.str)) := Sc.xs fun d hd e he => by
  obtain ⟨a, _, rfl⟩ := List.mem_map.1 hd
  simp [D.cells] at he
  subst he
  exact Sc.v _
theorem deleteFunc_fn (l : Ls) (p : ByteArray → Bool) (f : FuncId) (caps : List D) (σ : List (List D)) (hl : l.length ≤ 1000000) (hcp : ∀ d ∈ caps, d.plain = true) (hcs : caps.map D.strip = caps) (hp : ∀ x τ, Ct Try.prog f (D.str x :: caps) τ (fun r τ' => r = .bool (p x) ∧ τ' = τ)) :
    Ct Try.prog 89 [.xs 1 (l.map D.str), .clo (.func f) [] caps] σ (fun r σ' => r = .xs 1 ((l.filter fun x => !p x).map D.str) ∧ σ' = σ) := by
  by_cases hne : l = []
  · subst hne; exact deleteFunc0_fn f caps σ hcp
  · exact (deleteFunc1_fn l p f caps σ hl hne hcp hcs hp).trim fun r σ' ⟨hr, hs⟩ => ⟨σ, [[]], hs, rfl, by rw [hr]; exact sc_strs _ _, fun n cs h => .inl h, hr, rfl⟩

-- slices.Clone[[]string,string]
theorem cloneX0_fn (l : Ls) (σ : List (List D)) (hl : l.length ≤ 1000000) : Ct Try.prog 67 [dl l] σ (fun r σ' => baseX 1 (l.map D.str) r ∧ σ' = σ) := by
  refine fn_start (rs := [.tmp 2]) Try.func67 rfl rfl Try.ntmps67 Try.results67 (by simp) ?_
  simp only [argEnv]
  refine awp_seq ?_
  refine awp_regionA (c := ⟨[2], [], [], [7]⟩) (by simp only [lite_cons, lite_nil] <;> rfl) fun all hall K hK => ?_
  clear hall
  simp (maxSteps := 1000000) (disch := first | omega | assumption)
  repeat' refine And.intro ?_ ?_
  all_goals first | omega | exact rfl | skip
  refine hK _ ?_
  clear hK K
  clear all
  refine q_then_n ?_
  refine awp_seq ?_
  refine awp_seq ?_
  refine awp_regionA (c := ⟨[2], [], [], [7]⟩) (by simp only [lite_cons, lite_nil] <;> rfl) fun all hall K hK => ?_
  clear hall
  refine vcL_split 1 fun K' hK' => ?_
  simp (maxSteps := 1000000) (disch := first | omega | assumption)
  repeat' refine And.intro ?_ ?_
  all_goals first | omega | exact rfl | skip
  refine hK' _ ?_
  clear hK' K'
  simp only [List.drop_succ_cons, List.drop_zero]
  refine vcL_step fun K' hK' => ?_
  simp (maxSteps := 1000000) (disch := first | omega | assumption)
  refine ⟨hK' _ ?_, fun e1 => hK' _ ?_⟩
  · clear hK' K'
    simp only [vcL_nil]
    refine hK _ ?_
    clear hK K
    clear all
    refine q_then_n ?_
    refine awp_cond (t := false) (by simp) (fun h => by cases h) (fun _ => ?_)
    refine awp_skip ?_
    refine q_then_n ?_
    refine awp_seq ?_
    refine awp_regionA (c := ⟨[2], [], [], [7]⟩) (by simp only [lite_cons, lite_nil] <;> rfl) fun all hall K hK => ?_
    clear hall
    simp (maxSteps := 1000000) (disch := first | omega | assumption)
    repeat' refine And.intro ?_ ?_
    all_goals first | omega | exact rfl | skip
    refine hK _ ?_
    clear hK K
    clear all
    refine q_then_n ?_
    refine awp_ret ?_
    simp [endQ, baseX]
  · clear hK' K'
    simp only [vcL_nil]
    refine hK _ ?_
    clear hK K
    clear all
    refine q_then_n ?_
    refine awp_cond (t := true) (by simp) (fun _ => ?_) (fun h => by cases h)
    refine awp_seq ?_
    refine awp_regionA (c := ⟨[2], [], [], [7]⟩) (by simp only [lite_cons, lite_nil] <;> rfl) fun all hall K hK => ?_
    clear hall
    simp (maxSteps := 1000000) (disch := first | omega | assumption)
    repeat' refine And.intro ?_ ?_
    all_goals first | omega | exact rfl | skip
    refine hK _ ?_
    clear hK K
    clear all
    refine q_then_n ?_
    refine awp_ret ?_
    refine q_then_r ?_
    simp [endQ, baseX, e1]

theorem cloneX_fn (l : Ls) (σ : List (List D)) (hl : l.length ≤ 1000000) : Ct Try.prog 67 [dl l] σ (fun r σ' => r = .xs 1 (l.map D.str) ∧ σ' = σ) := (cloneX0_fn l σ hl).toX fun _ _ h => h

-- scrim/classes.without
theorem without_fn (l : Ls) (p : ByteArray → Bool) (f : FuncId) (caps : List D) (σ : List (List D)) (hl : l.length ≤ 1000000) (hcp : ∀ d ∈ caps, d.plain = true) (hcs : caps.map D.strip = caps) (hp : ∀ x τ, Ct Try.prog f (D.str x :: caps) τ (fun r τ' => r = .bool (p x) ∧ τ' = τ)) : Ct Try.prog 68 [dl l, .clo (.func f) [] caps] σ (fun r σ' => r = .xs 1 ((l.filter fun x => !p x).map D.str) ∧ σ' = σ) := by
  refine fn_start (rs := [.tmp 4]) Try.func68 rfl rfl Try.ntmps68 Try.results68 (by simp) ?_
  simp only [argEnv]
  refine awp_seq ?_
  refine awp_regionA (c := ⟨[4, 7, 8], [], [], []⟩) (by simp only [lite_cons, lite_nil] <;> rfl) fun all hall K hK => ?_
  clear hall
  simp (maxSteps := 1000000) (disch := first | omega | assumption)
  repeat' refine And.intro ?_ ?_
  all_goals first | omega | exact rfl | skip
  refine hK _ ?_
  clear hK K
  clear all
  refine q_then_n ?_
  refine awp_seq ?_
  refine awp_regionA (c := ⟨[4, 7, 8], [], [], []⟩) (by simp only [lite_cons, lite_nil] <;> rfl) fun all hall K hK => ?_
  clear hall
  refine vcL_split 1 fun K' hK' => ?_
  simp (maxSteps := 1000000) (disch := first | omega | assumption)
  repeat' refine And.intro ?_ ?_
  all_goals first | omega | exact rfl | skip
  refine hK' _ ?_
  clear hK' K'
  simp only [List.drop_succ_cons, List.drop_zero]
  refine vcL_step fun K' hK' => ?_
  simp (maxSteps := 1000000) (disch := first | omega | assumption)
  refine Ct.mono (Ct.of_le (cloneX_fn l _ hl) (by first | exact leArgs_of rfl | (refine leArgs_of ?_; simp; done) | (refine leArgs_of ?_; simp; rfl) | (simp [leArgs, leArg]; done)) rfl) ?_
  rintro _ _ ⟨rfl, rfl⟩
  refine hK' _ ?_
  clear hK' K'
  refine vcL_split 1 fun K' hK' => ?_
  simp (maxSteps := 1000000) (disch := first | omega | assumption)
  repeat' refine And.intro ?_ ?_
  all_goals first | omega | exact rfl | skip
  refine hK' _ ?_
  clear hK' K'
  simp only [List.drop_succ_cons, List.drop_zero]
  refine vcL_step fun K' hK' => ?_
  simp (maxSteps := 1000000) (disch := first | omega | assumption)
  refine Ct.mono (Ct.of_le (deleteFunc_fn l p f caps _ hl hcp hcs hp) (by first | exact leArgs_of rfl | (refine leArgs_of ?_; simp; done) | (refine leArgs_of ?_; simp; rfl) | (simp [leArgs, leArg]; done)) rfl) ?_
  rintro _ _ ⟨rfl, rfl⟩
  refine hK' _ ?_
  clear hK' K'
  simp (maxSteps := 1000000) (disch := first | omega | assumption)
  repeat' refine And.intro ?_ ?_
  all_goals first | omega | exact rfl | skip
  refine hK _ ?_
  clear hK K
  clear all
  refine q_then_n ?_
  refine awp_ret ?_
  simp (maxSteps := 1000000) (disch := first | omega | assumption) [endQ]

-- scrim/classes.Drop$1
theorem drop1_fn (x c : ByteArray) (σ : List (List D))  : Ct Try.prog 69 [D.str x, .adr [D.str c]] σ (fun r σ' => r = .bool (decide (x = c)) ∧ σ' = σ) := by
  refine fn_start (rs := [.tmp 3]) Try.func69 rfl rfl Try.ntmps69 Try.results69 (by simp) ?_
  simp only [argEnv]
  refine awp_seq ?_
  refine awp_regionA (c := ⟨[], [], [], []⟩) (by simp only [lite_cons, lite_nil] <;> rfl) fun all hall K hK => ?_
  clear hall
  simp (maxSteps := 1000000) (disch := first | omega | assumption)
  repeat' refine And.intro ?_ ?_
  all_goals first | omega | exact rfl | skip
  refine hK _ ?_
  clear hK K
  clear all
  refine q_then_n ?_
  refine awp_seq ?_
  refine awp_regionA (c := ⟨[], [], [], []⟩) (by simp only [lite_cons, lite_nil] <;> rfl) fun all hall K hK => ?_
  clear hall
  simp (maxSteps := 1000000) (disch := first | omega | assumption)
  repeat' refine And.intro ?_ ?_
  all_goals first | omega | exact rfl | skip
  refine hK _ ?_
  clear hK K
  clear all
  refine q_then_n ?_
  refine awp_ret ?_
  simp (maxSteps := 1000000) (disch := first | omega | assumption) [endQ]

-- scrim/classes.Drop
theorem cdropX_fn (l : Ls) (c : ByteArray) (σ : List (List D)) (hl : l.length ≤ 1000000) : Ct Try.prog 36 [dl l, D.str c] σ (fun r σ' => r = .xs 1 ((dropL l c).map D.str) ∧ σ' = σ) := by
  refine fn_start (rs := [.tmp 4]) Try.func36 rfl rfl Try.ntmps36 Try.results36 (by simp) ?_
  simp only [argEnv]
  refine awp_seq ?_
  refine awp_regionA (c := ⟨[4], [3], [], []⟩) (by simp only [lite_cons, lite_nil] <;> rfl) fun all hall K hK => ?_
  clear hall
  simp (maxSteps := 1000000) (disch := first | omega | assumption)
  repeat' refine And.intro ?_ ?_
  all_goals first | omega | exact rfl | skip
  refine hK _ ?_
  clear hK K
  clear all
  refine q_then_n ?_
  refine awp_seq ?_
  refine awp_regionA (c := ⟨[4], [3], [], []⟩) (by simp only [lite_cons, lite_nil] <;> rfl) fun all hall K hK => ?_
  clear hall
  refine vcL_split 2 fun K' hK' => ?_
  simp (maxSteps := 1000000) (disch := first | omega | assumption)
  repeat' refine And.intro ?_ ?_
  all_goals first | omega | exact rfl | skip
  refine hK' _ ?_
  clear hK' K'
  simp only [List.drop_succ_cons, List.drop_zero]
  refine vcL_step fun K' hK' => ?_
  simp (maxSteps := 1000000) (disch := first | omega | assumption)
  refine Ct.mono (Ct.of_le (without_fn l (fun x => decide (x = c)) 69 [.adr [D.str c]] _ hl (by simp) (by simp) (fun x τ => drop1_fn x c τ)) (by first | exact leArgs_of rfl | (refine leArgs_of ?_; simp; done) | (refine leArgs_of ?_; simp; rfl) | (simp [leArgs, leArg]; done)) rfl) ?_
  rintro _ _ ⟨rfl, rfl⟩
  refine hK' _ ?_
  clear hK' K'
  simp (maxSteps := 1000000) (disch := first | omega | assumption)
  repeat' refine And.intro ?_ ?_
  all_goals first | omega | exact rfl | skip
  refine hK _ ?_
  clear hK K
  clear all
  refine q_then_n ?_
  refine awp_ret ?_
  simp [endQ, dropL]

theorem cdrop_fn (l : Ls) (c : ByteArray) (σ : List (List D)) (hl : l.length ≤ 1000000) : Ct Try.prog 36 [dl l, D.str c] σ (fun r σ' => r = dl (dropL l c) ∧ σ' = σ) := (cdropX_fn l c σ hl).freeze fun _ _ h => h
def pre2 (s : ByteArray) : Bool := decide (2 ≤ s.size) && decide (s.extract 0 2 = ⟨#[116, 45]⟩)
def mineL (l : Ls) : Ls := l.filter fun x => !pre2 x

-- internal/stringslite.HasPrefix
theorem slPrefix_fn (s : ByteArray) (σ : List (List D))  : Ct Try.prog 90 [D.str s, D.str ⟨#[116, 45]⟩] σ (fun r σ' => r = .bool (pre2 s) ∧ σ' = σ) := by
  have h2 : (⟨#[116, 45]⟩ : ByteArray).size = 2 := rfl
  refine fn_start (rs := [.tmp 4]) Try.func90 rfl rfl Try.ntmps90 Try.results90 (by simp) ?_
  simp only [argEnv]
  refine awp_seq ?_
  refine awp_regionA (c := ⟨[], [], [], []⟩) (by simp only [lite_cons, lite_nil] <;> rfl) fun all hall K hK => ?_
  clear hall
  simp (maxSteps := 1000000) (disch := first | omega | assumption)
  repeat' refine And.intro ?_ ?_
  all_goals first | omega | exact rfl | skip
  refine hK _ ?_
  clear hK K
  clear all
  refine q_then_n ?_
  refine awp_seq ?_
  refine awp_regionA (c := ⟨[], [], [], []⟩) (by simp only [lite_cons, lite_nil] <;> rfl) fun all hall K hK => ?_
  have ga5 : guardOf all 5 = some 10 := hall 5
  clear hall
  refine vcL_split 6 fun K' hK' => ?_
  simp (maxSteps := 1000000) (disch := first | omega | assumption) [ga5]
  repeat' refine And.intro ?_ ?_
  all_goals first | omega | exact rfl | skip
  refine hK' _ ?_
  clear hK' K'
  simp only [List.drop_succ_cons, List.drop_zero]
  refine vcL_bool 10 (by simp <;> rfl) ?_
  refine ⟨fun g1 => ?_, fun g1 => ?_⟩
  · try simp at g1
    simp (maxSteps := 1000000) (disch := first | omega | assumption) [ga5]
    repeat' refine And.intro ?_ ?_
    all_goals first | omega | exact rfl | skip
    refine hK _ ?_
    clear hK K
    clear ga5
    clear all
    refine q_then_n ?_
    refine awp_ret ?_
    first | (simp only [endQ, h2] at *; simp [endQ, pre2, *, h2]; done) | (simp [endQ, pre2, h2]; intro h; omega)
  · try simp at g1
    simp (maxSteps := 1000000) (disch := first | omega | assumption) [ga5]
    repeat' refine And.intro ?_ ?_
    all_goals first | omega | exact rfl | skip
    refine hK _ ?_
    clear hK K
    clear ga5
    clear all
    refine q_then_n ?_
    refine awp_ret ?_
    first | (simp only [endQ, h2] at *; simp [endQ, pre2, *, h2]; done) | (simp [endQ, pre2, h2]; intro h; omega)

-- strings.HasPrefix
theorem hasPrefix_fn (s : ByteArray) (σ : List (List D))  : Ct Try.prog 71 [D.str s, D.str ⟨#[116, 45]⟩] σ (fun r σ' => r = .bool (pre2 s) ∧ σ' = σ) := by
  refine fn_start (rs := [.tmp 4]) Try.func71 rfl rfl Try.ntmps71 Try.results71 (by simp) ?_
  simp only [argEnv]
  refine awp_seq ?_
  refine awp_regionA (c := ⟨[], [], [], []⟩) (by simp only [lite_cons, lite_nil] <;> rfl) fun all hall K hK => ?_
  clear hall
  simp (maxSteps := 1000000) (disch := first | omega | assumption)
  repeat' refine And.intro ?_ ?_
  all_goals first | omega | exact rfl | skip
  refine hK _ ?_
  clear hK K
  clear all
  refine q_then_n ?_
  refine awp_seq ?_
  refine awp_regionA (c := ⟨[], [], [], []⟩) (by simp only [lite_cons, lite_nil] <;> rfl) fun all hall K hK => ?_
  clear hall
  refine vcL_split 2 fun K' hK' => ?_
  simp (maxSteps := 1000000) (disch := first | omega | assumption)
  repeat' refine And.intro ?_ ?_
  all_goals first | omega | exact rfl | skip
  refine hK' _ ?_
  clear hK' K'
  simp only [List.drop_succ_cons, List.drop_zero]
  refine vcL_step fun K' hK' => ?_
  simp (maxSteps := 1000000) (disch := first | omega | assumption)
  refine Ct.mono (Ct.of_le (slPrefix_fn s _) (by first | exact leArgs_of rfl | (refine leArgs_of ?_; simp; done) | (refine leArgs_of ?_; simp; rfl) | (simp [leArgs, leArg]; done)) rfl) ?_
  rintro _ _ ⟨rfl, rfl⟩
  refine hK' _ ?_
  clear hK' K'
  simp (maxSteps := 1000000) (disch := first | omega | assumption)
  repeat' refine And.intro ?_ ?_
  all_goals first | omega | exact rfl | skip
  refine hK _ ?_
  clear hK K
  clear all
  refine q_then_n ?_
  refine awp_ret ?_
  simp (maxSteps := 1000000) (disch := first | omega | assumption) [endQ]

-- scrim/classes.Mine$1
theorem mine1_fn (s : ByteArray) (σ : List (List D))  : Ct Try.prog 70 [D.str s] σ (fun r σ' => r = .bool (pre2 s) ∧ σ' = σ) := by
  refine fn_start (rs := [.tmp 2]) Try.func70 rfl rfl Try.ntmps70 Try.results70 (by simp) ?_
  simp only [argEnv]
  refine awp_seq ?_
  refine awp_regionA (c := ⟨[], [], [], []⟩) (by simp only [lite_cons, lite_nil] <;> rfl) fun all hall K hK => ?_
  clear hall
  simp (maxSteps := 1000000) (disch := first | omega | assumption)
  repeat' refine And.intro ?_ ?_
  all_goals first | omega | exact rfl | skip
  refine hK _ ?_
  clear hK K
  clear all
  refine q_then_n ?_
  refine awp_seq ?_
  refine awp_regionA (c := ⟨[], [], [], []⟩) (by simp only [lite_cons, lite_nil] <;> rfl) fun all hall K hK => ?_
  clear hall
  refine vcL_split 1 fun K' hK' => ?_
  simp (maxSteps := 1000000) (disch := first | omega | assumption)
  repeat' refine And.intro ?_ ?_
  all_goals first | omega | exact rfl | skip
  refine hK' _ ?_
  clear hK' K'
  simp only [List.drop_succ_cons, List.drop_zero]
  refine vcL_step fun K' hK' => ?_
  simp (maxSteps := 1000000) (disch := first | omega | assumption)
  refine Ct.mono (Ct.of_le (hasPrefix_fn s _) (by first | exact leArgs_of rfl | (refine leArgs_of ?_; simp; done) | (refine leArgs_of ?_; simp; rfl) | (simp [leArgs, leArg]; done)) rfl) ?_
  rintro _ _ ⟨rfl, rfl⟩
  refine hK' _ ?_
  clear hK' K'
  simp (maxSteps := 1000000) (disch := first | omega | assumption)
  repeat' refine And.intro ?_ ?_
  all_goals first | omega | exact rfl | skip
  refine hK _ ?_
  clear hK K
  clear all
  refine q_then_n ?_
  refine awp_ret ?_
  simp (maxSteps := 1000000) (disch := first | omega | assumption) [endQ]

-- scrim/classes.Mine
theorem cmineX_fn (l : Ls) (σ : List (List D)) (hl : l.length ≤ 1000000) : Ct Try.prog 38 [dl l] σ (fun r σ' => r = .xs 1 ((mineL l).map D.str) ∧ σ' = σ) := by
  refine fn_start (rs := [.tmp 2]) Try.func38 rfl rfl Try.ntmps38 Try.results38 (by simp) ?_
  simp only [argEnv]
  refine awp_seq ?_
  refine awp_regionA (c := ⟨[2], [], [], []⟩) (by simp only [lite_cons, lite_nil] <;> rfl) fun all hall K hK => ?_
  clear hall
  simp (maxSteps := 1000000) (disch := first | omega | assumption)
  repeat' refine And.intro ?_ ?_
  all_goals first | omega | exact rfl | skip
  refine hK _ ?_
  clear hK K
  clear all
  refine q_then_n ?_
  refine awp_seq ?_
  refine awp_regionA (c := ⟨[2], [], [], []⟩) (by simp only [lite_cons, lite_nil] <;> rfl) fun all hall K hK => ?_
  clear hall
  refine vcL_split 1 fun K' hK' => ?_
  simp (maxSteps := 1000000) (disch := first | omega | assumption)
  repeat' refine And.intro ?_ ?_
  all_goals first | omega | exact rfl | skip
  refine hK' _ ?_
  clear hK' K'
  simp only [List.drop_succ_cons, List.drop_zero]
  refine vcL_step fun K' hK' => ?_
  simp (maxSteps := 1000000) (disch := first | omega | assumption)
  refine Ct.mono (Ct.of_le (without_fn l pre2 70 [] _ hl (by simp) rfl (fun x τ => mine1_fn x τ)) (by first | exact leArgs_of rfl | (refine leArgs_of ?_; simp; done) | (refine leArgs_of ?_; simp; rfl) | (simp [leArgs, leArg]; done)) rfl) ?_
  rintro _ _ ⟨rfl, rfl⟩
  refine hK' _ ?_
  clear hK' K'
  simp (maxSteps := 1000000) (disch := first | omega | assumption)
  repeat' refine And.intro ?_ ?_
  all_goals first | omega | exact rfl | skip
  refine hK _ ?_
  clear hK K
  clear all
  refine q_then_n ?_
  refine awp_ret ?_
  simp [endQ, mineL]

theorem cmine_fn (l : Ls) (σ : List (List D)) (hl : l.length ≤ 1000000) : Ct Try.prog 38 [dl l] σ (fun r σ' => r = dl (mineL l) ∧ σ' = σ) := (cmineX_fn l σ hl).freeze fun _ _ h => h
theorem mine_take (l : Ls) (k : Nat) (h : k < l.length) : mineL (l.take (k + 1)) = mineL (l.take k) ++ if pre2 l[k] = true then [] else [l[k]] := by
  unfold mineL
  rw [take_snoc l k h, List.filter_append, List.filter_cons]
  by_cases e : pre2 l[k] = true <;> simp [e]
theorem mine_len (l : Ls) : (mineL l).length ≤ l.length := List.length_filter_le _ _
theorem pre2_no (s : ByteArray) (h : s.size < 2 ∨ ¬ s.extract 0 2 = ⟨#[116, 45]⟩) : pre2 s = false := by
  unfold pre2
  rcases h with h | h
  · simp; intro h'; omega
  · simp [h]
theorem pre2_yes (s : ByteArray) (h : ¬ s.size < 2) (h2 : s.extract 0 2 = ⟨#[116, 45]⟩) : pre2 s = true := by
  unfold pre2; simp [h2]; omega

-- scrim/scrimref03.Mine
theorem rmine_fn (l : Ls) (σ : List (List D)) (hl : l.length ≤ 1000000) : Ct Try.prog 39 [dl l] σ (fun r σ' => r = dlo (mineL l) ∧ σ' = σ) := by
  refine fn_start (rs := [.tmp 2]) Try.func39 rfl rfl Try.ntmps39 Try.results39 (by simp) ?_
  simp only [argEnv]
  refine awp_seq ?_
  refine awp_regionA (c := ⟨[2, 3, 21, 26], [], [], []⟩) (by simp only [lite_cons, lite_nil] <;> rfl) fun all hall K hK => ?_
  clear hall
  simp (maxSteps := 1000000) (disch := first | omega | assumption)
  repeat' refine And.intro ?_ ?_
  all_goals first | omega | exact rfl | skip
  refine hK _ ?_
  clear hK K
  clear all
  refine q_then_n ?_
  refine awp_seq ?_
  refine awp_regionA (c := ⟨[2, 3, 21, 26], [], [], []⟩) (by simp only [lite_cons, lite_nil] <;> rfl) fun all hall K hK => ?_
  clear hall
  simp (maxSteps := 1000000) (disch := first | omega | assumption)
  repeat' refine And.intro ?_ ?_
  all_goals first | omega | exact rfl | skip
  refine hK _ ?_
  clear hK K
  clear all
  refine q_then_n ?_
  refine awp_seq ?_
  refine awp_seq ?_
  refine awp_regionA (c := ⟨[2, 3, 21, 26], [], [], []⟩) (by simp only [lite_cons, lite_nil] <;> rfl) fun all hall K hK => ?_
  clear hall
  simp (maxSteps := 1000000) (disch := first | omega | assumption)
  repeat' refine And.intro ?_ ?_
  all_goals first | omega | exact rfl | skip
  refine hK _ ?_
  clear hK K
  clear all
  refine q_then_n ?_
  refine awp_block ?_
  refine awp_keep [2, 3, 7, 8, 9] (by simp only [keepL_nil, keepL_cons, envOf_sel, envOf_nil, sel_t, sel_f, Nat.reduceBEq] <;> rfl) ?_
  refine awp_loopE (fun (k : Nat) => [(9, .d (.int k)), (3, .d (dlo (mineL (l.take k))))]) [3, 5, 9, 10, 11, 12, 13, 14, 15, 16, 17, 18, 19, 20, 21, 22, 23, 24, 25] (fun (k : Nat) => k ≤ l.length) (fun (k : Nat) => l.length - k) (0) (by simp <;> rfl) ?_ ?_ ?_
  · simp [mineL]
  · simp
  rintro k hk
  simp only [List.cons_append, List.nil_append]
  have hcl := mine_len (l.take k)
  simp only [List.length_take] at hcl
  refine awp_seq ?_
  refine awp_regionA (c := ⟨[2, 3, 21, 26], [], [], []⟩) (by simp only [lite_cons, lite_nil] <;> rfl) fun all hall K hK => ?_
  clear hall
  simp (maxSteps := 1000000) (disch := first | omega | assumption)
  repeat' refine And.intro ?_ ?_
  all_goals first | omega | exact rfl | skip
  refine hK _ ?_
  clear hK K
  clear all
  refine q_then_n ?_
  refine awp_seq ?_
  refine awp_ifB (by simp <;> rfl) ?_
  refine ⟨fun c1 => ?_, fun c1 => ?_⟩
  · try simp at c1
    refine awp_skip ?_
    refine q_then_n ?_
    refine awp_seq ?_
    refine awp_block ?_
    refine awp_seq ?_
    refine awp_regionA (c := ⟨[2, 3, 21, 26], [], [], []⟩) (by simp only [lite_cons, lite_nil] <;> rfl) fun all hall K hK => ?_
    clear hall
    simp (maxSteps := 1000000) (disch := first | omega | assumption)
    repeat' refine And.intro ?_ ?_
    all_goals first | omega | exact rfl | skip
    refine hK _ ?_
    clear hK K
    clear all
    refine q_then_n ?_
    refine awp_seq ?_
    refine awp_regionA (c := ⟨[2, 3, 21, 26], [], [], []⟩) (by simp only [lite_cons, lite_nil] <;> rfl) fun all hall K hK => ?_
    have ga3 : guardOf all 3 = some 16 := hall 3
    clear hall
    refine vcL_split 4 fun K' hK' => ?_
    simp (maxSteps := 1000000) (disch := first | omega | assumption) [ga3]
    repeat' refine And.intro ?_ ?_
    all_goals first | omega | exact rfl | skip
    refine hK' _ ?_
    clear hK' K'
    simp only [List.drop_succ_cons, List.drop_zero]
    refine vcL_bool 16 (by simp <;> rfl) ?_
    refine ⟨fun g2 => ?_, fun g2 => ?_⟩
    · try simp at g2
      simp (maxSteps := 1000000) (disch := first | omega | assumption) [ga3]
      repeat' refine And.intro ?_ ?_
      all_goals first | omega | exact rfl | skip
      refine hK _ ?_
      clear hK K
      clear ga3
      clear all
      refine q_then_n ?_
      refine awp_cond (t := true) (by simp) (fun _ => ?_) (fun h => by cases h)
      refine awp_keep [2, 3, 5, 7, 8, 9] (by simp only [keepL_nil, keepL_cons, envOf_sel, envOf_nil, sel_t, sel_f, Nat.reduceBEq] <;> rfl) ?_
      refine awp_regionA (c := ⟨[2, 3, 21, 26], [], [], []⟩) (by simp only [lite_cons, lite_nil] <;> rfl) fun all hall K hK => ?_
      clear hall
      simp (maxSteps := 1000000) (disch := first | omega | assumption)
      repeat' refine And.intro ?_ ?_
      all_goals first | omega | exact rfl | skip
      refine hK _ ?_
      clear hK K
      clear all
      refine q_block_n ?_
      refine q_then_n ?_
      refine awp_regionA (c := ⟨[2, 3, 21, 26], [], [], []⟩) (by simp only [lite_cons, lite_nil] <;> rfl) fun all hall K hK => ?_
      clear hall
      simp (maxSteps := 1000000) (disch := first | omega | assumption)
      repeat' refine And.intro ?_ ?_
      all_goals first | omega | exact rfl | skip
      refine hK _ ?_
      clear hK K
      clear all
      refine q_round (k + 1) ?_ ?_ (weak_mkA rfl ?_ (by simp) (by simp))
      · omega
      · try dsimp only
        omega
      · first | (simp (disch := omega) [mine_take, pre2_no l[k] (.inl (by omega))]; done) | (simp (disch := omega) [mine_take, pre2_no l[k] (.inr (by assumption))]; done) | (simp (disch := omega) [mine_take, pre2_yes l[k] (by omega) (by assumption)]; done)
    · try simp at g2
      simp (maxSteps := 1000000) (disch := first | omega | assumption) [ga3]
      repeat' refine And.intro ?_ ?_
      all_goals first | omega | exact rfl | skip
      refine hK _ ?_
      clear hK K
      clear ga3
      clear all
      refine q_then_n ?_
      refine awp_ifB (by simp <;> rfl) ?_
      refine ⟨fun c3 => ?_, fun c3 => ?_⟩
      · try simp at c3
        refine awp_keep [2, 3, 5, 7, 8, 9] (by simp only [keepL_nil, keepL_cons, envOf_sel, envOf_nil, sel_t, sel_f, Nat.reduceBEq] <;> rfl) ?_
        refine awp_regionA (c := ⟨[2, 3, 21, 26], [], [], []⟩) (by simp only [lite_cons, lite_nil] <;> rfl) fun all hall K hK => ?_
        clear hall
        simp (maxSteps := 1000000) (disch := first | omega | assumption)
        repeat' refine And.intro ?_ ?_
        all_goals first | omega | exact rfl | skip
        refine hK _ ?_
        clear hK K
        clear all
        refine q_block_n ?_
        refine q_then_n ?_
        refine awp_regionA (c := ⟨[2, 3, 21, 26], [], [], []⟩) (by simp only [lite_cons, lite_nil] <;> rfl) fun all hall K hK => ?_
        clear hall
        simp (maxSteps := 1000000) (disch := first | omega | assumption)
        repeat' refine And.intro ?_ ?_
        all_goals first | omega | exact rfl | skip
        refine hK _ ?_
        clear hK K
        clear all
        refine q_round (k + 1) ?_ ?_ (weak_mkA rfl ?_ (by simp) (by simp))
        · omega
        · try dsimp only
          omega
        · first | (simp (disch := omega) [mine_take, pre2_no l[k] (.inl (by omega))]; done) | (simp (disch := omega) [mine_take, pre2_no l[k] (.inr (by assumption))]; done) | (simp (disch := omega) [mine_take, pre2_yes l[k] (by omega) (by assumption)]; done)
      · try simp at c3
        refine awp_skip ?_
        refine q_block_n ?_
        refine q_then_n ?_
        refine awp_keep [2, 3, 7, 8, 9] (by simp only [keepL_nil, keepL_cons, envOf_sel, envOf_nil, sel_t, sel_f, Nat.reduceBEq] <;> rfl) ?_
        refine awp_regionA (c := ⟨[2, 3, 21, 26], [], [], []⟩) (by simp only [lite_cons, lite_nil] <;> rfl) fun all hall K hK => ?_
        clear hall
        simp (maxSteps := 1000000) (disch := first | omega | assumption)
        repeat' refine And.intro ?_ ?_
        all_goals first | omega | exact rfl | skip
        refine hK _ ?_
        clear hK K
        clear all
        refine q_round (k + 1) ?_ ?_ (weak_mkA rfl ?_ (by simp) (by simp))
        · omega
        · try dsimp only
          omega
        · first | (simp (disch := omega) [mine_take, pre2_no l[k] (.inl (by omega))]; done) | (simp (disch := omega) [mine_take, pre2_no l[k] (.inr (by assumption))]; done) | (simp (disch := omega) [mine_take, pre2_yes l[k] (by omega) (by assumption)]; done)
  · try simp at c1
    refine awp_exit ?_
    refine q_then_e ?_
    refine q_loop_e ?_
    refine q_block_e ?_
    refine q_then_n ?_
    refine awp_seq ?_
    refine awp_regionA (c := ⟨[2, 3, 21, 26], [], [], []⟩) (by simp only [lite_cons, lite_nil] <;> rfl) fun all hall K hK => ?_
    clear hall
    simp (maxSteps := 1000000) (disch := first | omega | assumption)
    repeat' refine And.intro ?_ ?_
    all_goals first | omega | exact rfl | skip
    refine hK _ ?_
    clear hK K
    clear all
    refine q_then_n ?_
    refine awp_ret ?_
    simp [endQ]
    rw [List.take_of_length_le (by omega)]

end Go.Proofs.Ythieajadepfeoaa

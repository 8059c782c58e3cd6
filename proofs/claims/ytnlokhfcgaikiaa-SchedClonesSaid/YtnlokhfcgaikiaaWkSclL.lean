import Derived.Test.YtnlokhfcgaikiaaWkSched5
import Derived.Test.YtnlokhfcgaikiaaWkCl2
namespace Go.Proofs.Ytnlokhfcgaikiaa
open Go Go.Vm
set_option maxRecDepth 20000
set_option linter.all false
set_option maxHeartbeats 8000000
theorem wtclone0_fn (N cap : Nat) (l : List Wt) (rest : List D) (σ : List (List D)) (hl : l.length ≤ 1000000) (hN : σ[N]? = some (l.flatMap cw ++ rest)) : Ct Try.prog 76 [.slo N 0 l.length cap] σ (fun r σ' => baseX 4 (l.map d_Wt) r ∧ σ' = σ) := by
 refine fn_start (rs := [.tmp 2]) Try.func76 rfl rfl Try.ntmps76 Try.results76 (by simp) ?_
 simp only [argEnv]
 refine awp_seq ?_
 refine awp_regionA (c := ⟨[2, 7], [], [], [], [7]⟩) (by simp only [lite_cons, lite_nil] <;> rfl) fun all hall K hK => ?_
 clear hall
 simp (maxSteps := 1000000) (disch := first | omega | assumption) [hN]
 repeat' refine And.intro ?_ ?_
 all_goals first | omega | exact rfl | skip
 refine hK _ ?_
 clear hK K
 clear all
 refine q_then_n ?_
 refine awp_seq ?_
 refine awp_seq ?_
 refine awp_regionA (c := ⟨[2, 7], [], [], [], [7]⟩) (by simp only [lite_cons, lite_nil] <;> rfl) fun all hall K hK => ?_
 clear hall
 refine vcL_split 1 fun K' hK' => ?_
 simp (maxSteps := 1000000) (disch := first | omega | assumption) [hN]
 repeat' refine And.intro ?_ ?_
 all_goals first | omega | exact rfl | skip
 refine hK' _ ?_
 clear hK' K'
 simp only [List.drop_succ_cons, List.drop_zero]
 refine vcL_step fun K' hK' => ?_
 simp (maxSteps := 1000000) (disch := first | omega | assumption) [hN]
 refine ⟨hK' _ ?_, fun e1 => hK' _ ?_⟩
 ·clear hK' K'
  simp only [vcL_nil]
  refine hK _ ?_
  clear hK K
  clear all
  refine q_then_n ?_
  refine awp_cond (t := false) (by simp) (fun h => by cases h) (fun _ => ?_)
  refine awp_skip ?_
  refine q_then_n ?_
  refine awp_seq ?_
  refine awp_regionA (c := ⟨[2, 7], [], [], [], [7]⟩) (by simp only [lite_cons, lite_nil] <;> rfl) fun all hall K hK => ?_
  clear hall
  refine vcL_split 3 fun K' hK' => ?_
  simp (maxSteps := 1000000) (disch := first | omega | assumption) [hN]
  refine ⟨l.map d_Wt, ⟨⟨by simp, by rw [wt_flat]; exact List.prefix_append _ _⟩, wt_arr _, rfl⟩, ⟨by simp; omega, by simp; omega⟩, ?_⟩
  repeat' refine And.intro ?_ ?_
  all_goals first | omega | exact rfl | skip
  refine hK' _ ?_
  clear hK' K'
  simp only [List.drop_succ_cons, List.drop_zero]
  simp (maxSteps := 1000000) (disch := first | omega | assumption) [hN]
  repeat' refine And.intro ?_ ?_
  all_goals first | omega | exact rfl | skip
  refine hK _ ?_
  clear hK K
  clear all
  refine q_then_n ?_
  refine awp_ret ?_
  simp [endQ, baseX]
 ·clear hK' K'
  simp only [vcL_nil]
  refine hK _ ?_
  clear hK K
  clear all
  refine q_then_n ?_
  refine awp_cond (t := true) (by simp) (fun _ => ?_) (fun h => by cases h)
  refine awp_seq ?_
  refine awp_regionA (c := ⟨[2, 7], [], [], [], [7]⟩) (by simp only [lite_cons, lite_nil] <;> rfl) fun all hall K hK => ?_
  clear hall
  simp (maxSteps := 1000000) (disch := first | omega | assumption) [hN]
  repeat' refine And.intro ?_ ?_
  all_goals first | omega | exact rfl | skip
  refine hK _ ?_
  clear hK K
  clear all
  refine q_then_n ?_
  refine awp_ret ?_
  refine q_then_r ?_
  simp [endQ, baseX, e1]
theorem wtclone_fn (N cap : Nat) (l : List Wt) (rest : List D) (σ : List (List D)) (hl : l.length ≤ 1000000) (hN : σ[N]? = some (l.flatMap cw ++ rest)) : Ct Try.prog 76 [.slo N 0 l.length cap] σ (fun r σ' => r = .xs 4 (l.map d_Wt) ∧ σ' = σ) := (wtclone0_fn N cap l rest σ hl hN).toX fun _ _ h => h
theorem qc_ld2 (a b : D) (n0 n1 c0 c1 N0 N1 k : Nat) (h : k < 2) : ldD false 1 (List.drop (2 + k) [a, b, .slo N0 0 n0 c0, .slo N1 0 n1 c1]) = some (.slo (if k = 0 then N0 else N1) 0 (if k = 0 then n0 else n1) (if k = 0 then c0 else c1)) := by
 match k, h with
 | 0, _ => rfl
 | 1, _ => rfl
theorem qlen_if {l0 l1 : List Wt} {k : Nat} : (if k = 0 then l0.length else l1.length) = (if k = 0 then l0 else l1).length := by split <;> rfl
theorem qrow_if {σ : List (List D)} {N0 N1 k : Nat} {l0 l1 : List Wt} {r0 r1 : List D} (h0 : σ[N0]? = some (l0.flatMap cw ++ r0)) (h1 : σ[N1]? = some (l1.flatMap cw ++ r1)) : σ[if k = 0 then N0 else N1]? = some ((if k = 0 then l0 else l1).flatMap cw ++ (if k = 0 then r0 else r1)) := by
 split
 ·exact h0
 ·exact h1
theorem qclone0_fn (m : Nat) (q : Q2) (σ : List (List D)) (hq : σ[m]? = some (dqq q)) (hk : Q2ok q) : Ct Try.prog 57 [.ref m 0] σ (fun r σ' => r = .ref (σ.length + 2) 0 ∧ σ' = σ ++ [[], [], dqq q]) := by
 refine fn_start (rs := [.tmp 2]) Try.func57 rfl rfl Try.ntmps57 Try.results57 (by simp) ?_
 simp only [argEnv]
 obtain ⟨h0, h1, h2, h3, h4⟩ := hk
 refine awp_openXO m 2 4 hq (by simp <;> rfl) (by decide) fun cap0 rest0 hcap0 hcm0 hrest0 hes0 => ?_
 simp only [List.length_map, List.set_cons_zero, List.set_cons_succ] at hcap0 hrest0 ⊢
 refine awp_openXO m 3 4 (og_app hq _ _) (by simp <;> rfl) (by decide) fun cap1 rest1 hcap1 hcm1 hrest1 hes1 => ?_
 simp only [List.length_map, og_set hq, List.length_set, List.length_append, List.length_singleton, List.append_assoc, List.cons_append, List.nil_append, List.set_cons_zero, List.set_cons_succ] at hcap1 hrest1 ⊢
 rw [wt_flat, wt_flat]
 refine awp_seq ?_
 refine awp_regionA (c := ⟨[18], [], [3], [], []⟩) (by simp only [lite_cons, lite_nil] <;> rfl) fun all hall K hK => ?_
 clear hall
 simp (maxSteps := 1000000) (disch := first | omega | assumption) [qc_ld2, qx_sp, hq, og_get hq, og_app hq, og_app0 hq, og_set hq, og_set0 hq, og_last, og_setlast, og_last0, og_setlast0, og_last1, og_setlast1, og_last2, og_setlast2]
 repeat' refine And.intro ?_ ?_
 all_goals first | omega | exact rfl | skip
 refine hK _ ?_
 clear hK K
 clear all
 refine q_then_n ?_
 refine awp_seq ?_
 refine awp_regionA (c := ⟨[18], [], [3], [], []⟩) (by simp only [lite_cons, lite_nil] <;> rfl) fun all hall K hK => ?_
 clear hall
 simp (maxSteps := 1000000) (disch := first | omega | assumption) [qc_ld2, qx_sp, hq, og_get hq, og_app hq, og_app0 hq, og_set hq, og_set0 hq, og_last, og_setlast, og_last0, og_setlast0, og_last1, og_setlast1, og_last2, og_setlast2]
 repeat' refine And.intro ?_ ?_
 all_goals first | omega | exact rfl | skip
 refine hK _ ?_
 clear hK K
 clear all
 refine q_then_n ?_
 refine awp_seq ?_
 refine awp_seq ?_
 refine awp_regionA (c := ⟨[18], [], [3], [], []⟩) (by simp only [lite_cons, lite_nil] <;> rfl) fun all hall K hK => ?_
 clear hall
 simp (maxSteps := 1000000) (disch := first | omega | assumption) [qc_ld2, qx_sp, hq, og_get hq, og_app hq, og_app0 hq, og_set hq, og_set0 hq, og_last, og_setlast, og_last0, og_setlast0, og_last1, og_setlast1, og_last2, og_setlast2]
 repeat' refine And.intro ?_ ?_
 all_goals first | omega | exact rfl | skip
 refine hK _ ?_
 clear hK K
 clear all
 refine q_then_n ?_
 refine awp_block ?_
 refine awp_keep [0, 2, 3, 8] (by simp only [keepL_nil, keepL_cons, envOf_sel, envOf_nil, sel_t, sel_f, Nat.reduceBEq] <;> rfl) ?_
 refine awp_loopM (fun (k : Nat) => [(8, .d (.v (.int .i64 (k : Int))))]) (fun (k : Nat) => []) (fun (k : Nat) => [(σ.length + 2, [D.int q.most, D.int q.last, if 1 ≤ k then .xs 4 (q.w0.map d_Wt) else .slo σ.length 0 q.w0.length cap0, if 2 ≤ k then .xs 4 (q.w1.map d_Wt) else .slo (σ.length + 1) 0 q.w1.length cap1])]) [4, 8, 9, 10, 11, 12, 13, 14, 15, 16, 17, 18, 19, 20, 21] (fun (k : Nat) => k ≤ 2) (fun (k : Nat) => 2 - k) (0) (by simp <;> rfl) ?_ (by simp) (by simp) ?_ ?_
 ·simp
 ·simp
 rintro k hk2
 simp only [List.cons_append, List.nil_append, setL_nil, setL_cons, List.set_cons_zero, List.set_cons_succ]
 refine awp_seq ?_
 refine awp_regionA (c := ⟨[18], [], [3], [], []⟩) (by simp only [lite_cons, lite_nil] <;> rfl) fun all hall K hK => ?_
 clear hall
 simp (maxSteps := 1000000) (disch := first | omega | assumption) [qc_ld2, qx_sp, hq, og_get hq, og_app hq, og_app0 hq, og_set hq, og_set0 hq, og_last, og_setlast, og_last0, og_setlast0, og_last1, og_setlast1, og_last2, og_setlast2]
 repeat' refine And.intro ?_ ?_
 all_goals first | omega | exact rfl | skip
 refine hK _ ?_
 clear hK K
 clear all
 refine q_then_n ?_
 refine awp_seq ?_
 refine awp_ifB (by simp <;> rfl) ?_
 refine ⟨fun c1 => ?_, fun c1 => ?_⟩
 ·try simp at c1
  refine awp_skip ?_
  refine q_then_n ?_
  refine awp_seq ?_
  refine awp_block ?_
  refine awp_seq ?_
  refine awp_regionA (c := ⟨[18], [], [3], [], []⟩) (by simp only [lite_cons, lite_nil] <;> rfl) fun all hall K hK => ?_
  clear hall
  simp (maxSteps := 1000000) (disch := first | omega | assumption) [qc_ld2, qx_sp, hq, og_get hq, og_app hq, og_app0 hq, og_set hq, og_set0 hq, og_last, og_setlast, og_last0, og_setlast0, og_last1, og_setlast1, og_last2, og_setlast2]
  repeat' refine And.intro ?_ ?_
  all_goals first | omega | exact rfl | skip
  refine hK _ ?_
  clear hK K
  clear all
  refine q_then_n ?_
  refine awp_regionA (c := ⟨[18], [], [3], [], []⟩) (by simp only [lite_cons, lite_nil] <;> rfl) fun all hall K hK => ?_
  clear hall
  refine vcL_split 7 fun K' hK' => ?_
  simp (maxSteps := 1000000) (disch := first | omega | assumption) [qc_ld2, qx_sp, hq, og_get hq, og_app hq, og_app0 hq, og_set hq, og_set0 hq, og_last, og_setlast, og_last0, og_setlast0, og_last1, og_setlast1, og_last2, og_setlast2]
  repeat' refine And.intro ?_ ?_
  all_goals first | omega | exact rfl | skip
  refine hK' _ ?_
  clear hK' K'
  simp only [List.drop_succ_cons, List.drop_zero]
  refine vcL_step fun K' hK' => ?_
  simp (maxSteps := 1000000) (disch := first | omega | assumption) [qc_ld2, qx_sp, hq, og_get hq, og_app hq, og_app0 hq, og_set hq, og_set0 hq, og_last, og_setlast, og_last0, og_setlast0, og_last1, og_setlast1, og_last2, og_setlast2]
  rw [qlen_if]
  refine Ct.mono (Ct.of_le (wtclone_fn (if k = 0 then σ.length else σ.length + 1) (if k = 0 then cap0 else cap1) (if k = 0 then q.w0 else q.w1) (if k = 0 then rest0 else rest1) _ (by split <;> omega) (qrow_if (by simp [og_last]) (by simp [og_last1]))) (by first | exact leArgs_of rfl | (refine leArgs_of ?_; simp; done) | (refine leArgs_of ?_; simp; rfl) | (simp [leArgs, leArg]; done)) rfl) ?_
  rintro _ _ ⟨hr9, hs9⟩
  subst hr9
  replace hs9 := hs9.symm
  subst hs9
  refine hK' _ ?_
  clear hK' K'
  simp (maxSteps := 1000000) (disch := first | omega | assumption) [qc_ld2, qx_sp, hq, og_get hq, og_app hq, og_app0 hq, og_set hq, og_set0 hq, og_last, og_setlast, og_last0, og_setlast0, og_last1, og_setlast1, og_last2, og_setlast2]
  repeat' refine And.intro ?_ ?_
  all_goals first | omega | exact rfl | skip
  refine hK _ ?_
  clear hK K
  clear all
  refine q_block_n ?_
  refine q_then_n ?_
  refine awp_keep [0, 2, 3, 8] (by simp only [keepL_nil, keepL_cons, envOf_sel, envOf_nil, sel_t, sel_f, Nat.reduceBEq] <;> rfl) ?_
  refine awp_regionA (c := ⟨[18], [], [3], [], []⟩) (by simp only [lite_cons, lite_nil] <;> rfl) fun all hall K hK => ?_
  clear hall
  simp (maxSteps := 1000000) (disch := first | omega | assumption) [qc_ld2, qx_sp, hq, og_get hq, og_app hq, og_app0 hq, og_set hq, og_set0 hq, og_last, og_setlast, og_last0, og_setlast0, og_last1, og_setlast1, og_last2, og_setlast2]
  repeat' refine And.intro ?_ ?_
  all_goals first | omega | exact rfl | skip
  refine hK _ ?_
  clear hK K
  clear all
  refine q_round (k + 1) ?_ ?_ (weak_mkA rfl ?_ (by simp) (by rcases (by omega : k = 0 ∨ k = 1) with rfl | rfl <;> simp))
  ·omega
  ·try dsimp only
   omega
  ·simp (maxSteps := 1000000) (disch := first | omega | assumption) [qc_ld2, qx_sp, hq, og_get hq, og_app hq, og_app0 hq, og_set hq, og_set0 hq, og_last, og_setlast, og_last0, og_setlast0, og_last1, og_setlast1, og_last2, og_setlast2]
 ·try simp at c1
  obtain rfl : k = 2 := by omega
  refine awp_exit ?_
  refine q_then_e ?_
  refine q_loop_e ?_
  refine q_block_e ?_
  refine q_then_n ?_
  refine awp_seq ?_
  refine awp_regionA (c := ⟨[18], [], [3], [], []⟩) (by simp only [lite_cons, lite_nil] <;> rfl) fun all hall K hK => ?_
  clear hall
  simp (maxSteps := 1000000) (disch := first | omega | assumption) [qc_ld2, qx_sp, hq, og_get hq, og_app hq, og_app0 hq, og_set hq, og_set0 hq, og_last, og_setlast, og_last0, og_setlast0, og_last1, og_setlast1, og_last2, og_setlast2]
  repeat' refine And.intro ?_ ?_
  all_goals first | omega | exact rfl | skip
  refine hK _ ?_
  clear hK K
  clear all
  refine q_then_n ?_
  refine awp_closeXO m 2 4 σ.length q.w0.length cap0 (q.w0.map d_Wt) _ (q.w0.flatMap cw ++ rest0) (og_app hq _ _) (by simp) (by simp [og_last]) (by have := og_lt hq; omega) (by decide) (by simp [hrest0]; omega) (by simp) (wt_arr _) (by rw [wt_flat]; exact List.prefix_append _ _) ?_
  simp only [og_set hq, og_setlast, List.set_cons_zero, List.set_cons_succ]
  refine awp_closeXO m 3 4 (σ.length + 1) q.w1.length cap1 (q.w1.map d_Wt) _ (q.w1.flatMap cw ++ rest1) (og_app hq _ _) (by simp) (by simp [og_last1]) (by have := og_lt hq; omega) (by decide) (by simp [hrest1]; omega) (by simp) (wt_arr _) (by rw [wt_flat]; exact List.prefix_append _ _) ?_
  simp only [og_set hq, og_setlast1, List.set_cons_zero, List.set_cons_succ]
  refine awp_ret ?_
  simp [endQ]
  exact obj_set_same hq
theorem qclone_fn (m : Nat) (q : Q2) (σ : List (List D)) (hq : σ[m]? = some (dqq q)) (hk : Q2ok q) : Ct Try.prog 57 [.ref m 0] σ (fun r σ' => r = .ref (σ.length + 2) 0 ∧ σ' = σ ++ [[], [], dqq q]) := qclone0_fn m q σ hq hk
theorem arr23 (t : Array Value) (h : t.size = 23) : ∃ x0 x1 x2 x3 x4 x5 x6 x7 x8 x9 x10 x11 x12 x13 x14 x15 x16 x17 x18 x19 x20 x21 x22, t = #[x0, x1, x2, x3, x4, x5, x6, x7, x8, x9, x10, x11, x12, x13, x14, x15, x16, x17, x18, x19, x20, x21, x22] := by
 obtain ⟨l⟩ := t
 simp only [List.size_toArray] at h
 obtain _ | ⟨x0, l⟩ := l
 ·simp at h
 obtain _ | ⟨x1, l⟩ := l
 ·simp at h
 obtain _ | ⟨x2, l⟩ := l
 ·simp at h
 obtain _ | ⟨x3, l⟩ := l
 ·simp at h
 obtain _ | ⟨x4, l⟩ := l
 ·simp at h
 obtain _ | ⟨x5, l⟩ := l
 ·simp at h
 obtain _ | ⟨x6, l⟩ := l
 ·simp at h
 obtain _ | ⟨x7, l⟩ := l
 ·simp at h
 obtain _ | ⟨x8, l⟩ := l
 ·simp at h
 obtain _ | ⟨x9, l⟩ := l
 ·simp at h
 obtain _ | ⟨x10, l⟩ := l
 ·simp at h
 obtain _ | ⟨x11, l⟩ := l
 ·simp at h
 obtain _ | ⟨x12, l⟩ := l
 ·simp at h
 obtain _ | ⟨x13, l⟩ := l
 ·simp at h
 obtain _ | ⟨x14, l⟩ := l
 ·simp at h
 obtain _ | ⟨x15, l⟩ := l
 ·simp at h
 obtain _ | ⟨x16, l⟩ := l
 ·simp at h
 obtain _ | ⟨x17, l⟩ := l
 ·simp at h
 obtain _ | ⟨x18, l⟩ := l
 ·simp at h
 obtain _ | ⟨x19, l⟩ := l
 ·simp at h
 obtain _ | ⟨x20, l⟩ := l
 ·simp at h
 obtain _ | ⟨x21, l⟩ := l
 ·simp at h
 obtain _ | ⟨x22, l⟩ := l
 ·simp at h
 obtain _ | ⟨y, l⟩ := l
 ·exact ⟨x0, x1, x2, x3, x4, x5, x6, x7, x8, x9, x10, x11, x12, x13, x14, x15, x16, x17, x18, x19, x20, x21, x22, rfl⟩
 ·simp at h
@[simp] abbrev CW (t : WS) (n : Nat) : List (List D) := [[], dhp n (hclone t.h), dwh (n + 1) (wcl t), []]
def OkO (V : World) (g : Gh) (τ : List (List D)) : Prop := g.bl = [] ∧ Ok V g (St.mk' 0 [] [] τ) (fun _ => undef)
theorem OkO.of {V : World} {g : Gh} {st : St} {val : Nat → Value} (h : Ok V g st val) (hl : st.loc = []) : OkO V g st.obj := by
 have hbl : g.bl = [] := List.length_eq_zero_iff.1 (by rw [h.ll, hl]; rfl)
 exact ⟨hbl, h.mem, h.xlt, fun t => ⟨.any _, .flat _ _ _ rfl⟩, by rw [hbl]; rfl, fun n b cs hn => by rw [hbl] at hn; simp at hn, h.ol, h.obj⟩
theorem OkO.arg {V : World} {g : Gh} {τ : List (List D)} (h : OkO V g τ) {n b : Nat} (hb : g.bs[n]? = some b) : Ok V g (St.ofArgs [.ref n 0] τ) (vals #[.pointer (some ⟨b, 0, none⟩)]) := by
 obtain ⟨hbl, h⟩ := h
 refine ⟨h.mem, h.xlt, fun t => ?_, by rw [hbl]; rfl, fun n b cs hn => (by rw [hbl] at hn; simp at hn), h.ol, h.obj⟩
 match t with
 | 0 => exact ⟨.ref _ _ b hb, .flat _ _ _ rfl⟩
 | t + 1 => exact ⟨.any _, .flat _ _ _ rfl⟩
theorem OkO.call {V : World} {g : Gh} {τ τ' : List (List D)} {f : FuncId} {n b k : Nat} (h : OkO V g τ) (hb : g.bs[n]? = some b) (hct : Ct Try.prog f [.ref n 0] τ (fun r σ' => r = .ref k 0 ∧ σ' = τ')) :
  Calls Try.prog f #[.pointer (some ⟨b, 0, none⟩)] V fun e w' => ∃ b', e = .returned (.pointer (some ⟨b', 0, none⟩)) ∧ ∃ g', g'.bs[k]? = some b' ∧ Fr V g w' g' ∧ OkO w' g' τ' := by
 refine (hct.2 V g _ rfl h.1 (h.arg hb)).mono ?_
 rintro e w' ⟨r, σ', x, g', rfl, ⟨rfl, rfl⟩, hbl, hf, hk⟩
 have hs := (hk.slot 0).1
 change R g'.M g'.bs (.ref k 0) x at hs
 cases hs with
 | ref _ _ b' hb' => exact ⟨b', rfl, g', hb', hf, OkO.of hk rfl⟩
theorem s_at {w : World} {g : Gh} {st : St} {val : Nat → Value} (h : Ok w g st val) {S m q o : Nat} {a c : Int} (hS : st.obj[S]? = some [D.int a, D.int c, .ref m 0, .ref q 0]) (hv : R g.M g.bs (.ref S 0) (val o)) :
  ∃ b bw bq, g.bs[S]? = some b ∧ g.bs[m]? = some bw ∧ g.bs[q]? = some bq ∧ val o = .pointer (some ⟨b, 0, none⟩) := by
 obtain ⟨b, hb, hvp⟩ : ∃ b, g.bs[S]? = some b ∧ val o = .pointer (some ⟨b, 0, none⟩) := by
  generalize val o = v at hv
  cases hv with
  | ref n off b hb => exact ⟨b, hb, rfl⟩
 rcases h.obj S b _ hb hS with h0 | ⟨cur, E, w1, w2, w3, w4, w5⟩
 ·cases h0
 have get : ∀ (i : Nat) (d : D), [D.int a, D.int c, D.ref m 0, D.ref q 0][i]? = some d → ∃ y, R g.M g.bs d y := by
  intro i d hd
  have hi : i < 4 := (List.getElem?_eq_some_iff.1 hd).1
  have hi' : i < cur.size := by rw [w2]; exact hi
  exact ⟨cur[i], (w5 i d _ hd (Array.getElem?_eq_getElem hi')).1⟩
 obtain ⟨y2, r2⟩ := get 2 _ rfl
 obtain ⟨y3, r3⟩ := get 3 _ rfl
 cases r2 with
 | ref _ _ bw hbw =>
  cases r3 with
  | ref _ _ bq hbq => exact ⟨b, bw, bq, hb, hbw, hbq, hvp⟩
theorem OkO.cells {V : World} {g : Gh} {τ : List (List D)} (h : OkO V g τ) {S m q b bw bq : Nat} {a c : Int} (hS : τ[S]? = some [D.int a, D.int c, .ref m 0, .ref q 0]) (hb : g.bs[S]? = some b) (hw : g.bs[m]? = some bw) (hq : g.bs[q]? = some bq) :
  V.cell? ⟨b, 0, none⟩ = some (.int .i64 a) ∧ V.cell? ⟨b, 1, none⟩ = some (.int .i64 c) ∧ V.cell? ⟨b, 2, none⟩ = some (.pointer (some ⟨bw, 0, none⟩)) ∧ V.cell? ⟨b, 3, none⟩ = some (.pointer (some ⟨bq, 0, none⟩)) := by
 obtain ⟨hbl, h⟩ := h
 rcases h.obj S b _ hb hS with h0 | ⟨cur, E, w1, w2, w3, w4, w5⟩
 ·cases h0
 have get : ∀ (i : Nat) (d : D), [D.int a, D.int c, D.ref m 0, D.ref q 0][i]? = some d → ∃ y, cur[i]? = some y ∧ R g.M g.bs d y := by
  intro i d hd
  have hi : i < 4 := (List.getElem?_eq_some_iff.1 hd).1
  have hi' : i < cur.size := by rw [w2]; exact hi
  exact ⟨cur[i], Array.getElem?_eq_getElem hi', (w5 i d _ hd (Array.getElem?_eq_getElem hi')).1⟩
 obtain ⟨y0, q0, r0⟩ := get 0 _ rfl
 obtain ⟨y1, q1, r1⟩ := get 1 _ rfl
 obtain ⟨y2, q2, r2⟩ := get 2 _ rfl
 obtain ⟨y3, q3, r3⟩ := get 3 _ rfl
 cases r0; cases r1
 cases r2 with
 | ref _ _ bw' hbw =>
  cases r3 with
  | ref _ _ bq' hbq =>
   rw [hw] at hbw; rw [hq] at hbq
   obtain rfl := Option.some.inj hbw
   obtain rfl := Option.some.inj hbq
   refine ⟨?_, ?_, ?_, ?_⟩
   ·simpa [World.cell?, w1] using q0
   ·simpa [World.cell?, w1] using q1
   ·simpa [World.cell?, w1] using q2
   ·simpa [World.cell?, w1] using q3
section
variable {S w m M q : Nat} {s : SS} {σ : List (List D)} {w1 V : World} {g1 : Gh} {b bw bq b1 b2 : Nat}
theorem OkO.call1 {g : Gh} (h : OkO V g σ) (hf : Fr w1 g1 V g) (ho : SO S w m M q s σ) (hs : SOk s) (hb : g.bs[S]? = some b) (hw : g.bs[w]? = some bw) (hq : g.bs[q]? = some bq) :
  Calls Try.prog 27 #[.pointer (some ⟨bw, 0, none⟩)] V fun e w' => ∃ b1, e = .returned (.pointer (some ⟨b1, 0, none⟩)) ∧ (w'.cell? ⟨b, 0, none⟩ = some (.int .i64 s.now) ∧ w'.cell? ⟨b, 1, none⟩ = some (.int .i64 s.most) ∧ w'.cell? ⟨b, 2, none⟩ = some (.pointer (some ⟨bw, 0, none⟩)) ∧ w'.cell? ⟨b, 3, none⟩ = some (.pointer (some ⟨bq, 0, none⟩))) ∧
   ∃ g2, g2.bs[S]? = some b ∧ g2.bs[w]? = some bw ∧ g2.bs[q]? = some bq ∧ g2.bs[σ.length + 2]? = some b1 ∧ Fr w1 g1 w' g2 ∧ OkO w' g2 (σ ++ CW s.t σ.length) := by
 refine (h.call hw (wclone_fn w m M s.t σ ho.hw ho.hm hs.t)).mono ?_
 rintro e w' ⟨b1, rfl, g2, hb1, hf2, hk⟩
 have e0 := hf2.bs _ _ hb; have e1 := hf2.bs _ _ hw; have e2 := hf2.bs _ _ hq
 exact ⟨b1, rfl, hk.cells (og_app0 ho.hS _) e0 e1 e2, g2, e0, e1, e2, hb1, hf.trans hf2, hk⟩
theorem OkO.call2 (ho : SO S w m M q s σ) (hs : SOk s) (hb : g1.bs[S]? = some b) (hw : g1.bs[w]? = some bw) (hq : g1.bs[q]? = some bq)
  (hx : ∃ g2 : Gh, g2.bs[S]? = some b ∧ g2.bs[w]? = some bw ∧ g2.bs[q]? = some bq ∧ g2.bs[σ.length + 2]? = some b1 ∧ Fr w1 g1 V g2 ∧ OkO V g2 (σ ++ CW s.t σ.length)) :
  Calls Try.prog 57 #[.pointer (some ⟨bq, 0, none⟩)] V fun e w' => ∃ b2, e = .returned (.pointer (some ⟨b2, 0, none⟩)) ∧ (w'.cell? ⟨b, 0, none⟩ = some (.int .i64 s.now) ∧ w'.cell? ⟨b, 1, none⟩ = some (.int .i64 s.most) ∧ w'.cell? ⟨b, 2, none⟩ = some (.pointer (some ⟨bw, 0, none⟩)) ∧ w'.cell? ⟨b, 3, none⟩ = some (.pointer (some ⟨bq, 0, none⟩))) ∧
   ∃ g3, g3.bs[σ.length + 2]? = some b1 ∧ g3.bs[σ.length + 6]? = some b2 ∧ Fr w1 g1 w' g3 ∧ OkO w' g3 (σ ++ CW s.t σ.length ++ [[], [], dqq s.q]) := by
 obtain ⟨g2, f0, f1, f2, f3, hf, h⟩ := hx
 have hlen : (σ ++ CW s.t σ.length).length = σ.length + 4 := by simp
 refine (h.call f2 (qclone_fn q s.q _ (og_app0 ho.hq _) hs.q)).mono ?_
 rintro e w' ⟨b2, rfl, g3, hb2, hf2, hk⟩
 rw [hlen] at hb2
 exact ⟨b2, rfl, hk.cells (by rw [List.append_assoc]; exact og_app0 ho.hS _) (hf2.bs _ _ f0) (hf2.bs _ _ f1) (hf2.bs _ _ f2), g3, hf2.bs _ _ f3, hb2, hf.trans hf2, hk⟩
theorem OkO.fin {wf : World} {val' : Nat → Value} {n : Nat} (E : TypeId)
  (hx : ∃ g3 : Gh, g3.bs[σ.length + 2]? = some b1 ∧ g3.bs[σ.length + 6]? = some b2 ∧ Fr w1 g1 wf g3 ∧ OkO wf g3 (σ ++ CW s.t σ.length ++ [[], [], dqq s.q])) (hv : val' 2 = .pointer (some ⟨wf.heap.size, 0, none⟩)) :
  ∃ g', Fr w1 g1 (wf.alloc (.cells #[.int .i64 s.now, .int .i64 s.most, .pointer (some ⟨b1, 0, none⟩), .pointer (some ⟨b2, 0, none⟩)] E)) g' ∧
   Ok (wf.alloc (.cells #[.int .i64 s.now, .int .i64 s.most, .pointer (some ⟨b1, 0, none⟩), .pointer (some ⟨b2, 0, none⟩)] E)) g' (St.mk' n [(2, .d (.ref (σ.length + 7) 0))] [] (σ ++ CW s.t σ.length ++ [[], [], dqq s.q] ++ [[D.int s.now, D.int s.most, .ref (σ.length + 2) 0, .ref (σ.length + 6) 0]])) val' := by
 obtain ⟨g3, e1, e2, hf, hbl, h⟩ := hx
 have hlen : (σ ++ CW s.t σ.length ++ [[], [], dqq s.q]).length = σ.length + 7 := by simp
 have hol : g3.bs.length = σ.length + 7 := by rw [← hlen]; exact h.ol
 obtain ⟨k1, k2⟩ := h.newObj [D.int s.now, D.int s.most, .ref (σ.length + 2) 0, .ref (σ.length + 6) 0] #[.int .i64 s.now, .int .i64 s.most, .pointer (some ⟨b1, 0, none⟩), .pointer (some ⟨b2, 0, none⟩)] E rfl (by
  intro i d x h1 h2
  match i, h1, h2 with
  | 0, h1, h2 => simp at h1 h2; subst h1 h2; exact ⟨.v _ rfl, .flat _ _ _ rfl, rfl⟩
  | 1, h1, h2 => simp at h1 h2; subst h1 h2; exact ⟨.v _ rfl, .flat _ _ _ rfl, rfl⟩
  | 2, h1, h2 => simp at h1 h2; subst h1 h2; exact ⟨.ref _ _ _ e1, .flat _ _ _ rfl, rfl⟩
  | 3, h1, h2 => simp at h1 h2; subst h1 h2; exact ⟨.ref _ _ _ e2, .flat _ _ _ rfl, rfl⟩
  | i + 4, h1, h2 => simp at h1)
 refine ⟨_, hf.trans k2, k1.mem, k1.xlt, fun t => ?_, k1.ll, k1.loc, k1.ol, k1.obj⟩
 show SlotOk _ _ t (envOf [(2, .d (.ref (σ.length + 7) 0))] t) (val' t)
 rw [envOf_cons, envOf_nil]
 by_cases ht : t = 2
 ·subst ht
  rw [if_pos rfl, hv]
  refine ⟨.ref _ _ wf.heap.size ?_, .flat _ _ _ rfl⟩
  show (g3.bs ++ [wf.heap.size])[σ.length + 7]? = _
  rw [← hol]; simp
 ·rw [if_neg ht]
  exact ⟨.any _, .flat _ _ _ rfl⟩
end
theorem sclone_fn (S w m M q : Nat) (s : SS) (σ : List (List D)) (ho : SO S w m M q s σ) (hs : SOk s) : Ct Try.prog 29 [.ref S 0] σ (fun r σ' => r = .ref (σ.length + 7) 0 ∧ σ' = σ ++ CW s.t σ.length ++ [[], [], dqq s.q] ++ [[D.int s.now, D.int s.most, .ref (σ.length + 2) 0, .ref (σ.length + 6) 0]]) := by
 refine fn_start (rs := [.tmp 2]) Try.func29 rfl rfl Try.ntmps29 Try.results29 (by simp) ?_
 simp only [argEnv]
 obtain ⟨hS, hw, hm, hq, hM, d1, d2, d3, d4, d5, d6⟩ := id ho
 refine awp_seq ?_
 refine awp_regionA (c := ⟨[], [], [], [], []⟩) (by simp only [lite_cons, lite_nil] <;> rfl) fun all hall K hK => ?_
 clear hall
 simp (maxSteps := 1000000) (disch := first | omega | assumption)
 repeat' refine And.intro ?_ ?_
 all_goals first | omega | exact rfl | skip
 refine hK _ ?_
 clear hK K
 clear all
 refine q_then_n ?_
 refine awp_seq ?_
 refine awp_cut (St.mk' 23 [(2, .d (.ref (σ.length + 7) 0))] [] (σ ++ CW s.t σ.length ++ [[], [], dqq s.q] ++ [[D.int s.now, D.int s.most, .ref (σ.length + 2) 0, .ref (σ.length + 6) 0]])) (fun hst => ?_) ?_
 ·intro w0 g0 w1 g1 tmps hf hok hn
  obtain ⟨bs, bw, bq, hb0, hb1, hb2, hx0⟩ := s_at (o := 0) hok hS (hok.slot 0).1
  have hk0 : OkO w1.drew g1 σ := OkO.of hok.drew rfl
  obtain ⟨c0, c1, c2, c3⟩ := hk0.cells hS hb0 hb1 hb2
  have hc1 := hk0.call1 (Fr.drew w1 g1) ho hs hb0 hb1 hb2
  have hc2 := fun V b1 h => OkO.call2 (V := V) (b1 := b1) (w1 := w1) (g1 := g1) ho hs hb0 hb1 hb2 h
  have hend := fun wf b1 b2 val' h hv => OkO.fin (wf := wf) (b1 := b1) (b2 := b2) (val' := val') (σ := σ) (s := s) (n := 23) (w1 := w1) (g1 := g1) 94 h hv
  obtain ⟨x0, x1, x2, x3, x4, x5, x6, x7, x8, x9, x10, x11, x12, x13, x14, x15, x16, x17, x18, x19, x20, x21, x22, rfl⟩ := arr23 tmps hn
  change x0 = _ at hx0
  subst hx0
  clear hok hk0
  go_region_held3 (fun V : World => V.cell? ⟨bs, 0, none⟩ = some (.int .i64 s.now) ∧ V.cell? ⟨bs, 1, none⟩ = some (.int .i64 s.most) ∧ V.cell? ⟨bs, 2, none⟩ = some (.pointer (some ⟨bw, 0, none⟩)) ∧ V.cell? ⟨bs, 3, none⟩ = some (.pointer (some ⟨bq, 0, none⟩))) (go_keep) (first | (go_at_call 27; refine hc1.mono ?_; rintro e w' ⟨b1, rfl, ⟨d0, d1, d2, d3⟩, hrel⟩) | (go_at_call 57; refine (hc2 _ _ hrel).mono ?_; rintro e w2 ⟨b2, rfl, ⟨f0, f1, f2, f3⟩, hrel2⟩))
  refine fin_region hst hf rfl ?_
  refine hend w2 b1 b2 _ hrel2 ?_
  rfl
 refine q_then_n ?_
 refine awp_ret ?_
 simp [endQ]
end Go.Proofs.Ytnlokhfcgaikiaa
namespace Go.Proofs.Ytnlokhfcgaikiaa
open Go Go.Vm
set_option maxRecDepth 20000
set_option linter.all false
set_option maxHeartbeats 8000000
@[simp] abbrev scl (s : SS) : SS := ⟨s.now, s.most, wcl s.t, s.q⟩
theorem SR.clone {k : Nat} {s : SS} {x : RS} (h : SR k s x) : SR k (scl s) x :=
 ⟨⟨⟨wcl_ok h.v.wi.ok, h.v.wi.hp, h.v.wi.dl⟩, h.v.lk, h.v.tm, h.v.tl, h.v.q0, h.v.ql, h.v.q3, h.v.q4, h.v.qm, h.v.nw⟩, h.p.clone, h.i, h.now, h.most⟩
@[simp] abbrev LY (τ : List (List D)) (s s2 : SS) (ρ : List (List D)) : List (List D) := τ ++ ([] :: dhp τ.length s.t.h :: dwh (τ.length + 1) s.t :: dqq s.q :: dss (τ.length + 2) (τ.length + 3) s :: [] :: dhp (τ.length + 5) s2.t.h :: dwh (τ.length + 6) s2.t :: [] :: [] :: [] :: dqq s2.q :: dss (τ.length + 7) (τ.length + 11) s2 :: ρ)
theorem SO.lay1 (τ : List (List D)) (s s2 : SS) (ρ : List (List D)) : SO (τ.length + 4) (τ.length + 2) (τ.length + 1) τ.length (τ.length + 3) s (LY τ s s2 ρ) := by
 constructor <;> first | omega | simp [og_at, og_at0]
theorem SO.lay2 (τ : List (List D)) (s s2 : SS) (ρ : List (List D)) : SO (τ.length + 12) (τ.length + 7) (τ.length + 6) (τ.length + 5) (τ.length + 11) s2 (LY τ s s2 ρ) := by
 constructor <;> first | omega | simp [og_at, og_at0]
theorem schedClones_fn (acts more : List SAct) (σ : List (List D)) (hl : acts.length ≤ 9223372036854775807) (hl2 : more.length ≤ 9223372036854775807) : Ct Try.prog 8 [.sl false (acts.map d_SAct), .sl false (more.map d_SAct)] σ (fun r σ' => r = .bool true) := by
 refine fn_start (rs := [.tmp 4]) Try.func8 rfl rfl Try.ntmps8 Try.results8 (by simp) ?_
 simp only [argEnv]
 refine awp_seq ?_
 refine awp_regionA (c := ⟨[], [], [], [], []⟩) (by simp only [lite_cons, lite_nil] <;> rfl) fun all hall K hK => ?_
 clear hall
 simp (maxSteps := 1000000) (disch := first | omega | assumption) [og_at, og_put, og_at0, og_put0, sput]
 repeat' refine And.intro ?_ ?_
 all_goals first | omega | exact rfl | skip
 refine hK _ ?_
 clear hK K
 clear all
 refine q_then_n ?_
 refine awp_seq ?_
 refine awp_seq ?_
 refine awp_regionA (c := ⟨[], [], [], [], []⟩) (by simp only [lite_cons, lite_nil] <;> rfl) fun all hall K hK => ?_
 clear hall
 refine vcL_step fun K' hK' => ?_
 simp (maxSteps := 1000000) (disch := first | omega | assumption) [og_at, og_put, og_at0, og_put0, sput]
 refine Ct.mono (Ct.of_le (swake_fn _) (by first | exact leArgs_of rfl | (refine leArgs_of ?_; simp; done) | (refine leArgs_of ?_; simp; rfl) | (simp [leArgs, leArg]; done)) rfl) ?_
 rintro _ _ ⟨hr9, hs9⟩
 subst hr9
 replace hs9 := hs9.symm
 subst hs9
 refine hK' _ ?_
 clear hK' K'
 simp (maxSteps := 1000000) (disch := first | omega | assumption) [og_at, og_put, og_at0, og_put0, sput]
 repeat' refine And.intro ?_ ?_
 all_goals first | omega | exact rfl | skip
 refine hK _ ?_
 clear hK K
 clear all
 refine q_then_n ?_
 refine awp_ifB (by simp <;> rfl) ?_
 refine ⟨fun c1 => ?_, fun c1 => ?_⟩
 ·simp at c1
 ·try simp at c1
  refine awp_skip ?_
  refine q_then_n ?_
  refine awp_seq ?_
  refine awp_regionA (c := ⟨[], [], [], [], []⟩) (by simp only [lite_cons, lite_nil] <;> rfl) fun all hall K hK => ?_
  clear hall
  refine vcL_step fun K' hK' => ?_
  simp (maxSteps := 1000000) (disch := first | omega | assumption) [og_at, og_put, og_at0, og_put0, sput]
  refine Ct.mono (Ct.of_le (snew_fn 30 _) (by first | exact leArgs_of rfl | (refine leArgs_of ?_; simp; done) | (refine leArgs_of ?_; simp; rfl) | (simp [leArgs, leArg]; done)) rfl) ?_
  rintro _ _ ⟨hr9, hs9⟩
  subst hr9
  replace hs9 := hs9.symm
  subst hs9
  refine hK' _ ?_
  clear hK' K'
  refine vcL_step fun K' hK' => ?_
  simp (maxSteps := 1000000) (disch := first | omega | assumption) [og_at, og_put, og_at0, og_put0, sput]
  refine Ct.mono (Ct.of_le (rsnew0_fn 30 _) (by first | exact leArgs_of rfl | (refine leArgs_of ?_; simp; done) | (refine leArgs_of ?_; simp; rfl) | (simp [leArgs, leArg]; done)) rfl) ?_
  rintro _ _ ⟨hr9, hs9⟩
  subst hr9
  replace hs9 := hs9.symm
  subst hs9
  refine hK' _ ?_
  clear hK' K'
  simp (maxSteps := 1000000) (disch := first | omega | assumption) [og_at, og_put, og_at0, og_put0, sput]
  repeat' refine And.intro ?_ ?_
  all_goals first | omega | exact rfl | skip
  refine hK _ ?_
  clear hK K
  clear all
  refine q_then_n ?_
  refine awp_seq ?_
  refine awp_seq ?_
  refine awp_regionA (c := ⟨[], [], [], [], []⟩) (by simp only [lite_cons, lite_nil] <;> rfl) fun all hall K hK => ?_
  clear hall
  simp (maxSteps := 1000000) (disch := first | omega | assumption) [og_at, og_put, og_at0, og_put0, sput]
  repeat' refine And.intro ?_ ?_
  all_goals first | omega | exact rfl | skip
  refine hK _ ?_
  clear hK K
  clear all
  refine q_then_n ?_
  refine awp_ifB (by simp <;> rfl) ?_
  refine ⟨fun c2 => ?_, fun c2 => ?_⟩
  ·simp at c2
  ·try simp at c2
   refine awp_skip ?_
   refine q_then_n ?_
   refine awp_seq ?_
   refine awp_regionA (c := ⟨[], [], [], [], []⟩) (by simp only [lite_cons, lite_nil] <;> rfl) fun all hall K hK => ?_
   clear hall
   simp (maxSteps := 1000000) (disch := first | omega | assumption) [og_at, og_put, og_at0, og_put0, sput]
   repeat' refine And.intro ?_ ?_
   all_goals first | omega | exact rfl | skip
   refine hK _ ?_
   clear hK K
   clear all
   refine q_then_n ?_
   refine awp_seq ?_
   refine awp_seq ?_
   refine awp_regionA (c := ⟨[], [], [], [], []⟩) (by simp only [lite_cons, lite_nil] <;> rfl) fun all hall K hK => ?_
   clear hall
   simp (maxSteps := 1000000) (disch := first | omega | assumption) [og_at, og_put, og_at0, og_put0, sput]
   repeat' refine And.intro ?_ ?_
   all_goals first | omega | exact rfl | skip
   refine hK _ ?_
   clear hK K
   clear all
   refine q_then_n ?_
   refine awp_block ?_
   refine awp_keep [0, 1, 4, 5, 6, 7, 8] (by simp only [keepL_nil, keepL_cons, envOf_sel, envOf_nil, sel_t, sel_f, Nat.reduceBEq] <;> rfl) ?_
   refine awp_loopM (fun (s : PSt2) => [(8, .d (.int s.k)), (7, .d (.any))]) (fun (s : PSt2) => [(0, [D.int s.x.now, D.int s.x.most, D.int s.x.wheel.most, D.int s.x.wheel.last, .sl false (s.x.wheel.l.map d_Tm), D.int s.x.queue.most, D.int s.x.queue.last, .sl false (s.x.queue.l.map d_Wt)])]) (fun (s : PSt2) => [(σ.length + 1, dhp σ.length s.s.t.h), (σ.length + 2, dwh (σ.length + 1) s.s.t), (σ.length + 3, dqq s.s.q), (σ.length + 4, dss (σ.length + 2) (σ.length + 3) s.s)]) [4, 7, 8, 18, 19, 20, 21, 22, 23, 24, 25, 26, 27, 28, 29, 30, 31, 32, 33, 34, 35, 36, 37, 38, 39] (fun (s : PSt2) => s.k ≤ acts.length ∧ s.k ≤ 25 ∧ SR s.k s.s s.x) (fun (s : PSt2) => acts.length - s.k) (⟨0, snew 30, rsnew 30⟩) (by simp <;> rfl) ?_ (by simp) (by simp [og_at, og_put, og_at0, og_put0]) ?_ ?_
   ·simp
   ·exact ⟨by simp, by simp, SR.new 30⟩
   rintro ⟨k, s, x⟩ ⟨hk, hk25, hi⟩
   simp only [List.cons_append, List.nil_append, setL_nil, setL_cons, List.set_cons_zero, List.set_cons_succ]
   dsimp only at hk hk25 hi
   refine awp_seq ?_
   refine awp_seq ?_
   refine awp_regionA (c := ⟨[], [], [], [], []⟩) (by simp only [lite_cons, lite_nil] <;> rfl) fun all hall K hK => ?_
   have ga4 : guardOf all 4 = some 22 := hall 4
   clear hall
   refine vcL_split 5 fun K' hK' => ?_
   simp (maxSteps := 1000000) (disch := first | omega | assumption) [og_at, og_put, og_at0, og_put0, sput, ga4]
   repeat' refine And.intro ?_ ?_
   all_goals first | omega | exact rfl | skip
   refine hK' _ ?_
   clear hK' K'
   simp only [List.drop_succ_cons, List.drop_zero]
   refine vcL_bool 22 (by simp <;> rfl) ?_
   refine ⟨fun g3 => ?_, fun g3 => ?_⟩
   ·try simp at g3
    simp (maxSteps := 1000000) (disch := first | omega | assumption) [og_at, og_put, og_at0, og_put0, sput, ga4]
    repeat' refine And.intro ?_ ?_
    all_goals first | omega | exact rfl | skip
    refine hK _ ?_
    clear hK K
    clear ga4
    clear all
    refine q_then_n ?_
    refine awp_ifB (by simp <;> rfl) ?_
    refine ⟨fun c4 => ?_, fun c4 => ?_⟩
    ·try simp at c4
     refine awp_skip ?_
     refine q_then_n ?_
     refine awp_seq ?_
     refine awp_block ?_
     refine awp_seq ?_
     refine awp_keep [0, 1, 5, 6, 7, 8] (by simp only [keepL_nil, keepL_cons, envOf_sel, envOf_nil, sel_t, sel_f, Nat.reduceBEq] <;> rfl) ?_
     refine awp_drawA (c := ⟨[], [], [], [], []⟩) [.op ⟨false, false, false, false⟩, .op ⟨true, false, false, false⟩, .op ⟨false, false, false, false⟩, .op ⟨false, false, false, false⟩, .op ⟨false, false, false, false⟩, .op ⟨false, false, false, false⟩, .det, .op ⟨false, false, false, false⟩, .op ⟨false, false, false, false⟩, .op ⟨false, false, false, false⟩, .op ⟨true, true, false, false⟩, .op ⟨false, false, false, false⟩] (by kernel_rfl) (by kernel_rfl) (by simp only [lite_cons, lite_nil] <;> rfl) fun all hall K hK => ?_
     clear hall
     refine vcDL_split 6 (by simp) fun K' hK' => ?_
     simp (maxSteps := 1000000) (disch := first | omega | assumption) [og_at, og_put, og_at0, og_put0, sput]
     repeat' refine And.intro ?_ ?_
     all_goals first | omega | exact rfl | skip
     refine hK' _ ?_
     clear hK' K'
     simp only [List.drop_succ_cons, List.drop_zero]
     refine vcDL_step fun K' hK' => ?_
     simp (maxSteps := 1000000) (disch := first | omega | assumption) [og_at, og_put, og_at0, og_put0, sput]
     refine ⟨_, _, Ct.of_le (sdo_fn (σ.length + 4) (σ.length + 2) (σ.length + 1) σ.length (σ.length + 3) s x acts[k] _ (SO.lay σ s _) (hi.v.ok (by omega)) (hi.ok (by omega))) (by first | exact leArgs_of rfl | (refine leArgs_of ?_; simp; done) | (refine leArgs_of ?_; simp; rfl) | (simp [leArgs, leArg]; done)) rfl, ?_⟩
     refine hK' _ ?_
     clear hK' K'
     simp (maxSteps := 1000000) (disch := first | omega | assumption) [og_at, og_put, og_at0, og_put0, sput]
     repeat' refine And.intro ?_ ?_
     all_goals first | omega | exact rfl | skip
     refine hK _ ?_
     clear hK K
     clear all
     refine q_then_n ?_
     refine awp_seq ?_
     refine awp_keep [0, 1, 5, 6, 7, 8] (by simp only [keepL_nil, keepL_cons, envOf_sel, envOf_nil, sel_t, sel_f, Nat.reduceBEq] <;> rfl) ?_
     refine awp_regionA (c := ⟨[], [], [], [], []⟩) (by simp only [lite_cons, lite_nil] <;> rfl) fun all hall K hK => ?_
     clear hall
     simp (maxSteps := 1000000) (disch := first | omega | assumption) [og_at, og_put, og_at0, og_put0, sput]
     repeat' refine And.intro ?_ ?_
     all_goals first | omega | exact rfl | skip
     refine hK _ ?_
     clear hK K
     clear all
     refine q_then_n ?_
     refine awp_ifB (by simp <;> rfl) ?_
     refine ⟨fun c5 => ?_, fun c5 => ?_⟩
     ·try simp at c5
      exact absurd (hi.step acts[k]).2 c5
     ·try simp at c5
      refine awp_skip ?_
      refine q_block_n ?_
      refine q_then_n ?_
      refine awp_regionA (c := ⟨[], [], [], [], []⟩) (by simp only [lite_cons, lite_nil] <;> rfl) fun all hall K hK => ?_
      clear hall
      simp (maxSteps := 1000000) (disch := first | omega | assumption) [og_at, og_put, og_at0, og_put0, sput]
      repeat' refine And.intro ?_ ?_
      all_goals first | omega | exact rfl | skip
      refine hK _ ?_
      clear hK K
      clear all
      refine q_round (⟨k + 1, sdo s acts[k], rsdo x acts[k]⟩) ?_ ?_ (weak_mkA rfl ?_ (by simp) (by simp))
      ·exact ⟨by simp at *; omega, by simp at *; omega, (hi.step _).1⟩
      ·try dsimp only
       omega
      ·simp (maxSteps := 1000000) (disch := first | omega | assumption) [og_at, og_put, og_at0, og_put0, sput]
    ·try simp at c4
     refine awp_exit ?_
     refine q_then_e ?_
     refine q_loop_e ?_
     refine q_block_e ?_
     refine q_then_n ?_
     refine awp_seq ?_
     have hi30 : SR (25 + 0) (scl s) x := (hi.mono (show k ≤ 25 + 0 by omega)).clone
     refine awp_freezeBox 6 0 (by simp <;> rfl) (by simp <;> rfl) (by simp) ?_
     simp only [List.map_cons, List.map_nil, s1_v, s1_sl]
     refine awp_keep [1, 5, 6, 7] (by simp only [keepL_nil, keepL_cons, envOf_sel, envOf_nil, sel_t, sel_f, Nat.reduceBEq] <;> rfl) ?_
     refine awp_drawA (c := ⟨[], [], [], [], []⟩) [.op ⟨false, false, false, false⟩, .det, .op ⟨false, false, false, false⟩, .op ⟨true, true, false, false⟩, .op ⟨false, false, false, false⟩, .op ⟨true, true, false, false⟩] (by kernel_rfl) (by kernel_rfl) (by simp only [lite_cons, lite_nil] <;> rfl) fun all hall K hK => ?_
     clear hall
     refine vcDL_split 1 (by simp) fun K' hK' => ?_
     simp (maxSteps := 1000000) (disch := first | omega | assumption) [og_at, og_put, og_at0, og_put0, sput]
     repeat' refine And.intro ?_ ?_
     all_goals first | omega | exact rfl | skip
     refine hK' _ ?_
     clear hK' K'
     simp only [List.drop_succ_cons, List.drop_zero]
     refine vcDL_step fun K' hK' => ?_
     simp (maxSteps := 1000000) (disch := first | omega | assumption) [og_at, og_put, og_at0, og_put0, sput]
     refine ⟨_, _, Ct.of_le (sclone_fn (σ.length + 4) (σ.length + 2) (σ.length + 1) σ.length (σ.length + 3) s _ (SO.lay σ s _) (hi.v.ok (by omega))) (by first | exact leArgs_of rfl | (refine leArgs_of ?_; simp; done) | (refine leArgs_of ?_; simp; rfl) | (simp [leArgs, leArg]; done)) rfl, ?_⟩
     refine hK' _ ?_
     clear hK' K'
     simp (maxSteps := 1000000) (disch := first | omega | assumption) [og_at, og_put, og_at0, og_put0, sput]
     repeat' refine And.intro ?_ ?_
     all_goals first | omega | exact rfl | skip
     refine hK _ ?_
     clear hK K
     clear all
     refine q_then_n ?_
     refine awp_seq ?_
     refine awp_seq ?_
     refine awp_regionA (c := ⟨[], [], [], [], []⟩) (by simp only [lite_cons, lite_nil] <;> rfl) fun all hall K hK => ?_
     clear hall
     simp (maxSteps := 1000000) (disch := first | omega | assumption) [og_at, og_put, og_at0, og_put0, sput]
     repeat' refine And.intro ?_ ?_
     all_goals first | omega | exact rfl | skip
     refine hK _ ?_
     clear hK K
     clear all
     refine q_then_n ?_
     refine awp_ifB (by simp <;> rfl) ?_
     refine ⟨fun c6 => ?_, fun c6 => ?_⟩
     ·simp at c6
     ·try simp at c6
      refine awp_skip ?_
      refine q_then_n ?_
      refine awp_seq ?_
      refine awp_seq ?_
      refine awp_regionA (c := ⟨[], [], [], [], []⟩) (by simp only [lite_cons, lite_nil] <;> rfl) fun all hall K hK => ?_
      clear hall
      simp (maxSteps := 1000000) (disch := first | omega | assumption) [og_at, og_put, og_at0, og_put0, sput]
      repeat' refine And.intro ?_ ?_
      all_goals first | omega | exact rfl | skip
      refine hK _ ?_
      clear hK K
      clear all
      refine q_then_n ?_
      refine awp_block ?_
      refine awp_keep [1, 5, 6, 7, 9, 10, 11] (by simp only [keepL_nil, keepL_cons, envOf_sel, envOf_nil, sel_t, sel_f, Nat.reduceBEq] <;> rfl) ?_
      refine awp_loopM (fun (s : PSt2) => [(11, .d (.int s.k)), (7, .d (.any))]) (fun (s : PSt2) => [(1, [D.int s.x.now, D.int s.x.most, D.int s.x.wheel.most, D.int s.x.wheel.last, .sl false (s.x.wheel.l.map d_Tm), D.int s.x.queue.most, D.int s.x.queue.last, .sl false (s.x.queue.l.map d_Wt)])]) (fun (s : PSt2) => [(σ.length + 6, dhp (σ.length + 5) s.s.t.h), (σ.length + 7, dwh (σ.length + 6) s.s.t), (σ.length + 11, dqq s.s.q), (σ.length + 12, dss (σ.length + 7) (σ.length + 11) s.s)]) [4, 7, 11, 45, 46, 47, 48, 49, 50, 51, 52, 53, 54, 55, 56, 57, 58, 59, 60, 61, 62, 63, 64, 65, 66] (fun (s : PSt2) => s.k ≤ more.length ∧ s.k ≤ 25 ∧ SR (25 + s.k) s.s s.x) (fun (s : PSt2) => more.length - s.k) (⟨0, scl s, x⟩) (by simp <;> rfl) ?_ (by simp) (by simp [og_at, og_put, og_at0, og_put0]) ?_ ?_
      ·simp
      ·exact ⟨by simp, by simp, hi30⟩
      rintro ⟨k2, s2, x2⟩ ⟨hk2, hk225, hi2⟩
      simp only [List.cons_append, List.nil_append, setL_nil, setL_cons, List.set_cons_zero, List.set_cons_succ]
      dsimp only at hk2 hk225 hi2
      refine awp_seq ?_
      refine awp_seq ?_
      refine awp_regionA (c := ⟨[], [], [], [], []⟩) (by simp only [lite_cons, lite_nil] <;> rfl) fun all hall K hK => ?_
      have ga4 : guardOf all 4 = some 49 := hall 4
      clear hall
      refine vcL_split 5 fun K' hK' => ?_
      simp (maxSteps := 1000000) (disch := first | omega | assumption) [og_at, og_put, og_at0, og_put0, sput, ga4]
      repeat' refine And.intro ?_ ?_
      all_goals first | omega | exact rfl | skip
      refine hK' _ ?_
      clear hK' K'
      simp only [List.drop_succ_cons, List.drop_zero]
      refine vcL_bool 49 (by simp <;> rfl) ?_
      refine ⟨fun g7 => ?_, fun g7 => ?_⟩
      ·try simp at g7
       simp (maxSteps := 1000000) (disch := first | omega | assumption) [og_at, og_put, og_at0, og_put0, sput, ga4]
       repeat' refine And.intro ?_ ?_
       all_goals first | omega | exact rfl | skip
       refine hK _ ?_
       clear hK K
       clear ga4
       clear all
       refine q_then_n ?_
       refine awp_ifB (by simp <;> rfl) ?_
       refine ⟨fun c8 => ?_, fun c8 => ?_⟩
       ·try simp at c8
        refine awp_skip ?_
        refine q_then_n ?_
        refine awp_seq ?_
        refine awp_block ?_
        refine awp_seq ?_
        refine awp_keep [1, 5, 6, 7, 9, 10, 11] (by simp only [keepL_nil, keepL_cons, envOf_sel, envOf_nil, sel_t, sel_f, Nat.reduceBEq] <;> rfl) ?_
        refine awp_drawA (c := ⟨[], [], [], [], []⟩) [.op ⟨false, false, false, false⟩, .op ⟨true, false, false, false⟩, .op ⟨false, false, false, false⟩, .op ⟨false, false, false, false⟩, .op ⟨false, false, false, false⟩, .op ⟨false, false, false, false⟩, .det, .op ⟨false, false, false, false⟩, .op ⟨false, false, false, false⟩, .op ⟨false, false, false, false⟩, .op ⟨true, true, false, false⟩, .op ⟨false, false, false, false⟩] (by kernel_rfl) (by kernel_rfl) (by simp only [lite_cons, lite_nil] <;> rfl) fun all hall K hK => ?_
        clear hall
        refine vcDL_split 6 (by simp) fun K' hK' => ?_
        simp (maxSteps := 1000000) (disch := first | omega | assumption) [og_at, og_put, og_at0, og_put0, sput]
        repeat' refine And.intro ?_ ?_
        all_goals first | omega | exact rfl | skip
        refine hK' _ ?_
        clear hK' K'
        simp only [List.drop_succ_cons, List.drop_zero]
        refine vcDL_step fun K' hK' => ?_
        simp (maxSteps := 1000000) (disch := first | omega | assumption) [og_at, og_put, og_at0, og_put0, sput]
        refine ⟨_, _, Ct.of_le (sdo_fn (σ.length + 12) (σ.length + 7) (σ.length + 6) (σ.length + 5) (σ.length + 11) s2 x2 more[k2] _ (SO.lay2 σ s s2 _) (hi2.v.ok (by omega)) (hi2.ok (by omega))) (by first | exact leArgs_of rfl | (refine leArgs_of ?_; simp; done) | (refine leArgs_of ?_; simp; rfl) | (simp [leArgs, leArg]; done)) rfl, ?_⟩
        refine hK' _ ?_
        clear hK' K'
        simp (maxSteps := 1000000) (disch := first | omega | assumption) [og_at, og_put, og_at0, og_put0, sput]
        repeat' refine And.intro ?_ ?_
        all_goals first | omega | exact rfl | skip
        refine hK _ ?_
        clear hK K
        clear all
        refine q_then_n ?_
        refine awp_seq ?_
        refine awp_keep [1, 5, 6, 7, 9, 10, 11] (by simp only [keepL_nil, keepL_cons, envOf_sel, envOf_nil, sel_t, sel_f, Nat.reduceBEq] <;> rfl) ?_
        refine awp_regionA (c := ⟨[], [], [], [], []⟩) (by simp only [lite_cons, lite_nil] <;> rfl) fun all hall K hK => ?_
        clear hall
        simp (maxSteps := 1000000) (disch := first | omega | assumption) [og_at, og_put, og_at0, og_put0, sput]
        repeat' refine And.intro ?_ ?_
        all_goals first | omega | exact rfl | skip
        refine hK _ ?_
        clear hK K
        clear all
        refine q_then_n ?_
        refine awp_ifB (by simp <;> rfl) ?_
        refine ⟨fun c9 => ?_, fun c9 => ?_⟩
        ·try simp at c9
         exact absurd (hi2.step more[k2]).2 c9
        ·try simp at c9
         refine awp_skip ?_
         refine q_block_n ?_
         refine q_then_n ?_
         refine awp_regionA (c := ⟨[], [], [], [], []⟩) (by simp only [lite_cons, lite_nil] <;> rfl) fun all hall K hK => ?_
         clear hall
         simp (maxSteps := 1000000) (disch := first | omega | assumption) [og_at, og_put, og_at0, og_put0, sput]
         repeat' refine And.intro ?_ ?_
         all_goals first | omega | exact rfl | skip
         refine hK _ ?_
         clear hK K
         clear all
         refine q_round (⟨k2 + 1, sdo s2 more[k2], rsdo x2 more[k2]⟩) ?_ ?_ (weak_mkA rfl ?_ (by simp) (by simp))
         ·exact ⟨by simp at *; omega, by simp at *; omega, (hi2.step _).1⟩
         ·try dsimp only
          omega
         ·simp (maxSteps := 1000000) (disch := first | omega | assumption) [og_at, og_put, og_at0, og_put0, sput]
       ·try simp at c8
        refine awp_exit ?_
        refine q_then_e ?_
        refine q_loop_e ?_
        refine q_block_e ?_
        refine q_then_n ?_
        refine awp_seq ?_
        refine awp_keep [5, 6, 9, 10] (by simp only [keepL_nil, keepL_cons, envOf_sel, envOf_nil, sel_t, sel_f, Nat.reduceBEq] <;> rfl) ?_
        refine awp_regionA (c := ⟨[], [], [], [], []⟩) (by simp only [lite_cons, lite_nil] <;> rfl) fun all hall K hK => ?_
        have ga3 : guardOf all 3 = some 70 := hall 3
        clear hall
        refine vcL_split 2 fun K' hK' => ?_
        simp (maxSteps := 1000000) (disch := first | omega | assumption) [og_at, og_put, og_at0, og_put0, sput, ga3]
        repeat' refine And.intro ?_ ?_
        all_goals first | omega | exact rfl | skip
        refine hK' _ ?_
        clear hK' K'
        simp only [List.drop_succ_cons, List.drop_zero]
        refine vcL_step fun K' hK' => ?_
        simp (maxSteps := 1000000) (disch := first | omega | assumption) [og_at, og_put, og_at0, og_put0, sput, ga3]
        refine Ct.mono (Ct.of_le (sis_fn (σ.length + 4) (σ.length + 2) (σ.length + 1) σ.length (σ.length + 3) s x 25 _ (SO.lay1 σ s s2 _) (hi.v.ok (by omega)) (hi.mono (by omega)) (by omega)) (by first | exact leArgs_of rfl | (refine leArgs_of ?_; simp; done) | (refine leArgs_of ?_; simp; rfl) | (simp [leArgs, leArg]; done)) rfl) ?_
        rintro _ _ ⟨hr9, hs9⟩
        subst hr9
        replace hs9 := hs9.symm
        subst hs9
        refine hK' _ ?_
        clear hK' K'
        refine vcL_split 1 fun K' hK' => ?_
        simp (maxSteps := 1000000) (disch := first | omega | assumption) [og_at, og_put, og_at0, og_put0, sput, ga3]
        repeat' refine And.intro ?_ ?_
        all_goals first | omega | exact rfl | skip
        refine hK' _ ?_
        clear hK' K'
        simp only [List.drop_succ_cons, List.drop_zero]
        refine vcL_bool 70 (by simp <;> rfl) ?_
        refine ⟨fun g10 => ?_, fun g10 => ?_⟩
        ·try simp at g10
         refine vcL_split 2 fun K' hK' => ?_
         simp (maxSteps := 1000000) (disch := first | omega | assumption) [og_at, og_put, og_at0, og_put0, sput, ga3]
         repeat' refine And.intro ?_ ?_
         all_goals first | omega | exact rfl | skip
         refine hK' _ ?_
         clear hK' K'
         simp only [List.drop_succ_cons, List.drop_zero]
         refine vcL_gt ga3 (by simp <;> rfl) rfl fun K' hK' => ?_
         simp (maxSteps := 1000000) (disch := first | omega | assumption) [og_at, og_put, og_at0, og_put0, sput, ga3]
         refine Ct.mono (Ct.of_le (sis_fn (σ.length + 12) (σ.length + 7) (σ.length + 6) (σ.length + 5) (σ.length + 11) s2 x2 (25 + k2) _ (SO.lay2 σ s s2 _) (hi2.v.ok (by omega)) hi2 (by omega)) (by first | exact leArgs_of rfl | (refine leArgs_of ?_; simp; done) | (refine leArgs_of ?_; simp; rfl) | (simp [leArgs, leArg]; done)) rfl) ?_
         rintro _ _ ⟨hr9, hs9⟩
         subst hr9
         replace hs9 := hs9.symm
         subst hs9
         refine hK' _ ?_
         clear hK' K'
         simp (maxSteps := 1000000) (disch := first | omega | assumption) [og_at, og_put, og_at0, og_put0, sput, ga3]
         repeat' refine And.intro ?_ ?_
         all_goals first | omega | exact rfl | skip
         refine hK _ ?_
         clear hK K
         clear ga3
         clear all
         refine q_then_n ?_
         refine awp_ret ?_
         simp [endQ]
        ·simp at g10
      ·try simp at g7
       simp (maxSteps := 1000000) (disch := first | omega | assumption) [og_at, og_put, og_at0, og_put0, sput, ga4]
       repeat' refine And.intro ?_ ?_
       all_goals first | omega | exact rfl | skip
       refine hK _ ?_
       clear hK K
       clear ga4
       clear all
       refine q_then_n ?_
       refine awp_cond (t := false) (by simp) (fun h => by cases h) (fun _ => ?_)
       refine awp_exit ?_
       refine q_then_e ?_
       refine q_loop_e ?_
       refine q_block_e ?_
       refine q_then_n ?_
       refine awp_seq ?_
       refine awp_keep [5, 6, 9, 10] (by simp only [keepL_nil, keepL_cons, envOf_sel, envOf_nil, sel_t, sel_f, Nat.reduceBEq] <;> rfl) ?_
       refine awp_regionA (c := ⟨[], [], [], [], []⟩) (by simp only [lite_cons, lite_nil] <;> rfl) fun all hall K hK => ?_
       have ga3 : guardOf all 3 = some 70 := hall 3
       clear hall
       refine vcL_split 2 fun K' hK' => ?_
       simp (maxSteps := 1000000) (disch := first | omega | assumption) [og_at, og_put, og_at0, og_put0, sput, ga3]
       repeat' refine And.intro ?_ ?_
       all_goals first | omega | exact rfl | skip
       refine hK' _ ?_
       clear hK' K'
       simp only [List.drop_succ_cons, List.drop_zero]
       refine vcL_step fun K' hK' => ?_
       simp (maxSteps := 1000000) (disch := first | omega | assumption) [og_at, og_put, og_at0, og_put0, sput, ga3]
       refine Ct.mono (Ct.of_le (sis_fn (σ.length + 4) (σ.length + 2) (σ.length + 1) σ.length (σ.length + 3) s x 25 _ (SO.lay1 σ s s2 _) (hi.v.ok (by omega)) (hi.mono (by omega)) (by omega)) (by first | exact leArgs_of rfl | (refine leArgs_of ?_; simp; done) | (refine leArgs_of ?_; simp; rfl) | (simp [leArgs, leArg]; done)) rfl) ?_
       rintro _ _ ⟨hr9, hs9⟩
       subst hr9
       replace hs9 := hs9.symm
       subst hs9
       refine hK' _ ?_
       clear hK' K'
       refine vcL_split 1 fun K' hK' => ?_
       simp (maxSteps := 1000000) (disch := first | omega | assumption) [og_at, og_put, og_at0, og_put0, sput, ga3]
       repeat' refine And.intro ?_ ?_
       all_goals first | omega | exact rfl | skip
       refine hK' _ ?_
       clear hK' K'
       simp only [List.drop_succ_cons, List.drop_zero]
       refine vcL_bool 70 (by simp <;> rfl) ?_
       refine ⟨fun g11 => ?_, fun g11 => ?_⟩
       ·try simp at g11
        refine vcL_split 2 fun K' hK' => ?_
        simp (maxSteps := 1000000) (disch := first | omega | assumption) [og_at, og_put, og_at0, og_put0, sput, ga3]
        repeat' refine And.intro ?_ ?_
        all_goals first | omega | exact rfl | skip
        refine hK' _ ?_
        clear hK' K'
        simp only [List.drop_succ_cons, List.drop_zero]
        refine vcL_gt ga3 (by simp <;> rfl) rfl fun K' hK' => ?_
        simp (maxSteps := 1000000) (disch := first | omega | assumption) [og_at, og_put, og_at0, og_put0, sput, ga3]
        refine Ct.mono (Ct.of_le (sis_fn (σ.length + 12) (σ.length + 7) (σ.length + 6) (σ.length + 5) (σ.length + 11) s2 x2 (25 + k2) _ (SO.lay2 σ s s2 _) (hi2.v.ok (by omega)) hi2 (by omega)) (by first | exact leArgs_of rfl | (refine leArgs_of ?_; simp; done) | (refine leArgs_of ?_; simp; rfl) | (simp [leArgs, leArg]; done)) rfl) ?_
        rintro _ _ ⟨hr9, hs9⟩
        subst hr9
        replace hs9 := hs9.symm
        subst hs9
        refine hK' _ ?_
        clear hK' K'
        simp (maxSteps := 1000000) (disch := first | omega | assumption) [og_at, og_put, og_at0, og_put0, sput, ga3]
        repeat' refine And.intro ?_ ?_
        all_goals first | omega | exact rfl | skip
        refine hK _ ?_
        clear hK K
        clear ga3
        clear all
        refine q_then_n ?_
        refine awp_ret ?_
        simp [endQ]
       ·simp at g11
   ·try simp at g3
    simp (maxSteps := 1000000) (disch := first | omega | assumption) [og_at, og_put, og_at0, og_put0, sput, ga4]
    repeat' refine And.intro ?_ ?_
    all_goals first | omega | exact rfl | skip
    refine hK _ ?_
    clear hK K
    clear ga4
    clear all
    refine q_then_n ?_
    refine awp_cond (t := false) (by simp) (fun h => by cases h) (fun _ => ?_)
    refine awp_exit ?_
    refine q_then_e ?_
    refine q_loop_e ?_
    refine q_block_e ?_
    refine q_then_n ?_
    refine awp_seq ?_
    have hi30 : SR (25 + 0) (scl s) x := (hi.mono (show k ≤ 25 + 0 by omega)).clone
    refine awp_freezeBox 6 0 (by simp <;> rfl) (by simp <;> rfl) (by simp) ?_
    simp only [List.map_cons, List.map_nil, s1_v, s1_sl]
    refine awp_keep [1, 5, 6, 7] (by simp only [keepL_nil, keepL_cons, envOf_sel, envOf_nil, sel_t, sel_f, Nat.reduceBEq] <;> rfl) ?_
    refine awp_drawA (c := ⟨[], [], [], [], []⟩) [.op ⟨false, false, false, false⟩, .det, .op ⟨false, false, false, false⟩, .op ⟨true, true, false, false⟩, .op ⟨false, false, false, false⟩, .op ⟨true, true, false, false⟩] (by kernel_rfl) (by kernel_rfl) (by simp only [lite_cons, lite_nil] <;> rfl) fun all hall K hK => ?_
    clear hall
    refine vcDL_split 1 (by simp) fun K' hK' => ?_
    simp (maxSteps := 1000000) (disch := first | omega | assumption) [og_at, og_put, og_at0, og_put0, sput]
    repeat' refine And.intro ?_ ?_
    all_goals first | omega | exact rfl | skip
    refine hK' _ ?_
    clear hK' K'
    simp only [List.drop_succ_cons, List.drop_zero]
    refine vcDL_step fun K' hK' => ?_
    simp (maxSteps := 1000000) (disch := first | omega | assumption) [og_at, og_put, og_at0, og_put0, sput]
    refine ⟨_, _, Ct.of_le (sclone_fn (σ.length + 4) (σ.length + 2) (σ.length + 1) σ.length (σ.length + 3) s _ (SO.lay σ s _) (hi.v.ok (by omega))) (by first | exact leArgs_of rfl | (refine leArgs_of ?_; simp; done) | (refine leArgs_of ?_; simp; rfl) | (simp [leArgs, leArg]; done)) rfl, ?_⟩
    refine hK' _ ?_
    clear hK' K'
    simp (maxSteps := 1000000) (disch := first | omega | assumption) [og_at, og_put, og_at0, og_put0, sput]
    repeat' refine And.intro ?_ ?_
    all_goals first | omega | exact rfl | skip
    refine hK _ ?_
    clear hK K
    clear all
    refine q_then_n ?_
    refine awp_seq ?_
    refine awp_seq ?_
    refine awp_regionA (c := ⟨[], [], [], [], []⟩) (by simp only [lite_cons, lite_nil] <;> rfl) fun all hall K hK => ?_
    clear hall
    simp (maxSteps := 1000000) (disch := first | omega | assumption) [og_at, og_put, og_at0, og_put0, sput]
    repeat' refine And.intro ?_ ?_
    all_goals first | omega | exact rfl | skip
    refine hK _ ?_
    clear hK K
    clear all
    refine q_then_n ?_
    refine awp_ifB (by simp <;> rfl) ?_
    refine ⟨fun c12 => ?_, fun c12 => ?_⟩
    ·simp at c12
    ·try simp at c12
     refine awp_skip ?_
     refine q_then_n ?_
     refine awp_seq ?_
     refine awp_seq ?_
     refine awp_regionA (c := ⟨[], [], [], [], []⟩) (by simp only [lite_cons, lite_nil] <;> rfl) fun all hall K hK => ?_
     clear hall
     simp (maxSteps := 1000000) (disch := first | omega | assumption) [og_at, og_put, og_at0, og_put0, sput]
     repeat' refine And.intro ?_ ?_
     all_goals first | omega | exact rfl | skip
     refine hK _ ?_
     clear hK K
     clear all
     refine q_then_n ?_
     refine awp_block ?_
     refine awp_keep [1, 5, 6, 7, 9, 10, 11] (by simp only [keepL_nil, keepL_cons, envOf_sel, envOf_nil, sel_t, sel_f, Nat.reduceBEq] <;> rfl) ?_
     refine awp_loopM (fun (s : PSt2) => [(11, .d (.int s.k)), (7, .d (.any))]) (fun (s : PSt2) => [(1, [D.int s.x.now, D.int s.x.most, D.int s.x.wheel.most, D.int s.x.wheel.last, .sl false (s.x.wheel.l.map d_Tm), D.int s.x.queue.most, D.int s.x.queue.last, .sl false (s.x.queue.l.map d_Wt)])]) (fun (s : PSt2) => [(σ.length + 6, dhp (σ.length + 5) s.s.t.h), (σ.length + 7, dwh (σ.length + 6) s.s.t), (σ.length + 11, dqq s.s.q), (σ.length + 12, dss (σ.length + 7) (σ.length + 11) s.s)]) [4, 7, 11, 45, 46, 47, 48, 49, 50, 51, 52, 53, 54, 55, 56, 57, 58, 59, 60, 61, 62, 63, 64, 65, 66] (fun (s : PSt2) => s.k ≤ more.length ∧ s.k ≤ 25 ∧ SR (25 + s.k) s.s s.x) (fun (s : PSt2) => more.length - s.k) (⟨0, scl s, x⟩) (by simp <;> rfl) ?_ (by simp) (by simp [og_at, og_put, og_at0, og_put0]) ?_ ?_
     ·simp
     ·exact ⟨by simp, by simp, hi30⟩
     rintro ⟨k2, s2, x2⟩ ⟨hk2, hk225, hi2⟩
     simp only [List.cons_append, List.nil_append, setL_nil, setL_cons, List.set_cons_zero, List.set_cons_succ]
     dsimp only at hk2 hk225 hi2
     refine awp_seq ?_
     refine awp_seq ?_
     refine awp_regionA (c := ⟨[], [], [], [], []⟩) (by simp only [lite_cons, lite_nil] <;> rfl) fun all hall K hK => ?_
     have ga4 : guardOf all 4 = some 49 := hall 4
     clear hall
     refine vcL_split 5 fun K' hK' => ?_
     simp (maxSteps := 1000000) (disch := first | omega | assumption) [og_at, og_put, og_at0, og_put0, sput, ga4]
     repeat' refine And.intro ?_ ?_
     all_goals first | omega | exact rfl | skip
     refine hK' _ ?_
     clear hK' K'
     simp only [List.drop_succ_cons, List.drop_zero]
     refine vcL_bool 49 (by simp <;> rfl) ?_
     refine ⟨fun g13 => ?_, fun g13 => ?_⟩
     ·try simp at g13
      simp (maxSteps := 1000000) (disch := first | omega | assumption) [og_at, og_put, og_at0, og_put0, sput, ga4]
      repeat' refine And.intro ?_ ?_
      all_goals first | omega | exact rfl | skip
      refine hK _ ?_
      clear hK K
      clear ga4
      clear all
      refine q_then_n ?_
      refine awp_ifB (by simp <;> rfl) ?_
      refine ⟨fun c14 => ?_, fun c14 => ?_⟩
      ·try simp at c14
       refine awp_skip ?_
       refine q_then_n ?_
       refine awp_seq ?_
       refine awp_block ?_
       refine awp_seq ?_
       refine awp_keep [1, 5, 6, 7, 9, 10, 11] (by simp only [keepL_nil, keepL_cons, envOf_sel, envOf_nil, sel_t, sel_f, Nat.reduceBEq] <;> rfl) ?_
       refine awp_drawA (c := ⟨[], [], [], [], []⟩) [.op ⟨false, false, false, false⟩, .op ⟨true, false, false, false⟩, .op ⟨false, false, false, false⟩, .op ⟨false, false, false, false⟩, .op ⟨false, false, false, false⟩, .op ⟨false, false, false, false⟩, .det, .op ⟨false, false, false, false⟩, .op ⟨false, false, false, false⟩, .op ⟨false, false, false, false⟩, .op ⟨true, true, false, false⟩, .op ⟨false, false, false, false⟩] (by kernel_rfl) (by kernel_rfl) (by simp only [lite_cons, lite_nil] <;> rfl) fun all hall K hK => ?_
       clear hall
       refine vcDL_split 6 (by simp) fun K' hK' => ?_
       simp (maxSteps := 1000000) (disch := first | omega | assumption) [og_at, og_put, og_at0, og_put0, sput]
       repeat' refine And.intro ?_ ?_
       all_goals first | omega | exact rfl | skip
       refine hK' _ ?_
       clear hK' K'
       simp only [List.drop_succ_cons, List.drop_zero]
       refine vcDL_step fun K' hK' => ?_
       simp (maxSteps := 1000000) (disch := first | omega | assumption) [og_at, og_put, og_at0, og_put0, sput]
       refine ⟨_, _, Ct.of_le (sdo_fn (σ.length + 12) (σ.length + 7) (σ.length + 6) (σ.length + 5) (σ.length + 11) s2 x2 more[k2] _ (SO.lay2 σ s s2 _) (hi2.v.ok (by omega)) (hi2.ok (by omega))) (by first | exact leArgs_of rfl | (refine leArgs_of ?_; simp; done) | (refine leArgs_of ?_; simp; rfl) | (simp [leArgs, leArg]; done)) rfl, ?_⟩
       refine hK' _ ?_
       clear hK' K'
       simp (maxSteps := 1000000) (disch := first | omega | assumption) [og_at, og_put, og_at0, og_put0, sput]
       repeat' refine And.intro ?_ ?_
       all_goals first | omega | exact rfl | skip
       refine hK _ ?_
       clear hK K
       clear all
       refine q_then_n ?_
       refine awp_seq ?_
       refine awp_keep [1, 5, 6, 7, 9, 10, 11] (by simp only [keepL_nil, keepL_cons, envOf_sel, envOf_nil, sel_t, sel_f, Nat.reduceBEq] <;> rfl) ?_
       refine awp_regionA (c := ⟨[], [], [], [], []⟩) (by simp only [lite_cons, lite_nil] <;> rfl) fun all hall K hK => ?_
       clear hall
       simp (maxSteps := 1000000) (disch := first | omega | assumption) [og_at, og_put, og_at0, og_put0, sput]
       repeat' refine And.intro ?_ ?_
       all_goals first | omega | exact rfl | skip
       refine hK _ ?_
       clear hK K
       clear all
       refine q_then_n ?_
       refine awp_ifB (by simp <;> rfl) ?_
       refine ⟨fun c15 => ?_, fun c15 => ?_⟩
       ·try simp at c15
        exact absurd (hi2.step more[k2]).2 c15
       ·try simp at c15
        refine awp_skip ?_
        refine q_block_n ?_
        refine q_then_n ?_
        refine awp_regionA (c := ⟨[], [], [], [], []⟩) (by simp only [lite_cons, lite_nil] <;> rfl) fun all hall K hK => ?_
        clear hall
        simp (maxSteps := 1000000) (disch := first | omega | assumption) [og_at, og_put, og_at0, og_put0, sput]
        repeat' refine And.intro ?_ ?_
        all_goals first | omega | exact rfl | skip
        refine hK _ ?_
        clear hK K
        clear all
        refine q_round (⟨k2 + 1, sdo s2 more[k2], rsdo x2 more[k2]⟩) ?_ ?_ (weak_mkA rfl ?_ (by simp) (by simp))
        ·exact ⟨by simp at *; omega, by simp at *; omega, (hi2.step _).1⟩
        ·try dsimp only
         omega
        ·simp (maxSteps := 1000000) (disch := first | omega | assumption) [og_at, og_put, og_at0, og_put0, sput]
      ·try simp at c14
       refine awp_exit ?_
       refine q_then_e ?_
       refine q_loop_e ?_
       refine q_block_e ?_
       refine q_then_n ?_
       refine awp_seq ?_
       refine awp_keep [5, 6, 9, 10] (by simp only [keepL_nil, keepL_cons, envOf_sel, envOf_nil, sel_t, sel_f, Nat.reduceBEq] <;> rfl) ?_
       refine awp_regionA (c := ⟨[], [], [], [], []⟩) (by simp only [lite_cons, lite_nil] <;> rfl) fun all hall K hK => ?_
       have ga3 : guardOf all 3 = some 70 := hall 3
       clear hall
       refine vcL_split 2 fun K' hK' => ?_
       simp (maxSteps := 1000000) (disch := first | omega | assumption) [og_at, og_put, og_at0, og_put0, sput, ga3]
       repeat' refine And.intro ?_ ?_
       all_goals first | omega | exact rfl | skip
       refine hK' _ ?_
       clear hK' K'
       simp only [List.drop_succ_cons, List.drop_zero]
       refine vcL_step fun K' hK' => ?_
       simp (maxSteps := 1000000) (disch := first | omega | assumption) [og_at, og_put, og_at0, og_put0, sput, ga3]
       refine Ct.mono (Ct.of_le (sis_fn (σ.length + 4) (σ.length + 2) (σ.length + 1) σ.length (σ.length + 3) s x 25 _ (SO.lay1 σ s s2 _) (hi.v.ok (by omega)) (hi.mono (by omega)) (by omega)) (by first | exact leArgs_of rfl | (refine leArgs_of ?_; simp; done) | (refine leArgs_of ?_; simp; rfl) | (simp [leArgs, leArg]; done)) rfl) ?_
       rintro _ _ ⟨hr9, hs9⟩
       subst hr9
       replace hs9 := hs9.symm
       subst hs9
       refine hK' _ ?_
       clear hK' K'
       refine vcL_split 1 fun K' hK' => ?_
       simp (maxSteps := 1000000) (disch := first | omega | assumption) [og_at, og_put, og_at0, og_put0, sput, ga3]
       repeat' refine And.intro ?_ ?_
       all_goals first | omega | exact rfl | skip
       refine hK' _ ?_
       clear hK' K'
       simp only [List.drop_succ_cons, List.drop_zero]
       refine vcL_bool 70 (by simp <;> rfl) ?_
       refine ⟨fun g16 => ?_, fun g16 => ?_⟩
       ·try simp at g16
        refine vcL_split 2 fun K' hK' => ?_
        simp (maxSteps := 1000000) (disch := first | omega | assumption) [og_at, og_put, og_at0, og_put0, sput, ga3]
        repeat' refine And.intro ?_ ?_
        all_goals first | omega | exact rfl | skip
        refine hK' _ ?_
        clear hK' K'
        simp only [List.drop_succ_cons, List.drop_zero]
        refine vcL_gt ga3 (by simp <;> rfl) rfl fun K' hK' => ?_
        simp (maxSteps := 1000000) (disch := first | omega | assumption) [og_at, og_put, og_at0, og_put0, sput, ga3]
        refine Ct.mono (Ct.of_le (sis_fn (σ.length + 12) (σ.length + 7) (σ.length + 6) (σ.length + 5) (σ.length + 11) s2 x2 (25 + k2) _ (SO.lay2 σ s s2 _) (hi2.v.ok (by omega)) hi2 (by omega)) (by first | exact leArgs_of rfl | (refine leArgs_of ?_; simp; done) | (refine leArgs_of ?_; simp; rfl) | (simp [leArgs, leArg]; done)) rfl) ?_
        rintro _ _ ⟨hr9, hs9⟩
        subst hr9
        replace hs9 := hs9.symm
        subst hs9
        refine hK' _ ?_
        clear hK' K'
        simp (maxSteps := 1000000) (disch := first | omega | assumption) [og_at, og_put, og_at0, og_put0, sput, ga3]
        repeat' refine And.intro ?_ ?_
        all_goals first | omega | exact rfl | skip
        refine hK _ ?_
        clear hK K
        clear ga3
        clear all
        refine q_then_n ?_
        refine awp_ret ?_
        simp [endQ]
       ·simp at g16
     ·try simp at g13
      simp (maxSteps := 1000000) (disch := first | omega | assumption) [og_at, og_put, og_at0, og_put0, sput, ga4]
      repeat' refine And.intro ?_ ?_
      all_goals first | omega | exact rfl | skip
      refine hK _ ?_
      clear hK K
      clear ga4
      clear all
      refine q_then_n ?_
      refine awp_cond (t := false) (by simp) (fun h => by cases h) (fun _ => ?_)
      refine awp_exit ?_
      refine q_then_e ?_
      refine q_loop_e ?_
      refine q_block_e ?_
      refine q_then_n ?_
      refine awp_seq ?_
      refine awp_keep [5, 6, 9, 10] (by simp only [keepL_nil, keepL_cons, envOf_sel, envOf_nil, sel_t, sel_f, Nat.reduceBEq] <;> rfl) ?_
      refine awp_regionA (c := ⟨[], [], [], [], []⟩) (by simp only [lite_cons, lite_nil] <;> rfl) fun all hall K hK => ?_
      have ga3 : guardOf all 3 = some 70 := hall 3
      clear hall
      refine vcL_split 2 fun K' hK' => ?_
      simp (maxSteps := 1000000) (disch := first | omega | assumption) [og_at, og_put, og_at0, og_put0, sput, ga3]
      repeat' refine And.intro ?_ ?_
      all_goals first | omega | exact rfl | skip
      refine hK' _ ?_
      clear hK' K'
      simp only [List.drop_succ_cons, List.drop_zero]
      refine vcL_step fun K' hK' => ?_
      simp (maxSteps := 1000000) (disch := first | omega | assumption) [og_at, og_put, og_at0, og_put0, sput, ga3]
      refine Ct.mono (Ct.of_le (sis_fn (σ.length + 4) (σ.length + 2) (σ.length + 1) σ.length (σ.length + 3) s x 25 _ (SO.lay1 σ s s2 _) (hi.v.ok (by omega)) (hi.mono (by omega)) (by omega)) (by first | exact leArgs_of rfl | (refine leArgs_of ?_; simp; done) | (refine leArgs_of ?_; simp; rfl) | (simp [leArgs, leArg]; done)) rfl) ?_
      rintro _ _ ⟨hr9, hs9⟩
      subst hr9
      replace hs9 := hs9.symm
      subst hs9
      refine hK' _ ?_
      clear hK' K'
      refine vcL_split 1 fun K' hK' => ?_
      simp (maxSteps := 1000000) (disch := first | omega | assumption) [og_at, og_put, og_at0, og_put0, sput, ga3]
      repeat' refine And.intro ?_ ?_
      all_goals first | omega | exact rfl | skip
      refine hK' _ ?_
      clear hK' K'
      simp only [List.drop_succ_cons, List.drop_zero]
      refine vcL_bool 70 (by simp <;> rfl) ?_
      refine ⟨fun g17 => ?_, fun g17 => ?_⟩
      ·try simp at g17
       refine vcL_split 2 fun K' hK' => ?_
       simp (maxSteps := 1000000) (disch := first | omega | assumption) [og_at, og_put, og_at0, og_put0, sput, ga3]
       repeat' refine And.intro ?_ ?_
       all_goals first | omega | exact rfl | skip
       refine hK' _ ?_
       clear hK' K'
       simp only [List.drop_succ_cons, List.drop_zero]
       refine vcL_gt ga3 (by simp <;> rfl) rfl fun K' hK' => ?_
       simp (maxSteps := 1000000) (disch := first | omega | assumption) [og_at, og_put, og_at0, og_put0, sput, ga3]
       refine Ct.mono (Ct.of_le (sis_fn (σ.length + 12) (σ.length + 7) (σ.length + 6) (σ.length + 5) (σ.length + 11) s2 x2 (25 + k2) _ (SO.lay2 σ s s2 _) (hi2.v.ok (by omega)) hi2 (by omega)) (by first | exact leArgs_of rfl | (refine leArgs_of ?_; simp; done) | (refine leArgs_of ?_; simp; rfl) | (simp [leArgs, leArg]; done)) rfl) ?_
       rintro _ _ ⟨hr9, hs9⟩
       subst hr9
       replace hs9 := hs9.symm
       subst hs9
       refine hK' _ ?_
       clear hK' K'
       simp (maxSteps := 1000000) (disch := first | omega | assumption) [og_at, og_put, og_at0, og_put0, sput, ga3]
       repeat' refine And.intro ?_ ?_
       all_goals first | omega | exact rfl | skip
       refine hK _ ?_
       clear hK K
       clear ga3
       clear all
       refine q_then_n ?_
       refine awp_ret ?_
       simp [endQ]
      ·simp at g17
end Go.Proofs.Ytnlokhfcgaikiaa

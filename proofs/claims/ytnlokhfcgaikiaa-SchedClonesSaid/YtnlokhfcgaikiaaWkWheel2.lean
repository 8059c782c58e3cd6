import Derived.Test.YtnlokhfcgaikiaaWkWheel
namespace Go.Proofs.Ytnlokhfcgaikiaa
open Go Go.Vm
set_option maxRecDepth 20000
set_option linter.all false
set_option maxHeartbeats 8000000
theorem tm_scl (N : Nat) (t : Tm) : Sc N (d_Tm t) := Sc.agg (by intro d hd; simp only [List.mem_cons, List.not_mem_nil, or_false] at hd; rcases hd with rfl | rfl | rfl | rfl <;> exact Sc.v _)
theorem sc_dhp (N M : Nat) (hM : M < N) (h : HP) : ∀ d ∈ dhp M h, Sc N d := by
 intro d hd
 simp only [dhp, List.mem_cons, List.not_mem_nil, or_false] at hd
 rcases hd with rfl | rfl
 ·exact tm_sc _ _
 ·refine Sc.mp hM fun k s d hm => ?_
  obtain ⟨e, _, he⟩ := List.mem_map.1 hm
  simp only [kvD, Prod.mk.injEq] at he
  obtain ⟨_, _, rfl⟩ := he
  exact Sc.v _
theorem trim_set {σ : List (List D)} {m N : Nat} {a : List D} (h : ∀ d ∈ a, Sc N d) : ∀ (n : Nat) (cs : List D), (σ.set m a)[n]? = some cs → σ[n]? = some cs ∨ ∀ d ∈ cs, Sc N d := by
 intro n cs hn
 rw [List.getElem?_set] at hn
 split at hn
 ·rename_i e
  subst e
  split at hn
  ·simp only [Option.some.injEq] at hn; subst hn; exact .inr h
  ·cases hn
 ·exact .inl hn
theorem pile_close {f : FuncId} {args : List D} {σ : List (List D)} {m M : Nat} {x : List D} {h' : HP} {rv : D} (hM : M < σ.length) (hm : σ[m]? = some x) (hsc : Sc σ.length rv)
  (hc : Ct Try.prog f args σ (fun r σ' => r = rv ∧ ∃ cap ds, σ' = σ.set m (dho σ.length cap M h') ++ [ds] ∧ ds.length = cap * 4 ∧ h'.ts.flatMap ct <+: ds)) : Ct Try.prog f args σ (fun r σ' => r = rv ∧ σ' = σ.set m (dhp M h')) := by
 refine Ct.trim (Ct.closeXO hc (Q' := fun r σ' => r = rv ∧ σ' = σ.set m (dhp M h') ++ [[]]) ?_) ?_
 ·rintro r σ' ⟨rfl, cap, ds, rfl, h1, h2⟩
  refine ⟨m, 0, 4, σ.length, h'.ts.length, cap, h'.ts.map d_Tm, dho σ.length cap M h', ds, ⟨og_app hm _ _, rfl, by rw [og_last], by have := og_lt hm; omega, by decide, h1, by simp, tm_arr _, by rw [tm_flat]; exact h2⟩, rfl, ?_⟩
  rw [og_set hm, og_setlast]; rfl
 ·rintro r σ' ⟨rfl, rfl⟩
  exact ⟨_, [[]], rfl, by simp, hsc, trim_set (sc_dhp _ _ hM _), rfl, rfl⟩
theorem hpush_len (h : HP) (t : Tm) : (hpush h t).ts.length = h.ts.length + 1 := by simp [hpush]
def hPush (h : HP) (t : Tm) : HP := hup (hpush h t) h.ts.length
theorem flat_len (l : List Tm) (rest : List D) (cap : Nat) (hc : l.length ≤ cap) (hr : rest.length = (cap - l.length) * 4) : (l.flatMap ct ++ rest).length = cap * 4 := by
 rw [List.length_append, tm_len, hr]; omega
theorem hPush0_fn (m M : Nat) (h : HP) (t : Tm) (σ : List (List D)) (hq : σ[m]? = some (dhp M h)) (hk : HPok h) (hf : t.token ∉ toks h) (hc : h.ts.length < 100000) : Ct Try.prog 32 [.ifc 76 (.ref m 0), .ifc 36 (d_Tm t)] σ (fun r σ' => r = .tup [] ∧ ∃ cap ds, σ' = σ.set m (dho σ.length cap M (hPush h t)) ++ [ds] ∧ ds.length = cap * 4 ∧ (hPush h t).ts.flatMap ct <+: ds) := by
 refine fn_start (rs := []) Try.func32 rfl rfl Try.ntmps32 Try.results32 (by simp) ?_
 simp only [argEnv]
 have hk2 := hk.push hf hc
 have hb := hk2.len
 have hl3 := hup_ok (h := hpush h t) (j := h.ts.length) hk2 (by rw [hpush_len]; omega)
 refine awp_seq ?_
 refine awp_regionA (c := ⟨[], [], [], [], []⟩) (by simp only [lite_cons, lite_nil] <;> rfl) fun all hall K hK => ?_
 clear hall
 refine vcL_split 2 fun K' hK' => ?_
 simp (maxSteps := 1000000) (disch := first | omega | assumption)
 repeat' refine And.intro ?_ ?_
 all_goals first | omega | exact rfl | skip
 refine hK' _ ?_
 clear hK' K'
 simp only [List.drop_succ_cons, List.drop_zero]
 refine vcL_step fun K' hK' => ?_
 simp (maxSteps := 1000000) (disch := first | omega | assumption)
 refine ⟨_, mi76_Push, Ct.mono (Ct.of_le (ppush_fn m M h t _ hq hk (fun h9 => hf (hk.key_iff.1 h9)) hc) (by first | exact leArgs_of rfl | (refine leArgs_of ?_; simp; done) | (refine leArgs_of ?_; simp; rfl) | (simp [leArgs, leArg]; done)) rfl) ?_⟩
 rintro _ _ ⟨hr9, hs9⟩
 subst hr9
 replace hs9 := hs9.symm
 subst hs9
 refine hK' _ ?_
 clear hK' K'
 simp only [vcL_nil]
 refine hK _ ?_
 clear hK K
 clear all
 refine q_then_n ?_
 refine awp_openXO m 0 4 (og_get hq _) (by simp <;> rfl) (by decide) fun cap rest hcap hcm hrest hes => ?_
 simp only [List.length_map, List.set_set, List.length_set, List.set_cons_zero, List.set_cons_succ] at hcap hrest ⊢
 rw [tm_flat]
 have hmA : σ.length ≠ m := by have := og_lt hq; omega
 refine awp_regionA (c := ⟨[], [], [], [], []⟩) (by simp only [lite_cons, lite_nil] <;> rfl) fun all hall K hK => ?_
 clear hall
 refine vcL_split 2 fun K' hK' => ?_
 simp (maxSteps := 1000000) (disch := first | omega | assumption)
 repeat' refine And.intro ?_ ?_
 all_goals first | omega | exact rfl | skip
 refine hK' _ ?_
 clear hK' K'
 simp only [List.drop_succ_cons, List.drop_zero]
 refine vcL_step fun K' hK' => ?_
 simp (maxSteps := 1000000) (disch := first | omega | assumption)
 refine ⟨_, mi76_Len, Ct.mono (Ct.of_le (plenO_fn m M σ.length cap rest (hpush h t) _ (og_app hq _ _) (by rw [og_last]) hmA hk2) (by first | exact leArgs_of rfl | (refine leArgs_of ?_; simp; done) | (refine leArgs_of ?_; simp; rfl) | (simp [leArgs, leArg]; done)) rfl) ?_⟩
 rintro _ _ ⟨hr9, hs9⟩
 subst hr9
 replace hs9 := hs9.symm
 subst hs9
 refine hK' _ ?_
 clear hK' K'
 refine vcL_split 1 fun K' hK' => ?_
 simp (maxSteps := 1000000) (disch := first | omega | assumption)
 repeat' refine And.intro ?_ ?_
 all_goals first | omega | exact rfl | skip
 refine hK' _ ?_
 clear hK' K'
 simp only [List.drop_succ_cons, List.drop_zero]
 refine vcL_step fun K' hK' => ?_
 simp (maxSteps := 1000000) (disch := first | omega | assumption)
 rw [show ((hpush h t).ts.length : Int) - 1 = (h.ts.length : Int) from by rw [hpush_len]; omega]
 refine Ct.mono (Ct.of_le (up_fn m M σ.length cap rest (hpush h t) h.ts.length _ (og_app hq _ _) (by rw [og_last]) hmA hk2 (by rw [hpush_len]; omega)) (by first | exact leArgs_of rfl | (refine leArgs_of ?_; simp; done) | (refine leArgs_of ?_; simp; rfl) | (simp [leArgs, leArg]; done)) rfl) ?_
 rintro _ _ ⟨hr9, hs9⟩
 subst hr9
 replace hs9 := hs9.symm
 subst hs9
 refine hK' _ ?_
 clear hK' K'
 simp only [vcL_nil]
 refine hK _ ?_
 clear hK K
 clear all
 try simp only [og_setlast, og_set hq]
 simp [endQ]
 exact ⟨cap, _, ⟨rfl, rfl⟩, flat_len _ _ _ (by omega) (by rw [hrest] <;> omega), List.prefix_append _ _⟩
theorem hPush_fn (m M : Nat) (h : HP) (t : Tm) (σ : List (List D)) (hq : σ[m]? = some (dhp M h)) (hk : HPok h) (hf : t.token ∉ toks h) (hc : h.ts.length < 100000) (hM : M < σ.length) : Ct Try.prog 32 [.ifc 76 (.ref m 0), .ifc 36 (d_Tm t)] σ (fun r σ' => r = .tup [] ∧ σ' = σ.set m (dhp M (hPush h t))) :=
 pile_close hM hq (Sc.tup (by simp)) (hPush0_fn m M h t σ hq hk hf hc)
theorem hPush_ok {h : HP} (hk : HPok h) {t : Tm} (hf : t.token ∉ toks h) (hc : h.ts.length < 100000) : HPok (hPush h t) ∧ (hPush h t).ts.length = h.ts.length + 1 := by
 obtain ⟨a, b⟩ := hup_ok (h := hpush h t) (j := h.ts.length) (hk.push hf hc) (by rw [hpush_len]; omega)
 exact ⟨a, by unfold hPush; rw [b, hpush_len]⟩
def hPop0 (h : HP) : HP := (hdown (hswap h 0 (h.ts.length - 1)) 0 (h.ts.length - 1)).1
def hPop (h : HP) : HP := hcut (hPop0 h)
theorem hPop0_ok {h : HP} (hk : HPok h) (h0 : 0 < h.ts.length) : HPok (hPop0 h) ∧ (hPop0 h).ts.length = h.ts.length := by
 obtain ⟨a, b⟩ := hdown_ok (h := hswap h 0 (h.ts.length - 1)) (i := 0) (n := h.ts.length - 1) (hk.swap h0 (by omega)) (by omega) (by rw [hswap_len]; omega)
 exact ⟨a, by unfold hPop0; rw [b, hswap_len]⟩
def hRem0 (h : HP) (i : Nat) : HP :=
 if h.ts.length - 1 = i then h else if i < (hdown (hswap h i (h.ts.length - 1)) i (h.ts.length - 1)).2 then (hdown (hswap h i (h.ts.length - 1)) i (h.ts.length - 1)).1 else hup (hdown (hswap h i (h.ts.length - 1)) i (h.ts.length - 1)).1 i
def hRem (h : HP) (i : Nat) : HP := hcut (hRem0 h i)
theorem hdn_ok {h : HP} (hk : HPok h) {i : Nat} (hi : i < h.ts.length) : HPok (hdown (hswap h i (h.ts.length - 1)) i (h.ts.length - 1)).1 ∧ (hdown (hswap h i (h.ts.length - 1)) i (h.ts.length - 1)).1.ts.length = h.ts.length := by
 obtain ⟨a, b⟩ := hdown_ok (h := hswap h i (h.ts.length - 1)) (i := i) (n := h.ts.length - 1) (hk.swap hi (by omega)) (by omega) (by rw [hswap_len]; omega)
 exact ⟨a, by rw [b, hswap_len]⟩
theorem hRem0_ok {h : HP} (hk : HPok h) {i : Nat} (hi : i < h.ts.length) : HPok (hRem0 h i) ∧ (hRem0 h i).ts.length = h.ts.length := by
 obtain ⟨a, b⟩ := hdn_ok hk hi
 unfold hRem0
 split
 ·exact ⟨hk, rfl⟩
 ·split
  ·exact ⟨a, b⟩
  ·obtain ⟨c, d⟩ := hup_ok (j := i) a (by omega)
   exact ⟨c, by rw [d, b]⟩
theorem hcut_len (h : HP) : (hcut h).ts.length = h.ts.length - 1 := by simp [hcut]
theorem cut_prefix (h : HP) (rest : List D) : (hcut h).ts.flatMap ct <+: h.ts.flatMap ct ++ rest := by
 refine List.IsPrefix.trans ?_ (List.prefix_append _ _)
 obtain ⟨s, hs⟩ := List.take_prefix (h.ts.length - 1) h.ts
 exact ⟨s.flatMap ct, by rw [← List.flatMap_append]; exact congrArg _ hs⟩
theorem hPop0_fn (m M : Nat) (h : HP) (σ : List (List D)) (hq : σ[m]? = some (dhp M h)) (hk : HPok h) (h0 : 0 < h.ts.length) : Ct Try.prog 33 [.ifc 76 (.ref m 0)] σ (fun r σ' => r = .ifc 36 (d_Tm (at_ (hPop0 h).ts ((hPop0 h).ts.length - 1))) ∧ ∃ cap ds, σ' = σ.set m (dho σ.length cap M (hcut (hPop0 h))) ++ [ds] ∧ ds.length = cap * 4 ∧ (hcut (hPop0 h)).ts.flatMap ct <+: ds) := by
 refine fn_start (rs := [.tmp 2]) Try.func33 rfl rfl Try.ntmps33 Try.results33 (by simp) ?_
 simp only [argEnv]
 have hb := hk.len
 have hsw := hk.swap (i := 0) (j := h.ts.length - 1) h0 (by omega)
 have hp0 := hPop0_ok hk h0
 have hp1 : (hdown (hswap h 0 (h.ts.length - 1)) 0 (h.ts.length - 1)).1.ts.length = h.ts.length := hp0.2
 refine awp_openXO m 0 4 (hq) (by simp <;> rfl) (by decide) fun cap rest hcap hcm hrest hes => ?_
 simp only [List.length_map, List.set_set, List.length_set, List.set_cons_zero, List.set_cons_succ] at hcap hrest ⊢
 rw [tm_flat]
 have hmA : σ.length ≠ m := by have := og_lt hq; omega
 refine awp_seq ?_
 refine awp_regionA (c := ⟨[], [], [], [], []⟩) (by simp only [lite_cons, lite_nil] <;> rfl) fun all hall K hK => ?_
 clear hall
 simp (maxSteps := 1000000) (disch := first | omega | assumption) [og_setlast, og_set hq]
 repeat' refine And.intro ?_ ?_
 all_goals first | omega | exact rfl | skip
 refine hK _ ?_
 clear hK K
 clear all
 refine q_then_n ?_
 refine awp_seq ?_
 refine awp_regionA (c := ⟨[], [], [], [], []⟩) (by simp only [lite_cons, lite_nil] <;> rfl) fun all hall K hK => ?_
 clear hall
 refine vcL_split 1 fun K' hK' => ?_
 simp (maxSteps := 1000000) (disch := first | omega | assumption) [og_setlast, og_set hq]
 repeat' refine And.intro ?_ ?_
 all_goals first | omega | exact rfl | skip
 refine hK' _ ?_
 clear hK' K'
 simp only [List.drop_succ_cons, List.drop_zero]
 refine vcL_step fun K' hK' => ?_
 simp (maxSteps := 1000000) (disch := first | omega | assumption) [og_setlast, og_set hq]
 refine ⟨_, mi76_Len, Ct.mono (Ct.of_le (plenO_fn m M σ.length cap rest h _ (og_app hq _ _) (by rw [og_last] <;> rfl) hmA hk) (by first | exact leArgs_of rfl | (refine leArgs_of ?_; simp; done) | (refine leArgs_of ?_; simp; rfl) | (simp [leArgs, leArg]; done)) rfl) ?_⟩
 rintro _ _ ⟨hr9, hs9⟩
 subst hr9
 replace hs9 := hs9.symm
 subst hs9
 refine hK' _ ?_
 clear hK' K'
 simp (maxSteps := 1000000) (disch := first | omega | assumption) [og_setlast, og_set hq]
 repeat' refine And.intro ?_ ?_
 all_goals first | omega | exact rfl | skip
 refine hK _ ?_
 clear hK K
 clear all
 refine q_then_n ?_
 refine awp_seq ?_
 refine awp_regionA (c := ⟨[], [], [], [], []⟩) (by simp only [lite_cons, lite_nil] <;> rfl) fun all hall K hK => ?_
 clear hall
 refine vcL_split 2 fun K' hK' => ?_
 simp (maxSteps := 1000000) (disch := first | omega | assumption) [og_setlast, og_set hq]
 repeat' refine And.intro ?_ ?_
 all_goals first | omega | exact rfl | skip
 refine hK' _ ?_
 clear hK' K'
 simp only [List.drop_succ_cons, List.drop_zero]
 refine vcL_step fun K' hK' => ?_
 simp (maxSteps := 1000000) (disch := first | omega | assumption) [og_setlast, og_set hq]
 rw [show ((h.ts.length : Int) - 1) = ((h.ts.length - 1 : Nat) : Int) from by omega]
 refine ⟨_, mi76_Swap, Ct.mono (Ct.of_le (pswap_fn m M σ.length cap rest h 0 (h.ts.length - 1) _ (og_app hq _ _) (by rw [og_last] <;> rfl) hmA hk h0 (by omega)) (by first | exact leArgs_of rfl | (refine leArgs_of ?_; simp; done) | (refine leArgs_of ?_; simp; rfl) | (simp [leArgs, leArg]; done)) rfl) ?_⟩
 rintro _ _ ⟨hr9, hs9⟩
 subst hr9
 replace hs9 := hs9.symm
 subst hs9
 refine hK' _ ?_
 clear hK' K'
 simp only [vcL_nil]
 refine hK _ ?_
 clear hK K
 clear all
 refine q_then_n ?_
 refine awp_seq ?_
 refine awp_regionA (c := ⟨[], [], [], [], []⟩) (by simp only [lite_cons, lite_nil] <;> rfl) fun all hall K hK => ?_
 clear hall
 refine vcL_split 2 fun K' hK' => ?_
 simp (maxSteps := 1000000) (disch := first | omega | assumption) [og_setlast, og_set hq]
 repeat' refine And.intro ?_ ?_
 all_goals first | omega | exact rfl | skip
 refine hK' _ ?_
 clear hK' K'
 simp only [List.drop_succ_cons, List.drop_zero]
 refine vcL_step fun K' hK' => ?_
 simp (maxSteps := 1000000) (disch := first | omega | assumption) [og_setlast, og_set hq]
 refine Ct.mono (Ct.of_le (down_fn m M σ.length cap rest (hswap h 0 (h.ts.length - 1)) 0 (h.ts.length - 1) _ (og_app hq _ _) (by rw [og_last] <;> rfl) hmA hsw (by omega) (by rw [hswap_len]; omega)) (by first | exact leArgs_of rfl | (refine leArgs_of ?_; simp; done) | (refine leArgs_of ?_; simp; rfl) | (simp [leArgs, leArg]; done)) rfl) ?_
 rintro _ _ ⟨hr9, hs9⟩
 subst hr9
 replace hs9 := hs9.symm
 subst hs9
 refine hK' _ ?_
 clear hK' K'
 simp only [vcL_nil]
 refine hK _ ?_
 clear hK K
 clear all
 refine q_then_n ?_
 refine awp_seq ?_
 refine awp_regionA (c := ⟨[], [], [], [], []⟩) (by simp only [lite_cons, lite_nil] <;> rfl) fun all hall K hK => ?_
 clear hall
 refine vcL_split 1 fun K' hK' => ?_
 simp (maxSteps := 1000000) (disch := first | omega | assumption) [og_setlast, og_set hq]
 repeat' refine And.intro ?_ ?_
 all_goals first | omega | exact rfl | skip
 refine hK' _ ?_
 clear hK' K'
 simp only [List.drop_succ_cons, List.drop_zero]
 refine vcL_step fun K' hK' => ?_
 simp (maxSteps := 1000000) (disch := first | omega | assumption) [og_setlast, og_set hq]
 refine ⟨_, mi76_Pop, Ct.mono (Ct.of_le (ppop_fn m M σ.length cap rest (hPop0 h) _ (og_app hq _ _) (by rw [og_last] <;> rfl) hmA hp0.1 (by omega)) (by first | exact leArgs_of rfl | (refine leArgs_of ?_; simp; done) | (refine leArgs_of ?_; simp; rfl) | (simp [leArgs, leArg]; done)) rfl) ?_⟩
 rintro _ _ ⟨hr9, hs9⟩
 subst hr9
 replace hs9 := hs9.symm
 subst hs9
 refine hK' _ ?_
 clear hK' K'
 simp (maxSteps := 1000000) (disch := first | omega | assumption) [og_setlast, og_set hq]
 repeat' refine And.intro ?_ ?_
 all_goals first | omega | exact rfl | skip
 refine hK _ ?_
 clear hK K
 clear all
 refine q_then_n ?_
 refine awp_ret ?_
 try simp only [og_setlast, og_set hq]
 simp [endQ]
 exact ⟨cap, _, ⟨rfl, rfl⟩, flat_len _ _ _ (by omega) (by rw [hrest] <;> omega), cut_prefix _ _⟩
theorem hPop_fn (m M : Nat) (h : HP) (σ : List (List D)) (hq : σ[m]? = some (dhp M h)) (hk : HPok h) (h0 : 0 < h.ts.length) (hM : M < σ.length) : Ct Try.prog 33 [.ifc 76 (.ref m 0)] σ (fun r σ' => r = .ifc 36 (d_Tm (at_ (hPop0 h).ts ((hPop0 h).ts.length - 1))) ∧ σ' = σ.set m (dhp M (hPop h))) :=
 pile_close hM hq (Sc.ifc (tm_scl _ _)) (hPop0_fn m M h σ hq hk h0)
theorem hRem0_fn (m M : Nat) (h : HP) (i : Nat) (σ : List (List D)) (hq : σ[m]? = some (dhp M h)) (hk : HPok h) (hi : i < h.ts.length) : Ct Try.prog 31 [.ifc 76 (.ref m 0), .int i] σ (fun r σ' => r = .ifc 36 (d_Tm (at_ (hRem0 h i).ts ((hRem0 h i).ts.length - 1))) ∧ ∃ cap ds, σ' = σ.set m (dho σ.length cap M (hcut (hRem0 h i))) ++ [ds] ∧ ds.length = cap * 4 ∧ (hcut (hRem0 h i)).ts.flatMap ct <+: ds) := by
 refine fn_start (rs := [.tmp 4]) Try.func31 rfl rfl Try.ntmps31 Try.results31 (by simp) ?_
 simp only [argEnv]
 have hb := hk.len
 have hsw := hk.swap (i := i) (j := h.ts.length - 1) hi (by omega)
 have hp0 := hdn_ok hk hi
 have hr0 := hRem0_ok hk hi
 refine awp_openXO m 0 4 (hq) (by simp <;> rfl) (by decide) fun cap rest hcap hcm hrest hes => ?_
 simp only [List.length_map, List.set_set, List.length_set, List.set_cons_zero, List.set_cons_succ] at hcap hrest ⊢
 rw [tm_flat]
 have hmA : σ.length ≠ m := by have := og_lt hq; omega
 refine awp_seq ?_
 refine awp_regionA (c := ⟨[], [], [], [], []⟩) (by simp only [lite_cons, lite_nil] <;> rfl) fun all hall K hK => ?_
 clear hall
 simp (maxSteps := 1000000) (disch := first | omega | assumption) [og_setlast, og_set hq]
 repeat' refine And.intro ?_ ?_
 all_goals first | omega | exact rfl | skip
 refine hK _ ?_
 clear hK K
 clear all
 refine q_then_n ?_
 refine awp_seq ?_
 refine awp_regionA (c := ⟨[], [], [], [], []⟩) (by simp only [lite_cons, lite_nil] <;> rfl) fun all hall K hK => ?_
 clear hall
 refine vcL_split 1 fun K' hK' => ?_
 simp (maxSteps := 1000000) (disch := first | omega | assumption) [og_setlast, og_set hq]
 repeat' refine And.intro ?_ ?_
 all_goals first | omega | exact rfl | skip
 refine hK' _ ?_
 clear hK' K'
 simp only [List.drop_succ_cons, List.drop_zero]
 refine vcL_step fun K' hK' => ?_
 simp (maxSteps := 1000000) (disch := first | omega | assumption) [og_setlast, og_set hq]
 refine ⟨_, mi76_Len, Ct.mono (Ct.of_le (plenO_fn m M σ.length cap rest h _ (og_app hq _ _) (by rw [og_last] <;> rfl) hmA hk) (by first | exact leArgs_of rfl | (refine leArgs_of ?_; simp; done) | (refine leArgs_of ?_; simp; rfl) | (simp [leArgs, leArg]; done)) rfl) ?_⟩
 rintro _ _ ⟨hr9, hs9⟩
 subst hr9
 replace hs9 := hs9.symm
 subst hs9
 refine hK' _ ?_
 clear hK' K'
 simp (maxSteps := 1000000) (disch := first | omega | assumption) [og_setlast, og_set hq]
 repeat' refine And.intro ?_ ?_
 all_goals first | omega | exact rfl | skip
 refine hK _ ?_
 clear hK K
 clear all
 refine q_then_n ?_
 refine awp_seq ?_
 refine awp_seq ?_
 refine awp_regionA (c := ⟨[], [], [], [], []⟩) (by simp only [lite_cons, lite_nil] <;> rfl) fun all hall K hK => ?_
 clear hall
 simp (maxSteps := 1000000) (disch := first | omega | assumption) [og_setlast, og_set hq]
 repeat' refine And.intro ?_ ?_
 all_goals first | omega | exact rfl | skip
 refine hK _ ?_
 clear hK K
 clear all
 refine q_then_n ?_
 refine awp_ifB (by simp <;> rfl) ?_
 refine ⟨fun c1 => ?_, fun c1 => ?_⟩
 ·try simp at c1
  refine awp_seq ?_
  refine awp_regionA (c := ⟨[], [], [], [], []⟩) (by simp only [lite_cons, lite_nil] <;> rfl) fun all hall K hK => ?_
  clear hall
  refine vcL_split 3 fun K' hK' => ?_
  simp (maxSteps := 1000000) (disch := first | omega | assumption) [og_setlast, og_set hq]
  repeat' refine And.intro ?_ ?_
  all_goals first | omega | exact rfl | skip
  refine hK' _ ?_
  clear hK' K'
  simp only [List.drop_succ_cons, List.drop_zero]
  refine vcL_step fun K' hK' => ?_
  simp (maxSteps := 1000000) (disch := first | omega | assumption) [og_setlast, og_set hq]
  try rw [show ((h.ts.length : Int) - 1) = ((h.ts.length - 1 : Nat) : Int) from by omega]
  refine ⟨_, mi76_Swap, Ct.mono (Ct.of_le (pswap_fn m M σ.length cap rest h i (h.ts.length - 1) _ (og_app hq _ _) (by rw [og_last] <;> rfl) hmA hk hi (by omega)) (by first | exact leArgs_of rfl | (refine leArgs_of ?_; simp; done) | (refine leArgs_of ?_; simp; rfl) | (simp [leArgs, leArg]; done)) rfl) ?_⟩
  rintro _ _ ⟨hr9, hs9⟩
  subst hr9
  replace hs9 := hs9.symm
  subst hs9
  refine hK' _ ?_
  clear hK' K'
  simp only [vcL_nil]
  refine hK _ ?_
  clear hK K
  clear all
  refine q_then_n ?_
  refine awp_seq ?_
  refine awp_keep [0, 1, 4, 5] (by simp only [keepL_nil, keepL_cons, envOf_sel, envOf_nil, sel_t, sel_f, Nat.reduceBEq] <;> rfl) ?_
  refine awp_regionA (c := ⟨[], [], [], [], []⟩) (by simp only [lite_cons, lite_nil] <;> rfl) fun all hall K hK => ?_
  clear hall
  refine vcL_split 3 fun K' hK' => ?_
  simp (maxSteps := 1000000) (disch := first | omega | assumption) [og_setlast, og_set hq]
  repeat' refine And.intro ?_ ?_
  all_goals first | omega | exact rfl | skip
  refine hK' _ ?_
  clear hK' K'
  simp only [List.drop_succ_cons, List.drop_zero]
  refine vcL_step fun K' hK' => ?_
  simp (maxSteps := 1000000) (disch := first | omega | assumption) [og_setlast, og_set hq]
  try rw [show ((h.ts.length : Int) - 1) = ((h.ts.length - 1 : Nat) : Int) from by omega]
  refine Ct.mono (Ct.of_le (down_fn m M σ.length cap rest (hswap h i (h.ts.length - 1)) i (h.ts.length - 1) _ (og_app hq _ _) (by rw [og_last] <;> rfl) hmA hsw (by omega) (by rw [hswap_len]; omega)) (by first | exact leArgs_of rfl | (refine leArgs_of ?_; simp; done) | (refine leArgs_of ?_; simp; rfl) | (simp [leArgs, leArg]; done)) rfl) ?_
  rintro _ _ ⟨hr9, hs9⟩
  subst hr9
  replace hs9 := hs9.symm
  subst hs9
  refine hK' _ ?_
  clear hK' K'
  simp (maxSteps := 1000000) (disch := first | omega | assumption) [og_setlast, og_set hq]
  repeat' refine And.intro ?_ ?_
  all_goals first | omega | exact rfl | skip
  refine hK _ ?_
  clear hK K
  clear all
  refine q_then_n ?_
  refine awp_ifB (by simp <;> rfl) ?_
  refine ⟨fun c2 => ?_, fun c2 => ?_⟩
  ·try simp at c2
   have hup1 := hup_ok (j := i) hp0.1 (by omega)
   have hkb := hup1.1
   have hlb := hup1.2
   have hrr : hRem0 h i = hup (hdown (hswap h i (h.ts.length - 1)) i (h.ts.length - 1)).1 i := by unfold hRem0; rw [if_neg (by omega), if_neg (by omega)]
   refine awp_regionA (c := ⟨[], [], [], [], []⟩) (by simp only [lite_cons, lite_nil] <;> rfl) fun all hall K hK => ?_
   clear hall
   refine vcL_split 2 fun K' hK' => ?_
   simp (maxSteps := 1000000) (disch := first | omega | assumption) [og_setlast, og_set hq]
   repeat' refine And.intro ?_ ?_
   all_goals first | omega | exact rfl | skip
   refine hK' _ ?_
   clear hK' K'
   simp only [List.drop_succ_cons, List.drop_zero]
   refine vcL_step fun K' hK' => ?_
   simp (maxSteps := 1000000) (disch := first | omega | assumption) [og_setlast, og_set hq]
   refine Ct.mono (Ct.of_le (up_fn m M σ.length cap rest (hdown (hswap h i (h.ts.length - 1)) i (h.ts.length - 1)).1 i _ (og_app hq _ _) (by rw [og_last] <;> rfl) hmA hp0.1 (by omega)) (by first | exact leArgs_of rfl | (refine leArgs_of ?_; simp; done) | (refine leArgs_of ?_; simp; rfl) | (simp [leArgs, leArg]; done)) rfl) ?_
   rintro _ _ ⟨hr9, hs9⟩
   subst hr9
   replace hs9 := hs9.symm
   subst hs9
   refine hK' _ ?_
   clear hK' K'
   simp only [vcL_nil]
   refine hK _ ?_
   clear hK K
   clear all
   refine q_then_n ?_
   refine awp_seq ?_
   refine awp_keep [0, 4] (by simp only [keepL_nil, keepL_cons, envOf_sel, envOf_nil, sel_t, sel_f, Nat.reduceBEq] <;> rfl) ?_
   refine awp_regionA (c := ⟨[], [], [], [], []⟩) (by simp only [lite_cons, lite_nil] <;> rfl) fun all hall K hK => ?_
   clear hall
   refine vcL_split 1 fun K' hK' => ?_
   simp (maxSteps := 1000000) (disch := first | omega | assumption) [og_setlast, og_set hq]
   repeat' refine And.intro ?_ ?_
   all_goals first | omega | exact rfl | skip
   refine hK' _ ?_
   clear hK' K'
   simp only [List.drop_succ_cons, List.drop_zero]
   refine vcL_step fun K' hK' => ?_
   simp (maxSteps := 1000000) (disch := first | omega | assumption) [og_setlast, og_set hq]
   refine ⟨_, mi76_Pop, Ct.mono (Ct.of_le (ppop_fn m M σ.length cap rest _ _ (og_app hq _ _) (by rw [og_last] <;> rfl) hmA hkb (by omega)) (by first | exact leArgs_of rfl | (refine leArgs_of ?_; simp; done) | (refine leArgs_of ?_; simp; rfl) | (simp [leArgs, leArg]; done)) rfl) ?_⟩
   rintro _ _ ⟨hr9, hs9⟩
   subst hr9
   replace hs9 := hs9.symm
   subst hs9
   refine hK' _ ?_
   clear hK' K'
   simp (maxSteps := 1000000) (disch := first | omega | assumption) [og_setlast, og_set hq]
   repeat' refine And.intro ?_ ?_
   all_goals first | omega | exact rfl | skip
   refine hK _ ?_
   clear hK K
   clear all
   refine q_then_n ?_
   refine awp_ret ?_
   try simp only [og_setlast, og_set hq]
   simp only [hrr]
   simp [endQ]
   exact ⟨cap, _, ⟨rfl, rfl⟩, flat_len _ _ _ (by omega) (by rw [hrest] <;> omega), cut_prefix _ _⟩
  ·try simp at c2
   have hkb := hp0.1
   have hlb := hp0.2
   have hrr : hRem0 h i = (hdown (hswap h i (h.ts.length - 1)) i (h.ts.length - 1)).1 := by unfold hRem0; rw [if_neg (by omega), if_pos (by omega)]
   refine awp_skip ?_
   refine q_then_n ?_
   refine awp_seq ?_
   refine awp_regionA (c := ⟨[], [], [], [], []⟩) (by simp only [lite_cons, lite_nil] <;> rfl) fun all hall K hK => ?_
   clear hall
   refine vcL_split 1 fun K' hK' => ?_
   simp (maxSteps := 1000000) (disch := first | omega | assumption) [og_setlast, og_set hq]
   repeat' refine And.intro ?_ ?_
   all_goals first | omega | exact rfl | skip
   refine hK' _ ?_
   clear hK' K'
   simp only [List.drop_succ_cons, List.drop_zero]
   refine vcL_step fun K' hK' => ?_
   simp (maxSteps := 1000000) (disch := first | omega | assumption) [og_setlast, og_set hq]
   refine ⟨_, mi76_Pop, Ct.mono (Ct.of_le (ppop_fn m M σ.length cap rest _ _ (og_app hq _ _) (by rw [og_last] <;> rfl) hmA hkb (by omega)) (by first | exact leArgs_of rfl | (refine leArgs_of ?_; simp; done) | (refine leArgs_of ?_; simp; rfl) | (simp [leArgs, leArg]; done)) rfl) ?_⟩
   rintro _ _ ⟨hr9, hs9⟩
   subst hr9
   replace hs9 := hs9.symm
   subst hs9
   refine hK' _ ?_
   clear hK' K'
   simp (maxSteps := 1000000) (disch := first | omega | assumption) [og_setlast, og_set hq]
   repeat' refine And.intro ?_ ?_
   all_goals first | omega | exact rfl | skip
   refine hK _ ?_
   clear hK K
   clear all
   refine q_then_n ?_
   refine awp_ret ?_
   try simp only [og_setlast, og_set hq]
   simp only [hrr]
   simp [endQ]
   exact ⟨cap, _, ⟨rfl, rfl⟩, flat_len _ _ _ (by omega) (by rw [hrest] <;> omega), cut_prefix _ _⟩
 ·try simp at c1
  have hkb := hk
  have hlb : h.ts.length = h.ts.length := rfl
  have hrr : hRem0 h i = h := if_pos (by omega)
  refine awp_skip ?_
  refine q_then_n ?_
  refine awp_seq ?_
  refine awp_regionA (c := ⟨[], [], [], [], []⟩) (by simp only [lite_cons, lite_nil] <;> rfl) fun all hall K hK => ?_
  clear hall
  refine vcL_split 1 fun K' hK' => ?_
  simp (maxSteps := 1000000) (disch := first | omega | assumption) [og_setlast, og_set hq]
  repeat' refine And.intro ?_ ?_
  all_goals first | omega | exact rfl | skip
  refine hK' _ ?_
  clear hK' K'
  simp only [List.drop_succ_cons, List.drop_zero]
  refine vcL_step fun K' hK' => ?_
  simp (maxSteps := 1000000) (disch := first | omega | assumption) [og_setlast, og_set hq]
  refine ⟨_, mi76_Pop, Ct.mono (Ct.of_le (ppop_fn m M σ.length cap rest _ _ (og_app hq _ _) (by rw [og_last] <;> rfl) hmA hkb (by omega)) (by first | exact leArgs_of rfl | (refine leArgs_of ?_; simp; done) | (refine leArgs_of ?_; simp; rfl) | (simp [leArgs, leArg]; done)) rfl) ?_⟩
  rintro _ _ ⟨hr9, hs9⟩
  subst hr9
  replace hs9 := hs9.symm
  subst hs9
  refine hK' _ ?_
  clear hK' K'
  simp (maxSteps := 1000000) (disch := first | omega | assumption) [og_setlast, og_set hq]
  repeat' refine And.intro ?_ ?_
  all_goals first | omega | exact rfl | skip
  refine hK _ ?_
  clear hK K
  clear all
  refine q_then_n ?_
  refine awp_ret ?_
  try simp only [og_setlast, og_set hq]
  simp only [hrr]
  simp [endQ]
  exact ⟨cap, _, ⟨rfl, rfl⟩, flat_len _ _ _ (by omega) (by rw [hrest] <;> omega), cut_prefix _ _⟩
theorem hRem_fn (m M : Nat) (h : HP) (i : Nat) (σ : List (List D)) (hq : σ[m]? = some (dhp M h)) (hk : HPok h) (hi : i < h.ts.length) (hM : M < σ.length) : Ct Try.prog 31 [.ifc 76 (.ref m 0), .int i] σ (fun r σ' => r = .ifc 36 (d_Tm (at_ (hRem0 h i).ts ((hRem0 h i).ts.length - 1))) ∧ σ' = σ.set m (dhp M (hRem h i))) :=
 pile_close hM hq (Sc.ifc (tm_scl _ _)) (hRem0_fn m M h i σ hq hk hi)
structure WS where
 most : Int
 last : Int
 h : HP
@[simp] abbrev dwh (m : Nat) (s : WS) : List D := [D.int s.most, D.int s.last, .ref m 0]
structure WOk (s : WS) : Prop where
 hk : HPok s.h
 hm : 1 ≤ s.most ∧ s.most ≤ 65536
 hl : 0 ≤ s.last
 hc : (s.h.ts.length : Int) ≤ s.most
 tk : ∀ t ∈ s.h.ts, 1 ≤ t.token ∧ t.token ≤ s.last
def hp0 : HP := ⟨[], 0, []⟩
theorem wnew0_fn (x : Int) (σ : List (List D))  : Ct Try.prog 10 [D.int x] σ (fun r σ' => r = .ref (σ.length + 2) 0 ∧ σ' = σ ++ [[], dhp σ.length hp0, dwh (σ.length + 1) ⟨clip x 1 65536, 0, hp0⟩]) := by
 refine fn_start (rs := [.tmp 2]) Try.func10 rfl rfl Try.ntmps10 Try.results10 (by simp) ?_
 simp only [argEnv]
 refine awp_seq ?_
 refine awp_regionA (c := ⟨[], [], [7, 9], [], []⟩) (by simp only [lite_cons, lite_nil] <;> rfl) fun all hall K hK => ?_
 clear hall
 simp (maxSteps := 1000000) (disch := first | omega | assumption) [og_at, og_put, og_at0, og_put0]
 repeat' refine And.intro ?_ ?_
 all_goals first | omega | exact rfl | skip
 refine hK _ ?_
 clear hK K
 clear all
 refine q_then_n ?_
 refine awp_seq ?_
 refine awp_regionA (c := ⟨[], [], [7, 9], [], []⟩) (by simp only [lite_cons, lite_nil] <;> rfl) fun all hall K hK => ?_
 clear hall
 refine vcL_split 1 fun K' hK' => ?_
 simp (maxSteps := 1000000) (disch := first | omega | assumption) [og_at, og_put, og_at0, og_put0]
 repeat' refine And.intro ?_ ?_
 all_goals first | omega | exact rfl | skip
 refine hK' _ ?_
 clear hK' K'
 simp only [List.drop_succ_cons, List.drop_zero]
 refine vcL_step fun K' hK' => ?_
 simp (maxSteps := 1000000) (disch := first | omega | assumption) [og_at, og_put, og_at0, og_put0]
 refine Ct.mono (Ct.of_le (clip_fn ..) (by first | exact leArgs_of rfl | (refine leArgs_of ?_; simp; done) | (refine leArgs_of ?_; simp; rfl) | (simp [leArgs, leArg]; done)) rfl) ?_
 rintro _ _ ⟨hr9, hs9⟩
 subst hr9
 replace hs9 := hs9.symm
 subst hs9
 refine hK' _ ?_
 clear hK' K'
 simp (maxSteps := 1000000) (disch := first | omega | assumption) [og_at, og_put, og_at0, og_put0]
 repeat' refine And.intro ?_ ?_
 all_goals first | omega | exact rfl | skip
 refine hK _ ?_
 clear hK K
 clear all
 refine q_then_n ?_
 refine awp_toXO (σ.length + 1) 0 4 (by simp [og_at, og_put, og_at0, og_put0] <;> rfl) (by simp) ?_
 simp only [og_put, List.set_cons_zero, List.set_cons_succ]
 refine awp_mapToCell 5 (σ.length + 1) 1 (N := σ.length) (kd := .int .i64) (clock := 0) (kvs := []) (by simp) (by simp [og_at, og_put, og_at0, og_put0] <;> rfl) (by simp <;> rfl) ?_
 simp only [og_put, List.set_cons_zero, List.set_cons_succ]
 refine awp_ret ?_
 simp [endQ, hp0]
theorem wlen_fn (w m M : Nat) (s : WS) (σ : List (List D)) (hw : σ[w]? = some (dwh m s)) (hq : σ[m]? = some (dhp M s.h)) (hk : HPok s.h) : Ct Try.prog 14 [.ref w 0] σ (fun r σ' => r = .int (s.h.ts.length : Int) ∧ σ' = σ) := by
 refine fn_start (rs := [.tmp 2]) Try.func14 rfl rfl Try.ntmps14 Try.results14 (by simp) ?_
 simp only [argEnv]
 refine awp_seq ?_
 refine awp_regionA (c := ⟨[], [], [], [], []⟩) (by simp only [lite_cons, lite_nil] <;> rfl) fun all hall K hK => ?_
 clear hall
 simp (maxSteps := 1000000) (disch := first | omega | assumption) [hw]
 repeat' refine And.intro ?_ ?_
 all_goals first | omega | exact rfl | skip
 refine hK _ ?_
 clear hK K
 clear all
 refine q_then_n ?_
 refine awp_seq ?_
 refine awp_regionA (c := ⟨[], [], [], [], []⟩) (by simp only [lite_cons, lite_nil] <;> rfl) fun all hall K hK => ?_
 clear hall
 refine vcL_split 4 fun K' hK' => ?_
 simp (maxSteps := 1000000) (disch := first | omega | assumption) [hw]
 repeat' refine And.intro ?_ ?_
 all_goals first | omega | exact rfl | skip
 refine hK' _ ?_
 clear hK' K'
 simp only [List.drop_succ_cons, List.drop_zero]
 refine vcL_step fun K' hK' => ?_
 simp (maxSteps := 1000000) (disch := first | omega | assumption) [hw]
 refine Ct.mono (Ct.of_le (plen_fn m M s.h _ hq hk) (by first | exact leArgs_of rfl | (refine leArgs_of ?_; simp; done) | (refine leArgs_of ?_; simp; rfl) | (simp [leArgs, leArg]; done)) rfl) ?_
 rintro _ _ ⟨hr9, hs9⟩
 subst hr9
 replace hs9 := hs9.symm
 subst hs9
 refine hK' _ ?_
 clear hK' K'
 simp (maxSteps := 1000000) (disch := first | omega | assumption) [hw]
 repeat' refine And.intro ?_ ?_
 all_goals first | omega | exact rfl | skip
 refine hK _ ?_
 clear hK K
 clear all
 refine q_then_n ?_
 refine awp_ret ?_
 simp (maxSteps := 1000000) (disch := first | omega | assumption) [hw, endQ]
theorem wlenO_fn (w m M A cap : Nat) (rest : List D) (s : WS) (σ : List (List D)) (hw : σ[w]? = some (dwh m s)) (hq : σ[m]? = some (dho A cap M s.h)) (hA : σ[A]? = some (s.h.ts.flatMap ct ++ rest)) (hne : A ≠ m) (hk : HPok s.h) : Ct Try.prog 14 [.ref w 0] σ (fun r σ' => r = .int (s.h.ts.length : Int) ∧ σ' = σ) := by
 refine fn_start (rs := [.tmp 2]) Try.func14 rfl rfl Try.ntmps14 Try.results14 (by simp) ?_
 simp only [argEnv]
 refine awp_seq ?_
 refine awp_regionA (c := ⟨[], [], [], [], []⟩) (by simp only [lite_cons, lite_nil] <;> rfl) fun all hall K hK => ?_
 clear hall
 simp (maxSteps := 1000000) (disch := first | omega | assumption) [hw]
 repeat' refine And.intro ?_ ?_
 all_goals first | omega | exact rfl | skip
 refine hK _ ?_
 clear hK K
 clear all
 refine q_then_n ?_
 refine awp_seq ?_
 refine awp_regionA (c := ⟨[], [], [], [], []⟩) (by simp only [lite_cons, lite_nil] <;> rfl) fun all hall K hK => ?_
 clear hall
 refine vcL_split 4 fun K' hK' => ?_
 simp (maxSteps := 1000000) (disch := first | omega | assumption) [hw]
 repeat' refine And.intro ?_ ?_
 all_goals first | omega | exact rfl | skip
 refine hK' _ ?_
 clear hK' K'
 simp only [List.drop_succ_cons, List.drop_zero]
 refine vcL_step fun K' hK' => ?_
 simp (maxSteps := 1000000) (disch := first | omega | assumption) [hw]
 refine Ct.mono (Ct.of_le (plenO_fn m M A cap rest s.h _ hq hA hne hk) (by first | exact leArgs_of rfl | (refine leArgs_of ?_; simp; done) | (refine leArgs_of ?_; simp; rfl) | (simp [leArgs, leArg]; done)) rfl) ?_
 rintro _ _ ⟨hr9, hs9⟩
 subst hr9
 replace hs9 := hs9.symm
 subst hs9
 refine hK' _ ?_
 clear hK' K'
 simp (maxSteps := 1000000) (disch := first | omega | assumption) [hw]
 repeat' refine And.intro ?_ ?_
 all_goals first | omega | exact rfl | skip
 refine hK _ ?_
 clear hK K
 clear all
 refine q_then_n ?_
 refine awp_ret ?_
 simp (maxSteps := 1000000) (disch := first | omega | assumption) [hw, endQ]
def wadd (s : WS) (n : Int) (j : Job) : WS := if s.most ≤ (s.h.ts.length : Int) then s else ⟨s.most, s.last + 1, hPush s.h ⟨s.last + 1, clip n 0 1099511627776, j⟩⟩
theorem WOk.fresh {s : WS} (h : WOk s) : s.last + 1 ∉ toks s.h := by
 intro hm
 have hm' : s.last + 1 ∈ s.h.ts.map (·.token) := hm
 obtain ⟨t, ht, he⟩ := List.mem_map.1 hm'
 have := h.tk t ht
 omega
theorem wadd_fn (w m M : Nat) (s : WS) (n : Int) (j : Job) (σ : List (List D)) (hw : σ[w]? = some (dwh m s)) (hq : σ[m]? = some (dhp M s.h)) (hs : WOk s) (hne : w ≠ m) (hM : M < σ.length) (hl : s.last ≤ 1000000) : Ct Try.prog 12 [.ref w 0, D.int n, d_Job j] σ (fun r σ' => r = .tup [D.int (if s.most ≤ (s.h.ts.length : Int) then 0 else s.last + 1), D.int (if s.most ≤ (s.h.ts.length : Int) then 9 else 0)] ∧ σ' = (σ.set w (dwh m (wadd s n j))).set m (dhp M (wadd s n j).h)) := by
 refine fn_start (rs := [.tmp 6, .tmp 7]) Try.func12 rfl rfl Try.ntmps12 Try.results12 (by simp) ?_
 simp only [argEnv]
 have hc := hs.hc
 have hm := hs.hm
 have hll := hs.hl
 refine awp_seq ?_
 refine awp_regionA (c := ⟨[], [5], [], [], []⟩) (by simp only [lite_cons, lite_nil] <;> rfl) fun all hall K hK => ?_
 clear hall
 simp (maxSteps := 1000000) (disch := first | omega | assumption) [hw, hq, sg_ne _ hne, sg_K _ _ hne hw, sg_m _ _ hq, og_get hw]
 repeat' refine And.intro ?_ ?_
 all_goals first | omega | exact rfl | skip
 refine hK _ ?_
 clear hK K
 clear all
 refine q_then_n ?_
 refine awp_seq ?_
 refine awp_seq ?_
 refine awp_drawA (c := ⟨[], [5], [], [], []⟩) [.op ⟨false, false, false, false⟩, .read, .op ⟨false, false, false, false⟩, .op ⟨false, false, false, false⟩, .op ⟨false, false, false, false⟩, .op ⟨false, false, true, false⟩, .op ⟨false, false, false, false⟩] (by kernel_rfl) (by kernel_rfl) (by simp only [lite_cons, lite_nil] <;> rfl) fun all hall K hK => ?_
 clear hall
 refine vcDL_split 1 (by simp) fun K' hK' => ?_
 simp (maxSteps := 1000000) (disch := first | omega | assumption) [hw, hq, sg_ne _ hne, sg_K _ _ hne hw, sg_m _ _ hq, og_get hw]
 repeat' refine And.intro ?_ ?_
 all_goals first | omega | exact rfl | skip
 refine hK' _ ?_
 clear hK' K'
 simp only [List.drop_succ_cons, List.drop_zero]
 refine vcDL_step fun K' hK' => ?_
 simp (maxSteps := 1000000) (disch := first | omega | assumption) [hw, hq, sg_ne _ hne, sg_K _ _ hne hw, sg_m _ _ hq, og_get hw]
 refine ⟨_, Ct.of_le (wlen_fn w m M s _ hw hq hs.hk) (by first | exact leArgs_of rfl | (refine leArgs_of ?_; simp; done) | (refine leArgs_of ?_; simp; rfl) | (simp [leArgs, leArg]; done)) rfl, ?_⟩
 refine hK' _ ?_
 clear hK' K'
 simp (maxSteps := 1000000) (disch := first | omega | assumption) [hw, hq, sg_ne _ hne, sg_K _ _ hne hw, sg_m _ _ hq, og_get hw]
 repeat' refine And.intro ?_ ?_
 all_goals first | omega | exact rfl | skip
 refine hK _ ?_
 clear hK K
 clear all
 refine q_then_n ?_
 refine awp_ifB (by simp <;> rfl) ?_
 refine ⟨fun c1 => ?_, fun c1 => ?_⟩
 ·try simp at c1
  refine awp_seq ?_
  refine awp_regionA (c := ⟨[], [5], [], [], []⟩) (by simp only [lite_cons, lite_nil] <;> rfl) fun all hall K hK => ?_
  clear hall
  simp (maxSteps := 1000000) (disch := first | omega | assumption) [hw, hq, sg_ne _ hne, sg_K _ _ hne hw, sg_m _ _ hq, og_get hw]
  repeat' refine And.intro ?_ ?_
  all_goals first | omega | exact rfl | skip
  refine hK _ ?_
  clear hK K
  clear all
  refine q_then_n ?_
  refine awp_ret ?_
  refine q_then_r ?_
  simp [endQ, wadd, c1]
  exact (ss_id hq hw).symm
 ·try simp at c1
  refine awp_skip ?_
  refine q_then_n ?_
  refine awp_seq ?_
  refine awp_regionA (c := ⟨[], [5], [], [], []⟩) (by simp only [lite_cons, lite_nil] <;> rfl) fun all hall K hK => ?_
  clear hall
  simp (maxSteps := 1000000) (disch := first | omega | assumption) [hw, hq, sg_ne _ hne, sg_K _ _ hne hw, sg_m _ _ hq, og_get hw]
  repeat' refine And.intro ?_ ?_
  all_goals first | omega | exact rfl | skip
  refine hK _ ?_
  clear hK K
  clear all
  refine q_then_n ?_
  refine awp_seq ?_
  refine awp_keep [0, 1, 5, 6, 7] (by simp only [keepL_nil, keepL_cons, envOf_sel, envOf_nil, sel_t, sel_f, Nat.reduceBEq] <;> rfl) ?_
  refine awp_drawA (c := ⟨[], [5], [], [], []⟩) [.op ⟨false, false, false, false⟩, .op ⟨false, false, false, false⟩, .op ⟨false, false, false, false⟩, .op ⟨false, false, true, false⟩, .op ⟨false, false, false, false⟩, .op ⟨false, false, false, false⟩, .op ⟨false, false, false, false⟩, .op ⟨false, false, false, false⟩, .op ⟨false, false, true, false⟩, .op ⟨false, false, false, false⟩, .pure, .op ⟨false, false, false, false⟩, .op ⟨false, false, false, false⟩, .op ⟨false, false, false, false⟩, .det] (by kernel_rfl) (by kernel_rfl) (by simp only [lite_cons, lite_nil] <;> rfl) fun all hall K hK => ?_
  clear hall
  refine vcDL_split 8 (by simp) fun K' hK' => ?_
  simp (maxSteps := 1000000) (disch := first | omega | assumption) [hw, hq, sg_ne _ hne, sg_K _ _ hne hw, sg_m _ _ hq, og_get hw]
  repeat' refine And.intro ?_ ?_
  all_goals first | omega | exact rfl | skip
  refine hK' _ ?_
  clear hK' K'
  simp only [List.drop_succ_cons, List.drop_zero]
  refine vcDL_split 2 (by simp) fun K' hK' => ?_
  simp (maxSteps := 1000000) (disch := first | omega | assumption) [hw, hq, sg_ne _ hne, sg_K _ _ hne hw, sg_m _ _ hq, og_get hw]
  repeat' refine And.intro ?_ ?_
  all_goals first | omega | exact rfl | skip
  refine hK' _ ?_
  clear hK' K'
  simp only [List.drop_succ_cons, List.drop_zero]
  refine vcDL_step fun K' hK' => ?_
  simp (maxSteps := 1000000) (disch := first | omega | assumption) [hw, hq, sg_ne _ hne, sg_K _ _ hne hw, sg_m _ _ hq, og_get hw]
  refine ⟨_, fun σ => Ct.of_le (clip_fn ..) (by first | exact leArgs_of rfl | (refine leArgs_of ?_; simp; done) | (refine leArgs_of ?_; simp; rfl) | (simp [leArgs, leArg]; done)) rfl, ?_⟩
  refine hK' _ ?_
  clear hK' K'
  refine vcDL_split 3 (by simp) fun K' hK' => ?_
  simp (maxSteps := 1000000) (disch := first | omega | assumption) [hw, hq, sg_ne _ hne, sg_K _ _ hne hw, sg_m _ _ hq, og_get hw]
  repeat' refine And.intro ?_ ?_
  all_goals first | omega | exact rfl | skip
  refine hK' _ ?_
  clear hK' K'
  simp only [List.drop_succ_cons, List.drop_zero]
  refine vcDL_step fun K' hK' => ?_
  simp (maxSteps := 1000000) (disch := first | omega | assumption) [hw, hq, sg_ne _ hne, sg_K _ _ hne hw, sg_m _ _ hq, og_get hw]
  refine ⟨_, _, Ct.of_le (hPush_fn m M s.h ⟨s.last + 1, clip n 0 1099511627776, j⟩ _ (sg_ne _ hne |>.trans hq) hs.hk hs.fresh (by omega) (by rw [List.length_set]; exact hM)) (by first | exact leArgs_of rfl | (refine leArgs_of ?_; simp; done) | (refine leArgs_of ?_; simp; rfl) | (simp [leArgs, leArg]; done)) rfl, ?_⟩
  refine hK' _ ?_
  clear hK' K'
  simp only [vcDL_nil]
  refine hK _ ?_
  clear hK K
  clear all
  refine q_then_n ?_
  refine awp_seq ?_
  refine awp_keep [0, 6, 7] (by simp only [keepL_nil, keepL_cons, envOf_sel, envOf_nil, sel_t, sel_f, Nat.reduceBEq] <;> rfl) ?_
  refine awp_regionA (c := ⟨[], [5], [], [], []⟩) (by simp only [lite_cons, lite_nil] <;> rfl) fun all hall K hK => ?_
  clear hall
  simp (maxSteps := 1000000) (disch := first | omega | assumption) [hw, hq, sg_ne _ hne, sg_K _ _ hne hw, sg_m _ _ hq, og_get hw]
  repeat' refine And.intro ?_ ?_
  all_goals first | omega | exact rfl | skip
  refine hK _ ?_
  clear hK K
  clear all
  refine q_then_n ?_
  refine awp_ret ?_
  have c2 : ¬ s.most ≤ (s.h.ts.length : Int) := by omega
  simp [endQ, wadd, c2]
def wduec (s : WS) (n : Int) : Bool := decide (0 < s.h.ts.length ∧ (at_ s.h.ts 0).deadline ≤ n)
def wdue (s : WS) (n : Int) : WS := if wduec s n = true then ⟨s.most, s.last, hPop s.h⟩ else s
def wduet (s : WS) (n : Int) : Tm := if wduec s n = true then at_ s.h.ts 0 else tm0
@[simp high] theorem tm_dl (l : List Tm) (rest : List D) (i : Nat) (h : i < l.length) : ldD false 1 ((l.flatMap ct ++ rest).drop (i * 4 + 1)) = some (D.int l[i].deadline) := rows_ld1 (f := ct) (k := 4) (fun _ => rfl) l rest i 1 h (by decide)
@[simp high] theorem tm_dl0 (l : List Tm) (rest : List D) (h : 0 < l.length) : ldD false 1 (l.flatMap ct ++ rest).tail = some (D.int l[0].deadline) := by
 have := tm_dl l rest 0 h
 rwa [show 0 * 4 + 1 = 1 from rfl, List.drop_one] at this
@[simp high] theorem tm_ld0 (l : List Tm) (rest : List D) (h : 0 < l.length) : ldD true 4 (l.flatMap ct ++ rest) = some (.agg (ct l[0])) := by
 have := tm_ld l rest 0 h; simpa using this
theorem wdue0_fn (w m M : Nat) (s : WS) (n : Int) (σ : List (List D)) (hw : σ[w]? = some (dwh m s)) (hq : σ[m]? = some (dhp M s.h)) (hs : WOk s) (hne : w ≠ m) (hM : M < σ.length) : Ct Try.prog 13 [.ref w 0, D.int n] σ (fun r σ' => r = .tup [d_Tm (wduet s n), .bool (wduec s n)] ∧ σ' = σ.set m (dhp M (wdue s n).h) ++ [[]]) := by
 refine fn_start (rs := [.cell 4 36, .tmp 5]) Try.func13 rfl rfl Try.ntmps13 Try.results13 (by simp) ?_
 simp only [argEnv]
 have hl := hs.hk.len
 have hw2 : ∀ x : List D, ∀ r, (σ.set m x ++ r)[w]? = some (dwh m s) := fun x r => og_app0 ((sg_ne' _ hne).trans hw) r
 refine awp_openXO m 0 4 (hq) (by simp <;> rfl) (by decide) fun cap rest hcap hcm hrest hes => ?_
 simp only [List.length_map, List.set_set, List.length_set, List.set_cons_zero, List.set_cons_succ] at hcap hrest ⊢
 rw [tm_flat]
 have hmA : σ.length ≠ m := by have := og_lt hq; omega
 refine awp_seq ?_
 refine awp_regionA (c := ⟨[], [], [], [18, 32], []⟩) (by simp only [lite_cons, lite_nil] <;> rfl) fun all hall K hK => ?_
 clear hall
 simp (maxSteps := 1000000) (disch := first | omega | assumption) [hw, hq, hw2, og_app hq, og_last]
 repeat' refine And.intro ?_ ?_
 all_goals first | omega | exact rfl | skip
 refine hK _ ?_
 clear hK K
 clear all
 refine q_then_n ?_
 refine awp_seq ?_
 refine awp_seq ?_
 refine awp_regionA (c := ⟨[], [], [], [18, 32], []⟩) (by simp only [lite_cons, lite_nil] <;> rfl) fun all hall K hK => ?_
 have ga3 : guardOf all 3 = some 10 := hall 3
 clear hall
 refine vcL_split 1 fun K' hK' => ?_
 simp (maxSteps := 1000000) (disch := first | omega | assumption) [hw, hq, hw2, og_app hq, og_last, ga3]
 repeat' refine And.intro ?_ ?_
 all_goals first | omega | exact rfl | skip
 refine hK' _ ?_
 clear hK' K'
 simp only [List.drop_succ_cons, List.drop_zero]
 refine vcL_step fun K' hK' => ?_
 simp (maxSteps := 1000000) (disch := first | omega | assumption) [hw, hq, hw2, og_app hq, og_last, ga3]
 refine Ct.mono (Ct.of_le (wlenO_fn w m M σ.length cap rest s _ (hw2 _ _) (og_app hq _ _) (by rw [og_last]) hmA hs.hk) (by first | exact leArgs_of rfl | (refine leArgs_of ?_; simp; done) | (refine leArgs_of ?_; simp; rfl) | (simp [leArgs, leArg]; done)) rfl) ?_
 rintro _ _ ⟨hr9, hs9⟩
 subst hr9
 replace hs9 := hs9.symm
 subst hs9
 refine hK' _ ?_
 clear hK' K'
 refine vcL_split 2 fun K' hK' => ?_
 simp (maxSteps := 1000000) (disch := first | omega | assumption) [hw, hq, hw2, og_app hq, og_last, ga3]
 repeat' refine And.intro ?_ ?_
 all_goals first | omega | exact rfl | skip
 refine hK' _ ?_
 clear hK' K'
 simp only [List.drop_succ_cons, List.drop_zero]
 refine vcL_bool 10 (by simp <;> rfl) ?_
 refine ⟨fun g1 => ?_, fun g1 => ?_⟩
 ·try simp at g1
  refine vcL_split 8 fun K' hK' => ?_
  simp (maxSteps := 1000000) (disch := first | omega | assumption) [hw, hq, hw2, og_app hq, og_last, ga3]
  repeat' refine And.intro ?_ ?_
  all_goals first | omega | exact rfl | skip
  refine hK' _ ?_
  clear hK' K'
  simp only [List.drop_succ_cons, List.drop_zero]
  simp (maxSteps := 1000000) (disch := first | omega | assumption) [hw, hq, hw2, og_app hq, og_last, ga3]
  repeat' refine And.intro ?_ ?_
  all_goals first | omega | exact rfl | skip
  refine hK _ ?_
  clear hK K
  clear ga3
  clear all
  refine q_then_n ?_
  refine awp_cond (t := true) (by simp) (fun _ => ?_) (fun h => by cases h)
  refine awp_seq ?_
  refine awp_keep [0, 4, 5] (by simp only [keepL_nil, keepL_cons, envOf_sel, envOf_nil, sel_t, sel_f, Nat.reduceBEq] <;> rfl) ?_
  refine awp_regionA (c := ⟨[], [], [], [18, 32], []⟩) (by simp only [lite_cons, lite_nil] <;> rfl) fun all hall K hK => ?_
  clear hall
  simp (maxSteps := 1000000) (disch := first | omega | assumption) [hw, hq, hw2, og_app hq, og_last]
  repeat' refine And.intro ?_ ?_
  all_goals first | omega | exact rfl | skip
  refine hK _ ?_
  clear hK K
  clear all
  refine q_then_n ?_
  refine awp_closeXO m 0 4 σ.length s.h.ts.length cap (s.h.ts.map d_Tm) _ (s.h.ts.flatMap ct ++ rest) (og_app hq _ _) (by simp <;> rfl) (by rw [og_last]) (Ne.symm hmA) (by decide) (flat_len _ _ _ (by omega) (by rw [hrest] <;> omega)) (by simp) (tm_arr _) (by rw [tm_flat]; exact List.prefix_append _ _) ?_
  simp only [og_set hq, og_setlast, List.set_cons_zero, List.set_cons_succ]
  refine awp_ret ?_
  refine q_then_r ?_
  have hd : wduec s n = false := by simp [wduec, g1]
  simp [endQ, wdue, wduet, hd, tm0]
 ·try simp at g1
  have h0 : 0 < s.h.ts.length := List.length_pos_iff.2 g1
  refine vcL_split 8 fun K' hK' => ?_
  simp (maxSteps := 1000000) (disch := first | omega | assumption) [hw, hq, hw2, og_app hq, og_last, ga3]
  repeat' refine And.intro ?_ ?_
  all_goals first | omega | exact rfl | skip
  refine hK' _ ?_
  clear hK' K'
  simp only [List.drop_succ_cons, List.drop_zero]
  simp (maxSteps := 1000000) (disch := first | omega | assumption) [hw, hq, hw2, og_app hq, og_last, ga3]
  repeat' refine And.intro ?_ ?_
  all_goals first | omega | exact rfl | skip
  refine hK _ ?_
  clear hK K
  clear ga3
  clear all
  refine q_then_n ?_
  refine awp_ifB (by simp <;> rfl) ?_
  refine ⟨fun c2 => ?_, fun c2 => ?_⟩
  ·try simp at c2
   refine awp_seq ?_
   refine awp_keep [0, 4, 5] (by simp only [keepL_nil, keepL_cons, envOf_sel, envOf_nil, sel_t, sel_f, Nat.reduceBEq] <;> rfl) ?_
   refine awp_regionA (c := ⟨[], [], [], [18, 32], []⟩) (by simp only [lite_cons, lite_nil] <;> rfl) fun all hall K hK => ?_
   clear hall
   simp (maxSteps := 1000000) (disch := first | omega | assumption) [hw, hq, hw2, og_app hq, og_last]
   repeat' refine And.intro ?_ ?_
   all_goals first | omega | exact rfl | skip
   refine hK _ ?_
   clear hK K
   clear all
   refine q_then_n ?_
   refine awp_closeXO m 0 4 σ.length s.h.ts.length cap (s.h.ts.map d_Tm) _ (s.h.ts.flatMap ct ++ rest) (og_app hq _ _) (by simp <;> rfl) (by rw [og_last]) (Ne.symm hmA) (by decide) (flat_len _ _ _ (by omega) (by rw [hrest] <;> omega)) (by simp) (tm_arr _) (by rw [tm_flat]; exact List.prefix_append _ _) ?_
   simp only [og_set hq, og_setlast, List.set_cons_zero, List.set_cons_succ]
   refine awp_ret ?_
   refine q_then_r ?_
   have hd : wduec s n = false := by unfold wduec; rw [at_get _ _ h0]; simp; omega
   simp [endQ, wdue, wduet, hd, tm0]
  ·try simp at c2
   refine awp_skip ?_
   refine q_then_n ?_
   refine awp_seq ?_
   refine awp_keep [0, 4, 5] (by simp only [keepL_nil, keepL_cons, envOf_sel, envOf_nil, sel_t, sel_f, Nat.reduceBEq] <;> rfl) ?_
   refine awp_regionA (c := ⟨[], [], [], [18, 32], []⟩) (by simp only [lite_cons, lite_nil] <;> rfl) fun all hall K hK => ?_
   clear hall
   refine vcL_split 8 fun K' hK' => ?_
   simp (maxSteps := 1000000) (disch := first | omega | assumption) [hw, hq, hw2, og_app hq, og_last]
   repeat' refine And.intro ?_ ?_
   all_goals first | omega | exact rfl | skip
   refine hK' _ ?_
   clear hK' K'
   simp only [List.drop_succ_cons, List.drop_zero]
   simp (maxSteps := 1000000) (disch := first | omega | assumption) [hw, hq, hw2, og_app hq, og_last]
   repeat' refine And.intro ?_ ?_
   all_goals first | omega | exact rfl | skip
   refine hK _ ?_
   clear hK K
   clear all
   refine q_then_n ?_
   refine awp_seq ?_
   refine awp_closeXO m 0 4 σ.length s.h.ts.length cap (s.h.ts.map d_Tm) _ (s.h.ts.flatMap ct ++ rest) (og_app hq _ _) (by simp <;> rfl) (by rw [og_last]) (Ne.symm hmA) (by decide) (flat_len _ _ _ (by omega) (by rw [hrest] <;> omega)) (by simp) (tm_arr _) (by rw [tm_flat]; exact List.prefix_append _ _) ?_
   simp only [og_set hq, og_setlast, List.set_cons_zero, List.set_cons_succ]
   refine awp_keep [0, 4, 5, 6] (by simp only [keepL_nil, keepL_cons, envOf_sel, envOf_nil, sel_t, sel_f, Nat.reduceBEq] <;> rfl) ?_
   refine awp_regionA (c := ⟨[], [], [], [18, 32], []⟩) (by simp only [lite_cons, lite_nil] <;> rfl) fun all hall K hK => ?_
   clear hall
   refine vcL_split 5 fun K' hK' => ?_
   simp (maxSteps := 1000000) (disch := first | omega | assumption) [hw, hq, hw2, og_app hq, og_last]
   repeat' refine And.intro ?_ ?_
   all_goals first | omega | exact rfl | skip
   refine hK' _ ?_
   clear hK' K'
   simp only [List.drop_succ_cons, List.drop_zero]
   refine vcL_step fun K' hK' => ?_
   simp (maxSteps := 1000000) (disch := first | omega | assumption) [hw, hq, hw2, og_app hq, og_last]
   refine Ct.mono (Ct.of_le (hPop_fn m M s.h _ (og_app hq _ _) hs.hk (by omega) (by simp; omega)) (by first | exact leArgs_of rfl | (refine leArgs_of ?_; simp; done) | (refine leArgs_of ?_; simp; rfl) | (simp [leArgs, leArg]; done)) rfl) ?_
   rintro _ _ ⟨hr9, hs9⟩
   subst hr9
   replace hs9 := hs9.symm
   subst hs9
   refine hK' _ ?_
   clear hK' K'
   simp only [vcL_nil]
   refine hK _ ?_
   clear hK K
   clear all
   refine q_then_n ?_
   refine awp_seq ?_
   refine awp_regionA (c := ⟨[], [], [], [18, 32], []⟩) (by simp only [lite_cons, lite_nil] <;> rfl) fun all hall K hK => ?_
   clear hall
   simp (maxSteps := 1000000) (disch := first | omega | assumption) [hw, hq, hw2, og_app hq, og_last]
   repeat' refine And.intro ?_ ?_
   all_goals first | omega | exact rfl | skip
   refine hK _ ?_
   clear hK K
   clear all
   refine q_then_n ?_
   skip
   refine awp_ret ?_
   have hd : wduec s n = true := by unfold wduec; rw [at_get _ _ h0]; simp; omega
   simp [endQ, wdue, wduet, hd, at_get _ _ h0, og_set hq]
theorem wdue_fn (w m M : Nat) (s : WS) (n : Int) (σ : List (List D)) (hw : σ[w]? = some (dwh m s)) (hq : σ[m]? = some (dhp M s.h)) (hs : WOk s) (hne : w ≠ m) (hM : M < σ.length) : Ct Try.prog 13 [.ref w 0, D.int n] σ (fun r σ' => r = .tup [d_Tm (wduet s n), .bool (wduec s n)] ∧ σ' = σ.set m (dhp M (wdue s n).h)) :=
 (wdue0_fn w m M s n σ hw hq hs hne hM).trim fun r σ' ⟨hr, hx⟩ => ⟨_, [[]], hx, by simp, by rw [hr]; exact Sc.tup (by intro d hd; simp only [List.mem_cons, List.not_mem_nil, or_false] at hd; rcases hd with rfl | rfl; exact tm_scl _ _; exact Sc.v _), trim_set (sc_dhp _ _ hM _), hr, rfl⟩
def tidx (l : List Tm) (n : Int) : Option Nat := l.findIdx? fun t => decide (t.token = n)
def wcan (s : WS) (n : Int) : WS × Bool := match tidx s.h.ts n with | some i => (⟨s.most, s.last, hRem s.h i⟩, true) | none => (s, false)
theorem kv_get {h : HP} (hk : HPok h) {i : Nat} (hi : i < h.ts.length) : mGet (h.kv.map kvD) (.int .i64 h.ts[i].token) (.v (.int .i64 0)) (D.int i) true := by
 obtain ⟨s, hs⟩ := hk.ix i hi
 obtain ⟨j, hj, hje⟩ := List.getElem_of_mem hs
 exact .inl ⟨rfl, j, s, kvD_at (by rw [List.getElem?_eq_getElem hj, hje])⟩
theorem kv_get0 {h : HP} (hk : HPok h) {n : Int} (hn : n ∉ toks h) : mGet (h.kv.map kvD) (.int .i64 n) (.v (.int .i64 0)) (.v (.int .i64 0)) false :=
 .inr ⟨rfl, rfl, kvD_none fun h9 => hn (hk.key_iff.1 h9)⟩
theorem wcan1_fn (w m M : Nat) (s : WS) (i : Nat) (σ : List (List D)) (hw : σ[w]? = some (dwh m s)) (hq : σ[m]? = some (dhp M s.h)) (hs : WOk s) (hM : M < σ.length) (hi : i < s.h.ts.length) : Ct Try.prog 11 [.ref w 0, D.int s.h.ts[i].token] σ (fun r σ' => r = .bool true ∧ σ' = σ.set m (dhp M (hRem s.h i))) := by
 refine fn_start (rs := [.tmp 4]) Try.func11 rfl rfl Try.ntmps11 Try.results11 (by simp) ?_
 simp only [argEnv]
 have hl := hs.hk.len
 refine awp_seq ?_
 refine awp_regionA (c := ⟨[], [], [], [], []⟩) (by simp only [lite_cons, lite_nil] <;> rfl) fun all hall K hK => ?_
 clear hall
 simp (maxSteps := 1000000) (disch := first | omega | assumption) [hw, hq]
 repeat' refine And.intro ?_ ?_
 all_goals first | omega | exact rfl | skip
 refine hK _ ?_
 clear hK K
 clear all
 refine q_then_n ?_
 refine awp_seq ?_
 refine awp_regionA (c := ⟨[], [], [], [], []⟩) (by simp only [lite_cons, lite_nil] <;> rfl) fun all hall K hK => ?_
 clear hall
 refine vcL_split 8 fun K' hK' => ?_
 simp (maxSteps := 1000000) (disch := first | omega | assumption) [hw, hq]
 repeat' refine And.intro ?_ ?_
 all_goals first | omega | exact rfl | skip
 refine hK' _ ?_
 clear hK' K'
 simp only [List.drop_succ_cons, List.drop_zero]
 refine vcL_split 1 fun K' hK' => ?_
 simp (maxSteps := 1000000) (disch := first | omega | assumption) [hw, hq]
 refine ⟨m, 1, s.h.ck, _, D.int i, .inr ⟨⟨⟨_, hq, rfl⟩, keyI _, kv_get hs.hk hi⟩, ?_⟩⟩
 repeat' refine And.intro ?_ ?_
 all_goals first | omega | exact rfl | skip
 refine hK' _ ?_
 clear hK' K'
 simp only [List.drop_succ_cons, List.drop_zero]
 simp (maxSteps := 1000000) (disch := first | omega | assumption) [hw, hq]
 repeat' refine And.intro ?_ ?_
 all_goals first | omega | exact rfl | skip
 refine hK _ ?_
 clear hK K
 clear all
 refine q_then_n ?_
 refine awp_seq ?_
 refine awp_seq ?_
 refine awp_keep [0, 4, 5, 6] (by simp only [keepL_nil, keepL_cons, envOf_sel, envOf_nil, sel_t, sel_f, Nat.reduceBEq] <;> rfl) ?_
 refine awp_regionA (c := ⟨[], [], [], [], []⟩) (by simp only [lite_cons, lite_nil] <;> rfl) fun all hall K hK => ?_
 clear hall
 simp (maxSteps := 1000000) (disch := first | omega | assumption) [hw, hq]
 repeat' refine And.intro ?_ ?_
 all_goals first | omega | exact rfl | skip
 refine hK _ ?_
 clear hK K
 clear all
 refine q_then_n ?_
 refine awp_ifB (by simp <;> rfl) ?_
 refine ⟨fun c1 => ?_, fun c1 => ?_⟩
 ·try simp at c1
  refine awp_regionA (c := ⟨[], [], [], [], []⟩) (by simp only [lite_cons, lite_nil] <;> rfl) fun all hall K hK => ?_
  clear hall
  refine vcL_split 6 fun K' hK' => ?_
  simp (maxSteps := 1000000) (disch := first | omega | assumption) [hw, hq]
  repeat' refine And.intro ?_ ?_
  all_goals first | omega | exact rfl | skip
  refine hK' _ ?_
  clear hK' K'
  simp only [List.drop_succ_cons, List.drop_zero]
  refine vcL_step fun K' hK' => ?_
  simp (maxSteps := 1000000) (disch := first | omega | assumption) [hw, hq]
  refine Ct.mono (Ct.of_le (hRem_fn m M s.h i _ hq hs.hk hi hM) (by first | exact leArgs_of rfl | (refine leArgs_of ?_; simp; done) | (refine leArgs_of ?_; simp; rfl) | (simp [leArgs, leArg]; done)) rfl) ?_
  rintro _ _ ⟨hr9, hs9⟩
  subst hr9
  replace hs9 := hs9.symm
  subst hs9
  refine hK' _ ?_
  clear hK' K'
  simp only [vcL_nil]
  refine hK _ ?_
  clear hK K
  clear all
  refine q_then_n ?_
  refine awp_seq ?_
  refine awp_keep [4, 6] (by simp only [keepL_nil, keepL_cons, envOf_sel, envOf_nil, sel_t, sel_f, Nat.reduceBEq] <;> rfl) ?_
  refine awp_regionA (c := ⟨[], [], [], [], []⟩) (by simp only [lite_cons, lite_nil] <;> rfl) fun all hall K hK => ?_
  clear hall
  simp (maxSteps := 1000000) (disch := first | omega | assumption) [hw, hq]
  repeat' refine And.intro ?_ ?_
  all_goals first | omega | exact rfl | skip
  refine hK _ ?_
  clear hK K
  clear all
  refine q_then_n ?_
  refine awp_ret ?_
  simp [endQ]
 ·simp at c1
theorem wcan0_fn (w m M : Nat) (s : WS) (n : Int) (σ : List (List D)) (hw : σ[w]? = some (dwh m s)) (hq : σ[m]? = some (dhp M s.h)) (hs : WOk s) (hM : M < σ.length) (hn : n ∉ toks s.h) : Ct Try.prog 11 [.ref w 0, D.int n] σ (fun r σ' => r = .bool false ∧ σ' = σ) := by
 refine fn_start (rs := [.tmp 4]) Try.func11 rfl rfl Try.ntmps11 Try.results11 (by simp) ?_
 simp only [argEnv]
 have hl := hs.hk.len
 refine awp_seq ?_
 refine awp_regionA (c := ⟨[], [], [], [], []⟩) (by simp only [lite_cons, lite_nil] <;> rfl) fun all hall K hK => ?_
 clear hall
 simp (maxSteps := 1000000) (disch := first | omega | assumption) [hw, hq]
 repeat' refine And.intro ?_ ?_
 all_goals first | omega | exact rfl | skip
 refine hK _ ?_
 clear hK K
 clear all
 refine q_then_n ?_
 refine awp_seq ?_
 refine awp_regionA (c := ⟨[], [], [], [], []⟩) (by simp only [lite_cons, lite_nil] <;> rfl) fun all hall K hK => ?_
 clear hall
 refine vcL_split 8 fun K' hK' => ?_
 simp (maxSteps := 1000000) (disch := first | omega | assumption) [hw, hq]
 repeat' refine And.intro ?_ ?_
 all_goals first | omega | exact rfl | skip
 refine hK' _ ?_
 clear hK' K'
 simp only [List.drop_succ_cons, List.drop_zero]
 refine vcL_split 1 fun K' hK' => ?_
 simp (maxSteps := 1000000) (disch := first | omega | assumption) [hw, hq]
 refine ⟨m, 1, s.h.ck, _, .v (.int .i64 0), .inl ⟨⟨⟨_, hq, rfl⟩, keyI _, kv_get0 hs.hk hn⟩, ?_⟩⟩
 repeat' refine And.intro ?_ ?_
 all_goals first | omega | exact rfl | skip
 refine hK' _ ?_
 clear hK' K'
 simp only [List.drop_succ_cons, List.drop_zero]
 simp (maxSteps := 1000000) (disch := first | omega | assumption) [hw, hq]
 repeat' refine And.intro ?_ ?_
 all_goals first | omega | exact rfl | skip
 refine hK _ ?_
 clear hK K
 clear all
 refine q_then_n ?_
 refine awp_seq ?_
 refine awp_seq ?_
 refine awp_keep [0, 4, 5, 6] (by simp only [keepL_nil, keepL_cons, envOf_sel, envOf_nil, sel_t, sel_f, Nat.reduceBEq] <;> rfl) ?_
 refine awp_regionA (c := ⟨[], [], [], [], []⟩) (by simp only [lite_cons, lite_nil] <;> rfl) fun all hall K hK => ?_
 clear hall
 simp (maxSteps := 1000000) (disch := first | omega | assumption) [hw, hq]
 repeat' refine And.intro ?_ ?_
 all_goals first | omega | exact rfl | skip
 refine hK _ ?_
 clear hK K
 clear all
 refine q_then_n ?_
 refine awp_ifB (by simp <;> rfl) ?_
 refine ⟨fun c1 => ?_, fun c1 => ?_⟩
 ·simp at c1
 ·try simp at c1
  refine awp_skip ?_
  refine q_then_n ?_
  refine awp_seq ?_
  refine awp_regionA (c := ⟨[], [], [], [], []⟩) (by simp only [lite_cons, lite_nil] <;> rfl) fun all hall K hK => ?_
  clear hall
  simp (maxSteps := 1000000) (disch := first | omega | assumption) [hw, hq]
  repeat' refine And.intro ?_ ?_
  all_goals first | omega | exact rfl | skip
  refine hK _ ?_
  clear hK K
  clear all
  refine q_then_n ?_
  refine awp_ret ?_
  simp [endQ]
theorem tidx_some {l : List Tm} {n : Int} {i : Nat} (h : tidx l n = some i) : ∃ hi : i < l.length, l[i].token = n := by
 obtain ⟨h1, h2, _⟩ := List.findIdx?_eq_some_iff_getElem.1 h
 exact ⟨h1, by simpa using h2⟩
theorem tidx_none {l : List Tm} {n : Int} (h : tidx l n = none) : n ∉ l.map (·.token) := by
 intro hm
 obtain ⟨t, ht, he⟩ := List.mem_map.1 hm
 have := List.findIdx?_eq_none_iff.1 h t ht
 simp [he] at this
theorem wcan_fn (w m M : Nat) (s : WS) (n : Int) (σ : List (List D)) (hw : σ[w]? = some (dwh m s)) (hq : σ[m]? = some (dhp M s.h)) (hs : WOk s) (hM : M < σ.length) : Ct Try.prog 11 [.ref w 0, D.int n] σ (fun r σ' => r = .bool (wcan s n).2 ∧ σ' = σ.set m (dhp M (wcan s n).1.h)) := by
 unfold wcan
 cases h : tidx s.h.ts n with
 | some i =>
  obtain ⟨hi, rfl⟩ := tidx_some h
  exact wcan1_fn w m M s i σ hw hq hs hM hi
 | none => exact (wcan0_fn w m M s n σ hw hq hs hM (tidx_none h)).mono fun r σ' ⟨a, b⟩ => ⟨a, by rw [b]; exact (obj_set_same hq).symm⟩
end Go.Proofs.Ytnlokhfcgaikiaa

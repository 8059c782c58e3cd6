import Derived.Test.YtnlokhfcgaikiaaWkPlay
namespace Go.Proofs.Ytnlokhfcgaikiaa
open Go Go.Vm
set_option maxRecDepth 20000
set_option linter.all false
set_option maxHeartbeats 8000000
theorem sorted_eq : ∀ {zs xs : List Tm}, zs.Perm xs → zs.Pairwise (fun a b => ¬ tlt b a) → xs.Pairwise tlt → zs = xs
 | zs, [], hp, _, _ => hp.eq_nil
 | [], x :: xs, hp, _, _ => by have := hp.length_eq; simp at this
 | z :: zs, x :: xs, hp, hz, hx => by
  have e : z = x := by
   rcases List.mem_cons.1 (hp.mem_iff.1 (List.mem_cons_self (a := z) (l := zs))) with h | h
   ·exact h
   ·have h1 := (List.pairwise_cons.1 hx).1 z h
    rcases List.mem_cons.1 (hp.mem_iff.2 (List.mem_cons_self (a := x) (l := xs))) with h2 | h2
    ·exact h2.symm
    ·exact absurd h1 ((List.pairwise_cons.1 hz).1 x h2)
  subst e
  rw [sorted_eq (List.perm_cons _ |>.1 hp) (List.pairwise_cons.1 hz).2 (List.pairwise_cons.1 hx).2]
structure PI (k : Int) (s : WS) (x : RW) : Prop where
 i : WI s
 most : x.most = s.most
 last : x.last = s.last
 lk : s.last ≤ k
 hp : x.l.Perm s.h.ts
 so : x.l.Pairwise tlt
theorem PI.len {k : Int} {s : WS} {x : RW} (h : PI k s x) : x.l.length = s.h.ts.length := h.hp.length_eq
theorem PI.xl {k : Int} {s : WS} {x : RW} (h : PI k s x) : x.l.length ≤ 100000 := by have := h.len; have := h.i.ok.hk.len; omega
theorem PI.xn {k : Int} {s : WS} {x : RW} (h : PI k s x) (hk : k ≤ 1000000) : 0 ≤ x.last ∧ x.last ≤ 1000000 := by have := h.last; have := h.lk; have := h.i.ok.hl; omega
theorem PI.mono {k k' : Int} {s : WS} {x : RW} (h : PI k s x) (hk : k ≤ k') : PI k' s x := ⟨h.i, h.most, h.last, by have := h.lk; omega, h.hp, h.so⟩
theorem PI.new (x : Int) : PI 0 ⟨clip x 1 65536, 0, hp0⟩ ⟨max 1 (min x 65536), 0, []⟩ := by
 have e : clip x 1 65536 = max 1 (min x 65536) := rfl
 exact ⟨WI.new _ (by rw [e]; omega) (by rw [e]; omega), e.symm, rfl, Int.le_refl _, by simp [hp0], .nil⟩
theorem rins_perm (t : Tm) (l : List Tm) : (rins t l).Perm (t :: l) := by
 unfold rins
 refine List.perm_middle.trans ?_
 rw [List.takeWhile_append_dropWhile]
theorem rins_sorted {t : Tm} : ∀ {l : List Tm}, l.Pairwise tlt → (∀ u ∈ l, u.token < t.token) → (rins t l).Pairwise tlt
 | [], _, _ => by simp [rins]
 | a :: l, h, hu => by
  have h' := List.pairwise_cons.1 h
  have ha := hu a List.mem_cons_self
  unfold rins
  rw [List.takeWhile_cons, List.dropWhile_cons]
  by_cases c : a.deadline ≤ t.deadline
  ·have e : tle t.deadline a = true := by simp [tle, c]
   simp only [e, if_true, List.cons_append]
   refine List.pairwise_cons.2 ⟨fun u hm => ?_, rins_sorted h'.2 fun u hm => hu u (List.mem_cons_of_mem _ hm)⟩
   have hm2 : u ∈ t :: l := (rins_perm t l).mem_iff.1 hm
   rcases List.mem_cons.1 hm2 with rfl | hm3
   ·unfold tlt; omega
   ·exact h'.1 u hm3
  ·have e : tle t.deadline a = false := by simp [tle, c]
   simp only [e, Bool.false_eq_true, if_false, List.nil_append]
   refine List.pairwise_cons.2 ⟨fun u hm => ?_, h⟩
   rcases List.mem_cons.1 hm with rfl | hm3
   ·unfold tlt; omega
   ·have := h'.1 u hm3; unfold tlt at *; omega
theorem PI.add {k : Int} {s : WS} {x : RW} (h : PI k s x) (n : Int) (j : Job) : PI (k + 1) (wadd s n j) (radd x n j).1 ∧
  (radd x n j).2.1 = (if s.most ≤ (s.h.ts.length : Int) then 0 else s.last + 1) ∧ (radd x n j).2.2 = (if s.most ≤ (s.h.ts.length : Int) then 9 else 0) := by
 have hl := h.len; have hm := h.most; have hla := h.last; have hc := h.i.ok.hc; have hk := h.lk
 obtain ⟨a, b⟩ := h.i.add n j
 by_cases c : s.most ≤ (s.h.ts.length : Int)
 ·have c' : (x.l.length : Int) = x.most := by omega
  have e : wadd s n j = s := if_pos c
  have e2 : radd x n j = (x, 0, 9) := if_pos c'
  rw [e, e2, if_pos c, if_pos c]
  exact ⟨h.mono (by omega), rfl, rfl⟩
 ·have c' : ¬ (x.l.length : Int) = x.most := by omega
  have e : wadd s n j = ⟨s.most, s.last + 1, hPush s.h ⟨s.last + 1, clip n 0 1099511627776, j⟩⟩ := if_neg c
  have e2 : radd x n j = (⟨x.most, x.last + 1, rins ⟨x.last + 1, max 0 (min n 1099511627776), j⟩ x.l⟩, x.last + 1, 0) := if_neg c'
  have hb := b c
  rw [e] at a hb
  rw [e, e2, if_neg c, if_neg c]
  refine ⟨⟨a, hm, by dsimp only; omega, by dsimp only; omega, ?_, ?_⟩, by rw [hla], rfl⟩
  ·refine (rins_perm _ _).trans (List.Perm.trans ?_ hb.symm)
   rw [hla]
   exact List.Perm.cons _ h.hp
  ·refine rins_sorted h.so fun u hu => ?_
   have := (h.i.ok.tk u (h.hp.mem_iff.1 hu)).2
   dsimp only
   omega
theorem rdel_perm {n : Int} {l l' : List Tm} (h : l.Perm l') : (rdel n l).Perm (rdel n l') := h.filter _
theorem rdel_none {n : Int} {l : List Tm} (h : n ∉ l.map (·.token)) : rdel n l = l := by
 unfold rdel
 rw [List.filter_eq_self]
 intro t ht
 simp only [ne_eq, decide_not, Bool.not_eq_true', decide_eq_false_iff_not]
 rintro rfl
 exact h (List.mem_map.2 ⟨t, ht, rfl⟩)
theorem PI.can {k : Int} {s : WS} {x : RW} (h : PI k s x) (n : Int) : PI k (wcan s n).1 ⟨x.most, x.last, rdel n x.l⟩ ∧ (wcan s n).2 = decide ((rdel n x.l).length < x.l.length) := by
 obtain ⟨a, b, c⟩ := h.i.can n
 have hso : (rdel n x.l).Pairwise tlt := h.so.filter _
 have htk : (x.l.map (·.token)).Perm (toks s.h) := h.hp.map _
 cases e : (wcan s n).2 with
 | false =>
  obtain ⟨e1, e2⟩ := b e
  have e3 : rdel n x.l = x.l := rdel_none fun h9 => e2 (htk.mem_iff.1 h9)
  rw [e1, e3]
  refine ⟨⟨h.i, h.most, h.last, h.lk, h.hp, h.so⟩, ?_⟩
  simp
 | true =>
  obtain ⟨t, ht, hp⟩ := c e
  have hnd : n ∉ (wcan s n).1.h.ts.map (·.token) := by
   have h1 : (toks s.h).Perm (n :: (wcan s n).1.h.ts.map (·.token)) := by
    have := hp.map (·.token)
    rwa [List.map_cons, ht] at this
   have h2 := (h1.nodup_iff).1 h.i.ok.hk.tnd
   exact (List.nodup_cons.1 h2).1
  have h3 : (rdel n x.l).Perm (wcan s n).1.h.ts := by
   have h4 := rdel_perm (n := n) (h.hp.trans hp)
   have h5 : rdel n (t :: (wcan s n).1.h.ts) = (wcan s n).1.h.ts := by
    have : rdel n (t :: (wcan s n).1.h.ts) = rdel n (wcan s n).1.h.ts := by simp [rdel, ht]
    rw [this, rdel_none hnd]
   rwa [h5] at h4
  have l1 := h3.length_eq
  have l2 := hp.length_eq
  have l3 := h.len
  rw [List.length_cons] at l2
  exact ⟨⟨a, by rw [wcan_most]; exact h.most, by rw [wcan_last]; exact h.last, by rw [wcan_last]; exact h.lk, h3, hso⟩, by symm; rw [decide_eq_true_eq]; omega⟩
theorem PI.head {k : Int} {s : WS} {x : RW} (h : PI k s x) (h0 : 0 < s.h.ts.length) : at_ x.l 0 = at_ s.h.ts 0 := by
 have hx : 0 < x.l.length := by have := h.len; omega
 have m1 : at_ x.l 0 ∈ x.l := by rw [at_get _ _ hx]; exact List.getElem_mem _
 have m2 : at_ s.h.ts 0 ∈ s.h.ts := by rw [at_get _ _ h0]; exact List.getElem_mem _
 have a1 := heap_min_mem h.i.hp (h.hp.mem_iff.1 m1)
 have a2 := h.hp.mem_iff.2 m2
 match hxl : x.l, hx with
 | y :: ys, _ =>
  have e : at_ (y :: ys) 0 = y := rfl
  rw [hxl] at a1 a2
  have hso := h.so
  rw [hxl] at hso
  rcases List.mem_cons.1 a2 with h9 | h9
  ·rw [e, h9]
  ·exact absurd ((List.pairwise_cons.1 hso).1 _ h9) (by rw [e] at a1; exact a1)
theorem PI.due {k : Int} {s : WS} {x : RW} (h : PI k s x) (n : Int) : PI k (wdue s n) (rdue x n) ∧ wduec s n = rduec x n ∧ wduet s n = rduet x n := by
 have hl := h.len
 have ec : wduec s n = rduec x n := by
  unfold wduec rduec
  by_cases h0 : 0 < s.h.ts.length
  ·rw [h.head h0, hl]
  ·have h1 : ¬ 0 < x.l.length := by omega
   simp [h0, h1]
 obtain ⟨a, b, c⟩ := h.i.due n
 cases e : wduec s n with
 | false =>
  have e2 : rduec x n = false := by rw [← ec]; exact e
  rw [b e]
  refine ⟨?_, e2.symm, by simp [wduet, rduet, e, e2]⟩
  simpa [rdue, e2] using h
 | true =>
  have e2 : rduec x n = true := by rw [← ec]; exact e
  obtain ⟨h0, hp, _, hg⟩ := c e
  have et : wduet s n = at_ s.h.ts 0 := by simp [wduet, e]
  have ex : rduet x n = at_ x.l 0 := by simp [rduet, e2]
  have hx : 0 < x.l.length := by omega
  refine ⟨⟨a, ?_, ?_, by rw [wdue_last]; exact h.lk, ?_, ?_⟩, e2.symm, by rw [et, ex, h.head h0]⟩
  ·simp [rdue, e2, wdue_most, h.most]
  ·simp [rdue, e2, wdue_last, h.last]
  ·have hd : rdue x n = ⟨x.most, x.last, x.l.drop 1⟩ := by simp [rdue, e2]
   rw [hd]
   have h5 : x.l = at_ x.l 0 :: x.l.drop 1 := by
    match hxl : x.l, hx with
    | y :: ys, _ => rfl
   have h6 : (at_ x.l 0 :: x.l.drop 1).Perm (at_ s.h.ts 0 :: (wdue s n).h.ts) := by rw [← h5, ← et]; exact h.hp.trans hp
   rw [h.head h0] at h6
   exact (List.perm_cons _).1 h6
  ·have hd : rdue x n = ⟨x.most, x.last, x.l.drop 1⟩ := by simp [rdue, e2]
   rw [hd]
   exact h.so.sublist (List.drop_sublist _ _)
def wdo (s : WS) (a : WAct) : WS := if a.kind = 0 then wadd s a.n a.job else if a.kind = 1 then (wcan s a.n).1 else wdue s a.n
def rdo (x : RW) (a : WAct) : RW := if a.kind = 0 then (radd x a.n a.job).1 else if a.kind = 1 then ⟨x.most, x.last, rdel a.n x.l⟩ else rdue x a.n
def okdo (s : WS) (x : RW) (a : WAct) : Prop := if a.kind = 0 then (if s.most ≤ (s.h.ts.length : Int) then 0 else s.last + 1) = (radd x a.n a.job).2.1 ∧ (if s.most ≤ (s.h.ts.length : Int) then (9 : Int) else 0) = (radd x a.n a.job).2.2
 else if a.kind = 1 then (wcan s a.n).2 = decide ((rdel a.n x.l).length < x.l.length) else wduec s a.n = rduec x a.n ∧ wduet s a.n = rduet x a.n
instance (s : WS) (x : RW) (a : WAct) : Decidable (okdo s x a) := by unfold okdo; infer_instance
theorem PI.step {k : Int} {s : WS} {x : RW} (h : PI k s x) (a : WAct) : PI (k + 1) (wdo s a) (rdo x a) ∧ okdo s x a := by
 unfold wdo rdo okdo
 by_cases k0 : a.kind = 0
 ·rw [if_pos k0, if_pos k0, if_pos k0]
  obtain ⟨h1, h2, h3⟩ := h.add a.n a.job
  exact ⟨h1, h2.symm, h3.symm⟩
 ·by_cases k1 : a.kind = 1
  ·rw [if_neg k0, if_pos k1, if_neg k0, if_pos k1, if_neg k0, if_pos k1]
   obtain ⟨h1, h2⟩ := h.can a.n
   exact ⟨h1.mono (by omega), h2⟩
  ·rw [if_neg k0, if_neg k1, if_neg k0, if_neg k1, if_neg k0, if_neg k1]
   obtain ⟨h1, h2, h3⟩ := h.due a.n
   exact ⟨h1.mono (by omega), h2, h3⟩
theorem wdo_most (s : WS) (a : WAct) : (wdo s a).most = s.most := by
 unfold wdo wadd
 split
 ·split <;> rfl
 ·split
  ·exact wcan_most _ _
  ·exact wdue_most _ _
theorem values_fn (N n cap : Nat) (σ : List (List D))  : Ct Try.prog 52 [.slo N 0 n cap] σ (fun r σ' => r = .clo (.func 72) [] [.adr [.slo N 0 n cap]] ∧ σ' = σ) := by
 refine fn_start (rs := [.tmp 2]) Try.func52 rfl rfl Try.ntmps52 Try.results52 (by simp) ?_
 simp only [argEnv]
 refine awp_seq ?_
 refine awp_regionA (c := ⟨[], [1], [], [], []⟩) (by simp only [lite_cons, lite_nil] <;> rfl) fun all hall K hK => ?_
 clear hall
 simp (maxSteps := 1000000) (disch := first | omega | assumption)
 repeat' refine And.intro ?_ ?_
 all_goals first | omega | exact rfl | skip
 refine hK _ ?_
 clear hK K
 clear all
 refine q_then_n ?_
 refine awp_seq ?_
 refine awp_regionA (c := ⟨[], [1], [], [], []⟩) (by simp only [lite_cons, lite_nil] <;> rfl) fun all hall K hK => ?_
 clear hall
 simp (maxSteps := 1000000) (disch := first | omega | assumption)
 repeat' refine And.intro ?_ ?_
 all_goals first | omega | exact rfl | skip
 refine hK _ ?_
 clear hK K
 clear all
 refine q_then_n ?_
 refine awp_ret ?_
 simp [endQ]
theorem sortedx_fn (N cap : Nat) (l xs : List Tm) (rest : List D) (σ : List (List D)) (hσ : σ[N]? = some (l.flatMap ct ++ rest)) (hlen : l.length < 1000000) (hp : xs.Perm l) (hs : xs.Pairwise tlt) : Ct Try.prog 51 [.clo (.func 72) [] [.adr [.slo N 0 l.length cap]], .clo (.func 53) [] []] σ (fun r σ' => r = .sl true (xs.map d_Tm) ∧ σ' = σ) :=
 (sortedf_fn N cap l rest σ hσ hlen).mono fun r σ' ⟨⟨zs, h1, h2, h3⟩, h4⟩ => ⟨by rw [h3, sorted_eq (h1.trans hp.symm) h2 hs], h4⟩
theorem wlist0_fn (w m M : Nat) (s : WS) (xs : List Tm) (σ : List (List D)) (hw : σ[w]? = some (dwh m s)) (hq : σ[m]? = some (dhp M s.h)) (hs : WOk s) (hne : w ≠ m) (hM : M < σ.length) (hp : xs.Perm s.h.ts) (hso : xs.Pairwise tlt) : Ct Try.prog 26 [.ref w 0] σ (fun r σ' => r = .sl true (xs.map d_Tm) ∧ ∃ cap ds, σ' = σ.set m (dho σ.length cap M s.h) ++ [ds] ∧ ds.length = cap * 4 ∧ s.h.ts.flatMap ct <+: ds) := by
 refine fn_start (rs := [.tmp 2]) Try.func26 rfl rfl Try.ntmps26 Try.results26 (by simp) ?_
 simp only [argEnv]
 have hl := hs.hk.len
 have hw2 : ∀ x : List D, ∀ r, (σ.set m x ++ r)[w]? = some (dwh m s) := fun x r => og_app0 ((sg_ne' _ hne).trans hw) r
 refine awp_openXO m 0 4 (hq) (by simp <;> rfl) (by decide) fun cap rest hcap hcm hrest hes => ?_
 simp only [List.length_map, List.set_set, List.length_set, List.set_cons_zero, List.set_cons_succ] at hcap hrest ⊢
 rw [tm_flat]
 have hmA : σ.length ≠ m := by have := og_lt hq; omega
 refine awp_seq ?_
 refine awp_regionA (c := ⟨[2], [], [], [], []⟩) (by simp only [lite_cons, lite_nil] <;> rfl) fun all hall K hK => ?_
 clear hall
 simp (maxSteps := 1000000) (disch := first | omega | assumption) [hw, hq, hw2, og_app hq, og_last]
 repeat' refine And.intro ?_ ?_
 all_goals first | omega | exact rfl | skip
 refine hK _ ?_
 clear hK K
 clear all
 refine q_then_n ?_
 refine awp_seq ?_
 refine awp_regionA (c := ⟨[2], [], [], [], []⟩) (by simp only [lite_cons, lite_nil] <;> rfl) fun all hall K hK => ?_
 clear hall
 refine vcL_split 7 fun K' hK' => ?_
 simp (maxSteps := 1000000) (disch := first | omega | assumption) [hw, hq, hw2, og_app hq, og_last]
 repeat' refine And.intro ?_ ?_
 all_goals first | omega | exact rfl | skip
 refine hK' _ ?_
 clear hK' K'
 simp only [List.drop_succ_cons, List.drop_zero]
 refine vcL_step fun K' hK' => ?_
 simp (maxSteps := 1000000) (disch := first | omega | assumption) [hw, hq, hw2, og_app hq, og_last]
 refine Ct.mono (Ct.of_le (values_fn ..) (by first | exact leArgs_of rfl | (refine leArgs_of ?_; simp; done) | (refine leArgs_of ?_; simp; rfl) | (simp [leArgs, leArg]; done)) rfl) ?_
 rintro _ _ ⟨hr9, hs9⟩
 subst hr9
 replace hs9 := hs9.symm
 subst hs9
 refine hK' _ ?_
 clear hK' K'
 refine vcL_step fun K' hK' => ?_
 simp (maxSteps := 1000000) (disch := first | omega | assumption) [hw, hq, hw2, og_app hq, og_last]
 refine Ct.mono (Ct.of_le (sortedx_fn σ.length cap s.h.ts xs rest _ (by rw [og_last]) (by omega) hp hso) (by first | exact leArgs_of rfl | (refine leArgs_of ?_; simp; done) | (refine leArgs_of ?_; simp; rfl) | (simp [leArgs, leArg]; done)) rfl) ?_
 rintro _ _ ⟨hr9, hs9⟩
 subst hr9
 replace hs9 := hs9.symm
 subst hs9
 refine hK' _ ?_
 clear hK' K'
 simp (maxSteps := 1000000) (disch := first | omega | assumption) [hw, hq, hw2, og_app hq, og_last]
 repeat' refine And.intro ?_ ?_
 all_goals first | omega | exact rfl | skip
 refine hK _ ?_
 clear hK K
 clear all
 refine q_then_n ?_
 refine awp_ret ?_
 simp [endQ]
 exact ⟨cap, _, ⟨rfl, rfl⟩, flat_len _ _ _ (by omega) (by rw [hrest] <;> omega), List.prefix_append _ _⟩
theorem wlist_fn (w m M : Nat) (s : WS) (xs : List Tm) (σ : List (List D)) (hw : σ[w]? = some (dwh m s)) (hq : σ[m]? = some (dhp M s.h)) (hs : WOk s) (hne : w ≠ m) (hM : M < σ.length) (hp : xs.Perm s.h.ts) (hso : xs.Pairwise tlt) : Ct Try.prog 26 [.ref w 0] σ (fun r σ' => r = .sl true (xs.map d_Tm) ∧ σ' = σ) :=
 (pile_close hM hq (Sc.sl (Sc.map fun a => tm_scl _ _)) (wlist0_fn w m M s xs σ hw hq hs hne hM hp hso)).mono fun r σ' ⟨a, b⟩ => ⟨a, by rw [b]; exact obj_set_same hq⟩
theorem dwh_can (m : Nat) (s : WS) (n : Int) : dwh m (wcan s n).1 = dwh m s := by simp [dwh, wcan_most, wcan_last]
theorem dwh_due (m : Nat) (s : WS) (n : Int) : dwh m (wdue s n) = dwh m s := by simp [dwh, wdue_most, wdue_last]
theorem tm_beq (a b : Tm) : ((told a).token == b.token && (told a).deadline == b.deadline && (told a).job.kind == b.job.kind && (told a).job.node == b.job.node) = decide (a = b) := by
 rw [told_id, Bool.eq_iff_iff]
 simp only [Bool.and_eq_true, beq_iff_eq, decide_eq_true_eq]
 exact ⟨tm_ext, by rintro rfl; simp⟩
structure PSt where
 k : Nat
 s : WS
 x : RW
end Go.Proofs.Ytnlokhfcgaikiaa

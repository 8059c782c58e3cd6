import Derived.Test.YtnlokhfcgaikiaaWkSched3
namespace Go.Proofs.Ytnlokhfcgaikiaa
open Go Go.Vm
set_option maxRecDepth 20000
set_option linter.all false
set_option maxHeartbeats 8000000
structure SV (k : Nat) (s : SS) : Prop where
 wi : WI s.t
 lk : s.t.last ≤ k
 tm : s.t.most = s.most
 tl : s.t.h.ts.length ≤ k
 q0 : s.q.w0.length + s.q.w1.length ≤ k
 ql : 0 ≤ s.q.last ∧ s.q.last ≤ k
 q3 : ∀ w ∈ s.q.w0, w.left = 1
 q4 : ∀ w ∈ s.q.w1, w.left = 2
 qm : s.q.most = s.most
 nw : 0 ≤ s.now ∧ s.now ≤ 1099511627776
theorem SV.ok {k : Nat} {s : SS} (h : SV k s) (hk : k ≤ 1000) : SOk s :=
 ⟨h.wi.ok, ⟨by have := h.q0; omega, by have := h.q0; omega, by have := h.ql; omega, h.q3, h.q4⟩, by have := h.lk; omega, h.nw⟩
theorem SV.mono {k k' : Nat} {s : SS} (h : SV k s) (hk : k ≤ k') : SV k' s :=
 ⟨h.wi, by have := h.lk; omega, h.tm, by have := h.tl; omega, by have := h.q0; omega, by have := h.ql; omega, h.q3, h.q4, h.qm, h.nw⟩
theorem clip_in (x : Int) : 1 ≤ clip x 1 65536 ∧ clip x 1 65536 ≤ 65536 := by unfold clip; omega
theorem clip_clip (x : Int) : clip (clip x 1 65536) 1 65536 = clip x 1 65536 := by unfold clip; omega
theorem SV.new (x : Int) : SV 0 (snew x) := by
 have h := clip_in (clip x 1 65536)
 exact ⟨WI.new _ h.1 h.2, Int.le_refl _, clip_clip x, by simp [snew, hp0], by simp [snew], ⟨Int.le_refl _, Int.le_refl _⟩, by simp [snew], by simp [snew], clip_clip x, by simp [snew]⟩
theorem wadd_last (s : WS) (n : Int) (j : Job) : (wadd s n j).last = (if s.most ≤ (s.h.ts.length : Int) then s.last else s.last + 1) ∧ (wadd s n j).most = s.most := by unfold wadd; split <;> exact ⟨rfl, rfl⟩
theorem wadd_len {s : WS} (h : WI s) (n : Int) (j : Job) : (wadd s n j).h.ts.length ≤ s.h.ts.length + 1 ∧ ∀ t ∈ (wadd s n j).h.ts, t ∈ s.h.ts ∨ t.deadline = clip n 0 1099511627776 := by
 by_cases c : s.most ≤ (s.h.ts.length : Int)
 ·have e : wadd s n j = s := if_pos c
  rw [e]; exact ⟨by omega, fun t ht => .inl ht⟩
 ·have hp := (h.add n j).2 c
  refine ⟨by rw [hp.length_eq]; simp, fun t ht => ?_⟩
  rcases List.mem_cons.1 (hp.mem_iff.1 ht) with rfl | h9
  ·exact .inr rfl
  ·exact .inl h9
theorem wdue_sub {s : WS} (h : WI s) (n : Int) : (wdue s n).h.ts.length ≤ s.h.ts.length ∧ (∀ t ∈ (wdue s n).h.ts, t ∈ s.h.ts) ∧ (wduec s n = true → (wdue s n).h.ts.length + 1 = s.h.ts.length ∧ wduet s n ∈ s.h.ts ∧ (wduet s n).deadline ≤ n) := by
 obtain ⟨_, b, c⟩ := h.due n
 cases e : wduec s n with
 | false => rw [b e]; exact ⟨Nat.le_refl _, fun t ht => ht, fun h9 => by simp at h9⟩
 | true =>
  obtain ⟨h0, hp, hd, _⟩ := c e
  have hl := hp.length_eq
  rw [List.length_cons] at hl
  exact ⟨by omega, fun t ht => hp.mem_iff.2 (List.mem_cons_of_mem _ ht), fun _ => ⟨by omega, hp.mem_iff.2 List.mem_cons_self, hd⟩⟩
theorem wcan_sub {s : WS} (h : WI s) (n : Int) : (wcan s n).1.h.ts.length ≤ s.h.ts.length ∧ ∀ t ∈ (wcan s n).1.h.ts, t ∈ s.h.ts := by
 obtain ⟨_, b, c⟩ := h.can n
 cases e : (wcan s n).2 with
 | false => rw [(b e).1]; exact ⟨Nat.le_refl _, fun t ht => ht⟩
 | true =>
  obtain ⟨t, _, hp⟩ := c e
  have hl := hp.length_eq
  rw [List.length_cons] at hl
  exact ⟨by omega, fun t ht => hp.mem_iff.2 (List.mem_cons_of_mem _ ht)⟩
theorem sclip_rg {k : Nat} {s : SS} (h : SV k s) (n : Int) : s.now ≤ sclip s n ∧ sclip s n ≤ 1099511627776 := by
 have := h.nw; unfold sclip clip; omega
theorem SV.sec {k : Nat} {s : SS} (h : SV k s) (j : Job) : SV (k + 1) (ssec s j) := by
 unfold ssec
 split
 ·exact h.mono (by omega)
 ·rename_i c
  have hm := h.mono (show k ≤ k + 1 by omega)
  have hql := h.ql; have hq0 := h.q0
  unfold qask
  split
  ·exact hm
  ·refine ⟨hm.wi, hm.lk, hm.tm, hm.tl, ?_, ?_, h.q3, ?_, h.qm, h.nw⟩
   ·dsimp only; simp only [List.length_append, List.length_singleton]; omega
   ·dsimp only; omega
   ·intro w hw
    dsimp only at hw
    rcases List.mem_append.1 hw with h9 | h9
    ·exact h.q4 w h9
    ·simp at h9; subst h9; rfl
theorem SV.add {k : Nat} {s : SS} (h : SV k s) (d : Int) (j : Job) : SV (k + 1) (sadd s d j) := by
 unfold sadd
 split
 ·exact h.mono (by omega)
 ·have hm := h.mono (show k ≤ k + 1 by omega)
  obtain ⟨l1, l2⟩ := wadd_last s.t (later s.now d) j
  obtain ⟨w1, _⟩ := wadd_len h.wi (later s.now d) j
  have hlk := h.lk; have htl := h.tl
  exact ⟨(h.wi.add _ _).1, by dsimp only; rw [l1]; split <;> omega, by dsimp only; rw [l2]; exact h.tm, by dsimp only; omega, hm.q0, hm.ql, h.q3, h.q4, h.qm, h.nw⟩
theorem SV.can {k : Nat} {s : SS} (h : SV k s) (f : Bool) (n : Int) : SV k (scan s f n) := by
 unfold scan
 split
 ·have a := qdel_len n s.q.w0
  have b := qdel_len n s.q.w1
  have e : qcan s.q n 2 = ⟨s.q.most, s.q.last, qdel n s.q.w0, qdel n s.q.w1⟩ := by simp [qcan]
  have hq0 := h.q0
  rw [e]
  exact ⟨h.wi, h.lk, h.tm, h.tl, by dsimp only; omega, h.ql, fun w hw => h.q3 w (List.mem_filter.1 hw).1, fun w hw => h.q4 w (List.mem_filter.1 hw).1, h.qm, h.nw⟩
 ·have w1 := wcan_sub h.wi n
  have htl := h.tl
  exact ⟨(h.wi.can n).1, by dsimp only; rw [wcan_last]; exact h.lk, by dsimp only; rw [wcan_most]; exact h.tm, by dsimp only; omega, h.q0, h.ql, h.q3, h.q4, h.qm, h.nw⟩
theorem SV.frame {k : Nat} {s : SS} (h : SV k s) : SV k (sframe s) := by
 have hq0 := h.q0
 refine ⟨h.wi, h.lk, h.tm, h.tl, by simp [sframe, qnext]; omega, h.ql, ?_, by simp [sframe, qnext], h.qm, h.nw⟩
 intro w hw
 obtain ⟨u, hu, rfl⟩ := List.mem_map.1 hw
 simp [wdec, h.q4 u hu]
theorem SV.until {k : Nat} {s : SS} (h : SV k s) (n : Int) : SV k (suntil s n) := by
 obtain ⟨w1, w2, w3⟩ := wdue_sub h.wi (sclip s n)
 have hc := sclip_rg h n
 have hn := h.nw
 have htl := h.tl
 refine ⟨(h.wi.due _).1, by simp only [suntil]; rw [wdue_last]; exact h.lk, by simp only [suntil]; rw [wdue_most]; exact h.tm, by simp only [suntil]; omega, h.q0, h.ql, h.q3, h.q4, h.qm, ?_⟩
 simp only [suntil]
 split
 ·rename_i c
  obtain ⟨_, _, c3⟩ := w3 c
  omega
 ·omega
theorem SV.step {k : Nat} {s : SS} (h : SV k s) (a : SAct) : SV (k + 1) (sdo s a) := by
 unfold sdo
 split
 ·exact h.sec _
 ·split
  ·exact (h.can _ _).mono (by omega)
  ·split
   ·exact h.frame.mono (by omega)
   ·split
    ·exact h.add _ _
    ·exact (h.until _).mono (by omega)
theorem ROk.new : ROk (rsnew 1) := ⟨by simp [rsnew], by simp [rsnew], by simp [rsnew], by simp [rsnew], by simp [rsnew]⟩
structure SE (k : Nat) (s : SS) (far : Int) : Prop where
 v : SV k s
 now : s.now ≤ 1023
 lo : s.now ≤ far
 hi : far ≤ 2046
 dl : ∀ t ∈ s.t.h.ts, t.deadline ≤ far
structure ESt where
 k : Nat
 s : SS
 far : Int
theorem SE.new : SE 0 (snew 100) 0 := ⟨SV.new _, by simp [snew], by simp [snew], by omega, by simp [snew, hp0]⟩
theorem SE.step {k : Nat} {s : SS} {far : Int} (h : SE k s far) (a : SAct) (hn : 0 ≤ a.n ∧ a.n ≤ 1023) : SE (k + 1) (sdo s a) (max far ((sdo s a).now + 1023)) := by
 have hv := h.v.step a
 have h1 := h.now; have h2 := h.lo; have h3 := h.hi; have h0 := h.v.nw
 have key : (sdo s a).now ≤ 1023 ∧ ∀ t ∈ (sdo s a).t.h.ts, t ∈ s.t.h.ts ∨ t.deadline ≤ (sdo s a).now + 1023 := by
  unfold sdo
  split
  ·unfold ssec; split <;> exact ⟨h1, fun t ht => .inl ht⟩
  ·split
   ·unfold scan
    split
    ·exact ⟨h1, fun t ht => .inl ht⟩
    ·exact ⟨h1, fun t ht => .inl ((wcan_sub h.v.wi _).2 t ht)⟩
   ·split
    ·exact ⟨h1, fun t ht => .inl ht⟩
    ·split
     ·unfold sadd
      split
      ·exact ⟨h1, fun t ht => .inl ht⟩
      ·refine ⟨h1, fun t ht => ?_⟩
       rcases (wadd_len h.v.wi _ _).2 t ht with h9 | h9
       ·exact .inl h9
       ·refine .inr ?_
        rw [h9]
        dsimp only
        unfold later clip
        omega
     ·obtain ⟨w1, w2, w3⟩ := wdue_sub h.v.wi (sclip s a.n)
      refine ⟨?_, fun t ht => .inl (w2 t ht)⟩
      simp only [suntil]
      have hc : sclip s a.n ≤ 1023 := by unfold sclip clip; omega
      split
      ·rename_i c
       obtain ⟨_, _, c3⟩ := w3 c
       omega
      ·exact hc
 refine ⟨hv, key.1, by omega, by omega, fun t ht => ?_⟩
 rcases key.2 t ht with h9 | h9
 ·have := h.dl t h9; omega
 ·omega
structure SF (n : Nat) (s : SS) (far : Int) : Prop where
 v : SV 40 s
 lo : s.now ≤ far
 hi : far ≤ 4000
 dl : ∀ t ∈ s.t.h.ts, t.deadline ≤ far
 len : n + s.t.h.ts.length ≤ 40
 q : s.q.w0 = [] ∧ s.q.w1 = []
structure FSt2 where
 n : Nat
 s : SS
theorem SE.out {k : Nat} {s : SS} {far : Int} (h : SE k s far) (hk : k ≤ 40) (m : Int) (hm : 0 ≤ m ∧ m ≤ 1023) : SF 0 (sframe (sframe s)) (far + m) :=
 ⟨(h.v.frame.frame).mono hk, by have := h.lo; simp [sframe]; omega, by have := h.hi; omega, fun t ht => by have := h.dl t ht; omega, by have := h.v.tl; simp [sframe]; omega, by simp [sframe, qnext]⟩
theorem SF.sc {n : Nat} {s : SS} {far : Int} (h : SF n s far) : sclip s far = far := by
 have := h.lo; have := h.hi; have := h.v.nw; unfold sclip clip; omega
theorem SF.next {n : Nat} {s : SS} {far : Int} (h : SF n s far) (c : wduec s.t (sclip s far) = true) : SF (n + 1) (suntil s far) far ∧ n < 40 := by
 have hc := h.sc
 obtain ⟨w1, w2, w3⟩ := wdue_sub h.v.wi (sclip s far)
 obtain ⟨c1, c2, c3⟩ := w3 c
 have hl := h.len
 have hlo := h.lo
 refine ⟨⟨h.v.until far, ?_, h.hi, fun t ht => h.dl t (w2 t ht), by simp only [suntil]; omega, h.q⟩, by omega⟩
 simp only [suntil, c, if_true]
 rw [hc] at c3 ⊢
 omega
theorem SF.done {n : Nat} {s : SS} {far : Int} (h : SF n s far) (c : wduec s.t (sclip s far) = false) : slen (suntil s far) = 0 ∧ (suntil s far).now = far := by
 have hc := h.sc
 have e := ((h.v.wi.due (sclip s far)).2.1 c)
 have h0 : s.t.h.ts = [] := by
  by_cases h9 : 0 < s.t.h.ts.length
  ·exfalso
   have hm : s.t.h.ts[0] ∈ s.t.h.ts := List.getElem_mem h9
   have hd := h.dl _ hm
   rw [← at_get _ _ h9] at hd
   rw [hc] at c
   unfold wduec at c
   rw [decide_eq_false_iff_not] at c
   exact c ⟨h9, hd⟩
  ·exact List.eq_nil_of_length_eq_zero (by omega)
 refine ⟨?_, ?_⟩
 ·simp only [slen, suntil]; rw [e, h0]; simp [qlen, h.q.1, h.q.2]
 ·simp only [suntil]; rw [if_neg (by rw [c]; simp)]; exact hc
theorem sput_sc {S w m M q : Nat} {s s' : SS} {σ : List (List D)} (h : SO S w m M q s σ) : ∀ (n : Nat) (cs : List D), (sput S w m M q s' σ)[n]? = some cs → σ[n]? = some cs ∨ ∀ d ∈ cs, Sc σ.length d := by
 intro n cs hn
 unfold sput at hn
 rcases trim_set (sc_dqq _ _) n cs hn with h9 | h9
 ·rcases trim_set (sc_dhp _ _ h.hM _) n cs h9 with h9 | h9
  ·rcases trim_set (N := σ.length) (fun d hd => by
    simp only [dwh, List.mem_cons, List.not_mem_nil, or_false] at hd
    rcases hd with rfl | rfl | rfl
    ·exact Sc.v _
    ·exact Sc.v _
    ·exact Sc.ref (og_lt h.hm)) n cs h9 with h9 | h9
   ·exact trim_set (fun d hd => by
     simp only [dss, List.mem_cons, List.not_mem_nil, or_false] at hd
     rcases hd with rfl | rfl | rfl | rfl
     ·exact Sc.v _
     ·exact Sc.v _
     ·exact Sc.ref (og_lt h.hw)
     ·exact Sc.ref (og_lt h.hq)) n cs h9
   ·exact .inr h9
  ·exact .inr h9
 ·exact .inr h9
theorem sdo_fn (S w m M q : Nat) (s : SS) (x : RS) (a : SAct) (σ : List (List D)) (ho : SO S w m M q s σ) (hs : SOk s) (hx : ROk x) : Ct Try.prog 17 [.ref S 0, d_RS x, d_SAct a] σ (fun r σ' => r = .tup [d_RS (rsdo x a), .bool (decide (sokdo s x a))] ∧ σ' = sput S w m M q (sdo s a) σ) :=
 (sdo0_fn S w m M q s x a σ ho hs hx).trim fun r σ' ⟨hr, J, hx⟩ => ⟨_, J, hx, sput_len _ _ _ _ _ _ _, by
  rw [hr]
  refine Sc.tup fun d hd => ?_
  simp only [List.mem_cons, List.not_mem_nil, or_false] at hd
  rcases hd with rfl | rfl
  ·exact rs_sc _ _
  ·exact Sc.v _, sput_sc ho, hr, rfl⟩
theorem SO.lay (τ : List (List D)) (s : SS) (ρ : List (List D)) : SO (τ.length + 4) (τ.length + 2) (τ.length + 1) τ.length (τ.length + 3) s (τ ++ ([] :: dhp τ.length s.t.h :: dwh (τ.length + 1) s.t :: dqq s.q :: dss (τ.length + 2) (τ.length + 3) s :: ρ)) := by
 constructor <;> first | omega | simp [og_at, og_at0]
theorem lay_put (τ : List (List D)) (s s' : SS) (ρ : List (List D)) : sput (τ.length + 4) (τ.length + 2) (τ.length + 1) τ.length (τ.length + 3) s' (τ ++ ([] :: dhp τ.length s.t.h :: dwh (τ.length + 1) s.t :: dqq s.q :: dss (τ.length + 2) (τ.length + 3) s :: ρ)) = τ ++ ([] :: dhp τ.length s'.t.h :: dwh (τ.length + 1) s'.t :: dqq s'.q :: dss (τ.length + 2) (τ.length + 3) s' :: ρ) := by
 simp [sput, og_put, og_put0]
def aw0 : SS := ⟨0, 9, ⟨9, 0, hp0⟩, ⟨9, 0, [], []⟩⟩
def aw1 : SS := ⟨0, 9, ⟨9, 1, ⟨[⟨1, 3, ⟨0, 1⟩⟩], 1, [(1, 0, 0)]⟩⟩, ⟨9, 0, [], []⟩⟩
def aw2 : SS := ⟨0, 9, ⟨9, 1, ⟨[⟨1, 3, ⟨0, 1⟩⟩], 1, [(1, 0, 0)]⟩⟩, ⟨9, 1, [], [⟨1, 2, ⟨0, 2⟩⟩]⟩⟩
theorem aws_0 : snew 9 = aw0 := by
 have c : clip 9 1 65536 = 9 := by decide
 simp only [snew, c, aw0]
theorem aws_1 : sadd (snew 9) 3 ⟨0, 1⟩ = aw1 := by
 rw [aws_0]
 have c1 : ¬ aw0.most ≤ slen aw0 := by decide
 have c2 : later aw0.now 3 = 3 := by decide
 have c3 : clip 3 0 1099511627776 = 3 := by decide
 rw [sadd, if_neg c1, c2]
 simp only [aw0, wadd, c3, hPush, hpush, hp0]
 rw [if_neg (by simp), hup_no (by simp)]
 rfl
theorem aws_1r : saddr (snew 9) 3 ⟨0, 1⟩ = (⟨false, 1⟩, 0) := by rw [aws_0]; decide
theorem aws_2 : ssec aw1 ⟨0, 2⟩ = aw2 := by
 rw [ssec, if_neg (by decide)]
 rfl
theorem aws_2r : ssecr aw1 ⟨0, 2⟩ = (⟨true, 1⟩, 0) := by decide
theorem aws_c : sclip aw2 9 = 9 := by decide
theorem aws_d : wduec aw2.t 9 = true := by decide
theorem aws_t : wduet aw2.t 9 = ⟨1, 3, ⟨0, 1⟩⟩ := by unfold wduet; rw [aws_d]; rfl
theorem aws_3 : suntil aw2 9 = ⟨3, 9, ⟨9, 1, hPop aw2.t.h⟩, aw2.q⟩ := by
 have e : wdue aw2.t 9 = ⟨9, 1, hPop aw2.t.h⟩ := by unfold wdue; rw [aws_d]; rfl
 simp only [suntil, aws_c, aws_d, aws_t, e]
 rfl
theorem aws_v1 : SV 1 aw1 := by have := (SV.new 9).add 3 ⟨0, 1⟩; rwa [aws_1] at this
theorem aws_v2 : SV 2 aw2 := by have := aws_v1.sec ⟨0, 2⟩; rwa [aws_2] at this
theorem aws_len : slen ⟨3, 9, ⟨9, 1, hPop aw2.t.h⟩, aw2.q⟩ = 1 := by
 have h := (hPop_heap (h := aw2.t.h) (by decide) aws_v2.wi.hp).2.length_eq
 rw [List.length_cons] at h
 have h2 : aw2.t.h.ts.length = 1 := rfl
 have h3 : (hPop aw2.t.h).ts.length = 0 := by omega
 simp only [slen, h3]
 decide
theorem aws_v3 : SV 2 ⟨3, 9, ⟨9, 1, hPop aw2.t.h⟩, aw2.q⟩ := by have := aws_v2.until 9; rwa [aws_3] at this
theorem swake0_fn  (σ : List (List D))  : Ct Try.prog 15 [] σ (fun r σ' => r = .bool true ∧ ∃ J, σ' = σ ++ J) := by
 refine fn_start (rs := [.tmp 0]) Try.func15 rfl rfl Try.ntmps15 Try.results15 (by simp) ?_
 simp only [argEnv]
 refine awp_seq ?_
 refine awp_regionA (c := ⟨[], [], [], [], []⟩) (by simp only [lite_cons, lite_nil] <;> rfl) fun all hall K hK => ?_
 clear hall
 simp (maxSteps := 1000000) (disch := first | omega | assumption) [og_at, og_put, og_at0, og_put0]
 repeat' refine And.intro ?_ ?_
 all_goals first | omega | exact rfl | skip
 refine hK _ ?_
 clear hK K
 clear all
 refine q_then_n ?_
 refine awp_seq ?_
 refine awp_regionA (c := ⟨[], [], [], [], []⟩) (by simp only [lite_cons, lite_nil] <;> rfl) fun all hall K hK => ?_
 clear hall
 refine vcL_step fun K' hK' => ?_
 simp (maxSteps := 1000000) (disch := first | omega | assumption) [og_at, og_put, og_at0, og_put0]
 refine Ct.mono (Ct.of_le (snew_fn 9 _) (by first | exact leArgs_of rfl | (refine leArgs_of ?_; simp; done) | (refine leArgs_of ?_; simp; rfl) | (simp [leArgs, leArg]; done)) rfl) ?_
 rintro _ _ ⟨hr9, hs9⟩
 subst hr9
 replace hs9 := hs9.symm
 subst hs9
 refine hK' _ ?_
 clear hK' K'
 simp (maxSteps := 1000000) (disch := first | omega | assumption) [og_at, og_put, og_at0, og_put0]
 repeat' refine And.intro ?_ ?_
 all_goals first | omega | exact rfl | skip
 refine hK _ ?_
 clear hK K
 clear all
 refine q_then_n ?_
 refine awp_seq ?_
 refine awp_seq ?_
 refine awp_regionA (c := ⟨[], [], [], [], []⟩) (by simp only [lite_cons, lite_nil] <;> rfl) fun all hall K hK => ?_
 clear hall
 simp (maxSteps := 1000000) (disch := first | omega | assumption) [og_at, og_put, og_at0, og_put0]
 repeat' refine And.intro ?_ ?_
 all_goals first | omega | exact rfl | skip
 refine hK _ ?_
 clear hK K
 clear all
 refine q_then_n ?_
 refine awp_ifB (by simp <;> rfl) ?_
 refine ⟨fun c1 => ?_, fun c1 => ?_⟩
 ·simp at c1
 ·try simp at c1
  refine awp_skip ?_
  refine q_then_n ?_
  refine awp_seq ?_
  refine awp_regionA (c := ⟨[], [], [], [], []⟩) (by simp only [lite_cons, lite_nil] <;> rfl) fun all hall K hK => ?_
  clear hall
  refine vcL_split 2 fun K' hK' => ?_
  simp (maxSteps := 1000000) (disch := first | omega | assumption) [og_at, og_put, og_at0, og_put0]
  repeat' refine And.intro ?_ ?_
  all_goals first | omega | exact rfl | skip
  refine hK' _ ?_
  clear hK' K'
  simp only [List.drop_succ_cons, List.drop_zero]
  refine vcL_step fun K' hK' => ?_
  simp (maxSteps := 1000000) (disch := first | omega | assumption) [og_at, og_put, og_at0, og_put0]
  refine Ct.mono (Ct.of_le (safter_fn (σ.length + 4) (σ.length + 2) (σ.length + 1) σ.length (σ.length + 3) (snew 9) 3 ⟨0, 1⟩ _ (SO.lay σ (snew 9) []) ((SV.new 9).ok (by omega))) (by first | exact leArgs_of rfl | (refine leArgs_of ?_; simp; done) | (refine leArgs_of ?_; simp; rfl) | (simp [leArgs, leArg]; done)) rfl) ?_
  rintro _ _ ⟨hr9, hs9⟩
  subst hr9
  replace hs9 := hs9.symm
  subst hs9
  rw [lay_put, aws_1, aws_1r]
  refine hK' _ ?_
  clear hK' K'
  simp (maxSteps := 1000000) (disch := first | omega | assumption) [og_at, og_put, og_at0, og_put0]
  repeat' refine And.intro ?_ ?_
  all_goals first | omega | exact rfl | skip
  refine hK _ ?_
  clear hK K
  clear all
  refine q_then_n ?_
  refine awp_seq ?_
  refine awp_keep [0, 1, 2, 3] (by simp only [keepL_nil, keepL_cons, envOf_sel, envOf_nil, sel_t, sel_f, Nat.reduceBEq] <;> rfl) ?_
  refine awp_regionA (c := ⟨[], [], [], [], []⟩) (by simp only [lite_cons, lite_nil] <;> rfl) fun all hall K hK => ?_
  clear hall
  refine vcL_split 2 fun K' hK' => ?_
  simp (maxSteps := 1000000) (disch := first | omega | assumption) [og_at, og_put, og_at0, og_put0]
  repeat' refine And.intro ?_ ?_
  all_goals first | omega | exact rfl | skip
  refine hK' _ ?_
  clear hK' K'
  simp only [List.drop_succ_cons, List.drop_zero]
  refine vcL_step fun K' hK' => ?_
  simp (maxSteps := 1000000) (disch := first | omega | assumption) [og_at, og_put, og_at0, og_put0]
  refine Ct.mono (Ct.of_le (ssecond_fn (σ.length + 4) (σ.length + 2) (σ.length + 1) σ.length (σ.length + 3) aw1 ⟨0, 2⟩ _ (SO.lay σ aw1 _) (aws_v1.ok (by omega))) (by first | exact leArgs_of rfl | (refine leArgs_of ?_; simp; done) | (refine leArgs_of ?_; simp; rfl) | (simp [leArgs, leArg]; done)) rfl) ?_
  rintro _ _ ⟨hr9, hs9⟩
  subst hr9
  replace hs9 := hs9.symm
  subst hs9
  rw [lay_put, aws_2, aws_2r]
  refine hK' _ ?_
  clear hK' K'
  simp (maxSteps := 1000000) (disch := first | omega | assumption) [og_at, og_put, og_at0, og_put0]
  repeat' refine And.intro ?_ ?_
  all_goals first | omega | exact rfl | skip
  refine hK _ ?_
  clear hK K
  clear all
  refine q_then_n ?_
  refine awp_seq ?_
  refine awp_keep [0, 1, 2, 3, 4, 5] (by simp only [keepL_nil, keepL_cons, envOf_sel, envOf_nil, sel_t, sel_f, Nat.reduceBEq] <;> rfl) ?_
  refine awp_regionA (c := ⟨[], [], [], [], []⟩) (by simp only [lite_cons, lite_nil] <;> rfl) fun all hall K hK => ?_
  clear hall
  refine vcL_split 1 fun K' hK' => ?_
  simp (maxSteps := 1000000) (disch := first | omega | assumption) [og_at, og_put, og_at0, og_put0]
  repeat' refine And.intro ?_ ?_
  all_goals first | omega | exact rfl | skip
  refine hK' _ ?_
  clear hK' K'
  simp only [List.drop_succ_cons, List.drop_zero]
  refine vcL_step fun K' hK' => ?_
  simp (maxSteps := 1000000) (disch := first | omega | assumption) [og_at, og_put, og_at0, og_put0]
  refine Ct.mono (Ct.of_le (suntil_fn (σ.length + 4) (σ.length + 2) (σ.length + 1) σ.length (σ.length + 3) aw2 9 _ (SO.lay σ aw2 _) (aws_v2.ok (by omega))) (by first | exact leArgs_of rfl | (refine leArgs_of ?_; simp; done) | (refine leArgs_of ?_; simp; rfl) | (simp [leArgs, leArg]; done)) rfl) ?_
  rintro _ _ ⟨hr9, hs9⟩
  subst hr9
  replace hs9 := hs9.symm
  subst hs9
  rw [lay_put, aws_c, aws_d, aws_t, aws_3]
  refine hK' _ ?_
  clear hK' K'
  simp (maxSteps := 1000000) (disch := first | omega | assumption) [og_at, og_put, og_at0, og_put0]
  repeat' refine And.intro ?_ ?_
  all_goals first | omega | exact rfl | skip
  refine hK _ ?_
  clear hK K
  clear all
  refine q_then_n ?_
  refine awp_seq ?_
  refine awp_keep [0, 1, 2, 3, 4, 5, 6, 7] (by simp only [keepL_nil, keepL_cons, envOf_sel, envOf_nil, sel_t, sel_f, Nat.reduceBEq] <;> rfl) ?_
  refine awp_regionA (c := ⟨[], [], [], [], []⟩) (by simp only [lite_cons, lite_nil] <;> rfl) fun all hall K hK => ?_
  have ga3 : guardOf all 3 = some 31 := hall 3
  have ga8 : guardOf all 8 = some 36 := hall 8
  have ga12 : guardOf all 12 = some 40 := hall 12
  have ga16 : guardOf all 16 = some 44 := hall 16
  have ga19 : guardOf all 19 = some 47 := hall 19
  have ga24 : guardOf all 24 = some 52 := hall 24
  have ga29 : guardOf all 29 = some 57 := hall 29
  clear hall
  refine vcL_split 4 fun K' hK' => ?_
  simp (maxSteps := 1000000) (disch := first | omega | assumption) [og_at, og_put, og_at0, og_put0, ga3, ga8, ga12, ga16, ga19, ga24, ga29]
  repeat' refine And.intro ?_ ?_
  all_goals first | omega | exact rfl | skip
  refine hK' _ ?_
  clear hK' K'
  simp only [List.drop_succ_cons, List.drop_zero]
  refine vcL_bool 31 (by simp <;> rfl) ?_
  refine ⟨fun g2 => ?_, fun g2 => ?_⟩
  ·try simp at g2
   refine vcL_split 5 fun K' hK' => ?_
   simp (maxSteps := 1000000) (disch := first | omega | assumption) [og_at, og_put, og_at0, og_put0, ga3, ga8, ga12, ga16, ga19, ga24, ga29]
   repeat' refine And.intro ?_ ?_
   all_goals first | omega | exact rfl | skip
   refine hK' _ ?_
   clear hK' K'
   simp only [List.drop_succ_cons, List.drop_zero]
   refine vcL_bool 36 (by simp <;> rfl) ?_
   refine ⟨fun g3 => ?_, fun g3 => ?_⟩
   ·try simp at g3
    refine vcL_split 4 fun K' hK' => ?_
    simp (maxSteps := 1000000) (disch := first | omega | assumption) [og_at, og_put, og_at0, og_put0, ga3, ga8, ga12, ga16, ga19, ga24, ga29]
    repeat' refine And.intro ?_ ?_
    all_goals first | omega | exact rfl | skip
    refine hK' _ ?_
    clear hK' K'
    simp only [List.drop_succ_cons, List.drop_zero]
    refine vcL_bool 40 (by simp <;> rfl) ?_
    refine ⟨fun g4 => ?_, fun g4 => ?_⟩
    ·try simp at g4
     refine vcL_split 4 fun K' hK' => ?_
     simp (maxSteps := 1000000) (disch := first | omega | assumption) [og_at, og_put, og_at0, og_put0, ga3, ga8, ga12, ga16, ga19, ga24, ga29]
     repeat' refine And.intro ?_ ?_
     all_goals first | omega | exact rfl | skip
     refine hK' _ ?_
     clear hK' K'
     simp only [List.drop_succ_cons, List.drop_zero]
     refine vcL_bool 44 (by simp <;> rfl) ?_
     refine ⟨fun g5 => ?_, fun g5 => ?_⟩
     ·try simp at g5
      refine vcL_split 3 fun K' hK' => ?_
      simp (maxSteps := 1000000) (disch := first | omega | assumption) [og_at, og_put, og_at0, og_put0, ga3, ga8, ga12, ga16, ga19, ga24, ga29]
      repeat' refine And.intro ?_ ?_
      all_goals first | omega | exact rfl | skip
      refine hK' _ ?_
      clear hK' K'
      simp only [List.drop_succ_cons, List.drop_zero]
      refine vcL_bool 47 (by simp <;> rfl) ?_
      refine ⟨fun g6 => ?_, fun g6 => ?_⟩
      ·try simp at g6
       refine vcL_split 5 fun K' hK' => ?_
       simp (maxSteps := 1000000) (disch := first | omega | assumption) [og_at, og_put, og_at0, og_put0, ga3, ga8, ga12, ga16, ga19, ga24, ga29]
       repeat' refine And.intro ?_ ?_
       all_goals first | omega | exact rfl | skip
       refine hK' _ ?_
       clear hK' K'
       simp only [List.drop_succ_cons, List.drop_zero]
       refine vcL_bool 52 (by simp <;> rfl) ?_
       refine ⟨fun g7 => ?_, fun g7 => ?_⟩
       ·try simp at g7
        refine vcL_split 1 fun K' hK' => ?_
        simp (maxSteps := 1000000) (disch := first | omega | assumption) [og_at, og_put, og_at0, og_put0, ga3, ga8, ga12, ga16, ga19, ga24, ga29]
        repeat' refine And.intro ?_ ?_
        all_goals first | omega | exact rfl | skip
        refine hK' _ ?_
        clear hK' K'
        simp only [List.drop_succ_cons, List.drop_zero]
        refine vcL_gt ga24 (by simp <;> rfl) rfl fun K' hK' => ?_
        simp (maxSteps := 1000000) (disch := first | omega | assumption) [og_at, og_put, og_at0, og_put0, ga3, ga8, ga12, ga16, ga19, ga24, ga29]
        refine Ct.mono (Ct.of_le (snow_fn (σ.length + 4) (σ.length + 2) (σ.length + 1) σ.length (σ.length + 3) ⟨3, 9, ⟨9, 1, hPop aw2.t.h⟩, aw2.q⟩ _ (SO.lay σ ⟨3, 9, ⟨9, 1, hPop aw2.t.h⟩, aw2.q⟩ _) (aws_v3.ok (by omega))) (by first | exact leArgs_of rfl | (refine leArgs_of ?_; simp; done) | (refine leArgs_of ?_; simp; rfl) | (simp [leArgs, leArg]; done)) rfl) ?_
        rintro _ _ ⟨hr9, hs9⟩
        subst hr9
        replace hs9 := hs9.symm
        subst hs9
        refine hK' _ ?_
        clear hK' K'
        refine vcL_split 3 fun K' hK' => ?_
        simp (maxSteps := 1000000) (disch := first | omega | assumption) [og_at, og_put, og_at0, og_put0, ga3, ga8, ga12, ga16, ga19, ga24, ga29]
        repeat' refine And.intro ?_ ?_
        all_goals first | omega | exact rfl | skip
        refine hK' _ ?_
        clear hK' K'
        simp only [List.drop_succ_cons, List.drop_zero]
        refine vcL_bool 57 (by simp <;> rfl) ?_
        refine ⟨fun g8 => ?_, fun g8 => ?_⟩
        ·try simp at g8
         refine vcL_split 1 fun K' hK' => ?_
         simp (maxSteps := 1000000) (disch := first | omega | assumption) [og_at, og_put, og_at0, og_put0, ga3, ga8, ga12, ga16, ga19, ga24, ga29]
         repeat' refine And.intro ?_ ?_
         all_goals first | omega | exact rfl | skip
         refine hK' _ ?_
         clear hK' K'
         simp only [List.drop_succ_cons, List.drop_zero]
         refine vcL_gt ga29 (by simp <;> rfl) rfl fun K' hK' => ?_
         simp (maxSteps := 1000000) (disch := first | omega | assumption) [og_at, og_put, og_at0, og_put0, ga3, ga8, ga12, ga16, ga19, ga24, ga29]
         refine Ct.mono (Ct.of_le (slen_fn (σ.length + 4) (σ.length + 2) (σ.length + 1) σ.length (σ.length + 3) ⟨3, 9, ⟨9, 1, hPop aw2.t.h⟩, aw2.q⟩ _ (SO.lay σ ⟨3, 9, ⟨9, 1, hPop aw2.t.h⟩, aw2.q⟩ _) (aws_v3.ok (by omega))) (by first | exact leArgs_of rfl | (refine leArgs_of ?_; simp; done) | (refine leArgs_of ?_; simp; rfl) | (simp [leArgs, leArg]; done)) rfl) ?_
         rintro _ _ ⟨hr9, hs9⟩
         subst hr9
         replace hs9 := hs9.symm
         subst hs9
         rw [aws_len]
         refine hK' _ ?_
         clear hK' K'
         simp (maxSteps := 1000000) (disch := first | omega | assumption) [og_at, og_put, og_at0, og_put0, ga3, ga8, ga12, ga16, ga19, ga24, ga29]
         repeat' refine And.intro ?_ ?_
         all_goals first | omega | exact rfl | skip
         refine hK _ ?_
         clear hK K
         clear ga3 ga8 ga12 ga16 ga19 ga24 ga29
         clear all
         refine q_then_n ?_
         refine awp_ret ?_
         simp [endQ]
        ·simp at g8
       ·simp at g7
      ·simp at g6
     ·simp at g5
    ·simp at g4
   ·simp at g3
  ·simp at g2
theorem swake_fn (σ : List (List D)) : Ct Try.prog 15 [] σ (fun r σ' => r = .bool true ∧ σ' = σ) :=
 (swake0_fn σ).trim fun r σ' ⟨hr, J, hs⟩ => ⟨σ, J, hs, rfl, by rw [hr]; exact Sc.v _, fun n cs h => .inl h, hr, rfl⟩
def iand (a : Int) : Int := IntKind.i64.wrap (((a % 2 ^ IntKind.i64.bits).toNat &&& 1023 % 2 ^ IntKind.i64.bits : Nat) : Int)
theorem iand_eq (a : Int) : IntKind.i64.wrap (((a % 2 ^ IntKind.i64.bits).toNat &&& 1023 % 2 ^ IntKind.i64.bits : Nat) : Int) = iand a := rfl
theorem iand_rg (a : Int) : 0 ≤ iand a ∧ iand a ≤ 1023 := by
 have h : ((a % 2 ^ IntKind.i64.bits).toNat &&& 1023 % 2 ^ IntKind.i64.bits) ≤ 1023 := Nat.le_trans Nat.and_le_right (by decide)
 unfold iand
 generalize ((a % 2 ^ IntKind.i64.bits).toNat &&& 1023 % 2 ^ IntKind.i64.bits) = z at h ⊢
 have e : IntKind.i64.wrap (z : Int) = z := by simp [IntKind.wrap, IntKind.bits, IntKind.signed]; omega
 rw [e]
 omega
def mask (a : SAct) : SAct := ⟨a.kind, iand a.n, a.frame, a.job⟩
end Go.Proofs.Ytnlokhfcgaikiaa

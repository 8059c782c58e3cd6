import Derived.Test.YtnlokhfcgaikiaaWkSched2
namespace Go.Proofs.Ytnlokhfcgaikiaa
open Go Go.Vm
set_option maxRecDepth 20000
set_option linter.all false
set_option maxHeartbeats 8000000
structure SAct where
 kind : Int
 n : Int
 frame : Bool
 job : Job
 deriving DecidableEq
@[simp] abbrev d_SAct (s : SAct) : D := .agg [.v (.int .i64 s.kind), .v (.int .i64 s.n), .v (.bool s.frame), .v (.int .i64 s.job.kind), .v (.int .i64 s.job.node)]
theorem get_app {σ : List (List D)} {i : Nat} {a : List D} (J : List (List D)) (h : σ[i]? = some a) : (σ ++ J)[i]? = some a := by rw [List.getElem?_append_left (og_lt h)]; exact h
theorem SO.app {S w m M q : Nat} {s : SS} {σ : List (List D)} (h : SO S w m M q s σ) (J : List (List D)) : SO S w m M q s (σ ++ J) :=
 ⟨get_app J h.hS, get_app J h.hw, get_app J h.hm, get_app J h.hq, by rw [List.length_append]; have := h.hM; omega, h.d1, h.d2, h.d3, h.d4, h.d5, h.d6⟩
theorem SO.put_app {S w m M q : Nat} {s s' : SS} {σ : List (List D)} (h : SO S w m M q s σ) (J : List (List D)) : sput S w m M q s' (σ ++ J) = sput S w m M q s' σ ++ J := by
 unfold sput
 rw [List.set_append_left _ _ (og_lt h.hS), List.set_append_left _ _ (by rw [List.length_set]; exact og_lt h.hw), List.set_append_left _ _ (by simp only [List.length_set]; exact og_lt h.hm), List.set_append_left _ _ (by simp only [List.length_set]; exact og_lt h.hq)]
theorem sput_len (S w m M q : Nat) (s : SS) (σ : List (List D)) : (sput S w m M q s σ).length = σ.length := by simp [sput]
theorem sp_at (S w m M q : Nat) (s : SS) (σ r : List (List D)) (k : Nat) : (sput S w m M q s σ ++ r)[σ.length + k]? = r[k]? := by
 rw [List.getElem?_append_right (by rw [sput_len]; omega), sput_len, Nat.add_sub_cancel_left]
theorem sp_at0 (S w m M q : Nat) (s : SS) (σ r : List (List D)) : (sput S w m M q s σ ++ r)[σ.length]? = r[0]? := sp_at S w m M q s σ r 0
theorem sp_put (S w m M q : Nat) (s : SS) (σ r : List (List D)) (k : Nat) (v : List D) : (sput S w m M q s σ ++ r).set (σ.length + k) v = sput S w m M q s σ ++ r.set k v := by
 rw [List.set_append_right _ _ (by rw [sput_len]; omega), sput_len, Nat.add_sub_cancel_left]
theorem sp_put0 (S w m M q : Nat) (s : SS) (σ r : List (List D)) (v : List D) : (sput S w m M q s σ ++ r).set σ.length v = sput S w m M q s σ ++ r.set 0 v := sp_put S w m M q s σ r 0 v
theorem job_ext {a b : Job} (h : a.kind = b.kind ∧ a.node = b.node) : a = b := by
 obtain ⟨k, n⟩ := a
 obtain ⟨k', n'⟩ := b
 simp_all
theorem jcmp {L R : List Job} {k : Nat} (h : L.length = R.length ∧ L.take k = R.take k) (hk : k < R.length) (hk' : k < L.length) : (L[k].kind == R[k].kind && L[k].node == R[k].node) = (decide (L.length = R.length) && decide (L.take (k + 1) = R.take (k + 1))) := by
 rw [Bool.eq_iff_iff]
 simp only [Bool.and_eq_true, beq_iff_eq, decide_eq_true_eq, h.1, true_and]
 rw [take_snoc L k hk', take_snoc R k hk, h.2]
 constructor
 ·rintro ⟨a, b⟩
  rw [job_ext ⟨a, b⟩]
 ·intro e
  have := List.append_cancel_left e
  simp at this
  rw [this]
  exact ⟨rfl, rfl⟩
theorem rf_ext {a b : Rf} (h : a.frame = b.frame ∧ a.token = b.token) : a = b := by
 obtain ⟨k, n⟩ := a
 obtain ⟨k', n'⟩ := b
 simp_all
theorem rf_iff (p q : Rf × Int) : p = q ↔ (p.1.frame = q.1.frame ∧ p.1.token = q.1.token) ∧ p.2 = q.2 := by
 constructor
 ·rintro rfl; exact ⟨⟨rfl, rfl⟩, rfl⟩
 ·rintro ⟨h, h2⟩
  exact Prod.ext (rf_ext h) h2
theorem leq_no {L R : List Job} {k : Nat} (h : L.length = R.length → ¬ L.take k = R.take k) : ¬ L = R := fun e => h (by rw [e]) (by rw [e])
theorem leq_all {L R : List Job} {k : Nat} (h : R.length ≤ k) : (decide (L.length = R.length) && decide (L.take k = R.take k)) = decide (L = R) := by
 rw [Bool.eq_iff_iff]
 simp only [Bool.and_eq_true, decide_eq_true_eq]
 constructor
 ·rintro ⟨a, b⟩
  rwa [List.take_of_length_le (by omega), List.take_of_length_le h] at b
 ·rintro rfl; exact ⟨rfl, rfl⟩
theorem job_beq (a b : Job) : (a.kind == b.kind && a.node == b.node) = decide (a = b) := by
 rw [Bool.eq_iff_iff]
 simp only [Bool.and_eq_true, beq_iff_eq, decide_eq_true_eq]
 exact ⟨job_ext, by rintro rfl; exact ⟨rfl, rfl⟩⟩
def sdo (s : SS) (a : SAct) : SS := if a.kind = 0 ∨ a.kind = 1 then ssec s a.job else if a.kind = 2 then scan s a.frame a.n else if a.kind = 3 then sframe s else if a.kind = 4 then sadd s a.n a.job else suntil s a.n
def rsdo (x : RS) (a : SAct) : RS := if a.kind = 0 ∨ a.kind = 1 then rssec x a.job else if a.kind = 2 then rscan x a.frame a.n else if a.kind = 3 then rsframe x else if a.kind = 4 then rsadd x a.n a.job else rsuntil x a.n
def sokdo (s : SS) (x : RS) (a : SAct) : Prop := if a.kind = 0 ∨ a.kind = 1 then ssecr s a.job = rssecr x a.job else if a.kind = 2 then scanr s a.frame a.n = rscanr x a.frame a.n else if a.kind = 3 then sjobs (wdecs s.q.w0) = sjobs (fdue x.queue.l)
 else if a.kind = 4 then saddr s a.n a.job = rsaddr x a.n a.job else wduec s.t (sclip s a.n) = rduec x.wheel (rsclip x a.n) ∧ (wduet s.t (sclip s a.n)).job = (rduet x.wheel (rsclip x a.n)).job
instance (s : SS) (x : RS) (a : SAct) : Decidable (sokdo s x a) := by unfold sokdo; infer_instance
theorem sdo0_fn (S w m M q : Nat) (s : SS) (x : RS) (a : SAct) (σ : List (List D)) (ho : SO S w m M q s σ) (hs : SOk s) (hx : ROk x) : Ct Try.prog 17 [.ref S 0, d_RS x, d_SAct a] σ (fun r σ' => r = .tup [d_RS (rsdo x a), .bool (decide (sokdo s x a))] ∧ ∃ J, σ' = sput S w m M q (sdo s a) σ ++ J) := by
 refine fn_start (rs := [.cell 6 53, .tmp 7]) Try.func17 rfl rfl Try.ntmps17 Try.results17 (by simp) ?_
 simp only [argEnv]
 have hl2 := hs.q.h0
 have hl3 := wdecs_len s.q.w0
 have hl4 := fdue_len x.queue.l
 have hl5 := hx.h3
 have hl6 : (sjobs (wdecs s.q.w0)).length = s.q.w0.length := by simp [sjobs, hl3]
 have hl7 : (sjobs (fdue x.queue.l)).length = (fdue x.queue.l).length := by simp [sjobs]
 refine awp_seq ?_
 refine awp_regionA (c := ⟨[], [4, 5], [8, 10, 11, 20, 22, 23, 25, 27, 28], [], []⟩) (by simp only [lite_cons, lite_nil] <;> rfl) fun all hall K hK => ?_
 clear hall
 simp (maxSteps := 1000000) (disch := first | omega | assumption) [og_at, og_put, og_at0, og_put0, sput_len, sp_at, sp_at0, sp_put, sp_put0]
 repeat' refine And.intro ?_ ?_
 all_goals first | omega | exact rfl | skip
 refine hK _ ?_
 clear hK K
 clear all
 refine q_then_n ?_
 refine awp_seq ?_
 refine awp_seq ?_
 refine awp_regionA (c := ⟨[], [4, 5], [8, 10, 11, 20, 22, 23, 25, 27, 28], [], []⟩) (by simp only [lite_cons, lite_nil] <;> rfl) fun all hall K hK => ?_
 clear hall
 simp (maxSteps := 1000000) (disch := first | omega | assumption) [og_at, og_put, og_at0, og_put0, sput_len, sp_at, sp_at0, sp_put, sp_put0]
 repeat' refine And.intro ?_ ?_
 all_goals first | omega | exact rfl | skip
 refine hK _ ?_
 clear hK K
 clear all
 refine q_then_n ?_
 refine awp_block ?_
 refine awp_seq ?_
 refine awp_seq ?_
 refine awp_regionA (c := ⟨[], [4, 5], [8, 10, 11, 20, 22, 23, 25, 27, 28], [], []⟩) (by simp only [lite_cons, lite_nil] <;> rfl) fun all hall K hK => ?_
 clear hall
 simp (maxSteps := 1000000) (disch := first | omega | assumption) [og_at, og_put, og_at0, og_put0, sput_len, sp_at, sp_at0, sp_put, sp_put0]
 repeat' refine And.intro ?_ ?_
 all_goals first | omega | exact rfl | skip
 refine hK _ ?_
 clear hK K
 clear all
 refine q_then_n ?_
 refine awp_ifB (by simp <;> rfl) ?_
 refine ⟨fun c1 => ?_, fun c1 => ?_⟩
 ·try simp at c1
  refine awp_skip ?_
  refine q_then_n ?_
  refine awp_cond (t := true) (by simp) (fun _ => ?_) (fun h => by cases h)
  refine awp_seq ?_
  refine awp_regionA (c := ⟨[], [4, 5], [8, 10, 11, 20, 22, 23, 25, 27, 28], [], []⟩) (by simp only [lite_cons, lite_nil] <;> rfl) fun all hall K hK => ?_
  clear hall
  refine vcL_split 3 fun K' hK' => ?_
  simp (maxSteps := 1000000) (disch := first | omega | assumption) [og_at, og_put, og_at0, og_put0, sput_len, sp_at, sp_at0, sp_put, sp_put0]
  repeat' refine And.intro ?_ ?_
  all_goals first | omega | exact rfl | skip
  refine hK' _ ?_
  clear hK' K'
  simp only [List.drop_succ_cons, List.drop_zero]
  refine vcL_step fun K' hK' => ?_
  simp (maxSteps := 1000000) (disch := first | omega | assumption) [og_at, og_put, og_at0, og_put0, sput_len, sp_at, sp_at0, sp_put, sp_put0]
  refine Ct.mono (Ct.of_le (ssecond_fn S w m M q s a.job _ ho hs) (by first | exact leArgs_of rfl | (refine leArgs_of ?_; simp; done) | (refine leArgs_of ?_; simp; rfl) | (simp [leArgs, leArg]; done)) rfl) ?_
  rintro _ _ ⟨hr9, hs9⟩
  subst hr9
  replace hs9 := hs9.symm
  subst hs9
  refine hK' _ ?_
  clear hK' K'
  simp (maxSteps := 1000000) (disch := first | omega | assumption) [og_at, og_put, og_at0, og_put0, sput_len, sp_at, sp_at0, sp_put, sp_put0]
  repeat' refine And.intro ?_ ?_
  all_goals first | omega | exact rfl | skip
  refine hK _ ?_
  clear hK K
  clear all
  refine q_then_n ?_
  refine awp_seq ?_
  refine awp_keep [0, 4, 5, 6, 7, 8, 9] (by simp only [keepL_nil, keepL_cons, envOf_sel, envOf_nil, sel_t, sel_f, Nat.reduceBEq] <;> rfl) ?_
  refine awp_regionA (c := ⟨[], [4, 5], [8, 10, 11, 20, 22, 23, 25, 27, 28], [], []⟩) (by simp only [lite_cons, lite_nil] <;> rfl) fun all hall K hK => ?_
  clear hall
  refine vcL_split 3 fun K' hK' => ?_
  simp (maxSteps := 1000000) (disch := first | omega | assumption) [og_at, og_put, og_at0, og_put0, sput_len, sp_at, sp_at0, sp_put, sp_put0]
  repeat' refine And.intro ?_ ?_
  all_goals first | omega | exact rfl | skip
  refine hK' _ ?_
  clear hK' K'
  simp only [List.drop_succ_cons, List.drop_zero]
  refine vcL_step fun K' hK' => ?_
  simp (maxSteps := 1000000) (disch := first | omega | assumption) [og_at, og_put, og_at0, og_put0, sput_len, sp_at, sp_at0, sp_put, sp_put0]
  refine Ct.mono (Ct.of_le (rssec_fn x a.job _ hx) (by first | exact leArgs_of rfl | (refine leArgs_of ?_; simp; done) | (refine leArgs_of ?_; simp; rfl) | (simp [leArgs, leArg]; done)) rfl) ?_
  rintro _ _ ⟨hr9, hs9⟩
  subst hr9
  replace hs9 := hs9.symm
  subst hs9
  refine hK' _ ?_
  clear hK' K'
  refine vcL_split 8 fun K' hK' => ?_
  simp (maxSteps := 1000000) (disch := first | omega | assumption) [og_at, og_put, og_at0, og_put0, sput_len, sp_at, sp_at0, sp_put, sp_put0]
  repeat' refine And.intro ?_ ?_
  all_goals first | omega | exact rfl | skip
  refine hK' _ ?_
  clear hK' K'
  simp only [List.drop_succ_cons, List.drop_zero]
  simp (maxSteps := 1000000) (disch := first | omega | assumption) [og_at, og_put, og_at0, og_put0, sput_len, sp_at, sp_at0, sp_put, sp_put0]
  repeat' refine And.intro ?_ ?_
  all_goals first | omega | exact rfl | skip
  refine hK _ ?_
  clear hK K
  clear all
  refine q_then_n ?_
  refine awp_seq ?_
  refine awp_keep [0, 4, 5, 6, 7, 8, 9, 10, 11, 12] (by simp only [keepL_nil, keepL_cons, envOf_sel, envOf_nil, sel_t, sel_f, Nat.reduceBEq] <;> rfl) ?_
  refine awp_drawA (c := ⟨[], [4, 5], [8, 10, 11, 20, 22, 23, 25, 27, 28], [], []⟩) [.op ⟨false, false, true, false⟩, .op ⟨false, false, true, false⟩, .op ⟨false, false, true, false⟩, .op ⟨false, false, false, false⟩, .op ⟨false, false, false, false⟩, .op ⟨false, false, false, false⟩, .op ⟨false, false, false, false⟩, .op ⟨false, false, false, false⟩, .op ⟨false, false, false, false⟩, .op ⟨true, true, false, false⟩, .op ⟨false, false, false, false⟩] (by kernel_rfl) (by kernel_rfl) (by simp only [lite_cons, lite_nil] <;> rfl) fun all hall K hK => ?_
  have ga4 : guardOf all 4 = some 54 := hall 4
  clear hall
  refine vcDL_split 5 (by simp) fun K' hK' => ?_
  simp (maxSteps := 1000000) (disch := first | omega | assumption) [og_at, og_put, og_at0, og_put0, sput_len, sp_at, sp_at0, sp_put, sp_put0, ga4]
  repeat' refine And.intro ?_ ?_
  all_goals first | omega | exact rfl | skip
  refine hK' _ ?_
  clear hK' K'
  simp only [List.drop_succ_cons, List.drop_zero]
  refine vcDL_bool 54 (by simp <;> rfl) ?_
  refine ⟨fun g2 => ?_, fun g2 => ?_⟩
  ·try simp at g2
   simp (maxSteps := 1000000) (disch := first | omega | assumption) [og_at, og_put, og_at0, og_put0, sput_len, sp_at, sp_at0, sp_put, sp_put0, ga4]
   repeat' refine And.intro ?_ ?_
   all_goals first | omega | exact rfl | skip
   refine hK _ ?_
   clear hK K
   clear ga4
   clear all
   refine q_then_n ?_
   refine awp_ret ?_
   refine q_block_r ?_
   refine q_then_r ?_
   have e1 : decide (sokdo s x a) = decide ((ssecr s a.job).2 = (rssecr x a.job).2) := by simp only [sokdo]; simp [c1, rf_iff, g2]
   rw [e1]
   simp [endQ, rsdo, sdo, c1]
  ·try simp at g2
   simp (maxSteps := 1000000) (disch := first | omega | assumption) [og_at, og_put, og_at0, og_put0, sput_len, sp_at, sp_at0, sp_put, sp_put0, ga4]
   repeat' refine And.intro ?_ ?_
   all_goals first | omega | exact rfl | skip
   refine hK _ ?_
   clear hK K
   clear ga4
   clear all
   refine q_then_n ?_
   refine awp_ret ?_
   refine q_block_r ?_
   refine q_then_r ?_
   have e1 : decide (sokdo s x a) = false := by
    simp only [sokdo]
    simp [c1, rf_iff]
    intro h1 h2
    exact absurd h2 (g2 h1)
   rw [e1]
   simp [endQ, rsdo, sdo, c1]
 ·try simp at c1
  refine awp_regionA (c := ⟨[], [4, 5], [8, 10, 11, 20, 22, 23, 25, 27, 28], [], []⟩) (by simp only [lite_cons, lite_nil] <;> rfl) fun all hall K hK => ?_
  clear hall
  simp (maxSteps := 1000000) (disch := first | omega | assumption) [og_at, og_put, og_at0, og_put0, sput_len, sp_at, sp_at0, sp_put, sp_put0]
  repeat' refine And.intro ?_ ?_
  all_goals first | omega | exact rfl | skip
  refine hK _ ?_
  clear hK K
  clear all
  refine q_then_n ?_
  refine awp_ifB (by simp <;> rfl) ?_
  refine ⟨fun c3 => ?_, fun c3 => ?_⟩
  ·try simp at c3
   refine awp_seq ?_
   refine awp_regionA (c := ⟨[], [4, 5], [8, 10, 11, 20, 22, 23, 25, 27, 28], [], []⟩) (by simp only [lite_cons, lite_nil] <;> rfl) fun all hall K hK => ?_
   clear hall
   refine vcL_split 3 fun K' hK' => ?_
   simp (maxSteps := 1000000) (disch := first | omega | assumption) [og_at, og_put, og_at0, og_put0, sput_len, sp_at, sp_at0, sp_put, sp_put0]
   repeat' refine And.intro ?_ ?_
   all_goals first | omega | exact rfl | skip
   refine hK' _ ?_
   clear hK' K'
   simp only [List.drop_succ_cons, List.drop_zero]
   refine vcL_step fun K' hK' => ?_
   simp (maxSteps := 1000000) (disch := first | omega | assumption) [og_at, og_put, og_at0, og_put0, sput_len, sp_at, sp_at0, sp_put, sp_put0]
   refine Ct.mono (Ct.of_le (ssecond_fn S w m M q s a.job _ ho hs) (by first | exact leArgs_of rfl | (refine leArgs_of ?_; simp; done) | (refine leArgs_of ?_; simp; rfl) | (simp [leArgs, leArg]; done)) rfl) ?_
   rintro _ _ ⟨hr9, hs9⟩
   subst hr9
   replace hs9 := hs9.symm
   subst hs9
   refine hK' _ ?_
   clear hK' K'
   simp (maxSteps := 1000000) (disch := first | omega | assumption) [og_at, og_put, og_at0, og_put0, sput_len, sp_at, sp_at0, sp_put, sp_put0]
   repeat' refine And.intro ?_ ?_
   all_goals first | omega | exact rfl | skip
   refine hK _ ?_
   clear hK K
   clear all
   refine q_then_n ?_
   refine awp_seq ?_
   refine awp_keep [0, 4, 5, 6, 7, 8, 9] (by simp only [keepL_nil, keepL_cons, envOf_sel, envOf_nil, sel_t, sel_f, Nat.reduceBEq] <;> rfl) ?_
   refine awp_regionA (c := ⟨[], [4, 5], [8, 10, 11, 20, 22, 23, 25, 27, 28], [], []⟩) (by simp only [lite_cons, lite_nil] <;> rfl) fun all hall K hK => ?_
   clear hall
   refine vcL_split 3 fun K' hK' => ?_
   simp (maxSteps := 1000000) (disch := first | omega | assumption) [og_at, og_put, og_at0, og_put0, sput_len, sp_at, sp_at0, sp_put, sp_put0]
   repeat' refine And.intro ?_ ?_
   all_goals first | omega | exact rfl | skip
   refine hK' _ ?_
   clear hK' K'
   simp only [List.drop_succ_cons, List.drop_zero]
   refine vcL_step fun K' hK' => ?_
   simp (maxSteps := 1000000) (disch := first | omega | assumption) [og_at, og_put, og_at0, og_put0, sput_len, sp_at, sp_at0, sp_put, sp_put0]
   refine Ct.mono (Ct.of_le (rssec_fn x a.job _ hx) (by first | exact leArgs_of rfl | (refine leArgs_of ?_; simp; done) | (refine leArgs_of ?_; simp; rfl) | (simp [leArgs, leArg]; done)) rfl) ?_
   rintro _ _ ⟨hr9, hs9⟩
   subst hr9
   replace hs9 := hs9.symm
   subst hs9
   refine hK' _ ?_
   clear hK' K'
   refine vcL_split 8 fun K' hK' => ?_
   simp (maxSteps := 1000000) (disch := first | omega | assumption) [og_at, og_put, og_at0, og_put0, sput_len, sp_at, sp_at0, sp_put, sp_put0]
   repeat' refine And.intro ?_ ?_
   all_goals first | omega | exact rfl | skip
   refine hK' _ ?_
   clear hK' K'
   simp only [List.drop_succ_cons, List.drop_zero]
   simp (maxSteps := 1000000) (disch := first | omega | assumption) [og_at, og_put, og_at0, og_put0, sput_len, sp_at, sp_at0, sp_put, sp_put0]
   repeat' refine And.intro ?_ ?_
   all_goals first | omega | exact rfl | skip
   refine hK _ ?_
   clear hK K
   clear all
   refine q_then_n ?_
   refine awp_seq ?_
   refine awp_keep [0, 4, 5, 6, 7, 8, 9, 10, 11, 12] (by simp only [keepL_nil, keepL_cons, envOf_sel, envOf_nil, sel_t, sel_f, Nat.reduceBEq] <;> rfl) ?_
   refine awp_drawA (c := ⟨[], [4, 5], [8, 10, 11, 20, 22, 23, 25, 27, 28], [], []⟩) [.op ⟨false, false, true, false⟩, .op ⟨false, false, true, false⟩, .op ⟨false, false, true, false⟩, .op ⟨false, false, false, false⟩, .op ⟨false, false, false, false⟩, .op ⟨false, false, false, false⟩, .op ⟨false, false, false, false⟩, .op ⟨false, false, false, false⟩, .op ⟨false, false, false, false⟩, .op ⟨true, true, false, false⟩, .op ⟨false, false, false, false⟩] (by kernel_rfl) (by kernel_rfl) (by simp only [lite_cons, lite_nil] <;> rfl) fun all hall K hK => ?_
   have ga4 : guardOf all 4 = some 54 := hall 4
   clear hall
   refine vcDL_split 5 (by simp) fun K' hK' => ?_
   simp (maxSteps := 1000000) (disch := first | omega | assumption) [og_at, og_put, og_at0, og_put0, sput_len, sp_at, sp_at0, sp_put, sp_put0, ga4]
   repeat' refine And.intro ?_ ?_
   all_goals first | omega | exact rfl | skip
   refine hK' _ ?_
   clear hK' K'
   simp only [List.drop_succ_cons, List.drop_zero]
   refine vcDL_bool 54 (by simp <;> rfl) ?_
   refine ⟨fun g4 => ?_, fun g4 => ?_⟩
   ·try simp at g4
    simp (maxSteps := 1000000) (disch := first | omega | assumption) [og_at, og_put, og_at0, og_put0, sput_len, sp_at, sp_at0, sp_put, sp_put0, ga4]
    repeat' refine And.intro ?_ ?_
    all_goals first | omega | exact rfl | skip
    refine hK _ ?_
    clear hK K
    clear ga4
    clear all
    refine q_then_n ?_
    refine awp_ret ?_
    refine q_block_r ?_
    refine q_then_r ?_
    have e1 : decide (sokdo s x a) = decide ((ssecr s a.job).2 = (rssecr x a.job).2) := by simp only [sokdo]; simp [c1, c3, rf_iff, g4]
    rw [e1]
    simp [endQ, rsdo, sdo, c1, c3]
   ·try simp at g4
    simp (maxSteps := 1000000) (disch := first | omega | assumption) [og_at, og_put, og_at0, og_put0, sput_len, sp_at, sp_at0, sp_put, sp_put0, ga4]
    repeat' refine And.intro ?_ ?_
    all_goals first | omega | exact rfl | skip
    refine hK _ ?_
    clear hK K
    clear ga4
    clear all
    refine q_then_n ?_
    refine awp_ret ?_
    refine q_block_r ?_
    refine q_then_r ?_
    have e1 : decide (sokdo s x a) = false := by
     simp only [sokdo]
     simp [c1, c3, rf_iff]
     intro h1 h2
     exact absurd h2 (g4 h1)
    rw [e1]
    simp [endQ, rsdo, sdo, c1, c3]
  ·try simp at c3
   refine awp_seq ?_
   refine awp_regionA (c := ⟨[], [4, 5], [8, 10, 11, 20, 22, 23, 25, 27, 28], [], []⟩) (by simp only [lite_cons, lite_nil] <;> rfl) fun all hall K hK => ?_
   clear hall
   simp (maxSteps := 1000000) (disch := first | omega | assumption) [og_at, og_put, og_at0, og_put0, sput_len, sp_at, sp_at0, sp_put, sp_put0]
   repeat' refine And.intro ?_ ?_
   all_goals first | omega | exact rfl | skip
   refine hK _ ?_
   clear hK K
   clear all
   refine q_then_n ?_
   refine awp_ifB (by simp <;> rfl) ?_
   refine ⟨fun c5 => ?_, fun c5 => ?_⟩
   ·try simp at c5
    refine awp_seq ?_
    refine awp_keep [0, 4, 5, 6, 7] (by simp only [keepL_nil, keepL_cons, envOf_sel, envOf_nil, sel_t, sel_f, Nat.reduceBEq] <;> rfl) ?_
    refine awp_regionA (c := ⟨[], [4, 5], [8, 10, 11, 20, 22, 23, 25, 27, 28], [], []⟩) (by simp only [lite_cons, lite_nil] <;> rfl) fun all hall K hK => ?_
    clear hall
    refine vcL_split 6 fun K' hK' => ?_
    simp (maxSteps := 1000000) (disch := first | omega | assumption) [og_at, og_put, og_at0, og_put0, sput_len, sp_at, sp_at0, sp_put, sp_put0]
    repeat' refine And.intro ?_ ?_
    all_goals first | omega | exact rfl | skip
    refine hK' _ ?_
    clear hK' K'
    simp only [List.drop_succ_cons, List.drop_zero]
    refine vcL_step fun K' hK' => ?_
    simp (maxSteps := 1000000) (disch := first | omega | assumption) [og_at, og_put, og_at0, og_put0, sput_len, sp_at, sp_at0, sp_put, sp_put0]
    refine Ct.mono (Ct.of_le (rscan_fn x a.frame a.n _ hx) (by first | exact leArgs_of rfl | (refine leArgs_of ?_; simp; done) | (refine leArgs_of ?_; simp; rfl) | (simp [leArgs, leArg]; done)) rfl) ?_
    rintro _ _ ⟨hr9, hs9⟩
    subst hr9
    replace hs9 := hs9.symm
    subst hs9
    refine hK' _ ?_
    clear hK' K'
    simp (maxSteps := 1000000) (disch := first | omega | assumption) [og_at, og_put, og_at0, og_put0, sput_len, sp_at, sp_at0, sp_put, sp_put0]
    repeat' refine And.intro ?_ ?_
    all_goals first | omega | exact rfl | skip
    refine hK _ ?_
    clear hK K
    clear all
    refine q_then_n ?_
    refine awp_seq ?_
    refine awp_keep [0, 4, 5, 6, 7, 13, 14] (by simp only [keepL_nil, keepL_cons, envOf_sel, envOf_nil, sel_t, sel_f, Nat.reduceBEq] <;> rfl) ?_
    refine awp_drawA (c := ⟨[], [4, 5], [8, 10, 11, 20, 22, 23, 25, 27, 28], [], []⟩) [.op ⟨true, false, false, false⟩, .op ⟨false, false, false, false⟩, .op ⟨false, false, false, false⟩, .op ⟨false, false, false, false⟩, .op ⟨false, false, false, false⟩, .op ⟨false, false, false, false⟩, .op ⟨false, false, false, false⟩, .det, .op ⟨false, false, false, false⟩, .op ⟨false, false, false, false⟩, .op ⟨true, true, false, false⟩, .op ⟨false, false, false, false⟩] (by kernel_rfl) (by kernel_rfl) (by simp only [lite_cons, lite_nil] <;> rfl) fun all hall K hK => ?_
    clear hall
    refine vcDL_split 7 (by simp) fun K' hK' => ?_
    simp (maxSteps := 1000000) (disch := first | omega | assumption) [og_at, og_put, og_at0, og_put0, sput_len, sp_at, sp_at0, sp_put, sp_put0]
    repeat' refine And.intro ?_ ?_
    all_goals first | omega | exact rfl | skip
    refine hK' _ ?_
    clear hK' K'
    simp only [List.drop_succ_cons, List.drop_zero]
    refine vcDL_step fun K' hK' => ?_
    simp (maxSteps := 1000000) (disch := first | omega | assumption) [og_at, og_put, og_at0, og_put0, sput_len, sp_at, sp_at0, sp_put, sp_put0]
    refine ⟨_, _, Ct.of_le (scan_fn S w m M q s a.frame a.n _ ho hs) (by first | exact leArgs_of rfl | (refine leArgs_of ?_; simp; done) | (refine leArgs_of ?_; simp; rfl) | (simp [leArgs, leArg]; done)) rfl, ?_⟩
    refine hK' _ ?_
    clear hK' K'
    simp (maxSteps := 1000000) (disch := first | omega | assumption) [og_at, og_put, og_at0, og_put0, sput_len, sp_at, sp_at0, sp_put, sp_put0]
    repeat' refine And.intro ?_ ?_
    all_goals first | omega | exact rfl | skip
    refine hK _ ?_
    clear hK K
    clear all
    refine q_then_n ?_
    refine awp_ret ?_
    refine q_block_r ?_
    refine q_then_r ?_
    have e1 : decide (sokdo s x a) = decide (scanr s a.frame a.n = rscanr x a.frame a.n) := by simp only [sokdo]; simp [c1, c3, c5]
    rw [e1]
    simp [endQ, rsdo, sdo, c1, c3, c5]
    cases scanr s a.frame a.n <;> cases rscanr x a.frame a.n <;> rfl
   ·try simp at c5
    refine awp_seq ?_
    refine awp_keep [0, 4, 5, 6, 7, 31] (by simp only [keepL_nil, keepL_cons, envOf_sel, envOf_nil, sel_t, sel_f, Nat.reduceBEq] <;> rfl) ?_
    refine awp_regionA (c := ⟨[], [4, 5], [8, 10, 11, 20, 22, 23, 25, 27, 28], [], []⟩) (by simp only [lite_cons, lite_nil] <;> rfl) fun all hall K hK => ?_
    clear hall
    simp (maxSteps := 1000000) (disch := first | omega | assumption) [og_at, og_put, og_at0, og_put0, sput_len, sp_at, sp_at0, sp_put, sp_put0]
    repeat' refine And.intro ?_ ?_
    all_goals first | omega | exact rfl | skip
    refine hK _ ?_
    clear hK K
    clear all
    refine q_then_n ?_
    refine awp_ifB (by simp <;> rfl) ?_
    refine ⟨fun c6 => ?_, fun c6 => ?_⟩
    ·try simp at c6
     refine awp_seq ?_
     refine awp_regionA (c := ⟨[], [4, 5], [8, 10, 11, 20, 22, 23, 25, 27, 28], [], []⟩) (by simp only [lite_cons, lite_nil] <;> rfl) fun all hall K hK => ?_
     clear hall
     refine vcL_split 1 fun K' hK' => ?_
     simp (maxSteps := 1000000) (disch := first | omega | assumption) [og_at, og_put, og_at0, og_put0, sput_len, sp_at, sp_at0, sp_put, sp_put0]
     repeat' refine And.intro ?_ ?_
     all_goals first | omega | exact rfl | skip
     refine hK' _ ?_
     clear hK' K'
     simp only [List.drop_succ_cons, List.drop_zero]
     refine vcL_step fun K' hK' => ?_
     simp (maxSteps := 1000000) (disch := first | omega | assumption) [og_at, og_put, og_at0, og_put0, sput_len, sp_at, sp_at0, sp_put, sp_put0]
     refine Ct.mono (Ct.of_le (rsframe_fn x _ hx) (by first | exact leArgs_of rfl | (refine leArgs_of ?_; simp; done) | (refine leArgs_of ?_; simp; rfl) | (simp [leArgs, leArg]; done)) rfl) ?_
     rintro _ _ ⟨hr9, hs9⟩
     subst hr9
     replace hs9 := hs9.symm
     subst hs9
     refine hK' _ ?_
     clear hK' K'
     simp (maxSteps := 1000000) (disch := first | omega | assumption) [og_at, og_put, og_at0, og_put0, sput_len, sp_at, sp_at0, sp_put, sp_put0]
     repeat' refine And.intro ?_ ?_
     all_goals first | omega | exact rfl | skip
     refine hK _ ?_
     clear hK K
     clear all
     refine q_then_n ?_
     refine awp_seq ?_
     refine awp_keep [0, 4, 5, 6, 7, 15, 16] (by simp only [keepL_nil, keepL_cons, envOf_sel, envOf_nil, sel_t, sel_f, Nat.reduceBEq] <;> rfl) ?_
     refine awp_regionA (c := ⟨[], [4, 5], [8, 10, 11, 20, 22, 23, 25, 27, 28], [], []⟩) (by simp only [lite_cons, lite_nil] <;> rfl) fun all hall K hK => ?_
     clear hall
     refine vcL_split 1 fun K' hK' => ?_
     simp (maxSteps := 1000000) (disch := first | omega | assumption) [og_at, og_put, og_at0, og_put0, sput_len, sp_at, sp_at0, sp_put, sp_put0]
     repeat' refine And.intro ?_ ?_
     all_goals first | omega | exact rfl | skip
     refine hK' _ ?_
     clear hK' K'
     simp only [List.drop_succ_cons, List.drop_zero]
     refine vcL_step fun K' hK' => ?_
     simp (maxSteps := 1000000) (disch := first | omega | assumption) [og_at, og_put, og_at0, og_put0, sput_len, sp_at, sp_at0, sp_put, sp_put0]
     refine Ct.mono (Ct.of_le (sframe_fn S w m M q s _ ho hs) (by first | exact leArgs_of rfl | (refine leArgs_of ?_; simp; done) | (refine leArgs_of ?_; simp; rfl) | (simp [leArgs, leArg]; done)) rfl) ?_
     rintro _ _ ⟨hr9, hs9⟩
     subst hr9
     replace hs9 := hs9.symm
     subst hs9
     refine hK' _ ?_
     clear hK' K'
     simp (maxSteps := 1000000) (disch := first | omega | assumption) [og_at, og_put, og_at0, og_put0, sput_len, sp_at, sp_at0, sp_put, sp_put0]
     repeat' refine And.intro ?_ ?_
     all_goals first | omega | exact rfl | skip
     refine hK _ ?_
     clear hK K
     clear all
     refine q_then_n ?_
     refine awp_seq ?_
     refine awp_regionA (c := ⟨[], [4, 5], [8, 10, 11, 20, 22, 23, 25, 27, 28], [], []⟩) (by simp only [lite_cons, lite_nil] <;> rfl) fun all hall K hK => ?_
     clear hall
     simp (maxSteps := 1000000) (disch := first | omega | assumption) [og_at, og_put, og_at0, og_put0, sput_len, sp_at, sp_at0, sp_put, sp_put0]
     repeat' refine And.intro ?_ ?_
     all_goals first | omega | exact rfl | skip
     refine hK _ ?_
     clear hK K
     clear all
     refine q_then_n ?_
     refine awp_seq ?_
     refine awp_seq ?_
     refine awp_keep [0, 4, 5, 6, 7, 15, 16, 17, 18] (by simp only [keepL_nil, keepL_cons, envOf_sel, envOf_nil, sel_t, sel_f, Nat.reduceBEq] <;> rfl) ?_
     refine awp_regionA (c := ⟨[], [4, 5], [8, 10, 11, 20, 22, 23, 25, 27, 28], [], []⟩) (by simp only [lite_cons, lite_nil] <;> rfl) fun all hall K hK => ?_
     clear hall
     simp (maxSteps := 1000000) (disch := first | omega | assumption) [og_at, og_put, og_at0, og_put0, sput_len, sp_at, sp_at0, sp_put, sp_put0]
     repeat' refine And.intro ?_ ?_
     all_goals first | omega | exact rfl | skip
     refine hK _ ?_
     clear hK K
     clear all
     refine q_then_n ?_
     refine awp_block ?_
     refine awp_keep [0, 4, 5, 6, 7, 15, 16, 17, 18, 19] (by simp only [keepL_nil, keepL_cons, envOf_sel, envOf_nil, sel_t, sel_f, Nat.reduceBEq] <;> rfl) ?_
     refine awp_loopE (fun (k : Nat) => [(19, .d (.v (.int .i64 (k : Int)))), (18, .d (.bool (decide ((sjobs (wdecs s.q.w0)).length = (sjobs (fdue x.queue.l)).length ∧ (sjobs (wdecs s.q.w0)).take k = (sjobs (fdue x.queue.l)).take k))))]) [18, 19, 95, 96, 97, 98, 99, 100, 101, 102, 103, 104, 105, 106, 107, 108, 109, 110, 111, 112] (fun (k : Nat) => k ≤ (sjobs (fdue x.queue.l)).length) (fun (k : Nat) => (sjobs (fdue x.queue.l)).length - k) (0) (by simp <;> rfl) ?_ ?_ ?_
     ·simp [Int.ofNat_inj]
     ·simp
     rintro k hk
     simp only [List.cons_append, List.nil_append]
     refine awp_seq ?_
     refine awp_seq ?_
     refine awp_regionA (c := ⟨[], [4, 5], [8, 10, 11, 20, 22, 23, 25, 27, 28], [], []⟩) (by simp only [lite_cons, lite_nil] <;> rfl) fun all hall K hK => ?_
     have ga4 : guardOf all 4 = some 99 := hall 4
     clear hall
     refine vcL_split 5 fun K' hK' => ?_
     simp (maxSteps := 1000000) (disch := first | omega | assumption) [og_at, og_put, og_at0, og_put0, sput_len, sp_at, sp_at0, sp_put, sp_put0, ga4]
     repeat' refine And.intro ?_ ?_
     all_goals first | omega | exact rfl | skip
     refine hK' _ ?_
     clear hK' K'
     simp only [List.drop_succ_cons, List.drop_zero]
     refine vcL_bool 99 (by simp <;> rfl) ?_
     refine ⟨fun g7 => ?_, fun g7 => ?_⟩
     ·try simp at g7
      simp (maxSteps := 1000000) (disch := first | omega | assumption) [og_at, og_put, og_at0, og_put0, sput_len, sp_at, sp_at0, sp_put, sp_put0, ga4]
      repeat' refine And.intro ?_ ?_
      all_goals first | omega | exact rfl | skip
      refine hK _ ?_
      clear hK K
      clear ga4
      clear all
      refine q_then_n ?_
      refine awp_ifB (by simp <;> rfl) ?_
      refine ⟨fun c8 => ?_, fun c8 => ?_⟩
      ·try simp at c8
       refine awp_skip ?_
       refine q_then_n ?_
       refine awp_seq ?_
       refine awp_block ?_
       refine awp_keep [0, 4, 5, 6, 7, 15, 16, 17, 18, 19] (by simp only [keepL_nil, keepL_cons, envOf_sel, envOf_nil, sel_t, sel_f, Nat.reduceBEq] <;> rfl) ?_
       refine awp_drawA (c := ⟨[], [4, 5], [8, 10, 11, 20, 22, 23, 25, 27, 28], [], []⟩) [.op ⟨false, false, false, false⟩, .op ⟨false, false, false, false⟩, .op ⟨false, false, false, false⟩, .op ⟨false, false, false, false⟩, .op ⟨false, false, false, false⟩, .op ⟨false, false, false, false⟩, .op ⟨false, false, false, false⟩, .op ⟨false, false, false, false⟩, .op ⟨false, false, false, false⟩, .op ⟨false, false, false, false⟩] (by kernel_rfl) (by kernel_rfl) (by simp only [lite_cons, lite_nil] <;> rfl) fun all hall K hK => ?_
       clear hall
       refine vcDL_split 8 (by simp) fun K' hK' => ?_
       simp (maxSteps := 1000000) (disch := first | omega | assumption) [og_at, og_put, og_at0, og_put0, sput_len, sp_at, sp_at0, sp_put, sp_put0]
       repeat' refine And.intro ?_ ?_
       all_goals first | omega | exact rfl | skip
       refine hK' _ ?_
       clear hK' K'
       simp only [List.drop_succ_cons, List.drop_zero]
       simp (maxSteps := 1000000) (disch := first | omega | assumption) [og_at, og_put, og_at0, og_put0, sput_len, sp_at, sp_at0, sp_put, sp_put0]
       repeat' refine And.intro ?_ ?_
       all_goals first | omega | exact rfl | skip
       refine hK _ ?_
       clear hK K
       clear all
       refine q_block_n ?_
       refine q_then_n ?_
       refine awp_keep [0, 4, 5, 6, 7, 15, 16, 17, 18, 19] (by simp only [keepL_nil, keepL_cons, envOf_sel, envOf_nil, sel_t, sel_f, Nat.reduceBEq] <;> rfl) ?_
       refine awp_regionA (c := ⟨[], [4, 5], [8, 10, 11, 20, 22, 23, 25, 27, 28], [], []⟩) (by simp only [lite_cons, lite_nil] <;> rfl) fun all hall K hK => ?_
       clear hall
       simp (maxSteps := 1000000) (disch := first | omega | assumption) [og_at, og_put, og_at0, og_put0, sput_len, sp_at, sp_at0, sp_put, sp_put0]
       repeat' refine And.intro ?_ ?_
       all_goals first | omega | exact rfl | skip
       refine hK _ ?_
       clear hK K
       clear all
       refine q_round (k + 1) ?_ ?_ (weak_mkA rfl ?_ (by simp) (by simp))
       ·omega
       ·try dsimp only
        omega
       ·simp (maxSteps := 1000000) (disch := first | omega | assumption)
        rw [jcmp c8 g7 (by omega)]
        simp
      ·try simp at c8
       refine awp_exit ?_
       refine q_then_e ?_
       refine q_loop_e ?_
       refine q_block_e ?_
       refine q_then_n ?_
       refine awp_seq ?_
       refine awp_keep [0, 4, 5, 6, 7, 15, 18] (by simp only [keepL_nil, keepL_cons, envOf_sel, envOf_nil, sel_t, sel_f, Nat.reduceBEq] <;> rfl) ?_
       refine awp_regionA (c := ⟨[], [4, 5], [8, 10, 11, 20, 22, 23, 25, 27, 28], [], []⟩) (by simp only [lite_cons, lite_nil] <;> rfl) fun all hall K hK => ?_
       clear hall
       simp (maxSteps := 1000000) (disch := first | omega | assumption) [og_at, og_put, og_at0, og_put0, sput_len, sp_at, sp_at0, sp_put, sp_put0]
       repeat' refine And.intro ?_ ?_
       all_goals first | omega | exact rfl | skip
       refine hK _ ?_
       clear hK K
       clear all
       refine q_then_n ?_
       refine awp_ret ?_
       refine q_block_r ?_
       refine q_then_r ?_
       have e1 : decide (sokdo s x a) = false := by simp only [sokdo]; simp [c1, c3, c5, c6]; exact leq_no c8
       rw [e1]
       simp [endQ, rsdo, sdo, c1, c3, c5, c6]
       exact c8
     ·try simp at g7
      simp (maxSteps := 1000000) (disch := first | omega | assumption) [og_at, og_put, og_at0, og_put0, sput_len, sp_at, sp_at0, sp_put, sp_put0, ga4]
      repeat' refine And.intro ?_ ?_
      all_goals first | omega | exact rfl | skip
      refine hK _ ?_
      clear hK K
      clear ga4
      clear all
      refine q_then_n ?_
      refine awp_cond (t := false) (by simp) (fun h => by cases h) (fun _ => ?_)
      refine awp_exit ?_
      refine q_then_e ?_
      refine q_loop_e ?_
      refine q_block_e ?_
      refine q_then_n ?_
      refine awp_seq ?_
      refine awp_keep [0, 4, 5, 6, 7, 15, 18] (by simp only [keepL_nil, keepL_cons, envOf_sel, envOf_nil, sel_t, sel_f, Nat.reduceBEq] <;> rfl) ?_
      refine awp_regionA (c := ⟨[], [4, 5], [8, 10, 11, 20, 22, 23, 25, 27, 28], [], []⟩) (by simp only [lite_cons, lite_nil] <;> rfl) fun all hall K hK => ?_
      clear hall
      simp (maxSteps := 1000000) (disch := first | omega | assumption) [og_at, og_put, og_at0, og_put0, sput_len, sp_at, sp_at0, sp_put, sp_put0]
      repeat' refine And.intro ?_ ?_
      all_goals first | omega | exact rfl | skip
      refine hK _ ?_
      clear hK K
      clear all
      refine q_then_n ?_
      refine awp_ret ?_
      refine q_block_r ?_
      refine q_then_r ?_
      have e1 : decide (sokdo s x a) = decide (sjobs (wdecs s.q.w0) = sjobs (fdue x.queue.l)) := by simp only [sokdo]; simp [c1, c3, c5, c6]
      rw [e1, ← leq_all g7]
      simp [endQ, rsdo, sdo, c1, c3, c5, c6]
    ·try simp at c6
     refine awp_seq ?_
     refine awp_regionA (c := ⟨[], [4, 5], [8, 10, 11, 20, 22, 23, 25, 27, 28], [], []⟩) (by simp only [lite_cons, lite_nil] <;> rfl) fun all hall K hK => ?_
     clear hall
     simp (maxSteps := 1000000) (disch := first | omega | assumption) [og_at, og_put, og_at0, og_put0, sput_len, sp_at, sp_at0, sp_put, sp_put0]
     repeat' refine And.intro ?_ ?_
     all_goals first | omega | exact rfl | skip
     refine hK _ ?_
     clear hK K
     clear all
     refine q_then_n ?_
     refine awp_ifB (by simp <;> rfl) ?_
     refine ⟨fun c9 => ?_, fun c9 => ?_⟩
     ·try simp at c9
      refine awp_seq ?_
      refine awp_keep [0, 4, 5, 6, 7] (by simp only [keepL_nil, keepL_cons, envOf_sel, envOf_nil, sel_t, sel_f, Nat.reduceBEq] <;> rfl) ?_
      refine awp_regionA (c := ⟨[], [4, 5], [8, 10, 11, 20, 22, 23, 25, 27, 28], [], []⟩) (by simp only [lite_cons, lite_nil] <;> rfl) fun all hall K hK => ?_
      clear hall
      refine vcL_split 5 fun K' hK' => ?_
      simp (maxSteps := 1000000) (disch := first | omega | assumption) [og_at, og_put, og_at0, og_put0, sput_len, sp_at, sp_at0, sp_put, sp_put0]
      repeat' refine And.intro ?_ ?_
      all_goals first | omega | exact rfl | skip
      refine hK' _ ?_
      clear hK' K'
      simp only [List.drop_succ_cons, List.drop_zero]
      refine vcL_step fun K' hK' => ?_
      simp (maxSteps := 1000000) (disch := first | omega | assumption) [og_at, og_put, og_at0, og_put0, sput_len, sp_at, sp_at0, sp_put, sp_put0]
      refine Ct.mono (Ct.of_le (safter_fn S w m M q s a.n a.job _ ho hs) (by first | exact leArgs_of rfl | (refine leArgs_of ?_; simp; done) | (refine leArgs_of ?_; simp; rfl) | (simp [leArgs, leArg]; done)) rfl) ?_
      rintro _ _ ⟨hr9, hs9⟩
      subst hr9
      replace hs9 := hs9.symm
      subst hs9
      refine hK' _ ?_
      clear hK' K'
      simp (maxSteps := 1000000) (disch := first | omega | assumption) [og_at, og_put, og_at0, og_put0, sput_len, sp_at, sp_at0, sp_put, sp_put0]
      repeat' refine And.intro ?_ ?_
      all_goals first | omega | exact rfl | skip
      refine hK _ ?_
      clear hK K
      clear all
      refine q_then_n ?_
      refine awp_seq ?_
      refine awp_keep [0, 4, 5, 6, 7, 20, 21] (by simp only [keepL_nil, keepL_cons, envOf_sel, envOf_nil, sel_t, sel_f, Nat.reduceBEq] <;> rfl) ?_
      refine awp_regionA (c := ⟨[], [4, 5], [8, 10, 11, 20, 22, 23, 25, 27, 28], [], []⟩) (by simp only [lite_cons, lite_nil] <;> rfl) fun all hall K hK => ?_
      clear hall
      refine vcL_split 5 fun K' hK' => ?_
      simp (maxSteps := 1000000) (disch := first | omega | assumption) [og_at, og_put, og_at0, og_put0, sput_len, sp_at, sp_at0, sp_put, sp_put0]
      repeat' refine And.intro ?_ ?_
      all_goals first | omega | exact rfl | skip
      refine hK' _ ?_
      clear hK' K'
      simp only [List.drop_succ_cons, List.drop_zero]
      refine vcL_step fun K' hK' => ?_
      simp (maxSteps := 1000000) (disch := first | omega | assumption) [og_at, og_put, og_at0, og_put0, sput_len, sp_at, sp_at0, sp_put, sp_put0]
      refine Ct.mono (Ct.of_le (rsadd_fn x a.n a.job _ hx) (by first | exact leArgs_of rfl | (refine leArgs_of ?_; simp; done) | (refine leArgs_of ?_; simp; rfl) | (simp [leArgs, leArg]; done)) rfl) ?_
      rintro _ _ ⟨hr9, hs9⟩
      subst hr9
      replace hs9 := hs9.symm
      subst hs9
      refine hK' _ ?_
      clear hK' K'
      refine vcL_split 8 fun K' hK' => ?_
      simp (maxSteps := 1000000) (disch := first | omega | assumption) [og_at, og_put, og_at0, og_put0, sput_len, sp_at, sp_at0, sp_put, sp_put0]
      repeat' refine And.intro ?_ ?_
      all_goals first | omega | exact rfl | skip
      refine hK' _ ?_
      clear hK' K'
      simp only [List.drop_succ_cons, List.drop_zero]
      simp (maxSteps := 1000000) (disch := first | omega | assumption) [og_at, og_put, og_at0, og_put0, sput_len, sp_at, sp_at0, sp_put, sp_put0]
      repeat' refine And.intro ?_ ?_
      all_goals first | omega | exact rfl | skip
      refine hK _ ?_
      clear hK K
      clear all
      refine q_then_n ?_
      refine awp_seq ?_
      refine awp_keep [0, 4, 5, 6, 7, 20, 21, 22, 23, 24] (by simp only [keepL_nil, keepL_cons, envOf_sel, envOf_nil, sel_t, sel_f, Nat.reduceBEq] <;> rfl) ?_
      refine awp_drawA (c := ⟨[], [4, 5], [8, 10, 11, 20, 22, 23, 25, 27, 28], [], []⟩) [.op ⟨false, false, true, false⟩, .op ⟨false, false, true, false⟩, .op ⟨false, false, true, false⟩, .op ⟨false, false, false, false⟩, .op ⟨false, false, false, false⟩, .op ⟨false, false, false, false⟩, .op ⟨false, false, false, false⟩, .op ⟨false, false, false, false⟩, .op ⟨false, false, false, false⟩, .op ⟨true, true, false, false⟩, .op ⟨false, false, false, false⟩] (by kernel_rfl) (by kernel_rfl) (by simp only [lite_cons, lite_nil] <;> rfl) fun all hall K hK => ?_
      have ga4 : guardOf all 4 = some 140 := hall 4
      clear hall
      refine vcDL_split 5 (by simp) fun K' hK' => ?_
      simp (maxSteps := 1000000) (disch := first | omega | assumption) [og_at, og_put, og_at0, og_put0, sput_len, sp_at, sp_at0, sp_put, sp_put0, ga4]
      repeat' refine And.intro ?_ ?_
      all_goals first | omega | exact rfl | skip
      refine hK' _ ?_
      clear hK' K'
      simp only [List.drop_succ_cons, List.drop_zero]
      refine vcDL_bool 140 (by simp <;> rfl) ?_
      refine ⟨fun g10 => ?_, fun g10 => ?_⟩
      ·try simp at g10
       simp (maxSteps := 1000000) (disch := first | omega | assumption) [og_at, og_put, og_at0, og_put0, sput_len, sp_at, sp_at0, sp_put, sp_put0, ga4]
       repeat' refine And.intro ?_ ?_
       all_goals first | omega | exact rfl | skip
       refine hK _ ?_
       clear hK K
       clear ga4
       clear all
       refine q_then_n ?_
       refine awp_ret ?_
       refine q_block_r ?_
       refine q_then_r ?_
       have e1 : decide (sokdo s x a) = decide ((saddr s a.n a.job).2 = (rsaddr x a.n a.job).2) := by simp only [sokdo]; simp [c1, c3, c5, c6, c9, rf_iff, g10]
       rw [e1]
       simp [endQ, rsdo, sdo, c1, c3, c5, c6, c9]
      ·try simp at g10
       simp (maxSteps := 1000000) (disch := first | omega | assumption) [og_at, og_put, og_at0, og_put0, sput_len, sp_at, sp_at0, sp_put, sp_put0, ga4]
       repeat' refine And.intro ?_ ?_
       all_goals first | omega | exact rfl | skip
       refine hK _ ?_
       clear hK K
       clear ga4
       clear all
       refine q_then_n ?_
       refine awp_ret ?_
       refine q_block_r ?_
       refine q_then_r ?_
       have e1 : decide (sokdo s x a) = false := by
        simp only [sokdo]
        simp [c1, c3, c5, c6, c9, rf_iff]
        intro h1 h2
        exact absurd h2 (g10 h1)
       rw [e1]
       simp [endQ, rsdo, sdo, c1, c3, c5, c6, c9]
     ·try simp at c9
      refine awp_skip ?_
      refine q_block_n ?_
      refine q_then_n ?_
      refine awp_seq ?_
      refine awp_regionA (c := ⟨[], [4, 5], [8, 10, 11, 20, 22, 23, 25, 27, 28], [], []⟩) (by simp only [lite_cons, lite_nil] <;> rfl) fun all hall K hK => ?_
      clear hall
      refine vcL_split 3 fun K' hK' => ?_
      simp (maxSteps := 1000000) (disch := first | omega | assumption) [og_at, og_put, og_at0, og_put0, sput_len, sp_at, sp_at0, sp_put, sp_put0]
      repeat' refine And.intro ?_ ?_
      all_goals first | omega | exact rfl | skip
      refine hK' _ ?_
      clear hK' K'
      simp only [List.drop_succ_cons, List.drop_zero]
      refine vcL_step fun K' hK' => ?_
      simp (maxSteps := 1000000) (disch := first | omega | assumption) [og_at, og_put, og_at0, og_put0, sput_len, sp_at, sp_at0, sp_put, sp_put0]
      refine Ct.mono (Ct.of_le (suntil_fn S w m M q s a.n _ ho hs) (by first | exact leArgs_of rfl | (refine leArgs_of ?_; simp; done) | (refine leArgs_of ?_; simp; rfl) | (simp [leArgs, leArg]; done)) rfl) ?_
      rintro _ _ ⟨hr9, hs9⟩
      subst hr9
      replace hs9 := hs9.symm
      subst hs9
      refine hK' _ ?_
      clear hK' K'
      simp (maxSteps := 1000000) (disch := first | omega | assumption) [og_at, og_put, og_at0, og_put0, sput_len, sp_at, sp_at0, sp_put, sp_put0]
      repeat' refine And.intro ?_ ?_
      all_goals first | omega | exact rfl | skip
      refine hK _ ?_
      clear hK K
      clear all
      refine q_then_n ?_
      refine awp_seq ?_
      refine awp_keep [4, 5, 6, 7, 25, 26] (by simp only [keepL_nil, keepL_cons, envOf_sel, envOf_nil, sel_t, sel_f, Nat.reduceBEq] <;> rfl) ?_
      refine awp_regionA (c := ⟨[], [4, 5], [8, 10, 11, 20, 22, 23, 25, 27, 28], [], []⟩) (by simp only [lite_cons, lite_nil] <;> rfl) fun all hall K hK => ?_
      clear hall
      refine vcL_split 3 fun K' hK' => ?_
      simp (maxSteps := 1000000) (disch := first | omega | assumption) [og_at, og_put, og_at0, og_put0, sput_len, sp_at, sp_at0, sp_put, sp_put0]
      repeat' refine And.intro ?_ ?_
      all_goals first | omega | exact rfl | skip
      refine hK' _ ?_
      clear hK' K'
      simp only [List.drop_succ_cons, List.drop_zero]
      refine vcL_step fun K' hK' => ?_
      simp (maxSteps := 1000000) (disch := first | omega | assumption) [og_at, og_put, og_at0, og_put0, sput_len, sp_at, sp_at0, sp_put, sp_put0]
      refine Ct.mono (Ct.of_le (rsuntil_fn x a.n _ hx) (by first | exact leArgs_of rfl | (refine leArgs_of ?_; simp; done) | (refine leArgs_of ?_; simp; rfl) | (simp [leArgs, leArg]; done)) rfl) ?_
      rintro _ _ ⟨hr9, hs9⟩
      subst hr9
      replace hs9 := hs9.symm
      subst hs9
      refine hK' _ ?_
      clear hK' K'
      refine vcL_split 8 fun K' hK' => ?_
      simp (maxSteps := 1000000) (disch := first | omega | assumption) [og_at, og_put, og_at0, og_put0, sput_len, sp_at, sp_at0, sp_put, sp_put0]
      repeat' refine And.intro ?_ ?_
      all_goals first | omega | exact rfl | skip
      refine hK' _ ?_
      clear hK' K'
      simp only [List.drop_succ_cons, List.drop_zero]
      simp (maxSteps := 1000000) (disch := first | omega | assumption) [og_at, og_put, og_at0, og_put0, sput_len, sp_at, sp_at0, sp_put, sp_put0]
      repeat' refine And.intro ?_ ?_
      all_goals first | omega | exact rfl | skip
      refine hK _ ?_
      clear hK K
      clear all
      refine q_then_n ?_
      refine awp_seq ?_
      refine awp_keep [6, 7, 25, 26, 27, 28, 29] (by simp only [keepL_nil, keepL_cons, envOf_sel, envOf_nil, sel_t, sel_f, Nat.reduceBEq] <;> rfl) ?_
      refine awp_drawA (c := ⟨[], [4, 5], [8, 10, 11, 20, 22, 23, 25, 27, 28], [], []⟩) [.op ⟨false, false, true, false⟩, .op ⟨false, false, false, false⟩, .op ⟨false, false, false, false⟩, .op ⟨false, false, false, false⟩, .op ⟨false, false, false, false⟩, .op ⟨false, false, true, false⟩, .op ⟨false, false, true, false⟩, .op ⟨false, false, false, false⟩, .op ⟨false, false, false, false⟩, .op ⟨true, true, false, false⟩, .op ⟨false, false, false, false⟩] (by kernel_rfl) (by kernel_rfl) (by simp only [lite_cons, lite_nil] <;> rfl) fun all hall K hK => ?_
      have ga4 : guardOf all 4 = some 164 := hall 4
      clear hall
      refine vcDL_split 5 (by simp) fun K' hK' => ?_
      simp (maxSteps := 1000000) (disch := first | omega | assumption) [og_at, og_put, og_at0, og_put0, sput_len, sp_at, sp_at0, sp_put, sp_put0, ga4]
      repeat' refine And.intro ?_ ?_
      all_goals first | omega | exact rfl | skip
      refine hK' _ ?_
      clear hK' K'
      simp only [List.drop_succ_cons, List.drop_zero]
      refine vcDL_bool 164 (by simp <;> rfl) ?_
      refine ⟨fun g11 => ?_, fun g11 => ?_⟩
      ·try simp at g11
       simp (maxSteps := 1000000) (disch := first | omega | assumption) [og_at, og_put, og_at0, og_put0, sput_len, sp_at, sp_at0, sp_put, sp_put0, ga4]
       repeat' refine And.intro ?_ ?_
       all_goals first | omega | exact rfl | skip
       refine hK _ ?_
       clear hK K
       clear ga4
       clear all
       refine q_then_n ?_
       refine awp_ret ?_
       have e1 : decide (sokdo s x a) = decide ((wduet s.t (sclip s a.n)).job = (rduet x.wheel (rsclip x a.n)).job) := by simp only [sokdo]; simp [c1, c3, c5, c6, c9, g11]
       rw [e1, ← job_beq]
       simp [endQ, rsdo, sdo, c1, c3, c5, c6, c9]
      ·try simp at g11
       simp (maxSteps := 1000000) (disch := first | omega | assumption) [og_at, og_put, og_at0, og_put0, sput_len, sp_at, sp_at0, sp_put, sp_put0, ga4]
       repeat' refine And.intro ?_ ?_
       all_goals first | omega | exact rfl | skip
       refine hK _ ?_
       clear hK K
       clear ga4
       clear all
       refine q_then_n ?_
       refine awp_ret ?_
       have e1 : decide (sokdo s x a) = false := by simp only [sokdo]; simp [c1, c3, c5, c6, c9, g11]
       rw [e1]
       simp [endQ, rsdo, sdo, c1, c3, c5, c6, c9]
end Go.Proofs.Ytnlokhfcgaikiaa

import Derived.Test.YtnlokhfcgaikiaaWkSched4
namespace Go.Proofs.Ytnlokhfcgaikiaa
open Go Go.Vm
set_option maxRecDepth 20000
set_option linter.all false
set_option maxHeartbeats 8000000
structure Inv (k : Nat) (q : Q2) (x : RQ) : Prop where
 len : q.w0.length + q.w1.length ≤ k
 h2 : 0 ≤ q.last ∧ q.last ≤ k
 h3 : ∀ w ∈ q.w0, w.left = 1
 h4 : ∀ w ∈ q.w1, w.left = 2
 most : x.most = q.most
 last : x.last = q.last
 l : x.l = q.w0 ++ q.w1
 cap : qlen q ≤ q.most
theorem Inv.ok {k : Nat} {q : Q2} {x : RQ} (h : Inv k q x) (hk : k ≤ 1000) : Q2ok q := by
 obtain ⟨a, b, c, d, e, f, g, i⟩ := h
 exact ⟨by omega, by omega, by omega, c, d⟩
theorem Inv.xl {k : Nat} {q : Q2} {x : RQ} (h : Inv k q x) (hk : k ≤ 1000) : x.l.length ≤ 100000 := by
 have := h.len; rw [h.l, List.length_append]; omega
theorem Inv.xn {k : Nat} {q : Q2} {x : RQ} (h : Inv k q x) (hk : k ≤ 1000) : 0 ≤ x.last ∧ x.last ≤ 1000000 := by
 have := h.h2; rw [h.last]; omega
theorem Inv.xw {k : Nat} {q : Q2} {x : RQ} (h : Inv k q x) : ∀ w ∈ x.l, 1 ≤ w.left ∧ w.left ≤ 2 := by
 intro w hw
 rw [h.l] at hw
 rcases List.mem_append.1 hw with hw | hw
 ·have := h.h3 w hw; omega
 ·have := h.h4 w hw; omega
theorem Inv.qlen {k : Nat} {q : Q2} {x : RQ} (h : Inv k q x) : Ytnlokhfcgaikiaa.qlen q = (x.l.length : Int) := by rw [h.l, List.length_append]; rfl
theorem Inv.mono {k k' : Nat} {q : Q2} {x : RQ} (h : Inv k q x) (hk : k ≤ k') : Inv k' q x := ⟨Nat.le_trans h.len hk, ⟨h.h2.1, by have := h.h2.2; omega⟩, h.h3, h.h4, h.most, h.last, h.l, h.cap⟩
theorem inv_new (x : Int) : Inv 0 ⟨clip x 1 65536, 0, [], []⟩ ⟨max 1 (min x 65536), 0, []⟩ := by
 refine ⟨by simp, by simp, by simp, by simp, by simp [clip], rfl, rfl, ?_⟩
 simp [qlen, clip]; omega
theorem qdel_app (n : Int) (a b : List Wt) : qdel n (a ++ b) = qdel n a ++ qdel n b := by simp [qdel]
theorem fdue_app (a b : List Wt) : fdue (a ++ b) = fdue a ++ fdue b := by simp [fdue]
theorem rstay_app (a b : List Wt) : rstay (a ++ b) = rstay a ++ rstay b := by simp [rstay]
theorem fdue_one {l : List Wt} (h : ∀ w ∈ l, w.left = 1) : fdue l = wdecs l ∧ rstay l = [] := by
 unfold fdue rstay wdecs
 constructor
 ·rw [List.filter_eq_self]
  intro w hw
  obtain ⟨u, hu, rfl⟩ := List.mem_map.1 hw
  simp [wdec, h u hu]
 ·rw [List.filter_eq_nil_iff]
  intro w hw
  obtain ⟨u, hu, rfl⟩ := List.mem_map.1 hw
  simp [wdec, h u hu]
theorem fdue_two {l : List Wt} (h : ∀ w ∈ l, w.left = 2) : fdue l = [] ∧ rstay l = wdecs l := by
 unfold fdue rstay wdecs
 constructor
 ·rw [List.filter_eq_nil_iff]
  intro w hw
  obtain ⟨u, hu, rfl⟩ := List.mem_map.1 hw
  simp [wdec, h u hu]
 ·rw [List.filter_eq_self]
  intro w hw
  obtain ⟨u, hu, rfl⟩ := List.mem_map.1 hw
  simp [wdec, h u hu]
theorem Inv.full {k : Nat} {q : Q2} {x : RQ} (h : Inv k q x) : (x.l.length : Int) = x.most ↔ q.most ≤ Ytnlokhfcgaikiaa.qlen q := by
 have := h.qlen; have := h.cap; have := h.most; omega
theorem Inv.ask {k : Nat} {q : Q2} {x : RQ} (h : Inv k q x) (j : Job) : Inv (k + 1) (qask q j).1 (fask x j).1 ∧ (qask q j).2 = (fask x j).2 := by
 have hf := h.full
 obtain ⟨hlen, h2, h3, h4, hm, hla, hl, hc⟩ := id h
 unfold qask fask
 by_cases c : q.most ≤ Ytnlokhfcgaikiaa.qlen q
 ·rw [if_pos c, if_pos (hf.2 c)]
  exact ⟨h.mono (by omega), rfl⟩
 ·rw [if_neg c, if_neg (fun h9 => c (hf.1 h9))]
  have hq : Ytnlokhfcgaikiaa.qlen q = ((q.w0.length + q.w1.length : Nat) : Int) := rfl
  refine ⟨⟨by simp; omega, by dsimp only; omega, h3, ?_, hm, by dsimp only; rw [hla], by simp [hl, hla], ?_⟩, by rw [hla]⟩
  ·intro w hw
   rcases List.mem_append.1 hw with hw | hw
   ·exact h4 w hw
   ·simp at hw; subst hw; rfl
  ·simp only [Ytnlokhfcgaikiaa.qlen, List.length_append, List.length_singleton]; omega
theorem Inv.can {k : Nat} {q : Q2} {x : RQ} (h : Inv k q x) (n : Int) : Inv k (qcan q n 2) (fcan x n) ∧ decide (Ytnlokhfcgaikiaa.qlen (qcan q n 2) < Ytnlokhfcgaikiaa.qlen q) = decide ((qdel n x.l).length < x.l.length) := by
 obtain ⟨hlen, h2, h3, h4, hm, hla, hl, hc⟩ := id h
 have a0 := qdel_len n q.w0
 have a1 := qdel_len n q.w1
 have e : qcan q n 2 = ⟨q.most, q.last, qdel n q.w0, qdel n q.w1⟩ := by simp [qcan]
 simp only [Ytnlokhfcgaikiaa.qlen] at hc
 rw [e]
 refine ⟨⟨by dsimp only; omega, h2, fun w hw => h3 w (List.mem_filter.1 hw).1, fun w hw => h4 w (List.mem_filter.1 hw).1, hm, hla, by simp only [fcan]; rw [hl, qdel_app], ?_⟩, ?_⟩
 ·simp only [Ytnlokhfcgaikiaa.qlen]; omega
 ·rw [decide_eq_decide, hl, qdel_app]; simp only [Ytnlokhfcgaikiaa.qlen, List.length_append]; omega
theorem Inv.frame {k : Nat} {q : Q2} {x : RQ} (h : Inv k q x) : Inv k (qnext q) (rnext x) ∧ wdecs q.w0 = fdue x.l := by
 obtain ⟨hlen, h2, h3, h4, hm, hla, hl, hc⟩ := id h
 obtain ⟨r1, r2⟩ := fdue_one h3
 obtain ⟨r3, r4⟩ := fdue_two h4
 refine ⟨⟨by simp [qnext]; omega, h2, ?_, by simp [qnext], hm, hla, ?_, ?_⟩, ?_⟩
 ·intro w hw
  obtain ⟨u, hu, rfl⟩ := List.mem_map.1 hw
  simp [wdec, h4 u hu]
 ·simp only [rnext, qnext]; rw [hl, rstay_app, r2, r4]; simp [wdecs]
 ·simp [qnext, Ytnlokhfcgaikiaa.qlen] at hc ⊢; omega
 ·rw [hl, fdue_app, r1, r3, List.append_nil]
structure SR (k : Nat) (s : SS) (x : RS) : Prop where
 v : SV k s
 p : PI k s.t x.wheel
 i : Inv k s.q x.queue
 now : x.now = s.now
 most : x.most = s.most
theorem SR.mono {k k' : Nat} {s : SS} {x : RS} (h : SR k s x) (hk : k ≤ k') : SR k' s x := ⟨h.v.mono hk, h.p.mono (by omega), h.i.mono hk, h.now, h.most⟩
theorem SR.ok {k : Nat} {s : SS} {x : RS} (h : SR k s x) (hk : k ≤ 1000) : ROk x := ⟨h.p.xl, h.p.xn (by omega), h.i.xl hk, h.i.xn hk, h.i.xw⟩
theorem SR.len {k : Nat} {s : SS} {x : RS} (h : SR k s x) : rslen x = slen s := by
 have h1 := h.p.len; have h2 := h.i.qlen
 unfold rslen slen; omega
theorem SR.new (x : Int) : SR 0 (snew x) (rsnew x) := by
 exact ⟨SV.new x, PI.new (clip x 1 65536), inv_new (clip x 1 65536), rfl, rfl⟩
theorem SR.sec {k : Nat} {s : SS} {x : RS} (h : SR k s x) (j : Job) : SR (k + 1) (ssec s j) (rssec x j) ∧ ssecr s j = rssecr x j := by
 have hv := h.v.sec j
 have hl := h.len; have hm := h.most
 obtain ⟨i1, i2⟩ := h.i.ask j
 unfold ssec rssec ssecr rssecr at *
 by_cases c : s.most ≤ slen s
 ·rw [if_pos c, if_pos (by omega), if_pos c, if_pos (by omega)]
  exact ⟨h.mono (by omega), rfl⟩
 ·have c2 : ¬ s.q.most ≤ qlen s.q := by
   have := h.v.qm; have e : slen s = s.t.h.ts.length + qlen s.q := rfl; omega
  rw [if_neg c] at hv
  rw [if_neg c, if_neg (by omega), if_neg c, if_neg (by omega)]
  refine ⟨⟨hv, h.p.mono (by omega), i1, h.now, h.most⟩, ?_⟩
  have e : (qask s.q j).2.2 = 0 := by unfold qask; rw [if_neg c2]
  rw [e, i2]
theorem SR.add {k : Nat} {s : SS} {x : RS} (h : SR k s x) (d : Int) (j : Job) : SR (k + 1) (sadd s d j) (rsadd x d j) ∧ saddr s d j = rsaddr x d j := by
 have hv := h.v.add d j
 have hl := h.len; have hm := h.most; have hn := h.now
 obtain ⟨i1, i2, i3⟩ := h.p.add (later s.now d) j
 unfold sadd rsadd saddr rsaddr at *
 by_cases c : s.most ≤ slen s
 ·rw [if_pos c, if_pos (by omega), if_pos c, if_pos (by omega)]
  exact ⟨h.mono (by omega), rfl⟩
 ·have c2 : ¬ s.t.most ≤ (s.t.h.ts.length : Int) := by
   have := h.v.tm; have e : slen s = s.t.h.ts.length + qlen s.q := rfl; have e2 : qlen s.q = ((s.q.w0.length + s.q.w1.length : Nat) : Int) := rfl; omega
  rw [if_neg c] at hv
  have c3 : ¬ x.most ≤ rslen x := by omega
  rw [if_neg c, if_neg c3, if_neg c, if_neg c3, hn, i2, if_neg c2, if_neg c2]
  exact ⟨⟨hv, by push_cast; exact i1, h.i.mono (by omega), rfl, h.most⟩, rfl⟩
theorem SR.step {k : Nat} {s : SS} {x : RS} (h : SR k s x) (a : SAct) : SR (k + 1) (sdo s a) (rsdo x a) ∧ sokdo s x a := by
 unfold sdo rsdo sokdo
 by_cases k0 : a.kind = 0 ∨ a.kind = 1
 ·rw [if_pos k0, if_pos k0, if_pos k0]; exact h.sec _
 ·rw [if_neg k0, if_neg k0, if_neg k0]
  by_cases k2 : a.kind = 2
  ·rw [if_pos k2, if_pos k2, if_pos k2]
   have hv := h.v.can a.frame a.n
   unfold scan rscan scanr rscanr at *
   cases hf : a.frame with
   | true =>
    rw [hf] at hv
    simp only [if_true] at hv ⊢
    obtain ⟨i1, i2⟩ := h.i.can a.n
    exact ⟨SR.mono (k := k) ⟨hv, h.p, i1, h.now, h.most⟩ (by omega), i2⟩
   | false =>
    rw [hf] at hv
    simp only [Bool.false_eq_true, if_false] at hv ⊢
    obtain ⟨i1, i2⟩ := h.p.can a.n
    exact ⟨SR.mono (k := k) ⟨hv, i1, h.i, h.now, h.most⟩ (by omega), i2⟩
  ·rw [if_neg k2, if_neg k2, if_neg k2]
   by_cases k3 : a.kind = 3
   ·rw [if_pos k3, if_pos k3, if_pos k3]
    obtain ⟨i1, i2⟩ := h.i.frame
    exact ⟨SR.mono (k := k) ⟨h.v.frame, h.p, i1, h.now, h.most⟩ (by omega), by rw [i2]⟩
   ·rw [if_neg k3, if_neg k3, if_neg k3]
    by_cases k4 : a.kind = 4
    ·rw [if_pos k4, if_pos k4, if_pos k4]; exact h.add _ _
    ·rw [if_neg k4, if_neg k4, if_neg k4]
     have e : rsclip x a.n = sclip s a.n := by unfold rsclip sclip; rw [h.now]; rfl
     obtain ⟨i1, i2, i3⟩ := h.p.due (sclip s a.n)
     have hv := h.v.until a.n
     refine ⟨SR.mono (k := k) ⟨hv, ?_, h.i, ?_, h.most⟩ (by omega), ?_⟩
     ·simp only [rsuntil, suntil]; rw [e]; exact i1
     ·simp only [rsuntil, suntil]; rw [e, ← i2, ← i3, h.now]
     ·rw [e]; exact ⟨i2, by rw [i3]⟩
structure Pnd where
 ref : Rf
 job : Job
 left : Int
 deadline : Int
 deriving DecidableEq
@[simp] abbrev d_Pnd (s : Pnd) : D := .agg [.v (.bool s.ref.frame), .v (.int .i64 s.ref.token), .v (.int .i64 s.job.kind), .v (.int .i64 s.job.node), .v (.int .i64 s.left), .v (.int .i64 s.deadline)]
def pw (w : Wt) : Pnd := ⟨⟨true, w.token⟩, w.job, w.left, 0⟩
def pt (t : Tm) : Pnd := ⟨⟨false, t.token⟩, t.job, 0, t.deadline⟩
def pws (l : List Wt) : List Pnd := l.map pw
def pts (l : List Tm) : List Pnd := l.map pt
def pall (a : List Wt) (b : List Tm) : List Pnd := pws a ++ pts b
def spend (s : SS) (xs : List Tm) : List Pnd := pall (s.q.w0 ++ s.q.w1) xs
theorem pws_len (l : List Wt) : (pws l).length = l.length := by simp [pws]
theorem pts_len (l : List Tm) : (pts l).length = l.length := by simp [pts]
theorem pall_len (a : List Wt) (b : List Tm) : (pall a b).length = a.length + b.length := by simp [pall, pws, pts]
theorem pall_take (a : List Wt) (l : List Tm) (k : Nat) (h : k < l.length) : pall a (l.take (k + 1)) = pall a (l.take k) ++ [pt l[k]] := by unfold pall pts; rw [take_snoc l k h, List.map_append, List.append_assoc]; rfl
theorem pws_take (l : List Wt) (k : Nat) (h : k < l.length) : pws (l.take (k + 1)) = pws (l.take k) ++ [pw l[k]] := by unfold pws; rw [take_snoc l k h, List.map_append]; rfl
theorem pts_take (l : List Tm) (k : Nat) (h : k < l.length) : pts (l.take (k + 1)) = pts (l.take k) ++ [pt l[k]] := by unfold pts; rw [take_snoc l k h, List.map_append]; rfl
theorem slist_fn (S w m M q : Nat) (s : SS) (xs : List Tm) (σ : List (List D)) (ho : SO S w m M q s σ) (hs : SOk s) (hp : xs.Perm s.t.h.ts) (hso : xs.Pairwise tlt) : Ct Try.prog 55 [.ref S 0] σ (fun r σ' => r = .sl true ((spend s xs).map d_Pnd) ∧ σ' = σ) := by
 refine fn_start (rs := [.tmp 2]) Try.func55 rfl rfl Try.ntmps55 Try.results55 (by simp) ?_
 simp only [argEnv]
 obtain ⟨hS, hw, hm, hq, hM, d1, d2, d3, d4, d5, d6⟩ := id ho
 obtain ⟨hst, hsq, htl, hnw⟩ := id hs
 have hl1 := hst.hk.len
 have hl2 := hsq.h0
 have hl3 := hsq.h1
 have hl4 : qlen s.q = ((s.q.w0.length + s.q.w1.length : Nat) : Int) := rfl
 have hl5 : slen s = s.t.h.ts.length + qlen s.q := rfl
 have hxl := hp.length_eq
 have hwl : (s.q.w0 ++ s.q.w1).length ≤ 200000 := by rw [List.length_append]; omega
 have hsp : spend s xs = pall (s.q.w0 ++ s.q.w1) xs := rfl
 obtain ⟨ws, hws⟩ : ∃ ws, (s.q.w0 ++ s.q.w1) = ws := ⟨_, rfl⟩
 rw [hws] at hwl hsp
 rw [hsp]
 clear hsp
 refine awp_seq ?_
 refine awp_regionA (c := ⟨[2, 3, 18, 40, 52], [], [], [], []⟩) (by simp only [lite_cons, lite_nil] <;> rfl) fun all hall K hK => ?_
 clear hall
 simp (maxSteps := 1000000) (disch := first | omega | assumption) [hS, pw, pt, pws_len, pts_len]
 repeat' refine And.intro ?_ ?_
 all_goals first | omega | exact rfl | skip
 refine hK _ ?_
 clear hK K
 clear all
 refine q_then_n ?_
 refine awp_seq ?_
 refine awp_regionA (c := ⟨[2, 3, 18, 40, 52], [], [], [], []⟩) (by simp only [lite_cons, lite_nil] <;> rfl) fun all hall K hK => ?_
 clear hall
 simp (maxSteps := 1000000) (disch := first | omega | assumption) [hS, pw, pt, pws_len, pts_len]
 repeat' refine And.intro ?_ ?_
 all_goals first | omega | exact rfl | skip
 refine hK _ ?_
 clear hK K
 clear all
 refine q_then_n ?_
 refine awp_seq ?_
 refine awp_seq ?_
 refine awp_regionA (c := ⟨[2, 3, 18, 40, 52], [], [], [], []⟩) (by simp only [lite_cons, lite_nil] <;> rfl) fun all hall K hK => ?_
 clear hall
 refine vcL_split 4 fun K' hK' => ?_
 simp (maxSteps := 1000000) (disch := first | omega | assumption) [hS, pw, pt, pws_len, pts_len]
 repeat' refine And.intro ?_ ?_
 all_goals first | omega | exact rfl | skip
 refine hK' _ ?_
 clear hK' K'
 simp only [List.drop_succ_cons, List.drop_zero]
 refine vcL_step fun K' hK' => ?_
 simp (maxSteps := 1000000) (disch := first | omega | assumption) [hS, pw, pt, pws_len, pts_len]
 refine Ct.mono (Ct.of_le (qlist_fn q s.q _ hq hsq) (by first | exact leArgs_of rfl | (refine leArgs_of ?_; simp; done) | (refine leArgs_of ?_; simp; rfl) | (simp [leArgs, leArg]; done)) rfl) ?_
 rintro _ _ ⟨hr9, hs9⟩
 subst hr9
 replace hs9 := hs9.symm
 subst hs9
 rw [hws]
 refine hK' _ ?_
 clear hK' K'
 simp (maxSteps := 1000000) (disch := first | omega | assumption) [hS, pw, pt, pws_len, pts_len]
 repeat' refine And.intro ?_ ?_
 all_goals first | omega | exact rfl | skip
 refine hK _ ?_
 clear hK K
 clear all
 refine q_then_n ?_
 refine awp_block ?_
 refine awp_keep [0, 2, 3, 12, 13, 14] (by simp only [keepL_nil, keepL_cons, envOf_sel, envOf_nil, sel_t, sel_f, Nat.reduceBEq] <;> rfl) ?_
 refine awp_loopE (fun (k : Nat) => [(14, .d (.v (.int .i64 (k : Int)))), (3, .d (.sl true ((pws (ws.take k)).map d_Pnd)))]) [3, 5, 14, 15, 16, 17, 18, 19, 20, 21, 22, 23, 24, 25, 26, 27, 28, 29] (fun (k : Nat) => k ≤ ws.length) (fun (k : Nat) => ws.length - k) (0) (by simp <;> rfl) ?_ ?_ ?_
 ·simp [pws]
 ·simp
 rintro k hk
 simp only [List.cons_append, List.nil_append]
 have htl : (pws (ws.take k)).length ≤ 200000 := by rw [pws_len, List.length_take]; omega
 refine awp_seq ?_
 refine awp_regionA (c := ⟨[2, 3, 18, 40, 52], [], [], [], []⟩) (by simp only [lite_cons, lite_nil] <;> rfl) fun all hall K hK => ?_
 clear hall
 simp (maxSteps := 1000000) (disch := first | omega | assumption) [hS, pw, pt, pws_len, pts_len]
 repeat' refine And.intro ?_ ?_
 all_goals first | omega | exact rfl | skip
 refine hK _ ?_
 clear hK K
 clear all
 refine q_then_n ?_
 refine awp_seq ?_
 refine awp_ifB (by simp <;> rfl) ?_
 refine ⟨fun c1 => ?_, fun c1 => ?_⟩
 ·try simp at c1
  refine awp_skip ?_
  refine q_then_n ?_
  refine awp_seq ?_
  refine awp_block ?_
  refine awp_seq ?_
  refine awp_regionA (c := ⟨[2, 3, 18, 40, 52], [], [], [], []⟩) (by simp only [lite_cons, lite_nil] <;> rfl) fun all hall K hK => ?_
  clear hall
  simp (maxSteps := 1000000) (disch := first | omega | assumption) [hS, pw, pt, pws_len, pts_len]
  repeat' refine And.intro ?_ ?_
  all_goals first | omega | exact rfl | skip
  refine hK _ ?_
  clear hK K
  clear all
  refine q_then_n ?_
  refine awp_keep [0, 2, 3, 5, 12, 13, 14] (by simp only [keepL_nil, keepL_cons, envOf_sel, envOf_nil, sel_t, sel_f, Nat.reduceBEq] <;> rfl) ?_
  refine awp_regionA (c := ⟨[2, 3, 18, 40, 52], [], [], [], []⟩) (by simp only [lite_cons, lite_nil] <;> rfl) fun all hall K hK => ?_
  clear hall
  refine vcL_split 8 fun K' hK' => ?_
  simp (maxSteps := 1000000) (disch := first | omega | assumption) [hS, pw, pt, pws_len, pts_len]
  repeat' refine And.intro ?_ ?_
  all_goals first | omega | exact rfl | skip
  refine hK' _ ?_
  clear hK' K'
  simp only [List.drop_succ_cons, List.drop_zero]
  simp (maxSteps := 1000000) (disch := first | omega | assumption) [hS, pw, pt, pws_len, pts_len]
  repeat' refine And.intro ?_ ?_
  all_goals first | omega | exact rfl | skip
  refine hK _ ?_
  clear hK K
  clear all
  refine q_block_n ?_
  refine q_then_n ?_
  refine awp_keep [0, 2, 3, 12, 13, 14] (by simp only [keepL_nil, keepL_cons, envOf_sel, envOf_nil, sel_t, sel_f, Nat.reduceBEq] <;> rfl) ?_
  refine awp_regionA (c := ⟨[2, 3, 18, 40, 52], [], [], [], []⟩) (by simp only [lite_cons, lite_nil] <;> rfl) fun all hall K hK => ?_
  clear hall
  simp (maxSteps := 1000000) (disch := first | omega | assumption) [hS, pw, pt, pws_len, pts_len]
  repeat' refine And.intro ?_ ?_
  all_goals first | omega | exact rfl | skip
  refine hK _ ?_
  clear hK K
  clear all
  refine q_round (k + 1) ?_ ?_ (weak_mkA rfl ?_ (by simp) (by simp))
  ·omega
  ·try dsimp only
   omega
  ·simp (maxSteps := 1000000) (disch := first | omega | assumption) [hS, pw, pt, pws_len, pts_len, pws_take, pw]
 ·try simp at c1
  obtain rfl : k = ws.length := by omega
  rw [List.take_length]
  refine awp_exit ?_
  refine q_then_e ?_
  refine q_loop_e ?_
  refine q_block_e ?_
  refine q_then_n ?_
  refine awp_seq ?_
  refine awp_seq ?_
  refine awp_regionA (c := ⟨[2, 3, 18, 40, 52], [], [], [], []⟩) (by simp only [lite_cons, lite_nil] <;> rfl) fun all hall K hK => ?_
  clear hall
  refine vcL_split 4 fun K' hK' => ?_
  simp (maxSteps := 1000000) (disch := first | omega | assumption) [hS, pw, pt, pws_len, pts_len]
  repeat' refine And.intro ?_ ?_
  all_goals first | omega | exact rfl | skip
  refine hK' _ ?_
  clear hK' K'
  simp only [List.drop_succ_cons, List.drop_zero]
  refine vcL_step fun K' hK' => ?_
  simp (maxSteps := 1000000) (disch := first | omega | assumption) [hS, pw, pt, pws_len, pts_len]
  refine Ct.mono (Ct.of_le (wlist_fn w m M s.t xs _ hw hm hst d4 hM hp hso) (by first | exact leArgs_of rfl | (refine leArgs_of ?_; simp; done) | (refine leArgs_of ?_; simp; rfl) | (simp [leArgs, leArg]; done)) rfl) ?_
  rintro _ _ ⟨hr9, hs9⟩
  subst hr9
  replace hs9 := hs9.symm
  subst hs9
  refine hK' _ ?_
  clear hK' K'
  simp (maxSteps := 1000000) (disch := first | omega | assumption) [hS, pw, pt, pws_len, pts_len]
  repeat' refine And.intro ?_ ?_
  all_goals first | omega | exact rfl | skip
  refine hK _ ?_
  clear hK K
  clear all
  refine q_then_n ?_
  refine awp_block ?_
  refine awp_keep [2, 3, 34, 35, 36] (by simp only [keepL_nil, keepL_cons, envOf_sel, envOf_nil, sel_t, sel_f, Nat.reduceBEq] <;> rfl) ?_
  refine awp_loopE (fun (k : Nat) => [(36, .d (.v (.int .i64 (k : Int)))), (3, .d (.sl true ((pall ws (xs.take k)).map d_Pnd)))]) [3, 7, 36, 37, 38, 39, 40, 41, 42, 43, 44, 45, 46, 47, 48, 49, 50, 51] (fun (k : Nat) => k ≤ xs.length) (fun (k : Nat) => xs.length - k) (0) (by simp <;> rfl) ?_ ?_ ?_
  ·simp [pall, pts]
  ·simp
  rintro k hk
  simp only [List.cons_append, List.nil_append]
  have htl : (pall ws (xs.take k)).length ≤ 300000 := by rw [pall_len, List.length_take]; omega
  refine awp_seq ?_
  refine awp_regionA (c := ⟨[2, 3, 18, 40, 52], [], [], [], []⟩) (by simp only [lite_cons, lite_nil] <;> rfl) fun all hall K hK => ?_
  clear hall
  simp (maxSteps := 1000000) (disch := first | omega | assumption) [hS, pw, pt, pws_len, pts_len]
  repeat' refine And.intro ?_ ?_
  all_goals first | omega | exact rfl | skip
  refine hK _ ?_
  clear hK K
  clear all
  refine q_then_n ?_
  refine awp_seq ?_
  refine awp_ifB (by simp <;> rfl) ?_
  refine ⟨fun c2 => ?_, fun c2 => ?_⟩
  ·try simp at c2
   refine awp_skip ?_
   refine q_then_n ?_
   refine awp_seq ?_
   refine awp_block ?_
   refine awp_seq ?_
   refine awp_regionA (c := ⟨[2, 3, 18, 40, 52], [], [], [], []⟩) (by simp only [lite_cons, lite_nil] <;> rfl) fun all hall K hK => ?_
   clear hall
   simp (maxSteps := 1000000) (disch := first | omega | assumption) [hS, pw, pt, pws_len, pts_len]
   repeat' refine And.intro ?_ ?_
   all_goals first | omega | exact rfl | skip
   refine hK _ ?_
   clear hK K
   clear all
   refine q_then_n ?_
   refine awp_keep [2, 3, 7, 34, 35, 36] (by simp only [keepL_nil, keepL_cons, envOf_sel, envOf_nil, sel_t, sel_f, Nat.reduceBEq] <;> rfl) ?_
   refine awp_regionA (c := ⟨[2, 3, 18, 40, 52], [], [], [], []⟩) (by simp only [lite_cons, lite_nil] <;> rfl) fun all hall K hK => ?_
   clear hall
   refine vcL_split 8 fun K' hK' => ?_
   simp (maxSteps := 1000000) (disch := first | omega | assumption) [hS, pw, pt, pws_len, pts_len]
   repeat' refine And.intro ?_ ?_
   all_goals first | omega | exact rfl | skip
   refine hK' _ ?_
   clear hK' K'
   simp only [List.drop_succ_cons, List.drop_zero]
   simp (maxSteps := 1000000) (disch := first | omega | assumption) [hS, pw, pt, pws_len, pts_len]
   repeat' refine And.intro ?_ ?_
   all_goals first | omega | exact rfl | skip
   refine hK _ ?_
   clear hK K
   clear all
   refine q_block_n ?_
   refine q_then_n ?_
   refine awp_keep [2, 3, 34, 35, 36] (by simp only [keepL_nil, keepL_cons, envOf_sel, envOf_nil, sel_t, sel_f, Nat.reduceBEq] <;> rfl) ?_
   refine awp_regionA (c := ⟨[2, 3, 18, 40, 52], [], [], [], []⟩) (by simp only [lite_cons, lite_nil] <;> rfl) fun all hall K hK => ?_
   clear hall
   simp (maxSteps := 1000000) (disch := first | omega | assumption) [hS, pw, pt, pws_len, pts_len]
   repeat' refine And.intro ?_ ?_
   all_goals first | omega | exact rfl | skip
   refine hK _ ?_
   clear hK K
   clear all
   refine q_round (k + 1) ?_ ?_ (weak_mkA rfl ?_ (by simp) (by simp))
   ·omega
   ·try dsimp only
    omega
   ·simp (maxSteps := 1000000) (disch := first | omega | assumption) [hS, pw, pt, pws_len, pts_len, pall_take, pt]
  ·try simp at c2
   obtain rfl : k = xs.length := by omega
   rw [List.take_length]
   refine awp_exit ?_
   refine q_then_e ?_
   refine q_loop_e ?_
   refine q_block_e ?_
   refine q_then_n ?_
   refine awp_seq ?_
   refine awp_regionA (c := ⟨[2, 3, 18, 40, 52], [], [], [], []⟩) (by simp only [lite_cons, lite_nil] <;> rfl) fun all hall K hK => ?_
   clear hall
   simp (maxSteps := 1000000) (disch := first | omega | assumption) [hS, pw, pt, pws_len, pts_len]
   repeat' refine And.intro ?_ ?_
   all_goals first | omega | exact rfl | skip
   refine hK _ ?_
   clear hK K
   clear all
   refine q_then_n ?_
   refine awp_ret ?_
   simp [endQ]
theorem SR.spend {k : Nat} {s : SS} {x : RS} (h : SR k s x) (xs : List Tm) : spend s xs = pall x.queue.l xs := by unfold Ytnlokhfcgaikiaa.spend; rw [h.i.l]
theorem pall_q {a : List Wt} {b : List Tm} {k : Nat} (hk : k < a.length) (h : k < (pall a b).length) : (pall a b)[k] = pw a[k] := by
 simp only [pall]
 rw [List.getElem_append_left (by rw [pws_len]; exact hk)]
 simp [pws]
theorem pall_t {a : List Wt} {b : List Tm} {k : Nat} (hk : k < b.length) (h : a.length + k < (pall a b).length) : (pall a b)[a.length + k] = pt b[k] := by
 simp only [pall]
 rw [List.getElem_append_right (by rw [pws_len]; omega)]
 simp [pws, pts]
theorem pall_t2 {a : List Wt} {b : List Tm} {k : Nat} (hk : k < b.length) (h : ((a.length : Int) + (k : Int)).toNat < (pall a b).length) : (pall a b)[((a.length : Int) + (k : Int)).toNat] = pt b[k] := by
 have e : ((a.length : Int) + (k : Int)).toNat = a.length + k := by omega
 simp only [e]
 exact pall_t hk _
structure PSt2 where
 k : Nat
 s : SS
 x : RS
theorem sis_fn (S w m M q : Nat) (s : SS) (x : RS) (n : Nat) (σ : List (List D)) (ho : SO S w m M q s σ) (hs : SOk s) (hr : SR n s x) (hn : n ≤ 1000) : Ct Try.prog 28 [.ref S 0, d_RS x] σ (fun r σ' => r = .bool true ∧ σ' = σ) := by
 refine fn_start (rs := [.tmp 4]) Try.func28 rfl rfl Try.ntmps28 Try.results28 (by simp) ?_
 simp only [argEnv]
 have hrk := hr.ok hn
 have hxl := hr.len
 have hxn := hr.now
 have h1 := hrk.h1
 have h3 := hrk.h3
 have hpl : (pall x.queue.l x.wheel.l).length = x.queue.l.length + x.wheel.l.length := pall_len _ _
 have hrl : rslen x = x.wheel.l.length + x.queue.l.length := rfl
 refine awp_seq ?_
 refine awp_regionA (c := ⟨[], [3], [], [], []⟩) (by simp only [lite_cons, lite_nil] <;> rfl) fun all hall K hK => ?_
 clear hall
 simp (maxSteps := 1000000) (disch := first | omega | assumption) [pall_len]
 repeat' refine And.intro ?_ ?_
 all_goals first | omega | exact rfl | skip
 refine hK _ ?_
 clear hK K
 clear all
 refine q_then_n ?_
 refine awp_seq ?_
 refine awp_regionA (c := ⟨[], [3], [], [], []⟩) (by simp only [lite_cons, lite_nil] <;> rfl) fun all hall K hK => ?_
 clear hall
 refine vcL_split 1 fun K' hK' => ?_
 simp (maxSteps := 1000000) (disch := first | omega | assumption) [pall_len]
 repeat' refine And.intro ?_ ?_
 all_goals first | omega | exact rfl | skip
 refine hK' _ ?_
 clear hK' K'
 simp only [List.drop_succ_cons, List.drop_zero]
 refine vcL_step fun K' hK' => ?_
 simp (maxSteps := 1000000) (disch := first | omega | assumption) [pall_len]
 refine Ct.mono (Ct.of_le (slist_fn S w m M q s x.wheel.l _ ho hs hr.p.hp hr.p.so) (by first | exact leArgs_of rfl | (refine leArgs_of ?_; simp; done) | (refine leArgs_of ?_; simp; rfl) | (simp [leArgs, leArg]; done)) rfl) ?_
 rintro _ _ ⟨hr9, hs9⟩
 subst hr9
 replace hs9 := hs9.symm
 subst hs9
 rw [hr.spend]
 refine hK' _ ?_
 clear hK' K'
 simp (maxSteps := 1000000) (disch := first | omega | assumption) [pall_len]
 repeat' refine And.intro ?_ ?_
 all_goals first | omega | exact rfl | skip
 refine hK _ ?_
 clear hK K
 clear all
 refine q_then_n ?_
 refine awp_seq ?_
 refine awp_seq ?_
 refine awp_keep [0, 3, 4, 5] (by simp only [keepL_nil, keepL_cons, envOf_sel, envOf_nil, sel_t, sel_f, Nat.reduceBEq] <;> rfl) ?_
 refine awp_drawA (c := ⟨[], [3], [], [], []⟩) [.op ⟨false, false, false, false⟩, .read, .op ⟨false, false, false, false⟩, .op ⟨false, false, false, false⟩, .op ⟨false, false, false, false⟩, .op ⟨false, false, false, false⟩, .op ⟨false, false, false, false⟩, .read, .op ⟨false, false, false, false⟩, .pure, .op ⟨false, false, false, false⟩, .op ⟨false, false, false, false⟩, .op ⟨false, false, false, false⟩, .op ⟨false, false, false, false⟩, .op ⟨false, false, false, false⟩, .op ⟨false, false, false, false⟩, .pure, .op ⟨false, false, false, false⟩, .op ⟨false, false, false, false⟩] (by kernel_rfl) (by kernel_rfl) (by simp only [lite_cons, lite_nil] <;> rfl) fun all hall K hK => ?_
 have ga5 : guardOf all 5 = some 18 := hall 5
 have ga12 : guardOf all 12 = some 25 := hall 12
 clear hall
 refine vcDL_split 1 (by simp) fun K' hK' => ?_
 simp (maxSteps := 1000000) (disch := first | omega | assumption) [pall_len, ga5, ga12]
 repeat' refine And.intro ?_ ?_
 all_goals first | omega | exact rfl | skip
 refine hK' _ ?_
 clear hK' K'
 simp only [List.drop_succ_cons, List.drop_zero]
 refine vcDL_step fun K' hK' => ?_
 simp (maxSteps := 1000000) (disch := first | omega | assumption) [pall_len, ga5, ga12]
 refine ⟨_, Ct.of_le (snow_fn S w m M q s _ ho hs) (by first | exact leArgs_of rfl | (refine leArgs_of ?_; simp; done) | (refine leArgs_of ?_; simp; rfl) | (simp [leArgs, leArg]; done)) rfl, ?_⟩
 refine hK' _ ?_
 clear hK' K'
 refine vcDL_split 4 (by simp) fun K' hK' => ?_
 simp (maxSteps := 1000000) (disch := first | omega | assumption) [pall_len, ga5, ga12]
 repeat' refine And.intro ?_ ?_
 all_goals first | omega | exact rfl | skip
 refine hK' _ ?_
 clear hK' K'
 simp only [List.drop_succ_cons, List.drop_zero]
 refine vcDL_bool 18 (by simp <;> rfl) ?_
 refine ⟨fun g1 => ?_, fun g1 => ?_⟩
 ·try simp at g1
  exfalso; omega
 ·try simp at g1
  refine vcDL_split 1 (by simp) fun K' hK' => ?_
  simp (maxSteps := 1000000) (disch := first | omega | assumption) [pall_len, ga5, ga12]
  repeat' refine And.intro ?_ ?_
  all_goals first | omega | exact rfl | skip
  refine hK' _ ?_
  clear hK' K'
  simp only [List.drop_succ_cons, List.drop_zero]
  refine vcDL_gt ga5 (by simp <;> rfl) rfl fun K' hK' => ?_
  simp (maxSteps := 1000000) (disch := first | omega | assumption) [pall_len, ga5, ga12]
  refine ⟨_, Ct.of_le (slen_fn S w m M q s _ ho hs) (by first | exact leArgs_of rfl | (refine leArgs_of ?_; simp; done) | (refine leArgs_of ?_; simp; rfl) | (simp [leArgs, leArg]; done)) rfl, ?_⟩
  refine hK' _ ?_
  clear hK' K'
  refine vcDL_split 1 (by simp) fun K' hK' => ?_
  simp (maxSteps := 1000000) (disch := first | omega | assumption) [pall_len, ga5, ga12]
  repeat' refine And.intro ?_ ?_
  all_goals first | omega | exact rfl | skip
  refine hK' _ ?_
  clear hK' K'
  simp only [List.drop_succ_cons, List.drop_zero]
  refine vcDL_gt ga5 (by simp <;> rfl) rfl fun K' hK' => ?_
  simp (maxSteps := 1000000) (disch := first | omega | assumption) [pall_len, ga5, ga12]
  refine ⟨_, fun σ => Ct.of_le (rslen_fn x _ hrk) (by first | exact leArgs_of rfl | (refine leArgs_of ?_; simp; done) | (refine leArgs_of ?_; simp; rfl) | (simp [leArgs, leArg]; done)) rfl, ?_⟩
  refine hK' _ ?_
  clear hK' K'
  refine vcDL_split 3 (by simp) fun K' hK' => ?_
  simp (maxSteps := 1000000) (disch := first | omega | assumption) [pall_len, ga5, ga12]
  repeat' refine And.intro ?_ ?_
  all_goals first | omega | exact rfl | skip
  refine hK' _ ?_
  clear hK' K'
  simp only [List.drop_succ_cons, List.drop_zero]
  refine vcDL_bool 25 (by simp <;> rfl) ?_
  refine ⟨fun g2 => ?_, fun g2 => ?_⟩
  ·try simp at g2
   exfalso; omega
  ·try simp at g2
   refine vcDL_split 3 (by simp) fun K' hK' => ?_
   simp (maxSteps := 1000000) (disch := first | omega | assumption) [pall_len, ga5, ga12]
   repeat' refine And.intro ?_ ?_
   all_goals first | omega | exact rfl | skip
   refine hK' _ ?_
   clear hK' K'
   simp only [List.drop_succ_cons, List.drop_zero]
   refine vcDL_gt ga12 (by simp <;> rfl) rfl fun K' hK' => ?_
   simp (maxSteps := 1000000) (disch := first | omega | assumption) [pall_len, ga5, ga12]
   refine ⟨_, fun σ => Ct.of_le (rslen_fn x _ hrk) (by first | exact leArgs_of rfl | (refine leArgs_of ?_; simp; done) | (refine leArgs_of ?_; simp; rfl) | (simp [leArgs, leArg]; done)) rfl, ?_⟩
   refine hK' _ ?_
   clear hK' K'
   simp (maxSteps := 1000000) (disch := first | omega | assumption) [pall_len, ga5, ga12]
   repeat' refine And.intro ?_ ?_
   all_goals first | omega | exact rfl | skip
   refine hK _ ?_
   clear hK K
   clear ga5 ga12
   clear all
   refine q_then_n ?_
   refine awp_ifB (by simp <;> rfl) ?_
   refine ⟨fun c3 => ?_, fun c3 => ?_⟩
   ·try simp at c3
    exfalso; omega
   ·try simp at c3
    refine awp_skip ?_
    refine q_then_n ?_
    refine awp_seq ?_
    refine awp_seq ?_
    refine awp_keep [3, 4, 5] (by simp only [keepL_nil, keepL_cons, envOf_sel, envOf_nil, sel_t, sel_f, Nat.reduceBEq] <;> rfl) ?_
    refine awp_regionA (c := ⟨[], [3], [], [], []⟩) (by simp only [lite_cons, lite_nil] <;> rfl) fun all hall K hK => ?_
    clear hall
    simp (maxSteps := 1000000) (disch := first | omega | assumption) [pall_len]
    repeat' refine And.intro ?_ ?_
    all_goals first | omega | exact rfl | skip
    refine hK _ ?_
    clear hK K
    clear all
    refine q_then_n ?_
    refine awp_block ?_
    refine awp_keep [3, 4, 5, 34, 35, 36] (by simp only [keepL_nil, keepL_cons, envOf_sel, envOf_nil, sel_t, sel_f, Nat.reduceBEq] <;> rfl) ?_
    refine awp_loopE (fun (k : Nat) => [(36, .d (.v (.int .i64 (k : Int)))), (6, .d (.any))]) [4, 6, 7, 36, 37, 38, 39, 40, 41, 42, 43, 44, 45, 46, 47, 48, 49, 50, 51, 52, 53, 54] (fun (k : Nat) => k ≤ x.queue.l.length) (fun (k : Nat) => x.queue.l.length - k) (0) (by simp <;> rfl) ?_ ?_ ?_
    ·simp
    ·simp
    rintro k hk
    simp only [List.cons_append, List.nil_append]
    refine awp_seq ?_
    refine awp_regionA (c := ⟨[], [3], [], [], []⟩) (by simp only [lite_cons, lite_nil] <;> rfl) fun all hall K hK => ?_
    clear hall
    simp (maxSteps := 1000000) (disch := first | omega | assumption) [pall_len]
    repeat' refine And.intro ?_ ?_
    all_goals first | omega | exact rfl | skip
    refine hK _ ?_
    clear hK K
    clear all
    refine q_then_n ?_
    refine awp_seq ?_
    refine awp_ifB (by simp <;> rfl) ?_
    refine ⟨fun c4 => ?_, fun c4 => ?_⟩
    ·try simp at c4
     refine awp_skip ?_
     refine q_then_n ?_
     refine awp_seq ?_
     refine awp_block ?_
     refine awp_seq ?_
     refine awp_regionA (c := ⟨[], [3], [], [], []⟩) (by simp only [lite_cons, lite_nil] <;> rfl) fun all hall K hK => ?_
     clear hall
     simp (maxSteps := 1000000) (disch := first | omega | assumption) [pall_len]
     repeat' refine And.intro ?_ ?_
     all_goals first | omega | exact rfl | skip
     refine hK _ ?_
     clear hK K
     clear all
     refine q_then_n ?_
     refine awp_seq ?_
     refine awp_keep [3, 5, 6, 7, 34, 35, 36] (by simp only [keepL_nil, keepL_cons, envOf_sel, envOf_nil, sel_t, sel_f, Nat.reduceBEq] <;> rfl) ?_
     refine awp_drawA (c := ⟨[], [3], [], [], []⟩) [.op ⟨false, false, false, false⟩, .op ⟨false, false, false, false⟩, .op ⟨false, false, false, false⟩, .op ⟨false, false, false, false⟩, .op ⟨false, false, false, false⟩, .op ⟨true, false, false, false⟩, .op ⟨false, false, false, false⟩, .op ⟨false, false, false, false⟩, .op ⟨true, false, false, false⟩, .op ⟨false, false, false, false⟩, .op ⟨true, false, false, false⟩, .op ⟨false, false, false, false⟩, .op ⟨false, false, false, false⟩] (by kernel_rfl) (by kernel_rfl) (by simp only [lite_cons, lite_nil] <;> rfl) fun all hall K hK => ?_
     clear hall
     refine vcDL_split 8 (by simp) fun K' hK' => ?_
     simp (maxSteps := 1000000) (disch := first | omega | assumption) [pall_len]
     repeat' refine And.intro ?_ ?_
     all_goals first | omega | exact rfl | skip
     refine hK' _ ?_
     clear hK' K'
     simp only [List.drop_succ_cons, List.drop_zero]
     simp (maxSteps := 1000000) (disch := first | omega | assumption) [pall_len]
     repeat' refine And.intro ?_ ?_
     all_goals first | omega | exact rfl | skip
     refine hK _ ?_
     clear hK K
     clear all
     refine q_then_n ?_
     refine awp_ifB (by simp <;> rfl) ?_
     refine ⟨fun c5 => ?_, fun c5 => ?_⟩
     ·try simp at c5
      rw [pall_q c4] at c5
      simp [pw] at c5
     ·try simp at c5
      refine awp_skip ?_
      refine q_block_n ?_
      refine q_then_n ?_
      refine awp_keep [3, 5, 6, 34, 35, 36] (by simp only [keepL_nil, keepL_cons, envOf_sel, envOf_nil, sel_t, sel_f, Nat.reduceBEq] <;> rfl) ?_
      refine awp_regionA (c := ⟨[], [3], [], [], []⟩) (by simp only [lite_cons, lite_nil] <;> rfl) fun all hall K hK => ?_
      clear hall
      simp (maxSteps := 1000000) (disch := first | omega | assumption) [pall_len]
      repeat' refine And.intro ?_ ?_
      all_goals first | omega | exact rfl | skip
      refine hK _ ?_
      clear hK K
      clear all
      refine q_round (k + 1) ?_ ?_ (weak_mkA rfl ?_ (by simp) (by simp))
      ·omega
      ·try dsimp only
       omega
      ·simp (maxSteps := 1000000) (disch := first | omega | assumption) [pall_len]
    ·try simp at c4
     refine awp_exit ?_
     refine q_then_e ?_
     refine q_loop_e ?_
     refine q_block_e ?_
     refine q_then_n ?_
     refine awp_seq ?_
     refine awp_regionA (c := ⟨[], [3], [], [], []⟩) (by simp only [lite_cons, lite_nil] <;> rfl) fun all hall K hK => ?_
     clear hall
     simp (maxSteps := 1000000) (disch := first | omega | assumption) [pall_len]
     repeat' refine And.intro ?_ ?_
     all_goals first | omega | exact rfl | skip
     refine hK _ ?_
     clear hK K
     clear all
     refine q_then_n ?_
     refine awp_seq ?_
     refine awp_seq ?_
     refine awp_keep [3, 5, 8] (by simp only [keepL_nil, keepL_cons, envOf_sel, envOf_nil, sel_t, sel_f, Nat.reduceBEq] <;> rfl) ?_
     refine awp_regionA (c := ⟨[], [3], [], [], []⟩) (by simp only [lite_cons, lite_nil] <;> rfl) fun all hall K hK => ?_
     clear hall
     simp (maxSteps := 1000000) (disch := first | omega | assumption) [pall_len]
     repeat' refine And.intro ?_ ?_
     all_goals first | omega | exact rfl | skip
     refine hK _ ?_
     clear hK K
     clear all
     refine q_then_n ?_
     refine awp_block ?_
     refine awp_keep [5, 8, 61, 62, 63] (by simp only [keepL_nil, keepL_cons, envOf_sel, envOf_nil, sel_t, sel_f, Nat.reduceBEq] <;> rfl) ?_
     refine awp_loopE (fun (k : Nat) => [(63, .d (.v (.int .i64 (k : Int)))), (9, .d (.any))]) [4, 9, 10, 63, 64, 65, 66, 67, 68, 69, 70, 71, 72, 73, 74, 75, 76, 77, 78, 79, 80, 81, 82, 83] (fun (k : Nat) => k ≤ x.wheel.l.length) (fun (k : Nat) => x.wheel.l.length - k) (0) (by simp <;> rfl) ?_ ?_ ?_
     ·simp
     ·simp
     rintro k hk
     simp only [List.cons_append, List.nil_append]
     refine awp_seq ?_
     refine awp_regionA (c := ⟨[], [3], [], [], []⟩) (by simp only [lite_cons, lite_nil] <;> rfl) fun all hall K hK => ?_
     clear hall
     simp (maxSteps := 1000000) (disch := first | omega | assumption) [pall_len]
     repeat' refine And.intro ?_ ?_
     all_goals first | omega | exact rfl | skip
     refine hK _ ?_
     clear hK K
     clear all
     refine q_then_n ?_
     refine awp_seq ?_
     refine awp_ifB (by simp <;> rfl) ?_
     refine ⟨fun c6 => ?_, fun c6 => ?_⟩
     ·try simp at c6
      refine awp_skip ?_
      refine q_then_n ?_
      refine awp_seq ?_
      refine awp_block ?_
      refine awp_seq ?_
      refine awp_regionA (c := ⟨[], [3], [], [], []⟩) (by simp only [lite_cons, lite_nil] <;> rfl) fun all hall K hK => ?_
      clear hall
      simp (maxSteps := 1000000) (disch := first | omega | assumption) [pall_len]
      repeat' refine And.intro ?_ ?_
      all_goals first | omega | exact rfl | skip
      refine hK _ ?_
      clear hK K
      clear all
      refine q_then_n ?_
      refine awp_seq ?_
      refine awp_keep [5, 8, 9, 10, 61, 62, 63] (by simp only [keepL_nil, keepL_cons, envOf_sel, envOf_nil, sel_t, sel_f, Nat.reduceBEq] <;> rfl) ?_
      refine awp_drawA (c := ⟨[], [3], [], [], []⟩) [.op ⟨false, false, false, false⟩, .op ⟨false, false, false, false⟩, .op ⟨false, false, false, false⟩, .op ⟨false, false, false, false⟩, .op ⟨false, false, false, false⟩, .op ⟨false, false, false, false⟩, .op ⟨false, false, false, false⟩, .op ⟨true, false, false, false⟩, .op ⟨false, false, false, false⟩, .op ⟨false, false, false, false⟩, .op ⟨true, false, false, false⟩, .op ⟨false, false, false, false⟩, .op ⟨true, false, false, false⟩, .op ⟨false, false, false, false⟩, .op ⟨false, false, false, false⟩] (by kernel_rfl) (by kernel_rfl) (by simp only [lite_cons, lite_nil] <;> rfl) fun all hall K hK => ?_
      clear hall
      refine vcDL_split 8 (by simp) fun K' hK' => ?_
      simp (maxSteps := 1000000) (disch := first | omega | assumption) [pall_len]
      repeat' refine And.intro ?_ ?_
      all_goals first | omega | exact rfl | skip
      refine hK' _ ?_
      clear hK' K'
      simp only [List.drop_succ_cons, List.drop_zero]
      simp (maxSteps := 1000000) (disch := first | omega | assumption) [pall_len]
      repeat' refine And.intro ?_ ?_
      all_goals first | omega | exact rfl | skip
      refine hK _ ?_
      clear hK K
      clear all
      refine q_then_n ?_
      refine awp_ifB (by simp <;> rfl) ?_
      refine ⟨fun c7 => ?_, fun c7 => ?_⟩
      ·try simp at c7
       rw [pall_t2 c6] at c7
       simp [pt] at c7
      ·try simp at c7
       refine awp_skip ?_
       refine q_block_n ?_
       refine q_then_n ?_
       refine awp_keep [5, 8, 9, 61, 62, 63] (by simp only [keepL_nil, keepL_cons, envOf_sel, envOf_nil, sel_t, sel_f, Nat.reduceBEq] <;> rfl) ?_
       refine awp_regionA (c := ⟨[], [3], [], [], []⟩) (by simp only [lite_cons, lite_nil] <;> rfl) fun all hall K hK => ?_
       clear hall
       simp (maxSteps := 1000000) (disch := first | omega | assumption) [pall_len]
       repeat' refine And.intro ?_ ?_
       all_goals first | omega | exact rfl | skip
       refine hK _ ?_
       clear hK K
       clear all
       refine q_round (k + 1) ?_ ?_ (weak_mkA rfl ?_ (by simp) (by simp))
       ·omega
       ·try dsimp only
        omega
       ·simp (maxSteps := 1000000) (disch := first | omega | assumption) [pall_len]
     ·try simp at c6
      refine awp_exit ?_
      refine q_then_e ?_
      refine q_loop_e ?_
      refine q_block_e ?_
      refine q_then_n ?_
      refine awp_seq ?_
      refine awp_regionA (c := ⟨[], [3], [], [], []⟩) (by simp only [lite_cons, lite_nil] <;> rfl) fun all hall K hK => ?_
      clear hall
      simp (maxSteps := 1000000) (disch := first | omega | assumption) [pall_len]
      repeat' refine And.intro ?_ ?_
      all_goals first | omega | exact rfl | skip
      refine hK _ ?_
      clear hK K
      clear all
      refine q_then_n ?_
      refine awp_ret ?_
      simp [endQ]
end Go.Proofs.Ytnlokhfcgaikiaa

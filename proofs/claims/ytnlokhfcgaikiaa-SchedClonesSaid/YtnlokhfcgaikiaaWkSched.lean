import Derived.Test.YtnlokhfcgaikiaaWkSq
namespace Go.Proofs.Ytnlokhfcgaikiaa
open Go Go.Vm
set_option maxRecDepth 20000
set_option linter.all false
set_option maxHeartbeats 8000000
structure Rf where
 frame : Bool
 token : Int
 deriving DecidableEq
@[simp] abbrev d_Rf (s : Rf) : D := .agg [.v (.bool s.frame), .v (.int .i64 s.token)]
structure SS where
 now : Int
 most : Int
 t : WS
 q : Q2
@[simp] abbrev dss (w q : Nat) (s : SS) : List D := [D.int s.now, D.int s.most, .ref w 0, .ref q 0]
def slen (s : SS) : Int := s.t.h.ts.length + qlen s.q
def sput (S w m M q : Nat) (s : SS) (σ : List (List D)) : List (List D) := (((σ.set S (dss w q s)).set w (dwh m s.t)).set m (dhp M s.t.h)).set q (dqq s.q)
structure SO (S w m M q : Nat) (s : SS) (σ : List (List D)) : Prop where
 hS : σ[S]? = some (dss w q s)
 hw : σ[w]? = some (dwh m s.t)
 hm : σ[m]? = some (dhp M s.t.h)
 hq : σ[q]? = some (dqq s.q)
 hM : M < σ.length
 d1 : S ≠ w
 d2 : S ≠ m
 d3 : S ≠ q
 d4 : w ≠ m
 d5 : w ≠ q
 d6 : m ≠ q
structure SOk (s : SS) : Prop where
 t : WOk s.t
 q : Q2ok s.q
 tl : s.t.last ≤ 1000000
 nw : 0 ≤ s.now ∧ s.now ≤ 1099511627776
theorem SO.put0 {S w m M q : Nat} {s : SS} {σ : List (List D)} (h : SO S w m M q s σ) : sput S w m M q s σ = σ := by
 unfold sput
 rw [obj_set_same h.hS, obj_set_same h.hw, obj_set_same h.hm, obj_set_same h.hq]
theorem SO.putW {S w m M q : Nat} {s : SS} {σ : List (List D)} (h : SO S w m M q s σ) (t : WS) : sput S w m M q ⟨s.now, s.most, t, s.q⟩ σ = (σ.set w (dwh m t)).set m (dhp M t.h) := by
 unfold sput
 rw [obj_set_same h.hS, obj_set_same]
 rw [List.getElem?_set_ne h.d6, List.getElem?_set_ne h.d5]
 exact h.hq
theorem SO.putQ {S w m M q : Nat} {s : SS} {σ : List (List D)} (h : SO S w m M q s σ) (x : Q2) : sput S w m M q ⟨s.now, s.most, s.t, x⟩ σ = σ.set q (dqq x) := by
 unfold sput
 rw [obj_set_same h.hS, obj_set_same h.hw, obj_set_same h.hm]
theorem SO.putN {S w m M q : Nat} {s : SS} {σ : List (List D)} (h : SO S w m M q s σ) (n : Int) (t : WS) (ht : dwh m t = dwh m s.t) : sput S w m M q ⟨n, s.most, t, s.q⟩ σ = (σ.set m (dhp M t.h)).set S [D.int n, D.int s.most, .ref w 0, .ref q 0] := by
 unfold sput
 rw [ht]
 have e1 : (σ.set S (dss w q ⟨n, s.most, t, s.q⟩)).set w (dwh m s.t) = σ.set S (dss w q ⟨n, s.most, t, s.q⟩) := obj_set_same (by rw [List.getElem?_set_ne h.d1]; exact h.hw)
 rw [e1, obj_set_same, List.set_comm _ _ h.d2]
 rw [List.getElem?_set_ne h.d6, List.getElem?_set_ne h.d3]
 exact h.hq
theorem snow_fn (S w m M q : Nat) (s : SS) (σ : List (List D)) (ho : SO S w m M q s σ) (hs : SOk s) : Ct Try.prog 19 [.ref S 0] σ (fun r σ' => r = .int s.now ∧ σ' = σ) := by
 refine fn_start (rs := [.tmp 2]) Try.func19 rfl rfl Try.ntmps19 Try.results19 (by simp) ?_
 simp only [argEnv]
 obtain ⟨hS, hw, hm, hq, hM, d1, d2, d3, d4, d5, d6⟩ := id ho
 obtain ⟨hst, hsq, htl, hnw⟩ := id hs
 refine awp_seq ?_
 refine awp_regionA (c := ⟨[], [], [], [], []⟩) (by simp only [lite_cons, lite_nil] <;> rfl) fun all hall K hK => ?_
 clear hall
 simp (maxSteps := 1000000) (disch := first | omega | assumption) [hS]
 repeat' refine And.intro ?_ ?_
 all_goals first | omega | exact rfl | skip
 refine hK _ ?_
 clear hK K
 clear all
 refine q_then_n ?_
 refine awp_seq ?_
 refine awp_regionA (c := ⟨[], [], [], [], []⟩) (by simp only [lite_cons, lite_nil] <;> rfl) fun all hall K hK => ?_
 clear hall
 simp (maxSteps := 1000000) (disch := first | omega | assumption) [hS]
 repeat' refine And.intro ?_ ?_
 all_goals first | omega | exact rfl | skip
 refine hK _ ?_
 clear hK K
 clear all
 refine q_then_n ?_
 refine awp_ret ?_
 simp (maxSteps := 1000000) (disch := first | omega | assumption) [hS, endQ]
theorem slen_fn (S w m M q : Nat) (s : SS) (σ : List (List D)) (ho : SO S w m M q s σ) (hs : SOk s) : Ct Try.prog 22 [.ref S 0] σ (fun r σ' => r = .int (slen s) ∧ σ' = σ) := by
 refine fn_start (rs := [.tmp 2]) Try.func22 rfl rfl Try.ntmps22 Try.results22 (by simp) ?_
 simp only [argEnv]
 obtain ⟨hS, hw, hm, hq, hM, d1, d2, d3, d4, d5, d6⟩ := id ho
 obtain ⟨hst, hsq, htl, hnw⟩ := id hs
 have hl1 := hst.hk.len
 have hl2 := hsq.h0
 have hl3 := hsq.h1
 have hl4 : qlen s.q = ((s.q.w0.length + s.q.w1.length : Nat) : Int) := rfl
 have hl5 : slen s = s.t.h.ts.length + qlen s.q := rfl
 refine awp_seq ?_
 refine awp_regionA (c := ⟨[], [], [], [], []⟩) (by simp only [lite_cons, lite_nil] <;> rfl) fun all hall K hK => ?_
 clear hall
 simp (maxSteps := 1000000) (disch := first | omega | assumption) [hS]
 repeat' refine And.intro ?_ ?_
 all_goals first | omega | exact rfl | skip
 refine hK _ ?_
 clear hK K
 clear all
 refine q_then_n ?_
 refine awp_seq ?_
 refine awp_drawA (c := ⟨[], [], [], [], []⟩) [.op ⟨false, false, false, false⟩, .op ⟨false, false, false, false⟩, .op ⟨false, false, false, false⟩, .op ⟨false, false, true, false⟩, .read, .op ⟨false, false, false, false⟩, .op ⟨false, false, false, false⟩, .op ⟨false, false, false, false⟩, .op ⟨false, false, true, false⟩, .read, .op ⟨false, false, false, false⟩, .op ⟨false, false, false, false⟩] (by kernel_rfl) (by kernel_rfl) (by simp only [lite_cons, lite_nil] <;> rfl) fun all hall K hK => ?_
 clear hall
 refine vcDL_split 4 (by simp) fun K' hK' => ?_
 simp (maxSteps := 1000000) (disch := first | omega | assumption) [hS]
 repeat' refine And.intro ?_ ?_
 all_goals first | omega | exact rfl | skip
 refine hK' _ ?_
 clear hK' K'
 simp only [List.drop_succ_cons, List.drop_zero]
 refine vcDL_step fun K' hK' => ?_
 simp (maxSteps := 1000000) (disch := first | omega | assumption) [hS]
 refine ⟨_, Ct.of_le (wlen_fn w m M s.t _ hw hm hst.hk) (by first | exact leArgs_of rfl | (refine leArgs_of ?_; simp; done) | (refine leArgs_of ?_; simp; rfl) | (simp [leArgs, leArg]; done)) rfl, ?_⟩
 refine hK' _ ?_
 clear hK' K'
 refine vcDL_split 4 (by simp) fun K' hK' => ?_
 simp (maxSteps := 1000000) (disch := first | omega | assumption) [hS]
 repeat' refine And.intro ?_ ?_
 all_goals first | omega | exact rfl | skip
 refine hK' _ ?_
 clear hK' K'
 simp only [List.drop_succ_cons, List.drop_zero]
 refine vcDL_step fun K' hK' => ?_
 simp (maxSteps := 1000000) (disch := first | omega | assumption) [hS]
 refine ⟨_, Ct.of_le (qlen_fn q s.q _ hq hsq) (by first | exact leArgs_of rfl | (refine leArgs_of ?_; simp; done) | (refine leArgs_of ?_; simp; rfl) | (simp [leArgs, leArg]; done)) rfl, ?_⟩
 refine hK' _ ?_
 clear hK' K'
 simp (maxSteps := 1000000) (disch := first | omega | assumption) [hS]
 repeat' refine And.intro ?_ ?_
 all_goals first | omega | exact rfl | skip
 refine hK _ ?_
 clear hK K
 clear all
 refine q_then_n ?_
 refine awp_ret ?_
 simp [endQ, slen]
theorem clip_rg (a : Int) : 0 ≤ clip a 0 1099511627776 ∧ clip a 0 1099511627776 ≤ 1099511627776 := by unfold clip; omega
def later (a b : Int) : Int := min (clip a 0 1099511627776 + clip b 0 1099511627776) 1099511627776
def sadd (s : SS) (d : Int) (j : Job) : SS := if s.most ≤ slen s then s else ⟨s.now, s.most, wadd s.t (later s.now d) j, s.q⟩
def ssec (s : SS) (j : Job) : SS := if s.most ≤ slen s then s else ⟨s.now, s.most, s.t, (qask s.q j).1⟩
def saddr (s : SS) (d : Int) (j : Job) : Rf × Int := if s.most ≤ slen s then (⟨false, 0⟩, 9) else (⟨false, if s.t.most ≤ (s.t.h.ts.length : Int) then 0 else s.t.last + 1⟩, if s.t.most ≤ (s.t.h.ts.length : Int) then 9 else 0)
def ssecr (s : SS) (j : Job) : Rf × Int := if s.most ≤ slen s then (⟨false, 0⟩, 9) else (⟨true, (qask s.q j).2.1⟩, (qask s.q j).2.2)
theorem later_fn (a b : Int) (σ : List (List D))  : Ct Try.prog 62 [D.int a, D.int b] σ (fun r σ' => r = .int (later a b) ∧ σ' = σ) := by
 refine fn_start (rs := [.tmp 4]) Try.func62 rfl rfl Try.ntmps62 Try.results62 (by simp) ?_
 simp only [argEnv]
 have ha := clip_rg a
 have hb := clip_rg b
 refine awp_seq ?_
 refine awp_regionA (c := ⟨[], [], [], [], []⟩) (by simp only [lite_cons, lite_nil] <;> rfl) fun all hall K hK => ?_
 clear hall
 simp (maxSteps := 1000000) (disch := first | omega | assumption)
 repeat' refine And.intro ?_ ?_
 all_goals first | omega | exact rfl | skip
 refine hK _ ?_
 clear hK K
 clear all
 refine q_then_n ?_
 refine awp_seq ?_
 refine awp_regionA (c := ⟨[], [], [], [], []⟩) (by simp only [lite_cons, lite_nil] <;> rfl) fun all hall K hK => ?_
 clear hall
 refine vcL_split 1 fun K' hK' => ?_
 simp (maxSteps := 1000000) (disch := first | omega | assumption)
 repeat' refine And.intro ?_ ?_
 all_goals first | omega | exact rfl | skip
 refine hK' _ ?_
 clear hK' K'
 simp only [List.drop_succ_cons, List.drop_zero]
 refine vcL_step fun K' hK' => ?_
 simp (maxSteps := 1000000) (disch := first | omega | assumption)
 refine Ct.mono (Ct.of_le (clip_fn ..) (by first | exact leArgs_of rfl | (refine leArgs_of ?_; simp; done) | (refine leArgs_of ?_; simp; rfl) | (simp [leArgs, leArg]; done)) rfl) ?_
 rintro _ _ ⟨hr9, hs9⟩
 subst hr9
 replace hs9 := hs9.symm
 subst hs9
 refine hK' _ ?_
 clear hK' K'
 refine vcL_split 1 fun K' hK' => ?_
 simp (maxSteps := 1000000) (disch := first | omega | assumption)
 repeat' refine And.intro ?_ ?_
 all_goals first | omega | exact rfl | skip
 refine hK' _ ?_
 clear hK' K'
 simp only [List.drop_succ_cons, List.drop_zero]
 refine vcL_step fun K' hK' => ?_
 simp (maxSteps := 1000000) (disch := first | omega | assumption)
 refine Ct.mono (Ct.of_le (clip_fn ..) (by first | exact leArgs_of rfl | (refine leArgs_of ?_; simp; done) | (refine leArgs_of ?_; simp; rfl) | (simp [leArgs, leArg]; done)) rfl) ?_
 rintro _ _ ⟨hr9, hs9⟩
 subst hr9
 replace hs9 := hs9.symm
 subst hs9
 refine hK' _ ?_
 clear hK' K'
 simp (maxSteps := 1000000) (disch := first | omega | assumption)
 repeat' refine And.intro ?_ ?_
 all_goals first | omega | exact rfl | skip
 refine hK _ ?_
 clear hK K
 clear all
 refine q_then_n ?_
 refine awp_seq ?_
 refine awp_regionA (c := ⟨[], [], [], [], []⟩) (by simp only [lite_cons, lite_nil] <;> rfl) fun all hall K hK => ?_
 clear hall
 simp (maxSteps := 1000000) (disch := first | omega | assumption)
 repeat' refine And.intro ?_ ?_
 all_goals first | omega | exact rfl | skip
 refine hK _ ?_
 clear hK K
 clear all
 refine q_then_n ?_
 refine awp_ret ?_
 simp [endQ, later]
theorem aft1_fn (S w m M q : Nat) (s : SS) (d : Int) (j : Job) (σ : List (List D)) (ho : SO S w m M q s σ) (hs : SOk s) : Ct Try.prog 61 [.adr [.ref S 0], .adr [D.int d], .adr [D.int j.kind, D.int j.node]] σ (fun r σ' => r = .tup [D.int (if s.t.most ≤ (s.t.h.ts.length : Int) then 0 else s.t.last + 1), D.int (if s.t.most ≤ (s.t.h.ts.length : Int) then 9 else 0)] ∧ σ' = (σ.set w (dwh m (wadd s.t (later s.now d) j))).set m (dhp M (wadd s.t (later s.now d) j).h)) := by
 refine fn_start (rs := [.tmp 3, .tmp 4]) Try.func61 rfl rfl Try.ntmps61 Try.results61 (by simp) ?_
 simp only [argEnv]
 obtain ⟨hS, hw, hm, hq, hM, d1, d2, d3, d4, d5, d6⟩ := id ho
 obtain ⟨hst, hsq, htl, hnw⟩ := id hs
 refine awp_seq ?_
 refine awp_regionA (c := ⟨[], [], [], [], []⟩) (by simp only [lite_cons, lite_nil] <;> rfl) fun all hall K hK => ?_
 clear hall
 simp (maxSteps := 1000000) (disch := first | omega | assumption) [hS]
 repeat' refine And.intro ?_ ?_
 all_goals first | omega | exact rfl | skip
 refine hK _ ?_
 clear hK K
 clear all
 refine q_then_n ?_
 refine awp_seq ?_
 refine awp_drawA (c := ⟨[], [], [], [], []⟩) [.op ⟨false, false, false, false⟩, .op ⟨false, false, false, false⟩, .op ⟨false, false, false, false⟩, .op ⟨false, false, true, false⟩, .op ⟨false, false, false, false⟩, .op ⟨false, false, false, false⟩, .op ⟨false, false, false, false⟩, .op ⟨false, false, true, false⟩, .op ⟨false, false, false, false⟩, .pure, .op ⟨false, false, false, false⟩, .det, .op ⟨false, false, false, false⟩, .op ⟨false, false, false, false⟩, .op ⟨false, false, false, false⟩, .op ⟨false, false, false, false⟩] (by kernel_rfl) (by kernel_rfl) (by simp only [lite_cons, lite_nil] <;> rfl) fun all hall K hK => ?_
 clear hall
 refine vcDL_split 8 (by simp) fun K' hK' => ?_
 simp (maxSteps := 1000000) (disch := first | omega | assumption) [hS]
 repeat' refine And.intro ?_ ?_
 all_goals first | omega | exact rfl | skip
 refine hK' _ ?_
 clear hK' K'
 simp only [List.drop_succ_cons, List.drop_zero]
 refine vcDL_split 1 (by simp) fun K' hK' => ?_
 simp (maxSteps := 1000000) (disch := first | omega | assumption) [hS]
 repeat' refine And.intro ?_ ?_
 all_goals first | omega | exact rfl | skip
 refine hK' _ ?_
 clear hK' K'
 simp only [List.drop_succ_cons, List.drop_zero]
 refine vcDL_step fun K' hK' => ?_
 simp (maxSteps := 1000000) (disch := first | omega | assumption) [hS]
 refine ⟨_, fun σ => Ct.of_le (later_fn s.now d _) (by first | exact leArgs_of rfl | (refine leArgs_of ?_; simp; done) | (refine leArgs_of ?_; simp; rfl) | (simp [leArgs, leArg]; done)) rfl, ?_⟩
 refine hK' _ ?_
 clear hK' K'
 refine vcDL_split 1 (by simp) fun K' hK' => ?_
 simp (maxSteps := 1000000) (disch := first | omega | assumption) [hS]
 repeat' refine And.intro ?_ ?_
 all_goals first | omega | exact rfl | skip
 refine hK' _ ?_
 clear hK' K'
 simp only [List.drop_succ_cons, List.drop_zero]
 refine vcDL_step fun K' hK' => ?_
 simp (maxSteps := 1000000) (disch := first | omega | assumption) [hS]
 refine ⟨_, _, Ct.of_le (wadd_fn w m M s.t (later s.now d) j _ hw hm hst d4 hM htl) (by first | exact leArgs_of rfl | (refine leArgs_of ?_; simp; done) | (refine leArgs_of ?_; simp; rfl) | (simp [leArgs, leArg]; done)) rfl, ?_⟩
 refine hK' _ ?_
 clear hK' K'
 simp (maxSteps := 1000000) (disch := first | omega | assumption) [hS]
 repeat' refine And.intro ?_ ?_
 all_goals first | omega | exact rfl | skip
 refine hK _ ?_
 clear hK K
 clear all
 refine q_then_n ?_
 refine awp_ret ?_
 simp [endQ]
theorem sec1_fn (S w m M q : Nat) (s : SS) (j : Job) (σ : List (List D)) (ho : SO S w m M q s σ) (hs : SOk s) : Ct Try.prog 63 [.adr [.ref S 0], .adr [D.int j.kind, D.int j.node]] σ (fun r σ' => r = .tup [D.int (qask s.q j).2.1, D.int (qask s.q j).2.2] ∧ σ' = σ.set q (dqq (qask s.q j).1)) := by
 refine fn_start (rs := [.tmp 2, .tmp 3]) Try.func63 rfl rfl Try.ntmps63 Try.results63 (by simp) ?_
 simp only [argEnv]
 obtain ⟨hS, hw, hm, hq, hM, d1, d2, d3, d4, d5, d6⟩ := id ho
 obtain ⟨hst, hsq, htl, hnw⟩ := id hs
 refine awp_seq ?_
 refine awp_regionA (c := ⟨[], [], [], [], []⟩) (by simp only [lite_cons, lite_nil] <;> rfl) fun all hall K hK => ?_
 clear hall
 simp (maxSteps := 1000000) (disch := first | omega | assumption) [hS]
 repeat' refine And.intro ?_ ?_
 all_goals first | omega | exact rfl | skip
 refine hK _ ?_
 clear hK K
 clear all
 refine q_then_n ?_
 refine awp_seq ?_
 refine awp_drawA (c := ⟨[], [], [], [], []⟩) [.op ⟨false, false, false, false⟩, .op ⟨false, false, false, false⟩, .op ⟨false, false, false, false⟩, .op ⟨false, false, true, false⟩, .op ⟨false, false, false, false⟩, .det, .op ⟨false, false, false, false⟩, .op ⟨false, false, false, false⟩, .op ⟨false, false, false, false⟩, .op ⟨false, false, false, false⟩] (by kernel_rfl) (by kernel_rfl) (by simp only [lite_cons, lite_nil] <;> rfl) fun all hall K hK => ?_
 clear hall
 refine vcDL_split 5 (by simp) fun K' hK' => ?_
 simp (maxSteps := 1000000) (disch := first | omega | assumption) [hS]
 repeat' refine And.intro ?_ ?_
 all_goals first | omega | exact rfl | skip
 refine hK' _ ?_
 clear hK' K'
 simp only [List.drop_succ_cons, List.drop_zero]
 refine vcDL_step fun K' hK' => ?_
 simp (maxSteps := 1000000) (disch := first | omega | assumption) [hS]
 refine ⟨_, _, Ct.of_le (qask_fn q s.q j _ hq hsq) (by first | exact leArgs_of rfl | (refine leArgs_of ?_; simp; done) | (refine leArgs_of ?_; simp; rfl) | (simp [leArgs, leArg]; done)) rfl, ?_⟩
 refine hK' _ ?_
 clear hK' K'
 simp (maxSteps := 1000000) (disch := first | omega | assumption) [hS]
 repeat' refine And.intro ?_ ?_
 all_goals first | omega | exact rfl | skip
 refine hK _ ?_
 clear hK K
 clear all
 refine q_then_n ?_
 refine awp_ret ?_
 simp [endQ]
theorem adda_fn (S w m M q : Nat) (s : SS) (d : Int) (j : Job) (σ : List (List D)) (ho : SO S w m M q s σ) (hs : SOk s) : Ct Try.prog 60 [.ref S 0, .bool false, .clo (.func 61) [] [.adr [.ref S 0], .adr [D.int d], .adr [D.int j.kind, D.int j.node]]] σ (fun r σ' => r = .tup [d_Rf (saddr s d j).1, D.int (saddr s d j).2] ∧ σ' = sput S w m M q (sadd s d j) σ) := by
 refine fn_start (rs := [.cell 6 87, .tmp 7]) Try.func60 rfl rfl Try.ntmps60 Try.results60 (by simp) ?_
 simp only [argEnv]
 obtain ⟨hS, hw, hm, hq, hM, d1, d2, d3, d4, d5, d6⟩ := id ho
 obtain ⟨hst, hsq, htl, hnw⟩ := id hs
 refine awp_seq ?_
 refine awp_regionA (c := ⟨[], [], [], [], []⟩) (by simp only [lite_cons, lite_nil] <;> rfl) fun all hall K hK => ?_
 clear hall
 simp (maxSteps := 1000000) (disch := first | omega | assumption) [hS]
 repeat' refine And.intro ?_ ?_
 all_goals first | omega | exact rfl | skip
 refine hK _ ?_
 clear hK K
 clear all
 refine q_then_n ?_
 refine awp_seq ?_
 refine awp_seq ?_
 refine awp_drawA (c := ⟨[], [], [], [], []⟩) [.op ⟨false, false, false, false⟩, .read, .op ⟨false, false, false, false⟩, .op ⟨false, false, false, false⟩, .op ⟨false, false, false, false⟩, .op ⟨false, false, true, false⟩, .op ⟨false, false, false, false⟩] (by kernel_rfl) (by kernel_rfl) (by simp only [lite_cons, lite_nil] <;> rfl) fun all hall K hK => ?_
 clear hall
 refine vcDL_split 1 (by simp) fun K' hK' => ?_
 simp (maxSteps := 1000000) (disch := first | omega | assumption) [hS]
 repeat' refine And.intro ?_ ?_
 all_goals first | omega | exact rfl | skip
 refine hK' _ ?_
 clear hK' K'
 simp only [List.drop_succ_cons, List.drop_zero]
 refine vcDL_step fun K' hK' => ?_
 simp (maxSteps := 1000000) (disch := first | omega | assumption) [hS]
 refine ⟨_, Ct.of_le (slen_fn S w m M q s _ ho hs) (by first | exact leArgs_of rfl | (refine leArgs_of ?_; simp; done) | (refine leArgs_of ?_; simp; rfl) | (simp [leArgs, leArg]; done)) rfl, ?_⟩
 refine hK' _ ?_
 clear hK' K'
 simp (maxSteps := 1000000) (disch := first | omega | assumption) [hS]
 repeat' refine And.intro ?_ ?_
 all_goals first | omega | exact rfl | skip
 refine hK _ ?_
 clear hK K
 clear all
 refine q_then_n ?_
 refine awp_ifB (by simp <;> rfl) ?_
 refine ⟨fun c1 => ?_, fun c1 => ?_⟩
 ·try simp at c1
  refine awp_seq ?_
  refine awp_regionA (c := ⟨[], [], [], [], []⟩) (by simp only [lite_cons, lite_nil] <;> rfl) fun all hall K hK => ?_
  clear hall
  simp (maxSteps := 1000000) (disch := first | omega | assumption) [hS]
  repeat' refine And.intro ?_ ?_
  all_goals first | omega | exact rfl | skip
  refine hK _ ?_
  clear hK K
  clear all
  refine q_then_n ?_
  refine awp_ret ?_
  refine q_then_r ?_
  simp [endQ, saddr, sadd, c1]
  exact ho.put0.symm
 ·try simp at c1
  refine awp_skip ?_
  refine q_then_n ?_
  refine awp_seq ?_
  refine awp_regionA (c := ⟨[], [], [], [], []⟩) (by simp only [lite_cons, lite_nil] <;> rfl) fun all hall K hK => ?_
  clear hall
  refine vcL_split 1 fun K' hK' => ?_
  simp (maxSteps := 1000000) (disch := first | omega | assumption) [hS]
  repeat' refine And.intro ?_ ?_
  all_goals first | omega | exact rfl | skip
  refine hK' _ ?_
  clear hK' K'
  simp only [List.drop_succ_cons, List.drop_zero]
  refine vcL_step fun K' hK' => ?_
  simp (maxSteps := 1000000) (disch := first | omega | assumption) [hS]
  refine Ct.mono (Ct.of_le (aft1_fn S w m M q s d j _ ho hs) (by first | exact leArgs_of rfl | (refine leArgs_of ?_; simp; done) | (refine leArgs_of ?_; simp; rfl) | (simp [leArgs, leArg]; done)) rfl) ?_
  rintro _ _ ⟨hr9, hs9⟩
  subst hr9
  replace hs9 := hs9.symm
  subst hs9
  refine hK' _ ?_
  clear hK' K'
  simp (maxSteps := 1000000) (disch := first | omega | assumption) [hS]
  repeat' refine And.intro ?_ ?_
  all_goals first | omega | exact rfl | skip
  refine hK _ ?_
  clear hK K
  clear all
  refine q_then_n ?_
  refine awp_seq ?_
  refine awp_keep [1, 6, 7, 8, 9] (by simp only [keepL_nil, keepL_cons, envOf_sel, envOf_nil, sel_t, sel_f, Nat.reduceBEq] <;> rfl) ?_
  refine awp_regionA (c := ⟨[], [], [], [], []⟩) (by simp only [lite_cons, lite_nil] <;> rfl) fun all hall K hK => ?_
  clear hall
  simp (maxSteps := 1000000) (disch := first | omega | assumption) [hS]
  repeat' refine And.intro ?_ ?_
  all_goals first | omega | exact rfl | skip
  refine hK _ ?_
  clear hK K
  clear all
  refine q_then_n ?_
  refine awp_ret ?_
  have c2 : ¬ s.most ≤ slen s := by omega
  simp only [saddr, sadd, if_neg c2]
  rw [ho.putW]
  simp [endQ]
theorem adds_fn (S w m M q : Nat) (s : SS) (j : Job) (σ : List (List D)) (ho : SO S w m M q s σ) (hs : SOk s) : Ct Try.prog 60 [.ref S 0, .bool true, .clo (.func 63) [] [.adr [.ref S 0], .adr [D.int j.kind, D.int j.node]]] σ (fun r σ' => r = .tup [d_Rf (ssecr s j).1, D.int (ssecr s j).2] ∧ σ' = sput S w m M q (ssec s j) σ) := by
 refine fn_start (rs := [.cell 6 87, .tmp 7]) Try.func60 rfl rfl Try.ntmps60 Try.results60 (by simp) ?_
 simp only [argEnv]
 obtain ⟨hS, hw, hm, hq, hM, d1, d2, d3, d4, d5, d6⟩ := id ho
 obtain ⟨hst, hsq, htl, hnw⟩ := id hs
 refine awp_seq ?_
 refine awp_regionA (c := ⟨[], [], [], [], []⟩) (by simp only [lite_cons, lite_nil] <;> rfl) fun all hall K hK => ?_
 clear hall
 simp (maxSteps := 1000000) (disch := first | omega | assumption) [hS]
 repeat' refine And.intro ?_ ?_
 all_goals first | omega | exact rfl | skip
 refine hK _ ?_
 clear hK K
 clear all
 refine q_then_n ?_
 refine awp_seq ?_
 refine awp_seq ?_
 refine awp_drawA (c := ⟨[], [], [], [], []⟩) [.op ⟨false, false, false, false⟩, .read, .op ⟨false, false, false, false⟩, .op ⟨false, false, false, false⟩, .op ⟨false, false, false, false⟩, .op ⟨false, false, true, false⟩, .op ⟨false, false, false, false⟩] (by kernel_rfl) (by kernel_rfl) (by simp only [lite_cons, lite_nil] <;> rfl) fun all hall K hK => ?_
 clear hall
 refine vcDL_split 1 (by simp) fun K' hK' => ?_
 simp (maxSteps := 1000000) (disch := first | omega | assumption) [hS]
 repeat' refine And.intro ?_ ?_
 all_goals first | omega | exact rfl | skip
 refine hK' _ ?_
 clear hK' K'
 simp only [List.drop_succ_cons, List.drop_zero]
 refine vcDL_step fun K' hK' => ?_
 simp (maxSteps := 1000000) (disch := first | omega | assumption) [hS]
 refine ⟨_, Ct.of_le (slen_fn S w m M q s _ ho hs) (by first | exact leArgs_of rfl | (refine leArgs_of ?_; simp; done) | (refine leArgs_of ?_; simp; rfl) | (simp [leArgs, leArg]; done)) rfl, ?_⟩
 refine hK' _ ?_
 clear hK' K'
 simp (maxSteps := 1000000) (disch := first | omega | assumption) [hS]
 repeat' refine And.intro ?_ ?_
 all_goals first | omega | exact rfl | skip
 refine hK _ ?_
 clear hK K
 clear all
 refine q_then_n ?_
 refine awp_ifB (by simp <;> rfl) ?_
 refine ⟨fun c1 => ?_, fun c1 => ?_⟩
 ·try simp at c1
  refine awp_seq ?_
  refine awp_regionA (c := ⟨[], [], [], [], []⟩) (by simp only [lite_cons, lite_nil] <;> rfl) fun all hall K hK => ?_
  clear hall
  simp (maxSteps := 1000000) (disch := first | omega | assumption) [hS]
  repeat' refine And.intro ?_ ?_
  all_goals first | omega | exact rfl | skip
  refine hK _ ?_
  clear hK K
  clear all
  refine q_then_n ?_
  refine awp_ret ?_
  refine q_then_r ?_
  simp [endQ, ssecr, ssec, c1]
  exact ho.put0.symm
 ·try simp at c1
  refine awp_skip ?_
  refine q_then_n ?_
  refine awp_seq ?_
  refine awp_regionA (c := ⟨[], [], [], [], []⟩) (by simp only [lite_cons, lite_nil] <;> rfl) fun all hall K hK => ?_
  clear hall
  refine vcL_split 1 fun K' hK' => ?_
  simp (maxSteps := 1000000) (disch := first | omega | assumption) [hS]
  repeat' refine And.intro ?_ ?_
  all_goals first | omega | exact rfl | skip
  refine hK' _ ?_
  clear hK' K'
  simp only [List.drop_succ_cons, List.drop_zero]
  refine vcL_step fun K' hK' => ?_
  simp (maxSteps := 1000000) (disch := first | omega | assumption) [hS]
  refine Ct.mono (Ct.of_le (sec1_fn S w m M q s j _ ho hs) (by first | exact leArgs_of rfl | (refine leArgs_of ?_; simp; done) | (refine leArgs_of ?_; simp; rfl) | (simp [leArgs, leArg]; done)) rfl) ?_
  rintro _ _ ⟨hr9, hs9⟩
  subst hr9
  replace hs9 := hs9.symm
  subst hs9
  refine hK' _ ?_
  clear hK' K'
  simp (maxSteps := 1000000) (disch := first | omega | assumption) [hS]
  repeat' refine And.intro ?_ ?_
  all_goals first | omega | exact rfl | skip
  refine hK _ ?_
  clear hK K
  clear all
  refine q_then_n ?_
  refine awp_seq ?_
  refine awp_keep [1, 6, 7, 8, 9] (by simp only [keepL_nil, keepL_cons, envOf_sel, envOf_nil, sel_t, sel_f, Nat.reduceBEq] <;> rfl) ?_
  refine awp_regionA (c := ⟨[], [], [], [], []⟩) (by simp only [lite_cons, lite_nil] <;> rfl) fun all hall K hK => ?_
  clear hall
  simp (maxSteps := 1000000) (disch := first | omega | assumption) [hS]
  repeat' refine And.intro ?_ ?_
  all_goals first | omega | exact rfl | skip
  refine hK _ ?_
  clear hK K
  clear all
  refine q_then_n ?_
  refine awp_ret ?_
  have c2 : ¬ s.most ≤ slen s := by omega
  simp only [ssecr, ssec, if_neg c2]
  rw [ho.putQ]
  simp [endQ]
def sjobs (l : List Wt) : List Job := l.map (·.job)
theorem sjobs_take (l : List Wt) (k : Nat) (h : k < l.length) : sjobs (l.take (k + 1)) = sjobs (l.take k) ++ [l[k].job] := by unfold sjobs; rw [take_snoc l k h, List.map_append]; rfl
def sframe (s : SS) : SS := ⟨s.now, s.most, s.t, qnext s.q⟩
def sclip (s : SS) (n : Int) : Int := clip n s.now 1099511627776
def suntil (s : SS) (n : Int) : SS := ⟨if wduec s.t (sclip s n) = true then max s.now (wduet s.t (sclip s n)).deadline else sclip s n, s.most, wdue s.t (sclip s n), s.q⟩
def scan (s : SS) (f : Bool) (n : Int) : SS := if f = true then ⟨s.now, s.most, s.t, qcan s.q n 2⟩ else ⟨s.now, s.most, (wcan s.t n).1, s.q⟩
def scanr (s : SS) (f : Bool) (n : Int) : Bool := if f = true then decide (qlen (qcan s.q n 2) < qlen s.q) else (wcan s.t n).2
def snew (x : Int) : SS := ⟨0, clip x 1 65536, ⟨clip (clip x 1 65536) 1 65536, 0, hp0⟩, ⟨clip (clip x 1 65536) 1 65536, 0, [], []⟩⟩
theorem safter_fn (S w m M q : Nat) (s : SS) (d : Int) (j : Job) (σ : List (List D)) (ho : SO S w m M q s σ) (hs : SOk s) : Ct Try.prog 35 [.ref S 0, D.int d, d_Job j] σ (fun r σ' => r = .tup [d_Rf (saddr s d j).1, D.int (saddr s d j).2] ∧ σ' = sput S w m M q (sadd s d j) σ) := by
 refine fn_start (rs := [.cell 6 87, .tmp 7]) Try.func35 rfl rfl Try.ntmps35 Try.results35 (by simp) ?_
 simp only [argEnv]
 refine awp_seq ?_
 refine awp_regionA (c := ⟨[], [3, 4, 5], [], [], []⟩) (by simp only [lite_cons, lite_nil] <;> rfl) fun all hall K hK => ?_
 clear hall
 simp (maxSteps := 1000000) (disch := first | omega | assumption)
 repeat' refine And.intro ?_ ?_
 all_goals first | omega | exact rfl | skip
 refine hK _ ?_
 clear hK K
 clear all
 refine q_then_n ?_
 refine awp_seq ?_
 refine awp_regionA (c := ⟨[], [3, 4, 5], [], [], []⟩) (by simp only [lite_cons, lite_nil] <;> rfl) fun all hall K hK => ?_
 clear hall
 refine vcL_split 2 fun K' hK' => ?_
 simp (maxSteps := 1000000) (disch := first | omega | assumption)
 repeat' refine And.intro ?_ ?_
 all_goals first | omega | exact rfl | skip
 refine hK' _ ?_
 clear hK' K'
 simp only [List.drop_succ_cons, List.drop_zero]
 refine vcL_step fun K' hK' => ?_
 simp (maxSteps := 1000000) (disch := first | omega | assumption)
 refine Ct.mono (Ct.of_le (adda_fn S w m M q s d j _ ho hs) (by first | exact leArgs_of rfl | (refine leArgs_of ?_; simp; done) | (refine leArgs_of ?_; simp; rfl) | (simp [leArgs, leArg]; done)) rfl) ?_
 rintro _ _ ⟨hr9, hs9⟩
 subst hr9
 replace hs9 := hs9.symm
 subst hs9
 refine hK' _ ?_
 clear hK' K'
 simp (maxSteps := 1000000) (disch := first | omega | assumption)
 repeat' refine And.intro ?_ ?_
 all_goals first | omega | exact rfl | skip
 refine hK _ ?_
 clear hK K
 clear all
 refine q_then_n ?_
 refine awp_ret ?_
 simp [endQ]
theorem ssecond_fn (S w m M q : Nat) (s : SS) (j : Job) (σ : List (List D)) (ho : SO S w m M q s σ) (hs : SOk s) : Ct Try.prog 36 [.ref S 0, d_Job j] σ (fun r σ' => r = .tup [d_Rf (ssecr s j).1, D.int (ssecr s j).2] ∧ σ' = sput S w m M q (ssec s j) σ) := by
 refine fn_start (rs := [.cell 4 87, .tmp 5]) Try.func36 rfl rfl Try.ntmps36 Try.results36 (by simp) ?_
 simp only [argEnv]
 refine awp_seq ?_
 refine awp_regionA (c := ⟨[], [2, 3], [], [], []⟩) (by simp only [lite_cons, lite_nil] <;> rfl) fun all hall K hK => ?_
 clear hall
 simp (maxSteps := 1000000) (disch := first | omega | assumption)
 repeat' refine And.intro ?_ ?_
 all_goals first | omega | exact rfl | skip
 refine hK _ ?_
 clear hK K
 clear all
 refine q_then_n ?_
 refine awp_seq ?_
 refine awp_regionA (c := ⟨[], [2, 3], [], [], []⟩) (by simp only [lite_cons, lite_nil] <;> rfl) fun all hall K hK => ?_
 clear hall
 refine vcL_split 2 fun K' hK' => ?_
 simp (maxSteps := 1000000) (disch := first | omega | assumption)
 repeat' refine And.intro ?_ ?_
 all_goals first | omega | exact rfl | skip
 refine hK' _ ?_
 clear hK' K'
 simp only [List.drop_succ_cons, List.drop_zero]
 refine vcL_step fun K' hK' => ?_
 simp (maxSteps := 1000000) (disch := first | omega | assumption)
 refine Ct.mono (Ct.of_le (adds_fn S w m M q s j _ ho hs) (by first | exact leArgs_of rfl | (refine leArgs_of ?_; simp; done) | (refine leArgs_of ?_; simp; rfl) | (simp [leArgs, leArg]; done)) rfl) ?_
 rintro _ _ ⟨hr9, hs9⟩
 subst hr9
 replace hs9 := hs9.symm
 subst hs9
 refine hK' _ ?_
 clear hK' K'
 simp (maxSteps := 1000000) (disch := first | omega | assumption)
 repeat' refine And.intro ?_ ?_
 all_goals first | omega | exact rfl | skip
 refine hK _ ?_
 clear hK K
 clear all
 refine q_then_n ?_
 refine awp_ret ?_
 simp [endQ]
theorem snew_fn (x : Int) (σ : List (List D))  : Ct Try.prog 16 [D.int x] σ (fun r σ' => r = .ref (σ.length + 4) 0 ∧ σ' = σ ++ [[], dhp σ.length (snew x).t.h, dwh (σ.length + 1) (snew x).t, dqq (snew x).q, dss (σ.length + 2) (σ.length + 3) (snew x)]) := by
 refine fn_start (rs := [.tmp 2]) Try.func16 rfl rfl Try.ntmps16 Try.results16 (by simp) ?_
 simp only [argEnv]
 refine awp_seq ?_
 refine awp_regionA (c := ⟨[], [], [11], [], []⟩) (by simp only [lite_cons, lite_nil] <;> rfl) fun all hall K hK => ?_
 clear hall
 simp (maxSteps := 1000000) (disch := first | omega | assumption) [og_at, og_put, og_at0, og_put0]
 repeat' refine And.intro ?_ ?_
 all_goals first | omega | exact rfl | skip
 refine hK _ ?_
 clear hK K
 clear all
 refine q_then_n ?_
 refine awp_seq ?_
 refine awp_regionA (c := ⟨[], [], [11], [], []⟩) (by simp only [lite_cons, lite_nil] <;> rfl) fun all hall K hK => ?_
 clear hall
 refine vcL_split 1 fun K' hK' => ?_
 simp (maxSteps := 1000000) (disch := first | omega | assumption) [og_at, og_put, og_at0, og_put0]
 repeat' refine And.intro ?_ ?_
 all_goals first | omega | exact rfl | skip
 refine hK' _ ?_
 clear hK' K'
 simp only [List.drop_succ_cons, List.drop_zero]
 refine vcL_step fun K' hK' => ?_
 simp (maxSteps := 1000000) (disch := first | omega | assumption) [og_at, og_put, og_at0, og_put0]
 refine Ct.mono (Ct.of_le (clip_fn ..) (by first | exact leArgs_of rfl | (refine leArgs_of ?_; simp; done) | (refine leArgs_of ?_; simp; rfl) | (simp [leArgs, leArg]; done)) rfl) ?_
 rintro _ _ ⟨hr9, hs9⟩
 subst hr9
 replace hs9 := hs9.symm
 subst hs9
 refine hK' _ ?_
 clear hK' K'
 simp (maxSteps := 1000000) (disch := first | omega | assumption) [og_at, og_put, og_at0, og_put0]
 repeat' refine And.intro ?_ ?_
 all_goals first | omega | exact rfl | skip
 refine hK _ ?_
 clear hK K
 clear all
 refine q_then_n ?_
 refine awp_seq ?_
 refine awp_regionA (c := ⟨[], [], [11], [], []⟩) (by simp only [lite_cons, lite_nil] <;> rfl) fun all hall K hK => ?_
 clear hall
 refine vcL_split 2 fun K' hK' => ?_
 simp (maxSteps := 1000000) (disch := first | omega | assumption) [og_at, og_put, og_at0, og_put0]
 repeat' refine And.intro ?_ ?_
 all_goals first | omega | exact rfl | skip
 refine hK' _ ?_
 clear hK' K'
 simp only [List.drop_succ_cons, List.drop_zero]
 refine vcL_step fun K' hK' => ?_
 simp (maxSteps := 1000000) (disch := first | omega | assumption) [og_at, og_put, og_at0, og_put0]
 refine Ct.mono (Ct.of_le (wnew0_fn (clip x 1 65536) _) (by first | exact leArgs_of rfl | (refine leArgs_of ?_; simp; done) | (refine leArgs_of ?_; simp; rfl) | (simp [leArgs, leArg]; done)) rfl) ?_
 rintro _ _ ⟨hr9, hs9⟩
 subst hr9
 replace hs9 := hs9.symm
 subst hs9
 refine hK' _ ?_
 clear hK' K'
 refine vcL_split 1 fun K' hK' => ?_
 simp (maxSteps := 1000000) (disch := first | omega | assumption) [og_at, og_put, og_at0, og_put0]
 repeat' refine And.intro ?_ ?_
 all_goals first | omega | exact rfl | skip
 refine hK' _ ?_
 clear hK' K'
 simp only [List.drop_succ_cons, List.drop_zero]
 refine vcL_step fun K' hK' => ?_
 simp (maxSteps := 1000000) (disch := first | omega | assumption) [og_at, og_put, og_at0, og_put0]
 refine Ct.mono (Ct.of_le (qnew_fn (clip x 1 65536) _) (by first | exact leArgs_of rfl | (refine leArgs_of ?_; simp; done) | (refine leArgs_of ?_; simp; rfl) | (simp [leArgs, leArg]; done)) rfl) ?_
 rintro _ _ ⟨hr9, hs9⟩
 subst hr9
 replace hs9 := hs9.symm
 subst hs9
 refine hK' _ ?_
 clear hK' K'
 simp (maxSteps := 1000000) (disch := first | omega | assumption) [og_at, og_put, og_at0, og_put0]
 repeat' refine And.intro ?_ ?_
 all_goals first | omega | exact rfl | skip
 refine hK _ ?_
 clear hK K
 clear all
 refine q_then_n ?_
 refine awp_ret ?_
 simp [endQ, snew]
theorem sframe_fn (S w m M q : Nat) (s : SS) (σ : List (List D)) (ho : SO S w m M q s σ) (hs : SOk s) : Ct Try.prog 20 [.ref S 0] σ (fun r σ' => r = .sl true ((sjobs (wdecs s.q.w0)).map d_Job) ∧ σ' = sput S w m M q (sframe s) σ) := by
 refine fn_start (rs := [.tmp 2]) Try.func20 rfl rfl Try.ntmps20 Try.results20 (by simp) ?_
 simp only [argEnv]
 obtain ⟨hS, hw, hm, hq, hM, d1, d2, d3, d4, d5, d6⟩ := id ho
 obtain ⟨hst, hsq, htl, hnw⟩ := id hs
 have hl2 := hsq.h0
 have hl3 := wdecs_len s.q.w0
 refine awp_seq ?_
 refine awp_regionA (c := ⟨[2, 3, 16, 22], [], [], [], []⟩) (by simp only [lite_cons, lite_nil] <;> rfl) fun all hall K hK => ?_
 clear hall
 simp (maxSteps := 1000000) (disch := first | omega | assumption) [hS]
 repeat' refine And.intro ?_ ?_
 all_goals first | omega | exact rfl | skip
 refine hK _ ?_
 clear hK K
 clear all
 refine q_then_n ?_
 refine awp_seq ?_
 refine awp_regionA (c := ⟨[2, 3, 16, 22], [], [], [], []⟩) (by simp only [lite_cons, lite_nil] <;> rfl) fun all hall K hK => ?_
 clear hall
 simp (maxSteps := 1000000) (disch := first | omega | assumption) [hS]
 repeat' refine And.intro ?_ ?_
 all_goals first | omega | exact rfl | skip
 refine hK _ ?_
 clear hK K
 clear all
 refine q_then_n ?_
 refine awp_seq ?_
 refine awp_seq ?_
 refine awp_regionA (c := ⟨[2, 3, 16, 22], [], [], [], []⟩) (by simp only [lite_cons, lite_nil] <;> rfl) fun all hall K hK => ?_
 clear hall
 refine vcL_split 4 fun K' hK' => ?_
 simp (maxSteps := 1000000) (disch := first | omega | assumption) [hS]
 repeat' refine And.intro ?_ ?_
 all_goals first | omega | exact rfl | skip
 refine hK' _ ?_
 clear hK' K'
 simp only [List.drop_succ_cons, List.drop_zero]
 refine vcL_step fun K' hK' => ?_
 simp (maxSteps := 1000000) (disch := first | omega | assumption) [hS]
 refine Ct.mono (Ct.of_le (qframeS_fn q s.q _ hq hsq) (by first | exact leArgs_of rfl | (refine leArgs_of ?_; simp; done) | (refine leArgs_of ?_; simp; rfl) | (simp [leArgs, leArg]; done)) rfl) ?_
 rintro _ _ ⟨hr9, hs9⟩
 subst hr9
 replace hs9 := hs9.symm
 subst hs9
 refine hK' _ ?_
 clear hK' K'
 simp (maxSteps := 1000000) (disch := first | omega | assumption) [hS]
 repeat' refine And.intro ?_ ?_
 all_goals first | omega | exact rfl | skip
 refine hK _ ?_
 clear hK K
 clear all
 refine q_then_n ?_
 refine awp_block ?_
 refine awp_keep [2, 3, 10, 11, 12] (by simp only [keepL_nil, keepL_cons, envOf_sel, envOf_nil, sel_t, sel_f, Nat.reduceBEq] <;> rfl) ?_
 refine awp_loopE (fun (k : Nat) => [(12, .d (.v (.int .i64 (k : Int)))), (3, .d (.sl true ((sjobs ((wdecs s.q.w0).take k)).map d_Job)))]) [3, 5, 12, 13, 14, 15, 16, 17, 18, 19, 20, 21] (fun (k : Nat) => k ≤ (wdecs s.q.w0).length) (fun (k : Nat) => (wdecs s.q.w0).length - k) (0) (by simp <;> rfl) ?_ ?_ ?_
 ·simp [sjobs]
 ·simp
 rintro k hk
 simp only [List.cons_append, List.nil_append]
 have hsl : (sjobs ((wdecs s.q.w0).take k)).length ≤ 100000 := by simp [sjobs]; omega
 refine awp_seq ?_
 refine awp_regionA (c := ⟨[2, 3, 16, 22], [], [], [], []⟩) (by simp only [lite_cons, lite_nil] <;> rfl) fun all hall K hK => ?_
 clear hall
 simp (maxSteps := 1000000) (disch := first | omega | assumption) [hS]
 repeat' refine And.intro ?_ ?_
 all_goals first | omega | exact rfl | skip
 refine hK _ ?_
 clear hK K
 clear all
 refine q_then_n ?_
 refine awp_seq ?_
 refine awp_ifB (by simp <;> rfl) ?_
 refine ⟨fun c1 => ?_, fun c1 => ?_⟩
 ·try simp at c1
  refine awp_skip ?_
  refine q_then_n ?_
  refine awp_seq ?_
  refine awp_block ?_
  refine awp_seq ?_
  refine awp_regionA (c := ⟨[2, 3, 16, 22], [], [], [], []⟩) (by simp only [lite_cons, lite_nil] <;> rfl) fun all hall K hK => ?_
  clear hall
  simp (maxSteps := 1000000) (disch := first | omega | assumption) [hS]
  repeat' refine And.intro ?_ ?_
  all_goals first | omega | exact rfl | skip
  refine hK _ ?_
  clear hK K
  clear all
  refine q_then_n ?_
  refine awp_regionA (c := ⟨[2, 3, 16, 22], [], [], [], []⟩) (by simp only [lite_cons, lite_nil] <;> rfl) fun all hall K hK => ?_
  clear hall
  simp (maxSteps := 1000000) (disch := first | omega | assumption) [hS]
  repeat' refine And.intro ?_ ?_
  all_goals first | omega | exact rfl | skip
  refine hK _ ?_
  clear hK K
  clear all
  refine q_block_n ?_
  refine q_then_n ?_
  refine awp_keep [2, 3, 10, 11, 12] (by simp only [keepL_nil, keepL_cons, envOf_sel, envOf_nil, sel_t, sel_f, Nat.reduceBEq] <;> rfl) ?_
  refine awp_regionA (c := ⟨[2, 3, 16, 22], [], [], [], []⟩) (by simp only [lite_cons, lite_nil] <;> rfl) fun all hall K hK => ?_
  clear hall
  simp (maxSteps := 1000000) (disch := first | omega | assumption) [hS]
  repeat' refine And.intro ?_ ?_
  all_goals first | omega | exact rfl | skip
  refine hK _ ?_
  clear hK K
  clear all
  refine q_round (k + 1) ?_ ?_ (weak_mkA rfl ?_ (by simp) (by simp))
  ·omega
  ·try dsimp only
   omega
  ·simp (maxSteps := 1000000) (disch := first | omega | assumption) [hS, sjobs_take]
 ·try simp at c1
  obtain rfl : k = (wdecs s.q.w0).length := by omega
  rw [List.take_length]
  refine awp_exit ?_
  refine q_then_e ?_
  refine q_loop_e ?_
  refine q_block_e ?_
  refine q_then_n ?_
  refine awp_seq ?_
  refine awp_regionA (c := ⟨[2, 3, 16, 22], [], [], [], []⟩) (by simp only [lite_cons, lite_nil] <;> rfl) fun all hall K hK => ?_
  clear hall
  simp (maxSteps := 1000000) (disch := first | omega | assumption) [hS]
  repeat' refine And.intro ?_ ?_
  all_goals first | omega | exact rfl | skip
  refine hK _ ?_
  clear hK K
  clear all
  refine q_then_n ?_
  refine awp_ret ?_
  simp only [sframe]
  rw [ho.putQ]
  simp [endQ]
theorem suntil_fn (S w m M q : Nat) (s : SS) (n : Int) (σ : List (List D)) (ho : SO S w m M q s σ) (hs : SOk s) : Ct Try.prog 21 [.ref S 0, D.int n] σ (fun r σ' => r = .tup [d_Job (wduet s.t (sclip s n)).job, .bool (wduec s.t (sclip s n))] ∧ σ' = sput S w m M q (suntil s n) σ) := by
 refine fn_start (rs := [.cell 4 34, .tmp 5]) Try.func21 rfl rfl Try.ntmps21 Try.results21 (by simp) ?_
 simp only [argEnv]
 obtain ⟨hS, hw, hm, hq, hM, d1, d2, d3, d4, d5, d6⟩ := id ho
 obtain ⟨hst, hsq, htl, hnw⟩ := id hs
 refine awp_seq ?_
 refine awp_regionA (c := ⟨[], [], [], [], []⟩) (by simp only [lite_cons, lite_nil] <;> rfl) fun all hall K hK => ?_
 clear hall
 simp (maxSteps := 1000000) (disch := first | omega | assumption) [hS]
 repeat' refine And.intro ?_ ?_
 all_goals first | omega | exact rfl | skip
 refine hK _ ?_
 clear hK K
 clear all
 refine q_then_n ?_
 refine awp_seq ?_
 refine awp_regionA (c := ⟨[], [], [], [], []⟩) (by simp only [lite_cons, lite_nil] <;> rfl) fun all hall K hK => ?_
 clear hall
 refine vcL_split 5 fun K' hK' => ?_
 simp (maxSteps := 1000000) (disch := first | omega | assumption) [hS]
 repeat' refine And.intro ?_ ?_
 all_goals first | omega | exact rfl | skip
 refine hK' _ ?_
 clear hK' K'
 simp only [List.drop_succ_cons, List.drop_zero]
 refine vcL_step fun K' hK' => ?_
 simp (maxSteps := 1000000) (disch := first | omega | assumption) [hS]
 refine Ct.mono (Ct.of_le (clip_fn ..) (by first | exact leArgs_of rfl | (refine leArgs_of ?_; simp; done) | (refine leArgs_of ?_; simp; rfl) | (simp [leArgs, leArg]; done)) rfl) ?_
 rintro _ _ ⟨hr9, hs9⟩
 subst hr9
 replace hs9 := hs9.symm
 subst hs9
 refine hK' _ ?_
 clear hK' K'
 simp (maxSteps := 1000000) (disch := first | omega | assumption) [hS]
 repeat' refine And.intro ?_ ?_
 all_goals first | omega | exact rfl | skip
 refine hK _ ?_
 clear hK K
 clear all
 refine q_then_n ?_
 refine awp_seq ?_
 refine awp_keep [0, 1, 4, 5] (by simp only [keepL_nil, keepL_cons, envOf_sel, envOf_nil, sel_t, sel_f, Nat.reduceBEq] <;> rfl) ?_
 refine awp_regionA (c := ⟨[], [], [], [], []⟩) (by simp only [lite_cons, lite_nil] <;> rfl) fun all hall K hK => ?_
 clear hall
 refine vcL_split 5 fun K' hK' => ?_
 simp (maxSteps := 1000000) (disch := first | omega | assumption) [hS]
 repeat' refine And.intro ?_ ?_
 all_goals first | omega | exact rfl | skip
 refine hK' _ ?_
 clear hK' K'
 simp only [List.drop_succ_cons, List.drop_zero]
 refine vcL_step fun K' hK' => ?_
 simp (maxSteps := 1000000) (disch := first | omega | assumption) [hS]
 refine Ct.mono (Ct.of_le (wdue_fn w m M s.t (sclip s n) _ hw hm hst d4 hM) (by first | exact leArgs_of rfl | (refine leArgs_of ?_; simp; done) | (refine leArgs_of ?_; simp; rfl) | (simp [leArgs, leArg]; done)) rfl) ?_
 rintro _ _ ⟨hr9, hs9⟩
 subst hr9
 replace hs9 := hs9.symm
 subst hs9
 refine hK' _ ?_
 clear hK' K'
 simp (maxSteps := 1000000) (disch := first | omega | assumption) [hS]
 repeat' refine And.intro ?_ ?_
 all_goals first | omega | exact rfl | skip
 refine hK _ ?_
 clear hK K
 clear all
 refine q_then_n ?_
 refine awp_seq ?_
 refine awp_seq ?_
 refine awp_keep [0, 1, 4, 5, 6, 7] (by simp only [keepL_nil, keepL_cons, envOf_sel, envOf_nil, sel_t, sel_f, Nat.reduceBEq] <;> rfl) ?_
 refine awp_regionA (c := ⟨[], [], [], [], []⟩) (by simp only [lite_cons, lite_nil] <;> rfl) fun all hall K hK => ?_
 clear hall
 simp (maxSteps := 1000000) (disch := first | omega | assumption) [hS]
 repeat' refine And.intro ?_ ?_
 all_goals first | omega | exact rfl | skip
 refine hK _ ?_
 clear hK K
 clear all
 refine q_then_n ?_
 refine awp_ifB (by simp <;> rfl) ?_
 refine ⟨fun c1 => ?_, fun c1 => ?_⟩
 ·try simp at c1
  refine awp_drawA (c := ⟨[], [], [], [], []⟩) [.op ⟨false, false, false, false⟩, .op ⟨false, false, false, false⟩, .op ⟨false, false, false, false⟩, .op ⟨false, false, true, false⟩, .op ⟨false, false, false, false⟩, .op ⟨true, false, false, false⟩, .op ⟨false, false, false, false⟩, .op ⟨false, false, false, false⟩] (by kernel_rfl) (by kernel_rfl) (by simp only [lite_cons, lite_nil] <;> rfl) fun all hall K hK => ?_
  clear hall
  simp (maxSteps := 1000000) (disch := first | omega | assumption) [hS]
  repeat' refine And.intro ?_ ?_
  all_goals first | omega | exact rfl | skip
  refine hK _ ?_
  clear hK K
  clear all
  refine q_then_n ?_
  refine awp_seq ?_
  refine awp_keep [0, 1, 4, 5, 6, 7] (by simp only [keepL_nil, keepL_cons, envOf_sel, envOf_nil, sel_t, sel_f, Nat.reduceBEq] <;> rfl) ?_
  refine awp_regionA (c := ⟨[], [], [], [], []⟩) (by simp only [lite_cons, lite_nil] <;> rfl) fun all hall K hK => ?_
  clear hall
  simp (maxSteps := 1000000) (disch := first | omega | assumption) [hS]
  repeat' refine And.intro ?_ ?_
  all_goals first | omega | exact rfl | skip
  refine hK _ ?_
  clear hK K
  clear all
  refine q_then_n ?_
  refine awp_seq ?_
  refine awp_regionA (c := ⟨[], [], [], [], []⟩) (by simp only [lite_cons, lite_nil] <;> rfl) fun all hall K hK => ?_
  clear hall
  simp (maxSteps := 1000000) (disch := first | omega | assumption) [hS]
  repeat' refine And.intro ?_ ?_
  all_goals first | omega | exact rfl | skip
  refine hK _ ?_
  clear hK K
  clear all
  refine q_then_n ?_
  refine awp_ret ?_
  have hp := ho.putN (max s.now (wduet s.t (sclip s n)).deadline) (wdue s.t (sclip s n)) (dwh_due _ _ _)
  simp only [suntil, c1, if_true]
  rw [hp]
  simp [endQ, c1]
 ·try simp at c1
  refine awp_skip ?_
  refine q_then_n ?_
  refine awp_seq ?_
  refine awp_regionA (c := ⟨[], [], [], [], []⟩) (by simp only [lite_cons, lite_nil] <;> rfl) fun all hall K hK => ?_
  clear hall
  simp (maxSteps := 1000000) (disch := first | omega | assumption) [hS]
  repeat' refine And.intro ?_ ?_
  all_goals first | omega | exact rfl | skip
  refine hK _ ?_
  clear hK K
  clear all
  refine q_then_n ?_
  refine awp_seq ?_
  refine awp_regionA (c := ⟨[], [], [], [], []⟩) (by simp only [lite_cons, lite_nil] <;> rfl) fun all hall K hK => ?_
  clear hall
  simp (maxSteps := 1000000) (disch := first | omega | assumption) [hS]
  repeat' refine And.intro ?_ ?_
  all_goals first | omega | exact rfl | skip
  refine hK _ ?_
  clear hK K
  clear all
  refine q_then_n ?_
  refine awp_ret ?_
  have hp := ho.putN (sclip s n) (wdue s.t (sclip s n)) (dwh_due _ _ _)
  have c2 : wduec s.t (sclip s n) = false := by simpa using c1
  simp only [suntil, c2, Bool.false_eq_true, if_false]
  rw [hp]
  simp [endQ, c2]
  rfl
theorem scan_fn (S w m M q : Nat) (s : SS) (f : Bool) (n : Int) (σ : List (List D)) (ho : SO S w m M q s σ) (hs : SOk s) : Ct Try.prog 40 [.ref S 0, d_Rf ⟨f, n⟩] σ (fun r σ' => r = .bool (scanr s f n) ∧ σ' = sput S w m M q (scan s f n) σ) := by
 refine fn_start (rs := [.tmp 4]) Try.func40 rfl rfl Try.ntmps40 Try.results40 (by simp) ?_
 simp only [argEnv]
 obtain ⟨hS, hw, hm, hq, hM, d1, d2, d3, d4, d5, d6⟩ := id ho
 obtain ⟨hst, hsq, htl, hnw⟩ := id hs
 refine awp_seq ?_
 refine awp_regionA (c := ⟨[], [3], [], [], []⟩) (by simp only [lite_cons, lite_nil] <;> rfl) fun all hall K hK => ?_
 clear hall
 simp (maxSteps := 1000000) (disch := first | omega | assumption) [hS]
 repeat' refine And.intro ?_ ?_
 all_goals first | omega | exact rfl | skip
 refine hK _ ?_
 clear hK K
 clear all
 refine q_then_n ?_
 refine awp_seq ?_
 refine awp_regionA (c := ⟨[], [3], [], [], []⟩) (by simp only [lite_cons, lite_nil] <;> rfl) fun all hall K hK => ?_
 clear hall
 simp (maxSteps := 1000000) (disch := first | omega | assumption) [hS]
 repeat' refine And.intro ?_ ?_
 all_goals first | omega | exact rfl | skip
 refine hK _ ?_
 clear hK K
 clear all
 refine q_then_n ?_
 refine awp_seq ?_
 refine awp_seq ?_
 refine awp_regionA (c := ⟨[], [3], [], [], []⟩) (by simp only [lite_cons, lite_nil] <;> rfl) fun all hall K hK => ?_
 clear hall
 simp (maxSteps := 1000000) (disch := first | omega | assumption) [hS]
 repeat' refine And.intro ?_ ?_
 all_goals first | omega | exact rfl | skip
 refine hK _ ?_
 clear hK K
 clear all
 refine q_then_n ?_
 refine awp_ifB (by simp <;> rfl) ?_
 refine ⟨fun c1 => ?_, fun c1 => ?_⟩
 ·try simp at c1
  refine awp_regionA (c := ⟨[], [3], [], [], []⟩) (by simp only [lite_cons, lite_nil] <;> rfl) fun all hall K hK => ?_
  clear hall
  simp (maxSteps := 1000000) (disch := first | omega | assumption) [hS]
  repeat' refine And.intro ?_ ?_
  all_goals first | omega | exact rfl | skip
  refine hK _ ?_
  clear hK K
  clear all
  refine q_then_n ?_
  refine awp_seq ?_
  refine awp_keep [3, 4, 5] (by simp only [keepL_nil, keepL_cons, envOf_sel, envOf_nil, sel_t, sel_f, Nat.reduceBEq] <;> rfl) ?_
  refine awp_regionA (c := ⟨[], [3], [], [], []⟩) (by simp only [lite_cons, lite_nil] <;> rfl) fun all hall K hK => ?_
  clear hall
  refine vcL_split 3 fun K' hK' => ?_
  simp (maxSteps := 1000000) (disch := first | omega | assumption) [hS]
  repeat' refine And.intro ?_ ?_
  all_goals first | omega | exact rfl | skip
  refine hK' _ ?_
  clear hK' K'
  simp only [List.drop_succ_cons, List.drop_zero]
  refine vcL_step fun K' hK' => ?_
  simp (maxSteps := 1000000) (disch := first | omega | assumption) [hS]
  refine Ct.mono (Ct.of_le (qcancel_fn q s.q n _ hq hsq) (by first | exact leArgs_of rfl | (refine leArgs_of ?_; simp; done) | (refine leArgs_of ?_; simp; rfl) | (simp [leArgs, leArg]; done)) rfl) ?_
  rintro _ _ ⟨hr9, hs9⟩
  subst hr9
  replace hs9 := hs9.symm
  subst hs9
  refine hK' _ ?_
  clear hK' K'
  simp (maxSteps := 1000000) (disch := first | omega | assumption) [hS]
  repeat' refine And.intro ?_ ?_
  all_goals first | omega | exact rfl | skip
  refine hK _ ?_
  clear hK K
  clear all
  refine q_then_n ?_
  refine awp_ret ?_
  simp only [scan, scanr, c1, if_true]
  rw [ho.putQ]
  simp [endQ]
 ·try simp at c1
  refine awp_skip ?_
  refine q_then_n ?_
  refine awp_seq ?_
  refine awp_regionA (c := ⟨[], [3], [], [], []⟩) (by simp only [lite_cons, lite_nil] <;> rfl) fun all hall K hK => ?_
  clear hall
  refine vcL_split 3 fun K' hK' => ?_
  simp (maxSteps := 1000000) (disch := first | omega | assumption) [hS]
  repeat' refine And.intro ?_ ?_
  all_goals first | omega | exact rfl | skip
  refine hK' _ ?_
  clear hK' K'
  simp only [List.drop_succ_cons, List.drop_zero]
  refine vcL_step fun K' hK' => ?_
  simp (maxSteps := 1000000) (disch := first | omega | assumption) [hS]
  refine Ct.mono (Ct.of_le (wcan_fn w m M s.t n _ hw hm hst hM) (by first | exact leArgs_of rfl | (refine leArgs_of ?_; simp; done) | (refine leArgs_of ?_; simp; rfl) | (simp [leArgs, leArg]; done)) rfl) ?_
  rintro _ _ ⟨hr9, hs9⟩
  subst hr9
  replace hs9 := hs9.symm
  subst hs9
  refine hK' _ ?_
  clear hK' K'
  simp (maxSteps := 1000000) (disch := first | omega | assumption) [hS]
  repeat' refine And.intro ?_ ?_
  all_goals first | omega | exact rfl | skip
  refine hK _ ?_
  clear hK K
  clear all
  refine q_then_n ?_
  refine awp_ret ?_
  have ew : σ.set w (dwh m (wcan s.t n).1) = σ := by rw [dwh_can]; exact obj_set_same hw
  simp only [scan, scanr, c1, Bool.false_eq_true, if_false]
  rw [ho.putW, ew]
  simp [endQ]
end Go.Proofs.Ytnlokhfcgaikiaa

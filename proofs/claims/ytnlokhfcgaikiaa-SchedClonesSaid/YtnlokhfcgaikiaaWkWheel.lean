import Derived.Test.YtnlokhfcgaikiaaVmTab
import Derived.Test.YtnlokhfcgaikiaaVmX10
namespace Go.Proofs.Ytnlokhfcgaikiaa
open Go Go.Vm
set_option maxRecDepth 20000
set_option linter.all false
set_option maxHeartbeats 8000000
def clip (x0 : Int) (x1 : Int) (x2 : Int) : Int := max x1 (min x0 x2)
theorem clip_fn (x0 : Int) (x1 : Int) (x2 : Int) (σ : List (List D))  : Ct Try.prog 30 [.v (.int .i64 x0), .v (.int .i64 x1), .v (.int .i64 x2)] σ (fun r σ' => r = .v (.int .i64 (clip x0 x1 x2)) ∧ σ' = σ) := by
 refine fn_start (rs := [.tmp 6]) Try.func30 rfl rfl Try.ntmps30 Try.results30 (by simp) ?_
 simp only [argEnv]
 refine awp_seq ?_
 refine awp_regionA (c := ⟨[], [], [], [], []⟩) (by simp only [lite_cons, lite_nil] <;> rfl) fun all hall K hK => ?_
 clear hall
 simp (maxSteps := 1000000) (disch := first | omega | assumption)
 repeat' refine And.intro ?_ ?_
 all_goals first | omega | exact rfl | skip
 refine hK _ ?_
 clear hK K
 clear all
 refine q_then_n ?_
 refine awp_seq ?_
 refine awp_regionA (c := ⟨[], [], [], [], []⟩) (by simp only [lite_cons, lite_nil] <;> rfl) fun all hall K hK => ?_
 clear hall
 simp (maxSteps := 1000000) (disch := first | omega | assumption)
 repeat' refine And.intro ?_ ?_
 all_goals first | omega | exact rfl | skip
 refine hK _ ?_
 clear hK K
 clear all
 refine q_then_n ?_
 refine awp_ret ?_
 first | (simp [endQ, clip]; done) | (simp [endQ, clip]; done) | (simp [endQ]; unfold clip; (repeat' split) <;> first | (exfalso; omega) | (simp_all; done)) | (simp [endQ, clip, *]; done) | (simp_all [endQ, clip]; done) | (simp_all [endQ, clip]; omega) | (simp [endQ, clip] <;> split <;> omega)
structure Job where
 kind : Int
 node : Int
 deriving DecidableEq
@[simp] abbrev d_Job (s : Job) : D := .agg [.v (.int .i64 s.kind), .v (.int .i64 s.node)]
structure Tm where
 token : Int
 deadline : Int
 job : Job
 deriving DecidableEq
@[simp] abbrev d_Tm (s : Tm) : D := .agg [.v (.int .i64 s.token), .v (.int .i64 s.deadline), .v (.int .i64 s.job.kind), .v (.int .i64 s.job.node)]
@[simp] abbrev ct (w : Tm) : List D := [D.int w.token, D.int w.deadline, D.int w.job.kind, D.int w.job.node]
def tm0 : Tm := ⟨0, 0, ⟨0, 0⟩⟩
def at_ (l : List Tm) (i : Nat) : Tm := l.getD i tm0
theorem at_get (l : List Tm) (i : Nat) (h : i < l.length) : at_ l i = l[i] := by simp [at_, List.getD_eq_getElem?_getD, List.getElem?_eq_getElem h]
def tlt (a b : Tm) : Prop := a.deadline < b.deadline ∨ (a.deadline = b.deadline ∧ a.token < b.token)
instance (a b : Tm) : Decidable (tlt a b) := by unfold tlt; infer_instance
theorem tm_flat (l : List Tm) : (l.map d_Tm).flatMap D.cells = l.flatMap ct := rows_flat (fun _ => rfl) l
theorem tm_arr (l : List Tm) : ∀ d ∈ l.map d_Tm, d.ncells = 4 ∧ d.arr = true := by
 intro d hd
 obtain ⟨a, _, rfl⟩ := List.mem_map.1 hd
 exact ⟨rfl, rfl⟩
@[simp high] theorem tm_len (l : List Tm) : (l.flatMap ct).length = l.length * 4 := rows_len (f := ct) (fun _ => rfl) l
@[simp high] theorem tm_ld (l : List Tm) (rest : List D) (i : Nat) (h : i < l.length) : ldD true 4 ((l.flatMap ct ++ rest).drop (i * 4)) = some (.agg (ct l[i])) := rows_ld (f := ct) (fun _ => rfl) l rest i h
@[simp high] theorem tm_sp (l : List Tm) (rest : List D) (i : Nat) (x : Tm) (h : i < l.length) : splice (l.flatMap ct ++ rest) (i * 4) [D.int x.token, D.int x.deadline, D.int x.job.kind, D.int x.job.node] = (l.set i x).flatMap ct ++ rest := rows_splice (f := ct) (fun _ => rfl) l rest i x h
theorem tm_sc (N : Nat) (l : List Tm) : Sc N (.xs 4 (l.map d_Tm)) := Sc.xs fun e he y hy => by
 obtain ⟨a, _, rfl⟩ := List.mem_map.1 he
 simp only [D.cells, List.mem_cons, List.not_mem_nil, or_false] at hy
 rcases hy with rfl | rfl | rfl | rfl <;> exact Sc.v _
@[simp high] theorem tm_tok (l : List Tm) (rest : List D) (i : Nat) (h : i < l.length) : ldD false 1 ((l.flatMap ct ++ rest).drop (i * 4)) = some (D.int l[i].token) := by
 have := rows_ld1 (f := ct) (k := 4) (fun _ => rfl) l rest i 0 h (by decide)
 simpa using this
structure HP where
 ts : List Tm
 ck : Nat
 kv : List (Int × Nat × Int)
def kvD (e : Int × Nat × Int) : Value × Nat × D := (.int .i64 e.1, e.2.1, D.int e.2.2)
@[simp] abbrev dhp (N : Nat) (h : HP) : List D := [.xs 4 (h.ts.map d_Tm), .mp N (.int .i64) h.ck (h.kv.map kvD)]
def keys (h : HP) : List Int := h.kv.map (·.1)
def toks (h : HP) : List Int := h.ts.map (·.token)
def kvset (kv : List (Int × Nat × Int)) (k v : Int) : List (Int × Nat × Int) := kv.map fun e => if e.1 = k then (e.1, e.2.1, v) else e
def kvdel (kv : List (Int × Nat × Int)) (k : Int) : List (Int × Nat × Int) := kv.filter fun e => decide (e.1 ≠ k)
structure HPok (h : HP) : Prop where
 len : h.ts.length ≤ 100000
 nd : (keys h).Nodup
 tnd : (toks h).Nodup
 ix : ∀ i (hi : i < h.ts.length), ∃ s, (h.ts[i].token, s, (i : Int)) ∈ h.kv
 only : ∀ k ∈ keys h, k ∈ toks h
theorem kvset_keys (kv : List (Int × Nat × Int)) (k v : Int) : (kvset kv k v).map (·.1) = kv.map (·.1) := by
 unfold kvset
 rw [List.map_map]
 exact List.map_congr_left fun e _ => by dsimp only [Function.comp]; split <;> rfl
theorem map_erase {α β : Type} (f : α → β) : ∀ (l : List α) (j : Nat), (l.eraseIdx j).map f = (l.map f).eraseIdx j
 | [], _ => rfl
 | _ :: _, 0 => rfl
 | a :: l, j + 1 => by simp [List.eraseIdx_cons_succ, map_erase f l j]
theorem kv_at {kv : List (Int × Nat × Int)} {k : Int} (hn : (kv.map (·.1)).Nodup) (hk : k ∈ kv.map (·.1)) : ∃ j s v, kv[j]? = some (k, s, v) ∧ (∀ v', kvset kv k v' = kv.set j (k, s, v')) ∧ kvdel kv k = kv.eraseIdx j := by
 induction kv with
 | nil => simp at hk
 | cons e l ih =>
  simp only [List.map_cons, List.nodup_cons] at hn
  by_cases h : e.1 = k
  ·subst h
   refine ⟨0, e.2.1, e.2.2, rfl, fun v' => ?_, ?_⟩
   ·have : kvset l e.1 v' = l := by
     unfold kvset
     refine (List.map_congr_left fun x hx => ?_).trans (List.map_id l)
     rw [if_neg]; rfl
     intro he; exact hn.1 (he ▸ List.mem_map_of_mem hx)
    show kvset (e :: l) e.1 v' = _
    have h2 : kvset (e :: l) e.1 v' = (e.1, e.2.1, v') :: kvset l e.1 v' := by simp [kvset]
    rw [h2, this]; rfl
   ·unfold kvdel
    rw [List.filter_cons]
    simp only [ne_eq, not_true_eq_false, decide_false, Bool.false_eq_true, if_false, List.eraseIdx_cons_zero]
    rw [List.filter_eq_self]
    intro x hx
    simp only [decide_not, Bool.not_eq_true', decide_eq_false_iff_not]
    intro he; exact hn.1 (he ▸ List.mem_map_of_mem hx)
  ·have hk' : k ∈ l.map (·.1) := by
    simp only [List.map_cons, List.mem_cons] at hk
    exact hk.resolve_left fun h' => h h'.symm
   obtain ⟨j, s, v, h1, h2, h3⟩ := ih hn.2 hk'
   refine ⟨j + 1, s, v, h1, fun v' => ?_, ?_⟩
   ·have h4 : kvset (e :: l) k v' = e :: kvset l k v' := by simp [kvset, h]
    rw [h4, h2 v']; rfl
   ·have h4 : kvdel (e :: l) k = e :: kvdel l k := by simp [kvdel, h]
    rw [h4, h3]; rfl
theorem kvD_at {kv : List (Int × Nat × Int)} {j : Nat} {k v : Int} {s : Nat} (h : kv[j]? = some (k, s, v)) : (kv.map kvD)[j]? = some (.int .i64 k, s, D.int v) := by rw [List.getElem?_map, h]; rfl
theorem kvD_set (kv : List (Int × Nat × Int)) (j : Nat) (k v : Int) (s : Nat) : (kv.set j (k, s, v)).map kvD = (kv.map kvD).set j (.int .i64 k, s, D.int v) := by rw [List.map_set]; rfl
theorem kvD_none {kv : List (Int × Nat × Int)} {k : Int} (h : k ∉ kv.map (·.1)) : ∀ e ∈ kv.map kvD, e.1 ≠ .int .i64 k := by
 intro e he
 obtain ⟨x, hx, rfl⟩ := List.mem_map.1 he
 intro h'
 simp only [kvD, Value.int.injEq, true_and] at h'
 exact h (h' ▸ List.mem_map_of_mem hx)
theorem kv_ent {kv : List (Int × Nat × Int)} {k : Int} (ck : Nat) (z : D) (hn : (kv.map (·.1)).Nodup) (hk : k ∈ kv.map (·.1)) : ∃ v s, mEnt (kv.map kvD) ck (.int .i64 k) z (kv.map kvD) ck v s ∧ ∀ v', mSto (kv.map kvD) s (D.int v') ((kvset kv k v').map kvD) := by
 obtain ⟨j, s, v, h1, h2, _⟩ := kv_at hn hk
 exact ⟨D.int v, s, .inl ⟨j, kvD_at h1, rfl, rfl⟩, fun v' => ⟨j, _, _, kvD_at h1, by rw [h2 v', kvD_set]⟩⟩
theorem kv_upd {kv : List (Int × Nat × Int)} {k : Int} (ck : Nat) (v : Int) (hk : k ∉ kv.map (·.1)) : mSet (kv.map kvD) ck (.int .i64 k) (D.int v) ((kv ++ [(k, ck, v)]).map kvD) (ck + 1) :=
 .inr ⟨kvD_none hk, by rw [List.map_append]; rfl, rfl⟩
theorem kv_dele {kv : List (Int × Nat × Int)} {k : Int} (hn : (kv.map (·.1)).Nodup) (hk : k ∈ kv.map (·.1)) : mDel (kv.map kvD) (.int .i64 k) ((kvdel kv k).map kvD) := by
 obtain ⟨j, s, v, h1, _, h3⟩ := kv_at hn hk
 exact .inl ⟨j, s, _, kvD_at h1, by rw [h3]; exact map_erase _ _ _⟩
theorem keyI (k : Int) : MapKept.IsKey (.int .i64) (.int .i64 k) := rfl
theorem putM_eq {σ : List (List D)} {m : Nat} {cs : List D} (h : σ[m]? = some cs) (i N : Nat) (kd : TypeDesc) (ck : Nat) (kvs : List (Value × Nat × D)) : putM σ m i N kd ck kvs = σ.set m (cs.set i (.mp N kd ck kvs)) := by
 unfold putM; rw [List.getD_eq_getElem?_getD, h]; rfl
theorem sg_ne {σ : List (List D)} {K m : Nat} (a : List D) (h : K ≠ m) : (σ.set K a)[m]? = σ[m]? := List.getElem?_set_ne h
theorem sg_ne' {σ : List (List D)} {K m : Nat} (a : List D) (h : K ≠ m) : (σ.set m a)[K]? = σ[K]? := List.getElem?_set_ne (Ne.symm h)
theorem ss_ne {σ : List (List D)} {K m : Nat} (a a' b : List D) (h : K ≠ m) : ((σ.set K a).set m b).set K a' = (σ.set K a').set m b := by
 rw [List.set_comm _ _ (Ne.symm h), List.set_set]
theorem sg_m {σ : List (List D)} {K m : Nat} {x : List D} (a b : List D) (h : σ[m]? = some x) : ((σ.set K a).set m b)[m]? = some b := by
 rw [List.getElem?_set_self]; rw [List.length_set]; exact (List.getElem?_eq_some_iff.1 h).1
theorem sg_K {σ : List (List D)} {K m : Nat} {x : List D} (a b : List D) (hn : K ≠ m) (h : σ[K]? = some x) : ((σ.set K a).set m b)[K]? = some a := by
 rw [List.getElem?_set_ne (Ne.symm hn), List.getElem?_set_self (List.getElem?_eq_some_iff.1 h).1]
theorem ss_id {σ : List (List D)} {K m : Nat} {x y : List D} (h : σ[m]? = some x) (h' : σ[K]? = some y) : (σ.set K y).set m x = σ := by
 rw [obj_set_same h', obj_set_same h]
@[simp] abbrev dho (K cap M : Nat) (h : HP) : List D := [.slo K 0 h.ts.length cap, .mp M (.int .i64) h.ck (h.kv.map kvD)]
def sw (l : List Tm) (i j : Nat) : List Tm := (l.set i (at_ l j)).set j (at_ l i)
def hswap (h : HP) (i j : Nat) : HP := ⟨sw h.ts i j, h.ck, kvset (kvset h.kv (at_ (sw h.ts i j) i).token i) (at_ (sw h.ts i j) j).token j⟩
theorem sw_len (l : List Tm) (i j : Nat) : (sw l i j).length = l.length := by simp [sw]
theorem sw_eq (l : List Tm) (i j : Nat) (hi : i < l.length) (hj : j < l.length) : (l.set i l[j]).set j l[i] = sw l i j := by simp [sw, at_get, hi, hj]
theorem sw_get (l : List Tm) (i j k : Nat) (hi : i < l.length) (hj : j < l.length) (hk : k < (sw l i j).length) : (sw l i j)[k] = if k = j then l[i] else if k = i then l[j] else l[k]'(by rw [sw_len] at hk; exact hk) := by
 have hk' : k < l.length := by rw [sw_len] at hk; exact hk
 simp only [sw, at_get _ _ hi, at_get _ _ hj, List.getElem_set]
 by_cases e : j = k
 ·simp [e]
 ·rw [if_neg e, if_neg (Ne.symm e)]
  by_cases e' : i = k
  ·simp [e']
  ·rw [if_neg e', if_neg (Ne.symm e')]
theorem HPok.mem {h : HP} (hk : HPok h) {i : Nat} (hi : i < h.ts.length) : h.ts[i].token ∈ h.kv.map (·.1) := by
 obtain ⟨s, hs⟩ := hk.ix i hi
 exact List.mem_map.2 ⟨_, hs, rfl⟩
theorem HPok.mem_sw {h : HP} (hk : HPok h) {i j k : Nat} (hi : i < h.ts.length) (hj : j < h.ts.length) (hl : k < (sw h.ts i j).length) : (sw h.ts i j)[k].token ∈ h.kv.map (·.1) := by
 rw [sw_get _ _ _ _ hi hj hl]
 split
 ·exact hk.mem hi
 ·split
  ·exact hk.mem hj
  ·exact hk.mem _
theorem plen_fn (m M : Nat) (h : HP) (σ : List (List D)) (hq : σ[m]? = some (dhp M h)) (hk : HPok h) : Ct Try.prog 34 [.ref m 0] σ (fun r σ' => r = .int (h.ts.length : Int) ∧ σ' = σ) := by
 refine fn_start (rs := [.tmp 2]) Try.func34 rfl rfl Try.ntmps34 Try.results34 (by simp) ?_
 simp only [argEnv]
 have hl := hk.len
 refine awp_seq ?_
 refine awp_regionA (c := ⟨[], [], [], [7], []⟩) (by simp only [lite_cons, lite_nil] <;> rfl) fun all hall K hK => ?_
 clear hall
 simp (maxSteps := 1000000) (disch := first | omega | assumption) [hq]
 repeat' refine And.intro ?_ ?_
 all_goals first | omega | exact rfl | skip
 refine hK _ ?_
 clear hK K
 clear all
 refine q_then_n ?_
 refine awp_seq ?_
 refine awp_regionA (c := ⟨[], [], [], [7], []⟩) (by simp only [lite_cons, lite_nil] <;> rfl) fun all hall K hK => ?_
 clear hall
 simp (maxSteps := 1000000) (disch := first | omega | assumption) [hq]
 repeat' refine And.intro ?_ ?_
 all_goals first | omega | exact rfl | skip
 refine hK _ ?_
 clear hK K
 clear all
 refine q_then_n ?_
 refine awp_ret ?_
 simp (maxSteps := 1000000) (disch := first | omega | assumption) [hq, endQ]
theorem plenO_fn (m M A cap : Nat) (rest : List D) (h : HP) (σ : List (List D)) (hq : σ[m]? = some (dho A cap M h)) (hA : σ[A]? = some (h.ts.flatMap ct ++ rest)) (hne : A ≠ m) (hk : HPok h) : Ct Try.prog 34 [.ref m 0] σ (fun r σ' => r = .int (h.ts.length : Int) ∧ σ' = σ) := by
 refine fn_start (rs := [.tmp 2]) Try.func34 rfl rfl Try.ntmps34 Try.results34 (by simp) ?_
 simp only [argEnv]
 have hl := hk.len
 refine awp_seq ?_
 refine awp_regionA (c := ⟨[], [], [], [7], []⟩) (by simp only [lite_cons, lite_nil] <;> rfl) fun all hall K hK => ?_
 clear hall
 simp (maxSteps := 1000000) (disch := first | omega | assumption) [hq]
 repeat' refine And.intro ?_ ?_
 all_goals first | omega | exact rfl | skip
 refine hK _ ?_
 clear hK K
 clear all
 refine q_then_n ?_
 refine awp_seq ?_
 refine awp_regionA (c := ⟨[], [], [], [7], []⟩) (by simp only [lite_cons, lite_nil] <;> rfl) fun all hall K hK => ?_
 clear hall
 simp (maxSteps := 1000000) (disch := first | omega | assumption) [hq]
 repeat' refine And.intro ?_ ?_
 all_goals first | omega | exact rfl | skip
 refine hK _ ?_
 clear hK K
 clear all
 refine q_then_n ?_
 refine awp_ret ?_
 simp (maxSteps := 1000000) (disch := first | omega | assumption) [hq, endQ]
def isnan (x0 : Int) : Bool := decide (x0 ≠ x0)
theorem isnan_fn (x0 : Int) (σ : List (List D))  : Ct Try.prog 82 [.v (.int .i64 x0)] σ (fun r σ' => r = .v (.bool (isnan x0)) ∧ σ' = σ) := by
 refine fn_start (rs := [.tmp 2]) Try.func82 rfl rfl Try.ntmps82 Try.results82 (by simp) ?_
 simp only [argEnv]
 refine awp_seq ?_
 refine awp_regionA (c := ⟨[], [], [], [], []⟩) (by simp only [lite_cons, lite_nil] <;> rfl) fun all hall K hK => ?_
 clear hall
 simp (maxSteps := 1000000) (disch := first | omega | assumption)
 repeat' refine And.intro ?_ ?_
 all_goals first | omega | exact rfl | skip
 refine hK _ ?_
 clear hK K
 clear all
 refine q_then_n ?_
 refine awp_seq ?_
 refine awp_regionA (c := ⟨[], [], [], [], []⟩) (by simp only [lite_cons, lite_nil] <;> rfl) fun all hall K hK => ?_
 clear hall
 simp (maxSteps := 1000000) (disch := first | omega | assumption)
 repeat' refine And.intro ?_ ?_
 all_goals first | omega | exact rfl | skip
 refine hK _ ?_
 clear hK K
 clear all
 refine q_then_n ?_
 refine awp_ret ?_
 first | (simp [endQ, isnan]; done) | (simp [endQ, isnan]; done) | (simp [endQ]; unfold isnan; (repeat' split) <;> first | (exfalso; omega) | (simp_all; done)) | (simp [endQ, isnan, *]; done) | (simp_all [endQ, isnan]; done) | (simp_all [endQ, isnan]; omega) | (simp [endQ, isnan] <;> split <;> omega)
def ccmp (x0 : Int) (x1 : Int) : Int := if (isnan x0) = true then if (isnan x1) = true then 0
  else (-1)
 else if (isnan x1) = true then 1
  else if x0 < x1 then (-1)
   else if x0 > x1 then 1
    else 0
theorem ccmp_fn (x0 : Int) (x1 : Int) (σ : List (List D))  : Ct Try.prog 74 [.v (.int .i64 x0), .v (.int .i64 x1)] σ (fun r σ' => r = .v (.int .i64 (ccmp x0 x1)) ∧ σ' = σ) := by
 refine fn_start (rs := [.tmp 4]) Try.func74 rfl rfl Try.ntmps74 Try.results74 (by simp) ?_
 simp only [argEnv]
 refine awp_seq ?_
 refine awp_regionA (c := ⟨[], [], [], [], []⟩) (by simp only [lite_cons, lite_nil] <;> rfl) fun all hall K hK => ?_
 clear hall
 simp (maxSteps := 1000000) (disch := first | omega | assumption)
 repeat' refine And.intro ?_ ?_
 all_goals first | omega | exact rfl | skip
 refine hK _ ?_
 clear hK K
 clear all
 refine q_then_n ?_
 refine awp_seq ?_
 refine awp_regionA (c := ⟨[], [], [], [], []⟩) (by simp only [lite_cons, lite_nil] <;> rfl) fun all hall K hK => ?_
 clear hall
 refine vcL_split 1 fun K' hK' => ?_
 simp (maxSteps := 1000000) (disch := first | omega | assumption)
 repeat' refine And.intro ?_ ?_
 all_goals first | omega | exact rfl | skip
 refine hK' _ ?_
 clear hK' K'
 simp only [List.drop_succ_cons, List.drop_zero]
 refine vcL_step fun K' hK' => ?_
 simp (maxSteps := 1000000) (disch := first | omega | assumption)
 refine Ct.mono (Ct.of_le (isnan_fn x0 _ ) (by first | exact leArgs_of rfl | (refine leArgs_of ?_; simp; done) | (refine leArgs_of ?_; simp; rfl) | (simp [leArgs, leArg]; done)) rfl) ?_
 rintro _ _ ⟨hr9, hs9⟩
 subst hr9
 replace hs9 := hs9.symm
 subst hs9
 refine hK' _ ?_
 clear hK' K'
 simp (maxSteps := 1000000) (disch := first | omega | assumption)
 repeat' refine And.intro ?_ ?_
 all_goals first | omega | exact rfl | skip
 refine hK _ ?_
 clear hK K
 clear all
 refine q_then_n ?_
 refine awp_seq ?_
 refine awp_regionA (c := ⟨[], [], [], [], []⟩) (by simp only [lite_cons, lite_nil] <;> rfl) fun all hall K hK => ?_
 clear hall
 refine vcL_split 1 fun K' hK' => ?_
 simp (maxSteps := 1000000) (disch := first | omega | assumption)
 repeat' refine And.intro ?_ ?_
 all_goals first | omega | exact rfl | skip
 refine hK' _ ?_
 clear hK' K'
 simp only [List.drop_succ_cons, List.drop_zero]
 refine vcL_step fun K' hK' => ?_
 simp (maxSteps := 1000000) (disch := first | omega | assumption)
 refine Ct.mono (Ct.of_le (isnan_fn x1 _ ) (by first | exact leArgs_of rfl | (refine leArgs_of ?_; simp; done) | (refine leArgs_of ?_; simp; rfl) | (simp [leArgs, leArg]; done)) rfl) ?_
 rintro _ _ ⟨hr9, hs9⟩
 subst hr9
 replace hs9 := hs9.symm
 subst hs9
 refine hK' _ ?_
 clear hK' K'
 simp (maxSteps := 1000000) (disch := first | omega | assumption)
 repeat' refine And.intro ?_ ?_
 all_goals first | omega | exact rfl | skip
 refine hK _ ?_
 clear hK K
 clear all
 refine q_then_n ?_
 refine awp_seq ?_
 refine awp_seq ?_
 refine awp_regionA (c := ⟨[], [], [], [], []⟩) (by simp only [lite_cons, lite_nil] <;> rfl) fun all hall K hK => ?_
 clear hall
 simp (maxSteps := 1000000) (disch := first | omega | assumption)
 repeat' refine And.intro ?_ ?_
 all_goals first | omega | exact rfl | skip
 refine hK _ ?_
 clear hK K
 clear all
 refine q_then_n ?_
 refine awp_ifB (by simp <;> rfl) ?_
 refine ⟨fun c1 => ?_, fun c1 => ?_⟩
 ·try simp at c1
  all_goals try (exfalso; omega)
  all_goals
   refine awp_seq ?_
   refine awp_seq ?_
   refine awp_regionA (c := ⟨[], [], [], [], []⟩) (by simp only [lite_cons, lite_nil] <;> rfl) fun all hall K hK => ?_
   clear hall
   simp (maxSteps := 1000000) (disch := first | omega | assumption)
   repeat' refine And.intro ?_ ?_
   all_goals first | omega | exact rfl | skip
   refine hK _ ?_
   clear hK K
   clear all
   refine q_then_n ?_
   refine awp_ifB (by simp <;> rfl) ?_
   refine ⟨fun c2 => ?_, fun c2 => ?_⟩
   ·try simp at c2
    all_goals try (exfalso; omega)
    all_goals
     refine awp_seq ?_
     refine awp_regionA (c := ⟨[], [], [], [], []⟩) (by simp only [lite_cons, lite_nil] <;> rfl) fun all hall K hK => ?_
     clear hall
     simp (maxSteps := 1000000) (disch := first | omega | assumption)
     repeat' refine And.intro ?_ ?_
     all_goals first | omega | exact rfl | skip
     refine hK _ ?_
     clear hK K
     clear all
     refine q_then_n ?_
     refine awp_ret ?_
     refine q_then_r ?_
     refine q_then_r ?_
     first | (simp [endQ, ccmp, c1, c2]; done) | (simp [endQ, ccmp]; done) | (simp [endQ]; unfold ccmp; (repeat' split) <;> first | (exfalso; omega) | (simp_all; done)) | (simp [endQ, ccmp, *]; done) | (simp_all [endQ, ccmp]; done) | (simp_all [endQ, ccmp]; omega) | (simp [endQ, ccmp] <;> split <;> omega)
   ·try simp at c2
    all_goals try (exfalso; omega)
    all_goals
     refine awp_skip ?_
     refine q_then_n ?_
     refine awp_seq ?_
     refine awp_regionA (c := ⟨[], [], [], [], []⟩) (by simp only [lite_cons, lite_nil] <;> rfl) fun all hall K hK => ?_
     clear hall
     simp (maxSteps := 1000000) (disch := first | omega | assumption)
     repeat' refine And.intro ?_ ?_
     all_goals first | omega | exact rfl | skip
     refine hK _ ?_
     clear hK K
     clear all
     refine q_then_n ?_
     refine awp_ret ?_
     refine q_then_r ?_
     first | (simp [endQ, ccmp, c1, c2]; done) | (simp [endQ, ccmp]; done) | (simp [endQ]; unfold ccmp; (repeat' split) <;> first | (exfalso; omega) | (simp_all; done)) | (simp [endQ, ccmp, *]; done) | (simp_all [endQ, ccmp]; done) | (simp_all [endQ, ccmp]; omega) | (simp [endQ, ccmp] <;> split <;> omega)
 ·try simp at c1
  all_goals try (exfalso; omega)
  all_goals
   refine awp_skip ?_
   refine q_then_n ?_
   refine awp_seq ?_
   refine awp_seq ?_
   refine awp_regionA (c := ⟨[], [], [], [], []⟩) (by simp only [lite_cons, lite_nil] <;> rfl) fun all hall K hK => ?_
   clear hall
   simp (maxSteps := 1000000) (disch := first | omega | assumption)
   repeat' refine And.intro ?_ ?_
   all_goals first | omega | exact rfl | skip
   refine hK _ ?_
   clear hK K
   clear all
   refine q_then_n ?_
   refine awp_ifB (by simp <;> rfl) ?_
   refine ⟨fun c3 => ?_, fun c3 => ?_⟩
   ·try simp at c3
    all_goals try (exfalso; omega)
    all_goals
     refine awp_seq ?_
     refine awp_regionA (c := ⟨[], [], [], [], []⟩) (by simp only [lite_cons, lite_nil] <;> rfl) fun all hall K hK => ?_
     clear hall
     simp (maxSteps := 1000000) (disch := first | omega | assumption)
     repeat' refine And.intro ?_ ?_
     all_goals first | omega | exact rfl | skip
     refine hK _ ?_
     clear hK K
     clear all
     refine q_then_n ?_
     refine awp_ret ?_
     refine q_then_r ?_
     first | (simp [endQ, ccmp, c1, c3]; done) | (simp [endQ, ccmp]; done) | (simp [endQ]; unfold ccmp; (repeat' split) <;> first | (exfalso; omega) | (simp_all; done)) | (simp [endQ, ccmp, *]; done) | (simp_all [endQ, ccmp]; done) | (simp_all [endQ, ccmp]; omega) | (simp [endQ, ccmp] <;> split <;> omega)
   ·try simp at c3
    all_goals try (exfalso; omega)
    all_goals
     refine awp_skip ?_
     refine q_then_n ?_
     refine awp_seq ?_
     refine awp_seq ?_
     refine awp_regionA (c := ⟨[], [], [], [], []⟩) (by simp only [lite_cons, lite_nil] <;> rfl) fun all hall K hK => ?_
     clear hall
     simp (maxSteps := 1000000) (disch := first | omega | assumption)
     repeat' refine And.intro ?_ ?_
     all_goals first | omega | exact rfl | skip
     refine hK _ ?_
     clear hK K
     clear all
     refine q_then_n ?_
     refine awp_ifB (by simp <;> rfl) ?_
     refine ⟨fun c4 => ?_, fun c4 => ?_⟩
     ·try simp at c4
      all_goals try (exfalso; omega)
      all_goals
       refine awp_seq ?_
       refine awp_keep [0, 1, 4] (by simp only [keepL_nil, keepL_cons, envOf_sel, envOf_nil, sel_t, sel_f, Nat.reduceBEq] <;> rfl) ?_
       refine awp_regionA (c := ⟨[], [], [], [], []⟩) (by simp only [lite_cons, lite_nil] <;> rfl) fun all hall K hK => ?_
       clear hall
       simp (maxSteps := 1000000) (disch := first | omega | assumption)
       repeat' refine And.intro ?_ ?_
       all_goals first | omega | exact rfl | skip
       refine hK _ ?_
       clear hK K
       clear all
       refine q_then_n ?_
       refine awp_ret ?_
       refine q_then_r ?_
       first | (simp [endQ, ccmp, c1, c3, c4]; done) | (simp [endQ, ccmp]; done) | (simp [endQ]; unfold ccmp; (repeat' split) <;> first | (exfalso; omega) | (simp_all; done)) | (simp [endQ, ccmp, *]; done) | (simp_all [endQ, ccmp]; done) | (simp_all [endQ, ccmp]; omega) | (simp [endQ, ccmp] <;> split <;> omega)
     ·try simp at c4
      all_goals try (exfalso; omega)
      all_goals
       refine awp_skip ?_
       refine q_then_n ?_
       refine awp_seq ?_
       refine awp_seq ?_
       refine awp_keep [0, 1, 4] (by simp only [keepL_nil, keepL_cons, envOf_sel, envOf_nil, sel_t, sel_f, Nat.reduceBEq] <;> rfl) ?_
       refine awp_regionA (c := ⟨[], [], [], [], []⟩) (by simp only [lite_cons, lite_nil] <;> rfl) fun all hall K hK => ?_
       clear hall
       simp (maxSteps := 1000000) (disch := first | omega | assumption)
       repeat' refine And.intro ?_ ?_
       all_goals first | omega | exact rfl | skip
       refine hK _ ?_
       clear hK K
       clear all
       refine q_then_n ?_
       refine awp_ifB (by simp <;> rfl) ?_
       refine ⟨fun c5 => ?_, fun c5 => ?_⟩
       ·try simp at c5
        all_goals try (exfalso; omega)
        all_goals
         refine awp_seq ?_
         refine awp_regionA (c := ⟨[], [], [], [], []⟩) (by simp only [lite_cons, lite_nil] <;> rfl) fun all hall K hK => ?_
         clear hall
         simp (maxSteps := 1000000) (disch := first | omega | assumption)
         repeat' refine And.intro ?_ ?_
         all_goals first | omega | exact rfl | skip
         refine hK _ ?_
         clear hK K
         clear all
         refine q_then_n ?_
         refine awp_ret ?_
         refine q_then_r ?_
         first | (simp [endQ, ccmp, c1, c3, c4, c5]; done) | (simp [endQ, ccmp]; done) | (simp [endQ]; unfold ccmp; (repeat' split) <;> first | (exfalso; omega) | (simp_all; done)) | (simp [endQ, ccmp, *]; done) | (simp_all [endQ, ccmp]; done) | (simp_all [endQ, ccmp]; omega) | (simp [endQ, ccmp] <;> split <;> omega)
       ·try simp at c5
        all_goals try (exfalso; omega)
        all_goals
         refine awp_skip ?_
         refine q_then_n ?_
         refine awp_seq ?_
         refine awp_regionA (c := ⟨[], [], [], [], []⟩) (by simp only [lite_cons, lite_nil] <;> rfl) fun all hall K hK => ?_
         clear hall
         simp (maxSteps := 1000000) (disch := first | omega | assumption)
         repeat' refine And.intro ?_ ?_
         all_goals first | omega | exact rfl | skip
         refine hK _ ?_
         clear hK K
         clear all
         refine q_then_n ?_
         refine awp_ret ?_
         first | (simp [endQ, ccmp, c1, c3, c4, c5]; done) | (simp [endQ, ccmp]; done) | (simp [endQ]; unfold ccmp; (repeat' split) <;> first | (exfalso; omega) | (simp_all; done)) | (simp [endQ, ccmp, *]; done) | (simp_all [endQ, ccmp]; done) | (simp_all [endQ, ccmp]; omega) | (simp [endQ, ccmp] <;> split <;> omega)
theorem cor_fn (a b : Int) (σ : List (List D))  : Ct Try.prog 73 [.sl false [D.int a, D.int b]] σ (fun r σ' => r = .int (if a ≠ 0 then a else b) ∧ σ' = σ) := by
 refine fn_start (rs := [.tmp 2]) Try.func73 rfl rfl Try.ntmps73 Try.results73 (by simp) ?_
 simp only [argEnv]
 refine awp_seq ?_
 refine awp_regionA (c := ⟨[], [], [], [], []⟩) (by simp only [lite_cons, lite_nil] <;> rfl) fun all hall K hK => ?_
 clear hall
 simp (maxSteps := 1000000) (disch := first | omega | assumption)
 repeat' refine And.intro ?_ ?_
 all_goals first | omega | exact rfl | skip
 refine hK _ ?_
 clear hK K
 clear all
 refine q_then_n ?_
 refine awp_seq ?_
 refine awp_regionA (c := ⟨[], [], [], [], []⟩) (by simp only [lite_cons, lite_nil] <;> rfl) fun all hall K hK => ?_
 clear hall
 simp (maxSteps := 1000000) (disch := first | omega | assumption)
 repeat' refine And.intro ?_ ?_
 all_goals first | omega | exact rfl | skip
 refine hK _ ?_
 clear hK K
 clear all
 refine q_then_n ?_
 refine awp_seq ?_
 refine awp_seq ?_
 refine awp_regionA (c := ⟨[], [], [], [], []⟩) (by simp only [lite_cons, lite_nil] <;> rfl) fun all hall K hK => ?_
 clear hall
 simp (maxSteps := 1000000) (disch := first | omega | assumption)
 repeat' refine And.intro ?_ ?_
 all_goals first | omega | exact rfl | skip
 refine hK _ ?_
 clear hK K
 clear all
 refine q_then_n ?_
 refine awp_block ?_
 refine awp_keep [2, 3, 6, 7, 8] (by simp only [keepL_nil, keepL_cons, envOf_sel, envOf_nil, sel_t, sel_f, Nat.reduceBEq] <;> rfl) ?_
 refine awp_loopE (fun (k : Nat) => [(8, .d (.v (.int .i64 (k : Int))))]) [2, 5, 8, 9, 10, 11, 12, 13, 14, 15, 16] (fun (k : Nat) => k ≤ 2 ∧ (1 ≤ k → a = 0) ∧ (2 ≤ k → b = 0)) (fun (k : Nat) => 2 - k) (0) (by simp <;> rfl) ?_ ?_ ?_
 ·simp
 ·simp
 rintro k ⟨hk, ha, hb⟩
 simp only [List.cons_append, List.nil_append]
 rcases (by omega : k = 0 ∨ k = 1 ∨ k = 2) with rfl | rfl | rfl
 ·try simp only []
  refine awp_seq ?_
  refine awp_regionA (c := ⟨[], [], [], [], []⟩) (by simp only [lite_cons, lite_nil] <;> rfl) fun all hall K hK => ?_
  clear hall
  simp (maxSteps := 1000000) (disch := first | omega | assumption)
  repeat' refine And.intro ?_ ?_
  all_goals first | omega | exact rfl | skip
  refine hK _ ?_
  clear hK K
  clear all
  refine q_then_n ?_
  refine awp_seq ?_
  refine awp_cond (t := true) (by simp) (fun _ => ?_) (fun h => by cases h)
  refine awp_skip ?_
  refine q_then_n ?_
  refine awp_seq ?_
  refine awp_block ?_
  refine awp_seq ?_
  refine awp_regionA (c := ⟨[], [], [], [], []⟩) (by simp only [lite_cons, lite_nil] <;> rfl) fun all hall K hK => ?_
  clear hall
  simp (maxSteps := 1000000) (disch := first | omega | assumption)
  repeat' refine And.intro ?_ ?_
  all_goals first | omega | exact rfl | skip
  refine hK _ ?_
  clear hK K
  clear all
  refine q_then_n ?_
  refine awp_seq ?_
  refine awp_regionA (c := ⟨[], [], [], [], []⟩) (by simp only [lite_cons, lite_nil] <;> rfl) fun all hall K hK => ?_
  clear hall
  simp (maxSteps := 1000000) (disch := first | omega | assumption)
  repeat' refine And.intro ?_ ?_
  all_goals first | omega | exact rfl | skip
  refine hK _ ?_
  clear hK K
  clear all
  refine q_then_n ?_
  refine awp_ifB (by simp <;> rfl) ?_
  refine ⟨fun c1 => ?_, fun c1 => ?_⟩
  ·try simp at c1
   refine awp_seq ?_
   refine awp_regionA (c := ⟨[], [], [], [], []⟩) (by simp only [lite_cons, lite_nil] <;> rfl) fun all hall K hK => ?_
   clear hall
   simp (maxSteps := 1000000) (disch := first | omega | assumption)
   repeat' refine And.intro ?_ ?_
   all_goals first | omega | exact rfl | skip
   refine hK _ ?_
   clear hK K
   clear all
   refine q_then_n ?_
   refine awp_ret ?_
   refine q_block_r ?_
   refine q_then_r ?_
   refine q_loop_r ?_
   refine q_block_r ?_
   refine q_then_r ?_
   first | (simp [endQ]; done) | (simp_all [endQ]; done) | (simp [endQ]; omega)
  ·try simp at c1
   refine awp_skip ?_
   refine q_block_n ?_
   refine q_then_n ?_
   refine awp_regionA (c := ⟨[], [], [], [], []⟩) (by simp only [lite_cons, lite_nil] <;> rfl) fun all hall K hK => ?_
   clear hall
   simp (maxSteps := 1000000) (disch := first | omega | assumption)
   repeat' refine And.intro ?_ ?_
   all_goals first | omega | exact rfl | skip
   refine hK _ ?_
   clear hK K
   clear all
   refine q_round (1) ?_ ?_ (weak_mkA rfl ?_ (by simp) (by simp))
   ·exact ⟨by omega, fun _ => by simpa using c1, by omega⟩
   ·try dsimp only
    omega
   ·simp
 ·try simp only []
  refine awp_seq ?_
  refine awp_regionA (c := ⟨[], [], [], [], []⟩) (by simp only [lite_cons, lite_nil] <;> rfl) fun all hall K hK => ?_
  clear hall
  simp (maxSteps := 1000000) (disch := first | omega | assumption)
  repeat' refine And.intro ?_ ?_
  all_goals first | omega | exact rfl | skip
  refine hK _ ?_
  clear hK K
  clear all
  refine q_then_n ?_
  refine awp_seq ?_
  refine awp_cond (t := true) (by simp) (fun _ => ?_) (fun h => by cases h)
  refine awp_skip ?_
  refine q_then_n ?_
  refine awp_seq ?_
  refine awp_block ?_
  refine awp_seq ?_
  refine awp_regionA (c := ⟨[], [], [], [], []⟩) (by simp only [lite_cons, lite_nil] <;> rfl) fun all hall K hK => ?_
  clear hall
  simp (maxSteps := 1000000) (disch := first | omega | assumption)
  repeat' refine And.intro ?_ ?_
  all_goals first | omega | exact rfl | skip
  refine hK _ ?_
  clear hK K
  clear all
  refine q_then_n ?_
  refine awp_seq ?_
  refine awp_regionA (c := ⟨[], [], [], [], []⟩) (by simp only [lite_cons, lite_nil] <;> rfl) fun all hall K hK => ?_
  clear hall
  simp (maxSteps := 1000000) (disch := first | omega | assumption)
  repeat' refine And.intro ?_ ?_
  all_goals first | omega | exact rfl | skip
  refine hK _ ?_
  clear hK K
  clear all
  refine q_then_n ?_
  refine awp_ifB (by simp <;> rfl) ?_
  refine ⟨fun c2 => ?_, fun c2 => ?_⟩
  ·try simp at c2
   refine awp_seq ?_
   refine awp_regionA (c := ⟨[], [], [], [], []⟩) (by simp only [lite_cons, lite_nil] <;> rfl) fun all hall K hK => ?_
   clear hall
   simp (maxSteps := 1000000) (disch := first | omega | assumption)
   repeat' refine And.intro ?_ ?_
   all_goals first | omega | exact rfl | skip
   refine hK _ ?_
   clear hK K
   clear all
   refine q_then_n ?_
   refine awp_ret ?_
   refine q_block_r ?_
   refine q_then_r ?_
   refine q_loop_r ?_
   refine q_block_r ?_
   refine q_then_r ?_
   first | (simp [endQ]; done) | (simp_all [endQ]; done) | (simp [endQ]; omega)
  ·try simp at c2
   refine awp_skip ?_
   refine q_block_n ?_
   refine q_then_n ?_
   refine awp_regionA (c := ⟨[], [], [], [], []⟩) (by simp only [lite_cons, lite_nil] <;> rfl) fun all hall K hK => ?_
   clear hall
   simp (maxSteps := 1000000) (disch := first | omega | assumption)
   repeat' refine And.intro ?_ ?_
   all_goals first | omega | exact rfl | skip
   refine hK _ ?_
   clear hK K
   clear all
   refine q_round (2) ?_ ?_ (weak_mkA rfl ?_ (by simp) (by simp))
   ·exact ⟨by omega, fun _ => ha (by omega), fun _ => by simpa using c2⟩
   ·try dsimp only
    omega
   ·simp
 ·try simp only []
  refine awp_seq ?_
  refine awp_regionA (c := ⟨[], [], [], [], []⟩) (by simp only [lite_cons, lite_nil] <;> rfl) fun all hall K hK => ?_
  clear hall
  simp (maxSteps := 1000000) (disch := first | omega | assumption)
  repeat' refine And.intro ?_ ?_
  all_goals first | omega | exact rfl | skip
  refine hK _ ?_
  clear hK K
  clear all
  refine q_then_n ?_
  refine awp_seq ?_
  refine awp_cond (t := false) (by simp) (fun h => by cases h) (fun _ => ?_)
  refine awp_exit ?_
  refine q_then_e ?_
  refine q_loop_e ?_
  refine q_block_e ?_
  refine q_then_n ?_
  refine awp_seq ?_
  refine awp_regionA (c := ⟨[], [], [], [], []⟩) (by simp only [lite_cons, lite_nil] <;> rfl) fun all hall K hK => ?_
  clear hall
  simp (maxSteps := 1000000) (disch := first | omega | assumption)
  repeat' refine And.intro ?_ ?_
  all_goals first | omega | exact rfl | skip
  refine hK _ ?_
  clear hK K
  clear all
  refine q_then_n ?_
  refine awp_ret ?_
  first | (simp [endQ]; done) | (simp_all [endQ]; done) | (simp [endQ]; omega)
theorem tcmp0_fn (a b : Tm) (σ : List (List D))  : Ct Try.prog 53 [d_Tm a, d_Tm b] σ (fun r σ' => r = .int (if ccmp a.deadline b.deadline ≠ 0 then ccmp a.deadline b.deadline else ccmp a.token b.token) ∧ σ' = σ) := by
 refine fn_start (rs := [.tmp 4]) Try.func53 rfl rfl Try.ntmps53 Try.results53 (by simp) ?_
 simp only [argEnv]
 refine awp_seq ?_
 refine awp_regionA (c := ⟨[], [2, 3], [], [], []⟩) (by simp only [lite_cons, lite_nil] <;> rfl) fun all hall K hK => ?_
 clear hall
 simp (maxSteps := 1000000) (disch := first | omega | assumption)
 repeat' refine And.intro ?_ ?_
 all_goals first | omega | exact rfl | skip
 refine hK _ ?_
 clear hK K
 clear all
 refine q_then_n ?_
 refine awp_seq ?_
 refine awp_drawA (c := ⟨[], [2, 3], [], [], []⟩) [.op ⟨false, false, false, false⟩, .op ⟨false, false, false, false⟩, .op ⟨false, false, false, false⟩, .op ⟨false, false, false, false⟩, .pure, .op ⟨false, false, false, false⟩, .op ⟨false, false, false, false⟩, .op ⟨false, false, false, false⟩, .op ⟨false, false, false, false⟩, .pure, .op ⟨false, false, false, false⟩, .pure, .op ⟨false, false, false, false⟩] (by kernel_rfl) (by kernel_rfl) (by simp only [lite_cons, lite_nil] <;> rfl) fun all hall K hK => ?_
 clear hall
 refine vcDL_split 4 (by simp) fun K' hK' => ?_
 simp (maxSteps := 1000000) (disch := first | omega | assumption)
 repeat' refine And.intro ?_ ?_
 all_goals first | omega | exact rfl | skip
 refine hK' _ ?_
 clear hK' K'
 simp only [List.drop_succ_cons, List.drop_zero]
 refine vcDL_step fun K' hK' => ?_
 simp (maxSteps := 1000000) (disch := first | omega | assumption)
 refine ⟨_, fun σ => Ct.of_le (ccmp_fn a.deadline b.deadline _) (by first | exact leArgs_of rfl | (refine leArgs_of ?_; simp; done) | (refine leArgs_of ?_; simp; rfl) | (simp [leArgs, leArg]; done)) rfl, ?_⟩
 refine hK' _ ?_
 clear hK' K'
 refine vcDL_split 4 (by simp) fun K' hK' => ?_
 simp (maxSteps := 1000000) (disch := first | omega | assumption)
 repeat' refine And.intro ?_ ?_
 all_goals first | omega | exact rfl | skip
 refine hK' _ ?_
 clear hK' K'
 simp only [List.drop_succ_cons, List.drop_zero]
 refine vcDL_step fun K' hK' => ?_
 simp (maxSteps := 1000000) (disch := first | omega | assumption)
 refine ⟨_, fun σ => Ct.of_le (ccmp_fn a.token b.token _) (by first | exact leArgs_of rfl | (refine leArgs_of ?_; simp; done) | (refine leArgs_of ?_; simp; rfl) | (simp [leArgs, leArg]; done)) rfl, ?_⟩
 refine hK' _ ?_
 clear hK' K'
 refine vcDL_split 1 (by simp) fun K' hK' => ?_
 simp (maxSteps := 1000000) (disch := first | omega | assumption)
 repeat' refine And.intro ?_ ?_
 all_goals first | omega | exact rfl | skip
 refine hK' _ ?_
 clear hK' K'
 simp only [List.drop_succ_cons, List.drop_zero]
 refine vcDL_step fun K' hK' => ?_
 simp (maxSteps := 1000000) (disch := first | omega | assumption)
 refine ⟨_, fun σ => Ct.of_le (cor_fn (ccmp a.deadline b.deadline) (ccmp a.token b.token) _) (by first | exact leArgs_of rfl | (refine leArgs_of ?_; simp; done) | (refine leArgs_of ?_; simp; rfl) | (simp [leArgs, leArg]; done)) rfl, ?_⟩
 refine hK' _ ?_
 clear hK' K'
 simp (maxSteps := 1000000) (disch := first | omega | assumption)
 repeat' refine And.intro ?_ ?_
 all_goals first | omega | exact rfl | skip
 refine hK _ ?_
 clear hK K
 clear all
 refine q_then_n ?_
 refine awp_ret ?_
 simp (maxSteps := 1000000) (disch := first | omega | assumption) [endQ]
theorem pless0_fn (m M A cap : Nat) (rest : List D) (h : HP) (i j : Nat) (σ : List (List D)) (hq : σ[m]? = some (dho A cap M h)) (hA : σ[A]? = some (h.ts.flatMap ct ++ rest)) (hne : A ≠ m) (hk : HPok h) (hi : i < h.ts.length) (hj : j < h.ts.length) : Ct Try.prog 118 [.ref m 0, .int i, .int j] σ (fun r σ' => r = .bool (decide ((if ccmp h.ts[i].deadline h.ts[j].deadline ≠ 0 then ccmp h.ts[i].deadline h.ts[j].deadline else ccmp h.ts[i].token h.ts[j].token) < 0)) ∧ σ' = σ) := by
 refine fn_start (rs := [.tmp 6]) Try.func118 rfl rfl Try.ntmps118 Try.results118 (by simp) ?_
 simp only [argEnv]
 have hl := hk.len
 refine awp_seq ?_
 refine awp_regionA (c := ⟨[], [], [], [12, 19], []⟩) (by simp only [lite_cons, lite_nil] <;> rfl) fun all hall K hK => ?_
 clear hall
 simp (maxSteps := 1000000) (disch := first | omega | assumption) [hq, hA]
 repeat' refine And.intro ?_ ?_
 all_goals first | omega | exact rfl | skip
 refine hK _ ?_
 clear hK K
 clear all
 refine q_then_n ?_
 refine awp_seq ?_
 refine awp_drawA (c := ⟨[], [], [], [12, 19], []⟩) [.op ⟨false, false, false, false⟩, .op ⟨false, false, false, false⟩, .op ⟨false, false, false, false⟩, .op ⟨false, false, true, false⟩, .op ⟨false, false, false, false⟩, .op ⟨false, false, false, false⟩, .op ⟨false, false, true, false⟩, .op ⟨false, false, false, false⟩, .op ⟨false, false, false, false⟩, .op ⟨false, false, false, false⟩, .op ⟨false, false, true, false⟩, .op ⟨false, false, false, false⟩, .op ⟨false, false, false, false⟩, .op ⟨false, false, true, false⟩, .pure, .op ⟨false, false, false, false⟩, .op ⟨false, false, false, false⟩] (by kernel_rfl) (by kernel_rfl) (by simp only [lite_cons, lite_nil] <;> rfl) fun all hall K hK => ?_
 clear hall
 refine vcDL_split 8 (by simp) fun K' hK' => ?_
 simp (maxSteps := 1000000) (disch := first | omega | assumption) [hq, hA]
 repeat' refine And.intro ?_ ?_
 all_goals first | omega | exact rfl | skip
 refine hK' _ ?_
 clear hK' K'
 simp only [List.drop_succ_cons, List.drop_zero]
 refine vcDL_split 6 (by simp) fun K' hK' => ?_
 simp (maxSteps := 1000000) (disch := first | omega | assumption) [hq, hA]
 repeat' refine And.intro ?_ ?_
 all_goals first | omega | exact rfl | skip
 refine hK' _ ?_
 clear hK' K'
 simp only [List.drop_succ_cons, List.drop_zero]
 refine vcDL_step fun K' hK' => ?_
 simp (maxSteps := 1000000) (disch := first | omega | assumption) [hq, hA]
 refine ⟨_, fun σ => Ct.of_le (tcmp0_fn h.ts[i] h.ts[j] _) (by first | exact leArgs_of rfl | (refine leArgs_of ?_; simp; done) | (refine leArgs_of ?_; simp; rfl) | (simp [leArgs, leArg]; done)) rfl, ?_⟩
 refine hK' _ ?_
 clear hK' K'
 simp (maxSteps := 1000000) (disch := first | omega | assumption) [hq, hA]
 repeat' refine And.intro ?_ ?_
 all_goals first | omega | exact rfl | skip
 refine hK _ ?_
 clear hK K
 clear all
 refine q_then_n ?_
 refine awp_ret ?_
 simp (maxSteps := 1000000) (disch := first | omega | assumption) [hq, hA, endQ]
theorem ccmp_eq (a b : Int) : ccmp a b = if a < b then -1 else if b < a then 1 else 0 := by
 unfold ccmp isnan; simp
theorem tcmp_lt (a b : Tm) : decide ((if ccmp a.deadline b.deadline ≠ 0 then ccmp a.deadline b.deadline else ccmp a.token b.token) < 0) = decide (tlt a b) := by
 rw [decide_eq_decide, ccmp_eq, ccmp_eq]
 unfold tlt
 repeat' split
 all_goals omega
theorem pless_fn (m M A cap : Nat) (rest : List D) (h : HP) (i j : Nat) (σ : List (List D)) (hq : σ[m]? = some (dho A cap M h)) (hA : σ[A]? = some (h.ts.flatMap ct ++ rest)) (hne : A ≠ m) (hk : HPok h) (hi : i < h.ts.length) (hj : j < h.ts.length) : Ct Try.prog 118 [.ref m 0, .int i, .int j] σ (fun r σ' => r = .bool (decide (tlt (at_ h.ts i) (at_ h.ts j))) ∧ σ' = σ) := by
 rw [at_get _ _ hi, at_get _ _ hj, ← tcmp_lt]
 exact pless0_fn m M A cap rest h i j σ hq hA hne hk hi hj
theorem pswap_fn (m M A cap : Nat) (rest : List D) (h : HP) (i j : Nat) (σ : List (List D)) (hq : σ[m]? = some (dho A cap M h)) (hA : σ[A]? = some (h.ts.flatMap ct ++ rest)) (hne : A ≠ m) (hk : HPok h) (hi : i < h.ts.length) (hj : j < h.ts.length) : Ct Try.prog 121 [.ref m 0, .int i, .int j] σ (fun r σ' => r = .tup [] ∧ σ' = (σ.set A ((hswap h i j).ts.flatMap ct ++ rest)).set m (dho A cap M (hswap h i j))) := by
 refine fn_start (rs := []) Try.func121 rfl rfl Try.ntmps121 Try.results121 (by simp) ?_
 simp only [argEnv]
 have hl := hk.len
 have hj2 : j < (h.ts.set i h.ts[j]).length := by rw [List.length_set]; exact hj
 have hsi : i < (sw h.ts i j).length := by rw [sw_len]; exact hi
 have hsj : j < (sw h.ts i j).length := by rw [sw_len]; exact hj
 obtain ⟨v1, s1, he1, ho1⟩ := kv_ent h.ck (.v (.int .i64 0)) hk.nd (hk.mem_sw hi hj hsi)
 obtain ⟨v2, s2, he2, ho2⟩ := kv_ent (kv := kvset h.kv (sw h.ts i j)[i].token i) h.ck (.v (.int .i64 0)) (by rw [kvset_keys]; exact hk.nd) (by rw [kvset_keys]; exact hk.mem_sw hi hj hsj)
 refine awp_seq ?_
 refine awp_drawA (c := ⟨[], [], [], [21, 28, 30, 31, 41, 53], []⟩) [.op ⟨false, false, false, false⟩, .op ⟨false, false, false, false⟩, .op ⟨false, false, false, false⟩, .op ⟨false, false, true, false⟩, .op ⟨false, false, false, false⟩, .op ⟨false, false, false, false⟩, .op ⟨false, false, false, false⟩, .op ⟨false, false, false, false⟩, .op ⟨false, false, true, false⟩, .op ⟨false, false, false, false⟩, .op ⟨false, false, false, false⟩, .op ⟨false, false, false, false⟩, .op ⟨false, false, false, false⟩, .op ⟨false, false, true, false⟩, .op ⟨false, false, false, false⟩, .op ⟨false, false, false, false⟩, .op ⟨false, false, true, false⟩, .op ⟨false, false, false, false⟩, .op ⟨false, false, false, false⟩, .op ⟨false, false, false, false⟩, .op ⟨false, false, true, false⟩, .op ⟨false, false, false, false⟩, .op ⟨false, false, false, false⟩, .op ⟨false, false, true, false⟩, .op ⟨false, false, false, false⟩, .op ⟨false, false, true, true⟩, .op ⟨false, false, false, false⟩, .op ⟨false, false, true, true⟩] (by kernel_rfl) (by kernel_rfl) (by simp only [lite_cons, lite_nil] <;> rfl) fun all hall K hK => ?_
 clear hall
 refine vcDL_split 8 (by simp) fun K' hK' => ?_
 simp (maxSteps := 1000000) (disch := first | omega | assumption) [hq, hA, sg_ne _ hne, sg_m _ _ hq, sg_K _ _ hne hA, og_get hA, sw_len, sw_eq]
 repeat' refine And.intro ?_ ?_
 all_goals first | omega | exact rfl | skip
 refine hK' _ ?_
 clear hK' K'
 simp only [List.drop_succ_cons, List.drop_zero]
 refine vcDL_split 8 (by simp) fun K' hK' => ?_
 simp (maxSteps := 1000000) (disch := first | omega | assumption) [hq, hA, sg_ne _ hne, sg_m _ _ hq, sg_K _ _ hne hA, og_get hA, sw_len, sw_eq]
 repeat' refine And.intro ?_ ?_
 all_goals first | omega | exact rfl | skip
 refine hK' _ ?_
 clear hK' K'
 simp only [List.drop_succ_cons, List.drop_zero]
 refine vcDL_split 8 (by simp) fun K' hK' => ?_
 simp (maxSteps := 1000000) (disch := first | omega | assumption) [hq, hA, sg_ne _ hne, sg_m _ _ hq, sg_K _ _ hne hA, og_get hA, sw_len, sw_eq]
 repeat' refine And.intro ?_ ?_
 all_goals first | omega | exact rfl | skip
 refine hK' _ ?_
 clear hK' K'
 simp only [List.drop_succ_cons, List.drop_zero]
 simp (maxSteps := 1000000) (disch := first | omega | assumption) [hq, hA, sg_ne _ hne, sg_m _ _ hq, sg_K _ _ hne hA, og_get hA, sw_len, sw_eq]
 repeat' refine And.intro ?_ ?_
 all_goals first | omega | exact rfl | skip
 refine hK _ ?_
 clear hK K
 clear all
 refine q_then_n ?_
 refine awp_keep [0, 1, 2] (by simp only [keepL_nil, keepL_cons, envOf_sel, envOf_nil, sel_t, sel_f, Nat.reduceBEq] <;> rfl) ?_
 refine awp_drawA (c := ⟨[], [], [], [21, 28, 30, 31, 41, 53], []⟩) [.op ⟨false, false, false, false⟩, .op ⟨false, false, false, false⟩, .op ⟨false, false, false, false⟩, .op ⟨false, false, true, false⟩, .op ⟨false, false, false, false⟩, .op ⟨false, false, false, false⟩, .op ⟨false, false, false, false⟩, .op ⟨false, false, true, false⟩, .op ⟨false, false, false, false⟩, .op ⟨false, false, false, false⟩, .op ⟨false, false, false, false⟩, .op ⟨false, false, true, false⟩, .op ⟨false, false, false, false⟩, .op ⟨false, false, false, false⟩, .op ⟨false, false, false, false⟩, .op ⟨false, false, true, false⟩, .op ⟨false, false, false, false⟩, .op ⟨false, false, false, false⟩, .op ⟨false, false, false, false⟩, .op ⟨false, false, true, false⟩, .op ⟨false, false, false, false⟩, .op ⟨false, false, false, false⟩, .op ⟨false, false, false, false⟩, .op ⟨false, false, true, false⟩, .op ⟨false, false, false, false⟩, .op ⟨false, false, false, false⟩, .op ⟨false, false, true, true⟩, .op ⟨false, false, false, false⟩, .op ⟨false, false, true, true⟩, .op ⟨false, false, true, true⟩, .op ⟨false, false, false, false⟩, .op ⟨false, false, true, true⟩] (by kernel_rfl) (by kernel_rfl) (by simp only [lite_cons, lite_nil] <;> rfl) fun all hall K hK => ?_
 clear hall
 refine vcDL_split 8 (by simp) fun K' hK' => ?_
 simp (maxSteps := 1000000) (disch := first | omega | assumption) [hq, hA, sg_ne _ hne, sg_m _ _ hq, sg_K _ _ hne hA, og_get hA, sw_len, sw_eq]
 repeat' refine And.intro ?_ ?_
 all_goals first | omega | exact rfl | skip
 refine hK' _ ?_
 clear hK' K'
 simp only [List.drop_succ_cons, List.drop_zero]
 refine vcDL_split 8 (by simp) fun K' hK' => ?_
 simp (maxSteps := 1000000) (disch := first | omega | assumption) [hq, hA, sg_ne _ hne, sg_m _ _ hq, sg_K _ _ hne hA, og_get hA, sw_len, sw_eq]
 repeat' refine And.intro ?_ ?_
 all_goals first | omega | exact rfl | skip
 refine hK' _ ?_
 clear hK' K'
 simp only [List.drop_succ_cons, List.drop_zero]
 refine vcDL_split 8 (by simp) fun K' hK' => ?_
 simp (maxSteps := 1000000) (disch := first | omega | assumption) [hq, hA, sg_ne _ hne, sg_m _ _ hq, sg_K _ _ hne hA, og_get hA, sw_len, sw_eq]
 repeat' refine And.intro ?_ ?_
 all_goals first | omega | exact rfl | skip
 refine hK' _ ?_
 clear hK' K'
 simp only [List.drop_succ_cons, List.drop_zero]
 refine vcDL_split 3 (by simp) fun K' hK' => ?_
 simp (maxSteps := 1000000) (disch := first | omega | assumption) [hq, hA, sg_ne _ hne, sg_m _ _ hq, sg_K _ _ hne hA, og_get hA, sw_len, sw_eq]
 refine ⟨m, 1, h.ck, _, h.ck, _, v1, s1, ⟨⟨_, sg_ne _ hne |>.trans hq, rfl⟩, keyI _, he1⟩, ?_⟩
 rw [putM_eq (sg_ne _ hne |>.trans hq)]
 simp only [List.set_cons_zero, List.set_cons_succ, List.set_set]
 repeat' refine And.intro ?_ ?_
 all_goals first | omega | exact rfl | skip
 refine hK' _ ?_
 clear hK' K'
 simp only [List.drop_succ_cons, List.drop_zero]
 refine vcDL_split 2 (by simp) fun K' hK' => ?_
 simp (maxSteps := 1000000) (disch := first | omega | assumption) [hq, hA, sg_ne _ hne, sg_m _ _ hq, sg_K _ _ hne hA, og_get hA, sw_len, sw_eq]
 refine ⟨m, 1, h.ck, _, _, ⟨⟨_, sg_m _ _ hq, rfl⟩, ho1 _⟩, ?_⟩
 rw [putM_eq (sg_m _ _ hq)]
 simp only [List.set_cons_zero, List.set_cons_succ, List.set_set]
 repeat' refine And.intro ?_ ?_
 all_goals first | omega | exact rfl | skip
 refine hK' _ ?_
 clear hK' K'
 simp only [List.drop_succ_cons, List.drop_zero]
 refine vcDL_split 1 (by simp) fun K' hK' => ?_
 simp (maxSteps := 1000000) (disch := first | omega | assumption) [hq, hA, sg_ne _ hne, sg_m _ _ hq, sg_K _ _ hne hA, og_get hA, sw_len, sw_eq]
 refine ⟨m, 1, h.ck, _, h.ck, _, v2, s2, ⟨⟨_, sg_m _ _ hq, rfl⟩, keyI _, he2⟩, ?_⟩
 rw [putM_eq (sg_m _ _ hq)]
 simp only [List.set_cons_zero, List.set_cons_succ, List.set_set]
 repeat' refine And.intro ?_ ?_
 all_goals first | omega | exact rfl | skip
 refine hK' _ ?_
 clear hK' K'
 simp only [List.drop_succ_cons, List.drop_zero]
 simp (maxSteps := 1000000) (disch := first | omega | assumption) [hq, hA, sg_ne _ hne, sg_m _ _ hq, sg_K _ _ hne hA, og_get hA, sw_len, sw_eq]
 refine ⟨m, 1, h.ck, _, _, ⟨⟨_, sg_m _ _ hq, rfl⟩, ho2 _⟩, ?_⟩
 rw [putM_eq (sg_m _ _ hq)]
 simp only [List.set_cons_zero, List.set_cons_succ, List.set_set]
 repeat' refine And.intro ?_ ?_
 all_goals first | omega | exact rfl | skip
 refine hK _ ?_
 clear hK K
 clear all
 simp [endQ, hswap, sw_len]
 rw [at_get _ _ hsi, at_get _ _ hsj]
def hpush (h : HP) (t : Tm) : HP := ⟨h.ts ++ [t], h.ck + 1, h.kv ++ [(t.token, h.ck, (h.ts.length : Int))]⟩
def hcut (h : HP) : HP := ⟨h.ts.take (h.ts.length - 1), h.ck, kvdel h.kv (at_ h.ts (h.ts.length - 1)).token⟩
theorem ppush_fn (m M : Nat) (h : HP) (t : Tm) (σ : List (List D)) (hq : σ[m]? = some (dhp M h)) (hk : HPok h) (hf : t.token ∉ h.kv.map (·.1)) (hc : h.ts.length < 100000) : Ct Try.prog 120 [.ref m 0, .ifc 36 (d_Tm t)] σ (fun r σ' => r = .tup [] ∧ σ' = σ.set m (dhp M (hpush h t))) := by
 refine fn_start (rs := []) Try.func120 rfl rfl Try.ntmps120 Try.results120 (by simp) ?_
 simp only [argEnv]
 have hl := hk.len
 refine awp_seq ?_
 refine awp_regionA (c := ⟨[22], [], [], [17], [25]⟩) (by simp only [lite_cons, lite_nil] <;> rfl) fun all hall K hK => ?_
 clear hall
 simp (maxSteps := 1000000) (disch := first | omega | assumption) [hq, og_get hq]
 repeat' refine And.intro ?_ ?_
 all_goals first | omega | exact rfl | skip
 refine hK _ ?_
 clear hK K
 clear all
 refine q_then_n ?_
 refine awp_seq ?_
 refine awp_drawA (c := ⟨[22], [], [], [17], [25]⟩) [.op ⟨false, false, false, false⟩, .op ⟨false, false, false, false⟩, .op ⟨false, false, false, false⟩, .op ⟨false, false, true, false⟩, .op ⟨false, false, false, false⟩, .op ⟨true, false, false, false⟩, .op ⟨false, false, false, false⟩, .op ⟨false, false, false, false⟩, .op ⟨false, false, false, false⟩, .op ⟨false, false, true, false⟩, .op ⟨false, false, false, false⟩, .op ⟨false, false, true, true⟩] (by kernel_rfl) (by kernel_rfl) (by simp only [lite_cons, lite_nil] <;> rfl) fun all hall K hK => ?_
 clear hall
 refine vcDL_split 8 (by simp) fun K' hK' => ?_
 simp (maxSteps := 1000000) (disch := first | omega | assumption) [hq, og_get hq]
 repeat' refine And.intro ?_ ?_
 all_goals first | omega | exact rfl | skip
 refine hK' _ ?_
 clear hK' K'
 simp only [List.drop_succ_cons, List.drop_zero]
 simp (maxSteps := 1000000) (disch := first | omega | assumption) [hq, og_get hq]
 refine ⟨m, 1, h.ck, _, h.ck + 1, _, ⟨⟨_, hq, rfl⟩, keyI _, kv_upd h.ck _ hf⟩, ?_⟩
 rw [putM_eq hq]
 simp only [List.set_cons_zero, List.set_cons_succ, List.set_set]
 repeat' refine And.intro ?_ ?_
 all_goals first | omega | exact rfl | skip
 refine hK _ ?_
 clear hK K
 clear all
 refine q_then_n ?_
 refine awp_keep [0, 4] (by simp only [keepL_nil, keepL_cons, envOf_sel, envOf_nil, sel_t, sel_f, Nat.reduceBEq] <;> rfl) ?_
 refine awp_drawA (c := ⟨[22], [], [], [17], [25]⟩) [.op ⟨false, false, false, false⟩, .op ⟨false, false, false, false⟩, .op ⟨false, false, false, false⟩, .op ⟨false, false, false, false⟩, .op ⟨false, false, true, true⟩, .op ⟨true, false, false, false⟩, .op ⟨false, false, false, false⟩, .op ⟨false, false, true, false⟩, .op ⟨false, false, false, false⟩, .op ⟨false, false, false, false⟩, .op ⟨false, false, true, true⟩] (by kernel_rfl) (by kernel_rfl) (by simp only [lite_cons, lite_nil] <;> rfl) fun all hall K hK => ?_
 clear hall
 refine vcDL_split 8 (by simp) fun K' hK' => ?_
 simp (maxSteps := 1000000) (disch := first | omega | assumption) [hq, og_get hq]
 refine ⟨[d_Tm t], ⟨rfl, by simp, rfl⟩, ⟨by simp; omega, by simp; omega⟩, ?_⟩
 repeat' refine And.intro ?_ ?_
 all_goals first | omega | exact rfl | skip
 refine hK' _ ?_
 clear hK' K'
 simp only [List.drop_succ_cons, List.drop_zero]
 simp (maxSteps := 1000000) (disch := first | omega | assumption) [hq, og_get hq]
 repeat' refine And.intro ?_ ?_
 all_goals first | omega | exact rfl | skip
 refine hK _ ?_
 clear hK K
 clear all
 simp [endQ, hpush]
theorem ppop_fn (m M A cap : Nat) (rest : List D) (h : HP) (σ : List (List D)) (hq : σ[m]? = some (dho A cap M h)) (hA : σ[A]? = some (h.ts.flatMap ct ++ rest)) (hne : A ≠ m) (hk : HPok h) (h0 : 0 < h.ts.length) : Ct Try.prog 119 [.ref m 0] σ (fun r σ' => r = .ifc 36 (d_Tm (at_ h.ts (h.ts.length - 1))) ∧ σ' = σ.set m (dho A cap M (hcut h))) := by
 refine fn_start (rs := [.tmp 2]) Try.func119 rfl rfl Try.ntmps119 Try.results119 (by simp) ?_
 simp only [argEnv]
 have hl := hk.len
 have h1 : h.ts.length - 1 < h.ts.length := by omega
 have e1 : ((h.ts.length : Int) - 1) = ((h.ts.length - 1 : Nat) : Int) := by omega
 refine awp_seq ?_
 refine awp_regionA (c := ⟨[], [], [], [9, 16, 24], []⟩) (by simp only [lite_cons, lite_nil] <;> rfl) fun all hall K hK => ?_
 clear hall
 simp (maxSteps := 1000000) (disch := first | omega | assumption) [hq, hA, sg_ne' _ hne, og_get hq]
 repeat' refine And.intro ?_ ?_
 all_goals first | omega | exact rfl | skip
 refine hK _ ?_
 clear hK K
 clear all
 refine q_then_n ?_
 refine awp_seq ?_
 refine awp_regionA (c := ⟨[], [], [], [9, 16, 24], []⟩) (by simp only [lite_cons, lite_nil] <;> rfl) fun all hall K hK => ?_
 clear hall
 simp (maxSteps := 1000000) (disch := first | omega | assumption) [hq, hA, sg_ne' _ hne, og_get hq]
 repeat' refine And.intro ?_ ?_
 all_goals first | omega | exact rfl | skip
 refine hK _ ?_
 clear hK K
 clear all
 refine q_then_n ?_
 refine awp_seq ?_
 refine awp_regionA (c := ⟨[], [], [], [9, 16, 24], []⟩) (by simp only [lite_cons, lite_nil] <;> rfl) fun all hall K hK => ?_
 clear hall
 refine vcL_split 8 fun K' hK' => ?_
 simp (maxSteps := 1000000) (disch := first | omega | assumption) [hq, hA, sg_ne' _ hne, og_get hq]
 repeat' refine And.intro ?_ ?_
 all_goals first | omega | exact rfl | skip
 refine hK' _ ?_
 clear hK' K'
 simp only [List.drop_succ_cons, List.drop_zero]
 simp (maxSteps := 1000000) (disch := first | omega | assumption) [hq, hA, sg_ne' _ hne, og_get hq]
 repeat' refine And.intro ?_ ?_
 all_goals first | omega | exact rfl | skip
 refine hK _ ?_
 clear hK K
 clear all
 refine q_then_n ?_
 refine awp_seq ?_
 refine awp_keep [0, 2, 3, 4] (by simp only [keepL_nil, keepL_cons, envOf_sel, envOf_nil, sel_t, sel_f, Nat.reduceBEq] <;> rfl) ?_
 refine awp_regionA (c := ⟨[], [], [], [9, 16, 24], []⟩) (by simp only [lite_cons, lite_nil] <;> rfl) fun all hall K hK => ?_
 clear hall
 refine vcL_split 8 fun K' hK' => ?_
 simp (maxSteps := 1000000) (disch := first | omega | assumption) [hq, hA, sg_ne' _ hne, og_get hq]
 repeat' refine And.intro ?_ ?_
 all_goals first | omega | exact rfl | skip
 refine hK' _ ?_
 clear hK' K'
 simp only [List.drop_succ_cons, List.drop_zero]
 simp (maxSteps := 1000000) (disch := first | omega | assumption) [hq, hA, sg_ne' _ hne, og_get hq]
 repeat' refine And.intro ?_ ?_
 all_goals first | omega | exact rfl | skip
 refine hK _ ?_
 clear hK K
 clear all
 refine q_then_n ?_
 refine awp_seq ?_
 refine awp_keep [0, 2, 4] (by simp only [keepL_nil, keepL_cons, envOf_sel, envOf_nil, sel_t, sel_f, Nat.reduceBEq] <;> rfl) ?_
 refine awp_drawA (c := ⟨[], [], [], [9, 16, 24], []⟩) [.op ⟨false, false, false, false⟩, .op ⟨false, false, false, false⟩, .op ⟨false, false, false, false⟩, .op ⟨false, false, true, false⟩, .op ⟨false, false, false, false⟩, .op ⟨true, false, false, false⟩, .op ⟨false, false, true, true⟩] (by kernel_rfl) (by kernel_rfl) (by simp only [lite_cons, lite_nil] <;> rfl) fun all hall K hK => ?_
 clear hall
 simp (maxSteps := 1000000) (disch := first | omega | assumption) [hq, hA, sg_ne' _ hne, og_get hq]
 refine ⟨m, 1, h.ck, _, _, ⟨⟨_, og_get hq _, rfl⟩, keyI _, kv_dele hk.nd (hk.mem h1)⟩, ?_⟩
 rw [putM_eq (og_get hq _)]
 simp only [List.set_cons_zero, List.set_cons_succ, List.set_set]
 repeat' refine And.intro ?_ ?_
 all_goals first | omega | exact rfl | skip
 refine hK _ ?_
 clear hK K
 clear all
 refine q_then_n ?_
 refine awp_seq ?_
 refine awp_regionA (c := ⟨[], [], [], [9, 16, 24], []⟩) (by simp only [lite_cons, lite_nil] <;> rfl) fun all hall K hK => ?_
 clear hall
 simp (maxSteps := 1000000) (disch := first | omega | assumption) [hq, hA, sg_ne' _ hne, og_get hq]
 repeat' refine And.intro ?_ ?_
 all_goals first | omega | exact rfl | skip
 refine hK _ ?_
 clear hK K
 clear all
 refine q_then_n ?_
 refine awp_ret ?_
 simp [endQ, hcut, at_get _ _ h1]
theorem nodup_inj {α : Type} {l : List α} (h : l.Nodup) {i j : Nat} (hi : i < l.length) (hj : j < l.length) (e : l[i] = l[j]) : i = j := by
 have hp := List.pairwise_iff_getElem.1 h
 rcases Nat.lt_trichotomy i j with h1 | h1 | h1
 ·exact absurd e (hp i j hi hj h1)
 ·exact h1
 ·exact absurd e.symm (hp j i hj hi h1)
theorem sw_perm (l : List Tm) (i j : Nat) (hi : i < l.length) (hj : j < l.length) : (sw l i j).Perm l := by
 rw [← sw_eq l i j hi hj]
 have h := Array.swap_perm (xs := l.toArray) (i := i) (j := j) (by simpa using hi) (by simpa using hj)
 have h2 := h.toList
 rw [Array.toList_swap] at h2
 simpa using h2
theorem nodup_tok {l : List Tm} (h : (l.map (·.token)).Nodup) {i j : Nat} (hi : i < l.length) (hj : j < l.length) (e : l[i].token = l[j].token) : i = j := by
 have h1 : (l.map (·.token))[i]'(by simpa using hi) = (l.map (·.token))[j]'(by simpa using hj) := by simpa using e
 exact nodup_inj h _ _ h1
theorem kvset_mem {kv : List (Int × Nat × Int)} {k v k' : Int} {s : Nat} {v' : Int} (h : (k', s, v') ∈ kv) : (k', s, if k' = k then v else v') ∈ kvset kv k v := by
 unfold kvset
 refine List.mem_map.2 ⟨_, h, ?_⟩
 dsimp only
 split <;> rfl
theorem HPok.swap {h : HP} (hk : HPok h) {i j : Nat} (hi : i < h.ts.length) (hj : j < h.ts.length) : HPok (hswap h i j) := by
 have hp := sw_perm h.ts i j hi hj
 have ht : (toks (hswap h i j)).Perm (toks h) := hp.map _
 have hkeys : keys (hswap h i j) = keys h := by unfold keys hswap; rw [kvset_keys, kvset_keys]
 refine ⟨by unfold hswap; rw [sw_len]; exact hk.len, by rw [hkeys]; exact hk.nd, ht.nodup_iff.2 hk.tnd, fun k hkl => ?_, fun k hkk => ?_⟩
 ·have hkl' : k < (sw h.ts i j).length := hkl
  have hl : k < h.ts.length := by rw [sw_len] at hkl'; exact hkl'
  have hsi : i < (sw h.ts i j).length := by rw [sw_len]; exact hi
  have hsj : j < (sw h.ts i j).length := by rw [sw_len]; exact hj
  obtain ⟨s, v, hs⟩ : ∃ s v, ((sw h.ts i j)[k].token, s, v) ∈ h.kv := by
   have := hk.mem_sw hi hj hkl'
   obtain ⟨e, he, h2⟩ := List.mem_map.1 this
   exact ⟨e.2.1, e.2.2, by rw [← h2]; exact he⟩
  have h1 := kvset_mem (k := (sw h.ts i j)[i].token) (v := i) hs
  have h2 := kvset_mem (k := (sw h.ts i j)[j].token) (v := j) h1
  refine ⟨s, ?_⟩
  show ((sw h.ts i j)[k].token, s, (k : Int)) ∈ kvset (kvset h.kv (at_ (sw h.ts i j) i).token i) (at_ (sw h.ts i j) j).token j
  rw [at_get _ _ hsi, at_get _ _ hsj]
  have hn : ((sw h.ts i j).map (·.token)).Nodup := ht.nodup_iff.2 hk.tnd
  by_cases ej : k = j
  ·subst ej; rw [if_pos rfl] at h2; exact h2
  ·rw [if_neg fun e => ej (nodup_tok hn hkl' hsj e)] at h2
   by_cases ei : k = i
   ·subst ei; rw [if_pos rfl] at h2; exact h2
   ·rw [if_neg fun e => ei (nodup_tok hn hkl' hsi e)] at h2
    obtain ⟨s', hs'⟩ := hk.ix k hl
    have hg : (sw h.ts i j)[k] = h.ts[k] := by rw [sw_get _ _ _ _ hi hj hkl', if_neg ej, if_neg ei]
    rw [hg] at hs h2 ⊢
    have : s = s' ∧ v = k := by
     obtain ⟨a, ha, hae⟩ := List.getElem_of_mem hs
     obtain ⟨b, hb, hbe⟩ := List.getElem_of_mem hs'
     have hab : a = b := by
      have h3 : (h.kv.map (·.1))[a]'(by simpa using ha) = (h.kv.map (·.1))[b]'(by simpa using hb) := by simp [hae, hbe]
      exact nodup_inj hk.nd _ _ h3
     subst hab
     rw [hae] at hbe
     simp only [Prod.mk.injEq, true_and] at hbe
     exact hbe
    obtain ⟨rfl, rfl⟩ := this
    exact h2
 ·rw [hkeys] at hkk
  exact ht.mem_iff.2 (hk.only k hkk)
theorem HPok.key_iff {h : HP} (hk : HPok h) {k : Int} : k ∈ keys h ↔ k ∈ toks h := by
 refine ⟨hk.only k, fun hm => ?_⟩
 have hm' : k ∈ h.ts.map (·.token) := hm
 obtain ⟨t, ht, rfl⟩ := List.mem_map.1 hm'
 obtain ⟨i, hi, rfl⟩ := List.getElem_of_mem ht
 exact hk.mem hi
theorem HPok.push {h : HP} (hk : HPok h) {t : Tm} (hf : t.token ∉ toks h) (hl : h.ts.length < 100000) : HPok (hpush h t) := by
 have hf' : t.token ∉ h.kv.map (·.1) := fun hm => hf (hk.key_iff.1 hm)
 refine ⟨by simp [hpush]; omega, ?_, ?_, fun i hi => ?_, fun k hkk => ?_⟩
 ·show ((h.kv ++ [(t.token, h.ck, (h.ts.length : Int))]).map (·.1)).Nodup
  rw [List.map_append, List.nodup_append]
  refine ⟨hk.nd, by simp, fun a ha b hb => ?_⟩
  simp only [List.map_cons, List.map_nil, List.mem_singleton] at hb
  subst hb
  rintro rfl; exact hf' ha
 ·show ((h.ts ++ [t]).map (·.token)).Nodup
  rw [List.map_append, List.nodup_append]
  refine ⟨hk.tnd, by simp, fun a ha b hb => ?_⟩
  simp only [List.map_cons, List.map_nil, List.mem_singleton] at hb
  subst hb
  rintro rfl; exact hf ha
 ·have hi' : i < (h.ts ++ [t]).length := hi
  show ∃ s, ((h.ts ++ [t])[i].token, s, (i : Int)) ∈ h.kv ++ [(t.token, h.ck, (h.ts.length : Int))]
  by_cases e : i < h.ts.length
  ·obtain ⟨s, hs⟩ := hk.ix i e
   exact ⟨s, by rw [List.getElem_append_left e]; exact List.mem_append_left _ hs⟩
  ·have e2 : i = h.ts.length := by simp at hi'; omega
   subst e2
   exact ⟨h.ck, by simp⟩
 ·show k ∈ (h.ts ++ [t]).map (·.token)
  have : k ∈ (h.kv ++ [(t.token, h.ck, (h.ts.length : Int))]).map (·.1) := hkk
  rw [List.map_append, List.mem_append] at this ⊢
  rcases this with h1 | h1
  ·exact .inl (hk.only k h1)
  ·right; simpa using h1
theorem HPok.cut {h : HP} (hk : HPok h) (h0 : 0 < h.ts.length) : HPok (hcut h) := by
 have h1 : h.ts.length - 1 < h.ts.length := by omega
 have hke : ∀ k, k ∈ keys (hcut h) ↔ k ∈ keys h ∧ k ≠ h.ts[h.ts.length - 1].token := fun k => by
  unfold keys hcut kvdel
  dsimp only
  rw [at_get _ _ h1]
  constructor
  ·intro hm
   obtain ⟨e, he, rfl⟩ := List.mem_map.1 hm
   obtain ⟨h2, h3⟩ := List.mem_filter.1 he
   exact ⟨List.mem_map_of_mem h2, by simpa using h3⟩
  ·rintro ⟨hm, hne⟩
   obtain ⟨e, he, rfl⟩ := List.mem_map.1 hm
   exact List.mem_map_of_mem (List.mem_filter.2 ⟨he, by simpa using hne⟩)
 refine ⟨by simp [hcut]; have := hk.len; omega, ?_, ?_, fun i hi => ?_, fun k hkk => ?_⟩
 ·exact hk.nd.sublist (List.filter_sublist.map _)
 ·exact hk.tnd.sublist ((List.take_sublist _ _).map _)
 ·have hi' : i < h.ts.length - 1 := by simp [hcut] at hi; omega
  obtain ⟨s, hs⟩ := hk.ix i (by omega)
  refine ⟨s, ?_⟩
  have hi2 : i < (h.ts.take (h.ts.length - 1)).length := hi
  show ((h.ts.take (h.ts.length - 1))[i].token, s, (i : Int)) ∈ kvdel h.kv (at_ h.ts (h.ts.length - 1)).token
  rw [List.getElem_take, at_get _ _ h1]
  refine List.mem_filter.2 ⟨hs, ?_⟩
  simp only [ne_eq, decide_not, Bool.not_eq_true', decide_eq_false_iff_not]
  intro e
  have := nodup_tok hk.tnd (by omega) h1 e
  omega
 ·obtain ⟨h2, h3⟩ := (hke k).1 hkk
  have h4 := hk.only k h2
  have h4' : k ∈ h.ts.map (·.token) := h4
  obtain ⟨t, ht, rfl⟩ := List.mem_map.1 h4'
  obtain ⟨i, hi, rfl⟩ := List.getElem_of_mem ht
  have : i ≠ h.ts.length - 1 := by rintro rfl; exact h3 rfl
  show h.ts[i].token ∈ (h.ts.take (h.ts.length - 1)).map (·.token)
  exact List.mem_map_of_mem (List.mem_iff_getElem.2 ⟨i, by simp; omega, by simp⟩)
theorem hswap_len (h : HP) (i j : Nat) : (hswap h i j).ts.length = h.ts.length := sw_len _ _ _
def hup (h : HP) (j : Nat) : HP :=
 if _c : 0 < j ∧ tlt (at_ h.ts j) (at_ h.ts ((j - 1) / 2)) then hup (hswap h ((j - 1) / 2) j) ((j - 1) / 2) else h
termination_by j
decreasing_by omega
def hpick (h : HP) (i n : Nat) : Nat := if 2 * i + 2 < n ∧ tlt (at_ h.ts (2 * i + 2)) (at_ h.ts (2 * i + 1)) then 2 * i + 2 else 2 * i + 1
theorem hpick_gt (h : HP) (i n : Nat) : i < hpick h i n := by unfold hpick; split <;> omega
theorem hpick_lt (h : HP) (i n : Nat) (hn : 2 * i + 1 < n) : hpick h i n < n := by unfold hpick; split <;> omega
def hdown (h : HP) (i n : Nat) : HP × Nat :=
 if _c : 2 * i + 1 < n ∧ tlt (at_ h.ts (hpick h i n)) (at_ h.ts i) then hdown (hswap h i (hpick h i n)) (hpick h i n) n else (h, i)
termination_by n - i
decreasing_by have := hpick_gt h i n; have := hpick_lt h i n _c.1; omega
theorem hup_yes {h : HP} {j : Nat} (c : 0 < j) (c2 : tlt (at_ h.ts j) (at_ h.ts ((j - 1) / 2))) : hup h j = hup (hswap h ((j - 1) / 2) j) ((j - 1) / 2) := by rw [hup, dif_pos ⟨c, c2⟩]
theorem hup_no {h : HP} {j : Nat} (c : ¬ (0 < j ∧ tlt (at_ h.ts j) (at_ h.ts ((j - 1) / 2)))) : hup h j = h := by rw [hup, dif_neg c]
theorem hdown_yes {h : HP} {i n : Nat} (c : 2 * i + 1 < n) (c2 : tlt (at_ h.ts (hpick h i n)) (at_ h.ts i)) : hdown h i n = hdown (hswap h i (hpick h i n)) (hpick h i n) n := by rw [hdown, dif_pos ⟨c, c2⟩]
theorem hdown_no {h : HP} {i n : Nat} (c : ¬ (2 * i + 1 < n ∧ tlt (at_ h.ts (hpick h i n)) (at_ h.ts i))) : hdown h i n = (h, i) := by rw [hdown, dif_neg c]
theorem hup_ok {h : HP} {j : Nat} (hk : HPok h) (hj : j < h.ts.length) : HPok (hup h j) ∧ (hup h j).ts.length = h.ts.length := by
 induction j using Nat.strongRecOn generalizing h with
 | _ j ih =>
  by_cases c : 0 < j ∧ tlt (at_ h.ts j) (at_ h.ts ((j - 1) / 2))
  ·rw [hup_yes c.1 c.2]
   obtain ⟨a, b⟩ := ih ((j - 1) / 2) (by omega) (h := hswap h ((j - 1) / 2) j) (hk.swap (by omega) hj) (by rw [hswap_len]; omega)
   exact ⟨a, by rw [b, hswap_len]⟩
  ·rw [hup_no c]; exact ⟨hk, rfl⟩
theorem hdown_ok {h : HP} {i n : Nat} (hk : HPok h) (hi : i ≤ n) (hn : n ≤ h.ts.length) : HPok (hdown h i n).1 ∧ (hdown h i n).1.ts.length = h.ts.length := by
 generalize hd : n - i = d
 induction d using Nat.strongRecOn generalizing h i with
 | _ d ih =>
  by_cases c : 2 * i + 1 < n ∧ tlt (at_ h.ts (hpick h i n)) (at_ h.ts i)
  ·rw [hdown_yes c.1 c.2]
   have h1 := hpick_gt h i n
   have h2 := hpick_lt h i n c.1
   obtain ⟨a, b⟩ := ih (n - hpick h i n) (by omega) (h := hswap h i (hpick h i n)) (i := hpick h i n) (hk.swap (by omega) (by omega)) (by omega) (by rw [hswap_len]; exact hn) rfl
   exact ⟨a, by rw [b, hswap_len]⟩
  ·rw [hdown_no c]; exact ⟨hk, rfl⟩
theorem quo2 (j : Nat) : ((j : Int) - 1).tdiv 2 = (((j - 1) / 2 : Nat) : Int) := by
 rcases j with _ | j
 ·rfl
 ·have : ((j + 1 : Nat) : Int) - 1 = (j : Int) := by omega
  rw [this, Nat.add_sub_cancel]; rfl
structure US where
 h : HP
 j : Nat
theorem up_fn (m M A cap : Nat) (rest : List D) (h : HP) (j : Nat) (σ : List (List D)) (hq : σ[m]? = some (dho A cap M h)) (hA : σ[A]? = some (h.ts.flatMap ct ++ rest)) (hne : A ≠ m) (hk : HPok h) (hj : j < h.ts.length) : Ct Try.prog 59 [.ifc 76 (.ref m 0), .int j] σ (fun r σ' => r = .tup [] ∧ σ' = (σ.set A ((hup h j).ts.flatMap ct ++ rest)).set m (dho A cap M (hup h j))) := by
 refine fn_start (rs := []) Try.func59 rfl rfl Try.ntmps59 Try.results59 (by simp) ?_
 simp only [argEnv]
 refine awp_block ?_
 refine awp_loopM (fun (s : US) => [(1, .d (.int s.j))]) (fun (s : US) => []) (fun (s : US) => [(m, dho A cap M (s.h)), (A, (s.h).ts.flatMap ct ++ rest)]) [1, 4, 5, 6, 7, 8, 9, 10, 11, 12, 13, 14, 15, 16, 17, 18, 19, 20, 21, 22] (fun (s : US) => hup s.h s.j = hup h j ∧ HPok s.h ∧ s.h.ts.length = h.ts.length ∧ s.j < h.ts.length) (fun (s : US) => s.j) (⟨h, j⟩) (by simp <;> rfl) ?_ (by simp) (by simp; exact ss_id hq hA) ?_ ?_
 ·simp
 ·exact ⟨rfl, hk, rfl, hj⟩
 rintro ⟨h2, k⟩ ⟨hu, hk2, hl2, hj2⟩
 simp only [List.cons_append, List.nil_append, setL_nil, setL_cons, List.set_cons_zero, List.set_cons_succ]
 dsimp only at hu hk2 hl2 hj2
 have hl := hk2.len
 have hp2 : (k - 1) / 2 < h2.ts.length := by omega
 refine awp_block ?_
 refine awp_seq ?_
 refine awp_regionA (c := ⟨[], [], [], [], []⟩) (by simp only [lite_cons, lite_nil] <;> rfl) fun all hall K hK => ?_
 clear hall
 simp (maxSteps := 1000000) (disch := first | omega | assumption) [quo2]
 repeat' refine And.intro ?_ ?_
 all_goals first | omega | exact rfl | skip
 refine hK _ ?_
 clear hK K
 clear all
 refine q_then_n ?_
 refine awp_seq ?_
 refine awp_seq ?_
 refine awp_regionA (c := ⟨[], [], [], [], []⟩) (by simp only [lite_cons, lite_nil] <;> rfl) fun all hall K hK => ?_
 have ga3 : guardOf all 3 = some 11 := hall 3
 clear hall
 refine vcL_split 4 fun K' hK' => ?_
 simp (maxSteps := 1000000) (disch := first | omega | assumption) [quo2, ga3]
 repeat' refine And.intro ?_ ?_
 all_goals first | omega | exact rfl | skip
 refine hK' _ ?_
 clear hK' K'
 simp only [List.drop_succ_cons, List.drop_zero]
 refine vcL_bool 11 (by simp <;> rfl) ?_
 refine ⟨fun g1 => ?_, fun g1 => ?_⟩
 ·try simp at g1
  simp (maxSteps := 1000000) (disch := first | omega | assumption) [quo2, ga3]
  repeat' refine And.intro ?_ ?_
  all_goals first | omega | exact rfl | skip
  refine hK _ ?_
  clear hK K
  clear ga3
  clear all
  refine q_then_n ?_
  refine awp_cond (t := true) (by simp) (fun _ => ?_) (fun h => by cases h)
  refine awp_exit ?_
  refine q_then_e ?_
  refine q_block_o (by decide) ?_
  refine q_loop_e ?_
  refine q_block_e ?_
  rw [hup_no (by omega)] at hu
  subst hu
  simp [endQ]
 ·try simp at g1
  refine vcL_split 3 fun K' hK' => ?_
  simp (maxSteps := 1000000) (disch := first | omega | assumption) [quo2, ga3]
  repeat' refine And.intro ?_ ?_
  all_goals first | omega | exact rfl | skip
  refine hK' _ ?_
  clear hK' K'
  simp only [List.drop_succ_cons, List.drop_zero]
  refine vcL_gt ga3 (by simp <;> rfl) rfl fun K' hK' => ?_
  simp (maxSteps := 1000000) (disch := first | omega | assumption) [quo2, ga3]
  refine ⟨_, mi76_Less, Ct.mono (Ct.of_le (pless_fn m M A cap rest h2 k ((k - 1) / 2) _ (sg_m _ _ hq) (sg_K _ _ hne hA) hne hk2 (by omega) hp2) (by first | exact leArgs_of rfl | (refine leArgs_of ?_; simp; done) | (refine leArgs_of ?_; simp; rfl) | (simp [leArgs, leArg]; done)) rfl) ?_⟩
  rintro _ _ ⟨hr9, hs9⟩
  subst hr9
  replace hs9 := hs9.symm
  subst hs9
  refine hK' _ ?_
  clear hK' K'
  simp (maxSteps := 1000000) (disch := first | omega | assumption) [quo2, ga3]
  repeat' refine And.intro ?_ ?_
  all_goals first | omega | exact rfl | skip
  refine hK _ ?_
  clear hK K
  clear ga3
  clear all
  refine q_then_n ?_
  refine awp_ifB (by simp <;> rfl) ?_
  refine ⟨fun c2 => ?_, fun c2 => ?_⟩
  ·try simp at c2
   refine awp_exit ?_
   refine q_then_e ?_
   refine q_block_o (by decide) ?_
   refine q_loop_e ?_
   refine q_block_e ?_
   rw [hup_no (fun h9 => by simp_all)] at hu
   subst hu
   simp [endQ]
  ·try simp at c2
   refine awp_skip ?_
   refine q_then_n ?_
   refine awp_seq ?_
   refine awp_keep [0, 1, 4] (by simp only [keepL_nil, keepL_cons, envOf_sel, envOf_nil, sel_t, sel_f, Nat.reduceBEq] <;> rfl) ?_
   refine awp_regionA (c := ⟨[], [], [], [], []⟩) (by simp only [lite_cons, lite_nil] <;> rfl) fun all hall K hK => ?_
   clear hall
   refine vcL_split 3 fun K' hK' => ?_
   simp (maxSteps := 1000000) (disch := first | omega | assumption) [quo2]
   repeat' refine And.intro ?_ ?_
   all_goals first | omega | exact rfl | skip
   refine hK' _ ?_
   clear hK' K'
   simp only [List.drop_succ_cons, List.drop_zero]
   refine vcL_step fun K' hK' => ?_
   simp (maxSteps := 1000000) (disch := first | omega | assumption) [quo2]
   refine ⟨_, mi76_Swap, Ct.mono (Ct.of_le (pswap_fn m M A cap rest h2 ((k - 1) / 2) k _ (sg_m _ _ hq) (sg_K _ _ hne hA) hne hk2 hp2 (by omega)) (by first | exact leArgs_of rfl | (refine leArgs_of ?_; simp; done) | (refine leArgs_of ?_; simp; rfl) | (simp [leArgs, leArg]; done)) rfl) ?_⟩
   rintro _ _ ⟨hr9, hs9⟩
   subst hr9
   replace hs9 := hs9.symm
   subst hs9
   refine hK' _ ?_
   clear hK' K'
   simp only [vcL_nil]
   refine hK _ ?_
   clear hK K
   clear all
   refine q_then_n ?_
   refine awp_regionA (c := ⟨[], [], [], [], []⟩) (by simp only [lite_cons, lite_nil] <;> rfl) fun all hall K hK => ?_
   clear hall
   simp (maxSteps := 1000000) (disch := first | omega | assumption) [quo2]
   repeat' refine And.intro ?_ ?_
   all_goals first | omega | exact rfl | skip
   refine hK _ ?_
   clear hK K
   clear all
   refine q_block_n ?_
   refine q_round (⟨hswap h2 ((k - 1) / 2) k, (k - 1) / 2⟩) ?_ ?_ (weak_mkA rfl ?_ (by simp) (by simp [ss_ne _ _ _ hne]))
   ·exact ⟨by rw [← hu]; exact (hup_yes (by omega) c2).symm, hk2.swap (by omega) (by omega), by rw [hswap_len]; exact hl2, by dsimp only; omega⟩
   ·try dsimp only
    omega
   ·simp (maxSteps := 1000000) (disch := first | omega | assumption) [quo2]
theorem down_fn (m M A cap : Nat) (rest : List D) (h : HP) (i n : Nat) (σ : List (List D)) (hq : σ[m]? = some (dho A cap M h)) (hA : σ[A]? = some (h.ts.flatMap ct ++ rest)) (hne : A ≠ m) (hk : HPok h) (hi : i ≤ n) (hn : n ≤ h.ts.length) : Ct Try.prog 58 [.ifc 76 (.ref m 0), .int i, .int n] σ (fun r σ' => r = .bool (decide (i < (hdown h i n).2)) ∧ σ' = (σ.set A ((hdown h i n).1.ts.flatMap ct ++ rest)).set m (dho A cap M (hdown h i n).1)) := by
 refine fn_start (rs := [.tmp 6]) Try.func58 rfl rfl Try.ntmps58 Try.results58 (by simp) ?_
 simp only [argEnv]
 refine awp_seq ?_
 refine awp_regionA (c := ⟨[], [], [], [], []⟩) (by simp only [lite_cons, lite_nil] <;> rfl) fun all hall K hK => ?_
 clear hall
 simp (maxSteps := 1000000) (disch := first | omega | assumption)
 repeat' refine And.intro ?_ ?_
 all_goals first | omega | exact rfl | skip
 refine hK _ ?_
 clear hK K
 clear all
 refine q_then_n ?_
 refine awp_seq ?_
 refine awp_regionA (c := ⟨[], [], [], [], []⟩) (by simp only [lite_cons, lite_nil] <;> rfl) fun all hall K hK => ?_
 clear hall
 simp (maxSteps := 1000000) (disch := first | omega | assumption)
 repeat' refine And.intro ?_ ?_
 all_goals first | omega | exact rfl | skip
 refine hK _ ?_
 clear hK K
 clear all
 refine q_then_n ?_
 refine awp_seq ?_
 refine awp_block ?_
 refine awp_keep [0, 1, 2, 6, 7] (by simp only [keepL_nil, keepL_cons, envOf_sel, envOf_nil, sel_t, sel_f, Nat.reduceBEq] <;> rfl) ?_
 refine awp_loopM (fun (s : US) => [(7, .d (.int s.j))]) (fun (s : US) => []) (fun (s : US) => [(m, dho A cap M (s.h)), (A, (s.h).ts.flatMap ct ++ rest)]) [7, 8, 9, 10, 12, 13, 14, 15, 16, 17, 18, 19, 20, 21, 22, 23, 24, 25, 26, 27, 28, 29, 30, 31, 32, 33, 34, 35, 36, 37, 38, 39, 40, 41, 42, 43, 44] (fun (s : US) => hdown s.h s.j n = hdown h i n ∧ HPok s.h ∧ s.h.ts.length = h.ts.length ∧ s.j ≤ n) (fun (s : US) => n - s.j) (⟨h, i⟩) (by simp <;> rfl) ?_ (by simp) (by simp; exact ss_id hq hA) ?_ ?_
 ·simp
 ·exact ⟨rfl, hk, rfl, hi⟩
 rintro ⟨h2, k⟩ ⟨hu, hk2, hl2, hj2⟩
 simp only [List.cons_append, List.nil_append, setL_nil, setL_cons, List.set_cons_zero, List.set_cons_succ]
 dsimp only at hu hk2 hl2 hj2
 have hl := hk2.len
 have hp1 := hpick_gt h2 k n
 refine awp_block ?_
 refine awp_seq ?_
 refine awp_regionA (c := ⟨[], [], [], [], []⟩) (by simp only [lite_cons, lite_nil] <;> rfl) fun all hall K hK => ?_
 clear hall
 simp (maxSteps := 1000000) (disch := first | omega | assumption)
 repeat' refine And.intro ?_ ?_
 all_goals first | omega | exact rfl | skip
 refine hK _ ?_
 clear hK K
 clear all
 refine q_then_n ?_
 refine awp_seq ?_
 refine awp_seq ?_
 refine awp_regionA (c := ⟨[], [], [], [], []⟩) (by simp only [lite_cons, lite_nil] <;> rfl) fun all hall K hK => ?_
 have ga3 : guardOf all 3 = some 18 := hall 3
 clear hall
 refine vcL_split 4 fun K' hK' => ?_
 simp (maxSteps := 1000000) (disch := first | omega | assumption) [ga3]
 repeat' refine And.intro ?_ ?_
 all_goals first | omega | exact rfl | skip
 refine hK' _ ?_
 clear hK' K'
 simp only [List.drop_succ_cons, List.drop_zero]
 refine vcL_bool 18 (by simp <;> rfl) ?_
 refine ⟨fun g1 => ?_, fun g1 => ?_⟩
 ·try simp at g1
  simp (maxSteps := 1000000) (disch := first | omega | assumption) [ga3]
  repeat' refine And.intro ?_ ?_
  all_goals first | omega | exact rfl | skip
  refine hK _ ?_
  clear hK K
  clear ga3
  clear all
  refine q_then_n ?_
  refine awp_cond (t := true) (by simp) (fun _ => ?_) (fun h => by cases h)
  refine awp_exit ?_
  refine q_then_e ?_
  refine q_block_o (by decide) ?_
  refine q_loop_e ?_
  refine q_block_e ?_
  refine q_then_n ?_
  refine awp_seq ?_
  refine awp_keep [1, 6, 7] (by simp only [keepL_nil, keepL_cons, envOf_sel, envOf_nil, sel_t, sel_f, Nat.reduceBEq] <;> rfl) ?_
  refine awp_regionA (c := ⟨[], [], [], [], []⟩) (by simp only [lite_cons, lite_nil] <;> rfl) fun all hall K hK => ?_
  clear hall
  simp (maxSteps := 1000000) (disch := first | omega | assumption)
  repeat' refine And.intro ?_ ?_
  all_goals first | omega | exact rfl | skip
  refine hK _ ?_
  clear hK K
  clear all
  refine q_then_n ?_
  refine awp_ret ?_
  rw [hdown_no (by first | exact fun h9 => absurd h9.2 (by assumption) | (rintro ⟨h9, _⟩; omega))] at hu
  rw [← hu]
  simp [endQ]
 ·try simp at g1
  simp (maxSteps := 1000000) (disch := first | omega | assumption) [ga3]
  repeat' refine And.intro ?_ ?_
  all_goals first | omega | exact rfl | skip
  refine hK _ ?_
  clear hK K
  clear ga3
  clear all
  refine q_then_n ?_
  refine awp_ifB (by simp <;> rfl) ?_
  refine ⟨fun c2 => ?_, fun c2 => ?_⟩
  ·try simp at c2
   exfalso; omega
  ·try simp at c2
   refine awp_skip ?_
   refine q_then_n ?_
   refine awp_seq ?_
   refine awp_keep [0, 1, 2, 6, 7, 8] (by simp only [keepL_nil, keepL_cons, envOf_sel, envOf_nil, sel_t, sel_f, Nat.reduceBEq] <;> rfl) ?_
   refine awp_regionA (c := ⟨[], [], [], [], []⟩) (by simp only [lite_cons, lite_nil] <;> rfl) fun all hall K hK => ?_
   clear hall
   simp (maxSteps := 1000000) (disch := first | omega | assumption)
   repeat' refine And.intro ?_ ?_
   all_goals first | omega | exact rfl | skip
   refine hK _ ?_
   clear hK K
   clear all
   refine q_then_n ?_
   refine awp_seq ?_
   refine awp_seq ?_
   refine awp_regionA (c := ⟨[], [], [], [], []⟩) (by simp only [lite_cons, lite_nil] <;> rfl) fun all hall K hK => ?_
   clear hall
   simp (maxSteps := 1000000) (disch := first | omega | assumption)
   repeat' refine And.intro ?_ ?_
   all_goals first | omega | exact rfl | skip
   refine hK _ ?_
   clear hK K
   clear all
   refine q_then_n ?_
   refine awp_seq ?_
   refine awp_regionA (c := ⟨[], [], [], [], []⟩) (by simp only [lite_cons, lite_nil] <;> rfl) fun all hall K hK => ?_
   have ga3 : guardOf all 3 = some 28 := hall 3
   clear hall
   refine vcL_split 4 fun K' hK' => ?_
   simp (maxSteps := 1000000) (disch := first | omega | assumption) [ga3]
   repeat' refine And.intro ?_ ?_
   all_goals first | omega | exact rfl | skip
   refine hK' _ ?_
   clear hK' K'
   simp only [List.drop_succ_cons, List.drop_zero]
   refine vcL_bool 28 (by simp <;> rfl) ?_
   refine ⟨fun g3 => ?_, fun g3 => ?_⟩
   ·try simp at g3
    refine vcL_split 3 fun K' hK' => ?_
    simp (maxSteps := 1000000) (disch := first | omega | assumption) [ga3]
    repeat' refine And.intro ?_ ?_
    all_goals first | omega | exact rfl | skip
    refine hK' _ ?_
    clear hK' K'
    simp only [List.drop_succ_cons, List.drop_zero]
    refine vcL_gt ga3 (by simp <;> rfl) rfl fun K' hK' => ?_
    simp (maxSteps := 1000000) (disch := first | omega | assumption) [ga3]
    rw [show (2 * (k : Int) + 1 + 1) = ((2 * k + 2 : Nat) : Int) from by omega, show (2 * (k : Int) + 1) = ((2 * k + 1 : Nat) : Int) from by omega]
    refine ⟨_, mi76_Less, Ct.mono (Ct.of_le (pless_fn m M A cap rest h2 (2 * k + 2) (2 * k + 1) _ (sg_m _ _ hq) (sg_K _ _ hne hA) hne hk2 (by omega) (by omega)) (by first | exact leArgs_of rfl | (refine leArgs_of ?_; simp; done) | (refine leArgs_of ?_; simp; rfl) | (simp [leArgs, leArg]; done)) rfl) ?_⟩
    rintro _ _ ⟨hr9, hs9⟩
    subst hr9
    replace hs9 := hs9.symm
    subst hs9
    refine hK' _ ?_
    clear hK' K'
    simp (maxSteps := 1000000) (disch := first | omega | assumption) [ga3]
    repeat' refine And.intro ?_ ?_
    all_goals first | omega | exact rfl | skip
    refine hK _ ?_
    clear hK K
    clear ga3
    clear all
    refine q_then_n ?_
    refine awp_ifB (by simp <;> rfl) ?_
    refine ⟨fun c4 => ?_, fun c4 => ?_⟩
    ·try simp at c4
     have hpk : hpick h2 k n = 2 * k + 2 := if_pos ⟨by omega, c4⟩
     refine awp_keep [0, 1, 2, 6, 7, 9, 10] (by simp only [keepL_nil, keepL_cons, envOf_sel, envOf_nil, sel_t, sel_f, Nat.reduceBEq] <;> rfl) ?_
     refine awp_regionA (c := ⟨[], [], [], [], []⟩) (by simp only [lite_cons, lite_nil] <;> rfl) fun all hall K hK => ?_
     clear hall
     simp (maxSteps := 1000000) (disch := first | omega | assumption)
     repeat' refine And.intro ?_ ?_
     all_goals first | omega | exact rfl | skip
     refine hK _ ?_
     clear hK K
     clear all
     refine q_then_n ?_
     refine awp_seq ?_
     refine awp_seq ?_
     refine awp_regionA (c := ⟨[], [], [], [], []⟩) (by simp only [lite_cons, lite_nil] <;> rfl) fun all hall K hK => ?_
     clear hall
     refine vcL_split 3 fun K' hK' => ?_
     simp (maxSteps := 1000000) (disch := first | omega | assumption)
     repeat' refine And.intro ?_ ?_
     all_goals first | omega | exact rfl | skip
     refine hK' _ ?_
     clear hK' K'
     simp only [List.drop_succ_cons, List.drop_zero]
     refine vcL_step fun K' hK' => ?_
     simp (maxSteps := 1000000) (disch := first | omega | assumption)
     first | rw [show (2 * (k : Int) + 2) = ((hpick h2 k n : Nat) : Int) from by omega] | rw [show (2 * (k : Int) + 1) = ((hpick h2 k n : Nat) : Int) from by omega] | trace_state
     refine ⟨_, mi76_Less, Ct.mono (Ct.of_le (pless_fn m M A cap rest h2 (hpick h2 k n) k _ (sg_m _ _ hq) (sg_K _ _ hne hA) hne hk2 (by omega) (by omega)) (by first | exact leArgs_of rfl | (refine leArgs_of ?_; simp; done) | (refine leArgs_of ?_; simp; rfl) | (simp [leArgs, leArg]; done)) rfl) ?_⟩
     rintro _ _ ⟨hr9, hs9⟩
     subst hr9
     replace hs9 := hs9.symm
     subst hs9
     refine hK' _ ?_
     clear hK' K'
     simp (maxSteps := 1000000) (disch := first | omega | assumption)
     repeat' refine And.intro ?_ ?_
     all_goals first | omega | exact rfl | skip
     refine hK _ ?_
     clear hK K
     clear all
     refine q_then_n ?_
     refine awp_ifB (by simp <;> rfl) ?_
     refine ⟨fun c5 => ?_, fun c5 => ?_⟩
     ·try simp at c5
      refine awp_exit ?_
      refine q_then_e ?_
      refine q_block_o (by decide) ?_
      refine q_loop_e ?_
      refine q_block_e ?_
      refine q_then_n ?_
      refine awp_seq ?_
      refine awp_keep [1, 6, 7] (by simp only [keepL_nil, keepL_cons, envOf_sel, envOf_nil, sel_t, sel_f, Nat.reduceBEq] <;> rfl) ?_
      refine awp_regionA (c := ⟨[], [], [], [], []⟩) (by simp only [lite_cons, lite_nil] <;> rfl) fun all hall K hK => ?_
      clear hall
      simp (maxSteps := 1000000) (disch := first | omega | assumption)
      repeat' refine And.intro ?_ ?_
      all_goals first | omega | exact rfl | skip
      refine hK _ ?_
      clear hK K
      clear all
      refine q_then_n ?_
      refine awp_ret ?_
      rw [hdown_no (by first | exact fun h9 => absurd h9.2 (by assumption) | (rintro ⟨h9, _⟩; omega))] at hu
      rw [← hu]
      simp [endQ]
     ·try simp at c5
      refine awp_skip ?_
      refine q_then_n ?_
      refine awp_seq ?_
      refine awp_keep [0, 1, 2, 6, 7, 9] (by simp only [keepL_nil, keepL_cons, envOf_sel, envOf_nil, sel_t, sel_f, Nat.reduceBEq] <;> rfl) ?_
      refine awp_regionA (c := ⟨[], [], [], [], []⟩) (by simp only [lite_cons, lite_nil] <;> rfl) fun all hall K hK => ?_
      clear hall
      refine vcL_split 3 fun K' hK' => ?_
      simp (maxSteps := 1000000) (disch := first | omega | assumption)
      repeat' refine And.intro ?_ ?_
      all_goals first | omega | exact rfl | skip
      refine hK' _ ?_
      clear hK' K'
      simp only [List.drop_succ_cons, List.drop_zero]
      refine vcL_step fun K' hK' => ?_
      simp (maxSteps := 1000000) (disch := first | omega | assumption)
      first | rw [show (2 * (k : Int) + 2) = ((hpick h2 k n : Nat) : Int) from by omega] | rw [show (2 * (k : Int) + 1) = ((hpick h2 k n : Nat) : Int) from by omega] | trace_state
      refine ⟨_, mi76_Swap, Ct.mono (Ct.of_le (pswap_fn m M A cap rest h2 k (hpick h2 k n) _ (sg_m _ _ hq) (sg_K _ _ hne hA) hne hk2 (by omega) (by omega)) (by first | exact leArgs_of rfl | (refine leArgs_of ?_; simp; done) | (refine leArgs_of ?_; simp; rfl) | (simp [leArgs, leArg]; done)) rfl) ?_⟩
      rintro _ _ ⟨hr9, hs9⟩
      subst hr9
      replace hs9 := hs9.symm
      subst hs9
      refine hK' _ ?_
      clear hK' K'
      simp only [vcL_nil]
      refine hK _ ?_
      clear hK K
      clear all
      refine q_then_n ?_
      refine awp_regionA (c := ⟨[], [], [], [], []⟩) (by simp only [lite_cons, lite_nil] <;> rfl) fun all hall K hK => ?_
      clear hall
      simp (maxSteps := 1000000) (disch := first | omega | assumption)
      repeat' refine And.intro ?_ ?_
      all_goals first | omega | exact rfl | skip
      refine hK _ ?_
      clear hK K
      clear all
      refine q_block_n ?_
      refine q_round (⟨hswap h2 k (hpick h2 k n), hpick h2 k n⟩) ?_ ?_ (weak_mkA rfl ?_ (by simp) (by simp [ss_ne _ _ _ hne]))
      ·exact ⟨by rw [← hu]; exact (hdown_yes (by omega) (by assumption)).symm, hk2.swap (by omega) (by omega), by rw [hswap_len]; exact hl2, by dsimp only; omega⟩
      ·try dsimp only
       omega
      ·simp (maxSteps := 1000000) (disch := first | omega | assumption) [hpk]
    ·try simp at c4
     have hpk : hpick h2 k n = 2 * k + 1 := if_neg fun h9 => c4 h9.2
     refine awp_skip ?_
     refine q_then_n ?_
     refine awp_seq ?_
     refine awp_seq ?_
     refine awp_keep [0, 1, 2, 6, 7, 9] (by simp only [keepL_nil, keepL_cons, envOf_sel, envOf_nil, sel_t, sel_f, Nat.reduceBEq] <;> rfl) ?_
     refine awp_regionA (c := ⟨[], [], [], [], []⟩) (by simp only [lite_cons, lite_nil] <;> rfl) fun all hall K hK => ?_
     clear hall
     refine vcL_split 3 fun K' hK' => ?_
     simp (maxSteps := 1000000) (disch := first | omega | assumption)
     repeat' refine And.intro ?_ ?_
     all_goals first | omega | exact rfl | skip
     refine hK' _ ?_
     clear hK' K'
     simp only [List.drop_succ_cons, List.drop_zero]
     refine vcL_step fun K' hK' => ?_
     simp (maxSteps := 1000000) (disch := first | omega | assumption)
     first | rw [show (2 * (k : Int) + 2) = ((hpick h2 k n : Nat) : Int) from by omega] | rw [show (2 * (k : Int) + 1) = ((hpick h2 k n : Nat) : Int) from by omega] | trace_state
     refine ⟨_, mi76_Less, Ct.mono (Ct.of_le (pless_fn m M A cap rest h2 (hpick h2 k n) k _ (sg_m _ _ hq) (sg_K _ _ hne hA) hne hk2 (by omega) (by omega)) (by first | exact leArgs_of rfl | (refine leArgs_of ?_; simp; done) | (refine leArgs_of ?_; simp; rfl) | (simp [leArgs, leArg]; done)) rfl) ?_⟩
     rintro _ _ ⟨hr9, hs9⟩
     subst hr9
     replace hs9 := hs9.symm
     subst hs9
     refine hK' _ ?_
     clear hK' K'
     simp (maxSteps := 1000000) (disch := first | omega | assumption)
     repeat' refine And.intro ?_ ?_
     all_goals first | omega | exact rfl | skip
     refine hK _ ?_
     clear hK K
     clear all
     refine q_then_n ?_
     refine awp_ifB (by simp <;> rfl) ?_
     refine ⟨fun c6 => ?_, fun c6 => ?_⟩
     ·try simp at c6
      refine awp_exit ?_
      refine q_then_e ?_
      refine q_block_o (by decide) ?_
      refine q_loop_e ?_
      refine q_block_e ?_
      refine q_then_n ?_
      refine awp_seq ?_
      refine awp_regionA (c := ⟨[], [], [], [], []⟩) (by simp only [lite_cons, lite_nil] <;> rfl) fun all hall K hK => ?_
      clear hall
      simp (maxSteps := 1000000) (disch := first | omega | assumption)
      repeat' refine And.intro ?_ ?_
      all_goals first | omega | exact rfl | skip
      refine hK _ ?_
      clear hK K
      clear all
      refine q_then_n ?_
      refine awp_ret ?_
      rw [hdown_no (by first | exact fun h9 => absurd h9.2 (by assumption) | (rintro ⟨h9, _⟩; omega))] at hu
      rw [← hu]
      simp [endQ]
     ·try simp at c6
      refine awp_skip ?_
      refine q_then_n ?_
      refine awp_seq ?_
      refine awp_regionA (c := ⟨[], [], [], [], []⟩) (by simp only [lite_cons, lite_nil] <;> rfl) fun all hall K hK => ?_
      clear hall
      refine vcL_split 3 fun K' hK' => ?_
      simp (maxSteps := 1000000) (disch := first | omega | assumption)
      repeat' refine And.intro ?_ ?_
      all_goals first | omega | exact rfl | skip
      refine hK' _ ?_
      clear hK' K'
      simp only [List.drop_succ_cons, List.drop_zero]
      refine vcL_step fun K' hK' => ?_
      simp (maxSteps := 1000000) (disch := first | omega | assumption)
      first | rw [show (2 * (k : Int) + 2) = ((hpick h2 k n : Nat) : Int) from by omega] | rw [show (2 * (k : Int) + 1) = ((hpick h2 k n : Nat) : Int) from by omega] | trace_state
      refine ⟨_, mi76_Swap, Ct.mono (Ct.of_le (pswap_fn m M A cap rest h2 k (hpick h2 k n) _ (sg_m _ _ hq) (sg_K _ _ hne hA) hne hk2 (by omega) (by omega)) (by first | exact leArgs_of rfl | (refine leArgs_of ?_; simp; done) | (refine leArgs_of ?_; simp; rfl) | (simp [leArgs, leArg]; done)) rfl) ?_⟩
      rintro _ _ ⟨hr9, hs9⟩
      subst hr9
      replace hs9 := hs9.symm
      subst hs9
      refine hK' _ ?_
      clear hK' K'
      simp only [vcL_nil]
      refine hK _ ?_
      clear hK K
      clear all
      refine q_then_n ?_
      refine awp_keep [0, 1, 2, 6, 7, 9] (by simp only [keepL_nil, keepL_cons, envOf_sel, envOf_nil, sel_t, sel_f, Nat.reduceBEq] <;> rfl) ?_
      refine awp_regionA (c := ⟨[], [], [], [], []⟩) (by simp only [lite_cons, lite_nil] <;> rfl) fun all hall K hK => ?_
      clear hall
      simp (maxSteps := 1000000) (disch := first | omega | assumption)
      repeat' refine And.intro ?_ ?_
      all_goals first | omega | exact rfl | skip
      refine hK _ ?_
      clear hK K
      clear all
      refine q_block_n ?_
      refine q_round (⟨hswap h2 k (hpick h2 k n), hpick h2 k n⟩) ?_ ?_ (weak_mkA rfl ?_ (by simp) (by simp [ss_ne _ _ _ hne]))
      ·exact ⟨by rw [← hu]; exact (hdown_yes (by omega) (by assumption)).symm, hk2.swap (by omega) (by omega), by rw [hswap_len]; exact hl2, by dsimp only; omega⟩
      ·try dsimp only
       omega
      ·simp (maxSteps := 1000000) (disch := first | omega | assumption) [hpk]
   ·try simp at g3
    have hpk : hpick h2 k n = 2 * k + 1 := if_neg fun h9 => by omega
    simp (maxSteps := 1000000) (disch := first | omega | assumption) [ga3]
    repeat' refine And.intro ?_ ?_
    all_goals first | omega | exact rfl | skip
    refine hK _ ?_
    clear hK K
    clear ga3
    clear all
    refine q_then_n ?_
    refine awp_cond (t := false) (by simp) (fun h => by cases h) (fun _ => ?_)
    refine awp_skip ?_
    refine q_then_n ?_
    refine awp_seq ?_
    refine awp_seq ?_
    refine awp_keep [0, 1, 2, 6, 7, 9] (by simp only [keepL_nil, keepL_cons, envOf_sel, envOf_nil, sel_t, sel_f, Nat.reduceBEq] <;> rfl) ?_
    refine awp_regionA (c := ⟨[], [], [], [], []⟩) (by simp only [lite_cons, lite_nil] <;> rfl) fun all hall K hK => ?_
    clear hall
    refine vcL_split 3 fun K' hK' => ?_
    simp (maxSteps := 1000000) (disch := first | omega | assumption)
    repeat' refine And.intro ?_ ?_
    all_goals first | omega | exact rfl | skip
    refine hK' _ ?_
    clear hK' K'
    simp only [List.drop_succ_cons, List.drop_zero]
    refine vcL_step fun K' hK' => ?_
    simp (maxSteps := 1000000) (disch := first | omega | assumption)
    first | rw [show (2 * (k : Int) + 2) = ((hpick h2 k n : Nat) : Int) from by omega] | rw [show (2 * (k : Int) + 1) = ((hpick h2 k n : Nat) : Int) from by omega] | trace_state
    refine ⟨_, mi76_Less, Ct.mono (Ct.of_le (pless_fn m M A cap rest h2 (hpick h2 k n) k _ (sg_m _ _ hq) (sg_K _ _ hne hA) hne hk2 (by omega) (by omega)) (by first | exact leArgs_of rfl | (refine leArgs_of ?_; simp; done) | (refine leArgs_of ?_; simp; rfl) | (simp [leArgs, leArg]; done)) rfl) ?_⟩
    rintro _ _ ⟨hr9, hs9⟩
    subst hr9
    replace hs9 := hs9.symm
    subst hs9
    refine hK' _ ?_
    clear hK' K'
    simp (maxSteps := 1000000) (disch := first | omega | assumption)
    repeat' refine And.intro ?_ ?_
    all_goals first | omega | exact rfl | skip
    refine hK _ ?_
    clear hK K
    clear all
    refine q_then_n ?_
    refine awp_ifB (by simp <;> rfl) ?_
    refine ⟨fun c7 => ?_, fun c7 => ?_⟩
    ·try simp at c7
     refine awp_exit ?_
     refine q_then_e ?_
     refine q_block_o (by decide) ?_
     refine q_loop_e ?_
     refine q_block_e ?_
     refine q_then_n ?_
     refine awp_seq ?_
     refine awp_regionA (c := ⟨[], [], [], [], []⟩) (by simp only [lite_cons, lite_nil] <;> rfl) fun all hall K hK => ?_
     clear hall
     simp (maxSteps := 1000000) (disch := first | omega | assumption)
     repeat' refine And.intro ?_ ?_
     all_goals first | omega | exact rfl | skip
     refine hK _ ?_
     clear hK K
     clear all
     refine q_then_n ?_
     refine awp_ret ?_
     rw [hdown_no (by first | exact fun h9 => absurd h9.2 (by assumption) | (rintro ⟨h9, _⟩; omega))] at hu
     rw [← hu]
     simp [endQ]
    ·try simp at c7
     refine awp_skip ?_
     refine q_then_n ?_
     refine awp_seq ?_
     refine awp_regionA (c := ⟨[], [], [], [], []⟩) (by simp only [lite_cons, lite_nil] <;> rfl) fun all hall K hK => ?_
     clear hall
     refine vcL_split 3 fun K' hK' => ?_
     simp (maxSteps := 1000000) (disch := first | omega | assumption)
     repeat' refine And.intro ?_ ?_
     all_goals first | omega | exact rfl | skip
     refine hK' _ ?_
     clear hK' K'
     simp only [List.drop_succ_cons, List.drop_zero]
     refine vcL_step fun K' hK' => ?_
     simp (maxSteps := 1000000) (disch := first | omega | assumption)
     first | rw [show (2 * (k : Int) + 2) = ((hpick h2 k n : Nat) : Int) from by omega] | rw [show (2 * (k : Int) + 1) = ((hpick h2 k n : Nat) : Int) from by omega] | trace_state
     refine ⟨_, mi76_Swap, Ct.mono (Ct.of_le (pswap_fn m M A cap rest h2 k (hpick h2 k n) _ (sg_m _ _ hq) (sg_K _ _ hne hA) hne hk2 (by omega) (by omega)) (by first | exact leArgs_of rfl | (refine leArgs_of ?_; simp; done) | (refine leArgs_of ?_; simp; rfl) | (simp [leArgs, leArg]; done)) rfl) ?_⟩
     rintro _ _ ⟨hr9, hs9⟩
     subst hr9
     replace hs9 := hs9.symm
     subst hs9
     refine hK' _ ?_
     clear hK' K'
     simp only [vcL_nil]
     refine hK _ ?_
     clear hK K
     clear all
     refine q_then_n ?_
     refine awp_keep [0, 1, 2, 6, 7, 9] (by simp only [keepL_nil, keepL_cons, envOf_sel, envOf_nil, sel_t, sel_f, Nat.reduceBEq] <;> rfl) ?_
     refine awp_regionA (c := ⟨[], [], [], [], []⟩) (by simp only [lite_cons, lite_nil] <;> rfl) fun all hall K hK => ?_
     clear hall
     simp (maxSteps := 1000000) (disch := first | omega | assumption)
     repeat' refine And.intro ?_ ?_
     all_goals first | omega | exact rfl | skip
     refine hK _ ?_
     clear hK K
     clear all
     refine q_block_n ?_
     refine q_round (⟨hswap h2 k (hpick h2 k n), hpick h2 k n⟩) ?_ ?_ (weak_mkA rfl ?_ (by simp) (by simp [ss_ne _ _ _ hne]))
     ·exact ⟨by rw [← hu]; exact (hdown_yes (by omega) (by assumption)).symm, hk2.swap (by omega) (by omega), by rw [hswap_len]; exact hl2, by dsimp only; omega⟩
     ·try dsimp only
      omega
     ·simp (maxSteps := 1000000) (disch := first | omega | assumption) [hpk]
end Go.Proofs.Ytnlokhfcgaikiaa

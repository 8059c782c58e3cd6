import Derived.Test.YtpfmpeaekgdgnaaGreatWkAr13
namespace Go.Proofs.YtpfmpeaekgdgnaaGreat
open Go Go.Vm
set_option maxRecDepth 20000
set_option linter.all false
set_option maxHeartbeats 8000000
def delD (d : DS) (g : List Int) : DS := { d with es := d.es.filter fun e => !g.any fun k => decide (k = e.n.ID) }
theorem delD_nil (d : DS) : delD d [] = d := by
 cases d; simp [delD]
theorem filt_erase : ∀ (es : List EN) (K : Int), (es.map fun e => e.n.ID).Nodup → ∀ (i : Nat) (h : i < es.length), es[i].n.ID = K → (es.filter fun e => !decide (K = e.n.ID)) = es.eraseIdx i
 | [], K, _, i, h, _ => by simp at h
 | e :: es, K, hn, 0, h, he => by
  have hn' := List.nodup_cons.1 (show (e.n.ID :: es.map fun e => e.n.ID).Nodup from hn)
  simp only [List.getElem_cons_zero] at he
  subst he
  rw [List.filter_cons, if_neg (by simp), List.eraseIdx_cons_zero, List.filter_eq_self]
  intro a ha
  have : e.n.ID ≠ a.n.ID := fun e2 => hn'.1 (by rw [e2]; exact List.mem_map.2 ⟨a, ha, rfl⟩)
  simp [this]
 | e :: es, K, hn, i + 1, h, he => by
  have hn' := List.nodup_cons.1 (show (e.n.ID :: es.map fun e => e.n.ID).Nodup from hn)
  simp only [List.getElem_cons_succ] at he
  have : K ≠ e.n.ID := fun e2 => hn'.1 (by rw [← e2, ← he]; exact List.mem_map.2 ⟨es[i]'(by simpa using h), List.getElem_mem _, rfl⟩)
  rw [List.filter_cons, if_pos (by simpa using this), List.eraseIdx_cons_succ, filt_erase es K hn'.2 i (by simpa using h) he]
theorem map_eraseIdx' {α β : Type} (f : α → β) : ∀ (l : List α) (i : Nat), (l.eraseIdx i).map f = (l.map f).eraseIdx i
 | [], i => by simp
 | a :: l, 0 => by simp
 | a :: l, i + 1 => by simp [map_eraseIdx' f l i]
theorem kvE_del {es : List EN} {K : Int} (hn : (es.map fun e => e.n.ID).Nodup) : mDel (es.map kvE) (.int .i64 K) ((es.filter fun e => !decide (K = e.n.ID)).map kvE) := by
 by_cases h : ∃ e ∈ es, e.n.ID = K
 ·obtain ⟨e, he, hK⟩ := h
  obtain ⟨i, hi, rfl⟩ := List.getElem_of_mem he
  refine .inl ⟨i, es[i].t, .ref es[i].o 0, ?_, ?_⟩
  ·rw [List.getElem?_map, List.getElem?_eq_getElem hi, ← hK]; rfl
  ·rw [filt_erase es K hn i hi hK, map_eraseIdx']
 ·have hne : ∀ e ∈ es, e.n.ID ≠ K := fun e he hK => h ⟨e, he, hK⟩
  refine .inr ⟨fun kv hkv h2 => ?_, ?_⟩
  ·obtain ⟨e, he, rfl⟩ := List.mem_map.1 hkv
   simp only [kvE, Value.int.injEq, true_and] at h2
   exact hne e he h2
  ·rw [show (es.filter fun e => !decide (K = e.n.ID)) = es from by
    rw [List.filter_eq_self]; intro a ha; have := hne a ha; simp; exact fun e => this e.symm]
theorem delD_succ (d : DS) (g : List Int) (j : Nat) (h : j < g.length) : (delD d (g.take (j + 1))).es = (delD d (g.take j)).es.filter fun e => !decide (g[j] = e.n.ID) := by
 unfold delD
 simp only [List.filter_filter]
 apply List.filter_congr
 intro e _
 rw [take_snoc g j h, List.any_append]
 simp only [List.any_cons, List.any_nil, Bool.or_false, Bool.not_or]
 rw [Bool.and_comm]
theorem delD_nd {d : DS} (h : (d.es.map fun e => e.n.ID).Nodup) (g : List Int) : ((delD d g).es.map fun e => e.n.ID).Nodup :=
 h.sublist (List.Sublist.map _ List.filter_sublist)
theorem drm11_fn (m M : Nat) (d : DS) (id : Int) (σ : List (List D)) (ho : DO m M d σ) (hno : isL d.l id = false) : Ct Tryz.prog 48 [.ref m 0, D.int id] σ (fun r σ' => r = .int 11 ∧ σ' = σ) := by
 refine zf (rs:=[.tmp 4]) Tryz.func48 Tryz.ntmps48 Tryz.results48 ?_
 simp only [argEnv]
 have hq := ho.hm
 refine zr0 fun _ _ Z=>?_
 simp[hq]
 and_intros<;>try omega
 apply Z
 refine zr0 fun _ _ Z=>?_
 refine vcL_split 6 fun _ Y=>?_
 simp[hq]
 refine ⟨m, 2, d.ck, _, .v (.pointer none), ⟨⟨_, hq, rfl⟩, keyI _, .inl (kvE_no hno _)⟩, ?_⟩
 and_intros<;>try omega
 apply Y
 simp only [List.drop]
 simp[hq]
 and_intros<;>try omega
 apply Z
 apply awp_seq
 apply awp_block
 refine zr0 fun _ _ Z=>?_
 simp[hq]
 and_intros<;>try omega
 apply Z
 refine zi ?_
 refine ⟨fun c1=>?_,fun c1=>?_⟩
 ·try simp at c1
  refine zr0 fun _ _ Z=>?_
  simp[hq]
  and_intros<;>try omega
  apply Z
  apply awp_ret
  apply q_block_r
  apply q_then_r
  simp [endQ]
 ·simp at c1
theorem drm1_fn (m M : Nat) (d : DS) (n : EN) (σ : List (List D)) (ho : DO m M d σ) (hn : n ∈ d.es) (h0 : n.n.ID = 0) : Ct Tryz.prog 48 [.ref m 0, D.int n.n.ID] σ (fun r σ' => r = .int 1 ∧ σ' = σ) := by
 refine zf (rs:=[.tmp 4]) Tryz.func48 Tryz.ntmps48 Tryz.results48 ?_
 simp only [argEnv]
 have hq := ho.hm
 refine zr0 fun _ _ Z=>?_
 simp[hq]
 and_intros<;>try omega
 apply Z
 refine zr0 fun _ _ Z=>?_
 refine vcL_split 6 fun _ Y=>?_
 simp[hq]
 refine ⟨m, 2, d.ck, _, .ref n.o 0, ⟨⟨_, hq, rfl⟩, keyI _, .inr (kvE_get hn _)⟩, ?_⟩
 and_intros<;>try omega
 apply Y
 simp only [List.drop]
 simp[hq]
 and_intros<;>try omega
 apply Z
 apply awp_seq
 apply awp_block
 refine zr0 fun _ _ Z=>?_
 simp[hq]
 and_intros<;>try omega
 apply Z
 refine zi ?_
 refine ⟨fun c1=>?_,fun c1=>?_⟩
 ·simp at c1
 ·try simp at c1
  refine zr0 fun _ _ Z=>?_
  simp[hq]
  and_intros<;>try omega
  apply Z
  refine zi ?_
  refine ⟨fun c2=>?_,fun c2=>?_⟩
  ·try simp at c2
   refine zk [0,1,4,5] ?_
   refine zr0 fun _ _ Z=>?_
   simp[hq]
   and_intros<;>try omega
   apply Z
   apply awp_ret
   apply q_block_r
   apply q_then_r
   simp [endQ]
  ·try simp at c2
   exact absurd h0 c2
theorem drm0_fn (m M : Nat) (d d1 : DS) (n : EN) (σ1 : List (List D)) (bel : Int → List Int) (rk : Int → Nat) (σ : List (List D)) (ho : DO m M d σ) (hn : n ∈ d.es) (h0 : ¬ n.n.ID = 0) (hlv : Ct Tryz.prog 86 [.ref m 0, .ref n.o 0] σ (fun r σ' => r = .tup [] ∧ σ' = σ1)) (ho1 : DO m M d1 σ1) (hw1 : WD d1 bel rk) (hid : isL d1.l n.n.ID = true) (hnd : (d1.es.map fun e => e.n.ID).Nodup) : Ct Tryz.prog 48 [.ref m 0, D.int n.n.ID] σ (fun r σ' => r = D.int 0 ∧ ∃ J, σ' = σ1.set m (dcel M (delD d1 (bel n.n.ID))) ++ J) := by
 refine zf (rs:=[.tmp 4]) Tryz.func48 Tryz.ntmps48 Tryz.results48 ?_
 simp only [argEnv]
 have hq := ho.hm
 have hq1 := ho1.hm
 have hbl3 := hw1.tr.len n.n.ID
 refine zr ⟨[],[],[6],[29,32],[]⟩ fun _ _ Z=>?_
 simp (disch:=omega)[hq,hq1,hbl3,og_last,og_last0,og_last1,og_app hq1,og_set hq1,row_get,og_at,og_put,og_at0,og_put0]
 and_intros<;>try omega
 apply Z
 refine zr ⟨[],[],[6],[29,32],[]⟩ fun _ _ Z=>?_
 refine vcL_split 6 fun _ Y=>?_
 simp (disch:=omega)[hq,hq1,hbl3,og_last,og_last0,og_last1,og_app hq1,og_set hq1,row_get,og_at,og_put,og_at0,og_put0]
 refine ⟨m, 2, d.ck, _, .ref n.o 0, ⟨⟨_, hq, rfl⟩, keyI _, .inr (kvE_get hn _)⟩, ?_⟩
 and_intros<;>try omega
 apply Y
 simp only [List.drop]
 simp (disch:=omega)[hq,hq1,hbl3,og_last,og_last0,og_last1,og_app hq1,og_set hq1,row_get,og_at,og_put,og_at0,og_put0]
 and_intros<;>try omega
 apply Z
 apply awp_seq
 apply awp_block
 refine zr ⟨[],[],[6],[29,32],[]⟩ fun _ _ Z=>?_
 simp (disch:=omega)[hq,hq1,hbl3,og_last,og_last0,og_last1,og_app hq1,og_set hq1,row_get,og_at,og_put,og_at0,og_put0]
 and_intros<;>try omega
 apply Z
 refine zi ?_
 refine ⟨fun c1=>?_,fun c1=>?_⟩
 ·simp at c1
 ·try simp at c1
  refine zr ⟨[],[],[6],[29,32],[]⟩ fun _ _ Z=>?_
  simp (disch:=omega)[hq,hq1,hbl3,og_last,og_last0,og_last1,og_app hq1,og_set hq1,row_get,og_at,og_put,og_at0,og_put0]
  and_intros<;>try omega
  apply Z
  refine zi ?_
  refine ⟨fun c2=>?_,fun c2=>?_⟩
  ·try simp at c2
   exact absurd c2 h0
  ·try simp at c2
   apply awp_skip
   apply q_block_n
   apply q_then_n
   refine zk [0,1,4,5] ?_
   refine zr ⟨[],[],[6],[29,32],[]⟩ fun _ _ Z=>?_
   refine vcL_split 2 fun _ Y=>?_
   simp (disch:=omega)[hq,hq1,hbl3,og_last,og_last0,og_last1,og_app hq1,og_set hq1,row_get,og_at,og_put,og_at0,og_put0]
   and_intros<;>try omega
   apply Y
   simp only [List.drop]
   refine vcL_step fun _ Y=>?_
   simp (disch:=omega)[hq,hq1,hbl3,og_last,og_last0,og_last1,og_app hq1,og_set hq1,row_get,og_at,og_put,og_at0,og_put0]
   refine zce (hlv) ?_
   apply Y
   simp only [vcL_nil]
   apply Z
   refine zr ⟨[],[],[6],[29,32],[]⟩ fun _ _ Z=>?_
   simp (disch:=omega)[hq,hq1,hbl3,og_last,og_last0,og_last1,og_app hq1,og_set hq1,row_get,og_at,og_put,og_at0,og_put0]
   and_intros<;>try omega
   apply Z
   refine awp_toXO σ1.length 0 1 (by simp [og_at0]; rfl) rfl ?_
   simp only [og_put0, List.set_cons_zero]
   refine zr ⟨[],[],[6],[29,32],[]⟩ fun _ _ Z=>?_
   refine vcL_split 3 fun _ Y=>?_
   simp (disch:=omega)[hq,hq1,hbl3,og_last,og_last0,og_last1,og_app hq1,og_set hq1,row_get,og_at,og_put,og_at0,og_put0]
   and_intros<;>try omega
   apply Y
   simp only [List.drop]
   refine vcL_step fun _ Y=>?_
   simp (disch:=omega)[hq,hq1,hbl3,og_last,og_last0,og_last1,og_app hq1,og_set hq1,row_get,og_at,og_put,og_at0,og_put0]
   refine zce (each_fn m M σ1.length 88 d1 bel rk n.n.ID [] _ (notes_rem σ1.length) (EF.of ho1 hw1 (Nat.le_refl _)) hid (EO.of ho1 hw1 n.n.ID)) ?_
   simp only [og_put0, List.set_cons_zero, List.nil_append]
   apply Y
   simp only [vcL_nil]
   apply Z
   apply awp_seq
   refine awp_openXO σ1.length 0 1 (es := (bel n.n.ID).map D.int) (by simp [og_at0]; rfl) rfl (by decide) fun cap rest hcap hcm hrest hes => ?_
   simp only [List.length_map, og_put0, List.set_cons_zero, List.length_append, List.length_cons, List.length_nil, Nat.zero_add, List.append_assoc, List.cons_append, List.nil_append] at hcap hrest ⊢
   rw [flat_one (f := D.int) (fun _ => rfl)]
   refine zk [0,4,6] ?_
   refine zr ⟨[],[],[6],[29,32],[]⟩ fun _ _ Z=>?_
   simp (disch:=omega)[hq,hq1,hbl3,og_last,og_last0,og_last1,og_app hq1,og_set hq1,row_get,og_at,og_put,og_at0,og_put0]
   and_intros<;>try omega
   apply Z
   apply awp_block
   refine zk [0,4,28,29,30] ?_
   refine awp_loopO (fun (j : Nat) => [(30, .d (.v (.int .i64 (j : Int)))), (8, .d (.any))]) (fun (j : Nat) => []) (fun (j : Nat) => σ1.set m (dcel M (delD d1 ((bel n.n.ID).take j))) ++ [[.slo (σ1.length + 1) 0 (bel n.n.ID).length cap], (bel n.n.ID).map D.int ++ rest]) [8, 30, 31, 32, 33, 34, 35, 36, 37, 38, 39] (fun (j : Nat) => j ≤ (bel n.n.ID).length) (fun (j : Nat) => (bel n.n.ID).length - j) (0) (by simp <;> rfl) ?_ (by simp) (by rw [List.take_zero, delD_nil, obj_set_same hq1]) ?_ ?_
   ·simp
   ·simp
   rintro j hj
   simp only [List.cons_append, List.nil_append]
   refine zr ⟨[],[],[6],[29,32],[]⟩ fun _ _ Z=>?_
   simp (disch:=omega)[hq,hq1,hbl3,og_last,og_last0,og_last1,og_app hq1,og_set hq1,row_get,og_at,og_put,og_at0,og_put0]
   and_intros<;>try omega
   apply Z
   apply awp_seq
   refine zi ?_
   refine ⟨fun c3=>?_,fun c3=>?_⟩
   ·try simp at c3
    have hjj : j < (bel n.n.ID).length := by omega
    apply awp_skip
    apply q_then_n
    apply awp_seq
    apply awp_block
    refine zr ⟨[],[],[6],[29,32],[]⟩ fun _ _ Z=>?_
    simp (disch:=omega)[hq,hq1,hbl3,og_last,og_last0,og_last1,og_app hq1,og_set hq1,row_get,og_at,og_put,og_at0,og_put0]
    and_intros<;>try omega
    apply Z
    refine zt ⟨[],[],[6],[29,32],[]⟩ fun _ _ Z=>?_
    simp (disch:=omega)[hq,hq1,hbl3,og_last,og_last0,og_last1,og_app hq1,og_set hq1,row_get,og_at,og_put,og_at0,og_put0]
    refine ⟨m, 2, d1.ck, _, _, ⟨⟨_, og_app hq1 _ _, rfl⟩, keyI _, kvE_del (delD_nd hnd _)⟩, ?_⟩
    rw [putM_eq (og_app hq1 _ _), og_set hq1, ← delD_succ d1 (bel n.n.ID) j hjj]
    and_intros<;>try omega
    apply Z
    apply q_block_n
    apply q_then_n
    refine zk [0,4,8,28,29,30] ?_
    refine zt ⟨[],[],[6],[29,32],[]⟩ fun _ _ Z=>?_
    simp (disch:=omega)[hq,hq1,hbl3,og_last,og_last0,og_last1,og_app hq1,og_set hq1,row_get,og_at,og_put,og_at0,og_put0]
    and_intros<;>try omega
    apply Z
    refine q_round (j + 1) ?_ ?_ (weak_mkA rfl ?_ (by simp) (by simp [dcel, delD]))
    ·omega
    ·try dsimp only
     omega
    ·simp (disch:=omega)[hq,hq1,hbl3,og_last,og_last0,og_last1,og_app hq1,og_set hq1,row_get,og_at,og_put,og_at0,og_put0]
   ·try simp at c3
    obtain rfl : j = (bel n.n.ID).length := by omega
    rw [List.take_length]
    apply awp_exit
    apply q_then_e
    apply q_loop_e
    apply q_block_e
    apply q_then_n
    refine zr ⟨[],[],[6],[29,32],[]⟩ fun _ _ Z=>?_
    simp (disch:=omega)[hq,hq1,hbl3,og_last,og_last0,og_last1,og_app hq1,og_set hq1,row_get,og_at,og_put,og_at0,og_put0]
    and_intros<;>try omega
    apply Z
    apply awp_ret
    simp [endQ]
end Go.Proofs.YtpfmpeaekgdgnaaGreat


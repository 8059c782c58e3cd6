import Derived.Test.YtpfmpeaekgdgnaaGreatArCount
namespace Go.Proofs.YtpfmpeaekgdgnaaGreat
open Go Go.Vm
set_option maxRecDepth 20000
set_option linter.all false
set_option maxHeartbeats 8000000
structure Act where
 kind : Int
 a : Int
 b : Int
 c : Int
 name : ByteArray
 value : ByteArray
 deriving DecidableEq
@[simp] abbrev d_Act (s : Act) : D := .agg [.v (.int .i64 s.kind), .v (.int .i64 s.a), .v (.int .i64 s.b), .v (.int .i64 s.c), .v (.string s.name), .v (.string s.value)]
def tidy (a : Act) : Act := { a with name := cutB 20 a.name, value := cutB 40 a.value }
def d0 (most : Int) (o : Nat) : DS := ⟨max 1 (min most 65536), 1, 1, [⟨rootN, o, 0⟩]⟩
theorem clip_eq (x : Int) : clip x 1 65536 = max 1 (min x 65536) := by
 unfold clip; (repeat' split) <;> omega
theorem d0_IV (most : Int) (σ : List (List D)) : IV 0 (σ.length + 1) σ.length (d0 most (σ.length + 2)) (fun _ => 0) (σ ++ [[], dcel σ.length (d0 most (σ.length + 2)), ncel rootN]) := by
 have hl : (d0 most (σ.length + 2)).l = [rootN] := rfl
 have hm : ∀ n ∈ (d0 most (σ.length + 2)).l, n = rootN := fun n hn => by rw [hl] at hn; simpa using hn
 have hwt : WT (d0 most (σ.length + 2)).l (fun _ => 0) := by
  refine ⟨by rw [hl]; simp, fun n hn k hk => ?_, fun n hn => ?_, fun n hn => ?_, fun n hn => ?_, fun n hn k hk => ?_⟩ <;> have := hm n hn <;> subst this
  ·cases hk
  ·exact .inl rfl
  ·exact Int.le_refl _
  ·exact List.nodup_nil
  ·cases hk
 refine ⟨⟨by simp, fun e he => ?_, fun e he => ?_, by simp [d0], by simp⟩, ⟨hwt.nd, by simp [d0], ?_, by simp [d0], fun n hn => ?_, fun n hn => ?_, fun n hn => ?_, ⟨rootN, by rw [hl]; simp, rfl, rfl, rfl⟩, fun n hn => ?_, ?_⟩, hwt⟩
 ·simp only [d0, List.mem_singleton] at he; subst he; simp
 ·simp only [d0, List.mem_singleton] at he; subst he; show σ.length + 2 ≠ σ.length + 1; omega
 ·show 1 ≤ max 1 (min most 65536) ∧ max 1 (min most 65536) ≤ 65536; omega
 ·have := hm n hn; subst this; show (0 : Int) < 1; omega
 ·have := hm n hn; subst this; simp [rootN]
 ·have := hm n hn; subst this; exact ⟨List.Pairwise.nil, List.Pairwise.nil⟩
 ·have := hm n hn; subst this; exact .inr rfl
 ·show (([_] : List EN).length : Int) - 1 ≤ max 1 (min most 65536); simp; omega
theorem anew_fn (most : Int) (σ : List (List D))  : Ct Tryz.prog 12 [D.int most] σ (fun r σ' => r = .ref (σ.length + 1) 0 ∧ σ' = σ ++ [[], dcel σ.length (d0 most (σ.length + 2)), ncel rootN]) := by
 refine zf (rs:=[.tmp 2]) Tryz.func12 Tryz.ntmps12 Tryz.results12 ?_
 simp only [argEnv]
 refine zr ⟨[],[],[8,14],[],[]⟩ fun _ _ Z=>?_
 simp[og_at,og_put,og_at0,og_put0,clip_eq]
 and_intros<;>try omega
 apply Z
 refine zr ⟨[],[],[8,14],[],[]⟩ fun _ _ Z=>?_
 refine vcL_split 1 fun _ Y=>?_
 simp[og_at,og_put,og_at0,og_put0,clip_eq]
 and_intros<;>try omega
 apply Y
 simp only [List.drop]
 refine vcL_step fun _ Y=>?_
 simp[og_at,og_put,og_at0,og_put0,clip_eq]
 refine zce (clip_fn ..) ?_
 apply Y
 simp[og_at,og_put,og_at0,og_put0,clip_eq]
 and_intros<;>try omega
 apply Z
 refine awp_mapToCell 6 (σ.length + 1) 2 (N := σ.length) (kd := .int .i64) (clock := 0) (kvs := []) (by simp) (by simp [og_at, og_put, og_at0, og_put0] <;> rfl) (by simp <;> rfl) ?_
 simp only [og_put, List.set_cons_zero, List.set_cons_succ]
 refine zr ⟨[],[],[8,14],[],[]⟩ fun _ _ Z=>?_
 simp[og_at,og_put,og_at0,og_put0,clip_eq]
 refine ⟨σ.length + 1, 2, 0, [], 1, _, ⟨⟨_, by simp [og_at, og_put, og_at0, og_put0] <;> rfl, rfl⟩, keyI _, rfl, .inr ⟨by simp, rfl, rfl⟩⟩, ?_⟩
 rw [putM_eq (by simp [og_at, og_put, og_at0, og_put0] <;> rfl)]
 and_intros<;>try omega
 apply Z
 refine awp_toXO (σ.length + 2) 8 1 (by simp [og_at, og_put, og_at0, og_put0]; rfl) rfl ?_
 simp only [og_put, List.set_cons_zero, List.set_cons_succ]
 refine awp_weakO (σ.length + 2) (ncel rootN) (by simp [og_at, og_put, og_at0, og_put0]; rfl) (by simp [leC, rootN, D.s1]) ?_
 simp only [og_put, List.set_cons_zero, List.set_cons_succ]
 refine zk [2,3] ?_
 refine zr ⟨[],[],[8,14],[],[]⟩ fun _ _ Z=>?_
 simp[og_at,og_put,og_at0,og_put0,clip_eq]
 and_intros<;>try omega
 apply Z
 apply awp_ret
 simp [endQ, d0, kvE, rootN, dcel]
theorem tidy_fn (a : Act) (σ : List (List D)) (h1 : a.name.size ≤ 9223372036854775807) (h2 : a.value.size ≤ 9223372036854775807) : Ct Tryz.prog 27 [d_Act a] σ (fun r σ' => r = d_Act (tidy a) ∧ σ' = σ) := by
 refine zf (rs:=[.cell 2 33]) Tryz.func27 Tryz.ntmps27 Tryz.results27 ?_
 simp only [argEnv]
 refine zr0 fun _ _ Z=>?_
 simp
 and_intros<;>try omega
 apply Z
 refine zd ⟨[],[],[],[],[]⟩ [.op {},.op {rL:=true},.pure,.op {},.op {rL:=true},.pure,.op {},.op {rL:=true,wL:=true},.op {},.op {rL:=true,wL:=true}] fun all hall _ Z=>?_
 refine vcDL_split 2 (by simp) fun _ Y=>?_
 simp
 and_intros<;>try omega
 apply Y
 simp only [List.drop]
 refine vcDL_step fun _ Y=>?_
 simp
 refine zdp (fun _ => (cut_fn a.name 20 _ (by omega))) ?_
 apply Y
 refine vcDL_split 2 (by simp) fun _ Y=>?_
 simp
 and_intros<;>try omega
 apply Y
 simp only [List.drop]
 refine vcDL_step fun _ Y=>?_
 simp
 refine zdp (fun _ => (cut_fn a.value 40 _ (by omega))) ?_
 apply Y
 simp
 and_intros<;>try omega
 apply Z
 refine zr0 fun _ _ Z=>?_
 simp
 and_intros<;>try omega
 apply Z
 apply awp_ret
 simp [endQ, tidy]
theorem change0_fn (m : Nat) (a : Act) (c : Int) (σ2 : List (List D)) (σ : List (List D)) (hb : 10 ≤ a.kind ∧ a.kind ≤ 17) (e0 : a.kind = 10 → Ct Tryz.prog 89 [.ref m 0, D.int a.a, D.str a.name] σ (fun r τ => r = D.int c ∧ τ = σ2)) (e1 : a.kind = 11 → Ct Tryz.prog 90 [.ref m 0, D.int a.a, D.str a.value] σ (fun r τ => r = D.int c ∧ τ = σ2)) (e2 : a.kind = 12 → Ct Tryz.prog 91 [.ref m 0, D.int a.a, D.str a.name, D.str a.value] σ (fun r τ => r = D.int c ∧ τ = σ2)) (e3 : a.kind = 13 → Ct Tryz.prog 92 [.ref m 0, D.int a.a, D.str a.name] σ (fun r τ => r = D.int c ∧ τ = σ2)) (e4 : a.kind = 14 → Ct Tryz.prog 93 [.ref m 0, D.int a.a, D.str a.name, D.int a.c] σ (fun r τ => r = D.int c ∧ τ = σ2)) (e5 : a.kind = 15 → Ct Tryz.prog 94 [.ref m 0, D.int a.a, D.str a.name] σ (fun r τ => r = D.int c ∧ τ = σ2)) (e6 : a.kind = 16 → Ct Tryz.prog 95 [.ref m 0, D.int a.a, D.str a.name] σ (fun r τ => r = D.int c ∧ τ = σ2)) (e7 : a.kind = 17 → Ct Tryz.prog 96 [.ref m 0, D.int a.a, D.str a.name] σ (fun r τ => r = D.int c ∧ τ = σ2)) : Ct Tryz.prog 50 [.ref m 0, d_Act a] σ (fun r σ' => r = D.int c ∧ σ' = σ2) := by
 refine zf (rs:=[.tmp 4]) Tryz.func50 Tryz.ntmps50 Tryz.results50 ?_
 simp only [argEnv]
 refine zr0 fun _ _ Z=>?_
 simp
 and_intros<;>try omega
 apply Z
 apply awp_seq
 refine zr0 fun _ _ Z=>?_
 simp
 and_intros<;>try omega
 apply Z
 apply awp_block
 refine zr0 fun _ _ Z=>?_
 simp
 and_intros<;>try omega
 apply Z
 refine zi ?_
 refine ⟨fun c1=>?_,fun c1=>?_⟩
 ·try simp at c1
  refine zr0 fun _ _ Z=>?_
  refine vcL_split 5 fun _ Y=>?_
  simp
  and_intros<;>try omega
  apply Y
  simp only [List.drop]
  refine vcL_step fun _ Y=>?_
  simp
  refine zce (e0 (by omega)) ?_
  apply Y
  simp
  and_intros<;>try omega
  apply Z
  apply awp_ret
  apply q_block_r
  apply q_then_r
  simp [endQ]
 ·try simp at c1
  refine zr0 fun _ _ Z=>?_
  simp
  and_intros<;>try omega
  apply Z
  refine zi ?_
  refine ⟨fun c2=>?_,fun c2=>?_⟩
  ·try simp at c2
   refine zr0 fun _ _ Z=>?_
   refine vcL_split 5 fun _ Y=>?_
   simp
   and_intros<;>try omega
   apply Y
   simp only [List.drop]
   refine vcL_step fun _ Y=>?_
   simp
   refine zce (e1 (by omega)) ?_
   apply Y
   simp
   and_intros<;>try omega
   apply Z
   apply awp_ret
   apply q_block_r
   apply q_then_r
   simp [endQ]
  ·try simp at c2
   refine zr0 fun _ _ Z=>?_
   simp
   and_intros<;>try omega
   apply Z
   refine zi ?_
   refine ⟨fun c3=>?_,fun c3=>?_⟩
   ·try simp at c3
    refine zr0 fun _ _ Z=>?_
    refine vcL_split 7 fun _ Y=>?_
    simp
    and_intros<;>try omega
    apply Y
    simp only [List.drop]
    refine vcL_step fun _ Y=>?_
    simp
    refine zce (e2 (by omega)) ?_
    apply Y
    simp
    and_intros<;>try omega
    apply Z
    apply awp_ret
    apply q_block_r
    apply q_then_r
    simp [endQ]
   ·try simp at c3
    refine zr0 fun _ _ Z=>?_
    simp
    and_intros<;>try omega
    apply Z
    refine zi ?_
    refine ⟨fun c4=>?_,fun c4=>?_⟩
    ·try simp at c4
     refine zk [0,3,4] ?_
     refine zr0 fun _ _ Z=>?_
     refine vcL_split 5 fun _ Y=>?_
     simp
     and_intros<;>try omega
     apply Y
     simp only [List.drop]
     refine vcL_step fun _ Y=>?_
     simp
     refine zce (e3 (by omega)) ?_
     apply Y
     simp
     and_intros<;>try omega
     apply Z
     apply awp_ret
     apply q_block_r
     apply q_then_r
     simp [endQ]
    ·try simp at c4
     refine zk [0,3,4,7] ?_
     refine zr0 fun _ _ Z=>?_
     simp
     and_intros<;>try omega
     apply Z
     refine zi ?_
     refine ⟨fun c5=>?_,fun c5=>?_⟩
     ·try simp at c5
      refine zr0 fun _ _ Z=>?_
      refine vcL_split 7 fun _ Y=>?_
      simp
      and_intros<;>try omega
      apply Y
      simp only [List.drop]
      refine vcL_step fun _ Y=>?_
      simp
      refine zce (e4 (by omega)) ?_
      apply Y
      simp
      and_intros<;>try omega
      apply Z
      apply awp_ret
      apply q_block_r
      apply q_then_r
      simp [endQ]
     ·try simp at c5
      refine zr0 fun _ _ Z=>?_
      simp
      and_intros<;>try omega
      apply Z
      refine zi ?_
      refine ⟨fun c6=>?_,fun c6=>?_⟩
      ·try simp at c6
       refine zr0 fun _ _ Z=>?_
       refine vcL_split 5 fun _ Y=>?_
       simp
       and_intros<;>try omega
       apply Y
       simp only [List.drop]
       refine vcL_step fun _ Y=>?_
       simp
       refine zce (e5 (by omega)) ?_
       apply Y
       simp
       and_intros<;>try omega
       apply Z
       apply awp_ret
       apply q_block_r
       apply q_then_r
       simp [endQ]
      ·try simp at c6
       refine zr0 fun _ _ Z=>?_
       simp
       and_intros<;>try omega
       apply Z
       refine zi ?_
       refine ⟨fun c7=>?_,fun c7=>?_⟩
       ·try simp at c7
        refine zr0 fun _ _ Z=>?_
        refine vcL_split 5 fun _ Y=>?_
        simp
        and_intros<;>try omega
        apply Y
        simp only [List.drop]
        refine vcL_step fun _ Y=>?_
        simp
        refine zce (e6 (by omega)) ?_
        apply Y
        simp
        and_intros<;>try omega
        apply Z
        apply awp_ret
        apply q_block_r
        apply q_then_r
        simp [endQ]
       ·try simp at c7
        apply awp_skip
        apply q_block_n
        apply q_then_n
        refine zr0 fun _ _ Z=>?_
        refine vcL_split 5 fun _ Y=>?_
        simp
        and_intros<;>try omega
        apply Y
        simp only [List.drop]
        refine vcL_step fun _ Y=>?_
        simp
        refine zce (e7 (by omega)) ?_
        apply Y
        simp
        and_intros<;>try omega
        apply Z
        apply awp_ret
        simp [endQ]
theorem kid_le {k m M : Nat} {d : DS} {rk : Int → Nat} {σ : List (List D)} (h : IV k m M d rk σ) (hk : k ≤ 800) (i : Int) : (findD d.x.l i).kids.length ≤ 900 := by
 cases hl : isL d.x.l i with
 | false => rw [findD_none hl]; simp [ndz]
 | true =>
  obtain ⟨n, n1, _, n3⟩ := isL_memN hl
  rw [n3]; have := (h.ip.sz n n1).1; omega
theorem kid_nd {k m M : Nat} {d : DS} {rk : Int → Nat} {σ : List (List D)} (h : IV k m M d rk σ) (i : Int) : (findD d.x.l i).kids.Nodup := by
 cases hl : isL d.x.l i with
 | false => rw [findD_none hl]; exact List.nodup_nil
 | true =>
  obtain ⟨n, n1, _, n3⟩ := isL_memN hl
  rw [n3]; exact h.wt.kn n n1
theorem srt_a {k m M : Nat} {d : DS} {rk : Int → Nat} {σ : List (List D)} (h : IV k m M d rk σ) (i : Int) : Sorted nA (findD d.x.l i).attrs := by
 cases hl : isL d.x.l i with
 | false => rw [findD_none hl]; exact List.Pairwise.nil
 | true =>
  obtain ⟨n, n1, _, n3⟩ := isL_memN hl
  rw [n3]; exact (h.ip.st n n1).1
theorem srt_p {k m M : Nat} {d : DS} {rk : Int → Nat} {σ : List (List D)} (h : IV k m M d rk σ) (i : Int) : Sorted nP (findD d.x.l i).styles := by
 cases hl : isL d.x.l i with
 | false => rw [findD_none hl]; exact List.Pairwise.nil
 | true =>
  obtain ⟨n, n1, _, n3⟩ := isL_memN hl
  rw [n3]; exact (h.ip.st n n1).2
theorem tidy_len (a : Act) : (tidy a).name.size ≤ 20 ∧ (tidy a).value.size ≤ 40 := ⟨cutB_len 20 a.name, cutB_len 40 a.value⟩
theorem do0_fn (m : Nat) (x y : RD) (n c : Int) (a : Act) (bel bel2 : Int → List Int) (rk : Int → Nat) (σ2 : List (List D)) (σ : List (List D)) (hx : NB x.l) (hnx : 0 ≤ x.next ∧ x.next ≤ 1000000) (htr : Tr x.l bel rk) (htr2 : Tr (remP x.l (tidy a).a) bel2 rk) (hkl : ∀ i, (findD x.l i).kids.length ≤ 900) (hkn : ∀ i, (findD x.l i).kids.Nodup) (hsa : ∀ i, Sorted nA (findD x.l i).attrs) (hss : ∀ i, Sorted nP (findD x.l i).styles) (e0 : (tidy a).kind = 0 → Ct Tryz.prog 40 [.ref m 0, D.str (tidy a).name] σ (fun r τ => r = .tup [D.int n, D.int c] ∧ τ = σ2) ∧ addX x 2 (tidy a).name = (y, n, c)) (e1 : (tidy a).kind = 1 → Ct Tryz.prog 44 [.ref m 0, D.str (tidy a).value] σ (fun r τ => r = .tup [D.int n, D.int c] ∧ τ = σ2) ∧ addX x 1 (tidy a).value = (y, n, c)) (e2 : (tidy a).kind = 2 → Ct Tryz.prog 41 [.ref m 0, D.int (tidy a).a, D.int (tidy a).b, D.int (tidy a).c] σ (fun r τ => r = D.int c ∧ τ = σ2) ∧ insX x bel (tidy a).a (tidy a).b (tidy a).c = (y, c)) (e3 : (tidy a).kind = 3 → Ct Tryz.prog 46 [.ref m 0, D.int (tidy a).a, D.int (tidy a).b] σ (fun r τ => r = D.int c ∧ τ = σ2) ∧ movX x (tidy a).a (tidy a).b = (y, c)) (e4 : (tidy a).kind = 4 → Ct Tryz.prog 48 [.ref m 0, D.int (tidy a).a] σ (fun r τ => r = D.int c ∧ τ = σ2) ∧ remX x bel2 (tidy a).a = (y, c)) (e5 : 10 ≤ (tidy a).kind ∧ (tidy a).kind ≤ 17 → Ct Tryz.prog 50 [.ref m 0, d_Act (tidy a)] σ (fun r τ => r = D.int c ∧ τ = σ2) ∧ setX x ((tidy a).kind - 10) (tidy a).a (tidy a).name (tidy a).value (tidy a).c = (y, c)) (e6 : ¬ (0 ≤ (tidy a).kind ∧ (tidy a).kind ≤ 4) ∧ ¬ (10 ≤ (tidy a).kind ∧ (tidy a).kind ≤ 17) → y = x ∧ σ2 = σ) (h1 : a.name.size ≤ 9223372036854775807) (h2 : a.value.size ≤ 9223372036854775807) : Ct Tryz.prog 14 [.ref m 0, d_RD x, d_Act a] σ (fun r σ' => r = .tup [d_RD y, .bool true] ∧ σ' = σ2) := by
 refine zf (rs:=[.cell 6 28,.tmp 7]) Tryz.func14 Tryz.ntmps14 Tryz.results14 ?_
 simp only [argEnv]
 obtain ⟨t1, t2⟩ := tidy_len a
 refine zr0 fun _ _ Z=>?_
 simp
 and_intros<;>try omega
 apply Z
 refine zr0 fun _ _ Z=>?_
 refine vcL_split 1 fun _ Y=>?_
 simp
 and_intros<;>try omega
 apply Y
 simp only [List.drop]
 refine vcL_step fun _ Y=>?_
 simp
 refine zce (tidy_fn a _ h1 h2) ?_
 apply Y
 simp
 and_intros<;>try omega
 apply Z
 refine zr0 fun _ _ Z=>?_
 simp
 and_intros<;>try omega
 apply Z
 refine zr0 fun _ _ Z=>?_
 simp
 and_intros<;>try omega
 apply Z
 apply awp_seq
 apply awp_block
 refine zk [0,4,5,6,7,8,9,10,11,12] ?_
 refine zr0 fun _ _ Z=>?_
 simp
 and_intros<;>try omega
 apply Z
 refine zi ?_
 refine ⟨fun c1=>?_,fun c1=>?_⟩
 ·try simp at c1
  refine zk [0,4,5,6,7,8,9,10,11,12] ?_
  refine zr0 fun _ _ Z=>?_
  refine vcL_split 3 fun _ Y=>?_
  simp
  and_intros<;>try omega
  apply Y
  simp only [List.drop]
  refine vcL_step fun _ Y=>?_
  simp
  refine zce (e0 (by omega)).1 ?_
  apply Y
  simp
  and_intros<;>try omega
  apply Z
  refine zk [4,5,6,7,8,9,10,11,12,13,14] ?_
  refine zr0 fun _ _ Z=>?_
  simp
  and_intros<;>try omega
  apply Z
  refine zk [4,5,6,7,8,9,10,11,12] ?_
  refine zt0 fun _ _ Z=>?_
  refine vcL_split 3 fun _ Y=>?_
  simp
  and_intros<;>try omega
  apply Y
  simp only [List.drop]
  refine vcL_step fun _ Y=>?_
  simp
  refine zce (add5_fn x 2 (tidy a).name _ hx hnx (by omega)) ?_
  rw [(e0 (by omega)).2]
  apply Y
  simp
  and_intros<;>try omega
  apply Z
  apply q_block_n
  apply q_then_n
  refine zk [6,7,8,9,10,11,12] ?_
  refine zrg ⟨[],[],[],[],[]⟩ fun all hall _ Z=>?_
  have ga4 : guardOf all 4 = some 151 := hall 4
  refine vcL_split 5 fun _ Y=>?_
  simp[ga4]
  and_intros<;>try omega
  apply Y
  simp only [List.drop]
  refine vcL_bool 151 (by simp <;> rfl) ?_
  refine ⟨fun g2 => ?_, fun g2 => ?_⟩
  ·try simp at g2
   simp[ga4]
   and_intros<;>try omega
   apply Z
   apply awp_ret
   simp [endQ]
  ·simp at g2
 ·try simp at c1
  refine zk [0,4,5,6,7,8,9,10,11,12] ?_
  refine zr0 fun _ _ Z=>?_
  simp
  and_intros<;>try omega
  apply Z
  refine zi ?_
  refine ⟨fun c3=>?_,fun c3=>?_⟩
  ·try simp at c3
   refine zk [0,4,5,6,7,8,9,10,11,12] ?_
   refine zr0 fun _ _ Z=>?_
   refine vcL_split 3 fun _ Y=>?_
   simp
   and_intros<;>try omega
   apply Y
   simp only [List.drop]
   refine vcL_step fun _ Y=>?_
   simp
   refine zce (e1 (by omega)).1 ?_
   apply Y
   simp
   and_intros<;>try omega
   apply Z
   refine zk [4,5,6,7,8,9,10,11,12,15,16] ?_
   refine zr0 fun _ _ Z=>?_
   simp
   and_intros<;>try omega
   apply Z
   refine zk [4,5,6,7,8,9,10,11,12] ?_
   refine zt0 fun _ _ Z=>?_
   refine vcL_split 3 fun _ Y=>?_
   simp
   and_intros<;>try omega
   apply Y
   simp only [List.drop]
   refine vcL_step fun _ Y=>?_
   simp
   refine zce (add5_fn x 1 (tidy a).value _ hx hnx (by omega)) ?_
   rw [(e1 (by omega)).2]
   apply Y
   simp
   and_intros<;>try omega
   apply Z
   apply q_block_n
   apply q_then_n
   refine zk [6,7,8,9,10,11,12] ?_
   refine zrg ⟨[],[],[],[],[]⟩ fun all hall _ Z=>?_
   have ga4 : guardOf all 4 = some 151 := hall 4
   refine vcL_split 5 fun _ Y=>?_
   simp[ga4]
   and_intros<;>try omega
   apply Y
   simp only [List.drop]
   refine vcL_bool 151 (by simp <;> rfl) ?_
   refine ⟨fun g4 => ?_, fun g4 => ?_⟩
   ·try simp at g4
    simp[ga4]
    and_intros<;>try omega
    apply Z
    apply awp_ret
    simp [endQ]
   ·simp at g4
  ·try simp at c3
   refine zk [0,4,5,6,7,8,9,10,11,12] ?_
   refine zr0 fun _ _ Z=>?_
   simp
   and_intros<;>try omega
   apply Z
   refine zi ?_
   refine ⟨fun c5=>?_,fun c5=>?_⟩
   ·try simp at c5
    refine zk [0,4,5,6,7,8,9,10,11,12] ?_
    refine zr0 fun _ _ Z=>?_
    refine vcL_split 7 fun _ Y=>?_
    simp
    and_intros<;>try omega
    apply Y
    simp only [List.drop]
    refine vcL_step fun _ Y=>?_
    simp
    refine zce (e2 (by omega)).1 ?_
    apply Y
    simp
    and_intros<;>try omega
    apply Z
    refine zk [4,5,6,7,8,9,10,11,12] ?_
    refine zt0 fun _ _ Z=>?_
    refine vcL_split 7 fun _ Y=>?_
    simp
    and_intros<;>try omega
    apply Y
    simp only [List.drop]
    refine vcL_step fun _ Y=>?_
    simp
    refine zce (ins5_fn x (tidy a).a (tidy a).b (tidy a).c bel rk _ hx htr (hkl _)) ?_
    rw [(e2 (by omega)).2]
    apply Y
    simp
    and_intros<;>try omega
    apply Z
    apply q_block_n
    apply q_then_n
    refine zk [6,7,8,9,10,11,12] ?_
    refine zrg ⟨[],[],[],[],[]⟩ fun all hall _ Z=>?_
    have ga4 : guardOf all 4 = some 151 := hall 4
    refine vcL_split 5 fun _ Y=>?_
    simp[ga4]
    and_intros<;>try omega
    apply Y
    simp only [List.drop]
    refine vcL_bool 151 (by simp <;> rfl) ?_
    refine ⟨fun g6 => ?_, fun g6 => ?_⟩
    ·try simp at g6
     simp[ga4]
     and_intros<;>try omega
     apply Z
     apply awp_ret
     simp [endQ]
    ·simp at g6
   ·try simp at c5
    refine zk [0,4,5,6,7,8,9,10,11,12] ?_
    refine zr0 fun _ _ Z=>?_
    simp
    and_intros<;>try omega
    apply Z
    refine zi ?_
    refine ⟨fun c7=>?_,fun c7=>?_⟩
    ·try simp at c7
     refine zk [0,4,5,6,7,8,9,10,11,12] ?_
     refine zr0 fun _ _ Z=>?_
     refine vcL_split 5 fun _ Y=>?_
     simp
     and_intros<;>try omega
     apply Y
     simp only [List.drop]
     refine vcL_step fun _ Y=>?_
     simp
     refine zce (e3 (by omega)).1 ?_
     apply Y
     simp
     and_intros<;>try omega
     apply Z
     refine zk [4,5,6,7,8,9,10,11,12] ?_
     refine zt0 fun _ _ Z=>?_
     refine vcL_split 5 fun _ Y=>?_
     simp
     and_intros<;>try omega
     apply Y
     simp only [List.drop]
     refine vcL_step fun _ Y=>?_
     simp
     refine zce (mov5_fn x (tidy a).a (tidy a).b _ hx (hkn _)) ?_
     rw [(e3 (by omega)).2]
     apply Y
     simp
     and_intros<;>try omega
     apply Z
     apply q_block_n
     apply q_then_n
     refine zk [6,7,8,9,10,11,12] ?_
     refine zrg ⟨[],[],[],[],[]⟩ fun all hall _ Z=>?_
     have ga4 : guardOf all 4 = some 151 := hall 4
     refine vcL_split 5 fun _ Y=>?_
     simp[ga4]
     and_intros<;>try omega
     apply Y
     simp only [List.drop]
     refine vcL_bool 151 (by simp <;> rfl) ?_
     refine ⟨fun g8 => ?_, fun g8 => ?_⟩
     ·try simp at g8
      simp[ga4]
      and_intros<;>try omega
      apply Z
      apply awp_ret
      simp [endQ]
     ·simp at g8
    ·try simp at c7
     refine zk [0,4,5,6,7,8,9,10,11,12] ?_
     refine zr0 fun _ _ Z=>?_
     simp
     and_intros<;>try omega
     apply Z
     refine zi ?_
     refine ⟨fun c9=>?_,fun c9=>?_⟩
     ·try simp at c9
      refine zk [0,4,5,6,7,8,9,10,11,12] ?_
      refine zr0 fun _ _ Z=>?_
      refine vcL_split 3 fun _ Y=>?_
      simp
      and_intros<;>try omega
      apply Y
      simp only [List.drop]
      refine vcL_step fun _ Y=>?_
      simp
      refine zce (e4 (by omega)).1 ?_
      apply Y
      simp
      and_intros<;>try omega
      apply Z
      refine zk [4,5,6,7,8,9,10,11,12] ?_
      refine zt0 fun _ _ Z=>?_
      refine vcL_split 3 fun _ Y=>?_
      simp
      and_intros<;>try omega
      apply Y
      simp only [List.drop]
      refine vcL_step fun _ Y=>?_
      simp
      refine zce (rem5_fn x (tidy a).a bel2 rk _ hx htr2) ?_
      rw [(e4 (by omega)).2]
      apply Y
      simp
      and_intros<;>try omega
      apply Z
      apply q_block_n
      apply q_then_n
      refine zk [6,7,8,9,10,11,12] ?_
      refine zrg ⟨[],[],[],[],[]⟩ fun all hall _ Z=>?_
      have ga4 : guardOf all 4 = some 151 := hall 4
      refine vcL_split 5 fun _ Y=>?_
      simp[ga4]
      and_intros<;>try omega
      apply Y
      simp only [List.drop]
      refine vcL_bool 151 (by simp <;> rfl) ?_
      refine ⟨fun g10 => ?_, fun g10 => ?_⟩
      ·try simp at g10
       simp[ga4]
       and_intros<;>try omega
       apply Z
       apply awp_ret
       simp [endQ]
      ·simp at g10
     ·try simp at c9
      refine zk [0,4,5,6,7,8,9,10,11,12] ?_
      refine zrg ⟨[],[],[],[],[]⟩ fun all hall _ Z=>?_
      have ga3 : guardOf all 3 = some 123 := hall 3
      refine vcL_split 4 fun _ Y=>?_
      simp[ga3]
      and_intros<;>try omega
      apply Y
      simp only [List.drop]
      refine vcL_bool 123 (by simp <;> rfl) ?_
      refine ⟨fun g11 => ?_, fun g11 => ?_⟩
      ·try simp at g11
       simp[ga3]
       and_intros<;>try omega
       apply Z
       refine zi ?_
       refine ⟨fun c12=>?_,fun c12=>?_⟩
       ·try simp at c12
        refine zk [0,4,5,6,7,8,9,10,11,12] ?_
        refine zr0 fun _ _ Z=>?_
        refine vcL_split 2 fun _ Y=>?_
        simp
        and_intros<;>try omega
        apply Y
        simp only [List.drop]
        refine vcL_step fun _ Y=>?_
        simp
        refine zce (e5 (by omega)).1 ?_
        apply Y
        simp
        and_intros<;>try omega
        apply Z
        refine zk [4,5,6,7,8,9,10,11,12] ?_
        refine zt0 fun _ _ Z=>?_
        refine vcL_split 8 fun _ Y=>?_
        simp
        and_intros<;>try omega
        apply Y
        simp only [List.drop]
        refine vcL_split 4 fun _ Y=>?_
        simp
        and_intros<;>try omega
        apply Y
        simp only [List.drop]
        refine vcL_step fun _ Y=>?_
        simp
        refine zce (set5_fn x ((tidy a).kind - 10) (tidy a).a (tidy a).name (tidy a).value (tidy a).c _ hx (by omega) (hsa _) (hss _)) ?_
        rw [(e5 (by omega)).2]
        apply Y
        simp
        and_intros<;>try omega
        apply Z
        apply q_block_n
        apply q_then_n
        refine zk [6,7,8,9,10,11,12] ?_
        refine zrg ⟨[],[],[],[],[]⟩ fun all hall _ Z=>?_
        have ga4 : guardOf all 4 = some 151 := hall 4
        refine vcL_split 5 fun _ Y=>?_
        simp[ga4]
        and_intros<;>try omega
        apply Y
        simp only [List.drop]
        refine vcL_bool 151 (by simp <;> rfl) ?_
        refine ⟨fun g13 => ?_, fun g13 => ?_⟩
        ·try simp at g13
         simp[ga4]
         and_intros<;>try omega
         apply Z
         apply awp_ret
         simp [endQ]
        ·simp at g13
       ·try simp at c12
        apply awp_skip
        apply q_block_n
        apply q_then_n
        refine zk [6,7,8,9,10,11,12] ?_
        refine zrg ⟨[],[],[],[],[]⟩ fun all hall _ Z=>?_
        have ga4 : guardOf all 4 = some 151 := hall 4
        refine vcL_split 5 fun _ Y=>?_
        simp[ga4]
        and_intros<;>try omega
        apply Y
        simp only [List.drop]
        refine vcL_bool 151 (by simp <;> rfl) ?_
        refine ⟨fun g14 => ?_, fun g14 => ?_⟩
        ·try simp at g14
         simp[ga4]
         and_intros<;>try omega
         apply Z
         apply awp_ret
         obtain ⟨q1, q2⟩ := e6 (by omega)
         subst q1; subst q2
         simp [endQ]
        ·simp at g14
      ·try simp at g11
       simp[ga3]
       and_intros<;>try omega
       apply Z
       refine awp_cond (t := false) (by simp) (fun h => by cases h) (fun _ => ?_)
       apply awp_skip
       apply q_block_n
       apply q_then_n
       refine zk [6,7,8,9,10,11,12] ?_
       refine zrg ⟨[],[],[],[],[]⟩ fun all hall _ Z=>?_
       have ga4 : guardOf all 4 = some 151 := hall 4
       refine vcL_split 5 fun _ Y=>?_
       simp[ga4]
       and_intros<;>try omega
       apply Y
       simp only [List.drop]
       refine vcL_bool 151 (by simp <;> rfl) ?_
       refine ⟨fun g15 => ?_, fun g15 => ?_⟩
       ·try simp at g15
        simp[ga4]
        and_intros<;>try omega
        apply Z
        apply awp_ret
        obtain ⟨q1, q2⟩ := e6 (by omega)
        subst q1; subst q2
        simp [endQ]
       ·simp at g15
end Go.Proofs.YtpfmpeaekgdgnaaGreat


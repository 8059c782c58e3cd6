import Derived.Test.YtpfmpeaekgdgnaaGreatArPerm
namespace Go.Proofs.YtpfmpeaekgdgnaaGreat
open Go Go.Vm
set_option maxRecDepth 20000
set_option linter.all false
set_option maxHeartbeats 8000000
structure Act where
 kind : Int
 a : Int
 b : Int
 c : Int
 name : ByteArray
 value : ByteArray
 deriving DecidableEq
@[simp] abbrev d_Act (s : Act) : D := .agg [.v (.int .i64 s.kind), .v (.int .i64 s.a), .v (.int .i64 s.b), .v (.int .i64 s.c), .v (.string s.name), .v (.string s.value)]
def tidy (a : Act) : Act := { a with name := cutB 20 a.name, value := cutB 40 a.value }
def d0 (most : Int) (o : Nat) : DS := ⟨max 1 (min most 65536), 1, 1, [⟨rootN, o, 0⟩]⟩
theorem clip_eq (x : Int) : clip x 1 65536 = max 1 (min x 65536) := by
 unfold clip; (repeat' split) <;> omega
theorem d0_IV (most : Int) (σ : List (List D)) : IV 0 (σ.length + 1) σ.length (d0 most (σ.length + 2)) (fun _ => 0) (σ ++ [[], dcel σ.length (d0 most (σ.length + 2)), ncel rootN]) := by
 have hl : (d0 most (σ.length + 2)).l = [rootN] := rfl
 have hm : ∀ n ∈ (d0 most (σ.length + 2)).l, n = rootN := fun n hn => by rw [hl] at hn; simpa using hn
 have hwt : WT (d0 most (σ.length + 2)).l (fun _ => 0) := by
  refine ⟨by rw [hl]; simp, fun n hn k hk => ?_, fun n hn => ?_, fun n hn => ?_, fun n hn => ?_, fun n hn k hk => ?_⟩ <;> have := hm n hn <;> subst this
  ·cases hk
  ·exact .inl rfl
  ·exact Int.le_refl _
  ·exact List.nodup_nil
  ·cases hk
 refine ⟨⟨by simp, fun e he => ?_, fun e he => ?_, by simp [d0], by simp⟩, ⟨hwt.nd, by simp [d0], ?_, by simp [d0], fun n hn => ?_, fun n hn => ?_, fun n hn => ?_, ⟨rootN, by rw [hl]; simp, rfl, rfl, rfl⟩, fun n hn => ?_, ?_⟩, hwt⟩
 ·simp only [d0, List.mem_singleton] at he; subst he; simp
 ·simp only [d0, List.mem_singleton] at he; subst he; show σ.length + 2 ≠ σ.length + 1; omega
 ·show 1 ≤ max 1 (min most 65536) ∧ max 1 (min most 65536) ≤ 65536; omega
 ·have := hm n hn; subst this; show (0 : Int) < 1; omega
 ·have := hm n hn; subst this; simp [rootN]
 ·have := hm n hn; subst this; exact ⟨List.Pairwise.nil, List.Pairwise.nil⟩
 ·have := hm n hn; subst this; exact .inr rfl
 ·show (([_] : List EN).length : Int) - 1 ≤ max 1 (min most 65536); simp; omega
theorem anew_fn (most : Int) (σ : List (List D))  : Ct Tryz.prog 12 [D.int most] σ (fun r σ' => r = .ref (σ.length + 1) 0 ∧ σ' = σ ++ [[], dcel σ.length (d0 most (σ.length + 2)), ncel rootN]) := by
 refine zf (rs:=[.tmp 2]) Tryz.func12 Tryz.ntmps12 Tryz.results12 ?_
 simp only [argEnv]
 refine zr ⟨[],[],[8,14],[],[]⟩ fun _ _ Z=>?_
 simp[og_at,og_put,og_at0,og_put0,clip_eq]
 and_intros<;>try omega
 apply Z
 refine zr ⟨[],[],[8,14],[],[]⟩ fun _ _ Z=>?_
 refine vcL_split 1 fun _ Y=>?_
 simp[og_at,og_put,og_at0,og_put0,clip_eq]
 and_intros<;>try omega
 apply Y
 simp only [List.drop]
 refine vcL_step fun _ Y=>?_
 simp[og_at,og_put,og_at0,og_put0,clip_eq]
 refine zce (clip_fn ..) ?_
 apply Y
 simp[og_at,og_put,og_at0,og_put0,clip_eq]
 and_intros<;>try omega
 apply Z
 refine awp_mapToCell 6 (σ.length + 1) 2 (N := σ.length) (kd := .int .i64) (clock := 0) (kvs := []) (by simp) (by simp [og_at, og_put, og_at0, og_put0] <;> rfl) (by simp <;> rfl) ?_
 simp only [og_put, List.set_cons_zero, List.set_cons_succ]
 refine zr ⟨[],[],[8,14],[],[]⟩ fun _ _ Z=>?_
 simp[og_at,og_put,og_at0,og_put0,clip_eq]
 refine ⟨σ.length + 1, 2, 0, [], 1, _, ⟨⟨_, by simp [og_at, og_put, og_at0, og_put0] <;> rfl, rfl⟩, keyI _, rfl, .inr ⟨by simp, rfl, rfl⟩⟩, ?_⟩
 rw [putM_eq (by simp [og_at, og_put, og_at0, og_put0] <;> rfl)]
 and_intros<;>try omega
 apply Z
 refine awp_toXO (σ.length + 2) 8 1 (by simp [og_at, og_put, og_at0, og_put0]; rfl) rfl ?_
 simp only [og_put, List.set_cons_zero, List.set_cons_succ]
 refine awp_weakO (σ.length + 2) (ncel rootN) (by simp [og_at, og_put, og_at0, og_put0]; rfl) (by simp [leC, rootN, D.s1]) ?_
 simp only [og_put, List.set_cons_zero, List.set_cons_succ]
 refine zk [2,3] ?_
 refine zr ⟨[],[],[8,14],[],[]⟩ fun _ _ Z=>?_
 simp[og_at,og_put,og_at0,og_put0,clip_eq]
 and_intros<;>try omega
 apply Z
 apply awp_ret
 simp [endQ, d0, kvE, rootN, dcel]
theorem tidy_fn (a : Act) (σ : List (List D)) (h1 : a.name.size ≤ 9223372036854775807) (h2 : a.value.size ≤ 9223372036854775807) : Ct Tryz.prog 27 [d_Act a] σ (fun r σ' => r = d_Act (tidy a) ∧ σ' = σ) := by
 refine zf (rs:=[.cell 2 33]) Tryz.func27 Tryz.ntmps27 Tryz.results27 ?_
 simp only [argEnv]
 refine zr0 fun _ _ Z=>?_
 simp
 and_intros<;>try omega
 apply Z
 refine zd ⟨[],[],[],[],[]⟩ [.op {},.op {rL:=true},.pure,.op {},.op {rL:=true},.pure,.op {},.op {rL:=true,wL:=true},.op {},.op {rL:=true,wL:=true}] fun all hall _ Z=>?_
 refine vcDL_split 2 (by simp) fun _ Y=>?_
 simp
 and_intros<;>try omega
 apply Y
 simp only [List.drop]
 refine vcDL_step fun _ Y=>?_
 simp
 refine zdp (fun _ => (cut_fn a.name 20 _ (by omega))) ?_
 apply Y
 refine vcDL_split 2 (by simp) fun _ Y=>?_
 simp
 and_intros<;>try omega
 apply Y
 simp only [List.drop]
 refine vcDL_step fun _ Y=>?_
 simp
 refine zdp (fun _ => (cut_fn a.value 40 _ (by omega))) ?_
 apply Y
 simp
 and_intros<;>try omega
 apply Z
 refine zr0 fun _ _ Z=>?_
 simp
 and_intros<;>try omega
 apply Z
 apply awp_ret
 simp [endQ, tidy]
theorem kid_le {k m M : Nat} {d : DS} {rk : Int → Nat} {σ : List (List D)} (h : IV k m M d rk σ) (hk : k ≤ 800) (i : Int) : (findD d.x.l i).kids.length ≤ 900 := by
 cases hl : isL d.x.l i with
 | false => rw [findD_none hl]; simp [ndz]
 | true =>
  obtain ⟨n, n1, _, n3⟩ := isL_memN hl
  rw [n3]; have := (h.ip.sz n n1).1; omega
theorem kid_nd {k m M : Nat} {d : DS} {rk : Int → Nat} {σ : List (List D)} (h : IV k m M d rk σ) (i : Int) : (findD d.x.l i).kids.Nodup := by
 cases hl : isL d.x.l i with
 | false => rw [findD_none hl]; exact List.nodup_nil
 | true =>
  obtain ⟨n, n1, _, n3⟩ := isL_memN hl
  rw [n3]; exact h.wt.kn n n1
theorem srt_a {k m M : Nat} {d : DS} {rk : Int → Nat} {σ : List (List D)} (h : IV k m M d rk σ) (i : Int) : Sorted nA (findD d.x.l i).attrs := by
 cases hl : isL d.x.l i with
 | false => rw [findD_none hl]; exact List.Pairwise.nil
 | true =>
  obtain ⟨n, n1, _, n3⟩ := isL_memN hl
  rw [n3]; exact (h.ip.st n n1).1
theorem srt_p {k m M : Nat} {d : DS} {rk : Int → Nat} {σ : List (List D)} (h : IV k m M d rk σ) (i : Int) : Sorted nP (findD d.x.l i).styles := by
 cases hl : isL d.x.l i with
 | false => rw [findD_none hl]; exact List.Pairwise.nil
 | true =>
  obtain ⟨n, n1, _, n3⟩ := isL_memN hl
  rw [n3]; exact (h.ip.st n n1).2
theorem tidy_len (a : Act) : (tidy a).name.size ≤ 20 ∧ (tidy a).value.size ≤ 40 := ⟨cutB_len 20 a.name, cutB_len 40 a.value⟩
end Go.Proofs.YtpfmpeaekgdgnaaGreat


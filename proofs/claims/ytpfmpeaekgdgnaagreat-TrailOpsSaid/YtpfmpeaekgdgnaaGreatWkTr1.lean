import Derived.Test.YtpfmpeaekgdgnaaGreatWkAr18
namespace Go.Proofs.YtpfmpeaekgdgnaaGreat
open Go Go.Vm
set_option maxRecDepth 20000
set_option linter.all false
set_option maxHeartbeats 8000000
structure TOp where
 kind : Int
 a : Int
 b : Int
 c : Int
 name : ByteArray
 value : ByteArray
 deriving DecidableEq
@[simp] abbrev d_TOp (s : TOp) : D := .agg [.v (.int .i64 s.kind), .v (.int .i64 s.a), .v (.int .i64 s.b), .v (.int .i64 s.c), .v (.string s.name), .v (.string s.value)]
abbrev lcel (m : Nat) (ops : List TOp) : List D := [.ref m 0, .sl true ((ops).map d_TOp)]
def nt (l m : Nat) (ops : List TOp) (c : Int) (o : TOp) (σ : List (List D)) : List (List D) := if c = 0 then σ.set l (lcel m (ops ++ [o])) else σ
def nto (ops : List TOp) (c : Int) (o : TOp) : List TOp := if c = 0 then ops ++ [o] else ops
theorem nt_get {l m : Nat} {ops : List TOp} {c : Int} {o : TOp} {σ : List (List D)} (h : σ[l]? = some (lcel m ops)) : (nt l m ops c o σ)[l]? = some (lcel m (nto ops c o)) := by
 unfold nt nto; split
 ·exact og_get h _
 ·exact h
theorem nto_len (ops : List TOp) (c : Int) (o : TOp) : (nto ops c o).length ≤ ops.length + 1 := by
 unfold nto; split <;> simp
theorem note0_fn (l m : Nat) (ops : List TOp) (c : Int) (o : TOp) (σ : List (List D)) (hq : σ[l]? = some (lcel m ops)) (hl : ops.length ≤ 100000) : Ct Tryz.prog 110 [.ref l 0, D.int c, d_TOp o] σ (fun r σ' => r = D.int c ∧ σ' = nt l m ops c o σ) := by
 refine zf (rs:=[.tmp 6]) Tryz.func110 Tryz.ntmps110 Tryz.results110 ?_
 simp only [argEnv]
 refine zr ⟨[13],[5],[],[],[]⟩ fun _ _ Z=>?_
 simp[hq,og_get hq]
 and_intros<;>try omega
 apply Z
 apply awp_seq
 refine zr ⟨[13],[5],[],[],[]⟩ fun _ _ Z=>?_
 simp[hq,og_get hq]
 and_intros<;>try omega
 apply Z
 refine zi ?_
 refine ⟨fun c1=>?_,fun c1=>?_⟩
 ·try simp at c1
  refine ze ⟨[13],[5],[],[],[]⟩ [.op {},.op {},.op {},.op {},.op {rO:=true,wO:=true},.op {},.op {},.op {},.op {},.op {},.op {rO:=true,wO:=true}] fun all hall _ Z=>?_
  refine vcDL_split 8 (by simp) fun _ Y=>?_
  simp[hq,og_get hq]
  and_intros<;>try omega
  apply Y
  simp only [List.drop]
  simp[hq,og_get hq]
  and_intros<;>try omega
  apply Z
  apply q_then_n
  refine zk [1,6] ?_
  refine zr ⟨[13],[5],[],[],[]⟩ fun _ _ Z=>?_
  simp[hq,og_get hq]
  and_intros<;>try omega
  apply Z
  apply awp_ret
  simp [endQ, nt, c1, lcel]
 ·try simp at c1
  apply awp_skip
  apply q_then_n
  refine zr ⟨[13],[5],[],[],[]⟩ fun _ _ Z=>?_
  simp[hq,og_get hq]
  and_intros<;>try omega
  apply Z
  apply awp_ret
  simp [endQ, nt, c1, lcel]
theorem lElement_fn (l m : Nat) (ops : List TOp) (s : ByteArray) (n c : Int) (σ2 : List (List D)) (σ : List (List D)) (hg : σ[l]? = some (lcel m ops)) (hc : Ct Tryz.prog 40 [.ref m 0, D.str s] σ (fun r τ => r = .tup [D.int n, D.int c] ∧ τ = σ2)) (h2 : σ2[l]? = some (lcel m ops)) (hl : ops.length ≤ 100000) : Ct Tryz.prog 60 [.ref l 0, D.str s] σ (fun r σ' => r = .tup [D.int n, D.int c] ∧ σ' = nt l m ops c ⟨1, n, 0, 0, s, ⟨#[]⟩⟩ σ2) := by
 refine zf (rs:=[.tmp 4,.tmp 5]) Tryz.func60 Tryz.ntmps60 Tryz.results60 ?_
 simp only [argEnv]
 refine zr0 fun _ _ Z=>?_
 simp[hg]
 and_intros<;>try omega
 apply Z
 refine zr0 fun _ _ Z=>?_
 refine vcL_split 5 fun _ Y=>?_
 simp[hg]
 and_intros<;>try omega
 apply Y
 simp only [List.drop]
 refine vcL_step fun _ Y=>?_
 simp[hg]
 refine zce (hc) ?_
 apply Y
 simp[hg]
 and_intros<;>try omega
 apply Z
 refine zk [0,1,4,5,6,7] ?_
 refine zr0 fun _ _ Z=>?_
 refine vcL_split 6 fun _ Y=>?_
 simp[hg]
 and_intros<;>try omega
 apply Y
 simp only [List.drop]
 refine vcL_step fun _ Y=>?_
 simp[hg]
 refine zce (note0_fn l m ops c ⟨1, n, 0, 0, s, ⟨#[]⟩⟩ _ h2 hl) ?_
 apply Y
 simp[hg]
 and_intros<;>try omega
 apply Z
 apply awp_ret
 simp [endQ]
theorem lInsert_fn (l m : Nat) (ops : List TOp) (p at_ id : Int) (c : Int) (σ2 : List (List D)) (σ : List (List D)) (hg : σ[l]? = some (lcel m ops)) (hc : Ct Tryz.prog 41 [.ref m 0, D.int p, D.int at_, D.int id] σ (fun r τ => r = D.int c ∧ τ = σ2)) (h2 : σ2[l]? = some (lcel m ops)) (hl : ops.length ≤ 100000) : Ct Tryz.prog 61 [.ref l 0, D.int p, D.int at_, D.int id] σ (fun r σ' => r = D.int c ∧ σ' = nt l m ops c ⟨3, p, at_, id, ⟨#[]⟩, ⟨#[]⟩⟩ σ2) := by
 refine zf (rs:=[.tmp 8]) Tryz.func61 Tryz.ntmps61 Tryz.results61 ?_
 simp only [argEnv]
 refine zr0 fun _ _ Z=>?_
 simp[hg]
 and_intros<;>try omega
 apply Z
 refine zr0 fun _ _ Z=>?_
 refine vcL_split 8 fun _ Y=>?_
 simp[hg]
 and_intros<;>try omega
 apply Y
 simp only [List.drop]
 refine vcL_step fun _ Y=>?_
 simp[hg]
 refine zce (hc) ?_
 apply Y
 refine vcL_split 4 fun _ Y=>?_
 simp[hg]
 and_intros<;>try omega
 apply Y
 simp only [List.drop]
 refine vcL_step fun _ Y=>?_
 simp[hg]
 refine zce (note0_fn l m ops c ⟨3, p, at_, id, ⟨#[]⟩, ⟨#[]⟩⟩ _ h2 hl) ?_
 apply Y
 simp[hg]
 and_intros<;>try omega
 apply Z
 apply awp_ret
 simp [endQ]
theorem oclone_fn (ops : List TOp) (σ : List (List D)) (hl : ops.length ≤ 100000) : Ct Tryz.prog 74 [.sl false (ops.map d_TOp)] σ (fun r σ' => r = .sl true (ops.map d_TOp) ∧ σ' = σ) := by
 refine zf (rs:=[.tmp 2]) Tryz.func74 Tryz.ntmps74 Tryz.results74 ?_
 simp only [argEnv]
 refine zr ⟨[2],[],[],[],[]⟩ fun _ _ Z=>?_
 simp
 and_intros<;>try omega
 apply Z
 apply awp_seq
 refine zr ⟨[2],[],[],[],[]⟩ fun _ _ Z=>?_
 refine vcL_split 1 fun _ Y=>?_
 simp
 and_intros<;>try omega
 apply Y
 simp only [List.drop]
 refine vcL_step fun _ Y=>?_
 simp
 refine ⟨Y _ ?_, fun e1 => Y _ ?_⟩
 ·skip
  simp only [vcL_nil]
  apply Z
  refine awp_cond (t := false) (by simp) (fun h => by cases h) (fun _ => ?_)
  apply awp_skip
  apply q_then_n
  refine zr ⟨[2],[],[],[],[]⟩ fun _ _ Z=>?_
  simp
  and_intros<;>try omega
  apply Z
  apply awp_ret
  simp [endQ]
 ·skip
  simp only [vcL_nil]
  apply Z
  refine awp_cond (t := true) (by simp) (fun _ => ?_) (fun h => by cases h)
  refine zr ⟨[2],[],[],[],[]⟩ fun _ _ Z=>?_
  simp
  and_intros<;>try omega
  apply Z
  apply awp_ret
  apply q_then_r
  simp [endQ, e1]
theorem lops0_fn (l m : Nat) (ops : List TOp) (σ : List (List D)) (hl : ops.length ≤ 100000) (hg : σ[l]? = some (lcel m ops)) : Ct Tryz.prog 33 [.ref l 0] σ (fun r σ' => r = .sl true (ops.map d_TOp) ∧ σ' = σ) := by
 refine zf (rs:=[.tmp 2]) Tryz.func33 Tryz.ntmps33 Tryz.results33 ?_
 simp only [argEnv]
 refine zr ⟨[2],[],[],[],[]⟩ fun _ _ Z=>?_
 simp[hg]
 and_intros<;>try omega
 apply Z
 refine zr ⟨[2],[],[],[],[]⟩ fun _ _ Z=>?_
 refine vcL_split 4 fun _ Y=>?_
 simp[hg]
 and_intros<;>try omega
 apply Y
 simp only [List.drop]
 refine vcL_step fun _ Y=>?_
 simp[hg]
 refine zce (oclone_fn ops _ hl) ?_
 apply Y
 simp[hg]
 and_intros<;>try omega
 apply Z
 apply awp_ret
 simp [endQ]
theorem lops_fn (l m : Nat) (ops : List TOp) (σ : List (List D)) (hl : ops.length ≤ 100000) (hg : σ[l]? = some (lcel m ops)) : Ct Tryz.prog 33 [.ref l 0] σ (fun r σ' => r = .sl false (ops.map d_TOp) ∧ σ' = σ) :=
 (lops0_fn l m ops σ hl hg).strip fun r σ' ⟨hr, hs⟩ => ⟨by rw [hr]; rfl, by rw [hr]; rfl, hs⟩
theorem ton_fn (m : Nat) (σ : List (List D))  : Ct Tryz.prog 26 [.ref m 0] σ (fun r σ' => r = .ref σ.length 0 ∧ σ' = σ ++ [lcel m []]) := by
 refine zf (rs:=[.tmp 2]) Tryz.func26 Tryz.ntmps26 Tryz.results26 ?_
 simp only [argEnv]
 refine zr ⟨[],[],[5],[],[]⟩ fun _ _ Z=>?_
 simp[og_at,og_put,og_at0,og_put0]
 and_intros<;>try omega
 apply Z
 refine zr ⟨[],[],[5],[],[]⟩ fun _ _ Z=>?_
 simp[og_at,og_put,og_at0,og_put0]
 and_intros<;>try omega
 apply Z
 apply awp_ret
 simp [endQ]
end Go.Proofs.YtpfmpeaekgdgnaaGreat


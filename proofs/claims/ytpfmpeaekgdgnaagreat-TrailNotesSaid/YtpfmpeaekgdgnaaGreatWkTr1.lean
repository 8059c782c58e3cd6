import Derived.Test.YtpfmpeaekgdgnaaGreatWkAr18
namespace Go.Proofs.YtpfmpeaekgdgnaaGreat
open Go Go.Vm
set_option maxRecDepth 20000
set_option linter.all false
set_option maxHeartbeats 8000000
structure TOp where
 kind : Int
 a : Int
 b : Int
 c : Int
 name : ByteArray
 value : ByteArray
 deriving DecidableEq
@[simp] abbrev d_TOp (s : TOp) : D := .agg [.v (.int .i64 s.kind), .v (.int .i64 s.a), .v (.int .i64 s.b), .v (.int .i64 s.c), .v (.string s.name), .v (.string s.value)]
abbrev lcel (m : Nat) (ops : List TOp) : List D := [.ref m 0, .sl true ((ops).map d_TOp)]
def nt (l m : Nat) (ops : List TOp) (c : Int) (o : TOp) (σ : List (List D)) : List (List D) := if c = 0 then σ.set l (lcel m (ops ++ [o])) else σ
def nto (ops : List TOp) (c : Int) (o : TOp) : List TOp := if c = 0 then ops ++ [o] else ops
theorem nt_get {l m : Nat} {ops : List TOp} {c : Int} {o : TOp} {σ : List (List D)} (h : σ[l]? = some (lcel m ops)) : (nt l m ops c o σ)[l]? = some (lcel m (nto ops c o)) := by
 unfold nt nto; split
 ·exact og_get h _
 ·exact h
theorem nto_len (ops : List TOp) (c : Int) (o : TOp) : (nto ops c o).length ≤ ops.length + 1 := by
 unfold nto; split <;> simp
theorem note0_fn (l m : Nat) (ops : List TOp) (c : Int) (o : TOp) (σ : List (List D)) (hq : σ[l]? = some (lcel m ops)) (hl : ops.length ≤ 100000) : Ct Tryz.prog 110 [.ref l 0, D.int c, d_TOp o] σ (fun r σ' => r = D.int c ∧ σ' = nt l m ops c o σ) := by
 refine zf (rs:=[.tmp 6]) Tryz.func110 Tryz.ntmps110 Tryz.results110 ?_
 simp only [argEnv]
 refine zr ⟨[13],[5],[],[],[]⟩ fun _ _ Z=>?_
 simp[hq,og_get hq]
 and_intros<;>try omega
 apply Z
 apply awp_seq
 refine zr ⟨[13],[5],[],[],[]⟩ fun _ _ Z=>?_
 simp[hq,og_get hq]
 and_intros<;>try omega
 apply Z
 refine zi ?_
 refine ⟨fun c1=>?_,fun c1=>?_⟩
 ·try simp at c1
  refine ze ⟨[13],[5],[],[],[]⟩ [.op {},.op {},.op {},.op {},.op {rO:=true,wO:=true},.op {},.op {},.op {},.op {},.op {},.op {rO:=true,wO:=true}] fun all hall _ Z=>?_
  refine vcDL_split 8 (by simp) fun _ Y=>?_
  simp[hq,og_get hq]
  and_intros<;>try omega
  apply Y
  simp only [List.drop]
  simp[hq,og_get hq]
  and_intros<;>try omega
  apply Z
  apply q_then_n
  refine zk [1,6] ?_
  refine zr ⟨[13],[5],[],[],[]⟩ fun _ _ Z=>?_
  simp[hq,og_get hq]
  and_intros<;>try omega
  apply Z
  apply awp_ret
  simp [endQ, nt, c1, lcel]
 ·try simp at c1
  apply awp_skip
  apply q_then_n
  refine zr ⟨[13],[5],[],[],[]⟩ fun _ _ Z=>?_
  simp[hq,og_get hq]
  and_intros<;>try omega
  apply Z
  apply awp_ret
  simp [endQ, nt, c1, lcel]
theorem lElement_fn (l m : Nat) (ops : List TOp) (s : ByteArray) (n c : Int) (σ2 : List (List D)) (σ : List (List D)) (hg : σ[l]? = some (lcel m ops)) (hc : Ct Tryz.prog 40 [.ref m 0, D.str s] σ (fun r τ => r = .tup [D.int n, D.int c] ∧ τ = σ2)) (h2 : σ2[l]? = some (lcel m ops)) (hl : ops.length ≤ 100000) : Ct Tryz.prog 60 [.ref l 0, D.str s] σ (fun r σ' => r = .tup [D.int n, D.int c] ∧ σ' = nt l m ops c ⟨1, n, 0, 0, s, ⟨#[]⟩⟩ σ2) := by
 refine zf (rs:=[.tmp 4,.tmp 5]) Tryz.func60 Tryz.ntmps60 Tryz.results60 ?_
 simp only [argEnv]
 refine zr0 fun _ _ Z=>?_
 simp[hg]
 and_intros<;>try omega
 apply Z
 refine zr0 fun _ _ Z=>?_
 refine vcL_split 5 fun _ Y=>?_
 simp[hg]
 and_intros<;>try omega
 apply Y
 simp only [List.drop]
 refine vcL_step fun _ Y=>?_
 simp[hg]
 refine zce (hc) ?_
 apply Y
 simp[hg]
 and_intros<;>try omega
 apply Z
 refine zk [0,1,4,5,6,7] ?_
 refine zr0 fun _ _ Z=>?_
 refine vcL_split 6 fun _ Y=>?_
 simp[hg]
 and_intros<;>try omega
 apply Y
 simp only [List.drop]
 refine vcL_step fun _ Y=>?_
 simp[hg]
 refine zce (note0_fn l m ops c ⟨1, n, 0, 0, s, ⟨#[]⟩⟩ _ h2 hl) ?_
 apply Y
 simp[hg]
 and_intros<;>try omega
 apply Z
 apply awp_ret
 simp [endQ]
theorem lText_fn (l m : Nat) (ops : List TOp) (s : ByteArray) (n c : Int) (σ2 : List (List D)) (σ : List (List D)) (hg : σ[l]? = some (lcel m ops)) (hc : Ct Tryz.prog 44 [.ref m 0, D.str s] σ (fun r τ => r = .tup [D.int n, D.int c] ∧ τ = σ2)) (h2 : σ2[l]? = some (lcel m ops)) (hl : ops.length ≤ 100000) : Ct Tryz.prog 63 [.ref l 0, D.str s] σ (fun r σ' => r = .tup [D.int n, D.int c] ∧ σ' = nt l m ops c ⟨2, n, 0, 0, ⟨#[]⟩, s⟩ σ2) := by
 refine zf (rs:=[.tmp 4,.tmp 5]) Tryz.func63 Tryz.ntmps63 Tryz.results63 ?_
 simp only [argEnv]
 refine zr0 fun _ _ Z=>?_
 simp[hg]
 and_intros<;>try omega
 apply Z
 refine zr0 fun _ _ Z=>?_
 refine vcL_split 5 fun _ Y=>?_
 simp[hg]
 and_intros<;>try omega
 apply Y
 simp only [List.drop]
 refine vcL_step fun _ Y=>?_
 simp[hg]
 refine zce (hc) ?_
 apply Y
 simp[hg]
 and_intros<;>try omega
 apply Z
 refine zk [0,1,4,5,6,7] ?_
 refine zr0 fun _ _ Z=>?_
 refine vcL_split 6 fun _ Y=>?_
 simp[hg]
 and_intros<;>try omega
 apply Y
 simp only [List.drop]
 refine vcL_step fun _ Y=>?_
 simp[hg]
 refine zce (note0_fn l m ops c ⟨2, n, 0, 0, ⟨#[]⟩, s⟩ _ h2 hl) ?_
 apply Y
 simp[hg]
 and_intros<;>try omega
 apply Z
 apply awp_ret
 simp [endQ]
theorem lInsert_fn (l m : Nat) (ops : List TOp) (p at_ id : Int) (c : Int) (σ2 : List (List D)) (σ : List (List D)) (hg : σ[l]? = some (lcel m ops)) (hc : Ct Tryz.prog 41 [.ref m 0, D.int p, D.int at_, D.int id] σ (fun r τ => r = D.int c ∧ τ = σ2)) (h2 : σ2[l]? = some (lcel m ops)) (hl : ops.length ≤ 100000) : Ct Tryz.prog 61 [.ref l 0, D.int p, D.int at_, D.int id] σ (fun r σ' => r = D.int c ∧ σ' = nt l m ops c ⟨3, p, at_, id, ⟨#[]⟩, ⟨#[]⟩⟩ σ2) := by
 refine zf (rs:=[.tmp 8]) Tryz.func61 Tryz.ntmps61 Tryz.results61 ?_
 simp only [argEnv]
 refine zr0 fun _ _ Z=>?_
 simp[hg]
 and_intros<;>try omega
 apply Z
 refine zr0 fun _ _ Z=>?_
 refine vcL_split 8 fun _ Y=>?_
 simp[hg]
 and_intros<;>try omega
 apply Y
 simp only [List.drop]
 refine vcL_step fun _ Y=>?_
 simp[hg]
 refine zce (hc) ?_
 apply Y
 refine vcL_split 4 fun _ Y=>?_
 simp[hg]
 and_intros<;>try omega
 apply Y
 simp only [List.drop]
 refine vcL_step fun _ Y=>?_
 simp[hg]
 refine zce (note0_fn l m ops c ⟨3, p, at_, id, ⟨#[]⟩, ⟨#[]⟩⟩ _ h2 hl) ?_
 apply Y
 simp[hg]
 and_intros<;>try omega
 apply Z
 apply awp_ret
 simp [endQ]
theorem lMove_fn (l m : Nat) (ops : List TOp) (id at_ : Int) (c : Int) (σ2 : List (List D)) (σ : List (List D)) (hg : σ[l]? = some (lcel m ops)) (hc : Ct Tryz.prog 46 [.ref m 0, D.int id, D.int at_] σ (fun r τ => r = D.int c ∧ τ = σ2)) (h2 : σ2[l]? = some (lcel m ops)) (hl : ops.length ≤ 100000) : Ct Tryz.prog 64 [.ref l 0, D.int id, D.int at_] σ (fun r σ' => r = D.int c ∧ σ' = nt l m ops c ⟨4, id, at_, 0, ⟨#[]⟩, ⟨#[]⟩⟩ σ2) := by
 refine zf (rs:=[.tmp 6]) Tryz.func64 Tryz.ntmps64 Tryz.results64 ?_
 simp only [argEnv]
 refine zr0 fun _ _ Z=>?_
 simp[hg]
 and_intros<;>try omega
 apply Z
 refine zr0 fun _ _ Z=>?_
 refine vcL_split 7 fun _ Y=>?_
 simp[hg]
 and_intros<;>try omega
 apply Y
 simp only [List.drop]
 refine vcL_step fun _ Y=>?_
 simp[hg]
 refine zce (hc) ?_
 apply Y
 refine vcL_split 3 fun _ Y=>?_
 simp[hg]
 and_intros<;>try omega
 apply Y
 simp only [List.drop]
 refine vcL_step fun _ Y=>?_
 simp[hg]
 refine zce (note0_fn l m ops c ⟨4, id, at_, 0, ⟨#[]⟩, ⟨#[]⟩⟩ _ h2 hl) ?_
 apply Y
 simp[hg]
 and_intros<;>try omega
 apply Z
 apply awp_ret
 simp [endQ]
theorem lRemove_fn (l m : Nat) (ops : List TOp) (id : Int) (c : Int) (σ2 : List (List D)) (σ : List (List D)) (hg : σ[l]? = some (lcel m ops)) (hc : Ct Tryz.prog 48 [.ref m 0, D.int id] σ (fun r τ => r = D.int c ∧ τ = σ2)) (h2 : σ2[l]? = some (lcel m ops)) (hl : ops.length ≤ 100000) : Ct Tryz.prog 65 [.ref l 0, D.int id] σ (fun r σ' => r = D.int c ∧ σ' = nt l m ops c ⟨5, id, 0, 0, ⟨#[]⟩, ⟨#[]⟩⟩ σ2) := by
 refine zf (rs:=[.tmp 4]) Tryz.func65 Tryz.ntmps65 Tryz.results65 ?_
 simp only [argEnv]
 refine zr0 fun _ _ Z=>?_
 simp[hg]
 and_intros<;>try omega
 apply Z
 refine zr0 fun _ _ Z=>?_
 refine vcL_split 6 fun _ Y=>?_
 simp[hg]
 and_intros<;>try omega
 apply Y
 simp only [List.drop]
 refine vcL_step fun _ Y=>?_
 simp[hg]
 refine zce (hc) ?_
 apply Y
 refine vcL_split 2 fun _ Y=>?_
 simp[hg]
 and_intros<;>try omega
 apply Y
 simp only [List.drop]
 refine vcL_step fun _ Y=>?_
 simp[hg]
 refine zce (note0_fn l m ops c ⟨5, id, 0, 0, ⟨#[]⟩, ⟨#[]⟩⟩ _ h2 hl) ?_
 apply Y
 simp[hg]
 and_intros<;>try omega
 apply Z
 apply awp_ret
 simp [endQ]
theorem lSetTag_fn (l m : Nat) (ops : List TOp) (id : Int) (s : ByteArray) (c : Int) (σ2 : List (List D)) (σ : List (List D)) (hg : σ[l]? = some (lcel m ops)) (hc : Ct Tryz.prog 89 [.ref m 0, D.int id, D.str s] σ (fun r τ => r = D.int c ∧ τ = σ2)) (h2 : σ2[l]? = some (lcel m ops)) (hl : ops.length ≤ 100000) : Ct Tryz.prog 66 [.ref l 0, D.int id, D.str s] σ (fun r σ' => r = D.int c ∧ σ' = nt l m ops c ⟨6, id, 0, 0, s, ⟨#[]⟩⟩ σ2) := by
 refine zf (rs:=[.tmp 6]) Tryz.func66 Tryz.ntmps66 Tryz.results66 ?_
 simp only [argEnv]
 refine zr0 fun _ _ Z=>?_
 simp[hg]
 and_intros<;>try omega
 apply Z
 refine zr0 fun _ _ Z=>?_
 refine vcL_split 7 fun _ Y=>?_
 simp[hg]
 and_intros<;>try omega
 apply Y
 simp only [List.drop]
 refine vcL_step fun _ Y=>?_
 simp[hg]
 refine zce (hc) ?_
 apply Y
 refine vcL_split 3 fun _ Y=>?_
 simp[hg]
 and_intros<;>try omega
 apply Y
 simp only [List.drop]
 refine vcL_step fun _ Y=>?_
 simp[hg]
 refine zce (note0_fn l m ops c ⟨6, id, 0, 0, s, ⟨#[]⟩⟩ _ h2 hl) ?_
 apply Y
 simp[hg]
 and_intros<;>try omega
 apply Z
 apply awp_ret
 simp [endQ]
theorem lSetText_fn (l m : Nat) (ops : List TOp) (id : Int) (s : ByteArray) (c : Int) (σ2 : List (List D)) (σ : List (List D)) (hg : σ[l]? = some (lcel m ops)) (hc : Ct Tryz.prog 90 [.ref m 0, D.int id, D.str s] σ (fun r τ => r = D.int c ∧ τ = σ2)) (h2 : σ2[l]? = some (lcel m ops)) (hl : ops.length ≤ 100000) : Ct Tryz.prog 67 [.ref l 0, D.int id, D.str s] σ (fun r σ' => r = D.int c ∧ σ' = nt l m ops c ⟨7, id, 0, 0, ⟨#[]⟩, s⟩ σ2) := by
 refine zf (rs:=[.tmp 6]) Tryz.func67 Tryz.ntmps67 Tryz.results67 ?_
 simp only [argEnv]
 refine zr0 fun _ _ Z=>?_
 simp[hg]
 and_intros<;>try omega
 apply Z
 refine zr0 fun _ _ Z=>?_
 refine vcL_split 7 fun _ Y=>?_
 simp[hg]
 and_intros<;>try omega
 apply Y
 simp only [List.drop]
 refine vcL_step fun _ Y=>?_
 simp[hg]
 refine zce (hc) ?_
 apply Y
 refine vcL_split 3 fun _ Y=>?_
 simp[hg]
 and_intros<;>try omega
 apply Y
 simp only [List.drop]
 refine vcL_step fun _ Y=>?_
 simp[hg]
 refine zce (note0_fn l m ops c ⟨7, id, 0, 0, ⟨#[]⟩, s⟩ _ h2 hl) ?_
 apply Y
 simp[hg]
 and_intros<;>try omega
 apply Z
 apply awp_ret
 simp [endQ]
theorem lSetAttr_fn (l m : Nat) (ops : List TOp) (id : Int) (s v : ByteArray) (c : Int) (σ2 : List (List D)) (σ : List (List D)) (hg : σ[l]? = some (lcel m ops)) (hc : Ct Tryz.prog 91 [.ref m 0, D.int id, D.str s, D.str v] σ (fun r τ => r = D.int c ∧ τ = σ2)) (h2 : σ2[l]? = some (lcel m ops)) (hl : ops.length ≤ 100000) : Ct Tryz.prog 68 [.ref l 0, D.int id, D.str s, D.str v] σ (fun r σ' => r = D.int c ∧ σ' = nt l m ops c ⟨8, id, 0, 0, s, v⟩ σ2) := by
 refine zf (rs:=[.tmp 8]) Tryz.func68 Tryz.ntmps68 Tryz.results68 ?_
 simp only [argEnv]
 refine zr0 fun _ _ Z=>?_
 simp[hg]
 and_intros<;>try omega
 apply Z
 refine zr0 fun _ _ Z=>?_
 refine vcL_split 8 fun _ Y=>?_
 simp[hg]
 and_intros<;>try omega
 apply Y
 simp only [List.drop]
 refine vcL_step fun _ Y=>?_
 simp[hg]
 refine zce (hc) ?_
 apply Y
 refine vcL_split 4 fun _ Y=>?_
 simp[hg]
 and_intros<;>try omega
 apply Y
 simp only [List.drop]
 refine vcL_step fun _ Y=>?_
 simp[hg]
 refine zce (note0_fn l m ops c ⟨8, id, 0, 0, s, v⟩ _ h2 hl) ?_
 apply Y
 simp[hg]
 and_intros<;>try omega
 apply Z
 apply awp_ret
 simp [endQ]
theorem lDropAttr_fn (l m : Nat) (ops : List TOp) (id : Int) (s : ByteArray) (c : Int) (σ2 : List (List D)) (σ : List (List D)) (hg : σ[l]? = some (lcel m ops)) (hc : Ct Tryz.prog 92 [.ref m 0, D.int id, D.str s] σ (fun r τ => r = D.int c ∧ τ = σ2)) (h2 : σ2[l]? = some (lcel m ops)) (hl : ops.length ≤ 100000) : Ct Tryz.prog 69 [.ref l 0, D.int id, D.str s] σ (fun r σ' => r = D.int c ∧ σ' = nt l m ops c ⟨9, id, 0, 0, s, ⟨#[]⟩⟩ σ2) := by
 refine zf (rs:=[.tmp 6]) Tryz.func69 Tryz.ntmps69 Tryz.results69 ?_
 simp only [argEnv]
 refine zr0 fun _ _ Z=>?_
 simp[hg]
 and_intros<;>try omega
 apply Z
 refine zr0 fun _ _ Z=>?_
 refine vcL_split 7 fun _ Y=>?_
 simp[hg]
 and_intros<;>try omega
 apply Y
 simp only [List.drop]
 refine vcL_step fun _ Y=>?_
 simp[hg]
 refine zce (hc) ?_
 apply Y
 refine vcL_split 3 fun _ Y=>?_
 simp[hg]
 and_intros<;>try omega
 apply Y
 simp only [List.drop]
 refine vcL_step fun _ Y=>?_
 simp[hg]
 refine zce (note0_fn l m ops c ⟨9, id, 0, 0, s, ⟨#[]⟩⟩ _ h2 hl) ?_
 apply Y
 simp[hg]
 and_intros<;>try omega
 apply Z
 apply awp_ret
 simp [endQ]
theorem lSetStyle_fn (l m : Nat) (ops : List TOp) (id : Int) (s : ByteArray) (v : Int) (c : Int) (σ2 : List (List D)) (σ : List (List D)) (hg : σ[l]? = some (lcel m ops)) (hc : Ct Tryz.prog 93 [.ref m 0, D.int id, D.str s, D.int v] σ (fun r τ => r = D.int c ∧ τ = σ2)) (h2 : σ2[l]? = some (lcel m ops)) (hl : ops.length ≤ 100000) : Ct Tryz.prog 70 [.ref l 0, D.int id, D.str s, D.int v] σ (fun r σ' => r = D.int c ∧ σ' = nt l m ops c ⟨10, id, 0, v, s, ⟨#[]⟩⟩ σ2) := by
 refine zf (rs:=[.tmp 8]) Tryz.func70 Tryz.ntmps70 Tryz.results70 ?_
 simp only [argEnv]
 refine zr0 fun _ _ Z=>?_
 simp[hg]
 and_intros<;>try omega
 apply Z
 refine zr0 fun _ _ Z=>?_
 refine vcL_split 8 fun _ Y=>?_
 simp[hg]
 and_intros<;>try omega
 apply Y
 simp only [List.drop]
 refine vcL_step fun _ Y=>?_
 simp[hg]
 refine zce (hc) ?_
 apply Y
 refine vcL_split 4 fun _ Y=>?_
 simp[hg]
 and_intros<;>try omega
 apply Y
 simp only [List.drop]
 refine vcL_step fun _ Y=>?_
 simp[hg]
 refine zce (note0_fn l m ops c ⟨10, id, 0, v, s, ⟨#[]⟩⟩ _ h2 hl) ?_
 apply Y
 simp[hg]
 and_intros<;>try omega
 apply Z
 apply awp_ret
 simp [endQ]
theorem lDropStyle_fn (l m : Nat) (ops : List TOp) (id : Int) (s : ByteArray) (c : Int) (σ2 : List (List D)) (σ : List (List D)) (hg : σ[l]? = some (lcel m ops)) (hc : Ct Tryz.prog 94 [.ref m 0, D.int id, D.str s] σ (fun r τ => r = D.int c ∧ τ = σ2)) (h2 : σ2[l]? = some (lcel m ops)) (hl : ops.length ≤ 100000) : Ct Tryz.prog 71 [.ref l 0, D.int id, D.str s] σ (fun r σ' => r = D.int c ∧ σ' = nt l m ops c ⟨11, id, 0, 0, s, ⟨#[]⟩⟩ σ2) := by
 refine zf (rs:=[.tmp 6]) Tryz.func71 Tryz.ntmps71 Tryz.results71 ?_
 simp only [argEnv]
 refine zr0 fun _ _ Z=>?_
 simp[hg]
 and_intros<;>try omega
 apply Z
 refine zr0 fun _ _ Z=>?_
 refine vcL_split 7 fun _ Y=>?_
 simp[hg]
 and_intros<;>try omega
 apply Y
 simp only [List.drop]
 refine vcL_step fun _ Y=>?_
 simp[hg]
 refine zce (hc) ?_
 apply Y
 refine vcL_split 3 fun _ Y=>?_
 simp[hg]
 and_intros<;>try omega
 apply Y
 simp only [List.drop]
 refine vcL_step fun _ Y=>?_
 simp[hg]
 refine zce (note0_fn l m ops c ⟨11, id, 0, 0, s, ⟨#[]⟩⟩ _ h2 hl) ?_
 apply Y
 simp[hg]
 and_intros<;>try omega
 apply Z
 apply awp_ret
 simp [endQ]
theorem lAddClass_fn (l m : Nat) (ops : List TOp) (id : Int) (s : ByteArray) (c : Int) (σ2 : List (List D)) (σ : List (List D)) (hg : σ[l]? = some (lcel m ops)) (hc : Ct Tryz.prog 95 [.ref m 0, D.int id, D.str s] σ (fun r τ => r = D.int c ∧ τ = σ2)) (h2 : σ2[l]? = some (lcel m ops)) (hl : ops.length ≤ 100000) : Ct Tryz.prog 72 [.ref l 0, D.int id, D.str s] σ (fun r σ' => r = D.int c ∧ σ' = nt l m ops c ⟨12, id, 0, 0, s, ⟨#[]⟩⟩ σ2) := by
 refine zf (rs:=[.tmp 6]) Tryz.func72 Tryz.ntmps72 Tryz.results72 ?_
 simp only [argEnv]
 refine zr0 fun _ _ Z=>?_
 simp[hg]
 and_intros<;>try omega
 apply Z
 refine zr0 fun _ _ Z=>?_
 refine vcL_split 7 fun _ Y=>?_
 simp[hg]
 and_intros<;>try omega
 apply Y
 simp only [List.drop]
 refine vcL_step fun _ Y=>?_
 simp[hg]
 refine zce (hc) ?_
 apply Y
 refine vcL_split 3 fun _ Y=>?_
 simp[hg]
 and_intros<;>try omega
 apply Y
 simp only [List.drop]
 refine vcL_step fun _ Y=>?_
 simp[hg]
 refine zce (note0_fn l m ops c ⟨12, id, 0, 0, s, ⟨#[]⟩⟩ _ h2 hl) ?_
 apply Y
 simp[hg]
 and_intros<;>try omega
 apply Z
 apply awp_ret
 simp [endQ]
theorem lDropClass_fn (l m : Nat) (ops : List TOp) (id : Int) (s : ByteArray) (c : Int) (σ2 : List (List D)) (σ : List (List D)) (hg : σ[l]? = some (lcel m ops)) (hc : Ct Tryz.prog 96 [.ref m 0, D.int id, D.str s] σ (fun r τ => r = D.int c ∧ τ = σ2)) (h2 : σ2[l]? = some (lcel m ops)) (hl : ops.length ≤ 100000) : Ct Tryz.prog 73 [.ref l 0, D.int id, D.str s] σ (fun r σ' => r = D.int c ∧ σ' = nt l m ops c ⟨13, id, 0, 0, s, ⟨#[]⟩⟩ σ2) := by
 refine zf (rs:=[.tmp 6]) Tryz.func73 Tryz.ntmps73 Tryz.results73 ?_
 simp only [argEnv]
 refine zr0 fun _ _ Z=>?_
 simp[hg]
 and_intros<;>try omega
 apply Z
 refine zr0 fun _ _ Z=>?_
 refine vcL_split 7 fun _ Y=>?_
 simp[hg]
 and_intros<;>try omega
 apply Y
 simp only [List.drop]
 refine vcL_step fun _ Y=>?_
 simp[hg]
 refine zce (hc) ?_
 apply Y
 refine vcL_split 3 fun _ Y=>?_
 simp[hg]
 and_intros<;>try omega
 apply Y
 simp only [List.drop]
 refine vcL_step fun _ Y=>?_
 simp[hg]
 refine zce (note0_fn l m ops c ⟨13, id, 0, 0, s, ⟨#[]⟩⟩ _ h2 hl) ?_
 apply Y
 simp[hg]
 and_intros<;>try omega
 apply Z
 apply awp_ret
 simp [endQ]
theorem oclone_fn (ops : List TOp) (σ : List (List D)) (hl : ops.length ≤ 100000) : Ct Tryz.prog 74 [.sl false (ops.map d_TOp)] σ (fun r σ' => r = .sl true (ops.map d_TOp) ∧ σ' = σ) := by
 refine zf (rs:=[.tmp 2]) Tryz.func74 Tryz.ntmps74 Tryz.results74 ?_
 simp only [argEnv]
 refine zr ⟨[2],[],[],[],[]⟩ fun _ _ Z=>?_
 simp
 and_intros<;>try omega
 apply Z
 apply awp_seq
 refine zr ⟨[2],[],[],[],[]⟩ fun _ _ Z=>?_
 refine vcL_split 1 fun _ Y=>?_
 simp
 and_intros<;>try omega
 apply Y
 simp only [List.drop]
 refine vcL_step fun _ Y=>?_
 simp
 refine ⟨Y _ ?_, fun e1 => Y _ ?_⟩
 ·skip
  simp only [vcL_nil]
  apply Z
  refine awp_cond (t := false) (by simp) (fun h => by cases h) (fun _ => ?_)
  apply awp_skip
  apply q_then_n
  refine zr ⟨[2],[],[],[],[]⟩ fun _ _ Z=>?_
  simp
  and_intros<;>try omega
  apply Z
  apply awp_ret
  simp [endQ]
 ·skip
  simp only [vcL_nil]
  apply Z
  refine awp_cond (t := true) (by simp) (fun _ => ?_) (fun h => by cases h)
  refine zr ⟨[2],[],[],[],[]⟩ fun _ _ Z=>?_
  simp
  and_intros<;>try omega
  apply Z
  apply awp_ret
  apply q_then_r
  simp [endQ, e1]
theorem lops0_fn (l m : Nat) (ops : List TOp) (σ : List (List D)) (hl : ops.length ≤ 100000) (hg : σ[l]? = some (lcel m ops)) : Ct Tryz.prog 33 [.ref l 0] σ (fun r σ' => r = .sl true (ops.map d_TOp) ∧ σ' = σ) := by
 refine zf (rs:=[.tmp 2]) Tryz.func33 Tryz.ntmps33 Tryz.results33 ?_
 simp only [argEnv]
 refine zr ⟨[2],[],[],[],[]⟩ fun _ _ Z=>?_
 simp[hg]
 and_intros<;>try omega
 apply Z
 refine zr ⟨[2],[],[],[],[]⟩ fun _ _ Z=>?_
 refine vcL_split 4 fun _ Y=>?_
 simp[hg]
 and_intros<;>try omega
 apply Y
 simp only [List.drop]
 refine vcL_step fun _ Y=>?_
 simp[hg]
 refine zce (oclone_fn ops _ hl) ?_
 apply Y
 simp[hg]
 and_intros<;>try omega
 apply Z
 apply awp_ret
 simp [endQ]
theorem lops_fn (l m : Nat) (ops : List TOp) (σ : List (List D)) (hl : ops.length ≤ 100000) (hg : σ[l]? = some (lcel m ops)) : Ct Tryz.prog 33 [.ref l 0] σ (fun r σ' => r = .sl false (ops.map d_TOp) ∧ σ' = σ) :=
 (lops0_fn l m ops σ hl hg).strip fun r σ' ⟨hr, hs⟩ => ⟨by rw [hr]; rfl, by rw [hr]; rfl, hs⟩
theorem lclear_fn (l m : Nat) (ops : List TOp) (σ : List (List D)) (hg : σ[l]? = some (lcel m ops)) : Ct Tryz.prog 31 [.ref l 0] σ (fun r σ' => r = .tup [] ∧ σ' = σ.set l (lcel m [])) := by
 refine zf (rs:=[]) Tryz.func31 Tryz.ntmps31 Tryz.results31 ?_
 simp only [argEnv]
 refine zt0 fun _ _ Z=>?_
 simp[hg]
 and_intros<;>try omega
 apply Z
 simp [endQ, lcel]
theorem ton_fn (m : Nat) (σ : List (List D))  : Ct Tryz.prog 26 [.ref m 0] σ (fun r σ' => r = .ref σ.length 0 ∧ σ' = σ ++ [lcel m []]) := by
 refine zf (rs:=[.tmp 2]) Tryz.func26 Tryz.ntmps26 Tryz.results26 ?_
 simp only [argEnv]
 refine zr ⟨[],[],[5],[],[]⟩ fun _ _ Z=>?_
 simp[og_at,og_put,og_at0,og_put0]
 and_intros<;>try omega
 apply Z
 refine zr ⟨[],[],[5],[],[]⟩ fun _ _ Z=>?_
 simp[og_at,og_put,og_at0,og_put0]
 and_intros<;>try omega
 apply Z
 apply awp_ret
 simp [endQ]
def cnt (k : Int) (l : List TOp) : Nat := (l.filter fun o => decide (o.kind = k)).length
theorem cnt_le (k : Int) (l : List TOp) : cnt k l ≤ l.length := List.length_filter_le _ _
theorem cnt_take (k : Int) (l : List TOp) (i : Nat) (h : i < l.length) : cnt k (l.take (i + 1)) = cnt k (l.take i) + if l[i].kind = k then 1 else 0 := by
 unfold cnt
 rw [List.take_succ_eq_append_getElem h, List.filter_append, List.length_append, List.filter_cons]
 by_cases e : l[i].kind = k <;> simp [e]
theorem cnt_two (l : List TOp) : cnt 3 l + cnt 1 l ≤ l.length := by
 induction l with
 | nil => simp [cnt]
 | cons o l ih =>
  simp only [cnt, List.filter_cons] at ih ⊢
  by_cases h3 : o.kind = 3
  ·have h1 : ¬ o.kind = 1 := by omega
   simp [h3]; omega
  ·by_cases h1 : o.kind = 1 <;> simp [h3, h1] <;> omega
theorem count_fn (ops : List TOp) (kind : Int) (σ : List (List D)) (hl : ops.length ≤ 100000) : Ct Tryz.prog 34 [.sl false (ops.map d_TOp), D.int kind] σ (fun r σ' => r = .int ((cnt kind ops : Nat) : Int) ∧ σ' = σ) := by
 refine zf (rs:=[.tmp 4]) Tryz.func34 Tryz.ntmps34 Tryz.results34 ?_
 simp only [argEnv]
 refine zr0 fun _ _ Z=>?_
 simp (disch:=omega)
 and_intros<;>try omega
 apply Z
 refine zr0 fun _ _ Z=>?_
 simp (disch:=omega)
 and_intros<;>try omega
 apply Z
 apply awp_seq
 refine zr0 fun _ _ Z=>?_
 simp (disch:=omega)
 and_intros<;>try omega
 apply Z
 apply awp_block
 refine zk [1,4,5,8,9,10] ?_
 refine awp_loopE (fun (k : Nat) => [(10, .d (.v (.int .i64 (k : Int)))), (5, .d (.int ((cnt kind (ops.take k) : Nat) : Int)))]) [5, 7, 10, 11, 12, 13, 14, 15, 16, 17, 18, 19, 20] (fun (k : Nat) => k ≤ ops.length) (fun (k : Nat) => ops.length - k) (0) (by simp <;> rfl) ?_ ?_ ?_
 ·simp [cnt]
 ·simp
 rintro k hk
 simp only [List.cons_append, List.nil_append]
 have hcl := cnt_le kind (ops.take k)
 simp only [List.length_take] at hcl
 refine zr0 fun _ _ Z=>?_
 simp (disch:=omega)
 and_intros<;>try omega
 apply Z
 apply awp_seq
 refine zi ?_
 refine ⟨fun c1=>?_,fun c1=>?_⟩
 ·try simp at c1
  apply awp_skip
  apply q_then_n
  apply awp_seq
  apply awp_block
  refine zr0 fun _ _ Z=>?_
  simp (disch:=omega)
  and_intros<;>try omega
  apply Z
  refine zr0 fun _ _ Z=>?_
  simp (disch:=omega)
  and_intros<;>try omega
  apply Z
  refine zi ?_
  refine ⟨fun c2=>?_,fun c2=>?_⟩
  ·try simp at c2
   refine zk [1,4,5,8,9,10] ?_
   refine zt0 fun _ _ Z=>?_
   simp (disch:=omega)
   and_intros<;>try omega
   apply Z
   apply q_block_n
   apply q_then_n
   refine zt0 fun _ _ Z=>?_
   simp (disch:=omega)
   and_intros<;>try omega
   apply Z
   refine q_round (k + 1) ?_ ?_ (weak_mkA rfl ?_ (by simp) (by simp))
   ·omega
   ·try dsimp only
    omega
   ·simp (disch:=omega)[cnt_take,c2]
  ·try simp at c2
   apply awp_skip
   apply q_block_n
   apply q_then_n
   refine zk [1,4,5,8,9,10] ?_
   refine zt0 fun _ _ Z=>?_
   simp (disch:=omega)
   and_intros<;>try omega
   apply Z
   refine q_round (k + 1) ?_ ?_ (weak_mkA rfl ?_ (by simp) (by simp))
   ·omega
   ·try dsimp only
    omega
   ·simp (disch:=omega)[cnt_take,c2]
 ·try simp at c1
  obtain rfl : k = ops.length := by omega
  rw [List.take_length]
  apply awp_exit
  apply q_then_e
  apply q_loop_e
  apply q_block_e
  apply q_then_n
  refine zr0 fun _ _ Z=>?_
  simp (disch:=omega)
  and_intros<;>try omega
  apply Z
  apply awp_ret
  simp [endQ]
theorem sameO_fn (a : List TOp) (σ : List (List D)) (ha : a.length ≤ 100000) : Ct Tryz.prog 32 [.sl false (a.map d_TOp), .sl false (a.map d_TOp)] σ (fun r σ' => r = .bool true ∧ σ' = σ) := by
 refine zf (rs:=[.tmp 4]) Tryz.func32 Tryz.ntmps32 Tryz.results32 ?_
 simp only [argEnv]
 refine zr0 fun _ _ Z=>?_
 simp (disch:=omega)
 and_intros<;>try omega
 apply Z
 apply awp_seq
 refine zr0 fun _ _ Z=>?_
 simp (disch:=omega)
 and_intros<;>try omega
 apply Z
 refine zi ?_
 refine ⟨fun c1=>?_,fun c1=>?_⟩
 ·simp at c1
 ·try simp at c1
  apply awp_skip
  apply q_then_n
  apply awp_seq
  refine zr0 fun _ _ Z=>?_
  simp (disch:=omega)
  and_intros<;>try omega
  apply Z
  apply awp_block
  refine zk [0,1,4,12,13] ?_
  refine awp_loopE (fun (k : Nat) => [(13, .d (.v (.int .i64 (k : Int)))), (5, .d (.any))]) [4, 5, 13, 14, 15, 16, 17, 18, 19, 20, 21, 22, 23, 24, 25] (fun (k : Nat) => k ≤ a.length) (fun (k : Nat) => a.length - k) (0) (by simp <;> rfl) ?_ ?_ ?_
  ·simp
  ·simp
  rintro k hk
  simp only [List.cons_append, List.nil_append]
  refine zr0 fun _ _ Z=>?_
  simp (disch:=omega)
  and_intros<;>try omega
  apply Z
  apply awp_seq
  refine zi ?_
  refine ⟨fun c2=>?_,fun c2=>?_⟩
  ·try simp at c2
   apply awp_skip
   apply q_then_n
   apply awp_seq
   apply awp_block
   refine zr0 fun _ _ Z=>?_
   simp (disch:=omega)
   and_intros<;>try omega
   apply Z
   refine zd ⟨[],[],[],[],[]⟩ [.op {},.op {},.op {},.op {},.op {},.op {},.op {},.op {},.op {}] fun all hall _ Z=>?_
   refine vcDL_split 8 (by simp) fun _ Y=>?_
   simp (disch:=omega)
   and_intros<;>try omega
   apply Y
   simp only [List.drop]
   simp (disch:=omega)
   and_intros<;>try omega
   apply Z
   refine zi ?_
   refine ⟨fun c3=>?_,fun c3=>?_⟩
   ·simp at c3
   ·try simp at c3
    apply awp_skip
    apply q_block_n
    apply q_then_n
    refine zk [0,1,5,12,13] ?_
    refine zt0 fun _ _ Z=>?_
    simp (disch:=omega)
    and_intros<;>try omega
    apply Z
    refine q_round (k + 1) ?_ ?_ (weak_mkA rfl ?_ (by simp) (by simp))
    ·omega
    ·try dsimp only
     omega
    ·simp (disch:=omega)
  ·try simp at c2
   apply awp_exit
   apply q_then_e
   apply q_loop_e
   apply q_block_e
   apply q_then_n
   refine zr0 fun _ _ Z=>?_
   simp (disch:=omega)
   and_intros<;>try omega
   apply Z
   apply awp_ret
   simp [endQ]
theorem known_fn (a : Act) (σ : List (List D))  : Ct Tryz.prog 28 [d_Act a] σ (fun r σ' => r = .bool (decide ((0 ≤ a.kind ∧ a.kind ≤ 4) ∨ (10 ≤ a.kind ∧ a.kind ≤ 17))) ∧ σ' = σ) := by
 refine zf (rs:=[.tmp 2]) Tryz.func28 Tryz.ntmps28 Tryz.results28 ?_
 simp only [argEnv]
 refine zr ⟨[],[1],[],[],[]⟩ fun _ _ Z=>?_
 simp
 and_intros<;>try omega
 apply Z
 refine zrg ⟨[],[1],[],[],[]⟩ fun all hall _ Z=>?_
 have ga3 : guardOf all 3 = some 6 := hall 3
 have ga8 : guardOf all 8 = some 11 := hall 8
 have ga12 : guardOf all 12 = some 15 := hall 12
 refine vcL_split 4 fun _ Y=>?_
 simp[ga3,ga8,ga12]
 and_intros<;>try omega
 apply Y
 simp only [List.drop]
 refine vcL_bool 6 (by simp <;> rfl) ?_
 refine ⟨fun g1 => ?_, fun g1 => ?_⟩
 ·try simp at g1
  refine vcL_split 5 fun _ Y=>?_
  simp[ga3,ga8,ga12]
  and_intros<;>try omega
  apply Y
  simp only [List.drop]
  refine vcL_bool 11 (by simp <;> rfl) ?_
  refine ⟨fun g2 => ?_, fun g2 => ?_⟩
  ·try simp at g2
   refine vcL_split 8 fun _ Y=>?_
   simp[ga3,ga8,ga12]
   and_intros<;>try omega
   apply Y
   simp only [List.drop]
   simp[ga3,ga8,ga12]
   and_intros<;>try omega
   apply Z
   apply awp_ret
   simp [endQ]
   first | done | omega | (rw [Bool.eq_iff_iff]; simp; omega) | (constructor <;> intros <;> omega)
  ·try simp at g2
   refine vcL_split 4 fun _ Y=>?_
   simp[ga3,ga8,ga12]
   and_intros<;>try omega
   apply Y
   simp only [List.drop]
   refine vcL_bool 15 (by simp <;> rfl) ?_
   refine ⟨fun g3 => ?_, fun g3 => ?_⟩
   ·try simp at g3
    simp[ga3,ga8,ga12]
    and_intros<;>try omega
    apply Z
    apply awp_ret
    simp [endQ]
    first | done | omega | (rw [Bool.eq_iff_iff]; simp; omega) | (constructor <;> intros <;> omega)
   ·try simp at g3
    simp[ga3,ga8,ga12]
    and_intros<;>try omega
    apply Z
    apply awp_ret
    simp [endQ]
    first | done | omega | (rw [Bool.eq_iff_iff]; simp; omega) | (constructor <;> intros <;> omega)
 ·try simp at g1
  refine vcL_split 5 fun _ Y=>?_
  simp[ga3,ga8,ga12]
  and_intros<;>try omega
  apply Y
  simp only [List.drop]
  refine vcL_split 4 fun _ Y=>?_
  simp[ga3,ga8,ga12]
  and_intros<;>try omega
  apply Y
  simp only [List.drop]
  refine vcL_bool 15 (by simp <;> rfl) ?_
  refine ⟨fun g4 => ?_, fun g4 => ?_⟩
  ·try simp at g4
   omega
  ·try simp at g4
   simp[ga3,ga8,ga12]
   and_intros<;>try omega
   apply Z
   apply awp_ret
   simp [endQ]
   first | done | omega | (rw [Bool.eq_iff_iff]; simp; omega) | (constructor <;> intros <;> omega)
end Go.Proofs.YtpfmpeaekgdgnaaGreat


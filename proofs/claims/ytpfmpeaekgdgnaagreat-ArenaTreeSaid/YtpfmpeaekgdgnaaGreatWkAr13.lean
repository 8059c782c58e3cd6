import Derived.Test.YtpfmpeaekgdgnaaGreatWkAr12
namespace Go.Proofs.YtpfmpeaekgdgnaaGreat
open Go Go.Vm
set_option maxRecDepth 20000
set_option linter.all false
set_option maxHeartbeats 8000000
theorem lv1_fn (k : Int) (o : Nat) (n : ND) (σ : List (List D)) (hnn : σ[o]? = some (ncel n)) : Ct Tryz.prog 122 [D.int k, .adr [.ref o 0]] σ (fun r σ' => r = .bool (decide (k = n.ID)) ∧ σ' = σ) := by
 refine zf (rs:=[.tmp 3]) Tryz.func122 Tryz.ntmps122 Tryz.results122 ?_
 simp only [argEnv]
 refine zr0 fun _ _ Z=>?_
 simp[hnn]
 and_intros<;>try omega
 apply Z
 refine zr0 fun _ _ Z=>?_
 simp[hnn]
 and_intros<;>try omega
 apply Z
 apply awp_ret
 simp [endQ]
theorem pre_get {σ τ : List (List D)} {i : Nat} {a : List D} (h : σ <+: τ) (hi : σ[i]? = some a) : τ[i]? = some a := by
 obtain ⟨J, rfl⟩ := h; exact og_app0 hi J
def setE (es : List EN) (o : Nat) (n : ND) : List EN := es.map fun e => if e.o = o then { e with n := n } else e
def updD (d : DS) (o : Nat) (n : ND) : DS := { d with es := setE d.es o n }
theorem lv0_fn (m M : Nat) (d : DS) (n : EN) (σ : List (List D)) (ho : DO m M d σ) (hn : n ∈ d.es) (hno : isL d.l n.n.parent = false) : Ct Tryz.prog 86 [.ref m 0, .ref n.o 0] σ (fun r σ' => r = .tup [] ∧ σ' = σ) := by
 refine zf (rs:=[]) Tryz.func86 Tryz.ntmps86 Tryz.results86 ?_
 simp only [argEnv]
 have hq := ho.hm
 have hnn := ho.hn n hn
 refine zr ⟨[],[3],[],[],[]⟩ fun _ _ Z=>?_
 simp[hq,hnn]
 and_intros<;>try omega
 apply Z
 refine zd ⟨[],[3],[],[],[]⟩ [.op {},.op {},.op {},.op {rO:=true},.op {},.op {},.op {},.op {rO:=true},.op {rO:=true},.op {}] fun all hall _ Z=>?_
 refine vcDL_split 8 (by simp) fun _ Y=>?_
 simp[hq,hnn]
 and_intros<;>try omega
 apply Y
 simp only [List.drop]
 refine vcDL_split 1 (by simp) fun _ Y=>?_
 simp[hq,hnn]
 refine ⟨m, 2, d.ck, _, .v (.pointer none), ⟨⟨_, hq, rfl⟩, keyI _, .inl (kvE_no hno _)⟩, ?_⟩
 and_intros<;>try omega
 apply Y
 simp only [List.drop]
 simp[hq,hnn]
 and_intros<;>try omega
 apply Z
 refine zr ⟨[],[3],[],[],[]⟩ fun _ _ Z=>?_
 simp[hq,hnn]
 and_intros<;>try omega
 apply Z
 refine zi ?_
 refine ⟨fun c1=>?_,fun c1=>?_⟩
 ·simp at c1
 ·try simp at c1
  apply awp_skip
  simp [endQ]
theorem lv2_fn (m M : Nat) (d : DS) (p n : EN) (σ : List (List D)) (ho : DO m M d σ) (hp : p ∈ d.es) (hn : n ∈ d.es) (hpp : p.n.ID = n.n.parent) (hoo : n.o ≠ p.o) (hlen : p.n.kids.length ≤ 1000) : Ct Tryz.prog 86 [.ref m 0, .ref n.o 0] σ (fun r σ' => r = .tup [] ∧ σ' = σ.set p.o (ncel (setK p.n (remI p.n.kids n.n.ID)))) := by
 refine zf (rs:=[]) Tryz.func86 Tryz.ntmps86 Tryz.results86 ?_
 simp only [argEnv]
 have hq := ho.hm
 have hnn := ho.hn n hn
 have hpo := ho.hn p hp
 have hn2 : ∀ a, (σ.set p.o a)[n.o]? = some (ncel n.n) := fun a => by rw [List.getElem?_set_ne (Ne.symm hoo)]; exact hnn
 refine zr ⟨[20,22],[3],[],[],[]⟩ fun _ _ Z=>?_
 simp[hq,hnn,hpo,og_get hpo,List.set_set]
 and_intros<;>try omega
 apply Z
 refine zd ⟨[20,22],[3],[],[],[]⟩ [.op {},.op {},.op {},.op {rO:=true},.op {},.op {},.op {},.op {rO:=true},.op {rO:=true},.op {}] fun all hall _ Z=>?_
 refine vcDL_split 8 (by simp) fun _ Y=>?_
 simp[hq,hnn,hpo,og_get hpo,List.set_set]
 and_intros<;>try omega
 apply Y
 simp only [List.drop]
 refine vcDL_split 1 (by simp) fun _ Y=>?_
 simp[hq,hnn,hpo,og_get hpo,List.set_set]
 rw [← hpp]
 refine ⟨m, 2, d.ck, _, .ref p.o 0, ⟨⟨_, hq, rfl⟩, keyI _, .inr (kvE_get hp _)⟩, ?_⟩
 and_intros<;>try omega
 apply Y
 simp only [List.drop]
 simp[hq,hnn,hpo,og_get hpo,List.set_set]
 and_intros<;>try omega
 apply Z
 refine zr ⟨[20,22],[3],[],[],[]⟩ fun _ _ Z=>?_
 simp[hq,hnn,hpo,og_get hpo,List.set_set]
 and_intros<;>try omega
 apply Z
 refine zi ?_
 refine ⟨fun c1=>?_,fun c1=>?_⟩
 ·try simp at c1
  refine zk [3,4] ?_
  refine zt ⟨[20,22],[3],[],[],[]⟩ fun _ _ Z=>?_
  refine vcL_split 6 fun _ Y=>?_
  simp[hq,hnn,hpo,og_get hpo,List.set_set]
  and_intros<;>try omega
  apply Y
  simp only [List.drop]
  refine vcL_step fun _ Y=>?_
  simp[hq,hnn,hpo,og_get hpo,List.set_set]
  refine zce (idelete_fn p.n.kids (fun k => decide (k = n.n.ID)) 122 [.adr [.ref n.o 0]] _ (by omega) (by simp) (by simp) (fun x τ h => lv1_fn x n.o n.n τ (pre_get h (hn2 _)))) ?_
  apply Y
  simp[hq,hnn,hpo,og_get hpo,List.set_set]
  and_intros<;>try omega
  apply Z
  simp [endQ, setK, remI]
 ·simp at c1
theorem dmov11_fn (m M : Nat) (d : DS) (id at_ : Int) (σ : List (List D)) (ho : DO m M d σ) (hno : isL d.l id = false) : Ct Tryz.prog 46 [.ref m 0, D.int id, D.int at_] σ (fun r σ' => r = .int 11 ∧ σ' = σ) := by
 refine zf (rs:=[.tmp 6]) Tryz.func46 Tryz.ntmps46 Tryz.results46 ?_
 simp only [argEnv]
 have hq := ho.hm
 refine zr ⟨[62],[],[],[],[]⟩ fun _ _ Z=>?_
 simp[hq]
 and_intros<;>try omega
 apply Z
 refine zr ⟨[62],[],[],[],[]⟩ fun _ _ Z=>?_
 refine vcL_split 6 fun _ Y=>?_
 simp[hq]
 refine ⟨m, 2, d.ck, _, .v (.pointer none), ⟨⟨_, hq, rfl⟩, keyI _, .inl (kvE_no hno _)⟩, ?_⟩
 and_intros<;>try omega
 apply Y
 simp only [List.drop]
 simp[hq]
 and_intros<;>try omega
 apply Z
 apply awp_seq
 apply awp_block
 refine zr ⟨[62],[],[],[],[]⟩ fun _ _ Z=>?_
 simp[hq]
 and_intros<;>try omega
 apply Z
 refine zi ?_
 refine ⟨fun c1=>?_,fun c1=>?_⟩
 ·try simp at c1
  refine zr ⟨[62],[],[],[],[]⟩ fun _ _ Z=>?_
  simp[hq]
  and_intros<;>try omega
  apply Z
  apply awp_ret
  apply q_block_r
  apply q_then_r
  simp [endQ]
 ·simp at c1
theorem dmov1_fn (m M : Nat) (d : DS) (n : EN) (at_ : Int) (σ : List (List D)) (ho : DO m M d σ) (hn : n ∈ d.es) (hpar : n.n.parent = -1) : Ct Tryz.prog 46 [.ref m 0, D.int n.n.ID, D.int at_] σ (fun r σ' => r = .int 1 ∧ σ' = σ) := by
 refine zf (rs:=[.tmp 6]) Tryz.func46 Tryz.ntmps46 Tryz.results46 ?_
 simp only [argEnv]
 have hq := ho.hm
 have hnn := ho.hn n hn
 refine zr ⟨[62],[],[],[],[]⟩ fun _ _ Z=>?_
 simp[hq,hnn,hpar]
 and_intros<;>try omega
 apply Z
 refine zr ⟨[62],[],[],[],[]⟩ fun _ _ Z=>?_
 refine vcL_split 6 fun _ Y=>?_
 simp[hq,hnn,hpar]
 refine ⟨m, 2, d.ck, _, .ref n.o 0, ⟨⟨_, hq, rfl⟩, keyI _, .inr (kvE_get hn _)⟩, ?_⟩
 and_intros<;>try omega
 apply Y
 simp only [List.drop]
 simp[hq,hnn,hpar]
 and_intros<;>try omega
 apply Z
 apply awp_seq
 apply awp_block
 refine zr ⟨[62],[],[],[],[]⟩ fun _ _ Z=>?_
 simp[hq,hnn,hpar]
 and_intros<;>try omega
 apply Z
 refine zi ?_
 refine ⟨fun c1=>?_,fun c1=>?_⟩
 ·simp at c1
 ·try simp at c1
  refine zk [0,1,2,6,7] ?_
  refine zd ⟨[62],[],[],[],[]⟩ [.op {},.op {},.op {},.op {rO:=true},.op {},.op {},.op {},.op {},.op {},.op {},.op {},.op {},.op {},.op {},.op {rO:=true},.op {},.op {},.op {},.op {rO:=true},.op {rO:=true},.op {},.op {},.op {rO:=true},.op {},.op {},.op {},.op {}] fun all hall _ Z=>?_
  have ga5 : guardOf all 5 = some 24 := hall 5
  have ga9 : guardOf all 9 = some 28 := hall 9
  refine vcDL_split 6 (by simp) fun _ Y=>?_
  simp[hq,hnn,hpar,ga5,ga9]
  and_intros<;>try omega
  apply Y
  simp only [List.drop]
  refine vcDL_bool 24 (by simp <;> rfl) ?_
  refine ⟨fun g2 => ?_, fun g2 => ?_⟩
  ·try simp at g2
   refine vcDL_split 4 (by simp) fun _ Y=>?_
   simp[hq,hnn,hpar,ga5,ga9]
   and_intros<;>try omega
   apply Y
   simp only [List.drop]
   refine vcDL_split 8 (by simp) fun _ Y=>?_
   simp[hq,hnn,hpar,ga5,ga9]
   and_intros<;>try omega
   apply Y
   simp only [List.drop]
   refine vcDL_split 8 (by simp) fun _ Y=>?_
   simp[hq,hnn,hpar,ga5,ga9]
   and_intros<;>try omega
   apply Y
   simp only [List.drop]
   simp[hq,hnn,hpar,ga5,ga9]
   and_intros<;>try omega
   apply Z
   refine awp_cond (t := true) (by simp) (fun _ => ?_) (fun h => by cases h)
   refine zk [0,1,2,6,7] ?_
   refine zr ⟨[62],[],[],[],[]⟩ fun _ _ Z=>?_
   simp[hq,hnn,hpar]
   and_intros<;>try omega
   apply Z
   apply awp_ret
   apply q_block_r
   apply q_then_r
   simp [endQ]
  ·simp at g2
theorem dmov_fn (m M : Nat) (d : DS) (p n : EN) (at_ : Int) (σ : List (List D)) (ho : DO m M d σ) (hp : p ∈ d.es) (hn : n ∈ d.es) (hpp : p.n.ID = n.n.parent) (hoo : n.o ≠ p.o) (hlen : p.n.kids.length ≤ 1000) (hnn1 : ¬ n.n.parent = -1) (hnd : p.n.kids.Nodup) : Ct Tryz.prog 46 [.ref m 0, D.int n.n.ID, D.int at_] σ (fun r σ' => (r = D.int 1 ∧ (at_ < 0 ∨ (p.n.kids.length : Int) ≤ at_) ∧ σ' = σ) ∨ (r = D.int 0 ∧ ¬ (at_ < 0 ∨ (p.n.kids.length : Int) ≤ at_) ∧ ∃ i : Nat, at_ = i ∧ σ' = σ.set p.o (ncel (setK p.n (insL (remI p.n.kids n.n.ID) i n.n.ID))))) := by
 refine zf (rs:=[.tmp 6]) Tryz.func46 Tryz.ntmps46 Tryz.results46 ?_
 simp only [argEnv]
 have hq := ho.hm
 have hnn := ho.hn n hn
 have hpo := ho.hn p hp
 have hn2 : ∀ a, (σ.set p.o a)[n.o]? = some (ncel n.n) := fun a => by rw [List.getElem?_set_ne (Ne.symm hoo)]; exact hnn
 have hqp : ∀ a, (σ.set p.o a)[m]? = some (dcel M d) := fun a => by rw [List.getElem?_set_ne (ho.nm p hp)]; exact hq
 have hrl := remI_le p.n.kids n.n.ID
 have hrg := remI_ge hnd n.n.ID
 refine zr ⟨[61,62,65],[],[],[42],[]⟩ fun _ _ Z=>?_
 simp[hq,hnn,hpo,hqp,hn2,hnn1,og_get hpo,List.set_set]
 and_intros<;>try omega
 apply Z
 refine zr ⟨[61,62,65],[],[],[42],[]⟩ fun _ _ Z=>?_
 refine vcL_split 6 fun _ Y=>?_
 simp[hq,hnn,hpo,hqp,hn2,hnn1,og_get hpo,List.set_set]
 refine ⟨m, 2, d.ck, _, .ref n.o 0, ⟨⟨_, hq, rfl⟩, keyI _, .inr (kvE_get hn _)⟩, ?_⟩
 and_intros<;>try omega
 apply Y
 simp only [List.drop]
 simp[hq,hnn,hpo,hqp,hn2,hnn1,og_get hpo,List.set_set]
 and_intros<;>try omega
 apply Z
 apply awp_seq
 apply awp_block
 refine zr ⟨[61,62,65],[],[],[42],[]⟩ fun _ _ Z=>?_
 simp[hq,hnn,hpo,hqp,hn2,hnn1,og_get hpo,List.set_set]
 and_intros<;>try omega
 apply Z
 refine zi ?_
 refine ⟨fun c1=>?_,fun c1=>?_⟩
 ·simp at c1
 ·try simp at c1
  refine zk [0,1,2,6,7] ?_
  refine zd ⟨[61,62,65],[],[],[42],[]⟩ [.op {},.op {},.op {},.op {rO:=true},.op {},.op {},.op {},.op {},.op {},.op {},.op {},.op {},.op {},.op {},.op {rO:=true},.op {},.op {},.op {},.op {rO:=true},.op {rO:=true},.op {},.op {},.op {rO:=true},.op {},.op {},.op {},.op {}] fun all hall _ Z=>?_
  have ga5 : guardOf all 5 = some 24 := hall 5
  have ga9 : guardOf all 9 = some 28 := hall 9
  refine vcDL_split 6 (by simp) fun _ Y=>?_
  simp[hq,hnn,hpo,hqp,hn2,hnn1,og_get hpo,List.set_set,ga5,ga9]
  and_intros<;>try omega
  apply Y
  simp only [List.drop]
  refine vcDL_bool 24 (by simp <;> rfl) ?_
  refine ⟨fun g2 => ?_, fun g2 => ?_⟩
  ·simp at g2
  ·try simp at g2
   refine vcDL_split 4 (by simp) fun _ Y=>?_
   simp[hq,hnn,hpo,hqp,hn2,hnn1,og_get hpo,List.set_set,ga5,ga9]
   and_intros<;>try omega
   apply Y
   simp only [List.drop]
   refine vcDL_bool 28 (by simp <;> rfl) ?_
   refine ⟨fun g3 => ?_, fun g3 => ?_⟩
   ·try simp at g3
    refine vcDL_split 8 (by simp) fun _ Y=>?_
    simp[hq,hnn,hpo,hqp,hn2,hnn1,og_get hpo,List.set_set,ga5,ga9]
    and_intros<;>try omega
    apply Y
    simp only [List.drop]
    refine vcDL_split 8 (by simp) fun _ Y=>?_
    simp[hq,hnn,hpo,hqp,hn2,hnn1,og_get hpo,List.set_set,ga5,ga9]
    and_intros<;>try omega
    apply Y
    simp only [List.drop]
    simp[hq,hnn,hpo,hqp,hn2,hnn1,og_get hpo,List.set_set,ga5,ga9]
    and_intros<;>try omega
    apply Z
    refine awp_cond (t := true) (by simp) (fun _ => ?_) (fun h => by cases h)
    refine zk [0,1,2,6,7] ?_
    refine zr ⟨[61,62,65],[],[],[42],[]⟩ fun _ _ Z=>?_
    simp[hq,hnn,hpo,hqp,hn2,hnn1,og_get hpo,List.set_set]
    and_intros<;>try omega
    apply Z
    apply awp_ret
    apply q_block_r
    apply q_then_r
    simp [endQ]
    exact .inl g3
   ·try simp at g3
    refine vcDL_split 8 (by simp) fun _ Y=>?_
    simp[hq,hnn,hpo,hqp,hn2,hnn1,og_get hpo,List.set_set,ga5,ga9]
    and_intros<;>try omega
    apply Y
    simp only [List.drop]
    refine vcDL_split 2 (by simp) fun _ Y=>?_
    simp[hq,hnn,hpo,hqp,hn2,hnn1,og_get hpo,List.set_set,ga5,ga9]
    rw [← hpp]
    refine ⟨m, 2, d.ck, _, .ref p.o 0, ⟨⟨_, hq, rfl⟩, keyI _, .inr (kvE_get hp _)⟩, ?_⟩
    and_intros<;>try omega
    apply Y
    simp only [List.drop]
    simp[hq,hnn,hpo,hqp,hn2,hnn1,og_get hpo,List.set_set,ga5,ga9]
    and_intros<;>try omega
    apply Z
    refine zi ?_
    refine ⟨fun c4=>?_,fun c4=>?_⟩
    ·try simp at c4
     refine zk [0,1,2,6,7] ?_
     refine zr ⟨[61,62,65],[],[],[42],[]⟩ fun _ _ Z=>?_
     simp[hq,hnn,hpo,hqp,hn2,hnn1,og_get hpo,List.set_set]
     and_intros<;>try omega
     apply Z
     apply awp_ret
     apply q_block_r
     apply q_then_r
     simp [endQ]
     exact .inr c4
    ·try simp at c4
     obtain ⟨i, rfl⟩ : ∃ i : Nat, at_ = i := ⟨at_.toNat, by omega⟩
     apply awp_skip
     apply q_block_n
     apply q_then_n
     refine zk [0,1,2,6,7] ?_
     refine zr ⟨[61,62,65],[],[],[42],[]⟩ fun _ _ Z=>?_
     refine vcL_split 2 fun _ Y=>?_
     simp[hq,hnn,hpo,hqp,hn2,hnn1,og_get hpo,List.set_set]
     and_intros<;>try omega
     apply Y
     simp only [List.drop]
     refine vcL_step fun _ Y=>?_
     simp[hq,hnn,hpo,hqp,hn2,hnn1,og_get hpo,List.set_set]
     refine zce (lv2_fn m M d p n _ ho hp hn hpp hoo hlen) ?_
     apply Y
     simp only [vcL_nil]
     apply Z
     refine zd ⟨[61,62,65],[],[],[42],[]⟩ [.op {},.op {},.op {},.op {rO:=true},.op {},.op {},.op {},.op {rO:=true},.op {rO:=true},.op {}] fun all hall _ Z=>?_
     refine vcDL_split 8 (by simp) fun _ Y=>?_
     simp[hq,hnn,hpo,hqp,hn2,hnn1,og_get hpo,List.set_set]
     and_intros<;>try omega
     apply Y
     simp only [List.drop]
     refine vcDL_split 1 (by simp) fun _ Y=>?_
     simp[hq,hnn,hpo,hqp,hn2,hnn1,og_get hpo,List.set_set]
     rw [← hpp]
     refine ⟨m, 2, d.ck, _, .ref p.o 0, ⟨⟨_, hqp _, rfl⟩, keyI _, .inr (kvE_get hp _)⟩, ?_⟩
     and_intros<;>try omega
     apply Y
     simp only [List.drop]
     simp[hq,hnn,hpo,hqp,hn2,hnn1,og_get hpo,List.set_set]
     and_intros<;>try omega
     apply Z
     refine zk [1,2,6,8] ?_
     refine zr ⟨[61,62,65],[],[],[42],[]⟩ fun _ _ Z=>?_
     refine vcL_split 8 fun _ Y=>?_
     simp[hq,hnn,hpo,hqp,hn2,hnn1,og_get hpo,List.set_set]
     and_intros<;>try omega
     apply Y
     simp only [List.drop]
     refine vcL_step fun _ Y=>?_
     simp[hq,hnn,hpo,hqp,hn2,hnn1,og_get hpo,List.set_set]
     refine zce (iins_fn (remI p.n.kids n.n.ID) n.n.ID i _ (by omega) (by omega)) ?_
     apply Y
     simp[hq,hnn,hpo,hqp,hn2,hnn1,og_get hpo,List.set_set]
     and_intros<;>try omega
     apply Z
     refine zk [6] ?_
     refine zr ⟨[61,62,65],[],[],[42],[]⟩ fun _ _ Z=>?_
     simp[hq,hnn,hpo,hqp,hn2,hnn1,og_get hpo,List.set_set]
     and_intros<;>try omega
     apply Z
     apply awp_ret
     simp [endQ, setK]
     exact ⟨by omega, i, rfl, rfl⟩
end Go.Proofs.YtpfmpeaekgdgnaaGreat


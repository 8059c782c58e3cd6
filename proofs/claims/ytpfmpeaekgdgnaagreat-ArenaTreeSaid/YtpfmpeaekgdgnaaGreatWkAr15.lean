import Derived.Test.YtpfmpeaekgdgnaaGreatWkAr14
namespace Go.Proofs.YtpfmpeaekgdgnaaGreat
open Go Go.Vm
set_option maxRecDepth 20000
set_option linter.all false
set_option maxHeartbeats 8000000
def ownE (n : ND) (kind : Int) (name : ByteArray) : Int := if n.ID = 0 then 1 else if ¬ n.kind = kind then 14 else if kind = 2 ∧ nameB name = false then 2 else 0
theorem ownE_ok {n : ND} {kind : Int} {name : ByteArray} (h : ownE n kind name = 0) : ¬ n.ID = 0 ∧ n.kind = kind ∧ (kind = 2 → nameB name = true) := by
 unfold ownE at h
 split at h
 ·cases h
 ·split at h
  ·cases h
  ·split at h
   ·cases h
   ·rename_i h1 h2 h3
    refine ⟨h1, Classical.not_not.1 h2, fun hk => ?_⟩
    cases hn : nameB name with
    | true => rfl
    | false => exact absurd ⟨hk, hn⟩ h3
theorem own11_fn (m M : Nat) (d : DS) (id kind : Int) (name : ByteArray) (σ : List (List D)) (ho : DO m M d σ) (hno : isL d.l id = false) : Ct Tryz.prog 123 [.ref m 0, D.int id, D.int kind, D.str name] σ (fun r σ' => r = .tup [.v (.pointer none), D.int 11] ∧ σ' = σ) := by
 refine zf (rs:=[.tmp 8,.tmp 9]) Tryz.func123 Tryz.ntmps123 Tryz.results123 ?_
 simp only [argEnv]
 have hq := ho.hm
 refine zr0 fun _ _ Z=>?_
 simp[hq]
 and_intros<;>try omega
 apply Z
 refine zr0 fun _ _ Z=>?_
 refine vcL_split 6 fun _ Y=>?_
 simp[hq]
 refine ⟨m, 2, d.ck, _, .v (.pointer none), ⟨⟨_, hq, rfl⟩, keyI _, .inl (kvE_no hno _)⟩, ?_⟩
 and_intros<;>try omega
 apply Y
 simp only [List.drop]
 simp[hq]
 and_intros<;>try omega
 apply Z
 apply awp_seq
 apply awp_block
 refine zr0 fun _ _ Z=>?_
 simp[hq]
 and_intros<;>try omega
 apply Z
 refine zi ?_
 refine ⟨fun c1=>?_,fun c1=>?_⟩
 ·try simp at c1
  refine zk [8,9,10] ?_
  refine zr0 fun _ _ Z=>?_
  simp[hq]
  and_intros<;>try omega
  apply Z
  apply awp_ret
  apply q_block_r
  apply q_then_r
  simp [endQ]
 ·simp at c1
theorem ownB_fn (m M : Nat) (d : DS) (e : EN) (kind : Int) (name : ByteArray) (σ : List (List D)) (ho : DO m M d σ) (he : e ∈ d.es) (hs : name.size ≤ 1000) (hb : ¬ ownE e.n kind name = 0) : Ct Tryz.prog 123 [.ref m 0, D.int e.n.ID, D.int kind, D.str name] σ (fun r σ' => r = .tup [.v (.pointer none), D.int (ownE e.n kind name)] ∧ σ' = σ) := by
 refine zf (rs:=[.tmp 8,.tmp 9]) Tryz.func123 Tryz.ntmps123 Tryz.results123 ?_
 simp only [argEnv]
 have hq := ho.hm
 have hne := ho.hn e he
 refine zr0 fun _ _ Z=>?_
 simp[hq,hne]
 and_intros<;>try omega
 apply Z
 refine zr0 fun _ _ Z=>?_
 refine vcL_split 6 fun _ Y=>?_
 simp[hq,hne]
 refine ⟨m, 2, d.ck, _, .ref e.o 0, ⟨⟨_, hq, rfl⟩, keyI _, .inr (kvE_get he _)⟩, ?_⟩
 and_intros<;>try omega
 apply Y
 simp only [List.drop]
 simp[hq,hne]
 and_intros<;>try omega
 apply Z
 apply awp_seq
 apply awp_block
 refine zr0 fun _ _ Z=>?_
 simp[hq,hne]
 and_intros<;>try omega
 apply Z
 refine zi ?_
 refine ⟨fun c1=>?_,fun c1=>?_⟩
 ·simp at c1
 ·try simp at c1
  refine zk [1,2,3,8,9,10] ?_
  refine zr0 fun _ _ Z=>?_
  simp[hq,hne]
  and_intros<;>try omega
  apply Z
  refine zi ?_
  refine ⟨fun c2=>?_,fun c2=>?_⟩
  ·try simp at c2
   refine zr0 fun _ _ Z=>?_
   simp[hq,hne]
   and_intros<;>try omega
   apply Z
   apply awp_ret
   apply q_block_r
   apply q_then_r
   simp [endQ, ownE, *]
  ·try simp at c2
   refine zr0 fun _ _ Z=>?_
   simp[hq,hne]
   and_intros<;>try omega
   apply Z
   refine zi ?_
   refine ⟨fun c3=>?_,fun c3=>?_⟩
   ·try simp at c3
    refine zk [8,9,10] ?_
    refine zr0 fun _ _ Z=>?_
    simp[hq,hne]
    and_intros<;>try omega
    apply Z
    apply awp_ret
    apply q_block_r
    apply q_then_r
    simp [endQ, ownE, *]
   ·try simp at c3
    refine zk [2,3,8,9,10] ?_
    refine zrg ⟨[],[],[],[],[]⟩ fun all hall _ Z=>?_
    have ga2 : guardOf all 2 = some 33 := hall 2
    refine vcL_split 3 fun _ Y=>?_
    simp[hq,hne,ga2]
    and_intros<;>try omega
    apply Y
    simp only [List.drop]
    refine vcL_bool 33 (by simp <;> rfl) ?_
    refine ⟨fun g4 => ?_, fun g4 => ?_⟩
    ·try simp at g4
     refine vcL_split 1 fun _ Y=>?_
     simp[hq,hne,ga2]
     and_intros<;>try omega
     apply Y
     simp only [List.drop]
     refine zg ga2 fun _ Y=>?_
     simp[hq,hne,ga2]
     refine zce (wname_fn name _ (by omega)) ?_
     apply Y
     simp[hq,hne,ga2]
     and_intros<;>try omega
     apply Z
     refine zi ?_
     refine ⟨fun c5=>?_,fun c5=>?_⟩
     ·try simp at c5
      refine zk [8,9,10] ?_
      refine zr0 fun _ _ Z=>?_
      simp[hq,hne]
      and_intros<;>try omega
      apply Z
      apply awp_ret
      apply q_block_r
      apply q_then_r
      simp [endQ, ownE, *]
     ·try simp at c5
      exact absurd (by simp [ownE, c2, c3, g4, c5]) hb
    ·try simp at g4
     exact absurd (by simp [ownE, c2, c3, g4]) hb
theorem own0_fn (m M : Nat) (d : DS) (e : EN) (kind : Int) (name : ByteArray) (σ : List (List D)) (ho : DO m M d σ) (he : e ∈ d.es) (hs : name.size ≤ 1000) (hb : ownE e.n kind name = 0) : Ct Tryz.prog 123 [.ref m 0, D.int e.n.ID, D.int kind, D.str name] σ (fun r σ' => r = .tup [.ref e.o 0, D.int 0] ∧ σ' = σ) := by
 refine zf (rs:=[.tmp 8,.tmp 9]) Tryz.func123 Tryz.ntmps123 Tryz.results123 ?_
 simp only [argEnv]
 have hq := ho.hm
 have hne := ho.hn e he
 obtain ⟨o1, o2, o3⟩ := ownE_ok hb
 refine zr0 fun _ _ Z=>?_
 simp[hq,hne]
 and_intros<;>try omega
 apply Z
 refine zr0 fun _ _ Z=>?_
 refine vcL_split 6 fun _ Y=>?_
 simp[hq,hne]
 refine ⟨m, 2, d.ck, _, .ref e.o 0, ⟨⟨_, hq, rfl⟩, keyI _, .inr (kvE_get he _)⟩, ?_⟩
 and_intros<;>try omega
 apply Y
 simp only [List.drop]
 simp[hq,hne]
 and_intros<;>try omega
 apply Z
 apply awp_seq
 apply awp_block
 refine zr0 fun _ _ Z=>?_
 simp[hq,hne]
 and_intros<;>try omega
 apply Z
 refine zi ?_
 refine ⟨fun c1=>?_,fun c1=>?_⟩
 ·simp at c1
 ·try simp at c1
  refine zk [1,2,3,8,9,10] ?_
  refine zr0 fun _ _ Z=>?_
  simp[hq,hne]
  and_intros<;>try omega
  apply Z
  refine zi ?_
  refine ⟨fun c2=>?_,fun c2=>?_⟩
  ·try simp at c2
   exact absurd c2 o1
  ·try simp at c2
   refine zr0 fun _ _ Z=>?_
   simp[hq,hne]
   and_intros<;>try omega
   apply Z
   refine zi ?_
   refine ⟨fun c3=>?_,fun c3=>?_⟩
   ·try simp at c3
    exact absurd o2 c3
   ·try simp at c3
    refine zk [2,3,8,9,10] ?_
    refine zrg ⟨[],[],[],[],[]⟩ fun all hall _ Z=>?_
    have ga2 : guardOf all 2 = some 33 := hall 2
    refine vcL_split 3 fun _ Y=>?_
    simp[hq,hne,ga2]
    and_intros<;>try omega
    apply Y
    simp only [List.drop]
    refine vcL_bool 33 (by simp <;> rfl) ?_
    refine ⟨fun g4 => ?_, fun g4 => ?_⟩
    ·try simp at g4
     refine vcL_split 1 fun _ Y=>?_
     simp[hq,hne,ga2]
     and_intros<;>try omega
     apply Y
     simp only [List.drop]
     refine zg ga2 fun _ Y=>?_
     simp[hq,hne,ga2]
     refine zce (wname_fn name _ (by omega)) ?_
     apply Y
     simp[hq,hne,ga2]
     and_intros<;>try omega
     apply Z
     refine zi ?_
     refine ⟨fun c5=>?_,fun c5=>?_⟩
     ·try simp at c5
      rw [o3 g4] at c5; cases c5
     ·try simp at c5
      apply awp_skip
      apply q_block_n
      apply q_then_n
      refine zk [8,9,10] ?_
      refine zr0 fun _ _ Z=>?_
      simp[hq,hne]
      and_intros<;>try omega
      apply Z
      apply awp_ret
      simp [endQ]
    ·try simp at g4
     simp[hq,hne,ga2]
     and_intros<;>try omega
     apply Z
     refine awp_cond (t := false) (by simp) (fun h => by cases h) (fun _ => ?_)
     apply awp_skip
     apply q_block_n
     apply q_then_n
     refine zk [8,9,10] ?_
     refine zr0 fun _ _ Z=>?_
     simp[hq,hne]
     and_intros<;>try omega
     apply Z
     apply awp_ret
     simp [endQ]
theorem sTagN_fn (m : Nat) (id c : Int) (s : ByteArray) (σ : List (List D)) (hown : Ct Tryz.prog 123 [.ref m 0, D.int id, D.int 2, D.str s] σ (fun r σ' => r = .tup [.v (.pointer none), D.int c] ∧ σ' = σ)) (hc : ¬ c = 0) : Ct Tryz.prog 89 [.ref m 0, D.int id, D.str s] σ (fun r σ' => r = .int c ∧ σ' = σ) := by
 refine zf (rs:=[.tmp 6]) Tryz.func89 Tryz.ntmps89 Tryz.results89 ?_
 simp only [argEnv]
 refine zr0 fun _ _ Z=>?_
 simp
 and_intros<;>try omega
 apply Z
 refine zr0 fun _ _ Z=>?_
 refine vcL_split 3 fun _ Y=>?_
 simp
 and_intros<;>try omega
 apply Y
 simp only [List.drop]
 refine vcL_step fun _ Y=>?_
 simp
 refine zce (hown) ?_
 apply Y
 simp
 and_intros<;>try omega
 apply Z
 apply awp_seq
 refine zr0 fun _ _ Z=>?_
 simp
 and_intros<;>try omega
 apply Z
 refine zi ?_
 refine ⟨fun c1=>?_,fun c1=>?_⟩
 ·try simp at c1
  exact absurd c1 hc
 ·try simp at c1
  apply awp_skip
  apply q_then_n
  refine zk [6,8] ?_
  refine zr0 fun _ _ Z=>?_
  simp
  and_intros<;>try omega
  apply Z
  apply awp_ret
  simp [endQ]
theorem sTag0_fn (m o : Nat) (id : Int) (n : ND) (s : ByteArray) (σ : List (List D)) (hown : Ct Tryz.prog 123 [.ref m 0, D.int id, D.int 2, D.str s] σ (fun r σ' => r = .tup [.ref o 0, D.int 0] ∧ σ' = σ)) (hno : σ[o]? = some (ncel n)) : Ct Tryz.prog 89 [.ref m 0, D.int id, D.str s] σ (fun r σ' => r = D.int 0 ∧ σ' = σ.set o (ncel { n with tag := s })) := by
 refine zf (rs:=[.tmp 6]) Tryz.func89 Tryz.ntmps89 Tryz.results89 ?_
 simp only [argEnv]
 refine zr0 fun _ _ Z=>?_
 simp[hno,og_get hno,List.set_set]
 and_intros<;>try omega
 apply Z
 refine zr0 fun _ _ Z=>?_
 refine vcL_split 3 fun _ Y=>?_
 simp[hno,og_get hno,List.set_set]
 and_intros<;>try omega
 apply Y
 simp only [List.drop]
 refine vcL_step fun _ Y=>?_
 simp[hno,og_get hno,List.set_set]
 refine zce (hown) ?_
 apply Y
 simp[hno,og_get hno,List.set_set]
 and_intros<;>try omega
 apply Z
 apply awp_seq
 refine zr0 fun _ _ Z=>?_
 simp[hno,og_get hno,List.set_set]
 and_intros<;>try omega
 apply Z
 refine zi ?_
 refine ⟨fun c1=>?_,fun c1=>?_⟩
 ·try simp at c1
  refine zk [2,6,7,8] ?_
  refine zt0 fun _ _ Z=>?_
  simp[hno,og_get hno,List.set_set]
  and_intros<;>try omega
  apply Z
  apply q_then_n
  refine zr0 fun _ _ Z=>?_
  simp[hno,og_get hno,List.set_set]
  and_intros<;>try omega
  apply Z
  apply awp_ret
  simp [endQ, ncel]
 ·simp at c1
theorem sTxtN_fn (m : Nat) (id c : Int) (s : ByteArray) (σ : List (List D)) (hown : Ct Tryz.prog 123 [.ref m 0, D.int id, D.int 1, D.str ⟨#[]⟩] σ (fun r σ' => r = .tup [.v (.pointer none), D.int c] ∧ σ' = σ)) (hc : ¬ c = 0) : Ct Tryz.prog 90 [.ref m 0, D.int id, D.str s] σ (fun r σ' => r = .int c ∧ σ' = σ) := by
 refine zf (rs:=[.tmp 6]) Tryz.func90 Tryz.ntmps90 Tryz.results90 ?_
 simp only [argEnv]
 refine zr0 fun _ _ Z=>?_
 simp
 and_intros<;>try omega
 apply Z
 refine zr0 fun _ _ Z=>?_
 refine vcL_split 2 fun _ Y=>?_
 simp
 and_intros<;>try omega
 apply Y
 simp only [List.drop]
 refine vcL_step fun _ Y=>?_
 simp
 refine zce (hown) ?_
 apply Y
 simp
 and_intros<;>try omega
 apply Z
 apply awp_seq
 refine zr0 fun _ _ Z=>?_
 simp
 and_intros<;>try omega
 apply Z
 refine zi ?_
 refine ⟨fun c1=>?_,fun c1=>?_⟩
 ·try simp at c1
  exact absurd c1 hc
 ·try simp at c1
  apply awp_skip
  apply q_then_n
  refine zr0 fun _ _ Z=>?_
  simp
  and_intros<;>try omega
  apply Z
  apply awp_ret
  simp [endQ]
theorem sTxt0_fn (m o : Nat) (id : Int) (n : ND) (s : ByteArray) (σ : List (List D)) (hown : Ct Tryz.prog 123 [.ref m 0, D.int id, D.int 1, D.str ⟨#[]⟩] σ (fun r σ' => r = .tup [.ref o 0, D.int 0] ∧ σ' = σ)) (hno : σ[o]? = some (ncel n)) : Ct Tryz.prog 90 [.ref m 0, D.int id, D.str s] σ (fun r σ' => r = D.int 0 ∧ σ' = σ.set o (ncel { n with text := s })) := by
 refine zf (rs:=[.tmp 6]) Tryz.func90 Tryz.ntmps90 Tryz.results90 ?_
 simp only [argEnv]
 refine zr0 fun _ _ Z=>?_
 simp[hno,og_get hno,List.set_set]
 and_intros<;>try omega
 apply Z
 refine zr0 fun _ _ Z=>?_
 refine vcL_split 2 fun _ Y=>?_
 simp[hno,og_get hno,List.set_set]
 and_intros<;>try omega
 apply Y
 simp only [List.drop]
 refine vcL_step fun _ Y=>?_
 simp[hno,og_get hno,List.set_set]
 refine zce (hown) ?_
 apply Y
 simp[hno,og_get hno,List.set_set]
 and_intros<;>try omega
 apply Z
 apply awp_seq
 refine zr0 fun _ _ Z=>?_
 simp[hno,og_get hno,List.set_set]
 and_intros<;>try omega
 apply Z
 refine zi ?_
 refine ⟨fun c1=>?_,fun c1=>?_⟩
 ·try simp at c1
  refine zt0 fun _ _ Z=>?_
  simp[hno,og_get hno,List.set_set]
  and_intros<;>try omega
  apply Z
  apply q_then_n
  refine zk [6,8] ?_
  refine zr0 fun _ _ Z=>?_
  simp[hno,og_get hno,List.set_set]
  and_intros<;>try omega
  apply Z
  apply awp_ret
  simp [endQ, ncel]
 ·simp at c1
theorem sAttN_fn (m : Nat) (id c : Int) (s : ByteArray) (v : ByteArray) (σ : List (List D)) (hown : Ct Tryz.prog 123 [.ref m 0, D.int id, D.int 2, D.str s] σ (fun r σ' => r = .tup [.v (.pointer none), D.int c] ∧ σ' = σ)) (hc : ¬ c = 0) : Ct Tryz.prog 91 [.ref m 0, D.int id, D.str s, D.str v] σ (fun r σ' => r = .int c ∧ σ' = σ) := by
 refine zf (rs:=[.tmp 8]) Tryz.func91 Tryz.ntmps91 Tryz.results91 ?_
 simp only [argEnv]
 refine zr0 fun _ _ Z=>?_
 simp
 and_intros<;>try omega
 apply Z
 refine zr0 fun _ _ Z=>?_
 refine vcL_split 3 fun _ Y=>?_
 simp
 and_intros<;>try omega
 apply Y
 simp only [List.drop]
 refine vcL_step fun _ Y=>?_
 simp
 refine zce (hown) ?_
 apply Y
 simp
 and_intros<;>try omega
 apply Z
 apply awp_seq
 refine zr0 fun _ _ Z=>?_
 simp
 and_intros<;>try omega
 apply Z
 refine zi ?_
 refine ⟨fun c1=>?_,fun c1=>?_⟩
 ·try simp at c1
  exact absurd c1 hc
 ·try simp at c1
  apply awp_skip
  apply q_then_n
  refine zk [8,10] ?_
  refine zr0 fun _ _ Z=>?_
  simp
  and_intros<;>try omega
  apply Z
  apply awp_ret
  simp [endQ]
theorem sAtt0_fn (m o : Nat) (id : Int) (n : ND) (s : ByteArray) (v : ByteArray) (σ : List (List D)) (hown : Ct Tryz.prog 123 [.ref m 0, D.int id, D.int 2, D.str s] σ (fun r σ' => r = .tup [.ref o 0, D.int 0] ∧ σ' = σ)) (hno : σ[o]? = some (ncel n)) (hl : n.attrs.length ≤ 1000) (hs : Sorted nA n.attrs) : Ct Tryz.prog 91 [.ref m 0, D.int id, D.str s, D.str v] σ (fun r σ' => r = D.int 0 ∧ σ' = σ.set o (ncel { n with attrs := putL nA n.attrs ⟨s, v⟩ })) := by
 refine zf (rs:=[.tmp 8]) Tryz.func91 Tryz.ntmps91 Tryz.results91 ?_
 simp only [argEnv]
 refine zr0 fun _ _ Z=>?_
 simp[hno,og_get hno,List.set_set]
 and_intros<;>try omega
 apply Z
 refine zr0 fun _ _ Z=>?_
 refine vcL_split 3 fun _ Y=>?_
 simp[hno,og_get hno,List.set_set]
 and_intros<;>try omega
 apply Y
 simp only [List.drop]
 refine vcL_step fun _ Y=>?_
 simp[hno,og_get hno,List.set_set]
 refine zce (hown) ?_
 apply Y
 simp[hno,og_get hno,List.set_set]
 and_intros<;>try omega
 apply Z
 apply awp_seq
 refine zr0 fun _ _ Z=>?_
 simp[hno,og_get hno,List.set_set]
 and_intros<;>try omega
 apply Z
 refine zi ?_
 refine ⟨fun c1=>?_,fun c1=>?_⟩
 ·try simp at c1
  refine zk [2,3,8,9,10] ?_
  refine zt0 fun _ _ Z=>?_
  refine vcL_split 7 fun _ Y=>?_
  simp[hno,og_get hno,List.set_set]
  and_intros<;>try omega
  apply Y
  simp only [List.drop]
  refine vcL_step fun _ Y=>?_
  simp[hno,og_get hno,List.set_set]
  refine zce (aset_fn n.attrs s v _ (by omega) hs) ?_
  apply Y
  simp[hno,og_get hno,List.set_set]
  and_intros<;>try omega
  apply Z
  apply q_then_n
  refine zk [8,10] ?_
  refine zr0 fun _ _ Z=>?_
  simp[hno,og_get hno,List.set_set]
  and_intros<;>try omega
  apply Z
  apply awp_ret
  simp [endQ, ncel]
 ·simp at c1
theorem sStyN_fn (m : Nat) (id c : Int) (s : ByteArray) (v : Int) (σ : List (List D)) (hown : Ct Tryz.prog 123 [.ref m 0, D.int id, D.int 2, D.str s] σ (fun r σ' => r = .tup [.v (.pointer none), D.int c] ∧ σ' = σ)) (hc : ¬ c = 0) : Ct Tryz.prog 93 [.ref m 0, D.int id, D.str s, D.int v] σ (fun r σ' => r = .int c ∧ σ' = σ) := by
 refine zf (rs:=[.tmp 8]) Tryz.func93 Tryz.ntmps93 Tryz.results93 ?_
 simp only [argEnv]
 refine zr0 fun _ _ Z=>?_
 simp
 and_intros<;>try omega
 apply Z
 refine zr0 fun _ _ Z=>?_
 refine vcL_split 3 fun _ Y=>?_
 simp
 and_intros<;>try omega
 apply Y
 simp only [List.drop]
 refine vcL_step fun _ Y=>?_
 simp
 refine zce (hown) ?_
 apply Y
 simp
 and_intros<;>try omega
 apply Z
 apply awp_seq
 refine zr0 fun _ _ Z=>?_
 simp
 and_intros<;>try omega
 apply Z
 refine zi ?_
 refine ⟨fun c1=>?_,fun c1=>?_⟩
 ·try simp at c1
  exact absurd c1 hc
 ·try simp at c1
  apply awp_skip
  apply q_then_n
  refine zk [8,10] ?_
  refine zr0 fun _ _ Z=>?_
  simp
  and_intros<;>try omega
  apply Z
  apply awp_ret
  simp [endQ]
theorem sSty0_fn (m o : Nat) (id : Int) (n : ND) (s : ByteArray) (v : Int) (σ : List (List D)) (hown : Ct Tryz.prog 123 [.ref m 0, D.int id, D.int 2, D.str s] σ (fun r σ' => r = .tup [.ref o 0, D.int 0] ∧ σ' = σ)) (hno : σ[o]? = some (ncel n)) (hl : n.styles.length ≤ 1000) (hs : Sorted nP n.styles) : Ct Tryz.prog 93 [.ref m 0, D.int id, D.str s, D.int v] σ (fun r σ' => r = D.int 0 ∧ σ' = σ.set o (ncel { n with styles := putL nP n.styles ⟨s, sat v⟩ })) := by
 refine zf (rs:=[.tmp 8]) Tryz.func93 Tryz.ntmps93 Tryz.results93 ?_
 simp only [argEnv]
 refine zr0 fun _ _ Z=>?_
 simp[hno,og_get hno,List.set_set]
 and_intros<;>try omega
 apply Z
 refine zr0 fun _ _ Z=>?_
 refine vcL_split 3 fun _ Y=>?_
 simp[hno,og_get hno,List.set_set]
 and_intros<;>try omega
 apply Y
 simp only [List.drop]
 refine vcL_step fun _ Y=>?_
 simp[hno,og_get hno,List.set_set]
 refine zce (hown) ?_
 apply Y
 simp[hno,og_get hno,List.set_set]
 and_intros<;>try omega
 apply Z
 apply awp_seq
 refine zr0 fun _ _ Z=>?_
 simp[hno,og_get hno,List.set_set]
 and_intros<;>try omega
 apply Z
 refine zi ?_
 refine ⟨fun c1=>?_,fun c1=>?_⟩
 ·try simp at c1
  refine zk [2,3,8,9,10] ?_
  refine ze ⟨[],[],[],[],[]⟩ [.op {},.op {},.op {},.op {},.op {rO:=true},.op {},.op {},.pure,.pure,.op {},.op {},.op {rO:=true,wO:=true}] fun all hall _ Z=>?_
  refine vcDL_split 7 (by simp) fun _ Y=>?_
  simp[hno,og_get hno,List.set_set]
  and_intros<;>try omega
  apply Y
  simp only [List.drop]
  refine vcDL_step fun _ Y=>?_
  simp[hno,og_get hno,List.set_set]
  refine zdp (fun _ => (sat_fn v _)) ?_
  apply Y
  refine vcDL_step fun _ Y=>?_
  simp[hno,og_get hno,List.set_set]
  refine zdp (fun _ => (pset_fn n.styles s (sat v) _ (by omega) hs)) ?_
  apply Y
  simp[hno,og_get hno,List.set_set]
  and_intros<;>try omega
  apply Z
  apply q_then_n
  refine zk [8,10] ?_
  refine zr0 fun _ _ Z=>?_
  simp[hno,og_get hno,List.set_set]
  and_intros<;>try omega
  apply Z
  apply awp_ret
  simp [endQ, ncel]
 ·simp at c1
theorem addS_fn (l : Ls) (c : ByteArray) (σ : List (List D)) (hl : l.length ≤ 1000000) : Ct Tryz.prog 132 [dl l, D.str c] σ (fun r σ' => r = dl (addL l c) ∧ σ' = σ) :=
 (add_fn l c σ hl).strip fun r σ' ⟨hr, hs⟩ => ⟨by rw [hr]; rfl, by rw [hr]; rfl, hs⟩
theorem dAttN_fn (m : Nat) (id c : Int) (s : ByteArray) (σ : List (List D)) (hown : Ct Tryz.prog 123 [.ref m 0, D.int id, D.int 2, D.str s] σ (fun r σ' => r = .tup [.v (.pointer none), D.int c] ∧ σ' = σ)) (hc : ¬ c = 0) : Ct Tryz.prog 92 [.ref m 0, D.int id, D.str s] σ (fun r σ' => r = .int c ∧ σ' = σ) := by
 refine zf (rs:=[.tmp 6]) Tryz.func92 Tryz.ntmps92 Tryz.results92 ?_
 simp only [argEnv]
 refine zr0 fun _ _ Z=>?_
 simp
 and_intros<;>try omega
 apply Z
 refine zr0 fun _ _ Z=>?_
 refine vcL_split 3 fun _ Y=>?_
 simp
 and_intros<;>try omega
 apply Y
 simp only [List.drop]
 refine vcL_step fun _ Y=>?_
 simp
 refine zce (hown) ?_
 apply Y
 simp
 and_intros<;>try omega
 apply Z
 apply awp_seq
 refine zr0 fun _ _ Z=>?_
 simp
 and_intros<;>try omega
 apply Z
 refine zi ?_
 refine ⟨fun c1=>?_,fun c1=>?_⟩
 ·try simp at c1
  refine zk [2,6,7,8] ?_
  refine zr0 fun _ _ Z=>?_
  simp
  and_intros<;>try omega
  apply Z
  apply awp_ret
  apply q_then_r
  simp [endQ]
 ·try simp at c1
  exact absurd c1 hc
theorem dAtt1_fn (m o : Nat) (id : Int) (n : ND) (s : ByteArray) (σ : List (List D)) (hown : Ct Tryz.prog 123 [.ref m 0, D.int id, D.int 2, D.str s] σ (fun r σ' => r = .tup [.ref o 0, D.int 0] ∧ σ' = σ)) (hno : σ[o]? = some (ncel n)) (hl : n.attrs.length ≤ 1000) (hs : Sorted nA n.attrs) (hbad : hasN nA n.attrs s = false) : Ct Tryz.prog 92 [.ref m 0, D.int id, D.str s] σ (fun r σ' => r = .int 1 ∧ σ' = σ) := by
 refine zf (rs:=[.tmp 6]) Tryz.func92 Tryz.ntmps92 Tryz.results92 ?_
 simp only [argEnv]
 refine zr0 fun _ _ Z=>?_
 simp[hno,og_get hno,List.set_set]
 and_intros<;>try omega
 apply Z
 refine zr0 fun _ _ Z=>?_
 refine vcL_split 3 fun _ Y=>?_
 simp[hno,og_get hno,List.set_set]
 and_intros<;>try omega
 apply Y
 simp only [List.drop]
 refine vcL_step fun _ Y=>?_
 simp[hno,og_get hno,List.set_set]
 refine zce (hown) ?_
 apply Y
 simp[hno,og_get hno,List.set_set]
 and_intros<;>try omega
 apply Z
 apply awp_seq
 refine zr0 fun _ _ Z=>?_
 simp[hno,og_get hno,List.set_set]
 and_intros<;>try omega
 apply Z
 refine zi ?_
 refine ⟨fun c1=>?_,fun c1=>?_⟩
 ·simp at c1
 ·try simp at c1
  apply awp_skip
  apply q_then_n
  apply awp_seq
  refine zk [2,6,7] ?_
  refine zr0 fun _ _ Z=>?_
  refine vcL_split 5 fun _ Y=>?_
  simp[hno,og_get hno,List.set_set]
  and_intros<;>try omega
  apply Y
  simp only [List.drop]
  refine vcL_step fun _ Y=>?_
  simp[hno,og_get hno,List.set_set]
  refine zcm (aget_fn n.attrs s _ (by omega) hs) ?_
  rintro _ _ ⟨⟨gv, hr9⟩, hs9⟩
  subst hr9
  replace hs9 := hs9.symm
  subst hs9
  apply Y
  simp[hno,og_get hno,List.set_set]
  and_intros<;>try omega
  apply Z
  refine zk [2,6,7,10] ?_
  refine zr0 fun _ _ Z=>?_
  simp[hno,og_get hno,List.set_set]
  and_intros<;>try omega
  apply Z
  refine zi ?_
  refine ⟨fun c2=>?_,fun c2=>?_⟩
  ·try simp at c2
   refine zr0 fun _ _ Z=>?_
   simp[hno,og_get hno,List.set_set]
   and_intros<;>try omega
   apply Z
   apply awp_ret
   apply q_then_r
   simp [endQ]
  ·try simp at c2
   rw [hbad] at c2; cases c2
theorem dAtt0_fn (m o : Nat) (id : Int) (n : ND) (s : ByteArray) (σ : List (List D)) (hown : Ct Tryz.prog 123 [.ref m 0, D.int id, D.int 2, D.str s] σ (fun r σ' => r = .tup [.ref o 0, D.int 0] ∧ σ' = σ)) (hno : σ[o]? = some (ncel n)) (hl : n.attrs.length ≤ 1000) (hs : Sorted nA n.attrs) (hgood : hasN nA n.attrs s = true) : Ct Tryz.prog 92 [.ref m 0, D.int id, D.str s] σ (fun r σ' => r = D.int 0 ∧ σ' = σ.set o (ncel { n with attrs := delN nA n.attrs s })) := by
 refine zf (rs:=[.tmp 6]) Tryz.func92 Tryz.ntmps92 Tryz.results92 ?_
 simp only [argEnv]
 refine zr0 fun _ _ Z=>?_
 simp[hno,og_get hno,List.set_set]
 and_intros<;>try omega
 apply Z
 refine zr0 fun _ _ Z=>?_
 refine vcL_split 3 fun _ Y=>?_
 simp[hno,og_get hno,List.set_set]
 and_intros<;>try omega
 apply Y
 simp only [List.drop]
 refine vcL_step fun _ Y=>?_
 simp[hno,og_get hno,List.set_set]
 refine zce (hown) ?_
 apply Y
 simp[hno,og_get hno,List.set_set]
 and_intros<;>try omega
 apply Z
 apply awp_seq
 refine zr0 fun _ _ Z=>?_
 simp[hno,og_get hno,List.set_set]
 and_intros<;>try omega
 apply Z
 refine zi ?_
 refine ⟨fun c1=>?_,fun c1=>?_⟩
 ·simp at c1
 ·try simp at c1
  apply awp_skip
  apply q_then_n
  apply awp_seq
  refine zk [2,6,7] ?_
  refine zr0 fun _ _ Z=>?_
  refine vcL_split 5 fun _ Y=>?_
  simp[hno,og_get hno,List.set_set]
  and_intros<;>try omega
  apply Y
  simp only [List.drop]
  refine vcL_step fun _ Y=>?_
  simp[hno,og_get hno,List.set_set]
  refine zcm (aget_fn n.attrs s _ (by omega) hs) ?_
  rintro _ _ ⟨⟨gv, hr9⟩, hs9⟩
  subst hr9
  replace hs9 := hs9.symm
  subst hs9
  apply Y
  simp[hno,og_get hno,List.set_set]
  and_intros<;>try omega
  apply Z
  refine zk [2,6,7,10] ?_
  refine zr0 fun _ _ Z=>?_
  simp[hno,og_get hno,List.set_set]
  and_intros<;>try omega
  apply Z
  refine zi ?_
  refine ⟨fun c2=>?_,fun c2=>?_⟩
  ·try simp at c2
   rw [hgood] at c2; cases c2
  ·try simp at c2
   apply awp_skip
   apply q_then_n
   refine zr0 fun _ _ Z=>?_
   refine vcL_split 6 fun _ Y=>?_
   simp[hno,og_get hno,List.set_set]
   and_intros<;>try omega
   apply Y
   simp only [List.drop]
   refine vcL_step fun _ Y=>?_
   simp[hno,og_get hno,List.set_set]
   refine zce (adrop_fn n.attrs s _ (by omega) hs) ?_
   apply Y
   simp[hno,og_get hno,List.set_set]
   and_intros<;>try omega
   apply Z
   refine zk [6] ?_
   refine zr0 fun _ _ Z=>?_
   simp[hno,og_get hno,List.set_set]
   and_intros<;>try omega
   apply Z
   apply awp_ret
   simp [endQ, ncel]
theorem dStyN_fn (m : Nat) (id c : Int) (s : ByteArray) (σ : List (List D)) (hown : Ct Tryz.prog 123 [.ref m 0, D.int id, D.int 2, D.str s] σ (fun r σ' => r = .tup [.v (.pointer none), D.int c] ∧ σ' = σ)) (hc : ¬ c = 0) : Ct Tryz.prog 94 [.ref m 0, D.int id, D.str s] σ (fun r σ' => r = .int c ∧ σ' = σ) := by
 refine zf (rs:=[.tmp 6]) Tryz.func94 Tryz.ntmps94 Tryz.results94 ?_
 simp only [argEnv]
 refine zr0 fun _ _ Z=>?_
 simp
 and_intros<;>try omega
 apply Z
 refine zr0 fun _ _ Z=>?_
 refine vcL_split 3 fun _ Y=>?_
 simp
 and_intros<;>try omega
 apply Y
 simp only [List.drop]
 refine vcL_step fun _ Y=>?_
 simp
 refine zce (hown) ?_
 apply Y
 simp
 and_intros<;>try omega
 apply Z
 apply awp_seq
 refine zr0 fun _ _ Z=>?_
 simp
 and_intros<;>try omega
 apply Z
 refine zi ?_
 refine ⟨fun c1=>?_,fun c1=>?_⟩
 ·try simp at c1
  refine zk [2,6,7,8] ?_
  refine zr0 fun _ _ Z=>?_
  simp
  and_intros<;>try omega
  apply Z
  apply awp_ret
  apply q_then_r
  simp [endQ]
 ·try simp at c1
  exact absurd c1 hc
theorem dSty1_fn (m o : Nat) (id : Int) (n : ND) (s : ByteArray) (σ : List (List D)) (hown : Ct Tryz.prog 123 [.ref m 0, D.int id, D.int 2, D.str s] σ (fun r σ' => r = .tup [.ref o 0, D.int 0] ∧ σ' = σ)) (hno : σ[o]? = some (ncel n)) (hl : n.styles.length ≤ 1000) (hs : Sorted nP n.styles) (hbad : hasN nP n.styles s = false) : Ct Tryz.prog 94 [.ref m 0, D.int id, D.str s] σ (fun r σ' => r = .int 1 ∧ σ' = σ) := by
 refine zf (rs:=[.tmp 6]) Tryz.func94 Tryz.ntmps94 Tryz.results94 ?_
 simp only [argEnv]
 refine zr0 fun _ _ Z=>?_
 simp[hno,og_get hno,List.set_set]
 and_intros<;>try omega
 apply Z
 refine zr0 fun _ _ Z=>?_
 refine vcL_split 3 fun _ Y=>?_
 simp[hno,og_get hno,List.set_set]
 and_intros<;>try omega
 apply Y
 simp only [List.drop]
 refine vcL_step fun _ Y=>?_
 simp[hno,og_get hno,List.set_set]
 refine zce (hown) ?_
 apply Y
 simp[hno,og_get hno,List.set_set]
 and_intros<;>try omega
 apply Z
 apply awp_seq
 refine zr0 fun _ _ Z=>?_
 simp[hno,og_get hno,List.set_set]
 and_intros<;>try omega
 apply Z
 refine zi ?_
 refine ⟨fun c1=>?_,fun c1=>?_⟩
 ·simp at c1
 ·try simp at c1
  apply awp_skip
  apply q_then_n
  apply awp_seq
  refine zk [2,6,7] ?_
  refine zr0 fun _ _ Z=>?_
  refine vcL_split 5 fun _ Y=>?_
  simp[hno,og_get hno,List.set_set]
  and_intros<;>try omega
  apply Y
  simp only [List.drop]
  refine vcL_step fun _ Y=>?_
  simp[hno,og_get hno,List.set_set]
  refine zcm (pget_fn n.styles s _ (by omega) hs) ?_
  rintro _ _ ⟨⟨gv, hr9⟩, hs9⟩
  subst hr9
  replace hs9 := hs9.symm
  subst hs9
  apply Y
  simp[hno,og_get hno,List.set_set]
  and_intros<;>try omega
  apply Z
  refine zk [2,6,7,10] ?_
  refine zr0 fun _ _ Z=>?_
  simp[hno,og_get hno,List.set_set]
  and_intros<;>try omega
  apply Z
  refine zi ?_
  refine ⟨fun c2=>?_,fun c2=>?_⟩
  ·try simp at c2
   refine zr0 fun _ _ Z=>?_
   simp[hno,og_get hno,List.set_set]
   and_intros<;>try omega
   apply Z
   apply awp_ret
   apply q_then_r
   simp [endQ]
  ·try simp at c2
   rw [hbad] at c2; cases c2
theorem dSty0_fn (m o : Nat) (id : Int) (n : ND) (s : ByteArray) (σ : List (List D)) (hown : Ct Tryz.prog 123 [.ref m 0, D.int id, D.int 2, D.str s] σ (fun r σ' => r = .tup [.ref o 0, D.int 0] ∧ σ' = σ)) (hno : σ[o]? = some (ncel n)) (hl : n.styles.length ≤ 1000) (hs : Sorted nP n.styles) (hgood : hasN nP n.styles s = true) : Ct Tryz.prog 94 [.ref m 0, D.int id, D.str s] σ (fun r σ' => r = D.int 0 ∧ σ' = σ.set o (ncel { n with styles := delN nP n.styles s })) := by
 refine zf (rs:=[.tmp 6]) Tryz.func94 Tryz.ntmps94 Tryz.results94 ?_
 simp only [argEnv]
 refine zr0 fun _ _ Z=>?_
 simp[hno,og_get hno,List.set_set]
 and_intros<;>try omega
 apply Z
 refine zr0 fun _ _ Z=>?_
 refine vcL_split 3 fun _ Y=>?_
 simp[hno,og_get hno,List.set_set]
 and_intros<;>try omega
 apply Y
 simp only [List.drop]
 refine vcL_step fun _ Y=>?_
 simp[hno,og_get hno,List.set_set]
 refine zce (hown) ?_
 apply Y
 simp[hno,og_get hno,List.set_set]
 and_intros<;>try omega
 apply Z
 apply awp_seq
 refine zr0 fun _ _ Z=>?_
 simp[hno,og_get hno,List.set_set]
 and_intros<;>try omega
 apply Z
 refine zi ?_
 refine ⟨fun c1=>?_,fun c1=>?_⟩
 ·simp at c1
 ·try simp at c1
  apply awp_skip
  apply q_then_n
  apply awp_seq
  refine zk [2,6,7] ?_
  refine zr0 fun _ _ Z=>?_
  refine vcL_split 5 fun _ Y=>?_
  simp[hno,og_get hno,List.set_set]
  and_intros<;>try omega
  apply Y
  simp only [List.drop]
  refine vcL_step fun _ Y=>?_
  simp[hno,og_get hno,List.set_set]
  refine zcm (pget_fn n.styles s _ (by omega) hs) ?_
  rintro _ _ ⟨⟨gv, hr9⟩, hs9⟩
  subst hr9
  replace hs9 := hs9.symm
  subst hs9
  apply Y
  simp[hno,og_get hno,List.set_set]
  and_intros<;>try omega
  apply Z
  refine zk [2,6,7,10] ?_
  refine zr0 fun _ _ Z=>?_
  simp[hno,og_get hno,List.set_set]
  and_intros<;>try omega
  apply Z
  refine zi ?_
  refine ⟨fun c2=>?_,fun c2=>?_⟩
  ·try simp at c2
   rw [hgood] at c2; cases c2
  ·try simp at c2
   apply awp_skip
   apply q_then_n
   refine zr0 fun _ _ Z=>?_
   refine vcL_split 6 fun _ Y=>?_
   simp[hno,og_get hno,List.set_set]
   and_intros<;>try omega
   apply Y
   simp only [List.drop]
   refine vcL_step fun _ Y=>?_
   simp[hno,og_get hno,List.set_set]
   refine zce (pdrop_fn n.styles s _ (by omega) hs) ?_
   apply Y
   simp[hno,og_get hno,List.set_set]
   and_intros<;>try omega
   apply Z
   refine zk [6] ?_
   refine zr0 fun _ _ Z=>?_
   simp[hno,og_get hno,List.set_set]
   and_intros<;>try omega
   apply Z
   apply awp_ret
   simp [endQ, ncel]
theorem aClsN_fn (m : Nat) (id c : Int) (s : ByteArray) (σ : List (List D)) (hown : Ct Tryz.prog 123 [.ref m 0, D.int id, D.int 2, D.str s] σ (fun r σ' => r = .tup [.v (.pointer none), D.int c] ∧ σ' = σ)) (hc : ¬ c = 0) : Ct Tryz.prog 95 [.ref m 0, D.int id, D.str s] σ (fun r σ' => r = .int c ∧ σ' = σ) := by
 refine zf (rs:=[.tmp 6]) Tryz.func95 Tryz.ntmps95 Tryz.results95 ?_
 simp only [argEnv]
 refine zr0 fun _ _ Z=>?_
 simp
 and_intros<;>try omega
 apply Z
 refine zr0 fun _ _ Z=>?_
 refine vcL_split 3 fun _ Y=>?_
 simp
 and_intros<;>try omega
 apply Y
 simp only [List.drop]
 refine vcL_step fun _ Y=>?_
 simp
 refine zce (hown) ?_
 apply Y
 simp
 and_intros<;>try omega
 apply Z
 apply awp_seq
 apply awp_block
 refine zr0 fun _ _ Z=>?_
 simp
 and_intros<;>try omega
 apply Z
 refine zi ?_
 refine ⟨fun c1=>?_,fun c1=>?_⟩
 ·try simp at c1
  refine zk [2,6,7,8] ?_
  refine zr0 fun _ _ Z=>?_
  simp
  and_intros<;>try omega
  apply Z
  apply awp_ret
  apply q_block_r
  apply q_then_r
  simp [endQ]
 ·try simp at c1
  exact absurd c1 hc
theorem aCls1_fn (m o : Nat) (id : Int) (n : ND) (s : ByteArray) (σ : List (List D)) (hown : Ct Tryz.prog 123 [.ref m 0, D.int id, D.int 2, D.str s] σ (fun r σ' => r = .tup [.ref o 0, D.int 0] ∧ σ' = σ)) (hno : σ[o]? = some (ncel n)) (hl : n.classes.length ≤ 1000) (hbad : has s n.classes = true) : Ct Tryz.prog 95 [.ref m 0, D.int id, D.str s] σ (fun r σ' => r = .int 1 ∧ σ' = σ) := by
 refine zf (rs:=[.tmp 6]) Tryz.func95 Tryz.ntmps95 Tryz.results95 ?_
 simp only [argEnv]
 refine zr0 fun _ _ Z=>?_
 simp[hno,og_get hno,List.set_set]
 and_intros<;>try omega
 apply Z
 refine zr0 fun _ _ Z=>?_
 refine vcL_split 3 fun _ Y=>?_
 simp[hno,og_get hno,List.set_set]
 and_intros<;>try omega
 apply Y
 simp only [List.drop]
 refine vcL_step fun _ Y=>?_
 simp[hno,og_get hno,List.set_set]
 refine zce (hown) ?_
 apply Y
 simp[hno,og_get hno,List.set_set]
 and_intros<;>try omega
 apply Z
 apply awp_seq
 apply awp_block
 refine zr0 fun _ _ Z=>?_
 simp[hno,og_get hno,List.set_set]
 and_intros<;>try omega
 apply Z
 refine zi ?_
 refine ⟨fun c1=>?_,fun c1=>?_⟩
 ·simp at c1
 ·try simp at c1
  refine zk [2,6,7] ?_
  refine zr0 fun _ _ Z=>?_
  refine vcL_split 5 fun _ Y=>?_
  simp[hno,og_get hno,List.set_set]
  and_intros<;>try omega
  apply Y
  simp only [List.drop]
  refine vcL_step fun _ Y=>?_
  simp[hno,og_get hno,List.set_set]
  refine zce (chas_fn n.classes s _ (by omega)) ?_
  apply Y
  simp[hno,og_get hno,List.set_set]
  and_intros<;>try omega
  apply Z
  refine zi ?_
  refine ⟨fun c2=>?_,fun c2=>?_⟩
  ·try simp at c2
   refine zr0 fun _ _ Z=>?_
   simp[hno,og_get hno,List.set_set]
   and_intros<;>try omega
   apply Z
   apply awp_ret
   apply q_block_r
   apply q_then_r
   simp [endQ]
  ·try simp at c2
   rw [hbad] at c2; cases c2
theorem aCls0_fn (m o : Nat) (id : Int) (n : ND) (s : ByteArray) (σ : List (List D)) (hown : Ct Tryz.prog 123 [.ref m 0, D.int id, D.int 2, D.str s] σ (fun r σ' => r = .tup [.ref o 0, D.int 0] ∧ σ' = σ)) (hno : σ[o]? = some (ncel n)) (hl : n.classes.length ≤ 1000) (hgood : has s n.classes = false) : Ct Tryz.prog 95 [.ref m 0, D.int id, D.str s] σ (fun r σ' => r = D.int 0 ∧ σ' = σ.set o (ncel { n with classes := n.classes ++ [s] })) := by
 refine zf (rs:=[.tmp 6]) Tryz.func95 Tryz.ntmps95 Tryz.results95 ?_
 simp only [argEnv]
 refine zr0 fun _ _ Z=>?_
 simp[hno,og_get hno,List.set_set]
 and_intros<;>try omega
 apply Z
 refine zr0 fun _ _ Z=>?_
 refine vcL_split 3 fun _ Y=>?_
 simp[hno,og_get hno,List.set_set]
 and_intros<;>try omega
 apply Y
 simp only [List.drop]
 refine vcL_step fun _ Y=>?_
 simp[hno,og_get hno,List.set_set]
 refine zce (hown) ?_
 apply Y
 simp[hno,og_get hno,List.set_set]
 and_intros<;>try omega
 apply Z
 apply awp_seq
 apply awp_block
 refine zr0 fun _ _ Z=>?_
 simp[hno,og_get hno,List.set_set]
 and_intros<;>try omega
 apply Z
 refine zi ?_
 refine ⟨fun c1=>?_,fun c1=>?_⟩
 ·simp at c1
 ·try simp at c1
  refine zk [2,6,7] ?_
  refine zr0 fun _ _ Z=>?_
  refine vcL_split 5 fun _ Y=>?_
  simp[hno,og_get hno,List.set_set]
  and_intros<;>try omega
  apply Y
  simp only [List.drop]
  refine vcL_step fun _ Y=>?_
  simp[hno,og_get hno,List.set_set]
  refine zce (chas_fn n.classes s _ (by omega)) ?_
  apply Y
  simp[hno,og_get hno,List.set_set]
  and_intros<;>try omega
  apply Z
  refine zi ?_
  refine ⟨fun c2=>?_,fun c2=>?_⟩
  ·try simp at c2
   rw [hgood] at c2; cases c2
  ·try simp at c2
   apply awp_skip
   apply q_block_n
   apply q_then_n
   refine zr0 fun _ _ Z=>?_
   refine vcL_split 6 fun _ Y=>?_
   simp[hno,og_get hno,List.set_set]
   and_intros<;>try omega
   apply Y
   simp only [List.drop]
   refine vcL_step fun _ Y=>?_
   simp[hno,og_get hno,List.set_set]
   refine zce (addS_fn n.classes s _ (by omega)) ?_
   rw [show addL n.classes s = n.classes ++ [s] from by unfold addL; rw [hgood]; rfl]
   apply Y
   simp[hno,og_get hno,List.set_set]
   and_intros<;>try omega
   apply Z
   refine zk [6] ?_
   refine zr0 fun _ _ Z=>?_
   simp[hno,og_get hno,List.set_set]
   and_intros<;>try omega
   apply Z
   apply awp_ret
   simp [endQ, ncel]
theorem dClsN_fn (m : Nat) (id c : Int) (s : ByteArray) (σ : List (List D)) (hown : Ct Tryz.prog 123 [.ref m 0, D.int id, D.int 2, D.str s] σ (fun r σ' => r = .tup [.v (.pointer none), D.int c] ∧ σ' = σ)) (hc : ¬ c = 0) : Ct Tryz.prog 96 [.ref m 0, D.int id, D.str s] σ (fun r σ' => r = .int c ∧ σ' = σ) := by
 refine zf (rs:=[.tmp 6]) Tryz.func96 Tryz.ntmps96 Tryz.results96 ?_
 simp only [argEnv]
 refine zr0 fun _ _ Z=>?_
 simp
 and_intros<;>try omega
 apply Z
 refine zr0 fun _ _ Z=>?_
 refine vcL_split 3 fun _ Y=>?_
 simp
 and_intros<;>try omega
 apply Y
 simp only [List.drop]
 refine vcL_step fun _ Y=>?_
 simp
 refine zce (hown) ?_
 apply Y
 simp
 and_intros<;>try omega
 apply Z
 apply awp_seq
 apply awp_block
 refine zr0 fun _ _ Z=>?_
 simp
 and_intros<;>try omega
 apply Z
 refine zi ?_
 refine ⟨fun c1=>?_,fun c1=>?_⟩
 ·try simp at c1
  refine zk [2,6,7,8] ?_
  refine zr0 fun _ _ Z=>?_
  simp
  and_intros<;>try omega
  apply Z
  apply awp_ret
  apply q_block_r
  apply q_then_r
  simp [endQ]
 ·try simp at c1
  exact absurd c1 hc
theorem dCls1_fn (m o : Nat) (id : Int) (n : ND) (s : ByteArray) (σ : List (List D)) (hown : Ct Tryz.prog 123 [.ref m 0, D.int id, D.int 2, D.str s] σ (fun r σ' => r = .tup [.ref o 0, D.int 0] ∧ σ' = σ)) (hno : σ[o]? = some (ncel n)) (hl : n.classes.length ≤ 1000) (hbad : has s n.classes = false) : Ct Tryz.prog 96 [.ref m 0, D.int id, D.str s] σ (fun r σ' => r = .int 1 ∧ σ' = σ) := by
 refine zf (rs:=[.tmp 6]) Tryz.func96 Tryz.ntmps96 Tryz.results96 ?_
 simp only [argEnv]
 refine zr0 fun _ _ Z=>?_
 simp[hno,og_get hno,List.set_set]
 and_intros<;>try omega
 apply Z
 refine zr0 fun _ _ Z=>?_
 refine vcL_split 3 fun _ Y=>?_
 simp[hno,og_get hno,List.set_set]
 and_intros<;>try omega
 apply Y
 simp only [List.drop]
 refine vcL_step fun _ Y=>?_
 simp[hno,og_get hno,List.set_set]
 refine zce (hown) ?_
 apply Y
 simp[hno,og_get hno,List.set_set]
 and_intros<;>try omega
 apply Z
 apply awp_seq
 apply awp_block
 refine zr0 fun _ _ Z=>?_
 simp[hno,og_get hno,List.set_set]
 and_intros<;>try omega
 apply Z
 refine zi ?_
 refine ⟨fun c1=>?_,fun c1=>?_⟩
 ·simp at c1
 ·try simp at c1
  refine zk [2,6,7] ?_
  refine zr0 fun _ _ Z=>?_
  refine vcL_split 5 fun _ Y=>?_
  simp[hno,og_get hno,List.set_set]
  and_intros<;>try omega
  apply Y
  simp only [List.drop]
  refine vcL_step fun _ Y=>?_
  simp[hno,og_get hno,List.set_set]
  refine zce (chas_fn n.classes s _ (by omega)) ?_
  apply Y
  simp[hno,og_get hno,List.set_set]
  and_intros<;>try omega
  apply Z
  refine zi ?_
  refine ⟨fun c2=>?_,fun c2=>?_⟩
  ·try simp at c2
   refine zr0 fun _ _ Z=>?_
   simp[hno,og_get hno,List.set_set]
   and_intros<;>try omega
   apply Z
   apply awp_ret
   apply q_block_r
   apply q_then_r
   simp [endQ]
  ·try simp at c2
   rw [hbad] at c2; cases c2
theorem dCls0_fn (m o : Nat) (id : Int) (n : ND) (s : ByteArray) (σ : List (List D)) (hown : Ct Tryz.prog 123 [.ref m 0, D.int id, D.int 2, D.str s] σ (fun r σ' => r = .tup [.ref o 0, D.int 0] ∧ σ' = σ)) (hno : σ[o]? = some (ncel n)) (hl : n.classes.length ≤ 1000) (hgood : has s n.classes = true) : Ct Tryz.prog 96 [.ref m 0, D.int id, D.str s] σ (fun r σ' => r = D.int 0 ∧ σ' = σ.set o (ncel { n with classes := dropL n.classes s })) := by
 refine zf (rs:=[.tmp 6]) Tryz.func96 Tryz.ntmps96 Tryz.results96 ?_
 simp only [argEnv]
 refine zr0 fun _ _ Z=>?_
 simp[hno,og_get hno,List.set_set]
 and_intros<;>try omega
 apply Z
 refine zr0 fun _ _ Z=>?_
 refine vcL_split 3 fun _ Y=>?_
 simp[hno,og_get hno,List.set_set]
 and_intros<;>try omega
 apply Y
 simp only [List.drop]
 refine vcL_step fun _ Y=>?_
 simp[hno,og_get hno,List.set_set]
 refine zce (hown) ?_
 apply Y
 simp[hno,og_get hno,List.set_set]
 and_intros<;>try omega
 apply Z
 apply awp_seq
 apply awp_block
 refine zr0 fun _ _ Z=>?_
 simp[hno,og_get hno,List.set_set]
 and_intros<;>try omega
 apply Z
 refine zi ?_
 refine ⟨fun c1=>?_,fun c1=>?_⟩
 ·simp at c1
 ·try simp at c1
  refine zk [2,6,7] ?_
  refine zr0 fun _ _ Z=>?_
  refine vcL_split 5 fun _ Y=>?_
  simp[hno,og_get hno,List.set_set]
  and_intros<;>try omega
  apply Y
  simp only [List.drop]
  refine vcL_step fun _ Y=>?_
  simp[hno,og_get hno,List.set_set]
  refine zce (chas_fn n.classes s _ (by omega)) ?_
  apply Y
  simp[hno,og_get hno,List.set_set]
  and_intros<;>try omega
  apply Z
  refine zi ?_
  refine ⟨fun c2=>?_,fun c2=>?_⟩
  ·try simp at c2
   rw [hgood] at c2; cases c2
  ·try simp at c2
   apply awp_skip
   apply q_block_n
   apply q_then_n
   refine zr0 fun _ _ Z=>?_
   refine vcL_split 6 fun _ Y=>?_
   simp[hno,og_get hno,List.set_set]
   and_intros<;>try omega
   apply Y
   simp only [List.drop]
   refine vcL_step fun _ Y=>?_
   simp[hno,og_get hno,List.set_set]
   refine zce (cdrop_fn n.classes s _ (by omega)) ?_
   apply Y
   simp[hno,og_get hno,List.set_set]
   and_intros<;>try omega
   apply Z
   refine zk [6] ?_
   refine zr0 fun _ _ Z=>?_
   simp[hno,og_get hno,List.set_set]
   and_intros<;>try omega
   apply Z
   apply awp_ret
   simp [endQ, ncel]
end Go.Proofs.YtpfmpeaekgdgnaaGreat


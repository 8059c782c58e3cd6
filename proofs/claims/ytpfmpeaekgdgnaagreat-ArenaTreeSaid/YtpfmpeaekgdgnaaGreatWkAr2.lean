import Derived.Test.YtpfmpeaekgdgnaaGreatWkAr1
import Derived.Test.YtpfmpeaekgdgnaaGreatVmX6
namespace Go.Proofs.YtpfmpeaekgdgnaaGreat
open Go Go.Vm
set_option maxRecDepth 20000
set_option linter.all false
set_option maxHeartbeats 8000000
abbrev Ls := List ByteArray
@[simp] abbrev dl (l : Ls) : D := .sl false (l.map D.str)
@[simp] abbrev dlo (l : Ls) : D := .sl true (l.map D.str)
def has (c : ByteArray) (l : Ls) : Bool := l.any fun x => decide (x = c)
theorem has_snoc (c x : ByteArray) (l : Ls) : has c (l ++ [x]) = (has c l || decide (x = c)) := by simp [has]
theorem has_of_get {c : ByteArray} {l : Ls} {k : Nat} (h : k < l.length) (e : l[k] = c) : has c l = true := by
 simp only [has, List.any_eq_true, decide_eq_true_eq]
 exact ⟨l[k], List.getElem_mem h, e⟩
def addL (l : Ls) (c : ByteArray) : Ls := if has c l then l else l ++ [c]
def idxL (c : ByteArray) (l : Ls) : Int := match l.findIdx? (fun x => decide (x = c)) with | some k => k | none => -1
theorem idxL_at {c : ByteArray} {l : Ls} {k : Nat} (h : k < l.length) (hh : has c (l.take k) = false) (e : c = l[k]) : idxL c l = k := by
 have : l.findIdx? (fun x => decide (x = c)) = some k := by
  rw [List.findIdx?_eq_some_iff_getElem]
  refine ⟨h, by simp [e], fun j hj => ?_⟩
  simp only [has, List.any_eq_false, decide_eq_true_eq] at hh
  have := hh ((l.take k)[j]'(by simp; omega)) (List.getElem_mem _)
  simpa using this
 simp [idxL, this]
theorem idxL_none {c : ByteArray} {l : Ls} (h : has c l = false) : idxL c l = -1 := by
 have : l.findIdx? (fun x => decide (x = c)) = none := by
  rw [List.findIdx?_eq_none_iff]
  simpa [has] using h
 simp [idxL, this]
theorem idxL_has (c : ByteArray) (l : Ls) : (0 ≤ idxL c l) ↔ has c l = true := by
 unfold idxL
 split
 ·rename_i k h
  rw [List.findIdx?_eq_some_iff_getElem] at h
  obtain ⟨hk, he, _⟩ := h
  simp only [decide_eq_true_eq] at he
  simp [has_of_get hk he]
 ·rename_i h
  rw [List.findIdx?_eq_none_iff] at h
  simp [has]
  intro e; have := h c e; simp at this
def dropL (l : Ls) (c : ByteArray) : Ls := l.filter fun x => !decide (x = c)
theorem dropL_snoc (l : Ls) (x c : ByteArray) : dropL (l ++ [x]) c = dropL l c ++ if x = c then [] else [x] := by
 simp [dropL, List.filter_append, List.filter_cons]
theorem dropL_take (l : Ls) (c : ByteArray) (k : Nat) (h : k < l.length) : dropL (l.take (k + 1)) c = dropL (l.take k) c ++ if l[k] = c then [] else [l[k]] := by rw [take_snoc l k h, dropL_snoc]
theorem dropL_len (l : Ls) (c : ByteArray) : (dropL l c).length ≤ l.length := List.length_filter_le _ _
theorem rhas_fn (l : Ls) (c : ByteArray) (σ : List (List D)) (hl : l.length ≤ 9223372036854775807) : Ct Tryz.prog 102 [dl l, D.str c] σ (fun r σ' => r = .bool (has c l) ∧ σ' = σ) := by
 refine zf (rs:=[.tmp 4]) Tryz.func102 Tryz.ntmps102 Tryz.results102 ?_
 simp only [argEnv]
 refine zr0 fun _ _ Z=>?_
 simp (disch:=omega)
 and_intros<;>try omega
 apply Z
 apply awp_seq
 refine zr0 fun _ _ Z=>?_
 simp (disch:=omega)
 and_intros<;>try omega
 apply Z
 apply awp_block
 refine zk [1,4,7,8,9] ?_
 refine awp_loopE (fun (k : Nat) => [(9, .d (.int k))]) [4, 6, 9, 10, 11, 12, 13, 14, 15, 16] (fun (k : Nat) => k ≤ l.length ∧ has c (l.take k) = false) (fun (k : Nat) => l.length - k) (0) (by simp <;> rfl) ?_ ?_ ?_
 ·simp
 ·simp [has]
 rintro k ⟨hk, hh⟩
 simp only [List.cons_append, List.nil_append]
 refine zr0 fun _ _ Z=>?_
 simp (disch:=omega)
 and_intros<;>try omega
 apply Z
 apply awp_seq
 refine zi ?_
 refine ⟨fun c1=>?_,fun c1=>?_⟩
 ·try simp at c1
  apply awp_skip
  apply q_then_n
  apply awp_seq
  apply awp_block
  refine zr0 fun _ _ Z=>?_
  simp (disch:=omega)
  and_intros<;>try omega
  apply Z
  refine zr0 fun _ _ Z=>?_
  simp (disch:=omega)
  and_intros<;>try omega
  apply Z
  refine zi ?_
  refine ⟨fun c2=>?_,fun c2=>?_⟩
  ·try simp at c2
   refine zr0 fun _ _ Z=>?_
   simp (disch:=omega)
   and_intros<;>try omega
   apply Z
   apply awp_ret
   apply q_block_r
   apply q_then_r
   apply q_loop_r
   apply q_block_r
   apply q_then_r
   simp [endQ]
   exact has_of_get c1 c2
  ·try simp at c2
   apply awp_skip
   apply q_block_n
   apply q_then_n
   refine zt0 fun _ _ Z=>?_
   simp (disch:=omega)
   and_intros<;>try omega
   apply Z
   refine q_round (k + 1) ?_ ?_ (weak_mkA rfl ?_ (by simp) (by simp))
   ·exact ⟨by omega, by rw [take_snoc l k (by omega), has_snoc, hh]; simp [*]⟩
   ·try dsimp only
    omega
   ·simp (disch:=omega)
 ·try simp at c1
  apply awp_exit
  apply q_then_e
  apply q_loop_e
  apply q_block_e
  apply q_then_n
  refine zr0 fun _ _ Z=>?_
  simp (disch:=omega)
  and_intros<;>try omega
  apply Z
  apply awp_ret
  simp [endQ]
  rw [List.take_of_length_le (by omega)] at hh; exact hh
theorem rdrop_fn (l : Ls) (c : ByteArray) (σ : List (List D)) (hl : l.length ≤ 1000000) : Ct Tryz.prog 103 [dl l, D.str c] σ (fun r σ' => r = dlo (dropL l c) ∧ σ' = σ) := by
 refine zf (rs:=[.tmp 4]) Tryz.func103 Tryz.ntmps103 Tryz.results103 ?_
 simp only [argEnv]
 refine zr ⟨[4,5,18,23],[],[],[],[]⟩ fun _ _ Z=>?_
 simp (disch:=omega)
 and_intros<;>try omega
 apply Z
 refine zr ⟨[4,5,18,23],[],[],[],[]⟩ fun _ _ Z=>?_
 simp (disch:=omega)
 and_intros<;>try omega
 apply Z
 apply awp_seq
 refine zr ⟨[4,5,18,23],[],[],[],[]⟩ fun _ _ Z=>?_
 simp (disch:=omega)
 and_intros<;>try omega
 apply Z
 apply awp_block
 refine zk [1,4,5,9,10,11] ?_
 refine awp_loopE (fun (k : Nat) => [(11, .d (.int k)), (5, .d (dlo (dropL (l.take k) c)))]) [5, 7, 11, 12, 13, 14, 15, 16, 17, 18, 19, 20, 21, 22] (fun (k : Nat) => k ≤ l.length) (fun (k : Nat) => l.length - k) (0) (by simp <;> rfl) ?_ ?_ ?_
 ·simp [dropL]
 ·simp
 rintro k hk
 simp only [List.cons_append, List.nil_append]
 have hcl := dropL_len (l.take k) c
 simp only [List.length_take] at hcl
 refine zr ⟨[4,5,18,23],[],[],[],[]⟩ fun _ _ Z=>?_
 simp (disch:=omega)
 and_intros<;>try omega
 apply Z
 apply awp_seq
 refine zi ?_
 refine ⟨fun c1=>?_,fun c1=>?_⟩
 ·try simp at c1
  apply awp_skip
  apply q_then_n
  apply awp_seq
  apply awp_block
  refine zr ⟨[4,5,18,23],[],[],[],[]⟩ fun _ _ Z=>?_
  simp (disch:=omega)
  and_intros<;>try omega
  apply Z
  refine zr ⟨[4,5,18,23],[],[],[],[]⟩ fun _ _ Z=>?_
  simp (disch:=omega)
  and_intros<;>try omega
  apply Z
  refine zi ?_
  refine ⟨fun c2=>?_,fun c2=>?_⟩
  ·try simp at c2
   refine zk [1,4,5,7,9,10,11] ?_
   refine zt ⟨[4,5,18,23],[],[],[],[]⟩ fun _ _ Z=>?_
   simp (disch:=omega)
   and_intros<;>try omega
   apply Z
   apply q_block_n
   apply q_then_n
   refine zk [1,4,5,9,10,11] ?_
   refine zt ⟨[4,5,18,23],[],[],[],[]⟩ fun _ _ Z=>?_
   simp (disch:=omega)
   and_intros<;>try omega
   apply Z
   refine q_round (k + 1) ?_ ?_ (weak_mkA rfl ?_ (by simp) (by simp))
   ·omega
   ·try dsimp only
    omega
   ·simp (disch:=omega)[dropL_take,c2]
  ·try simp at c2
   apply awp_skip
   apply q_block_n
   apply q_then_n
   refine zk [1,4,5,9,10,11] ?_
   refine zt ⟨[4,5,18,23],[],[],[],[]⟩ fun _ _ Z=>?_
   simp (disch:=omega)
   and_intros<;>try omega
   apply Z
   refine q_round (k + 1) ?_ ?_ (weak_mkA rfl ?_ (by simp) (by simp))
   ·omega
   ·try dsimp only
    omega
   ·simp (disch:=omega)[dropL_take,c2]
 ·try simp at c1
  apply awp_exit
  apply q_then_e
  apply q_loop_e
  apply q_block_e
  apply q_then_n
  refine zr ⟨[4,5,18,23],[],[],[],[]⟩ fun _ _ Z=>?_
  simp (disch:=omega)
  and_intros<;>try omega
  apply Z
  apply awp_ret
  simp [endQ]
  rw [List.take_of_length_le (by omega)]
theorem index_fn (l : Ls) (c : ByteArray) (σ : List (List D)) (hl : l.length ≤ 9223372036854775807) : Ct Tryz.prog 163 [dl l, D.str c] σ (fun r σ' => r = .int (idxL c l) ∧ σ' = σ) := by
 refine zf (rs:=[.tmp 4]) Tryz.func163 Tryz.ntmps163 Tryz.results163 ?_
 simp only [argEnv]
 refine zr0 fun _ _ Z=>?_
 simp (disch:=omega)
 and_intros<;>try omega
 apply Z
 apply awp_seq
 refine zr0 fun _ _ Z=>?_
 simp (disch:=omega)
 and_intros<;>try omega
 apply Z
 apply awp_block
 refine zk [0,1,4,7,8] ?_
 refine awp_loopE (fun (k : Nat) => [(8, .d (.int k))]) [4, 5, 8, 9, 10, 11, 12, 13, 14, 15, 16, 17, 18] (fun (k : Nat) => k ≤ l.length ∧ has c (l.take k) = false) (fun (k : Nat) => l.length - k) (0) (by simp <;> rfl) ?_ ?_ ?_
 ·simp
 ·simp [has]
 rintro k ⟨hk, hh⟩
 simp only [List.cons_append, List.nil_append]
 refine zr0 fun _ _ Z=>?_
 simp (disch:=omega)
 and_intros<;>try omega
 apply Z
 apply awp_seq
 refine zi ?_
 refine ⟨fun c1=>?_,fun c1=>?_⟩
 ·try simp at c1
  apply awp_skip
  apply q_then_n
  apply awp_seq
  apply awp_block
  refine zr0 fun _ _ Z=>?_
  simp (disch:=omega)
  and_intros<;>try omega
  apply Z
  refine zr0 fun _ _ Z=>?_
  simp (disch:=omega)
  and_intros<;>try omega
  apply Z
  refine zi ?_
  refine ⟨fun c2=>?_,fun c2=>?_⟩
  ·try simp at c2
   refine zk [0,1,5,7,8] ?_
   refine zr0 fun _ _ Z=>?_
   simp (disch:=omega)
   and_intros<;>try omega
   apply Z
   apply awp_ret
   apply q_block_r
   apply q_then_r
   apply q_loop_r
   apply q_block_r
   apply q_then_r
   simp [endQ]
   exact (idxL_at c1 hh c2).symm
  ·try simp at c2
   apply awp_skip
   apply q_block_n
   apply q_then_n
   refine zk [0,1,7,8] ?_
   refine zt0 fun _ _ Z=>?_
   simp (disch:=omega)
   and_intros<;>try omega
   apply Z
   refine q_round (k + 1) ?_ ?_ (weak_mkA rfl ?_ (by simp) (by simp))
   ·exact ⟨by omega, by rw [take_snoc l k (by omega), has_snoc, hh]; simp; exact fun e => c2 e.symm⟩
   ·try dsimp only
    omega
   ·simp (disch:=omega)
 ·try simp at c1
  apply awp_exit
  apply q_then_e
  apply q_loop_e
  apply q_block_e
  apply q_then_n
  refine zr0 fun _ _ Z=>?_
  simp (disch:=omega)
  and_intros<;>try omega
  apply Z
  apply awp_ret
  simp [endQ]
  rw [List.take_of_length_le (by omega)] at hh; exact (idxL_none hh).symm
theorem contains_fn (l : Ls) (c : ByteArray) (σ : List (List D)) (hl : l.length ≤ 9223372036854775807) : Ct Tryz.prog 147 [dl l, D.str c] σ (fun r σ' => r = .bool (has c l) ∧ σ' = σ) := by
 refine zf (rs:=[.tmp 4]) Tryz.func147 Tryz.ntmps147 Tryz.results147 ?_
 simp only [argEnv]
 refine zr0 fun _ _ Z=>?_
 simp
 and_intros<;>try omega
 apply Z
 refine zr0 fun _ _ Z=>?_
 refine vcL_split 2 fun _ Y=>?_
 simp
 and_intros<;>try omega
 apply Y
 simp only [List.drop]
 refine vcL_step fun _ Y=>?_
 simp
 refine zce (index_fn _ _ _ hl) ?_
 apply Y
 simp
 and_intros<;>try omega
 apply Z
 apply awp_ret
 simp [endQ, idxL_has]
theorem chas_fn (l : Ls) (c : ByteArray) (σ : List (List D)) (hl : l.length ≤ 9223372036854775807) : Ct Tryz.prog 131 [dl l, D.str c] σ (fun r σ' => r = .bool (has c l) ∧ σ' = σ) := by
 refine zf (rs:=[.tmp 4]) Tryz.func131 Tryz.ntmps131 Tryz.results131 ?_
 simp only [argEnv]
 refine zr0 fun _ _ Z=>?_
 simp
 and_intros<;>try omega
 apply Z
 refine zr0 fun _ _ Z=>?_
 refine vcL_split 2 fun _ Y=>?_
 simp
 and_intros<;>try omega
 apply Y
 simp only [List.drop]
 refine vcL_step fun _ Y=>?_
 simp
 refine zce (contains_fn _ _ _ hl) ?_
 apply Y
 simp
 and_intros<;>try omega
 apply Z
 apply awp_ret
 simp[endQ]
theorem clone_fn (l : Ls) (σ : List (List D)) (hl : l.length ≤ 1000000) : Ct Tryz.prog 106 [dl l] σ (fun r σ' => r = dlo l ∧ σ' = σ) := by
 refine zf (rs:=[.tmp 2]) Tryz.func106 Tryz.ntmps106 Tryz.results106 ?_
 simp only [argEnv]
 refine zr ⟨[2],[],[],[],[]⟩ fun _ _ Z=>?_
 simp
 and_intros<;>try omega
 apply Z
 apply awp_seq
 refine zr ⟨[2],[],[],[],[]⟩ fun _ _ Z=>?_
 refine vcL_split 1 fun _ Y=>?_
 simp
 and_intros<;>try omega
 apply Y
 simp only [List.drop]
 refine vcL_step fun _ Y=>?_
 simp
 refine ⟨Y _ ?_, fun e1 => Y _ ?_⟩
 ·skip
  simp only [vcL_nil]
  apply Z
  refine awp_cond (t := false) (by simp) (fun h => by cases h) (fun _ => ?_)
  apply awp_skip
  apply q_then_n
  refine zr ⟨[2],[],[],[],[]⟩ fun _ _ Z=>?_
  simp
  and_intros<;>try omega
  apply Z
  apply awp_ret
  simp [endQ]
 ·skip
  simp only [vcL_nil]
  apply Z
  refine awp_cond (t := true) (by simp) (fun _ => ?_) (fun h => by cases h)
  refine zr ⟨[2],[],[],[],[]⟩ fun _ _ Z=>?_
  simp
  and_intros<;>try omega
  apply Z
  apply awp_ret
  apply q_then_r
  simp [endQ, e1]
theorem add_fn (l : Ls) (c : ByteArray) (σ : List (List D)) (hl : l.length ≤ 1000000) : Ct Tryz.prog 132 [dl l, D.str c] σ (fun r σ' => r = dlo (addL l c) ∧ σ' = σ) := by
 refine zf (rs:=[.tmp 4]) Tryz.func132 Tryz.ntmps132 Tryz.results132 ?_
 simp only [argEnv]
 refine zr ⟨[4,5,12,16],[],[],[],[]⟩ fun _ _ Z=>?_
 simp
 and_intros<;>try omega
 apply Z
 refine zr ⟨[4,5,12,16],[],[],[],[]⟩ fun _ _ Z=>?_
 refine vcL_split 1 fun _ Y=>?_
 simp
 and_intros<;>try omega
 apply Y
 simp only [List.drop]
 refine vcL_step fun _ Y=>?_
 simp
 refine zce (clone_fn _ _ hl) ?_
 apply Y
 simp
 and_intros<;>try omega
 apply Z
 apply awp_seq
 refine zr ⟨[4,5,12,16],[],[],[],[]⟩ fun _ _ Z=>?_
 refine vcL_split 2 fun _ Y=>?_
 simp
 and_intros<;>try omega
 apply Y
 simp only [List.drop]
 refine vcL_step fun _ Y=>?_
 simp
 refine zce (chas_fn l _ _ (by omega)) ?_
 apply Y
 simp
 and_intros<;>try omega
 apply Z
 refine zi ?_
 refine ⟨fun c1=>?_,fun c1=>?_⟩
 ·try simp at c1
  refine zt ⟨[4,5,12,16],[],[],[],[]⟩ fun _ _ Z=>?_
  simp
  and_intros<;>try omega
  apply Z
  apply q_then_n
  refine zk [4,5] ?_
  refine zr ⟨[4,5,12,16],[],[],[],[]⟩ fun _ _ Z=>?_
  simp
  and_intros<;>try omega
  apply Z
  apply awp_ret
  simp [endQ, addL, c1]
 ·try simp at c1
  apply awp_skip
  apply q_then_n
  refine zr ⟨[4,5,12,16],[],[],[],[]⟩ fun _ _ Z=>?_
  simp
  and_intros<;>try omega
  apply Z
  apply awp_ret
  simp [endQ, addL, c1]
theorem indexFuncO_fn (l : Ls) (p : ByteArray → Bool) (f : FuncId) (caps : List D) (m cap : Nat) (rest : List D) (σ : List (List D)) (hl : l.length ≤ 9223372036854775807) (hσ : σ[m]? = some (l.map D.str ++ rest)) (hcp : ∀ d ∈ caps, d.plain = true) (hcs : caps.map D.strip = caps) (hp : ∀ x τ, Ct Tryz.prog f (D.str x :: caps) τ (fun r τ' => r = .bool (p x) ∧ τ' = τ)) : Ct Tryz.prog 170 [.slo m 0 l.length cap, .clo (.func f) [] caps] σ (fun r σ' => r = .int (idxP p l) ∧ σ' = σ) := by
 refine zf (rs:=[.tmp 4]) Tryz.func170 Tryz.ntmps170 Tryz.results170 ?_
 simp only [argEnv]
 refine zr ⟨[],[],[],[7,14],[]⟩ fun _ _ Z=>?_
 simp (disch:=omega)[hσ,hcs,row_get]
 and_intros<;>try omega
 apply Z
 apply awp_seq
 refine zr ⟨[],[],[],[7,14],[]⟩ fun _ _ Z=>?_
 simp (disch:=omega)[hσ,hcs,row_get]
 and_intros<;>try omega
 apply Z
 apply awp_block
 refine zk [0,1,4,7,8] ?_
 refine awp_loopE (fun (k : Nat) => [(8, .d (.v (.int .i64 (k : Int))))]) [4, 5, 8, 9, 10, 11, 12, 13, 14, 15, 16, 17, 18] (fun (k : Nat) => k ≤ l.length ∧ ∀ x ∈ l.take k, p x = false) (fun (k : Nat) => l.length - k) (0) (by simp <;> rfl) ?_ ?_ ?_
 ·simp
 ·simp
 rintro k ⟨hk, hh⟩
 simp only [List.cons_append, List.nil_append]
 refine zr ⟨[],[],[],[7,14],[]⟩ fun _ _ Z=>?_
 simp (disch:=omega)[hσ,hcs,row_get]
 and_intros<;>try omega
 apply Z
 apply awp_seq
 refine zi ?_
 refine ⟨fun c1=>?_,fun c1=>?_⟩
 ·try simp at c1
  apply awp_skip
  apply q_then_n
  apply awp_seq
  apply awp_block
  refine zr ⟨[],[],[],[7,14],[]⟩ fun _ _ Z=>?_
  simp (disch:=omega)[hσ,hcs,row_get]
  and_intros<;>try omega
  apply Z
  refine zr ⟨[],[],[],[7,14],[]⟩ fun _ _ Z=>?_
  refine vcL_split 5 fun _ Y=>?_
  simp (disch:=omega)[hσ,hcs,row_get]
  and_intros<;>try omega
  apply Y
  simp only [List.drop]
  refine vcL_step fun _ Y=>?_
  simp (disch:=omega)[hσ,hcs,row_get]
  refine ⟨hcp, ?_⟩
  refine zce (hp l[k] _) ?_
  apply Y
  simp only [vcL_nil]
  apply Z
  refine zi ?_
  refine ⟨fun c2=>?_,fun c2=>?_⟩
  ·try simp at c2
   refine zk [0,1,5,7,8] ?_
   refine zr ⟨[],[],[],[7,14],[]⟩ fun _ _ Z=>?_
   simp (disch:=omega)[hσ,hcs,row_get]
   and_intros<;>try omega
   apply Z
   apply awp_ret
   apply q_block_r
   apply q_then_r
   apply q_loop_r
   apply q_block_r
   apply q_then_r
   simp [endQ]
   exact (idxP_at c1 hh c2).symm
  ·try simp at c2
   apply awp_skip
   apply q_block_n
   apply q_then_n
   refine zk [0,1,7,8] ?_
   refine zt ⟨[],[],[],[7,14],[]⟩ fun _ _ Z=>?_
   simp (disch:=omega)[hσ,hcs,row_get]
   and_intros<;>try omega
   apply Z
   refine q_round (k + 1) ?_ ?_ (weak_mkA rfl ?_ (by simp) (by simp))
   ·exact ⟨by omega, all_take (by omega) hh c2⟩
   ·try dsimp only
    omega
   ·simp (disch:=omega)[hσ,hcs,row_get]
 ·try simp at c1
  apply awp_exit
  apply q_then_e
  apply q_loop_e
  apply q_block_e
  apply q_then_n
  refine zr ⟨[],[],[],[7,14],[]⟩ fun _ _ Z=>?_
  simp (disch:=omega)[hσ,hcs,row_get]
  and_intros<;>try omega
  apply Z
  apply awp_ret
  simp [endQ]
  rw [List.take_of_length_le (by omega)] at hh; exact (idxP_none hh).symm
theorem indexFunc0_fn (f : FuncId) (caps : List D) (σ : List (List D)) (hcp : ∀ d ∈ caps, d.plain = true) : Ct Tryz.prog 170 [.xl 0, .clo (.func f) [] caps] σ (fun r σ' => r = .int (-1) ∧ σ' = σ) := by
 refine zf (rs:=[.tmp 4]) Tryz.func170 Tryz.ntmps170 Tryz.results170 ?_
 simp only [argEnv]
 refine zr ⟨[],[],[],[7],[]⟩ fun _ _ Z=>?_
 simp
 and_intros<;>try omega
 apply Z
 apply awp_seq
 refine zr ⟨[],[],[],[7],[]⟩ fun _ _ Z=>?_
 simp
 and_intros<;>try omega
 apply Z
 apply awp_block
 refine zk [0,1,4,7,8] ?_
 refine awp_loopE (fun (k : Nat) => [(8, .d (.int 0))]) [4, 5, 8, 9, 10, 11, 12, 13, 14, 15, 16, 17, 18] (fun (k : Nat) => k = 0) (fun (k : Nat) => 0) (0) (by simp <;> rfl) ?_ ?_ ?_
 ·simp
 ·rfl
 rintro k hk
 simp only [List.cons_append, List.nil_append]
 refine zr ⟨[],[],[],[7],[]⟩ fun _ _ Z=>?_
 simp
 and_intros<;>try omega
 apply Z
 apply awp_seq
 refine zi ?_
 refine ⟨fun c1=>?_,fun c1=>?_⟩
 ·simp at c1
 ·try simp at c1
  apply awp_exit
  apply q_then_e
  apply q_loop_e
  apply q_block_e
  apply q_then_n
  refine zr ⟨[],[],[],[7],[]⟩ fun _ _ Z=>?_
  simp
  and_intros<;>try omega
  apply Z
  apply awp_ret
  simp [endQ]
theorem clear_take0 (p : ByteArray → Bool) (l k : Ls) (rest : List D) : List.take k.length ((k ++ l).map D.str ++ rest) = k.map D.str := by
 rw [List.map_append, List.append_assoc, List.take_append_of_le_length (by simp)]
 rw [List.take_of_length_le (by simp)]
theorem deleteFunc1_fn (l : Ls) (p : ByteArray → Bool) (f : FuncId) (caps : List D) (σ : List (List D)) (hl : l.length ≤ 1000000) (hne : l ≠ []) (hcp : ∀ d ∈ caps, d.plain = true) (hcs : caps.map D.strip = caps) (hp : ∀ x τ, Ct Tryz.prog f (D.str x :: caps) τ (fun r τ' => r = .bool (p x) ∧ τ' = τ)) : Ct Tryz.prog 164 [.xs 1 (l.map D.str), .clo (.func f) [] caps] σ (fun r σ' => r = .xs 1 ((l.filter fun x => !p x).map D.str) ∧ σ' = σ ++ [[]]) := by
 refine zf (rs:=[.tmp 4]) Tryz.func164 Tryz.ntmps164 Tryz.results164 ?_
 simp only [argEnv]
 refine awp_openX 0 1 rfl (by decide) fun cap rest hcap hcm hrest hk0 hes => ?_
 simp only [List.length_map] at hcap hrest ⊢
 rw [flat_one (f := D.str) (fun _ => rfl)]
 refine zr ⟨[4,13],[],[],[18,24,33,38,41],[]⟩ fun _ _ Z=>?_
 simp (disch:=first|omega|assumption)[hcs,row_get,row_set]
 and_intros<;>try first|omega|exact rfl
 apply Z
 refine zr ⟨[4,13],[],[],[18,24,33,38,41],[]⟩ fun _ _ Z=>?_
 refine vcL_split 2 fun _ Y=>?_
 simp (disch:=first|omega|assumption)[hcs,row_get,row_set]
 and_intros<;>try first|omega|exact rfl
 apply Y
 simp only [List.drop]
 refine vcL_step fun _ Y=>?_
 simp (disch:=first|omega|assumption)[hcs,row_get,row_set]
 refine zce (indexFuncO_fn l p f caps σ.length cap rest _ (by omega) (by simp) hcp hcs hp) ?_
 apply Y
 simp (disch:=first|omega|assumption)[hcs,row_get,row_set]
 and_intros<;>try first|omega|exact rfl
 apply Z
 apply awp_seq
 refine zr ⟨[4,13],[],[],[18,24,33,38,41],[]⟩ fun _ _ Z=>?_
 simp (disch:=first|omega|assumption)[hcs,row_get,row_set]
 and_intros<;>try first|omega|exact rfl
 apply Z
 refine zi ?_
 refine ⟨fun c1=>?_,fun c1=>?_⟩
 ·try simp at c1
  refine zr ⟨[4,13],[],[],[18,24,33,38,41],[]⟩ fun _ _ Z=>?_
  simp (disch:=first|omega|assumption)[hcs,row_get,row_set]
  and_intros<;>try first|omega|exact rfl
  apply Z
  refine awp_closeX 4 1 σ.length l.length cap (l.map D.str) (l.map D.str ++ rest) (by simp <;> rfl) (by simp) (by omega) (by simp [hrest]; omega) (by simp) (by simp) (by rw [flat_one (fun _ => rfl)]; exact List.prefix_append _ _) ?_
  simp only [set_last]
  apply awp_ret
  apply q_then_r
  simp [endQ]
  rcases idxP_cases p l with ⟨_, h⟩ | ⟨k, h, _⟩
  ·rw [h]
  ·omega
 ·try simp at c1
  obtain ⟨k0, e0, e1, e2, e3⟩ := idxP_pos c1
  rw [e0]
  apply awp_skip
  apply q_then_n
  apply awp_seq
  refine zr ⟨[4,13],[],[],[18,24,33,38,41],[]⟩ fun _ _ Z=>?_
  simp (disch:=first|omega|assumption)[hcs,row_get,row_set]
  and_intros<;>try first|omega|exact rfl
  apply Z
  apply awp_block
  refine zk [0,1,4,5,6] ?_
  refine awp_loopM (fun (j : Nat) => [(5, .d (.v (.int .i64 ((kp p l j).length : Int)))), (6, .d (.v (.int .i64 (j : Int))))]) (fun (j : Nat) => []) (fun (j : Nat) => [(σ.length, (ar p l j).map D.str ++ rest)]) [5, 6, 7, 16, 17, 18, 19, 20, 21, 22, 23, 24, 25, 26, 27, 28, 29, 30, 31, 32, 33, 34, 35] (fun (j : Nat) => j ≤ l.length) (fun (j : Nat) => l.length - j) (k0 + 1) (by simp <;> rfl) ?_ (by simp) (by simp [e1]) ?_ ?_
  ·simp [e1, e2]
  ·omega
  rintro j hj
  simp only [List.cons_append, List.nil_append, setL_nil, setL_cons, List.set_cons_zero, List.set_cons_succ]
  have hkl := kp_le p l j hj
  have hal := ar_len p l j
  apply awp_seq
  refine zr ⟨[4,13],[],[],[18,24,33,38,41],[]⟩ fun _ _ Z=>?_
  simp (disch:=first|omega|assumption)[hcs,row_get,row_set]
  and_intros<;>try first|omega|exact rfl
  apply Z
  refine zi ?_
  refine ⟨fun c2=>?_,fun c2=>?_⟩
  ·try simp at c2
   apply awp_skip
   apply q_then_n
   apply awp_seq
   apply awp_block
   refine zr ⟨[4,13],[],[],[18,24,33,38,41],[]⟩ fun _ _ Z=>?_
   simp (disch:=first|omega|assumption)[hcs,row_get,row_set]
   and_intros<;>try first|omega|exact rfl
   apply Z
   refine zk [0,1,4,5,6,7] ?_
   refine zr ⟨[4,13],[],[],[18,24,33,38,41],[]⟩ fun _ _ Z=>?_
   refine vcL_split 2 fun _ Y=>?_
   simp (disch:=first|omega|assumption)[hcs,row_get,row_set]
   and_intros<;>try first|omega|exact rfl
   apply Y
   simp only [List.drop]
   refine vcL_step fun _ Y=>?_
   simp (disch:=first|omega|assumption)[hcs,row_get,row_set]
   simp only [ar_at p l j (by omega)]
   refine ⟨hcp, ?_⟩
   refine zce (hp l[j] _) ?_
   apply Y
   simp (disch:=first|omega|assumption)[hcs,row_get,row_set]
   and_intros<;>try first|omega|exact rfl
   apply Z
   refine zi ?_
   refine ⟨fun c3=>?_,fun c3=>?_⟩
   ·try simp at c3
    refine zr ⟨[4,13],[],[],[18,24,33,38,41],[]⟩ fun _ _ Z=>?_
    simp (disch:=first|omega|assumption)[hcs,row_get,row_set]
    and_intros<;>try first|omega|exact rfl
    apply Z
    refine zk [0,1,4,5,6] ?_
    refine zt ⟨[4,13],[],[],[18,24,33,38,41],[]⟩ fun _ _ Z=>?_
    simp (disch:=first|omega|assumption)[hcs,row_get,row_set]
    and_intros<;>try first|omega|exact rfl
    apply Z
    apply q_block_n
    apply q_then_n
    refine zt ⟨[4,13],[],[],[18,24,33,38,41],[]⟩ fun _ _ Z=>?_
    simp (disch:=first|omega|assumption)[hcs,row_get,row_set]
    and_intros<;>try first|omega|exact rfl
    apply Z
    refine q_round (j + 1) ?_ ?_ (weak_mkA rfl ?_ (by simp) (by rw [← (ar_no p l j (by omega) c3).1]; simp (disch := omega) [row_set2, hal]))
    ·omega
    ·try dsimp only
     omega
    ·simp (disch:=first|omega|assumption)[hcs,row_get,row_set,(ar_no p l j (by omega) c3).2]
   ·try simp at c3
    apply awp_skip
    apply q_block_n
    apply q_then_n
    refine zt ⟨[4,13],[],[],[18,24,33,38,41],[]⟩ fun _ _ Z=>?_
    simp (disch:=first|omega|assumption)[hcs,row_get,row_set]
    and_intros<;>try first|omega|exact rfl
    apply Z
    refine q_round (j + 1) ?_ ?_ (weak_mkA rfl ?_ (by simp) (by simp [(ar_yes p l j (by omega) c3).1]))
    ·omega
    ·try dsimp only
     omega
    ·simp (disch:=first|omega|assumption)[hcs,row_get,row_set,(ar_yes p l j (by omega) c3).2]
  ·try simp at c2
   apply awp_exit
   apply q_then_e
   apply q_loop_e
   apply q_block_e
   apply q_then_n
   refine zr ⟨[4,13],[],[],[18,24,33,38,41],[]⟩ fun _ _ Z=>?_
   simp (disch:=first|omega|assumption)[hcs,row_get,row_set]
   and_intros<;>try first|omega|exact rfl
   apply Z
   refine zk [0,4,5] ?_
   refine zr ⟨[4,13],[],[],[18,24,33,38,41],[]⟩ fun _ _ Z=>?_
   simp (disch:=first|omega|assumption)[hcs,row_get,row_set]
   and_intros<;>try first|omega|exact rfl
   apply Z
   refine awp_closeX 4 1 σ.length (kp p l j).length cap ((kp p l j).map D.str) ((kp p l j).map D.str ++ (zerosD #[.string ⟨#[]⟩] (l.length - (kp p l j).length) ++ rest)) (by simp <;> rfl) (by rw [show List.map D.str (kp p l j) = List.take (kp p l j).length (List.map D.str (ar p l j) ++ rest) from (clear_take0 p _ _ rest).symm]; simp [zerosD_len (z := #[.string ⟨#[]⟩]) (k := 1) rfl, show (kp p l j).length + (l.length - (kp p l j).length) = l.length by omega, drop_row D.str (ar p l j) rest l.length hal.symm]) (by omega) (by simp [hrest, zerosD_len (z := #[.string ⟨#[]⟩]) (k := 1) rfl]; omega) (by simp) (by simp) (by rw [flat_one (fun _ => rfl)]; exact List.prefix_append _ _) ?_
   simp only [set_last]
   apply awp_ret
   simp [endQ]
   unfold kp; rw [List.take_of_length_le (by omega)]
theorem deleteFunc0_fn (f : FuncId) (caps : List D) (σ : List (List D)) (hcp : ∀ d ∈ caps, d.plain = true) : Ct Tryz.prog 164 [.xs 1 [], .clo (.func f) [] caps] σ (fun r σ' => r = .xs 1 [] ∧ σ' = σ) := by
 refine zf (rs:=[.tmp 4]) Tryz.func164 Tryz.ntmps164 Tryz.results164 ?_
 simp only [argEnv]
 refine zr ⟨[4,13],[],[],[],[]⟩ fun _ _ Z=>?_
 simp
 and_intros<;>try omega
 apply Z
 refine zr ⟨[4,13],[],[],[],[]⟩ fun _ _ Z=>?_
 refine vcL_split 2 fun _ Y=>?_
 simp
 and_intros<;>try omega
 apply Y
 simp only [List.drop]
 refine vcL_step fun _ Y=>?_
 simp
 refine zce (indexFunc0_fn f caps _ hcp) ?_
 apply Y
 simp
 and_intros<;>try omega
 apply Z
 apply awp_seq
 refine zr ⟨[4,13],[],[],[],[]⟩ fun _ _ Z=>?_
 simp
 and_intros<;>try omega
 apply Z
 refine zi ?_
 refine ⟨fun c1=>?_,fun c1=>?_⟩
 ·try simp at c1
  refine zr ⟨[4,13],[],[],[],[]⟩ fun _ _ Z=>?_
  simp
  and_intros<;>try omega
  apply Z
  apply awp_ret
  apply q_then_r
  simp[endQ]
 ·simp at c1
theorem sc_strs (N : Nat) (l : Ls) : Sc N (.xs 1 (l.map D.str)) := Sc.xs fun d hd e he => by
 obtain ⟨a, _, rfl⟩ := List.mem_map.1 hd
 simp [D.cells] at he
 subst he
 exact Sc.v _
theorem deleteFunc_fn (l : Ls) (p : ByteArray → Bool) (f : FuncId) (caps : List D) (σ : List (List D)) (hl : l.length ≤ 1000000) (hcp : ∀ d ∈ caps, d.plain = true) (hcs : caps.map D.strip = caps) (hp : ∀ x τ, Ct Tryz.prog f (D.str x :: caps) τ (fun r τ' => r = .bool (p x) ∧ τ' = τ)) :
  Ct Tryz.prog 164 [.xs 1 (l.map D.str), .clo (.func f) [] caps] σ (fun r σ' => r = .xs 1 ((l.filter fun x => !p x).map D.str) ∧ σ' = σ) := by
 by_cases hne : l = []
 ·subst hne; exact deleteFunc0_fn f caps σ hcp
 ·exact (deleteFunc1_fn l p f caps σ hl hne hcp hcs hp).trim fun r σ' ⟨hr, hs⟩ => ⟨σ, [[]], hs, rfl, by rw [hr]; exact sc_strs _ _, fun n cs h => .inl h, hr, rfl⟩
theorem cloneX0_fn (l : Ls) (σ : List (List D)) (hl : l.length ≤ 1000000) : Ct Tryz.prog 106 [dl l] σ (fun r σ' => baseX 1 (l.map D.str) r ∧ σ' = σ) := by
 refine zf (rs:=[.tmp 2]) Tryz.func106 Tryz.ntmps106 Tryz.results106 ?_
 simp only [argEnv]
 refine zr ⟨[2],[],[],[7],[]⟩ fun _ _ Z=>?_
 simp (disch:=first|omega|assumption)
 and_intros<;>try first|omega|exact rfl
 apply Z
 apply awp_seq
 refine zr ⟨[2],[],[],[7],[]⟩ fun _ _ Z=>?_
 refine vcL_split 1 fun _ Y=>?_
 simp (disch:=first|omega|assumption)
 and_intros<;>try first|omega|exact rfl
 apply Y
 simp only [List.drop]
 refine vcL_step fun _ Y=>?_
 simp (disch:=first|omega|assumption)
 refine ⟨Y _ ?_, fun e1 => Y _ ?_⟩
 ·skip
  simp only [vcL_nil]
  apply Z
  refine awp_cond (t := false) (by simp) (fun h => by cases h) (fun _ => ?_)
  apply awp_skip
  apply q_then_n
  refine zr ⟨[2],[],[],[7],[]⟩ fun _ _ Z=>?_
  simp (disch:=first|omega|assumption)
  and_intros<;>try first|omega|exact rfl
  apply Z
  apply awp_ret
  simp [endQ, baseX]
 ·skip
  simp only [vcL_nil]
  apply Z
  refine awp_cond (t := true) (by simp) (fun _ => ?_) (fun h => by cases h)
  refine zr ⟨[2],[],[],[7],[]⟩ fun _ _ Z=>?_
  simp (disch:=first|omega|assumption)
  and_intros<;>try first|omega|exact rfl
  apply Z
  apply awp_ret
  apply q_then_r
  simp [endQ, baseX, e1]
theorem cloneX_fn (l : Ls) (σ : List (List D)) (hl : l.length ≤ 1000000) : Ct Tryz.prog 106 [dl l] σ (fun r σ' => r = .xs 1 (l.map D.str) ∧ σ' = σ) := (cloneX0_fn l σ hl).toX fun _ _ h => h
theorem without_fn (l : Ls) (p : ByteArray → Bool) (f : FuncId) (caps : List D) (σ : List (List D)) (hl : l.length ≤ 1000000) (hcp : ∀ d ∈ caps, d.plain = true) (hcs : caps.map D.strip = caps) (hp : ∀ x τ, Ct Tryz.prog f (D.str x :: caps) τ (fun r τ' => r = .bool (p x) ∧ τ' = τ)) : Ct Tryz.prog 148 [dl l, .clo (.func f) [] caps] σ (fun r σ' => r = .xs 1 ((l.filter fun x => !p x).map D.str) ∧ σ' = σ) := by
 refine zf (rs:=[.tmp 4]) Tryz.func148 Tryz.ntmps148 Tryz.results148 ?_
 simp only [argEnv]
 refine zr ⟨[4,7,8],[],[],[],[]⟩ fun _ _ Z=>?_
 simp
 and_intros<;>try omega
 apply Z
 refine zr ⟨[4,7,8],[],[],[],[]⟩ fun _ _ Z=>?_
 refine vcL_split 1 fun _ Y=>?_
 simp
 and_intros<;>try omega
 apply Y
 simp only [List.drop]
 refine vcL_step fun _ Y=>?_
 simp
 refine zce (cloneX_fn l _ hl) ?_
 apply Y
 refine vcL_split 1 fun _ Y=>?_
 simp
 and_intros<;>try omega
 apply Y
 simp only [List.drop]
 refine vcL_step fun _ Y=>?_
 simp
 refine zce (deleteFunc_fn l p f caps _ hl hcp hcs hp) ?_
 apply Y
 simp
 and_intros<;>try omega
 apply Z
 apply awp_ret
 simp[endQ]
theorem drop1_fn (x c : ByteArray) (σ : List (List D))  : Ct Tryz.prog 149 [D.str x, .adr [D.str c]] σ (fun r σ' => r = .bool (decide (x = c)) ∧ σ' = σ) := by
 refine zf (rs:=[.tmp 3]) Tryz.func149 Tryz.ntmps149 Tryz.results149 ?_
 simp only [argEnv]
 refine zr0 fun _ _ Z=>?_
 simp
 and_intros<;>try omega
 apply Z
 refine zr0 fun _ _ Z=>?_
 simp
 and_intros<;>try omega
 apply Z
 apply awp_ret
 simp[endQ]
theorem cdropX_fn (l : Ls) (c : ByteArray) (σ : List (List D)) (hl : l.length ≤ 1000000) : Ct Tryz.prog 133 [dl l, D.str c] σ (fun r σ' => r = .xs 1 ((dropL l c).map D.str) ∧ σ' = σ) := by
 refine zf (rs:=[.tmp 4]) Tryz.func133 Tryz.ntmps133 Tryz.results133 ?_
 simp only [argEnv]
 refine zr ⟨[4],[3],[],[],[]⟩ fun _ _ Z=>?_
 simp
 and_intros<;>try omega
 apply Z
 refine zr ⟨[4],[3],[],[],[]⟩ fun _ _ Z=>?_
 refine vcL_split 2 fun _ Y=>?_
 simp
 and_intros<;>try omega
 apply Y
 simp only [List.drop]
 refine vcL_step fun _ Y=>?_
 simp
 refine zce (without_fn l (fun x => decide (x = c)) 149 [.adr [D.str c]] _ hl (by simp) (by simp) (fun x τ => drop1_fn x c τ)) ?_
 apply Y
 simp
 and_intros<;>try omega
 apply Z
 apply awp_ret
 simp [endQ, dropL]
theorem cdrop_fn (l : Ls) (c : ByteArray) (σ : List (List D)) (hl : l.length ≤ 1000000) : Ct Tryz.prog 133 [dl l, D.str c] σ (fun r σ' => r = dl (dropL l c) ∧ σ' = σ) := (cdropX_fn l c σ hl).freeze fun _ _ h => h
end Go.Proofs.YtpfmpeaekgdgnaaGreat


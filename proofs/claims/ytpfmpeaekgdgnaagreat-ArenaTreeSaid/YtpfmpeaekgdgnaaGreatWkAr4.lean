import Derived.Test.YtpfmpeaekgdgnaaGreatWkAr3
namespace Go.Proofs.YtpfmpeaekgdgnaaGreat
open Go Go.Vm
set_option maxRecDepth 20000
set_option linter.all false
set_option maxHeartbeats 8000000
theorem iindexFuncO_fn (l : List Int) (p : Int → Bool) (f : FuncId) (caps : List D) (m cap : Nat) (rest : List D) (σ : List (List D)) (hl : l.length ≤ 9223372036854775807) (hσ : σ[m]? = some (l.map D.int ++ rest)) (hcp : ∀ d ∈ caps, d.plain = true) (hcs : caps.map D.strip = caps) (hp : ∀ x τ, σ <+: τ → Ct Tryz.prog f (D.int x :: caps) τ (fun r τ' => r = .bool (p x) ∧ τ' = τ)) : Ct Tryz.prog 142 [.slo m 0 l.length cap, .clo (.func f) [] caps] σ (fun r σ' => r = .int (idxP p l) ∧ σ' = σ) := by
 refine zf (rs:=[.tmp 4]) Tryz.func142 Tryz.ntmps142 Tryz.results142 ?_
 simp only [argEnv]
 refine zr ⟨[],[],[],[7,14],[]⟩ fun _ _ Z=>?_
 simp (disch:=omega)[hσ,hcs,row_get]
 and_intros<;>try omega
 apply Z
 apply awp_seq
 refine zr ⟨[],[],[],[7,14],[]⟩ fun _ _ Z=>?_
 simp (disch:=omega)[hσ,hcs,row_get]
 and_intros<;>try omega
 apply Z
 apply awp_block
 refine zk [0,1,4,7,8] ?_
 refine awp_loopE (fun (k : Nat) => [(8, .d (.v (.int .i64 (k : Int))))]) [4, 5, 8, 9, 10, 11, 12, 13, 14, 15, 16, 17, 18] (fun (k : Nat) => k ≤ l.length ∧ ∀ x ∈ l.take k, p x = false) (fun (k : Nat) => l.length - k) (0) (by simp <;> rfl) ?_ ?_ ?_
 ·simp
 ·simp
 rintro k ⟨hk, hh⟩
 simp only [List.cons_append, List.nil_append]
 refine zr ⟨[],[],[],[7,14],[]⟩ fun _ _ Z=>?_
 simp (disch:=omega)[hσ,hcs,row_get]
 and_intros<;>try omega
 apply Z
 apply awp_seq
 refine zi ?_
 refine ⟨fun c1=>?_,fun c1=>?_⟩
 ·try simp at c1
  apply awp_skip
  apply q_then_n
  apply awp_seq
  apply awp_block
  refine zr ⟨[],[],[],[7,14],[]⟩ fun _ _ Z=>?_
  simp (disch:=omega)[hσ,hcs,row_get]
  and_intros<;>try omega
  apply Z
  refine zr ⟨[],[],[],[7,14],[]⟩ fun _ _ Z=>?_
  refine vcL_split 5 fun _ Y=>?_
  simp (disch:=omega)[hσ,hcs,row_get]
  and_intros<;>try omega
  apply Y
  simp only [List.drop]
  refine vcL_step fun _ Y=>?_
  simp (disch:=omega)[hσ,hcs,row_get]
  refine ⟨hcp, ?_⟩
  refine zce (hp l[k] _ (List.prefix_refl _)) ?_
  apply Y
  simp only [vcL_nil]
  apply Z
  refine zi ?_
  refine ⟨fun c2=>?_,fun c2=>?_⟩
  ·try simp at c2
   refine zk [0,1,5,7,8] ?_
   refine zr ⟨[],[],[],[7,14],[]⟩ fun _ _ Z=>?_
   simp (disch:=omega)[hσ,hcs,row_get]
   and_intros<;>try omega
   apply Z
   apply awp_ret
   apply q_block_r
   apply q_then_r
   apply q_loop_r
   apply q_block_r
   apply q_then_r
   simp [endQ]
   exact (idxP_at c1 hh c2).symm
  ·try simp at c2
   apply awp_skip
   apply q_block_n
   apply q_then_n
   refine zk [0,1,7,8] ?_
   refine zt ⟨[],[],[],[7,14],[]⟩ fun _ _ Z=>?_
   simp (disch:=omega)[hσ,hcs,row_get]
   and_intros<;>try omega
   apply Z
   refine q_round (k + 1) ?_ ?_ (weak_mkA rfl ?_ (by simp) (by simp))
   ·exact ⟨by omega, all_take (by omega) hh c2⟩
   ·try dsimp only
    omega
   ·simp (disch:=omega)[hσ,hcs,row_get]
 ·try simp at c1
  apply awp_exit
  apply q_then_e
  apply q_loop_e
  apply q_block_e
  apply q_then_n
  refine zr ⟨[],[],[],[7,14],[]⟩ fun _ _ Z=>?_
  simp (disch:=omega)[hσ,hcs,row_get]
  and_intros<;>try omega
  apply Z
  apply awp_ret
  simp [endQ]
  rw [List.take_of_length_le (by omega)] at hh; exact (idxP_none hh).symm
theorem iindexFunc0_fn (f : FuncId) (caps : List D) (σ : List (List D)) (hcp : ∀ d ∈ caps, d.plain = true) : Ct Tryz.prog 142 [.xl 0, .clo (.func f) [] caps] σ (fun r σ' => r = .int (-1) ∧ σ' = σ) := by
 refine zf (rs:=[.tmp 4]) Tryz.func142 Tryz.ntmps142 Tryz.results142 ?_
 simp only [argEnv]
 refine zr ⟨[],[],[],[7],[]⟩ fun _ _ Z=>?_
 simp
 and_intros<;>try omega
 apply Z
 apply awp_seq
 refine zr ⟨[],[],[],[7],[]⟩ fun _ _ Z=>?_
 simp
 and_intros<;>try omega
 apply Z
 apply awp_block
 refine zk [0,1,4,7,8] ?_
 refine awp_loopE (fun (k : Nat) => [(8, .d (.int 0))]) [4, 5, 8, 9, 10, 11, 12, 13, 14, 15, 16, 17, 18] (fun (k : Nat) => k = 0) (fun (k : Nat) => 0) (0) (by simp <;> rfl) ?_ ?_ ?_
 ·simp
 ·rfl
 rintro k hk
 simp only [List.cons_append, List.nil_append]
 refine zr ⟨[],[],[],[7],[]⟩ fun _ _ Z=>?_
 simp
 and_intros<;>try omega
 apply Z
 apply awp_seq
 refine zi ?_
 refine ⟨fun c1=>?_,fun c1=>?_⟩
 ·simp at c1
 ·try simp at c1
  apply awp_exit
  apply q_then_e
  apply q_loop_e
  apply q_block_e
  apply q_then_n
  refine zr ⟨[],[],[],[7],[]⟩ fun _ _ Z=>?_
  simp
  and_intros<;>try omega
  apply Z
  apply awp_ret
  simp [endQ]
theorem iclear_take0 (p : Int → Bool) (l k : List Int) (rest : List D) : List.take k.length ((k ++ l).map D.int ++ rest) = k.map D.int := by
 rw [List.map_append, List.append_assoc, List.take_append_of_le_length (by simp)]
 rw [List.take_of_length_le (by simp)]
theorem ideleteFunc1_fn (l : List Int) (p : Int → Bool) (f : FuncId) (caps : List D) (σ : List (List D)) (hl : l.length ≤ 1000000) (hne : l ≠ []) (hcp : ∀ d ∈ caps, d.plain = true) (hcs : caps.map D.strip = caps) (hp : ∀ x τ, σ <+: τ → Ct Tryz.prog f (D.int x :: caps) τ (fun r τ' => r = .bool (p x) ∧ τ' = τ)) : Ct Tryz.prog 121 [.xs 1 (l.map D.int), .clo (.func f) [] caps] σ (fun r σ' => r = .xs 1 ((l.filter fun x => !p x).map D.int) ∧ σ' = σ ++ [[]]) := by
 refine zf (rs:=[.tmp 4]) Tryz.func121 Tryz.ntmps121 Tryz.results121 ?_
 simp only [argEnv]
 refine awp_openX 0 1 rfl (by decide) fun cap rest hcap hcm hrest hk0 hes => ?_
 simp only [List.length_map] at hcap hrest ⊢
 rw [flat_one (f := D.int) (fun _ => rfl)]
 refine zr ⟨[4,13],[],[],[18,24,33,38,41],[]⟩ fun _ _ Z=>?_
 simp (disch:=first|omega|assumption)[hcs,row_get,row_set]
 and_intros<;>try first|omega|exact rfl
 apply Z
 refine zr ⟨[4,13],[],[],[18,24,33,38,41],[]⟩ fun _ _ Z=>?_
 refine vcL_split 2 fun _ Y=>?_
 simp (disch:=first|omega|assumption)[hcs,row_get,row_set]
 and_intros<;>try first|omega|exact rfl
 apply Y
 simp only [List.drop]
 refine vcL_step fun _ Y=>?_
 simp (disch:=first|omega|assumption)[hcs,row_get,row_set]
 refine zce (iindexFuncO_fn l p f caps σ.length cap rest _ (by omega) (by simp) hcp hcs fun x τ h => hp x τ (List.IsPrefix.trans (List.prefix_append _ _) h)) ?_
 apply Y
 simp (disch:=first|omega|assumption)[hcs,row_get,row_set]
 and_intros<;>try first|omega|exact rfl
 apply Z
 apply awp_seq
 refine zr ⟨[4,13],[],[],[18,24,33,38,41],[]⟩ fun _ _ Z=>?_
 simp (disch:=first|omega|assumption)[hcs,row_get,row_set]
 and_intros<;>try first|omega|exact rfl
 apply Z
 refine zi ?_
 refine ⟨fun c1=>?_,fun c1=>?_⟩
 ·try simp at c1
  refine zr ⟨[4,13],[],[],[18,24,33,38,41],[]⟩ fun _ _ Z=>?_
  simp (disch:=first|omega|assumption)[hcs,row_get,row_set]
  and_intros<;>try first|omega|exact rfl
  apply Z
  refine awp_closeX 4 1 σ.length l.length cap (l.map D.int) (l.map D.int ++ rest) (by simp <;> rfl) (by simp) (by omega) (by simp [hrest]; omega) (by simp) (by simp) (by rw [flat_one (fun _ => rfl)]; exact List.prefix_append _ _) ?_
  simp only [set_last]
  apply awp_ret
  apply q_then_r
  simp [endQ]
  rcases idxP_cases p l with ⟨_, h⟩ | ⟨k, h, _⟩
  ·rw [h]
  ·omega
 ·try simp at c1
  obtain ⟨k0, e0, e1, e2, e3⟩ := idxP_pos c1
  rw [e0]
  apply awp_skip
  apply q_then_n
  apply awp_seq
  refine zr ⟨[4,13],[],[],[18,24,33,38,41],[]⟩ fun _ _ Z=>?_
  simp (disch:=first|omega|assumption)[hcs,row_get,row_set]
  and_intros<;>try first|omega|exact rfl
  apply Z
  apply awp_block
  refine zk [0,1,4,5,6] ?_
  refine awp_loopM (fun (j : Nat) => [(5, .d (.v (.int .i64 ((kp p l j).length : Int)))), (6, .d (.v (.int .i64 (j : Int))))]) (fun (j : Nat) => []) (fun (j : Nat) => [(σ.length, (ar p l j).map D.int ++ rest)]) [5, 6, 7, 16, 17, 18, 19, 20, 21, 22, 23, 24, 25, 26, 27, 28, 29, 30, 31, 32, 33, 34, 35] (fun (j : Nat) => j ≤ l.length) (fun (j : Nat) => l.length - j) (k0 + 1) (by simp <;> rfl) ?_ (by simp) (by simp [e1]) ?_ ?_
  ·simp [e1, e2]
  ·omega
  rintro j hj
  simp only [List.cons_append, List.nil_append, setL_nil, setL_cons, List.set_cons_zero, List.set_cons_succ]
  have hkl := kp_le p l j hj
  have hal := ar_len p l j
  apply awp_seq
  refine zr ⟨[4,13],[],[],[18,24,33,38,41],[]⟩ fun _ _ Z=>?_
  simp (disch:=first|omega|assumption)[hcs,row_get,row_set]
  and_intros<;>try first|omega|exact rfl
  apply Z
  refine zi ?_
  refine ⟨fun c2=>?_,fun c2=>?_⟩
  ·try simp at c2
   apply awp_skip
   apply q_then_n
   apply awp_seq
   apply awp_block
   refine zr ⟨[4,13],[],[],[18,24,33,38,41],[]⟩ fun _ _ Z=>?_
   simp (disch:=first|omega|assumption)[hcs,row_get,row_set]
   and_intros<;>try first|omega|exact rfl
   apply Z
   refine zk [0,1,4,5,6,7] ?_
   refine zr ⟨[4,13],[],[],[18,24,33,38,41],[]⟩ fun _ _ Z=>?_
   refine vcL_split 2 fun _ Y=>?_
   simp (disch:=first|omega|assumption)[hcs,row_get,row_set]
   and_intros<;>try first|omega|exact rfl
   apply Y
   simp only [List.drop]
   refine vcL_step fun _ Y=>?_
   simp (disch:=first|omega|assumption)[hcs,row_get,row_set]
   simp only [ar_at p l j (by omega)]
   refine ⟨hcp, ?_⟩
   refine zce (hp l[j] _ (List.prefix_append _ _)) ?_
   apply Y
   simp (disch:=first|omega|assumption)[hcs,row_get,row_set]
   and_intros<;>try first|omega|exact rfl
   apply Z
   refine zi ?_
   refine ⟨fun c3=>?_,fun c3=>?_⟩
   ·try simp at c3
    refine zr ⟨[4,13],[],[],[18,24,33,38,41],[]⟩ fun _ _ Z=>?_
    simp (disch:=first|omega|assumption)[hcs,row_get,row_set]
    and_intros<;>try first|omega|exact rfl
    apply Z
    refine zk [0,1,4,5,6] ?_
    refine zt ⟨[4,13],[],[],[18,24,33,38,41],[]⟩ fun _ _ Z=>?_
    simp (disch:=first|omega|assumption)[hcs,row_get,row_set]
    and_intros<;>try first|omega|exact rfl
    apply Z
    apply q_block_n
    apply q_then_n
    refine zt ⟨[4,13],[],[],[18,24,33,38,41],[]⟩ fun _ _ Z=>?_
    simp (disch:=first|omega|assumption)[hcs,row_get,row_set]
    and_intros<;>try first|omega|exact rfl
    apply Z
    refine q_round (j + 1) ?_ ?_ (weak_mkA rfl ?_ (by simp) (by rw [← (ar_no p l j (by omega) c3).1]; simp (disch := omega) [row_set2, hal]))
    ·omega
    ·try dsimp only
     omega
    ·simp (disch:=first|omega|assumption)[hcs,row_get,row_set,(ar_no p l j (by omega) c3).2]
   ·try simp at c3
    apply awp_skip
    apply q_block_n
    apply q_then_n
    refine zt ⟨[4,13],[],[],[18,24,33,38,41],[]⟩ fun _ _ Z=>?_
    simp (disch:=first|omega|assumption)[hcs,row_get,row_set]
    and_intros<;>try first|omega|exact rfl
    apply Z
    refine q_round (j + 1) ?_ ?_ (weak_mkA rfl ?_ (by simp) (by simp [(ar_yes p l j (by omega) c3).1]))
    ·omega
    ·try dsimp only
     omega
    ·simp (disch:=first|omega|assumption)[hcs,row_get,row_set,(ar_yes p l j (by omega) c3).2]
  ·try simp at c2
   apply awp_exit
   apply q_then_e
   apply q_loop_e
   apply q_block_e
   apply q_then_n
   refine zr ⟨[4,13],[],[],[18,24,33,38,41],[]⟩ fun _ _ Z=>?_
   simp (disch:=first|omega|assumption)[hcs,row_get,row_set]
   and_intros<;>try first|omega|exact rfl
   apply Z
   refine zk [0,4,5] ?_
   refine zr ⟨[4,13],[],[],[18,24,33,38,41],[]⟩ fun _ _ Z=>?_
   simp (disch:=first|omega|assumption)[hcs,row_get,row_set]
   and_intros<;>try first|omega|exact rfl
   apply Z
   refine awp_closeX 4 1 σ.length (kp p l j).length cap ((kp p l j).map D.int) ((kp p l j).map D.int ++ (zerosD #[.int .i64 0] (l.length - (kp p l j).length) ++ rest)) (by simp <;> rfl) (by rw [show List.map D.int (kp p l j) = List.take (kp p l j).length (List.map D.int (ar p l j) ++ rest) from (iclear_take0 p _ _ rest).symm]; simp [zerosD_len (z := #[.int .i64 0]) (k := 1) rfl, show (kp p l j).length + (l.length - (kp p l j).length) = l.length by omega, drop_row D.int (ar p l j) rest l.length hal.symm]) (by omega) (by simp [hrest, zerosD_len (z := #[.int .i64 0]) (k := 1) rfl]; omega) (by simp) (by simp) (by rw [flat_one (fun _ => rfl)]; exact List.prefix_append _ _) ?_
   simp only [set_last]
   apply awp_ret
   simp [endQ]
   unfold kp; rw [List.take_of_length_le (by omega)]
theorem ideleteFunc0_fn (f : FuncId) (caps : List D) (σ : List (List D)) (hcp : ∀ d ∈ caps, d.plain = true) : Ct Tryz.prog 121 [.xs 1 [], .clo (.func f) [] caps] σ (fun r σ' => r = .xs 1 [] ∧ σ' = σ) := by
 refine zf (rs:=[.tmp 4]) Tryz.func121 Tryz.ntmps121 Tryz.results121 ?_
 simp only [argEnv]
 refine zr ⟨[4,13],[],[],[],[]⟩ fun _ _ Z=>?_
 simp
 and_intros<;>try omega
 apply Z
 refine zr ⟨[4,13],[],[],[],[]⟩ fun _ _ Z=>?_
 refine vcL_split 2 fun _ Y=>?_
 simp
 and_intros<;>try omega
 apply Y
 simp only [List.drop]
 refine vcL_step fun _ Y=>?_
 simp
 refine zce (iindexFunc0_fn f caps _ hcp) ?_
 apply Y
 simp
 and_intros<;>try omega
 apply Z
 apply awp_seq
 refine zr ⟨[4,13],[],[],[],[]⟩ fun _ _ Z=>?_
 simp
 and_intros<;>try omega
 apply Z
 refine zi ?_
 refine ⟨fun c1=>?_,fun c1=>?_⟩
 ·try simp at c1
  refine zr ⟨[4,13],[],[],[],[]⟩ fun _ _ Z=>?_
  simp
  and_intros<;>try omega
  apply Z
  apply awp_ret
  apply q_then_r
  simp[endQ]
 ·simp at c1
theorem idelete_fn (l : List Int) (p : Int → Bool) (f : FuncId) (caps : List D) (σ : List (List D)) (hl : l.length ≤ 1000000) (hcp : ∀ d ∈ caps, d.plain = true) (hcs : caps.map D.strip = caps) (hp : ∀ x τ, σ <+: τ → Ct Tryz.prog f (D.int x :: caps) τ (fun r τ' => r = .bool (p x) ∧ τ' = τ)) :
  Ct Tryz.prog 121 [.xs 1 (l.map D.int), .clo (.func f) [] caps] σ (fun r σ' => r = .xs 1 ((l.filter fun x => !p x).map D.int) ∧ σ' = σ) := by
 by_cases hne : l = []
 ·subst hne; exact ideleteFunc0_fn f caps σ hcp
 ·exact (ideleteFunc1_fn l p f caps σ hl hne hcp hcs hp).trim fun r σ' ⟨hr, hs⟩ => ⟨σ, [[]], hs, rfl, by rw [hr]; exact i_sc _ _, fun n cs h => .inl h, hr, rfl⟩
attribute [simp] cA
theorem a_flat (l : List AT) : (l.map d_AT).flatMap D.cells = l.flatMap cA := rows_flat (fun _ => rfl) l
theorem a_arr (l : List AT) : ∀ d ∈ l.map d_AT, d.ncells = 2 ∧ d.arr = true := by
 intro d hd
 obtain ⟨a, _, rfl⟩ := List.mem_map.1 hd
 exact ⟨rfl, rfl⟩
@[simp high] theorem a_len (l : List AT) : (l.flatMap cA).length = l.length * 2 := rows_len (f := cA) (fun _ => rfl) l
@[simp high] theorem a_ld (l : List AT) (rest : List D) (i : Nat) (h : i < l.length) : ldD true 2 ((l.flatMap cA ++ rest).drop (i * 2)) = some (.agg (cA l[i])) := rows_ld (f := cA) (fun _ => rfl) l rest i h
@[simp high] theorem a_sp (l : List AT) (rest : List D) (i : Nat) (x : AT) (h : i < l.length) : splice (l.flatMap cA ++ rest) (i * 2) [D.str x.name, D.str x.value] = (l.set i x).flatMap cA ++ rest := rows_splice (f := cA) (fun _ => rfl) l rest i x h
theorem aclear (p : AT → Bool) (l : List AT) (j : Nat) (rest : List D) : splice ((ar p l j).flatMap cA ++ rest) ((kp p l j).length * 2) (zerosD #[.string ⟨#[]⟩, .string ⟨#[]⟩] (l.length - (kp p l j).length)) = (kp p l j).flatMap cA ++ (zerosD #[.string ⟨#[]⟩, .string ⟨#[]⟩] (l.length - (kp p l j).length) ++ rest) := by
 have hz : (zerosD #[.string ⟨#[]⟩, .string ⟨#[]⟩] (l.length - (kp p l j).length)).length = ((l.drop (kp p l j).length).flatMap cA).length := by
  rw [rows_len (f := cA) (k := 2) (fun _ => rfl), zerosD_len (k := 2) rfl, List.length_drop]
 have hk : ((kp p l j).flatMap cA).length = (kp p l j).length * 2 := rows_len (f := cA) (fun _ => rfl) _
 unfold ar
 rw [List.flatMap_append, List.append_assoc, ← hk, splice_mid _ _ _ _ hz]
theorem aindexO_fn (l : List AT) (p : AT → Bool) (f : FuncId) (caps : List D) (m cap : Nat) (rest : List D) (σ : List (List D)) (hl : l.length ≤ 9223372036854775807) (hσ : σ[m]? = some (l.flatMap cA ++ rest)) (hcp : ∀ d ∈ caps, d.plain = true) (hcs : caps.map D.strip = caps) (hp : ∀ x τ, Ct Tryz.prog f (d_AT x :: caps) τ (fun r τ' => r = .bool (p x) ∧ τ' = τ)) : Ct Tryz.prog 168 [.slo m 0 l.length cap, .clo (.func f) [] caps] σ (fun r σ' => r = .int (idxP p l) ∧ σ' = σ) := by
 refine zf (rs:=[.tmp 4]) Tryz.func168 Tryz.ntmps168 Tryz.results168 ?_
 simp only [argEnv]
 refine zr ⟨[],[],[],[7,14],[]⟩ fun _ _ Z=>?_
 simp (disch:=omega)[hσ,hcs]
 and_intros<;>try omega
 apply Z
 apply awp_seq
 refine zr ⟨[],[],[],[7,14],[]⟩ fun _ _ Z=>?_
 simp (disch:=omega)[hσ,hcs]
 and_intros<;>try omega
 apply Z
 apply awp_block
 refine zk [0,1,4,7,8] ?_
 refine awp_loopE (fun (k : Nat) => [(8, .d (.v (.int .i64 (k : Int))))]) [4, 5, 8, 9, 10, 11, 12, 13, 14, 15, 16, 17, 18] (fun (k : Nat) => k ≤ l.length ∧ ∀ x ∈ l.take k, p x = false) (fun (k : Nat) => l.length - k) (0) (by simp <;> rfl) ?_ ?_ ?_
 ·simp
 ·simp
 rintro k ⟨hk, hh⟩
 simp only [List.cons_append, List.nil_append]
 refine zr ⟨[],[],[],[7,14],[]⟩ fun _ _ Z=>?_
 simp (disch:=omega)[hσ,hcs]
 and_intros<;>try omega
 apply Z
 apply awp_seq
 refine zi ?_
 refine ⟨fun c1=>?_,fun c1=>?_⟩
 ·try simp at c1
  apply awp_skip
  apply q_then_n
  apply awp_seq
  apply awp_block
  refine zr ⟨[],[],[],[7,14],[]⟩ fun _ _ Z=>?_
  simp (disch:=omega)[hσ,hcs]
  and_intros<;>try omega
  apply Z
  refine zr ⟨[],[],[],[7,14],[]⟩ fun _ _ Z=>?_
  refine vcL_split 5 fun _ Y=>?_
  simp (disch:=omega)[hσ,hcs]
  and_intros<;>try omega
  apply Y
  simp only [List.drop]
  refine vcL_step fun _ Y=>?_
  simp (disch:=omega)[hσ,hcs]
  refine ⟨hcp, ?_⟩
  refine zce (hp l[k] _) ?_
  apply Y
  simp only [vcL_nil]
  apply Z
  refine zi ?_
  refine ⟨fun c2=>?_,fun c2=>?_⟩
  ·try simp at c2
   refine zk [0,1,5,7,8] ?_
   refine zr ⟨[],[],[],[7,14],[]⟩ fun _ _ Z=>?_
   simp (disch:=omega)[hσ,hcs]
   and_intros<;>try omega
   apply Z
   apply awp_ret
   apply q_block_r
   apply q_then_r
   apply q_loop_r
   apply q_block_r
   apply q_then_r
   simp [endQ]
   exact (idxP_at c1 hh c2).symm
  ·try simp at c2
   apply awp_skip
   apply q_block_n
   apply q_then_n
   refine zk [0,1,7,8] ?_
   refine zt ⟨[],[],[],[7,14],[]⟩ fun _ _ Z=>?_
   simp (disch:=omega)[hσ,hcs]
   and_intros<;>try omega
   apply Z
   refine q_round (k + 1) ?_ ?_ (weak_mkA rfl ?_ (by simp) (by simp))
   ·exact ⟨by omega, all_take (by omega) hh c2⟩
   ·try dsimp only
    omega
   ·simp (disch:=omega)[hσ,hcs]
 ·try simp at c1
  apply awp_exit
  apply q_then_e
  apply q_loop_e
  apply q_block_e
  apply q_then_n
  refine zr ⟨[],[],[],[7,14],[]⟩ fun _ _ Z=>?_
  simp (disch:=omega)[hσ,hcs]
  and_intros<;>try omega
  apply Z
  apply awp_ret
  simp [endQ]
  rw [List.take_of_length_le (by omega)] at hh; exact (idxP_none hh).symm
theorem adelete0_fn (l : List AT) (p : AT → Bool) (f : FuncId) (caps : List D) (σ : List (List D)) (hl : l.length ≤ 1000000) (hcp : ∀ d ∈ caps, d.plain = true) (hcs : caps.map D.strip = caps) (hp : ∀ x τ, Ct Tryz.prog f (d_AT x :: caps) τ (fun r τ' => r = .bool (p x) ∧ τ' = τ)) : Ct Tryz.prog 161 [.xs 2 (l.map d_AT), .clo (.func f) [] caps] σ (fun r σ' => r = .xs 2 ((l.filter fun x => !p x).map d_AT) ∧ σ' = σ ++ [[]]) := by
 refine zf (rs:=[.tmp 4]) Tryz.func161 Tryz.ntmps161 Tryz.results161 ?_
 simp only [argEnv]
 refine awp_openX 0 2 rfl (by decide) fun cap rest hcap hcm hrest hk0 hes => ?_
 simp only [List.length_map] at hcap hrest ⊢
 rw [a_flat]
 refine zr ⟨[4,13],[],[],[18,24,33,38,41],[]⟩ fun _ _ Z=>?_
 simp (disch:=first|omega|assumption)[hcs,aclear]
 and_intros<;>try first|omega|exact rfl
 apply Z
 refine zr ⟨[4,13],[],[],[18,24,33,38,41],[]⟩ fun _ _ Z=>?_
 refine vcL_split 2 fun _ Y=>?_
 simp (disch:=first|omega|assumption)[hcs,aclear]
 and_intros<;>try first|omega|exact rfl
 apply Y
 simp only [List.drop]
 refine vcL_step fun _ Y=>?_
 simp (disch:=first|omega|assumption)[hcs,aclear]
 refine zce (aindexO_fn l p f caps σ.length cap rest _ (by omega) (by simp) hcp hcs hp) ?_
 apply Y
 simp (disch:=first|omega|assumption)[hcs,aclear]
 and_intros<;>try first|omega|exact rfl
 apply Z
 apply awp_seq
 refine zr ⟨[4,13],[],[],[18,24,33,38,41],[]⟩ fun _ _ Z=>?_
 simp (disch:=first|omega|assumption)[hcs,aclear]
 and_intros<;>try first|omega|exact rfl
 apply Z
 refine zi ?_
 refine ⟨fun c1=>?_,fun c1=>?_⟩
 ·try simp at c1
  refine zr ⟨[4,13],[],[],[18,24,33,38,41],[]⟩ fun _ _ Z=>?_
  simp (disch:=first|omega|assumption)[hcs,aclear]
  and_intros<;>try first|omega|exact rfl
  apply Z
  refine awp_closeX 4 2 σ.length l.length cap (l.map d_AT) (l.flatMap cA ++ rest) (by simp <;> rfl) (by simp) (by omega) (by simp [hrest, zerosD_len (z := #[.string ⟨#[]⟩, .string ⟨#[]⟩]) (k := 2) rfl]; omega) (by simp) (a_arr _) (by rw [a_flat]; exact List.prefix_append _ _) ?_
  simp only [set_last]
  apply awp_ret
  apply q_then_r
  simp [endQ]
  rcases idxP_cases p l with ⟨_, h⟩ | ⟨k, h, _⟩
  ·rw [h]
  ·omega
 ·try simp at c1
  obtain ⟨k0, e0, e1, e2, e3⟩ := idxP_pos c1
  rw [e0]
  apply awp_skip
  apply q_then_n
  apply awp_seq
  refine zr ⟨[4,13],[],[],[18,24,33,38,41],[]⟩ fun _ _ Z=>?_
  simp (disch:=first|omega|assumption)[hcs,aclear]
  and_intros<;>try first|omega|exact rfl
  apply Z
  apply awp_block
  refine zk [0,1,4,5,6] ?_
  refine awp_loopM (fun (j : Nat) => [(5, .d (.v (.int .i64 ((kp p l j).length : Int)))), (6, .d (.v (.int .i64 (j : Int))))]) (fun (j : Nat) => []) (fun (j : Nat) => [(σ.length, (ar p l j).flatMap cA ++ rest)]) [5, 6, 7, 16, 17, 18, 19, 20, 21, 22, 23, 24, 25, 26, 27, 28, 29, 30, 31, 32, 33, 34, 35] (fun (j : Nat) => j ≤ l.length) (fun (j : Nat) => l.length - j) (k0 + 1) (by simp <;> rfl) ?_ (by simp) (by simp [e1]) ?_ ?_
  ·simp [e1, e2]
  ·omega
  rintro j hj
  simp only [List.cons_append, List.nil_append, setL_nil, setL_cons, List.set_cons_zero, List.set_cons_succ]
  have hkl := kp_le p l j hj
  have hal := ar_len p l j
  apply awp_seq
  refine zr ⟨[4,13],[],[],[18,24,33,38,41],[]⟩ fun _ _ Z=>?_
  simp (disch:=first|omega|assumption)[hcs,aclear]
  and_intros<;>try first|omega|exact rfl
  apply Z
  refine zi ?_
  refine ⟨fun c2=>?_,fun c2=>?_⟩
  ·try simp at c2
   apply awp_skip
   apply q_then_n
   apply awp_seq
   apply awp_block
   refine zr ⟨[4,13],[],[],[18,24,33,38,41],[]⟩ fun _ _ Z=>?_
   simp (disch:=first|omega|assumption)[hcs,aclear]
   and_intros<;>try first|omega|exact rfl
   apply Z
   refine zk [0,1,4,5,6,7] ?_
   refine zr ⟨[4,13],[],[],[18,24,33,38,41],[]⟩ fun _ _ Z=>?_
   refine vcL_split 2 fun _ Y=>?_
   simp (disch:=first|omega|assumption)[hcs,aclear]
   and_intros<;>try first|omega|exact rfl
   apply Y
   simp only [List.drop]
   refine vcL_step fun _ Y=>?_
   simp (disch:=first|omega|assumption)[hcs,aclear]
   simp only [ar_at p l j (by omega)]
   refine ⟨hcp, ?_⟩
   refine zce (hp l[j] _) ?_
   apply Y
   simp (disch:=first|omega|assumption)[hcs,aclear]
   and_intros<;>try first|omega|exact rfl
   apply Z
   refine zi ?_
   refine ⟨fun c3=>?_,fun c3=>?_⟩
   ·try simp at c3
    refine zr ⟨[4,13],[],[],[18,24,33,38,41],[]⟩ fun _ _ Z=>?_
    simp (disch:=first|omega|assumption)[hcs,aclear]
    and_intros<;>try first|omega|exact rfl
    apply Z
    refine zk [0,1,4,5,6] ?_
    refine zt ⟨[4,13],[],[],[18,24,33,38,41],[]⟩ fun _ _ Z=>?_
    simp (disch:=first|omega|assumption)[hcs,aclear]
    and_intros<;>try first|omega|exact rfl
    apply Z
    apply q_block_n
    apply q_then_n
    refine zt ⟨[4,13],[],[],[18,24,33,38,41],[]⟩ fun _ _ Z=>?_
    simp (disch:=first|omega|assumption)[hcs,aclear]
    and_intros<;>try first|omega|exact rfl
    apply Z
    refine q_round (j + 1) ?_ ?_ (weak_mkA rfl ?_ (by simp) (by first | (simp [← (ar_no p l j (by omega) c3).1]; done) | (simp [(ar_no p l j (by omega) c3).1]; done)))
    ·omega
    ·try dsimp only
     omega
    ·simp (disch:=first|omega|assumption)[hcs,aclear,(ar_no p l j (by omega) c3).2]
   ·try simp at c3
    apply awp_skip
    apply q_block_n
    apply q_then_n
    refine zt ⟨[4,13],[],[],[18,24,33,38,41],[]⟩ fun _ _ Z=>?_
    simp (disch:=first|omega|assumption)[hcs,aclear]
    and_intros<;>try first|omega|exact rfl
    apply Z
    refine q_round (j + 1) ?_ ?_ (weak_mkA rfl ?_ (by simp) (by simp [(ar_yes p l j (by omega) c3).1]))
    ·omega
    ·try dsimp only
     omega
    ·simp (disch:=first|omega|assumption)[hcs,aclear,(ar_yes p l j (by omega) c3).2]
  ·try simp at c2
   apply awp_exit
   apply q_then_e
   apply q_loop_e
   apply q_block_e
   apply q_then_n
   refine zr ⟨[4,13],[],[],[18,24,33,38,41],[]⟩ fun _ _ Z=>?_
   simp (disch:=first|omega|assumption)[hcs,aclear]
   and_intros<;>try first|omega|exact rfl
   apply Z
   refine zk [0,4,5] ?_
   refine zr ⟨[4,13],[],[],[18,24,33,38,41],[]⟩ fun _ _ Z=>?_
   simp (disch:=first|omega|assumption)[hcs,aclear]
   and_intros<;>try first|omega|exact rfl
   apply Z
   refine awp_closeX 4 2 σ.length (kp p l j).length cap ((kp p l j).map d_AT) ((kp p l j).flatMap cA ++ (zerosD #[.string ⟨#[]⟩, .string ⟨#[]⟩] (l.length - (kp p l j).length) ++ rest)) (by simp <;> rfl) (by simp) (by omega) (by simp [hrest, zerosD_len (z := #[.string ⟨#[]⟩, .string ⟨#[]⟩]) (k := 2) rfl]; omega) (by simp) (a_arr _) (by rw [a_flat]; exact List.prefix_append _ _) ?_
   simp only [set_last]
   apply awp_ret
   simp [endQ]
   unfold kp; rw [List.take_of_length_le (by omega)]
theorem adelete_fn (l : List AT) (p : AT → Bool) (f : FuncId) (caps : List D) (σ : List (List D)) (hl : l.length ≤ 1000000) (hcp : ∀ d ∈ caps, d.plain = true) (hcs : caps.map D.strip = caps) (hp : ∀ x τ, Ct Tryz.prog f (d_AT x :: caps) τ (fun r τ' => r = .bool (p x) ∧ τ' = τ)) :
  Ct Tryz.prog 161 [.xs 2 (l.map d_AT), .clo (.func f) [] caps] σ (fun r σ' => r = .xs 2 ((l.filter fun x => !p x).map d_AT) ∧ σ' = σ) :=
 (adelete0_fn l p f caps σ hl hcp hcs hp).trim fun r σ' ⟨hr, hs⟩ => ⟨σ, [[]], hs, rfl, by rw [hr]; exact a_sc _ _, fun n cs h => .inl h, hr, rfl⟩
theorem aclone_fn (l : List AT) (σ : List (List D)) (hl : l.length ≤ 1000000) : Ct Tryz.prog 108 [.sl false (l.map d_AT)] σ (fun r σ' => r = .sl true (l.map d_AT) ∧ σ' = σ) := by
 refine zf (rs:=[.tmp 2]) Tryz.func108 Tryz.ntmps108 Tryz.results108 ?_
 simp only [argEnv]
 refine zr ⟨[2],[],[],[],[]⟩ fun _ _ Z=>?_
 simp
 and_intros<;>try omega
 apply Z
 apply awp_seq
 refine zr ⟨[2],[],[],[],[]⟩ fun _ _ Z=>?_
 refine vcL_split 1 fun _ Y=>?_
 simp
 and_intros<;>try omega
 apply Y
 simp only [List.drop]
 refine vcL_step fun _ Y=>?_
 simp
 refine ⟨Y _ ?_, fun e1 => Y _ ?_⟩
 ·skip
  simp only [vcL_nil]
  apply Z
  refine awp_cond (t := false) (by simp) (fun h => by cases h) (fun _ => ?_)
  apply awp_skip
  apply q_then_n
  refine zr ⟨[2],[],[],[],[]⟩ fun _ _ Z=>?_
  simp
  and_intros<;>try omega
  apply Z
  apply awp_ret
  simp [endQ]
 ·skip
  simp only [vcL_nil]
  apply Z
  refine awp_cond (t := true) (by simp) (fun _ => ?_) (fun h => by cases h)
  refine zr ⟨[2],[],[],[],[]⟩ fun _ _ Z=>?_
  simp
  and_intros<;>try omega
  apply Z
  apply awp_ret
  apply q_then_r
  simp [endQ, e1]
attribute [simp] cP
theorem p_flat (l : List PI) : (l.map d_PI).flatMap D.cells = l.flatMap cP := rows_flat (fun _ => rfl) l
theorem p_arr (l : List PI) : ∀ d ∈ l.map d_PI, d.ncells = 2 ∧ d.arr = true := by
 intro d hd
 obtain ⟨a, _, rfl⟩ := List.mem_map.1 hd
 exact ⟨rfl, rfl⟩
@[simp high] theorem p_len (l : List PI) : (l.flatMap cP).length = l.length * 2 := rows_len (f := cP) (fun _ => rfl) l
@[simp high] theorem p_ld (l : List PI) (rest : List D) (i : Nat) (h : i < l.length) : ldD true 2 ((l.flatMap cP ++ rest).drop (i * 2)) = some (.agg (cP l[i])) := rows_ld (f := cP) (fun _ => rfl) l rest i h
@[simp high] theorem p_sp (l : List PI) (rest : List D) (i : Nat) (x : PI) (h : i < l.length) : splice (l.flatMap cP ++ rest) (i * 2) [D.str x.name, D.int x.value] = (l.set i x).flatMap cP ++ rest := rows_splice (f := cP) (fun _ => rfl) l rest i x h
theorem pclear (p : PI → Bool) (l : List PI) (j : Nat) (rest : List D) : splice ((ar p l j).flatMap cP ++ rest) ((kp p l j).length * 2) (zerosD #[.string ⟨#[]⟩, .int .i64 0] (l.length - (kp p l j).length)) = (kp p l j).flatMap cP ++ (zerosD #[.string ⟨#[]⟩, .int .i64 0] (l.length - (kp p l j).length) ++ rest) := by
 have hz : (zerosD #[.string ⟨#[]⟩, .int .i64 0] (l.length - (kp p l j).length)).length = ((l.drop (kp p l j).length).flatMap cP).length := by
  rw [rows_len (f := cP) (k := 2) (fun _ => rfl), zerosD_len (k := 2) rfl, List.length_drop]
 have hk : ((kp p l j).flatMap cP).length = (kp p l j).length * 2 := rows_len (f := cP) (fun _ => rfl) _
 unfold ar
 rw [List.flatMap_append, List.append_assoc, ← hk, splice_mid _ _ _ _ hz]
theorem pindexO_fn (l : List PI) (p : PI → Bool) (f : FuncId) (caps : List D) (m cap : Nat) (rest : List D) (σ : List (List D)) (hl : l.length ≤ 9223372036854775807) (hσ : σ[m]? = some (l.flatMap cP ++ rest)) (hcp : ∀ d ∈ caps, d.plain = true) (hcs : caps.map D.strip = caps) (hp : ∀ x τ, Ct Tryz.prog f (d_PI x :: caps) τ (fun r τ' => r = .bool (p x) ∧ τ' = τ)) : Ct Tryz.prog 169 [.slo m 0 l.length cap, .clo (.func f) [] caps] σ (fun r σ' => r = .int (idxP p l) ∧ σ' = σ) := by
 refine zf (rs:=[.tmp 4]) Tryz.func169 Tryz.ntmps169 Tryz.results169 ?_
 simp only [argEnv]
 refine zr ⟨[],[],[],[7,14],[]⟩ fun _ _ Z=>?_
 simp (disch:=omega)[hσ,hcs]
 and_intros<;>try omega
 apply Z
 apply awp_seq
 refine zr ⟨[],[],[],[7,14],[]⟩ fun _ _ Z=>?_
 simp (disch:=omega)[hσ,hcs]
 and_intros<;>try omega
 apply Z
 apply awp_block
 refine zk [0,1,4,7,8] ?_
 refine awp_loopE (fun (k : Nat) => [(8, .d (.v (.int .i64 (k : Int))))]) [4, 5, 8, 9, 10, 11, 12, 13, 14, 15, 16, 17, 18] (fun (k : Nat) => k ≤ l.length ∧ ∀ x ∈ l.take k, p x = false) (fun (k : Nat) => l.length - k) (0) (by simp <;> rfl) ?_ ?_ ?_
 ·simp
 ·simp
 rintro k ⟨hk, hh⟩
 simp only [List.cons_append, List.nil_append]
 refine zr ⟨[],[],[],[7,14],[]⟩ fun _ _ Z=>?_
 simp (disch:=omega)[hσ,hcs]
 and_intros<;>try omega
 apply Z
 apply awp_seq
 refine zi ?_
 refine ⟨fun c1=>?_,fun c1=>?_⟩
 ·try simp at c1
  apply awp_skip
  apply q_then_n
  apply awp_seq
  apply awp_block
  refine zr ⟨[],[],[],[7,14],[]⟩ fun _ _ Z=>?_
  simp (disch:=omega)[hσ,hcs]
  and_intros<;>try omega
  apply Z
  refine zr ⟨[],[],[],[7,14],[]⟩ fun _ _ Z=>?_
  refine vcL_split 5 fun _ Y=>?_
  simp (disch:=omega)[hσ,hcs]
  and_intros<;>try omega
  apply Y
  simp only [List.drop]
  refine vcL_step fun _ Y=>?_
  simp (disch:=omega)[hσ,hcs]
  refine ⟨hcp, ?_⟩
  refine zce (hp l[k] _) ?_
  apply Y
  simp only [vcL_nil]
  apply Z
  refine zi ?_
  refine ⟨fun c2=>?_,fun c2=>?_⟩
  ·try simp at c2
   refine zk [0,1,5,7,8] ?_
   refine zr ⟨[],[],[],[7,14],[]⟩ fun _ _ Z=>?_
   simp (disch:=omega)[hσ,hcs]
   and_intros<;>try omega
   apply Z
   apply awp_ret
   apply q_block_r
   apply q_then_r
   apply q_loop_r
   apply q_block_r
   apply q_then_r
   simp [endQ]
   exact (idxP_at c1 hh c2).symm
  ·try simp at c2
   apply awp_skip
   apply q_block_n
   apply q_then_n
   refine zk [0,1,7,8] ?_
   refine zt ⟨[],[],[],[7,14],[]⟩ fun _ _ Z=>?_
   simp (disch:=omega)[hσ,hcs]
   and_intros<;>try omega
   apply Z
   refine q_round (k + 1) ?_ ?_ (weak_mkA rfl ?_ (by simp) (by simp))
   ·exact ⟨by omega, all_take (by omega) hh c2⟩
   ·try dsimp only
    omega
   ·simp (disch:=omega)[hσ,hcs]
 ·try simp at c1
  apply awp_exit
  apply q_then_e
  apply q_loop_e
  apply q_block_e
  apply q_then_n
  refine zr ⟨[],[],[],[7,14],[]⟩ fun _ _ Z=>?_
  simp (disch:=omega)[hσ,hcs]
  and_intros<;>try omega
  apply Z
  apply awp_ret
  simp [endQ]
  rw [List.take_of_length_le (by omega)] at hh; exact (idxP_none hh).symm
theorem pdelete0_fn (l : List PI) (p : PI → Bool) (f : FuncId) (caps : List D) (σ : List (List D)) (hl : l.length ≤ 1000000) (hcp : ∀ d ∈ caps, d.plain = true) (hcs : caps.map D.strip = caps) (hp : ∀ x τ, Ct Tryz.prog f (d_PI x :: caps) τ (fun r τ' => r = .bool (p x) ∧ τ' = τ)) : Ct Tryz.prog 162 [.xs 2 (l.map d_PI), .clo (.func f) [] caps] σ (fun r σ' => r = .xs 2 ((l.filter fun x => !p x).map d_PI) ∧ σ' = σ ++ [[]]) := by
 refine zf (rs:=[.tmp 4]) Tryz.func162 Tryz.ntmps162 Tryz.results162 ?_
 simp only [argEnv]
 refine awp_openX 0 2 rfl (by decide) fun cap rest hcap hcm hrest hk0 hes => ?_
 simp only [List.length_map] at hcap hrest ⊢
 rw [p_flat]
 refine zr ⟨[4,13],[],[],[18,24,33,38,41],[]⟩ fun _ _ Z=>?_
 simp (disch:=first|omega|assumption)[hcs,pclear]
 and_intros<;>try first|omega|exact rfl
 apply Z
 refine zr ⟨[4,13],[],[],[18,24,33,38,41],[]⟩ fun _ _ Z=>?_
 refine vcL_split 2 fun _ Y=>?_
 simp (disch:=first|omega|assumption)[hcs,pclear]
 and_intros<;>try first|omega|exact rfl
 apply Y
 simp only [List.drop]
 refine vcL_step fun _ Y=>?_
 simp (disch:=first|omega|assumption)[hcs,pclear]
 refine zce (pindexO_fn l p f caps σ.length cap rest _ (by omega) (by simp) hcp hcs hp) ?_
 apply Y
 simp (disch:=first|omega|assumption)[hcs,pclear]
 and_intros<;>try first|omega|exact rfl
 apply Z
 apply awp_seq
 refine zr ⟨[4,13],[],[],[18,24,33,38,41],[]⟩ fun _ _ Z=>?_
 simp (disch:=first|omega|assumption)[hcs,pclear]
 and_intros<;>try first|omega|exact rfl
 apply Z
 refine zi ?_
 refine ⟨fun c1=>?_,fun c1=>?_⟩
 ·try simp at c1
  refine zr ⟨[4,13],[],[],[18,24,33,38,41],[]⟩ fun _ _ Z=>?_
  simp (disch:=first|omega|assumption)[hcs,pclear]
  and_intros<;>try first|omega|exact rfl
  apply Z
  refine awp_closeX 4 2 σ.length l.length cap (l.map d_PI) (l.flatMap cP ++ rest) (by simp <;> rfl) (by simp) (by omega) (by simp [hrest, zerosD_len (z := #[.string ⟨#[]⟩, .int .i64 0]) (k := 2) rfl]; omega) (by simp) (p_arr _) (by rw [p_flat]; exact List.prefix_append _ _) ?_
  simp only [set_last]
  apply awp_ret
  apply q_then_r
  simp [endQ]
  rcases idxP_cases p l with ⟨_, h⟩ | ⟨k, h, _⟩
  ·rw [h]
  ·omega
 ·try simp at c1
  obtain ⟨k0, e0, e1, e2, e3⟩ := idxP_pos c1
  rw [e0]
  apply awp_skip
  apply q_then_n
  apply awp_seq
  refine zr ⟨[4,13],[],[],[18,24,33,38,41],[]⟩ fun _ _ Z=>?_
  simp (disch:=first|omega|assumption)[hcs,pclear]
  and_intros<;>try first|omega|exact rfl
  apply Z
  apply awp_block
  refine zk [0,1,4,5,6] ?_
  refine awp_loopM (fun (j : Nat) => [(5, .d (.v (.int .i64 ((kp p l j).length : Int)))), (6, .d (.v (.int .i64 (j : Int))))]) (fun (j : Nat) => []) (fun (j : Nat) => [(σ.length, (ar p l j).flatMap cP ++ rest)]) [5, 6, 7, 16, 17, 18, 19, 20, 21, 22, 23, 24, 25, 26, 27, 28, 29, 30, 31, 32, 33, 34, 35] (fun (j : Nat) => j ≤ l.length) (fun (j : Nat) => l.length - j) (k0 + 1) (by simp <;> rfl) ?_ (by simp) (by simp [e1]) ?_ ?_
  ·simp [e1, e2]
  ·omega
  rintro j hj
  simp only [List.cons_append, List.nil_append, setL_nil, setL_cons, List.set_cons_zero, List.set_cons_succ]
  have hkl := kp_le p l j hj
  have hal := ar_len p l j
  apply awp_seq
  refine zr ⟨[4,13],[],[],[18,24,33,38,41],[]⟩ fun _ _ Z=>?_
  simp (disch:=first|omega|assumption)[hcs,pclear]
  and_intros<;>try first|omega|exact rfl
  apply Z
  refine zi ?_
  refine ⟨fun c2=>?_,fun c2=>?_⟩
  ·try simp at c2
   apply awp_skip
   apply q_then_n
   apply awp_seq
   apply awp_block
   refine zr ⟨[4,13],[],[],[18,24,33,38,41],[]⟩ fun _ _ Z=>?_
   simp (disch:=first|omega|assumption)[hcs,pclear]
   and_intros<;>try first|omega|exact rfl
   apply Z
   refine zk [0,1,4,5,6,7] ?_
   refine zr ⟨[4,13],[],[],[18,24,33,38,41],[]⟩ fun _ _ Z=>?_
   refine vcL_split 2 fun _ Y=>?_
   simp (disch:=first|omega|assumption)[hcs,pclear]
   and_intros<;>try first|omega|exact rfl
   apply Y
   simp only [List.drop]
   refine vcL_step fun _ Y=>?_
   simp (disch:=first|omega|assumption)[hcs,pclear]
   simp only [ar_at p l j (by omega)]
   refine ⟨hcp, ?_⟩
   refine zce (hp l[j] _) ?_
   apply Y
   simp (disch:=first|omega|assumption)[hcs,pclear]
   and_intros<;>try first|omega|exact rfl
   apply Z
   refine zi ?_
   refine ⟨fun c3=>?_,fun c3=>?_⟩
   ·try simp at c3
    refine zr ⟨[4,13],[],[],[18,24,33,38,41],[]⟩ fun _ _ Z=>?_
    simp (disch:=first|omega|assumption)[hcs,pclear]
    and_intros<;>try first|omega|exact rfl
    apply Z
    refine zk [0,1,4,5,6] ?_
    refine zt ⟨[4,13],[],[],[18,24,33,38,41],[]⟩ fun _ _ Z=>?_
    simp (disch:=first|omega|assumption)[hcs,pclear]
    and_intros<;>try first|omega|exact rfl
    apply Z
    apply q_block_n
    apply q_then_n
    refine zt ⟨[4,13],[],[],[18,24,33,38,41],[]⟩ fun _ _ Z=>?_
    simp (disch:=first|omega|assumption)[hcs,pclear]
    and_intros<;>try first|omega|exact rfl
    apply Z
    refine q_round (j + 1) ?_ ?_ (weak_mkA rfl ?_ (by simp) (by first | (simp [← (ar_no p l j (by omega) c3).1]; done) | (simp [(ar_no p l j (by omega) c3).1]; done)))
    ·omega
    ·try dsimp only
     omega
    ·simp (disch:=first|omega|assumption)[hcs,pclear,(ar_no p l j (by omega) c3).2]
   ·try simp at c3
    apply awp_skip
    apply q_block_n
    apply q_then_n
    refine zt ⟨[4,13],[],[],[18,24,33,38,41],[]⟩ fun _ _ Z=>?_
    simp (disch:=first|omega|assumption)[hcs,pclear]
    and_intros<;>try first|omega|exact rfl
    apply Z
    refine q_round (j + 1) ?_ ?_ (weak_mkA rfl ?_ (by simp) (by simp [(ar_yes p l j (by omega) c3).1]))
    ·omega
    ·try dsimp only
     omega
    ·simp (disch:=first|omega|assumption)[hcs,pclear,(ar_yes p l j (by omega) c3).2]
  ·try simp at c2
   apply awp_exit
   apply q_then_e
   apply q_loop_e
   apply q_block_e
   apply q_then_n
   refine zr ⟨[4,13],[],[],[18,24,33,38,41],[]⟩ fun _ _ Z=>?_
   simp (disch:=first|omega|assumption)[hcs,pclear]
   and_intros<;>try first|omega|exact rfl
   apply Z
   refine zk [0,4,5] ?_
   refine zr ⟨[4,13],[],[],[18,24,33,38,41],[]⟩ fun _ _ Z=>?_
   simp (disch:=first|omega|assumption)[hcs,pclear]
   and_intros<;>try first|omega|exact rfl
   apply Z
   refine awp_closeX 4 2 σ.length (kp p l j).length cap ((kp p l j).map d_PI) ((kp p l j).flatMap cP ++ (zerosD #[.string ⟨#[]⟩, .int .i64 0] (l.length - (kp p l j).length) ++ rest)) (by simp <;> rfl) (by simp) (by omega) (by simp [hrest, zerosD_len (z := #[.string ⟨#[]⟩, .int .i64 0]) (k := 2) rfl]; omega) (by simp) (p_arr _) (by rw [p_flat]; exact List.prefix_append _ _) ?_
   simp only [set_last]
   apply awp_ret
   simp [endQ]
   unfold kp; rw [List.take_of_length_le (by omega)]
theorem pdelete_fn (l : List PI) (p : PI → Bool) (f : FuncId) (caps : List D) (σ : List (List D)) (hl : l.length ≤ 1000000) (hcp : ∀ d ∈ caps, d.plain = true) (hcs : caps.map D.strip = caps) (hp : ∀ x τ, Ct Tryz.prog f (d_PI x :: caps) τ (fun r τ' => r = .bool (p x) ∧ τ' = τ)) :
  Ct Tryz.prog 162 [.xs 2 (l.map d_PI), .clo (.func f) [] caps] σ (fun r σ' => r = .xs 2 ((l.filter fun x => !p x).map d_PI) ∧ σ' = σ) :=
 (pdelete0_fn l p f caps σ hl hcp hcs hp).trim fun r σ' ⟨hr, hs⟩ => ⟨σ, [[]], hs, rfl, by rw [hr]; exact p_sc _ _, fun n cs h => .inl h, hr, rfl⟩
theorem pclone_fn (l : List PI) (σ : List (List D)) (hl : l.length ≤ 1000000) : Ct Tryz.prog 109 [.sl false (l.map d_PI)] σ (fun r σ' => r = .sl true (l.map d_PI) ∧ σ' = σ) := by
 refine zf (rs:=[.tmp 2]) Tryz.func109 Tryz.ntmps109 Tryz.results109 ?_
 simp only [argEnv]
 refine zr ⟨[2],[],[],[],[]⟩ fun _ _ Z=>?_
 simp
 and_intros<;>try omega
 apply Z
 apply awp_seq
 refine zr ⟨[2],[],[],[],[]⟩ fun _ _ Z=>?_
 refine vcL_split 1 fun _ Y=>?_
 simp
 and_intros<;>try omega
 apply Y
 simp only [List.drop]
 refine vcL_step fun _ Y=>?_
 simp
 refine ⟨Y _ ?_, fun e1 => Y _ ?_⟩
 ·skip
  simp only [vcL_nil]
  apply Z
  refine awp_cond (t := false) (by simp) (fun h => by cases h) (fun _ => ?_)
  apply awp_skip
  apply q_then_n
  refine zr ⟨[2],[],[],[],[]⟩ fun _ _ Z=>?_
  simp
  and_intros<;>try omega
  apply Z
  apply awp_ret
  simp [endQ]
 ·skip
  simp only [vcL_nil]
  apply Z
  refine awp_cond (t := true) (by simp) (fun _ => ?_) (fun h => by cases h)
  refine zr ⟨[2],[],[],[],[]⟩ fun _ _ Z=>?_
  simp
  and_intros<;>try omega
  apply Z
  apply awp_ret
  apply q_then_r
  simp [endQ, e1]
theorem iclone0_fn (N cap : Nat) (l : List Int) (rest : List D) (σ : List (List D)) (hl : l.length ≤ 1000000) (hN : σ[N]? = some (l.map D.int ++ rest)) : Ct Tryz.prog 107 [.slo N 0 l.length cap] σ (fun r σ' => baseX 1 (l.map D.int) r ∧ σ' = σ) := by
 refine zf (rs:=[.tmp 2]) Tryz.func107 Tryz.ntmps107 Tryz.results107 ?_
 simp only [argEnv]
 refine zr ⟨[2,7],[],[],[],[7]⟩ fun _ _ Z=>?_
 simp[hN]
 and_intros<;>try omega
 apply Z
 apply awp_seq
 refine zr ⟨[2,7],[],[],[],[7]⟩ fun _ _ Z=>?_
 refine vcL_split 1 fun _ Y=>?_
 simp[hN]
 and_intros<;>try omega
 apply Y
 simp only [List.drop]
 refine vcL_step fun _ Y=>?_
 simp[hN]
 refine ⟨Y _ ?_, fun e1 => Y _ ?_⟩
 ·skip
  simp only [vcL_nil]
  apply Z
  refine awp_cond (t := false) (by simp) (fun h => by cases h) (fun _ => ?_)
  apply awp_skip
  apply q_then_n
  refine zr ⟨[2,7],[],[],[],[7]⟩ fun _ _ Z=>?_
  refine vcL_split 3 fun _ Y=>?_
  simp[hN]
  refine ⟨l.map D.int, ⟨⟨by simp, by rw [flat_one (f := D.int) (fun _ => rfl)]; exact List.prefix_append _ _⟩, map_ok (d := D.int) (fun _ => ⟨rfl, rfl⟩) _, by first | rfl | trivial⟩, ⟨by simp; omega, by simp; omega⟩, ?_⟩
  and_intros<;>try omega
  apply Y
  simp only [List.drop]
  simp[hN]
  and_intros<;>try omega
  apply Z
  apply awp_ret
  simp [endQ, baseX]
 ·skip
  simp only [vcL_nil]
  apply Z
  refine awp_cond (t := true) (by simp) (fun _ => ?_) (fun h => by cases h)
  refine zr ⟨[2,7],[],[],[],[7]⟩ fun _ _ Z=>?_
  simp[hN]
  and_intros<;>try omega
  apply Z
  apply awp_ret
  apply q_then_r
  simp [endQ, baseX, e1]
theorem iclone_fn (N cap : Nat) (l : List Int) (rest : List D) (σ : List (List D)) (hl : l.length ≤ 1000000) (hN : σ[N]? = some (l.map D.int ++ rest)) : Ct Tryz.prog 107 [.slo N 0 l.length cap] σ (fun r σ' => r = .sl false (l.map D.int) ∧ σ' = σ) := ((iclone0_fn N cap l rest σ hl hN).toX fun _ _ h => h).freeze fun _ _ h => h
def idxI (c : Int) (l : List Int) : Int := idxP (fun x => decide (x = c)) l
theorem iindex_fn (N cap : Nat) (l : List Int) (rest : List D) (c : Int) (σ : List (List D)) (hl : l.length ≤ 1000000) (hN : σ[N]? = some (l.map D.int ++ rest)) : Ct Tryz.prog 54 [.slo N 0 l.length cap, D.int c] σ (fun r σ' => r = .int (idxI c l) ∧ σ' = σ) := by
 refine zf (rs:=[.tmp 4]) Tryz.func54 Tryz.ntmps54 Tryz.results54 ?_
 simp only [argEnv]
 refine zr ⟨[],[],[],[7,14],[]⟩ fun _ _ Z=>?_
 simp (disch:=omega)[hN,row_get]
 and_intros<;>try omega
 apply Z
 apply awp_seq
 refine zr ⟨[],[],[],[7,14],[]⟩ fun _ _ Z=>?_
 simp (disch:=omega)[hN,row_get]
 and_intros<;>try omega
 apply Z
 apply awp_block
 refine zk [0,1,4,7,8] ?_
 refine awp_loopE (fun (k : Nat) => [(8, .d (.v (.int .i64 (k : Int)))), (5, .d (.any))]) [4, 5, 8, 9, 10, 11, 12, 13, 14, 15, 16, 17, 18] (fun (k : Nat) => k ≤ l.length ∧ ∀ x ∈ l.take k, decide (x = c) = false) (fun (k : Nat) => l.length - k) (0) (by simp <;> rfl) ?_ ?_ ?_
 ·simp
 ·simp
 rintro k ⟨hk, hh⟩
 simp only [List.cons_append, List.nil_append]
 refine zr ⟨[],[],[],[7,14],[]⟩ fun _ _ Z=>?_
 simp (disch:=omega)[hN,row_get]
 and_intros<;>try omega
 apply Z
 apply awp_seq
 refine zi ?_
 refine ⟨fun c1=>?_,fun c1=>?_⟩
 ·try simp at c1
  apply awp_skip
  apply q_then_n
  apply awp_seq
  apply awp_block
  refine zr ⟨[],[],[],[7,14],[]⟩ fun _ _ Z=>?_
  simp (disch:=omega)[hN,row_get]
  and_intros<;>try omega
  apply Z
  refine zr ⟨[],[],[],[7,14],[]⟩ fun _ _ Z=>?_
  simp (disch:=omega)[hN,row_get]
  and_intros<;>try omega
  apply Z
  refine zi ?_
  refine ⟨fun c2=>?_,fun c2=>?_⟩
  ·try simp at c2
   refine zk [0,1,5,7,8] ?_
   refine zr ⟨[],[],[],[7,14],[]⟩ fun _ _ Z=>?_
   simp (disch:=omega)[hN,row_get]
   and_intros<;>try omega
   apply Z
   apply awp_ret
   apply q_block_r
   apply q_then_r
   apply q_loop_r
   apply q_block_r
   apply q_then_r
   simp [endQ]
   exact (idxP_at c1 hh (by simp; exact c2.symm)).symm
  ·try simp at c2
   apply awp_skip
   apply q_block_n
   apply q_then_n
   refine zk [0,1,5,7,8] ?_
   refine zt ⟨[],[],[],[7,14],[]⟩ fun _ _ Z=>?_
   simp (disch:=omega)[hN,row_get]
   and_intros<;>try omega
   apply Z
   refine q_round (k + 1) ?_ ?_ (weak_mkA rfl ?_ (by simp) (by simp))
   ·exact ⟨by omega, all_take (by omega) hh (by simp; exact fun e => c2 e.symm)⟩
   ·try dsimp only
    omega
   ·simp (disch:=omega)[hN,row_get]
 ·try simp at c1
  apply awp_exit
  apply q_then_e
  apply q_loop_e
  apply q_block_e
  apply q_then_n
  refine zr ⟨[],[],[],[7,14],[]⟩ fun _ _ Z=>?_
  simp (disch:=omega)[hN,row_get]
  and_intros<;>try omega
  apply Z
  apply awp_ret
  simp [endQ]
  rw [List.take_of_length_le (by omega)] at hh; exact (idxP_none hh).symm
end Go.Proofs.YtpfmpeaekgdgnaaGreat


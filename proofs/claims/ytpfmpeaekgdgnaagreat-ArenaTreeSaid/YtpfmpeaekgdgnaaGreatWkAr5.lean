import Derived.Test.YtpfmpeaekgdgnaaGreatArProps
namespace Go.Proofs.YtpfmpeaekgdgnaaGreat
open Go Go.Vm
set_option maxRecDepth 20000
set_option linter.all false
set_option maxHeartbeats 8000000
abbrev nA : AT → ByteArray := AT.name
abbrev nP : PI → ByteArray := PI.name
theorem half_eq (a b : Nat) : Int.fdiv ((a : Int) + (b : Int)) (2 ^ min 1 IntKind.u64.bits) = (((a + b) / 2 : Nat) : Int) := by
 have e : (2 : Int) ^ min 1 IntKind.u64.bits = 2 := by decide
 rw [e, Int.fdiv_eq_ediv_of_nonneg _ (by omega)]; omega
theorem u64_min : IntKind.u64.min = 0 := rfl
theorem u64_max : IntKind.u64.max = 18446744073709551615 := by decide
theorem inR_u64 (n : Int) : inR .u64 n = (0 ≤ n ∧ n ≤ 18446744073709551615) := by
 show (IntKind.u64.min ≤ n ∧ n ≤ IntKind.u64.max) = _
 rw [u64_min, u64_max]
theorem isnan_fn (s : ByteArray) (σ : List (List D))  : Ct Tryz.prog 165 [D.str s] σ (fun r σ' => r = .bool false ∧ σ' = σ) := by
 refine zf (rs:=[.tmp 2]) Tryz.func165 Tryz.ntmps165 Tryz.results165 ?_
 simp only [argEnv]
 refine zr0 fun _ _ Z=>?_
 simp
 and_intros<;>try omega
 apply Z
 refine zr0 fun _ _ Z=>?_
 simp
 and_intros<;>try omega
 apply Z
 apply awp_ret
 simp [endQ]
theorem compare_fn (a b : ByteArray) (σ : List (List D))  : Ct Tryz.prog 152 [D.str a, D.str b] σ (fun r σ' => r = .int (cmpB a b) ∧ σ' = σ) := by
 refine zf (rs:=[.tmp 4]) Tryz.func152 Tryz.ntmps152 Tryz.results152 ?_
 simp only [argEnv]
 refine zr0 fun _ _ Z=>?_
 simp
 and_intros<;>try omega
 apply Z
 refine zr0 fun _ _ Z=>?_
 refine vcL_split 1 fun _ Y=>?_
 simp
 and_intros<;>try omega
 apply Y
 simp only [List.drop]
 refine vcL_step fun _ Y=>?_
 simp
 refine zce (isnan_fn a _) ?_
 apply Y
 simp
 and_intros<;>try omega
 apply Z
 refine zr0 fun _ _ Z=>?_
 refine vcL_split 1 fun _ Y=>?_
 simp
 and_intros<;>try omega
 apply Y
 simp only [List.drop]
 refine vcL_step fun _ Y=>?_
 simp
 refine zce (isnan_fn b _) ?_
 apply Y
 simp
 and_intros<;>try omega
 apply Z
 apply awp_seq
 refine zr0 fun _ _ Z=>?_
 simp
 and_intros<;>try omega
 apply Z
 refine zi ?_
 refine ⟨fun c1=>?_,fun c1=>?_⟩
 ·simp at c1
 ·try simp at c1
  apply awp_skip
  apply q_then_n
  apply awp_seq
  refine zr0 fun _ _ Z=>?_
  simp
  and_intros<;>try omega
  apply Z
  refine zi ?_
  refine ⟨fun c2=>?_,fun c2=>?_⟩
  ·simp at c2
  ·try simp at c2
   apply awp_skip
   apply q_then_n
   apply awp_seq
   refine zr0 fun _ _ Z=>?_
   simp
   and_intros<;>try omega
   apply Z
   refine zi ?_
   refine ⟨fun c3=>?_,fun c3=>?_⟩
   ·try simp at c3
    refine zk [0,1,4] ?_
    refine zr0 fun _ _ Z=>?_
    simp
    and_intros<;>try omega
    apply Z
    apply awp_ret
    apply q_then_r
    simp [endQ, cmpB, lessB, *]
   ·try simp at c3
    apply awp_skip
    apply q_then_n
    apply awp_seq
    refine zk [0,1,4] ?_
    refine zr0 fun _ _ Z=>?_
    simp
    and_intros<;>try omega
    apply Z
    refine zi ?_
    refine ⟨fun c4=>?_,fun c4=>?_⟩
    ·try simp at c4
     refine zr0 fun _ _ Z=>?_
     simp
     and_intros<;>try omega
     apply Z
     apply awp_ret
     apply q_then_r
     simp [endQ, cmpB, lessB, *]
    ·try simp at c4
     apply awp_skip
     apply q_then_n
     refine zr0 fun _ _ Z=>?_
     simp
     and_intros<;>try omega
     apply Z
     apply awp_ret
     simp [endQ, cmpB, lessB, *]
theorem awh1_fn (x : AT) (s : ByteArray) (σ : List (List D))  : Ct Tryz.prog 151 [d_AT x, D.str s] σ (fun r σ' => r = .int (cmpB x.name s) ∧ σ' = σ) := by
 refine zf (rs:=[.tmp 4]) Tryz.func151 Tryz.ntmps151 Tryz.results151 ?_
 simp only [argEnv]
 refine zr0 fun _ _ Z=>?_
 simp
 and_intros<;>try omega
 apply Z
 refine zr0 fun _ _ Z=>?_
 refine vcL_split 3 fun _ Y=>?_
 simp
 and_intros<;>try omega
 apply Y
 simp only [List.drop]
 refine vcL_step fun _ Y=>?_
 simp
 refine zce (compare_fn x.name s _) ?_
 apply Y
 simp
 and_intros<;>try omega
 apply Z
 apply awp_ret
 simp [endQ]
theorem abs_fn (N cap : Nat) (l : List AT) (rest : List D) (c : ByteArray) (σ : List (List D)) (hl : l.length ≤ 1000000) (hN : σ[N]? = some (l.flatMap cA ++ rest)) (hs : Sorted nA l) : Ct Tryz.prog 150 [.slo N 0 l.length cap, D.str c, .clo (.func 151) [] []] σ (fun r σ' => r = .tup [.int ((posL nA l c : Nat) : Int), .bool (fnd nA l c)] ∧ σ' = σ) := by
 refine zf (rs:=[.tmp 6,.tmp 7]) Tryz.func150 Tryz.ntmps150 Tryz.results150 ?_
 simp only [argEnv]
 refine zr ⟨[],[],[],[13,27,43],[]⟩ fun _ _ Z=>?_
 simp (disch:=omega)[hN,half_eq,inR_u64]
 and_intros<;>try omega
 apply Z
 refine zr ⟨[],[],[],[13,27,43],[]⟩ fun _ _ Z=>?_
 simp (disch:=omega)[hN,half_eq,inR_u64]
 and_intros<;>try omega
 apply Z
 refine zr ⟨[],[],[],[13,27,43],[]⟩ fun _ _ Z=>?_
 simp (disch:=omega)[hN,half_eq,inR_u64]
 and_intros<;>try omega
 apply Z
 apply awp_seq
 apply awp_block
 refine zk [0,1,2,6,7,8,9,10] ?_
 refine awp_loopE (fun (s : Nat × Nat) => [(9, .d (.v (.int .i64 (s.1 : Int)))), (10, .d (.v (.int .i64 (s.2 : Int)))), (11, .d (.any))]) [9, 10, 11, 15, 16, 17, 18, 19, 20, 21, 22, 23, 24, 25, 26, 27, 28, 29, 30, 31, 32, 33, 34] (fun (s : Nat × Nat) => s.1 ≤ s.2 ∧ s.2 ≤ l.length ∧ (∀ j (h : j < l.length), j < s.1 → lessB l[j].name c = true) ∧ (∀ j (h : j < l.length), s.2 ≤ j → lessB l[j].name c = false)) (fun (s : Nat × Nat) => s.2 - s.1) ((0, l.length)) (by simp <;> rfl) ?_ ?_ ?_
 ·simp
 ·exact ⟨by omega, by omega, fun j h h2 => absurd h2 (by simp), fun j h h2 => absurd h2 (by simp; omega)⟩
 rintro ⟨lo, hi⟩ ⟨h1, h2, h3, h4⟩
 simp only [List.cons_append, List.nil_append]
 dsimp only at h1 h2 h3 h4
 have hmid : lo < hi → (lo + hi) / 2 < hi := fun h => by omega
 apply awp_seq
 refine zr ⟨[],[],[],[13,27,43],[]⟩ fun _ _ Z=>?_
 simp (disch:=omega)[hN,half_eq,inR_u64]
 and_intros<;>try omega
 apply Z
 refine zi ?_
 refine ⟨fun c1=>?_,fun c1=>?_⟩
 ·try simp at c1
  apply awp_skip
  apply q_then_n
  apply awp_block
  refine zk [0,1,2,6,7,8,9,10,11] ?_
  refine zr ⟨[],[],[],[13,27,43],[]⟩ fun _ _ Z=>?_
  simp (disch:=omega)[hN,half_eq,inR_u64]
  and_intros<;>try omega
  apply Z
  refine zk [0,1,2,6,7,8,9,10,11] ?_
  refine zr ⟨[],[],[],[13,27,43],[]⟩ fun _ _ Z=>?_
  refine vcL_split 6 fun _ Y=>?_
  simp (disch:=omega)[hN,half_eq,inR_u64]
  and_intros<;>try omega
  apply Y
  simp only [List.drop]
  refine vcL_step fun _ Y=>?_
  simp (disch:=omega)[hN,half_eq,inR_u64]
  refine zce (awh1_fn l[(lo + hi) / 2] c _) ?_
  apply Y
  simp (disch:=omega)[hN,half_eq,inR_u64]
  and_intros<;>try omega
  apply Z
  refine zi ?_
  refine ⟨fun c2=>?_,fun c2=>?_⟩
  ·try simp at c2
   refine zk [0,1,2,6,7,8,9,10,11] ?_
   refine zt ⟨[],[],[],[13,27,43],[]⟩ fun _ _ Z=>?_
   simp (disch:=omega)[hN,half_eq,inR_u64]
   and_intros<;>try omega
   apply Z
   apply q_block_n
   refine q_round (((lo + hi) / 2 + 1, hi)) ?_ ?_ (weak_mkA rfl ?_ (by simp) (by simp))
   ·exact ⟨by dsimp only; omega, by dsimp only; omega, bs_lo nA hs (by omega) (by simpa [cmpB_neg] using c2), h4⟩
   ·try dsimp only
    omega
   ·simp (disch:=omega)[hN,half_eq,inR_u64]
  ·try simp at c2
   refine zk [0,1,2,6,7,8,9,10,11] ?_
   refine zt ⟨[],[],[],[13,27,43],[]⟩ fun _ _ Z=>?_
   simp (disch:=omega)[hN,half_eq,inR_u64]
   and_intros<;>try omega
   apply Z
   apply q_block_n
   refine q_round ((lo, (lo + hi) / 2)) ?_ ?_ (weak_mkA rfl ?_ (by simp) (by simp))
   ·exact ⟨by dsimp only; omega, by dsimp only; omega, h3, bs_hi nA hs (by omega) ((cmpB_nn _ _).1 (by omega))⟩
   ·try dsimp only
    omega
   ·simp (disch:=omega)[hN,half_eq,inR_u64]
 ·try simp at c1
  obtain rfl : lo = hi := by omega
  have hpos : posL nA l c = lo := posL_of nA l c lo h2 h3 (fun h => h4 lo h (Nat.le_refl _))
  apply awp_exit
  apply q_then_e
  apply q_loop_e
  apply q_block_e
  apply q_then_n
  refine zk [0,1,2,6,7,8,9] ?_
  refine zrg ⟨[],[],[],[13,27,43],[]⟩ fun all hall _ Z=>?_
  have ga4 : guardOf all 4 = some 39 := hall 4
  refine vcL_split 5 fun _ Y=>?_
  simp (disch:=omega)[hN,half_eq,inR_u64,ga4]
  and_intros<;>try omega
  apply Y
  simp only [List.drop]
  refine vcL_bool 39 (by simp <;> rfl) ?_
  refine ⟨fun g3 => ?_, fun g3 => ?_⟩
  ·try simp at g3
   refine vcL_split 6 fun _ Y=>?_
   simp (disch:=omega)[hN,half_eq,inR_u64,ga4]
   and_intros<;>try omega
   apply Y
   simp only [List.drop]
   refine zg ga4 fun _ Y=>?_
   simp (disch:=omega)[hN,half_eq,inR_u64,ga4]
   refine zce (awh1_fn l[lo] c _) ?_
   apply Y
   simp (disch:=omega)[hN,half_eq,inR_u64,ga4]
   and_intros<;>try omega
   apply Z
   apply awp_ret
   simp [endQ, hpos, fnd_at, *]
   exact cmpB_zero _ _
  ·try simp at g3
   refine vcL_split 8 fun _ Y=>?_
   simp (disch:=omega)[hN,half_eq,inR_u64,ga4]
   and_intros<;>try omega
   apply Y
   simp only [List.drop]
   simp (disch:=omega)[hN,half_eq,inR_u64,ga4]
   and_intros<;>try omega
   apply Z
   apply awp_ret
   simp [endQ, hpos, *]
   exact fnd_out _ _ _ (by omega)
theorem awh_fn (N cap : Nat) (l : List AT) (rest : List D) (c : ByteArray) (σ : List (List D)) (hl : l.length ≤ 1000000) (hN : σ[N]? = some (l.flatMap cA ++ rest)) (hs : Sorted nA l) : Ct Tryz.prog 134 [.slo N 0 l.length cap, D.str c] σ (fun r σ' => r = .tup [.int ((posL nA l c : Nat) : Int), .bool (fnd nA l c)] ∧ σ' = σ) := by
 refine zf (rs:=[.tmp 4,.tmp 5]) Tryz.func134 Tryz.ntmps134 Tryz.results134 ?_
 simp only [argEnv]
 refine zr0 fun _ _ Z=>?_
 simp[hN]
 and_intros<;>try omega
 apply Z
 refine zr0 fun _ _ Z=>?_
 refine vcL_split 2 fun _ Y=>?_
 simp[hN]
 and_intros<;>try omega
 apply Y
 simp only [List.drop]
 refine vcL_step fun _ Y=>?_
 simp[hN]
 refine zce (abs_fn N cap l rest c _ hl hN hs) ?_
 apply Y
 simp[hN]
 and_intros<;>try omega
 apply Z
 apply awp_ret
 simp [endQ]
theorem aput0_fn (l : List AT) (p : AT) (σ : List (List D)) (hl : l.length ≤ 999999) (hs : Sorted nA l) : Ct Tryz.prog 114 [.xs 2 (l.map d_AT), d_AT p] σ (fun r σ' => r = .xs 2 ((putL nA l p).map d_AT) ∧ ∃ J, σ' = σ ++ J) := by
 refine zf (rs:=[.tmp 4]) Tryz.func114 Tryz.ntmps114 Tryz.results114 ?_
 simp only [argEnv]
 refine awp_openX2 0 2 rfl (by decide) fun cap rest hcap hcm hrest hk0 hes => ?_
 subst hrest
 simp only [List.length_map] at hcap ⊢
 rw [rows_flat (f := cA) (fun _ => rfl)]
 have hpl := posL_le nA l p.name
 refine zr ⟨[4,19,20,24],[],[],[18],[]⟩ fun _ _ Z=>?_
 simp (disch:=omega)[og_at0,og_put0]
 and_intros<;>try omega
 apply Z
 refine zr ⟨[4,19,20,24],[],[],[18],[]⟩ fun _ _ Z=>?_
 refine vcL_split 3 fun _ Y=>?_
 simp (disch:=omega)[og_at0,og_put0]
 and_intros<;>try omega
 apply Y
 simp only [List.drop]
 refine vcL_step fun _ Y=>?_
 simp (disch:=omega)[og_at0,og_put0]
 refine zce (awh_fn σ.length cap l (List.replicate ((cap - l.length) * 2) .any) p.name _ (by omega) (by simp [og_at0]) hs) ?_
 apply Y
 simp (disch:=omega)[og_at0,og_put0]
 and_intros<;>try omega
 apply Z
 apply awp_seq
 refine zr ⟨[4,19,20,24],[],[],[18],[]⟩ fun _ _ Z=>?_
 simp (disch:=omega)[og_at0,og_put0]
 and_intros<;>try omega
 apply Z
 refine zi ?_
 refine ⟨fun c1=>?_,fun c1=>?_⟩
 ·try simp at c1
  have hlt := fnd_lt nA c1
  refine zk [0,3,4,5] ?_
  refine zr ⟨[4,19,20,24],[],[],[18],[]⟩ fun _ _ Z=>?_
  simp (disch:=omega)[og_at0,og_put0]
  and_intros<;>try omega
  apply Z
  refine zr ⟨[4,19,20,24],[],[],[18],[]⟩ fun _ _ Z=>?_
  simp (disch:=omega)[og_at0,og_put0]
  and_intros<;>try omega
  apply Z
  refine awp_closeX 4 2 σ.length l.length cap ((l.set (posL nA l p.name) p).map d_AT) ((l.set (posL nA l p.name) p).flatMap cA ++ List.replicate ((cap - l.length) * 2) .any) (by simp <;> rfl) (by simp [og_at0]) (by omega) (by simp only [List.length_append, rows_len (f := cA) (k := 2) (fun _ => rfl), List.length_replicate, List.length_set]; omega) (by simp) (map_ok (d := d_AT) (fun _ => ⟨rfl, rfl⟩) _) (by rw [rows_flat (f := cA) (fun _ => rfl)]; exact List.prefix_append _ _) ?_
  apply awp_ret
  apply q_then_r
  simp [endQ, putL_eq, c1]
 ·try simp at c1
  apply awp_skip
  apply q_then_n
  refine awp_closeX 0 2 σ.length l.length cap (l.map d_AT) (l.flatMap cA ++ List.replicate ((cap - l.length) * 2) .any) (by simp <;> rfl) (by simp [og_at0]) (by omega) (by simp only [List.length_append, rows_len (f := cA) (k := 2) (fun _ => rfl), List.length_replicate, List.length_set]; omega) (by simp) (map_ok (d := d_AT) (fun _ => ⟨rfl, rfl⟩) _) (by rw [rows_flat (f := cA) (fun _ => rfl)]; exact List.prefix_append _ _) ?_
  refine zk [0,3,4,5] ?_
  refine zr ⟨[4,19,20,24],[],[],[18],[]⟩ fun _ _ Z=>?_
  refine vcL_split 4 fun _ Y=>?_
  simp (disch:=omega)[og_at0,og_put0]
  and_intros<;>try omega
  apply Y
  simp only [List.drop]
  refine vcL_step fun _ Y=>?_
  simp (disch:=omega)[og_at0,og_put0]
  refine zce (ains_fn l p (posL nA l p.name) _ (by omega) hpl) ?_
  apply Y
  simp (disch:=omega)[og_at0,og_put0]
  and_intros<;>try omega
  apply Z
  apply awp_ret
  simp [endQ, putL_eq, c1]
theorem aput_fn (l : List AT) (p : AT) (σ : List (List D)) (hl : l.length ≤ 999999) (hs : Sorted nA l) : Ct Tryz.prog 114 [.xs 2 (l.map d_AT), d_AT p] σ (fun r σ' => r = .xs 2 ((putL nA l p).map d_AT) ∧ σ' = σ) :=
 (aput0_fn l p σ hl hs).trim fun r σ' ⟨hr, J, hs⟩ => ⟨σ, J, hs, rfl, by rw [hr]; exact a_sc _ _, fun n cs h => .inl h, hr, rfl⟩
theorem a_ld1 (l : List AT) (rest : List D) (i : Nat) (h : i < l.length) : ldD false 1 ((l.flatMap cA ++ rest).drop (i * 2 + 1)) = some (D.str l[i].value) := rows_ld1 (f := cA) (k := 2) (fun _ => rfl) l rest i 1 h (by decide)
theorem aof_fn (l : List AT) (σ : List (List D)) (hl : l.length ≤ 999999) : Ct Tryz.prog 77 [.sl false (l.map d_AT)] σ (fun r σ' => r = .xs 2 ((ofL nA l).map d_AT) ∧ σ' = σ) := by
 refine zf (rs:=[.tmp 2]) Tryz.func77 Tryz.ntmps77 Tryz.results77 ?_
 simp only [argEnv]
 refine zr ⟨[2,3,12,14,16],[],[],[],[]⟩ fun _ _ Z=>?_
 simp (disch:=omega)
 and_intros<;>try omega
 apply Z
 refine zr ⟨[2,3,12,14,16],[],[],[],[]⟩ fun _ _ Z=>?_
 simp (disch:=omega)
 and_intros<;>try omega
 apply Z
 apply awp_seq
 refine zr ⟨[2,3,12,14,16],[],[],[],[]⟩ fun _ _ Z=>?_
 simp (disch:=omega)
 and_intros<;>try omega
 apply Z
 apply awp_block
 refine zk [2,3,6,7,8] ?_
 refine awp_toXs 3 2 (by simp <;> rfl) ?_
 refine awp_loopE (fun (k : Nat) => [(8, .d (.v (.int .i64 (k : Int)))), (3, .d (.xs 2 ((ofL nA (l.take k)).map d_AT)))]) [3, 5, 8, 9, 10, 11, 12, 13, 14, 15] (fun (k : Nat) => k ≤ l.length) (fun (k : Nat) => l.length - k) (0) (by simp <;> rfl) ?_ ?_ ?_
 ·simp [ofL]
 ·simp
 rintro k hk
 simp only [List.cons_append, List.nil_append]
 have hol := ofL_len nA (l.take k)
 simp only [List.length_take] at hol
 refine zr ⟨[2,3,12,14,16],[],[],[],[]⟩ fun _ _ Z=>?_
 simp (disch:=omega)
 and_intros<;>try omega
 apply Z
 apply awp_seq
 refine zi ?_
 refine ⟨fun c1=>?_,fun c1=>?_⟩
 ·try simp at c1
  apply awp_skip
  apply q_then_n
  apply awp_seq
  apply awp_block
  refine zr ⟨[2,3,12,14,16],[],[],[],[]⟩ fun _ _ Z=>?_
  simp (disch:=omega)
  and_intros<;>try omega
  apply Z
  refine zt ⟨[2,3,12,14,16],[],[],[],[]⟩ fun _ _ Z=>?_
  refine vcL_split 2 fun _ Y=>?_
  simp (disch:=omega)
  and_intros<;>try omega
  apply Y
  simp only [List.drop]
  refine vcL_step fun _ Y=>?_
  simp (disch:=omega)
  refine zce (aput_fn (ofL nA (l.take k)) l[k] _ (by omega) (ofL_sorted nA _)) ?_
  apply Y
  simp (disch:=omega)
  and_intros<;>try omega
  apply Z
  apply q_block_n
  apply q_then_n
  refine zk [2,3,6,7,8] ?_
  refine zt ⟨[2,3,12,14,16],[],[],[],[]⟩ fun _ _ Z=>?_
  simp (disch:=omega)
  and_intros<;>try omega
  apply Z
  refine q_round (k + 1) ?_ ?_ (weak_mkA rfl ?_ (by simp) (by simp))
  ·omega
  ·try dsimp only
   omega
  ·simp (disch:=omega)[ofL_take]
 ·try simp at c1
  apply awp_exit
  apply q_then_e
  apply q_loop_e
  apply q_block_e
  apply q_then_n
  refine zr ⟨[2,3,12,14,16],[],[],[],[]⟩ fun _ _ Z=>?_
  simp (disch:=omega)
  and_intros<;>try omega
  apply Z
  apply awp_ret
  simp [endQ]
  rw [List.take_of_length_le (by omega)]
theorem aget0_fn (l : List AT) (c : ByteArray) (σ : List (List D)) (hl : l.length ≤ 999999) : Ct Tryz.prog 125 [.sl false (l.map d_AT), D.str c] σ (fun r σ' => (∃ v : ByteArray, r = .tup [D.str v, .bool (fnd nA (ofL nA l) c)]) ∧ ∃ J, σ' = σ ++ J) := by
 refine zf (rs:=[.tmp 4,.tmp 5]) Tryz.func125 Tryz.ntmps125 Tryz.results125 ?_
 simp only [argEnv]
 have hol := ofL_len nA l
 refine zr ⟨[6,11],[],[],[21],[]⟩ fun _ _ Z=>?_
 simp (disch:=omega)[og_at0,og_put0,a_ld1]
 and_intros<;>try omega
 apply Z
 refine zr ⟨[6,11],[],[],[21],[]⟩ fun _ _ Z=>?_
 refine vcL_split 1 fun _ Y=>?_
 simp (disch:=omega)[og_at0,og_put0,a_ld1]
 and_intros<;>try omega
 apply Y
 simp only [List.drop]
 refine vcL_step fun _ Y=>?_
 simp (disch:=omega)[og_at0,og_put0,a_ld1]
 refine zce (aof_fn l _ hl) ?_
 apply Y
 simp (disch:=omega)[og_at0,og_put0,a_ld1]
 and_intros<;>try omega
 apply Z
 apply awp_seq
 refine awp_openX2 6 2 rfl (by decide) fun cap rest hcap hcm hrest hk0 hes => ?_
 subst hrest
 simp only [List.length_map] at hcap ⊢
 rw [rows_flat (f := cA) (fun _ => rfl)]
 refine zr ⟨[6,11],[],[],[21],[]⟩ fun _ _ Z=>?_
 refine vcL_split 2 fun _ Y=>?_
 simp (disch:=omega)[og_at0,og_put0,a_ld1]
 and_intros<;>try omega
 apply Y
 simp only [List.drop]
 refine vcL_step fun _ Y=>?_
 simp (disch:=omega)[og_at0,og_put0,a_ld1]
 refine zce (awh_fn σ.length cap (ofL nA l) (List.replicate ((cap - (ofL nA l).length) * 2) .any) c _ (by omega) (by simp [og_at0]) (ofL_sorted nA l)) ?_
 apply Y
 simp (disch:=omega)[og_at0,og_put0,a_ld1]
 and_intros<;>try omega
 apply Z
 refine zk [4,5,6,7,8] ?_
 refine zr ⟨[6,11],[],[],[21],[]⟩ fun _ _ Z=>?_
 simp (disch:=omega)[og_at0,og_put0,a_ld1]
 and_intros<;>try omega
 apply Z
 refine zi ?_
 refine ⟨fun c1=>?_,fun c1=>?_⟩
 ·try simp at c1
  have hlt := fnd_lt nA c1
  refine zr ⟨[6,11],[],[],[21],[]⟩ fun _ _ Z=>?_
  simp (disch:=omega)[og_at0,og_put0,a_ld1]
  and_intros<;>try omega
  apply Z
  apply awp_ret
  apply q_then_r
  simp [endQ, c1]
 ·try simp at c1
  apply awp_skip
  apply q_then_n
  refine zr ⟨[6,11],[],[],[21],[]⟩ fun _ _ Z=>?_
  simp (disch:=omega)[og_at0,og_put0,a_ld1]
  and_intros<;>try omega
  apply Z
  refine zr ⟨[6,11],[],[],[21],[]⟩ fun _ _ Z=>?_
  simp (disch:=omega)[og_at0,og_put0,a_ld1]
  and_intros<;>try omega
  apply Z
  apply awp_ret
  simp [endQ, c1]
theorem aget_fn (l : List AT) (c : ByteArray) (σ : List (List D)) (hl : l.length ≤ 999999) (hs : Sorted nA l) : Ct Tryz.prog 125 [.sl false (l.map d_AT), D.str c] σ (fun r σ' => (∃ v : ByteArray, r = .tup [D.str v, .bool (hasN nA l c)]) ∧ σ' = σ) :=
 (aget0_fn l c σ hl).trim fun r σ' ⟨⟨v, hr⟩, J, hs'⟩ => ⟨σ, J, hs', rfl, by rw [hr]; exact Sc.tup fun d hd => by simp at hd; rcases hd with rfl | rfl <;> exact Sc.v _, fun n cs h => .inl h, ⟨v, by rw [hr, ofL_id nA hs, fnd_has nA hs]⟩, rfl⟩
theorem aset0_fn (l : List AT) (c : ByteArray) (v : ByteArray) (σ : List (List D)) (hl : l.length ≤ 99999) : Ct Tryz.prog 124 [.sl false (l.map d_AT), D.str c, D.str v] σ (fun r σ' => r = .xs 2 ((putL nA (ofL nA l) ⟨c, v⟩).map d_AT) ∧ σ' = σ) := by
 refine zf (rs:=[.tmp 6]) Tryz.func124 Tryz.ntmps124 Tryz.results124 ?_
 simp only [argEnv]
 have hol := ofL_len nA l
 refine zr ⟨[6,9,10,12],[],[],[],[]⟩ fun _ _ Z=>?_
 simp
 and_intros<;>try omega
 apply Z
 refine zr ⟨[6,9,10,12],[],[],[],[]⟩ fun _ _ Z=>?_
 refine vcL_split 1 fun _ Y=>?_
 simp
 and_intros<;>try omega
 apply Y
 simp only [List.drop]
 refine vcL_step fun _ Y=>?_
 simp
 refine zce (aof_fn l _ (by omega)) ?_
 apply Y
 refine vcL_split 3 fun _ Y=>?_
 simp
 and_intros<;>try omega
 apply Y
 simp only [List.drop]
 refine vcL_step fun _ Y=>?_
 simp
 refine zce (aput_fn (ofL nA l) ⟨c, v⟩ _ (by omega) (ofL_sorted nA l)) ?_
 apply Y
 simp
 and_intros<;>try omega
 apply Z
 apply awp_ret
 simp [endQ]
theorem abut_fn (l : List AT) (p : AT → Bool) (f : FuncId) (caps : List D) (σ : List (List D)) (hl : l.length ≤ 99999) (hcp : ∀ d ∈ caps, d.plain = true) (hcs : caps.map D.strip = caps) (hp : ∀ x τ, Ct Tryz.prog f (d_AT x :: caps) τ (fun r τ' => r = .bool (p x) ∧ τ' = τ)) : Ct Tryz.prog 143 [.sl false (l.map d_AT), .clo (.func f) [] caps] σ (fun r σ' => r = .xs 2 (((ofL nA l).filter fun x => !p x).map d_AT) ∧ σ' = σ) := by
 refine zf (rs:=[.tmp 4]) Tryz.func143 Tryz.ntmps143 Tryz.results143 ?_
 simp only [argEnv]
 have hol := ofL_len nA l
 refine zr ⟨[4,7,8],[],[],[],[]⟩ fun _ _ Z=>?_
 simp
 and_intros<;>try omega
 apply Z
 refine zr ⟨[4,7,8],[],[],[],[]⟩ fun _ _ Z=>?_
 refine vcL_split 1 fun _ Y=>?_
 simp
 and_intros<;>try omega
 apply Y
 simp only [List.drop]
 refine vcL_step fun _ Y=>?_
 simp
 refine zce (aof_fn l _ (by omega)) ?_
 apply Y
 refine vcL_split 1 fun _ Y=>?_
 simp
 and_intros<;>try omega
 apply Y
 simp only [List.drop]
 refine vcL_step fun _ Y=>?_
 simp
 refine zce (adelete_fn (ofL nA l) p f caps _ (by omega) hcp hcs hp) ?_
 apply Y
 simp
 and_intros<;>try omega
 apply Z
 apply awp_ret
 simp [endQ]
theorem adrop1_fn (x : AT) (c : ByteArray) (σ : List (List D))  : Ct Tryz.prog 144 [d_AT x, .adr [D.str c]] σ (fun r σ' => r = .bool (decide (x.name = c)) ∧ σ' = σ) := by
 refine zf (rs:=[.tmp 3]) Tryz.func144 Tryz.ntmps144 Tryz.results144 ?_
 simp only [argEnv]
 refine zr0 fun _ _ Z=>?_
 simp
 and_intros<;>try omega
 apply Z
 refine zr0 fun _ _ Z=>?_
 simp
 and_intros<;>try omega
 apply Z
 apply awp_ret
 simp[endQ]
theorem adrop0_fn (l : List AT) (c : ByteArray) (σ : List (List D)) (hl : l.length ≤ 99999) : Ct Tryz.prog 126 [.sl false (l.map d_AT), D.str c] σ (fun r σ' => r = .xs 2 ((delN nA (ofL nA l) c).map d_AT) ∧ σ' = σ) := by
 refine zf (rs:=[.tmp 4]) Tryz.func126 Tryz.ntmps126 Tryz.results126 ?_
 simp only [argEnv]
 refine zr ⟨[4],[3],[],[],[]⟩ fun _ _ Z=>?_
 simp
 and_intros<;>try omega
 apply Z
 refine zr ⟨[4],[3],[],[],[]⟩ fun _ _ Z=>?_
 refine vcL_split 2 fun _ Y=>?_
 simp
 and_intros<;>try omega
 apply Y
 simp only [List.drop]
 refine vcL_step fun _ Y=>?_
 simp
 refine zce (abut_fn l (fun x => decide (x.name = c)) 144 [.adr [D.str c]] _ hl (by simp) (by simp) (fun x τ => adrop1_fn x c τ)) ?_
 apply Y
 simp
 and_intros<;>try omega
 apply Z
 apply awp_ret
 simp [endQ, delN]
theorem aset_fn (l : List AT) (c : ByteArray) (v : ByteArray) (σ : List (List D)) (hl : l.length ≤ 99999) (hs : Sorted nA l) : Ct Tryz.prog 124 [.sl false (l.map d_AT), D.str c, D.str v] σ (fun r σ' => r = .sl false ((putL nA l ⟨c, v⟩).map d_AT) ∧ σ' = σ) :=
 (aset0_fn l c v σ hl).freeze fun r σ' h => by rw [ofL_id nA hs] at h; exact h
theorem adrop_fn (l : List AT) (c : ByteArray) (σ : List (List D)) (hl : l.length ≤ 99999) (hs : Sorted nA l) : Ct Tryz.prog 126 [.sl false (l.map d_AT), D.str c] σ (fun r σ' => r = .sl false ((delN nA l c).map d_AT) ∧ σ' = σ) :=
 (adrop0_fn l c σ hl).freeze fun r σ' h => by rw [ofL_id nA hs] at h; exact h
theorem pwh1_fn (x : PI) (s : ByteArray) (σ : List (List D))  : Ct Tryz.prog 156 [d_PI x, D.str s] σ (fun r σ' => r = .int (cmpB x.name s) ∧ σ' = σ) := by
 refine zf (rs:=[.tmp 4]) Tryz.func156 Tryz.ntmps156 Tryz.results156 ?_
 simp only [argEnv]
 refine zr0 fun _ _ Z=>?_
 simp
 and_intros<;>try omega
 apply Z
 refine zr0 fun _ _ Z=>?_
 refine vcL_split 3 fun _ Y=>?_
 simp
 and_intros<;>try omega
 apply Y
 simp only [List.drop]
 refine vcL_step fun _ Y=>?_
 simp
 refine zce (compare_fn x.name s _) ?_
 apply Y
 simp
 and_intros<;>try omega
 apply Z
 apply awp_ret
 simp [endQ]
theorem pbs_fn (N cap : Nat) (l : List PI) (rest : List D) (c : ByteArray) (σ : List (List D)) (hl : l.length ≤ 1000000) (hN : σ[N]? = some (l.flatMap cP ++ rest)) (hs : Sorted nP l) : Ct Tryz.prog 155 [.slo N 0 l.length cap, D.str c, .clo (.func 156) [] []] σ (fun r σ' => r = .tup [.int ((posL nP l c : Nat) : Int), .bool (fnd nP l c)] ∧ σ' = σ) := by
 refine zf (rs:=[.tmp 6,.tmp 7]) Tryz.func155 Tryz.ntmps155 Tryz.results155 ?_
 simp only [argEnv]
 refine zr ⟨[],[],[],[13,27,43],[]⟩ fun _ _ Z=>?_
 simp (disch:=omega)[hN,half_eq,inR_u64]
 and_intros<;>try omega
 apply Z
 refine zr ⟨[],[],[],[13,27,43],[]⟩ fun _ _ Z=>?_
 simp (disch:=omega)[hN,half_eq,inR_u64]
 and_intros<;>try omega
 apply Z
 refine zr ⟨[],[],[],[13,27,43],[]⟩ fun _ _ Z=>?_
 simp (disch:=omega)[hN,half_eq,inR_u64]
 and_intros<;>try omega
 apply Z
 apply awp_seq
 apply awp_block
 refine zk [0,1,2,6,7,8,9,10] ?_
 refine awp_loopE (fun (s : Nat × Nat) => [(9, .d (.v (.int .i64 (s.1 : Int)))), (10, .d (.v (.int .i64 (s.2 : Int)))), (11, .d (.any))]) [9, 10, 11, 15, 16, 17, 18, 19, 20, 21, 22, 23, 24, 25, 26, 27, 28, 29, 30, 31, 32, 33, 34] (fun (s : Nat × Nat) => s.1 ≤ s.2 ∧ s.2 ≤ l.length ∧ (∀ j (h : j < l.length), j < s.1 → lessB l[j].name c = true) ∧ (∀ j (h : j < l.length), s.2 ≤ j → lessB l[j].name c = false)) (fun (s : Nat × Nat) => s.2 - s.1) ((0, l.length)) (by simp <;> rfl) ?_ ?_ ?_
 ·simp
 ·exact ⟨by omega, by omega, fun j h h2 => absurd h2 (by simp), fun j h h2 => absurd h2 (by simp; omega)⟩
 rintro ⟨lo, hi⟩ ⟨h1, h2, h3, h4⟩
 simp only [List.cons_append, List.nil_append]
 dsimp only at h1 h2 h3 h4
 have hmid : lo < hi → (lo + hi) / 2 < hi := fun h => by omega
 apply awp_seq
 refine zr ⟨[],[],[],[13,27,43],[]⟩ fun _ _ Z=>?_
 simp (disch:=omega)[hN,half_eq,inR_u64]
 and_intros<;>try omega
 apply Z
 refine zi ?_
 refine ⟨fun c1=>?_,fun c1=>?_⟩
 ·try simp at c1
  apply awp_skip
  apply q_then_n
  apply awp_block
  refine zk [0,1,2,6,7,8,9,10,11] ?_
  refine zr ⟨[],[],[],[13,27,43],[]⟩ fun _ _ Z=>?_
  simp (disch:=omega)[hN,half_eq,inR_u64]
  and_intros<;>try omega
  apply Z
  refine zk [0,1,2,6,7,8,9,10,11] ?_
  refine zr ⟨[],[],[],[13,27,43],[]⟩ fun _ _ Z=>?_
  refine vcL_split 6 fun _ Y=>?_
  simp (disch:=omega)[hN,half_eq,inR_u64]
  and_intros<;>try omega
  apply Y
  simp only [List.drop]
  refine vcL_step fun _ Y=>?_
  simp (disch:=omega)[hN,half_eq,inR_u64]
  refine zce (pwh1_fn l[(lo + hi) / 2] c _) ?_
  apply Y
  simp (disch:=omega)[hN,half_eq,inR_u64]
  and_intros<;>try omega
  apply Z
  refine zi ?_
  refine ⟨fun c2=>?_,fun c2=>?_⟩
  ·try simp at c2
   refine zk [0,1,2,6,7,8,9,10,11] ?_
   refine zt ⟨[],[],[],[13,27,43],[]⟩ fun _ _ Z=>?_
   simp (disch:=omega)[hN,half_eq,inR_u64]
   and_intros<;>try omega
   apply Z
   apply q_block_n
   refine q_round (((lo + hi) / 2 + 1, hi)) ?_ ?_ (weak_mkA rfl ?_ (by simp) (by simp))
   ·exact ⟨by dsimp only; omega, by dsimp only; omega, bs_lo nP hs (by omega) (by simpa [cmpB_neg] using c2), h4⟩
   ·try dsimp only
    omega
   ·simp (disch:=omega)[hN,half_eq,inR_u64]
  ·try simp at c2
   refine zk [0,1,2,6,7,8,9,10,11] ?_
   refine zt ⟨[],[],[],[13,27,43],[]⟩ fun _ _ Z=>?_
   simp (disch:=omega)[hN,half_eq,inR_u64]
   and_intros<;>try omega
   apply Z
   apply q_block_n
   refine q_round ((lo, (lo + hi) / 2)) ?_ ?_ (weak_mkA rfl ?_ (by simp) (by simp))
   ·exact ⟨by dsimp only; omega, by dsimp only; omega, h3, bs_hi nP hs (by omega) ((cmpB_nn _ _).1 (by omega))⟩
   ·try dsimp only
    omega
   ·simp (disch:=omega)[hN,half_eq,inR_u64]
 ·try simp at c1
  obtain rfl : lo = hi := by omega
  have hpos : posL nP l c = lo := posL_of nP l c lo h2 h3 (fun h => h4 lo h (Nat.le_refl _))
  apply awp_exit
  apply q_then_e
  apply q_loop_e
  apply q_block_e
  apply q_then_n
  refine zk [0,1,2,6,7,8,9] ?_
  refine zrg ⟨[],[],[],[13,27,43],[]⟩ fun all hall _ Z=>?_
  have ga4 : guardOf all 4 = some 39 := hall 4
  refine vcL_split 5 fun _ Y=>?_
  simp (disch:=omega)[hN,half_eq,inR_u64,ga4]
  and_intros<;>try omega
  apply Y
  simp only [List.drop]
  refine vcL_bool 39 (by simp <;> rfl) ?_
  refine ⟨fun g3 => ?_, fun g3 => ?_⟩
  ·try simp at g3
   refine vcL_split 6 fun _ Y=>?_
   simp (disch:=omega)[hN,half_eq,inR_u64,ga4]
   and_intros<;>try omega
   apply Y
   simp only [List.drop]
   refine zg ga4 fun _ Y=>?_
   simp (disch:=omega)[hN,half_eq,inR_u64,ga4]
   refine zce (pwh1_fn l[lo] c _) ?_
   apply Y
   simp (disch:=omega)[hN,half_eq,inR_u64,ga4]
   and_intros<;>try omega
   apply Z
   apply awp_ret
   simp [endQ, hpos, fnd_at, *]
   exact cmpB_zero _ _
  ·try simp at g3
   refine vcL_split 8 fun _ Y=>?_
   simp (disch:=omega)[hN,half_eq,inR_u64,ga4]
   and_intros<;>try omega
   apply Y
   simp only [List.drop]
   simp (disch:=omega)[hN,half_eq,inR_u64,ga4]
   and_intros<;>try omega
   apply Z
   apply awp_ret
   simp [endQ, hpos, *]
   exact fnd_out _ _ _ (by omega)
theorem pwh_fn (N cap : Nat) (l : List PI) (rest : List D) (c : ByteArray) (σ : List (List D)) (hl : l.length ≤ 1000000) (hN : σ[N]? = some (l.flatMap cP ++ rest)) (hs : Sorted nP l) : Ct Tryz.prog 136 [.slo N 0 l.length cap, D.str c] σ (fun r σ' => r = .tup [.int ((posL nP l c : Nat) : Int), .bool (fnd nP l c)] ∧ σ' = σ) := by
 refine zf (rs:=[.tmp 4,.tmp 5]) Tryz.func136 Tryz.ntmps136 Tryz.results136 ?_
 simp only [argEnv]
 refine zr0 fun _ _ Z=>?_
 simp[hN]
 and_intros<;>try omega
 apply Z
 refine zr0 fun _ _ Z=>?_
 refine vcL_split 2 fun _ Y=>?_
 simp[hN]
 and_intros<;>try omega
 apply Y
 simp only [List.drop]
 refine vcL_step fun _ Y=>?_
 simp[hN]
 refine zce (pbs_fn N cap l rest c _ hl hN hs) ?_
 apply Y
 simp[hN]
 and_intros<;>try omega
 apply Z
 apply awp_ret
 simp [endQ]
theorem pput0_fn (l : List PI) (p : PI) (σ : List (List D)) (hl : l.length ≤ 999999) (hs : Sorted nP l) : Ct Tryz.prog 115 [.xs 2 (l.map d_PI), d_PI p] σ (fun r σ' => r = .xs 2 ((putL nP l p).map d_PI) ∧ ∃ J, σ' = σ ++ J) := by
 refine zf (rs:=[.tmp 4]) Tryz.func115 Tryz.ntmps115 Tryz.results115 ?_
 simp only [argEnv]
 refine awp_openX2 0 2 rfl (by decide) fun cap rest hcap hcm hrest hk0 hes => ?_
 subst hrest
 simp only [List.length_map] at hcap ⊢
 rw [rows_flat (f := cP) (fun _ => rfl)]
 have hpl := posL_le nP l p.name
 refine zr ⟨[4,19,20,24],[],[],[18],[]⟩ fun _ _ Z=>?_
 simp (disch:=omega)[og_at0,og_put0]
 and_intros<;>try omega
 apply Z
 refine zr ⟨[4,19,20,24],[],[],[18],[]⟩ fun _ _ Z=>?_
 refine vcL_split 3 fun _ Y=>?_
 simp (disch:=omega)[og_at0,og_put0]
 and_intros<;>try omega
 apply Y
 simp only [List.drop]
 refine vcL_step fun _ Y=>?_
 simp (disch:=omega)[og_at0,og_put0]
 refine zce (pwh_fn σ.length cap l (List.replicate ((cap - l.length) * 2) .any) p.name _ (by omega) (by simp [og_at0]) hs) ?_
 apply Y
 simp (disch:=omega)[og_at0,og_put0]
 and_intros<;>try omega
 apply Z
 apply awp_seq
 refine zr ⟨[4,19,20,24],[],[],[18],[]⟩ fun _ _ Z=>?_
 simp (disch:=omega)[og_at0,og_put0]
 and_intros<;>try omega
 apply Z
 refine zi ?_
 refine ⟨fun c1=>?_,fun c1=>?_⟩
 ·try simp at c1
  have hlt := fnd_lt nP c1
  refine zk [0,3,4,5] ?_
  refine zr ⟨[4,19,20,24],[],[],[18],[]⟩ fun _ _ Z=>?_
  simp (disch:=omega)[og_at0,og_put0]
  and_intros<;>try omega
  apply Z
  refine zr ⟨[4,19,20,24],[],[],[18],[]⟩ fun _ _ Z=>?_
  simp (disch:=omega)[og_at0,og_put0]
  and_intros<;>try omega
  apply Z
  refine awp_closeX 4 2 σ.length l.length cap ((l.set (posL nP l p.name) p).map d_PI) ((l.set (posL nP l p.name) p).flatMap cP ++ List.replicate ((cap - l.length) * 2) .any) (by simp <;> rfl) (by simp [og_at0]) (by omega) (by simp only [List.length_append, rows_len (f := cP) (k := 2) (fun _ => rfl), List.length_replicate, List.length_set]; omega) (by simp) (map_ok (d := d_PI) (fun _ => ⟨rfl, rfl⟩) _) (by rw [rows_flat (f := cP) (fun _ => rfl)]; exact List.prefix_append _ _) ?_
  apply awp_ret
  apply q_then_r
  simp [endQ, putL_eq, c1]
 ·try simp at c1
  apply awp_skip
  apply q_then_n
  refine awp_closeX 0 2 σ.length l.length cap (l.map d_PI) (l.flatMap cP ++ List.replicate ((cap - l.length) * 2) .any) (by simp <;> rfl) (by simp [og_at0]) (by omega) (by simp only [List.length_append, rows_len (f := cP) (k := 2) (fun _ => rfl), List.length_replicate, List.length_set]; omega) (by simp) (map_ok (d := d_PI) (fun _ => ⟨rfl, rfl⟩) _) (by rw [rows_flat (f := cP) (fun _ => rfl)]; exact List.prefix_append _ _) ?_
  refine zk [0,3,4,5] ?_
  refine zr ⟨[4,19,20,24],[],[],[18],[]⟩ fun _ _ Z=>?_
  refine vcL_split 4 fun _ Y=>?_
  simp (disch:=omega)[og_at0,og_put0]
  and_intros<;>try omega
  apply Y
  simp only [List.drop]
  refine vcL_step fun _ Y=>?_
  simp (disch:=omega)[og_at0,og_put0]
  refine zce (pins_fn l p (posL nP l p.name) _ (by omega) hpl) ?_
  apply Y
  simp (disch:=omega)[og_at0,og_put0]
  and_intros<;>try omega
  apply Z
  apply awp_ret
  simp [endQ, putL_eq, c1]
theorem pput_fn (l : List PI) (p : PI) (σ : List (List D)) (hl : l.length ≤ 999999) (hs : Sorted nP l) : Ct Tryz.prog 115 [.xs 2 (l.map d_PI), d_PI p] σ (fun r σ' => r = .xs 2 ((putL nP l p).map d_PI) ∧ σ' = σ) :=
 (pput0_fn l p σ hl hs).trim fun r σ' ⟨hr, J, hs⟩ => ⟨σ, J, hs, rfl, by rw [hr]; exact p_sc _ _, fun n cs h => .inl h, hr, rfl⟩
theorem p_ld1 (l : List PI) (rest : List D) (i : Nat) (h : i < l.length) : ldD false 1 ((l.flatMap cP ++ rest).drop (i * 2 + 1)) = some (D.int l[i].value) := rows_ld1 (f := cP) (k := 2) (fun _ => rfl) l rest i 1 h (by decide)
theorem pof_fn (l : List PI) (σ : List (List D)) (hl : l.length ≤ 999999) : Ct Tryz.prog 79 [.sl false (l.map d_PI)] σ (fun r σ' => r = .xs 2 ((ofL nP l).map d_PI) ∧ σ' = σ) := by
 refine zf (rs:=[.tmp 2]) Tryz.func79 Tryz.ntmps79 Tryz.results79 ?_
 simp only [argEnv]
 refine zr ⟨[2,3,12,14,16],[],[],[],[]⟩ fun _ _ Z=>?_
 simp (disch:=omega)
 and_intros<;>try omega
 apply Z
 refine zr ⟨[2,3,12,14,16],[],[],[],[]⟩ fun _ _ Z=>?_
 simp (disch:=omega)
 and_intros<;>try omega
 apply Z
 apply awp_seq
 refine zr ⟨[2,3,12,14,16],[],[],[],[]⟩ fun _ _ Z=>?_
 simp (disch:=omega)
 and_intros<;>try omega
 apply Z
 apply awp_block
 refine zk [2,3,6,7,8] ?_
 refine awp_toXs 3 2 (by simp <;> rfl) ?_
 refine awp_loopE (fun (k : Nat) => [(8, .d (.v (.int .i64 (k : Int)))), (3, .d (.xs 2 ((ofL nP (l.take k)).map d_PI)))]) [3, 5, 8, 9, 10, 11, 12, 13, 14, 15] (fun (k : Nat) => k ≤ l.length) (fun (k : Nat) => l.length - k) (0) (by simp <;> rfl) ?_ ?_ ?_
 ·simp [ofL]
 ·simp
 rintro k hk
 simp only [List.cons_append, List.nil_append]
 have hol := ofL_len nP (l.take k)
 simp only [List.length_take] at hol
 refine zr ⟨[2,3,12,14,16],[],[],[],[]⟩ fun _ _ Z=>?_
 simp (disch:=omega)
 and_intros<;>try omega
 apply Z
 apply awp_seq
 refine zi ?_
 refine ⟨fun c1=>?_,fun c1=>?_⟩
 ·try simp at c1
  apply awp_skip
  apply q_then_n
  apply awp_seq
  apply awp_block
  refine zr ⟨[2,3,12,14,16],[],[],[],[]⟩ fun _ _ Z=>?_
  simp (disch:=omega)
  and_intros<;>try omega
  apply Z
  refine zt ⟨[2,3,12,14,16],[],[],[],[]⟩ fun _ _ Z=>?_
  refine vcL_split 2 fun _ Y=>?_
  simp (disch:=omega)
  and_intros<;>try omega
  apply Y
  simp only [List.drop]
  refine vcL_step fun _ Y=>?_
  simp (disch:=omega)
  refine zce (pput_fn (ofL nP (l.take k)) l[k] _ (by omega) (ofL_sorted nP _)) ?_
  apply Y
  simp (disch:=omega)
  and_intros<;>try omega
  apply Z
  apply q_block_n
  apply q_then_n
  refine zk [2,3,6,7,8] ?_
  refine zt ⟨[2,3,12,14,16],[],[],[],[]⟩ fun _ _ Z=>?_
  simp (disch:=omega)
  and_intros<;>try omega
  apply Z
  refine q_round (k + 1) ?_ ?_ (weak_mkA rfl ?_ (by simp) (by simp))
  ·omega
  ·try dsimp only
   omega
  ·simp (disch:=omega)[ofL_take]
 ·try simp at c1
  apply awp_exit
  apply q_then_e
  apply q_loop_e
  apply q_block_e
  apply q_then_n
  refine zr ⟨[2,3,12,14,16],[],[],[],[]⟩ fun _ _ Z=>?_
  simp (disch:=omega)
  and_intros<;>try omega
  apply Z
  apply awp_ret
  simp [endQ]
  rw [List.take_of_length_le (by omega)]
theorem pget0_fn (l : List PI) (c : ByteArray) (σ : List (List D)) (hl : l.length ≤ 999999) : Ct Tryz.prog 129 [.sl false (l.map d_PI), D.str c] σ (fun r σ' => (∃ v : Int, r = .tup [D.int v, .bool (fnd nP (ofL nP l) c)]) ∧ ∃ J, σ' = σ ++ J) := by
 refine zf (rs:=[.tmp 4,.tmp 5]) Tryz.func129 Tryz.ntmps129 Tryz.results129 ?_
 simp only [argEnv]
 have hol := ofL_len nP l
 refine zr ⟨[6,11],[],[],[21],[]⟩ fun _ _ Z=>?_
 simp (disch:=omega)[og_at0,og_put0,p_ld1]
 and_intros<;>try omega
 apply Z
 refine zr ⟨[6,11],[],[],[21],[]⟩ fun _ _ Z=>?_
 refine vcL_split 1 fun _ Y=>?_
 simp (disch:=omega)[og_at0,og_put0,p_ld1]
 and_intros<;>try omega
 apply Y
 simp only [List.drop]
 refine vcL_step fun _ Y=>?_
 simp (disch:=omega)[og_at0,og_put0,p_ld1]
 refine zce (pof_fn l _ hl) ?_
 apply Y
 simp (disch:=omega)[og_at0,og_put0,p_ld1]
 and_intros<;>try omega
 apply Z
 apply awp_seq
 refine awp_openX2 6 2 rfl (by decide) fun cap rest hcap hcm hrest hk0 hes => ?_
 subst hrest
 simp only [List.length_map] at hcap ⊢
 rw [rows_flat (f := cP) (fun _ => rfl)]
 refine zr ⟨[6,11],[],[],[21],[]⟩ fun _ _ Z=>?_
 refine vcL_split 2 fun _ Y=>?_
 simp (disch:=omega)[og_at0,og_put0,p_ld1]
 and_intros<;>try omega
 apply Y
 simp only [List.drop]
 refine vcL_step fun _ Y=>?_
 simp (disch:=omega)[og_at0,og_put0,p_ld1]
 refine zce (pwh_fn σ.length cap (ofL nP l) (List.replicate ((cap - (ofL nP l).length) * 2) .any) c _ (by omega) (by simp [og_at0]) (ofL_sorted nP l)) ?_
 apply Y
 simp (disch:=omega)[og_at0,og_put0,p_ld1]
 and_intros<;>try omega
 apply Z
 refine zk [4,5,6,7,8] ?_
 refine zr ⟨[6,11],[],[],[21],[]⟩ fun _ _ Z=>?_
 simp (disch:=omega)[og_at0,og_put0,p_ld1]
 and_intros<;>try omega
 apply Z
 refine zi ?_
 refine ⟨fun c1=>?_,fun c1=>?_⟩
 ·try simp at c1
  have hlt := fnd_lt nP c1
  refine zr ⟨[6,11],[],[],[21],[]⟩ fun _ _ Z=>?_
  simp (disch:=omega)[og_at0,og_put0,p_ld1]
  and_intros<;>try omega
  apply Z
  apply awp_ret
  apply q_then_r
  simp [endQ, c1]
 ·try simp at c1
  apply awp_skip
  apply q_then_n
  refine zr ⟨[6,11],[],[],[21],[]⟩ fun _ _ Z=>?_
  simp (disch:=omega)[og_at0,og_put0,p_ld1]
  and_intros<;>try omega
  apply Z
  refine zr ⟨[6,11],[],[],[21],[]⟩ fun _ _ Z=>?_
  simp (disch:=omega)[og_at0,og_put0,p_ld1]
  and_intros<;>try omega
  apply Z
  apply awp_ret
  simp [endQ, c1]
theorem pget_fn (l : List PI) (c : ByteArray) (σ : List (List D)) (hl : l.length ≤ 999999) (hs : Sorted nP l) : Ct Tryz.prog 129 [.sl false (l.map d_PI), D.str c] σ (fun r σ' => (∃ v : Int, r = .tup [D.int v, .bool (hasN nP l c)]) ∧ σ' = σ) :=
 (pget0_fn l c σ hl).trim fun r σ' ⟨⟨v, hr⟩, J, hs'⟩ => ⟨σ, J, hs', rfl, by rw [hr]; exact Sc.tup fun d hd => by simp at hd; rcases hd with rfl | rfl <;> exact Sc.v _, fun n cs h => .inl h, ⟨v, by rw [hr, ofL_id nP hs, fnd_has nP hs]⟩, rfl⟩
theorem pset0_fn (l : List PI) (c : ByteArray) (v : Int) (σ : List (List D)) (hl : l.length ≤ 99999) : Ct Tryz.prog 127 [.sl false (l.map d_PI), D.str c, D.int v] σ (fun r σ' => r = .xs 2 ((putL nP (ofL nP l) ⟨c, v⟩).map d_PI) ∧ σ' = σ) := by
 refine zf (rs:=[.tmp 6]) Tryz.func127 Tryz.ntmps127 Tryz.results127 ?_
 simp only [argEnv]
 have hol := ofL_len nP l
 refine zr ⟨[6,9,10,12],[],[],[],[]⟩ fun _ _ Z=>?_
 simp
 and_intros<;>try omega
 apply Z
 refine zr ⟨[6,9,10,12],[],[],[],[]⟩ fun _ _ Z=>?_
 refine vcL_split 1 fun _ Y=>?_
 simp
 and_intros<;>try omega
 apply Y
 simp only [List.drop]
 refine vcL_step fun _ Y=>?_
 simp
 refine zce (pof_fn l _ (by omega)) ?_
 apply Y
 refine vcL_split 3 fun _ Y=>?_
 simp
 and_intros<;>try omega
 apply Y
 simp only [List.drop]
 refine vcL_step fun _ Y=>?_
 simp
 refine zce (pput_fn (ofL nP l) ⟨c, v⟩ _ (by omega) (ofL_sorted nP l)) ?_
 apply Y
 simp
 and_intros<;>try omega
 apply Z
 apply awp_ret
 simp [endQ]
theorem pbut_fn (l : List PI) (p : PI → Bool) (f : FuncId) (caps : List D) (σ : List (List D)) (hl : l.length ≤ 99999) (hcp : ∀ d ∈ caps, d.plain = true) (hcs : caps.map D.strip = caps) (hp : ∀ x τ, Ct Tryz.prog f (d_PI x :: caps) τ (fun r τ' => r = .bool (p x) ∧ τ' = τ)) : Ct Tryz.prog 145 [.sl false (l.map d_PI), .clo (.func f) [] caps] σ (fun r σ' => r = .xs 2 (((ofL nP l).filter fun x => !p x).map d_PI) ∧ σ' = σ) := by
 refine zf (rs:=[.tmp 4]) Tryz.func145 Tryz.ntmps145 Tryz.results145 ?_
 simp only [argEnv]
 have hol := ofL_len nP l
 refine zr ⟨[4,7,8],[],[],[],[]⟩ fun _ _ Z=>?_
 simp
 and_intros<;>try omega
 apply Z
 refine zr ⟨[4,7,8],[],[],[],[]⟩ fun _ _ Z=>?_
 refine vcL_split 1 fun _ Y=>?_
 simp
 and_intros<;>try omega
 apply Y
 simp only [List.drop]
 refine vcL_step fun _ Y=>?_
 simp
 refine zce (pof_fn l _ (by omega)) ?_
 apply Y
 refine vcL_split 1 fun _ Y=>?_
 simp
 and_intros<;>try omega
 apply Y
 simp only [List.drop]
 refine vcL_step fun _ Y=>?_
 simp
 refine zce (pdelete_fn (ofL nP l) p f caps _ (by omega) hcp hcs hp) ?_
 apply Y
 simp
 and_intros<;>try omega
 apply Z
 apply awp_ret
 simp [endQ]
theorem pdrop1_fn (x : PI) (c : ByteArray) (σ : List (List D))  : Ct Tryz.prog 146 [d_PI x, .adr [D.str c]] σ (fun r σ' => r = .bool (decide (x.name = c)) ∧ σ' = σ) := by
 refine zf (rs:=[.tmp 3]) Tryz.func146 Tryz.ntmps146 Tryz.results146 ?_
 simp only [argEnv]
 refine zr0 fun _ _ Z=>?_
 simp
 and_intros<;>try omega
 apply Z
 refine zr0 fun _ _ Z=>?_
 simp
 and_intros<;>try omega
 apply Z
 apply awp_ret
 simp[endQ]
theorem pdrop0_fn (l : List PI) (c : ByteArray) (σ : List (List D)) (hl : l.length ≤ 99999) : Ct Tryz.prog 130 [.sl false (l.map d_PI), D.str c] σ (fun r σ' => r = .xs 2 ((delN nP (ofL nP l) c).map d_PI) ∧ σ' = σ) := by
 refine zf (rs:=[.tmp 4]) Tryz.func130 Tryz.ntmps130 Tryz.results130 ?_
 simp only [argEnv]
 refine zr ⟨[4],[3],[],[],[]⟩ fun _ _ Z=>?_
 simp
 and_intros<;>try omega
 apply Z
 refine zr ⟨[4],[3],[],[],[]⟩ fun _ _ Z=>?_
 refine vcL_split 2 fun _ Y=>?_
 simp
 and_intros<;>try omega
 apply Y
 simp only [List.drop]
 refine vcL_step fun _ Y=>?_
 simp
 refine zce (pbut_fn l (fun x => decide (x.name = c)) 146 [.adr [D.str c]] _ hl (by simp) (by simp) (fun x τ => pdrop1_fn x c τ)) ?_
 apply Y
 simp
 and_intros<;>try omega
 apply Z
 apply awp_ret
 simp [endQ, delN]
theorem pset_fn (l : List PI) (c : ByteArray) (v : Int) (σ : List (List D)) (hl : l.length ≤ 99999) (hs : Sorted nP l) : Ct Tryz.prog 127 [.sl false (l.map d_PI), D.str c, D.int v] σ (fun r σ' => r = .sl false ((putL nP l ⟨c, v⟩).map d_PI) ∧ σ' = σ) :=
 (pset0_fn l c v σ hl).freeze fun r σ' h => by rw [ofL_id nP hs] at h; exact h
theorem pdrop_fn (l : List PI) (c : ByteArray) (σ : List (List D)) (hl : l.length ≤ 99999) (hs : Sorted nP l) : Ct Tryz.prog 130 [.sl false (l.map d_PI), D.str c] σ (fun r σ' => r = .sl false ((delN nP l c).map d_PI) ∧ σ' = σ) :=
 (pdrop0_fn l c σ hl).freeze fun r σ' h => by rw [ofL_id nP hs] at h; exact h
end Go.Proofs.YtpfmpeaekgdgnaaGreat


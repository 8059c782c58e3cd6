import Derived.Test.YtpfmpeaekgdgnaaGreatWkAr5
namespace Go.Proofs.YtpfmpeaekgdgnaaGreat
open Go Go.Vm
set_option maxRecDepth 20000
set_option linter.all false
set_option maxHeartbeats 8000000
section
variable {o : List AT} {b : Bool} {x p : AT}
theorem stA_tt (hb : b = false) (h : Op.bytesLess x.name.toList p.name.toList = false) (e : x.name = p.name) : stepA nA p (o, b) x = (o ++ [p], true) := by
 have e' : nA x = nA p := e
 have h2 : b = false ∧ lessB (nA x) (nA p) = false := ⟨hb, h⟩
 unfold stepA; dsimp only; rw [if_pos e', if_pos h2]
theorem stA_tf (hb : b = false) (h : Op.bytesLess x.name.toList p.name.toList = false) (e : ¬ x.name = p.name) : stepA nA p (o, b) x = (o ++ [p] ++ [x], true) := by
 have e' : ¬ nA x = nA p := e
 have h2 : b = false ∧ lessB (nA x) (nA p) = false := ⟨hb, h⟩
 unfold stepA; dsimp only; rw [if_neg e', if_pos h2]
theorem stA_ft (h : Op.bytesLess x.name.toList p.name.toList = true) (e : x.name = p.name) : stepA nA p (o, b) x = (o, b) := by
 have e' : nA x = nA p := e
 have h2 : ¬ (b = false ∧ lessB (nA x) (nA p) = false) := fun q => by have h3 : lessB (nA x) (nA p) = true := h; rw [h3] at q; cases q.2
 unfold stepA; dsimp only; rw [if_pos e', if_neg h2]
theorem stA_ff (h : Op.bytesLess x.name.toList p.name.toList = true) (e : ¬ x.name = p.name) : stepA nA p (o, b) x = (o ++ [x], b) := by
 have e' : ¬ nA x = nA p := e
 have h2 : ¬ (b = false ∧ lessB (nA x) (nA p) = false) := fun q => by have h3 : lessB (nA x) (nA p) = true := h; rw [h3] at q; cases q.2
 unfold stepA; dsimp only; rw [if_neg e', if_neg h2]
theorem stA_bt (h : b = true) (e : x.name = p.name) : stepA nA p (o, b) x = (o, b) := by
 have e' : nA x = nA p := e
 have h2 : ¬ (b = false ∧ lessB (nA x) (nA p) = false) := fun q => by rw [h] at q; cases q.1
 unfold stepA; dsimp only; rw [if_pos e', if_neg h2]
theorem stA_bf (h : b = true) (e : ¬ x.name = p.name) : stepA nA p (o, b) x = (o ++ [x], b) := by
 have e' : ¬ nA x = nA p := e
 have h2 : ¬ (b = false ∧ lessB (nA x) (nA p) = false) := fun q => by rw [h] at q; cases q.1
 unfold stepA; dsimp only; rw [if_neg e', if_neg h2]
end
theorem rsetAttr_fn (l : List AT) (p : AT) (σ : List (List D)) (hl : l.length ≤ 99999) (hs : Sorted nA l) : Ct Tryz.prog 97 [.sl false (l.map d_AT), d_AT p] σ (fun r σ' => r = .sl true ((putL nA l p).map d_AT) ∧ σ' = σ) := by
 refine zf (rs:=[.tmp 4]) Tryz.func97 Tryz.ntmps97 Tryz.results97 ?_
 simp only [argEnv]
 refine zr ⟨[4,5,25,34,41,45],[],[],[],[]⟩ fun _ _ Z=>?_
 simp (disch:=omega)[or_imp,forall_and]
 and_intros<;>try omega
 apply Z
 refine zr ⟨[4,5,25,34,41,45],[],[],[],[]⟩ fun _ _ Z=>?_
 simp (disch:=omega)[or_imp,forall_and]
 and_intros<;>try omega
 apply Z
 refine zr ⟨[4,5,25,34,41,45],[],[],[],[]⟩ fun _ _ Z=>?_
 simp (disch:=omega)[or_imp,forall_and]
 and_intros<;>try omega
 apply Z
 apply awp_seq
 refine zr ⟨[4,5,25,34,41,45],[],[],[],[]⟩ fun _ _ Z=>?_
 simp (disch:=omega)[or_imp,forall_and]
 and_intros<;>try omega
 apply Z
 apply awp_block
 refine zk [3,4,5,6,10,11,12] ?_
 refine awp_loopE (fun (k : Nat) => [(12, .d (.v (.int .i64 (k : Int)))), (5, .d (.sl true ((passA nA (l.take k) p).1.map d_AT))), (6, .d (.bool (passA nA (l.take k) p).2))]) [5, 6, 8, 12, 13, 14, 15, 16, 17, 18, 19, 20, 21, 22, 23, 24, 25, 26, 27, 28, 29, 30, 31, 32, 33, 34, 35, 36, 37, 38] (fun (k : Nat) => k ≤ l.length) (fun (k : Nat) => l.length - k) (0) (by simp <;> rfl) ?_ ?_ ?_
 ·simp [passA]
 ·simp
 rintro k hk
 simp only [List.cons_append, List.nil_append]
 have hpl := passA_len nA (l.take k) p
 simp only [List.length_take] at hpl
 generalize hps : passA nA (l.take k) p = s at hpl ⊢
 obtain ⟨o, b⟩ := s
 have hpl2 : o.length ≤ k + 1 := by simp only at hpl; split at hpl <;> omega
 dsimp only
 refine zr ⟨[4,5,25,34,41,45],[],[],[],[]⟩ fun _ _ Z=>?_
 simp (disch:=omega)[or_imp,forall_and]
 and_intros<;>try omega
 apply Z
 apply awp_seq
 refine zi ?_
 refine ⟨fun c1=>?_,fun c1=>?_⟩
 ·try simp at c1
  apply awp_skip
  apply q_then_n
  apply awp_seq
  apply awp_block
  refine zr ⟨[4,5,25,34,41,45],[],[],[],[]⟩ fun _ _ Z=>?_
  simp (disch:=omega)[or_imp,forall_and]
  and_intros<;>try omega
  apply Z
  apply awp_seq
  refine zrg ⟨[4,5,25,34,41,45],[],[],[],[]⟩ fun all hall _ Z=>?_
  have ga2 : guardOf all 2 = some 18 := hall 2
  refine vcL_split 3 fun _ Y=>?_
  simp (disch:=omega)[or_imp,forall_and,ga2]
  and_intros<;>try omega
  apply Y
  simp only [List.drop]
  refine vcL_bool 18 (by simp <;> rfl) ?_
  refine ⟨fun g2 => ?_, fun g2 => ?_⟩
  ·try simp at g2
   simp (disch:=omega)[or_imp,forall_and,ga2]
   and_intros<;>try omega
   apply Z
   refine zi ?_
   refine ⟨fun c3=>?_,fun c3=>?_⟩
   ·try simp at c3
    refine zk [3,4,5,6,8,10,11,12] ?_
    refine zr ⟨[4,5,25,34,41,45],[],[],[],[]⟩ fun _ _ Z=>?_
    simp (disch:=omega)[or_imp,forall_and]
    and_intros<;>try omega
    apply Z
    refine zk [3,4,5,6,8,10,11,12] ?_
    refine zt ⟨[4,5,25,34,41,45],[],[],[],[]⟩ fun _ _ Z=>?_
    simp (disch:=omega)[or_imp,forall_and]
    and_intros<;>try omega
    apply Z
    apply q_then_n
    refine zr ⟨[4,5,25,34,41,45],[],[],[],[]⟩ fun _ _ Z=>?_
    simp (disch:=omega)[or_imp,forall_and]
    and_intros<;>try omega
    apply Z
    refine zi ?_
    refine ⟨fun c4=>?_,fun c4=>?_⟩
    ·try simp at c4
     refine zk [3,4,5,6,8,10,11,12] ?_
     refine zt ⟨[4,5,25,34,41,45],[],[],[],[]⟩ fun _ _ Z=>?_
     simp (disch:=omega)[or_imp,forall_and]
     and_intros<;>try omega
     apply Z
     apply q_block_n
     apply q_then_n
     refine zk [3,4,5,6,10,11,12] ?_
     refine zt ⟨[4,5,25,34,41,45],[],[],[],[]⟩ fun _ _ Z=>?_
     simp (disch:=omega)[or_imp,forall_and]
     and_intros<;>try omega
     apply Z
     refine q_round (k + 1) ?_ ?_ (weak_mkA rfl ?_ (by simp) (by simp))
     ·omega
     ·try dsimp only
      omega
     ·rw [passA_take nA l p k (by omega), hps]
      first | rw [stA_tt (by assumption) (by assumption) (by assumption)] | rw [stA_tf (by assumption) (by assumption) (by assumption)] | rw [stA_ft (by assumption) (by assumption)] | rw [stA_ff (by assumption) (by assumption)] | rw [stA_bt (by first | assumption | simpa using g2) (by assumption)] | rw [stA_bf (by first | assumption | simpa using g2) (by assumption)]
      simp [*]
    ·try simp at c4
     apply awp_skip
     apply q_block_n
     apply q_then_n
     refine zk [3,4,5,6,10,11,12] ?_
     refine zt ⟨[4,5,25,34,41,45],[],[],[],[]⟩ fun _ _ Z=>?_
     simp (disch:=omega)[or_imp,forall_and]
     and_intros<;>try omega
     apply Z
     refine q_round (k + 1) ?_ ?_ (weak_mkA rfl ?_ (by simp) (by simp))
     ·omega
     ·try dsimp only
      omega
     ·rw [passA_take nA l p k (by omega), hps]
      first | rw [stA_tt (by assumption) (by assumption) (by assumption)] | rw [stA_tf (by assumption) (by assumption) (by assumption)] | rw [stA_ft (by assumption) (by assumption)] | rw [stA_ff (by assumption) (by assumption)] | rw [stA_bt (by first | assumption | simpa using g2) (by assumption)] | rw [stA_bf (by first | assumption | simpa using g2) (by assumption)]
      simp [*]
   ·try simp at c3
    apply awp_skip
    apply q_then_n
    refine zk [3,4,5,6,8,10,11,12] ?_
    refine zr ⟨[4,5,25,34,41,45],[],[],[],[]⟩ fun _ _ Z=>?_
    simp (disch:=omega)[or_imp,forall_and]
    and_intros<;>try omega
    apply Z
    refine zi ?_
    refine ⟨fun c5=>?_,fun c5=>?_⟩
    ·try simp at c5
     refine zk [3,4,5,6,8,10,11,12] ?_
     refine zt ⟨[4,5,25,34,41,45],[],[],[],[]⟩ fun _ _ Z=>?_
     simp (disch:=omega)[or_imp,forall_and]
     and_intros<;>try omega
     apply Z
     apply q_block_n
     apply q_then_n
     refine zk [3,4,5,6,10,11,12] ?_
     refine zt ⟨[4,5,25,34,41,45],[],[],[],[]⟩ fun _ _ Z=>?_
     simp (disch:=omega)[or_imp,forall_and]
     and_intros<;>try omega
     apply Z
     refine q_round (k + 1) ?_ ?_ (weak_mkA rfl ?_ (by simp) (by simp))
     ·omega
     ·try dsimp only
      omega
     ·rw [passA_take nA l p k (by omega), hps]
      first | rw [stA_tt (by assumption) (by assumption) (by assumption)] | rw [stA_tf (by assumption) (by assumption) (by assumption)] | rw [stA_ft (by assumption) (by assumption)] | rw [stA_ff (by assumption) (by assumption)] | rw [stA_bt (by first | assumption | simpa using g2) (by assumption)] | rw [stA_bf (by first | assumption | simpa using g2) (by assumption)]
      simp [*]
    ·try simp at c5
     apply awp_skip
     apply q_block_n
     apply q_then_n
     refine zk [3,4,5,6,10,11,12] ?_
     refine zt ⟨[4,5,25,34,41,45],[],[],[],[]⟩ fun _ _ Z=>?_
     simp (disch:=omega)[or_imp,forall_and]
     and_intros<;>try omega
     apply Z
     refine q_round (k + 1) ?_ ?_ (weak_mkA rfl ?_ (by simp) (by simp))
     ·omega
     ·try dsimp only
      omega
     ·rw [passA_take nA l p k (by omega), hps]
      first | rw [stA_tt (by assumption) (by assumption) (by assumption)] | rw [stA_tf (by assumption) (by assumption) (by assumption)] | rw [stA_ft (by assumption) (by assumption)] | rw [stA_ff (by assumption) (by assumption)] | rw [stA_bt (by first | assumption | simpa using g2) (by assumption)] | rw [stA_bf (by first | assumption | simpa using g2) (by assumption)]
      simp [*]
  ·try simp at g2
   simp (disch:=omega)[or_imp,forall_and,ga2]
   and_intros<;>try omega
   apply Z
   refine awp_cond (t := false) (by simp) (fun h => by cases h) (fun _ => ?_)
   apply awp_skip
   apply q_then_n
   refine zk [3,4,5,6,8,10,11,12] ?_
   refine zr ⟨[4,5,25,34,41,45],[],[],[],[]⟩ fun _ _ Z=>?_
   simp (disch:=omega)[or_imp,forall_and]
   and_intros<;>try omega
   apply Z
   refine zi ?_
   refine ⟨fun c6=>?_,fun c6=>?_⟩
   ·try simp at c6
    refine zk [3,4,5,6,8,10,11,12] ?_
    refine zt ⟨[4,5,25,34,41,45],[],[],[],[]⟩ fun _ _ Z=>?_
    simp (disch:=omega)[or_imp,forall_and]
    and_intros<;>try omega
    apply Z
    apply q_block_n
    apply q_then_n
    refine zk [3,4,5,6,10,11,12] ?_
    refine zt ⟨[4,5,25,34,41,45],[],[],[],[]⟩ fun _ _ Z=>?_
    simp (disch:=omega)[or_imp,forall_and]
    and_intros<;>try omega
    apply Z
    refine q_round (k + 1) ?_ ?_ (weak_mkA rfl ?_ (by simp) (by simp))
    ·omega
    ·try dsimp only
     omega
    ·rw [passA_take nA l p k (by omega), hps]
     first | rw [stA_tt (by assumption) (by assumption) (by assumption)] | rw [stA_tf (by assumption) (by assumption) (by assumption)] | rw [stA_ft (by assumption) (by assumption)] | rw [stA_ff (by assumption) (by assumption)] | rw [stA_bt (by first | assumption | simpa using g2) (by assumption)] | rw [stA_bf (by first | assumption | simpa using g2) (by assumption)]
     simp [*]
   ·try simp at c6
    apply awp_skip
    apply q_block_n
    apply q_then_n
    refine zk [3,4,5,6,10,11,12] ?_
    refine zt ⟨[4,5,25,34,41,45],[],[],[],[]⟩ fun _ _ Z=>?_
    simp (disch:=omega)[or_imp,forall_and]
    and_intros<;>try omega
    apply Z
    refine q_round (k + 1) ?_ ?_ (weak_mkA rfl ?_ (by simp) (by simp))
    ·omega
    ·try dsimp only
     omega
    ·rw [passA_take nA l p k (by omega), hps]
     first | rw [stA_tt (by assumption) (by assumption) (by assumption)] | rw [stA_tf (by assumption) (by assumption) (by assumption)] | rw [stA_ft (by assumption) (by assumption)] | rw [stA_ff (by assumption) (by assumption)] | rw [stA_bt (by first | assumption | simpa using g2) (by assumption)] | rw [stA_bf (by first | assumption | simpa using g2) (by assumption)]
     simp [*]
 ·try simp at c1
  obtain rfl : k = l.length := by omega
  rw [List.take_length] at hps
  apply awp_exit
  apply q_then_e
  apply q_loop_e
  apply q_block_e
  apply q_then_n
  apply awp_seq
  refine zr ⟨[4,5,25,34,41,45],[],[],[],[]⟩ fun _ _ Z=>?_
  simp (disch:=omega)[or_imp,forall_and]
  and_intros<;>try omega
  apply Z
  refine zi ?_
  refine ⟨fun c7=>?_,fun c7=>?_⟩
  ·try simp at c7
   refine zt ⟨[4,5,25,34,41,45],[],[],[],[]⟩ fun _ _ Z=>?_
   simp (disch:=omega)[or_imp,forall_and]
   and_intros<;>try omega
   apply Z
   apply q_then_n
   refine zk [4,5] ?_
   refine zr ⟨[4,5,25,34,41,45],[],[],[],[]⟩ fun _ _ Z=>?_
   simp (disch:=omega)[or_imp,forall_and]
   and_intros<;>try omega
   apply Z
   apply awp_ret
   simp [endQ]
   rw [← passA_put nA hs p, hps]; simp [endA, *]
  ·try simp at c7
   apply awp_skip
   apply q_then_n
   refine zr ⟨[4,5,25,34,41,45],[],[],[],[]⟩ fun _ _ Z=>?_
   simp (disch:=omega)[or_imp,forall_and]
   and_intros<;>try omega
   apply Z
   apply awp_ret
   simp [endQ]
   rw [← passA_put nA hs p, hps]; simp [endA, *]
def cnd (l : List PI) (k j : Nat) : Option PI := cand nP (l.take j) ((ofL nP l).take k)
def cndD (l : List PI) (k j : Nat) : PI := (cnd l k j).getD ⟨⟨#[]⟩, 0⟩
def ahd (l : List PI) (k : Nat) (c : ByteArray) : Bool := aheadL nP ((ofL nP l).take k) c
theorem ahd_s (l : List PI) (k : Nat) (c : ByteArray) (h : k < (ofL nP l).length) : ahd l (k + 1) c = lessB (ofL nP l)[k].name c := by
 unfold ahd aheadL; rw [take_snoc (ofL nP l) k h, List.getLast?_concat]
theorem cnd_succ (l : List PI) (k j : Nat) (h : j < l.length) : cnd l k (j + 1) = if ahd l k l[j].name = true then (match cnd l k j with | none => some l[j] | some q => if lessB (nP q) (nP l[j]) = true then some q else some l[j]) else cnd l k j := by
 have e := cand_take nP l ((ofL nP l).take k) j h
 unfold cnd ahd
 rw [e]
 cases cand nP (l.take j) ((ofL nP l).take k) <;> rfl
theorem ahd_n {l : List PI} {k : Nat} (g : ¬ k = 0) (hk : k ≤ (ofL nP l).length) (c : ByteArray) : ahd l k c = lessB ((ofL nP l)[k - 1]'(by omega)).name c := by
 obtain ⟨m, rfl⟩ : ∃ m, k = m + 1 := ⟨k - 1, by omega⟩
 exact ahd_s l m c (by omega)
theorem tk_ok (l : List PI) (k : Nat) : (∀ d : D, d ∈ List.take k (List.map d_PI l) → d.ncells = 2) ↔ True := by
 refine ⟨fun _ => trivial, fun _ d hd => ?_⟩
 obtain ⟨a, _, rfl⟩ := List.mem_map.1 (List.mem_of_mem_take hd)
 rfl
theorem cnd_yes {l : List PI} {k j : Nat} (h : j < l.length) (ha : ahd l k l[j].name = true) (hc : (cnd l k j).isSome = false ∨ lessB (cndD l k j).name l[j].name = false) : cnd l k (j + 1) = some l[j] := by
 rw [cnd_succ l k j h, if_pos ha]
 unfold cndD at hc
 cases hq : cnd l k j with
 | none => rfl
 | some q =>
  rw [hq] at hc
  have : lessB (nP q) (nP l[j]) = false := by simpa using hc
  simp [this]
theorem cnd_no1 {l : List PI} {k j : Nat} (h : j < l.length) (ha : ahd l k l[j].name = false) : cnd l k (j + 1) = cnd l k j := by
 rw [cnd_succ l k j h, if_neg (by rw [ha]; simp)]
theorem cnd_no2 {l : List PI} {k j : Nat} (h : j < l.length) (h1 : (cnd l k j).isSome = true) (h2 : lessB (cndD l k j).name l[j].name = true) : cnd l k (j + 1) = cnd l k j := by
 by_cases ha : ahd l k l[j].name = true
 ·rw [cnd_succ l k j h, if_pos ha]
  unfold cndD at h2
  cases hq : cnd l k j with
  | none => rw [hq] at h1; cases h1
  | some q =>
   rw [hq] at h2
   have : lessB (nP q) (nP l[j]) = true := h2
   simp [this]
 ·rw [cnd_succ l k j h, if_neg ha]
theorem cnd_end {l : List PI} {k : Nat} (hk : k ≤ (ofL nP l).length) : cnd l k l.length = (ofL nP l)[k]? := by
 unfold cnd; rw [List.take_length]; exact cand_end nP l k hk
theorem cnd_z (l : List PI) (k : Nat) : cnd l k 0 = none := cand_0 nP l _
theorem rof_fn (l : List PI) (σ : List (List D)) (hl : l.length ≤ 99999) : Ct Tryz.prog 98 [.sl false (l.map d_PI)] σ (fun r σ' => r = .sl true ((ofL nP l).map d_PI) ∧ σ' = σ) := by
 refine zf (rs:=[.tmp 2]) Tryz.func98 Tryz.ntmps98 Tryz.results98 ?_
 simp only [argEnv]
 refine zr ⟨[2,3,48,49],[],[],[],[]⟩ fun _ _ Z=>?_
 simp (disch:=omega)[or_imp,forall_and,tk_ok]
 and_intros<;>try omega
 apply Z
 refine zr ⟨[2,3,48,49],[],[],[],[]⟩ fun _ _ Z=>?_
 simp (disch:=omega)[or_imp,forall_and,tk_ok]
 and_intros<;>try omega
 apply Z
 apply awp_block
 refine zk [0,2,3] ?_
 refine awp_loopE (fun (k : Nat) => [(3, .d (.sl true (((ofL nP l).take k).map d_PI)))]) [2, 3, 4, 5, 7, 8, 10, 11, 12, 13, 14, 15, 16, 17, 18, 19, 20, 21, 22, 23, 24, 25, 26, 27, 28, 29, 30, 31, 32, 33, 34, 35, 36, 37, 38, 39, 40, 41, 42, 43, 44, 45, 46, 47, 48, 49, 50, 51, 52] (fun (k : Nat) => k ≤ (ofL nP l).length) (fun (k : Nat) => (ofL nP l).length - k) (0) (by simp <;> rfl) ?_ ?_ ?_
 ·simp
 ·simp
 rintro k hk
 simp only [List.cons_append, List.nil_append]
 have hol := ofL_len nP l
 have hlk : ((ofL nP l).take k).length = k := by simp; omega
 apply awp_block
 refine zr ⟨[2,3,48,49],[],[],[],[]⟩ fun _ _ Z=>?_
 simp (disch:=omega)[or_imp,forall_and,tk_ok]
 and_intros<;>try omega
 apply Z
 refine zr ⟨[2,3,48,49],[],[],[],[]⟩ fun _ _ Z=>?_
 simp (disch:=omega)[or_imp,forall_and,tk_ok]
 and_intros<;>try omega
 apply Z
 apply awp_seq
 refine zr ⟨[2,3,48,49],[],[],[],[]⟩ fun _ _ Z=>?_
 simp (disch:=omega)[or_imp,forall_and,tk_ok]
 and_intros<;>try omega
 apply Z
 apply awp_block
 refine zk [0,3,4,5,11,12,13] ?_
 refine awp_loopM (fun (j : Nat) => [(13, .d (.v (.int .i64 (j : Int)))), (4, .d (.bool (cnd l k j).isSome)), (8, .d (.any))]) (fun (j : Nat) => [(0, [.v (.string ((cndD l k j).name)), .v (.int .i64 ((cndD l k j).value))])]) (fun (j : Nat) => []) [4, 7, 8, 13, 14, 15, 16, 17, 18, 19, 20, 21, 22, 23, 24, 25, 26, 27, 28, 29, 30, 31, 32, 33, 34, 35, 36, 37, 38, 39, 40, 41, 42, 43, 44, 45] (fun (j : Nat) => j ≤ l.length) (fun (j : Nat) => l.length - j) (0) (by simp <;> rfl) ?_ (by simp [cndD, cnd_z]) (by simp) ?_ ?_
 ·simp [cnd_z, cndD]
 ·simp
 rintro j hj
 simp only [List.cons_append, List.nil_append, setL_nil, setL_cons, List.set_cons_zero, List.set_cons_succ]
 refine zr ⟨[2,3,48,49],[],[],[],[]⟩ fun _ _ Z=>?_
 simp (disch:=omega)[or_imp,forall_and,tk_ok]
 and_intros<;>try omega
 apply Z
 apply awp_seq
 refine zi ?_
 refine ⟨fun c1=>?_,fun c1=>?_⟩
 ·try simp at c1
  apply awp_skip
  apply q_then_n
  apply awp_seq
  apply awp_block
  refine zr ⟨[2,3,48,49],[],[],[],[]⟩ fun _ _ Z=>?_
  simp (disch:=omega)[or_imp,forall_and,tk_ok]
  and_intros<;>try omega
  apply Z
  refine zk [0,3,4,5,7,8,11,12,13] ?_
  refine zd ⟨[2,3,48,49],[],[],[],[]⟩ [.op {},.op {},.op {},.op {},.op {},.op {rL:=true},.op {},.op {},.op {},.op {},.op {},.op {},.op {},.op {},.op {},.op {}] fun all hall _ Z=>?_
  have ga3 : guardOf all 3 = some 20 := hall 3
  refine vcDL_split 4 (by simp) fun _ Y=>?_
  simp (disch:=omega)[or_imp,forall_and,tk_ok,ga3]
  and_intros<;>try omega
  apply Y
  simp only [List.drop]
  refine vcDL_bool 20 (by simp <;> rfl) ?_
  refine ⟨fun g2 => ?_, fun g2 => ?_⟩
  ·try simp at g2
   refine vcDL_split 8 (by simp) fun _ Y=>?_
   simp (disch:=omega)[or_imp,forall_and,tk_ok,ga3]
   and_intros<;>try omega
   apply Y
   simp only [List.drop]
   simp (disch:=omega)[or_imp,forall_and,tk_ok,ga3]
   and_intros<;>try omega
   apply Z
   refine zk [0,3,4,5,7,8,11,12,13] ?_
   refine zrg ⟨[2,3,48,49],[],[],[],[]⟩ fun all hall _ Z=>?_
   have ga1 : guardOf all 1 = some 33 := hall 1
   have ga4 : guardOf all 4 = some 36 := hall 4
   refine vcL_split 2 fun _ Y=>?_
   simp (disch:=omega)[or_imp,forall_and,tk_ok,ga1,ga4]
   and_intros<;>try omega
   apply Y
   simp only [List.drop]
   refine vcL_split 3 fun _ Y=>?_
   simp (disch:=omega)[or_imp,forall_and,tk_ok,ga1,ga4]
   and_intros<;>try omega
   apply Y
   simp only [List.drop]
   refine vcL_bool 36 (by simp <;> rfl) ?_
   refine ⟨fun g3 => ?_, fun g3 => ?_⟩
   ·try simp at g3
    simp (disch:=omega)[or_imp,forall_and,tk_ok,ga1,ga4]
    and_intros<;>try omega
    apply Z
    refine awp_cond (t := true) (by simp) (fun _ => ?_) (fun h => by cases h)
    refine zk [0,3,4,5,7,8,11,12,13] ?_
    refine zr ⟨[2,3,48,49],[],[],[],[]⟩ fun _ _ Z=>?_
    simp (disch:=omega)[or_imp,forall_and,tk_ok]
    and_intros<;>try omega
    apply Z
    refine zt ⟨[2,3,48,49],[],[],[],[]⟩ fun _ _ Z=>?_
    simp (disch:=omega)[or_imp,forall_and,tk_ok]
    and_intros<;>try omega
    apply Z
    apply q_block_n
    apply q_then_n
    refine zt ⟨[2,3,48,49],[],[],[],[]⟩ fun _ _ Z=>?_
    simp (disch:=omega)[or_imp,forall_and,tk_ok]
    and_intros<;>try omega
    apply Z
    first | have hcn := cnd_yes (k := k) c1 (by first | (rw [show k = 0 from g2]; rfl) | (rw [ahd_n g2 hk]; exact g5)) (by first | exact .inl (by rw [g3]; rfl) | exact .inl (by rw [g6]; rfl) | exact .inr c4 | exact .inr c7) | have hcn := cnd_no2 (k := k) c1 (by first | exact g3 | exact g6) (by first | exact c4 | exact c7) | have hcn := cnd_no1 (k := k) c1 (by rw [ahd_n g2 hk]; exact g5)
    refine q_round (j + 1) ?_ ?_ (weak_mkA rfl ?_ (by simp [cndD, hcn]) (by simp))
    ·omega
    ·try dsimp only
     omega
    ·simp (disch:=omega)[or_imp,forall_and,tk_ok,hcn]
   ·try simp at g3
    simp (disch:=omega)[or_imp,forall_and,tk_ok,ga1,ga4]
    and_intros<;>try omega
    apply Z
    refine zi ?_
    refine ⟨fun c4=>?_,fun c4=>?_⟩
    ·try simp at c4
     refine zk [0,3,4,5,7,8,11,12,13] ?_
     refine zr ⟨[2,3,48,49],[],[],[],[]⟩ fun _ _ Z=>?_
     simp (disch:=omega)[or_imp,forall_and,tk_ok]
     and_intros<;>try omega
     apply Z
     refine zt ⟨[2,3,48,49],[],[],[],[]⟩ fun _ _ Z=>?_
     simp (disch:=omega)[or_imp,forall_and,tk_ok]
     and_intros<;>try omega
     apply Z
     apply q_block_n
     apply q_then_n
     refine zt ⟨[2,3,48,49],[],[],[],[]⟩ fun _ _ Z=>?_
     simp (disch:=omega)[or_imp,forall_and,tk_ok]
     and_intros<;>try omega
     apply Z
     first | have hcn := cnd_yes (k := k) c1 (by first | (rw [show k = 0 from g2]; rfl) | (rw [ahd_n g2 hk]; exact g5)) (by first | exact .inl (by rw [g3]; rfl) | exact .inl (by rw [g6]; rfl) | exact .inr c4 | exact .inr c7) | have hcn := cnd_no2 (k := k) c1 (by first | exact g3 | exact g6) (by first | exact c4 | exact c7) | have hcn := cnd_no1 (k := k) c1 (by rw [ahd_n g2 hk]; exact g5)
     refine q_round (j + 1) ?_ ?_ (weak_mkA rfl ?_ (by simp [cndD, hcn]) (by simp))
     ·omega
     ·try dsimp only
      omega
     ·simp (disch:=omega)[or_imp,forall_and,tk_ok,hcn]
    ·try simp at c4
     apply awp_skip
     apply q_block_n
     apply q_then_n
     refine zk [0,3,4,5,8,11,12,13] ?_
     refine zt ⟨[2,3,48,49],[],[],[],[]⟩ fun _ _ Z=>?_
     simp (disch:=omega)[or_imp,forall_and,tk_ok]
     and_intros<;>try omega
     apply Z
     first | have hcn := cnd_yes (k := k) c1 (by first | (rw [show k = 0 from g2]; rfl) | (rw [ahd_n g2 hk]; exact g5)) (by first | exact .inl (by rw [g3]; rfl) | exact .inl (by rw [g6]; rfl) | exact .inr c4 | exact .inr c7) | have hcn := cnd_no2 (k := k) c1 (by first | exact g3 | exact g6) (by first | exact c4 | exact c7) | have hcn := cnd_no1 (k := k) c1 (by rw [ahd_n g2 hk]; exact g5)
     refine q_round (j + 1) ?_ ?_ (weak_mkA rfl ?_ (by simp [cndD, hcn]) (by simp))
     ·omega
     ·try dsimp only
      omega
     ·simp (disch:=omega)[or_imp,forall_and,tk_ok,hcn]
  ·try simp at g2
   refine vcDL_split 8 (by simp) fun _ Y=>?_
   simp (disch:=omega)[or_imp,forall_and,tk_ok,ga3]
   and_intros<;>try omega
   apply Y
   simp only [List.drop]
   simp (disch:=omega)[or_imp,forall_and,tk_ok,ga3]
   and_intros<;>try omega
   apply Z
   refine zk [0,3,4,5,7,8,11,12,13] ?_
   refine zrg ⟨[2,3,48,49],[],[],[],[]⟩ fun all hall _ Z=>?_
   have ga1 : guardOf all 1 = some 33 := hall 1
   have ga4 : guardOf all 4 = some 36 := hall 4
   refine vcL_split 2 fun _ Y=>?_
   simp (disch:=omega)[or_imp,forall_and,tk_ok,ga1,ga4]
   and_intros<;>try omega
   apply Y
   simp only [List.drop]
   refine vcL_bool 33 (by simp <;> rfl) ?_
   refine ⟨fun g5 => ?_, fun g5 => ?_⟩
   ·try simp at g5
    refine vcL_split 3 fun _ Y=>?_
    simp (disch:=omega)[or_imp,forall_and,tk_ok,ga1,ga4]
    and_intros<;>try omega
    apply Y
    simp only [List.drop]
    refine vcL_bool 36 (by simp <;> rfl) ?_
    refine ⟨fun g6 => ?_, fun g6 => ?_⟩
    ·try simp at g6
     simp (disch:=omega)[or_imp,forall_and,tk_ok,ga1,ga4]
     and_intros<;>try omega
     apply Z
     refine awp_cond (t := true) (by simp) (fun _ => ?_) (fun h => by cases h)
     refine zk [0,3,4,5,7,8,11,12,13] ?_
     refine zr ⟨[2,3,48,49],[],[],[],[]⟩ fun _ _ Z=>?_
     simp (disch:=omega)[or_imp,forall_and,tk_ok]
     and_intros<;>try omega
     apply Z
     refine zt ⟨[2,3,48,49],[],[],[],[]⟩ fun _ _ Z=>?_
     simp (disch:=omega)[or_imp,forall_and,tk_ok]
     and_intros<;>try omega
     apply Z
     apply q_block_n
     apply q_then_n
     refine zt ⟨[2,3,48,49],[],[],[],[]⟩ fun _ _ Z=>?_
     simp (disch:=omega)[or_imp,forall_and,tk_ok]
     and_intros<;>try omega
     apply Z
     first | have hcn := cnd_yes (k := k) c1 (by first | (rw [show k = 0 from g2]; rfl) | (rw [ahd_n g2 hk]; exact g5)) (by first | exact .inl (by rw [g3]; rfl) | exact .inl (by rw [g6]; rfl) | exact .inr c4 | exact .inr c7) | have hcn := cnd_no2 (k := k) c1 (by first | exact g3 | exact g6) (by first | exact c4 | exact c7) | have hcn := cnd_no1 (k := k) c1 (by rw [ahd_n g2 hk]; exact g5)
     refine q_round (j + 1) ?_ ?_ (weak_mkA rfl ?_ (by simp [cndD, hcn]) (by simp))
     ·omega
     ·try dsimp only
      omega
     ·simp (disch:=omega)[or_imp,forall_and,tk_ok,hcn]
    ·try simp at g6
     simp (disch:=omega)[or_imp,forall_and,tk_ok,ga1,ga4]
     and_intros<;>try omega
     apply Z
     refine zi ?_
     refine ⟨fun c7=>?_,fun c7=>?_⟩
     ·try simp at c7
      refine zk [0,3,4,5,7,8,11,12,13] ?_
      refine zr ⟨[2,3,48,49],[],[],[],[]⟩ fun _ _ Z=>?_
      simp (disch:=omega)[or_imp,forall_and,tk_ok]
      and_intros<;>try omega
      apply Z
      refine zt ⟨[2,3,48,49],[],[],[],[]⟩ fun _ _ Z=>?_
      simp (disch:=omega)[or_imp,forall_and,tk_ok]
      and_intros<;>try omega
      apply Z
      apply q_block_n
      apply q_then_n
      refine zt ⟨[2,3,48,49],[],[],[],[]⟩ fun _ _ Z=>?_
      simp (disch:=omega)[or_imp,forall_and,tk_ok]
      and_intros<;>try omega
      apply Z
      first | have hcn := cnd_yes (k := k) c1 (by first | (rw [show k = 0 from g2]; rfl) | (rw [ahd_n g2 hk]; exact g5)) (by first | exact .inl (by rw [g3]; rfl) | exact .inl (by rw [g6]; rfl) | exact .inr c4 | exact .inr c7) | have hcn := cnd_no2 (k := k) c1 (by first | exact g3 | exact g6) (by first | exact c4 | exact c7) | have hcn := cnd_no1 (k := k) c1 (by rw [ahd_n g2 hk]; exact g5)
      refine q_round (j + 1) ?_ ?_ (weak_mkA rfl ?_ (by simp [cndD, hcn]) (by simp))
      ·omega
      ·try dsimp only
       omega
      ·simp (disch:=omega)[or_imp,forall_and,tk_ok,hcn]
     ·try simp at c7
      apply awp_skip
      apply q_block_n
      apply q_then_n
      refine zk [0,3,4,5,8,11,12,13] ?_
      refine zt ⟨[2,3,48,49],[],[],[],[]⟩ fun _ _ Z=>?_
      simp (disch:=omega)[or_imp,forall_and,tk_ok]
      and_intros<;>try omega
      apply Z
      first | have hcn := cnd_yes (k := k) c1 (by first | (rw [show k = 0 from g2]; rfl) | (rw [ahd_n g2 hk]; exact g5)) (by first | exact .inl (by rw [g3]; rfl) | exact .inl (by rw [g6]; rfl) | exact .inr c4 | exact .inr c7) | have hcn := cnd_no2 (k := k) c1 (by first | exact g3 | exact g6) (by first | exact c4 | exact c7) | have hcn := cnd_no1 (k := k) c1 (by rw [ahd_n g2 hk]; exact g5)
      refine q_round (j + 1) ?_ ?_ (weak_mkA rfl ?_ (by simp [cndD, hcn]) (by simp))
      ·omega
      ·try dsimp only
       omega
      ·simp (disch:=omega)[or_imp,forall_and,tk_ok,hcn]
   ·try simp at g5
    refine vcL_split 8 fun _ Y=>?_
    simp (disch:=omega)[or_imp,forall_and,tk_ok,ga1,ga4]
    and_intros<;>try omega
    apply Y
    simp only [List.drop]
    simp (disch:=omega)[or_imp,forall_and,tk_ok,ga1,ga4]
    and_intros<;>try omega
    apply Z
    refine awp_cond (t := false) (by simp) (fun h => by cases h) (fun _ => ?_)
    apply awp_skip
    apply q_block_n
    apply q_then_n
    refine zk [0,3,4,5,8,11,12,13] ?_
    refine zt ⟨[2,3,48,49],[],[],[],[]⟩ fun _ _ Z=>?_
    simp (disch:=omega)[or_imp,forall_and,tk_ok]
    and_intros<;>try omega
    apply Z
    first | have hcn := cnd_yes (k := k) c1 (by first | (rw [show k = 0 from g2]; rfl) | (rw [ahd_n g2 hk]; exact g5)) (by first | exact .inl (by rw [g3]; rfl) | exact .inl (by rw [g6]; rfl) | exact .inr c4 | exact .inr c7) | have hcn := cnd_no2 (k := k) c1 (by first | exact g3 | exact g6) (by first | exact c4 | exact c7) | have hcn := cnd_no1 (k := k) c1 (by rw [ahd_n g2 hk]; exact g5)
    refine q_round (j + 1) ?_ ?_ (weak_mkA rfl ?_ (by simp [cndD, hcn]) (by simp))
    ·omega
    ·try dsimp only
     omega
    ·simp (disch:=omega)[or_imp,forall_and,tk_ok,hcn]
 ·try simp at c1
  obtain rfl : j = l.length := by omega
  have hce := cnd_end hk
  apply awp_exit
  apply q_then_e
  apply q_loop_e
  apply q_block_e
  apply q_then_n
  apply awp_seq
  refine zr ⟨[2,3,48,49],[],[],[],[]⟩ fun _ _ Z=>?_
  simp (disch:=omega)[or_imp,forall_and,tk_ok]
  and_intros<;>try omega
  apply Z
  refine zi ?_
  refine ⟨fun c8=>?_,fun c8=>?_⟩
  ·try simp at c8
   refine zr ⟨[2,3,48,49],[],[],[],[]⟩ fun _ _ Z=>?_
   simp (disch:=omega)[or_imp,forall_and,tk_ok]
   and_intros<;>try omega
   apply Z
   apply awp_ret
   apply q_then_r
   apply q_block_r
   apply q_loop_r
   apply q_block_r
   simp [endQ]
   rw [hce] at c8
   rw [List.take_of_length_le (by simpa using List.getElem?_eq_none_iff.1 c8)]
  ·try simp at c8
   have hk2 : k < (ofL nP l).length := by
     rcases Nat.lt_or_ge k (ofL nP l).length with h | h
     ·exact h
     ·rw [hce, List.getElem?_eq_none h] at c8; exact absurd c8 (by simp)
   have hcd : cndD l k l.length = (ofL nP l)[k] := by unfold cndD; rw [hce, List.getElem?_eq_getElem hk2]; rfl
   have htk : List.take (k + 1) (List.map d_PI (ofL nP l)) = List.take k (List.map d_PI (ofL nP l)) ++ [d_PI (ofL nP l)[k]] := by rw [take_snoc _ k (by simpa using hk2), List.getElem_map]
   apply awp_skip
   apply q_then_n
   refine zt ⟨[2,3,48,49],[],[],[],[]⟩ fun _ _ Z=>?_
   simp (disch:=omega)[or_imp,forall_and,tk_ok]
   and_intros<;>try omega
   apply Z
   apply q_block_n
   refine q_round (k + 1) ?_ ?_ (weak_mkA rfl ?_ (by simp) (by simp))
   ·omega
   ·try dsimp only
    omega
   ·simp (disch:=omega)[or_imp,forall_and,tk_ok,hcd,htk]
theorem rdropP_fn (l : List PI) (c : ByteArray) (σ : List (List D)) (hl : l.length ≤ 99999) (hs : Sorted nP l) : Ct Tryz.prog 101 [.sl false (l.map d_PI), D.str c] σ (fun r σ' => r = .sl true ((delN nP l c).map d_PI) ∧ σ' = σ) := by
 refine zf (rs:=[.tmp 4]) Tryz.func101 Tryz.ntmps101 Tryz.results101 ?_
 simp only [argEnv]
 refine zr ⟨[4,5,20,25],[],[],[],[]⟩ fun _ _ Z=>?_
 simp (disch:=omega)
 and_intros<;>try omega
 apply Z
 refine zr ⟨[4,5,20,25],[],[],[],[]⟩ fun _ _ Z=>?_
 simp (disch:=omega)
 and_intros<;>try omega
 apply Z
 apply awp_seq
 refine zr ⟨[4,5,20,25],[],[],[],[]⟩ fun _ _ Z=>?_
 refine vcL_split 1 fun _ Y=>?_
 simp (disch:=omega)
 and_intros<;>try omega
 apply Y
 simp only [List.drop]
 refine vcL_step fun _ Y=>?_
 simp (disch:=omega)
 refine zce (rof_fn l _ hl) ?_
 rw [ofL_id nP hs]
 apply Y
 simp (disch:=omega)
 and_intros<;>try omega
 apply Z
 apply awp_block
 refine zk [1,4,5,10,11,12] ?_
 refine awp_loopE (fun (k : Nat) => [(12, .d (.v (.int .i64 (k : Int)))), (5, .d (.sl true ((delN nP (l.take k) c).map d_PI)))]) [5, 7, 12, 13, 14, 15, 16, 17, 18, 19, 20, 21, 22, 23, 24] (fun (k : Nat) => k ≤ l.length) (fun (k : Nat) => l.length - k) (0) (by simp <;> rfl) ?_ ?_ ?_
 ·simp [delN]
 ·simp
 rintro k hk
 simp only [List.cons_append, List.nil_append]
 have hdl := delN_len nP (l.take k) c
 simp only [List.length_take] at hdl
 refine zr ⟨[4,5,20,25],[],[],[],[]⟩ fun _ _ Z=>?_
 simp (disch:=omega)
 and_intros<;>try omega
 apply Z
 apply awp_seq
 refine zi ?_
 refine ⟨fun c1=>?_,fun c1=>?_⟩
 ·try simp at c1
  apply awp_skip
  apply q_then_n
  apply awp_seq
  apply awp_block
  refine zr ⟨[4,5,20,25],[],[],[],[]⟩ fun _ _ Z=>?_
  simp (disch:=omega)
  and_intros<;>try omega
  apply Z
  refine zr ⟨[4,5,20,25],[],[],[],[]⟩ fun _ _ Z=>?_
  simp (disch:=omega)
  and_intros<;>try omega
  apply Z
  refine zi ?_
  refine ⟨fun c2=>?_,fun c2=>?_⟩
  ·try simp at c2
   refine zk [1,4,5,7,10,11,12] ?_
   refine zt ⟨[4,5,20,25],[],[],[],[]⟩ fun _ _ Z=>?_
   simp (disch:=omega)
   and_intros<;>try omega
   apply Z
   apply q_block_n
   apply q_then_n
   refine zk [1,4,5,10,11,12] ?_
   refine zt ⟨[4,5,20,25],[],[],[],[]⟩ fun _ _ Z=>?_
   simp (disch:=omega)
   and_intros<;>try omega
   apply Z
   refine q_round (k + 1) ?_ ?_ (weak_mkA rfl ?_ (by simp) (by simp))
   ·omega
   ·try dsimp only
    omega
   ·simp (disch:=omega)[delN_take, *]
  ·try simp at c2
   apply awp_skip
   apply q_block_n
   apply q_then_n
   refine zk [1,4,5,10,11,12] ?_
   refine zt ⟨[4,5,20,25],[],[],[],[]⟩ fun _ _ Z=>?_
   simp (disch:=omega)
   and_intros<;>try omega
   apply Z
   refine q_round (k + 1) ?_ ?_ (weak_mkA rfl ?_ (by simp) (by simp))
   ·omega
   ·try dsimp only
    omega
   ·simp (disch:=omega)[delN_take, *]
 ·try simp at c1
  apply awp_exit
  apply q_then_e
  apply q_loop_e
  apply q_block_e
  apply q_then_n
  refine zr ⟨[4,5,20,25],[],[],[],[]⟩ fun _ _ Z=>?_
  simp (disch:=omega)
  and_intros<;>try omega
  apply Z
  apply awp_ret
  simp [endQ]
  rw [List.take_of_length_le (by omega)]
theorem hasN_iff {l : List PI} {c : ByteArray} : hasN nP l c = true ↔ ∃ j, ∃ h : j < l.length, l[j].name = c := by
 unfold hasN
 rw [List.any_eq_true]
 constructor
 ·rintro ⟨x, hx, e⟩
  obtain ⟨j, hj, rfl⟩ := List.getElem_of_mem hx
  exact ⟨j, hj, by simpa using e⟩
 ·rintro ⟨j, hj, e⟩
  exact ⟨l[j], List.getElem_mem hj, by simpa using e⟩
theorem getP_round {l : List PI} {c : ByteArray} {k j : Nat} (hh : ∀ j (h : j < l.length), k ≤ j → l[j].name ≠ c) {hk : k - 1 < l.length} (c2 : ¬ l[k - 1].name = c) (h : j < l.length) (h2 : k - 1 ≤ j) : l[j].name ≠ c := by
 rcases Nat.lt_or_ge j k with h3 | h3
 ·obtain rfl : j = k - 1 := by omega
  exact c2
 ·exact hh j h h3
theorem hasN_f {l : List PI} {c : ByteArray} (h : ∀ j (h : j < l.length), 0 ≤ j → l[j].name ≠ c) : hasN nP l c = false := by
 rw [← Bool.not_eq_true, hasN_iff]
 rintro ⟨j, hj, e⟩
 exact h j hj (Nat.zero_le _) e
theorem rgetP_fn (l : List PI) (c : ByteArray) (σ : List (List D)) (hl : l.length ≤ 99999) : Ct Tryz.prog 100 [.sl false (l.map d_PI), D.str c] σ (fun r σ' => (∃ v : Int, r = .tup [D.int v, .bool (hasN nP l c)]) ∧ σ' = σ) := by
 refine zf (rs:=[.tmp 4,.tmp 5]) Tryz.func100 Tryz.ntmps100 Tryz.results100 ?_
 simp only [argEnv]
 refine zr0 fun _ _ Z=>?_
 simp (disch:=omega)[Nat.sub_add_cancel]
 and_intros<;>try omega
 apply Z
 apply awp_seq
 refine zr0 fun _ _ Z=>?_
 simp (disch:=omega)[Nat.sub_add_cancel]
 and_intros<;>try omega
 apply Z
 apply awp_block
 refine zk [0,1,4,5,6] ?_
 refine awp_loopE (fun (k : Nat) => [(6, .d (.int ((k : Int) - 1)))]) [4, 5, 6, 10, 11, 12, 13, 14, 15, 16, 17, 18, 19, 20, 21, 22, 23, 24, 25] (fun (k : Nat) => k ≤ l.length ∧ ∀ j (h : j < l.length), k ≤ j → l[j].name ≠ c) (fun (k : Nat) => k) (l.length) (by simp <;> rfl) ?_ ?_ ?_
 ·simp
 ·exact ⟨Nat.le_refl _, fun j h h2 => by omega⟩
 rintro k ⟨hk, hh⟩
 simp only [List.cons_append, List.nil_append]
 have htn : 1 ≤ k → ((k : Int) - 1).toNat = k - 1 := fun h => by omega
 apply awp_seq
 refine zr0 fun _ _ Z=>?_
 simp (disch:=omega)[Nat.sub_add_cancel]
 and_intros<;>try omega
 apply Z
 refine zi ?_
 refine ⟨fun c1=>?_,fun c1=>?_⟩
 ·try simp at c1
  have hk1 : 1 ≤ k := by omega
  have htn1 := htn hk1
  apply awp_skip
  apply q_then_n
  apply awp_seq
  apply awp_block
  refine zr0 fun _ _ Z=>?_
  simp (disch:=omega)[Nat.sub_add_cancel]
  and_intros<;>try omega
  apply Z
  refine zi ?_
  refine ⟨fun c2=>?_,fun c2=>?_⟩
  ·try simp at c2
   refine zk [0,1,6] ?_
   refine zr0 fun _ _ Z=>?_
   simp (disch:=omega)[Nat.sub_add_cancel]
   and_intros<;>try omega
   apply Z
   apply awp_ret
   apply q_block_r
   apply q_then_r
   apply q_loop_r
   apply q_block_r
   apply q_then_r
   simp [endQ]
   exact hasN_iff.2 ⟨k - 1, by omega, c2⟩
  ·try simp at c2
   apply awp_skip
   apply q_block_n
   apply q_then_n
   refine zk [0,1,6] ?_
   refine zt0 fun _ _ Z=>?_
   simp (disch:=omega)[Nat.sub_add_cancel]
   and_intros<;>try omega
   apply Z
   refine q_round (k - 1) ?_ ?_ (weak_mkA rfl ?_ (by simp) (by simp))
   ·exact ⟨by omega, fun j h h2 => getP_round hh c2 h h2⟩
   ·try dsimp only
    omega
   ·simp [leS]; omega
 ·try simp at c1
  apply awp_exit
  apply q_then_e
  apply q_loop_e
  apply q_block_e
  apply q_then_n
  refine zr0 fun _ _ Z=>?_
  simp (disch:=omega)[Nat.sub_add_cancel]
  and_intros<;>try omega
  apply Z
  apply awp_ret
  simp [endQ]
  exact hasN_f fun j h _ => hh j h (by omega)
theorem tkI_ok (l : List Int) (k : Nat) : (∀ d : D, d ∈ List.take k (List.map D.int l) → d.ncells = 1) ↔ True := by
 refine ⟨fun _ => trivial, fun _ d hd => ?_⟩
 obtain ⟨a, _, rfl⟩ := List.mem_map.1 (List.mem_of_mem_take hd)
 rfl
theorem dpI_ok (l : List Int) (k : Nat) : (∀ d : D, d ∈ List.drop k (List.map D.int l) → d.ncells = 1) ↔ True := by
 refine ⟨fun _ => trivial, fun _ d hd => ?_⟩
 obtain ⟨a, _, rfl⟩ := List.mem_map.1 (List.mem_of_mem_drop hd)
 rfl
theorem remI_len (l : List Int) (x : Int) : (l.filter fun y => !decide (y = x)).length ≤ l.length := List.length_filter_le _ _
def remI (l : List Int) (x : Int) : List Int := l.filter fun y => !decide (y = x)
theorem remI_take (l : List Int) (x : Int) (k : Nat) (h : k < l.length) : remI (l.take (k + 1)) x = remI (l.take k) x ++ if l[k] = x then [] else [l[k]] := by
 unfold remI
 rw [take_snoc l k h, List.filter_append, List.filter_cons]
 by_cases e : l[k] = x <;> simp [e]
theorem with_fn (l : List Int) (i : Nat) (x : Int) (σ : List (List D)) (hl : l.length ≤ 99999) (hi : i ≤ l.length) : Ct Tryz.prog 84 [.sl false (l.map D.int), D.int i, D.int x] σ (fun r σ' => r = .sl true ((insL l i x).map D.int) ∧ σ' = σ) := by
 refine zf (rs:=[.tmp 6]) Tryz.func84 Tryz.ntmps84 Tryz.results84 ?_
 simp only [argEnv]
 have htl : List.take l.length (List.map D.int l) = List.map D.int l := List.take_of_length_le (by simp)
 refine zr ⟨[6,7,13,17],[],[],[],[]⟩ fun _ _ Z=>?_
 simp[tkI_ok,dpI_ok,or_imp,forall_and,htl]
 and_intros<;>try omega
 apply Z
 refine zr ⟨[6,7,13,17],[],[],[],[]⟩ fun _ _ Z=>?_
 simp[tkI_ok,dpI_ok,or_imp,forall_and,htl]
 and_intros<;>try omega
 apply Z
 refine zr ⟨[6,7,13,17],[],[],[],[]⟩ fun _ _ Z=>?_
 simp[tkI_ok,dpI_ok,or_imp,forall_and,htl]
 and_intros<;>try omega
 apply Z
 refine zk [0,1,6,7] ?_
 refine zr ⟨[6,7,13,17],[],[],[],[]⟩ fun _ _ Z=>?_
 simp[tkI_ok,dpI_ok,or_imp,forall_and,htl]
 and_intros<;>try omega
 apply Z
 apply awp_ret
 simp [endQ, insL]
theorem without5_fn (l : List Int) (x : Int) (σ : List (List D)) (hl : l.length ≤ 99999) : Ct Tryz.prog 87 [.sl false (l.map D.int), D.int x] σ (fun r σ' => r = .sl true ((remI l x).map D.int) ∧ σ' = σ) := by
 refine zf (rs:=[.tmp 4]) Tryz.func87 Tryz.ntmps87 Tryz.results87 ?_
 simp only [argEnv]
 refine zr ⟨[4,5,18,23],[],[],[],[]⟩ fun _ _ Z=>?_
 simp (disch:=omega)
 and_intros<;>try omega
 apply Z
 refine zr ⟨[4,5,18,23],[],[],[],[]⟩ fun _ _ Z=>?_
 simp (disch:=omega)
 and_intros<;>try omega
 apply Z
 apply awp_seq
 refine zr ⟨[4,5,18,23],[],[],[],[]⟩ fun _ _ Z=>?_
 simp (disch:=omega)
 and_intros<;>try omega
 apply Z
 apply awp_block
 refine zk [1,4,5,9,10,11] ?_
 refine awp_loopE (fun (k : Nat) => [(11, .d (.v (.int .i64 (k : Int)))), (5, .d (.sl true ((remI (l.take k) x).map D.int)))]) [5, 7, 11, 12, 13, 14, 15, 16, 17, 18, 19, 20, 21, 22] (fun (k : Nat) => k ≤ l.length) (fun (k : Nat) => l.length - k) (0) (by simp <;> rfl) ?_ ?_ ?_
 ·simp [remI]
 ·simp
 rintro k hk
 simp only [List.cons_append, List.nil_append]
 have hdl := remI_len (l.take k) x
 simp only [List.length_take] at hdl
 have hdl2 : (remI (l.take k) x).length ≤ k := by unfold remI; omega
 refine zr ⟨[4,5,18,23],[],[],[],[]⟩ fun _ _ Z=>?_
 simp (disch:=omega)
 and_intros<;>try omega
 apply Z
 apply awp_seq
 refine zi ?_
 refine ⟨fun c1=>?_,fun c1=>?_⟩
 ·try simp at c1
  apply awp_skip
  apply q_then_n
  apply awp_seq
  apply awp_block
  refine zr ⟨[4,5,18,23],[],[],[],[]⟩ fun _ _ Z=>?_
  simp (disch:=omega)
  and_intros<;>try omega
  apply Z
  refine zr ⟨[4,5,18,23],[],[],[],[]⟩ fun _ _ Z=>?_
  simp (disch:=omega)
  and_intros<;>try omega
  apply Z
  refine zi ?_
  refine ⟨fun c2=>?_,fun c2=>?_⟩
  ·try simp at c2
   refine zk [1,4,5,7,9,10,11] ?_
   refine zt ⟨[4,5,18,23],[],[],[],[]⟩ fun _ _ Z=>?_
   simp (disch:=omega)
   and_intros<;>try omega
   apply Z
   apply q_block_n
   apply q_then_n
   refine zk [1,4,5,9,10,11] ?_
   refine zt ⟨[4,5,18,23],[],[],[],[]⟩ fun _ _ Z=>?_
   simp (disch:=omega)
   and_intros<;>try omega
   apply Z
   refine q_round (k + 1) ?_ ?_ (weak_mkA rfl ?_ (by simp) (by simp))
   ·omega
   ·try dsimp only
    omega
   ·simp (disch:=omega)[remI_take, *]
  ·try simp at c2
   apply awp_skip
   apply q_block_n
   apply q_then_n
   refine zk [1,4,5,9,10,11] ?_
   refine zt ⟨[4,5,18,23],[],[],[],[]⟩ fun _ _ Z=>?_
   simp (disch:=omega)
   and_intros<;>try omega
   apply Z
   refine q_round (k + 1) ?_ ?_ (weak_mkA rfl ?_ (by simp) (by simp))
   ·omega
   ·try dsimp only
    omega
   ·simp (disch:=omega)[remI_take, *]
 ·try simp at c1
  apply awp_exit
  apply q_then_e
  apply q_loop_e
  apply q_block_e
  apply q_then_n
  refine zr ⟨[4,5,18,23],[],[],[],[]⟩ fun _ _ Z=>?_
  simp (disch:=omega)
  and_intros<;>try omega
  apply Z
  apply awp_ret
  simp [endQ]
  rw [List.take_of_length_le (by omega)]
end Go.Proofs.YtpfmpeaekgdgnaaGreat


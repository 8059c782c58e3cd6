import Derived.Test.YtpfmpeaekgdgnaaGreatWkTr1
namespace Go.Proofs.YtpfmpeaekgdgnaaGreat
open Go Go.Vm
set_option maxRecDepth 20000
set_option linter.all false
set_option maxHeartbeats 8000000
theorem rdo6_fn (x y : RD) (o : TOp) (n c : Int) (bel bel2 : Int → List Int) (rk : Int → Nat) (σ : List (List D)) (hx : NB x.l) (hnx : 0 ≤ x.next ∧ x.next ≤ 1000000) (htr : Tr x.l bel rk) (htr2 : Tr (remP x.l o.a) bel2 rk) (hkl : ∀ i, (findD x.l i).kids.length ≤ 900) (hkn : ∀ i, (findD x.l i).kids.Nodup) (hsa : ∀ i, Sorted nA (findD x.l i).attrs) (hss : ∀ i, Sorted nP (findD x.l i).styles) (s1 : o.name.size ≤ 1000) (s2 : o.value.size ≤ 1000) (q1 : (o.kind = 1 ∨ o.kind = 2) → ¬ x.next = o.a → y = x ∧ c = 1) (q2 : o.kind = 1 → x.next = o.a → addX x 2 o.name = (y, n, c)) (q3 : o.kind = 2 → x.next = o.a → addX x 1 o.value = (y, n, c)) (q4 : o.kind = 3 → insX x bel o.a o.b o.c = (y, c)) (q5 : o.kind = 4 → movX x o.a o.b = (y, c)) (q6 : o.kind = 5 → remX x bel2 o.a = (y, c)) (q7 : o.kind < 1 ∨ 13 < o.kind → y = x ∧ c = 14) (q8 : 6 ≤ o.kind → o.kind ≤ 13 → setX x (o.kind - 6) o.a o.name o.value o.c = (y, c)) : Ct Tryz.prog 30 [d_RD x, d_TOp o] σ (fun r σ' => r = .tup [d_RD y, D.int c] ∧ σ' = σ) := by
 refine zf (rs:=[.cell 4 28,.tmp 5]) Tryz.func30 Tryz.ntmps30 Tryz.results30 ?_
 simp only [argEnv]
 refine zr ⟨[],[2,3],[],[],[]⟩ fun _ _ Z=>?_
 simp
 and_intros<;>try omega
 apply Z
 apply awp_seq
 refine zr ⟨[],[2,3],[],[],[]⟩ fun _ _ Z=>?_
 simp
 and_intros<;>try omega
 apply Z
 apply awp_block
 apply awp_seq
 refine zr ⟨[],[2,3],[],[],[]⟩ fun _ _ Z=>?_
 simp
 and_intros<;>try omega
 apply Z
 refine zi ?_
 refine ⟨fun c1=>?_,fun c1=>?_⟩
 ·try simp at c1
  apply awp_skip
  apply q_then_n
  refine awp_cond (t := true) (by simp) (fun _ => ?_) (fun h => by cases h)
  apply awp_seq
  refine zr ⟨[],[2,3],[],[],[]⟩ fun _ _ Z=>?_
  simp
  and_intros<;>try omega
  apply Z
  refine zi ?_
  refine ⟨fun c2=>?_,fun c2=>?_⟩
  ·try simp at c2
   refine zk [2,3,4,5] ?_
   refine zr ⟨[],[2,3],[],[],[]⟩ fun _ _ Z=>?_
   simp
   and_intros<;>try omega
   apply Z
   apply awp_ret
   apply q_then_r
   apply q_block_r
   apply q_then_r
   obtain ⟨r1, r2⟩ := q1 (by omega) (by omega)
   subst r1; subst r2
   simp [endQ]
  ·try simp at c2
   apply awp_skip
   apply q_then_n
   refine zk [2,3,4,5] ?_
   refine zr ⟨[],[2,3],[],[],[]⟩ fun _ _ Z=>?_
   simp
   and_intros<;>try omega
   apply Z
   apply awp_seq
   refine zr ⟨[],[2,3],[],[],[]⟩ fun _ _ Z=>?_
   simp
   and_intros<;>try omega
   apply Z
   refine zi ?_
   refine ⟨fun c3=>?_,fun c3=>?_⟩
   ·try simp at c3
    omega
   ·try simp at c3
    apply awp_skip
    apply q_then_n
    refine zk [2,3,4,5,6] ?_
    refine zr ⟨[],[2,3],[],[],[]⟩ fun _ _ Z=>?_
    refine vcL_split 5 fun _ Y=>?_
    simp
    and_intros<;>try omega
    apply Y
    simp only [List.drop]
    refine vcL_step fun _ Y=>?_
    simp
    refine zce (add5_fn x (3 - o.kind) o.name _ hx hnx s1) ?_
    rw [show (3 - o.kind : Int) = 2 by omega, q2 (by omega) (by omega)]
    apply Y
    simp
    and_intros<;>try omega
    apply Z
    refine zk [2,3,4,5,7,9] ?_
    refine zr ⟨[],[2,3],[],[],[]⟩ fun _ _ Z=>?_
    simp
    and_intros<;>try omega
    apply Z
    apply awp_ret
    apply q_block_r
    apply q_then_r
    simp [endQ]
 ·try simp at c1
  refine zt ⟨[],[2,3],[],[],[]⟩ fun _ _ Z=>?_
  simp
  and_intros<;>try omega
  apply Z
  apply q_then_n
  refine zi ?_
  refine ⟨fun c4=>?_,fun c4=>?_⟩
  ·try simp at c4
   apply awp_seq
   refine zr ⟨[],[2,3],[],[],[]⟩ fun _ _ Z=>?_
   simp
   and_intros<;>try omega
   apply Z
   refine zi ?_
   refine ⟨fun c5=>?_,fun c5=>?_⟩
   ·try simp at c5
    refine zk [2,3,4,5] ?_
    refine zr ⟨[],[2,3],[],[],[]⟩ fun _ _ Z=>?_
    simp
    and_intros<;>try omega
    apply Z
    apply awp_ret
    apply q_then_r
    apply q_block_r
    apply q_then_r
    obtain ⟨r1, r2⟩ := q1 (by omega) (by omega)
    subst r1; subst r2
    simp [endQ]
   ·try simp at c5
    apply awp_skip
    apply q_then_n
    refine zk [2,3,4,5] ?_
    refine zr ⟨[],[2,3],[],[],[]⟩ fun _ _ Z=>?_
    simp
    and_intros<;>try omega
    apply Z
    apply awp_seq
    refine zr ⟨[],[2,3],[],[],[]⟩ fun _ _ Z=>?_
    simp
    and_intros<;>try omega
    apply Z
    refine zi ?_
    refine ⟨fun c6=>?_,fun c6=>?_⟩
    ·try simp at c6
     refine zt ⟨[],[2,3],[],[],[]⟩ fun _ _ Z=>?_
     simp
     and_intros<;>try omega
     apply Z
     apply q_then_n
     refine zk [2,3,4,5,6] ?_
     refine zr ⟨[],[2,3],[],[],[]⟩ fun _ _ Z=>?_
     refine vcL_split 5 fun _ Y=>?_
     simp
     and_intros<;>try omega
     apply Y
     simp only [List.drop]
     refine vcL_step fun _ Y=>?_
     simp
     refine zce (add5_fn x (3 - o.kind) o.value _ hx hnx s2) ?_
     rw [show (3 - o.kind : Int) = 1 by omega, q3 (by omega) (by omega)]
     apply Y
     simp
     and_intros<;>try omega
     apply Z
     refine zk [2,3,4,5,7,9] ?_
     refine zr ⟨[],[2,3],[],[],[]⟩ fun _ _ Z=>?_
     simp
     and_intros<;>try omega
     apply Z
     apply awp_ret
     apply q_block_r
     apply q_then_r
     simp [endQ]
    ·try simp at c6
     omega
  ·try simp at c4
   refine zr ⟨[],[2,3],[],[],[]⟩ fun _ _ Z=>?_
   simp
   and_intros<;>try omega
   apply Z
   refine zi ?_
   refine ⟨fun c7=>?_,fun c7=>?_⟩
   ·try simp at c7
    refine zk [2,3,4,5] ?_
    refine zr ⟨[],[2,3],[],[],[]⟩ fun _ _ Z=>?_
    refine vcL_split 7 fun _ Y=>?_
    simp
    and_intros<;>try omega
    apply Y
    simp only [List.drop]
    refine vcL_step fun _ Y=>?_
    simp
    refine zce (ins5_fn x o.a o.b o.c bel rk _ hx htr (hkl _)) ?_
    rw [q4 (by omega)]
    apply Y
    simp
    and_intros<;>try omega
    apply Z
    apply awp_ret
    apply q_block_r
    apply q_then_r
    simp [endQ]
   ·try simp at c7
    refine zk [2,3,4,5,11] ?_
    refine zr ⟨[],[2,3],[],[],[]⟩ fun _ _ Z=>?_
    simp
    and_intros<;>try omega
    apply Z
    refine zi ?_
    refine ⟨fun c8=>?_,fun c8=>?_⟩
    ·try simp at c8
     refine zr ⟨[],[2,3],[],[],[]⟩ fun _ _ Z=>?_
     refine vcL_split 5 fun _ Y=>?_
     simp
     and_intros<;>try omega
     apply Y
     simp only [List.drop]
     refine vcL_step fun _ Y=>?_
     simp
     refine zce (mov5_fn x o.a o.b _ hx (hkn _)) ?_
     rw [q5 (by omega)]
     apply Y
     simp
     and_intros<;>try omega
     apply Z
     apply awp_ret
     apply q_block_r
     apply q_then_r
     simp [endQ]
    ·try simp at c8
     refine zr ⟨[],[2,3],[],[],[]⟩ fun _ _ Z=>?_
     simp
     and_intros<;>try omega
     apply Z
     refine zi ?_
     refine ⟨fun c9=>?_,fun c9=>?_⟩
     ·try simp at c9
      refine zr ⟨[],[2,3],[],[],[]⟩ fun _ _ Z=>?_
      refine vcL_split 3 fun _ Y=>?_
      simp
      and_intros<;>try omega
      apply Y
      simp only [List.drop]
      refine vcL_step fun _ Y=>?_
      simp
      refine zce (rem5_fn x o.a bel2 rk _ hx htr2) ?_
      rw [q6 (by omega)]
      apply Y
      simp
      and_intros<;>try omega
      apply Z
      apply awp_ret
      apply q_block_r
      apply q_then_r
      simp [endQ]
     ·try simp at c9
      apply awp_skip
      apply q_block_n
      apply q_then_n
      apply awp_seq
      refine zrg ⟨[],[2,3],[],[],[]⟩ fun all hall _ Z=>?_
      have ga3 : guardOf all 3 = some 73 := hall 3
      refine vcL_split 4 fun _ Y=>?_
      simp[ga3]
      and_intros<;>try omega
      apply Y
      simp only [List.drop]
      refine vcL_bool 73 (by simp <;> rfl) ?_
      refine ⟨fun g10 => ?_, fun g10 => ?_⟩
      ·try simp at g10
       simp[ga3]
       and_intros<;>try omega
       apply Z
       refine awp_cond (t := true) (by simp) (fun _ => ?_) (fun h => by cases h)
       refine zk [2,3,4,5] ?_
       refine zr ⟨[],[2,3],[],[],[]⟩ fun _ _ Z=>?_
       simp
       and_intros<;>try omega
       apply Z
       apply awp_ret
       apply q_then_r
       obtain ⟨r1, r2⟩ := q7 (by omega)
       subst r1; subst r2
       simp [endQ]
      ·try simp at g10
       simp[ga3]
       and_intros<;>try omega
       apply Z
       refine zi ?_
       refine ⟨fun c11=>?_,fun c11=>?_⟩
       ·try simp at c11
        refine zk [2,3,4,5] ?_
        refine zr ⟨[],[2,3],[],[],[]⟩ fun _ _ Z=>?_
        simp
        and_intros<;>try omega
        apply Z
        apply awp_ret
        apply q_then_r
        obtain ⟨r1, r2⟩ := q7 (by omega)
        subst r1; subst r2
        simp [endQ]
       ·try simp at c11
        apply awp_skip
        apply q_then_n
        refine zk [2,3,4,5] ?_
        refine zr ⟨[],[2,3],[],[],[]⟩ fun _ _ Z=>?_
        refine vcL_split 8 fun _ Y=>?_
        simp
        and_intros<;>try omega
        apply Y
        simp only [List.drop]
        refine vcL_split 4 fun _ Y=>?_
        simp
        and_intros<;>try omega
        apply Y
        simp only [List.drop]
        refine vcL_step fun _ Y=>?_
        simp
        refine zce (set5_fn x (o.kind - 6) o.a o.name o.value o.c _ hx s1 (hsa _) (hss _)) ?_
        rw [q8 (by omega) (by omega)]
        apply Y
        simp
        and_intros<;>try omega
        apply Z
        apply awp_ret
        simp [endQ]
end Go.Proofs.YtpfmpeaekgdgnaaGreat


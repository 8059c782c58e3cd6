import Derived.Test.YtpfmpeaekgdgnaaGreatWkAr17
namespace Go.Proofs.YtpfmpeaekgdgnaaGreat
open Go Go.Vm
set_option maxRecDepth 20000
set_option linter.all false
set_option maxHeartbeats 8000000
theorem new_ix (most : Int) (σ τ : List (List D)) (hs : τ = σ ++ [[], dcel σ.length (d0 most (σ.length + 2)), ncel rootN]) : ∃ m M d rk, σ.length + 1 = m ∧ d.x = newX most ∧ IX 0 m M d rk (newX most) τ :=
 ⟨_, _, d0 most (σ.length + 2), _, rfl, rfl, by rw [hs]; exact d0_IV most σ, XP.refl (d := newX most) (by simp [newX])⟩
theorem cut_ok {acts : List Act} (ha : ∀ a ∈ acts, a.name.size ≤ 9223372036854775807 ∧ a.value.size ≤ 9223372036854775807) {k : Nat} (hk : k < acts.length) : acts[k].name.size ≤ 9223372036854775807 ∧ acts[k].value.size ≤ 9223372036854775807 := ha _ (List.getElem_mem hk)
theorem awake_fn  (σ : List (List D))  : Ct Tryz.prog 11 [] σ (fun r σ' => r = .bool true) := by
 refine zf (rs:=[.tmp 0]) Tryz.func11 Tryz.ntmps11 Tryz.results11 ?_
 simp only [argEnv]
 refine zr0 fun _ _ Z=>?_
 simp[awB]
 and_intros<;>try omega
 apply Z
 refine zr0 fun _ _ Z=>?_
 refine vcL_step fun _ Y=>?_
 simp[awB]
 refine zcm (anew_fn 3 _) ?_
 rintro _ τ0 ⟨hr9, hs9⟩
 subst hr9
 obtain ⟨m, M, dd, rk0, hm0, hx0, hi0⟩ := new_ix _ _ _ hs9
 rw [hm0]
 clear hs9 hm0
 obtain ⟨σ1, σ2, σ3, u1, u2, u3, u4, u5⟩ := aw_steps hi0.iv hx0
 apply Y
 simp[awB]
 and_intros<;>try omega
 apply Z
 apply awp_seq
 refine zr0 fun _ _ Z=>?_
 simp[awB]
 and_intros<;>try omega
 apply Z
 refine zi ?_
 refine ⟨fun c1=>?_,fun c1=>?_⟩
 ·simp at c1
 ·try simp at c1
  apply awp_skip
  apply q_then_n
  refine zr0 fun _ _ Z=>?_
  refine vcL_split 1 fun _ Y=>?_
  simp[awB]
  and_intros<;>try omega
  apply Y
  simp only [List.drop]
  refine vcL_step fun _ Y=>?_
  simp[awB]
  refine zce (u1) ?_
  apply Y
  simp[awB]
  and_intros<;>try omega
  apply Z
  refine zk [0,1,2,3] ?_
  refine zr0 fun _ _ Z=>?_
  refine vcL_split 2 fun _ Y=>?_
  simp[awB]
  and_intros<;>try omega
  apply Y
  simp only [List.drop]
  refine vcL_step fun _ Y=>?_
  simp[awB]
  refine zce (u2) ?_
  apply Y
  simp[awB]
  and_intros<;>try omega
  apply Z
  refine zr0 fun _ _ Z=>?_
  refine vcL_split 1 fun _ Y=>?_
  simp[awB]
  and_intros<;>try omega
  apply Y
  simp only [List.drop]
  refine vcL_step fun _ Y=>?_
  simp[awB]
  refine zce (u3) ?_
  apply Y
  simp[awB]
  and_intros<;>try omega
  apply Z
  refine zk [0,1,2,3,4,5,6] ?_
  refine zrg ⟨[],[],[],[],[]⟩ fun all hall _ Z=>?_
  have ga2 : guardOf all 2 = some 25 := hall 2
  have ga6 : guardOf all 6 = some 29 := hall 6
  have ga10 : guardOf all 10 = some 33 := hall 10
  have ga13 : guardOf all 13 = some 36 := hall 13
  have ga18 : guardOf all 18 = some 41 := hall 18
  have ga23 : guardOf all 23 = some 46 := hall 23
  have ga29 : guardOf all 29 = some 52 := hall 29
  refine vcL_split 3 fun _ Y=>?_
  simp[awB,ga2,ga6,ga10,ga13,ga18,ga23,ga29]
  and_intros<;>try omega
  apply Y
  simp only [List.drop]
  refine vcL_bool 25 (by simp <;> rfl) ?_
  refine ⟨fun g2 => ?_, fun g2 => ?_⟩
  ·try simp at g2
   refine vcL_split 4 fun _ Y=>?_
   simp[awB,ga2,ga6,ga10,ga13,ga18,ga23,ga29]
   and_intros<;>try omega
   apply Y
   simp only [List.drop]
   refine vcL_bool 29 (by simp <;> rfl) ?_
   refine ⟨fun g3 => ?_, fun g3 => ?_⟩
   ·try simp at g3
    refine vcL_split 4 fun _ Y=>?_
    simp[awB,ga2,ga6,ga10,ga13,ga18,ga23,ga29]
    and_intros<;>try omega
    apply Y
    simp only [List.drop]
    refine vcL_bool 33 (by simp <;> rfl) ?_
    refine ⟨fun g4 => ?_, fun g4 => ?_⟩
    ·try simp at g4
     refine vcL_split 3 fun _ Y=>?_
     simp[awB,ga2,ga6,ga10,ga13,ga18,ga23,ga29]
     and_intros<;>try omega
     apply Y
     simp only [List.drop]
     refine vcL_bool 36 (by simp <;> rfl) ?_
     refine ⟨fun g5 => ?_, fun g5 => ?_⟩
     ·try simp at g5
      refine vcL_split 5 fun _ Y=>?_
      simp[awB,ga2,ga6,ga10,ga13,ga18,ga23,ga29]
      and_intros<;>try omega
      apply Y
      simp only [List.drop]
      refine vcL_bool 41 (by simp <;> rfl) ?_
      refine ⟨fun g6 => ?_, fun g6 => ?_⟩
      ·try simp at g6
       refine vcL_split 5 fun _ Y=>?_
       simp[awB,ga2,ga6,ga10,ga13,ga18,ga23,ga29]
       and_intros<;>try omega
       apply Y
       simp only [List.drop]
       refine vcL_bool 46 (by simp <;> rfl) ?_
       refine ⟨fun g7 => ?_, fun g7 => ?_⟩
       ·try simp at g7
        refine vcL_split 2 fun _ Y=>?_
        simp[awB,ga2,ga6,ga10,ga13,ga18,ga23,ga29]
        and_intros<;>try omega
        apply Y
        simp only [List.drop]
        refine zg ga23 fun _ Y=>?_
        simp[awB,ga2,ga6,ga10,ga13,ga18,ga23,ga29]
        refine zce (u4) ?_
        apply Y
        refine vcL_split 3 fun _ Y=>?_
        simp[awB,ga2,ga6,ga10,ga13,ga18,ga23,ga29]
        and_intros<;>try omega
        apply Y
        simp only [List.drop]
        refine vcL_bool 52 (by simp <;> rfl) ?_
        refine ⟨fun g8 => ?_, fun g8 => ?_⟩
        ·try simp at g8
         refine vcL_split 1 fun _ Y=>?_
         simp[awB,ga2,ga6,ga10,ga13,ga18,ga23,ga29]
         and_intros<;>try omega
         apply Y
         simp only [List.drop]
         refine zg ga29 fun _ Y=>?_
         simp[awB,ga2,ga6,ga10,ga13,ga18,ga23,ga29]
         refine zce (u5) ?_
         apply Y
         simp[awB,ga2,ga6,ga10,ga13,ga18,ga23,ga29]
         and_intros<;>try omega
         apply Z
         apply awp_ret
         simp [endQ]
        ·simp at g8
       ·simp at g7
      ·simp at g6
     ·simp at g5
    ·simp at g4
   ·simp at g3
  ·simp at g2
end Go.Proofs.YtpfmpeaekgdgnaaGreat


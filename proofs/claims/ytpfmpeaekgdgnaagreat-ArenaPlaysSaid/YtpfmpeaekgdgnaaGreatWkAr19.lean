import Derived.Test.YtpfmpeaekgdgnaaGreatWkAr18
namespace Go.Proofs.YtpfmpeaekgdgnaaGreat
open Go Go.Vm
set_option maxRecDepth 20000
set_option linter.all false
set_option maxHeartbeats 8000000
theorem lawPlays_fn (most : Int) (acts : List Act) (σ : List (List D)) (hl : acts.length ≤ 9223372036854775807) (ha : ∀ a ∈ acts, a.name.size ≤ 9223372036854775807 ∧ a.value.size ≤ 9223372036854775807) : Ct Tryz.prog 4 [D.int most, .sl false (acts.map d_Act)] σ (fun r σ' => r = .bool true) := by
 refine zf (rs:=[.tmp 4]) Tryz.func4 Tryz.ntmps4 Tryz.results4 ?_
 simp only [argEnv]
 have hx6 := True.intro
 have h26 := True.intro
 have hs6 := True.intro
 refine zr ⟨[],[],[6],[],[]⟩ fun all K hK => ?_
 simp (disch:=first|omega|assumption)[hx6, h26, hs6, og_at, og_put, og_at0, og_put0, List.set_set]
 and_intros<;>try first|omega|exact rfl
 refine hK _ ?_
 apply awp_seq
 refine zr ⟨[],[],[6],[],[]⟩ fun all K hK => ?_
 refine vcL_step fun K' hK' => ?_
 simp (disch:=first|omega|assumption)[hx6, h26, hs6, og_at, og_put, og_at0, og_put0, List.set_set]
 refine zcm (awake_fn _) ?_
 rintro _ σ1 hr9
 subst hr9
 refine hK' _ ?_
 simp (disch:=first|omega|assumption)[hx6, h26, hs6, og_at, og_put, og_at0, og_put0, List.set_set]
 and_intros<;>try first|omega|exact rfl
 refine hK _ ?_
 refine awp_ifB (by simp <;> rfl) ?_
 refine ⟨fun c1 => ?_, fun c1 => ?_⟩
 ·simp at c1
 ·try simp at c1
  refine awp_skip ?_
  refine q_then_n ?_
  refine zr ⟨[],[],[6],[],[]⟩ fun all K hK => ?_
  refine vcL_split 1 fun K' hK' => ?_
  simp (disch:=first|omega|assumption)[hx6, h26, hs6, og_at, og_put, og_at0, og_put0, List.set_set]
  and_intros<;>try first|omega|exact rfl
  refine hK' _ ?_
  simp only [List.drop_succ_cons, List.drop_zero]
  refine vcL_step fun K' hK' => ?_
  simp (disch:=first|omega|assumption)[hx6, h26, hs6, og_at, og_put, og_at0, og_put0, List.set_set]
  refine zcm (anew_fn most _) ?_
  rintro _ τ0 ⟨hr9, hs9⟩
  subst hr9
  obtain ⟨m, M, dd, rk0, hm0, hx0, hi0⟩ := new_ix _ _ _ hs9
  rw [hm0]
  clear hs9 hm0
  refine hK' _ ?_
  refine vcL_split 1 fun K' hK' => ?_
  simp (disch:=first|omega|assumption)[hx6, h26, hs6, og_at, og_put, og_at0, og_put0, List.set_set]
  and_intros<;>try first|omega|exact rfl
  refine hK' _ ?_
  simp only [List.drop_succ_cons, List.drop_zero]
  refine vcL_step fun K' hK' => ?_
  simp (disch:=first|omega|assumption)[hx6, h26, hs6, og_at, og_put, og_at0, og_put0, List.set_set]
  refine zce (new5_fn most _) ?_
  refine hK' _ ?_
  simp (disch:=first|omega|assumption)[hx6, h26, hs6, og_at, og_put, og_at0, og_put0, List.set_set]
  and_intros<;>try first|omega|exact rfl
  refine hK _ ?_
  apply awp_seq
  refine zr ⟨[],[],[6],[],[]⟩ fun all K hK => ?_
  simp (disch:=first|omega|assumption)[hx6, h26, hs6, og_at, og_put, og_at0, og_put0, List.set_set]
  and_intros<;>try first|omega|exact rfl
  refine hK _ ?_
  refine awp_ifB (by simp <;> rfl) ?_
  refine ⟨fun c2 => ?_, fun c2 => ?_⟩
  ·simp at c2
  ·try simp at c2
   refine awp_skip ?_
   refine q_then_n ?_
   apply awp_seq
   refine zr ⟨[],[],[6],[],[]⟩ fun all K hK => ?_
   simp (disch:=first|omega|assumption)[hx6, h26, hs6, og_at, og_put, og_at0, og_put0, List.set_set]
   and_intros<;>try first|omega|exact rfl
   refine hK _ ?_
   refine awp_block ?_
   refine zk [1,4,5,6,7] ?_
   refine awp_loopO (fun (p : Nat × DS × (Int → Nat) × RD × List (List D)) => [(7, .d (.int p.1))]) (fun (p : Nat × DS × (Int → Nat) × RD × List (List D)) => []) (fun (p : Nat × DS × (Int → Nat) × RD × List (List D)) => p.2.2.2.2) [4, 7, 8, 9, 18, 19, 20, 21, 22, 23, 24, 25, 26, 27, 28, 29, 30, 31, 32, 33, 34, 35, 36, 37, 38, 39, 40, 41, 42, 43, 44, 45, 46] (fun (p : Nat × DS × (Int → Nat) × RD × List (List D)) => p.1 ≤ acts.length ∧ p.1 ≤ 30 ∧ IX p.1 m M p.2.1 p.2.2.1 p.2.2.2.1 p.2.2.2.2 ∧ Off m p.2.1 τ0.length ∧ p.2.2.2.2[τ0.length]? = some [D.int p.2.2.2.1.most, D.int p.2.2.2.1.next, .sl false (p.2.2.2.1.l.map d_ND)]) (fun (p : Nat × DS × (Int → Nat) × RD × List (List D)) => acts.length - p.1) ((0, dd, rk0, newX most, τ0 ++ [[D.int (newX most).most, D.int (newX most).next, .sl false ((newX most).l.map d_ND)]])) (by simp <;> rfl) ?_ (by simp) (by simp) ?_ ?_
   ·simp
   ·exact ⟨Nat.zero_le _, Nat.zero_le _, hi0.app _, hi0.off (Nat.le_refl _), by simp⟩
   rintro ⟨k, d, rk, x, τ⟩ ⟨hk, hk3, hx, hof, hx6⟩
   simp only [List.cons_append, List.nil_append]
   simp only at hk hk3 hx hof hx6
   apply awp_seq
   refine zrg ⟨[],[],[6],[],[]⟩ fun all hall K hK => ?_
   have ga4 : guardOf all 4 = some 22 := hall 4
   refine vcL_split 5 fun K' hK' => ?_
   simp (disch:=first|omega|assumption)[hx6, h26, hs6, og_at, og_put, og_at0, og_put0, List.set_set, ga4]
   and_intros<;>try first|omega|exact rfl
   refine hK' _ ?_
   simp only [List.drop_succ_cons, List.drop_zero]
   refine vcL_bool 22 (by simp <;> rfl) ?_
   refine ⟨fun g3 => ?_, fun g3 => ?_⟩
   ·try simp at g3
    simp (disch:=first|omega|assumption)[hx6, h26, hs6, og_at, og_put, og_at0, og_put0, List.set_set, ga4]
    and_intros<;>try first|omega|exact rfl
    refine hK _ ?_
    refine awp_ifB (by simp <;> rfl) ?_
    refine ⟨fun c4 => ?_, fun c4 => ?_⟩
    ·try simp at c4
     refine awp_skip ?_
     refine q_then_n ?_
     apply awp_seq
     refine awp_block ?_
     refine zk [1,5,6,7] ?_
     refine zd ⟨[],[],[6],[],[]⟩ [.op ⟨false, false, false, false⟩, .op ⟨false, false, true, false⟩, .op ⟨false, false, false, false⟩, .op ⟨false, false, false, false⟩, .op ⟨false, false, false, false⟩, .op ⟨false, false, false, false⟩, .det, .op ⟨false, false, false, false⟩, .op ⟨false, false, false, false⟩, .op ⟨false, false, false, false⟩, .op ⟨true, true, false, false⟩, .op ⟨true, true, false, false⟩, .op ⟨false, false, false, false⟩] fun all hall K hK => ?_
     refine vcDL_split 6 (by simp) fun K' hK' => ?_
     simp (disch:=first|omega|assumption)[hx6, h26, hs6, og_at, og_put, og_at0, og_put0, List.set_set]
     and_intros<;>try first|omega|exact rfl
     refine hK' _ ?_
     simp only [List.drop_succ_cons, List.drop_zero]
     refine vcDL_step fun K' hK' => ?_
     simp (disch:=first|omega|assumption)[hx6, h26, hs6, og_at, og_put, og_at0, og_put0, List.set_set]
     obtain ⟨d2, rk2, σ2, y2, hc2, hx2, hn2, fr2⟩ := do_det acts[k] hx (by omega) (cut_ok ha (by omega)).1 (cut_ok ha (by omega)).2
     obtain ⟨hof2, h26⟩ := hof.step (og_lt hx6) fr2
     rw [hx6] at h26
     have hs6 : ∀ c, (σ2.set τ0.length c)[τ0.length]? = some c := og_get h26
     refine zdd (hc2) ?_
     refine hK' _ ?_
     simp (disch:=first|omega|assumption)[hx6, h26, hs6, og_at, og_put, og_at0, og_put0, List.set_set]
     and_intros<;>try first|omega|exact rfl
     refine hK _ ?_
     refine zk [1,5,6,7,8,9] ?_
     refine zr ⟨[],[],[6],[],[]⟩ fun all K hK => ?_
     simp (disch:=first|omega|assumption)[hx6, h26, hs6, og_at, og_put, og_at0, og_put0, List.set_set]
     and_intros<;>try first|omega|exact rfl
     refine hK _ ?_
     refine zrg ⟨[],[],[6],[],[]⟩ fun all hall K hK => ?_
     have ga2 : guardOf all 2 = some 41 := hall 2
     refine vcL_split 3 fun K' hK' => ?_
     simp (disch:=first|omega|assumption)[hx6, h26, hs6, og_at, og_put, og_at0, og_put0, List.set_set, ga2]
     and_intros<;>try first|omega|exact rfl
     refine hK' _ ?_
     simp only [List.drop_succ_cons, List.drop_zero]
     refine vcL_bool 41 (by simp <;> rfl) ?_
     refine ⟨fun g5 => ?_, fun g5 => ?_⟩
     ·simp at g5
     ·try simp at g5
      refine vcL_split 2 fun K' hK' => ?_
      simp (disch:=first|omega|assumption)[hx6, h26, hs6, og_at, og_put, og_at0, og_put0, List.set_set, ga2]
      and_intros<;>try first|omega|exact rfl
      refine hK' _ ?_
      simp only [List.drop_succ_cons, List.drop_zero]
      refine zg ga2 fun K' hK' => ?_
      simp (disch:=first|omega|assumption)[hx6, h26, hs6, og_at, og_put, og_at0, og_put0, List.set_set, ga2]
      refine zce (is_fn (k + 1) m M d2 rk2 y2 _ (hx2.put hof2 _) (by omega)) ?_
      refine hK' _ ?_
      simp (disch:=first|omega|assumption)[hx6, h26, hs6, og_at, og_put, og_at0, og_put0, List.set_set, ga2]
      and_intros<;>try first|omega|exact rfl
      refine hK _ ?_
      refine awp_ifB (by simp <;> rfl) ?_
      refine ⟨fun c6 => ?_, fun c6 => ?_⟩
      ·simp at c6
      ·try simp at c6
       refine awp_skip ?_
       refine q_block_n ?_
       refine q_then_n ?_
       refine zk [1,5,6,7] ?_
       refine zt ⟨[],[],[6],[],[]⟩ fun all K hK => ?_
       simp (disch:=first|omega|assumption)[hx6, h26, hs6, og_at, og_put, og_at0, og_put0, List.set_set]
       and_intros<;>try first|omega|exact rfl
       refine hK _ ?_
       refine q_round ((k + 1, d2, rk2, y2, σ2.set τ0.length [D.int y2.most, D.int y2.next, .sl false (y2.l.map d_ND)])) ?_ ?_ (weak_mkA rfl ?_ (by simp) (by simp))
       ·exact ⟨by simp only; omega, by simp only; omega, hx2.put hof2 _, hof2, og_get h26 _⟩
       ·try dsimp only
        omega
       ·simp (disch:=first|omega|assumption)[hx6, h26, hs6, og_at, og_put, og_at0, og_put0, List.set_set]
    ·try simp at c4
     refine awp_exit ?_
     refine q_then_e ?_
     refine q_loop_e ?_
     refine q_block_e ?_
     refine q_then_n ?_
     refine zk [] ?_
     refine zr ⟨[],[],[6],[],[]⟩ fun all K hK => ?_
     simp (disch:=first|omega|assumption)[hx6, h26, hs6, og_at, og_put, og_at0, og_put0, List.set_set]
     and_intros<;>try first|omega|exact rfl
     refine hK _ ?_
     refine awp_ret ?_
     simp [endQ]
   ·try simp at g3
    simp (disch:=first|omega|assumption)[hx6, h26, hs6, og_at, og_put, og_at0, og_put0, List.set_set, ga4]
    and_intros<;>try first|omega|exact rfl
    refine hK _ ?_
    refine awp_cond (t := false) (by simp) (fun h => by cases h) (fun _ => ?_)
    refine awp_exit ?_
    refine q_then_e ?_
    refine q_loop_e ?_
    refine q_block_e ?_
    refine q_then_n ?_
    refine zk [] ?_
    refine zr ⟨[],[],[6],[],[]⟩ fun all K hK => ?_
    simp (disch:=first|omega|assumption)[hx6, h26, hs6, og_at, og_put, og_at0, og_put0, List.set_set]
    and_intros<;>try first|omega|exact rfl
    refine hK _ ?_
    refine awp_ret ?_
    simp [endQ]
end Go.Proofs.YtpfmpeaekgdgnaaGreat


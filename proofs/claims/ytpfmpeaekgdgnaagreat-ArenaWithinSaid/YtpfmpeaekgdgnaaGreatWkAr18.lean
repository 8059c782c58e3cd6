import Derived.Test.YtpfmpeaekgdgnaaGreatWkAr17
namespace Go.Proofs.YtpfmpeaekgdgnaaGreat
open Go Go.Vm
set_option maxRecDepth 20000
set_option linter.all false
set_option maxHeartbeats 8000000
theorem new_ix (most : Int) (σ τ : List (List D)) (hs : τ = σ ++ [[], dcel σ.length (d0 most (σ.length + 2)), ncel rootN]) : ∃ m M d rk, σ.length + 1 = m ∧ d.x = newX most ∧ IX 0 m M d rk (newX most) τ :=
 ⟨_, _, d0 most (σ.length + 2), _, rfl, rfl, by rw [hs]; exact d0_IV most σ, XP.refl (d := newX most) (by simp [newX])⟩
theorem withB_neg {l : List ND} {rk : Int → Nat} (h : WT l rk) (bel : Int → List Int) {a : Int} (ha : a < 0) : withB l bel a a = false := by
 have : isL l a = false := by
  cases hl : isL l a with
  | false => rfl
  | true => obtain ⟨n, h1, h2⟩ := isL_iff.1 hl; have := h.nn n h1; omega
 unfold withB; rw [this]; rfl
theorem cut_ok {acts : List Act} (ha : ∀ a ∈ acts, a.name.size ≤ 9223372036854775807 ∧ a.value.size ≤ 9223372036854775807) {k : Nat} (hk : k < acts.length) : acts[k].name.size ≤ 9223372036854775807 ∧ acts[k].value.size ≤ 9223372036854775807 := ha _ (List.getElem_mem hk)
theorem awake_fn  (σ : List (List D))  : Ct Tryz.prog 11 [] σ (fun r σ' => r = .bool true) := by
 refine zf (rs:=[.tmp 0]) Tryz.func11 Tryz.ntmps11 Tryz.results11 ?_
 simp only [argEnv]
 refine zr0 fun all K hK => ?_
 simp[awB]
 and_intros<;>try omega
 refine hK _ ?_
 refine zr0 fun all K hK => ?_
 refine vcL_step fun K' hK' => ?_
 simp[awB]
 refine zcm (anew_fn 3 _) ?_
 rintro _ τ0 ⟨hr9, hs9⟩
 subst hr9
 obtain ⟨m, M, dd, rk0, hm0, hx0, hi0⟩ := new_ix _ _ _ hs9
 rw [hm0]
 clear hs9 hm0
 obtain ⟨σ1, σ2, σ3, u1, u2, u3, u4, u5⟩ := aw_steps hi0.iv hx0
 refine hK' _ ?_
 simp[awB]
 and_intros<;>try omega
 refine hK _ ?_
 apply awp_seq
 refine zr0 fun all K hK => ?_
 simp[awB]
 and_intros<;>try omega
 refine hK _ ?_
 refine awp_ifB (by simp <;> rfl) ?_
 refine ⟨fun c1 => ?_, fun c1 => ?_⟩
 ·simp at c1
 ·try simp at c1
  refine awp_skip ?_
  refine q_then_n ?_
  refine zr0 fun all K hK => ?_
  refine vcL_split 1 fun K' hK' => ?_
  simp[awB]
  and_intros<;>try omega
  refine hK' _ ?_
  simp only [List.drop]
  refine vcL_step fun K' hK' => ?_
  simp[awB]
  refine zce (u1) ?_
  refine hK' _ ?_
  simp[awB]
  and_intros<;>try omega
  refine hK _ ?_
  refine zk [0,1,2,3] ?_
  refine zr0 fun all K hK => ?_
  refine vcL_split 2 fun K' hK' => ?_
  simp[awB]
  and_intros<;>try omega
  refine hK' _ ?_
  simp only [List.drop]
  refine vcL_step fun K' hK' => ?_
  simp[awB]
  refine zce (u2) ?_
  refine hK' _ ?_
  simp[awB]
  and_intros<;>try omega
  refine hK _ ?_
  refine zr0 fun all K hK => ?_
  refine vcL_split 1 fun K' hK' => ?_
  simp[awB]
  and_intros<;>try omega
  refine hK' _ ?_
  simp only [List.drop]
  refine vcL_step fun K' hK' => ?_
  simp[awB]
  refine zce (u3) ?_
  refine hK' _ ?_
  simp[awB]
  and_intros<;>try omega
  refine hK _ ?_
  refine zk [0,1,2,3,4,5,6] ?_
  refine zrg ⟨[],[],[],[],[]⟩ fun all hall K hK => ?_
  have ga2 : guardOf all 2 = some 25 := hall 2
  have ga6 : guardOf all 6 = some 29 := hall 6
  have ga10 : guardOf all 10 = some 33 := hall 10
  have ga13 : guardOf all 13 = some 36 := hall 13
  have ga18 : guardOf all 18 = some 41 := hall 18
  have ga23 : guardOf all 23 = some 46 := hall 23
  have ga29 : guardOf all 29 = some 52 := hall 29
  refine vcL_split 3 fun K' hK' => ?_
  simp[awB, ga2, ga6, ga10, ga13, ga18, ga23, ga29]
  and_intros<;>try omega
  refine hK' _ ?_
  simp only [List.drop]
  refine vcL_bool 25 (by simp <;> rfl) ?_
  refine ⟨fun g2 => ?_, fun g2 => ?_⟩
  ·try simp at g2
   refine vcL_split 4 fun K' hK' => ?_
   simp[awB, ga2, ga6, ga10, ga13, ga18, ga23, ga29]
   and_intros<;>try omega
   refine hK' _ ?_
   simp only [List.drop]
   refine vcL_bool 29 (by simp <;> rfl) ?_
   refine ⟨fun g3 => ?_, fun g3 => ?_⟩
   ·try simp at g3
    refine vcL_split 4 fun K' hK' => ?_
    simp[awB, ga2, ga6, ga10, ga13, ga18, ga23, ga29]
    and_intros<;>try omega
    refine hK' _ ?_
    simp only [List.drop]
    refine vcL_bool 33 (by simp <;> rfl) ?_
    refine ⟨fun g4 => ?_, fun g4 => ?_⟩
    ·try simp at g4
     refine vcL_split 3 fun K' hK' => ?_
     simp[awB, ga2, ga6, ga10, ga13, ga18, ga23, ga29]
     and_intros<;>try omega
     refine hK' _ ?_
     simp only [List.drop]
     refine vcL_bool 36 (by simp <;> rfl) ?_
     refine ⟨fun g5 => ?_, fun g5 => ?_⟩
     ·try simp at g5
      refine vcL_split 5 fun K' hK' => ?_
      simp[awB, ga2, ga6, ga10, ga13, ga18, ga23, ga29]
      and_intros<;>try omega
      refine hK' _ ?_
      simp only [List.drop]
      refine vcL_bool 41 (by simp <;> rfl) ?_
      refine ⟨fun g6 => ?_, fun g6 => ?_⟩
      ·try simp at g6
       refine vcL_split 5 fun K' hK' => ?_
       simp[awB, ga2, ga6, ga10, ga13, ga18, ga23, ga29]
       and_intros<;>try omega
       refine hK' _ ?_
       simp only [List.drop]
       refine vcL_bool 46 (by simp <;> rfl) ?_
       refine ⟨fun g7 => ?_, fun g7 => ?_⟩
       ·try simp at g7
        refine vcL_split 2 fun K' hK' => ?_
        simp[awB, ga2, ga6, ga10, ga13, ga18, ga23, ga29]
        and_intros<;>try omega
        refine hK' _ ?_
        simp only [List.drop]
        refine zg ga23 fun K' hK' => ?_
        simp[awB, ga2, ga6, ga10, ga13, ga18, ga23, ga29]
        refine zce (u4) ?_
        refine hK' _ ?_
        refine vcL_split 3 fun K' hK' => ?_
        simp[awB, ga2, ga6, ga10, ga13, ga18, ga23, ga29]
        and_intros<;>try omega
        refine hK' _ ?_
        simp only [List.drop]
        refine vcL_bool 52 (by simp <;> rfl) ?_
        refine ⟨fun g8 => ?_, fun g8 => ?_⟩
        ·try simp at g8
         refine vcL_split 1 fun K' hK' => ?_
         simp[awB, ga2, ga6, ga10, ga13, ga18, ga23, ga29]
         and_intros<;>try omega
         refine hK' _ ?_
         simp only [List.drop]
         refine zg ga29 fun K' hK' => ?_
         simp[awB, ga2, ga6, ga10, ga13, ga18, ga23, ga29]
         refine zce (u5) ?_
         refine hK' _ ?_
         simp[awB, ga2, ga6, ga10, ga13, ga18, ga23, ga29]
         and_intros<;>try omega
         refine hK _ ?_
         refine awp_ret ?_
         simp [endQ]
        ·simp at g8
       ·simp at g7
      ·simp at g6
     ·simp at g5
    ·simp at g4
   ·simp at g3
  ·simp at g2
theorem lawWithin_fn (acts : List Act) (a b : Int) (σ : List (List D)) (hl : acts.length ≤ 9223372036854775807) (ha : ∀ a ∈ acts, a.name.size ≤ 9223372036854775807 ∧ a.value.size ≤ 9223372036854775807) : Ct Tryz.prog 3 [.sl false (acts.map d_Act), D.int a, D.int b] σ (fun r σ' => r = .bool true) := by
 refine zf (rs:=[.tmp 6]) Tryz.func3 Tryz.ntmps3 Tryz.results3 ?_
 simp only [argEnv]
 refine zr0 fun all K hK => ?_
 simp (maxSteps := 1000000) (disch := first | omega | assumption)
 repeat' refine And.intro ?_ ?_
 all_goals first | omega | exact rfl | skip
 refine hK _ ?_
 clear hK K
 clear all
 apply awp_seq
 refine zr0 fun all K hK => ?_
 refine vcL_step fun K' hK' => ?_
 simp (maxSteps := 1000000) (disch := first | omega | assumption)
 refine zcm (awake_fn _) ?_
 rintro _ σ1 hr9
 subst hr9
 refine hK' _ ?_
 clear hK' K'
 simp (maxSteps := 1000000) (disch := first | omega | assumption)
 repeat' refine And.intro ?_ ?_
 all_goals first | omega | exact rfl | skip
 refine hK _ ?_
 clear hK K
 clear all
 refine awp_ifB (by simp <;> rfl) ?_
 refine ⟨fun c1 => ?_, fun c1 => ?_⟩
 ·simp at c1
 ·try simp at c1
  refine awp_skip ?_
  refine q_then_n ?_
  refine zr0 fun all K hK => ?_
  refine vcL_step fun K' hK' => ?_
  simp (maxSteps := 1000000) (disch := first | omega | assumption)
  refine zcm (anew_fn 30 _) ?_
  rintro _ τ0 ⟨hr9, hs9⟩
  subst hr9
  obtain ⟨m, M, dd, rk0, hm0, hx0, hi0⟩ := new_ix _ _ _ hs9
  rw [hm0]
  clear hs9 hm0
  refine hK' _ ?_
  clear hK' K'
  refine vcL_step fun K' hK' => ?_
  simp (maxSteps := 1000000) (disch := first | omega | assumption)
  refine zce (new5_fn 30 _) ?_
  refine hK' _ ?_
  clear hK' K'
  simp (maxSteps := 1000000) (disch := first | omega | assumption)
  repeat' refine And.intro ?_ ?_
  all_goals first | omega | exact rfl | skip
  refine hK _ ?_
  clear hK K
  clear all
  apply awp_seq
  refine zr0 fun all K hK => ?_
  simp (maxSteps := 1000000) (disch := first | omega | assumption)
  repeat' refine And.intro ?_ ?_
  all_goals first | omega | exact rfl | skip
  refine hK _ ?_
  clear hK K
  clear all
  refine awp_ifB (by simp <;> rfl) ?_
  refine ⟨fun c2 => ?_, fun c2 => ?_⟩
  ·simp at c2
  ·try simp at c2
   refine awp_skip ?_
   refine q_then_n ?_
   apply awp_seq
   refine zr0 fun all K hK => ?_
   simp (maxSteps := 1000000) (disch := first | omega | assumption)
   repeat' refine And.intro ?_ ?_
   all_goals first | omega | exact rfl | skip
   refine hK _ ?_
   clear hK K
   clear all
   refine awp_block ?_
   refine zk [0,1,2,6,7,8,9] ?_
   refine awp_loopO (fun (p : Nat × DS × (Int → Nat) × RD × List (List D)) => [(9, .d (.v (.int .i64 p.1)))]) (fun (p : Nat × DS × (Int → Nat) × RD × List (List D)) => [[.v (.int .i64 p.2.2.2.1.most), .v (.int .i64 p.2.2.2.1.next), .sl false (p.2.2.2.1.l.map d_ND)]]) (fun (p : Nat × DS × (Int → Nat) × RD × List (List D)) => p.2.2.2.2) [9, 16, 17, 18, 19, 20, 21, 22, 23, 24, 25, 26, 27, 28, 29, 30, 31, 32, 33, 34, 35] (fun (p : Nat × DS × (Int → Nat) × RD × List (List D)) => p.1 ≤ acts.length ∧ p.1 ≤ 30 ∧ IX p.1 m M p.2.1 p.2.2.1 p.2.2.2.1 p.2.2.2.2) (fun (p : Nat × DS × (Int → Nat) × RD × List (List D)) => acts.length - p.1) ((0, dd, rk0, newX 30, τ0)) (by simp <;> rfl) ?_ (by simp) (by simp) ?_ ?_
   ·simp
   ·exact ⟨Nat.zero_le _, Nat.zero_le _, hi0⟩
   rintro ⟨k, d, rk, x, τ⟩ ⟨hk, hk3, hx⟩
   simp only [List.cons_append, List.nil_append]
   simp only at hk hk3 hx
   apply awp_seq
   refine zrg ⟨[],[],[],[],[]⟩ fun all hall K hK => ?_
   have ga4 : guardOf all 4 = some 20 := hall 4
   clear hall
   refine vcL_split 5 fun K' hK' => ?_
   simp (maxSteps := 1000000) (disch := first | omega | assumption) [ga4]
   repeat' refine And.intro ?_ ?_
   all_goals first | omega | exact rfl | skip
   refine hK' _ ?_
   clear hK' K'
   simp only [List.drop_succ_cons, List.drop_zero]
   refine vcL_bool 20 (by simp <;> rfl) ?_
   refine ⟨fun g3 => ?_, fun g3 => ?_⟩
   ·try simp at g3
    simp (maxSteps := 1000000) (disch := first | omega | assumption) [ga4]
    repeat' refine And.intro ?_ ?_
    all_goals first | omega | exact rfl | skip
    refine hK _ ?_
    clear hK K
    clear ga4
    clear all
    refine awp_ifB (by simp <;> rfl) ?_
    refine ⟨fun c4 => ?_, fun c4 => ?_⟩
    ·try simp at c4
     refine awp_skip ?_
     refine q_then_n ?_
     apply awp_seq
     refine awp_block ?_
     refine zk [0,1,2,6,7,8,9] ?_
     refine ze ⟨[],[],[],[],[]⟩ [.op ⟨false, false, false, false⟩, .op ⟨true, false, false, false⟩, .op ⟨false, false, false, false⟩, .op ⟨false, false, false, false⟩, .op ⟨false, false, false, false⟩, .op ⟨false, false, false, false⟩, .det, .op ⟨false, false, false, false⟩, .op ⟨false, false, false, false⟩, .op ⟨false, false, false, false⟩, .op ⟨true, true, false, false⟩] fun all hall K hK => ?_
     clear hall
     refine vcDL_split 6 (by simp) fun K' hK' => ?_
     simp (maxSteps := 1000000) (disch := first | omega | assumption)
     repeat' refine And.intro ?_ ?_
     all_goals first | omega | exact rfl | skip
     refine hK' _ ?_
     clear hK' K'
     simp only [List.drop_succ_cons, List.drop_zero]
     refine vcDL_step fun K' hK' => ?_
     simp (maxSteps := 1000000) (disch := first | omega | assumption)
     obtain ⟨d2, rk2, σ2, y2, hc2, hx2, hn2, fr2⟩ := do_det acts[k] hx (by omega) (cut_ok ha (by omega)).1 (cut_ok ha (by omega)).2
     refine zdd (hc2) ?_
     refine hK' _ ?_
     clear hK' K'
     simp (maxSteps := 1000000) (disch := first | omega | assumption)
     repeat' refine And.intro ?_ ?_
     all_goals first | omega | exact rfl | skip
     refine hK _ ?_
     clear hK K
     clear all
     refine q_block_n ?_
     refine q_then_n ?_
     refine zk [0,1,2,6,7,8,9] ?_
     refine zt0 fun all K hK => ?_
     simp (maxSteps := 1000000) (disch := first | omega | assumption)
     repeat' refine And.intro ?_ ?_
     all_goals first | omega | exact rfl | skip
     refine hK _ ?_
     clear hK K
     clear all
     refine q_round ((k + 1, d2, rk2, y2, σ2)) ?_ ?_ (weak_mkA rfl ?_ (by simp) (by simp))
     ·exact ⟨by simp only; omega, by simp only; omega, hx2⟩
     ·try dsimp only
      omega
     ·simp (maxSteps := 1000000) (disch := first | omega | assumption)
    ·try simp at c4
     refine awp_exit ?_
     refine q_then_e ?_
     refine q_loop_e ?_
     refine q_block_e ?_
     refine q_then_n ?_
     have hnb := hx.iv.ip.NB (by omega)
     have hxx : NB x.l := hx.xp.nb hnb
     have htx : Tr x.l (belR d.l rk) rk := (hx.iv.wt.Tr (by have := hx.iv.ip.len; rw [l_len]; omega)).perm hx.xp.fd
     refine zk [1,2,6,7,8] ?_
     refine zd ⟨[],[],[],[],[]⟩ [.op ⟨false, false, false, false⟩, .op ⟨false, false, false, false⟩, .op ⟨false, false, false, false⟩, .read, .op ⟨true, false, false, false⟩, .op ⟨false, false, false, false⟩, .op ⟨false, false, false, false⟩, .pure, .op ⟨false, false, false, false⟩, .op ⟨false, false, false, false⟩, .op ⟨false, false, false, false⟩, .op ⟨false, false, false, false⟩, .op ⟨false, false, false, false⟩, .read, .op ⟨false, false, false, false⟩, .op ⟨false, false, false, false⟩, .op ⟨false, false, false, false⟩, .op ⟨true, false, false, false⟩, .op ⟨false, false, false, false⟩, .op ⟨false, false, false, false⟩, .pure, .op ⟨false, false, false, false⟩, .op ⟨false, false, false, false⟩, .op ⟨false, false, false, false⟩, .op ⟨false, false, false, false⟩, .op ⟨false, false, false, false⟩, .op ⟨false, false, false, false⟩, .read, .op ⟨true, false, false, false⟩, .op ⟨false, false, false, false⟩, .pure, .op ⟨false, false, false, false⟩, .op ⟨false, false, false, false⟩, .op ⟨false, false, false, false⟩] fun all hall K hK => ?_
     have ga9 : guardOf all 9 = some 45 := hall 9
     have ga16 : guardOf all 16 = some 52 := hall 16
     have ga24 : guardOf all 24 = some 60 := hall 24
     clear hall
     refine vcDL_split 3 (by simp) fun K' hK' => ?_
     simp (maxSteps := 1000000) (disch := first | omega | assumption) [ga9, ga16, ga24]
     repeat' refine And.intro ?_ ?_
     all_goals first | omega | exact rfl | skip
     refine hK' _ ?_
     clear hK' K'
     simp only [List.drop_succ_cons, List.drop_zero]
     refine vcDL_step fun K' hK' => ?_
     simp (maxSteps := 1000000) (disch := first | omega | assumption) [ga9, ga16, ga24]
     refine zdr (within_fn m M d rk a b _ hx.iv.ho hx.iv.wt) ?_
     refine hK' _ ?_
     clear hK' K'
     refine vcDL_split 3 (by simp) fun K' hK' => ?_
     simp (maxSteps := 1000000) (disch := first | omega | assumption) [ga9, ga16, ga24]
     repeat' refine And.intro ?_ ?_
     all_goals first | omega | exact rfl | skip
     refine hK' _ ?_
     clear hK' K'
     simp only [List.drop_succ_cons, List.drop_zero]
     refine vcDL_step fun K' hK' => ?_
     simp (maxSteps := 1000000) (disch := first | omega | assumption) [ga9, ga16, ga24]
     refine zdp (fun _ => (within5_fn x a b (belR d.l rk) rk _ hxx htx)) ?_
     rw [hx.xp.wb]
     refine hK' _ ?_
     clear hK' K'
     refine vcDL_split 2 (by simp) fun K' hK' => ?_
     simp (maxSteps := 1000000) (disch := first | omega | assumption) [ga9, ga16, ga24]
     repeat' refine And.intro ?_ ?_
     all_goals first | omega | exact rfl | skip
     refine hK' _ ?_
     clear hK' K'
     simp only [List.drop_succ_cons, List.drop_zero]
     refine vcDL_bool 45 (by simp <;> rfl) ?_
     refine ⟨fun g5 => ?_, fun g5 => ?_⟩
     ·try simp at g5
      refine vcDL_split 3 (by simp) fun K' hK' => ?_
      simp (maxSteps := 1000000) (disch := first | omega | assumption) [ga9, ga16, ga24]
      repeat' refine And.intro ?_ ?_
      all_goals first | omega | exact rfl | skip
      refine hK' _ ?_
      clear hK' K'
      simp only [List.drop_succ_cons, List.drop_zero]
      refine zdg ga9 fun K' hK' => ?_
      simp (maxSteps := 1000000) (disch := first | omega | assumption) [ga9, ga16, ga24]
      refine zdr (within_fn m M d rk a a _ hx.iv.ho hx.iv.wt) ?_
      refine hK' _ ?_
      clear hK' K'
      refine vcDL_split 3 (by simp) fun K' hK' => ?_
      simp (maxSteps := 1000000) (disch := first | omega | assumption) [ga9, ga16, ga24]
      repeat' refine And.intro ?_ ?_
      all_goals first | omega | exact rfl | skip
      refine hK' _ ?_
      clear hK' K'
      simp only [List.drop_succ_cons, List.drop_zero]
      refine vcDL_bool 52 (by simp <;> rfl) ?_
      refine ⟨fun g6 => ?_, fun g6 => ?_⟩
      ·try simp at g6
       refine vcDL_split 3 (by simp) fun K' hK' => ?_
       simp (maxSteps := 1000000) (disch := first | omega | assumption) [ga9, ga16, ga24]
       repeat' refine And.intro ?_ ?_
       all_goals first | omega | exact rfl | skip
       refine hK' _ ?_
       clear hK' K'
       simp only [List.drop_succ_cons, List.drop_zero]
       refine zdg ga16 fun K' hK' => ?_
       simp (maxSteps := 1000000) (disch := first | omega | assumption) [ga9, ga16, ga24]
       refine zdp (fun _ => (within5_fn x a a (belR d.l rk) rk _ hxx htx)) ?_
       rw [hx.xp.wb]
       refine hK' _ ?_
       clear hK' K'
       refine vcDL_split 4 (by simp) fun K' hK' => ?_
       simp (maxSteps := 1000000) (disch := first | omega | assumption) [ga9, ga16, ga24]
       repeat' refine And.intro ?_ ?_
       all_goals first | omega | exact rfl | skip
       refine hK' _ ?_
       clear hK' K'
       simp only [List.drop_succ_cons, List.drop_zero]
       refine vcDL_bool 60 (by simp <;> rfl) ?_
       refine ⟨fun g7 => ?_, fun g7 => ?_⟩
       ·try simp at g7
        refine vcDL_split 2 (by simp) fun K' hK' => ?_
        simp (maxSteps := 1000000) (disch := first | omega | assumption) [ga9, ga16, ga24]
        repeat' refine And.intro ?_ ?_
        all_goals first | omega | exact rfl | skip
        refine hK' _ ?_
        clear hK' K'
        simp only [List.drop_succ_cons, List.drop_zero]
        refine zdg ga24 fun K' hK' => ?_
        simp (maxSteps := 1000000) (disch := first | omega | assumption) [ga9, ga16, ga24]
        refine zdr (dindex_fn m M d a _ hx.iv.ho hnb hx.iv.WP (fun e he => hx.iv.fd he)) ?_
        refine hK' _ ?_
        clear hK' K'
        refine vcDL_split 2 (by simp) fun K' hK' => ?_
        simp (maxSteps := 1000000) (disch := first | omega | assumption) [ga9, ga16, ga24]
        repeat' refine And.intro ?_ ?_
        all_goals first | omega | exact rfl | skip
        refine hK' _ ?_
        clear hK' K'
        simp only [List.drop_succ_cons, List.drop_zero]
        refine zdg ga24 fun K' hK' => ?_
        simp (maxSteps := 1000000) (disch := first | omega | assumption) [ga9, ga16, ga24]
        refine zdp (fun _ => (index5_fn x a _ hxx)) ?_
        rw [hx.xp.ix]
        refine hK' _ ?_
        clear hK' K'
        simp (maxSteps := 1000000) (disch := first | omega | assumption) [ga9, ga16, ga24]
        repeat' refine And.intro ?_ ?_
        all_goals first | omega | exact rfl | skip
        refine hK _ ?_
        clear hK K
        clear ga9 ga16 ga24
        clear all
        refine awp_ret ?_
        simp [endQ]
       ·simp at g7
      ·try simp at g6
       refine vcDL_split 8 (by simp) fun K' hK' => ?_
       simp (maxSteps := 1000000) (disch := first | omega | assumption) [ga9, ga16, ga24]
       repeat' refine And.intro ?_ ?_
       all_goals first | omega | exact rfl | skip
       refine hK' _ ?_
       clear hK' K'
       simp only [List.drop_succ_cons, List.drop_zero]
       refine vcDL_bool 60 (by simp <;> rfl) ?_
       refine ⟨fun g8 => ?_, fun g8 => ?_⟩
       ·try simp at g8
        refine vcDL_split 2 (by simp) fun K' hK' => ?_
        simp (maxSteps := 1000000) (disch := first | omega | assumption) [ga9, ga16, ga24]
        repeat' refine And.intro ?_ ?_
        all_goals first | omega | exact rfl | skip
        refine hK' _ ?_
        clear hK' K'
        simp only [List.drop_succ_cons, List.drop_zero]
        refine zdg ga24 fun K' hK' => ?_
        simp (maxSteps := 1000000) (disch := first | omega | assumption) [ga9, ga16, ga24]
        refine zdr (dindex_fn m M d a _ hx.iv.ho hnb hx.iv.WP (fun e he => hx.iv.fd he)) ?_
        refine hK' _ ?_
        clear hK' K'
        refine vcDL_split 2 (by simp) fun K' hK' => ?_
        simp (maxSteps := 1000000) (disch := first | omega | assumption) [ga9, ga16, ga24]
        repeat' refine And.intro ?_ ?_
        all_goals first | omega | exact rfl | skip
        refine hK' _ ?_
        clear hK' K'
        simp only [List.drop_succ_cons, List.drop_zero]
        refine zdg ga24 fun K' hK' => ?_
        simp (maxSteps := 1000000) (disch := first | omega | assumption) [ga9, ga16, ga24]
        refine zdp (fun _ => (index5_fn x a _ hxx)) ?_
        rw [hx.xp.ix]
        refine hK' _ ?_
        clear hK' K'
        simp (maxSteps := 1000000) (disch := first | omega | assumption) [ga9, ga16, ga24]
        repeat' refine And.intro ?_ ?_
        all_goals first | omega | exact rfl | skip
        refine hK _ ?_
        clear hK K
        clear ga9 ga16 ga24
        clear all
        refine awp_ret ?_
        simp [endQ]
       ·try simp at g8
        rw [withB_neg hx.iv.wt _ (by omega)] at g8; cases g8
     ·simp at g5
   ·try simp at g3
    simp (maxSteps := 1000000) (disch := first | omega | assumption) [ga4]
    repeat' refine And.intro ?_ ?_
    all_goals first | omega | exact rfl | skip
    refine hK _ ?_
    clear hK K
    clear ga4
    clear all
    refine awp_cond (t := false) (by simp) (fun h => by cases h) (fun _ => ?_)
    refine awp_exit ?_
    refine q_then_e ?_
    refine q_loop_e ?_
    refine q_block_e ?_
    refine q_then_n ?_
    have hnb := hx.iv.ip.NB (by omega)
    have hxx : NB x.l := hx.xp.nb hnb
    have htx : Tr x.l (belR d.l rk) rk := (hx.iv.wt.Tr (by have := hx.iv.ip.len; rw [l_len]; omega)).perm hx.xp.fd
    refine zk [1,2,6,7,8] ?_
    refine zd ⟨[],[],[],[],[]⟩ [.op ⟨false, false, false, false⟩, .op ⟨false, false, false, false⟩, .op ⟨false, false, false, false⟩, .read, .op ⟨true, false, false, false⟩, .op ⟨false, false, false, false⟩, .op ⟨false, false, false, false⟩, .pure, .op ⟨false, false, false, false⟩, .op ⟨false, false, false, false⟩, .op ⟨false, false, false, false⟩, .op ⟨false, false, false, false⟩, .op ⟨false, false, false, false⟩, .read, .op ⟨false, false, false, false⟩, .op ⟨false, false, false, false⟩, .op ⟨false, false, false, false⟩, .op ⟨true, false, false, false⟩, .op ⟨false, false, false, false⟩, .op ⟨false, false, false, false⟩, .pure, .op ⟨false, false, false, false⟩, .op ⟨false, false, false, false⟩, .op ⟨false, false, false, false⟩, .op ⟨false, false, false, false⟩, .op ⟨false, false, false, false⟩, .op ⟨false, false, false, false⟩, .read, .op ⟨true, false, false, false⟩, .op ⟨false, false, false, false⟩, .pure, .op ⟨false, false, false, false⟩, .op ⟨false, false, false, false⟩, .op ⟨false, false, false, false⟩] fun all hall K hK => ?_
    have ga9 : guardOf all 9 = some 45 := hall 9
    have ga16 : guardOf all 16 = some 52 := hall 16
    have ga24 : guardOf all 24 = some 60 := hall 24
    clear hall
    refine vcDL_split 3 (by simp) fun K' hK' => ?_
    simp (maxSteps := 1000000) (disch := first | omega | assumption) [ga9, ga16, ga24]
    repeat' refine And.intro ?_ ?_
    all_goals first | omega | exact rfl | skip
    refine hK' _ ?_
    clear hK' K'
    simp only [List.drop_succ_cons, List.drop_zero]
    refine vcDL_step fun K' hK' => ?_
    simp (maxSteps := 1000000) (disch := first | omega | assumption) [ga9, ga16, ga24]
    refine zdr (within_fn m M d rk a b _ hx.iv.ho hx.iv.wt) ?_
    refine hK' _ ?_
    clear hK' K'
    refine vcDL_split 3 (by simp) fun K' hK' => ?_
    simp (maxSteps := 1000000) (disch := first | omega | assumption) [ga9, ga16, ga24]
    repeat' refine And.intro ?_ ?_
    all_goals first | omega | exact rfl | skip
    refine hK' _ ?_
    clear hK' K'
    simp only [List.drop_succ_cons, List.drop_zero]
    refine vcDL_step fun K' hK' => ?_
    simp (maxSteps := 1000000) (disch := first | omega | assumption) [ga9, ga16, ga24]
    refine zdp (fun _ => (within5_fn x a b (belR d.l rk) rk _ hxx htx)) ?_
    rw [hx.xp.wb]
    refine hK' _ ?_
    clear hK' K'
    refine vcDL_split 2 (by simp) fun K' hK' => ?_
    simp (maxSteps := 1000000) (disch := first | omega | assumption) [ga9, ga16, ga24]
    repeat' refine And.intro ?_ ?_
    all_goals first | omega | exact rfl | skip
    refine hK' _ ?_
    clear hK' K'
    simp only [List.drop_succ_cons, List.drop_zero]
    refine vcDL_bool 45 (by simp <;> rfl) ?_
    refine ⟨fun g9 => ?_, fun g9 => ?_⟩
    ·try simp at g9
     refine vcDL_split 3 (by simp) fun K' hK' => ?_
     simp (maxSteps := 1000000) (disch := first | omega | assumption) [ga9, ga16, ga24]
     repeat' refine And.intro ?_ ?_
     all_goals first | omega | exact rfl | skip
     refine hK' _ ?_
     clear hK' K'
     simp only [List.drop_succ_cons, List.drop_zero]
     refine zdg ga9 fun K' hK' => ?_
     simp (maxSteps := 1000000) (disch := first | omega | assumption) [ga9, ga16, ga24]
     refine zdr (within_fn m M d rk a a _ hx.iv.ho hx.iv.wt) ?_
     refine hK' _ ?_
     clear hK' K'
     refine vcDL_split 3 (by simp) fun K' hK' => ?_
     simp (maxSteps := 1000000) (disch := first | omega | assumption) [ga9, ga16, ga24]
     repeat' refine And.intro ?_ ?_
     all_goals first | omega | exact rfl | skip
     refine hK' _ ?_
     clear hK' K'
     simp only [List.drop_succ_cons, List.drop_zero]
     refine vcDL_bool 52 (by simp <;> rfl) ?_
     refine ⟨fun g10 => ?_, fun g10 => ?_⟩
     ·try simp at g10
      refine vcDL_split 3 (by simp) fun K' hK' => ?_
      simp (maxSteps := 1000000) (disch := first | omega | assumption) [ga9, ga16, ga24]
      repeat' refine And.intro ?_ ?_
      all_goals first | omega | exact rfl | skip
      refine hK' _ ?_
      clear hK' K'
      simp only [List.drop_succ_cons, List.drop_zero]
      refine zdg ga16 fun K' hK' => ?_
      simp (maxSteps := 1000000) (disch := first | omega | assumption) [ga9, ga16, ga24]
      refine zdp (fun _ => (within5_fn x a a (belR d.l rk) rk _ hxx htx)) ?_
      rw [hx.xp.wb]
      refine hK' _ ?_
      clear hK' K'
      refine vcDL_split 4 (by simp) fun K' hK' => ?_
      simp (maxSteps := 1000000) (disch := first | omega | assumption) [ga9, ga16, ga24]
      repeat' refine And.intro ?_ ?_
      all_goals first | omega | exact rfl | skip
      refine hK' _ ?_
      clear hK' K'
      simp only [List.drop_succ_cons, List.drop_zero]
      refine vcDL_bool 60 (by simp <;> rfl) ?_
      refine ⟨fun g11 => ?_, fun g11 => ?_⟩
      ·try simp at g11
       refine vcDL_split 2 (by simp) fun K' hK' => ?_
       simp (maxSteps := 1000000) (disch := first | omega | assumption) [ga9, ga16, ga24]
       repeat' refine And.intro ?_ ?_
       all_goals first | omega | exact rfl | skip
       refine hK' _ ?_
       clear hK' K'
       simp only [List.drop_succ_cons, List.drop_zero]
       refine zdg ga24 fun K' hK' => ?_
       simp (maxSteps := 1000000) (disch := first | omega | assumption) [ga9, ga16, ga24]
       refine zdr (dindex_fn m M d a _ hx.iv.ho hnb hx.iv.WP (fun e he => hx.iv.fd he)) ?_
       refine hK' _ ?_
       clear hK' K'
       refine vcDL_split 2 (by simp) fun K' hK' => ?_
       simp (maxSteps := 1000000) (disch := first | omega | assumption) [ga9, ga16, ga24]
       repeat' refine And.intro ?_ ?_
       all_goals first | omega | exact rfl | skip
       refine hK' _ ?_
       clear hK' K'
       simp only [List.drop_succ_cons, List.drop_zero]
       refine zdg ga24 fun K' hK' => ?_
       simp (maxSteps := 1000000) (disch := first | omega | assumption) [ga9, ga16, ga24]
       refine zdp (fun _ => (index5_fn x a _ hxx)) ?_
       rw [hx.xp.ix]
       refine hK' _ ?_
       clear hK' K'
       simp (maxSteps := 1000000) (disch := first | omega | assumption) [ga9, ga16, ga24]
       repeat' refine And.intro ?_ ?_
       all_goals first | omega | exact rfl | skip
       refine hK _ ?_
       clear hK K
       clear ga9 ga16 ga24
       clear all
       refine awp_ret ?_
       simp [endQ]
      ·simp at g11
     ·try simp at g10
      refine vcDL_split 8 (by simp) fun K' hK' => ?_
      simp (maxSteps := 1000000) (disch := first | omega | assumption) [ga9, ga16, ga24]
      repeat' refine And.intro ?_ ?_
      all_goals first | omega | exact rfl | skip
      refine hK' _ ?_
      clear hK' K'
      simp only [List.drop_succ_cons, List.drop_zero]
      refine vcDL_bool 60 (by simp <;> rfl) ?_
      refine ⟨fun g12 => ?_, fun g12 => ?_⟩
      ·try simp at g12
       refine vcDL_split 2 (by simp) fun K' hK' => ?_
       simp (maxSteps := 1000000) (disch := first | omega | assumption) [ga9, ga16, ga24]
       repeat' refine And.intro ?_ ?_
       all_goals first | omega | exact rfl | skip
       refine hK' _ ?_
       clear hK' K'
       simp only [List.drop_succ_cons, List.drop_zero]
       refine zdg ga24 fun K' hK' => ?_
       simp (maxSteps := 1000000) (disch := first | omega | assumption) [ga9, ga16, ga24]
       refine zdr (dindex_fn m M d a _ hx.iv.ho hnb hx.iv.WP (fun e he => hx.iv.fd he)) ?_
       refine hK' _ ?_
       clear hK' K'
       refine vcDL_split 2 (by simp) fun K' hK' => ?_
       simp (maxSteps := 1000000) (disch := first | omega | assumption) [ga9, ga16, ga24]
       repeat' refine And.intro ?_ ?_
       all_goals first | omega | exact rfl | skip
       refine hK' _ ?_
       clear hK' K'
       simp only [List.drop_succ_cons, List.drop_zero]
       refine zdg ga24 fun K' hK' => ?_
       simp (maxSteps := 1000000) (disch := first | omega | assumption) [ga9, ga16, ga24]
       refine zdp (fun _ => (index5_fn x a _ hxx)) ?_
       rw [hx.xp.ix]
       refine hK' _ ?_
       clear hK' K'
       simp (maxSteps := 1000000) (disch := first | omega | assumption) [ga9, ga16, ga24]
       repeat' refine And.intro ?_ ?_
       all_goals first | omega | exact rfl | skip
       refine hK _ ?_
       clear hK K
       clear ga9 ga16 ga24
       clear all
       refine awp_ret ?_
       simp [endQ]
      ·try simp at g12
       rw [withB_neg hx.iv.wt _ (by omega)] at g12; cases g12
    ·simp at g9
end Go.Proofs.YtpfmpeaekgdgnaaGreat


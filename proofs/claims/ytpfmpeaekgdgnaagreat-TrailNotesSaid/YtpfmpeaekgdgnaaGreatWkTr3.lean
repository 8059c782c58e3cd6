import Derived.Test.YtpfmpeaekgdgnaaGreatTrAw
import Derived.Test.YtpfmpeaekgdgnaaGreatWkAr18
namespace Go.Proofs.YtpfmpeaekgdgnaaGreat
open Go Go.Vm
set_option maxRecDepth 20000
set_option linter.all false
set_option maxHeartbeats 8000000
theorem awake6_fn  (σ : List (List D))  : Ct Tryz.prog 25 [] σ (fun r σ' => r = .bool true) := by
 refine zf (rs:=[.tmp 0]) Tryz.func25 Tryz.ntmps25 Tryz.results25 ?_
 simp only [argEnv]
 have hat := True.intro
 refine zr0 fun _ _ Z=>?_
 simp[hat]
 and_intros<;>try omega
 apply Z
 refine zr0 fun _ _ Z=>?_
 refine vcL_step fun _ Y=>?_
 simp[hat]
 refine zcm (anew_fn 3 _) ?_
 rintro _ τ0 ⟨hr9, hs9⟩
 subst hr9
 obtain ⟨m, M, dd, rk0, hm0, hx0, hi0⟩ := new_ix _ _ _ hs9
 rw [hm0]
 clear hs9 hm0
 apply Y
 simp[hat]
 and_intros<;>try omega
 apply Z
 apply awp_seq
 refine zr0 fun _ _ Z=>?_
 simp[hat]
 and_intros<;>try omega
 apply Z
 refine zi ?_
 refine ⟨fun c1=>?_,fun c1=>?_⟩
 ·simp at c1
 ·try simp at c1
  apply awp_skip
  apply q_then_n
  refine zr0 fun _ _ Z=>?_
  refine vcL_split 1 fun _ Y=>?_
  simp[hat]
  and_intros<;>try omega
  apply Y
  simp only [List.drop]
  refine vcL_step fun _ Y=>?_
  simp[hat]
  refine zcm (ton_fn m _) ?_
  rintro _ τ ⟨hr9, hs9⟩
  subst hr9
  have hat : τ[τ0.length]? = some (lcel m []) := by rw [hs9]; simp
  have hi : IX 0 m M dd rk0 (newX 3) τ := by rw [hs9]; exact hi0.app _
  have hoff := hi0.off (Nat.le_refl τ0.length)
  clear hs9
  generalize τ0.length = l at *
  obtain ⟨σ1, σ2, u1, u2, u3, u4, u5, u6⟩ := aw_log hi hx0 hoff hat
  apply Y
  simp[hat]
  and_intros<;>try omega
  apply Z
  apply awp_seq
  refine zrg ⟨[],[],[],[],[]⟩ fun all hall _ Z=>?_
  have ga2 : guardOf all 2 = some 14 := hall 2
  refine vcL_split 3 fun _ Y=>?_
  simp[hat,ga2]
  and_intros<;>try omega
  apply Y
  simp only [List.drop]
  refine vcL_bool 14 (by simp <;> rfl) ?_
  refine ⟨fun g2 => ?_, fun g2 => ?_⟩
  ·simp at g2
  ·try simp at g2
   simp[hat,ga2]
   and_intros<;>try omega
   apply Z
   refine zi ?_
   refine ⟨fun c3=>?_,fun c3=>?_⟩
   ·simp at c3
   ·try simp at c3
    apply awp_skip
    apply q_then_n
    refine zk [0,2] ?_
    refine zr0 fun _ _ Z=>?_
    refine vcL_split 1 fun _ Y=>?_
    simp[hat]
    and_intros<;>try omega
    apply Y
    simp only [List.drop]
    refine vcL_step fun _ Y=>?_
    simp[hat]
    refine zce (lElement_fn l m [] pB 1 0 σ1 _ hat u1 u2 (by decide)) ?_
    apply Y
    simp[hat]
    and_intros<;>try omega
    apply Z
    refine zr0 fun _ _ Z=>?_
    refine vcL_split 2 fun _ Y=>?_
    simp[hat]
    and_intros<;>try omega
    apply Y
    simp only [List.drop]
    refine vcL_step fun _ Y=>?_
    simp[hat]
    refine zce (lInsert_fn l m [op1] 0 0 1 0 σ2 _ u4 u3 u5 (by decide)) ?_
    apply Y
    simp[hat]
    and_intros<;>try omega
    apply Z
    refine zk [0,2,3,4,5] ?_
    refine zr0 fun _ _ Z=>?_
    refine vcL_split 1 fun _ Y=>?_
    simp[hat]
    and_intros<;>try omega
    apply Y
    simp only [List.drop]
    refine vcL_step fun _ Y=>?_
    simp[hat]
    refine zce (lops_fn l m [op1, op2] _ (by decide) u6) ?_
    apply Y
    simp[hat]
    and_intros<;>try omega
    apply Z
    refine zk [0,3,4,5,6] ?_
    refine zrg ⟨[],[],[],[],[]⟩ fun all hall _ Z=>?_
    have ga2 : guardOf all 2 = some 33 := hall 2
    have ga6 : guardOf all 6 = some 37 := hall 6
    have ga10 : guardOf all 10 = some 41 := hall 10
    have ga15 : guardOf all 15 = some 46 := hall 15
    have ga22 : guardOf all 22 = some 53 := hall 22
    refine vcL_split 3 fun _ Y=>?_
    simp[hat,ga2,ga6,ga10,ga15,ga22]
    and_intros<;>try omega
    apply Y
    simp only [List.drop]
    refine vcL_bool 33 (by simp <;> rfl) ?_
    refine ⟨fun g4 => ?_, fun g4 => ?_⟩
    ·try simp at g4
     refine vcL_split 4 fun _ Y=>?_
     simp[hat,ga2,ga6,ga10,ga15,ga22]
     and_intros<;>try omega
     apply Y
     simp only [List.drop]
     refine vcL_bool 37 (by simp <;> rfl) ?_
     refine ⟨fun g5 => ?_, fun g5 => ?_⟩
     ·try simp at g5
      refine vcL_split 4 fun _ Y=>?_
      simp[hat,ga2,ga6,ga10,ga15,ga22]
      and_intros<;>try omega
      apply Y
      simp only [List.drop]
      refine vcL_bool 41 (by simp <;> rfl) ?_
      refine ⟨fun g6 => ?_, fun g6 => ?_⟩
      ·try simp at g6
       refine vcL_split 5 fun _ Y=>?_
       simp[hat,ga2,ga6,ga10,ga15,ga22]
       and_intros<;>try omega
       apply Y
       simp only [List.drop]
       refine vcL_bool 46 (by simp <;> rfl) ?_
       refine ⟨fun g7 => ?_, fun g7 => ?_⟩
       ·try simp at g7
        refine vcL_split 7 fun _ Y=>?_
        simp[hat,ga2,ga6,ga10,ga15,ga22]
        and_intros<;>try omega
        apply Y
        simp only [List.drop]
        refine vcL_bool 53 (by simp <;> rfl) ?_
        refine ⟨fun g8 => ?_, fun g8 => ?_⟩
        ·try simp at g8
         simp[hat,ga2,ga6,ga10,ga15,ga22]
         and_intros<;>try omega
         apply Z
         apply awp_ret
         simp [endQ]
        ·simp at g8
       ·simp at g7
      ·simp at g6
     ·simp at g5
    ·simp at g4
theorem LX.clear {k m M l : Nat} {d : DS} {rk : Int → Nat} {x : RD} {ops : List TOp} {σ τ : List (List D)} (h : LX k m M l d rk x ops σ) (hs : τ = σ.set l (lcel m [])) : LX k m M l d rk x [] τ := by
 subst hs
 exact ⟨h.ix.put h.off _, h.off, og_get h.at_ _, Nat.zero_le _⟩
theorem lawNotes_fn (acts : List Act) (clear : Int) (σ : List (List D)) (hl : acts.length ≤ 9223372036854775807) (ha : ∀ a ∈ acts, a.name.size ≤ 9223372036854775807 ∧ a.value.size ≤ 9223372036854775807) : Ct Tryz.prog 8 [.sl false (acts.map d_Act), D.int clear] σ (fun r σ' => r = .bool true) := by
 refine zf (rs:=[.tmp 4]) Tryz.func8 Tryz.ntmps8 Tryz.results8 ?_
 simp only [argEnv]
 have hat := True.intro
 have ha2 := True.intro
 have ha3 := True.intro
 refine zr ⟨[8,71,74],[],[],[],[]⟩ fun _ _ Z=>?_
 simp (disch:=omega)[hat,ha2,ha3]
 and_intros<;>try omega
 apply Z
 apply awp_seq
 refine zr ⟨[8,71,74],[],[],[],[]⟩ fun _ _ Z=>?_
 refine vcL_step fun _ Y=>?_
 simp (disch:=omega)[hat,ha2,ha3]
 refine zcm (awake6_fn _) ?_
 rintro _ σ1 hr9
 subst hr9
 apply Y
 simp (disch:=omega)[hat,ha2,ha3]
 and_intros<;>try omega
 apply Z
 refine zi ?_
 refine ⟨fun c1=>?_,fun c1=>?_⟩
 ·simp at c1
 ·try simp at c1
  apply awp_skip
  apply q_then_n
  refine zr ⟨[8,71,74],[],[],[],[]⟩ fun _ _ Z=>?_
  refine vcL_step fun _ Y=>?_
  simp (disch:=omega)[hat,ha2,ha3]
  refine zcm (anew_fn 12 _) ?_
  rintro _ τ0 ⟨hr9, hs9⟩
  subst hr9
  obtain ⟨m, M, dd, rk0, hm0, hx0, hi0⟩ := new_ix _ _ _ hs9
  rw [hm0]
  clear hs9 hm0
  apply Y
  refine vcL_step fun _ Y=>?_
  simp (disch:=omega)[hat,ha2,ha3]
  refine zce (new5_fn 12 _) ?_
  apply Y
  simp (disch:=omega)[hat,ha2,ha3]
  and_intros<;>try omega
  apply Z
  refine zr ⟨[8,71,74],[],[],[],[]⟩ fun _ _ Z=>?_
  refine vcL_split 1 fun _ Y=>?_
  simp (disch:=omega)[hat,ha2,ha3]
  and_intros<;>try omega
  apply Y
  simp only [List.drop]
  refine vcL_step fun _ Y=>?_
  simp (disch:=omega)[hat,ha2,ha3]
  refine zcm (ton_fn m _) ?_
  rintro _ τ ⟨hr9, hs9⟩
  subst hr9
  have hat : τ[τ0.length]? = some (lcel m []) := by rw [hs9]; simp
  have hi : IX 0 m M dd rk0 (newX 12) τ := by rw [hs9]; exact hi0.app _
  have hoff := hi0.off (Nat.le_refl τ0.length)
  clear hs9
  generalize τ0.length = l at *
  apply Y
  simp (disch:=omega)[hat,ha2,ha3]
  and_intros<;>try omega
  apply Z
  apply awp_seq
  refine zrg ⟨[8,71,74],[],[],[],[]⟩ fun all hall _ Z=>?_
  have ga2 : guardOf all 2 = some 24 := hall 2
  refine vcL_split 3 fun _ Y=>?_
  simp (disch:=omega)[hat,ha2,ha3,ga2]
  and_intros<;>try omega
  apply Y
  simp only [List.drop]
  refine vcL_bool 24 (by simp <;> rfl) ?_
  refine ⟨fun g2 => ?_, fun g2 => ?_⟩
  ·simp at g2
  ·try simp at g2
   simp (disch:=omega)[hat,ha2,ha3,ga2]
   and_intros<;>try omega
   apply Z
   refine zi ?_
   refine ⟨fun c3=>?_,fun c3=>?_⟩
   ·simp at c3
   ·try simp at c3
    apply awp_skip
    apply q_then_n
    refine zk [0,1,4,6,7] ?_
    refine zr ⟨[8,71,74],[],[],[],[]⟩ fun _ _ Z=>?_
    simp (disch:=omega)[hat,ha2,ha3]
    and_intros<;>try omega
    apply Z
    apply awp_seq
    refine zr ⟨[8,71,74],[],[],[],[]⟩ fun _ _ Z=>?_
    simp (disch:=omega)[hat,ha2,ha3]
    and_intros<;>try omega
    apply Z
    apply awp_block
    refine zk [0,1,4,6,7,8,9] ?_
    refine awp_loopO (fun (p : Nat × DS × (Int → Nat) × RD × List TOp × List (List D)) => [(9, .d (.v (.int .i64 p.1))), (8, .d (.sl true (p.2.2.2.2.1.map d_TOp)))]) (fun (p : Nat × DS × (Int → Nat) × RD × List TOp × List (List D)) => [[.v (.int .i64 p.2.2.2.1.most), .v (.int .i64 p.2.2.2.1.next), .sl false (p.2.2.2.1.l.map d_ND)]]) (fun (p : Nat × DS × (Int → Nat) × RD × List TOp × List (List D)) => p.2.2.2.2.2) [4, 8, 9, 10, 11, 12, 13, 14, 15, 28, 29, 30, 31, 32, 33, 34, 35, 36, 37, 38, 39, 40, 41, 42, 43, 44, 45, 46, 47, 48, 49, 50, 51, 52, 53, 54, 55, 56, 57, 58, 59, 60, 61, 62, 63, 64, 65, 66, 67, 68, 69, 70, 71, 72, 73, 74, 75, 76, 77, 78, 79, 80, 81, 82, 83, 84, 85, 86, 87, 88, 89, 90, 91, 92, 93] (fun (p : Nat × DS × (Int → Nat) × RD × List TOp × List (List D)) => p.1 ≤ acts.length ∧ p.1 ≤ 30 ∧ LX p.1 m M l p.2.1 p.2.2.1 p.2.2.2.1 p.2.2.2.2.1 p.2.2.2.2.2) (fun (p : Nat × DS × (Int → Nat) × RD × List TOp × List (List D)) => acts.length - p.1) ((0, dd, rk0, newX 12, [], τ)) (by simp <;> rfl) ?_ (by simp) (by simp) ?_ ?_
    ·simp
    ·exact ⟨Nat.zero_le _, Nat.zero_le _, hi, hoff, hat, Nat.le_refl _⟩
    rintro ⟨k, d, rk, x, ops, τ⟩ ⟨hk, hk3, hx⟩
    simp only [List.cons_append, List.nil_append]
    simp only at hk hk3 hx
    have hat := hx.at_
    have hol := hx.len
    apply awp_seq
    refine zrg ⟨[8,71,74],[],[],[],[]⟩ fun all hall _ Z=>?_
    have ga4 : guardOf all 4 = some 32 := hall 4
    refine vcL_split 5 fun _ Y=>?_
    simp (disch:=omega)[hat,ha2,ha3,ga4]
    and_intros<;>try omega
    apply Y
    simp only [List.drop]
    refine vcL_bool 32 (by simp <;> rfl) ?_
    refine ⟨fun g4 => ?_, fun g4 => ?_⟩
    ·try simp at g4
     simp (disch:=omega)[hat,ha2,ha3,ga4]
     and_intros<;>try omega
     apply Z
     refine zi ?_
     refine ⟨fun c5=>?_,fun c5=>?_⟩
     ·try simp at c5
      apply awp_skip
      apply q_then_n
      apply awp_seq
      apply awp_block
      refine zk [0,1,6,7,8,9] ?_
      refine zr ⟨[8,71,74],[],[],[],[]⟩ fun _ _ Z=>?_
      refine vcL_split 4 fun _ Y=>?_
      simp (disch:=omega)[hat,ha2,ha3]
      and_intros<;>try omega
      apply Y
      simp only [List.drop]
      refine vcL_step fun _ Y=>?_
      simp (disch:=omega)[hat,ha2,ha3]
      refine zce (tidy_fn acts[k] _ (cut_ok ha (by omega)).1 (cut_ok ha (by omega)).2) ?_
      apply Y
      simp (disch:=omega)[hat,ha2,ha3]
      and_intros<;>try omega
      apply Z
      apply awp_seq
      refine zk [0,1,6,7,8,9,10] ?_
      refine zr ⟨[8,71,74],[],[],[],[]⟩ fun _ _ Z=>?_
      refine vcL_split 1 fun _ Y=>?_
      simp (disch:=omega)[hat,ha2,ha3]
      and_intros<;>try omega
      apply Y
      simp only [List.drop]
      refine vcL_step fun _ Y=>?_
      simp (disch:=omega)[hat,ha2,ha3]
      refine zce (known_fn (tidy acts[k]) _) ?_
      apply Y
      simp (disch:=omega)[hat,ha2,ha3]
      and_intros<;>try omega
      apply Z
      refine zi ?_
      refine ⟨fun c6=>?_,fun c6=>?_⟩
      ·try simp at c6
       apply awp_exit
       apply q_then_e
       apply q_block_e
       apply q_then_n
       refine zt ⟨[8,71,74],[],[],[],[]⟩ fun _ _ Z=>?_
       simp (disch:=omega)[hat,ha2,ha3]
       and_intros<;>try omega
       apply Z
       refine q_round ((k + 1, d, rk, x, ops, τ)) ?_ ?_ (weak_mkA rfl ?_ (by simp) (by simp))
       ·exact ⟨by simp only; omega, by simp only; omega, hx.keep⟩
       ·try dsimp only
        omega
       ·simp (disch:=omega)[hat,ha2,ha3]
      ·try simp at c6
       have hkn : (0 ≤ (tidy acts[k]).kind ∧ (tidy acts[k]).kind ≤ 4) ∨ (10 ≤ (tidy acts[k]).kind ∧ (tidy acts[k]).kind ≤ 17) := by omega
       apply awp_skip
       apply q_then_n
       refine zr ⟨[8,71,74],[],[],[],[]⟩ fun _ _ Z=>?_
       refine vcL_split 2 fun _ Y=>?_
       simp (disch:=omega)[hat,ha2,ha3]
       and_intros<;>try omega
       apply Y
       simp only [List.drop]
       refine vcL_step fun _ Y=>?_
       simp (disch:=omega)[hat,ha2,ha3]
       obtain ⟨t1, t2⟩ := tidy_len acts[k]
       obtain ⟨d2, rk2, σ2, y2, n2, cc2, hc2, hx2, hr2⟩ := call_det (tidy acts[k]) hkn hx (by omega) (by omega) (by omega)
       have ha2 := hx2.at_
       refine zce (hc2) ?_
       apply Y
       simp (disch:=omega)[hat,ha2,ha3]
       and_intros<;>try omega
       apply Z
       refine zk [0,1,6,7,8,9,10,11,12] ?_
       refine zr ⟨[8,71,74],[],[],[],[]⟩ fun _ _ Z=>?_
       simp (disch:=omega)[hat,ha2,ha3]
       and_intros<;>try omega
       apply Z
       apply awp_seq
       refine zr ⟨[8,71,74],[],[],[],[]⟩ fun _ _ Z=>?_
       simp (disch:=omega)[hat,ha2,ha3]
       and_intros<;>try omega
       apply Z
       refine zi ?_
       refine ⟨fun c7=>?_,fun c7=>?_⟩
       ·try simp at c7
        refine zk [0,1,6,7,8,9,11,12,13] ?_
        refine zt ⟨[8,71,74],[],[],[],[]⟩ fun _ _ Z=>?_
        simp (disch:=omega)[hat,ha2,ha3]
        and_intros<;>try omega
        apply Z
        apply q_then_n
        refine zk [0,1,6,7,8,9,11,12,13] ?_
        refine zr ⟨[8,71,74],[],[],[],[]⟩ fun _ _ Z=>?_
        refine vcL_split 2 fun _ Y=>?_
        simp (disch:=omega)[hat,ha2,ha3]
        and_intros<;>try omega
        apply Y
        simp only [List.drop]
        refine vcL_step fun _ Y=>?_
        simp (disch:=omega)[hat,ha2,ha3]
        rw [show asked x (tidy acts[k]) (opA (tidy acts[k]) n2) = { (opA (tidy acts[k]) n2) with a := x.next } from if_pos c7] at hr2
        refine zce (hr2 _) ?_
        apply Y
        simp (disch:=omega)[hat,ha2,ha3]
        and_intros<;>try omega
        apply Z
        apply awp_seq
        refine zk [0,1,6,7,8,9,11,12,14,15] ?_
        refine zr ⟨[8,71,74],[],[],[],[]⟩ fun _ _ Z=>?_
        simp (disch:=omega)[hat,ha2,ha3]
        and_intros<;>try omega
        apply Z
        refine zr ⟨[8,71,74],[],[],[],[]⟩ fun _ _ Z=>?_
        simp (disch:=omega)[hat,ha2,ha3]
        and_intros<;>try omega
        apply Z
        refine zi ?_
        refine ⟨fun c8=>?_,fun c8=>?_⟩
        ·simp at c8
        ·try simp at c8
         apply awp_skip
         apply q_then_n
         apply awp_seq
         refine zk [0,1,6,7,8,9,11,12] ?_
         refine zr ⟨[8,71,74],[],[],[],[]⟩ fun _ _ Z=>?_
         simp (disch:=omega)[hat,ha2,ha3]
         and_intros<;>try omega
         apply Z
         refine zi ?_
         refine ⟨fun c9=>?_,fun c9=>?_⟩
         ·try simp at c9
          have hno : nto ops cc2 (opA (tidy acts[k]) n2) = ops ++ [(opA (tidy acts[k]) n2)] := if_pos c9
          rw [hno] at hx2 ha2
          refine zt ⟨[8,71,74],[],[],[],[]⟩ fun _ _ Z=>?_
          simp (disch:=omega)[hat,ha2,ha3]
          and_intros<;>try omega
          apply Z
          apply q_then_n
          apply awp_seq
          refine zk [0,1,6,7,8,9] ?_
          refine zr ⟨[8,71,74],[],[],[],[]⟩ fun _ _ Z=>?_
          simp (disch:=omega)[hat,ha2,ha3]
          and_intros<;>try omega
          apply Z
          refine zi ?_
          refine ⟨fun c10=>?_,fun c10=>?_⟩
          ·try simp at c10
           refine zr ⟨[8,71,74],[],[],[],[]⟩ fun _ _ Z=>?_
           refine vcL_split 1 fun _ Y=>?_
           simp (disch:=omega)[hat,ha2,ha3]
           and_intros<;>try omega
           apply Y
           simp only [List.drop]
           refine vcL_step fun _ Y=>?_
           simp (disch:=omega)[hat,ha2,ha3]
           refine zcm (lclear_fn l m _ _ ha2) ?_
           rintro _ τ2 ⟨hr9, hs9⟩
           subst hr9
           have hx3 := hx2.clear hs9
           have ha3 := hx3.at_
           apply Y
           simp only [vcL_nil]
           apply Z
           refine zt ⟨[8,71,74],[],[],[],[]⟩ fun _ _ Z=>?_
           simp (disch:=omega)[hat,ha2,ha3]
           and_intros<;>try omega
           apply Z
           apply q_then_n
           refine zk [0,1,6,7,8,9] ?_
           refine zd ⟨[8,71,74],[],[],[],[]⟩ [.op {},.read,.op {},.pure,.op {},.op {},.op {},.op {},.op {},.op {rO:=true},.op {rL:=true},.read,.op {},.op {}] fun all hall _ Z=>?_
           have ga5 : guardOf all 5 = some 85 := hall 5
           refine vcDL_split 1 (by simp) fun _ Y=>?_
           simp (disch:=omega)[hat,ha2,ha3,ga5]
           and_intros<;>try omega
           apply Y
           simp only [List.drop]
           refine vcDL_step fun _ Y=>?_
           simp (disch:=omega)[hat,ha2,ha3,ga5]
           refine zdr (lops_fn l m [] _ (by have := hx3.len; omega) ha3) ?_
           apply Y
           refine vcDL_split 1 (by simp) fun _ Y=>?_
           simp (disch:=omega)[hat,ha2,ha3,ga5]
           and_intros<;>try omega
           apply Y
           simp only [List.drop]
           refine vcDL_step fun _ Y=>?_
           simp (disch:=omega)[hat,ha2,ha3,ga5]
           refine zdp (fun _ => (sameO_fn [] _ (by have := hx3.len; omega))) ?_
           apply Y
           refine vcDL_split 2 (by simp) fun _ Y=>?_
           simp (disch:=omega)[hat,ha2,ha3,ga5]
           and_intros<;>try omega
           apply Y
           simp only [List.drop]
           refine vcDL_bool 85 (by simp <;> rfl) ?_
           refine ⟨fun g11 => ?_, fun g11 => ?_⟩
           ·simp at g11
           ·try simp at g11
            refine vcDL_split 5 (by simp) fun _ Y=>?_
            simp (disch:=omega)[hat,ha2,ha3,ga5]
            and_intros<;>try omega
            apply Y
            simp only [List.drop]
            refine zdg ga5 fun _ Y=>?_
            simp (disch:=omega)[hat,ha2,ha3,ga5]
            refine zdr (is_fn (k + 1) m M d2 rk2 y2 _ hx3.ix (by omega)) ?_
            apply Y
            simp (disch:=omega)[hat,ha2,ha3,ga5]
            and_intros<;>try omega
            apply Z
            refine zi ?_
            refine ⟨fun c12=>?_,fun c12=>?_⟩
            ·simp at c12
            ·try simp at c12
             apply awp_skip
             apply q_block_n
             apply q_then_n
             refine zk [0,1,6,7,8,9] ?_
             refine zt ⟨[8,71,74],[],[],[],[]⟩ fun _ _ Z=>?_
             simp (disch:=omega)[hat,ha2,ha3]
             and_intros<;>try omega
             apply Z
             refine q_round ((k + 1, d2, rk2, y2, [], τ2)) ?_ ?_ (weak_mkA rfl ?_ (by simp) (by simp))
             ·exact ⟨by simp only; omega, by simp only; omega, hx3⟩
             ·try dsimp only
              omega
             ·simp (disch:=omega)[hat,ha2,ha3]
          ·try simp at c10
           apply awp_skip
           apply q_then_n
           refine zk [0,1,6,7,8,9] ?_
           refine zd ⟨[8,71,74],[],[],[],[]⟩ [.op {},.read,.op {},.pure,.op {},.op {},.op {},.op {},.op {},.op {rO:=true},.op {rL:=true},.read,.op {},.op {}] fun all hall _ Z=>?_
           have ga5 : guardOf all 5 = some 85 := hall 5
           refine vcDL_split 1 (by simp) fun _ Y=>?_
           simp (disch:=omega)[hat,ha2,ha3,ga5]
           and_intros<;>try omega
           apply Y
           simp only [List.drop]
           refine vcDL_step fun _ Y=>?_
           simp (disch:=omega)[hat,ha2,ha3,ga5]
           refine zdr (lops_fn l m (ops ++ [(opA (tidy acts[k]) n2)]) _ (by have := hx2.len; omega) ha2) ?_
           apply Y
           refine vcDL_split 1 (by simp) fun _ Y=>?_
           simp (disch:=omega)[hat,ha2,ha3,ga5]
           and_intros<;>try omega
           apply Y
           simp only [List.drop]
           refine vcDL_step fun _ Y=>?_
           simp (disch:=omega)[hat,ha2,ha3,ga5]
           refine zdp (fun _ => (sameO_fn (ops ++ [(opA (tidy acts[k]) n2)]) _ (by have := hx2.len; omega))) ?_
           apply Y
           refine vcDL_split 2 (by simp) fun _ Y=>?_
           simp (disch:=omega)[hat,ha2,ha3,ga5]
           and_intros<;>try omega
           apply Y
           simp only [List.drop]
           refine vcDL_bool 85 (by simp <;> rfl) ?_
           refine ⟨fun g13 => ?_, fun g13 => ?_⟩
           ·simp at g13
           ·try simp at g13
            refine vcDL_split 5 (by simp) fun _ Y=>?_
            simp (disch:=omega)[hat,ha2,ha3,ga5]
            and_intros<;>try omega
            apply Y
            simp only [List.drop]
            refine zdg ga5 fun _ Y=>?_
            simp (disch:=omega)[hat,ha2,ha3,ga5]
            refine zdr (is_fn (k + 1) m M d2 rk2 y2 _ hx2.ix (by omega)) ?_
            apply Y
            simp (disch:=omega)[hat,ha2,ha3,ga5]
            and_intros<;>try omega
            apply Z
            refine zi ?_
            refine ⟨fun c14=>?_,fun c14=>?_⟩
            ·simp at c14
            ·try simp at c14
             apply awp_skip
             apply q_block_n
             apply q_then_n
             refine zk [0,1,6,7,8,9] ?_
             refine zt ⟨[8,71,74],[],[],[],[]⟩ fun _ _ Z=>?_
             simp (disch:=omega)[hat,ha2,ha3]
             and_intros<;>try omega
             apply Z
             refine q_round ((k + 1, d2, rk2, y2, (ops ++ [(opA (tidy acts[k]) n2)]), σ2)) ?_ ?_ (weak_mkA rfl ?_ (by simp) (by simp))
             ·exact ⟨by simp only; omega, by simp only; omega, hx2⟩
             ·try dsimp only
              omega
             ·simp (disch:=omega)[hat,ha2,ha3]
         ·try simp at c9
          have hno : nto ops cc2 (opA (tidy acts[k]) n2) = ops := if_neg c9
          rw [hno] at hx2 ha2
          apply awp_skip
          apply q_then_n
          apply awp_seq
          refine zr ⟨[8,71,74],[],[],[],[]⟩ fun _ _ Z=>?_
          simp (disch:=omega)[hat,ha2,ha3]
          and_intros<;>try omega
          apply Z
          refine zi ?_
          refine ⟨fun c15=>?_,fun c15=>?_⟩
          ·try simp at c15
           refine zk [0,1,6,7,8,9] ?_
           refine zr ⟨[8,71,74],[],[],[],[]⟩ fun _ _ Z=>?_
           refine vcL_split 1 fun _ Y=>?_
           simp (disch:=omega)[hat,ha2,ha3]
           and_intros<;>try omega
           apply Y
           simp only [List.drop]
           refine vcL_step fun _ Y=>?_
           simp (disch:=omega)[hat,ha2,ha3]
           refine zcm (lclear_fn l m _ _ ha2) ?_
           rintro _ τ2 ⟨hr9, hs9⟩
           subst hr9
           have hx3 := hx2.clear hs9
           have ha3 := hx3.at_
           apply Y
           simp only [vcL_nil]
           apply Z
           refine zt ⟨[8,71,74],[],[],[],[]⟩ fun _ _ Z=>?_
           simp (disch:=omega)[hat,ha2,ha3]
           and_intros<;>try omega
           apply Z
           apply q_then_n
           refine zk [0,1,6,7,8,9] ?_
           refine zd ⟨[8,71,74],[],[],[],[]⟩ [.op {},.read,.op {},.pure,.op {},.op {},.op {},.op {},.op {},.op {rO:=true},.op {rL:=true},.read,.op {},.op {}] fun all hall _ Z=>?_
           have ga5 : guardOf all 5 = some 85 := hall 5
           refine vcDL_split 1 (by simp) fun _ Y=>?_
           simp (disch:=omega)[hat,ha2,ha3,ga5]
           and_intros<;>try omega
           apply Y
           simp only [List.drop]
           refine vcDL_step fun _ Y=>?_
           simp (disch:=omega)[hat,ha2,ha3,ga5]
           refine zdr (lops_fn l m [] _ (by have := hx3.len; omega) ha3) ?_
           apply Y
           refine vcDL_split 1 (by simp) fun _ Y=>?_
           simp (disch:=omega)[hat,ha2,ha3,ga5]
           and_intros<;>try omega
           apply Y
           simp only [List.drop]
           refine vcDL_step fun _ Y=>?_
           simp (disch:=omega)[hat,ha2,ha3,ga5]
           refine zdp (fun _ => (sameO_fn [] _ (by have := hx3.len; omega))) ?_
           apply Y
           refine vcDL_split 2 (by simp) fun _ Y=>?_
           simp (disch:=omega)[hat,ha2,ha3,ga5]
           and_intros<;>try omega
           apply Y
           simp only [List.drop]
           refine vcDL_bool 85 (by simp <;> rfl) ?_
           refine ⟨fun g16 => ?_, fun g16 => ?_⟩
           ·simp at g16
           ·try simp at g16
            refine vcDL_split 5 (by simp) fun _ Y=>?_
            simp (disch:=omega)[hat,ha2,ha3,ga5]
            and_intros<;>try omega
            apply Y
            simp only [List.drop]
            refine zdg ga5 fun _ Y=>?_
            simp (disch:=omega)[hat,ha2,ha3,ga5]
            refine zdr (is_fn (k + 1) m M d2 rk2 y2 _ hx3.ix (by omega)) ?_
            apply Y
            simp (disch:=omega)[hat,ha2,ha3,ga5]
            and_intros<;>try omega
            apply Z
            refine zi ?_
            refine ⟨fun c17=>?_,fun c17=>?_⟩
            ·simp at c17
            ·try simp at c17
             apply awp_skip
             apply q_block_n
             apply q_then_n
             refine zk [0,1,6,7,8,9] ?_
             refine zt ⟨[8,71,74],[],[],[],[]⟩ fun _ _ Z=>?_
             simp (disch:=omega)[hat,ha2,ha3]
             and_intros<;>try omega
             apply Z
             refine q_round ((k + 1, d2, rk2, y2, [], τ2)) ?_ ?_ (weak_mkA rfl ?_ (by simp) (by simp))
             ·exact ⟨by simp only; omega, by simp only; omega, hx3⟩
             ·try dsimp only
              omega
             ·simp (disch:=omega)[hat,ha2,ha3]
          ·try simp at c15
           apply awp_skip
           apply q_then_n
           refine zk [0,1,6,7,8,9] ?_
           refine zd ⟨[8,71,74],[],[],[],[]⟩ [.op {},.read,.op {},.pure,.op {},.op {},.op {},.op {},.op {},.op {rO:=true},.op {rL:=true},.read,.op {},.op {}] fun all hall _ Z=>?_
           have ga5 : guardOf all 5 = some 85 := hall 5
           refine vcDL_split 1 (by simp) fun _ Y=>?_
           simp (disch:=omega)[hat,ha2,ha3,ga5]
           and_intros<;>try omega
           apply Y
           simp only [List.drop]
           refine vcDL_step fun _ Y=>?_
           simp (disch:=omega)[hat,ha2,ha3,ga5]
           refine zdr (lops_fn l m ops _ (by have := hx2.len; omega) ha2) ?_
           apply Y
           refine vcDL_split 1 (by simp) fun _ Y=>?_
           simp (disch:=omega)[hat,ha2,ha3,ga5]
           and_intros<;>try omega
           apply Y
           simp only [List.drop]
           refine vcDL_step fun _ Y=>?_
           simp (disch:=omega)[hat,ha2,ha3,ga5]
           refine zdp (fun _ => (sameO_fn ops _ (by have := hx2.len; omega))) ?_
           apply Y
           refine vcDL_split 2 (by simp) fun _ Y=>?_
           simp (disch:=omega)[hat,ha2,ha3,ga5]
           and_intros<;>try omega
           apply Y
           simp only [List.drop]
           refine vcDL_bool 85 (by simp <;> rfl) ?_
           refine ⟨fun g18 => ?_, fun g18 => ?_⟩
           ·simp at g18
           ·try simp at g18
            refine vcDL_split 5 (by simp) fun _ Y=>?_
            simp (disch:=omega)[hat,ha2,ha3,ga5]
            and_intros<;>try omega
            apply Y
            simp only [List.drop]
            refine zdg ga5 fun _ Y=>?_
            simp (disch:=omega)[hat,ha2,ha3,ga5]
            refine zdr (is_fn (k + 1) m M d2 rk2 y2 _ hx2.ix (by omega)) ?_
            apply Y
            simp (disch:=omega)[hat,ha2,ha3,ga5]
            and_intros<;>try omega
            apply Z
            refine zi ?_
            refine ⟨fun c19=>?_,fun c19=>?_⟩
            ·simp at c19
            ·try simp at c19
             apply awp_skip
             apply q_block_n
             apply q_then_n
             refine zk [0,1,6,7,8,9] ?_
             refine zt ⟨[8,71,74],[],[],[],[]⟩ fun _ _ Z=>?_
             simp (disch:=omega)[hat,ha2,ha3]
             and_intros<;>try omega
             apply Z
             refine q_round ((k + 1, d2, rk2, y2, ops, σ2)) ?_ ?_ (weak_mkA rfl ?_ (by simp) (by simp))
             ·exact ⟨by simp only; omega, by simp only; omega, hx2⟩
             ·try dsimp only
              omega
             ·simp (disch:=omega)[hat,ha2,ha3]
       ·try simp at c7
        apply awp_skip
        apply q_then_n
        refine zk [0,1,6,7,8,9,11,12,13] ?_
        refine zr ⟨[8,71,74],[],[],[],[]⟩ fun _ _ Z=>?_
        refine vcL_split 2 fun _ Y=>?_
        simp (disch:=omega)[hat,ha2,ha3]
        and_intros<;>try omega
        apply Y
        simp only [List.drop]
        refine vcL_step fun _ Y=>?_
        simp (disch:=omega)[hat,ha2,ha3]
        rw [show asked x (tidy acts[k]) (opA (tidy acts[k]) n2) = (opA (tidy acts[k]) n2) from if_neg (by omega)] at hr2
        refine zce (hr2 _) ?_
        apply Y
        simp (disch:=omega)[hat,ha2,ha3]
        and_intros<;>try omega
        apply Z
        apply awp_seq
        refine zk [0,1,6,7,8,9,11,12,14,15] ?_
        refine zr ⟨[8,71,74],[],[],[],[]⟩ fun _ _ Z=>?_
        simp (disch:=omega)[hat,ha2,ha3]
        and_intros<;>try omega
        apply Z
        refine zr ⟨[8,71,74],[],[],[],[]⟩ fun _ _ Z=>?_
        simp (disch:=omega)[hat,ha2,ha3]
        and_intros<;>try omega
        apply Z
        refine zi ?_
        refine ⟨fun c20=>?_,fun c20=>?_⟩
        ·simp at c20
        ·try simp at c20
         apply awp_skip
         apply q_then_n
         apply awp_seq
         refine zk [0,1,6,7,8,9,11,12] ?_
         refine zr ⟨[8,71,74],[],[],[],[]⟩ fun _ _ Z=>?_
         simp (disch:=omega)[hat,ha2,ha3]
         and_intros<;>try omega
         apply Z
         refine zi ?_
         refine ⟨fun c21=>?_,fun c21=>?_⟩
         ·try simp at c21
          have hno : nto ops cc2 (opA (tidy acts[k]) n2) = ops ++ [(opA (tidy acts[k]) n2)] := if_pos c21
          rw [hno] at hx2 ha2
          refine zt ⟨[8,71,74],[],[],[],[]⟩ fun _ _ Z=>?_
          simp (disch:=omega)[hat,ha2,ha3]
          and_intros<;>try omega
          apply Z
          apply q_then_n
          apply awp_seq
          refine zk [0,1,6,7,8,9] ?_
          refine zr ⟨[8,71,74],[],[],[],[]⟩ fun _ _ Z=>?_
          simp (disch:=omega)[hat,ha2,ha3]
          and_intros<;>try omega
          apply Z
          refine zi ?_
          refine ⟨fun c22=>?_,fun c22=>?_⟩
          ·try simp at c22
           refine zr ⟨[8,71,74],[],[],[],[]⟩ fun _ _ Z=>?_
           refine vcL_split 1 fun _ Y=>?_
           simp (disch:=omega)[hat,ha2,ha3]
           and_intros<;>try omega
           apply Y
           simp only [List.drop]
           refine vcL_step fun _ Y=>?_
           simp (disch:=omega)[hat,ha2,ha3]
           refine zcm (lclear_fn l m _ _ ha2) ?_
           rintro _ τ2 ⟨hr9, hs9⟩
           subst hr9
           have hx3 := hx2.clear hs9
           have ha3 := hx3.at_
           apply Y
           simp only [vcL_nil]
           apply Z
           refine zt ⟨[8,71,74],[],[],[],[]⟩ fun _ _ Z=>?_
           simp (disch:=omega)[hat,ha2,ha3]
           and_intros<;>try omega
           apply Z
           apply q_then_n
           refine zk [0,1,6,7,8,9] ?_
           refine zd ⟨[8,71,74],[],[],[],[]⟩ [.op {},.read,.op {},.pure,.op {},.op {},.op {},.op {},.op {},.op {rO:=true},.op {rL:=true},.read,.op {},.op {}] fun all hall _ Z=>?_
           have ga5 : guardOf all 5 = some 85 := hall 5
           refine vcDL_split 1 (by simp) fun _ Y=>?_
           simp (disch:=omega)[hat,ha2,ha3,ga5]
           and_intros<;>try omega
           apply Y
           simp only [List.drop]
           refine vcDL_step fun _ Y=>?_
           simp (disch:=omega)[hat,ha2,ha3,ga5]
           refine zdr (lops_fn l m [] _ (by have := hx3.len; omega) ha3) ?_
           apply Y
           refine vcDL_split 1 (by simp) fun _ Y=>?_
           simp (disch:=omega)[hat,ha2,ha3,ga5]
           and_intros<;>try omega
           apply Y
           simp only [List.drop]
           refine vcDL_step fun _ Y=>?_
           simp (disch:=omega)[hat,ha2,ha3,ga5]
           refine zdp (fun _ => (sameO_fn [] _ (by have := hx3.len; omega))) ?_
           apply Y
           refine vcDL_split 2 (by simp) fun _ Y=>?_
           simp (disch:=omega)[hat,ha2,ha3,ga5]
           and_intros<;>try omega
           apply Y
           simp only [List.drop]
           refine vcDL_bool 85 (by simp <;> rfl) ?_
           refine ⟨fun g23 => ?_, fun g23 => ?_⟩
           ·simp at g23
           ·try simp at g23
            refine vcDL_split 5 (by simp) fun _ Y=>?_
            simp (disch:=omega)[hat,ha2,ha3,ga5]
            and_intros<;>try omega
            apply Y
            simp only [List.drop]
            refine zdg ga5 fun _ Y=>?_
            simp (disch:=omega)[hat,ha2,ha3,ga5]
            refine zdr (is_fn (k + 1) m M d2 rk2 y2 _ hx3.ix (by omega)) ?_
            apply Y
            simp (disch:=omega)[hat,ha2,ha3,ga5]
            and_intros<;>try omega
            apply Z
            refine zi ?_
            refine ⟨fun c24=>?_,fun c24=>?_⟩
            ·simp at c24
            ·try simp at c24
             apply awp_skip
             apply q_block_n
             apply q_then_n
             refine zk [0,1,6,7,8,9] ?_
             refine zt ⟨[8,71,74],[],[],[],[]⟩ fun _ _ Z=>?_
             simp (disch:=omega)[hat,ha2,ha3]
             and_intros<;>try omega
             apply Z
             refine q_round ((k + 1, d2, rk2, y2, [], τ2)) ?_ ?_ (weak_mkA rfl ?_ (by simp) (by simp))
             ·exact ⟨by simp only; omega, by simp only; omega, hx3⟩
             ·try dsimp only
              omega
             ·simp (disch:=omega)[hat,ha2,ha3]
          ·try simp at c22
           apply awp_skip
           apply q_then_n
           refine zk [0,1,6,7,8,9] ?_
           refine zd ⟨[8,71,74],[],[],[],[]⟩ [.op {},.read,.op {},.pure,.op {},.op {},.op {},.op {},.op {},.op {rO:=true},.op {rL:=true},.read,.op {},.op {}] fun all hall _ Z=>?_
           have ga5 : guardOf all 5 = some 85 := hall 5
           refine vcDL_split 1 (by simp) fun _ Y=>?_
           simp (disch:=omega)[hat,ha2,ha3,ga5]
           and_intros<;>try omega
           apply Y
           simp only [List.drop]
           refine vcDL_step fun _ Y=>?_
           simp (disch:=omega)[hat,ha2,ha3,ga5]
           refine zdr (lops_fn l m (ops ++ [(opA (tidy acts[k]) n2)]) _ (by have := hx2.len; omega) ha2) ?_
           apply Y
           refine vcDL_split 1 (by simp) fun _ Y=>?_
           simp (disch:=omega)[hat,ha2,ha3,ga5]
           and_intros<;>try omega
           apply Y
           simp only [List.drop]
           refine vcDL_step fun _ Y=>?_
           simp (disch:=omega)[hat,ha2,ha3,ga5]
           refine zdp (fun _ => (sameO_fn (ops ++ [(opA (tidy acts[k]) n2)]) _ (by have := hx2.len; omega))) ?_
           apply Y
           refine vcDL_split 2 (by simp) fun _ Y=>?_
           simp (disch:=omega)[hat,ha2,ha3,ga5]
           and_intros<;>try omega
           apply Y
           simp only [List.drop]
           refine vcDL_bool 85 (by simp <;> rfl) ?_
           refine ⟨fun g25 => ?_, fun g25 => ?_⟩
           ·simp at g25
           ·try simp at g25
            refine vcDL_split 5 (by simp) fun _ Y=>?_
            simp (disch:=omega)[hat,ha2,ha3,ga5]
            and_intros<;>try omega
            apply Y
            simp only [List.drop]
            refine zdg ga5 fun _ Y=>?_
            simp (disch:=omega)[hat,ha2,ha3,ga5]
            refine zdr (is_fn (k + 1) m M d2 rk2 y2 _ hx2.ix (by omega)) ?_
            apply Y
            simp (disch:=omega)[hat,ha2,ha3,ga5]
            and_intros<;>try omega
            apply Z
            refine zi ?_
            refine ⟨fun c26=>?_,fun c26=>?_⟩
            ·simp at c26
            ·try simp at c26
             apply awp_skip
             apply q_block_n
             apply q_then_n
             refine zk [0,1,6,7,8,9] ?_
             refine zt ⟨[8,71,74],[],[],[],[]⟩ fun _ _ Z=>?_
             simp (disch:=omega)[hat,ha2,ha3]
             and_intros<;>try omega
             apply Z
             refine q_round ((k + 1, d2, rk2, y2, (ops ++ [(opA (tidy acts[k]) n2)]), σ2)) ?_ ?_ (weak_mkA rfl ?_ (by simp) (by simp))
             ·exact ⟨by simp only; omega, by simp only; omega, hx2⟩
             ·try dsimp only
              omega
             ·simp (disch:=omega)[hat,ha2,ha3]
         ·try simp at c21
          have hno : nto ops cc2 (opA (tidy acts[k]) n2) = ops := if_neg c21
          rw [hno] at hx2 ha2
          apply awp_skip
          apply q_then_n
          apply awp_seq
          refine zr ⟨[8,71,74],[],[],[],[]⟩ fun _ _ Z=>?_
          simp (disch:=omega)[hat,ha2,ha3]
          and_intros<;>try omega
          apply Z
          refine zi ?_
          refine ⟨fun c27=>?_,fun c27=>?_⟩
          ·try simp at c27
           refine zk [0,1,6,7,8,9] ?_
           refine zr ⟨[8,71,74],[],[],[],[]⟩ fun _ _ Z=>?_
           refine vcL_split 1 fun _ Y=>?_
           simp (disch:=omega)[hat,ha2,ha3]
           and_intros<;>try omega
           apply Y
           simp only [List.drop]
           refine vcL_step fun _ Y=>?_
           simp (disch:=omega)[hat,ha2,ha3]
           refine zcm (lclear_fn l m _ _ ha2) ?_
           rintro _ τ2 ⟨hr9, hs9⟩
           subst hr9
           have hx3 := hx2.clear hs9
           have ha3 := hx3.at_
           apply Y
           simp only [vcL_nil]
           apply Z
           refine zt ⟨[8,71,74],[],[],[],[]⟩ fun _ _ Z=>?_
           simp (disch:=omega)[hat,ha2,ha3]
           and_intros<;>try omega
           apply Z
           apply q_then_n
           refine zk [0,1,6,7,8,9] ?_
           refine zd ⟨[8,71,74],[],[],[],[]⟩ [.op {},.read,.op {},.pure,.op {},.op {},.op {},.op {},.op {},.op {rO:=true},.op {rL:=true},.read,.op {},.op {}] fun all hall _ Z=>?_
           have ga5 : guardOf all 5 = some 85 := hall 5
           refine vcDL_split 1 (by simp) fun _ Y=>?_
           simp (disch:=omega)[hat,ha2,ha3,ga5]
           and_intros<;>try omega
           apply Y
           simp only [List.drop]
           refine vcDL_step fun _ Y=>?_
           simp (disch:=omega)[hat,ha2,ha3,ga5]
           refine zdr (lops_fn l m [] _ (by have := hx3.len; omega) ha3) ?_
           apply Y
           refine vcDL_split 1 (by simp) fun _ Y=>?_
           simp (disch:=omega)[hat,ha2,ha3,ga5]
           and_intros<;>try omega
           apply Y
           simp only [List.drop]
           refine vcDL_step fun _ Y=>?_
           simp (disch:=omega)[hat,ha2,ha3,ga5]
           refine zdp (fun _ => (sameO_fn [] _ (by have := hx3.len; omega))) ?_
           apply Y
           refine vcDL_split 2 (by simp) fun _ Y=>?_
           simp (disch:=omega)[hat,ha2,ha3,ga5]
           and_intros<;>try omega
           apply Y
           simp only [List.drop]
           refine vcDL_bool 85 (by simp <;> rfl) ?_
           refine ⟨fun g28 => ?_, fun g28 => ?_⟩
           ·simp at g28
           ·try simp at g28
            refine vcDL_split 5 (by simp) fun _ Y=>?_
            simp (disch:=omega)[hat,ha2,ha3,ga5]
            and_intros<;>try omega
            apply Y
            simp only [List.drop]
            refine zdg ga5 fun _ Y=>?_
            simp (disch:=omega)[hat,ha2,ha3,ga5]
            refine zdr (is_fn (k + 1) m M d2 rk2 y2 _ hx3.ix (by omega)) ?_
            apply Y
            simp (disch:=omega)[hat,ha2,ha3,ga5]
            and_intros<;>try omega
            apply Z
            refine zi ?_
            refine ⟨fun c29=>?_,fun c29=>?_⟩
            ·simp at c29
            ·try simp at c29
             apply awp_skip
             apply q_block_n
             apply q_then_n
             refine zk [0,1,6,7,8,9] ?_
             refine zt ⟨[8,71,74],[],[],[],[]⟩ fun _ _ Z=>?_
             simp (disch:=omega)[hat,ha2,ha3]
             and_intros<;>try omega
             apply Z
             refine q_round ((k + 1, d2, rk2, y2, [], τ2)) ?_ ?_ (weak_mkA rfl ?_ (by simp) (by simp))
             ·exact ⟨by simp only; omega, by simp only; omega, hx3⟩
             ·try dsimp only
              omega
             ·simp (disch:=omega)[hat,ha2,ha3]
          ·try simp at c27
           apply awp_skip
           apply q_then_n
           refine zk [0,1,6,7,8,9] ?_
           refine zd ⟨[8,71,74],[],[],[],[]⟩ [.op {},.read,.op {},.pure,.op {},.op {},.op {},.op {},.op {},.op {rO:=true},.op {rL:=true},.read,.op {},.op {}] fun all hall _ Z=>?_
           have ga5 : guardOf all 5 = some 85 := hall 5
           refine vcDL_split 1 (by simp) fun _ Y=>?_
           simp (disch:=omega)[hat,ha2,ha3,ga5]
           and_intros<;>try omega
           apply Y
           simp only [List.drop]
           refine vcDL_step fun _ Y=>?_
           simp (disch:=omega)[hat,ha2,ha3,ga5]
           refine zdr (lops_fn l m ops _ (by have := hx2.len; omega) ha2) ?_
           apply Y
           refine vcDL_split 1 (by simp) fun _ Y=>?_
           simp (disch:=omega)[hat,ha2,ha3,ga5]
           and_intros<;>try omega
           apply Y
           simp only [List.drop]
           refine vcDL_step fun _ Y=>?_
           simp (disch:=omega)[hat,ha2,ha3,ga5]
           refine zdp (fun _ => (sameO_fn ops _ (by have := hx2.len; omega))) ?_
           apply Y
           refine vcDL_split 2 (by simp) fun _ Y=>?_
           simp (disch:=omega)[hat,ha2,ha3,ga5]
           and_intros<;>try omega
           apply Y
           simp only [List.drop]
           refine vcDL_bool 85 (by simp <;> rfl) ?_
           refine ⟨fun g30 => ?_, fun g30 => ?_⟩
           ·simp at g30
           ·try simp at g30
            refine vcDL_split 5 (by simp) fun _ Y=>?_
            simp (disch:=omega)[hat,ha2,ha3,ga5]
            and_intros<;>try omega
            apply Y
            simp only [List.drop]
            refine zdg ga5 fun _ Y=>?_
            simp (disch:=omega)[hat,ha2,ha3,ga5]
            refine zdr (is_fn (k + 1) m M d2 rk2 y2 _ hx2.ix (by omega)) ?_
            apply Y
            simp (disch:=omega)[hat,ha2,ha3,ga5]
            and_intros<;>try omega
            apply Z
            refine zi ?_
            refine ⟨fun c31=>?_,fun c31=>?_⟩
            ·simp at c31
            ·try simp at c31
             apply awp_skip
             apply q_block_n
             apply q_then_n
             refine zk [0,1,6,7,8,9] ?_
             refine zt ⟨[8,71,74],[],[],[],[]⟩ fun _ _ Z=>?_
             simp (disch:=omega)[hat,ha2,ha3]
             and_intros<;>try omega
             apply Z
             refine q_round ((k + 1, d2, rk2, y2, ops, σ2)) ?_ ?_ (weak_mkA rfl ?_ (by simp) (by simp))
             ·exact ⟨by simp only; omega, by simp only; omega, hx2⟩
             ·try dsimp only
              omega
             ·simp (disch:=omega)[hat,ha2,ha3]
     ·try simp at c5
      have hct := cnt_two ops
      apply awp_exit
      apply q_then_e
      apply q_loop_e
      apply q_block_e
      apply q_then_n
      refine zk [7,8] ?_
      refine zr ⟨[8,71,74],[],[],[],[]⟩ fun _ _ Z=>?_
      refine vcL_split 1 fun _ Y=>?_
      simp (disch:=omega)[hat,ha2,ha3]
      and_intros<;>try omega
      apply Y
      simp only [List.drop]
      refine vcL_step fun _ Y=>?_
      simp (disch:=omega)[hat,ha2,ha3]
      refine zce (lops_fn l m ops _ (by omega) hat) ?_
      apply Y
      refine vcL_step fun _ Y=>?_
      simp (disch:=omega)[hat,ha2,ha3]
      refine zce (count_fn ops 3 _ (by omega)) ?_
      apply Y
      refine vcL_split 1 fun _ Y=>?_
      simp (disch:=omega)[hat,ha2,ha3]
      and_intros<;>try omega
      apply Y
      simp only [List.drop]
      refine vcL_step fun _ Y=>?_
      simp (disch:=omega)[hat,ha2,ha3]
      refine zce (lops_fn l m ops _ (by omega) hat) ?_
      apply Y
      refine vcL_step fun _ Y=>?_
      simp (disch:=omega)[hat,ha2,ha3]
      refine zce (count_fn ops 1 _ (by omega)) ?_
      apply Y
      simp (disch:=omega)[hat,ha2,ha3]
      and_intros<;>try omega
      apply Z
      apply awp_ret
      simp [endQ]
      omega
    ·try simp at g4
     have hct := cnt_two ops
     simp (disch:=omega)[hat,ha2,ha3,ga4]
     and_intros<;>try omega
     apply Z
     refine awp_cond (t := false) (by simp) (fun h => by cases h) (fun _ => ?_)
     apply awp_exit
     apply q_then_e
     apply q_loop_e
     apply q_block_e
     apply q_then_n
     refine zk [7,8] ?_
     refine zr ⟨[8,71,74],[],[],[],[]⟩ fun _ _ Z=>?_
     refine vcL_split 1 fun _ Y=>?_
     simp (disch:=omega)[hat,ha2,ha3]
     and_intros<;>try omega
     apply Y
     simp only [List.drop]
     refine vcL_step fun _ Y=>?_
     simp (disch:=omega)[hat,ha2,ha3]
     refine zce (lops_fn l m ops _ (by omega) hat) ?_
     apply Y
     refine vcL_step fun _ Y=>?_
     simp (disch:=omega)[hat,ha2,ha3]
     refine zce (count_fn ops 3 _ (by omega)) ?_
     apply Y
     refine vcL_split 1 fun _ Y=>?_
     simp (disch:=omega)[hat,ha2,ha3]
     and_intros<;>try omega
     apply Y
     simp only [List.drop]
     refine vcL_step fun _ Y=>?_
     simp (disch:=omega)[hat,ha2,ha3]
     refine zce (lops_fn l m ops _ (by omega) hat) ?_
     apply Y
     refine vcL_step fun _ Y=>?_
     simp (disch:=omega)[hat,ha2,ha3]
     refine zce (count_fn ops 1 _ (by omega)) ?_
     apply Y
     simp (disch:=omega)[hat,ha2,ha3]
     and_intros<;>try omega
     apply Z
     apply awp_ret
     simp [endQ]
     omega
end Go.Proofs.YtpfmpeaekgdgnaaGreat


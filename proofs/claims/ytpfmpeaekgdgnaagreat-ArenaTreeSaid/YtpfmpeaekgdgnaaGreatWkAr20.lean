import Derived.Test.YtpfmpeaekgdgnaaGreatWkAr18
import Derived.Test.YtpfmpeaekgdgnaaGreatArCount
namespace Go.Proofs.YtpfmpeaekgdgnaaGreat
open Go Go.Vm
set_option maxRecDepth 20000
set_option linter.all false
set_option maxHeartbeats 8000000
theorem lawTree_fn (most : Int) (acts : List Act) (σ : List (List D)) (hl : acts.length ≤ 9223372036854775807) (ha : ∀ a ∈ acts, a.name.size ≤ 9223372036854775807 ∧ a.value.size ≤ 9223372036854775807) (hmr : -9223372036854775808 ≤ most ∧ most ≤ 9223372036854775807) : Ct Tryz.prog 5 [D.int most, .sl false (acts.map d_Act)] σ (fun r σ' => r = .bool true) := by
 refine zf (rs:=[.tmp 4]) Tryz.func5 Tryz.ntmps5 Tryz.results5 ?_
 simp only [argEnv]
 refine zr0 fun _ _ Z=>?_
 simp (disch:=omega)
 and_intros<;>try omega
 apply Z
 apply awp_seq
 refine zr0 fun _ _ Z=>?_
 refine vcL_step fun _ Y=>?_
 simp (disch:=omega)
 refine zcm (awake_fn _) ?_
 rintro _ σ1 hr9
 subst hr9
 apply Y
 simp (disch:=omega)
 and_intros<;>try omega
 apply Z
 refine zi ?_
 refine ⟨fun c1=>?_,fun c1=>?_⟩
 ·simp at c1
 ·try simp at c1
  apply awp_skip
  apply q_then_n
  refine zr0 fun _ _ Z=>?_
  refine vcL_split 1 fun _ Y=>?_
  simp (disch:=omega)
  and_intros<;>try omega
  apply Y
  simp only [List.drop]
  refine vcL_step fun _ Y=>?_
  simp (disch:=omega)
  refine zcm (anew_fn most _) ?_
  rintro _ τ0 ⟨hr9, hs9⟩
  subst hr9
  obtain ⟨m, M, dd, rk0, hm0, hx0, hi0⟩ := new_ix _ _ _ hs9
  rw [hm0]
  clear hs9 hm0
  apply Y
  refine vcL_split 1 fun _ Y=>?_
  simp (disch:=omega)
  and_intros<;>try omega
  apply Y
  simp only [List.drop]
  refine vcL_step fun _ Y=>?_
  simp (disch:=omega)
  refine zce (new5_fn most _) ?_
  apply Y
  simp (disch:=omega)
  and_intros<;>try omega
  apply Z
  apply awp_seq
  refine zr0 fun _ _ Z=>?_
  simp (disch:=omega)
  and_intros<;>try omega
  apply Z
  refine zi ?_
  refine ⟨fun c2=>?_,fun c2=>?_⟩
  ·simp at c2
  ·try simp at c2
   apply awp_skip
   apply q_then_n
   refine zr0 fun _ _ Z=>?_
   refine vcL_split 1 fun _ Y=>?_
   simp (disch:=omega)
   and_intros<;>try omega
   apply Y
   simp only [List.drop]
   refine vcL_step fun _ Y=>?_
   simp (disch:=omega)
   refine zce (dnext_fn m M dd _ hi0.iv.ho) ?_
   apply Y
   simp (disch:=omega)
   and_intros<;>try omega
   apply Z
   apply awp_seq
   refine zk [0,1,4,5,6,7] ?_
   refine zr0 fun _ _ Z=>?_
   simp (disch:=omega)
   and_intros<;>try omega
   apply Z
   apply awp_block
   refine zk [0,1,4,5,6,7,8] ?_
   refine awp_loopO (fun (p : Nat × DS × (Int → Nat) × RD × List (List D)) => [(8, .d (.v (.int .i64 p.1))), (7, .d (.int p.2.1.next))]) (fun (p : Nat × DS × (Int → Nat) × RD × List (List D)) => [[.v (.int .i64 p.2.2.2.1.most), .v (.int .i64 p.2.2.2.1.next), .sl false (p.2.2.2.1.l.map d_ND)]]) (fun (p : Nat × DS × (Int → Nat) × RD × List (List D)) => p.2.2.2.2) [4, 7, 8, 9, 29, 30, 31, 32, 33, 34, 35, 36, 37, 38, 39, 40, 41, 42, 43, 44, 45, 46, 47, 48, 49, 50, 51, 52, 53, 54, 55, 56, 57, 58, 59, 60, 61, 62, 63, 64, 65, 66, 67, 68, 69, 70, 71] (fun (p : Nat × DS × (Int → Nat) × RD × List (List D)) => p.1 ≤ acts.length ∧ p.1 ≤ 40 ∧ IX p.1 m M p.2.1 p.2.2.1 p.2.2.2.1 p.2.2.2.2 ∧ p.2.1.most = max 1 (min most 65536)) (fun (p : Nat × DS × (Int → Nat) × RD × List (List D)) => acts.length - p.1) ((0, dd, rk0, newX most, τ0)) (by simp <;> rfl) ?_ (by simp) (by simp) ?_ ?_
   ·simp
   ·exact ⟨Nat.zero_le _, Nat.zero_le _, hi0, congrArg RD.most hx0⟩
   rintro ⟨k, d, rk, x, τ⟩ ⟨hk, hk3, hx, hmo⟩
   simp only [List.cons_append, List.nil_append]
   simp only at hk hk3 hx hmo
   obtain ⟨b1, b2, b3⟩ := hx.iv.bounds (by omega)
   apply awp_seq
   refine zrg ⟨[],[],[],[],[]⟩ fun all hall _ Z=>?_
   have ga4 : guardOf all 4 = some 33 := hall 4
   refine vcL_split 5 fun _ Y=>?_
   simp (disch:=omega)[ga4]
   and_intros<;>try omega
   apply Y
   simp only [List.drop]
   refine vcL_bool 33 (by simp <;> rfl) ?_
   refine ⟨fun g3 => ?_, fun g3 => ?_⟩
   ·try simp at g3
    simp (disch:=omega)[ga4]
    and_intros<;>try omega
    apply Z
    refine zi ?_
    refine ⟨fun c4=>?_,fun c4=>?_⟩
    ·try simp at c4
     apply awp_skip
     apply q_then_n
     apply awp_seq
     apply awp_block
     refine zk [0,1,5,6,7,8] ?_
     refine zr0 fun _ _ Z=>?_
     refine vcL_split 1 fun _ Y=>?_
     simp (disch:=omega)
     and_intros<;>try omega
     apply Y
     simp only [List.drop]
     refine vcL_step fun _ Y=>?_
     simp (disch:=omega)
     refine zce (dnext_fn m M d _ hx.iv.ho) ?_
     apply Y
     simp (disch:=omega)
     and_intros<;>try omega
     apply Z
     refine zd ⟨[],[],[],[],[]⟩ [.op {},.op {rL:=true},.op {},.op {},.op {},.op {},.det,.op {},.op {},.op {},.op {rL:=true,wL:=true}] fun all hall _ Z=>?_
     refine vcDL_split 6 (by simp) fun _ Y=>?_
     simp (disch:=omega)
     and_intros<;>try omega
     apply Y
     simp only [List.drop]
     refine vcDL_step fun _ Y=>?_
     simp (disch:=omega)
     obtain ⟨d2, rk2, σ2, y2, hc2, hx2, hn2, fr2⟩ := do_det acts[k] hx (by omega) (cut_ok ha (by omega)).1 (cut_ok ha (by omega)).2
     have n1 : d2.most = d.most := hn2.1
     have n2 : d2.next = d.next ∨ d2.next = d.next + 1 := hn2.2
     have hrm := hx2.iv.ip.room
     obtain ⟨b4, b5, b6⟩ := hx2.iv.bounds (by omega)
     refine zdd (hc2) ?_
     apply Y
     simp (disch:=omega)
     and_intros<;>try omega
     apply Z
     apply awp_seq
     refine zk [0,1,5,6,7,8,9] ?_
     refine zrg ⟨[],[],[],[],[]⟩ fun all hall _ Z=>?_
     have ga4 : guardOf all 4 = some 55 := hall 4
     have ga11 : guardOf all 11 = some 62 := hall 11
     refine vcL_split 1 fun _ Y=>?_
     simp (disch:=omega)[ga4,ga11]
     and_intros<;>try omega
     apply Y
     simp only [List.drop]
     refine vcL_step fun _ Y=>?_
     simp (disch:=omega)[ga4,ga11]
     refine zce (dnext_fn m M d2 _ hx2.iv.ho) ?_
     apply Y
     refine vcL_split 3 fun _ Y=>?_
     simp (disch:=omega)[ga4,ga11]
     and_intros<;>try omega
     apply Y
     simp only [List.drop]
     refine vcL_bool 55 (by simp <;> rfl) ?_
     refine ⟨fun g5 => ?_, fun g5 => ?_⟩
     ·try simp at g5
      omega
     ·try simp at g5
      refine vcL_split 1 fun _ Y=>?_
      simp (disch:=omega)[ga4,ga11]
      and_intros<;>try omega
      apply Y
      simp only [List.drop]
      refine zg ga4 fun _ Y=>?_
      simp (disch:=omega)[ga4,ga11]
      refine zce (dnext_fn m M d2 _ hx2.iv.ho) ?_
      apply Y
      refine vcL_split 5 fun _ Y=>?_
      simp (disch:=omega)[ga4,ga11]
      and_intros<;>try omega
      apply Y
      simp only [List.drop]
      refine vcL_bool 62 (by simp <;> rfl) ?_
      refine ⟨fun g6 => ?_, fun g6 => ?_⟩
      ·try simp at g6
       omega
      ·try simp at g6
       refine vcL_split 1 fun _ Y=>?_
       simp (disch:=omega)[ga4,ga11]
       and_intros<;>try omega
       apply Y
       simp only [List.drop]
       refine zg ga11 fun _ Y=>?_
       simp (disch:=omega)[ga4,ga11]
       refine zce (dcount_fn m M d2 _ hx2.iv.ho b4) ?_
       apply Y
       simp (disch:=omega)[ga4,ga11]
       and_intros<;>try omega
       apply Z
       refine zi ?_
       refine ⟨fun c7=>?_,fun c7=>?_⟩
       ·try simp at c7
        omega
       ·try simp at c7
        apply awp_skip
        apply q_then_n
        refine zk [0,1,5,6,7,8] ?_
        refine zt0 fun _ _ Z=>?_
        refine vcL_split 1 fun _ Y=>?_
        simp (disch:=omega)
        and_intros<;>try omega
        apply Y
        simp only [List.drop]
        refine vcL_step fun _ Y=>?_
        simp (disch:=omega)
        refine zce (dnext_fn m M d2 _ hx2.iv.ho) ?_
        apply Y
        simp (disch:=omega)
        and_intros<;>try omega
        apply Z
        apply q_block_n
        apply q_then_n
        refine zt0 fun _ _ Z=>?_
        simp (disch:=omega)
        and_intros<;>try omega
        apply Z
        refine q_round ((k + 1, d2, rk2, y2, σ2)) ?_ ?_ (weak_mkA rfl ?_ (by simp) (by simp))
        ·exact ⟨by simp only; omega, by simp only; omega, hx2, by rw [n1]; exact hmo⟩
        ·try dsimp only
         omega
        ·simp (disch:=omega)
    ·try simp at c4
     apply awp_exit
     apply q_then_e
     apply q_loop_e
     apply q_block_e
     apply q_then_n
     have hwt := hx.iv.wt
     have hnb := hx.iv.ip.NB (by omega)
     obtain ⟨b1, b2, b3⟩ := hx.iv.bounds (by omega)
     have hll := l_len d
     have htot := tree_sum hwt (by obtain ⟨r, r1, r2, r3, _⟩ := hx.iv.ip.rt; exact ⟨r, r1, r2, r3⟩)
     have hlt := hx.iv.ip.lt
     refine zk [5,7] ?_
     refine zr0 fun _ _ Z=>?_
     simp (disch:=omega)
     and_intros<;>try omega
     apply Z
     apply awp_seq
     refine zr0 fun _ _ Z=>?_
     simp (disch:=omega)
     and_intros<;>try omega
     apply Z
     apply awp_block
     refine zk [5,10,11,73,74] ?_
     refine awp_loopL (fun (j : Nat) => [(74, .d (.v (.int .i64 (j : Int)))), (11, .d (.int (sumB (fun _ => 1) d.l j : Nat))), (10, .d (.int (sumB edg d.l j : Nat))), (12, .d (.any)), (14, .d (.any))]) (fun (j : Nat) => [[.v (.int .i64 x.most), .v (.int .i64 x.next), .sl false (x.l.map d_ND)]]) [4, 10, 11, 12, 13, 14, 15, 16, 17, 18, 74, 75, 76, 77, 78, 79, 80, 81, 82, 83, 84, 85, 86, 87, 88, 89, 90, 91, 92, 93, 94, 95, 96, 97, 98, 99, 100, 101, 102, 103, 104, 105, 106, 107, 108, 109, 110, 111, 112, 113, 114, 115, 116, 117, 118, 119, 120, 121, 122, 123, 124, 125, 126, 127, 128, 129, 130, 131, 132, 133, 134, 135, 136, 137, 138, 139, 140, 141, 142, 143, 144, 145, 146, 147, 148, 149, 150, 151, 152, 153, 154, 155, 156, 157, 158, 159, 160, 161] (fun (j : Nat) => (j : Int) ≤ d.next + 1) (fun (j : Nat) => (d.next + 1).toNat - j) (0) (by simp <;> rfl) ?_ (by simp) ?_ ?_
     ·simp [sumB_0 _ hwt.nn]
     ·omega
     rintro j hj
     simp only [List.cons_append, List.nil_append]
     have hsa := sumB_le edg d.l j
     have hsb := sumB_le (fun _ => 1) d.l j
     rw [sum_one] at hsb
     refine zr0 fun _ _ Z=>?_
     simp (disch:=omega)
     and_intros<;>try omega
     apply Z
     apply awp_seq
     refine zi ?_
     refine ⟨fun c8=>?_,fun c8=>?_⟩
     ·try simp at c8
      apply awp_skip
      apply q_then_n
      apply awp_seq
      apply awp_block
      refine zr0 fun _ _ Z=>?_
      simp (disch:=omega)
      and_intros<;>try omega
      apply Z
      refine zr0 fun _ _ Z=>?_
      refine vcL_split 2 fun _ Y=>?_
      simp (disch:=omega)
      and_intros<;>try omega
      apply Y
      simp only [List.drop]
      refine vcL_step fun _ Y=>?_
      simp (disch:=omega)
      refine zce (get_fn m M d (j : Int) _ hx.iv.ho hnb) ?_
      apply Y
      simp (disch:=omega)
      and_intros<;>try omega
      apply Z
      apply awp_seq
      refine zk [5,10,11,12,13,14,73,74] ?_
      refine zr0 fun _ _ Z=>?_
      simp (disch:=omega)
      and_intros<;>try omega
      apply Z
      refine zi ?_
      refine ⟨fun c9=>?_,fun c9=>?_⟩
      ·try simp at c9
       have hno : ∀ n ∈ d.l, n.ID ≠ (j : Int) := isL_false c9
       have hs1 := sumB_no (fun _ => 1) hno
       have hs2 := sumB_no edg hno
       apply awp_exit
       apply q_then_e
       apply q_block_e
       apply q_then_n
       refine zt0 fun _ _ Z=>?_
       simp (disch:=omega)
       and_intros<;>try omega
       apply Z
       refine q_round (j + 1) ?_ ?_ (weak_mkA rfl ?_ (by simp) (by simp))
       ·omega
       ·try dsimp only
        omega
       ·first | (simp [hs1, hs2, leS]; done) | (simp [hs1, hs2, leS]; omega)
      ·try simp at c9
       obtain ⟨n, e1, e2, e3⟩ := isL_memN c9
       rw [e3]
       have hs1 : sumB (fun _ => 1) d.l (j + 1) = sumB (fun _ => 1) d.l j + 1 := sumB_yes (fun _ => 1) hx.iv.ip.nd e1 e2
       have hs3 := sumB_yes edg hx.iv.ip.nd e1 e2
       have hs4 : n.kids.length ≤ edg n := by unfold edg; omega
       have hs5 := sumB_le edg d.l (j + 1)
       obtain ⟨pf1, pf2⟩ := par_facts hwt e1
       rw [e2] at pf1 pf2
       have hnk := (hx.iv.ip.sz n e1).1
       apply awp_skip
       apply q_then_n
       refine zr0 fun _ _ Z=>?_
       simp (disch:=omega)
       and_intros<;>try omega
       apply Z
       apply awp_seq
       refine zk [5,10,11,12,13,14,73,74] ?_
       refine zr0 fun _ _ Z=>?_
       simp (disch:=omega)
       and_intros<;>try omega
       apply Z
       apply awp_block
       refine zk [5,10,11,12,13,14,73,74,88,89,90] ?_
       refine awp_loopL (fun (i : Nat) => [(90, .d (.v (.int .i64 (i : Int)))), (10, .d (.int (sumB edg d.l j + i : Nat))), (15, .d (.any)), (16, .d (.any)), (18, .d (.any))]) (fun (i : Nat) => [[.v (.int .i64 x.most), .v (.int .i64 x.next), .sl false (x.l.map d_ND)], [.v (.int .i64 n.ID), .v (.int .i64 n.kind), .v (.string n.tag), .v (.string n.text), .sl false (n.classes.map D.str), .sl false (n.attrs.map d_AT), .sl false (n.styles.map d_PI), .v (.int .i64 n.parent), .sl false (n.kids.map D.int)]]) [4, 10, 15, 16, 17, 18, 90, 91, 92, 93, 94, 95, 96, 97, 98, 99, 100, 101, 102, 103, 104, 105, 106, 107, 108, 109, 110, 111, 112, 113, 114, 115, 116, 117, 118, 119, 120, 121, 122, 123, 124, 125, 126, 127, 128, 129, 130, 131] (fun (i : Nat) => i ≤ n.kids.length) (fun (i : Nat) => n.kids.length - i) (0) (by simp <;> rfl) ?_ (by simp) ?_ ?_
       ·simp
       ·omega
       rintro i hi
       simp only [List.cons_append, List.nil_append]
       refine zk [5,10,11,12,13,14,15,16,18,73,74,88,89,90] ?_
       refine zr0 fun _ _ Z=>?_
       simp (disch:=omega)
       and_intros<;>try omega
       apply Z
       apply awp_seq
       refine zi ?_
       refine ⟨fun c10=>?_,fun c10=>?_⟩
       ·try simp at c10
        obtain ⟨kf1, kf2, kf3, kf4, kf5⟩ := kid_facts hwt e1 c10
        rw [e2] at kf2 kf4 kf5
        apply awp_skip
        apply q_then_n
        apply awp_seq
        apply awp_block
        refine zk [5,10,11,12,13,14,15,16,18,73,74,88,89,90] ?_
        refine zr0 fun _ _ Z=>?_
        simp (disch:=omega)
        and_intros<;>try omega
        apply Z
        refine zk [5,10,11,12,13,14,15,16,18,73,74,88,89,90] ?_
        refine zr0 fun _ _ Z=>?_
        refine vcL_split 2 fun _ Y=>?_
        simp (disch:=omega)
        and_intros<;>try omega
        apply Y
        simp only [List.drop]
        refine vcL_step fun _ Y=>?_
        simp (disch:=omega)
        refine zce (get_fn m M d n.kids[i] _ hx.iv.ho hnb) ?_
        rw [kf1]
        apply Y
        simp (disch:=omega)
        and_intros<;>try omega
        apply Z
        apply awp_seq
        refine zk [5,10,11,12,13,14,15,16,17,18,73,74,88,89,90] ?_
        refine zrg ⟨[],[],[],[],[]⟩ fun all hall _ Z=>?_
        have ga2 : guardOf all 2 = some 103 := hall 2
        have ga8 : guardOf all 8 = some 109 := hall 8
        have ga15 : guardOf all 15 = some 116 := hall 15
        have ga22 : guardOf all 22 = some 123 := hall 22
        refine vcL_split 3 fun _ Y=>?_
        simp (disch:=omega)[ga2,ga8,ga15,ga22]
        and_intros<;>try omega
        apply Y
        simp only [List.drop]
        refine vcL_bool 103 (by simp <;> rfl) ?_
        refine ⟨fun g11 => ?_, fun g11 => ?_⟩
        ·simp at g11
        ·try simp at g11
         refine vcL_split 6 fun _ Y=>?_
         simp (disch:=omega)[ga2,ga8,ga15,ga22]
         and_intros<;>try omega
         apply Y
         simp only [List.drop]
         refine vcL_bool 109 (by simp <;> rfl) ?_
         refine ⟨fun g12 => ?_, fun g12 => ?_⟩
         ·try simp at g12
          exact absurd kf2 g12
         ·try simp at g12
          refine vcL_split 2 fun _ Y=>?_
          simp (disch:=omega)[ga2,ga8,ga15,ga22]
          and_intros<;>try omega
          apply Y
          simp only [List.drop]
          refine zg ga8 fun _ Y=>?_
          simp (disch:=omega)[ga2,ga8,ga15,ga22]
          refine zce (dindex_fn m M d n.kids[i] _ hx.iv.ho hnb hx.iv.WP (fun e he => hx.iv.fd he)) ?_
          rw [kf3]
          apply Y
          refine vcL_split 4 fun _ Y=>?_
          simp (disch:=omega)[ga2,ga8,ga15,ga22]
          and_intros<;>try omega
          apply Y
          simp only [List.drop]
          refine vcL_bool 116 (by simp <;> rfl) ?_
          refine ⟨fun g13 => ?_, fun g13 => ?_⟩
          ·simp at g13
          ·try simp at g13
           refine vcL_split 3 fun _ Y=>?_
           simp (disch:=omega)[ga2,ga8,ga15,ga22]
           and_intros<;>try omega
           apply Y
           simp only [List.drop]
           refine zg ga15 fun _ Y=>?_
           simp (disch:=omega)[ga2,ga8,ga15,ga22]
           refine zce (within_fn m M d rk n.kids[i] (j : Int) _ hx.iv.ho hwt) ?_
           rw [kf4]
           apply Y
           refine vcL_split 3 fun _ Y=>?_
           simp (disch:=omega)[ga2,ga8,ga15,ga22]
           and_intros<;>try omega
           apply Y
           simp only [List.drop]
           refine vcL_bool 123 (by simp <;> rfl) ?_
           refine ⟨fun g14 => ?_, fun g14 => ?_⟩
           ·simp at g14
           ·try simp at g14
            refine vcL_split 3 fun _ Y=>?_
            simp (disch:=omega)[ga2,ga8,ga15,ga22]
            and_intros<;>try omega
            apply Y
            simp only [List.drop]
            refine zg ga22 fun _ Y=>?_
            simp (disch:=omega)[ga2,ga8,ga15,ga22]
            refine zce (within_fn m M d rk (j : Int) n.kids[i] _ hx.iv.ho hwt) ?_
            rw [kf5]
            apply Y
            simp (disch:=omega)[ga2,ga8,ga15,ga22]
            and_intros<;>try omega
            apply Z
            refine zi ?_
            refine ⟨fun c15=>?_,fun c15=>?_⟩
            ·simp at c15
            ·try simp at c15
             apply awp_skip
             apply q_then_n
             have hwt := hx.iv.wt
             have hnb := hx.iv.ip.NB (by omega)
             obtain ⟨b1, b2, b3⟩ := hx.iv.bounds (by omega)
             have hll := l_len d
             have htot := tree_sum hwt (by obtain ⟨r, r1, r2, r3, _⟩ := hx.iv.ip.rt; exact ⟨r, r1, r2, r3⟩)
             have hlt := hx.iv.ip.lt
             refine zk [5,10,11,12,13,14,15,16,18,73,74,88,89,90] ?_
             refine zt0 fun _ _ Z=>?_
             simp (disch:=omega)
             and_intros<;>try omega
             apply Z
             apply q_block_n
             apply q_then_n
             refine zk [5,10,11,12,13,14,15,16,18,73,74,88,89,90] ?_
             refine zt0 fun _ _ Z=>?_
             simp (disch:=omega)
             and_intros<;>try omega
             apply Z
             refine q_round (i + 1) ?_ ?_ (weak_mkA rfl ?_ (by simp) (by simp))
             ·omega
             ·try dsimp only
              omega
             ·simp (disch:=omega)[← Int.add_assoc]
       ·try simp at c10
        obtain rfl : i = n.kids.length := by omega
        apply awp_exit
        apply q_then_e
        apply q_loop_e
        apply q_block_e
        apply q_then_n
        apply awp_seq
        refine zk [5,10,11,12,13,14,73,74] ?_
        refine zrg ⟨[],[],[],[],[]⟩ fun all hall _ Z=>?_
        have ga3 : guardOf all 3 = some 135 := hall 3
        have ga9 : guardOf all 9 = some 141 := hall 9
        have ga13 : guardOf all 13 = some 145 := hall 13
        refine vcL_split 4 fun _ Y=>?_
        simp (disch:=omega)[ga3,ga9,ga13]
        and_intros<;>try omega
        apply Y
        simp only [List.drop]
        refine vcL_bool 135 (by simp <;> rfl) ?_
        refine ⟨fun g16 => ?_, fun g16 => ?_⟩
        ·try simp at g16
         have pf := pf1 g16
         refine vcL_split 2 fun _ Y=>?_
         simp (disch:=omega)[ga3,ga9,ga13]
         and_intros<;>try omega
         apply Y
         simp only [List.drop]
         refine zg ga3 fun _ Y=>?_
         simp (disch:=omega)[ga3,ga9,ga13]
         refine zce (dindex_fn m M d (j : Int) _ hx.iv.ho hnb hx.iv.WP (fun e he => hx.iv.fd he)) ?_
         apply Y
         refine vcL_split 3 fun _ Y=>?_
         simp (disch:=omega)[ga3,ga9,ga13]
         and_intros<;>try omega
         apply Y
         simp only [List.drop]
         refine vcL_bool 141 (by simp <;> rfl) ?_
         refine ⟨fun g17 => ?_, fun g17 => ?_⟩
         ·try simp at g17
          omega
         ·try simp at g17
          refine vcL_split 4 fun _ Y=>?_
          simp (disch:=omega)[ga3,ga9,ga13]
          and_intros<;>try omega
          apply Y
          simp only [List.drop]
          refine vcL_bool 145 (by simp <;> rfl) ?_
          refine ⟨fun g18 => ?_, fun g18 => ?_⟩
          ·try simp at g18
           omega
          ·try simp at g18
           simp (disch:=omega)[ga3,ga9,ga13]
           and_intros<;>try omega
           apply Z
           refine awp_cond (t := false) (by simp) (fun h => by cases h) (fun _ => ?_)
           apply awp_skip
           apply q_then_n
           refine zk [5,10,11,12,13,14,73,74] ?_
           refine zrg ⟨[],[],[],[],[]⟩ fun all hall _ Z=>?_
           have ga3 : guardOf all 3 = some 155 := hall 3
           refine vcL_split 4 fun _ Y=>?_
           simp (disch:=omega)[ga3]
           and_intros<;>try omega
           apply Y
           simp only [List.drop]
           refine vcL_bool 155 (by simp <;> rfl) ?_
           refine ⟨fun g19 => ?_, fun g19 => ?_⟩
           ·try simp at g19
            omega
           ·try simp at g19
            have hs2 : sumB edg d.l (j + 1) = sumB edg d.l j + n.kids.length := by have h := sumB_yes edg hx.iv.ip.nd e1 e2; have h2 := edg_no (n := n) (by omega); omega
            simp (disch:=omega)[ga3]
            and_intros<;>try omega
            apply Z
            refine awp_cond (t := false) (by simp) (fun h => by cases h) (fun _ => ?_)
            apply awp_skip
            apply q_block_n
            apply q_then_n
            refine zk [5,10,11,12,14,73,74] ?_
            refine zt0 fun _ _ Z=>?_
            simp (disch:=omega)
            and_intros<;>try omega
            apply Z
            refine q_round (j + 1) ?_ ?_ (weak_mkA rfl ?_ (by simp) (by simp))
            ·omega
            ·try dsimp only
             omega
            ·first | (simp [hs1, hs2, leS]; done) | (simp [hs1, hs2, leS]; omega)
        ·try simp at g16
         have pf := pf2 (by omega)
         refine vcL_split 6 fun _ Y=>?_
         simp (disch:=omega)[ga3,ga9,ga13]
         and_intros<;>try omega
         apply Y
         simp only [List.drop]
         refine vcL_split 4 fun _ Y=>?_
         simp (disch:=omega)[ga3,ga9,ga13]
         and_intros<;>try omega
         apply Y
         simp only [List.drop]
         refine vcL_bool 145 (by simp <;> rfl) ?_
         refine ⟨fun g20 => ?_, fun g20 => ?_⟩
         ·try simp at g20
          refine vcL_split 2 fun _ Y=>?_
          simp (disch:=omega)[ga3,ga9,ga13]
          and_intros<;>try omega
          apply Y
          simp only [List.drop]
          refine zg ga13 fun _ Y=>?_
          simp (disch:=omega)[ga3,ga9,ga13]
          refine zce (dindex_fn m M d (j : Int) _ hx.iv.ho hnb hx.iv.WP (fun e he => hx.iv.fd he)) ?_
          apply Y
          simp (disch:=omega)[ga3,ga9,ga13]
          and_intros<;>try omega
          apply Z
          refine zi ?_
          refine ⟨fun c21=>?_,fun c21=>?_⟩
          ·try simp at c21
           omega
          ·try simp at c21
           apply awp_skip
           apply q_then_n
           refine zk [5,10,11,12,13,14,73,74] ?_
           refine zrg ⟨[],[],[],[],[]⟩ fun all hall _ Z=>?_
           have ga3 : guardOf all 3 = some 155 := hall 3
           refine vcL_split 4 fun _ Y=>?_
           simp (disch:=omega)[ga3]
           and_intros<;>try omega
           apply Y
           simp only [List.drop]
           refine vcL_bool 155 (by simp <;> rfl) ?_
           refine ⟨fun g22 => ?_, fun g22 => ?_⟩
           ·try simp at g22
            simp (disch:=omega)[ga3]
            and_intros<;>try omega
            apply Z
            refine zi ?_
            refine ⟨fun c23=>?_,fun c23=>?_⟩
            ·try simp at c23
             have hs2 : sumB edg d.l (j + 1) = sumB edg d.l j + n.kids.length + 1 := by have h := sumB_yes edg hx.iv.ip.nd e1 e2; have h2 := edg_yes (n := n) ⟨by omega, by omega⟩; omega
             have hwt := hx.iv.wt
             have hnb := hx.iv.ip.NB (by omega)
             obtain ⟨b1, b2, b3⟩ := hx.iv.bounds (by omega)
             have hll := l_len d
             have htot := tree_sum hwt (by obtain ⟨r, r1, r2, r3, _⟩ := hx.iv.ip.rt; exact ⟨r, r1, r2, r3⟩)
             have hlt := hx.iv.ip.lt
             refine zk [5,10,11,12,14,73,74] ?_
             refine zt0 fun _ _ Z=>?_
             simp (disch:=omega)
             and_intros<;>try omega
             apply Z
             apply q_block_n
             apply q_then_n
             refine zt0 fun _ _ Z=>?_
             simp (disch:=omega)
             and_intros<;>try omega
             apply Z
             refine q_round (j + 1) ?_ ?_ (weak_mkA rfl ?_ (by simp) (by simp))
             ·omega
             ·try dsimp only
              omega
             ·first | (simp [hs1, hs2, leS]; done) | (simp [hs1, hs2, leS]; omega)
            ·try simp at c23
             have hs2 : sumB edg d.l (j + 1) = sumB edg d.l j + n.kids.length := by have h := sumB_yes edg hx.iv.ip.nd e1 e2; have h2 := edg_no (n := n) (by omega); omega
             apply awp_skip
             apply q_block_n
             apply q_then_n
             refine zk [5,10,11,12,14,73,74] ?_
             refine zt0 fun _ _ Z=>?_
             simp (disch:=omega)
             and_intros<;>try omega
             apply Z
             refine q_round (j + 1) ?_ ?_ (weak_mkA rfl ?_ (by simp) (by simp))
             ·omega
             ·try dsimp only
              omega
             ·first | (simp [hs1, hs2, leS]; done) | (simp [hs1, hs2, leS]; omega)
           ·try simp at g22
            omega
         ·try simp at g20
          omega
     ·try simp at c8
      have e1 : sumB (fun _ => 1) d.l j = d.l.length := by rw [sumB_all _ (fun n hn => by have := hlt n hn; omega), sum_one]
      have e2 : sumB edg d.l j + 1 = d.l.length := by rw [sumB_all _ (fun n hn => by have := hlt n hn; omega)]; exact htot
      apply awp_exit
      apply q_then_e
      apply q_loop_e
      apply q_block_e
      apply q_then_n
      refine zk [5,10,11] ?_
      refine zrg ⟨[],[],[],[],[]⟩ fun all hall _ Z=>?_
      have ga5 : guardOf all 5 = some 167 := hall 5
      refine vcL_split 2 fun _ Y=>?_
      simp (disch:=omega)[ga5]
      and_intros<;>try omega
      apply Y
      simp only [List.drop]
      refine vcL_step fun _ Y=>?_
      simp (disch:=omega)[ga5]
      refine zce (dcount_fn m M d _ hx.iv.ho b1) ?_
      apply Y
      refine vcL_split 3 fun _ Y=>?_
      simp (disch:=omega)[ga5]
      and_intros<;>try omega
      apply Y
      simp only [List.drop]
      refine vcL_bool 167 (by simp <;> rfl) ?_
      refine ⟨fun g24 => ?_, fun g24 => ?_⟩
      ·try simp at g24
       simp (disch:=omega)[ga5]
       and_intros<;>try omega
       apply Z
       apply awp_ret
       simp [endQ]
       omega
      ·try simp at g24
       omega
   ·try simp at g3
    simp (disch:=omega)[ga4]
    and_intros<;>try omega
    apply Z
    refine awp_cond (t := false) (by simp) (fun h => by cases h) (fun _ => ?_)
    apply awp_exit
    apply q_then_e
    apply q_loop_e
    apply q_block_e
    apply q_then_n
    have hwt := hx.iv.wt
    have hnb := hx.iv.ip.NB (by omega)
    obtain ⟨b1, b2, b3⟩ := hx.iv.bounds (by omega)
    have hll := l_len d
    have htot := tree_sum hwt (by obtain ⟨r, r1, r2, r3, _⟩ := hx.iv.ip.rt; exact ⟨r, r1, r2, r3⟩)
    have hlt := hx.iv.ip.lt
    refine zk [5,7] ?_
    refine zr0 fun _ _ Z=>?_
    simp (disch:=omega)
    and_intros<;>try omega
    apply Z
    apply awp_seq
    refine zr0 fun _ _ Z=>?_
    simp (disch:=omega)
    and_intros<;>try omega
    apply Z
    apply awp_block
    refine zk [5,10,11,73,74] ?_
    refine awp_loopL (fun (j : Nat) => [(74, .d (.v (.int .i64 (j : Int)))), (11, .d (.int (sumB (fun _ => 1) d.l j : Nat))), (10, .d (.int (sumB edg d.l j : Nat))), (12, .d (.any)), (14, .d (.any))]) (fun (j : Nat) => [[.v (.int .i64 x.most), .v (.int .i64 x.next), .sl false (x.l.map d_ND)]]) [4, 10, 11, 12, 13, 14, 15, 16, 17, 18, 74, 75, 76, 77, 78, 79, 80, 81, 82, 83, 84, 85, 86, 87, 88, 89, 90, 91, 92, 93, 94, 95, 96, 97, 98, 99, 100, 101, 102, 103, 104, 105, 106, 107, 108, 109, 110, 111, 112, 113, 114, 115, 116, 117, 118, 119, 120, 121, 122, 123, 124, 125, 126, 127, 128, 129, 130, 131, 132, 133, 134, 135, 136, 137, 138, 139, 140, 141, 142, 143, 144, 145, 146, 147, 148, 149, 150, 151, 152, 153, 154, 155, 156, 157, 158, 159, 160, 161] (fun (j : Nat) => (j : Int) ≤ d.next + 1) (fun (j : Nat) => (d.next + 1).toNat - j) (0) (by simp <;> rfl) ?_ (by simp) ?_ ?_
    ·simp [sumB_0 _ hwt.nn]
    ·omega
    rintro j hj
    simp only [List.cons_append, List.nil_append]
    have hsa := sumB_le edg d.l j
    have hsb := sumB_le (fun _ => 1) d.l j
    rw [sum_one] at hsb
    refine zr0 fun _ _ Z=>?_
    simp (disch:=omega)
    and_intros<;>try omega
    apply Z
    apply awp_seq
    refine zi ?_
    refine ⟨fun c25=>?_,fun c25=>?_⟩
    ·try simp at c25
     apply awp_skip
     apply q_then_n
     apply awp_seq
     apply awp_block
     refine zr0 fun _ _ Z=>?_
     simp (disch:=omega)
     and_intros<;>try omega
     apply Z
     refine zr0 fun _ _ Z=>?_
     refine vcL_split 2 fun _ Y=>?_
     simp (disch:=omega)
     and_intros<;>try omega
     apply Y
     simp only [List.drop]
     refine vcL_step fun _ Y=>?_
     simp (disch:=omega)
     refine zce (get_fn m M d (j : Int) _ hx.iv.ho hnb) ?_
     apply Y
     simp (disch:=omega)
     and_intros<;>try omega
     apply Z
     apply awp_seq
     refine zk [5,10,11,12,13,14,73,74] ?_
     refine zr0 fun _ _ Z=>?_
     simp (disch:=omega)
     and_intros<;>try omega
     apply Z
     refine zi ?_
     refine ⟨fun c26=>?_,fun c26=>?_⟩
     ·try simp at c26
      have hno : ∀ n ∈ d.l, n.ID ≠ (j : Int) := isL_false c26
      have hs1 := sumB_no (fun _ => 1) hno
      have hs2 := sumB_no edg hno
      apply awp_exit
      apply q_then_e
      apply q_block_e
      apply q_then_n
      refine zt0 fun _ _ Z=>?_
      simp (disch:=omega)
      and_intros<;>try omega
      apply Z
      refine q_round (j + 1) ?_ ?_ (weak_mkA rfl ?_ (by simp) (by simp))
      ·omega
      ·try dsimp only
       omega
      ·first | (simp [hs1, hs2, leS]; done) | (simp [hs1, hs2, leS]; omega)
     ·try simp at c26
      obtain ⟨n, e1, e2, e3⟩ := isL_memN c26
      rw [e3]
      have hs1 : sumB (fun _ => 1) d.l (j + 1) = sumB (fun _ => 1) d.l j + 1 := sumB_yes (fun _ => 1) hx.iv.ip.nd e1 e2
      have hs3 := sumB_yes edg hx.iv.ip.nd e1 e2
      have hs4 : n.kids.length ≤ edg n := by unfold edg; omega
      have hs5 := sumB_le edg d.l (j + 1)
      obtain ⟨pf1, pf2⟩ := par_facts hwt e1
      rw [e2] at pf1 pf2
      have hnk := (hx.iv.ip.sz n e1).1
      apply awp_skip
      apply q_then_n
      refine zr0 fun _ _ Z=>?_
      simp (disch:=omega)
      and_intros<;>try omega
      apply Z
      apply awp_seq
      refine zk [5,10,11,12,13,14,73,74] ?_
      refine zr0 fun _ _ Z=>?_
      simp (disch:=omega)
      and_intros<;>try omega
      apply Z
      apply awp_block
      refine zk [5,10,11,12,13,14,73,74,88,89,90] ?_
      refine awp_loopL (fun (i : Nat) => [(90, .d (.v (.int .i64 (i : Int)))), (10, .d (.int (sumB edg d.l j + i : Nat))), (15, .d (.any)), (16, .d (.any)), (18, .d (.any))]) (fun (i : Nat) => [[.v (.int .i64 x.most), .v (.int .i64 x.next), .sl false (x.l.map d_ND)], [.v (.int .i64 n.ID), .v (.int .i64 n.kind), .v (.string n.tag), .v (.string n.text), .sl false (n.classes.map D.str), .sl false (n.attrs.map d_AT), .sl false (n.styles.map d_PI), .v (.int .i64 n.parent), .sl false (n.kids.map D.int)]]) [4, 10, 15, 16, 17, 18, 90, 91, 92, 93, 94, 95, 96, 97, 98, 99, 100, 101, 102, 103, 104, 105, 106, 107, 108, 109, 110, 111, 112, 113, 114, 115, 116, 117, 118, 119, 120, 121, 122, 123, 124, 125, 126, 127, 128, 129, 130, 131] (fun (i : Nat) => i ≤ n.kids.length) (fun (i : Nat) => n.kids.length - i) (0) (by simp <;> rfl) ?_ (by simp) ?_ ?_
      ·simp
      ·omega
      rintro i hi
      simp only [List.cons_append, List.nil_append]
      refine zk [5,10,11,12,13,14,15,16,18,73,74,88,89,90] ?_
      refine zr0 fun _ _ Z=>?_
      simp (disch:=omega)
      and_intros<;>try omega
      apply Z
      apply awp_seq
      refine zi ?_
      refine ⟨fun c27=>?_,fun c27=>?_⟩
      ·try simp at c27
       obtain ⟨kf1, kf2, kf3, kf4, kf5⟩ := kid_facts hwt e1 c27
       rw [e2] at kf2 kf4 kf5
       apply awp_skip
       apply q_then_n
       apply awp_seq
       apply awp_block
       refine zk [5,10,11,12,13,14,15,16,18,73,74,88,89,90] ?_
       refine zr0 fun _ _ Z=>?_
       simp (disch:=omega)
       and_intros<;>try omega
       apply Z
       refine zk [5,10,11,12,13,14,15,16,18,73,74,88,89,90] ?_
       refine zr0 fun _ _ Z=>?_
       refine vcL_split 2 fun _ Y=>?_
       simp (disch:=omega)
       and_intros<;>try omega
       apply Y
       simp only [List.drop]
       refine vcL_step fun _ Y=>?_
       simp (disch:=omega)
       refine zce (get_fn m M d n.kids[i] _ hx.iv.ho hnb) ?_
       rw [kf1]
       apply Y
       simp (disch:=omega)
       and_intros<;>try omega
       apply Z
       apply awp_seq
       refine zk [5,10,11,12,13,14,15,16,17,18,73,74,88,89,90] ?_
       refine zrg ⟨[],[],[],[],[]⟩ fun all hall _ Z=>?_
       have ga2 : guardOf all 2 = some 103 := hall 2
       have ga8 : guardOf all 8 = some 109 := hall 8
       have ga15 : guardOf all 15 = some 116 := hall 15
       have ga22 : guardOf all 22 = some 123 := hall 22
       refine vcL_split 3 fun _ Y=>?_
       simp (disch:=omega)[ga2,ga8,ga15,ga22]
       and_intros<;>try omega
       apply Y
       simp only [List.drop]
       refine vcL_bool 103 (by simp <;> rfl) ?_
       refine ⟨fun g28 => ?_, fun g28 => ?_⟩
       ·simp at g28
       ·try simp at g28
        refine vcL_split 6 fun _ Y=>?_
        simp (disch:=omega)[ga2,ga8,ga15,ga22]
        and_intros<;>try omega
        apply Y
        simp only [List.drop]
        refine vcL_bool 109 (by simp <;> rfl) ?_
        refine ⟨fun g29 => ?_, fun g29 => ?_⟩
        ·try simp at g29
         exact absurd kf2 g29
        ·try simp at g29
         refine vcL_split 2 fun _ Y=>?_
         simp (disch:=omega)[ga2,ga8,ga15,ga22]
         and_intros<;>try omega
         apply Y
         simp only [List.drop]
         refine zg ga8 fun _ Y=>?_
         simp (disch:=omega)[ga2,ga8,ga15,ga22]
         refine zce (dindex_fn m M d n.kids[i] _ hx.iv.ho hnb hx.iv.WP (fun e he => hx.iv.fd he)) ?_
         rw [kf3]
         apply Y
         refine vcL_split 4 fun _ Y=>?_
         simp (disch:=omega)[ga2,ga8,ga15,ga22]
         and_intros<;>try omega
         apply Y
         simp only [List.drop]
         refine vcL_bool 116 (by simp <;> rfl) ?_
         refine ⟨fun g30 => ?_, fun g30 => ?_⟩
         ·simp at g30
         ·try simp at g30
          refine vcL_split 3 fun _ Y=>?_
          simp (disch:=omega)[ga2,ga8,ga15,ga22]
          and_intros<;>try omega
          apply Y
          simp only [List.drop]
          refine zg ga15 fun _ Y=>?_
          simp (disch:=omega)[ga2,ga8,ga15,ga22]
          refine zce (within_fn m M d rk n.kids[i] (j : Int) _ hx.iv.ho hwt) ?_
          rw [kf4]
          apply Y
          refine vcL_split 3 fun _ Y=>?_
          simp (disch:=omega)[ga2,ga8,ga15,ga22]
          and_intros<;>try omega
          apply Y
          simp only [List.drop]
          refine vcL_bool 123 (by simp <;> rfl) ?_
          refine ⟨fun g31 => ?_, fun g31 => ?_⟩
          ·simp at g31
          ·try simp at g31
           refine vcL_split 3 fun _ Y=>?_
           simp (disch:=omega)[ga2,ga8,ga15,ga22]
           and_intros<;>try omega
           apply Y
           simp only [List.drop]
           refine zg ga22 fun _ Y=>?_
           simp (disch:=omega)[ga2,ga8,ga15,ga22]
           refine zce (within_fn m M d rk (j : Int) n.kids[i] _ hx.iv.ho hwt) ?_
           rw [kf5]
           apply Y
           simp (disch:=omega)[ga2,ga8,ga15,ga22]
           and_intros<;>try omega
           apply Z
           refine zi ?_
           refine ⟨fun c32=>?_,fun c32=>?_⟩
           ·simp at c32
           ·try simp at c32
            apply awp_skip
            apply q_then_n
            have hwt := hx.iv.wt
            have hnb := hx.iv.ip.NB (by omega)
            obtain ⟨b1, b2, b3⟩ := hx.iv.bounds (by omega)
            have hll := l_len d
            have htot := tree_sum hwt (by obtain ⟨r, r1, r2, r3, _⟩ := hx.iv.ip.rt; exact ⟨r, r1, r2, r3⟩)
            have hlt := hx.iv.ip.lt
            refine zk [5,10,11,12,13,14,15,16,18,73,74,88,89,90] ?_
            refine zt0 fun _ _ Z=>?_
            simp (disch:=omega)
            and_intros<;>try omega
            apply Z
            apply q_block_n
            apply q_then_n
            refine zk [5,10,11,12,13,14,15,16,18,73,74,88,89,90] ?_
            refine zt0 fun _ _ Z=>?_
            simp (disch:=omega)
            and_intros<;>try omega
            apply Z
            refine q_round (i + 1) ?_ ?_ (weak_mkA rfl ?_ (by simp) (by simp))
            ·omega
            ·try dsimp only
             omega
            ·simp (disch:=omega)[← Int.add_assoc]
      ·try simp at c27
       obtain rfl : i = n.kids.length := by omega
       apply awp_exit
       apply q_then_e
       apply q_loop_e
       apply q_block_e
       apply q_then_n
       apply awp_seq
       refine zk [5,10,11,12,13,14,73,74] ?_
       refine zrg ⟨[],[],[],[],[]⟩ fun all hall _ Z=>?_
       have ga3 : guardOf all 3 = some 135 := hall 3
       have ga9 : guardOf all 9 = some 141 := hall 9
       have ga13 : guardOf all 13 = some 145 := hall 13
       refine vcL_split 4 fun _ Y=>?_
       simp (disch:=omega)[ga3,ga9,ga13]
       and_intros<;>try omega
       apply Y
       simp only [List.drop]
       refine vcL_bool 135 (by simp <;> rfl) ?_
       refine ⟨fun g33 => ?_, fun g33 => ?_⟩
       ·try simp at g33
        have pf := pf1 g33
        refine vcL_split 2 fun _ Y=>?_
        simp (disch:=omega)[ga3,ga9,ga13]
        and_intros<;>try omega
        apply Y
        simp only [List.drop]
        refine zg ga3 fun _ Y=>?_
        simp (disch:=omega)[ga3,ga9,ga13]
        refine zce (dindex_fn m M d (j : Int) _ hx.iv.ho hnb hx.iv.WP (fun e he => hx.iv.fd he)) ?_
        apply Y
        refine vcL_split 3 fun _ Y=>?_
        simp (disch:=omega)[ga3,ga9,ga13]
        and_intros<;>try omega
        apply Y
        simp only [List.drop]
        refine vcL_bool 141 (by simp <;> rfl) ?_
        refine ⟨fun g34 => ?_, fun g34 => ?_⟩
        ·try simp at g34
         omega
        ·try simp at g34
         refine vcL_split 4 fun _ Y=>?_
         simp (disch:=omega)[ga3,ga9,ga13]
         and_intros<;>try omega
         apply Y
         simp only [List.drop]
         refine vcL_bool 145 (by simp <;> rfl) ?_
         refine ⟨fun g35 => ?_, fun g35 => ?_⟩
         ·try simp at g35
          omega
         ·try simp at g35
          simp (disch:=omega)[ga3,ga9,ga13]
          and_intros<;>try omega
          apply Z
          refine awp_cond (t := false) (by simp) (fun h => by cases h) (fun _ => ?_)
          apply awp_skip
          apply q_then_n
          refine zk [5,10,11,12,13,14,73,74] ?_
          refine zrg ⟨[],[],[],[],[]⟩ fun all hall _ Z=>?_
          have ga3 : guardOf all 3 = some 155 := hall 3
          refine vcL_split 4 fun _ Y=>?_
          simp (disch:=omega)[ga3]
          and_intros<;>try omega
          apply Y
          simp only [List.drop]
          refine vcL_bool 155 (by simp <;> rfl) ?_
          refine ⟨fun g36 => ?_, fun g36 => ?_⟩
          ·try simp at g36
           omega
          ·try simp at g36
           have hs2 : sumB edg d.l (j + 1) = sumB edg d.l j + n.kids.length := by have h := sumB_yes edg hx.iv.ip.nd e1 e2; have h2 := edg_no (n := n) (by omega); omega
           simp (disch:=omega)[ga3]
           and_intros<;>try omega
           apply Z
           refine awp_cond (t := false) (by simp) (fun h => by cases h) (fun _ => ?_)
           apply awp_skip
           apply q_block_n
           apply q_then_n
           refine zk [5,10,11,12,14,73,74] ?_
           refine zt0 fun _ _ Z=>?_
           simp (disch:=omega)
           and_intros<;>try omega
           apply Z
           refine q_round (j + 1) ?_ ?_ (weak_mkA rfl ?_ (by simp) (by simp))
           ·omega
           ·try dsimp only
            omega
           ·first | (simp [hs1, hs2, leS]; done) | (simp [hs1, hs2, leS]; omega)
       ·try simp at g33
        have pf := pf2 (by omega)
        refine vcL_split 6 fun _ Y=>?_
        simp (disch:=omega)[ga3,ga9,ga13]
        and_intros<;>try omega
        apply Y
        simp only [List.drop]
        refine vcL_split 4 fun _ Y=>?_
        simp (disch:=omega)[ga3,ga9,ga13]
        and_intros<;>try omega
        apply Y
        simp only [List.drop]
        refine vcL_bool 145 (by simp <;> rfl) ?_
        refine ⟨fun g37 => ?_, fun g37 => ?_⟩
        ·try simp at g37
         refine vcL_split 2 fun _ Y=>?_
         simp (disch:=omega)[ga3,ga9,ga13]
         and_intros<;>try omega
         apply Y
         simp only [List.drop]
         refine zg ga13 fun _ Y=>?_
         simp (disch:=omega)[ga3,ga9,ga13]
         refine zce (dindex_fn m M d (j : Int) _ hx.iv.ho hnb hx.iv.WP (fun e he => hx.iv.fd he)) ?_
         apply Y
         simp (disch:=omega)[ga3,ga9,ga13]
         and_intros<;>try omega
         apply Z
         refine zi ?_
         refine ⟨fun c38=>?_,fun c38=>?_⟩
         ·try simp at c38
          omega
         ·try simp at c38
          apply awp_skip
          apply q_then_n
          refine zk [5,10,11,12,13,14,73,74] ?_
          refine zrg ⟨[],[],[],[],[]⟩ fun all hall _ Z=>?_
          have ga3 : guardOf all 3 = some 155 := hall 3
          refine vcL_split 4 fun _ Y=>?_
          simp (disch:=omega)[ga3]
          and_intros<;>try omega
          apply Y
          simp only [List.drop]
          refine vcL_bool 155 (by simp <;> rfl) ?_
          refine ⟨fun g39 => ?_, fun g39 => ?_⟩
          ·try simp at g39
           simp (disch:=omega)[ga3]
           and_intros<;>try omega
           apply Z
           refine zi ?_
           refine ⟨fun c40=>?_,fun c40=>?_⟩
           ·try simp at c40
            have hs2 : sumB edg d.l (j + 1) = sumB edg d.l j + n.kids.length + 1 := by have h := sumB_yes edg hx.iv.ip.nd e1 e2; have h2 := edg_yes (n := n) ⟨by omega, by omega⟩; omega
            have hwt := hx.iv.wt
            have hnb := hx.iv.ip.NB (by omega)
            obtain ⟨b1, b2, b3⟩ := hx.iv.bounds (by omega)
            have hll := l_len d
            have htot := tree_sum hwt (by obtain ⟨r, r1, r2, r3, _⟩ := hx.iv.ip.rt; exact ⟨r, r1, r2, r3⟩)
            have hlt := hx.iv.ip.lt
            refine zk [5,10,11,12,14,73,74] ?_
            refine zt0 fun _ _ Z=>?_
            simp (disch:=omega)
            and_intros<;>try omega
            apply Z
            apply q_block_n
            apply q_then_n
            refine zt0 fun _ _ Z=>?_
            simp (disch:=omega)
            and_intros<;>try omega
            apply Z
            refine q_round (j + 1) ?_ ?_ (weak_mkA rfl ?_ (by simp) (by simp))
            ·omega
            ·try dsimp only
             omega
            ·first | (simp [hs1, hs2, leS]; done) | (simp [hs1, hs2, leS]; omega)
           ·try simp at c40
            have hs2 : sumB edg d.l (j + 1) = sumB edg d.l j + n.kids.length := by have h := sumB_yes edg hx.iv.ip.nd e1 e2; have h2 := edg_no (n := n) (by omega); omega
            apply awp_skip
            apply q_block_n
            apply q_then_n
            refine zk [5,10,11,12,14,73,74] ?_
            refine zt0 fun _ _ Z=>?_
            simp (disch:=omega)
            and_intros<;>try omega
            apply Z
            refine q_round (j + 1) ?_ ?_ (weak_mkA rfl ?_ (by simp) (by simp))
            ·omega
            ·try dsimp only
             omega
            ·first | (simp [hs1, hs2, leS]; done) | (simp [hs1, hs2, leS]; omega)
          ·try simp at g39
           omega
        ·try simp at g37
         omega
    ·try simp at c25
     have e1 : sumB (fun _ => 1) d.l j = d.l.length := by rw [sumB_all _ (fun n hn => by have := hlt n hn; omega), sum_one]
     have e2 : sumB edg d.l j + 1 = d.l.length := by rw [sumB_all _ (fun n hn => by have := hlt n hn; omega)]; exact htot
     apply awp_exit
     apply q_then_e
     apply q_loop_e
     apply q_block_e
     apply q_then_n
     refine zk [5,10,11] ?_
     refine zrg ⟨[],[],[],[],[]⟩ fun all hall _ Z=>?_
     have ga5 : guardOf all 5 = some 167 := hall 5
     refine vcL_split 2 fun _ Y=>?_
     simp (disch:=omega)[ga5]
     and_intros<;>try omega
     apply Y
     simp only [List.drop]
     refine vcL_step fun _ Y=>?_
     simp (disch:=omega)[ga5]
     refine zce (dcount_fn m M d _ hx.iv.ho b1) ?_
     apply Y
     refine vcL_split 3 fun _ Y=>?_
     simp (disch:=omega)[ga5]
     and_intros<;>try omega
     apply Y
     simp only [List.drop]
     refine vcL_bool 167 (by simp <;> rfl) ?_
     refine ⟨fun g41 => ?_, fun g41 => ?_⟩
     ·try simp at g41
      simp (disch:=omega)[ga5]
      and_intros<;>try omega
      apply Z
      apply awp_ret
      simp [endQ]
      omega
     ·try simp at g41
      omega
end Go.Proofs.YtpfmpeaekgdgnaaGreat


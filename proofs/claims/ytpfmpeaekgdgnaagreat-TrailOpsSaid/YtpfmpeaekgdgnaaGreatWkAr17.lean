import Derived.Test.YtpfmpeaekgdgnaaGreatArAw
namespace Go.Proofs.YtpfmpeaekgdgnaaGreat
open Go Go.Vm
set_option maxRecDepth 20000
set_option linter.all false
set_option maxHeartbeats 8000000
theorem is4_fn (l : List PI) (σ : List (List D)) (hl : l.length ≤ 10000) : Ct Tryz.prog 105 [.sl false (l.map d_PI), .sl false (l.map d_PI)] σ (fun r σ' => r = .bool true ∧ σ' = σ) := by
 refine zf (rs:=[.tmp 4]) Tryz.func105 Tryz.ntmps105 Tryz.results105 ?_
 simp only [argEnv]
 refine zr0 fun _ _ Z=>?_
 simp (disch:=omega)
 and_intros<;>try omega
 apply Z
 apply awp_seq
 refine zr0 fun _ _ Z=>?_
 simp (disch:=omega)
 and_intros<;>try omega
 apply Z
 refine zi ?_
 refine ⟨fun c1=>?_,fun c1=>?_⟩
 ·simp at c1
 ·try simp at c1
  apply awp_skip
  apply q_then_n
  apply awp_seq
  refine zr0 fun _ _ Z=>?_
  simp (disch:=omega)
  and_intros<;>try omega
  apply Z
  apply awp_block
  refine zk [0,1,4,12,13] ?_
  refine awp_loopE (fun (k : Nat) => [(13, .d (.v (.int .i64 (k : Int)))), (5, .d (.any))]) [4, 5, 13, 14, 15, 16, 17, 18, 19, 20, 21, 22, 23, 24, 25] (fun (k : Nat) => k ≤ l.length) (fun (k : Nat) => l.length - k) (0) (by simp <;> rfl) ?_ ?_ ?_
  ·simp
  ·simp
  rintro k hk
  simp only [List.cons_append, List.nil_append]
  refine zr0 fun _ _ Z=>?_
  simp (disch:=omega)
  and_intros<;>try omega
  apply Z
  apply awp_seq
  refine zi ?_
  refine ⟨fun c2=>?_,fun c2=>?_⟩
  ·try simp at c2
   apply awp_skip
   apply q_then_n
   apply awp_seq
   apply awp_block
   refine zr0 fun _ _ Z=>?_
   simp (disch:=omega)
   and_intros<;>try omega
   apply Z
   refine zd ⟨[],[],[],[],[]⟩ [.op {},.op {},.op {},.op {},.op {},.op {},.op {},.op {},.op {}] fun all hall _ Z=>?_
   refine vcDL_split 8 (by simp) fun _ Y=>?_
   simp (disch:=omega)
   and_intros<;>try omega
   apply Y
   simp only [List.drop]
   simp (disch:=omega)
   and_intros<;>try omega
   apply Z
   refine zi ?_
   refine ⟨fun c3=>?_,fun c3=>?_⟩
   ·simp at c3
   ·try simp at c3
    apply awp_skip
    apply q_block_n
    apply q_then_n
    refine zk [0,1,5,12,13] ?_
    refine zt0 fun _ _ Z=>?_
    simp (disch:=omega)
    and_intros<;>try omega
    apply Z
    refine q_round (k + 1) ?_ ?_ (weak_mkA rfl ?_ (by simp) (by simp))
    ·omega
    ·try dsimp only
     omega
    ·simp (disch:=omega)
  ·try simp at c2
   apply awp_exit
   apply q_then_e
   apply q_loop_e
   apply q_block_e
   apply q_then_n
   refine zr0 fun _ _ Z=>?_
   simp (disch:=omega)
   and_intros<;>try omega
   apply Z
   apply awp_ret
   simp [endQ]
theorem isNode_fn (n : ND) (σ : List (List D)) (h1 : n.kids.length ≤ 10000) (h2 : n.classes.length ≤ 10000) (h3 : n.attrs.length ≤ 10000) (h4 : n.styles.length ≤ 10000) : Ct Tryz.prog 56 [d_ND n, d_ND n] σ (fun r σ' => r = .bool true ∧ σ' = σ) := by
 refine zf (rs:=[.tmp 4]) Tryz.func56 Tryz.ntmps56 Tryz.results56 ?_
 simp only [argEnv]
 refine zr0 fun _ _ Z=>?_
 simp (disch:=omega)
 and_intros<;>try omega
 apply Z
 apply awp_seq
 refine zrg ⟨[],[],[],[],[]⟩ fun all hall _ Z=>?_
 have ga5 : guardOf all 5 = some 12 := hall 5
 have ga12 : guardOf all 12 = some 19 := hall 12
 have ga19 : guardOf all 19 = some 26 := hall 19
 have ga26 : guardOf all 26 = some 33 := hall 26
 have ga33 : guardOf all 33 = some 40 := hall 33
 refine vcL_split 6 fun _ Y=>?_
 simp (disch:=omega)[ga5,ga12,ga19,ga26,ga33]
 and_intros<;>try omega
 apply Y
 simp only [List.drop]
 refine vcL_bool 12 (by simp <;> rfl) ?_
 refine ⟨fun g1 => ?_, fun g1 => ?_⟩
 ·simp at g1
 ·try simp at g1
  refine vcL_split 7 fun _ Y=>?_
  simp (disch:=omega)[ga5,ga12,ga19,ga26,ga33]
  and_intros<;>try omega
  apply Y
  simp only [List.drop]
  refine vcL_bool 19 (by simp <;> rfl) ?_
  refine ⟨fun g2 => ?_, fun g2 => ?_⟩
  ·simp at g2
  ·try simp at g2
   refine vcL_split 7 fun _ Y=>?_
   simp (disch:=omega)[ga5,ga12,ga19,ga26,ga33]
   and_intros<;>try omega
   apply Y
   simp only [List.drop]
   refine vcL_bool 26 (by simp <;> rfl) ?_
   refine ⟨fun g3 => ?_, fun g3 => ?_⟩
   ·simp at g3
   ·try simp at g3
    refine vcL_split 7 fun _ Y=>?_
    simp (disch:=omega)[ga5,ga12,ga19,ga26,ga33]
    and_intros<;>try omega
    apply Y
    simp only [List.drop]
    refine vcL_bool 33 (by simp <;> rfl) ?_
    refine ⟨fun g4 => ?_, fun g4 => ?_⟩
    ·simp at g4
    ·try simp at g4
     refine vcL_split 7 fun _ Y=>?_
     simp (disch:=omega)[ga5,ga12,ga19,ga26,ga33]
     and_intros<;>try omega
     apply Y
     simp only [List.drop]
     refine vcL_bool 40 (by simp <;> rfl) ?_
     refine ⟨fun g5 => ?_, fun g5 => ?_⟩
     ·simp at g5
     ·try simp at g5
      simp (disch:=omega)[ga5,ga12,ga19,ga26,ga33]
      and_intros<;>try omega
      apply Z
      refine zi ?_
      refine ⟨fun c6=>?_,fun c6=>?_⟩
      ·simp at c6
      ·try simp at c6
       apply awp_skip
       apply q_then_n
       apply awp_seq
       refine zk [2,3,4] ?_
       refine zr0 fun _ _ Z=>?_
       simp (disch:=omega)
       and_intros<;>try omega
       apply Z
       apply awp_block
       refine zk [2,3,4,50,51,52] ?_
       refine awp_loopE (fun (k : Nat) => [(52, .d (.v (.int .i64 (k : Int)))), (5, .d (.any))]) [4, 5, 6, 52, 53, 54, 55, 56, 57, 58, 59, 60, 61, 62, 63, 64, 65, 66, 67, 68, 69, 70, 71, 72, 73, 74, 75, 76, 77] (fun (k : Nat) => k ≤ n.attrs.length) (fun (k : Nat) => n.attrs.length - k) (0) (by simp <;> rfl) ?_ ?_ ?_
       ·simp
       ·simp
       rintro k hk
       simp only [List.cons_append, List.nil_append]
       refine zr0 fun _ _ Z=>?_
       simp (disch:=omega)
       and_intros<;>try omega
       apply Z
       apply awp_seq
       refine zi ?_
       refine ⟨fun c7=>?_,fun c7=>?_⟩
       ·try simp at c7
        apply awp_skip
        apply q_then_n
        apply awp_seq
        apply awp_block
        refine zr0 fun _ _ Z=>?_
        simp (disch:=omega)
        and_intros<;>try omega
        apply Z
        refine zk [2,3,5,6,50,51,52] ?_
        refine zd ⟨[],[],[],[],[]⟩ [.op {},.op {rL:=true},.op {},.op {},.op {},.op {},.op {},.op {rL:=true},.op {},.op {},.op {},.op {rL:=true},.op {},.op {},.op {},.op {},.op {},.op {rL:=true},.op {},.op {}] fun all hall _ Z=>?_
        have ga9 : guardOf all 9 = some 66 := hall 9
        refine vcDL_split 8 (by simp) fun _ Y=>?_
        simp (disch:=omega)[ga9]
        and_intros<;>try omega
        apply Y
        simp only [List.drop]
        refine vcDL_split 2 (by simp) fun _ Y=>?_
        simp (disch:=omega)[ga9]
        and_intros<;>try omega
        apply Y
        simp only [List.drop]
        refine vcDL_bool 66 (by simp <;> rfl) ?_
        refine ⟨fun g8 => ?_, fun g8 => ?_⟩
        ·simp at g8
        ·try simp at g8
         refine vcDL_split 8 (by simp) fun _ Y=>?_
         simp (disch:=omega)[ga9]
         and_intros<;>try omega
         apply Y
         simp only [List.drop]
         simp (disch:=omega)[ga9]
         and_intros<;>try omega
         apply Z
         refine zi ?_
         refine ⟨fun c9=>?_,fun c9=>?_⟩
         ·simp at c9
         ·try simp at c9
          apply awp_skip
          apply q_block_n
          apply q_then_n
          refine zk [2,3,5,50,51,52] ?_
          refine zt0 fun _ _ Z=>?_
          simp (disch:=omega)
          and_intros<;>try omega
          apply Z
          refine q_round (k + 1) ?_ ?_ (weak_mkA rfl ?_ (by simp) (by simp))
          ·omega
          ·try dsimp only
           omega
          ·simp (disch:=omega)
       ·try simp at c7
        apply awp_exit
        apply q_then_e
        apply q_loop_e
        apply q_block_e
        apply q_then_n
        refine zk [2,3] ?_
        refine zrg ⟨[],[],[],[],[]⟩ fun all hall _ Z=>?_
        have ga5 : guardOf all 5 = some 83 := hall 5
        have ga12 : guardOf all 12 = some 90 := hall 12
        refine vcL_split 4 fun _ Y=>?_
        simp (disch:=omega)[ga5,ga12]
        and_intros<;>try omega
        apply Y
        simp only [List.drop]
        refine vcL_step fun _ Y=>?_
        simp (disch:=omega)[ga5,ga12]
        refine zce (same_fn n.classes n.classes _ (by omega) (by omega)) ?_
        apply Y
        refine vcL_split 1 fun _ Y=>?_
        simp (disch:=omega)[ga5,ga12]
        and_intros<;>try omega
        apply Y
        simp only [List.drop]
        refine vcL_bool 83 (by simp <;> rfl) ?_
        refine ⟨fun g10 => ?_, fun g10 => ?_⟩
        ·try simp at g10
         refine vcL_split 4 fun _ Y=>?_
         simp (disch:=omega)[ga5,ga12]
         and_intros<;>try omega
         apply Y
         simp only [List.drop]
         refine zg ga5 fun _ Y=>?_
         simp (disch:=omega)[ga5,ga12]
         refine zce (is4_fn n.styles _ h4) ?_
         apply Y
         refine vcL_split 2 fun _ Y=>?_
         simp (disch:=omega)[ga5,ga12]
         and_intros<;>try omega
         apply Y
         simp only [List.drop]
         refine vcL_bool 90 (by simp <;> rfl) ?_
         refine ⟨fun g11 => ?_, fun g11 => ?_⟩
         ·try simp at g11
          refine vcL_split 4 fun _ Y=>?_
          simp (disch:=omega)[ga5,ga12]
          and_intros<;>try omega
          apply Y
          simp only [List.drop]
          refine zg ga12 fun _ Y=>?_
          simp (disch:=omega)[ga5,ga12]
          refine zce (numbers_fn n.kids n.kids _ (by omega) (by omega)) ?_
          apply Y
          simp (disch:=omega)[ga5,ga12]
          and_intros<;>try omega
          apply Z
          apply awp_ret
          simp [endQ]
         ·simp at g11
        ·simp at g10
theorem is_fn (k m M : Nat) (d : DS) (rk : Int → Nat) (x : RD) (σ : List (List D)) (hi : IX k m M d rk x σ) (hk : k ≤ 800) : Ct Tryz.prog 19 [.ref m 0, d_RD x] σ (fun r σ' => r = .bool true ∧ σ' = σ) := by
 refine zf (rs:=[.tmp 4]) Tryz.func19 Tryz.ntmps19 Tryz.results19 ?_
 simp only [argEnv]
 obtain ⟨h, hxp⟩ := hi
 have hnb := h.ip.NB (by omega)
 have hll := l_len d
 have htr := h.wt.Tr (by have := h.ip.len; rw [l_len]; omega)
 obtain ⟨b1, b2, b3⟩ := h.bounds (by omega)
 have hxx : NB x.l := hxp.nb hnb
 have htx : Tr x.l (belR d.l rk) rk := htr.perm hxp.fd
 have hxl : x.l.length = d.es.length := by rw [hxp.len]; exact hll
 have hxm : x.most = d.most := hxp.most
 have hxn : x.next = d.next := hxp.next
 have hbl := htr.len 0
 have hro := h.ip.room
 refine zr0 fun _ _ Z=>?_
 simp
 and_intros<;>try omega
 apply Z
 apply awp_seq
 refine zd ⟨[],[],[],[],[]⟩ [.op {},.read,.op {},.op {rL:=true},.op {},.op {},.op {},.op {},.op {},.read,.op {},.op {rL:=true},.op {},.op {rL:=true},.op {},.op {},.op {},.op {},.op {},.op {},.op {},.read,.op {},.op {rL:=true},.op {},.op {},.op {},.op {},.read,.op {rL:=true},.pure,.pure,.op {},.op {}] fun all hall _ Z=>?_
 have ga7 : guardOf all 7 = some 17 := hall 7
 have ga19 : guardOf all 19 = some 29 := hall 19
 have ga26 : guardOf all 26 = some 36 := hall 26
 refine vcDL_split 1 (by simp) fun _ Y=>?_
 simp[ga7,ga19,ga26]
 and_intros<;>try omega
 apply Y
 simp only [List.drop]
 refine vcDL_step fun _ Y=>?_
 simp[ga7,ga19,ga26]
 refine zdr (dcount_fn m M d _ h.ho b1) ?_
 apply Y
 refine vcDL_split 6 (by simp) fun _ Y=>?_
 simp[ga7,ga19,ga26]
 and_intros<;>try omega
 apply Y
 simp only [List.drop]
 refine vcDL_bool 17 (by simp <;> rfl) ?_
 refine ⟨fun g1 => ?_, fun g1 => ?_⟩
 ·try simp at g1
  omega
 ·try simp at g1
  refine vcDL_split 1 (by simp) fun _ Y=>?_
  simp[ga7,ga19,ga26]
  and_intros<;>try omega
  apply Y
  simp only [List.drop]
  refine zdg ga7 fun _ Y=>?_
  simp[ga7,ga19,ga26]
  refine zdr (droom_fn m M d _ h.ho b1 b2) ?_
  apply Y
  refine vcDL_split 8 (by simp) fun _ Y=>?_
  simp[ga7,ga19,ga26]
  and_intros<;>try omega
  apply Y
  simp only [List.drop]
  refine vcDL_split 2 (by simp) fun _ Y=>?_
  simp[ga7,ga19,ga26]
  and_intros<;>try omega
  apply Y
  simp only [List.drop]
  refine vcDL_bool 29 (by simp <;> rfl) ?_
  refine ⟨fun g2 => ?_, fun g2 => ?_⟩
  ·try simp at g2
   omega
  ·try simp at g2
   refine vcDL_split 1 (by simp) fun _ Y=>?_
   simp[ga7,ga19,ga26]
   and_intros<;>try omega
   apply Y
   simp only [List.drop]
   refine zdg ga19 fun _ Y=>?_
   simp[ga7,ga19,ga26]
   refine zdr (dnext_fn m M d _ h.ho) ?_
   apply Y
   refine vcDL_split 5 (by simp) fun _ Y=>?_
   simp[ga7,ga19,ga26]
   and_intros<;>try omega
   apply Y
   simp only [List.drop]
   refine vcDL_bool 36 (by simp <;> rfl) ?_
   refine ⟨fun g3 => ?_, fun g3 => ?_⟩
   ·try simp at g3
    omega
   ·try simp at g3
    refine vcDL_split 1 (by simp) fun _ Y=>?_
    simp[ga7,ga19,ga26]
    and_intros<;>try omega
    apply Y
    simp only [List.drop]
    refine zdg ga26 fun _ Y=>?_
    simp[ga7,ga19,ga26]
    refine zdr (order_fn m M d (belR d.l rk) rk _ h.ho (h.WD (by omega)) h.ip.root) ?_
    apply Y
    refine vcDL_split 1 (by simp) fun _ Y=>?_
    simp[ga7,ga19,ga26]
    and_intros<;>try omega
    apply Y
    simp only [List.drop]
    refine zdg ga26 fun _ Y=>?_
    simp[ga7,ga19,ga26]
    refine zdp (fun _ => (below_fn x 0 (belR d.l rk) rk _ hxx htx)) ?_
    apply Y
    refine zdg ga26 fun _ Y=>?_
    simp[ga7,ga19,ga26]
    refine zdp (fun _ => (numbers_fn (belR d.l rk 0) (belR d.l rk 0) _ (by omega) (by omega))) ?_
    apply Y
    simp[ga7,ga19,ga26]
    and_intros<;>try omega
    apply Z
    refine zi ?_
    refine ⟨fun c4=>?_,fun c4=>?_⟩
    ·simp at c4
    ·try simp at c4
     apply awp_skip
     apply q_then_n
     apply awp_seq
     refine zk [0,3,4] ?_
     refine zr0 fun _ _ Z=>?_
     simp
     and_intros<;>try omega
     apply Z
     apply awp_block
     refine zk [0,3,4,5] ?_
     refine awp_loopE (fun (j : Nat) => [(5, .d (.int ((j : Int) - 1)))]) [4, 5, 6, 7, 8, 9, 44, 45, 46, 47, 48, 49, 50, 51, 52, 53, 54, 55, 56, 57, 58, 59, 60, 61, 62, 63, 64, 65, 66, 67, 68, 69, 70, 71, 72, 73, 74, 75, 76, 77, 78, 79, 80, 81, 82] (fun (j : Nat) => (j : Int) ≤ d.next + 2) (fun (j : Nat) => (d.next + 2).toNat - j) (0) (by simp <;> rfl) ?_ ?_ ?_
     ·simp
     ·omega
     rintro j hj
     simp only [List.cons_append, List.nil_append]
     apply awp_seq
     refine zr0 fun _ _ Z=>?_
     simp
     and_intros<;>try omega
     apply Z
     refine zi ?_
     refine ⟨fun c5=>?_,fun c5=>?_⟩
     ·try simp at c5
      apply awp_skip
      apply q_then_n
      apply awp_seq
      apply awp_block
      refine zr0 fun _ _ Z=>?_
      refine vcL_split 2 fun _ Y=>?_
      simp
      and_intros<;>try omega
      apply Y
      simp only [List.drop]
      refine vcL_step fun _ Y=>?_
      simp
      refine zce (get_fn m M d ((j : Int) - 1) _ h.ho hnb) ?_
      apply Y
      simp
      and_intros<;>try omega
      apply Z
      refine zk [0,3,5,6,7] ?_
      refine zr0 fun _ _ Z=>?_
      refine vcL_split 2 fun _ Y=>?_
      simp
      and_intros<;>try omega
      apply Y
      simp only [List.drop]
      refine vcL_step fun _ Y=>?_
      simp
      refine zce (find_fn x ((j : Int) - 1) _ hxx) ?_
      rw [hxp.fd, hxp.il]
      apply Y
      simp
      and_intros<;>try omega
      apply Z
      refine zk [0,3,5,6,7,8,9] ?_
      refine zd ⟨[],[],[],[],[]⟩ [.op {},.op {},.op {},.op {},.op {},.op {},.op {rL:=true},.op {rL:=true},.pure,.op {},.op {},.op {},.op {},.op {},.op {},.read,.op {rL:=true},.op {},.pure,.op {},.op {}] fun all hall _ Z=>?_
      have ga3 : guardOf all 3 = some 65 := hall 3
      have ga5 : guardOf all 5 = some 67 := hall 5
      have ga12 : guardOf all 12 = some 74 := hall 12
      refine vcDL_split 4 (by simp) fun _ Y=>?_
      simp[ga3,ga5,ga12]
      and_intros<;>try omega
      apply Y
      simp only [List.drop]
      refine vcDL_bool 65 (by simp <;> rfl) ?_
      refine ⟨fun g6 => ?_, fun g6 => ?_⟩
      ·simp at g6
      ·try simp at g6
       refine vcDL_split 2 (by simp) fun _ Y=>?_
       simp[ga3,ga5,ga12]
       and_intros<;>try omega
       apply Y
       simp only [List.drop]
       refine vcDL_bool 67 (by simp <;> rfl) ?_
       refine ⟨fun g7 => ?_, fun g7 => ?_⟩
       ·try simp at g7
        refine vcDL_split 2 (by simp) fun _ Y=>?_
        simp[ga3,ga5,ga12]
        and_intros<;>try omega
        apply Y
        simp only [List.drop]
        refine zdg ga5 fun _ Y=>?_
        simp[ga3,ga5,ga12]
        refine zdp (fun _ => (isNode_fn (findD d.l ((j : Int) - 1)) _ (by have := hnb.fk ((j : Int) - 1); omega) (by have := hnb.fc ((j : Int) - 1); omega) (by have := hnb.fa ((j : Int) - 1); omega) (by have := hnb.fs ((j : Int) - 1); omega))) ?_
        apply Y
        refine vcDL_split 4 (by simp) fun _ Y=>?_
        simp[ga3,ga5,ga12]
        and_intros<;>try omega
        apply Y
        simp only [List.drop]
        refine vcDL_bool 74 (by simp <;> rfl) ?_
        refine ⟨fun g8 => ?_, fun g8 => ?_⟩
        ·simp at g8
        ·try simp at g8
         refine vcDL_split 2 (by simp) fun _ Y=>?_
         simp[ga3,ga5,ga12]
         and_intros<;>try omega
         apply Y
         simp only [List.drop]
         refine zdg ga12 fun _ Y=>?_
         simp[ga3,ga5,ga12]
         refine zdr (dindex_fn m M d ((j : Int) - 1) _ h.ho hnb h.WP (fun e he => h.fd he)) ?_
         apply Y
         refine vcDL_split 2 (by simp) fun _ Y=>?_
         simp[ga3,ga5,ga12]
         and_intros<;>try omega
         apply Y
         simp only [List.drop]
         refine zdg ga12 fun _ Y=>?_
         simp[ga3,ga5,ga12]
         refine zdp (fun _ => (index5_fn x ((j : Int) - 1) _ hxx)) ?_
         rw [hxp.ix]
         apply Y
         simp[ga3,ga5,ga12]
         and_intros<;>try omega
         apply Z
         refine zi ?_
         refine ⟨fun c9=>?_,fun c9=>?_⟩
         ·simp at c9
         ·try simp at c9
          apply awp_skip
          apply q_block_n
          apply q_then_n
          refine zk [0,3,5] ?_
          refine zt0 fun _ _ Z=>?_
          simp
          and_intros<;>try omega
          apply Z
          refine q_round (j + 1) ?_ ?_ (weak_mkA rfl ?_ (by simp) (by simp))
          ·omega
          ·try dsimp only
           omega
          ·first | (simp [leS]; done) | (simp [leS]; omega)
       ·try simp at g7
        refine vcDL_split 7 (by simp) fun _ Y=>?_
        simp[ga3,ga5,ga12]
        and_intros<;>try omega
        apply Y
        simp only [List.drop]
        refine vcDL_split 2 (by simp) fun _ Y=>?_
        simp[ga3,ga5,ga12]
        and_intros<;>try omega
        apply Y
        simp only [List.drop]
        refine zdg ga12 fun _ Y=>?_
        simp[ga3,ga5,ga12]
        refine zdr (dindex_fn m M d ((j : Int) - 1) _ h.ho hnb h.WP (fun e he => h.fd he)) ?_
        apply Y
        refine vcDL_split 2 (by simp) fun _ Y=>?_
        simp[ga3,ga5,ga12]
        and_intros<;>try omega
        apply Y
        simp only [List.drop]
        refine zdg ga12 fun _ Y=>?_
        simp[ga3,ga5,ga12]
        refine zdp (fun _ => (index5_fn x ((j : Int) - 1) _ hxx)) ?_
        rw [hxp.ix]
        apply Y
        simp[ga3,ga5,ga12]
        and_intros<;>try omega
        apply Z
        refine zi ?_
        refine ⟨fun c10=>?_,fun c10=>?_⟩
        ·simp at c10
        ·try simp at c10
         apply awp_skip
         apply q_block_n
         apply q_then_n
         refine zk [0,3,5] ?_
         refine zt0 fun _ _ Z=>?_
         simp
         and_intros<;>try omega
         apply Z
         refine q_round (j + 1) ?_ ?_ (weak_mkA rfl ?_ (by simp) (by simp))
         ·omega
         ·try dsimp only
          omega
         ·first | (simp [leS]; done) | (simp [leS]; omega)
     ·try simp at c5
      apply awp_exit
      apply q_then_e
      apply q_loop_e
      apply q_block_e
      apply q_then_n
      refine zr0 fun _ _ Z=>?_
      simp
      and_intros<;>try omega
      apply Z
      apply awp_ret
      simp [endQ]
end Go.Proofs.YtpfmpeaekgdgnaaGreat


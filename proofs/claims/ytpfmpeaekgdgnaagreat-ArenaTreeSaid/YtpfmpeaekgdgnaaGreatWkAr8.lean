import Derived.Test.YtpfmpeaekgdgnaaGreatWkAr7
namespace Go.Proofs.YtpfmpeaekgdgnaaGreat
open Go Go.Vm
set_option maxRecDepth 20000
set_option linter.all false
set_option maxHeartbeats 8000000
def chN (n : ND) (kind : Int) (name v : ByteArray) (num : Int) : Option ND :=
 if kind = 0 then some { n with tag := name }
 else if kind = 1 then some { n with text := v }
 else if kind = 2 then some { n with attrs := putL nA n.attrs ⟨name, v⟩ }
 else if kind = 3 then (if hasN nA n.attrs name = true then some { n with attrs := delN nA n.attrs name } else none)
 else if kind = 4 then some { n with styles := putL nP n.styles ⟨name, sat num⟩ }
 else if kind = 5 then (if hasN nP n.styles name = true then some { n with styles := delN nP n.styles name } else none)
 else if kind = 6 then (if has name n.classes = true then none else some { n with classes := n.classes ++ [name] })
 else (if has name n.classes = true then some { n with classes := dropL n.classes name } else none)
def setX (x : RD) (kind id : Int) (name v : ByteArray) (num : Int) : RD × Int :=
 if isL x.l id = false then (x, 11) else if id = 0 then (x, 1)
 else if ¬ (kind = 1 ↔ (findD x.l id).kind = 1) then (x, 14)
 else if ¬ kind = 1 ∧ nameB name = false then (x, 2)
 else match chN (findD x.l id) kind name v num with
  | none => (x, 1)
  | some n => (⟨x.most, x.next, putN x.l n⟩, 0)
section
variable {x : RD} {kind id : Int} {name v : ByteArray} {num : Int}
theorem setX_11 (h1 : isL x.l id = false) : setX x kind id name v num = (x, 11) := by unfold setX; rw [if_pos h1]
theorem setX_1 (h1 : isL x.l id = true) (h2 : id = 0) : setX x kind id name v num = (x, 1) := by unfold setX; rw [if_neg (by rw [h1]; simp), if_pos h2]
theorem setX_14 (h1 : isL x.l id = true) (h2 : ¬ id = 0) (h3 : ¬ (kind = 1 ↔ (findD x.l id).kind = 1)) : setX x kind id name v num = (x, 14) := by unfold setX; rw [if_neg (by rw [h1]; simp), if_neg h2, if_pos h3]
theorem setX_2 (h1 : isL x.l id = true) (h2 : ¬ id = 0) (h3 : kind = 1 ↔ (findD x.l id).kind = 1) (h4 : ¬ kind = 1) (h5 : nameB name = false) : setX x kind id name v num = (x, 2) := by
 unfold setX; rw [if_neg (by rw [h1]; simp), if_neg h2, if_neg (fun h => h h3), if_pos ⟨h4, h5⟩]
theorem setX_ok {n : ND} (h1 : isL x.l id = true) (h2 : ¬ id = 0) (h3 : kind = 1 ↔ (findD x.l id).kind = 1) (h5 : kind = 1 ∨ nameB name = true) (h : chN (findD x.l id) kind name v num = some n) : setX x kind id name v num = (⟨x.most, x.next, putN x.l n⟩, 0) := by
 unfold setX; rw [if_neg (by rw [h1]; simp), if_neg h2, if_neg (fun h => h h3), if_neg (by rintro ⟨a, b⟩; rcases h5 with h5 | h5; exact a h5; rw [h5] at b; cases b), h]
theorem setX_no (h1 : isL x.l id = true) (h2 : ¬ id = 0) (h3 : kind = 1 ↔ (findD x.l id).kind = 1) (h5 : kind = 1 ∨ nameB name = true) (h : chN (findD x.l id) kind name v num = none) : setX x kind id name v num = (x, 1) := by
 unfold setX; rw [if_neg (by rw [h1]; simp), if_neg h2, if_neg (fun h => h h3), if_neg (by rintro ⟨a, b⟩; rcases h5 with h5 | h5; exact a h5; rw [h5] at b; cases b), h]
end
theorem set5_fn (x : RD) (kind id : Int) (name v : ByteArray) (num : Int) (σ : List (List D)) (hx : NB x.l) (hn : name.size ≤ 1000) (hsa : Sorted nA (findD x.l id).attrs) (hss : Sorted nP (findD x.l id).styles) : Ct Tryz.prog 51 [d_RD x, D.int kind, D.int id, D.str name, D.str v, D.int num] σ (fun r σ' => r = .tup [d_RD (setX x kind id name v num).1, D.int (setX x kind id name v num).2] ∧ σ' = σ) := by
 refine zf (rs:=[.cell 12 28,.tmp 13]) Tryz.func51 Tryz.ntmps51 Tryz.results51 ?_
 simp only [argEnv]
 have hfc := hx.fc id
 have hfa := hx.fa id
 have hfs := hx.fs id
 refine zr ⟨[16,91],[],[],[],[]⟩ fun _ _ Z=>?_
 simp (disch:=omega)[or_imp,forall_and]
 and_intros<;>try omega
 apply Z
 refine zr ⟨[16,91],[],[],[],[]⟩ fun _ _ Z=>?_
 refine vcL_split 2 fun _ Y=>?_
 simp (disch:=omega)[or_imp,forall_and]
 and_intros<;>try omega
 apply Y
 simp only [List.drop]
 refine vcL_step fun _ Y=>?_
 simp (disch:=omega)[or_imp,forall_and]
 refine zce (find_fn x id _ hx) ?_
 apply Y
 simp (disch:=omega)[or_imp,forall_and]
 and_intros<;>try omega
 apply Z
 apply awp_seq
 refine zr ⟨[16,91],[],[],[],[]⟩ fun _ _ Z=>?_
 simp (disch:=omega)[or_imp,forall_and]
 and_intros<;>try omega
 apply Z
 refine zi ?_
 refine ⟨fun c1=>?_,fun c1=>?_⟩
 ·try simp at c1
  refine zk [1,2,3,4,5,6,12,13,14] ?_
  refine zr ⟨[16,91],[],[],[],[]⟩ fun _ _ Z=>?_
  simp (disch:=omega)[or_imp,forall_and]
  and_intros<;>try omega
  apply Z
  apply awp_ret
  apply q_then_r
  have e := setX_11 (kind := kind) (name := name) (v := v) (num := num) c1
  simp [endQ, e]
 ·try simp at c1
  apply awp_skip
  apply q_then_n
  apply awp_seq
  refine zk [1,2,3,4,5,6,12,13,14] ?_
  refine zr ⟨[16,91],[],[],[],[]⟩ fun _ _ Z=>?_
  simp (disch:=omega)[or_imp,forall_and]
  and_intros<;>try omega
  apply Z
  refine zi ?_
  refine ⟨fun c2=>?_,fun c2=>?_⟩
  ·try simp at c2
   refine zr ⟨[16,91],[],[],[],[]⟩ fun _ _ Z=>?_
   simp (disch:=omega)[or_imp,forall_and]
   and_intros<;>try omega
   apply Z
   apply awp_ret
   apply q_then_r
   have e := setX_1 (kind := kind) (name := name) (v := v) (num := num) c1 c2
   simp [endQ, e]
  ·try simp at c2
   apply awp_skip
   apply q_then_n
   apply awp_seq
   refine zr ⟨[16,91],[],[],[],[]⟩ fun _ _ Z=>?_
   simp (disch:=omega)[or_imp,forall_and]
   and_intros<;>try omega
   apply Z
   refine zi ?_
   refine ⟨fun c3=>?_,fun c3=>?_⟩
   ·try simp at c3
    refine zk [1,3,4,5,6,12,13,14] ?_
    refine zr ⟨[16,91],[],[],[],[]⟩ fun _ _ Z=>?_
    simp (disch:=omega)[or_imp,forall_and]
    and_intros<;>try omega
    apply Z
    apply awp_ret
    apply q_then_r
    have e := setX_14 (name := name) (v := v) (num := num) c1 c2 c3
    simp [endQ, e]
   ·try simp at c3
    apply awp_skip
    apply q_then_n
    apply awp_seq
    refine zk [1,3,4,5,6,12,13,14] ?_
    refine zrg ⟨[16,91],[],[],[],[]⟩ fun all hall _ Z=>?_
    have ga2 : guardOf all 2 = some 42 := hall 2
    refine vcL_split 3 fun _ Y=>?_
    simp (disch:=omega)[or_imp,forall_and,ga2]
    and_intros<;>try omega
    apply Y
    simp only [List.drop]
    refine vcL_bool 42 (by simp <;> rfl) ?_
    refine ⟨fun g4 => ?_, fun g4 => ?_⟩
    ·try simp at g4
     refine vcL_split 1 fun _ Y=>?_
     simp (disch:=omega)[or_imp,forall_and,ga2]
     and_intros<;>try omega
     apply Y
     simp only [List.drop]
     refine zg ga2 fun _ Y=>?_
     simp (disch:=omega)[or_imp,forall_and,ga2]
     refine zce (rname_fn name _ (by omega)) ?_
     apply Y
     simp (disch:=omega)[or_imp,forall_and,ga2]
     and_intros<;>try omega
     apply Z
     refine zi ?_
     refine ⟨fun c5=>?_,fun c5=>?_⟩
     ·try simp at c5
      refine zk [1,3,4,5,6,12,13,14] ?_
      refine zr ⟨[16,91],[],[],[],[]⟩ fun _ _ Z=>?_
      simp (disch:=omega)[or_imp,forall_and]
      and_intros<;>try omega
      apply Z
      apply awp_ret
      apply q_then_r
      have e := setX_2 (v := v) (num := num) c1 c2 c3 g4 c5
      simp [endQ, e]
     ·try simp at c5
      apply awp_skip
      apply q_then_n
      apply awp_seq
      refine zk [1,3,4,5,6,12,13,14] ?_
      refine zr ⟨[16,91],[],[],[],[]⟩ fun _ _ Z=>?_
      simp (disch:=omega)[or_imp,forall_and]
      and_intros<;>try omega
      apply Z
      apply awp_block
      refine zr ⟨[16,91],[],[],[],[]⟩ fun _ _ Z=>?_
      simp (disch:=omega)[or_imp,forall_and]
      and_intros<;>try omega
      apply Z
      refine zi ?_
      refine ⟨fun c6=>?_,fun c6=>?_⟩
      ·try simp at c6
       refine zt ⟨[16,91],[],[],[],[]⟩ fun _ _ Z=>?_
       simp (disch:=omega)[or_imp,forall_and]
       and_intros<;>try omega
       apply Z
       apply q_block_n
       apply q_then_n
       refine zk [6,12,13,14] ?_
       refine zr ⟨[16,91],[],[],[],[]⟩ fun _ _ Z=>?_
       refine vcL_split 2 fun _ Y=>?_
       simp (disch:=omega)[or_imp,forall_and]
       and_intros<;>try omega
       apply Y
       simp only [List.drop]
       refine vcL_step fun _ Y=>?_
       simp (disch:=omega)[or_imp,forall_and]
       refine zce (put5_fn x { (findD x.l id) with tag := name } _ hx) ?_
       apply Y
       simp (disch:=omega)[or_imp,forall_and]
       and_intros<;>try omega
       apply Z
       apply awp_ret
       subst c6
       have e := setX_ok (name := name) (v := v) (num := num) c1 c2 c3 (.inr c5) (n := { (findD x.l id) with tag := name }) (by simp [chN])
       simp [endQ, e]
      ·try simp at c6
       refine zr ⟨[16,91],[],[],[],[]⟩ fun _ _ Z=>?_
       simp (disch:=omega)[or_imp,forall_and]
       and_intros<;>try omega
       apply Z
       refine zi ?_
       refine ⟨fun c7=>?_,fun c7=>?_⟩
       ·try simp at c7
        exact absurd c7 g4
       ·try simp at c7
        refine zk [3,4,5,6,12,13,14,48] ?_
        refine zr ⟨[16,91],[],[],[],[]⟩ fun _ _ Z=>?_
        simp (disch:=omega)[or_imp,forall_and]
        and_intros<;>try omega
        apply Z
        refine zi ?_
        refine ⟨fun c8=>?_,fun c8=>?_⟩
        ·try simp at c8
         refine zt ⟨[16,91],[],[],[],[]⟩ fun _ _ Z=>?_
         refine vcL_split 5 fun _ Y=>?_
         simp (disch:=omega)[or_imp,forall_and]
         and_intros<;>try omega
         apply Y
         simp only [List.drop]
         refine vcL_step fun _ Y=>?_
         simp (disch:=omega)[or_imp,forall_and]
         refine zce (rsetAttr_fn (findD x.l id).attrs ⟨name, v⟩ _ (by omega) hsa) ?_
         apply Y
         simp (disch:=omega)[or_imp,forall_and]
         and_intros<;>try omega
         apply Z
         apply q_block_n
         apply q_then_n
         refine zk [6,12,13,14] ?_
         refine zr ⟨[16,91],[],[],[],[]⟩ fun _ _ Z=>?_
         refine vcL_split 2 fun _ Y=>?_
         simp (disch:=omega)[or_imp,forall_and]
         and_intros<;>try omega
         apply Y
         simp only [List.drop]
         refine vcL_step fun _ Y=>?_
         simp (disch:=omega)[or_imp,forall_and]
         refine zce (put5_fn x { (findD x.l id) with attrs := putL nA (findD x.l id).attrs ⟨name, v⟩ } _ hx) ?_
         apply Y
         simp (disch:=omega)[or_imp,forall_and]
         and_intros<;>try omega
         apply Z
         apply awp_ret
         subst c8
         have e := setX_ok (name := name) (v := v) (num := num) c1 c2 c3 (.inr c5) (n := { (findD x.l id) with attrs := putL nA (findD x.l id).attrs ⟨name, v⟩ }) (by simp [chN])
         simp [endQ, e]
        ·try simp at c8
         refine zr ⟨[16,91],[],[],[],[]⟩ fun _ _ Z=>?_
         simp (disch:=omega)[or_imp,forall_and]
         and_intros<;>try omega
         apply Z
         refine zi ?_
         refine ⟨fun c9=>?_,fun c9=>?_⟩
         ·try simp at c9
          refine zk [3,6,12,13,14] ?_
          refine zr ⟨[16,91],[],[],[],[]⟩ fun _ _ Z=>?_
          simp (disch:=omega)[or_imp,forall_and]
          and_intros<;>try omega
          apply Z
          apply awp_seq
          refine zr ⟨[16,91],[],[],[],[]⟩ fun _ _ Z=>?_
          simp (disch:=omega)[or_imp,forall_and]
          and_intros<;>try omega
          apply Z
          apply awp_block
          refine zk [3,6,12,13,14,16,81,82,83] ?_
          refine awp_loopE (fun (k : Nat) => [(83, .d (.v (.int .i64 (k : Int)))), (16, .d (.sl true ((delN nA ((findD x.l id).attrs.take k) name).map d_AT)))]) [16, 18, 83, 84, 85, 86, 87, 88, 89, 90, 91, 92, 93, 94, 95] (fun (k : Nat) => k ≤ (findD x.l id).attrs.length) (fun (k : Nat) => (findD x.l id).attrs.length - k) (0) (by simp <;> rfl) ?_ ?_ ?_
          ·simp [delN]
          ·simp
          rintro k hk
          simp only [List.cons_append, List.nil_append]
          have hdl := delN_len nA ((findD x.l id).attrs.take k) name
          simp only [List.length_take] at hdl
          refine zr ⟨[16,91],[],[],[],[]⟩ fun _ _ Z=>?_
          simp (disch:=omega)[or_imp,forall_and]
          and_intros<;>try omega
          apply Z
          apply awp_seq
          refine zi ?_
          refine ⟨fun c10=>?_,fun c10=>?_⟩
          ·try simp at c10
           apply awp_skip
           apply q_then_n
           apply awp_seq
           apply awp_block
           refine zr ⟨[16,91],[],[],[],[]⟩ fun _ _ Z=>?_
           simp (disch:=omega)[or_imp,forall_and]
           and_intros<;>try omega
           apply Z
           refine zk [3,6,12,13,14,16,18,81,82,83] ?_
           refine zr ⟨[16,91],[],[],[],[]⟩ fun _ _ Z=>?_
           simp (disch:=omega)[or_imp,forall_and]
           and_intros<;>try omega
           apply Z
           refine zi ?_
           refine ⟨fun c11=>?_,fun c11=>?_⟩
           ·try simp at c11
            refine zk [3,6,12,13,14,16,18,81,82,83] ?_
            refine zt ⟨[16,91],[],[],[],[]⟩ fun _ _ Z=>?_
            simp (disch:=omega)[or_imp,forall_and]
            and_intros<;>try omega
            apply Z
            apply q_block_n
            apply q_then_n
            refine zk [3,6,12,13,14,16,81,82,83] ?_
            refine zt ⟨[16,91],[],[],[],[]⟩ fun _ _ Z=>?_
            simp (disch:=omega)[or_imp,forall_and]
            and_intros<;>try omega
            apply Z
            refine q_round (k + 1) ?_ ?_ (weak_mkA rfl ?_ (by simp) (by simp))
            ·omega
            ·try dsimp only
             omega
            ·simp (disch:=omega)[or_imp,forall_and,delN_take, *]
           ·try simp at c11
            apply awp_skip
            apply q_block_n
            apply q_then_n
            refine zk [3,6,12,13,14,16,81,82,83] ?_
            refine zt ⟨[16,91],[],[],[],[]⟩ fun _ _ Z=>?_
            simp (disch:=omega)[or_imp,forall_and]
            and_intros<;>try omega
            apply Z
            refine q_round (k + 1) ?_ ?_ (weak_mkA rfl ?_ (by simp) (by simp))
            ·omega
            ·try dsimp only
             omega
            ·simp (disch:=omega)[or_imp,forall_and,delN_take, *]
          ·try simp at c10
           obtain rfl : k = (findD x.l id).attrs.length := by omega
           rw [List.take_length] at hdl
           simp only [List.take_length]
           apply awp_exit
           apply q_then_e
           apply q_loop_e
           apply q_block_e
           apply q_then_n
           apply awp_seq
           refine zr ⟨[16,91],[],[],[],[]⟩ fun _ _ Z=>?_
           simp (disch:=omega)[or_imp,forall_and]
           and_intros<;>try omega
           apply Z
           refine zi ?_
           refine ⟨fun c12=>?_,fun c12=>?_⟩
           ·try simp at c12
            have hh : hasN nA (findD x.l id).attrs name = false := (delN_short nA name).1 (by omega)
            refine zk [6,12,13,14,16] ?_
            refine zr ⟨[16,91],[],[],[],[]⟩ fun _ _ Z=>?_
            simp (disch:=omega)[or_imp,forall_and]
            and_intros<;>try omega
            apply Z
            apply awp_ret
            apply q_then_r
            apply q_block_r
            apply q_then_r
            subst c9
            have e := setX_no (name := name) (v := v) (num := num) c1 c2 c3 (.inr c5) (by simp [chN, hh])
            simp [endQ, e]
           ·try simp at c12
            have hh : hasN nA (findD x.l id).attrs name = true := by
              cases e : hasN nA (findD x.l id).attrs name with
              | true => rfl
              | false => have := (delN_short nA name).2 e; omega
            apply awp_skip
            apply q_then_n
            refine zk [6,12,13,14,16] ?_
            refine zt ⟨[16,91],[],[],[],[]⟩ fun _ _ Z=>?_
            simp (disch:=omega)[or_imp,forall_and]
            and_intros<;>try omega
            apply Z
            apply q_block_n
            apply q_then_n
            refine zr ⟨[16,91],[],[],[],[]⟩ fun _ _ Z=>?_
            refine vcL_split 2 fun _ Y=>?_
            simp (disch:=omega)[or_imp,forall_and]
            and_intros<;>try omega
            apply Y
            simp only [List.drop]
            refine vcL_step fun _ Y=>?_
            simp (disch:=omega)[or_imp,forall_and]
            refine zce (put5_fn x { (findD x.l id) with attrs := delN nA (findD x.l id).attrs name } _ hx) ?_
            apply Y
            simp (disch:=omega)[or_imp,forall_and]
            and_intros<;>try omega
            apply Z
            apply awp_ret
            subst c9
            have e := setX_ok (name := name) (v := v) (num := num) c1 c2 c3 (.inr c5) (n := { (findD x.l id) with attrs := delN nA (findD x.l id).attrs name }) (by simp [chN, hh])
            simp [endQ, e]
         ·try simp at c9
          refine zk [3,5,6,12,13,14,48] ?_
          refine zr ⟨[16,91],[],[],[],[]⟩ fun _ _ Z=>?_
          simp (disch:=omega)[or_imp,forall_and]
          and_intros<;>try omega
          apply Z
          refine zi ?_
          refine ⟨fun c13=>?_,fun c13=>?_⟩
          ·try simp at c13
           refine zk [3,5,6,12,13,14] ?_
           refine zt ⟨[16,91],[],[],[],[]⟩ fun _ _ Z=>?_
           refine vcL_split 6 fun _ Y=>?_
           simp (disch:=omega)[or_imp,forall_and]
           and_intros<;>try omega
           apply Y
           simp only [List.drop]
           refine vcL_step fun _ Y=>?_
           simp (disch:=omega)[or_imp,forall_and]
           refine zce (rsat_fn num _) ?_
           rw [sat_eq]
           apply Y
           refine vcL_split 3 fun _ Y=>?_
           simp (disch:=omega)[or_imp,forall_and]
           and_intros<;>try omega
           apply Y
           simp only [List.drop]
           refine vcL_step fun _ Y=>?_
           simp (disch:=omega)[or_imp,forall_and]
           refine zce (rof_fn ((findD x.l id).styles ++ [⟨name, sat num⟩]) _ (by simp; omega)) ?_
           rw [ofL_snoc, ofL_id nP hss]
           apply Y
           simp (disch:=omega)[or_imp,forall_and]
           and_intros<;>try omega
           apply Z
           apply q_block_n
           apply q_then_n
           refine zk [6,12,13,14] ?_
           refine zr ⟨[16,91],[],[],[],[]⟩ fun _ _ Z=>?_
           refine vcL_split 2 fun _ Y=>?_
           simp (disch:=omega)[or_imp,forall_and]
           and_intros<;>try omega
           apply Y
           simp only [List.drop]
           refine vcL_step fun _ Y=>?_
           simp (disch:=omega)[or_imp,forall_and]
           refine zce (put5_fn x { (findD x.l id) with styles := putL nP (findD x.l id).styles ⟨name, sat num⟩ } _ hx) ?_
           apply Y
           simp (disch:=omega)[or_imp,forall_and]
           and_intros<;>try omega
           apply Z
           apply awp_ret
           subst c13
           have e := setX_ok (name := name) (v := v) (num := num) c1 c2 c3 (.inr c5) (n := { (findD x.l id) with styles := putL nP (findD x.l id).styles ⟨name, sat num⟩ }) (by simp [chN])
           simp [endQ, e]
          ·try simp at c13
           refine zr ⟨[16,91],[],[],[],[]⟩ fun _ _ Z=>?_
           simp (disch:=omega)[or_imp,forall_and]
           and_intros<;>try omega
           apply Z
           refine zi ?_
           refine ⟨fun c14=>?_,fun c14=>?_⟩
           ·try simp at c14
            apply awp_seq
            refine zr ⟨[16,91],[],[],[],[]⟩ fun _ _ Z=>?_
            refine vcL_split 3 fun _ Y=>?_
            simp (disch:=omega)[or_imp,forall_and]
            and_intros<;>try omega
            apply Y
            simp only [List.drop]
            refine vcL_step fun _ Y=>?_
            simp (disch:=omega)[or_imp,forall_and]
            refine zcm (rgetP_fn (findD x.l id).styles name _ (by omega)) ?_
            rintro _ _ ⟨⟨gv, hr9⟩, hs9⟩
            subst hr9
            replace hs9 := hs9.symm
            subst hs9
            apply Y
            simp (disch:=omega)[or_imp,forall_and]
            and_intros<;>try omega
            apply Z
            refine zk [3,6,12,13,14,20] ?_
            refine zr ⟨[16,91],[],[],[],[]⟩ fun _ _ Z=>?_
            simp (disch:=omega)[or_imp,forall_and]
            and_intros<;>try omega
            apply Z
            refine zi ?_
            refine ⟨fun c15=>?_,fun c15=>?_⟩
            ·try simp at c15
             refine zr ⟨[16,91],[],[],[],[]⟩ fun _ _ Z=>?_
             simp (disch:=omega)[or_imp,forall_and]
             and_intros<;>try omega
             apply Z
             apply awp_ret
             apply q_then_r
             apply q_block_r
             apply q_then_r
             subst c14
             have e := setX_no (name := name) (v := v) (num := num) c1 c2 c3 (.inr c5) (by simp [chN, c15])
             simp [endQ, e]
            ·try simp at c15
             apply awp_skip
             apply q_then_n
             refine zt ⟨[16,91],[],[],[],[]⟩ fun _ _ Z=>?_
             refine vcL_split 3 fun _ Y=>?_
             simp (disch:=omega)[or_imp,forall_and]
             and_intros<;>try omega
             apply Y
             simp only [List.drop]
             refine vcL_step fun _ Y=>?_
             simp (disch:=omega)[or_imp,forall_and]
             refine zce (rdropP_fn (findD x.l id).styles name _ (by omega) hss) ?_
             apply Y
             simp (disch:=omega)[or_imp,forall_and]
             and_intros<;>try omega
             apply Z
             apply q_block_n
             apply q_then_n
             refine zk [6,12,13,14] ?_
             refine zr ⟨[16,91],[],[],[],[]⟩ fun _ _ Z=>?_
             refine vcL_split 2 fun _ Y=>?_
             simp (disch:=omega)[or_imp,forall_and]
             and_intros<;>try omega
             apply Y
             simp only [List.drop]
             refine vcL_step fun _ Y=>?_
             simp (disch:=omega)[or_imp,forall_and]
             refine zce (put5_fn x { (findD x.l id) with styles := delN nP (findD x.l id).styles name } _ hx) ?_
             apply Y
             simp (disch:=omega)[or_imp,forall_and]
             and_intros<;>try omega
             apply Z
             apply awp_ret
             subst c14
             have e := setX_ok (name := name) (v := v) (num := num) c1 c2 c3 (.inr c5) (n := { (findD x.l id) with styles := delN nP (findD x.l id).styles name }) (by simp [chN, c15])
             simp [endQ, e]
           ·try simp at c14
            refine zr ⟨[16,91],[],[],[],[]⟩ fun _ _ Z=>?_
            simp (disch:=omega)[or_imp,forall_and]
            and_intros<;>try omega
            apply Z
            refine zi ?_
            refine ⟨fun c16=>?_,fun c16=>?_⟩
            ·try simp at c16
             apply awp_seq
             refine zk [3,6,12,13,14] ?_
             refine zr ⟨[16,91],[],[],[],[]⟩ fun _ _ Z=>?_
             refine vcL_split 3 fun _ Y=>?_
             simp (disch:=omega)[or_imp,forall_and]
             and_intros<;>try omega
             apply Y
             simp only [List.drop]
             refine vcL_step fun _ Y=>?_
             simp (disch:=omega)[or_imp,forall_and]
             refine zce (rhas_fn (findD x.l id).classes name _ (by omega)) ?_
             apply Y
             simp only [vcL_nil]
             apply Z
             refine zi ?_
             refine ⟨fun c17=>?_,fun c17=>?_⟩
             ·try simp at c17
              refine zr ⟨[16,91],[],[],[],[]⟩ fun _ _ Z=>?_
              simp (disch:=omega)[or_imp,forall_and]
              and_intros<;>try omega
              apply Z
              apply awp_ret
              apply q_then_r
              apply q_block_r
              apply q_then_r
              subst c16
              have e := setX_no (name := name) (v := v) (num := num) c1 c2 c3 (.inr c5) (by simp [chN, c17])
              simp [endQ, e]
             ·try simp at c17
              apply awp_skip
              apply q_then_n
              refine zt ⟨[16,91],[],[],[],[]⟩ fun _ _ Z=>?_
              refine vcL_split 8 fun _ Y=>?_
              simp (disch:=omega)[or_imp,forall_and]
              and_intros<;>try omega
              apply Y
              simp only [List.drop]
              simp (disch:=omega)[or_imp,forall_and]
              and_intros<;>try omega
              apply Z
              apply q_block_n
              apply q_then_n
              refine zk [6,12,13,14] ?_
              refine zr ⟨[16,91],[],[],[],[]⟩ fun _ _ Z=>?_
              refine vcL_split 2 fun _ Y=>?_
              simp (disch:=omega)[or_imp,forall_and]
              and_intros<;>try omega
              apply Y
              simp only [List.drop]
              refine vcL_step fun _ Y=>?_
              simp (disch:=omega)[or_imp,forall_and]
              refine zce (put5_fn x { (findD x.l id) with classes := (findD x.l id).classes ++ [name] } _ hx) ?_
              apply Y
              simp (disch:=omega)[or_imp,forall_and]
              and_intros<;>try omega
              apply Z
              apply awp_ret
              subst c16
              have e := setX_ok (name := name) (v := v) (num := num) c1 c2 c3 (.inr c5) (n := { (findD x.l id) with classes := (findD x.l id).classes ++ [name] }) (by simp [chN, c17])
              simp [endQ, e]
            ·try simp at c16
             apply awp_seq
             refine zk [3,6,12,13,14] ?_
             refine zr ⟨[16,91],[],[],[],[]⟩ fun _ _ Z=>?_
             refine vcL_split 3 fun _ Y=>?_
             simp (disch:=omega)[or_imp,forall_and]
             and_intros<;>try omega
             apply Y
             simp only [List.drop]
             refine vcL_step fun _ Y=>?_
             simp (disch:=omega)[or_imp,forall_and]
             refine zce (rhas_fn (findD x.l id).classes name _ (by omega)) ?_
             apply Y
             simp (disch:=omega)[or_imp,forall_and]
             and_intros<;>try omega
             apply Z
             refine zi ?_
             refine ⟨fun c18=>?_,fun c18=>?_⟩
             ·try simp at c18
              refine zr ⟨[16,91],[],[],[],[]⟩ fun _ _ Z=>?_
              simp (disch:=omega)[or_imp,forall_and]
              and_intros<;>try omega
              apply Z
              apply awp_ret
              apply q_then_r
              apply q_block_r
              apply q_then_r
              have e := setX_no (name := name) (v := v) (num := num) c1 c2 c3 (.inr c5) (by simp [chN, c6, c7, c8, c9, c13, c14, c16, c18])
              simp [endQ, e]
             ·try simp at c18
              apply awp_skip
              apply q_then_n
              refine zt ⟨[16,91],[],[],[],[]⟩ fun _ _ Z=>?_
              refine vcL_split 3 fun _ Y=>?_
              simp (disch:=omega)[or_imp,forall_and]
              and_intros<;>try omega
              apply Y
              simp only [List.drop]
              refine vcL_step fun _ Y=>?_
              simp (disch:=omega)[or_imp,forall_and]
              refine zce (rdrop_fn (findD x.l id).classes name _ (by omega)) ?_
              apply Y
              simp (disch:=omega)[or_imp,forall_and]
              and_intros<;>try omega
              apply Z
              apply q_block_n
              apply q_then_n
              refine zk [6,12,13,14] ?_
              refine zr ⟨[16,91],[],[],[],[]⟩ fun _ _ Z=>?_
              refine vcL_split 2 fun _ Y=>?_
              simp (disch:=omega)[or_imp,forall_and]
              and_intros<;>try omega
              apply Y
              simp only [List.drop]
              refine vcL_step fun _ Y=>?_
              simp (disch:=omega)[or_imp,forall_and]
              refine zce (put5_fn x { (findD x.l id) with classes := dropL (findD x.l id).classes name } _ hx) ?_
              apply Y
              simp (disch:=omega)[or_imp,forall_and]
              and_intros<;>try omega
              apply Z
              apply awp_ret
              have e := setX_ok (name := name) (v := v) (num := num) c1 c2 c3 (.inr c5) (n := { (findD x.l id) with classes := dropL (findD x.l id).classes name }) (by simp [chN, c6, c7, c8, c9, c13, c14, c16, c18])
              simp [endQ, e]
    ·try simp at g4
     simp (disch:=omega)[or_imp,forall_and,ga2]
     and_intros<;>try omega
     apply Z
     refine awp_cond (t := false) (by simp) (fun h => by cases h) (fun _ => ?_)
     apply awp_skip
     apply q_then_n
     apply awp_seq
     refine zk [1,3,4,5,6,12,13,14] ?_
     refine zr ⟨[16,91],[],[],[],[]⟩ fun _ _ Z=>?_
     simp (disch:=omega)[or_imp,forall_and]
     and_intros<;>try omega
     apply Z
     apply awp_block
     refine zr ⟨[16,91],[],[],[],[]⟩ fun _ _ Z=>?_
     simp (disch:=omega)[or_imp,forall_and]
     and_intros<;>try omega
     apply Z
     refine zi ?_
     refine ⟨fun c19=>?_,fun c19=>?_⟩
     ·try simp at c19
      omega
     ·try simp at c19
      refine zr ⟨[16,91],[],[],[],[]⟩ fun _ _ Z=>?_
      simp (disch:=omega)[or_imp,forall_and]
      and_intros<;>try omega
      apply Z
      refine zi ?_
      refine ⟨fun c20=>?_,fun c20=>?_⟩
      ·try simp at c20
       refine zk [4,6,12,13,14] ?_
       refine zt ⟨[16,91],[],[],[],[]⟩ fun _ _ Z=>?_
       simp (disch:=omega)[or_imp,forall_and]
       and_intros<;>try omega
       apply Z
       apply q_block_n
       apply q_then_n
       refine zr ⟨[16,91],[],[],[],[]⟩ fun _ _ Z=>?_
       refine vcL_split 2 fun _ Y=>?_
       simp (disch:=omega)[or_imp,forall_and]
       and_intros<;>try omega
       apply Y
       simp only [List.drop]
       refine vcL_step fun _ Y=>?_
       simp (disch:=omega)[or_imp,forall_and]
       refine zce (put5_fn x { (findD x.l id) with text := v } _ hx) ?_
       apply Y
       simp (disch:=omega)[or_imp,forall_and]
       and_intros<;>try omega
       apply Z
       apply awp_ret
       subst c20
       have e := setX_ok (name := name) (v := v) (num := num) c1 c2 c3 (.inl rfl) (n := { (findD x.l id) with text := v }) (by simp [chN])
       simp [endQ, e]
      ·try simp at c20
       exact absurd g4 c20
end Go.Proofs.YtpfmpeaekgdgnaaGreat


import Derived.Test.YtpfmpeaekgdgnaaGreatWkAr7
namespace Go.Proofs.YtpfmpeaekgdgnaaGreat
open Go Go.Vm
set_option maxRecDepth 20000
set_option linter.all false
set_option maxHeartbeats 8000000
def qU (n : ND) (kind : Int) (name v : ByteArray) (num : Int) : Option ND :=
 if kind = 0 then some { n with tag := name }
 else if kind = 1 then some { n with text := v }
 else if kind = 2 then some { n with attrs := eF nA n.attrs ⟨name, v⟩ }
 else if kind = 3 then (if kY nA n.attrs name = true then some { n with attrs := gW nA n.attrs name } else none)
 else if kind = 4 then some { n with styles := eF nP n.styles ⟨name, Bd num⟩ }
 else if kind = 5 then (if kY nP n.styles name = true then some { n with styles := gW nP n.styles name } else none)
 else if kind = 6 then (if qB name n.classes = true then none else some { n with classes := n.classes ++ [name] })
 else (if qB name n.classes = true then some { n with classes := jC n.classes name } else none)
def setX (x : RD) (kind id : Int) (name v : ByteArray) (num : Int) : RD × Int :=
 if dQ x.l id = false then (x, 11) else if id = 0 then (x, 1)
 else if ¬ (kind = 1 ↔ (aM x.l id).kind = 1) then (x, 14)
 else if ¬ kind = 1 ∧ fE name = false then (x, 2)
 else match qU (aM x.l id) kind name v num with
  | none => (x, 1)
  | some n => (⟨x.most, x.next, dC x.l n⟩, 0)
section
variable {x : RD} {kind id : Int} {name v : ByteArray} {num : Int}
theorem Jj (h1 : dQ x.l id = false) : setX x kind id name v num = (x, 11) := by unfold setX; rw [if_pos h1]
theorem Ug (h1 : dQ x.l id = true) (h2 : id = 0) : setX x kind id name v num = (x, 1) := by unfold setX; rw [if_neg (by rw [h1]; simp), if_pos h2]
theorem Ib (h1 : dQ x.l id = true) (h2 : ¬ id = 0) (h3 : ¬ (kind = 1 ↔ (aM x.l id).kind = 1)) : setX x kind id name v num = (x, 14) := by unfold setX; rw [if_neg (by rw [h1]; simp), if_neg h2, if_pos h3]
theorem Ua (h1 : dQ x.l id = true) (h2 : ¬ id = 0) (h3 : kind = 1 ↔ (aM x.l id).kind = 1) (h4 : ¬ kind = 1) (h5 : fE name = false) : setX x kind id name v num = (x, 2) := by
 unfold setX; rw [if_neg (by rw [h1]; simp), if_neg h2, if_neg (fun h => h h3), if_pos ⟨h4, h5⟩]
theorem jU {n : ND} (h1 : dQ x.l id = true) (h2 : ¬ id = 0) (h3 : kind = 1 ↔ (aM x.l id).kind = 1) (h5 : kind = 1 ∨ fE name = true) (h : qU (aM x.l id) kind name v num = some n) : setX x kind id name v num = (⟨x.most, x.next, dC x.l n⟩, 0) := by
 unfold setX; rw [if_neg (by rw [h1]; simp), if_neg h2, if_neg (fun h => h h3), if_neg (by rintro ⟨a, b⟩; rcases h5 with h5 | h5; exact a h5; rw [h5] at b; cases b), h]
theorem qW (h1 : dQ x.l id = true) (h2 : ¬ id = 0) (h3 : kind = 1 ↔ (aM x.l id).kind = 1) (h5 : kind = 1 ∨ fE name = true) (h : qU (aM x.l id) kind name v num = none) : setX x kind id name v num = (x, 1) := by
 unfold setX; rw [if_neg (by rw [h1]; simp), if_neg h2, if_neg (fun h => h h3), if_neg (by rintro ⟨a, b⟩; rcases h5 with h5 | h5; exact a h5; rw [h5] at b; cases b), h]
end
theorem Wz (x : RD) (kind id : Int) (name v : ByteArray) (num : Int) (σ : List (List D)) (hx : NB x.l) (hn : name.size ≤ 1000) (hsa : cC nA (aM x.l id).attrs) (hss : cC nP (aM x.l id).styles) : Ct Tryz.prog 51 [gV x, D.int kind, D.int id, D.str name, D.str v, D.int num] σ (fun r σ' => r = .tup [gV (setX x kind id name v num).1, D.int (setX x kind id name v num).2] ∧ σ' = σ) := by
 refine zf (rs:=[.cell 12 28,.tmp 13]) Tryz.func51 Tryz.ntmps51 Tryz.results51 ?_;simp only [aQ];have hfc := hx.fc id;have hfa := hx.fa id;have hfs := hx.fs id;refine zr ⟨[16,91],[],[],[],[]⟩ fun _ _ Z=>?_;simp (disch:=omega)[or_imp,forall_and];and_intros<;>(try omega);apply Z;refine zr ⟨[16,91],[],[],[],[]⟩ fun _ _ Z=>?_;refine aA 2 fun _ Y=>?_;simp (disch:=omega)[or_imp,forall_and];and_intros<;>(try omega);apply Y;simp only [List.drop];refine aG fun _ Y=>?_;simp (disch:=omega)[or_imp,forall_and];refine cO (fP x id _ hx) ?_;apply Y;simp (disch:=omega)[or_imp,forall_and];and_intros<;>(try omega);apply Z;apply aD;refine zr ⟨[16,91],[],[],[],[]⟩ fun _ _ Z=>?_;simp (disch:=omega)[or_imp,forall_and];and_intros<;>(try omega);apply Z;refine zi ?_;refine ⟨fun c1=>?_,fun c1=>?_⟩
 ·try simp at c1
  refine zk [1,2,3,4,5,6,12,13,14] ?_;refine zr ⟨[16,91],[],[],[],[]⟩ fun _ _ Z=>?_;simp (disch:=omega)[or_imp,forall_and];and_intros<;>(try omega);apply Z;apply aE;apply aL;have e := Jj (kind := kind) (name := name) (v := v) (num := num) c1;simp [aN, e]
 ·try simp at c1
  apply aH;apply aB;apply aD;refine zk [1,2,3,4,5,6,12,13,14] ?_;refine zr ⟨[16,91],[],[],[],[]⟩ fun _ _ Z=>?_;simp (disch:=omega)[or_imp,forall_and];and_intros<;>(try omega);apply Z;refine zi ?_;refine ⟨fun c2=>?_,fun c2=>?_⟩
  ·try simp at c2
   refine zr ⟨[16,91],[],[],[],[]⟩ fun _ _ Z=>?_;simp (disch:=omega)[or_imp,forall_and];and_intros<;>(try omega);apply Z;apply aE;apply aL;have e := Ug (kind := kind) (name := name) (v := v) (num := num) c1 c2;simp [aN, e]
  ·try simp at c2
   apply aH;apply aB;apply aD;refine zr ⟨[16,91],[],[],[],[]⟩ fun _ _ Z=>?_;simp (disch:=omega)[or_imp,forall_and];and_intros<;>(try omega);apply Z;refine zi ?_;refine ⟨fun c3=>?_,fun c3=>?_⟩
   ·try simp at c3
    refine zk [1,3,4,5,6,12,13,14] ?_;refine zr ⟨[16,91],[],[],[],[]⟩ fun _ _ Z=>?_;simp (disch:=omega)[or_imp,forall_and];and_intros<;>(try omega);apply Z;apply aE;apply aL;have e := Ib (name := name) (v := v) (num := num) c1 c2 c3;simp [aN, e]
   ·try simp at c3
    apply aH;apply aB;apply aD;refine zk [1,3,4,5,6,12,13,14] ?_;refine lH ⟨[16,91],[],[],[],[]⟩ fun all hall _ Z=>?_;have ga2 : aS all 2 = some 42 := hall 2;refine aA 3 fun _ Y=>?_;simp (disch:=omega)[or_imp,forall_and,ga2];and_intros<;>(try omega);apply Y;simp only [List.drop];refine aX 42 (by simp <;> rfl) ?_;refine ⟨fun g4 => ?_, fun g4 => ?_⟩
    ·try simp at g4
     refine aA 1 fun _ Y=>?_;simp (disch:=omega)[or_imp,forall_and,ga2];and_intros<;>(try omega);apply Y;simp only [List.drop];refine zg ga2 fun _ Y=>?_;simp (disch:=omega)[or_imp,forall_and,ga2];refine cO (Bi name _ (by omega)) ?_;apply Y;simp (disch:=omega)[or_imp,forall_and,ga2];and_intros<;>(try omega);apply Z;refine zi ?_;refine ⟨fun c5=>?_,fun c5=>?_⟩
     ·try simp at c5
      refine zk [1,3,4,5,6,12,13,14] ?_;refine zr ⟨[16,91],[],[],[],[]⟩ fun _ _ Z=>?_;simp (disch:=omega)[or_imp,forall_and];and_intros<;>(try omega);apply Z;apply aE;apply aL;have e := Ua (v := v) (num := num) c1 c2 c3 g4 c5;simp [aN, e]
     ·try simp at c5
      apply aH;apply aB;apply aD;refine zk [1,3,4,5,6,12,13,14] ?_;refine zr ⟨[16,91],[],[],[],[]⟩ fun _ _ Z=>?_;simp (disch:=omega)[or_imp,forall_and];and_intros<;>(try omega);apply Z;apply aK;refine zr ⟨[16,91],[],[],[],[]⟩ fun _ _ Z=>?_;simp (disch:=omega)[or_imp,forall_and];and_intros<;>(try omega);apply Z;refine zi ?_;refine ⟨fun c6=>?_,fun c6=>?_⟩
      ·try simp at c6
       refine zt ⟨[16,91],[],[],[],[]⟩ fun _ _ Z=>?_;simp (disch:=omega)[or_imp,forall_and];and_intros<;>(try omega);apply Z;apply aP;apply aB;refine zk [6,12,13,14] ?_;refine zr ⟨[16,91],[],[],[],[]⟩ fun _ _ Z=>?_;refine aA 2 fun _ Y=>?_;simp (disch:=omega)[or_imp,forall_and];and_intros<;>(try omega);apply Y;simp only [List.drop];refine aG fun _ Y=>?_;simp (disch:=omega)[or_imp,forall_and];refine cO (iA x { (aM x.l id) with tag := name } _ hx) ?_;apply Y;simp (disch:=omega)[or_imp,forall_and];and_intros<;>(try omega);apply Z;apply aE;subst c6;have e := jU (name := name) (v := v) (num := num) c1 c2 c3 (.inr c5) (n := { (aM x.l id) with tag := name }) (by simp [qU]);simp [aN, e]
      ·try simp at c6
       refine zr ⟨[16,91],[],[],[],[]⟩ fun _ _ Z=>?_;simp (disch:=omega)[or_imp,forall_and];and_intros<;>(try omega);apply Z;refine zi ?_;refine ⟨fun c7=>?_,fun c7=>?_⟩
       ·try simp at c7
        exact absurd c7 g4
       ·try simp at c7
        refine zk [3,4,5,6,12,13,14,48] ?_;refine zr ⟨[16,91],[],[],[],[]⟩ fun _ _ Z=>?_;simp (disch:=omega)[or_imp,forall_and];and_intros<;>(try omega);apply Z;refine zi ?_;refine ⟨fun c8=>?_,fun c8=>?_⟩
        ·try simp at c8
         refine zt ⟨[16,91],[],[],[],[]⟩ fun _ _ Z=>?_;refine aA 5 fun _ Y=>?_;simp (disch:=omega)[or_imp,forall_and];and_intros<;>(try omega);apply Y;simp only [List.drop];refine aG fun _ Y=>?_;simp (disch:=omega)[or_imp,forall_and];refine cO (Bs (aM x.l id).attrs ⟨name, v⟩ _ (by omega) hsa) ?_;apply Y;simp (disch:=omega)[or_imp,forall_and];and_intros<;>(try omega);apply Z;apply aP;apply aB;refine zk [6,12,13,14] ?_;refine zr ⟨[16,91],[],[],[],[]⟩ fun _ _ Z=>?_;refine aA 2 fun _ Y=>?_;simp (disch:=omega)[or_imp,forall_and];and_intros<;>(try omega);apply Y;simp only [List.drop];refine aG fun _ Y=>?_;simp (disch:=omega)[or_imp,forall_and];refine cO (iA x { (aM x.l id) with attrs := eF nA (aM x.l id).attrs ⟨name, v⟩ } _ hx) ?_;apply Y;simp (disch:=omega)[or_imp,forall_and];and_intros<;>(try omega);apply Z;apply aE;subst c8;have e := jU (name := name) (v := v) (num := num) c1 c2 c3 (.inr c5) (n := { (aM x.l id) with attrs := eF nA (aM x.l id).attrs ⟨name, v⟩ }) (by simp [qU]);simp [aN, e]
        ·try simp at c8
         refine zr ⟨[16,91],[],[],[],[]⟩ fun _ _ Z=>?_;simp (disch:=omega)[or_imp,forall_and];and_intros<;>(try omega);apply Z;refine zi ?_;refine ⟨fun c9=>?_,fun c9=>?_⟩
         ·try simp at c9
          refine zk [3,6,12,13,14] ?_;refine zr ⟨[16,91],[],[],[],[]⟩ fun _ _ Z=>?_;simp (disch:=omega)[or_imp,forall_and];and_intros<;>(try omega);apply Z;apply aD;refine zr ⟨[16,91],[],[],[],[]⟩ fun _ _ Z=>?_;simp (disch:=omega)[or_imp,forall_and];and_intros<;>(try omega);apply Z;apply aK;refine zk [3,6,12,13,14,16,81,82,83] ?_;refine bQ (fun (k : Nat) => [(83, .d (.v (.int .i64 (k : Int)))), (16, .d (.sl true ((gW nA ((aM x.l id).attrs.take k) name).map cM)))]) [16, 18, 83, 84, 85, 86, 87, 88, 89, 90, 91, 92, 93, 94, 95] (fun (k : Nat) => k ≤ (aM x.l id).attrs.length) (fun (k : Nat) => (aM x.l id).attrs.length - k) (0) (by simp <;> rfl) ?_ ?_ ?_
          ·simp [gW]
          ·simp
          rintro k hk;simp only [List.cons_append, List.nil_append];have hdl := rG nA ((aM x.l id).attrs.take k) name;simp only [List.length_take] at hdl;refine zr ⟨[16,91],[],[],[],[]⟩ fun _ _ Z=>?_;simp (disch:=omega)[or_imp,forall_and];and_intros<;>(try omega);apply Z;apply aD;refine zi ?_;refine ⟨fun c10=>?_,fun c10=>?_⟩
          ·try simp at c10
           apply aH;apply aB;apply aD;apply aK;refine zr ⟨[16,91],[],[],[],[]⟩ fun _ _ Z=>?_;simp (disch:=omega)[or_imp,forall_and];and_intros<;>(try omega);apply Z;refine zk [3,6,12,13,14,16,18,81,82,83] ?_;refine zr ⟨[16,91],[],[],[],[]⟩ fun _ _ Z=>?_;simp (disch:=omega)[or_imp,forall_and];and_intros<;>(try omega);apply Z;refine zi ?_;refine ⟨fun c11=>?_,fun c11=>?_⟩
           ·try simp at c11
            refine zk [3,6,12,13,14,16,18,81,82,83] ?_;refine zt ⟨[16,91],[],[],[],[]⟩ fun _ _ Z=>?_;simp (disch:=omega)[or_imp,forall_and];and_intros<;>(try omega);apply Z;apply aP;apply aB;refine zk [3,6,12,13,14,16,81,82,83] ?_;refine zt ⟨[16,91],[],[],[],[]⟩ fun _ _ Z=>?_;simp (disch:=omega)[or_imp,forall_and];and_intros<;>(try omega);apply Z;refine bA (k + 1) ?_ ?_ (aW rfl ?_ (by simp) (by simp))
            ·omega
            ·try dsimp only
             omega
            ·simp (disch:=omega)[or_imp,forall_and,oF, *]
           ·try simp at c11
            apply aH;apply aP;apply aB;refine zk [3,6,12,13,14,16,81,82,83] ?_;refine zt ⟨[16,91],[],[],[],[]⟩ fun _ _ Z=>?_;simp (disch:=omega)[or_imp,forall_and];and_intros<;>(try omega);apply Z;refine bA (k + 1) ?_ ?_ (aW rfl ?_ (by simp) (by simp))
            ·omega
            ·try dsimp only
             omega
            ·simp (disch:=omega)[or_imp,forall_and,oF, *]
          ·try simp at c10
           obtain rfl : k = (aM x.l id).attrs.length := by omega
           rw [List.take_length] at hdl;simp only [List.take_length];apply bK;apply bJ;apply bL;apply aY;apply aB;apply aD;refine zr ⟨[16,91],[],[],[],[]⟩ fun _ _ Z=>?_;simp (disch:=omega)[or_imp,forall_and];and_intros<;>(try omega);apply Z;refine zi ?_;refine ⟨fun c12=>?_,fun c12=>?_⟩
           ·try simp at c12
            have hh : kY nA (aM x.l id).attrs name = false := (uJ nA name).1 (by omega);refine zk [6,12,13,14,16] ?_;refine zr ⟨[16,91],[],[],[],[]⟩ fun _ _ Z=>?_;simp (disch:=omega)[or_imp,forall_and];and_intros<;>(try omega);apply Z;apply aE;apply aL;apply aV;apply aL;subst c9;have e := qW (name := name) (v := v) (num := num) c1 c2 c3 (.inr c5) (by simp [qU, hh]);simp [aN, e]
           ·try simp at c12
            have hh : kY nA (aM x.l id).attrs name = true := by
              cases e : kY nA (aM x.l id).attrs name with
              | true => rfl
              | false => have := (uJ nA name).2 e; omega
            apply aH;apply aB;refine zk [6,12,13,14,16] ?_;refine zt ⟨[16,91],[],[],[],[]⟩ fun _ _ Z=>?_;simp (disch:=omega)[or_imp,forall_and];and_intros<;>(try omega);apply Z;apply aP;apply aB;refine zr ⟨[16,91],[],[],[],[]⟩ fun _ _ Z=>?_;refine aA 2 fun _ Y=>?_;simp (disch:=omega)[or_imp,forall_and];and_intros<;>(try omega);apply Y;simp only [List.drop];refine aG fun _ Y=>?_;simp (disch:=omega)[or_imp,forall_and];refine cO (iA x { (aM x.l id) with attrs := gW nA (aM x.l id).attrs name } _ hx) ?_;apply Y;simp (disch:=omega)[or_imp,forall_and];and_intros<;>(try omega);apply Z;apply aE;subst c9;have e := jU (name := name) (v := v) (num := num) c1 c2 c3 (.inr c5) (n := { (aM x.l id) with attrs := gW nA (aM x.l id).attrs name }) (by simp [qU, hh]);simp [aN, e]
         ·try simp at c9
          refine zk [3,5,6,12,13,14,48] ?_;refine zr ⟨[16,91],[],[],[],[]⟩ fun _ _ Z=>?_;simp (disch:=omega)[or_imp,forall_and];and_intros<;>(try omega);apply Z;refine zi ?_;refine ⟨fun c13=>?_,fun c13=>?_⟩
          ·try simp at c13
           refine zk [3,5,6,12,13,14] ?_;refine zt ⟨[16,91],[],[],[],[]⟩ fun _ _ Z=>?_;refine aA 6 fun _ Y=>?_;simp (disch:=omega)[or_imp,forall_and];and_intros<;>(try omega);apply Y;simp only [List.drop];refine aG fun _ Y=>?_;simp (disch:=omega)[or_imp,forall_and];refine cO (Wr num _) ?_;rw [aB5];apply Y;refine aA 3 fun _ Y=>?_;simp (disch:=omega)[or_imp,forall_and];and_intros<;>(try omega);apply Y;simp only [List.drop];refine aG fun _ Y=>?_;simp (disch:=omega)[or_imp,forall_and];refine cO (Pq ((aM x.l id).styles ++ [⟨name, Bd num⟩]) _ (by simp; omega)) ?_;rw [nE, nV nP hss];apply Y;simp (disch:=omega)[or_imp,forall_and];and_intros<;>(try omega);apply Z;apply aP;apply aB;refine zk [6,12,13,14] ?_;refine zr ⟨[16,91],[],[],[],[]⟩ fun _ _ Z=>?_;refine aA 2 fun _ Y=>?_;simp (disch:=omega)[or_imp,forall_and];and_intros<;>(try omega);apply Y;simp only [List.drop];refine aG fun _ Y=>?_;simp (disch:=omega)[or_imp,forall_and];refine cO (iA x { (aM x.l id) with styles := eF nP (aM x.l id).styles ⟨name, Bd num⟩ } _ hx) ?_;apply Y;simp (disch:=omega)[or_imp,forall_and];and_intros<;>(try omega);apply Z;apply aE;subst c13;have e := jU (name := name) (v := v) (num := num) c1 c2 c3 (.inr c5) (n := { (aM x.l id) with styles := eF nP (aM x.l id).styles ⟨name, Bd num⟩ }) (by simp [qU]);simp [aN, e]
          ·try simp at c13
           refine zr ⟨[16,91],[],[],[],[]⟩ fun _ _ Z=>?_;simp (disch:=omega)[or_imp,forall_and];and_intros<;>(try omega);apply Z;refine zi ?_;refine ⟨fun c14=>?_,fun c14=>?_⟩
           ·try simp at c14
            apply aD;refine zr ⟨[16,91],[],[],[],[]⟩ fun _ _ Z=>?_;refine aA 3 fun _ Y=>?_;simp (disch:=omega)[or_imp,forall_and];and_intros<;>(try omega);apply Y;simp only [List.drop];refine aG fun _ Y=>?_;simp (disch:=omega)[or_imp,forall_and];refine Vi (Sd (aM x.l id).styles name _ (by omega)) ?_;rintro _ _ ⟨⟨gv, hr9⟩, hs9⟩;subst hr9;replace hs9 := hs9.symm;subst hs9;apply Y;simp (disch:=omega)[or_imp,forall_and];and_intros<;>(try omega);apply Z;refine zk [3,6,12,13,14,20] ?_;refine zr ⟨[16,91],[],[],[],[]⟩ fun _ _ Z=>?_;simp (disch:=omega)[or_imp,forall_and];and_intros<;>(try omega);apply Z;refine zi ?_;refine ⟨fun c15=>?_,fun c15=>?_⟩
            ·try simp at c15
             refine zr ⟨[16,91],[],[],[],[]⟩ fun _ _ Z=>?_;simp (disch:=omega)[or_imp,forall_and];and_intros<;>(try omega);apply Z;apply aE;apply aL;apply aV;apply aL;subst c14;have e := qW (name := name) (v := v) (num := num) c1 c2 c3 (.inr c5) (by simp [qU, c15]);simp [aN, e]
            ·try simp at c15
             apply aH;apply aB;refine zt ⟨[16,91],[],[],[],[]⟩ fun _ _ Z=>?_;refine aA 3 fun _ Y=>?_;simp (disch:=omega)[or_imp,forall_and];and_intros<;>(try omega);apply Y;simp only [List.drop];refine aG fun _ Y=>?_;simp (disch:=omega)[or_imp,forall_and];refine cO (Mg (aM x.l id).styles name _ (by omega) hss) ?_;apply Y;simp (disch:=omega)[or_imp,forall_and];and_intros<;>(try omega);apply Z;apply aP;apply aB;refine zk [6,12,13,14] ?_;refine zr ⟨[16,91],[],[],[],[]⟩ fun _ _ Z=>?_;refine aA 2 fun _ Y=>?_;simp (disch:=omega)[or_imp,forall_and];and_intros<;>(try omega);apply Y;simp only [List.drop];refine aG fun _ Y=>?_;simp (disch:=omega)[or_imp,forall_and];refine cO (iA x { (aM x.l id) with styles := gW nP (aM x.l id).styles name } _ hx) ?_;apply Y;simp (disch:=omega)[or_imp,forall_and];and_intros<;>(try omega);apply Z;apply aE;subst c14;have e := jU (name := name) (v := v) (num := num) c1 c2 c3 (.inr c5) (n := { (aM x.l id) with styles := gW nP (aM x.l id).styles name }) (by simp [qU, c15]);simp [aN, e]
           ·try simp at c14
            refine zr ⟨[16,91],[],[],[],[]⟩ fun _ _ Z=>?_;simp (disch:=omega)[or_imp,forall_and];and_intros<;>(try omega);apply Z;refine zi ?_;refine ⟨fun c16=>?_,fun c16=>?_⟩
            ·try simp at c16
             apply aD;refine zk [3,6,12,13,14] ?_;refine zr ⟨[16,91],[],[],[],[]⟩ fun _ _ Z=>?_;refine aA 3 fun _ Y=>?_;simp (disch:=omega)[or_imp,forall_and];and_intros<;>(try omega);apply Y;simp only [List.drop];refine aG fun _ Y=>?_;simp (disch:=omega)[or_imp,forall_and];refine cO (It (aM x.l id).classes name _ (by omega)) ?_;apply Y;simp only [dF];apply Z;refine zi ?_;refine ⟨fun c17=>?_,fun c17=>?_⟩
             ·try simp at c17
              refine zr ⟨[16,91],[],[],[],[]⟩ fun _ _ Z=>?_;simp (disch:=omega)[or_imp,forall_and];and_intros<;>(try omega);apply Z;apply aE;apply aL;apply aV;apply aL;subst c16;have e := qW (name := name) (v := v) (num := num) c1 c2 c3 (.inr c5) (by simp [qU, c17]);simp [aN, e]
             ·try simp at c17
              apply aH;apply aB;refine zt ⟨[16,91],[],[],[],[]⟩ fun _ _ Z=>?_;refine aA 8 fun _ Y=>?_;simp (disch:=omega)[or_imp,forall_and];and_intros<;>(try omega);apply Y;simp only [List.drop];simp (disch:=omega)[or_imp,forall_and];and_intros<;>(try omega);apply Z;apply aP;apply aB;refine zk [6,12,13,14] ?_;refine zr ⟨[16,91],[],[],[],[]⟩ fun _ _ Z=>?_;refine aA 2 fun _ Y=>?_;simp (disch:=omega)[or_imp,forall_and];and_intros<;>(try omega);apply Y;simp only [List.drop];refine aG fun _ Y=>?_;simp (disch:=omega)[or_imp,forall_and];refine cO (iA x { (aM x.l id) with classes := (aM x.l id).classes ++ [name] } _ hx) ?_;apply Y;simp (disch:=omega)[or_imp,forall_and];and_intros<;>(try omega);apply Z;apply aE;subst c16;have e := jU (name := name) (v := v) (num := num) c1 c2 c3 (.inr c5) (n := { (aM x.l id) with classes := (aM x.l id).classes ++ [name] }) (by simp [qU, c17]);simp [aN, e]
            ·try simp at c16
             apply aD;refine zk [3,6,12,13,14] ?_;refine zr ⟨[16,91],[],[],[],[]⟩ fun _ _ Z=>?_;refine aA 3 fun _ Y=>?_;simp (disch:=omega)[or_imp,forall_and];and_intros<;>(try omega);apply Y;simp only [List.drop];refine aG fun _ Y=>?_;simp (disch:=omega)[or_imp,forall_and];refine cO (It (aM x.l id).classes name _ (by omega)) ?_;apply Y;simp (disch:=omega)[or_imp,forall_and];and_intros<;>(try omega);apply Z;refine zi ?_;refine ⟨fun c18=>?_,fun c18=>?_⟩
             ·try simp at c18
              refine zr ⟨[16,91],[],[],[],[]⟩ fun _ _ Z=>?_;simp (disch:=omega)[or_imp,forall_and];and_intros<;>(try omega);apply Z;apply aE;apply aL;apply aV;apply aL;have e := qW (name := name) (v := v) (num := num) c1 c2 c3 (.inr c5) (by simp [qU, c6, c7, c8, c9, c13, c14, c16, c18]);simp [aN, e]
             ·try simp at c18
              apply aH;apply aB;refine zt ⟨[16,91],[],[],[],[]⟩ fun _ _ Z=>?_;refine aA 3 fun _ Y=>?_;simp (disch:=omega)[or_imp,forall_and];and_intros<;>(try omega);apply Y;simp only [List.drop];refine aG fun _ Y=>?_;simp (disch:=omega)[or_imp,forall_and];refine cO (Pb (aM x.l id).classes name _ (by omega)) ?_;apply Y;simp (disch:=omega)[or_imp,forall_and];and_intros<;>(try omega);apply Z;apply aP;apply aB;refine zk [6,12,13,14] ?_;refine zr ⟨[16,91],[],[],[],[]⟩ fun _ _ Z=>?_;refine aA 2 fun _ Y=>?_;simp (disch:=omega)[or_imp,forall_and];and_intros<;>(try omega);apply Y;simp only [List.drop];refine aG fun _ Y=>?_;simp (disch:=omega)[or_imp,forall_and];refine cO (iA x { (aM x.l id) with classes := jC (aM x.l id).classes name } _ hx) ?_;apply Y;simp (disch:=omega)[or_imp,forall_and];and_intros<;>(try omega);apply Z;apply aE;have e := jU (name := name) (v := v) (num := num) c1 c2 c3 (.inr c5) (n := { (aM x.l id) with classes := jC (aM x.l id).classes name }) (by simp [qU, c6, c7, c8, c9, c13, c14, c16, c18]);simp [aN, e]
    ·try simp at g4
     simp (disch:=omega)[or_imp,forall_and,ga2];and_intros<;>(try omega);apply Z;refine bR (t := false) (by simp) (fun h => by cases h) (fun _ => ?_);apply aH;apply aB;apply aD;refine zk [1,3,4,5,6,12,13,14] ?_;refine zr ⟨[16,91],[],[],[],[]⟩ fun _ _ Z=>?_;simp (disch:=omega)[or_imp,forall_and];and_intros<;>(try omega);apply Z;apply aK;refine zr ⟨[16,91],[],[],[],[]⟩ fun _ _ Z=>?_;simp (disch:=omega)[or_imp,forall_and];and_intros<;>(try omega);apply Z;refine zi ?_;refine ⟨fun c19=>?_,fun c19=>?_⟩
     ·try simp at c19
      omega
     ·try simp at c19
      refine zr ⟨[16,91],[],[],[],[]⟩ fun _ _ Z=>?_;simp (disch:=omega)[or_imp,forall_and];and_intros<;>(try omega);apply Z;refine zi ?_;refine ⟨fun c20=>?_,fun c20=>?_⟩
      ·try simp at c20
       refine zk [4,6,12,13,14] ?_;refine zt ⟨[16,91],[],[],[],[]⟩ fun _ _ Z=>?_;simp (disch:=omega)[or_imp,forall_and];and_intros<;>(try omega);apply Z;apply aP;apply aB;refine zr ⟨[16,91],[],[],[],[]⟩ fun _ _ Z=>?_;refine aA 2 fun _ Y=>?_;simp (disch:=omega)[or_imp,forall_and];and_intros<;>(try omega);apply Y;simp only [List.drop];refine aG fun _ Y=>?_;simp (disch:=omega)[or_imp,forall_and];refine cO (iA x { (aM x.l id) with text := v } _ hx) ?_;apply Y;simp (disch:=omega)[or_imp,forall_and];and_intros<;>(try omega);apply Z;apply aE;subst c20;have e := jU (name := name) (v := v) (num := num) c1 c2 c3 (.inl rfl) (n := { (aM x.l id) with text := v }) (by simp [qU]);simp [aN, e]
      ·try simp at c20
       exact absurd g4 c20
end Go.Proofs.YtpfmpeaekgdgnaaGreat


import Derived.Test.YtpfmpeaekgdgnaaGreatWkAr7
namespace Go.Proofs.YtpfmpeaekgdgnaaGreat
open Go Go.Vm
set_option maxRecDepth 20000
set_option linter.all false
set_option maxHeartbeats 8000000
def qZ (n : ND) (kind : Int) (name v : ByteArray) (num : Int) : Option ND :=
 if kind = 0 then some { n with tag := name }
 else if kind = 1 then some { n with text := v }
 else if kind = 2 then some { n with attrs := eF nA n.attrs ⟨name, v⟩ }
 else if kind = 3 then (if lC nA n.attrs name = true then some { n with attrs := gZ nA n.attrs name } else none)
 else if kind = 4 then some { n with styles := eF nP n.styles ⟨name, Ce num⟩ }
 else if kind = 5 then (if lC nP n.styles name = true then some { n with styles := gZ nP n.styles name } else none)
 else if kind = 6 then (if qN name n.classes = true then none else some { n with classes := n.classes ++ [name] })
 else (if qN name n.classes = true then some { n with classes := jW n.classes name } else none)
def setX (x : RD) (kind id : Int) (name v : ByteArray) (num : Int) : RD × Int :=
 if dT x.l id = false then (x, 11) else if id = 0 then (x, 1)
 else if ¬ (kind = 1 ↔ (aL x.l id).kind = 1) then (x, 14)
 else if ¬ kind = 1 ∧ fL name = false then (x, 2)
 else match qZ (aL x.l id) kind name v num with
  | none => (x, 1)
  | some n => (⟨x.most, x.next, dG x.l n⟩, 0)
section
variable {x : RD} {kind id : Int} {name v : ByteArray} {num : Int}
theorem Ld (h1 : dT x.l id = false) : setX x kind id name v num = (x, 11) := by unfold setX; rw [if_pos h1]
theorem Ry (h1 : dT x.l id = true) (h2 : id = 0) : setX x kind id name v num = (x, 1) := by unfold setX; rw [if_neg (by rw [h1]; simp), if_pos h2]
theorem Kx (h1 : dT x.l id = true) (h2 : ¬ id = 0) (h3 : ¬ (kind = 1 ↔ (aL x.l id).kind = 1)) : setX x kind id name v num = (x, 14) := by unfold setX; rw [if_neg (by rw [h1]; simp), if_neg h2, if_pos h3]
theorem Ss (h1 : dT x.l id = true) (h2 : ¬ id = 0) (h3 : kind = 1 ↔ (aL x.l id).kind = 1) (h4 : ¬ kind = 1) (h5 : fL name = false) : setX x kind id name v num = (x, 2) := by
 unfold setX; rw [if_neg (by rw [h1]; simp), if_neg h2, if_neg (fun h => h h3), if_pos ⟨h4, h5⟩]
theorem kF {n : ND} (h1 : dT x.l id = true) (h2 : ¬ id = 0) (h3 : kind = 1 ↔ (aL x.l id).kind = 1) (h5 : kind = 1 ∨ fL name = true) (h : qZ (aL x.l id) kind name v num = some n) : setX x kind id name v num = (⟨x.most, x.next, dG x.l n⟩, 0) := by
 unfold setX; rw [if_neg (by rw [h1]; simp), if_neg h2, if_neg (fun h => h h3), if_neg (by rintro ⟨a, b⟩; rcases h5 with h5 | h5; exact a h5; rw [h5] at b; cases b), h]
theorem qS (h1 : dT x.l id = true) (h2 : ¬ id = 0) (h3 : kind = 1 ↔ (aL x.l id).kind = 1) (h5 : kind = 1 ∨ fL name = true) (h : qZ (aL x.l id) kind name v num = none) : setX x kind id name v num = (x, 1) := by
 unfold setX; rw [if_neg (by rw [h1]; simp), if_neg h2, if_neg (fun h => h h3), if_neg (by rintro ⟨a, b⟩; rcases h5 with h5 | h5; exact a h5; rw [h5] at b; cases b), h]
end
theorem Zb (x : RD) (kind id : Int) (name v : ByteArray) (num : Int) (σ : List (List D)) (hx : NB x.l) (hn : name.size ≤ 1000) (hsa : cJ nA (aL x.l id).attrs) (hss : cJ nP (aL x.l id).styles) : Ct Tryz.prog 51 [fQ x, D.int kind, D.int id, D.str name, D.str v, D.int num] σ (fun r σ' => r = .tup [fQ (setX x kind id name v num).1, D.int (setX x kind id name v num).2] ∧ σ' = σ) := by
 refine zf (rs:=[.cell 12 28,.tmp 13]) Tryz.func51 Tryz.ntmps51 Tryz.results51 ?_;simp only [aN];have hfc := hx.fc id;have hfa := hx.fa id;have hfs := hx.fs id;refine zr ⟨[16,91],[],[],[],[]⟩ fun _ _ Z=>?_;simp (disch:=omega)[or_imp,forall_and];and_intros<;>(try omega);apply Z;refine zr ⟨[16,91],[],[],[],[]⟩ fun _ _ Z=>?_;refine aA 2 fun _ Y=>?_;simp (disch:=omega)[or_imp,forall_and];and_intros<;>(try omega);apply Y;simp only [List.drop];refine aD fun _ Y=>?_;simp (disch:=omega)[or_imp,forall_and];refine bY (iD x id _ hx) ?_;apply Y;simp (disch:=omega)[or_imp,forall_and];and_intros<;>(try omega);apply Z;apply aE;refine zr ⟨[16,91],[],[],[],[]⟩ fun _ _ Z=>?_;simp (disch:=omega)[or_imp,forall_and];and_intros<;>(try omega);apply Z;refine zi ?_;refine ⟨fun c1=>?_,fun c1=>?_⟩
 ·try simp at c1
  refine zk [1,2,3,4,5,6,12,13,14] ?_;refine zr ⟨[16,91],[],[],[],[]⟩ fun _ _ Z=>?_;simp (disch:=omega)[or_imp,forall_and];and_intros<;>(try omega);apply Z;apply aC;apply aH;have e := Ld (kind := kind) (name := name) (v := v) (num := num) c1;simp [aK, e]
 ·try simp at c1
  apply aG;apply aB;apply aE;refine zk [1,2,3,4,5,6,12,13,14] ?_;refine zr ⟨[16,91],[],[],[],[]⟩ fun _ _ Z=>?_;simp (disch:=omega)[or_imp,forall_and];and_intros<;>(try omega);apply Z;refine zi ?_;refine ⟨fun c2=>?_,fun c2=>?_⟩
  ·try simp at c2
   refine zr ⟨[16,91],[],[],[],[]⟩ fun _ _ Z=>?_;simp (disch:=omega)[or_imp,forall_and];and_intros<;>(try omega);apply Z;apply aC;apply aH;have e := Ry (kind := kind) (name := name) (v := v) (num := num) c1 c2;simp [aK, e]
  ·try simp at c2
   apply aG;apply aB;apply aE;refine zr ⟨[16,91],[],[],[],[]⟩ fun _ _ Z=>?_;simp (disch:=omega)[or_imp,forall_and];and_intros<;>(try omega);apply Z;refine zi ?_;refine ⟨fun c3=>?_,fun c3=>?_⟩
   ·try simp at c3
    refine zk [1,3,4,5,6,12,13,14] ?_;refine zr ⟨[16,91],[],[],[],[]⟩ fun _ _ Z=>?_;simp (disch:=omega)[or_imp,forall_and];and_intros<;>(try omega);apply Z;apply aC;apply aH;have e := Kx (name := name) (v := v) (num := num) c1 c2 c3;simp [aK, e]
   ·try simp at c3
    apply aG;apply aB;apply aE;refine zk [1,3,4,5,6,12,13,14] ?_;refine oE ⟨[16,91],[],[],[],[]⟩ fun all hall _ Z=>?_;have ga2 : aT all 2 = some 42 := hall 2;refine aA 3 fun _ Y=>?_;simp (disch:=omega)[or_imp,forall_and,ga2];and_intros<;>(try omega);apply Y;simp only [List.drop];refine aX 42 (by simp <;> rfl) ?_;refine ⟨fun g4 => ?_, fun g4 => ?_⟩
    ·try simp at g4
     refine aA 1 fun _ Y=>?_;simp (disch:=omega)[or_imp,forall_and,ga2];and_intros<;>(try omega);apply Y;simp only [List.drop];refine zg ga2 fun _ Y=>?_;simp (disch:=omega)[or_imp,forall_and,ga2];refine bY (Di name _ (by omega)) ?_;apply Y;simp (disch:=omega)[or_imp,forall_and,ga2];and_intros<;>(try omega);apply Z;refine zi ?_;refine ⟨fun c5=>?_,fun c5=>?_⟩
     ·try simp at c5
      refine zk [1,3,4,5,6,12,13,14] ?_;refine zr ⟨[16,91],[],[],[],[]⟩ fun _ _ Z=>?_;simp (disch:=omega)[or_imp,forall_and];and_intros<;>(try omega);apply Z;apply aC;apply aH;have e := Ss (v := v) (num := num) c1 c2 c3 g4 c5;simp [aK, e]
     ·try simp at c5
      apply aG;apply aB;apply aE;refine zk [1,3,4,5,6,12,13,14] ?_;refine zr ⟨[16,91],[],[],[],[]⟩ fun _ _ Z=>?_;simp (disch:=omega)[or_imp,forall_and];and_intros<;>(try omega);apply Z;apply aM;refine zr ⟨[16,91],[],[],[],[]⟩ fun _ _ Z=>?_;simp (disch:=omega)[or_imp,forall_and];and_intros<;>(try omega);apply Z;refine zi ?_;refine ⟨fun c6=>?_,fun c6=>?_⟩
      ·try simp at c6
       refine zt ⟨[16,91],[],[],[],[]⟩ fun _ _ Z=>?_;simp (disch:=omega)[or_imp,forall_and];and_intros<;>(try omega);apply Z;apply aQ;apply aB;refine zk [6,12,13,14] ?_;refine zr ⟨[16,91],[],[],[],[]⟩ fun _ _ Z=>?_;refine aA 2 fun _ Y=>?_;simp (disch:=omega)[or_imp,forall_and];and_intros<;>(try omega);apply Y;simp only [List.drop];refine aD fun _ Y=>?_;simp (disch:=omega)[or_imp,forall_and];refine bY (iC x { (aL x.l id) with tag := name } _ hx) ?_;apply Y;simp (disch:=omega)[or_imp,forall_and];and_intros<;>(try omega);apply Z;apply aC;subst c6;have e := kF (name := name) (v := v) (num := num) c1 c2 c3 (.inr c5) (n := { (aL x.l id) with tag := name }) (by simp [qZ]);simp [aK, e]
      ·try simp at c6
       refine zr ⟨[16,91],[],[],[],[]⟩ fun _ _ Z=>?_;simp (disch:=omega)[or_imp,forall_and];and_intros<;>(try omega);apply Z;refine zi ?_;refine ⟨fun c7=>?_,fun c7=>?_⟩
       ·try simp at c7
        exact absurd c7 g4
       ·try simp at c7
        refine zk [3,4,5,6,12,13,14,48] ?_;refine zr ⟨[16,91],[],[],[],[]⟩ fun _ _ Z=>?_;simp (disch:=omega)[or_imp,forall_and];and_intros<;>(try omega);apply Z;refine zi ?_;refine ⟨fun c8=>?_,fun c8=>?_⟩
        ·try simp at c8
         refine zt ⟨[16,91],[],[],[],[]⟩ fun _ _ Z=>?_;refine aA 5 fun _ Y=>?_;simp (disch:=omega)[or_imp,forall_and];and_intros<;>(try omega);apply Y;simp only [List.drop];refine aD fun _ Y=>?_;simp (disch:=omega)[or_imp,forall_and];refine bY (Fk (aL x.l id).attrs ⟨name, v⟩ _ (by omega) hsa) ?_;apply Y;simp (disch:=omega)[or_imp,forall_and];and_intros<;>(try omega);apply Z;apply aQ;apply aB;refine zk [6,12,13,14] ?_;refine zr ⟨[16,91],[],[],[],[]⟩ fun _ _ Z=>?_;refine aA 2 fun _ Y=>?_;simp (disch:=omega)[or_imp,forall_and];and_intros<;>(try omega);apply Y;simp only [List.drop];refine aD fun _ Y=>?_;simp (disch:=omega)[or_imp,forall_and];refine bY (iC x { (aL x.l id) with attrs := eF nA (aL x.l id).attrs ⟨name, v⟩ } _ hx) ?_;apply Y;simp (disch:=omega)[or_imp,forall_and];and_intros<;>(try omega);apply Z;apply aC;subst c8;have e := kF (name := name) (v := v) (num := num) c1 c2 c3 (.inr c5) (n := { (aL x.l id) with attrs := eF nA (aL x.l id).attrs ⟨name, v⟩ }) (by simp [qZ]);simp [aK, e]
        ·try simp at c8
         refine zr ⟨[16,91],[],[],[],[]⟩ fun _ _ Z=>?_;simp (disch:=omega)[or_imp,forall_and];and_intros<;>(try omega);apply Z;refine zi ?_;refine ⟨fun c9=>?_,fun c9=>?_⟩
         ·try simp at c9
          refine zk [3,6,12,13,14] ?_;refine zr ⟨[16,91],[],[],[],[]⟩ fun _ _ Z=>?_;simp (disch:=omega)[or_imp,forall_and];and_intros<;>(try omega);apply Z;apply aE;refine zr ⟨[16,91],[],[],[],[]⟩ fun _ _ Z=>?_;simp (disch:=omega)[or_imp,forall_and];and_intros<;>(try omega);apply Z;apply aM;refine zk [3,6,12,13,14,16,81,82,83] ?_;refine bV (fun (k : Nat) => [(83, .d (.v (.int .i64 (k : Int)))), (16, .d (.sl true ((gZ nA ((aL x.l id).attrs.take k) name).map cR)))]) [16, 18, 83, 84, 85, 86, 87, 88, 89, 90, 91, 92, 93, 94, 95] (fun (k : Nat) => k ≤ (aL x.l id).attrs.length) (fun (k : Nat) => (aL x.l id).attrs.length - k) (0) (by simp <;> rfl) ?_ ?_ ?_
          ·simp [gZ]
          ·simp
          rintro k hk;simp only [List.cons_append, List.nil_append];have hdl := qO nA ((aL x.l id).attrs.take k) name;simp only [List.length_take] at hdl;refine zr ⟨[16,91],[],[],[],[]⟩ fun _ _ Z=>?_;simp (disch:=omega)[or_imp,forall_and];and_intros<;>(try omega);apply Z;apply aE;refine zi ?_;refine ⟨fun c10=>?_,fun c10=>?_⟩
          ·try simp at c10
           apply aG;apply aB;apply aE;apply aM;refine zr ⟨[16,91],[],[],[],[]⟩ fun _ _ Z=>?_;simp (disch:=omega)[or_imp,forall_and];and_intros<;>(try omega);apply Z;refine zk [3,6,12,13,14,16,18,81,82,83] ?_;refine zr ⟨[16,91],[],[],[],[]⟩ fun _ _ Z=>?_;simp (disch:=omega)[or_imp,forall_and];and_intros<;>(try omega);apply Z;refine zi ?_;refine ⟨fun c11=>?_,fun c11=>?_⟩
           ·try simp at c11
            refine zk [3,6,12,13,14,16,18,81,82,83] ?_;refine zt ⟨[16,91],[],[],[],[]⟩ fun _ _ Z=>?_;simp (disch:=omega)[or_imp,forall_and];and_intros<;>(try omega);apply Z;apply aQ;apply aB;refine zk [3,6,12,13,14,16,81,82,83] ?_;refine zt ⟨[16,91],[],[],[],[]⟩ fun _ _ Z=>?_;simp (disch:=omega)[or_imp,forall_and];and_intros<;>(try omega);apply Z;refine bB (k + 1) ?_ ?_ (aV rfl ?_ (by simp) (by simp))
            ·omega
            ·try dsimp only
             omega
            ·simp (disch:=omega)[or_imp,forall_and,oO, *]
           ·try simp at c11
            apply aG;apply aQ;apply aB;refine zk [3,6,12,13,14,16,81,82,83] ?_;refine zt ⟨[16,91],[],[],[],[]⟩ fun _ _ Z=>?_;simp (disch:=omega)[or_imp,forall_and];and_intros<;>(try omega);apply Z;refine bB (k + 1) ?_ ?_ (aV rfl ?_ (by simp) (by simp))
            ·omega
            ·try dsimp only
             omega
            ·simp (disch:=omega)[or_imp,forall_and,oO, *]
          ·try simp at c10
           obtain rfl : k = (aL x.l id).attrs.length := by omega
           rw [List.take_length] at hdl;simp only [List.take_length];apply bO;apply bM;apply bN;apply bG;apply aB;apply aE;refine zr ⟨[16,91],[],[],[],[]⟩ fun _ _ Z=>?_;simp (disch:=omega)[or_imp,forall_and];and_intros<;>(try omega);apply Z;refine zi ?_;refine ⟨fun c12=>?_,fun c12=>?_⟩
           ·try simp at c12
            have hh : lC nA (aL x.l id).attrs name = false := (xH nA name).1 (by omega);refine zk [6,12,13,14,16] ?_;refine zr ⟨[16,91],[],[],[],[]⟩ fun _ _ Z=>?_;simp (disch:=omega)[or_imp,forall_and];and_intros<;>(try omega);apply Z;apply aC;apply aH;apply aR;apply aH;subst c9;have e := qS (name := name) (v := v) (num := num) c1 c2 c3 (.inr c5) (by simp [qZ, hh]);simp [aK, e]
           ·try simp at c12
            have hh : lC nA (aL x.l id).attrs name = true := by
              cases e : lC nA (aL x.l id).attrs name with
              | true => rfl
              | false => have := (xH nA name).2 e; omega
            apply aG;apply aB;refine zk [6,12,13,14,16] ?_;refine zt ⟨[16,91],[],[],[],[]⟩ fun _ _ Z=>?_;simp (disch:=omega)[or_imp,forall_and];and_intros<;>(try omega);apply Z;apply aQ;apply aB;refine zr ⟨[16,91],[],[],[],[]⟩ fun _ _ Z=>?_;refine aA 2 fun _ Y=>?_;simp (disch:=omega)[or_imp,forall_and];and_intros<;>(try omega);apply Y;simp only [List.drop];refine aD fun _ Y=>?_;simp (disch:=omega)[or_imp,forall_and];refine bY (iC x { (aL x.l id) with attrs := gZ nA (aL x.l id).attrs name } _ hx) ?_;apply Y;simp (disch:=omega)[or_imp,forall_and];and_intros<;>(try omega);apply Z;apply aC;subst c9;have e := kF (name := name) (v := v) (num := num) c1 c2 c3 (.inr c5) (n := { (aL x.l id) with attrs := gZ nA (aL x.l id).attrs name }) (by simp [qZ, hh]);simp [aK, e]
         ·try simp at c9
          refine zk [3,5,6,12,13,14,48] ?_;refine zr ⟨[16,91],[],[],[],[]⟩ fun _ _ Z=>?_;simp (disch:=omega)[or_imp,forall_and];and_intros<;>(try omega);apply Z;refine zi ?_;refine ⟨fun c13=>?_,fun c13=>?_⟩
          ·try simp at c13
           refine zk [3,5,6,12,13,14] ?_;refine zt ⟨[16,91],[],[],[],[]⟩ fun _ _ Z=>?_;refine aA 6 fun _ Y=>?_;simp (disch:=omega)[or_imp,forall_and];and_intros<;>(try omega);apply Y;simp only [List.drop];refine aD fun _ Y=>?_;simp (disch:=omega)[or_imp,forall_and];refine bY (Xr num _) ?_;rw [aC3];apply Y;refine aA 3 fun _ Y=>?_;simp (disch:=omega)[or_imp,forall_and];and_intros<;>(try omega);apply Y;simp only [List.drop];refine aD fun _ Y=>?_;simp (disch:=omega)[or_imp,forall_and];refine bY (Sr ((aL x.l id).styles ++ [⟨name, Ce num⟩]) _ (by simp; omega)) ?_;rw [nR, oD nP hss];apply Y;simp (disch:=omega)[or_imp,forall_and];and_intros<;>(try omega);apply Z;apply aQ;apply aB;refine zk [6,12,13,14] ?_;refine zr ⟨[16,91],[],[],[],[]⟩ fun _ _ Z=>?_;refine aA 2 fun _ Y=>?_;simp (disch:=omega)[or_imp,forall_and];and_intros<;>(try omega);apply Y;simp only [List.drop];refine aD fun _ Y=>?_;simp (disch:=omega)[or_imp,forall_and];refine bY (iC x { (aL x.l id) with styles := eF nP (aL x.l id).styles ⟨name, Ce num⟩ } _ hx) ?_;apply Y;simp (disch:=omega)[or_imp,forall_and];and_intros<;>(try omega);apply Z;apply aC;subst c13;have e := kF (name := name) (v := v) (num := num) c1 c2 c3 (.inr c5) (n := { (aL x.l id) with styles := eF nP (aL x.l id).styles ⟨name, Ce num⟩ }) (by simp [qZ]);simp [aK, e]
          ·try simp at c13
           refine zr ⟨[16,91],[],[],[],[]⟩ fun _ _ Z=>?_;simp (disch:=omega)[or_imp,forall_and];and_intros<;>(try omega);apply Z;refine zi ?_;refine ⟨fun c14=>?_,fun c14=>?_⟩
           ·try simp at c14
            apply aE;refine zr ⟨[16,91],[],[],[],[]⟩ fun _ _ Z=>?_;refine aA 3 fun _ Y=>?_;simp (disch:=omega)[or_imp,forall_and];and_intros<;>(try omega);apply Y;simp only [List.drop];refine aD fun _ Y=>?_;simp (disch:=omega)[or_imp,forall_and];refine Ps (Ql (aL x.l id).styles name _ (by omega)) ?_;rintro _ _ ⟨⟨gv, hr9⟩, hs9⟩;subst hr9;replace hs9 := hs9.symm;subst hs9;apply Y;simp (disch:=omega)[or_imp,forall_and];and_intros<;>(try omega);apply Z;refine zk [3,6,12,13,14,20] ?_;refine zr ⟨[16,91],[],[],[],[]⟩ fun _ _ Z=>?_;simp (disch:=omega)[or_imp,forall_and];and_intros<;>(try omega);apply Z;refine zi ?_;refine ⟨fun c15=>?_,fun c15=>?_⟩
            ·try simp at c15
             refine zr ⟨[16,91],[],[],[],[]⟩ fun _ _ Z=>?_;simp (disch:=omega)[or_imp,forall_and];and_intros<;>(try omega);apply Z;apply aC;apply aH;apply aR;apply aH;subst c14;have e := qS (name := name) (v := v) (num := num) c1 c2 c3 (.inr c5) (by simp [qZ, c15]);simp [aK, e]
            ·try simp at c15
             apply aG;apply aB;refine zt ⟨[16,91],[],[],[],[]⟩ fun _ _ Z=>?_;refine aA 3 fun _ Y=>?_;simp (disch:=omega)[or_imp,forall_and];and_intros<;>(try omega);apply Y;simp only [List.drop];refine aD fun _ Y=>?_;simp (disch:=omega)[or_imp,forall_and];refine bY (Oc (aL x.l id).styles name _ (by omega) hss) ?_;apply Y;simp (disch:=omega)[or_imp,forall_and];and_intros<;>(try omega);apply Z;apply aQ;apply aB;refine zk [6,12,13,14] ?_;refine zr ⟨[16,91],[],[],[],[]⟩ fun _ _ Z=>?_;refine aA 2 fun _ Y=>?_;simp (disch:=omega)[or_imp,forall_and];and_intros<;>(try omega);apply Y;simp only [List.drop];refine aD fun _ Y=>?_;simp (disch:=omega)[or_imp,forall_and];refine bY (iC x { (aL x.l id) with styles := gZ nP (aL x.l id).styles name } _ hx) ?_;apply Y;simp (disch:=omega)[or_imp,forall_and];and_intros<;>(try omega);apply Z;apply aC;subst c14;have e := kF (name := name) (v := v) (num := num) c1 c2 c3 (.inr c5) (n := { (aL x.l id) with styles := gZ nP (aL x.l id).styles name }) (by simp [qZ, c15]);simp [aK, e]
           ·try simp at c14
            refine zr ⟨[16,91],[],[],[],[]⟩ fun _ _ Z=>?_;simp (disch:=omega)[or_imp,forall_and];and_intros<;>(try omega);apply Z;refine zi ?_;refine ⟨fun c16=>?_,fun c16=>?_⟩
            ·try simp at c16
             apply aE;refine zk [3,6,12,13,14] ?_;refine zr ⟨[16,91],[],[],[],[]⟩ fun _ _ Z=>?_;refine aA 3 fun _ Y=>?_;simp (disch:=omega)[or_imp,forall_and];and_intros<;>(try omega);apply Y;simp only [List.drop];refine aD fun _ Y=>?_;simp (disch:=omega)[or_imp,forall_and];refine bY (La (aL x.l id).classes name _ (by omega)) ?_;apply Y;simp only [dE];apply Z;refine zi ?_;refine ⟨fun c17=>?_,fun c17=>?_⟩
             ·try simp at c17
              refine zr ⟨[16,91],[],[],[],[]⟩ fun _ _ Z=>?_;simp (disch:=omega)[or_imp,forall_and];and_intros<;>(try omega);apply Z;apply aC;apply aH;apply aR;apply aH;subst c16;have e := qS (name := name) (v := v) (num := num) c1 c2 c3 (.inr c5) (by simp [qZ, c17]);simp [aK, e]
             ·try simp at c17
              apply aG;apply aB;refine zt ⟨[16,91],[],[],[],[]⟩ fun _ _ Z=>?_;refine aA 8 fun _ Y=>?_;simp (disch:=omega)[or_imp,forall_and];and_intros<;>(try omega);apply Y;simp only [List.drop];simp (disch:=omega)[or_imp,forall_and];and_intros<;>(try omega);apply Z;apply aQ;apply aB;refine zk [6,12,13,14] ?_;refine zr ⟨[16,91],[],[],[],[]⟩ fun _ _ Z=>?_;refine aA 2 fun _ Y=>?_;simp (disch:=omega)[or_imp,forall_and];and_intros<;>(try omega);apply Y;simp only [List.drop];refine aD fun _ Y=>?_;simp (disch:=omega)[or_imp,forall_and];refine bY (iC x { (aL x.l id) with classes := (aL x.l id).classes ++ [name] } _ hx) ?_;apply Y;simp (disch:=omega)[or_imp,forall_and];and_intros<;>(try omega);apply Z;apply aC;subst c16;have e := kF (name := name) (v := v) (num := num) c1 c2 c3 (.inr c5) (n := { (aL x.l id) with classes := (aL x.l id).classes ++ [name] }) (by simp [qZ, c17]);simp [aK, e]
            ·try simp at c16
             apply aE;refine zk [3,6,12,13,14] ?_;refine zr ⟨[16,91],[],[],[],[]⟩ fun _ _ Z=>?_;refine aA 3 fun _ Y=>?_;simp (disch:=omega)[or_imp,forall_and];and_intros<;>(try omega);apply Y;simp only [List.drop];refine aD fun _ Y=>?_;simp (disch:=omega)[or_imp,forall_and];refine bY (La (aL x.l id).classes name _ (by omega)) ?_;apply Y;simp (disch:=omega)[or_imp,forall_and];and_intros<;>(try omega);apply Z;refine zi ?_;refine ⟨fun c18=>?_,fun c18=>?_⟩
             ·try simp at c18
              refine zr ⟨[16,91],[],[],[],[]⟩ fun _ _ Z=>?_;simp (disch:=omega)[or_imp,forall_and];and_intros<;>(try omega);apply Z;apply aC;apply aH;apply aR;apply aH;have e := qS (name := name) (v := v) (num := num) c1 c2 c3 (.inr c5) (by simp [qZ, c6, c7, c8, c9, c13, c14, c16, c18]);simp [aK, e]
             ·try simp at c18
              apply aG;apply aB;refine zt ⟨[16,91],[],[],[],[]⟩ fun _ _ Z=>?_;refine aA 3 fun _ Y=>?_;simp (disch:=omega)[or_imp,forall_and];and_intros<;>(try omega);apply Y;simp only [List.drop];refine aD fun _ Y=>?_;simp (disch:=omega)[or_imp,forall_and];refine bY (Ve (aL x.l id).classes name _ (by omega)) ?_;apply Y;simp (disch:=omega)[or_imp,forall_and];and_intros<;>(try omega);apply Z;apply aQ;apply aB;refine zk [6,12,13,14] ?_;refine zr ⟨[16,91],[],[],[],[]⟩ fun _ _ Z=>?_;refine aA 2 fun _ Y=>?_;simp (disch:=omega)[or_imp,forall_and];and_intros<;>(try omega);apply Y;simp only [List.drop];refine aD fun _ Y=>?_;simp (disch:=omega)[or_imp,forall_and];refine bY (iC x { (aL x.l id) with classes := jW (aL x.l id).classes name } _ hx) ?_;apply Y;simp (disch:=omega)[or_imp,forall_and];and_intros<;>(try omega);apply Z;apply aC;have e := kF (name := name) (v := v) (num := num) c1 c2 c3 (.inr c5) (n := { (aL x.l id) with classes := jW (aL x.l id).classes name }) (by simp [qZ, c6, c7, c8, c9, c13, c14, c16, c18]);simp [aK, e]
    ·try simp at g4
     simp (disch:=omega)[or_imp,forall_and,ga2];and_intros<;>(try omega);apply Z;refine bQ (t := false) (by simp) (fun h => by cases h) (fun _ => ?_);apply aG;apply aB;apply aE;refine zk [1,3,4,5,6,12,13,14] ?_;refine zr ⟨[16,91],[],[],[],[]⟩ fun _ _ Z=>?_;simp (disch:=omega)[or_imp,forall_and];and_intros<;>(try omega);apply Z;apply aM;refine zr ⟨[16,91],[],[],[],[]⟩ fun _ _ Z=>?_;simp (disch:=omega)[or_imp,forall_and];and_intros<;>(try omega);apply Z;refine zi ?_;refine ⟨fun c19=>?_,fun c19=>?_⟩
     ·try simp at c19
      omega
     ·try simp at c19
      refine zr ⟨[16,91],[],[],[],[]⟩ fun _ _ Z=>?_;simp (disch:=omega)[or_imp,forall_and];and_intros<;>(try omega);apply Z;refine zi ?_;refine ⟨fun c20=>?_,fun c20=>?_⟩
      ·try simp at c20
       refine zk [4,6,12,13,14] ?_;refine zt ⟨[16,91],[],[],[],[]⟩ fun _ _ Z=>?_;simp (disch:=omega)[or_imp,forall_and];and_intros<;>(try omega);apply Z;apply aQ;apply aB;refine zr ⟨[16,91],[],[],[],[]⟩ fun _ _ Z=>?_;refine aA 2 fun _ Y=>?_;simp (disch:=omega)[or_imp,forall_and];and_intros<;>(try omega);apply Y;simp only [List.drop];refine aD fun _ Y=>?_;simp (disch:=omega)[or_imp,forall_and];refine bY (iC x { (aL x.l id) with text := v } _ hx) ?_;apply Y;simp (disch:=omega)[or_imp,forall_and];and_intros<;>(try omega);apply Z;apply aC;subst c20;have e := kF (name := name) (v := v) (num := num) c1 c2 c3 (.inl rfl) (n := { (aL x.l id) with text := v }) (by simp [qZ]);simp [aK, e]
      ·try simp at c20
       exact absurd g4 c20
end Go.Proofs.YtpfmpeaekgdgnaaGreat


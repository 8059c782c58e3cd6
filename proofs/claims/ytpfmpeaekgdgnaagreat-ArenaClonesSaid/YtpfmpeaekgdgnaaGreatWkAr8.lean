import Derived.Test.YtpfmpeaekgdgnaaGreatWkAr7
namespace Go.Proofs.YtpfmpeaekgdgnaaGreat
open Go Go.Vm
set_option maxRecDepth 20000
set_option linter.all false
set_option maxHeartbeats 8000000
def rI (n : ND) (kind : Int) (name v : ByteArray) (num : Int) : Option ND :=
 if kind = 0 then some { n with tag := name }
 else if kind = 1 then some { n with text := v }
 else if kind = 2 then some { n with attrs := eH nA n.attrs ⟨name, v⟩ }
 else if kind = 3 then (if lB nA n.attrs name = true then some { n with attrs := hD nA n.attrs name } else none)
 else if kind = 4 then some { n with styles := eH nP n.styles ⟨name, Cp num⟩ }
 else if kind = 5 then (if lB nP n.styles name = true then some { n with styles := hD nP n.styles name } else none)
 else if kind = 6 then (if qO name n.classes = true then none else some { n with classes := n.classes ++ [name] })
 else (if qO name n.classes = true then some { n with classes := jR n.classes name } else none)
def setX (x : RD) (kind id : Int) (name v : ByteArray) (num : Int) : RD × Int :=
 if dU x.l id = false then (x, 11) else if id = 0 then (x, 1)
 else if ¬ (kind = 1 ↔ (aL x.l id).kind = 1) then (x, 14)
 else if ¬ kind = 1 ∧ fR name = false then (x, 2)
 else match rI (aL x.l id) kind name v num with
  | none => (x, 1)
  | some n => (⟨x.most, x.next, dI x.l n⟩, 0)
section
variable {x : RD} {kind id : Int} {name v : ByteArray} {num : Int}
theorem Kl (h1 : dU x.l id = false) : setX x kind id name v num = (x, 11) := by unfold setX; rw [if_pos h1]
theorem Sq (h1 : dU x.l id = true) (h2 : id = 0) : setX x kind id name v num = (x, 1) := by unfold setX; rw [if_neg (by rw [h1]; simp), if_pos h2]
theorem Kr (h1 : dU x.l id = true) (h2 : ¬ id = 0) (h3 : ¬ (kind = 1 ↔ (aL x.l id).kind = 1)) : setX x kind id name v num = (x, 14) := by unfold setX; rw [if_neg (by rw [h1]; simp), if_neg h2, if_pos h3]
theorem Wc (h1 : dU x.l id = true) (h2 : ¬ id = 0) (h3 : kind = 1 ↔ (aL x.l id).kind = 1) (h4 : ¬ kind = 1) (h5 : fR name = false) : setX x kind id name v num = (x, 2) := by
 unfold setX; rw [if_neg (by rw [h1]; simp), if_neg h2, if_neg (fun h => h h3), if_pos ⟨h4, h5⟩]
theorem kC {n : ND} (h1 : dU x.l id = true) (h2 : ¬ id = 0) (h3 : kind = 1 ↔ (aL x.l id).kind = 1) (h5 : kind = 1 ∨ fR name = true) (h : rI (aL x.l id) kind name v num = some n) : setX x kind id name v num = (⟨x.most, x.next, dI x.l n⟩, 0) := by
 unfold setX; rw [if_neg (by rw [h1]; simp), if_neg h2, if_neg (fun h => h h3), if_neg (by rintro ⟨a, b⟩; rcases h5 with h5 | h5; exact a h5; rw [h5] at b; cases b), h]
theorem qU (h1 : dU x.l id = true) (h2 : ¬ id = 0) (h3 : kind = 1 ↔ (aL x.l id).kind = 1) (h5 : kind = 1 ∨ fR name = true) (h : rI (aL x.l id) kind name v num = none) : setX x kind id name v num = (x, 1) := by
 unfold setX; rw [if_neg (by rw [h1]; simp), if_neg h2, if_neg (fun h => h h3), if_neg (by rintro ⟨a, b⟩; rcases h5 with h5 | h5; exact a h5; rw [h5] at b; cases b), h]
end
theorem Wx (x : RD) (kind id : Int) (name v : ByteArray) (num : Int) (σ : List (List D)) (hx : NB x.l) (hn : name.size ≤ 1000) (hsa : cG nA (aL x.l id).attrs) (hss : cG nP (aL x.l id).styles) : Ct Tryz.prog 51 [hC x, D.int kind, D.int id, D.str name, D.str v, D.int num] σ (fun r σ' => r = .tup [hC (setX x kind id name v num).1, D.int (setX x kind id name v num).2] ∧ σ' = σ) := by
 refine zf (rs:=[.cell 12 28,.tmp 13]) Tryz.func51 Tryz.ntmps51 Tryz.results51 ?_;simp only [aQ];have hfc := hx.fc id;have hfa := hx.fa id;have hfs := hx.fs id;refine zr ⟨[16,91],[],[],[],[]⟩ fun _ _ Z=>?_;simp (disch:=omega)[or_imp,forall_and];and_intros<;>(try omega);apply Z;refine zr ⟨[16,91],[],[],[],[]⟩ fun _ _ Z=>?_;refine aA 2 fun _ Y=>?_;simp (disch:=omega)[or_imp,forall_and];and_intros<;>(try omega);apply Y;simp only [List.drop];refine aF fun _ Y=>?_;simp (disch:=omega)[or_imp,forall_and];refine cO (fX x id _ hx) ?_;apply Y;simp (disch:=omega)[or_imp,forall_and];and_intros<;>(try omega);apply Z;apply aD;refine zr ⟨[16,91],[],[],[],[]⟩ fun _ _ Z=>?_;simp (disch:=omega)[or_imp,forall_and];and_intros<;>(try omega);apply Z;refine zi ?_;refine ⟨fun c1=>?_,fun c1=>?_⟩
 ·try simp at c1
  refine zk [1,2,3,4,5,6,12,13,14] ?_;refine zr ⟨[16,91],[],[],[],[]⟩ fun _ _ Z=>?_;simp (disch:=omega)[or_imp,forall_and];and_intros<;>(try omega);apply Z;apply aC;apply aJ;have e := Kl (kind := kind) (name := name) (v := v) (num := num) c1;simp [aM, e]
 ·try simp at c1
  apply aG;apply aB;apply aD;refine zk [1,2,3,4,5,6,12,13,14] ?_;refine zr ⟨[16,91],[],[],[],[]⟩ fun _ _ Z=>?_;simp (disch:=omega)[or_imp,forall_and];and_intros<;>(try omega);apply Z;refine zi ?_;refine ⟨fun c2=>?_,fun c2=>?_⟩
  ·try simp at c2
   refine zr ⟨[16,91],[],[],[],[]⟩ fun _ _ Z=>?_;simp (disch:=omega)[or_imp,forall_and];and_intros<;>(try omega);apply Z;apply aC;apply aJ;have e := Sq (kind := kind) (name := name) (v := v) (num := num) c1 c2;simp [aM, e]
  ·try simp at c2
   apply aG;apply aB;apply aD;refine zr ⟨[16,91],[],[],[],[]⟩ fun _ _ Z=>?_;simp (disch:=omega)[or_imp,forall_and];and_intros<;>(try omega);apply Z;refine zi ?_;refine ⟨fun c3=>?_,fun c3=>?_⟩
   ·try simp at c3
    refine zk [1,3,4,5,6,12,13,14] ?_;refine zr ⟨[16,91],[],[],[],[]⟩ fun _ _ Z=>?_;simp (disch:=omega)[or_imp,forall_and];and_intros<;>(try omega);apply Z;apply aC;apply aJ;have e := Kr (name := name) (v := v) (num := num) c1 c2 c3;simp [aM, e]
   ·try simp at c3
    apply aG;apply aB;apply aD;refine zk [1,3,4,5,6,12,13,14] ?_;refine lA ⟨[16,91],[],[],[],[]⟩ fun all hall _ Z=>?_;have ga2 : aR all 2 = some 42 := hall 2;refine aA 3 fun _ Y=>?_;simp (disch:=omega)[or_imp,forall_and,ga2];and_intros<;>(try omega);apply Y;simp only [List.drop];refine aX 42 (by simp <;> rfl) ?_;refine ⟨fun g4 => ?_, fun g4 => ?_⟩
    ·try simp at g4
     refine aA 1 fun _ Y=>?_;simp (disch:=omega)[or_imp,forall_and,ga2];and_intros<;>(try omega);apply Y;simp only [List.drop];refine zg ga2 fun _ Y=>?_;simp (disch:=omega)[or_imp,forall_and,ga2];refine cO (Eo name _ (by omega)) ?_;apply Y;simp (disch:=omega)[or_imp,forall_and,ga2];and_intros<;>(try omega);apply Z;refine zi ?_;refine ⟨fun c5=>?_,fun c5=>?_⟩
     ·try simp at c5
      refine zk [1,3,4,5,6,12,13,14] ?_;refine zr ⟨[16,91],[],[],[],[]⟩ fun _ _ Z=>?_;simp (disch:=omega)[or_imp,forall_and];and_intros<;>(try omega);apply Z;apply aC;apply aJ;have e := Wc (v := v) (num := num) c1 c2 c3 g4 c5;simp [aM, e]
     ·try simp at c5
      apply aG;apply aB;apply aD;refine zk [1,3,4,5,6,12,13,14] ?_;refine zr ⟨[16,91],[],[],[],[]⟩ fun _ _ Z=>?_;simp (disch:=omega)[or_imp,forall_and];and_intros<;>(try omega);apply Z;apply aK;refine zr ⟨[16,91],[],[],[],[]⟩ fun _ _ Z=>?_;simp (disch:=omega)[or_imp,forall_and];and_intros<;>(try omega);apply Z;refine zi ?_;refine ⟨fun c6=>?_,fun c6=>?_⟩
      ·try simp at c6
       refine zt ⟨[16,91],[],[],[],[]⟩ fun _ _ Z=>?_;simp (disch:=omega)[or_imp,forall_and];and_intros<;>(try omega);apply Z;apply aP;apply aB;refine zk [6,12,13,14] ?_;refine zr ⟨[16,91],[],[],[],[]⟩ fun _ _ Z=>?_;refine aA 2 fun _ Y=>?_;simp (disch:=omega)[or_imp,forall_and];and_intros<;>(try omega);apply Y;simp only [List.drop];refine aF fun _ Y=>?_;simp (disch:=omega)[or_imp,forall_and];refine cO (iD x { (aL x.l id) with tag := name } _ hx) ?_;apply Y;simp (disch:=omega)[or_imp,forall_and];and_intros<;>(try omega);apply Z;apply aC;subst c6;have e := kC (name := name) (v := v) (num := num) c1 c2 c3 (.inr c5) (n := { (aL x.l id) with tag := name }) (by simp [rI]);simp [aM, e]
      ·try simp at c6
       refine zr ⟨[16,91],[],[],[],[]⟩ fun _ _ Z=>?_;simp (disch:=omega)[or_imp,forall_and];and_intros<;>(try omega);apply Z;refine zi ?_;refine ⟨fun c7=>?_,fun c7=>?_⟩
       ·try simp at c7
        exact absurd c7 g4
       ·try simp at c7
        refine zk [3,4,5,6,12,13,14,48] ?_;refine zr ⟨[16,91],[],[],[],[]⟩ fun _ _ Z=>?_;simp (disch:=omega)[or_imp,forall_and];and_intros<;>(try omega);apply Z;refine zi ?_;refine ⟨fun c8=>?_,fun c8=>?_⟩
        ·try simp at c8
         refine zt ⟨[16,91],[],[],[],[]⟩ fun _ _ Z=>?_;refine aA 5 fun _ Y=>?_;simp (disch:=omega)[or_imp,forall_and];and_intros<;>(try omega);apply Y;simp only [List.drop];refine aF fun _ Y=>?_;simp (disch:=omega)[or_imp,forall_and];refine cO (Ej (aL x.l id).attrs ⟨name, v⟩ _ (by omega) hsa) ?_;apply Y;simp (disch:=omega)[or_imp,forall_and];and_intros<;>(try omega);apply Z;apply aP;apply aB;refine zk [6,12,13,14] ?_;refine zr ⟨[16,91],[],[],[],[]⟩ fun _ _ Z=>?_;refine aA 2 fun _ Y=>?_;simp (disch:=omega)[or_imp,forall_and];and_intros<;>(try omega);apply Y;simp only [List.drop];refine aF fun _ Y=>?_;simp (disch:=omega)[or_imp,forall_and];refine cO (iD x { (aL x.l id) with attrs := eH nA (aL x.l id).attrs ⟨name, v⟩ } _ hx) ?_;apply Y;simp (disch:=omega)[or_imp,forall_and];and_intros<;>(try omega);apply Z;apply aC;subst c8;have e := kC (name := name) (v := v) (num := num) c1 c2 c3 (.inr c5) (n := { (aL x.l id) with attrs := eH nA (aL x.l id).attrs ⟨name, v⟩ }) (by simp [rI]);simp [aM, e]
        ·try simp at c8
         refine zr ⟨[16,91],[],[],[],[]⟩ fun _ _ Z=>?_;simp (disch:=omega)[or_imp,forall_and];and_intros<;>(try omega);apply Z;refine zi ?_;refine ⟨fun c9=>?_,fun c9=>?_⟩
         ·try simp at c9
          refine zk [3,6,12,13,14] ?_;refine zr ⟨[16,91],[],[],[],[]⟩ fun _ _ Z=>?_;simp (disch:=omega)[or_imp,forall_and];and_intros<;>(try omega);apply Z;apply aD;refine zr ⟨[16,91],[],[],[],[]⟩ fun _ _ Z=>?_;simp (disch:=omega)[or_imp,forall_and];and_intros<;>(try omega);apply Z;apply aK;refine zk [3,6,12,13,14,16,81,82,83] ?_;refine bR (fun (k : Nat) => [(83, .d (.v (.int .i64 (k : Int)))), (16, .d (.sl true ((hD nA ((aL x.l id).attrs.take k) name).map cZ)))]) [16, 18, 83, 84, 85, 86, 87, 88, 89, 90, 91, 92, 93, 94, 95] (fun (k : Nat) => k ≤ (aL x.l id).attrs.length) (fun (k : Nat) => (aL x.l id).attrs.length - k) (0) (by simp <;> rfl) ?_ ?_ ?_
          ·simp [hD]
          ·simp
          rintro k hk;simp only [List.cons_append, List.nil_append];have hdl := rW nA ((aL x.l id).attrs.take k) name;simp only [List.length_take] at hdl;refine zr ⟨[16,91],[],[],[],[]⟩ fun _ _ Z=>?_;simp (disch:=omega)[or_imp,forall_and];and_intros<;>(try omega);apply Z;apply aD;refine zi ?_;refine ⟨fun c10=>?_,fun c10=>?_⟩
          ·try simp at c10
           apply aG;apply aB;apply aD;apply aK;refine zr ⟨[16,91],[],[],[],[]⟩ fun _ _ Z=>?_;simp (disch:=omega)[or_imp,forall_and];and_intros<;>(try omega);apply Z;refine zk [3,6,12,13,14,16,18,81,82,83] ?_;refine zr ⟨[16,91],[],[],[],[]⟩ fun _ _ Z=>?_;simp (disch:=omega)[or_imp,forall_and];and_intros<;>(try omega);apply Z;refine zi ?_;refine ⟨fun c11=>?_,fun c11=>?_⟩
           ·try simp at c11
            refine zk [3,6,12,13,14,16,18,81,82,83] ?_;refine zt ⟨[16,91],[],[],[],[]⟩ fun _ _ Z=>?_;simp (disch:=omega)[or_imp,forall_and];and_intros<;>(try omega);apply Z;apply aP;apply aB;refine zk [3,6,12,13,14,16,81,82,83] ?_;refine zt ⟨[16,91],[],[],[],[]⟩ fun _ _ Z=>?_;simp (disch:=omega)[or_imp,forall_and];and_intros<;>(try omega);apply Z;refine bB (k + 1) ?_ ?_ (aW rfl ?_ (by simp) (by simp))
            ·omega
            ·try dsimp only
             omega
            ·simp (disch:=omega)[or_imp,forall_and,oU, *]
           ·try simp at c11
            apply aG;apply aP;apply aB;refine zk [3,6,12,13,14,16,81,82,83] ?_;refine zt ⟨[16,91],[],[],[],[]⟩ fun _ _ Z=>?_;simp (disch:=omega)[or_imp,forall_and];and_intros<;>(try omega);apply Z;refine bB (k + 1) ?_ ?_ (aW rfl ?_ (by simp) (by simp))
            ·omega
            ·try dsimp only
             omega
            ·simp (disch:=omega)[or_imp,forall_and,oU, *]
          ·try simp at c10
           obtain rfl : k = (aL x.l id).attrs.length := by omega
           rw [List.take_length] at hdl;simp only [List.take_length];apply bN;apply bP;apply bO;apply bG;apply aB;apply aD;refine zr ⟨[16,91],[],[],[],[]⟩ fun _ _ Z=>?_;simp (disch:=omega)[or_imp,forall_and];and_intros<;>(try omega);apply Z;refine zi ?_;refine ⟨fun c12=>?_,fun c12=>?_⟩
           ·try simp at c12
            have hh : lB nA (aL x.l id).attrs name = false := (wP nA name).1 (by omega);refine zk [6,12,13,14,16] ?_;refine zr ⟨[16,91],[],[],[],[]⟩ fun _ _ Z=>?_;simp (disch:=omega)[or_imp,forall_and];and_intros<;>(try omega);apply Z;apply aC;apply aJ;apply aU;apply aJ;subst c9;have e := qU (name := name) (v := v) (num := num) c1 c2 c3 (.inr c5) (by simp [rI, hh]);simp [aM, e]
           ·try simp at c12
            have hh : lB nA (aL x.l id).attrs name = true := by
              cases e : lB nA (aL x.l id).attrs name with
              | true => rfl
              | false => have := (wP nA name).2 e; omega
            apply aG;apply aB;refine zk [6,12,13,14,16] ?_;refine zt ⟨[16,91],[],[],[],[]⟩ fun _ _ Z=>?_;simp (disch:=omega)[or_imp,forall_and];and_intros<;>(try omega);apply Z;apply aP;apply aB;refine zr ⟨[16,91],[],[],[],[]⟩ fun _ _ Z=>?_;refine aA 2 fun _ Y=>?_;simp (disch:=omega)[or_imp,forall_and];and_intros<;>(try omega);apply Y;simp only [List.drop];refine aF fun _ Y=>?_;simp (disch:=omega)[or_imp,forall_and];refine cO (iD x { (aL x.l id) with attrs := hD nA (aL x.l id).attrs name } _ hx) ?_;apply Y;simp (disch:=omega)[or_imp,forall_and];and_intros<;>(try omega);apply Z;apply aC;subst c9;have e := kC (name := name) (v := v) (num := num) c1 c2 c3 (.inr c5) (n := { (aL x.l id) with attrs := hD nA (aL x.l id).attrs name }) (by simp [rI, hh]);simp [aM, e]
         ·try simp at c9
          refine zk [3,5,6,12,13,14,48] ?_;refine zr ⟨[16,91],[],[],[],[]⟩ fun _ _ Z=>?_;simp (disch:=omega)[or_imp,forall_and];and_intros<;>(try omega);apply Z;refine zi ?_;refine ⟨fun c13=>?_,fun c13=>?_⟩
          ·try simp at c13
           refine zk [3,5,6,12,13,14] ?_;refine zt ⟨[16,91],[],[],[],[]⟩ fun _ _ Z=>?_;refine aA 6 fun _ Y=>?_;simp (disch:=omega)[or_imp,forall_and];and_intros<;>(try omega);apply Y;simp only [List.drop];refine aF fun _ Y=>?_;simp (disch:=omega)[or_imp,forall_and];refine cO (aAe num _) ?_;rw [aBe];apply Y;refine aA 3 fun _ Y=>?_;simp (disch:=omega)[or_imp,forall_and];and_intros<;>(try omega);apply Y;simp only [List.drop];refine aF fun _ Y=>?_;simp (disch:=omega)[or_imp,forall_and];refine cO (Vv ((aL x.l id).styles ++ [⟨name, Cp num⟩]) _ (by simp; omega)) ?_;rw [nX, oB nP hss];apply Y;simp (disch:=omega)[or_imp,forall_and];and_intros<;>(try omega);apply Z;apply aP;apply aB;refine zk [6,12,13,14] ?_;refine zr ⟨[16,91],[],[],[],[]⟩ fun _ _ Z=>?_;refine aA 2 fun _ Y=>?_;simp (disch:=omega)[or_imp,forall_and];and_intros<;>(try omega);apply Y;simp only [List.drop];refine aF fun _ Y=>?_;simp (disch:=omega)[or_imp,forall_and];refine cO (iD x { (aL x.l id) with styles := eH nP (aL x.l id).styles ⟨name, Cp num⟩ } _ hx) ?_;apply Y;simp (disch:=omega)[or_imp,forall_and];and_intros<;>(try omega);apply Z;apply aC;subst c13;have e := kC (name := name) (v := v) (num := num) c1 c2 c3 (.inr c5) (n := { (aL x.l id) with styles := eH nP (aL x.l id).styles ⟨name, Cp num⟩ }) (by simp [rI]);simp [aM, e]
          ·try simp at c13
           refine zr ⟨[16,91],[],[],[],[]⟩ fun _ _ Z=>?_;simp (disch:=omega)[or_imp,forall_and];and_intros<;>(try omega);apply Z;refine zi ?_;refine ⟨fun c14=>?_,fun c14=>?_⟩
           ·try simp at c14
            apply aD;refine zr ⟨[16,91],[],[],[],[]⟩ fun _ _ Z=>?_;refine aA 3 fun _ Y=>?_;simp (disch:=omega)[or_imp,forall_and];and_intros<;>(try omega);apply Y;simp only [List.drop];refine aF fun _ Y=>?_;simp (disch:=omega)[or_imp,forall_and];refine zcm (Tw (aL x.l id).styles name _ (by omega)) ?_;rintro _ _ ⟨⟨gv, hr9⟩, hs9⟩;subst hr9;replace hs9 := hs9.symm;subst hs9;apply Y;simp (disch:=omega)[or_imp,forall_and];and_intros<;>(try omega);apply Z;refine zk [3,6,12,13,14,20] ?_;refine zr ⟨[16,91],[],[],[],[]⟩ fun _ _ Z=>?_;simp (disch:=omega)[or_imp,forall_and];and_intros<;>(try omega);apply Z;refine zi ?_;refine ⟨fun c15=>?_,fun c15=>?_⟩
            ·try simp at c15
             refine zr ⟨[16,91],[],[],[],[]⟩ fun _ _ Z=>?_;simp (disch:=omega)[or_imp,forall_and];and_intros<;>(try omega);apply Z;apply aC;apply aJ;apply aU;apply aJ;subst c14;have e := qU (name := name) (v := v) (num := num) c1 c2 c3 (.inr c5) (by simp [rI, c15]);simp [aM, e]
            ·try simp at c15
             apply aG;apply aB;refine zt ⟨[16,91],[],[],[],[]⟩ fun _ _ Z=>?_;refine aA 3 fun _ Y=>?_;simp (disch:=omega)[or_imp,forall_and];and_intros<;>(try omega);apply Y;simp only [List.drop];refine aF fun _ Y=>?_;simp (disch:=omega)[or_imp,forall_and];refine cO (La (aL x.l id).styles name _ (by omega) hss) ?_;apply Y;simp (disch:=omega)[or_imp,forall_and];and_intros<;>(try omega);apply Z;apply aP;apply aB;refine zk [6,12,13,14] ?_;refine zr ⟨[16,91],[],[],[],[]⟩ fun _ _ Z=>?_;refine aA 2 fun _ Y=>?_;simp (disch:=omega)[or_imp,forall_and];and_intros<;>(try omega);apply Y;simp only [List.drop];refine aF fun _ Y=>?_;simp (disch:=omega)[or_imp,forall_and];refine cO (iD x { (aL x.l id) with styles := hD nP (aL x.l id).styles name } _ hx) ?_;apply Y;simp (disch:=omega)[or_imp,forall_and];and_intros<;>(try omega);apply Z;apply aC;subst c14;have e := kC (name := name) (v := v) (num := num) c1 c2 c3 (.inr c5) (n := { (aL x.l id) with styles := hD nP (aL x.l id).styles name }) (by simp [rI, c15]);simp [aM, e]
           ·try simp at c14
            refine zr ⟨[16,91],[],[],[],[]⟩ fun _ _ Z=>?_;simp (disch:=omega)[or_imp,forall_and];and_intros<;>(try omega);apply Z;refine zi ?_;refine ⟨fun c16=>?_,fun c16=>?_⟩
            ·try simp at c16
             apply aD;refine zk [3,6,12,13,14] ?_;refine zr ⟨[16,91],[],[],[],[]⟩ fun _ _ Z=>?_;refine aA 3 fun _ Y=>?_;simp (disch:=omega)[or_imp,forall_and];and_intros<;>(try omega);apply Y;simp only [List.drop];refine aF fun _ Y=>?_;simp (disch:=omega)[or_imp,forall_and];refine cO (Jk (aL x.l id).classes name _ (by omega)) ?_;apply Y;simp only [dZ];apply Z;refine zi ?_;refine ⟨fun c17=>?_,fun c17=>?_⟩
             ·try simp at c17
              refine zr ⟨[16,91],[],[],[],[]⟩ fun _ _ Z=>?_;simp (disch:=omega)[or_imp,forall_and];and_intros<;>(try omega);apply Z;apply aC;apply aJ;apply aU;apply aJ;subst c16;have e := qU (name := name) (v := v) (num := num) c1 c2 c3 (.inr c5) (by simp [rI, c17]);simp [aM, e]
             ·try simp at c17
              apply aG;apply aB;refine zt ⟨[16,91],[],[],[],[]⟩ fun _ _ Z=>?_;refine aA 8 fun _ Y=>?_;simp (disch:=omega)[or_imp,forall_and];and_intros<;>(try omega);apply Y;simp only [List.drop];simp (disch:=omega)[or_imp,forall_and];and_intros<;>(try omega);apply Z;apply aP;apply aB;refine zk [6,12,13,14] ?_;refine zr ⟨[16,91],[],[],[],[]⟩ fun _ _ Z=>?_;refine aA 2 fun _ Y=>?_;simp (disch:=omega)[or_imp,forall_and];and_intros<;>(try omega);apply Y;simp only [List.drop];refine aF fun _ Y=>?_;simp (disch:=omega)[or_imp,forall_and];refine cO (iD x { (aL x.l id) with classes := (aL x.l id).classes ++ [name] } _ hx) ?_;apply Y;simp (disch:=omega)[or_imp,forall_and];and_intros<;>(try omega);apply Z;apply aC;subst c16;have e := kC (name := name) (v := v) (num := num) c1 c2 c3 (.inr c5) (n := { (aL x.l id) with classes := (aL x.l id).classes ++ [name] }) (by simp [rI, c17]);simp [aM, e]
            ·try simp at c16
             apply aD;refine zk [3,6,12,13,14] ?_;refine zr ⟨[16,91],[],[],[],[]⟩ fun _ _ Z=>?_;refine aA 3 fun _ Y=>?_;simp (disch:=omega)[or_imp,forall_and];and_intros<;>(try omega);apply Y;simp only [List.drop];refine aF fun _ Y=>?_;simp (disch:=omega)[or_imp,forall_and];refine cO (Jk (aL x.l id).classes name _ (by omega)) ?_;apply Y;simp (disch:=omega)[or_imp,forall_and];and_intros<;>(try omega);apply Z;refine zi ?_;refine ⟨fun c18=>?_,fun c18=>?_⟩
             ·try simp at c18
              refine zr ⟨[16,91],[],[],[],[]⟩ fun _ _ Z=>?_;simp (disch:=omega)[or_imp,forall_and];and_intros<;>(try omega);apply Z;apply aC;apply aJ;apply aU;apply aJ;have e := qU (name := name) (v := v) (num := num) c1 c2 c3 (.inr c5) (by simp [rI, c6, c7, c8, c9, c13, c14, c16, c18]);simp [aM, e]
             ·try simp at c18
              apply aG;apply aB;refine zt ⟨[16,91],[],[],[],[]⟩ fun _ _ Z=>?_;refine aA 3 fun _ Y=>?_;simp (disch:=omega)[or_imp,forall_and];and_intros<;>(try omega);apply Y;simp only [List.drop];refine aF fun _ Y=>?_;simp (disch:=omega)[or_imp,forall_and];refine cO (Sy (aL x.l id).classes name _ (by omega)) ?_;apply Y;simp (disch:=omega)[or_imp,forall_and];and_intros<;>(try omega);apply Z;apply aP;apply aB;refine zk [6,12,13,14] ?_;refine zr ⟨[16,91],[],[],[],[]⟩ fun _ _ Z=>?_;refine aA 2 fun _ Y=>?_;simp (disch:=omega)[or_imp,forall_and];and_intros<;>(try omega);apply Y;simp only [List.drop];refine aF fun _ Y=>?_;simp (disch:=omega)[or_imp,forall_and];refine cO (iD x { (aL x.l id) with classes := jR (aL x.l id).classes name } _ hx) ?_;apply Y;simp (disch:=omega)[or_imp,forall_and];and_intros<;>(try omega);apply Z;apply aC;have e := kC (name := name) (v := v) (num := num) c1 c2 c3 (.inr c5) (n := { (aL x.l id) with classes := jR (aL x.l id).classes name }) (by simp [rI, c6, c7, c8, c9, c13, c14, c16, c18]);simp [aM, e]
    ·try simp at g4
     simp (disch:=omega)[or_imp,forall_and,ga2];and_intros<;>(try omega);apply Z;refine bT (t := false) (by simp) (fun h => by cases h) (fun _ => ?_);apply aG;apply aB;apply aD;refine zk [1,3,4,5,6,12,13,14] ?_;refine zr ⟨[16,91],[],[],[],[]⟩ fun _ _ Z=>?_;simp (disch:=omega)[or_imp,forall_and];and_intros<;>(try omega);apply Z;apply aK;refine zr ⟨[16,91],[],[],[],[]⟩ fun _ _ Z=>?_;simp (disch:=omega)[or_imp,forall_and];and_intros<;>(try omega);apply Z;refine zi ?_;refine ⟨fun c19=>?_,fun c19=>?_⟩
     ·try simp at c19
      omega
     ·try simp at c19
      refine zr ⟨[16,91],[],[],[],[]⟩ fun _ _ Z=>?_;simp (disch:=omega)[or_imp,forall_and];and_intros<;>(try omega);apply Z;refine zi ?_;refine ⟨fun c20=>?_,fun c20=>?_⟩
      ·try simp at c20
       refine zk [4,6,12,13,14] ?_;refine zt ⟨[16,91],[],[],[],[]⟩ fun _ _ Z=>?_;simp (disch:=omega)[or_imp,forall_and];and_intros<;>(try omega);apply Z;apply aP;apply aB;refine zr ⟨[16,91],[],[],[],[]⟩ fun _ _ Z=>?_;refine aA 2 fun _ Y=>?_;simp (disch:=omega)[or_imp,forall_and];and_intros<;>(try omega);apply Y;simp only [List.drop];refine aF fun _ Y=>?_;simp (disch:=omega)[or_imp,forall_and];refine cO (iD x { (aL x.l id) with text := v } _ hx) ?_;apply Y;simp (disch:=omega)[or_imp,forall_and];and_intros<;>(try omega);apply Z;apply aC;subst c20;have e := kC (name := name) (v := v) (num := num) c1 c2 c3 (.inl rfl) (n := { (aL x.l id) with text := v }) (by simp [rI]);simp [aM, e]
      ·try simp at c20
       exact absurd g4 c20
end Go.Proofs.YtpfmpeaekgdgnaaGreat


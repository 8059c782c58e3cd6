import Derived.Test.YtpfmpeaekgdgnaaGreatWkAr14
namespace Go.Proofs.YtpfmpeaekgdgnaaGreat
open Go Go.Vm
set_option maxRecDepth 20000
set_option linter.all false
set_option maxHeartbeats 8000000
def lC (n : ND) (kind : Int) (name : ByteArray) : Int := if n.ID = 0 then 1 else if ¬ n.kind = kind then 14 else if kind = 2 ∧ fR name = false then 2 else 0
theorem Jh {n : ND} {kind : Int} {name : ByteArray} (h : lC n kind name = 0) : ¬ n.ID = 0 ∧ n.kind = kind ∧ (kind = 2 → fR name = true) := by
 unfold lC at h;split at h
 ·cases h
 ·split at h
  ·cases h
  ·split at h
   ·cases h
   ·rename_i h1 h2 h3;refine ⟨h1, Classical.not_not.1 h2, fun hk => ?_⟩;cases hn : fR name with
    | true => rfl
    | false => exact absurd ⟨hk, hn⟩ h3
theorem Tc (m M : Nat) (d : DS) (id kind : Int) (name : ByteArray) (σ : List (List D)) (ho : DO m M d σ) (hno : dU d.l id = false) : Ct Tryz.prog 123 [.ref m 0, D.int id, D.int kind, D.str name] σ (fun r σ' => r = .tup [.v (.pointer none), D.int 11] ∧ σ' = σ) := by
 refine zf (rs:=[.tmp 8,.tmp 9]) Tryz.func123 Tryz.ntmps123 Tryz.results123 ?_;simp only [aQ];have hq := ho.hm;refine aZ fun _ _ Z=>?_;simp[hq];and_intros<;>(try omega);apply Z;refine aZ fun _ _ Z=>?_;refine aA 6 fun _ Y=>?_;simp[hq];refine ⟨m, 2, d.ck, _, .v (.pointer none), ⟨⟨_, hq, rfl⟩, gA _, .inl (kY hno _)⟩, ?_⟩;and_intros<;>(try omega);apply Y;simp only [List.drop];simp[hq];and_intros<;>(try omega);apply Z;apply aD;apply aK;refine aZ fun _ _ Z=>?_;simp[hq];and_intros<;>(try omega);apply Z;refine zi ?_;refine ⟨fun c1=>?_,fun c1=>?_⟩
 ·try simp at c1
  refine zk [8,9,10] ?_;refine aZ fun _ _ Z=>?_;simp[hq];and_intros<;>(try omega);apply Z;apply aC;apply aU;apply aJ;simp [aM]
 ·simp at c1
theorem Xe (m M : Nat) (d : DS) (e : EN) (kind : Int) (name : ByteArray) (σ : List (List D)) (ho : DO m M d σ) (he : e ∈ d.es) (hs : name.size ≤ 1000) (hb : ¬ lC e.n kind name = 0) : Ct Tryz.prog 123 [.ref m 0, D.int e.n.ID, D.int kind, D.str name] σ (fun r σ' => r = .tup [.v (.pointer none), D.int (lC e.n kind name)] ∧ σ' = σ) := by
 refine zf (rs:=[.tmp 8,.tmp 9]) Tryz.func123 Tryz.ntmps123 Tryz.results123 ?_;simp only [aQ];have hq := ho.hm;have hne := ho.hn e he;refine aZ fun _ _ Z=>?_;simp[hq,hne];and_intros<;>(try omega);apply Z;refine aZ fun _ _ Z=>?_;refine aA 6 fun _ Y=>?_;simp[hq,hne];refine ⟨m, 2, d.ck, _, .ref e.o 0, ⟨⟨_, hq, rfl⟩, gA _, .inr (dW he _)⟩, ?_⟩;and_intros<;>(try omega);apply Y;simp only [List.drop];simp[hq,hne];and_intros<;>(try omega);apply Z;apply aD;apply aK;refine aZ fun _ _ Z=>?_;simp[hq,hne];and_intros<;>(try omega);apply Z;refine zi ?_;refine ⟨fun c1=>?_,fun c1=>?_⟩
 ·simp at c1
 ·try simp at c1
  refine zk [1,2,3,8,9,10] ?_;refine aZ fun _ _ Z=>?_;simp[hq,hne];and_intros<;>(try omega);apply Z;refine zi ?_;refine ⟨fun c2=>?_,fun c2=>?_⟩
  ·try simp at c2
   refine aZ fun _ _ Z=>?_;simp[hq,hne];and_intros<;>(try omega);apply Z;apply aC;apply aU;apply aJ;simp [aM, lC, *]
  ·try simp at c2
   refine aZ fun _ _ Z=>?_;simp[hq,hne];and_intros<;>(try omega);apply Z;refine zi ?_;refine ⟨fun c3=>?_,fun c3=>?_⟩
   ·try simp at c3
    refine zk [8,9,10] ?_;refine aZ fun _ _ Z=>?_;simp[hq,hne];and_intros<;>(try omega);apply Z;apply aC;apply aU;apply aJ;simp [aM, lC, *]
   ·try simp at c3
    refine zk [2,3,8,9,10] ?_;refine lA ⟨[],[],[],[],[]⟩ fun all hall _ Z=>?_;have ga2 : aR all 2 = some 33 := hall 2;refine aA 3 fun _ Y=>?_;simp[hq,hne,ga2];and_intros<;>(try omega);apply Y;simp only [List.drop];refine aX 33 (by simp <;> rfl) ?_;refine ⟨fun g4 => ?_, fun g4 => ?_⟩
    ·try simp at g4
     refine aA 1 fun _ Y=>?_;simp[hq,hne,ga2];and_intros<;>(try omega);apply Y;simp only [List.drop];refine zg ga2 fun _ Y=>?_;simp[hq,hne,ga2];refine cO (oH name _ (by omega)) ?_;apply Y;simp[hq,hne,ga2];and_intros<;>(try omega);apply Z;refine zi ?_;refine ⟨fun c5=>?_,fun c5=>?_⟩
     ·try simp at c5
      refine zk [8,9,10] ?_;refine aZ fun _ _ Z=>?_;simp[hq,hne];and_intros<;>(try omega);apply Z;apply aC;apply aU;apply aJ;simp [aM, lC, *]
     ·try simp at c5
      exact absurd (by simp [lC, c2, c3, g4, c5]) hb
    ·try simp at g4
     exact absurd (by simp [lC, c2, c3, g4]) hb
theorem Zo (m M : Nat) (d : DS) (e : EN) (kind : Int) (name : ByteArray) (σ : List (List D)) (ho : DO m M d σ) (he : e ∈ d.es) (hs : name.size ≤ 1000) (hb : lC e.n kind name = 0) : Ct Tryz.prog 123 [.ref m 0, D.int e.n.ID, D.int kind, D.str name] σ (fun r σ' => r = .tup [.ref e.o 0, D.int 0] ∧ σ' = σ) := by
 refine zf (rs:=[.tmp 8,.tmp 9]) Tryz.func123 Tryz.ntmps123 Tryz.results123 ?_;simp only [aQ];have hq := ho.hm;have hne := ho.hn e he;obtain ⟨o1, o2, o3⟩ := Jh hb;refine aZ fun _ _ Z=>?_;simp[hq,hne];and_intros<;>(try omega);apply Z;refine aZ fun _ _ Z=>?_;refine aA 6 fun _ Y=>?_;simp[hq,hne];refine ⟨m, 2, d.ck, _, .ref e.o 0, ⟨⟨_, hq, rfl⟩, gA _, .inr (dW he _)⟩, ?_⟩;and_intros<;>(try omega);apply Y;simp only [List.drop];simp[hq,hne];and_intros<;>(try omega);apply Z;apply aD;apply aK;refine aZ fun _ _ Z=>?_;simp[hq,hne];and_intros<;>(try omega);apply Z;refine zi ?_;refine ⟨fun c1=>?_,fun c1=>?_⟩
 ·simp at c1
 ·try simp at c1
  refine zk [1,2,3,8,9,10] ?_;refine aZ fun _ _ Z=>?_;simp[hq,hne];and_intros<;>(try omega);apply Z;refine zi ?_;refine ⟨fun c2=>?_,fun c2=>?_⟩
  ·try simp at c2
   exact absurd c2 o1
  ·try simp at c2
   refine aZ fun _ _ Z=>?_;simp[hq,hne];and_intros<;>(try omega);apply Z;refine zi ?_;refine ⟨fun c3=>?_,fun c3=>?_⟩
   ·try simp at c3
    exact absurd o2 c3
   ·try simp at c3
    refine zk [2,3,8,9,10] ?_;refine lA ⟨[],[],[],[],[]⟩ fun all hall _ Z=>?_;have ga2 : aR all 2 = some 33 := hall 2;refine aA 3 fun _ Y=>?_;simp[hq,hne,ga2];and_intros<;>(try omega);apply Y;simp only [List.drop];refine aX 33 (by simp <;> rfl) ?_;refine ⟨fun g4 => ?_, fun g4 => ?_⟩
    ·try simp at g4
     refine aA 1 fun _ Y=>?_;simp[hq,hne,ga2];and_intros<;>(try omega);apply Y;simp only [List.drop];refine zg ga2 fun _ Y=>?_;simp[hq,hne,ga2];refine cO (oH name _ (by omega)) ?_;apply Y;simp[hq,hne,ga2];and_intros<;>(try omega);apply Z;refine zi ?_;refine ⟨fun c5=>?_,fun c5=>?_⟩
     ·try simp at c5
      rw [o3 g4] at c5; cases c5
     ·try simp at c5
      apply aG;apply aP;apply aB;refine zk [8,9,10] ?_;refine aZ fun _ _ Z=>?_;simp[hq,hne];and_intros<;>(try omega);apply Z;apply aC;simp [aM]
    ·try simp at g4
     simp[hq,hne,ga2];and_intros<;>(try omega);apply Z;refine bT (t := false) (by simp) (fun h => by cases h) (fun _ => ?_);apply aG;apply aP;apply aB;refine zk [8,9,10] ?_;refine aZ fun _ _ Z=>?_;simp[hq,hne];and_intros<;>(try omega);apply Z;apply aC;simp [aM]
theorem Uu (m : Nat) (id c : Int) (s : ByteArray) (σ : List (List D)) (hown : Ct Tryz.prog 123 [.ref m 0, D.int id, D.int 2, D.str s] σ (fun r σ' => r = .tup [.v (.pointer none), D.int c] ∧ σ' = σ)) (hc : ¬ c = 0) : Ct Tryz.prog 89 [.ref m 0, D.int id, D.str s] σ (fun r σ' => r = .int c ∧ σ' = σ) := by
 refine zf (rs:=[.tmp 6]) Tryz.func89 Tryz.ntmps89 Tryz.results89 ?_;simp only [aQ];refine aZ fun _ _ Z=>?_;simp;and_intros<;>(try omega);apply Z;refine aZ fun _ _ Z=>?_;refine aA 3 fun _ Y=>?_;simp;and_intros<;>(try omega);apply Y;simp only [List.drop];refine aF fun _ Y=>?_;simp;refine cO (hown) ?_;apply Y;simp;and_intros<;>(try omega);apply Z;apply aD;refine aZ fun _ _ Z=>?_;simp;and_intros<;>(try omega);apply Z;refine zi ?_;refine ⟨fun c1=>?_,fun c1=>?_⟩
 ·try simp at c1
  exact absurd c1 hc
 ·try simp at c1
  apply aG;apply aB;refine zk [6,8] ?_;refine aZ fun _ _ Z=>?_;simp;and_intros<;>(try omega);apply Z;apply aC;simp [aM]
theorem Rp (m o : Nat) (id : Int) (n : ND) (s : ByteArray) (σ : List (List D)) (hown : Ct Tryz.prog 123 [.ref m 0, D.int id, D.int 2, D.str s] σ (fun r σ' => r = .tup [.ref o 0, D.int 0] ∧ σ' = σ)) (hno : σ[o]? = some (dC n)) : Ct Tryz.prog 89 [.ref m 0, D.int id, D.str s] σ (fun r σ' => r = D.int 0 ∧ σ' = σ.set o (dC { n with tag := s })) := by
 refine zf (rs:=[.tmp 6]) Tryz.func89 Tryz.ntmps89 Tryz.results89 ?_;simp only [aQ];refine aZ fun _ _ Z=>?_;simp[hno,aI hno,List.set_set];and_intros<;>(try omega);apply Z;refine aZ fun _ _ Z=>?_;refine aA 3 fun _ Y=>?_;simp[hno,aI hno,List.set_set];and_intros<;>(try omega);apply Y;simp only [List.drop];refine aF fun _ Y=>?_;simp[hno,aI hno,List.set_set];refine cO (hown) ?_;apply Y;simp[hno,aI hno,List.set_set];and_intros<;>(try omega);apply Z;apply aD;refine aZ fun _ _ Z=>?_;simp[hno,aI hno,List.set_set];and_intros<;>(try omega);apply Z;refine zi ?_;refine ⟨fun c1=>?_,fun c1=>?_⟩
 ·try simp at c1
  refine zk [2,6,7,8] ?_;refine uM fun _ _ Z=>?_;simp[hno,aI hno,List.set_set];and_intros<;>(try omega);apply Z;apply aB;refine aZ fun _ _ Z=>?_;simp[hno,aI hno,List.set_set];and_intros<;>(try omega);apply Z;apply aC;simp [aM, dC]
 ·simp at c1
theorem Sg (m : Nat) (id c : Int) (s : ByteArray) (σ : List (List D)) (hown : Ct Tryz.prog 123 [.ref m 0, D.int id, D.int 1, D.str ⟨#[]⟩] σ (fun r σ' => r = .tup [.v (.pointer none), D.int c] ∧ σ' = σ)) (hc : ¬ c = 0) : Ct Tryz.prog 90 [.ref m 0, D.int id, D.str s] σ (fun r σ' => r = .int c ∧ σ' = σ) := by
 refine zf (rs:=[.tmp 6]) Tryz.func90 Tryz.ntmps90 Tryz.results90 ?_;simp only [aQ];refine aZ fun _ _ Z=>?_;simp;and_intros<;>(try omega);apply Z;refine aZ fun _ _ Z=>?_;refine aA 2 fun _ Y=>?_;simp;and_intros<;>(try omega);apply Y;simp only [List.drop];refine aF fun _ Y=>?_;simp;refine cO (hown) ?_;apply Y;simp;and_intros<;>(try omega);apply Z;apply aD;refine aZ fun _ _ Z=>?_;simp;and_intros<;>(try omega);apply Z;refine zi ?_;refine ⟨fun c1=>?_,fun c1=>?_⟩
 ·try simp at c1
  exact absurd c1 hc
 ·try simp at c1
  apply aG;apply aB;refine aZ fun _ _ Z=>?_;simp;and_intros<;>(try omega);apply Z;apply aC;simp [aM]
theorem Pl (m o : Nat) (id : Int) (n : ND) (s : ByteArray) (σ : List (List D)) (hown : Ct Tryz.prog 123 [.ref m 0, D.int id, D.int 1, D.str ⟨#[]⟩] σ (fun r σ' => r = .tup [.ref o 0, D.int 0] ∧ σ' = σ)) (hno : σ[o]? = some (dC n)) : Ct Tryz.prog 90 [.ref m 0, D.int id, D.str s] σ (fun r σ' => r = D.int 0 ∧ σ' = σ.set o (dC { n with text := s })) := by
 refine zf (rs:=[.tmp 6]) Tryz.func90 Tryz.ntmps90 Tryz.results90 ?_;simp only [aQ];refine aZ fun _ _ Z=>?_;simp[hno,aI hno,List.set_set];and_intros<;>(try omega);apply Z;refine aZ fun _ _ Z=>?_;refine aA 2 fun _ Y=>?_;simp[hno,aI hno,List.set_set];and_intros<;>(try omega);apply Y;simp only [List.drop];refine aF fun _ Y=>?_;simp[hno,aI hno,List.set_set];refine cO (hown) ?_;apply Y;simp[hno,aI hno,List.set_set];and_intros<;>(try omega);apply Z;apply aD;refine aZ fun _ _ Z=>?_;simp[hno,aI hno,List.set_set];and_intros<;>(try omega);apply Z;refine zi ?_;refine ⟨fun c1=>?_,fun c1=>?_⟩
 ·try simp at c1
  refine uM fun _ _ Z=>?_;simp[hno,aI hno,List.set_set];and_intros<;>(try omega);apply Z;apply aB;refine zk [6,8] ?_;refine aZ fun _ _ Z=>?_;simp[hno,aI hno,List.set_set];and_intros<;>(try omega);apply Z;apply aC;simp [aM, dC]
 ·simp at c1
theorem Qi (m : Nat) (id c : Int) (s : ByteArray) (v : ByteArray) (σ : List (List D)) (hown : Ct Tryz.prog 123 [.ref m 0, D.int id, D.int 2, D.str s] σ (fun r σ' => r = .tup [.v (.pointer none), D.int c] ∧ σ' = σ)) (hc : ¬ c = 0) : Ct Tryz.prog 91 [.ref m 0, D.int id, D.str s, D.str v] σ (fun r σ' => r = .int c ∧ σ' = σ) := by
 refine zf (rs:=[.tmp 8]) Tryz.func91 Tryz.ntmps91 Tryz.results91 ?_;simp only [aQ];refine aZ fun _ _ Z=>?_;simp;and_intros<;>(try omega);apply Z;refine aZ fun _ _ Z=>?_;refine aA 3 fun _ Y=>?_;simp;and_intros<;>(try omega);apply Y;simp only [List.drop];refine aF fun _ Y=>?_;simp;refine cO (hown) ?_;apply Y;simp;and_intros<;>(try omega);apply Z;apply aD;refine aZ fun _ _ Z=>?_;simp;and_intros<;>(try omega);apply Z;refine zi ?_;refine ⟨fun c1=>?_,fun c1=>?_⟩
 ·try simp at c1
  exact absurd c1 hc
 ·try simp at c1
  apply aG;apply aB;refine zk [8,10] ?_;refine aZ fun _ _ Z=>?_;simp;and_intros<;>(try omega);apply Z;apply aC;simp [aM]
theorem Qq (m o : Nat) (id : Int) (n : ND) (s : ByteArray) (v : ByteArray) (σ : List (List D)) (hown : Ct Tryz.prog 123 [.ref m 0, D.int id, D.int 2, D.str s] σ (fun r σ' => r = .tup [.ref o 0, D.int 0] ∧ σ' = σ)) (hno : σ[o]? = some (dC n)) (hl : n.attrs.length ≤ 1000) (hs : cG nA n.attrs) : Ct Tryz.prog 91 [.ref m 0, D.int id, D.str s, D.str v] σ (fun r σ' => r = D.int 0 ∧ σ' = σ.set o (dC { n with attrs := eH nA n.attrs ⟨s, v⟩ })) := by
 refine zf (rs:=[.tmp 8]) Tryz.func91 Tryz.ntmps91 Tryz.results91 ?_;simp only [aQ];refine aZ fun _ _ Z=>?_;simp[hno,aI hno,List.set_set];and_intros<;>(try omega);apply Z;refine aZ fun _ _ Z=>?_;refine aA 3 fun _ Y=>?_;simp[hno,aI hno,List.set_set];and_intros<;>(try omega);apply Y;simp only [List.drop];refine aF fun _ Y=>?_;simp[hno,aI hno,List.set_set];refine cO (hown) ?_;apply Y;simp[hno,aI hno,List.set_set];and_intros<;>(try omega);apply Z;apply aD;refine aZ fun _ _ Z=>?_;simp[hno,aI hno,List.set_set];and_intros<;>(try omega);apply Z;refine zi ?_;refine ⟨fun c1=>?_,fun c1=>?_⟩
 ·try simp at c1
  refine zk [2,3,8,9,10] ?_;refine uM fun _ _ Z=>?_;refine aA 7 fun _ Y=>?_;simp[hno,aI hno,List.set_set];and_intros<;>(try omega);apply Y;simp only [List.drop];refine aF fun _ Y=>?_;simp[hno,aI hno,List.set_set];refine cO (Xh n.attrs s v _ (by omega) hs) ?_;apply Y;simp[hno,aI hno,List.set_set];and_intros<;>(try omega);apply Z;apply aB;refine zk [8,10] ?_;refine aZ fun _ _ Z=>?_;simp[hno,aI hno,List.set_set];and_intros<;>(try omega);apply Z;apply aC;simp [aM, dC]
 ·simp at c1
theorem Sw (m : Nat) (id c : Int) (s : ByteArray) (v : Int) (σ : List (List D)) (hown : Ct Tryz.prog 123 [.ref m 0, D.int id, D.int 2, D.str s] σ (fun r σ' => r = .tup [.v (.pointer none), D.int c] ∧ σ' = σ)) (hc : ¬ c = 0) : Ct Tryz.prog 93 [.ref m 0, D.int id, D.str s, D.int v] σ (fun r σ' => r = .int c ∧ σ' = σ) := by
 refine zf (rs:=[.tmp 8]) Tryz.func93 Tryz.ntmps93 Tryz.results93 ?_;simp only [aQ];refine aZ fun _ _ Z=>?_;simp;and_intros<;>(try omega);apply Z;refine aZ fun _ _ Z=>?_;refine aA 3 fun _ Y=>?_;simp;and_intros<;>(try omega);apply Y;simp only [List.drop];refine aF fun _ Y=>?_;simp;refine cO (hown) ?_;apply Y;simp;and_intros<;>(try omega);apply Z;apply aD;refine aZ fun _ _ Z=>?_;simp;and_intros<;>(try omega);apply Z;refine zi ?_;refine ⟨fun c1=>?_,fun c1=>?_⟩
 ·try simp at c1
  exact absurd c1 hc
 ·try simp at c1
  apply aG;apply aB;refine zk [8,10] ?_;refine aZ fun _ _ Z=>?_;simp;and_intros<;>(try omega);apply Z;apply aC;simp [aM]
theorem Py (m o : Nat) (id : Int) (n : ND) (s : ByteArray) (v : Int) (σ : List (List D)) (hown : Ct Tryz.prog 123 [.ref m 0, D.int id, D.int 2, D.str s] σ (fun r σ' => r = .tup [.ref o 0, D.int 0] ∧ σ' = σ)) (hno : σ[o]? = some (dC n)) (hl : n.styles.length ≤ 1000) (hs : cG nP n.styles) : Ct Tryz.prog 93 [.ref m 0, D.int id, D.str s, D.int v] σ (fun r σ' => r = D.int 0 ∧ σ' = σ.set o (dC { n with styles := eH nP n.styles ⟨s, Cp v⟩ })) := by
 refine zf (rs:=[.tmp 8]) Tryz.func93 Tryz.ntmps93 Tryz.results93 ?_;simp only [aQ];refine aZ fun _ _ Z=>?_;simp[hno,aI hno,List.set_set];and_intros<;>(try omega);apply Z;refine aZ fun _ _ Z=>?_;refine aA 3 fun _ Y=>?_;simp[hno,aI hno,List.set_set];and_intros<;>(try omega);apply Y;simp only [List.drop];refine aF fun _ Y=>?_;simp[hno,aI hno,List.set_set];refine cO (hown) ?_;apply Y;simp[hno,aI hno,List.set_set];and_intros<;>(try omega);apply Z;apply aD;refine aZ fun _ _ Z=>?_;simp[hno,aI hno,List.set_set];and_intros<;>(try omega);apply Z;refine zi ?_;refine ⟨fun c1=>?_,fun c1=>?_⟩
 ·try simp at c1
  refine zk [2,3,8,9,10] ?_;refine ze ⟨[],[],[],[],[]⟩ [.op {},.op {},.op {},.op {},.op {rO:=true},.op {},.op {},.pure,.pure,.op {},.op {},.op {rO:=true,wO:=true}] fun all hall _ Z=>?_;refine aO 7 (by simp) fun _ Y=>?_;simp[hno,aI hno,List.set_set];and_intros<;>(try omega);apply Y;simp only [List.drop];refine dD fun _ Y=>?_;simp[hno,aI hno,List.set_set];refine Eu (fun _ => (aCt v _)) ?_;apply Y;refine dD fun _ Y=>?_;simp[hno,aI hno,List.set_set];refine Eu (fun _ => (aAi n.styles s (Cp v) _ (by omega) hs)) ?_;apply Y;simp[hno,aI hno,List.set_set];and_intros<;>(try omega);apply Z;apply aB;refine zk [8,10] ?_;refine aZ fun _ _ Z=>?_;simp[hno,aI hno,List.set_set];and_intros<;>(try omega);apply Z;apply aC;simp [aM, dC]
 ·simp at c1
theorem Zn (l : Ls) (c : ByteArray) (σ : List (List D)) (hl : l.length ≤ 1000000) : Ct Tryz.prog 132 [dl l, D.str c] σ (fun r σ' => r = dl (Og l c) ∧ σ' = σ) :=
 (aB2 l c σ hl).strip fun r σ' ⟨hr, hs⟩ => ⟨by rw [hr]; rfl, by rw [hr]; rfl, hs⟩
theorem Px (m : Nat) (id c : Int) (s : ByteArray) (σ : List (List D)) (hown : Ct Tryz.prog 123 [.ref m 0, D.int id, D.int 2, D.str s] σ (fun r σ' => r = .tup [.v (.pointer none), D.int c] ∧ σ' = σ)) (hc : ¬ c = 0) : Ct Tryz.prog 92 [.ref m 0, D.int id, D.str s] σ (fun r σ' => r = .int c ∧ σ' = σ) := by
 refine zf (rs:=[.tmp 6]) Tryz.func92 Tryz.ntmps92 Tryz.results92 ?_;simp only [aQ];refine aZ fun _ _ Z=>?_;simp;and_intros<;>(try omega);apply Z;refine aZ fun _ _ Z=>?_;refine aA 3 fun _ Y=>?_;simp;and_intros<;>(try omega);apply Y;simp only [List.drop];refine aF fun _ Y=>?_;simp;refine cO (hown) ?_;apply Y;simp;and_intros<;>(try omega);apply Z;apply aD;refine aZ fun _ _ Z=>?_;simp;and_intros<;>(try omega);apply Z;refine zi ?_;refine ⟨fun c1=>?_,fun c1=>?_⟩
 ·try simp at c1
  refine zk [2,6,7,8] ?_;refine aZ fun _ _ Z=>?_;simp;and_intros<;>(try omega);apply Z;apply aC;apply aJ;simp [aM]
 ·try simp at c1
  exact absurd c1 hc
theorem Wf (m o : Nat) (id : Int) (n : ND) (s : ByteArray) (σ : List (List D)) (hown : Ct Tryz.prog 123 [.ref m 0, D.int id, D.int 2, D.str s] σ (fun r σ' => r = .tup [.ref o 0, D.int 0] ∧ σ' = σ)) (hno : σ[o]? = some (dC n)) (hl : n.attrs.length ≤ 1000) (hs : cG nA n.attrs) (hbad : lB nA n.attrs s = false) : Ct Tryz.prog 92 [.ref m 0, D.int id, D.str s] σ (fun r σ' => r = .int 1 ∧ σ' = σ) := by
 refine zf (rs:=[.tmp 6]) Tryz.func92 Tryz.ntmps92 Tryz.results92 ?_;simp only [aQ];refine aZ fun _ _ Z=>?_;simp[hno,aI hno,List.set_set];and_intros<;>(try omega);apply Z;refine aZ fun _ _ Z=>?_;refine aA 3 fun _ Y=>?_;simp[hno,aI hno,List.set_set];and_intros<;>(try omega);apply Y;simp only [List.drop];refine aF fun _ Y=>?_;simp[hno,aI hno,List.set_set];refine cO (hown) ?_;apply Y;simp[hno,aI hno,List.set_set];and_intros<;>(try omega);apply Z;apply aD;refine aZ fun _ _ Z=>?_;simp[hno,aI hno,List.set_set];and_intros<;>(try omega);apply Z;refine zi ?_;refine ⟨fun c1=>?_,fun c1=>?_⟩
 ·simp at c1
 ·try simp at c1
  apply aG;apply aB;apply aD;refine zk [2,6,7] ?_;refine aZ fun _ _ Z=>?_;refine aA 5 fun _ Y=>?_;simp[hno,aI hno,List.set_set];and_intros<;>(try omega);apply Y;simp only [List.drop];refine aF fun _ Y=>?_;simp[hno,aI hno,List.set_set];refine zcm (Km n.attrs s _ (by omega) hs) ?_;rintro _ _ ⟨⟨gv, hr9⟩, hs9⟩;subst hr9;replace hs9 := hs9.symm;subst hs9;apply Y;simp[hno,aI hno,List.set_set];and_intros<;>(try omega);apply Z;refine zk [2,6,7,10] ?_;refine aZ fun _ _ Z=>?_;simp[hno,aI hno,List.set_set];and_intros<;>(try omega);apply Z;refine zi ?_;refine ⟨fun c2=>?_,fun c2=>?_⟩
  ·try simp at c2
   refine aZ fun _ _ Z=>?_;simp[hno,aI hno,List.set_set];and_intros<;>(try omega);apply Z;apply aC;apply aJ;simp [aM]
  ·try simp at c2
   rw [hbad] at c2; cases c2
theorem Qv (m o : Nat) (id : Int) (n : ND) (s : ByteArray) (σ : List (List D)) (hown : Ct Tryz.prog 123 [.ref m 0, D.int id, D.int 2, D.str s] σ (fun r σ' => r = .tup [.ref o 0, D.int 0] ∧ σ' = σ)) (hno : σ[o]? = some (dC n)) (hl : n.attrs.length ≤ 1000) (hs : cG nA n.attrs) (hgood : lB nA n.attrs s = true) : Ct Tryz.prog 92 [.ref m 0, D.int id, D.str s] σ (fun r σ' => r = D.int 0 ∧ σ' = σ.set o (dC { n with attrs := hD nA n.attrs s })) := by
 refine zf (rs:=[.tmp 6]) Tryz.func92 Tryz.ntmps92 Tryz.results92 ?_;simp only [aQ];refine aZ fun _ _ Z=>?_;simp[hno,aI hno,List.set_set];and_intros<;>(try omega);apply Z;refine aZ fun _ _ Z=>?_;refine aA 3 fun _ Y=>?_;simp[hno,aI hno,List.set_set];and_intros<;>(try omega);apply Y;simp only [List.drop];refine aF fun _ Y=>?_;simp[hno,aI hno,List.set_set];refine cO (hown) ?_;apply Y;simp[hno,aI hno,List.set_set];and_intros<;>(try omega);apply Z;apply aD;refine aZ fun _ _ Z=>?_;simp[hno,aI hno,List.set_set];and_intros<;>(try omega);apply Z;refine zi ?_;refine ⟨fun c1=>?_,fun c1=>?_⟩
 ·simp at c1
 ·try simp at c1
  apply aG;apply aB;apply aD;refine zk [2,6,7] ?_;refine aZ fun _ _ Z=>?_;refine aA 5 fun _ Y=>?_;simp[hno,aI hno,List.set_set];and_intros<;>(try omega);apply Y;simp only [List.drop];refine aF fun _ Y=>?_;simp[hno,aI hno,List.set_set];refine zcm (Km n.attrs s _ (by omega) hs) ?_;rintro _ _ ⟨⟨gv, hr9⟩, hs9⟩;subst hr9;replace hs9 := hs9.symm;subst hs9;apply Y;simp[hno,aI hno,List.set_set];and_intros<;>(try omega);apply Z;refine zk [2,6,7,10] ?_;refine aZ fun _ _ Z=>?_;simp[hno,aI hno,List.set_set];and_intros<;>(try omega);apply Z;refine zi ?_;refine ⟨fun c2=>?_,fun c2=>?_⟩
  ·try simp at c2
   rw [hgood] at c2; cases c2
  ·try simp at c2
   apply aG;apply aB;refine aZ fun _ _ Z=>?_;refine aA 6 fun _ Y=>?_;simp[hno,aI hno,List.set_set];and_intros<;>(try omega);apply Y;simp only [List.drop];refine aF fun _ Y=>?_;simp[hno,aI hno,List.set_set];refine cO (Sm n.attrs s _ (by omega) hs) ?_;apply Y;simp[hno,aI hno,List.set_set];and_intros<;>(try omega);apply Z;refine zk [6] ?_;refine aZ fun _ _ Z=>?_;simp[hno,aI hno,List.set_set];and_intros<;>(try omega);apply Z;apply aC;simp [aM, dC]
theorem Re (m : Nat) (id c : Int) (s : ByteArray) (σ : List (List D)) (hown : Ct Tryz.prog 123 [.ref m 0, D.int id, D.int 2, D.str s] σ (fun r σ' => r = .tup [.v (.pointer none), D.int c] ∧ σ' = σ)) (hc : ¬ c = 0) : Ct Tryz.prog 94 [.ref m 0, D.int id, D.str s] σ (fun r σ' => r = .int c ∧ σ' = σ) := by
 refine zf (rs:=[.tmp 6]) Tryz.func94 Tryz.ntmps94 Tryz.results94 ?_;simp only [aQ];refine aZ fun _ _ Z=>?_;simp;and_intros<;>(try omega);apply Z;refine aZ fun _ _ Z=>?_;refine aA 3 fun _ Y=>?_;simp;and_intros<;>(try omega);apply Y;simp only [List.drop];refine aF fun _ Y=>?_;simp;refine cO (hown) ?_;apply Y;simp;and_intros<;>(try omega);apply Z;apply aD;refine aZ fun _ _ Z=>?_;simp;and_intros<;>(try omega);apply Z;refine zi ?_;refine ⟨fun c1=>?_,fun c1=>?_⟩
 ·try simp at c1
  refine zk [2,6,7,8] ?_;refine aZ fun _ _ Z=>?_;simp;and_intros<;>(try omega);apply Z;apply aC;apply aJ;simp [aM]
 ·try simp at c1
  exact absurd c1 hc
theorem Sn (m o : Nat) (id : Int) (n : ND) (s : ByteArray) (σ : List (List D)) (hown : Ct Tryz.prog 123 [.ref m 0, D.int id, D.int 2, D.str s] σ (fun r σ' => r = .tup [.ref o 0, D.int 0] ∧ σ' = σ)) (hno : σ[o]? = some (dC n)) (hl : n.styles.length ≤ 1000) (hs : cG nP n.styles) (hbad : lB nP n.styles s = false) : Ct Tryz.prog 94 [.ref m 0, D.int id, D.str s] σ (fun r σ' => r = .int 1 ∧ σ' = σ) := by
 refine zf (rs:=[.tmp 6]) Tryz.func94 Tryz.ntmps94 Tryz.results94 ?_;simp only [aQ];refine aZ fun _ _ Z=>?_;simp[hno,aI hno,List.set_set];and_intros<;>(try omega);apply Z;refine aZ fun _ _ Z=>?_;refine aA 3 fun _ Y=>?_;simp[hno,aI hno,List.set_set];and_intros<;>(try omega);apply Y;simp only [List.drop];refine aF fun _ Y=>?_;simp[hno,aI hno,List.set_set];refine cO (hown) ?_;apply Y;simp[hno,aI hno,List.set_set];and_intros<;>(try omega);apply Z;apply aD;refine aZ fun _ _ Z=>?_;simp[hno,aI hno,List.set_set];and_intros<;>(try omega);apply Z;refine zi ?_;refine ⟨fun c1=>?_,fun c1=>?_⟩
 ·simp at c1
 ·try simp at c1
  apply aG;apply aB;apply aD;refine zk [2,6,7] ?_;refine aZ fun _ _ Z=>?_;refine aA 5 fun _ Y=>?_;simp[hno,aI hno,List.set_set];and_intros<;>(try omega);apply Y;simp only [List.drop];refine aF fun _ Y=>?_;simp[hno,aI hno,List.set_set];refine zcm (Ko n.styles s _ (by omega) hs) ?_;rintro _ _ ⟨⟨gv, hr9⟩, hs9⟩;subst hr9;replace hs9 := hs9.symm;subst hs9;apply Y;simp[hno,aI hno,List.set_set];and_intros<;>(try omega);apply Z;refine zk [2,6,7,10] ?_;refine aZ fun _ _ Z=>?_;simp[hno,aI hno,List.set_set];and_intros<;>(try omega);apply Z;refine zi ?_;refine ⟨fun c2=>?_,fun c2=>?_⟩
  ·try simp at c2
   refine aZ fun _ _ Z=>?_;simp[hno,aI hno,List.set_set];and_intros<;>(try omega);apply Z;apply aC;apply aJ;simp [aM]
  ·try simp at c2
   rw [hbad] at c2; cases c2
theorem Tk (m o : Nat) (id : Int) (n : ND) (s : ByteArray) (σ : List (List D)) (hown : Ct Tryz.prog 123 [.ref m 0, D.int id, D.int 2, D.str s] σ (fun r σ' => r = .tup [.ref o 0, D.int 0] ∧ σ' = σ)) (hno : σ[o]? = some (dC n)) (hl : n.styles.length ≤ 1000) (hs : cG nP n.styles) (hgood : lB nP n.styles s = true) : Ct Tryz.prog 94 [.ref m 0, D.int id, D.str s] σ (fun r σ' => r = D.int 0 ∧ σ' = σ.set o (dC { n with styles := hD nP n.styles s })) := by
 refine zf (rs:=[.tmp 6]) Tryz.func94 Tryz.ntmps94 Tryz.results94 ?_;simp only [aQ];refine aZ fun _ _ Z=>?_;simp[hno,aI hno,List.set_set];and_intros<;>(try omega);apply Z;refine aZ fun _ _ Z=>?_;refine aA 3 fun _ Y=>?_;simp[hno,aI hno,List.set_set];and_intros<;>(try omega);apply Y;simp only [List.drop];refine aF fun _ Y=>?_;simp[hno,aI hno,List.set_set];refine cO (hown) ?_;apply Y;simp[hno,aI hno,List.set_set];and_intros<;>(try omega);apply Z;apply aD;refine aZ fun _ _ Z=>?_;simp[hno,aI hno,List.set_set];and_intros<;>(try omega);apply Z;refine zi ?_;refine ⟨fun c1=>?_,fun c1=>?_⟩
 ·simp at c1
 ·try simp at c1
  apply aG;apply aB;apply aD;refine zk [2,6,7] ?_;refine aZ fun _ _ Z=>?_;refine aA 5 fun _ Y=>?_;simp[hno,aI hno,List.set_set];and_intros<;>(try omega);apply Y;simp only [List.drop];refine aF fun _ Y=>?_;simp[hno,aI hno,List.set_set];refine zcm (Ko n.styles s _ (by omega) hs) ?_;rintro _ _ ⟨⟨gv, hr9⟩, hs9⟩;subst hr9;replace hs9 := hs9.symm;subst hs9;apply Y;simp[hno,aI hno,List.set_set];and_intros<;>(try omega);apply Z;refine zk [2,6,7,10] ?_;refine aZ fun _ _ Z=>?_;simp[hno,aI hno,List.set_set];and_intros<;>(try omega);apply Z;refine zi ?_;refine ⟨fun c2=>?_,fun c2=>?_⟩
  ·try simp at c2
   rw [hgood] at c2; cases c2
  ·try simp at c2
   apply aG;apply aB;refine aZ fun _ _ Z=>?_;refine aA 6 fun _ Y=>?_;simp[hno,aI hno,List.set_set];and_intros<;>(try omega);apply Y;simp only [List.drop];refine aF fun _ Y=>?_;simp[hno,aI hno,List.set_set];refine cO (Qz n.styles s _ (by omega) hs) ?_;apply Y;simp[hno,aI hno,List.set_set];and_intros<;>(try omega);apply Z;refine zk [6] ?_;refine aZ fun _ _ Z=>?_;simp[hno,aI hno,List.set_set];and_intros<;>(try omega);apply Z;apply aC;simp [aM, dC]
theorem Qu (m : Nat) (id c : Int) (s : ByteArray) (σ : List (List D)) (hown : Ct Tryz.prog 123 [.ref m 0, D.int id, D.int 2, D.str s] σ (fun r σ' => r = .tup [.v (.pointer none), D.int c] ∧ σ' = σ)) (hc : ¬ c = 0) : Ct Tryz.prog 95 [.ref m 0, D.int id, D.str s] σ (fun r σ' => r = .int c ∧ σ' = σ) := by
 refine zf (rs:=[.tmp 6]) Tryz.func95 Tryz.ntmps95 Tryz.results95 ?_;simp only [aQ];refine aZ fun _ _ Z=>?_;simp;and_intros<;>(try omega);apply Z;refine aZ fun _ _ Z=>?_;refine aA 3 fun _ Y=>?_;simp;and_intros<;>(try omega);apply Y;simp only [List.drop];refine aF fun _ Y=>?_;simp;refine cO (hown) ?_;apply Y;simp;and_intros<;>(try omega);apply Z;apply aD;apply aK;refine aZ fun _ _ Z=>?_;simp;and_intros<;>(try omega);apply Z;refine zi ?_;refine ⟨fun c1=>?_,fun c1=>?_⟩
 ·try simp at c1
  refine zk [2,6,7,8] ?_;refine aZ fun _ _ Z=>?_;simp;and_intros<;>(try omega);apply Z;apply aC;apply aU;apply aJ;simp [aM]
 ·try simp at c1
  exact absurd c1 hc
theorem Uo (m o : Nat) (id : Int) (n : ND) (s : ByteArray) (σ : List (List D)) (hown : Ct Tryz.prog 123 [.ref m 0, D.int id, D.int 2, D.str s] σ (fun r σ' => r = .tup [.ref o 0, D.int 0] ∧ σ' = σ)) (hno : σ[o]? = some (dC n)) (hl : n.classes.length ≤ 1000) (hbad : qO s n.classes = true) : Ct Tryz.prog 95 [.ref m 0, D.int id, D.str s] σ (fun r σ' => r = .int 1 ∧ σ' = σ) := by
 refine zf (rs:=[.tmp 6]) Tryz.func95 Tryz.ntmps95 Tryz.results95 ?_;simp only [aQ];refine aZ fun _ _ Z=>?_;simp[hno,aI hno,List.set_set];and_intros<;>(try omega);apply Z;refine aZ fun _ _ Z=>?_;refine aA 3 fun _ Y=>?_;simp[hno,aI hno,List.set_set];and_intros<;>(try omega);apply Y;simp only [List.drop];refine aF fun _ Y=>?_;simp[hno,aI hno,List.set_set];refine cO (hown) ?_;apply Y;simp[hno,aI hno,List.set_set];and_intros<;>(try omega);apply Z;apply aD;apply aK;refine aZ fun _ _ Z=>?_;simp[hno,aI hno,List.set_set];and_intros<;>(try omega);apply Z;refine zi ?_;refine ⟨fun c1=>?_,fun c1=>?_⟩
 ·simp at c1
 ·try simp at c1
  refine zk [2,6,7] ?_;refine aZ fun _ _ Z=>?_;refine aA 5 fun _ Y=>?_;simp[hno,aI hno,List.set_set];and_intros<;>(try omega);apply Y;simp only [List.drop];refine aF fun _ Y=>?_;simp[hno,aI hno,List.set_set];refine cO (rD n.classes s _ (by omega)) ?_;apply Y;simp[hno,aI hno,List.set_set];and_intros<;>(try omega);apply Z;refine zi ?_;refine ⟨fun c2=>?_,fun c2=>?_⟩
  ·try simp at c2
   refine aZ fun _ _ Z=>?_;simp[hno,aI hno,List.set_set];and_intros<;>(try omega);apply Z;apply aC;apply aU;apply aJ;simp [aM]
  ·try simp at c2
   rw [hbad] at c2; cases c2
theorem Vo (m o : Nat) (id : Int) (n : ND) (s : ByteArray) (σ : List (List D)) (hown : Ct Tryz.prog 123 [.ref m 0, D.int id, D.int 2, D.str s] σ (fun r σ' => r = .tup [.ref o 0, D.int 0] ∧ σ' = σ)) (hno : σ[o]? = some (dC n)) (hl : n.classes.length ≤ 1000) (hgood : qO s n.classes = false) : Ct Tryz.prog 95 [.ref m 0, D.int id, D.str s] σ (fun r σ' => r = D.int 0 ∧ σ' = σ.set o (dC { n with classes := n.classes ++ [s] })) := by
 refine zf (rs:=[.tmp 6]) Tryz.func95 Tryz.ntmps95 Tryz.results95 ?_;simp only [aQ];refine aZ fun _ _ Z=>?_;simp[hno,aI hno,List.set_set];and_intros<;>(try omega);apply Z;refine aZ fun _ _ Z=>?_;refine aA 3 fun _ Y=>?_;simp[hno,aI hno,List.set_set];and_intros<;>(try omega);apply Y;simp only [List.drop];refine aF fun _ Y=>?_;simp[hno,aI hno,List.set_set];refine cO (hown) ?_;apply Y;simp[hno,aI hno,List.set_set];and_intros<;>(try omega);apply Z;apply aD;apply aK;refine aZ fun _ _ Z=>?_;simp[hno,aI hno,List.set_set];and_intros<;>(try omega);apply Z;refine zi ?_;refine ⟨fun c1=>?_,fun c1=>?_⟩
 ·simp at c1
 ·try simp at c1
  refine zk [2,6,7] ?_;refine aZ fun _ _ Z=>?_;refine aA 5 fun _ Y=>?_;simp[hno,aI hno,List.set_set];and_intros<;>(try omega);apply Y;simp only [List.drop];refine aF fun _ Y=>?_;simp[hno,aI hno,List.set_set];refine cO (rD n.classes s _ (by omega)) ?_;apply Y;simp[hno,aI hno,List.set_set];and_intros<;>(try omega);apply Z;refine zi ?_;refine ⟨fun c2=>?_,fun c2=>?_⟩
  ·try simp at c2
   rw [hgood] at c2; cases c2
  ·try simp at c2
   apply aG;apply aP;apply aB;refine aZ fun _ _ Z=>?_;refine aA 6 fun _ Y=>?_;simp[hno,aI hno,List.set_set];and_intros<;>(try omega);apply Y;simp only [List.drop];refine aF fun _ Y=>?_;simp[hno,aI hno,List.set_set];refine cO (Zn n.classes s _ (by omega)) ?_;rw [show Og n.classes s = n.classes ++ [s] from by unfold Og; rw [hgood]; rfl];apply Y;simp[hno,aI hno,List.set_set];and_intros<;>(try omega);apply Z;refine zk [6] ?_;refine aZ fun _ _ Z=>?_;simp[hno,aI hno,List.set_set];and_intros<;>(try omega);apply Z;apply aC;simp [aM, dC]
theorem Wa (m : Nat) (id c : Int) (s : ByteArray) (σ : List (List D)) (hown : Ct Tryz.prog 123 [.ref m 0, D.int id, D.int 2, D.str s] σ (fun r σ' => r = .tup [.v (.pointer none), D.int c] ∧ σ' = σ)) (hc : ¬ c = 0) : Ct Tryz.prog 96 [.ref m 0, D.int id, D.str s] σ (fun r σ' => r = .int c ∧ σ' = σ) := by
 refine zf (rs:=[.tmp 6]) Tryz.func96 Tryz.ntmps96 Tryz.results96 ?_;simp only [aQ];refine aZ fun _ _ Z=>?_;simp;and_intros<;>(try omega);apply Z;refine aZ fun _ _ Z=>?_;refine aA 3 fun _ Y=>?_;simp;and_intros<;>(try omega);apply Y;simp only [List.drop];refine aF fun _ Y=>?_;simp;refine cO (hown) ?_;apply Y;simp;and_intros<;>(try omega);apply Z;apply aD;apply aK;refine aZ fun _ _ Z=>?_;simp;and_intros<;>(try omega);apply Z;refine zi ?_;refine ⟨fun c1=>?_,fun c1=>?_⟩
 ·try simp at c1
  refine zk [2,6,7,8] ?_;refine aZ fun _ _ Z=>?_;simp;and_intros<;>(try omega);apply Z;apply aC;apply aU;apply aJ;simp [aM]
 ·try simp at c1
  exact absurd c1 hc
theorem Qp (m o : Nat) (id : Int) (n : ND) (s : ByteArray) (σ : List (List D)) (hown : Ct Tryz.prog 123 [.ref m 0, D.int id, D.int 2, D.str s] σ (fun r σ' => r = .tup [.ref o 0, D.int 0] ∧ σ' = σ)) (hno : σ[o]? = some (dC n)) (hl : n.classes.length ≤ 1000) (hbad : qO s n.classes = false) : Ct Tryz.prog 96 [.ref m 0, D.int id, D.str s] σ (fun r σ' => r = .int 1 ∧ σ' = σ) := by
 refine zf (rs:=[.tmp 6]) Tryz.func96 Tryz.ntmps96 Tryz.results96 ?_;simp only [aQ];refine aZ fun _ _ Z=>?_;simp[hno,aI hno,List.set_set];and_intros<;>(try omega);apply Z;refine aZ fun _ _ Z=>?_;refine aA 3 fun _ Y=>?_;simp[hno,aI hno,List.set_set];and_intros<;>(try omega);apply Y;simp only [List.drop];refine aF fun _ Y=>?_;simp[hno,aI hno,List.set_set];refine cO (hown) ?_;apply Y;simp[hno,aI hno,List.set_set];and_intros<;>(try omega);apply Z;apply aD;apply aK;refine aZ fun _ _ Z=>?_;simp[hno,aI hno,List.set_set];and_intros<;>(try omega);apply Z;refine zi ?_;refine ⟨fun c1=>?_,fun c1=>?_⟩
 ·simp at c1
 ·try simp at c1
  refine zk [2,6,7] ?_;refine aZ fun _ _ Z=>?_;refine aA 5 fun _ Y=>?_;simp[hno,aI hno,List.set_set];and_intros<;>(try omega);apply Y;simp only [List.drop];refine aF fun _ Y=>?_;simp[hno,aI hno,List.set_set];refine cO (rD n.classes s _ (by omega)) ?_;apply Y;simp[hno,aI hno,List.set_set];and_intros<;>(try omega);apply Z;refine zi ?_;refine ⟨fun c2=>?_,fun c2=>?_⟩
  ·try simp at c2
   refine aZ fun _ _ Z=>?_;simp[hno,aI hno,List.set_set];and_intros<;>(try omega);apply Z;apply aC;apply aU;apply aJ;simp [aM]
  ·try simp at c2
   rw [hbad] at c2; cases c2
theorem Ps (m o : Nat) (id : Int) (n : ND) (s : ByteArray) (σ : List (List D)) (hown : Ct Tryz.prog 123 [.ref m 0, D.int id, D.int 2, D.str s] σ (fun r σ' => r = .tup [.ref o 0, D.int 0] ∧ σ' = σ)) (hno : σ[o]? = some (dC n)) (hl : n.classes.length ≤ 1000) (hgood : qO s n.classes = true) : Ct Tryz.prog 96 [.ref m 0, D.int id, D.str s] σ (fun r σ' => r = D.int 0 ∧ σ' = σ.set o (dC { n with classes := jR n.classes s })) := by
 refine zf (rs:=[.tmp 6]) Tryz.func96 Tryz.ntmps96 Tryz.results96 ?_;simp only [aQ];refine aZ fun _ _ Z=>?_;simp[hno,aI hno,List.set_set];and_intros<;>(try omega);apply Z;refine aZ fun _ _ Z=>?_;refine aA 3 fun _ Y=>?_;simp[hno,aI hno,List.set_set];and_intros<;>(try omega);apply Y;simp only [List.drop];refine aF fun _ Y=>?_;simp[hno,aI hno,List.set_set];refine cO (hown) ?_;apply Y;simp[hno,aI hno,List.set_set];and_intros<;>(try omega);apply Z;apply aD;apply aK;refine aZ fun _ _ Z=>?_;simp[hno,aI hno,List.set_set];and_intros<;>(try omega);apply Z;refine zi ?_;refine ⟨fun c1=>?_,fun c1=>?_⟩
 ·simp at c1
 ·try simp at c1
  refine zk [2,6,7] ?_;refine aZ fun _ _ Z=>?_;refine aA 5 fun _ Y=>?_;simp[hno,aI hno,List.set_set];and_intros<;>(try omega);apply Y;simp only [List.drop];refine aF fun _ Y=>?_;simp[hno,aI hno,List.set_set];refine cO (rD n.classes s _ (by omega)) ?_;apply Y;simp[hno,aI hno,List.set_set];and_intros<;>(try omega);apply Z;refine zi ?_;refine ⟨fun c2=>?_,fun c2=>?_⟩
  ·try simp at c2
   rw [hgood] at c2; cases c2
  ·try simp at c2
   apply aG;apply aP;apply aB;refine aZ fun _ _ Z=>?_;refine aA 6 fun _ Y=>?_;simp[hno,aI hno,List.set_set];and_intros<;>(try omega);apply Y;simp only [List.drop];refine aF fun _ Y=>?_;simp[hno,aI hno,List.set_set];refine cO (Pz n.classes s _ (by omega)) ?_;apply Y;simp[hno,aI hno,List.set_set];and_intros<;>(try omega);apply Z;refine zk [6] ?_;refine aZ fun _ _ Z=>?_;simp[hno,aI hno,List.set_set];and_intros<;>(try omega);apply Z;apply aC;simp [aM, dC]
end Go.Proofs.YtpfmpeaekgdgnaaGreat


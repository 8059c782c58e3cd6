import Derived.Test.YtpfmpeaekgdgnaaGreatWkAr14
namespace Go.Proofs.YtpfmpeaekgdgnaaGreat
open Go Go.Vm
set_option maxRecDepth 20000
set_option linter.all false
set_option maxHeartbeats 8000000
def kX (n : ND) (kind : Int) (name : ByteArray) : Int := if n.ID = 0 then 1 else if ¬ n.kind = kind then 14 else if kind = 2 ∧ fE name = false then 2 else 0
theorem Jt {n : ND} {kind : Int} {name : ByteArray} (h : kX n kind name = 0) : ¬ n.ID = 0 ∧ n.kind = kind ∧ (kind = 2 → fE name = true) := by
 unfold kX at h;split at h
 ·cases h
 ·split at h
  ·cases h
  ·split at h
   ·cases h
   ·rename_i h1 h2 h3;refine ⟨h1, Classical.not_not.1 h2, fun hk => ?_⟩;cases hn : fE name with
    | true => rfl
    | false => exact absurd ⟨hk, hn⟩ h3
theorem Pn (m M : Nat) (d : DS) (id kind : Int) (name : ByteArray) (σ : List (List D)) (ho : DO m M d σ) (hno : dQ d.l id = false) : Ct Tryz.prog 123 [.ref m 0, D.int id, D.int kind, D.str name] σ (fun r σ' => r = .tup [.v (.pointer none), D.int 11] ∧ σ' = σ) := by
 refine zf (rs:=[.tmp 8,.tmp 9]) Tryz.func123 Tryz.ntmps123 Tryz.results123 ?_;simp only [aQ];have hq := ho.hm;refine bC fun _ _ Z=>?_;simp[hq];and_intros<;>(try omega);apply Z;refine bC fun _ _ Z=>?_;refine aA 6 fun _ Y=>?_;simp[hq];refine ⟨m, 2, d.ck, _, .v (.pointer none), ⟨⟨_, hq, rfl⟩, fZ _, .inl (kP hno _)⟩, ?_⟩;and_intros<;>(try omega);apply Y;simp only [List.drop];simp[hq];and_intros<;>(try omega);apply Z;apply aD;apply aK;refine bC fun _ _ Z=>?_;simp[hq];and_intros<;>(try omega);apply Z;refine zi ?_;refine ⟨fun c1=>?_,fun c1=>?_⟩
 ·try simp at c1
  refine zk [8,9,10] ?_;refine bC fun _ _ Z=>?_;simp[hq];and_intros<;>(try omega);apply Z;apply aE;apply aV;apply aL;simp [aN]
 ·simp at c1
theorem We (m M : Nat) (d : DS) (e : EN) (kind : Int) (name : ByteArray) (σ : List (List D)) (ho : DO m M d σ) (he : e ∈ d.es) (hs : name.size ≤ 1000) (hb : ¬ kX e.n kind name = 0) : Ct Tryz.prog 123 [.ref m 0, D.int e.n.ID, D.int kind, D.str name] σ (fun r σ' => r = .tup [.v (.pointer none), D.int (kX e.n kind name)] ∧ σ' = σ) := by
 refine zf (rs:=[.tmp 8,.tmp 9]) Tryz.func123 Tryz.ntmps123 Tryz.results123 ?_;simp only [aQ];have hq := ho.hm;have hne := ho.hn e he;refine bC fun _ _ Z=>?_;simp[hq,hne];and_intros<;>(try omega);apply Z;refine bC fun _ _ Z=>?_;refine aA 6 fun _ Y=>?_;simp[hq,hne];refine ⟨m, 2, d.ck, _, .ref e.o 0, ⟨⟨_, hq, rfl⟩, fZ _, .inr (dP he _)⟩, ?_⟩;and_intros<;>(try omega);apply Y;simp only [List.drop];simp[hq,hne];and_intros<;>(try omega);apply Z;apply aD;apply aK;refine bC fun _ _ Z=>?_;simp[hq,hne];and_intros<;>(try omega);apply Z;refine zi ?_;refine ⟨fun c1=>?_,fun c1=>?_⟩
 ·simp at c1
 ·try simp at c1
  refine zk [1,2,3,8,9,10] ?_;refine bC fun _ _ Z=>?_;simp[hq,hne];and_intros<;>(try omega);apply Z;refine zi ?_;refine ⟨fun c2=>?_,fun c2=>?_⟩
  ·try simp at c2
   refine bC fun _ _ Z=>?_;simp[hq,hne];and_intros<;>(try omega);apply Z;apply aE;apply aV;apply aL;simp [aN, kX, *]
  ·try simp at c2
   refine bC fun _ _ Z=>?_;simp[hq,hne];and_intros<;>(try omega);apply Z;refine zi ?_;refine ⟨fun c3=>?_,fun c3=>?_⟩
   ·try simp at c3
    refine zk [8,9,10] ?_;refine bC fun _ _ Z=>?_;simp[hq,hne];and_intros<;>(try omega);apply Z;apply aE;apply aV;apply aL;simp [aN, kX, *]
   ·try simp at c3
    refine zk [2,3,8,9,10] ?_;refine lH ⟨[],[],[],[],[]⟩ fun all hall _ Z=>?_;have ga2 : aS all 2 = some 33 := hall 2;refine aA 3 fun _ Y=>?_;simp[hq,hne,ga2];and_intros<;>(try omega);apply Y;simp only [List.drop];refine aX 33 (by simp <;> rfl) ?_;refine ⟨fun g4 => ?_, fun g4 => ?_⟩
    ·try simp at g4
     refine aA 1 fun _ Y=>?_;simp[hq,hne,ga2];and_intros<;>(try omega);apply Y;simp only [List.drop];refine zg ga2 fun _ Y=>?_;simp[hq,hne,ga2];refine cO (nR name _ (by omega)) ?_;apply Y;simp[hq,hne,ga2];and_intros<;>(try omega);apply Z;refine zi ?_;refine ⟨fun c5=>?_,fun c5=>?_⟩
     ·try simp at c5
      refine zk [8,9,10] ?_;refine bC fun _ _ Z=>?_;simp[hq,hne];and_intros<;>(try omega);apply Z;apply aE;apply aV;apply aL;simp [aN, kX, *]
     ·try simp at c5
      exact absurd (by simp [kX, c2, c3, g4, c5]) hb
    ·try simp at g4
     exact absurd (by simp [kX, c2, c3, g4]) hb
theorem Xy (m M : Nat) (d : DS) (e : EN) (kind : Int) (name : ByteArray) (σ : List (List D)) (ho : DO m M d σ) (he : e ∈ d.es) (hs : name.size ≤ 1000) (hb : kX e.n kind name = 0) : Ct Tryz.prog 123 [.ref m 0, D.int e.n.ID, D.int kind, D.str name] σ (fun r σ' => r = .tup [.ref e.o 0, D.int 0] ∧ σ' = σ) := by
 refine zf (rs:=[.tmp 8,.tmp 9]) Tryz.func123 Tryz.ntmps123 Tryz.results123 ?_;simp only [aQ];have hq := ho.hm;have hne := ho.hn e he;obtain ⟨o1, o2, o3⟩ := Jt hb;refine bC fun _ _ Z=>?_;simp[hq,hne];and_intros<;>(try omega);apply Z;refine bC fun _ _ Z=>?_;refine aA 6 fun _ Y=>?_;simp[hq,hne];refine ⟨m, 2, d.ck, _, .ref e.o 0, ⟨⟨_, hq, rfl⟩, fZ _, .inr (dP he _)⟩, ?_⟩;and_intros<;>(try omega);apply Y;simp only [List.drop];simp[hq,hne];and_intros<;>(try omega);apply Z;apply aD;apply aK;refine bC fun _ _ Z=>?_;simp[hq,hne];and_intros<;>(try omega);apply Z;refine zi ?_;refine ⟨fun c1=>?_,fun c1=>?_⟩
 ·simp at c1
 ·try simp at c1
  refine zk [1,2,3,8,9,10] ?_;refine bC fun _ _ Z=>?_;simp[hq,hne];and_intros<;>(try omega);apply Z;refine zi ?_;refine ⟨fun c2=>?_,fun c2=>?_⟩
  ·try simp at c2
   exact absurd c2 o1
  ·try simp at c2
   refine bC fun _ _ Z=>?_;simp[hq,hne];and_intros<;>(try omega);apply Z;refine zi ?_;refine ⟨fun c3=>?_,fun c3=>?_⟩
   ·try simp at c3
    exact absurd o2 c3
   ·try simp at c3
    refine zk [2,3,8,9,10] ?_;refine lH ⟨[],[],[],[],[]⟩ fun all hall _ Z=>?_;have ga2 : aS all 2 = some 33 := hall 2;refine aA 3 fun _ Y=>?_;simp[hq,hne,ga2];and_intros<;>(try omega);apply Y;simp only [List.drop];refine aX 33 (by simp <;> rfl) ?_;refine ⟨fun g4 => ?_, fun g4 => ?_⟩
    ·try simp at g4
     refine aA 1 fun _ Y=>?_;simp[hq,hne,ga2];and_intros<;>(try omega);apply Y;simp only [List.drop];refine zg ga2 fun _ Y=>?_;simp[hq,hne,ga2];refine cO (nR name _ (by omega)) ?_;apply Y;simp[hq,hne,ga2];and_intros<;>(try omega);apply Z;refine zi ?_;refine ⟨fun c5=>?_,fun c5=>?_⟩
     ·try simp at c5
      rw [o3 g4] at c5; cases c5
     ·try simp at c5
      apply aH;apply aP;apply aB;refine zk [8,9,10] ?_;refine bC fun _ _ Z=>?_;simp[hq,hne];and_intros<;>(try omega);apply Z;apply aE;simp [aN]
    ·try simp at g4
     simp[hq,hne,ga2];and_intros<;>(try omega);apply Z;refine bR (t := false) (by simp) (fun h => by cases h) (fun _ => ?_);apply aH;apply aP;apply aB;refine zk [8,9,10] ?_;refine bC fun _ _ Z=>?_;simp[hq,hne];and_intros<;>(try omega);apply Z;apply aE;simp [aN]
theorem Qm (m : Nat) (id c : Int) (s : ByteArray) (σ : List (List D)) (hown : Ct Tryz.prog 123 [.ref m 0, D.int id, D.int 2, D.str s] σ (fun r σ' => r = .tup [.v (.pointer none), D.int c] ∧ σ' = σ)) (hc : ¬ c = 0) : Ct Tryz.prog 89 [.ref m 0, D.int id, D.str s] σ (fun r σ' => r = .int c ∧ σ' = σ) := by
 refine zf (rs:=[.tmp 6]) Tryz.func89 Tryz.ntmps89 Tryz.results89 ?_;simp only [aQ];refine bC fun _ _ Z=>?_;simp;and_intros<;>(try omega);apply Z;refine bC fun _ _ Z=>?_;refine aA 3 fun _ Y=>?_;simp;and_intros<;>(try omega);apply Y;simp only [List.drop];refine aG fun _ Y=>?_;simp;refine cO (hown) ?_;apply Y;simp;and_intros<;>(try omega);apply Z;apply aD;refine bC fun _ _ Z=>?_;simp;and_intros<;>(try omega);apply Z;refine zi ?_;refine ⟨fun c1=>?_,fun c1=>?_⟩
 ·try simp at c1
  exact absurd c1 hc
 ·try simp at c1
  apply aH;apply aB;refine zk [6,8] ?_;refine bC fun _ _ Z=>?_;simp;and_intros<;>(try omega);apply Z;apply aE;simp [aN]
theorem Sw (m o : Nat) (id : Int) (n : ND) (s : ByteArray) (σ : List (List D)) (hown : Ct Tryz.prog 123 [.ref m 0, D.int id, D.int 2, D.str s] σ (fun r σ' => r = .tup [.ref o 0, D.int 0] ∧ σ' = σ)) (hno : σ[o]? = some (dD n)) : Ct Tryz.prog 89 [.ref m 0, D.int id, D.str s] σ (fun r σ' => r = D.int 0 ∧ σ' = σ.set o (dD { n with tag := s })) := by
 refine zf (rs:=[.tmp 6]) Tryz.func89 Tryz.ntmps89 Tryz.results89 ?_;simp only [aQ];refine bC fun _ _ Z=>?_;simp[hno,aJ hno,List.set_set];and_intros<;>(try omega);apply Z;refine bC fun _ _ Z=>?_;refine aA 3 fun _ Y=>?_;simp[hno,aJ hno,List.set_set];and_intros<;>(try omega);apply Y;simp only [List.drop];refine aG fun _ Y=>?_;simp[hno,aJ hno,List.set_set];refine cO (hown) ?_;apply Y;simp[hno,aJ hno,List.set_set];and_intros<;>(try omega);apply Z;apply aD;refine bC fun _ _ Z=>?_;simp[hno,aJ hno,List.set_set];and_intros<;>(try omega);apply Z;refine zi ?_;refine ⟨fun c1=>?_,fun c1=>?_⟩
 ·try simp at c1
  refine zk [2,6,7,8] ?_;refine vS fun _ _ Z=>?_;simp[hno,aJ hno,List.set_set];and_intros<;>(try omega);apply Z;apply aB;refine bC fun _ _ Z=>?_;simp[hno,aJ hno,List.set_set];and_intros<;>(try omega);apply Z;apply aE;simp [aN, dD]
 ·simp at c1
theorem Og (m : Nat) (id c : Int) (s : ByteArray) (σ : List (List D)) (hown : Ct Tryz.prog 123 [.ref m 0, D.int id, D.int 1, D.str ⟨#[]⟩] σ (fun r σ' => r = .tup [.v (.pointer none), D.int c] ∧ σ' = σ)) (hc : ¬ c = 0) : Ct Tryz.prog 90 [.ref m 0, D.int id, D.str s] σ (fun r σ' => r = .int c ∧ σ' = σ) := by
 refine zf (rs:=[.tmp 6]) Tryz.func90 Tryz.ntmps90 Tryz.results90 ?_;simp only [aQ];refine bC fun _ _ Z=>?_;simp;and_intros<;>(try omega);apply Z;refine bC fun _ _ Z=>?_;refine aA 2 fun _ Y=>?_;simp;and_intros<;>(try omega);apply Y;simp only [List.drop];refine aG fun _ Y=>?_;simp;refine cO (hown) ?_;apply Y;simp;and_intros<;>(try omega);apply Z;apply aD;refine bC fun _ _ Z=>?_;simp;and_intros<;>(try omega);apply Z;refine zi ?_;refine ⟨fun c1=>?_,fun c1=>?_⟩
 ·try simp at c1
  exact absurd c1 hc
 ·try simp at c1
  apply aH;apply aB;refine bC fun _ _ Z=>?_;simp;and_intros<;>(try omega);apply Z;apply aE;simp [aN]
theorem Py (m o : Nat) (id : Int) (n : ND) (s : ByteArray) (σ : List (List D)) (hown : Ct Tryz.prog 123 [.ref m 0, D.int id, D.int 1, D.str ⟨#[]⟩] σ (fun r σ' => r = .tup [.ref o 0, D.int 0] ∧ σ' = σ)) (hno : σ[o]? = some (dD n)) : Ct Tryz.prog 90 [.ref m 0, D.int id, D.str s] σ (fun r σ' => r = D.int 0 ∧ σ' = σ.set o (dD { n with text := s })) := by
 refine zf (rs:=[.tmp 6]) Tryz.func90 Tryz.ntmps90 Tryz.results90 ?_;simp only [aQ];refine bC fun _ _ Z=>?_;simp[hno,aJ hno,List.set_set];and_intros<;>(try omega);apply Z;refine bC fun _ _ Z=>?_;refine aA 2 fun _ Y=>?_;simp[hno,aJ hno,List.set_set];and_intros<;>(try omega);apply Y;simp only [List.drop];refine aG fun _ Y=>?_;simp[hno,aJ hno,List.set_set];refine cO (hown) ?_;apply Y;simp[hno,aJ hno,List.set_set];and_intros<;>(try omega);apply Z;apply aD;refine bC fun _ _ Z=>?_;simp[hno,aJ hno,List.set_set];and_intros<;>(try omega);apply Z;refine zi ?_;refine ⟨fun c1=>?_,fun c1=>?_⟩
 ·try simp at c1
  refine vS fun _ _ Z=>?_;simp[hno,aJ hno,List.set_set];and_intros<;>(try omega);apply Z;apply aB;refine zk [6,8] ?_;refine bC fun _ _ Z=>?_;simp[hno,aJ hno,List.set_set];and_intros<;>(try omega);apply Z;apply aE;simp [aN, dD]
 ·simp at c1
theorem Qe (m : Nat) (id c : Int) (s : ByteArray) (v : ByteArray) (σ : List (List D)) (hown : Ct Tryz.prog 123 [.ref m 0, D.int id, D.int 2, D.str s] σ (fun r σ' => r = .tup [.v (.pointer none), D.int c] ∧ σ' = σ)) (hc : ¬ c = 0) : Ct Tryz.prog 91 [.ref m 0, D.int id, D.str s, D.str v] σ (fun r σ' => r = .int c ∧ σ' = σ) := by
 refine zf (rs:=[.tmp 8]) Tryz.func91 Tryz.ntmps91 Tryz.results91 ?_;simp only [aQ];refine bC fun _ _ Z=>?_;simp;and_intros<;>(try omega);apply Z;refine bC fun _ _ Z=>?_;refine aA 3 fun _ Y=>?_;simp;and_intros<;>(try omega);apply Y;simp only [List.drop];refine aG fun _ Y=>?_;simp;refine cO (hown) ?_;apply Y;simp;and_intros<;>(try omega);apply Z;apply aD;refine bC fun _ _ Z=>?_;simp;and_intros<;>(try omega);apply Z;refine zi ?_;refine ⟨fun c1=>?_,fun c1=>?_⟩
 ·try simp at c1
  exact absurd c1 hc
 ·try simp at c1
  apply aH;apply aB;refine zk [8,10] ?_;refine bC fun _ _ Z=>?_;simp;and_intros<;>(try omega);apply Z;apply aE;simp [aN]
theorem Si (m o : Nat) (id : Int) (n : ND) (s : ByteArray) (v : ByteArray) (σ : List (List D)) (hown : Ct Tryz.prog 123 [.ref m 0, D.int id, D.int 2, D.str s] σ (fun r σ' => r = .tup [.ref o 0, D.int 0] ∧ σ' = σ)) (hno : σ[o]? = some (dD n)) (hl : n.attrs.length ≤ 1000) (hs : cC nA n.attrs) : Ct Tryz.prog 91 [.ref m 0, D.int id, D.str s, D.str v] σ (fun r σ' => r = D.int 0 ∧ σ' = σ.set o (dD { n with attrs := eF nA n.attrs ⟨s, v⟩ })) := by
 refine zf (rs:=[.tmp 8]) Tryz.func91 Tryz.ntmps91 Tryz.results91 ?_;simp only [aQ];refine bC fun _ _ Z=>?_;simp[hno,aJ hno,List.set_set];and_intros<;>(try omega);apply Z;refine bC fun _ _ Z=>?_;refine aA 3 fun _ Y=>?_;simp[hno,aJ hno,List.set_set];and_intros<;>(try omega);apply Y;simp only [List.drop];refine aG fun _ Y=>?_;simp[hno,aJ hno,List.set_set];refine cO (hown) ?_;apply Y;simp[hno,aJ hno,List.set_set];and_intros<;>(try omega);apply Z;apply aD;refine bC fun _ _ Z=>?_;simp[hno,aJ hno,List.set_set];and_intros<;>(try omega);apply Z;refine zi ?_;refine ⟨fun c1=>?_,fun c1=>?_⟩
 ·try simp at c1
  refine zk [2,3,8,9,10] ?_;refine vS fun _ _ Z=>?_;refine aA 7 fun _ Y=>?_;simp[hno,aJ hno,List.set_set];and_intros<;>(try omega);apply Y;simp only [List.drop];refine aG fun _ Y=>?_;simp[hno,aJ hno,List.set_set];refine cO (Wu n.attrs s v _ (by omega) hs) ?_;apply Y;simp[hno,aJ hno,List.set_set];and_intros<;>(try omega);apply Z;apply aB;refine zk [8,10] ?_;refine bC fun _ _ Z=>?_;simp[hno,aJ hno,List.set_set];and_intros<;>(try omega);apply Z;apply aE;simp [aN, dD]
 ·simp at c1
theorem Ti (m : Nat) (id c : Int) (s : ByteArray) (v : Int) (σ : List (List D)) (hown : Ct Tryz.prog 123 [.ref m 0, D.int id, D.int 2, D.str s] σ (fun r σ' => r = .tup [.v (.pointer none), D.int c] ∧ σ' = σ)) (hc : ¬ c = 0) : Ct Tryz.prog 93 [.ref m 0, D.int id, D.str s, D.int v] σ (fun r σ' => r = .int c ∧ σ' = σ) := by
 refine zf (rs:=[.tmp 8]) Tryz.func93 Tryz.ntmps93 Tryz.results93 ?_;simp only [aQ];refine bC fun _ _ Z=>?_;simp;and_intros<;>(try omega);apply Z;refine bC fun _ _ Z=>?_;refine aA 3 fun _ Y=>?_;simp;and_intros<;>(try omega);apply Y;simp only [List.drop];refine aG fun _ Y=>?_;simp;refine cO (hown) ?_;apply Y;simp;and_intros<;>(try omega);apply Z;apply aD;refine bC fun _ _ Z=>?_;simp;and_intros<;>(try omega);apply Z;refine zi ?_;refine ⟨fun c1=>?_,fun c1=>?_⟩
 ·try simp at c1
  exact absurd c1 hc
 ·try simp at c1
  apply aH;apply aB;refine zk [8,10] ?_;refine bC fun _ _ Z=>?_;simp;and_intros<;>(try omega);apply Z;apply aE;simp [aN]
theorem Pe (m o : Nat) (id : Int) (n : ND) (s : ByteArray) (v : Int) (σ : List (List D)) (hown : Ct Tryz.prog 123 [.ref m 0, D.int id, D.int 2, D.str s] σ (fun r σ' => r = .tup [.ref o 0, D.int 0] ∧ σ' = σ)) (hno : σ[o]? = some (dD n)) (hl : n.styles.length ≤ 1000) (hs : cC nP n.styles) : Ct Tryz.prog 93 [.ref m 0, D.int id, D.str s, D.int v] σ (fun r σ' => r = D.int 0 ∧ σ' = σ.set o (dD { n with styles := eF nP n.styles ⟨s, Bd v⟩ })) := by
 refine zf (rs:=[.tmp 8]) Tryz.func93 Tryz.ntmps93 Tryz.results93 ?_;simp only [aQ];refine bC fun _ _ Z=>?_;simp[hno,aJ hno,List.set_set];and_intros<;>(try omega);apply Z;refine bC fun _ _ Z=>?_;refine aA 3 fun _ Y=>?_;simp[hno,aJ hno,List.set_set];and_intros<;>(try omega);apply Y;simp only [List.drop];refine aG fun _ Y=>?_;simp[hno,aJ hno,List.set_set];refine cO (hown) ?_;apply Y;simp[hno,aJ hno,List.set_set];and_intros<;>(try omega);apply Z;apply aD;refine bC fun _ _ Z=>?_;simp[hno,aJ hno,List.set_set];and_intros<;>(try omega);apply Z;refine zi ?_;refine ⟨fun c1=>?_,fun c1=>?_⟩
 ·try simp at c1
  refine zk [2,3,8,9,10] ?_;refine ze ⟨[],[],[],[],[]⟩ [.op {},.op {},.op {},.op {},.op {rO:=true},.op {},.op {},.pure,.pure,.op {},.op {},.op {rO:=true,wO:=true}] fun all hall _ Z=>?_;refine aR 7 (by simp) fun _ Y=>?_;simp[hno,aJ hno,List.set_set];and_intros<;>(try omega);apply Y;simp only [List.drop];refine dH fun _ Y=>?_;simp[hno,aJ hno,List.set_set];refine Js (fun _ => (aAb v _)) ?_;apply Y;refine dH fun _ Y=>?_;simp[hno,aJ hno,List.set_set];refine Js (fun _ => (Yq n.styles s (Bd v) _ (by omega) hs)) ?_;apply Y;simp[hno,aJ hno,List.set_set];and_intros<;>(try omega);apply Z;apply aB;refine zk [8,10] ?_;refine bC fun _ _ Z=>?_;simp[hno,aJ hno,List.set_set];and_intros<;>(try omega);apply Z;apply aE;simp [aN, dD]
 ·simp at c1
theorem Xi (l : Ls) (c : ByteArray) (σ : List (List D)) (hl : l.length ≤ 1000000) : Ct Tryz.prog 132 [dl l, D.str c] σ (fun r σ' => r = dl (Mu l c) ∧ σ' = σ) :=
 (aA7 l c σ hl).strip fun r σ' ⟨hr, hs⟩ => ⟨by rw [hr]; rfl, by rw [hr]; rfl, hs⟩
theorem Qf (m : Nat) (id c : Int) (s : ByteArray) (σ : List (List D)) (hown : Ct Tryz.prog 123 [.ref m 0, D.int id, D.int 2, D.str s] σ (fun r σ' => r = .tup [.v (.pointer none), D.int c] ∧ σ' = σ)) (hc : ¬ c = 0) : Ct Tryz.prog 92 [.ref m 0, D.int id, D.str s] σ (fun r σ' => r = .int c ∧ σ' = σ) := by
 refine zf (rs:=[.tmp 6]) Tryz.func92 Tryz.ntmps92 Tryz.results92 ?_;simp only [aQ];refine bC fun _ _ Z=>?_;simp;and_intros<;>(try omega);apply Z;refine bC fun _ _ Z=>?_;refine aA 3 fun _ Y=>?_;simp;and_intros<;>(try omega);apply Y;simp only [List.drop];refine aG fun _ Y=>?_;simp;refine cO (hown) ?_;apply Y;simp;and_intros<;>(try omega);apply Z;apply aD;refine bC fun _ _ Z=>?_;simp;and_intros<;>(try omega);apply Z;refine zi ?_;refine ⟨fun c1=>?_,fun c1=>?_⟩
 ·try simp at c1
  refine zk [2,6,7,8] ?_;refine bC fun _ _ Z=>?_;simp;and_intros<;>(try omega);apply Z;apply aE;apply aL;simp [aN]
 ·try simp at c1
  exact absurd c1 hc
theorem Rn (m o : Nat) (id : Int) (n : ND) (s : ByteArray) (σ : List (List D)) (hown : Ct Tryz.prog 123 [.ref m 0, D.int id, D.int 2, D.str s] σ (fun r σ' => r = .tup [.ref o 0, D.int 0] ∧ σ' = σ)) (hno : σ[o]? = some (dD n)) (hl : n.attrs.length ≤ 1000) (hs : cC nA n.attrs) (hbad : kY nA n.attrs s = false) : Ct Tryz.prog 92 [.ref m 0, D.int id, D.str s] σ (fun r σ' => r = .int 1 ∧ σ' = σ) := by
 refine zf (rs:=[.tmp 6]) Tryz.func92 Tryz.ntmps92 Tryz.results92 ?_;simp only [aQ];refine bC fun _ _ Z=>?_;simp[hno,aJ hno,List.set_set];and_intros<;>(try omega);apply Z;refine bC fun _ _ Z=>?_;refine aA 3 fun _ Y=>?_;simp[hno,aJ hno,List.set_set];and_intros<;>(try omega);apply Y;simp only [List.drop];refine aG fun _ Y=>?_;simp[hno,aJ hno,List.set_set];refine cO (hown) ?_;apply Y;simp[hno,aJ hno,List.set_set];and_intros<;>(try omega);apply Z;apply aD;refine bC fun _ _ Z=>?_;simp[hno,aJ hno,List.set_set];and_intros<;>(try omega);apply Z;refine zi ?_;refine ⟨fun c1=>?_,fun c1=>?_⟩
 ·simp at c1
 ·try simp at c1
  apply aH;apply aB;apply aD;refine zk [2,6,7] ?_;refine bC fun _ _ Z=>?_;refine aA 5 fun _ Y=>?_;simp[hno,aJ hno,List.set_set];and_intros<;>(try omega);apply Y;simp only [List.drop];refine aG fun _ Y=>?_;simp[hno,aJ hno,List.set_set];refine Vi (Ic n.attrs s _ (by omega) hs) ?_;rintro _ _ ⟨⟨gv, hr9⟩, hs9⟩;subst hr9;replace hs9 := hs9.symm;subst hs9;apply Y;simp[hno,aJ hno,List.set_set];and_intros<;>(try omega);apply Z;refine zk [2,6,7,10] ?_;refine bC fun _ _ Z=>?_;simp[hno,aJ hno,List.set_set];and_intros<;>(try omega);apply Z;refine zi ?_;refine ⟨fun c2=>?_,fun c2=>?_⟩
  ·try simp at c2
   refine bC fun _ _ Z=>?_;simp[hno,aJ hno,List.set_set];and_intros<;>(try omega);apply Z;apply aE;apply aL;simp [aN]
  ·try simp at c2
   rw [hbad] at c2; cases c2
theorem Sz (m o : Nat) (id : Int) (n : ND) (s : ByteArray) (σ : List (List D)) (hown : Ct Tryz.prog 123 [.ref m 0, D.int id, D.int 2, D.str s] σ (fun r σ' => r = .tup [.ref o 0, D.int 0] ∧ σ' = σ)) (hno : σ[o]? = some (dD n)) (hl : n.attrs.length ≤ 1000) (hs : cC nA n.attrs) (hgood : kY nA n.attrs s = true) : Ct Tryz.prog 92 [.ref m 0, D.int id, D.str s] σ (fun r σ' => r = D.int 0 ∧ σ' = σ.set o (dD { n with attrs := gW nA n.attrs s })) := by
 refine zf (rs:=[.tmp 6]) Tryz.func92 Tryz.ntmps92 Tryz.results92 ?_;simp only [aQ];refine bC fun _ _ Z=>?_;simp[hno,aJ hno,List.set_set];and_intros<;>(try omega);apply Z;refine bC fun _ _ Z=>?_;refine aA 3 fun _ Y=>?_;simp[hno,aJ hno,List.set_set];and_intros<;>(try omega);apply Y;simp only [List.drop];refine aG fun _ Y=>?_;simp[hno,aJ hno,List.set_set];refine cO (hown) ?_;apply Y;simp[hno,aJ hno,List.set_set];and_intros<;>(try omega);apply Z;apply aD;refine bC fun _ _ Z=>?_;simp[hno,aJ hno,List.set_set];and_intros<;>(try omega);apply Z;refine zi ?_;refine ⟨fun c1=>?_,fun c1=>?_⟩
 ·simp at c1
 ·try simp at c1
  apply aH;apply aB;apply aD;refine zk [2,6,7] ?_;refine bC fun _ _ Z=>?_;refine aA 5 fun _ Y=>?_;simp[hno,aJ hno,List.set_set];and_intros<;>(try omega);apply Y;simp only [List.drop];refine aG fun _ Y=>?_;simp[hno,aJ hno,List.set_set];refine Vi (Ic n.attrs s _ (by omega) hs) ?_;rintro _ _ ⟨⟨gv, hr9⟩, hs9⟩;subst hr9;replace hs9 := hs9.symm;subst hs9;apply Y;simp[hno,aJ hno,List.set_set];and_intros<;>(try omega);apply Z;refine zk [2,6,7,10] ?_;refine bC fun _ _ Z=>?_;simp[hno,aJ hno,List.set_set];and_intros<;>(try omega);apply Z;refine zi ?_;refine ⟨fun c2=>?_,fun c2=>?_⟩
  ·try simp at c2
   rw [hgood] at c2; cases c2
  ·try simp at c2
   apply aH;apply aB;refine bC fun _ _ Z=>?_;refine aA 6 fun _ Y=>?_;simp[hno,aJ hno,List.set_set];and_intros<;>(try omega);apply Y;simp only [List.drop];refine aG fun _ Y=>?_;simp[hno,aJ hno,List.set_set];refine cO (Sf n.attrs s _ (by omega) hs) ?_;apply Y;simp[hno,aJ hno,List.set_set];and_intros<;>(try omega);apply Z;refine zk [6] ?_;refine bC fun _ _ Z=>?_;simp[hno,aJ hno,List.set_set];and_intros<;>(try omega);apply Z;apply aE;simp [aN, dD]
theorem Pk (m : Nat) (id c : Int) (s : ByteArray) (σ : List (List D)) (hown : Ct Tryz.prog 123 [.ref m 0, D.int id, D.int 2, D.str s] σ (fun r σ' => r = .tup [.v (.pointer none), D.int c] ∧ σ' = σ)) (hc : ¬ c = 0) : Ct Tryz.prog 94 [.ref m 0, D.int id, D.str s] σ (fun r σ' => r = .int c ∧ σ' = σ) := by
 refine zf (rs:=[.tmp 6]) Tryz.func94 Tryz.ntmps94 Tryz.results94 ?_;simp only [aQ];refine bC fun _ _ Z=>?_;simp;and_intros<;>(try omega);apply Z;refine bC fun _ _ Z=>?_;refine aA 3 fun _ Y=>?_;simp;and_intros<;>(try omega);apply Y;simp only [List.drop];refine aG fun _ Y=>?_;simp;refine cO (hown) ?_;apply Y;simp;and_intros<;>(try omega);apply Z;apply aD;refine bC fun _ _ Z=>?_;simp;and_intros<;>(try omega);apply Z;refine zi ?_;refine ⟨fun c1=>?_,fun c1=>?_⟩
 ·try simp at c1
  refine zk [2,6,7,8] ?_;refine bC fun _ _ Z=>?_;simp;and_intros<;>(try omega);apply Z;apply aE;apply aL;simp [aN]
 ·try simp at c1
  exact absurd c1 hc
theorem Rj (m o : Nat) (id : Int) (n : ND) (s : ByteArray) (σ : List (List D)) (hown : Ct Tryz.prog 123 [.ref m 0, D.int id, D.int 2, D.str s] σ (fun r σ' => r = .tup [.ref o 0, D.int 0] ∧ σ' = σ)) (hno : σ[o]? = some (dD n)) (hl : n.styles.length ≤ 1000) (hs : cC nP n.styles) (hbad : kY nP n.styles s = false) : Ct Tryz.prog 94 [.ref m 0, D.int id, D.str s] σ (fun r σ' => r = .int 1 ∧ σ' = σ) := by
 refine zf (rs:=[.tmp 6]) Tryz.func94 Tryz.ntmps94 Tryz.results94 ?_;simp only [aQ];refine bC fun _ _ Z=>?_;simp[hno,aJ hno,List.set_set];and_intros<;>(try omega);apply Z;refine bC fun _ _ Z=>?_;refine aA 3 fun _ Y=>?_;simp[hno,aJ hno,List.set_set];and_intros<;>(try omega);apply Y;simp only [List.drop];refine aG fun _ Y=>?_;simp[hno,aJ hno,List.set_set];refine cO (hown) ?_;apply Y;simp[hno,aJ hno,List.set_set];and_intros<;>(try omega);apply Z;apply aD;refine bC fun _ _ Z=>?_;simp[hno,aJ hno,List.set_set];and_intros<;>(try omega);apply Z;refine zi ?_;refine ⟨fun c1=>?_,fun c1=>?_⟩
 ·simp at c1
 ·try simp at c1
  apply aH;apply aB;apply aD;refine zk [2,6,7] ?_;refine bC fun _ _ Z=>?_;refine aA 5 fun _ Y=>?_;simp[hno,aJ hno,List.set_set];and_intros<;>(try omega);apply Y;simp only [List.drop];refine aG fun _ Y=>?_;simp[hno,aJ hno,List.set_set];refine Vi (Jn n.styles s _ (by omega) hs) ?_;rintro _ _ ⟨⟨gv, hr9⟩, hs9⟩;subst hr9;replace hs9 := hs9.symm;subst hs9;apply Y;simp[hno,aJ hno,List.set_set];and_intros<;>(try omega);apply Z;refine zk [2,6,7,10] ?_;refine bC fun _ _ Z=>?_;simp[hno,aJ hno,List.set_set];and_intros<;>(try omega);apply Z;refine zi ?_;refine ⟨fun c2=>?_,fun c2=>?_⟩
  ·try simp at c2
   refine bC fun _ _ Z=>?_;simp[hno,aJ hno,List.set_set];and_intros<;>(try omega);apply Z;apply aE;apply aL;simp [aN]
  ·try simp at c2
   rw [hbad] at c2; cases c2
theorem Pu (m o : Nat) (id : Int) (n : ND) (s : ByteArray) (σ : List (List D)) (hown : Ct Tryz.prog 123 [.ref m 0, D.int id, D.int 2, D.str s] σ (fun r σ' => r = .tup [.ref o 0, D.int 0] ∧ σ' = σ)) (hno : σ[o]? = some (dD n)) (hl : n.styles.length ≤ 1000) (hs : cC nP n.styles) (hgood : kY nP n.styles s = true) : Ct Tryz.prog 94 [.ref m 0, D.int id, D.str s] σ (fun r σ' => r = D.int 0 ∧ σ' = σ.set o (dD { n with styles := gW nP n.styles s })) := by
 refine zf (rs:=[.tmp 6]) Tryz.func94 Tryz.ntmps94 Tryz.results94 ?_;simp only [aQ];refine bC fun _ _ Z=>?_;simp[hno,aJ hno,List.set_set];and_intros<;>(try omega);apply Z;refine bC fun _ _ Z=>?_;refine aA 3 fun _ Y=>?_;simp[hno,aJ hno,List.set_set];and_intros<;>(try omega);apply Y;simp only [List.drop];refine aG fun _ Y=>?_;simp[hno,aJ hno,List.set_set];refine cO (hown) ?_;apply Y;simp[hno,aJ hno,List.set_set];and_intros<;>(try omega);apply Z;apply aD;refine bC fun _ _ Z=>?_;simp[hno,aJ hno,List.set_set];and_intros<;>(try omega);apply Z;refine zi ?_;refine ⟨fun c1=>?_,fun c1=>?_⟩
 ·simp at c1
 ·try simp at c1
  apply aH;apply aB;apply aD;refine zk [2,6,7] ?_;refine bC fun _ _ Z=>?_;refine aA 5 fun _ Y=>?_;simp[hno,aJ hno,List.set_set];and_intros<;>(try omega);apply Y;simp only [List.drop];refine aG fun _ Y=>?_;simp[hno,aJ hno,List.set_set];refine Vi (Jn n.styles s _ (by omega) hs) ?_;rintro _ _ ⟨⟨gv, hr9⟩, hs9⟩;subst hr9;replace hs9 := hs9.symm;subst hs9;apply Y;simp[hno,aJ hno,List.set_set];and_intros<;>(try omega);apply Z;refine zk [2,6,7,10] ?_;refine bC fun _ _ Z=>?_;simp[hno,aJ hno,List.set_set];and_intros<;>(try omega);apply Z;refine zi ?_;refine ⟨fun c2=>?_,fun c2=>?_⟩
  ·try simp at c2
   rw [hgood] at c2; cases c2
  ·try simp at c2
   apply aH;apply aB;refine bC fun _ _ Z=>?_;refine aA 6 fun _ Y=>?_;simp[hno,aJ hno,List.set_set];and_intros<;>(try omega);apply Y;simp only [List.drop];refine aG fun _ Y=>?_;simp[hno,aJ hno,List.set_set];refine cO (Ss n.styles s _ (by omega) hs) ?_;apply Y;simp[hno,aJ hno,List.set_set];and_intros<;>(try omega);apply Z;refine zk [6] ?_;refine bC fun _ _ Z=>?_;simp[hno,aJ hno,List.set_set];and_intros<;>(try omega);apply Z;apply aE;simp [aN, dD]
theorem Ta (m : Nat) (id c : Int) (s : ByteArray) (σ : List (List D)) (hown : Ct Tryz.prog 123 [.ref m 0, D.int id, D.int 2, D.str s] σ (fun r σ' => r = .tup [.v (.pointer none), D.int c] ∧ σ' = σ)) (hc : ¬ c = 0) : Ct Tryz.prog 95 [.ref m 0, D.int id, D.str s] σ (fun r σ' => r = .int c ∧ σ' = σ) := by
 refine zf (rs:=[.tmp 6]) Tryz.func95 Tryz.ntmps95 Tryz.results95 ?_;simp only [aQ];refine bC fun _ _ Z=>?_;simp;and_intros<;>(try omega);apply Z;refine bC fun _ _ Z=>?_;refine aA 3 fun _ Y=>?_;simp;and_intros<;>(try omega);apply Y;simp only [List.drop];refine aG fun _ Y=>?_;simp;refine cO (hown) ?_;apply Y;simp;and_intros<;>(try omega);apply Z;apply aD;apply aK;refine bC fun _ _ Z=>?_;simp;and_intros<;>(try omega);apply Z;refine zi ?_;refine ⟨fun c1=>?_,fun c1=>?_⟩
 ·try simp at c1
  refine zk [2,6,7,8] ?_;refine bC fun _ _ Z=>?_;simp;and_intros<;>(try omega);apply Z;apply aE;apply aV;apply aL;simp [aN]
 ·try simp at c1
  exact absurd c1 hc
theorem Of (m o : Nat) (id : Int) (n : ND) (s : ByteArray) (σ : List (List D)) (hown : Ct Tryz.prog 123 [.ref m 0, D.int id, D.int 2, D.str s] σ (fun r σ' => r = .tup [.ref o 0, D.int 0] ∧ σ' = σ)) (hno : σ[o]? = some (dD n)) (hl : n.classes.length ≤ 1000) (hbad : qB s n.classes = true) : Ct Tryz.prog 95 [.ref m 0, D.int id, D.str s] σ (fun r σ' => r = .int 1 ∧ σ' = σ) := by
 refine zf (rs:=[.tmp 6]) Tryz.func95 Tryz.ntmps95 Tryz.results95 ?_;simp only [aQ];refine bC fun _ _ Z=>?_;simp[hno,aJ hno,List.set_set];and_intros<;>(try omega);apply Z;refine bC fun _ _ Z=>?_;refine aA 3 fun _ Y=>?_;simp[hno,aJ hno,List.set_set];and_intros<;>(try omega);apply Y;simp only [List.drop];refine aG fun _ Y=>?_;simp[hno,aJ hno,List.set_set];refine cO (hown) ?_;apply Y;simp[hno,aJ hno,List.set_set];and_intros<;>(try omega);apply Z;apply aD;apply aK;refine bC fun _ _ Z=>?_;simp[hno,aJ hno,List.set_set];and_intros<;>(try omega);apply Z;refine zi ?_;refine ⟨fun c1=>?_,fun c1=>?_⟩
 ·simp at c1
 ·try simp at c1
  refine zk [2,6,7] ?_;refine bC fun _ _ Z=>?_;refine aA 5 fun _ Y=>?_;simp[hno,aJ hno,List.set_set];and_intros<;>(try omega);apply Y;simp only [List.drop];refine aG fun _ Y=>?_;simp[hno,aJ hno,List.set_set];refine cO (qG n.classes s _ (by omega)) ?_;apply Y;simp[hno,aJ hno,List.set_set];and_intros<;>(try omega);apply Z;refine zi ?_;refine ⟨fun c2=>?_,fun c2=>?_⟩
  ·try simp at c2
   refine bC fun _ _ Z=>?_;simp[hno,aJ hno,List.set_set];and_intros<;>(try omega);apply Z;apply aE;apply aV;apply aL;simp [aN]
  ·try simp at c2
   rw [hbad] at c2; cases c2
theorem Ow (m o : Nat) (id : Int) (n : ND) (s : ByteArray) (σ : List (List D)) (hown : Ct Tryz.prog 123 [.ref m 0, D.int id, D.int 2, D.str s] σ (fun r σ' => r = .tup [.ref o 0, D.int 0] ∧ σ' = σ)) (hno : σ[o]? = some (dD n)) (hl : n.classes.length ≤ 1000) (hgood : qB s n.classes = false) : Ct Tryz.prog 95 [.ref m 0, D.int id, D.str s] σ (fun r σ' => r = D.int 0 ∧ σ' = σ.set o (dD { n with classes := n.classes ++ [s] })) := by
 refine zf (rs:=[.tmp 6]) Tryz.func95 Tryz.ntmps95 Tryz.results95 ?_;simp only [aQ];refine bC fun _ _ Z=>?_;simp[hno,aJ hno,List.set_set];and_intros<;>(try omega);apply Z;refine bC fun _ _ Z=>?_;refine aA 3 fun _ Y=>?_;simp[hno,aJ hno,List.set_set];and_intros<;>(try omega);apply Y;simp only [List.drop];refine aG fun _ Y=>?_;simp[hno,aJ hno,List.set_set];refine cO (hown) ?_;apply Y;simp[hno,aJ hno,List.set_set];and_intros<;>(try omega);apply Z;apply aD;apply aK;refine bC fun _ _ Z=>?_;simp[hno,aJ hno,List.set_set];and_intros<;>(try omega);apply Z;refine zi ?_;refine ⟨fun c1=>?_,fun c1=>?_⟩
 ·simp at c1
 ·try simp at c1
  refine zk [2,6,7] ?_;refine bC fun _ _ Z=>?_;refine aA 5 fun _ Y=>?_;simp[hno,aJ hno,List.set_set];and_intros<;>(try omega);apply Y;simp only [List.drop];refine aG fun _ Y=>?_;simp[hno,aJ hno,List.set_set];refine cO (qG n.classes s _ (by omega)) ?_;apply Y;simp[hno,aJ hno,List.set_set];and_intros<;>(try omega);apply Z;refine zi ?_;refine ⟨fun c2=>?_,fun c2=>?_⟩
  ·try simp at c2
   rw [hgood] at c2; cases c2
  ·try simp at c2
   apply aH;apply aP;apply aB;refine bC fun _ _ Z=>?_;refine aA 6 fun _ Y=>?_;simp[hno,aJ hno,List.set_set];and_intros<;>(try omega);apply Y;simp only [List.drop];refine aG fun _ Y=>?_;simp[hno,aJ hno,List.set_set];refine cO (Xi n.classes s _ (by omega)) ?_;rw [show Mu n.classes s = n.classes ++ [s] from by unfold Mu; rw [hgood]; rfl];apply Y;simp[hno,aJ hno,List.set_set];and_intros<;>(try omega);apply Z;refine zk [6] ?_;refine bC fun _ _ Z=>?_;simp[hno,aJ hno,List.set_set];and_intros<;>(try omega);apply Z;apply aE;simp [aN, dD]
theorem Tf (m : Nat) (id c : Int) (s : ByteArray) (σ : List (List D)) (hown : Ct Tryz.prog 123 [.ref m 0, D.int id, D.int 2, D.str s] σ (fun r σ' => r = .tup [.v (.pointer none), D.int c] ∧ σ' = σ)) (hc : ¬ c = 0) : Ct Tryz.prog 96 [.ref m 0, D.int id, D.str s] σ (fun r σ' => r = .int c ∧ σ' = σ) := by
 refine zf (rs:=[.tmp 6]) Tryz.func96 Tryz.ntmps96 Tryz.results96 ?_;simp only [aQ];refine bC fun _ _ Z=>?_;simp;and_intros<;>(try omega);apply Z;refine bC fun _ _ Z=>?_;refine aA 3 fun _ Y=>?_;simp;and_intros<;>(try omega);apply Y;simp only [List.drop];refine aG fun _ Y=>?_;simp;refine cO (hown) ?_;apply Y;simp;and_intros<;>(try omega);apply Z;apply aD;apply aK;refine bC fun _ _ Z=>?_;simp;and_intros<;>(try omega);apply Z;refine zi ?_;refine ⟨fun c1=>?_,fun c1=>?_⟩
 ·try simp at c1
  refine zk [2,6,7,8] ?_;refine bC fun _ _ Z=>?_;simp;and_intros<;>(try omega);apply Z;apply aE;apply aV;apply aL;simp [aN]
 ·try simp at c1
  exact absurd c1 hc
theorem Tn (m o : Nat) (id : Int) (n : ND) (s : ByteArray) (σ : List (List D)) (hown : Ct Tryz.prog 123 [.ref m 0, D.int id, D.int 2, D.str s] σ (fun r σ' => r = .tup [.ref o 0, D.int 0] ∧ σ' = σ)) (hno : σ[o]? = some (dD n)) (hl : n.classes.length ≤ 1000) (hbad : qB s n.classes = false) : Ct Tryz.prog 96 [.ref m 0, D.int id, D.str s] σ (fun r σ' => r = .int 1 ∧ σ' = σ) := by
 refine zf (rs:=[.tmp 6]) Tryz.func96 Tryz.ntmps96 Tryz.results96 ?_;simp only [aQ];refine bC fun _ _ Z=>?_;simp[hno,aJ hno,List.set_set];and_intros<;>(try omega);apply Z;refine bC fun _ _ Z=>?_;refine aA 3 fun _ Y=>?_;simp[hno,aJ hno,List.set_set];and_intros<;>(try omega);apply Y;simp only [List.drop];refine aG fun _ Y=>?_;simp[hno,aJ hno,List.set_set];refine cO (hown) ?_;apply Y;simp[hno,aJ hno,List.set_set];and_intros<;>(try omega);apply Z;apply aD;apply aK;refine bC fun _ _ Z=>?_;simp[hno,aJ hno,List.set_set];and_intros<;>(try omega);apply Z;refine zi ?_;refine ⟨fun c1=>?_,fun c1=>?_⟩
 ·simp at c1
 ·try simp at c1
  refine zk [2,6,7] ?_;refine bC fun _ _ Z=>?_;refine aA 5 fun _ Y=>?_;simp[hno,aJ hno,List.set_set];and_intros<;>(try omega);apply Y;simp only [List.drop];refine aG fun _ Y=>?_;simp[hno,aJ hno,List.set_set];refine cO (qG n.classes s _ (by omega)) ?_;apply Y;simp[hno,aJ hno,List.set_set];and_intros<;>(try omega);apply Z;refine zi ?_;refine ⟨fun c2=>?_,fun c2=>?_⟩
  ·try simp at c2
   refine bC fun _ _ Z=>?_;simp[hno,aJ hno,List.set_set];and_intros<;>(try omega);apply Z;apply aE;apply aV;apply aL;simp [aN]
  ·try simp at c2
   rw [hbad] at c2; cases c2
theorem Rb (m o : Nat) (id : Int) (n : ND) (s : ByteArray) (σ : List (List D)) (hown : Ct Tryz.prog 123 [.ref m 0, D.int id, D.int 2, D.str s] σ (fun r σ' => r = .tup [.ref o 0, D.int 0] ∧ σ' = σ)) (hno : σ[o]? = some (dD n)) (hl : n.classes.length ≤ 1000) (hgood : qB s n.classes = true) : Ct Tryz.prog 96 [.ref m 0, D.int id, D.str s] σ (fun r σ' => r = D.int 0 ∧ σ' = σ.set o (dD { n with classes := jC n.classes s })) := by
 refine zf (rs:=[.tmp 6]) Tryz.func96 Tryz.ntmps96 Tryz.results96 ?_;simp only [aQ];refine bC fun _ _ Z=>?_;simp[hno,aJ hno,List.set_set];and_intros<;>(try omega);apply Z;refine bC fun _ _ Z=>?_;refine aA 3 fun _ Y=>?_;simp[hno,aJ hno,List.set_set];and_intros<;>(try omega);apply Y;simp only [List.drop];refine aG fun _ Y=>?_;simp[hno,aJ hno,List.set_set];refine cO (hown) ?_;apply Y;simp[hno,aJ hno,List.set_set];and_intros<;>(try omega);apply Z;apply aD;apply aK;refine bC fun _ _ Z=>?_;simp[hno,aJ hno,List.set_set];and_intros<;>(try omega);apply Z;refine zi ?_;refine ⟨fun c1=>?_,fun c1=>?_⟩
 ·simp at c1
 ·try simp at c1
  refine zk [2,6,7] ?_;refine bC fun _ _ Z=>?_;refine aA 5 fun _ Y=>?_;simp[hno,aJ hno,List.set_set];and_intros<;>(try omega);apply Y;simp only [List.drop];refine aG fun _ Y=>?_;simp[hno,aJ hno,List.set_set];refine cO (qG n.classes s _ (by omega)) ?_;apply Y;simp[hno,aJ hno,List.set_set];and_intros<;>(try omega);apply Z;refine zi ?_;refine ⟨fun c2=>?_,fun c2=>?_⟩
  ·try simp at c2
   rw [hgood] at c2; cases c2
  ·try simp at c2
   apply aH;apply aP;apply aB;refine bC fun _ _ Z=>?_;refine aA 6 fun _ Y=>?_;simp[hno,aJ hno,List.set_set];and_intros<;>(try omega);apply Y;simp only [List.drop];refine aG fun _ Y=>?_;simp[hno,aJ hno,List.set_set];refine cO (Rt n.classes s _ (by omega)) ?_;apply Y;simp[hno,aJ hno,List.set_set];and_intros<;>(try omega);apply Z;refine zk [6] ?_;refine bC fun _ _ Z=>?_;simp[hno,aJ hno,List.set_set];and_intros<;>(try omega);apply Z;apply aE;simp [aN, dD]
end Go.Proofs.YtpfmpeaekgdgnaaGreat


import Derived.Test.YtpfmpeaekgdgnaaGreatWkAr14
namespace Go.Proofs.YtpfmpeaekgdgnaaGreat
open Go Go.Vm
set_option maxRecDepth 20000
set_option linter.all false
set_option maxHeartbeats 8000000
def lD (n : ND) (kind : Int) (name : ByteArray) : Int := if n.ID = 0 then 1 else if ¬ n.kind = kind then 14 else if kind = 2 ∧ fL name = false then 2 else 0
theorem Jn {n : ND} {kind : Int} {name : ByteArray} (h : lD n kind name = 0) : ¬ n.ID = 0 ∧ n.kind = kind ∧ (kind = 2 → fL name = true) := by
 unfold lD at h;split at h
 ·cases h
 ·split at h
  ·cases h
  ·split at h
   ·cases h
   ·rename_i h1 h2 h3;refine ⟨h1, Classical.not_not.1 h2, fun hk => ?_⟩;cases hn : fL name with
    | true => rfl
    | false => exact absurd ⟨hk, hn⟩ h3
theorem Vr (m M : Nat) (d : DS) (id kind : Int) (name : ByteArray) (σ : List (List D)) (ho : DO m M d σ) (hno : dT d.l id = false) : Ct Tryz.prog 123 [.ref m 0, D.int id, D.int kind, D.str name] σ (fun r σ' => r = .tup [.v (.pointer none), D.int 11] ∧ σ' = σ) := by
 refine zf (rs:=[.tmp 8,.tmp 9]) Tryz.func123 Tryz.ntmps123 Tryz.results123 ?_;simp only [aN];have hq := ho.hm;refine aY fun _ _ Z=>?_;simp[hq];and_intros<;>(try omega);apply Z;refine aY fun _ _ Z=>?_;refine aA 6 fun _ Y=>?_;simp[hq];refine ⟨m, 2, d.ck, _, .v (.pointer none), ⟨⟨_, hq, rfl⟩, gU _, .inl (lK hno _)⟩, ?_⟩;and_intros<;>(try omega);apply Y;simp only [List.drop];simp[hq];and_intros<;>(try omega);apply Z;apply aE;apply aM;refine aY fun _ _ Z=>?_;simp[hq];and_intros<;>(try omega);apply Z;refine zi ?_;refine ⟨fun c1=>?_,fun c1=>?_⟩
 ·try simp at c1
  refine zk [8,9,10] ?_;refine aY fun _ _ Z=>?_;simp[hq];and_intros<;>(try omega);apply Z;apply aC;apply aR;apply aH;simp [aK]
 ·simp at c1
theorem Xt (m M : Nat) (d : DS) (e : EN) (kind : Int) (name : ByteArray) (σ : List (List D)) (ho : DO m M d σ) (he : e ∈ d.es) (hs : name.size ≤ 1000) (hb : ¬ lD e.n kind name = 0) : Ct Tryz.prog 123 [.ref m 0, D.int e.n.ID, D.int kind, D.str name] σ (fun r σ' => r = .tup [.v (.pointer none), D.int (lD e.n kind name)] ∧ σ' = σ) := by
 refine zf (rs:=[.tmp 8,.tmp 9]) Tryz.func123 Tryz.ntmps123 Tryz.results123 ?_;simp only [aN];have hq := ho.hm;have hne := ho.hn e he;refine aY fun _ _ Z=>?_;simp[hq,hne];and_intros<;>(try omega);apply Z;refine aY fun _ _ Z=>?_;refine aA 6 fun _ Y=>?_;simp[hq,hne];refine ⟨m, 2, d.ck, _, .ref e.o 0, ⟨⟨_, hq, rfl⟩, gU _, .inr (eI he _)⟩, ?_⟩;and_intros<;>(try omega);apply Y;simp only [List.drop];simp[hq,hne];and_intros<;>(try omega);apply Z;apply aE;apply aM;refine aY fun _ _ Z=>?_;simp[hq,hne];and_intros<;>(try omega);apply Z;refine zi ?_;refine ⟨fun c1=>?_,fun c1=>?_⟩
 ·simp at c1
 ·try simp at c1
  refine zk [1,2,3,8,9,10] ?_;refine aY fun _ _ Z=>?_;simp[hq,hne];and_intros<;>(try omega);apply Z;refine zi ?_;refine ⟨fun c2=>?_,fun c2=>?_⟩
  ·try simp at c2
   refine aY fun _ _ Z=>?_;simp[hq,hne];and_intros<;>(try omega);apply Z;apply aC;apply aR;apply aH;simp [aK, lD, *]
  ·try simp at c2
   refine aY fun _ _ Z=>?_;simp[hq,hne];and_intros<;>(try omega);apply Z;refine zi ?_;refine ⟨fun c3=>?_,fun c3=>?_⟩
   ·try simp at c3
    refine zk [8,9,10] ?_;refine aY fun _ _ Z=>?_;simp[hq,hne];and_intros<;>(try omega);apply Z;apply aC;apply aR;apply aH;simp [aK, lD, *]
   ·try simp at c3
    refine zk [2,3,8,9,10] ?_;refine oE ⟨[],[],[],[],[]⟩ fun all hall _ Z=>?_;have ga2 : aT all 2 = some 33 := hall 2;refine aA 3 fun _ Y=>?_;simp[hq,hne,ga2];and_intros<;>(try omega);apply Y;simp only [List.drop];refine aX 33 (by simp <;> rfl) ?_;refine ⟨fun g4 => ?_, fun g4 => ?_⟩
    ·try simp at g4
     refine aA 1 fun _ Y=>?_;simp[hq,hne,ga2];and_intros<;>(try omega);apply Y;simp only [List.drop];refine zg ga2 fun _ Y=>?_;simp[hq,hne,ga2];refine bY (oH name _ (by omega)) ?_;apply Y;simp[hq,hne,ga2];and_intros<;>(try omega);apply Z;refine zi ?_;refine ⟨fun c5=>?_,fun c5=>?_⟩
     ·try simp at c5
      refine zk [8,9,10] ?_;refine aY fun _ _ Z=>?_;simp[hq,hne];and_intros<;>(try omega);apply Z;apply aC;apply aR;apply aH;simp [aK, lD, *]
     ·try simp at c5
      exact absurd (by simp [lD, c2, c3, g4, c5]) hb
    ·try simp at g4
     exact absurd (by simp [lD, c2, c3, g4]) hb
theorem Yy (m M : Nat) (d : DS) (e : EN) (kind : Int) (name : ByteArray) (σ : List (List D)) (ho : DO m M d σ) (he : e ∈ d.es) (hs : name.size ≤ 1000) (hb : lD e.n kind name = 0) : Ct Tryz.prog 123 [.ref m 0, D.int e.n.ID, D.int kind, D.str name] σ (fun r σ' => r = .tup [.ref e.o 0, D.int 0] ∧ σ' = σ) := by
 refine zf (rs:=[.tmp 8,.tmp 9]) Tryz.func123 Tryz.ntmps123 Tryz.results123 ?_;simp only [aN];have hq := ho.hm;have hne := ho.hn e he;obtain ⟨o1, o2, o3⟩ := Jn hb;refine aY fun _ _ Z=>?_;simp[hq,hne];and_intros<;>(try omega);apply Z;refine aY fun _ _ Z=>?_;refine aA 6 fun _ Y=>?_;simp[hq,hne];refine ⟨m, 2, d.ck, _, .ref e.o 0, ⟨⟨_, hq, rfl⟩, gU _, .inr (eI he _)⟩, ?_⟩;and_intros<;>(try omega);apply Y;simp only [List.drop];simp[hq,hne];and_intros<;>(try omega);apply Z;apply aE;apply aM;refine aY fun _ _ Z=>?_;simp[hq,hne];and_intros<;>(try omega);apply Z;refine zi ?_;refine ⟨fun c1=>?_,fun c1=>?_⟩
 ·simp at c1
 ·try simp at c1
  refine zk [1,2,3,8,9,10] ?_;refine aY fun _ _ Z=>?_;simp[hq,hne];and_intros<;>(try omega);apply Z;refine zi ?_;refine ⟨fun c2=>?_,fun c2=>?_⟩
  ·try simp at c2
   exact absurd c2 o1
  ·try simp at c2
   refine aY fun _ _ Z=>?_;simp[hq,hne];and_intros<;>(try omega);apply Z;refine zi ?_;refine ⟨fun c3=>?_,fun c3=>?_⟩
   ·try simp at c3
    exact absurd o2 c3
   ·try simp at c3
    refine zk [2,3,8,9,10] ?_;refine oE ⟨[],[],[],[],[]⟩ fun all hall _ Z=>?_;have ga2 : aT all 2 = some 33 := hall 2;refine aA 3 fun _ Y=>?_;simp[hq,hne,ga2];and_intros<;>(try omega);apply Y;simp only [List.drop];refine aX 33 (by simp <;> rfl) ?_;refine ⟨fun g4 => ?_, fun g4 => ?_⟩
    ·try simp at g4
     refine aA 1 fun _ Y=>?_;simp[hq,hne,ga2];and_intros<;>(try omega);apply Y;simp only [List.drop];refine zg ga2 fun _ Y=>?_;simp[hq,hne,ga2];refine bY (oH name _ (by omega)) ?_;apply Y;simp[hq,hne,ga2];and_intros<;>(try omega);apply Z;refine zi ?_;refine ⟨fun c5=>?_,fun c5=>?_⟩
     ·try simp at c5
      rw [o3 g4] at c5; cases c5
     ·try simp at c5
      apply aG;apply aQ;apply aB;refine zk [8,9,10] ?_;refine aY fun _ _ Z=>?_;simp[hq,hne];and_intros<;>(try omega);apply Z;apply aC;simp [aK]
    ·try simp at g4
     simp[hq,hne,ga2];and_intros<;>(try omega);apply Z;refine bQ (t := false) (by simp) (fun h => by cases h) (fun _ => ?_);apply aG;apply aQ;apply aB;refine zk [8,9,10] ?_;refine aY fun _ _ Z=>?_;simp[hq,hne];and_intros<;>(try omega);apply Z;apply aC;simp [aK]
theorem Wf (m : Nat) (id c : Int) (s : ByteArray) (σ : List (List D)) (hown : Ct Tryz.prog 123 [.ref m 0, D.int id, D.int 2, D.str s] σ (fun r σ' => r = .tup [.v (.pointer none), D.int c] ∧ σ' = σ)) (hc : ¬ c = 0) : Ct Tryz.prog 89 [.ref m 0, D.int id, D.str s] σ (fun r σ' => r = .int c ∧ σ' = σ) := by
 refine zf (rs:=[.tmp 6]) Tryz.func89 Tryz.ntmps89 Tryz.results89 ?_;simp only [aN];refine aY fun _ _ Z=>?_;simp;and_intros<;>(try omega);apply Z;refine aY fun _ _ Z=>?_;refine aA 3 fun _ Y=>?_;simp;and_intros<;>(try omega);apply Y;simp only [List.drop];refine aD fun _ Y=>?_;simp;refine bY (hown) ?_;apply Y;simp;and_intros<;>(try omega);apply Z;apply aE;refine aY fun _ _ Z=>?_;simp;and_intros<;>(try omega);apply Z;refine zi ?_;refine ⟨fun c1=>?_,fun c1=>?_⟩
 ·try simp at c1
  exact absurd c1 hc
 ·try simp at c1
  apply aG;apply aB;refine zk [6,8] ?_;refine aY fun _ _ Z=>?_;simp;and_intros<;>(try omega);apply Z;apply aC;simp [aK]
theorem Rv (m o : Nat) (id : Int) (n : ND) (s : ByteArray) (σ : List (List D)) (hown : Ct Tryz.prog 123 [.ref m 0, D.int id, D.int 2, D.str s] σ (fun r σ' => r = .tup [.ref o 0, D.int 0] ∧ σ' = σ)) (hno : σ[o]? = some (dA n)) : Ct Tryz.prog 89 [.ref m 0, D.int id, D.str s] σ (fun r σ' => r = D.int 0 ∧ σ' = σ.set o (dA { n with tag := s })) := by
 refine zf (rs:=[.tmp 6]) Tryz.func89 Tryz.ntmps89 Tryz.results89 ?_;simp only [aN];refine aY fun _ _ Z=>?_;simp[hno,aI hno,List.set_set];and_intros<;>(try omega);apply Z;refine aY fun _ _ Z=>?_;refine aA 3 fun _ Y=>?_;simp[hno,aI hno,List.set_set];and_intros<;>(try omega);apply Y;simp only [List.drop];refine aD fun _ Y=>?_;simp[hno,aI hno,List.set_set];refine bY (hown) ?_;apply Y;simp[hno,aI hno,List.set_set];and_intros<;>(try omega);apply Z;apply aE;refine aY fun _ _ Z=>?_;simp[hno,aI hno,List.set_set];and_intros<;>(try omega);apply Z;refine zi ?_;refine ⟨fun c1=>?_,fun c1=>?_⟩
 ·try simp at c1
  refine zk [2,6,7,8] ?_;refine uP fun _ _ Z=>?_;simp[hno,aI hno,List.set_set];and_intros<;>(try omega);apply Z;apply aB;refine aY fun _ _ Z=>?_;simp[hno,aI hno,List.set_set];and_intros<;>(try omega);apply Z;apply aC;simp [aK, dA]
 ·simp at c1
theorem Ua (m : Nat) (id c : Int) (s : ByteArray) (σ : List (List D)) (hown : Ct Tryz.prog 123 [.ref m 0, D.int id, D.int 1, D.str ⟨#[]⟩] σ (fun r σ' => r = .tup [.v (.pointer none), D.int c] ∧ σ' = σ)) (hc : ¬ c = 0) : Ct Tryz.prog 90 [.ref m 0, D.int id, D.str s] σ (fun r σ' => r = .int c ∧ σ' = σ) := by
 refine zf (rs:=[.tmp 6]) Tryz.func90 Tryz.ntmps90 Tryz.results90 ?_;simp only [aN];refine aY fun _ _ Z=>?_;simp;and_intros<;>(try omega);apply Z;refine aY fun _ _ Z=>?_;refine aA 2 fun _ Y=>?_;simp;and_intros<;>(try omega);apply Y;simp only [List.drop];refine aD fun _ Y=>?_;simp;refine bY (hown) ?_;apply Y;simp;and_intros<;>(try omega);apply Z;apply aE;refine aY fun _ _ Z=>?_;simp;and_intros<;>(try omega);apply Z;refine zi ?_;refine ⟨fun c1=>?_,fun c1=>?_⟩
 ·try simp at c1
  exact absurd c1 hc
 ·try simp at c1
  apply aG;apply aB;refine aY fun _ _ Z=>?_;simp;and_intros<;>(try omega);apply Z;apply aC;simp [aK]
theorem Qr (m o : Nat) (id : Int) (n : ND) (s : ByteArray) (σ : List (List D)) (hown : Ct Tryz.prog 123 [.ref m 0, D.int id, D.int 1, D.str ⟨#[]⟩] σ (fun r σ' => r = .tup [.ref o 0, D.int 0] ∧ σ' = σ)) (hno : σ[o]? = some (dA n)) : Ct Tryz.prog 90 [.ref m 0, D.int id, D.str s] σ (fun r σ' => r = D.int 0 ∧ σ' = σ.set o (dA { n with text := s })) := by
 refine zf (rs:=[.tmp 6]) Tryz.func90 Tryz.ntmps90 Tryz.results90 ?_;simp only [aN];refine aY fun _ _ Z=>?_;simp[hno,aI hno,List.set_set];and_intros<;>(try omega);apply Z;refine aY fun _ _ Z=>?_;refine aA 2 fun _ Y=>?_;simp[hno,aI hno,List.set_set];and_intros<;>(try omega);apply Y;simp only [List.drop];refine aD fun _ Y=>?_;simp[hno,aI hno,List.set_set];refine bY (hown) ?_;apply Y;simp[hno,aI hno,List.set_set];and_intros<;>(try omega);apply Z;apply aE;refine aY fun _ _ Z=>?_;simp[hno,aI hno,List.set_set];and_intros<;>(try omega);apply Z;refine zi ?_;refine ⟨fun c1=>?_,fun c1=>?_⟩
 ·try simp at c1
  refine uP fun _ _ Z=>?_;simp[hno,aI hno,List.set_set];and_intros<;>(try omega);apply Z;apply aB;refine zk [6,8] ?_;refine aY fun _ _ Z=>?_;simp[hno,aI hno,List.set_set];and_intros<;>(try omega);apply Z;apply aC;simp [aK, dA]
 ·simp at c1
theorem Wa (m : Nat) (id c : Int) (s : ByteArray) (v : ByteArray) (σ : List (List D)) (hown : Ct Tryz.prog 123 [.ref m 0, D.int id, D.int 2, D.str s] σ (fun r σ' => r = .tup [.v (.pointer none), D.int c] ∧ σ' = σ)) (hc : ¬ c = 0) : Ct Tryz.prog 91 [.ref m 0, D.int id, D.str s, D.str v] σ (fun r σ' => r = .int c ∧ σ' = σ) := by
 refine zf (rs:=[.tmp 8]) Tryz.func91 Tryz.ntmps91 Tryz.results91 ?_;simp only [aN];refine aY fun _ _ Z=>?_;simp;and_intros<;>(try omega);apply Z;refine aY fun _ _ Z=>?_;refine aA 3 fun _ Y=>?_;simp;and_intros<;>(try omega);apply Y;simp only [List.drop];refine aD fun _ Y=>?_;simp;refine bY (hown) ?_;apply Y;simp;and_intros<;>(try omega);apply Z;apply aE;refine aY fun _ _ Z=>?_;simp;and_intros<;>(try omega);apply Z;refine zi ?_;refine ⟨fun c1=>?_,fun c1=>?_⟩
 ·try simp at c1
  exact absurd c1 hc
 ·try simp at c1
  apply aG;apply aB;refine zk [8,10] ?_;refine aY fun _ _ Z=>?_;simp;and_intros<;>(try omega);apply Z;apply aC;simp [aK]
theorem Rb (m o : Nat) (id : Int) (n : ND) (s : ByteArray) (v : ByteArray) (σ : List (List D)) (hown : Ct Tryz.prog 123 [.ref m 0, D.int id, D.int 2, D.str s] σ (fun r σ' => r = .tup [.ref o 0, D.int 0] ∧ σ' = σ)) (hno : σ[o]? = some (dA n)) (hl : n.attrs.length ≤ 1000) (hs : cJ nA n.attrs) : Ct Tryz.prog 91 [.ref m 0, D.int id, D.str s, D.str v] σ (fun r σ' => r = D.int 0 ∧ σ' = σ.set o (dA { n with attrs := eF nA n.attrs ⟨s, v⟩ })) := by
 refine zf (rs:=[.tmp 8]) Tryz.func91 Tryz.ntmps91 Tryz.results91 ?_;simp only [aN];refine aY fun _ _ Z=>?_;simp[hno,aI hno,List.set_set];and_intros<;>(try omega);apply Z;refine aY fun _ _ Z=>?_;refine aA 3 fun _ Y=>?_;simp[hno,aI hno,List.set_set];and_intros<;>(try omega);apply Y;simp only [List.drop];refine aD fun _ Y=>?_;simp[hno,aI hno,List.set_set];refine bY (hown) ?_;apply Y;simp[hno,aI hno,List.set_set];and_intros<;>(try omega);apply Z;apply aE;refine aY fun _ _ Z=>?_;simp[hno,aI hno,List.set_set];and_intros<;>(try omega);apply Z;refine zi ?_;refine ⟨fun c1=>?_,fun c1=>?_⟩
 ·try simp at c1
  refine zk [2,3,8,9,10] ?_;refine uP fun _ _ Z=>?_;refine aA 7 fun _ Y=>?_;simp[hno,aI hno,List.set_set];and_intros<;>(try omega);apply Y;simp only [List.drop];refine aD fun _ Y=>?_;simp[hno,aI hno,List.set_set];refine bY (Xg n.attrs s v _ (by omega) hs) ?_;apply Y;simp[hno,aI hno,List.set_set];and_intros<;>(try omega);apply Z;apply aB;refine zk [8,10] ?_;refine aY fun _ _ Z=>?_;simp[hno,aI hno,List.set_set];and_intros<;>(try omega);apply Z;apply aC;simp [aK, dA]
 ·simp at c1
theorem Vd (m : Nat) (id c : Int) (s : ByteArray) (v : Int) (σ : List (List D)) (hown : Ct Tryz.prog 123 [.ref m 0, D.int id, D.int 2, D.str s] σ (fun r σ' => r = .tup [.v (.pointer none), D.int c] ∧ σ' = σ)) (hc : ¬ c = 0) : Ct Tryz.prog 93 [.ref m 0, D.int id, D.str s, D.int v] σ (fun r σ' => r = .int c ∧ σ' = σ) := by
 refine zf (rs:=[.tmp 8]) Tryz.func93 Tryz.ntmps93 Tryz.results93 ?_;simp only [aN];refine aY fun _ _ Z=>?_;simp;and_intros<;>(try omega);apply Z;refine aY fun _ _ Z=>?_;refine aA 3 fun _ Y=>?_;simp;and_intros<;>(try omega);apply Y;simp only [List.drop];refine aD fun _ Y=>?_;simp;refine bY (hown) ?_;apply Y;simp;and_intros<;>(try omega);apply Z;apply aE;refine aY fun _ _ Z=>?_;simp;and_intros<;>(try omega);apply Z;refine zi ?_;refine ⟨fun c1=>?_,fun c1=>?_⟩
 ·try simp at c1
  exact absurd c1 hc
 ·try simp at c1
  apply aG;apply aB;refine zk [8,10] ?_;refine aY fun _ _ Z=>?_;simp;and_intros<;>(try omega);apply Z;apply aC;simp [aK]
theorem Vj (m o : Nat) (id : Int) (n : ND) (s : ByteArray) (v : Int) (σ : List (List D)) (hown : Ct Tryz.prog 123 [.ref m 0, D.int id, D.int 2, D.str s] σ (fun r σ' => r = .tup [.ref o 0, D.int 0] ∧ σ' = σ)) (hno : σ[o]? = some (dA n)) (hl : n.styles.length ≤ 1000) (hs : cJ nP n.styles) : Ct Tryz.prog 93 [.ref m 0, D.int id, D.str s, D.int v] σ (fun r σ' => r = D.int 0 ∧ σ' = σ.set o (dA { n with styles := eF nP n.styles ⟨s, Ce v⟩ })) := by
 refine zf (rs:=[.tmp 8]) Tryz.func93 Tryz.ntmps93 Tryz.results93 ?_;simp only [aN];refine aY fun _ _ Z=>?_;simp[hno,aI hno,List.set_set];and_intros<;>(try omega);apply Z;refine aY fun _ _ Z=>?_;refine aA 3 fun _ Y=>?_;simp[hno,aI hno,List.set_set];and_intros<;>(try omega);apply Y;simp only [List.drop];refine aD fun _ Y=>?_;simp[hno,aI hno,List.set_set];refine bY (hown) ?_;apply Y;simp[hno,aI hno,List.set_set];and_intros<;>(try omega);apply Z;apply aE;refine aY fun _ _ Z=>?_;simp[hno,aI hno,List.set_set];and_intros<;>(try omega);apply Z;refine zi ?_;refine ⟨fun c1=>?_,fun c1=>?_⟩
 ·try simp at c1
  refine zk [2,3,8,9,10] ?_;refine ze ⟨[],[],[],[],[]⟩ [.op {},.op {},.op {},.op {},.op {rO:=true},.op {},.op {},.pure,.pure,.op {},.op {},.op {rO:=true,wO:=true}] fun all hall _ Z=>?_;refine aP 7 (by simp) fun _ Y=>?_;simp[hno,aI hno,List.set_set];and_intros<;>(try omega);apply Y;simp only [List.drop];refine cO fun _ Y=>?_;simp[hno,aI hno,List.set_set];refine Pp (fun _ => (aCq v _)) ?_;apply Y;refine cO fun _ Y=>?_;simp[hno,aI hno,List.set_set];refine Pp (fun _ => (Zh n.styles s (Ce v) _ (by omega) hs)) ?_;apply Y;simp[hno,aI hno,List.set_set];and_intros<;>(try omega);apply Z;apply aB;refine zk [8,10] ?_;refine aY fun _ _ Z=>?_;simp[hno,aI hno,List.set_set];and_intros<;>(try omega);apply Z;apply aC;simp [aK, dA]
 ·simp at c1
theorem Xa (l : Ls) (c : ByteArray) (σ : List (List D)) (hl : l.length ≤ 1000000) : Ct Tryz.prog 132 [dl l, D.str c] σ (fun r σ' => r = dl (Mq l c) ∧ σ' = σ) :=
 (aC1 l c σ hl).strip fun r σ' ⟨hr, hs⟩ => ⟨by rw [hr]; rfl, by rw [hr]; rfl, hs⟩
theorem Tf (m : Nat) (id c : Int) (s : ByteArray) (σ : List (List D)) (hown : Ct Tryz.prog 123 [.ref m 0, D.int id, D.int 2, D.str s] σ (fun r σ' => r = .tup [.v (.pointer none), D.int c] ∧ σ' = σ)) (hc : ¬ c = 0) : Ct Tryz.prog 92 [.ref m 0, D.int id, D.str s] σ (fun r σ' => r = .int c ∧ σ' = σ) := by
 refine zf (rs:=[.tmp 6]) Tryz.func92 Tryz.ntmps92 Tryz.results92 ?_;simp only [aN];refine aY fun _ _ Z=>?_;simp;and_intros<;>(try omega);apply Z;refine aY fun _ _ Z=>?_;refine aA 3 fun _ Y=>?_;simp;and_intros<;>(try omega);apply Y;simp only [List.drop];refine aD fun _ Y=>?_;simp;refine bY (hown) ?_;apply Y;simp;and_intros<;>(try omega);apply Z;apply aE;refine aY fun _ _ Z=>?_;simp;and_intros<;>(try omega);apply Z;refine zi ?_;refine ⟨fun c1=>?_,fun c1=>?_⟩
 ·try simp at c1
  refine zk [2,6,7,8] ?_;refine aY fun _ _ Z=>?_;simp;and_intros<;>(try omega);apply Z;apply aC;apply aH;simp [aK]
 ·try simp at c1
  exact absurd c1 hc
theorem Wn (m o : Nat) (id : Int) (n : ND) (s : ByteArray) (σ : List (List D)) (hown : Ct Tryz.prog 123 [.ref m 0, D.int id, D.int 2, D.str s] σ (fun r σ' => r = .tup [.ref o 0, D.int 0] ∧ σ' = σ)) (hno : σ[o]? = some (dA n)) (hl : n.attrs.length ≤ 1000) (hs : cJ nA n.attrs) (hbad : lC nA n.attrs s = false) : Ct Tryz.prog 92 [.ref m 0, D.int id, D.str s] σ (fun r σ' => r = .int 1 ∧ σ' = σ) := by
 refine zf (rs:=[.tmp 6]) Tryz.func92 Tryz.ntmps92 Tryz.results92 ?_;simp only [aN];refine aY fun _ _ Z=>?_;simp[hno,aI hno,List.set_set];and_intros<;>(try omega);apply Z;refine aY fun _ _ Z=>?_;refine aA 3 fun _ Y=>?_;simp[hno,aI hno,List.set_set];and_intros<;>(try omega);apply Y;simp only [List.drop];refine aD fun _ Y=>?_;simp[hno,aI hno,List.set_set];refine bY (hown) ?_;apply Y;simp[hno,aI hno,List.set_set];and_intros<;>(try omega);apply Z;apply aE;refine aY fun _ _ Z=>?_;simp[hno,aI hno,List.set_set];and_intros<;>(try omega);apply Z;refine zi ?_;refine ⟨fun c1=>?_,fun c1=>?_⟩
 ·simp at c1
 ·try simp at c1
  apply aG;apply aB;apply aE;refine zk [2,6,7] ?_;refine aY fun _ _ Z=>?_;refine aA 5 fun _ Y=>?_;simp[hno,aI hno,List.set_set];and_intros<;>(try omega);apply Y;simp only [List.drop];refine aD fun _ Y=>?_;simp[hno,aI hno,List.set_set];refine Ps (Jw n.attrs s _ (by omega) hs) ?_;rintro _ _ ⟨⟨gv, hr9⟩, hs9⟩;subst hr9;replace hs9 := hs9.symm;subst hs9;apply Y;simp[hno,aI hno,List.set_set];and_intros<;>(try omega);apply Z;refine zk [2,6,7,10] ?_;refine aY fun _ _ Z=>?_;simp[hno,aI hno,List.set_set];and_intros<;>(try omega);apply Z;refine zi ?_;refine ⟨fun c2=>?_,fun c2=>?_⟩
  ·try simp at c2
   refine aY fun _ _ Z=>?_;simp[hno,aI hno,List.set_set];and_intros<;>(try omega);apply Z;apply aC;apply aH;simp [aK]
  ·try simp at c2
   rw [hbad] at c2; cases c2
theorem Ux (m o : Nat) (id : Int) (n : ND) (s : ByteArray) (σ : List (List D)) (hown : Ct Tryz.prog 123 [.ref m 0, D.int id, D.int 2, D.str s] σ (fun r σ' => r = .tup [.ref o 0, D.int 0] ∧ σ' = σ)) (hno : σ[o]? = some (dA n)) (hl : n.attrs.length ≤ 1000) (hs : cJ nA n.attrs) (hgood : lC nA n.attrs s = true) : Ct Tryz.prog 92 [.ref m 0, D.int id, D.str s] σ (fun r σ' => r = D.int 0 ∧ σ' = σ.set o (dA { n with attrs := gZ nA n.attrs s })) := by
 refine zf (rs:=[.tmp 6]) Tryz.func92 Tryz.ntmps92 Tryz.results92 ?_;simp only [aN];refine aY fun _ _ Z=>?_;simp[hno,aI hno,List.set_set];and_intros<;>(try omega);apply Z;refine aY fun _ _ Z=>?_;refine aA 3 fun _ Y=>?_;simp[hno,aI hno,List.set_set];and_intros<;>(try omega);apply Y;simp only [List.drop];refine aD fun _ Y=>?_;simp[hno,aI hno,List.set_set];refine bY (hown) ?_;apply Y;simp[hno,aI hno,List.set_set];and_intros<;>(try omega);apply Z;apply aE;refine aY fun _ _ Z=>?_;simp[hno,aI hno,List.set_set];and_intros<;>(try omega);apply Z;refine zi ?_;refine ⟨fun c1=>?_,fun c1=>?_⟩
 ·simp at c1
 ·try simp at c1
  apply aG;apply aB;apply aE;refine zk [2,6,7] ?_;refine aY fun _ _ Z=>?_;refine aA 5 fun _ Y=>?_;simp[hno,aI hno,List.set_set];and_intros<;>(try omega);apply Y;simp only [List.drop];refine aD fun _ Y=>?_;simp[hno,aI hno,List.set_set];refine Ps (Jw n.attrs s _ (by omega) hs) ?_;rintro _ _ ⟨⟨gv, hr9⟩, hs9⟩;subst hr9;replace hs9 := hs9.symm;subst hs9;apply Y;simp[hno,aI hno,List.set_set];and_intros<;>(try omega);apply Z;refine zk [2,6,7,10] ?_;refine aY fun _ _ Z=>?_;simp[hno,aI hno,List.set_set];and_intros<;>(try omega);apply Z;refine zi ?_;refine ⟨fun c2=>?_,fun c2=>?_⟩
  ·try simp at c2
   rw [hgood] at c2; cases c2
  ·try simp at c2
   apply aG;apply aB;refine aY fun _ _ Z=>?_;refine aA 6 fun _ Y=>?_;simp[hno,aI hno,List.set_set];and_intros<;>(try omega);apply Y;simp only [List.drop];refine aD fun _ Y=>?_;simp[hno,aI hno,List.set_set];refine bY (Rz n.attrs s _ (by omega) hs) ?_;apply Y;simp[hno,aI hno,List.set_set];and_intros<;>(try omega);apply Z;refine zk [6] ?_;refine aY fun _ _ Z=>?_;simp[hno,aI hno,List.set_set];and_intros<;>(try omega);apply Z;apply aC;simp [aK, dA]
theorem Vo (m : Nat) (id c : Int) (s : ByteArray) (σ : List (List D)) (hown : Ct Tryz.prog 123 [.ref m 0, D.int id, D.int 2, D.str s] σ (fun r σ' => r = .tup [.v (.pointer none), D.int c] ∧ σ' = σ)) (hc : ¬ c = 0) : Ct Tryz.prog 94 [.ref m 0, D.int id, D.str s] σ (fun r σ' => r = .int c ∧ σ' = σ) := by
 refine zf (rs:=[.tmp 6]) Tryz.func94 Tryz.ntmps94 Tryz.results94 ?_;simp only [aN];refine aY fun _ _ Z=>?_;simp;and_intros<;>(try omega);apply Z;refine aY fun _ _ Z=>?_;refine aA 3 fun _ Y=>?_;simp;and_intros<;>(try omega);apply Y;simp only [List.drop];refine aD fun _ Y=>?_;simp;refine bY (hown) ?_;apply Y;simp;and_intros<;>(try omega);apply Z;apply aE;refine aY fun _ _ Z=>?_;simp;and_intros<;>(try omega);apply Z;refine zi ?_;refine ⟨fun c1=>?_,fun c1=>?_⟩
 ·try simp at c1
  refine zk [2,6,7,8] ?_;refine aY fun _ _ Z=>?_;simp;and_intros<;>(try omega);apply Z;apply aC;apply aH;simp [aK]
 ·try simp at c1
  exact absurd c1 hc
theorem Vz (m o : Nat) (id : Int) (n : ND) (s : ByteArray) (σ : List (List D)) (hown : Ct Tryz.prog 123 [.ref m 0, D.int id, D.int 2, D.str s] σ (fun r σ' => r = .tup [.ref o 0, D.int 0] ∧ σ' = σ)) (hno : σ[o]? = some (dA n)) (hl : n.styles.length ≤ 1000) (hs : cJ nP n.styles) (hbad : lC nP n.styles s = false) : Ct Tryz.prog 94 [.ref m 0, D.int id, D.str s] σ (fun r σ' => r = .int 1 ∧ σ' = σ) := by
 refine zf (rs:=[.tmp 6]) Tryz.func94 Tryz.ntmps94 Tryz.results94 ?_;simp only [aN];refine aY fun _ _ Z=>?_;simp[hno,aI hno,List.set_set];and_intros<;>(try omega);apply Z;refine aY fun _ _ Z=>?_;refine aA 3 fun _ Y=>?_;simp[hno,aI hno,List.set_set];and_intros<;>(try omega);apply Y;simp only [List.drop];refine aD fun _ Y=>?_;simp[hno,aI hno,List.set_set];refine bY (hown) ?_;apply Y;simp[hno,aI hno,List.set_set];and_intros<;>(try omega);apply Z;apply aE;refine aY fun _ _ Z=>?_;simp[hno,aI hno,List.set_set];and_intros<;>(try omega);apply Z;refine zi ?_;refine ⟨fun c1=>?_,fun c1=>?_⟩
 ·simp at c1
 ·try simp at c1
  apply aG;apply aB;apply aE;refine zk [2,6,7] ?_;refine aY fun _ _ Z=>?_;refine aA 5 fun _ Y=>?_;simp[hno,aI hno,List.set_set];and_intros<;>(try omega);apply Y;simp only [List.drop];refine aD fun _ Y=>?_;simp[hno,aI hno,List.set_set];refine Ps (Js n.styles s _ (by omega) hs) ?_;rintro _ _ ⟨⟨gv, hr9⟩, hs9⟩;subst hr9;replace hs9 := hs9.symm;subst hs9;apply Y;simp[hno,aI hno,List.set_set];and_intros<;>(try omega);apply Z;refine zk [2,6,7,10] ?_;refine aY fun _ _ Z=>?_;simp[hno,aI hno,List.set_set];and_intros<;>(try omega);apply Z;refine zi ?_;refine ⟨fun c2=>?_,fun c2=>?_⟩
  ·try simp at c2
   refine aY fun _ _ Z=>?_;simp[hno,aI hno,List.set_set];and_intros<;>(try omega);apply Z;apply aC;apply aH;simp [aK]
  ·try simp at c2
   rw [hbad] at c2; cases c2
theorem Tn (m o : Nat) (id : Int) (n : ND) (s : ByteArray) (σ : List (List D)) (hown : Ct Tryz.prog 123 [.ref m 0, D.int id, D.int 2, D.str s] σ (fun r σ' => r = .tup [.ref o 0, D.int 0] ∧ σ' = σ)) (hno : σ[o]? = some (dA n)) (hl : n.styles.length ≤ 1000) (hs : cJ nP n.styles) (hgood : lC nP n.styles s = true) : Ct Tryz.prog 94 [.ref m 0, D.int id, D.str s] σ (fun r σ' => r = D.int 0 ∧ σ' = σ.set o (dA { n with styles := gZ nP n.styles s })) := by
 refine zf (rs:=[.tmp 6]) Tryz.func94 Tryz.ntmps94 Tryz.results94 ?_;simp only [aN];refine aY fun _ _ Z=>?_;simp[hno,aI hno,List.set_set];and_intros<;>(try omega);apply Z;refine aY fun _ _ Z=>?_;refine aA 3 fun _ Y=>?_;simp[hno,aI hno,List.set_set];and_intros<;>(try omega);apply Y;simp only [List.drop];refine aD fun _ Y=>?_;simp[hno,aI hno,List.set_set];refine bY (hown) ?_;apply Y;simp[hno,aI hno,List.set_set];and_intros<;>(try omega);apply Z;apply aE;refine aY fun _ _ Z=>?_;simp[hno,aI hno,List.set_set];and_intros<;>(try omega);apply Z;refine zi ?_;refine ⟨fun c1=>?_,fun c1=>?_⟩
 ·simp at c1
 ·try simp at c1
  apply aG;apply aB;apply aE;refine zk [2,6,7] ?_;refine aY fun _ _ Z=>?_;refine aA 5 fun _ Y=>?_;simp[hno,aI hno,List.set_set];and_intros<;>(try omega);apply Y;simp only [List.drop];refine aD fun _ Y=>?_;simp[hno,aI hno,List.set_set];refine Ps (Js n.styles s _ (by omega) hs) ?_;rintro _ _ ⟨⟨gv, hr9⟩, hs9⟩;subst hr9;replace hs9 := hs9.symm;subst hs9;apply Y;simp[hno,aI hno,List.set_set];and_intros<;>(try omega);apply Z;refine zk [2,6,7,10] ?_;refine aY fun _ _ Z=>?_;simp[hno,aI hno,List.set_set];and_intros<;>(try omega);apply Z;refine zi ?_;refine ⟨fun c2=>?_,fun c2=>?_⟩
  ·try simp at c2
   rw [hgood] at c2; cases c2
  ·try simp at c2
   apply aG;apply aB;refine aY fun _ _ Z=>?_;refine aA 6 fun _ Y=>?_;simp[hno,aI hno,List.set_set];and_intros<;>(try omega);apply Y;simp only [List.drop];refine aD fun _ Y=>?_;simp[hno,aI hno,List.set_set];refine bY (Qh n.styles s _ (by omega) hs) ?_;apply Y;simp[hno,aI hno,List.set_set];and_intros<;>(try omega);apply Z;refine zk [6] ?_;refine aY fun _ _ Z=>?_;simp[hno,aI hno,List.set_set];and_intros<;>(try omega);apply Z;apply aC;simp [aK, dA]
theorem Qv (m : Nat) (id c : Int) (s : ByteArray) (σ : List (List D)) (hown : Ct Tryz.prog 123 [.ref m 0, D.int id, D.int 2, D.str s] σ (fun r σ' => r = .tup [.v (.pointer none), D.int c] ∧ σ' = σ)) (hc : ¬ c = 0) : Ct Tryz.prog 95 [.ref m 0, D.int id, D.str s] σ (fun r σ' => r = .int c ∧ σ' = σ) := by
 refine zf (rs:=[.tmp 6]) Tryz.func95 Tryz.ntmps95 Tryz.results95 ?_;simp only [aN];refine aY fun _ _ Z=>?_;simp;and_intros<;>(try omega);apply Z;refine aY fun _ _ Z=>?_;refine aA 3 fun _ Y=>?_;simp;and_intros<;>(try omega);apply Y;simp only [List.drop];refine aD fun _ Y=>?_;simp;refine bY (hown) ?_;apply Y;simp;and_intros<;>(try omega);apply Z;apply aE;apply aM;refine aY fun _ _ Z=>?_;simp;and_intros<;>(try omega);apply Z;refine zi ?_;refine ⟨fun c1=>?_,fun c1=>?_⟩
 ·try simp at c1
  refine zk [2,6,7,8] ?_;refine aY fun _ _ Z=>?_;simp;and_intros<;>(try omega);apply Z;apply aC;apply aR;apply aH;simp [aK]
 ·try simp at c1
  exact absurd c1 hc
theorem Rl (m o : Nat) (id : Int) (n : ND) (s : ByteArray) (σ : List (List D)) (hown : Ct Tryz.prog 123 [.ref m 0, D.int id, D.int 2, D.str s] σ (fun r σ' => r = .tup [.ref o 0, D.int 0] ∧ σ' = σ)) (hno : σ[o]? = some (dA n)) (hl : n.classes.length ≤ 1000) (hbad : qN s n.classes = true) : Ct Tryz.prog 95 [.ref m 0, D.int id, D.str s] σ (fun r σ' => r = .int 1 ∧ σ' = σ) := by
 refine zf (rs:=[.tmp 6]) Tryz.func95 Tryz.ntmps95 Tryz.results95 ?_;simp only [aN];refine aY fun _ _ Z=>?_;simp[hno,aI hno,List.set_set];and_intros<;>(try omega);apply Z;refine aY fun _ _ Z=>?_;refine aA 3 fun _ Y=>?_;simp[hno,aI hno,List.set_set];and_intros<;>(try omega);apply Y;simp only [List.drop];refine aD fun _ Y=>?_;simp[hno,aI hno,List.set_set];refine bY (hown) ?_;apply Y;simp[hno,aI hno,List.set_set];and_intros<;>(try omega);apply Z;apply aE;apply aM;refine aY fun _ _ Z=>?_;simp[hno,aI hno,List.set_set];and_intros<;>(try omega);apply Z;refine zi ?_;refine ⟨fun c1=>?_,fun c1=>?_⟩
 ·simp at c1
 ·try simp at c1
  refine zk [2,6,7] ?_;refine aY fun _ _ Z=>?_;refine aA 5 fun _ Y=>?_;simp[hno,aI hno,List.set_set];and_intros<;>(try omega);apply Y;simp only [List.drop];refine aD fun _ Y=>?_;simp[hno,aI hno,List.set_set];refine bY (rW n.classes s _ (by omega)) ?_;apply Y;simp[hno,aI hno,List.set_set];and_intros<;>(try omega);apply Z;refine zi ?_;refine ⟨fun c2=>?_,fun c2=>?_⟩
  ·try simp at c2
   refine aY fun _ _ Z=>?_;simp[hno,aI hno,List.set_set];and_intros<;>(try omega);apply Z;apply aC;apply aR;apply aH;simp [aK]
  ·try simp at c2
   rw [hbad] at c2; cases c2
theorem Tv (m o : Nat) (id : Int) (n : ND) (s : ByteArray) (σ : List (List D)) (hown : Ct Tryz.prog 123 [.ref m 0, D.int id, D.int 2, D.str s] σ (fun r σ' => r = .tup [.ref o 0, D.int 0] ∧ σ' = σ)) (hno : σ[o]? = some (dA n)) (hl : n.classes.length ≤ 1000) (hgood : qN s n.classes = false) : Ct Tryz.prog 95 [.ref m 0, D.int id, D.str s] σ (fun r σ' => r = D.int 0 ∧ σ' = σ.set o (dA { n with classes := n.classes ++ [s] })) := by
 refine zf (rs:=[.tmp 6]) Tryz.func95 Tryz.ntmps95 Tryz.results95 ?_;simp only [aN];refine aY fun _ _ Z=>?_;simp[hno,aI hno,List.set_set];and_intros<;>(try omega);apply Z;refine aY fun _ _ Z=>?_;refine aA 3 fun _ Y=>?_;simp[hno,aI hno,List.set_set];and_intros<;>(try omega);apply Y;simp only [List.drop];refine aD fun _ Y=>?_;simp[hno,aI hno,List.set_set];refine bY (hown) ?_;apply Y;simp[hno,aI hno,List.set_set];and_intros<;>(try omega);apply Z;apply aE;apply aM;refine aY fun _ _ Z=>?_;simp[hno,aI hno,List.set_set];and_intros<;>(try omega);apply Z;refine zi ?_;refine ⟨fun c1=>?_,fun c1=>?_⟩
 ·simp at c1
 ·try simp at c1
  refine zk [2,6,7] ?_;refine aY fun _ _ Z=>?_;refine aA 5 fun _ Y=>?_;simp[hno,aI hno,List.set_set];and_intros<;>(try omega);apply Y;simp only [List.drop];refine aD fun _ Y=>?_;simp[hno,aI hno,List.set_set];refine bY (rW n.classes s _ (by omega)) ?_;apply Y;simp[hno,aI hno,List.set_set];and_intros<;>(try omega);apply Z;refine zi ?_;refine ⟨fun c2=>?_,fun c2=>?_⟩
  ·try simp at c2
   rw [hgood] at c2; cases c2
  ·try simp at c2
   apply aG;apply aQ;apply aB;refine aY fun _ _ Z=>?_;refine aA 6 fun _ Y=>?_;simp[hno,aI hno,List.set_set];and_intros<;>(try omega);apply Y;simp only [List.drop];refine aD fun _ Y=>?_;simp[hno,aI hno,List.set_set];refine bY (Xa n.classes s _ (by omega)) ?_;rw [show Mq n.classes s = n.classes ++ [s] from by unfold Mq; rw [hgood]; rfl];apply Y;simp[hno,aI hno,List.set_set];and_intros<;>(try omega);apply Z;refine zk [6] ?_;refine aY fun _ _ Z=>?_;simp[hno,aI hno,List.set_set];and_intros<;>(try omega);apply Z;apply aC;simp [aK, dA]
theorem Te (m : Nat) (id c : Int) (s : ByteArray) (σ : List (List D)) (hown : Ct Tryz.prog 123 [.ref m 0, D.int id, D.int 2, D.str s] σ (fun r σ' => r = .tup [.v (.pointer none), D.int c] ∧ σ' = σ)) (hc : ¬ c = 0) : Ct Tryz.prog 96 [.ref m 0, D.int id, D.str s] σ (fun r σ' => r = .int c ∧ σ' = σ) := by
 refine zf (rs:=[.tmp 6]) Tryz.func96 Tryz.ntmps96 Tryz.results96 ?_;simp only [aN];refine aY fun _ _ Z=>?_;simp;and_intros<;>(try omega);apply Z;refine aY fun _ _ Z=>?_;refine aA 3 fun _ Y=>?_;simp;and_intros<;>(try omega);apply Y;simp only [List.drop];refine aD fun _ Y=>?_;simp;refine bY (hown) ?_;apply Y;simp;and_intros<;>(try omega);apply Z;apply aE;apply aM;refine aY fun _ _ Z=>?_;simp;and_intros<;>(try omega);apply Z;refine zi ?_;refine ⟨fun c1=>?_,fun c1=>?_⟩
 ·try simp at c1
  refine zk [2,6,7,8] ?_;refine aY fun _ _ Z=>?_;simp;and_intros<;>(try omega);apply Z;apply aC;apply aR;apply aH;simp [aK]
 ·try simp at c1
  exact absurd c1 hc
theorem Td (m o : Nat) (id : Int) (n : ND) (s : ByteArray) (σ : List (List D)) (hown : Ct Tryz.prog 123 [.ref m 0, D.int id, D.int 2, D.str s] σ (fun r σ' => r = .tup [.ref o 0, D.int 0] ∧ σ' = σ)) (hno : σ[o]? = some (dA n)) (hl : n.classes.length ≤ 1000) (hbad : qN s n.classes = false) : Ct Tryz.prog 96 [.ref m 0, D.int id, D.str s] σ (fun r σ' => r = .int 1 ∧ σ' = σ) := by
 refine zf (rs:=[.tmp 6]) Tryz.func96 Tryz.ntmps96 Tryz.results96 ?_;simp only [aN];refine aY fun _ _ Z=>?_;simp[hno,aI hno,List.set_set];and_intros<;>(try omega);apply Z;refine aY fun _ _ Z=>?_;refine aA 3 fun _ Y=>?_;simp[hno,aI hno,List.set_set];and_intros<;>(try omega);apply Y;simp only [List.drop];refine aD fun _ Y=>?_;simp[hno,aI hno,List.set_set];refine bY (hown) ?_;apply Y;simp[hno,aI hno,List.set_set];and_intros<;>(try omega);apply Z;apply aE;apply aM;refine aY fun _ _ Z=>?_;simp[hno,aI hno,List.set_set];and_intros<;>(try omega);apply Z;refine zi ?_;refine ⟨fun c1=>?_,fun c1=>?_⟩
 ·simp at c1
 ·try simp at c1
  refine zk [2,6,7] ?_;refine aY fun _ _ Z=>?_;refine aA 5 fun _ Y=>?_;simp[hno,aI hno,List.set_set];and_intros<;>(try omega);apply Y;simp only [List.drop];refine aD fun _ Y=>?_;simp[hno,aI hno,List.set_set];refine bY (rW n.classes s _ (by omega)) ?_;apply Y;simp[hno,aI hno,List.set_set];and_intros<;>(try omega);apply Z;refine zi ?_;refine ⟨fun c2=>?_,fun c2=>?_⟩
  ·try simp at c2
   refine aY fun _ _ Z=>?_;simp[hno,aI hno,List.set_set];and_intros<;>(try omega);apply Z;apply aC;apply aR;apply aH;simp [aK]
  ·try simp at c2
   rw [hbad] at c2; cases c2
theorem Se (m o : Nat) (id : Int) (n : ND) (s : ByteArray) (σ : List (List D)) (hown : Ct Tryz.prog 123 [.ref m 0, D.int id, D.int 2, D.str s] σ (fun r σ' => r = .tup [.ref o 0, D.int 0] ∧ σ' = σ)) (hno : σ[o]? = some (dA n)) (hl : n.classes.length ≤ 1000) (hgood : qN s n.classes = true) : Ct Tryz.prog 96 [.ref m 0, D.int id, D.str s] σ (fun r σ' => r = D.int 0 ∧ σ' = σ.set o (dA { n with classes := jW n.classes s })) := by
 refine zf (rs:=[.tmp 6]) Tryz.func96 Tryz.ntmps96 Tryz.results96 ?_;simp only [aN];refine aY fun _ _ Z=>?_;simp[hno,aI hno,List.set_set];and_intros<;>(try omega);apply Z;refine aY fun _ _ Z=>?_;refine aA 3 fun _ Y=>?_;simp[hno,aI hno,List.set_set];and_intros<;>(try omega);apply Y;simp only [List.drop];refine aD fun _ Y=>?_;simp[hno,aI hno,List.set_set];refine bY (hown) ?_;apply Y;simp[hno,aI hno,List.set_set];and_intros<;>(try omega);apply Z;apply aE;apply aM;refine aY fun _ _ Z=>?_;simp[hno,aI hno,List.set_set];and_intros<;>(try omega);apply Z;refine zi ?_;refine ⟨fun c1=>?_,fun c1=>?_⟩
 ·simp at c1
 ·try simp at c1
  refine zk [2,6,7] ?_;refine aY fun _ _ Z=>?_;refine aA 5 fun _ Y=>?_;simp[hno,aI hno,List.set_set];and_intros<;>(try omega);apply Y;simp only [List.drop];refine aD fun _ Y=>?_;simp[hno,aI hno,List.set_set];refine bY (rW n.classes s _ (by omega)) ?_;apply Y;simp[hno,aI hno,List.set_set];and_intros<;>(try omega);apply Z;refine zi ?_;refine ⟨fun c2=>?_,fun c2=>?_⟩
  ·try simp at c2
   rw [hgood] at c2; cases c2
  ·try simp at c2
   apply aG;apply aQ;apply aB;refine aY fun _ _ Z=>?_;refine aA 6 fun _ Y=>?_;simp[hno,aI hno,List.set_set];and_intros<;>(try omega);apply Y;simp only [List.drop];refine aD fun _ Y=>?_;simp[hno,aI hno,List.set_set];refine bY (Vw n.classes s _ (by omega)) ?_;apply Y;simp[hno,aI hno,List.set_set];and_intros<;>(try omega);apply Z;refine zk [6] ?_;refine aY fun _ _ Z=>?_;simp[hno,aI hno,List.set_set];and_intros<;>(try omega);apply Z;apply aC;simp [aK, dA]
end Go.Proofs.YtpfmpeaekgdgnaaGreat


import Derived.Test.YtighdhfgcdjmeaaDoorArProps
namespace Go.Proofs.YtighdhfgcdjmeaaDoor
open Go Go.Vm
set_option maxRecDepth 20000
set_option linter.all false
set_option maxHeartbeats 8000000
abbrev nA : AT → ByteArray := AT.name
abbrev nP : PI → ByteArray := PI.name
theorem aR (a b : Nat) : Int.fdiv ((a : Int) + (b : Int)) (2 ^ min 1 IntKind.u64.bits) = (((a + b) / 2 : Nat) : Int) := by
 have e : (2 : Int) ^ min 1 IntKind.u64.bits = 2 := by decide
 rw [e, Int.fdiv_eq_ediv_of_nonneg _ (by omega)]; omega
theorem Nf : IntKind.u64.min = 0 := rfl
theorem Mk : IntKind.u64.max = 18446744073709551615 := by decide
theorem aS (n : Int) : qA .u64 n = (0 ≤ n ∧ n ≤ 18446744073709551615) := by
 show (IntKind.u64.min ≤ n ∧ n ≤ IntKind.u64.max) = _
 rw [Nf, Mk]
theorem wW (s : ByteArray) (σ : List (List D))  : Ct Tryd.prog 83 [D.str s] σ (fun r σ' => r = .bool false ∧ σ' = σ) := by
 refine zf (rs:=[.tmp 2]) Tryd.func83 Tryd.ntmps83 Tryd.results83 ?_;simp only [aU];refine cH fun _ _ Z=>?_;simp;and_intros<;>(try omega);apply Z;refine cH fun _ _ Z=>?_;simp;and_intros<;>(try omega);apply Z;apply aH;simp [bB]
theorem rC (a b : ByteArray) (σ : List (List D))  : Ct Tryd.prog 67 [D.str a, D.str b] σ (fun r σ' => r = .int (sC a b) ∧ σ' = σ) := by
 refine zf (rs:=[.tmp 4]) Tryd.func67 Tryd.ntmps67 Tryd.results67 ?_;simp only [aU];refine cH fun _ _ Z=>?_;simp;and_intros<;>(try omega);apply Z;refine cH fun _ _ Z=>?_;refine aC 1 fun _ Y=>?_;simp;and_intros<;>(try omega);apply Y;simp only [List.drop];refine aI fun _ Y=>?_;simp;refine eV (wW a _) ?_;apply Y;simp;and_intros<;>(try omega);apply Z;refine cH fun _ _ Z=>?_;refine aC 1 fun _ Y=>?_;simp;and_intros<;>(try omega);apply Y;simp only [List.drop];refine aI fun _ Y=>?_;simp;refine eV (wW b _) ?_;apply Y;simp;and_intros<;>(try omega);apply Z;apply aE;refine cH fun _ _ Z=>?_;simp;and_intros<;>(try omega);apply Z;refine zi ?_;refine ⟨fun c1=>?_,fun c1=>?_⟩
 ·simp at c1
 ·try simp at c1
  apply aJ;apply aD;apply aE;refine cH fun _ _ Z=>?_;simp;and_intros<;>(try omega);apply Z;refine zi ?_;refine ⟨fun c2=>?_,fun c2=>?_⟩
  ·simp at c2
  ·try simp at c2
   apply aJ;apply aD;apply aE;refine cH fun _ _ Z=>?_;simp;and_intros<;>(try omega);apply Z;refine zi ?_;refine ⟨fun c3=>?_,fun c3=>?_⟩
   ·try simp at c3
    refine zk [0,1,4] ?_;refine cH fun _ _ Z=>?_;simp;and_intros<;>(try omega);apply Z;apply aH;apply bJ;simp [bB, sC, cI, *]
   ·try simp at c3
    apply aJ;apply aD;apply aE;refine zk [0,1,4] ?_;refine cH fun _ _ Z=>?_;simp;and_intros<;>(try omega);apply Z;refine zi ?_;refine ⟨fun c4=>?_,fun c4=>?_⟩
    ·try simp at c4
     refine cH fun _ _ Z=>?_;simp;and_intros<;>(try omega);apply Z;apply aH;apply bJ;simp [bB, sC, cI, *]
    ·try simp at c4
     apply aJ;apply aD;refine cH fun _ _ Z=>?_;simp;and_intros<;>(try omega);apply Z;apply aH;simp [bB, sC, cI, *]
theorem By (x : AT) (s : ByteArray) (σ : List (List D))  : Ct Tryd.prog 74 [bZ x, D.str s] σ (fun r σ' => r = .int (sC x.name s) ∧ σ' = σ) := by
 refine zf (rs:=[.tmp 4]) Tryd.func74 Tryd.ntmps74 Tryd.results74 ?_;simp only [aU];refine cH fun _ _ Z=>?_;simp;and_intros<;>(try omega);apply Z;refine cH fun _ _ Z=>?_;refine aC 3 fun _ Y=>?_;simp;and_intros<;>(try omega);apply Y;simp only [List.drop];refine aI fun _ Y=>?_;simp;refine eV (rC x.name s _) ?_;apply Y;simp;and_intros<;>(try omega);apply Z;apply aH;simp [bB]
theorem Qt (N cap : Nat) (l : List AT) (rest : List D) (c : ByteArray) (σ : List (List D)) (hl : l.length ≤ 1000000) (hN : σ[N]? = some (l.flatMap cA ++ rest)) (hs : Sorted nA l) : Ct Tryd.prog 73 [.slo N 0 l.length cap, D.str c, .clo (.func 74) [] []] σ (fun r σ' => r = .tup [.int ((posL nA l c : Nat) : Int), .bool (fnd nA l c)] ∧ σ' = σ) := by
 refine zf (rs:=[.tmp 6,.tmp 7]) Tryd.func73 Tryd.ntmps73 Tryd.results73 ?_;simp only [aU];refine zr ⟨[],[],[],[13,27,43],[]⟩ fun _ _ Z=>?_;simp (disch:=omega)[hN,aR,aS];and_intros<;>(try omega);apply Z;refine zr ⟨[],[],[],[13,27,43],[]⟩ fun _ _ Z=>?_;simp (disch:=omega)[hN,aR,aS];and_intros<;>(try omega);apply Z;refine zr ⟨[],[],[],[13,27,43],[]⟩ fun _ _ Z=>?_;simp (disch:=omega)[hN,aR,aS];and_intros<;>(try omega);apply Z;apply aE;apply aN;refine zk [0,1,2,6,7,8,9,10] ?_;refine dA (fun (s : Nat × Nat) => [(9, .d (.v (.int .i64 (s.1 : Int)))), (10, .d (.v (.int .i64 (s.2 : Int)))), (11, .d (.any))]) [9, 10, 11, 15, 16, 17, 18, 19, 20, 21, 22, 23, 24, 25, 26, 27, 28, 29, 30, 31, 32, 33, 34] (fun (s : Nat × Nat) => s.1 ≤ s.2 ∧ s.2 ≤ l.length ∧ (∀ j (h : j < l.length), j < s.1 → cI l[j].name c = true) ∧ (∀ j (h : j < l.length), s.2 ≤ j → cI l[j].name c = false)) (fun (s : Nat × Nat) => s.2 - s.1) ((0, l.length)) (by simp <;> rfl) ?_ ?_ ?_
 ·simp
 ·exact ⟨by omega, by omega, fun j h h2 => absurd h2 (by simp), fun j h h2 => absurd h2 (by simp; omega)⟩
 rintro ⟨lo, hi⟩ ⟨h1, h2, h3, h4⟩;simp only [List.cons_append, List.nil_append];dsimp only at h1 h2 h3 h4;have hmid : lo < hi → (lo + hi) / 2 < hi := fun h => by omega
 apply aE;refine zr ⟨[],[],[],[13,27,43],[]⟩ fun _ _ Z=>?_;simp (disch:=omega)[hN,aR,aS];and_intros<;>(try omega);apply Z;refine zi ?_;refine ⟨fun c1=>?_,fun c1=>?_⟩
 ·try simp at c1
  apply aJ;apply aD;apply aN;refine zk [0,1,2,6,7,8,9,10,11] ?_;refine zr ⟨[],[],[],[13,27,43],[]⟩ fun _ _ Z=>?_;simp (disch:=omega)[hN,aR,aS];and_intros<;>(try omega);apply Z;refine zk [0,1,2,6,7,8,9,10,11] ?_;refine zr ⟨[],[],[],[13,27,43],[]⟩ fun _ _ Z=>?_;refine aC 6 fun _ Y=>?_;simp (disch:=omega)[hN,aR,aS];and_intros<;>(try omega);apply Y;simp only [List.drop];refine aI fun _ Y=>?_;simp (disch:=omega)[hN,aR,aS];refine eV (By l[(lo + hi) / 2] c _) ?_;apply Y;simp (disch:=omega)[hN,aR,aS];and_intros<;>(try omega);apply Z;refine zi ?_;refine ⟨fun c2=>?_,fun c2=>?_⟩
  ·try simp at c2
   refine zk [0,1,2,6,7,8,9,10,11] ?_;refine zt ⟨[],[],[],[13,27,43],[]⟩ fun _ _ Z=>?_;simp (disch:=omega)[hN,aR,aS];and_intros<;>(try omega);apply Z;apply aX;refine bW (((lo + hi) / 2 + 1, hi)) ?_ ?_ (bK rfl ?_ (by simp) (by simp))
   ·exact ⟨by dsimp only; omega, by dsimp only; omega, bs_lo nA hs (by omega) (by simpa [qO] using c2), h4⟩
   ·try dsimp only
    omega
   ·simp (disch:=omega)[hN,aR,aS]
  ·try simp at c2
   refine zk [0,1,2,6,7,8,9,10,11] ?_;refine zt ⟨[],[],[],[13,27,43],[]⟩ fun _ _ Z=>?_;simp (disch:=omega)[hN,aR,aS];and_intros<;>(try omega);apply Z;apply aX;refine bW ((lo, (lo + hi) / 2)) ?_ ?_ (bK rfl ?_ (by simp) (by simp))
   ·exact ⟨by dsimp only; omega, by dsimp only; omega, h3, bs_hi nA hs (by omega) ((Bw _ _).1 (by omega))⟩
   ·try dsimp only
    omega
   ·simp (disch:=omega)[hN,aR,aS]
 ·try simp at c1
  obtain rfl : lo = hi := by omega
  have hpos : posL nA l c = lo := posL_of nA l c lo h2 h3 (fun h => h4 lo h (Nat.le_refl _));apply bM;apply bO;apply bP;apply bE;apply aD;refine zk [0,1,2,6,7,8,9] ?_;refine Cu ⟨[],[],[],[13,27,43],[]⟩ fun all hall _ Z=>?_;have ga4 : aY all 4 = some 39 := hall 4;refine aC 5 fun _ Y=>?_;simp (disch:=omega)[hN,aR,aS,ga4];and_intros<;>(try omega);apply Y;simp only [List.drop];refine cC 39 (by simp <;> rfl) ?_;refine ⟨fun g3 => ?_, fun g3 => ?_⟩
  ·try simp at g3
   refine aC 6 fun _ Y=>?_;simp (disch:=omega)[hN,aR,aS,ga4];and_intros<;>(try omega);apply Y;simp only [List.drop];refine zg ga4 fun _ Y=>?_;simp (disch:=omega)[hN,aR,aS,ga4];refine eV (By l[lo] c _) ?_;apply Y;simp (disch:=omega)[hN,aR,aS,ga4];and_intros<;>(try omega);apply Z;apply aH;simp [bB, hpos, fnd_at, *];exact sU _ _
  ·try simp at g3
   refine aC 8 fun _ Y=>?_;simp (disch:=omega)[hN,aR,aS,ga4];and_intros<;>(try omega);apply Y;simp only [List.drop];simp (disch:=omega)[hN,aR,aS,ga4];and_intros<;>(try omega);apply Z;apply aH;simp [bB, hpos, *];exact fnd_out _ _ _ (by omega)
theorem Pg (N cap : Nat) (l : List AT) (rest : List D) (c : ByteArray) (σ : List (List D)) (hl : l.length ≤ 1000000) (hN : σ[N]? = some (l.flatMap cA ++ rest)) (hs : Sorted nA l) : Ct Tryd.prog 51 [.slo N 0 l.length cap, D.str c] σ (fun r σ' => r = .tup [.int ((posL nA l c : Nat) : Int), .bool (fnd nA l c)] ∧ σ' = σ) := by
 refine zf (rs:=[.tmp 4,.tmp 5]) Tryd.func51 Tryd.ntmps51 Tryd.results51 ?_;simp only [aU];refine cH fun _ _ Z=>?_;simp[hN];and_intros<;>(try omega);apply Z;refine cH fun _ _ Z=>?_;refine aC 2 fun _ Y=>?_;simp[hN];and_intros<;>(try omega);apply Y;simp only [List.drop];refine aI fun _ Y=>?_;simp[hN];refine eV (Qt N cap l rest c _ hl hN hs) ?_;apply Y;simp[hN];and_intros<;>(try omega);apply Z;apply aH;simp [bB]
theorem Ks (l : List AT) (p : AT) (σ : List (List D)) (hl : l.length ≤ 999999) (hs : Sorted nA l) : Ct Tryd.prog 33 [.xs 2 (l.map bZ), bZ p] σ (fun r σ' => r = .xs 2 ((dN nA l p).map bZ) ∧ ∃ J, σ' = σ ++ J) := by
 refine zf (rs:=[.tmp 4]) Tryd.func33 Tryd.ntmps33 Tryd.results33 ?_;simp only [aU];refine eN 0 2 rfl (by decide) fun cap rest hcap hcm hrest hk0 hes => ?_;subst hrest;simp only [List.length_map] at hcap ⊢;rw [aZ (f := cA) (fun _ => rfl)];have hpl := posL_le nA l p.name;refine zr ⟨[4,19,20,24],[],[],[18],[]⟩ fun _ _ Z=>?_;simp (disch:=omega)[aB,aA];and_intros<;>(try omega);apply Z;refine zr ⟨[4,19,20,24],[],[],[18],[]⟩ fun _ _ Z=>?_;refine aC 3 fun _ Y=>?_;simp (disch:=omega)[aB,aA];and_intros<;>(try omega);apply Y;simp only [List.drop];refine aI fun _ Y=>?_;simp (disch:=omega)[aB,aA];refine eV (Pg σ.length cap l (List.replicate ((cap - l.length) * 2) .any) p.name _ (by omega) (by simp [aB]) hs) ?_;apply Y;simp (disch:=omega)[aB,aA];and_intros<;>(try omega);apply Z;apply aE;refine zr ⟨[4,19,20,24],[],[],[18],[]⟩ fun _ _ Z=>?_;simp (disch:=omega)[aB,aA];and_intros<;>(try omega);apply Z;refine zi ?_;refine ⟨fun c1=>?_,fun c1=>?_⟩
 ·try simp at c1
  have hlt := fnd_lt nA c1;refine zk [0,3,4,5] ?_;refine zr ⟨[4,19,20,24],[],[],[18],[]⟩ fun _ _ Z=>?_;simp (disch:=omega)[aB,aA];and_intros<;>(try omega);apply Z;refine zr ⟨[4,19,20,24],[],[],[18],[]⟩ fun _ _ Z=>?_;simp (disch:=omega)[aB,aA];and_intros<;>(try omega);apply Z;refine cR 4 2 σ.length l.length cap ((l.set (posL nA l p.name) p).map bZ) ((l.set (posL nA l p.name) p).flatMap cA ++ List.replicate ((cap - l.length) * 2) .any) (by simp <;> rfl) (by simp [aB]) (by omega) (by simp only [List.length_append, bC (f := cA) (k := 2) (fun _ => rfl), List.length_replicate, List.length_set]; omega) (by simp) (dW (d := bZ) (fun _ => ⟨rfl, rfl⟩) _) (by rw [aZ (f := cA) (fun _ => rfl)]; exact List.prefix_append _ _) ?_;apply aH;apply bJ;simp [bB, putL_eq, c1]
 ·try simp at c1
  apply aJ;apply aD;refine cR 0 2 σ.length l.length cap (l.map bZ) (l.flatMap cA ++ List.replicate ((cap - l.length) * 2) .any) (by simp <;> rfl) (by simp [aB]) (by omega) (by simp only [List.length_append, bC (f := cA) (k := 2) (fun _ => rfl), List.length_replicate, List.length_set]; omega) (by simp) (dW (d := bZ) (fun _ => ⟨rfl, rfl⟩) _) (by rw [aZ (f := cA) (fun _ => rfl)]; exact List.prefix_append _ _) ?_;refine zk [0,3,4,5] ?_;refine zr ⟨[4,19,20,24],[],[],[18],[]⟩ fun _ _ Z=>?_;refine aC 4 fun _ Y=>?_;simp (disch:=omega)[aB,aA];and_intros<;>(try omega);apply Y;simp only [List.drop];refine aI fun _ Y=>?_;simp (disch:=omega)[aB,aA];refine eV (Nh l p (posL nA l p.name) _ (by omega) hpl) ?_;apply Y;simp (disch:=omega)[aB,aA];and_intros<;>(try omega);apply Z;apply aH;simp [bB, putL_eq, c1]
theorem Ca (x : PI) (s : ByteArray) (σ : List (List D))  : Ct Tryd.prog 66 [bQ x, D.str s] σ (fun r σ' => r = .int (sC x.name s) ∧ σ' = σ) := by
 refine zf (rs:=[.tmp 4]) Tryd.func66 Tryd.ntmps66 Tryd.results66 ?_;simp only [aU];refine cH fun _ _ Z=>?_;simp;and_intros<;>(try omega);apply Z;refine cH fun _ _ Z=>?_;refine aC 3 fun _ Y=>?_;simp;and_intros<;>(try omega);apply Y;simp only [List.drop];refine aI fun _ Y=>?_;simp;refine eV (rC x.name s _) ?_;apply Y;simp;and_intros<;>(try omega);apply Z;apply aH;simp [bB]
theorem Ph (N cap : Nat) (l : List PI) (rest : List D) (c : ByteArray) (σ : List (List D)) (hl : l.length ≤ 1000000) (hN : σ[N]? = some (l.flatMap cP ++ rest)) (hs : Sorted nP l) : Ct Tryd.prog 65 [.slo N 0 l.length cap, D.str c, .clo (.func 66) [] []] σ (fun r σ' => r = .tup [.int ((posL nP l c : Nat) : Int), .bool (fnd nP l c)] ∧ σ' = σ) := by
 refine zf (rs:=[.tmp 6,.tmp 7]) Tryd.func65 Tryd.ntmps65 Tryd.results65 ?_;simp only [aU];refine zr ⟨[],[],[],[13,27,43],[]⟩ fun _ _ Z=>?_;simp (disch:=omega)[hN,aR,aS];and_intros<;>(try omega);apply Z;refine zr ⟨[],[],[],[13,27,43],[]⟩ fun _ _ Z=>?_;simp (disch:=omega)[hN,aR,aS];and_intros<;>(try omega);apply Z;refine zr ⟨[],[],[],[13,27,43],[]⟩ fun _ _ Z=>?_;simp (disch:=omega)[hN,aR,aS];and_intros<;>(try omega);apply Z;apply aE;apply aN;refine zk [0,1,2,6,7,8,9,10] ?_;refine dA (fun (s : Nat × Nat) => [(9, .d (.v (.int .i64 (s.1 : Int)))), (10, .d (.v (.int .i64 (s.2 : Int)))), (11, .d (.any))]) [9, 10, 11, 15, 16, 17, 18, 19, 20, 21, 22, 23, 24, 25, 26, 27, 28, 29, 30, 31, 32, 33, 34] (fun (s : Nat × Nat) => s.1 ≤ s.2 ∧ s.2 ≤ l.length ∧ (∀ j (h : j < l.length), j < s.1 → cI l[j].name c = true) ∧ (∀ j (h : j < l.length), s.2 ≤ j → cI l[j].name c = false)) (fun (s : Nat × Nat) => s.2 - s.1) ((0, l.length)) (by simp <;> rfl) ?_ ?_ ?_
 ·simp
 ·exact ⟨by omega, by omega, fun j h h2 => absurd h2 (by simp), fun j h h2 => absurd h2 (by simp; omega)⟩
 rintro ⟨lo, hi⟩ ⟨h1, h2, h3, h4⟩;simp only [List.cons_append, List.nil_append];dsimp only at h1 h2 h3 h4;have hmid : lo < hi → (lo + hi) / 2 < hi := fun h => by omega
 apply aE;refine zr ⟨[],[],[],[13,27,43],[]⟩ fun _ _ Z=>?_;simp (disch:=omega)[hN,aR,aS];and_intros<;>(try omega);apply Z;refine zi ?_;refine ⟨fun c1=>?_,fun c1=>?_⟩
 ·try simp at c1
  apply aJ;apply aD;apply aN;refine zk [0,1,2,6,7,8,9,10,11] ?_;refine zr ⟨[],[],[],[13,27,43],[]⟩ fun _ _ Z=>?_;simp (disch:=omega)[hN,aR,aS];and_intros<;>(try omega);apply Z;refine zk [0,1,2,6,7,8,9,10,11] ?_;refine zr ⟨[],[],[],[13,27,43],[]⟩ fun _ _ Z=>?_;refine aC 6 fun _ Y=>?_;simp (disch:=omega)[hN,aR,aS];and_intros<;>(try omega);apply Y;simp only [List.drop];refine aI fun _ Y=>?_;simp (disch:=omega)[hN,aR,aS];refine eV (Ca l[(lo + hi) / 2] c _) ?_;apply Y;simp (disch:=omega)[hN,aR,aS];and_intros<;>(try omega);apply Z;refine zi ?_;refine ⟨fun c2=>?_,fun c2=>?_⟩
  ·try simp at c2
   refine zk [0,1,2,6,7,8,9,10,11] ?_;refine zt ⟨[],[],[],[13,27,43],[]⟩ fun _ _ Z=>?_;simp (disch:=omega)[hN,aR,aS];and_intros<;>(try omega);apply Z;apply aX;refine bW (((lo + hi) / 2 + 1, hi)) ?_ ?_ (bK rfl ?_ (by simp) (by simp))
   ·exact ⟨by dsimp only; omega, by dsimp only; omega, bs_lo nP hs (by omega) (by simpa [qO] using c2), h4⟩
   ·try dsimp only
    omega
   ·simp (disch:=omega)[hN,aR,aS]
  ·try simp at c2
   refine zk [0,1,2,6,7,8,9,10,11] ?_;refine zt ⟨[],[],[],[13,27,43],[]⟩ fun _ _ Z=>?_;simp (disch:=omega)[hN,aR,aS];and_intros<;>(try omega);apply Z;apply aX;refine bW ((lo, (lo + hi) / 2)) ?_ ?_ (bK rfl ?_ (by simp) (by simp))
   ·exact ⟨by dsimp only; omega, by dsimp only; omega, h3, bs_hi nP hs (by omega) ((Bw _ _).1 (by omega))⟩
   ·try dsimp only
    omega
   ·simp (disch:=omega)[hN,aR,aS]
 ·try simp at c1
  obtain rfl : lo = hi := by omega
  have hpos : posL nP l c = lo := posL_of nP l c lo h2 h3 (fun h => h4 lo h (Nat.le_refl _));apply bM;apply bO;apply bP;apply bE;apply aD;refine zk [0,1,2,6,7,8,9] ?_;refine Cu ⟨[],[],[],[13,27,43],[]⟩ fun all hall _ Z=>?_;have ga4 : aY all 4 = some 39 := hall 4;refine aC 5 fun _ Y=>?_;simp (disch:=omega)[hN,aR,aS,ga4];and_intros<;>(try omega);apply Y;simp only [List.drop];refine cC 39 (by simp <;> rfl) ?_;refine ⟨fun g3 => ?_, fun g3 => ?_⟩
  ·try simp at g3
   refine aC 6 fun _ Y=>?_;simp (disch:=omega)[hN,aR,aS,ga4];and_intros<;>(try omega);apply Y;simp only [List.drop];refine zg ga4 fun _ Y=>?_;simp (disch:=omega)[hN,aR,aS,ga4];refine eV (Ca l[lo] c _) ?_;apply Y;simp (disch:=omega)[hN,aR,aS,ga4];and_intros<;>(try omega);apply Z;apply aH;simp [bB, hpos, fnd_at, *];exact sU _ _
  ·try simp at g3
   refine aC 8 fun _ Y=>?_;simp (disch:=omega)[hN,aR,aS,ga4];and_intros<;>(try omega);apply Y;simp only [List.drop];simp (disch:=omega)[hN,aR,aS,ga4];and_intros<;>(try omega);apply Z;apply aH;simp [bB, hpos, *];exact fnd_out _ _ _ (by omega)
theorem Jq (N cap : Nat) (l : List PI) (rest : List D) (c : ByteArray) (σ : List (List D)) (hl : l.length ≤ 1000000) (hN : σ[N]? = some (l.flatMap cP ++ rest)) (hs : Sorted nP l) : Ct Tryd.prog 45 [.slo N 0 l.length cap, D.str c] σ (fun r σ' => r = .tup [.int ((posL nP l c : Nat) : Int), .bool (fnd nP l c)] ∧ σ' = σ) := by
 refine zf (rs:=[.tmp 4,.tmp 5]) Tryd.func45 Tryd.ntmps45 Tryd.results45 ?_;simp only [aU];refine cH fun _ _ Z=>?_;simp[hN];and_intros<;>(try omega);apply Z;refine cH fun _ _ Z=>?_;refine aC 2 fun _ Y=>?_;simp[hN];and_intros<;>(try omega);apply Y;simp only [List.drop];refine aI fun _ Y=>?_;simp[hN];refine eV (Ph N cap l rest c _ hl hN hs) ?_;apply Y;simp[hN];and_intros<;>(try omega);apply Z;apply aH;simp [bB]
theorem Hu (l : List PI) (p : PI) (σ : List (List D)) (hl : l.length ≤ 999999) (hs : Sorted nP l) : Ct Tryd.prog 26 [.xs 2 (l.map bQ), bQ p] σ (fun r σ' => r = .xs 2 ((dN nP l p).map bQ) ∧ ∃ J, σ' = σ ++ J) := by
 refine zf (rs:=[.tmp 4]) Tryd.func26 Tryd.ntmps26 Tryd.results26 ?_;simp only [aU];refine eN 0 2 rfl (by decide) fun cap rest hcap hcm hrest hk0 hes => ?_;subst hrest;simp only [List.length_map] at hcap ⊢;rw [aZ (f := cP) (fun _ => rfl)];have hpl := posL_le nP l p.name;refine zr ⟨[4,19,20,24],[],[],[18],[]⟩ fun _ _ Z=>?_;simp (disch:=omega)[aB,aA];and_intros<;>(try omega);apply Z;refine zr ⟨[4,19,20,24],[],[],[18],[]⟩ fun _ _ Z=>?_;refine aC 3 fun _ Y=>?_;simp (disch:=omega)[aB,aA];and_intros<;>(try omega);apply Y;simp only [List.drop];refine aI fun _ Y=>?_;simp (disch:=omega)[aB,aA];refine eV (Jq σ.length cap l (List.replicate ((cap - l.length) * 2) .any) p.name _ (by omega) (by simp [aB]) hs) ?_;apply Y;simp (disch:=omega)[aB,aA];and_intros<;>(try omega);apply Z;apply aE;refine zr ⟨[4,19,20,24],[],[],[18],[]⟩ fun _ _ Z=>?_;simp (disch:=omega)[aB,aA];and_intros<;>(try omega);apply Z;refine zi ?_;refine ⟨fun c1=>?_,fun c1=>?_⟩
 ·try simp at c1
  have hlt := fnd_lt nP c1;refine zk [0,3,4,5] ?_;refine zr ⟨[4,19,20,24],[],[],[18],[]⟩ fun _ _ Z=>?_;simp (disch:=omega)[aB,aA];and_intros<;>(try omega);apply Z;refine zr ⟨[4,19,20,24],[],[],[18],[]⟩ fun _ _ Z=>?_;simp (disch:=omega)[aB,aA];and_intros<;>(try omega);apply Z;refine cR 4 2 σ.length l.length cap ((l.set (posL nP l p.name) p).map bQ) ((l.set (posL nP l p.name) p).flatMap cP ++ List.replicate ((cap - l.length) * 2) .any) (by simp <;> rfl) (by simp [aB]) (by omega) (by simp only [List.length_append, bC (f := cP) (k := 2) (fun _ => rfl), List.length_replicate, List.length_set]; omega) (by simp) (dW (d := bQ) (fun _ => ⟨rfl, rfl⟩) _) (by rw [aZ (f := cP) (fun _ => rfl)]; exact List.prefix_append _ _) ?_;apply aH;apply bJ;simp [bB, putL_eq, c1]
 ·try simp at c1
  apply aJ;apply aD;refine cR 0 2 σ.length l.length cap (l.map bQ) (l.flatMap cP ++ List.replicate ((cap - l.length) * 2) .any) (by simp <;> rfl) (by simp [aB]) (by omega) (by simp only [List.length_append, bC (f := cP) (k := 2) (fun _ => rfl), List.length_replicate, List.length_set]; omega) (by simp) (dW (d := bQ) (fun _ => ⟨rfl, rfl⟩) _) (by rw [aZ (f := cP) (fun _ => rfl)]; exact List.prefix_append _ _) ?_;refine zk [0,3,4,5] ?_;refine zr ⟨[4,19,20,24],[],[],[18],[]⟩ fun _ _ Z=>?_;refine aC 4 fun _ Y=>?_;simp (disch:=omega)[aB,aA];and_intros<;>(try omega);apply Y;simp only [List.drop];refine aI fun _ Y=>?_;simp (disch:=omega)[aB,aA];refine eV (Lf l p (posL nP l p.name) _ (by omega) hpl) ?_;apply Y;simp (disch:=omega)[aB,aA];and_intros<;>(try omega);apply Z;apply aH;simp [bB, putL_eq, c1]
end Go.Proofs.YtighdhfgcdjmeaaDoor


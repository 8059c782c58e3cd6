import Derived.Test.YtighdhfgcdjmeaaArProps
namespace Go.Proofs.Ytighdhfgcdjmeaa
open Go Go.Vm
set_option maxRecDepth 20000
set_option linter.all false
set_option maxHeartbeats 8000000
abbrev nA : AT → ByteArray := AT.name
abbrev nP : PI → ByteArray := PI.name
theorem aT (a b : Nat) : Int.fdiv ((a : Int) + (b : Int)) (2 ^ min 1 IntKind.u64.bits) = (((a + b) / 2 : Nat) : Int) := by
 have e : (2 : Int) ^ min 1 IntKind.u64.bits = 2 := by decide
 rw [e, Int.fdiv_eq_ediv_of_nonneg _ (by omega)]; omega
theorem Ps : IntKind.u64.min = 0 := rfl
theorem Ou : IntKind.u64.max = 18446744073709551615 := by decide
theorem aU (n : Int) : Hg .u64 n = (0 ≤ n ∧ n ≤ 18446744073709551615) := by
 show (IntKind.u64.min ≤ n ∧ n ≤ IntKind.u64.max) = _
 rw [Ps, Ou]
theorem xH (s : ByteArray) (σ : List (List D))  : Ct Try.prog 87 [D.str s] σ (fun r σ' => r = .bool false ∧ σ' = σ) := by
 refine zf (rs:=[.tmp 2]) Try.func87 Try.ntmps87 Try.results87 ?_;simp only [aM];refine bQ fun _ _ Z=>?_;simp;and_intros<;>(try omega);apply Z;refine bQ fun _ _ Z=>?_;simp;and_intros<;>(try omega);apply Z;apply aF;simp [aR]
theorem sV (a b : ByteArray) (σ : List (List D))  : Ct Try.prog 64 [D.str a, D.str b] σ (fun r σ' => r = .int (rE a b) ∧ σ' = σ) := by
 refine zf (rs:=[.tmp 4]) Try.func64 Try.ntmps64 Try.results64 ?_;simp only [aM];refine bQ fun _ _ Z=>?_;simp;and_intros<;>(try omega);apply Z;refine bQ fun _ _ Z=>?_;refine aC 1 fun _ Y=>?_;simp;and_intros<;>(try omega);apply Y;simp only [List.drop];refine aD fun _ Y=>?_;simp;refine cD (xH a _) ?_;apply Y;simp;and_intros<;>(try omega);apply Z;refine bQ fun _ _ Z=>?_;refine aC 1 fun _ Y=>?_;simp;and_intros<;>(try omega);apply Y;simp only [List.drop];refine aD fun _ Y=>?_;simp;refine cD (xH b _) ?_;apply Y;simp;and_intros<;>(try omega);apply Z;apply aH;refine bQ fun _ _ Z=>?_;simp;and_intros<;>(try omega);apply Z;refine zi ?_;refine ⟨fun c1=>?_,fun c1=>?_⟩
 ·simp at c1
 ·try simp at c1
  apply aK;apply aE;apply aH;refine bQ fun _ _ Z=>?_;simp;and_intros<;>(try omega);apply Z;refine zi ?_;refine ⟨fun c2=>?_,fun c2=>?_⟩
  ·simp at c2
  ·try simp at c2
   apply aK;apply aE;apply aH;refine bQ fun _ _ Z=>?_;simp;and_intros<;>(try omega);apply Z;refine zi ?_;refine ⟨fun c3=>?_,fun c3=>?_⟩
   ·try simp at c3
    refine zk [0,1,4] ?_;refine bQ fun _ _ Z=>?_;simp;and_intros<;>(try omega);apply Z;apply aF;apply bD;simp [aR, rE, cO, *]
   ·try simp at c3
    apply aK;apply aE;apply aH;refine zk [0,1,4] ?_;refine bQ fun _ _ Z=>?_;simp;and_intros<;>(try omega);apply Z;refine zi ?_;refine ⟨fun c4=>?_,fun c4=>?_⟩
    ·try simp at c4
     refine bQ fun _ _ Z=>?_;simp;and_intros<;>(try omega);apply Z;apply aF;apply bD;simp [aR, rE, cO, *]
    ·try simp at c4
     apply aK;apply aE;refine bQ fun _ _ Z=>?_;simp;and_intros<;>(try omega);apply Z;apply aF;simp [aR, rE, cO, *]
theorem Cu (x : AT) (s : ByteArray) (σ : List (List D))  : Ct Try.prog 68 [bR x, D.str s] σ (fun r σ' => r = .int (rE x.name s) ∧ σ' = σ) := by
 refine zf (rs:=[.tmp 4]) Try.func68 Try.ntmps68 Try.results68 ?_;simp only [aM];refine bQ fun _ _ Z=>?_;simp;and_intros<;>(try omega);apply Z;refine bQ fun _ _ Z=>?_;refine aC 3 fun _ Y=>?_;simp;and_intros<;>(try omega);apply Y;simp only [List.drop];refine aD fun _ Y=>?_;simp;refine cD (sV x.name s _) ?_;apply Y;simp;and_intros<;>(try omega);apply Z;apply aF;simp [aR]
theorem Ro (N cap : Nat) (l : List AT) (rest : List D) (c : ByteArray) (σ : List (List D)) (hl : l.length ≤ 1000000) (hN : σ[N]? = some (l.flatMap cA ++ rest)) (hs : Sorted nA l) : Ct Try.prog 67 [.slo N 0 l.length cap, D.str c, .clo (.func 68) [] []] σ (fun r σ' => r = .tup [.int ((posL nA l c : Nat) : Int), .bool (fnd nA l c)] ∧ σ' = σ) := by
 refine zf (rs:=[.tmp 6,.tmp 7]) Try.func67 Try.ntmps67 Try.results67 ?_;simp only [aM];refine zr ⟨[],[],[],[13,27,43],[]⟩ fun _ _ Z=>?_;simp (disch:=omega)[hN,aT,aU];and_intros<;>(try omega);apply Z;refine zr ⟨[],[],[],[13,27,43],[]⟩ fun _ _ Z=>?_;simp (disch:=omega)[hN,aT,aU];and_intros<;>(try omega);apply Z;refine zr ⟨[],[],[],[13,27,43],[]⟩ fun _ _ Z=>?_;simp (disch:=omega)[hN,aT,aU];and_intros<;>(try omega);apply Z;apply aH;apply aN;refine zk [0,1,2,6,7,8,9,10] ?_;refine cN (fun (s : Nat × Nat) => [(9, .d (.v (.int .i64 (s.1 : Int)))), (10, .d (.v (.int .i64 (s.2 : Int)))), (11, .d (.any))]) [9, 10, 11, 15, 16, 17, 18, 19, 20, 21, 22, 23, 24, 25, 26, 27, 28, 29, 30, 31, 32, 33, 34] (fun (s : Nat × Nat) => s.1 ≤ s.2 ∧ s.2 ≤ l.length ∧ (∀ j (h : j < l.length), j < s.1 → cO l[j].name c = true) ∧ (∀ j (h : j < l.length), s.2 ≤ j → cO l[j].name c = false)) (fun (s : Nat × Nat) => s.2 - s.1) ((0, l.length)) (by simp <;> rfl) ?_ ?_ ?_
 ·simp
 ·exact ⟨by omega, by omega, fun j h h2 => absurd h2 (by simp), fun j h h2 => absurd h2 (by simp; omega)⟩
 rintro ⟨lo, hi⟩ ⟨h1, h2, h3, h4⟩;simp only [List.cons_append, List.nil_append];dsimp only at h1 h2 h3 h4;have hmid : lo < hi → (lo + hi) / 2 < hi := fun h => by omega
 apply aH;refine zr ⟨[],[],[],[13,27,43],[]⟩ fun _ _ Z=>?_;simp (disch:=omega)[hN,aT,aU];and_intros<;>(try omega);apply Z;refine zi ?_;refine ⟨fun c1=>?_,fun c1=>?_⟩
 ·try simp at c1
  apply aK;apply aE;apply aN;refine zk [0,1,2,6,7,8,9,10,11] ?_;refine zr ⟨[],[],[],[13,27,43],[]⟩ fun _ _ Z=>?_;simp (disch:=omega)[hN,aT,aU];and_intros<;>(try omega);apply Z;refine zk [0,1,2,6,7,8,9,10,11] ?_;refine zr ⟨[],[],[],[13,27,43],[]⟩ fun _ _ Z=>?_;refine aC 6 fun _ Y=>?_;simp (disch:=omega)[hN,aT,aU];and_intros<;>(try omega);apply Y;simp only [List.drop];refine aD fun _ Y=>?_;simp (disch:=omega)[hN,aT,aU];refine cD (Cu l[(lo + hi) / 2] c _) ?_;apply Y;simp (disch:=omega)[hN,aT,aU];and_intros<;>(try omega);apply Z;refine zi ?_;refine ⟨fun c2=>?_,fun c2=>?_⟩
  ·try simp at c2
   refine zk [0,1,2,6,7,8,9,10,11] ?_;refine zt ⟨[],[],[],[13,27,43],[]⟩ fun _ _ Z=>?_;simp (disch:=omega)[hN,aT,aU];and_intros<;>(try omega);apply Z;apply aZ;refine bT (((lo + hi) / 2 + 1, hi)) ?_ ?_ (bI rfl ?_ (by simp) (by simp))
   ·exact ⟨by dsimp only; omega, by dsimp only; omega, bs_lo nA hs (by omega) (by simpa [qY] using c2), h4⟩
   ·try dsimp only
    omega
   ·simp (disch:=omega)[hN,aT,aU]
  ·try simp at c2
   refine zk [0,1,2,6,7,8,9,10,11] ?_;refine zt ⟨[],[],[],[13,27,43],[]⟩ fun _ _ Z=>?_;simp (disch:=omega)[hN,aT,aU];and_intros<;>(try omega);apply Z;apply aZ;refine bT ((lo, (lo + hi) / 2)) ?_ ?_ (bI rfl ?_ (by simp) (by simp))
   ·exact ⟨by dsimp only; omega, by dsimp only; omega, h3, bs_hi nA hs (by omega) ((Ch _ _).1 (by omega))⟩
   ·try dsimp only
    omega
   ·simp (disch:=omega)[hN,aT,aU]
 ·try simp at c1
  obtain rfl : lo = hi := by omega
  have hpos : posL nA l c = lo := posL_of nA l c lo h2 h3 (fun h => h4 lo h (Nat.le_refl _));apply bP;apply bN;apply bO;apply bG;apply aE;refine zk [0,1,2,6,7,8,9] ?_;refine Ms ⟨[],[],[],[13,27,43],[]⟩ fun all hall _ Z=>?_;have ga4 : bK all 4 = some 39 := hall 4;refine aC 5 fun _ Y=>?_;simp (disch:=omega)[hN,aT,aU,ga4];and_intros<;>(try omega);apply Y;simp only [List.drop];refine eC 39 (by simp <;> rfl) ?_;refine ⟨fun g3 => ?_, fun g3 => ?_⟩
  ·try simp at g3
   refine aC 6 fun _ Y=>?_;simp (disch:=omega)[hN,aT,aU,ga4];and_intros<;>(try omega);apply Y;simp only [List.drop];refine zg ga4 fun _ Y=>?_;simp (disch:=omega)[hN,aT,aU,ga4];refine cD (Cu l[lo] c _) ?_;apply Y;simp (disch:=omega)[hN,aT,aU,ga4];and_intros<;>(try omega);apply Z;apply aF;simp [aR, hpos, fnd_at, *];exact tK _ _
  ·try simp at g3
   refine aC 8 fun _ Y=>?_;simp (disch:=omega)[hN,aT,aU,ga4];and_intros<;>(try omega);apply Y;simp only [List.drop];simp (disch:=omega)[hN,aT,aU,ga4];and_intros<;>(try omega);apply Z;apply aF;simp [aR, hpos, *];exact fnd_out _ _ _ (by omega)
theorem Sa (N cap : Nat) (l : List AT) (rest : List D) (c : ByteArray) (σ : List (List D)) (hl : l.length ≤ 1000000) (hN : σ[N]? = some (l.flatMap cA ++ rest)) (hs : Sorted nA l) : Ct Try.prog 41 [.slo N 0 l.length cap, D.str c] σ (fun r σ' => r = .tup [.int ((posL nA l c : Nat) : Int), .bool (fnd nA l c)] ∧ σ' = σ) := by
 refine zf (rs:=[.tmp 4,.tmp 5]) Try.func41 Try.ntmps41 Try.results41 ?_;simp only [aM];refine bQ fun _ _ Z=>?_;simp[hN];and_intros<;>(try omega);apply Z;refine bQ fun _ _ Z=>?_;refine aC 2 fun _ Y=>?_;simp[hN];and_intros<;>(try omega);apply Y;simp only [List.drop];refine aD fun _ Y=>?_;simp[hN];refine cD (Ro N cap l rest c _ hl hN hs) ?_;apply Y;simp[hN];and_intros<;>(try omega);apply Z;apply aF;simp [aR]
theorem Kl (l : List AT) (p : AT) (σ : List (List D)) (hl : l.length ≤ 999999) (hs : Sorted nA l) : Ct Try.prog 20 [.xs 2 (l.map bR), bR p] σ (fun r σ' => r = .xs 2 ((cZ nA l p).map bR) ∧ ∃ J, σ' = σ ++ J) := by
 refine zf (rs:=[.tmp 4]) Try.func20 Try.ntmps20 Try.results20 ?_;simp only [aM];refine eQ 0 2 rfl (by decide) fun cap rest hcap hcm hrest hk0 hes => ?_;subst hrest;simp only [List.length_map] at hcap ⊢;rw [bA (f := cA) (fun _ => rfl)];have hpl := posL_le nA l p.name;refine zr ⟨[4,19,20,24],[],[],[18],[]⟩ fun _ _ Z=>?_;simp (disch:=omega)[aB,aA];and_intros<;>(try omega);apply Z;refine zr ⟨[4,19,20,24],[],[],[18],[]⟩ fun _ _ Z=>?_;refine aC 3 fun _ Y=>?_;simp (disch:=omega)[aB,aA];and_intros<;>(try omega);apply Y;simp only [List.drop];refine aD fun _ Y=>?_;simp (disch:=omega)[aB,aA];refine cD (Sa σ.length cap l (List.replicate ((cap - l.length) * 2) .any) p.name _ (by omega) (by simp [aB]) hs) ?_;apply Y;simp (disch:=omega)[aB,aA];and_intros<;>(try omega);apply Z;apply aH;refine zr ⟨[4,19,20,24],[],[],[18],[]⟩ fun _ _ Z=>?_;simp (disch:=omega)[aB,aA];and_intros<;>(try omega);apply Z;refine zi ?_;refine ⟨fun c1=>?_,fun c1=>?_⟩
 ·try simp at c1
  have hlt := fnd_lt nA c1;refine zk [0,3,4,5] ?_;refine zr ⟨[4,19,20,24],[],[],[18],[]⟩ fun _ _ Z=>?_;simp (disch:=omega)[aB,aA];and_intros<;>(try omega);apply Z;refine zr ⟨[4,19,20,24],[],[],[18],[]⟩ fun _ _ Z=>?_;simp (disch:=omega)[aB,aA];and_intros<;>(try omega);apply Z;refine bZ 4 2 σ.length l.length cap ((l.set (posL nA l p.name) p).map bR) ((l.set (posL nA l p.name) p).flatMap cA ++ List.replicate ((cap - l.length) * 2) .any) (by simp <;> rfl) (by simp [aB]) (by omega) (by simp only [List.length_append, bB (f := cA) (k := 2) (fun _ => rfl), List.length_replicate, List.length_set]; omega) (by simp) (dY (d := bR) (fun _ => ⟨rfl, rfl⟩) _) (by rw [bA (f := cA) (fun _ => rfl)]; exact List.prefix_append _ _) ?_;apply aF;apply bD;simp [aR, putL_eq, c1]
 ·try simp at c1
  apply aK;apply aE;refine bZ 0 2 σ.length l.length cap (l.map bR) (l.flatMap cA ++ List.replicate ((cap - l.length) * 2) .any) (by simp <;> rfl) (by simp [aB]) (by omega) (by simp only [List.length_append, bB (f := cA) (k := 2) (fun _ => rfl), List.length_replicate, List.length_set]; omega) (by simp) (dY (d := bR) (fun _ => ⟨rfl, rfl⟩) _) (by rw [bA (f := cA) (fun _ => rfl)]; exact List.prefix_append _ _) ?_;refine zk [0,3,4,5] ?_;refine zr ⟨[4,19,20,24],[],[],[18],[]⟩ fun _ _ Z=>?_;refine aC 4 fun _ Y=>?_;simp (disch:=omega)[aB,aA];and_intros<;>(try omega);apply Y;simp only [List.drop];refine aD fun _ Y=>?_;simp (disch:=omega)[aB,aA];refine cD (Nw l p (posL nA l p.name) _ (by omega) hpl) ?_;apply Y;simp (disch:=omega)[aB,aA];and_intros<;>(try omega);apply Z;apply aF;simp [aR, putL_eq, c1]
theorem Dc (x : PI) (s : ByteArray) (σ : List (List D))  : Ct Try.prog 63 [bH x, D.str s] σ (fun r σ' => r = .int (rE x.name s) ∧ σ' = σ) := by
 refine zf (rs:=[.tmp 4]) Try.func63 Try.ntmps63 Try.results63 ?_;simp only [aM];refine bQ fun _ _ Z=>?_;simp;and_intros<;>(try omega);apply Z;refine bQ fun _ _ Z=>?_;refine aC 3 fun _ Y=>?_;simp;and_intros<;>(try omega);apply Y;simp only [List.drop];refine aD fun _ Y=>?_;simp;refine cD (sV x.name s _) ?_;apply Y;simp;and_intros<;>(try omega);apply Z;apply aF;simp [aR]
theorem Rt (N cap : Nat) (l : List PI) (rest : List D) (c : ByteArray) (σ : List (List D)) (hl : l.length ≤ 1000000) (hN : σ[N]? = some (l.flatMap cP ++ rest)) (hs : Sorted nP l) : Ct Try.prog 62 [.slo N 0 l.length cap, D.str c, .clo (.func 63) [] []] σ (fun r σ' => r = .tup [.int ((posL nP l c : Nat) : Int), .bool (fnd nP l c)] ∧ σ' = σ) := by
 refine zf (rs:=[.tmp 6,.tmp 7]) Try.func62 Try.ntmps62 Try.results62 ?_;simp only [aM];refine zr ⟨[],[],[],[13,27,43],[]⟩ fun _ _ Z=>?_;simp (disch:=omega)[hN,aT,aU];and_intros<;>(try omega);apply Z;refine zr ⟨[],[],[],[13,27,43],[]⟩ fun _ _ Z=>?_;simp (disch:=omega)[hN,aT,aU];and_intros<;>(try omega);apply Z;refine zr ⟨[],[],[],[13,27,43],[]⟩ fun _ _ Z=>?_;simp (disch:=omega)[hN,aT,aU];and_intros<;>(try omega);apply Z;apply aH;apply aN;refine zk [0,1,2,6,7,8,9,10] ?_;refine cN (fun (s : Nat × Nat) => [(9, .d (.v (.int .i64 (s.1 : Int)))), (10, .d (.v (.int .i64 (s.2 : Int)))), (11, .d (.any))]) [9, 10, 11, 15, 16, 17, 18, 19, 20, 21, 22, 23, 24, 25, 26, 27, 28, 29, 30, 31, 32, 33, 34] (fun (s : Nat × Nat) => s.1 ≤ s.2 ∧ s.2 ≤ l.length ∧ (∀ j (h : j < l.length), j < s.1 → cO l[j].name c = true) ∧ (∀ j (h : j < l.length), s.2 ≤ j → cO l[j].name c = false)) (fun (s : Nat × Nat) => s.2 - s.1) ((0, l.length)) (by simp <;> rfl) ?_ ?_ ?_
 ·simp
 ·exact ⟨by omega, by omega, fun j h h2 => absurd h2 (by simp), fun j h h2 => absurd h2 (by simp; omega)⟩
 rintro ⟨lo, hi⟩ ⟨h1, h2, h3, h4⟩;simp only [List.cons_append, List.nil_append];dsimp only at h1 h2 h3 h4;have hmid : lo < hi → (lo + hi) / 2 < hi := fun h => by omega
 apply aH;refine zr ⟨[],[],[],[13,27,43],[]⟩ fun _ _ Z=>?_;simp (disch:=omega)[hN,aT,aU];and_intros<;>(try omega);apply Z;refine zi ?_;refine ⟨fun c1=>?_,fun c1=>?_⟩
 ·try simp at c1
  apply aK;apply aE;apply aN;refine zk [0,1,2,6,7,8,9,10,11] ?_;refine zr ⟨[],[],[],[13,27,43],[]⟩ fun _ _ Z=>?_;simp (disch:=omega)[hN,aT,aU];and_intros<;>(try omega);apply Z;refine zk [0,1,2,6,7,8,9,10,11] ?_;refine zr ⟨[],[],[],[13,27,43],[]⟩ fun _ _ Z=>?_;refine aC 6 fun _ Y=>?_;simp (disch:=omega)[hN,aT,aU];and_intros<;>(try omega);apply Y;simp only [List.drop];refine aD fun _ Y=>?_;simp (disch:=omega)[hN,aT,aU];refine cD (Dc l[(lo + hi) / 2] c _) ?_;apply Y;simp (disch:=omega)[hN,aT,aU];and_intros<;>(try omega);apply Z;refine zi ?_;refine ⟨fun c2=>?_,fun c2=>?_⟩
  ·try simp at c2
   refine zk [0,1,2,6,7,8,9,10,11] ?_;refine zt ⟨[],[],[],[13,27,43],[]⟩ fun _ _ Z=>?_;simp (disch:=omega)[hN,aT,aU];and_intros<;>(try omega);apply Z;apply aZ;refine bT (((lo + hi) / 2 + 1, hi)) ?_ ?_ (bI rfl ?_ (by simp) (by simp))
   ·exact ⟨by dsimp only; omega, by dsimp only; omega, bs_lo nP hs (by omega) (by simpa [qY] using c2), h4⟩
   ·try dsimp only
    omega
   ·simp (disch:=omega)[hN,aT,aU]
  ·try simp at c2
   refine zk [0,1,2,6,7,8,9,10,11] ?_;refine zt ⟨[],[],[],[13,27,43],[]⟩ fun _ _ Z=>?_;simp (disch:=omega)[hN,aT,aU];and_intros<;>(try omega);apply Z;apply aZ;refine bT ((lo, (lo + hi) / 2)) ?_ ?_ (bI rfl ?_ (by simp) (by simp))
   ·exact ⟨by dsimp only; omega, by dsimp only; omega, h3, bs_hi nP hs (by omega) ((Ch _ _).1 (by omega))⟩
   ·try dsimp only
    omega
   ·simp (disch:=omega)[hN,aT,aU]
 ·try simp at c1
  obtain rfl : lo = hi := by omega
  have hpos : posL nP l c = lo := posL_of nP l c lo h2 h3 (fun h => h4 lo h (Nat.le_refl _));apply bP;apply bN;apply bO;apply bG;apply aE;refine zk [0,1,2,6,7,8,9] ?_;refine Ms ⟨[],[],[],[13,27,43],[]⟩ fun all hall _ Z=>?_;have ga4 : bK all 4 = some 39 := hall 4;refine aC 5 fun _ Y=>?_;simp (disch:=omega)[hN,aT,aU,ga4];and_intros<;>(try omega);apply Y;simp only [List.drop];refine eC 39 (by simp <;> rfl) ?_;refine ⟨fun g3 => ?_, fun g3 => ?_⟩
  ·try simp at g3
   refine aC 6 fun _ Y=>?_;simp (disch:=omega)[hN,aT,aU,ga4];and_intros<;>(try omega);apply Y;simp only [List.drop];refine zg ga4 fun _ Y=>?_;simp (disch:=omega)[hN,aT,aU,ga4];refine cD (Dc l[lo] c _) ?_;apply Y;simp (disch:=omega)[hN,aT,aU,ga4];and_intros<;>(try omega);apply Z;apply aF;simp [aR, hpos, fnd_at, *];exact tK _ _
  ·try simp at g3
   refine aC 8 fun _ Y=>?_;simp (disch:=omega)[hN,aT,aU,ga4];and_intros<;>(try omega);apply Y;simp only [List.drop];simp (disch:=omega)[hN,aT,aU,ga4];and_intros<;>(try omega);apply Z;apply aF;simp [aR, hpos, *];exact fnd_out _ _ _ (by omega)
theorem Kn (N cap : Nat) (l : List PI) (rest : List D) (c : ByteArray) (σ : List (List D)) (hl : l.length ≤ 1000000) (hN : σ[N]? = some (l.flatMap cP ++ rest)) (hs : Sorted nP l) : Ct Try.prog 39 [.slo N 0 l.length cap, D.str c] σ (fun r σ' => r = .tup [.int ((posL nP l c : Nat) : Int), .bool (fnd nP l c)] ∧ σ' = σ) := by
 refine zf (rs:=[.tmp 4,.tmp 5]) Try.func39 Try.ntmps39 Try.results39 ?_;simp only [aM];refine bQ fun _ _ Z=>?_;simp[hN];and_intros<;>(try omega);apply Z;refine bQ fun _ _ Z=>?_;refine aC 2 fun _ Y=>?_;simp[hN];and_intros<;>(try omega);apply Y;simp only [List.drop];refine aD fun _ Y=>?_;simp[hN];refine cD (Rt N cap l rest c _ hl hN hs) ?_;apply Y;simp[hN];and_intros<;>(try omega);apply Z;apply aF;simp [aR]
theorem Ko (l : List PI) (p : PI) (σ : List (List D)) (hl : l.length ≤ 999999) (hs : Sorted nP l) : Ct Try.prog 18 [.xs 2 (l.map bH), bH p] σ (fun r σ' => r = .xs 2 ((cZ nP l p).map bH) ∧ ∃ J, σ' = σ ++ J) := by
 refine zf (rs:=[.tmp 4]) Try.func18 Try.ntmps18 Try.results18 ?_;simp only [aM];refine eQ 0 2 rfl (by decide) fun cap rest hcap hcm hrest hk0 hes => ?_;subst hrest;simp only [List.length_map] at hcap ⊢;rw [bA (f := cP) (fun _ => rfl)];have hpl := posL_le nP l p.name;refine zr ⟨[4,19,20,24],[],[],[18],[]⟩ fun _ _ Z=>?_;simp (disch:=omega)[aB,aA];and_intros<;>(try omega);apply Z;refine zr ⟨[4,19,20,24],[],[],[18],[]⟩ fun _ _ Z=>?_;refine aC 3 fun _ Y=>?_;simp (disch:=omega)[aB,aA];and_intros<;>(try omega);apply Y;simp only [List.drop];refine aD fun _ Y=>?_;simp (disch:=omega)[aB,aA];refine cD (Kn σ.length cap l (List.replicate ((cap - l.length) * 2) .any) p.name _ (by omega) (by simp [aB]) hs) ?_;apply Y;simp (disch:=omega)[aB,aA];and_intros<;>(try omega);apply Z;apply aH;refine zr ⟨[4,19,20,24],[],[],[18],[]⟩ fun _ _ Z=>?_;simp (disch:=omega)[aB,aA];and_intros<;>(try omega);apply Z;refine zi ?_;refine ⟨fun c1=>?_,fun c1=>?_⟩
 ·try simp at c1
  have hlt := fnd_lt nP c1;refine zk [0,3,4,5] ?_;refine zr ⟨[4,19,20,24],[],[],[18],[]⟩ fun _ _ Z=>?_;simp (disch:=omega)[aB,aA];and_intros<;>(try omega);apply Z;refine zr ⟨[4,19,20,24],[],[],[18],[]⟩ fun _ _ Z=>?_;simp (disch:=omega)[aB,aA];and_intros<;>(try omega);apply Z;refine bZ 4 2 σ.length l.length cap ((l.set (posL nP l p.name) p).map bH) ((l.set (posL nP l p.name) p).flatMap cP ++ List.replicate ((cap - l.length) * 2) .any) (by simp <;> rfl) (by simp [aB]) (by omega) (by simp only [List.length_append, bB (f := cP) (k := 2) (fun _ => rfl), List.length_replicate, List.length_set]; omega) (by simp) (dY (d := bH) (fun _ => ⟨rfl, rfl⟩) _) (by rw [bA (f := cP) (fun _ => rfl)]; exact List.prefix_append _ _) ?_;apply aF;apply bD;simp [aR, putL_eq, c1]
 ·try simp at c1
  apply aK;apply aE;refine bZ 0 2 σ.length l.length cap (l.map bH) (l.flatMap cP ++ List.replicate ((cap - l.length) * 2) .any) (by simp <;> rfl) (by simp [aB]) (by omega) (by simp only [List.length_append, bB (f := cP) (k := 2) (fun _ => rfl), List.length_replicate, List.length_set]; omega) (by simp) (dY (d := bH) (fun _ => ⟨rfl, rfl⟩) _) (by rw [bA (f := cP) (fun _ => rfl)]; exact List.prefix_append _ _) ?_;refine zk [0,3,4,5] ?_;refine zr ⟨[4,19,20,24],[],[],[18],[]⟩ fun _ _ Z=>?_;refine aC 4 fun _ Y=>?_;simp (disch:=omega)[aB,aA];and_intros<;>(try omega);apply Y;simp only [List.drop];refine aD fun _ Y=>?_;simp (disch:=omega)[aB,aA];refine cD (Oe l p (posL nP l p.name) _ (by omega) hpl) ?_;apply Y;simp (disch:=omega)[aB,aA];and_intros<;>(try omega);apply Z;apply aF;simp [aR, putL_eq, c1]
end Go.Proofs.Ytighdhfgcdjmeaa


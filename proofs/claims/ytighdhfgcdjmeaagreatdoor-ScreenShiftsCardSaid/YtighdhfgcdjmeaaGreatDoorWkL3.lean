import Derived.Test.YtighdhfgcdjmeaaGreatDoorArProps
namespace Go.Proofs.YtighdhfgcdjmeaaGreatDoor
open Go Go.Vm
set_option maxRecDepth 20000
set_option linter.all false
set_option maxHeartbeats 8000000
abbrev nA : AT → ByteArray := AT.name
abbrev nP : PI → ByteArray := PI.name
theorem aW (a b : Nat) : Int.fdiv ((a : Int) + (b : Int)) (2 ^ min 1 IntKind.u64.bits) = (((a + b) / 2 : Nat) : Int) := by
 have e : (2 : Int) ^ min 1 IntKind.u64.bits = 2 := by decide
 rw [e, Int.fdiv_eq_ediv_of_nonneg _ (by omega)]; omega
theorem Pl : IntKind.u64.min = 0 := rfl
theorem Pk : IntKind.u64.max = 18446744073709551615 := by decide
theorem aX (n : Int) : rK .u64 n = (0 ≤ n ∧ n ≤ 18446744073709551615) := by
 show (IntKind.u64.min ≤ n ∧ n ≤ IntKind.u64.max) = _
 rw [Pl, Pk]
theorem zG (s : ByteArray) (σ : List (List D))  : Ct Tryz.prog 102 [D.str s] σ (fun r σ' => r = .bool false ∧ σ' = σ) := by
 refine zf (rs:=[.tmp 2]) Tryz.func102 Tryz.ntmps102 Tryz.results102 ?_;simp only [aQ];refine bV fun _ _ Z=>?_;simp;and_intros<;>(try omega);apply Z;refine bV fun _ _ Z=>?_;simp;and_intros<;>(try omega);apply Z;apply aF;simp [aS]
theorem tZ (a b : ByteArray) (σ : List (List D))  : Ct Tryz.prog 85 [D.str a, D.str b] σ (fun r σ' => r = .int (sQ a b) ∧ σ' = σ) := by
 refine zf (rs:=[.tmp 4]) Tryz.func85 Tryz.ntmps85 Tryz.results85 ?_;simp only [aQ];refine bV fun _ _ Z=>?_;simp;and_intros<;>(try omega);apply Z;refine bV fun _ _ Z=>?_;refine aB 1 fun _ Y=>?_;simp;and_intros<;>(try omega);apply Y;simp only [List.drop];refine aH fun _ Y=>?_;simp;refine dW (zG a _) ?_;apply Y;simp;and_intros<;>(try omega);apply Z;refine bV fun _ _ Z=>?_;refine aB 1 fun _ Y=>?_;simp;and_intros<;>(try omega);apply Y;simp only [List.drop];refine aH fun _ Y=>?_;simp;refine dW (zG b _) ?_;apply Y;simp;and_intros<;>(try omega);apply Z;apply aE;refine bV fun _ _ Z=>?_;simp;and_intros<;>(try omega);apply Z;refine zi ?_;refine ⟨fun c1=>?_,fun c1=>?_⟩
 ·simp at c1
 ·try simp at c1
  apply aG;apply aC;apply aE;refine bV fun _ _ Z=>?_;simp;and_intros<;>(try omega);apply Z;refine zi ?_;refine ⟨fun c2=>?_,fun c2=>?_⟩
  ·simp at c2
  ·try simp at c2
   apply aG;apply aC;apply aE;refine bV fun _ _ Z=>?_;simp;and_intros<;>(try omega);apply Z;refine zi ?_;refine ⟨fun c3=>?_,fun c3=>?_⟩
   ·try simp at c3
    refine zk [0,1,4] ?_;refine bV fun _ _ Z=>?_;simp;and_intros<;>(try omega);apply Z;apply aF;apply bK;simp [aS, sQ, cQ, *]
   ·try simp at c3
    apply aG;apply aC;apply aE;refine zk [0,1,4] ?_;refine bV fun _ _ Z=>?_;simp;and_intros<;>(try omega);apply Z;refine zi ?_;refine ⟨fun c4=>?_,fun c4=>?_⟩
    ·try simp at c4
     refine bV fun _ _ Z=>?_;simp;and_intros<;>(try omega);apply Z;apply aF;apply bK;simp [aS, sQ, cQ, *]
    ·try simp at c4
     apply aG;apply aC;refine bV fun _ _ Z=>?_;simp;and_intros<;>(try omega);apply Z;apply aF;simp [aS, sQ, cQ, *]
theorem Em (x : AT) (s : ByteArray) (σ : List (List D))  : Ct Tryz.prog 93 [bY x, D.str s] σ (fun r σ' => r = .int (sQ x.name s) ∧ σ' = σ) := by
 refine zf (rs:=[.tmp 4]) Tryz.func93 Tryz.ntmps93 Tryz.results93 ?_;simp only [aQ];refine bV fun _ _ Z=>?_;simp;and_intros<;>(try omega);apply Z;refine bV fun _ _ Z=>?_;refine aB 3 fun _ Y=>?_;simp;and_intros<;>(try omega);apply Y;simp only [List.drop];refine aH fun _ Y=>?_;simp;refine dW (tZ x.name s _) ?_;apply Y;simp;and_intros<;>(try omega);apply Z;apply aF;simp [aS]
theorem Se (N cap : Nat) (l : List AT) (rest : List D) (c : ByteArray) (σ : List (List D)) (hl : l.length ≤ 1000000) (hN : σ[N]? = some (l.flatMap cA ++ rest)) (hs : Sorted nA l) : Ct Tryz.prog 92 [.slo N 0 l.length cap, D.str c, .clo (.func 93) [] []] σ (fun r σ' => r = .tup [.int ((posL nA l c : Nat) : Int), .bool (fnd nA l c)] ∧ σ' = σ) := by
 refine zf (rs:=[.tmp 6,.tmp 7]) Tryz.func92 Tryz.ntmps92 Tryz.results92 ?_;simp only [aQ];refine zr ⟨[],[],[],[13,27,43],[]⟩ fun _ _ Z=>?_;simp (disch:=omega)[hN,aW,aX];and_intros<;>(try omega);apply Z;refine zr ⟨[],[],[],[13,27,43],[]⟩ fun _ _ Z=>?_;simp (disch:=omega)[hN,aW,aX];and_intros<;>(try omega);apply Z;refine zr ⟨[],[],[],[13,27,43],[]⟩ fun _ _ Z=>?_;simp (disch:=omega)[hN,aW,aX];and_intros<;>(try omega);apply Z;apply aE;apply aI;refine zk [0,1,2,6,7,8,9,10] ?_;refine cM (fun (s : Nat × Nat) => [(9, .d (.v (.int .i64 (s.1 : Int)))), (10, .d (.v (.int .i64 (s.2 : Int)))), (11, .d (.any))]) [9, 10, 11, 15, 16, 17, 18, 19, 20, 21, 22, 23, 24, 25, 26, 27, 28, 29, 30, 31, 32, 33, 34] (fun (s : Nat × Nat) => s.1 ≤ s.2 ∧ s.2 ≤ l.length ∧ (∀ j (h : j < l.length), j < s.1 → cQ l[j].name c = true) ∧ (∀ j (h : j < l.length), s.2 ≤ j → cQ l[j].name c = false)) (fun (s : Nat × Nat) => s.2 - s.1) ((0, l.length)) (by simp <;> rfl) ?_ ?_ ?_
 ·simp
 ·exact ⟨by omega, by omega, fun j h h2 => absurd h2 (by simp), fun j h h2 => absurd h2 (by simp; omega)⟩
 rintro ⟨lo, hi⟩ ⟨h1, h2, h3, h4⟩;simp only [List.cons_append, List.nil_append];dsimp only at h1 h2 h3 h4;have hmid : lo < hi → (lo + hi) / 2 < hi := fun h => by omega
 apply aE;refine zr ⟨[],[],[],[13,27,43],[]⟩ fun _ _ Z=>?_;simp (disch:=omega)[hN,aW,aX];and_intros<;>(try omega);apply Z;refine zi ?_;refine ⟨fun c1=>?_,fun c1=>?_⟩
 ·try simp at c1
  apply aG;apply aC;apply aI;refine zk [0,1,2,6,7,8,9,10,11] ?_;refine zr ⟨[],[],[],[13,27,43],[]⟩ fun _ _ Z=>?_;simp (disch:=omega)[hN,aW,aX];and_intros<;>(try omega);apply Z;refine zk [0,1,2,6,7,8,9,10,11] ?_;refine zr ⟨[],[],[],[13,27,43],[]⟩ fun _ _ Z=>?_;refine aB 6 fun _ Y=>?_;simp (disch:=omega)[hN,aW,aX];and_intros<;>(try omega);apply Y;simp only [List.drop];refine aH fun _ Y=>?_;simp (disch:=omega)[hN,aW,aX];refine dW (Em l[(lo + hi) / 2] c _) ?_;apply Y;simp (disch:=omega)[hN,aW,aX];and_intros<;>(try omega);apply Z;refine zi ?_;refine ⟨fun c2=>?_,fun c2=>?_⟩
  ·try simp at c2
   refine zk [0,1,2,6,7,8,9,10,11] ?_;refine zt ⟨[],[],[],[13,27,43],[]⟩ fun _ _ Z=>?_;simp (disch:=omega)[hN,aW,aX];and_intros<;>(try omega);apply Z;apply aN;refine bJ (((lo + hi) / 2 + 1, hi)) ?_ ?_ (aV rfl ?_ (by simp) (by simp))
   ·exact ⟨by dsimp only; omega, by dsimp only; omega, bs_lo nA hs (by omega) (by simpa [tX] using c2), h4⟩
   ·try dsimp only
    omega
   ·simp (disch:=omega)[hN,aW,aX]
  ·try simp at c2
   refine zk [0,1,2,6,7,8,9,10,11] ?_;refine zt ⟨[],[],[],[13,27,43],[]⟩ fun _ _ Z=>?_;simp (disch:=omega)[hN,aW,aX];and_intros<;>(try omega);apply Z;apply aN;refine bJ ((lo, (lo + hi) / 2)) ?_ ?_ (aV rfl ?_ (by simp) (by simp))
   ·exact ⟨by dsimp only; omega, by dsimp only; omega, h3, bs_hi nA hs (by omega) ((Et _ _).1 (by omega))⟩
   ·try dsimp only
    omega
   ·simp (disch:=omega)[hN,aW,aX]
 ·try simp at c1
  obtain rfl : lo = hi := by omega
  have hpos : posL nA l c = lo := posL_of nA l c lo h2 h3 (fun h => h4 lo h (Nat.le_refl _));apply bD;apply bE;apply bG;apply aY;apply aC;refine zk [0,1,2,6,7,8,9] ?_;refine Du ⟨[],[],[],[13,27,43],[]⟩ fun all hall _ Z=>?_;have ga4 : bA all 4 = some 39 := hall 4;refine aB 5 fun _ Y=>?_;simp (disch:=omega)[hN,aW,aX,ga4];and_intros<;>(try omega);apply Y;simp only [List.drop];refine cJ 39 (by simp <;> rfl) ?_;refine ⟨fun g3 => ?_, fun g3 => ?_⟩
  ·try simp at g3
   refine aB 6 fun _ Y=>?_;simp (disch:=omega)[hN,aW,aX,ga4];and_intros<;>(try omega);apply Y;simp only [List.drop];refine zg ga4 fun _ Y=>?_;simp (disch:=omega)[hN,aW,aX,ga4];refine dW (Em l[lo] c _) ?_;apply Y;simp (disch:=omega)[hN,aW,aX,ga4];and_intros<;>(try omega);apply Z;apply aF;simp [aS, hpos, fnd_at, *];exact vU _ _
  ·try simp at g3
   refine aB 8 fun _ Y=>?_;simp (disch:=omega)[hN,aW,aX,ga4];and_intros<;>(try omega);apply Y;simp only [List.drop];simp (disch:=omega)[hN,aW,aX,ga4];and_intros<;>(try omega);apply Z;apply aF;simp [aS, hpos, *];exact fnd_out _ _ _ (by omega)
theorem Sr (N cap : Nat) (l : List AT) (rest : List D) (c : ByteArray) (σ : List (List D)) (hl : l.length ≤ 1000000) (hN : σ[N]? = some (l.flatMap cA ++ rest)) (hs : Sorted nA l) : Ct Tryz.prog 68 [.slo N 0 l.length cap, D.str c] σ (fun r σ' => r = .tup [.int ((posL nA l c : Nat) : Int), .bool (fnd nA l c)] ∧ σ' = σ) := by
 refine zf (rs:=[.tmp 4,.tmp 5]) Tryz.func68 Tryz.ntmps68 Tryz.results68 ?_;simp only [aQ];refine bV fun _ _ Z=>?_;simp[hN];and_intros<;>(try omega);apply Z;refine bV fun _ _ Z=>?_;refine aB 2 fun _ Y=>?_;simp[hN];and_intros<;>(try omega);apply Y;simp only [List.drop];refine aH fun _ Y=>?_;simp[hN];refine dW (Se N cap l rest c _ hl hN hs) ?_;apply Y;simp[hN];and_intros<;>(try omega);apply Z;apply aF;simp [aS]
theorem Jz (l : List AT) (p : AT) (σ : List (List D)) (hl : l.length ≤ 999999) (hs : Sorted nA l) : Ct Tryz.prog 42 [.xs 2 (l.map bY), bY p] σ (fun r σ' => r = .xs 2 ((putL nA l p).map bY) ∧ ∃ J, σ' = σ ++ J) := by
 refine zf (rs:=[.tmp 4]) Tryz.func42 Tryz.ntmps42 Tryz.results42 ?_;simp only [aQ];refine eT 0 2 rfl (by decide) fun cap rest hcap hcm hrest hk0 hes => ?_;subst hrest;simp only [List.length_map] at hcap ⊢;rw [bI (f := cA) (fun _ => rfl)];have hpl := posL_le nA l p.name;refine zr ⟨[4,19,20,24],[],[],[18],[]⟩ fun _ _ Z=>?_;simp (disch:=omega)[aD,aA];and_intros<;>(try omega);apply Z;refine zr ⟨[4,19,20,24],[],[],[18],[]⟩ fun _ _ Z=>?_;refine aB 3 fun _ Y=>?_;simp (disch:=omega)[aD,aA];and_intros<;>(try omega);apply Y;simp only [List.drop];refine aH fun _ Y=>?_;simp (disch:=omega)[aD,aA];refine dW (Sr σ.length cap l (List.replicate ((cap - l.length) * 2) .any) p.name _ (by omega) (by simp [aD]) hs) ?_;apply Y;simp (disch:=omega)[aD,aA];and_intros<;>(try omega);apply Z;apply aE;refine zr ⟨[4,19,20,24],[],[],[18],[]⟩ fun _ _ Z=>?_;simp (disch:=omega)[aD,aA];and_intros<;>(try omega);apply Z;refine zi ?_;refine ⟨fun c1=>?_,fun c1=>?_⟩
 ·try simp at c1
  have hlt := fnd_lt nA c1;refine zk [0,3,4,5] ?_;refine zr ⟨[4,19,20,24],[],[],[18],[]⟩ fun _ _ Z=>?_;simp (disch:=omega)[aD,aA];and_intros<;>(try omega);apply Z;refine zr ⟨[4,19,20,24],[],[],[18],[]⟩ fun _ _ Z=>?_;simp (disch:=omega)[aD,aA];and_intros<;>(try omega);apply Z;refine dB 4 2 σ.length l.length cap ((l.set (posL nA l p.name) p).map bY) ((l.set (posL nA l p.name) p).flatMap cA ++ List.replicate ((cap - l.length) * 2) .any) (by simp <;> rfl) (by simp [aD]) (by omega) (by simp only [List.length_append, bM (f := cA) (k := 2) (fun _ => rfl), List.length_replicate, List.length_set]; omega) (by simp) (eG (d := bY) (fun _ => ⟨rfl, rfl⟩) _) (by rw [bI (f := cA) (fun _ => rfl)]; exact List.prefix_append _ _) ?_;apply aF;apply bK;simp [aS, putL_eq, c1]
 ·try simp at c1
  apply aG;apply aC;refine dB 0 2 σ.length l.length cap (l.map bY) (l.flatMap cA ++ List.replicate ((cap - l.length) * 2) .any) (by simp <;> rfl) (by simp [aD]) (by omega) (by simp only [List.length_append, bM (f := cA) (k := 2) (fun _ => rfl), List.length_replicate, List.length_set]; omega) (by simp) (eG (d := bY) (fun _ => ⟨rfl, rfl⟩) _) (by rw [bI (f := cA) (fun _ => rfl)]; exact List.prefix_append _ _) ?_;refine zk [0,3,4,5] ?_;refine zr ⟨[4,19,20,24],[],[],[18],[]⟩ fun _ _ Z=>?_;refine aB 4 fun _ Y=>?_;simp (disch:=omega)[aD,aA];and_intros<;>(try omega);apply Y;simp only [List.drop];refine aH fun _ Y=>?_;simp (disch:=omega)[aD,aA];refine dW (Ow l p (posL nA l p.name) _ (by omega) hpl) ?_;apply Y;simp (disch:=omega)[aD,aA];and_intros<;>(try omega);apply Z;apply aF;simp [aS, putL_eq, c1]
theorem Ej (x : PI) (s : ByteArray) (σ : List (List D))  : Ct Tryz.prog 84 [bS x, D.str s] σ (fun r σ' => r = .int (sQ x.name s) ∧ σ' = σ) := by
 refine zf (rs:=[.tmp 4]) Tryz.func84 Tryz.ntmps84 Tryz.results84 ?_;simp only [aQ];refine bV fun _ _ Z=>?_;simp;and_intros<;>(try omega);apply Z;refine bV fun _ _ Z=>?_;refine aB 3 fun _ Y=>?_;simp;and_intros<;>(try omega);apply Y;simp only [List.drop];refine aH fun _ Y=>?_;simp;refine dW (tZ x.name s _) ?_;apply Y;simp;and_intros<;>(try omega);apply Z;apply aF;simp [aS]
theorem Sn (N cap : Nat) (l : List PI) (rest : List D) (c : ByteArray) (σ : List (List D)) (hl : l.length ≤ 1000000) (hN : σ[N]? = some (l.flatMap cP ++ rest)) (hs : Sorted nP l) : Ct Tryz.prog 83 [.slo N 0 l.length cap, D.str c, .clo (.func 84) [] []] σ (fun r σ' => r = .tup [.int ((posL nP l c : Nat) : Int), .bool (fnd nP l c)] ∧ σ' = σ) := by
 refine zf (rs:=[.tmp 6,.tmp 7]) Tryz.func83 Tryz.ntmps83 Tryz.results83 ?_;simp only [aQ];refine zr ⟨[],[],[],[13,27,43],[]⟩ fun _ _ Z=>?_;simp (disch:=omega)[hN,aW,aX];and_intros<;>(try omega);apply Z;refine zr ⟨[],[],[],[13,27,43],[]⟩ fun _ _ Z=>?_;simp (disch:=omega)[hN,aW,aX];and_intros<;>(try omega);apply Z;refine zr ⟨[],[],[],[13,27,43],[]⟩ fun _ _ Z=>?_;simp (disch:=omega)[hN,aW,aX];and_intros<;>(try omega);apply Z;apply aE;apply aI;refine zk [0,1,2,6,7,8,9,10] ?_;refine cM (fun (s : Nat × Nat) => [(9, .d (.v (.int .i64 (s.1 : Int)))), (10, .d (.v (.int .i64 (s.2 : Int)))), (11, .d (.any))]) [9, 10, 11, 15, 16, 17, 18, 19, 20, 21, 22, 23, 24, 25, 26, 27, 28, 29, 30, 31, 32, 33, 34] (fun (s : Nat × Nat) => s.1 ≤ s.2 ∧ s.2 ≤ l.length ∧ (∀ j (h : j < l.length), j < s.1 → cQ l[j].name c = true) ∧ (∀ j (h : j < l.length), s.2 ≤ j → cQ l[j].name c = false)) (fun (s : Nat × Nat) => s.2 - s.1) ((0, l.length)) (by simp <;> rfl) ?_ ?_ ?_
 ·simp
 ·exact ⟨by omega, by omega, fun j h h2 => absurd h2 (by simp), fun j h h2 => absurd h2 (by simp; omega)⟩
 rintro ⟨lo, hi⟩ ⟨h1, h2, h3, h4⟩;simp only [List.cons_append, List.nil_append];dsimp only at h1 h2 h3 h4;have hmid : lo < hi → (lo + hi) / 2 < hi := fun h => by omega
 apply aE;refine zr ⟨[],[],[],[13,27,43],[]⟩ fun _ _ Z=>?_;simp (disch:=omega)[hN,aW,aX];and_intros<;>(try omega);apply Z;refine zi ?_;refine ⟨fun c1=>?_,fun c1=>?_⟩
 ·try simp at c1
  apply aG;apply aC;apply aI;refine zk [0,1,2,6,7,8,9,10,11] ?_;refine zr ⟨[],[],[],[13,27,43],[]⟩ fun _ _ Z=>?_;simp (disch:=omega)[hN,aW,aX];and_intros<;>(try omega);apply Z;refine zk [0,1,2,6,7,8,9,10,11] ?_;refine zr ⟨[],[],[],[13,27,43],[]⟩ fun _ _ Z=>?_;refine aB 6 fun _ Y=>?_;simp (disch:=omega)[hN,aW,aX];and_intros<;>(try omega);apply Y;simp only [List.drop];refine aH fun _ Y=>?_;simp (disch:=omega)[hN,aW,aX];refine dW (Ej l[(lo + hi) / 2] c _) ?_;apply Y;simp (disch:=omega)[hN,aW,aX];and_intros<;>(try omega);apply Z;refine zi ?_;refine ⟨fun c2=>?_,fun c2=>?_⟩
  ·try simp at c2
   refine zk [0,1,2,6,7,8,9,10,11] ?_;refine zt ⟨[],[],[],[13,27,43],[]⟩ fun _ _ Z=>?_;simp (disch:=omega)[hN,aW,aX];and_intros<;>(try omega);apply Z;apply aN;refine bJ (((lo + hi) / 2 + 1, hi)) ?_ ?_ (aV rfl ?_ (by simp) (by simp))
   ·exact ⟨by dsimp only; omega, by dsimp only; omega, bs_lo nP hs (by omega) (by simpa [tX] using c2), h4⟩
   ·try dsimp only
    omega
   ·simp (disch:=omega)[hN,aW,aX]
  ·try simp at c2
   refine zk [0,1,2,6,7,8,9,10,11] ?_;refine zt ⟨[],[],[],[13,27,43],[]⟩ fun _ _ Z=>?_;simp (disch:=omega)[hN,aW,aX];and_intros<;>(try omega);apply Z;apply aN;refine bJ ((lo, (lo + hi) / 2)) ?_ ?_ (aV rfl ?_ (by simp) (by simp))
   ·exact ⟨by dsimp only; omega, by dsimp only; omega, h3, bs_hi nP hs (by omega) ((Et _ _).1 (by omega))⟩
   ·try dsimp only
    omega
   ·simp (disch:=omega)[hN,aW,aX]
 ·try simp at c1
  obtain rfl : lo = hi := by omega
  have hpos : posL nP l c = lo := posL_of nP l c lo h2 h3 (fun h => h4 lo h (Nat.le_refl _));apply bD;apply bE;apply bG;apply aY;apply aC;refine zk [0,1,2,6,7,8,9] ?_;refine Du ⟨[],[],[],[13,27,43],[]⟩ fun all hall _ Z=>?_;have ga4 : bA all 4 = some 39 := hall 4;refine aB 5 fun _ Y=>?_;simp (disch:=omega)[hN,aW,aX,ga4];and_intros<;>(try omega);apply Y;simp only [List.drop];refine cJ 39 (by simp <;> rfl) ?_;refine ⟨fun g3 => ?_, fun g3 => ?_⟩
  ·try simp at g3
   refine aB 6 fun _ Y=>?_;simp (disch:=omega)[hN,aW,aX,ga4];and_intros<;>(try omega);apply Y;simp only [List.drop];refine zg ga4 fun _ Y=>?_;simp (disch:=omega)[hN,aW,aX,ga4];refine dW (Ej l[lo] c _) ?_;apply Y;simp (disch:=omega)[hN,aW,aX,ga4];and_intros<;>(try omega);apply Z;apply aF;simp [aS, hpos, fnd_at, *];exact vU _ _
  ·try simp at g3
   refine aB 8 fun _ Y=>?_;simp (disch:=omega)[hN,aW,aX,ga4];and_intros<;>(try omega);apply Y;simp only [List.drop];simp (disch:=omega)[hN,aW,aX,ga4];and_intros<;>(try omega);apply Z;apply aF;simp [aS, hpos, *];exact fnd_out _ _ _ (by omega)
theorem Mc (N cap : Nat) (l : List PI) (rest : List D) (c : ByteArray) (σ : List (List D)) (hl : l.length ≤ 1000000) (hN : σ[N]? = some (l.flatMap cP ++ rest)) (hs : Sorted nP l) : Ct Tryz.prog 61 [.slo N 0 l.length cap, D.str c] σ (fun r σ' => r = .tup [.int ((posL nP l c : Nat) : Int), .bool (fnd nP l c)] ∧ σ' = σ) := by
 refine zf (rs:=[.tmp 4,.tmp 5]) Tryz.func61 Tryz.ntmps61 Tryz.results61 ?_;simp only [aQ];refine bV fun _ _ Z=>?_;simp[hN];and_intros<;>(try omega);apply Z;refine bV fun _ _ Z=>?_;refine aB 2 fun _ Y=>?_;simp[hN];and_intros<;>(try omega);apply Y;simp only [List.drop];refine aH fun _ Y=>?_;simp[hN];refine dW (Sn N cap l rest c _ hl hN hs) ?_;apply Y;simp[hN];and_intros<;>(try omega);apply Z;apply aF;simp [aS]
theorem Ld (l : List PI) (p : PI) (σ : List (List D)) (hl : l.length ≤ 999999) (hs : Sorted nP l) : Ct Tryz.prog 37 [.xs 2 (l.map bS), bS p] σ (fun r σ' => r = .xs 2 ((putL nP l p).map bS) ∧ ∃ J, σ' = σ ++ J) := by
 refine zf (rs:=[.tmp 4]) Tryz.func37 Tryz.ntmps37 Tryz.results37 ?_;simp only [aQ];refine eT 0 2 rfl (by decide) fun cap rest hcap hcm hrest hk0 hes => ?_;subst hrest;simp only [List.length_map] at hcap ⊢;rw [bI (f := cP) (fun _ => rfl)];have hpl := posL_le nP l p.name;refine zr ⟨[4,19,20,24],[],[],[18],[]⟩ fun _ _ Z=>?_;simp (disch:=omega)[aD,aA];and_intros<;>(try omega);apply Z;refine zr ⟨[4,19,20,24],[],[],[18],[]⟩ fun _ _ Z=>?_;refine aB 3 fun _ Y=>?_;simp (disch:=omega)[aD,aA];and_intros<;>(try omega);apply Y;simp only [List.drop];refine aH fun _ Y=>?_;simp (disch:=omega)[aD,aA];refine dW (Mc σ.length cap l (List.replicate ((cap - l.length) * 2) .any) p.name _ (by omega) (by simp [aD]) hs) ?_;apply Y;simp (disch:=omega)[aD,aA];and_intros<;>(try omega);apply Z;apply aE;refine zr ⟨[4,19,20,24],[],[],[18],[]⟩ fun _ _ Z=>?_;simp (disch:=omega)[aD,aA];and_intros<;>(try omega);apply Z;refine zi ?_;refine ⟨fun c1=>?_,fun c1=>?_⟩
 ·try simp at c1
  have hlt := fnd_lt nP c1;refine zk [0,3,4,5] ?_;refine zr ⟨[4,19,20,24],[],[],[18],[]⟩ fun _ _ Z=>?_;simp (disch:=omega)[aD,aA];and_intros<;>(try omega);apply Z;refine zr ⟨[4,19,20,24],[],[],[18],[]⟩ fun _ _ Z=>?_;simp (disch:=omega)[aD,aA];and_intros<;>(try omega);apply Z;refine dB 4 2 σ.length l.length cap ((l.set (posL nP l p.name) p).map bS) ((l.set (posL nP l p.name) p).flatMap cP ++ List.replicate ((cap - l.length) * 2) .any) (by simp <;> rfl) (by simp [aD]) (by omega) (by simp only [List.length_append, bM (f := cP) (k := 2) (fun _ => rfl), List.length_replicate, List.length_set]; omega) (by simp) (eG (d := bS) (fun _ => ⟨rfl, rfl⟩) _) (by rw [bI (f := cP) (fun _ => rfl)]; exact List.prefix_append _ _) ?_;apply aF;apply bK;simp [aS, putL_eq, c1]
 ·try simp at c1
  apply aG;apply aC;refine dB 0 2 σ.length l.length cap (l.map bS) (l.flatMap cP ++ List.replicate ((cap - l.length) * 2) .any) (by simp <;> rfl) (by simp [aD]) (by omega) (by simp only [List.length_append, bM (f := cP) (k := 2) (fun _ => rfl), List.length_replicate, List.length_set]; omega) (by simp) (eG (d := bS) (fun _ => ⟨rfl, rfl⟩) _) (by rw [bI (f := cP) (fun _ => rfl)]; exact List.prefix_append _ _) ?_;refine zk [0,3,4,5] ?_;refine zr ⟨[4,19,20,24],[],[],[18],[]⟩ fun _ _ Z=>?_;refine aB 4 fun _ Y=>?_;simp (disch:=omega)[aD,aA];and_intros<;>(try omega);apply Y;simp only [List.drop];refine aH fun _ Y=>?_;simp (disch:=omega)[aD,aA];refine dW (Qa l p (posL nP l p.name) _ (by omega) hpl) ?_;apply Y;simp (disch:=omega)[aD,aA];and_intros<;>(try omega);apply Z;apply aF;simp [aS, putL_eq, c1]
end Go.Proofs.YtighdhfgcdjmeaaGreatDoor


import Derived.Test.YtpfmpeaekgdgnaaGreatWkAr3
namespace Go.Proofs.YtpfmpeaekgdgnaaGreat
open Go Go.Vm
set_option maxRecDepth 20000
set_option linter.all false
set_option maxHeartbeats 8000000
theorem vK (l : List Int) (p : Int → Bool) (f : FuncId) (caps : List D) (m cap : Nat) (rest : List D) (σ : List (List D)) (hl : l.length ≤ 9223372036854775807) (hσ : σ[m]? = some (l.map D.int ++ rest)) (hcp : ∀ d ∈ caps, d.plain = true) (hcs : caps.map D.strip = caps) (hp : ∀ x τ, σ <+: τ → Ct Tryz.prog f (D.int x :: caps) τ (fun r τ' => r = .bool (p x) ∧ τ' = τ)) : Ct Tryz.prog 142 [.slo m 0 l.length cap, .clo (.func f) [] caps] σ (fun r σ' => r = .int (pO p l) ∧ σ' = σ) := by
 refine zf (rs:=[.tmp 4]) Tryz.func142 Tryz.ntmps142 Tryz.results142 ?_;simp only [aQ];refine zr ⟨[],[],[],[7,14],[]⟩ fun _ _ Z=>?_;simp (disch:=omega)[hσ,hcs,aT];and_intros<;>(try omega);apply Z;apply aD;refine zr ⟨[],[],[],[7,14],[]⟩ fun _ _ Z=>?_;simp (disch:=omega)[hσ,hcs,aT];and_intros<;>(try omega);apply Z;apply aK;refine zk [0,1,4,7,8] ?_;refine bQ (fun (k : Nat) => [(8, .d (.v (.int .i64 (k : Int))))]) [4, 5, 8, 9, 10, 11, 12, 13, 14, 15, 16, 17, 18] (fun (k : Nat) => k ≤ l.length ∧ ∀ x ∈ l.take k, p x = false) (fun (k : Nat) => l.length - k) (0) (by simp <;> rfl) ?_ ?_ ?_
 ·simp
 ·simp
 rintro k ⟨hk, hh⟩;simp only [List.cons_append, List.nil_append];refine zr ⟨[],[],[],[7,14],[]⟩ fun _ _ Z=>?_;simp (disch:=omega)[hσ,hcs,aT];and_intros<;>(try omega);apply Z;apply aD;refine zi ?_;refine ⟨fun c1=>?_,fun c1=>?_⟩
 ·try simp at c1
  apply aH;apply aB;apply aD;apply aK;refine zr ⟨[],[],[],[7,14],[]⟩ fun _ _ Z=>?_;simp (disch:=omega)[hσ,hcs,aT];and_intros<;>(try omega);apply Z;refine zr ⟨[],[],[],[7,14],[]⟩ fun _ _ Z=>?_;refine aA 5 fun _ Y=>?_;simp (disch:=omega)[hσ,hcs,aT];and_intros<;>(try omega);apply Y;simp only [List.drop];refine aG fun _ Y=>?_;simp (disch:=omega)[hσ,hcs,aT];refine ⟨hcp, ?_⟩;refine cO (hp l[k] _ (List.prefix_refl _)) ?_;apply Y;simp only [dF];apply Z;refine zi ?_;refine ⟨fun c2=>?_,fun c2=>?_⟩
  ·try simp at c2
   refine zk [0,1,5,7,8] ?_;refine zr ⟨[],[],[],[7,14],[]⟩ fun _ _ Z=>?_;simp (disch:=omega)[hσ,hcs,aT];and_intros<;>(try omega);apply Z;apply aE;apply aV;apply aL;apply eE;apply aV;apply aL;simp [aN];exact (oK c1 hh c2).symm
  ·try simp at c2
   apply aH;apply aP;apply aB;refine zk [0,1,7,8] ?_;refine zt ⟨[],[],[],[7,14],[]⟩ fun _ _ Z=>?_;simp (disch:=omega)[hσ,hcs,aT];and_intros<;>(try omega);apply Z;refine bA (k + 1) ?_ ?_ (aW rfl ?_ (by simp) (by simp))
   ·exact ⟨by omega, jG (by omega) hh c2⟩
   ·try dsimp only
    omega
   ·simp (disch:=omega)[hσ,hcs,aT]
 ·try simp at c1
  apply bK;apply bJ;apply bL;apply aY;apply aB;refine zr ⟨[],[],[],[7,14],[]⟩ fun _ _ Z=>?_;simp (disch:=omega)[hσ,hcs,aT];and_intros<;>(try omega);apply Z;apply aE;simp [aN];rw [List.take_of_length_le (by omega)] at hh; exact (kA hh).symm
theorem wS (f : FuncId) (caps : List D) (σ : List (List D)) (hcp : ∀ d ∈ caps, d.plain = true) : Ct Tryz.prog 142 [.xl 0, .clo (.func f) [] caps] σ (fun r σ' => r = .int (-1) ∧ σ' = σ) := by
 refine zf (rs:=[.tmp 4]) Tryz.func142 Tryz.ntmps142 Tryz.results142 ?_;simp only [aQ];refine zr ⟨[],[],[],[7],[]⟩ fun _ _ Z=>?_;simp;and_intros<;>(try omega);apply Z;apply aD;refine zr ⟨[],[],[],[7],[]⟩ fun _ _ Z=>?_;simp;and_intros<;>(try omega);apply Z;apply aK;refine zk [0,1,4,7,8] ?_;refine bQ (fun (k : Nat) => [(8, .d (.int 0))]) [4, 5, 8, 9, 10, 11, 12, 13, 14, 15, 16, 17, 18] (fun (k : Nat) => k = 0) (fun (k : Nat) => 0) (0) (by simp <;> rfl) ?_ ?_ ?_
 ·simp
 ·rfl
 rintro k hk;simp only [List.cons_append, List.nil_append];refine zr ⟨[],[],[],[7],[]⟩ fun _ _ Z=>?_;simp;and_intros<;>(try omega);apply Z;apply aD;refine zi ?_;refine ⟨fun c1=>?_,fun c1=>?_⟩
 ·simp at c1
 ·try simp at c1
  apply bK;apply bJ;apply bL;apply aY;apply aB;refine zr ⟨[],[],[],[7],[]⟩ fun _ _ Z=>?_;simp;and_intros<;>(try omega);apply Z;apply aE;simp [aN]
theorem zY (p : Int → Bool) (l k : List Int) (rest : List D) : List.take k.length ((k ++ l).map D.int ++ rest) = k.map D.int := by
 rw [List.map_append, List.append_assoc, List.take_append_of_le_length (by simp)];rw [List.take_of_length_le (by simp)]
theorem tP (l : List Int) (p : Int → Bool) (f : FuncId) (caps : List D) (σ : List (List D)) (hl : l.length ≤ 1000000) (hne : l ≠ []) (hcp : ∀ d ∈ caps, d.plain = true) (hcs : caps.map D.strip = caps) (hp : ∀ x τ, σ <+: τ → Ct Tryz.prog f (D.int x :: caps) τ (fun r τ' => r = .bool (p x) ∧ τ' = τ)) : Ct Tryz.prog 121 [.xs 1 (l.map D.int), .clo (.func f) [] caps] σ (fun r σ' => r = .xs 1 ((l.filter fun x => !p x).map D.int) ∧ σ' = σ ++ [[]]) := by
 refine zf (rs:=[.tmp 4]) Tryz.func121 Tryz.ntmps121 Tryz.results121 ?_;simp only [aQ];refine iW 0 1 rfl (by decide) fun cap rest hcap hcm hrest hk0 hes => ?_;simp only [List.length_map] at hcap hrest ⊢;rw [dA (f := D.int) (fun _ => rfl)];refine zr ⟨[4,13],[],[],[18,24,33,38,41],[]⟩ fun _ _ Z=>?_;simp (disch:=first|omega|assumption)[hcs,aT,cF];and_intros<;>try first|omega|exact rfl
 apply Z;refine zr ⟨[4,13],[],[],[18,24,33,38,41],[]⟩ fun _ _ Z=>?_;refine aA 2 fun _ Y=>?_;simp (disch:=first|omega|assumption)[hcs,aT,cF];and_intros<;>try first|omega|exact rfl
 apply Y;simp only [List.drop];refine aG fun _ Y=>?_;simp (disch:=first|omega|assumption)[hcs,aT,cF];refine cO (vK l p f caps σ.length cap rest _ (by omega) (by simp) hcp hcs fun x τ h => hp x τ (List.IsPrefix.trans (List.prefix_append _ _) h)) ?_;apply Y;simp (disch:=first|omega|assumption)[hcs,aT,cF];and_intros<;>try first|omega|exact rfl
 apply Z;apply aD;refine zr ⟨[4,13],[],[],[18,24,33,38,41],[]⟩ fun _ _ Z=>?_;simp (disch:=first|omega|assumption)[hcs,aT,cF];and_intros<;>try first|omega|exact rfl
 apply Z;refine zi ?_;refine ⟨fun c1=>?_,fun c1=>?_⟩
 ·try simp at c1
  refine zr ⟨[4,13],[],[],[18,24,33,38,41],[]⟩ fun _ _ Z=>?_;simp (disch:=first|omega|assumption)[hcs,aT,cF];and_intros<;>try first|omega|exact rfl
  apply Z;refine cZ 4 1 σ.length l.length cap (l.map D.int) (l.map D.int ++ rest) (by simp <;> rfl) (by simp) (by omega) (by simp [hrest]; omega) (by simp) (by simp) (by rw [dA (fun _ => rfl)]; exact List.prefix_append _ _) ?_;simp only [iN];apply aE;apply aL;simp [aN];rcases mS p l with ⟨_, h⟩ | ⟨k, h, _⟩
  ·rw [h]
  ·omega
 ·try simp at c1
  obtain ⟨k0, e0, e1, e2, e3⟩ := rE c1;rw [e0];apply aH;apply aB;apply aD;refine zr ⟨[4,13],[],[],[18,24,33,38,41],[]⟩ fun _ _ Z=>?_;simp (disch:=first|omega|assumption)[hcs,aT,cF];and_intros<;>try first|omega|exact rfl
  apply Z;apply aK;refine zk [0,1,4,5,6] ?_;refine lP (fun (j : Nat) => [(5, .d (.v (.int .i64 ((kp p l j).length : Int)))), (6, .d (.v (.int .i64 (j : Int))))]) (fun (j : Nat) => []) (fun (j : Nat) => [(σ.length, (ar p l j).map D.int ++ rest)]) [5, 6, 7, 16, 17, 18, 19, 20, 21, 22, 23, 24, 25, 26, 27, 28, 29, 30, 31, 32, 33, 34, 35] (fun (j : Nat) => j ≤ l.length) (fun (j : Nat) => l.length - j) (k0 + 1) (by simp <;> rfl) ?_ (by simp) (by simp [e1]) ?_ ?_
  ·simp [e1, e2]
  ·omega
  rintro j hj;simp only [List.cons_append, List.nil_append, lL, kB, List.set_cons_zero, List.set_cons_succ];have hkl := xY p l j hj;have hal := vC p l j;apply aD;refine zr ⟨[4,13],[],[],[18,24,33,38,41],[]⟩ fun _ _ Z=>?_;simp (disch:=first|omega|assumption)[hcs,aT,cF];and_intros<;>try first|omega|exact rfl
  apply Z;refine zi ?_;refine ⟨fun c2=>?_,fun c2=>?_⟩
  ·try simp at c2
   apply aH;apply aB;apply aD;apply aK;refine zr ⟨[4,13],[],[],[18,24,33,38,41],[]⟩ fun _ _ Z=>?_;simp (disch:=first|omega|assumption)[hcs,aT,cF];and_intros<;>try first|omega|exact rfl
   apply Z;refine zk [0,1,4,5,6,7] ?_;refine zr ⟨[4,13],[],[],[18,24,33,38,41],[]⟩ fun _ _ Z=>?_;refine aA 2 fun _ Y=>?_;simp (disch:=first|omega|assumption)[hcs,aT,cF];and_intros<;>try first|omega|exact rfl
   apply Y;simp only [List.drop];refine aG fun _ Y=>?_;simp (disch:=first|omega|assumption)[hcs,aT,cF];simp only [Jm p l j (by omega)];refine ⟨hcp, ?_⟩;refine cO (hp l[j] _ (List.prefix_append _ _)) ?_;apply Y;simp (disch:=first|omega|assumption)[hcs,aT,cF];and_intros<;>try first|omega|exact rfl
   apply Z;refine zi ?_;refine ⟨fun c3=>?_,fun c3=>?_⟩
   ·try simp at c3
    refine zr ⟨[4,13],[],[],[18,24,33,38,41],[]⟩ fun _ _ Z=>?_;simp (disch:=first|omega|assumption)[hcs,aT,cF];and_intros<;>try first|omega|exact rfl
    apply Z;refine zk [0,1,4,5,6] ?_;refine zt ⟨[4,13],[],[],[18,24,33,38,41],[]⟩ fun _ _ Z=>?_;simp (disch:=first|omega|assumption)[hcs,aT,cF];and_intros<;>try first|omega|exact rfl
    apply Z;apply aP;apply aB;refine zt ⟨[4,13],[],[],[18,24,33,38,41],[]⟩ fun _ _ Z=>?_;simp (disch:=first|omega|assumption)[hcs,aT,cF];and_intros<;>try first|omega|exact rfl
    apply Z;refine bA (j + 1) ?_ ?_ (aW rfl ?_ (by simp) (by rw [← (pA p l j (by omega) c3).1]; simp (disch := omega) [Cq, hal]))
    ·omega
    ·try dsimp only
     omega
    ·simp (disch:=first|omega|assumption)[hcs,aT,cF,(pA p l j (by omega) c3).2]
   ·try simp at c3
    apply aH;apply aP;apply aB;refine zt ⟨[4,13],[],[],[18,24,33,38,41],[]⟩ fun _ _ Z=>?_;simp (disch:=first|omega|assumption)[hcs,aT,cF];and_intros<;>try first|omega|exact rfl
    apply Z;refine bA (j + 1) ?_ ?_ (aW rfl ?_ (by simp) (by simp [(mH p l j (by omega) c3).1]))
    ·omega
    ·try dsimp only
     omega
    ·simp (disch:=first|omega|assumption)[hcs,aT,cF,(mH p l j (by omega) c3).2]
  ·try simp at c2
   apply bK;apply bJ;apply bL;apply aY;apply aB;refine zr ⟨[4,13],[],[],[18,24,33,38,41],[]⟩ fun _ _ Z=>?_;simp (disch:=first|omega|assumption)[hcs,aT,cF];and_intros<;>try first|omega|exact rfl
   apply Z;refine zk [0,4,5] ?_;refine zr ⟨[4,13],[],[],[18,24,33,38,41],[]⟩ fun _ _ Z=>?_;simp (disch:=first|omega|assumption)[hcs,aT,cF];and_intros<;>try first|omega|exact rfl
   apply Z;refine cZ 4 1 σ.length (kp p l j).length cap ((kp p l j).map D.int) ((kp p l j).map D.int ++ (eK #[.int .i64 0] (l.length - (kp p l j).length) ++ rest)) (by simp <;> rfl) (by rw [show List.map D.int (kp p l j) = List.take (kp p l j).length (List.map D.int (ar p l j) ++ rest) from (zY p _ _ rest).symm]; simp [dX (z := #[.int .i64 0]) (k := 1) rfl, show (kp p l j).length + (l.length - (kp p l j).length) = l.length by omega, Ch D.int (ar p l j) rest l.length hal.symm]) (by omega) (by simp [hrest, dX (z := #[.int .i64 0]) (k := 1) rfl]; omega) (by simp) (by simp) (by rw [dA (fun _ => rfl)]; exact List.prefix_append _ _) ?_;simp only [iN];apply aE;simp [aN];unfold kp; rw [List.take_of_length_le (by omega)]
theorem tV (f : FuncId) (caps : List D) (σ : List (List D)) (hcp : ∀ d ∈ caps, d.plain = true) : Ct Tryz.prog 121 [.xs 1 [], .clo (.func f) [] caps] σ (fun r σ' => r = .xs 1 [] ∧ σ' = σ) := by
 refine zf (rs:=[.tmp 4]) Tryz.func121 Tryz.ntmps121 Tryz.results121 ?_;simp only [aQ];refine zr ⟨[4,13],[],[],[],[]⟩ fun _ _ Z=>?_;simp;and_intros<;>(try omega);apply Z;refine zr ⟨[4,13],[],[],[],[]⟩ fun _ _ Z=>?_;refine aA 2 fun _ Y=>?_;simp;and_intros<;>(try omega);apply Y;simp only [List.drop];refine aG fun _ Y=>?_;simp;refine cO (wS f caps _ hcp) ?_;apply Y;simp;and_intros<;>(try omega);apply Z;apply aD;refine zr ⟨[4,13],[],[],[],[]⟩ fun _ _ Z=>?_;simp;and_intros<;>(try omega);apply Z;refine zi ?_;refine ⟨fun c1=>?_,fun c1=>?_⟩
 ·try simp at c1
  refine zr ⟨[4,13],[],[],[],[]⟩ fun _ _ Z=>?_;simp;and_intros<;>(try omega);apply Z;apply aE;apply aL;simp[aN]
 ·simp at c1
theorem Fp (l : List Int) (p : Int → Bool) (f : FuncId) (caps : List D) (σ : List (List D)) (hl : l.length ≤ 1000000) (hcp : ∀ d ∈ caps, d.plain = true) (hcs : caps.map D.strip = caps) (hp : ∀ x τ, σ <+: τ → Ct Tryz.prog f (D.int x :: caps) τ (fun r τ' => r = .bool (p x) ∧ τ' = τ)) :
  Ct Tryz.prog 121 [.xs 1 (l.map D.int), .clo (.func f) [] caps] σ (fun r σ' => r = .xs 1 ((l.filter fun x => !p x).map D.int) ∧ σ' = σ) := by
 by_cases hne : l = []
 ·subst hne; exact tV f caps σ hcp
 ·exact (tP l p f caps σ hl hne hcp hcs hp).trim fun r σ' ⟨hr, hs⟩ => ⟨σ, [[]], hs, rfl, by rw [hr]; exact Qw _ _, fun n cs h => .inl h, hr, rfl⟩
attribute [simp] cA
theorem Ha (l : List AT) : (l.map cM).flatMap D.cells = l.flatMap cA := bX (fun _ => rfl) l
theorem Zd (l : List AT) : ∀ d ∈ l.map cM, d.ncells = 2 ∧ d.arr = true := by
 intro d hd;obtain ⟨a, _, rfl⟩ := List.mem_map.1 hd;exact ⟨rfl, rfl⟩
@[simp high] theorem aGr (l : List AT) : (l.flatMap cA).length = l.length * 2 := cB (f := cA) (fun _ => rfl) l
@[simp high] theorem aJf (l : List AT) (rest : List D) (i : Nat) (h : i < l.length) : oD true 2 ((l.flatMap cA ++ rest).drop (i * 2)) = some (.agg (cA l[i])) := Je (f := cA) (fun _ => rfl) l rest i h
@[simp high] theorem aIh (l : List AT) (rest : List D) (i : Nat) (x : AT) (h : i < l.length) : cN (l.flatMap cA ++ rest) (i * 2) [D.str x.name, D.str x.value] = (l.set i x).flatMap cA ++ rest := tA (f := cA) (fun _ => rfl) l rest i x h
theorem fF (p : AT → Bool) (l : List AT) (j : Nat) (rest : List D) : cN ((ar p l j).flatMap cA ++ rest) ((kp p l j).length * 2) (eK #[.string ⟨#[]⟩, .string ⟨#[]⟩] (l.length - (kp p l j).length)) = (kp p l j).flatMap cA ++ (eK #[.string ⟨#[]⟩, .string ⟨#[]⟩] (l.length - (kp p l j).length) ++ rest) := by
 have hz : (eK #[.string ⟨#[]⟩, .string ⟨#[]⟩] (l.length - (kp p l j).length)).length = ((l.drop (kp p l j).length).flatMap cA).length := by
  rw [cB (f := cA) (k := 2) (fun _ => rfl), dX (k := 2) rfl, List.length_drop]
 have hk : ((kp p l j).flatMap cA).length = (kp p l j).length * 2 := cB (f := cA) (fun _ => rfl) _;unfold ar;rw [List.flatMap_append, List.append_assoc, ← hk, iF _ _ _ _ hz]
theorem Gn (l : List AT) (p : AT → Bool) (f : FuncId) (caps : List D) (m cap : Nat) (rest : List D) (σ : List (List D)) (hl : l.length ≤ 9223372036854775807) (hσ : σ[m]? = some (l.flatMap cA ++ rest)) (hcp : ∀ d ∈ caps, d.plain = true) (hcs : caps.map D.strip = caps) (hp : ∀ x τ, Ct Tryz.prog f (cM x :: caps) τ (fun r τ' => r = .bool (p x) ∧ τ' = τ)) : Ct Tryz.prog 168 [.slo m 0 l.length cap, .clo (.func f) [] caps] σ (fun r σ' => r = .int (pO p l) ∧ σ' = σ) := by
 refine zf (rs:=[.tmp 4]) Tryz.func168 Tryz.ntmps168 Tryz.results168 ?_;simp only [aQ];refine zr ⟨[],[],[],[7,14],[]⟩ fun _ _ Z=>?_;simp (disch:=omega)[hσ,hcs];and_intros<;>(try omega);apply Z;apply aD;refine zr ⟨[],[],[],[7,14],[]⟩ fun _ _ Z=>?_;simp (disch:=omega)[hσ,hcs];and_intros<;>(try omega);apply Z;apply aK;refine zk [0,1,4,7,8] ?_;refine bQ (fun (k : Nat) => [(8, .d (.v (.int .i64 (k : Int))))]) [4, 5, 8, 9, 10, 11, 12, 13, 14, 15, 16, 17, 18] (fun (k : Nat) => k ≤ l.length ∧ ∀ x ∈ l.take k, p x = false) (fun (k : Nat) => l.length - k) (0) (by simp <;> rfl) ?_ ?_ ?_
 ·simp
 ·simp
 rintro k ⟨hk, hh⟩;simp only [List.cons_append, List.nil_append];refine zr ⟨[],[],[],[7,14],[]⟩ fun _ _ Z=>?_;simp (disch:=omega)[hσ,hcs];and_intros<;>(try omega);apply Z;apply aD;refine zi ?_;refine ⟨fun c1=>?_,fun c1=>?_⟩
 ·try simp at c1
  apply aH;apply aB;apply aD;apply aK;refine zr ⟨[],[],[],[7,14],[]⟩ fun _ _ Z=>?_;simp (disch:=omega)[hσ,hcs];and_intros<;>(try omega);apply Z;refine zr ⟨[],[],[],[7,14],[]⟩ fun _ _ Z=>?_;refine aA 5 fun _ Y=>?_;simp (disch:=omega)[hσ,hcs];and_intros<;>(try omega);apply Y;simp only [List.drop];refine aG fun _ Y=>?_;simp (disch:=omega)[hσ,hcs];refine ⟨hcp, ?_⟩;refine cO (hp l[k] _) ?_;apply Y;simp only [dF];apply Z;refine zi ?_;refine ⟨fun c2=>?_,fun c2=>?_⟩
  ·try simp at c2
   refine zk [0,1,5,7,8] ?_;refine zr ⟨[],[],[],[7,14],[]⟩ fun _ _ Z=>?_;simp (disch:=omega)[hσ,hcs];and_intros<;>(try omega);apply Z;apply aE;apply aV;apply aL;apply eE;apply aV;apply aL;simp [aN];exact (oK c1 hh c2).symm
  ·try simp at c2
   apply aH;apply aP;apply aB;refine zk [0,1,7,8] ?_;refine zt ⟨[],[],[],[7,14],[]⟩ fun _ _ Z=>?_;simp (disch:=omega)[hσ,hcs];and_intros<;>(try omega);apply Z;refine bA (k + 1) ?_ ?_ (aW rfl ?_ (by simp) (by simp))
   ·exact ⟨by omega, jG (by omega) hh c2⟩
   ·try dsimp only
    omega
   ·simp (disch:=omega)[hσ,hcs]
 ·try simp at c1
  apply bK;apply bJ;apply bL;apply aY;apply aB;refine zr ⟨[],[],[],[7,14],[]⟩ fun _ _ Z=>?_;simp (disch:=omega)[hσ,hcs];and_intros<;>(try omega);apply Z;apply aE;simp [aN];rw [List.take_of_length_le (by omega)] at hh; exact (kA hh).symm
theorem Bt (l : List AT) (p : AT → Bool) (f : FuncId) (caps : List D) (σ : List (List D)) (hl : l.length ≤ 1000000) (hcp : ∀ d ∈ caps, d.plain = true) (hcs : caps.map D.strip = caps) (hp : ∀ x τ, Ct Tryz.prog f (cM x :: caps) τ (fun r τ' => r = .bool (p x) ∧ τ' = τ)) : Ct Tryz.prog 161 [.xs 2 (l.map cM), .clo (.func f) [] caps] σ (fun r σ' => r = .xs 2 ((l.filter fun x => !p x).map cM) ∧ σ' = σ ++ [[]]) := by
 refine zf (rs:=[.tmp 4]) Tryz.func161 Tryz.ntmps161 Tryz.results161 ?_;simp only [aQ];refine iW 0 2 rfl (by decide) fun cap rest hcap hcm hrest hk0 hes => ?_;simp only [List.length_map] at hcap hrest ⊢;rw [Ha];refine zr ⟨[4,13],[],[],[18,24,33,38,41],[]⟩ fun _ _ Z=>?_;simp (disch:=first|omega|assumption)[hcs,fF];and_intros<;>try first|omega|exact rfl
 apply Z;refine zr ⟨[4,13],[],[],[18,24,33,38,41],[]⟩ fun _ _ Z=>?_;refine aA 2 fun _ Y=>?_;simp (disch:=first|omega|assumption)[hcs,fF];and_intros<;>try first|omega|exact rfl
 apply Y;simp only [List.drop];refine aG fun _ Y=>?_;simp (disch:=first|omega|assumption)[hcs,fF];refine cO (Gn l p f caps σ.length cap rest _ (by omega) (by simp) hcp hcs hp) ?_;apply Y;simp (disch:=first|omega|assumption)[hcs,fF];and_intros<;>try first|omega|exact rfl
 apply Z;apply aD;refine zr ⟨[4,13],[],[],[18,24,33,38,41],[]⟩ fun _ _ Z=>?_;simp (disch:=first|omega|assumption)[hcs,fF];and_intros<;>try first|omega|exact rfl
 apply Z;refine zi ?_;refine ⟨fun c1=>?_,fun c1=>?_⟩
 ·try simp at c1
  refine zr ⟨[4,13],[],[],[18,24,33,38,41],[]⟩ fun _ _ Z=>?_;simp (disch:=first|omega|assumption)[hcs,fF];and_intros<;>try first|omega|exact rfl
  apply Z;refine cZ 4 2 σ.length l.length cap (l.map cM) (l.flatMap cA ++ rest) (by simp <;> rfl) (by simp) (by omega) (by simp [hrest, dX (z := #[.string ⟨#[]⟩, .string ⟨#[]⟩]) (k := 2) rfl]; omega) (by simp) (Zd _) (by rw [Ha]; exact List.prefix_append _ _) ?_;simp only [iN];apply aE;apply aL;simp [aN];rcases mS p l with ⟨_, h⟩ | ⟨k, h, _⟩
  ·rw [h]
  ·omega
 ·try simp at c1
  obtain ⟨k0, e0, e1, e2, e3⟩ := rE c1;rw [e0];apply aH;apply aB;apply aD;refine zr ⟨[4,13],[],[],[18,24,33,38,41],[]⟩ fun _ _ Z=>?_;simp (disch:=first|omega|assumption)[hcs,fF];and_intros<;>try first|omega|exact rfl
  apply Z;apply aK;refine zk [0,1,4,5,6] ?_;refine lP (fun (j : Nat) => [(5, .d (.v (.int .i64 ((kp p l j).length : Int)))), (6, .d (.v (.int .i64 (j : Int))))]) (fun (j : Nat) => []) (fun (j : Nat) => [(σ.length, (ar p l j).flatMap cA ++ rest)]) [5, 6, 7, 16, 17, 18, 19, 20, 21, 22, 23, 24, 25, 26, 27, 28, 29, 30, 31, 32, 33, 34, 35] (fun (j : Nat) => j ≤ l.length) (fun (j : Nat) => l.length - j) (k0 + 1) (by simp <;> rfl) ?_ (by simp) (by simp [e1]) ?_ ?_
  ·simp [e1, e2]
  ·omega
  rintro j hj;simp only [List.cons_append, List.nil_append, lL, kB, List.set_cons_zero, List.set_cons_succ];have hkl := xY p l j hj;have hal := vC p l j;apply aD;refine zr ⟨[4,13],[],[],[18,24,33,38,41],[]⟩ fun _ _ Z=>?_;simp (disch:=first|omega|assumption)[hcs,fF];and_intros<;>try first|omega|exact rfl
  apply Z;refine zi ?_;refine ⟨fun c2=>?_,fun c2=>?_⟩
  ·try simp at c2
   apply aH;apply aB;apply aD;apply aK;refine zr ⟨[4,13],[],[],[18,24,33,38,41],[]⟩ fun _ _ Z=>?_;simp (disch:=first|omega|assumption)[hcs,fF];and_intros<;>try first|omega|exact rfl
   apply Z;refine zk [0,1,4,5,6,7] ?_;refine zr ⟨[4,13],[],[],[18,24,33,38,41],[]⟩ fun _ _ Z=>?_;refine aA 2 fun _ Y=>?_;simp (disch:=first|omega|assumption)[hcs,fF];and_intros<;>try first|omega|exact rfl
   apply Y;simp only [List.drop];refine aG fun _ Y=>?_;simp (disch:=first|omega|assumption)[hcs,fF];simp only [Jm p l j (by omega)];refine ⟨hcp, ?_⟩;refine cO (hp l[j] _) ?_;apply Y;simp (disch:=first|omega|assumption)[hcs,fF];and_intros<;>try first|omega|exact rfl
   apply Z;refine zi ?_;refine ⟨fun c3=>?_,fun c3=>?_⟩
   ·try simp at c3
    refine zr ⟨[4,13],[],[],[18,24,33,38,41],[]⟩ fun _ _ Z=>?_;simp (disch:=first|omega|assumption)[hcs,fF];and_intros<;>try first|omega|exact rfl
    apply Z;refine zk [0,1,4,5,6] ?_;refine zt ⟨[4,13],[],[],[18,24,33,38,41],[]⟩ fun _ _ Z=>?_;simp (disch:=first|omega|assumption)[hcs,fF];and_intros<;>try first|omega|exact rfl
    apply Z;apply aP;apply aB;refine zt ⟨[4,13],[],[],[18,24,33,38,41],[]⟩ fun _ _ Z=>?_;simp (disch:=first|omega|assumption)[hcs,fF];and_intros<;>try first|omega|exact rfl
    apply Z;refine bA (j + 1) ?_ ?_ (aW rfl ?_ (by simp) (by first | (simp [← (pA p l j (by omega) c3).1]; done) | (simp [(pA p l j (by omega) c3).1]; done)))
    ·omega
    ·try dsimp only
     omega
    ·simp (disch:=first|omega|assumption)[hcs,fF,(pA p l j (by omega) c3).2]
   ·try simp at c3
    apply aH;apply aP;apply aB;refine zt ⟨[4,13],[],[],[18,24,33,38,41],[]⟩ fun _ _ Z=>?_;simp (disch:=first|omega|assumption)[hcs,fF];and_intros<;>try first|omega|exact rfl
    apply Z;refine bA (j + 1) ?_ ?_ (aW rfl ?_ (by simp) (by simp [(mH p l j (by omega) c3).1]))
    ·omega
    ·try dsimp only
     omega
    ·simp (disch:=first|omega|assumption)[hcs,fF,(mH p l j (by omega) c3).2]
  ·try simp at c2
   apply bK;apply bJ;apply bL;apply aY;apply aB;refine zr ⟨[4,13],[],[],[18,24,33,38,41],[]⟩ fun _ _ Z=>?_;simp (disch:=first|omega|assumption)[hcs,fF];and_intros<;>try first|omega|exact rfl
   apply Z;refine zk [0,4,5] ?_;refine zr ⟨[4,13],[],[],[18,24,33,38,41],[]⟩ fun _ _ Z=>?_;simp (disch:=first|omega|assumption)[hcs,fF];and_intros<;>try first|omega|exact rfl
   apply Z;refine cZ 4 2 σ.length (kp p l j).length cap ((kp p l j).map cM) ((kp p l j).flatMap cA ++ (eK #[.string ⟨#[]⟩, .string ⟨#[]⟩] (l.length - (kp p l j).length) ++ rest)) (by simp <;> rfl) (by simp) (by omega) (by simp [hrest, dX (z := #[.string ⟨#[]⟩, .string ⟨#[]⟩]) (k := 2) rfl]; omega) (by simp) (Zd _) (by rw [Ha]; exact List.prefix_append _ _) ?_;simp only [iN];apply aE;simp [aN];unfold kp; rw [List.take_of_length_le (by omega)]
theorem Hj (l : List AT) (p : AT → Bool) (f : FuncId) (caps : List D) (σ : List (List D)) (hl : l.length ≤ 1000000) (hcp : ∀ d ∈ caps, d.plain = true) (hcs : caps.map D.strip = caps) (hp : ∀ x τ, Ct Tryz.prog f (cM x :: caps) τ (fun r τ' => r = .bool (p x) ∧ τ' = τ)) :
  Ct Tryz.prog 161 [.xs 2 (l.map cM), .clo (.func f) [] caps] σ (fun r σ' => r = .xs 2 ((l.filter fun x => !p x).map cM) ∧ σ' = σ) :=
 (Bt l p f caps σ hl hcp hcs hp).trim fun r σ' ⟨hr, hs⟩ => ⟨σ, [[]], hs, rfl, by rw [hr]; exact aAa _ _, fun n cs h => .inl h, hr, rfl⟩
theorem Ka (l : List AT) (σ : List (List D)) (hl : l.length ≤ 1000000) : Ct Tryz.prog 108 [.sl false (l.map cM)] σ (fun r σ' => r = .sl true (l.map cM) ∧ σ' = σ) := by
 refine zf (rs:=[.tmp 2]) Tryz.func108 Tryz.ntmps108 Tryz.results108 ?_;simp only [aQ];refine zr ⟨[2],[],[],[],[]⟩ fun _ _ Z=>?_;simp;and_intros<;>(try omega);apply Z;apply aD;refine zr ⟨[2],[],[],[],[]⟩ fun _ _ Z=>?_;refine aA 1 fun _ Y=>?_;simp;and_intros<;>(try omega);apply Y;simp only [List.drop];refine aG fun _ Y=>?_;simp;refine ⟨Y _ ?_, fun e1 => Y _ ?_⟩
 ·skip
  simp only [dF];apply Z;refine bR (t := false) (by simp) (fun h => by cases h) (fun _ => ?_);apply aH;apply aB;refine zr ⟨[2],[],[],[],[]⟩ fun _ _ Z=>?_;simp;and_intros<;>(try omega);apply Z;apply aE;simp [aN]
 ·skip
  simp only [dF];apply Z;refine bR (t := true) (by simp) (fun _ => ?_) (fun h => by cases h);refine zr ⟨[2],[],[],[],[]⟩ fun _ _ Z=>?_;simp;and_intros<;>(try omega);apply Z;apply aE;apply aL;simp [aN, e1]
attribute [simp] cP
theorem Fd (l : List PI) : (l.map cG).flatMap D.cells = l.flatMap cP := bX (fun _ => rfl) l
theorem Zf (l : List PI) : ∀ d ∈ l.map cG, d.ncells = 2 ∧ d.arr = true := by
 intro d hd;obtain ⟨a, _, rfl⟩ := List.mem_map.1 hd;exact ⟨rfl, rfl⟩
@[simp high] theorem aGc (l : List PI) : (l.flatMap cP).length = l.length * 2 := cB (f := cP) (fun _ => rfl) l
@[simp high] theorem aIj (l : List PI) (rest : List D) (i : Nat) (h : i < l.length) : oD true 2 ((l.flatMap cP ++ rest).drop (i * 2)) = some (.agg (cP l[i])) := Je (f := cP) (fun _ => rfl) l rest i h
@[simp high] theorem aIk (l : List PI) (rest : List D) (i : Nat) (x : PI) (h : i < l.length) : cN (l.flatMap cP ++ rest) (i * 2) [D.str x.name, D.int x.value] = (l.set i x).flatMap cP ++ rest := tA (f := cP) (fun _ => rfl) l rest i x h
theorem fI (p : PI → Bool) (l : List PI) (j : Nat) (rest : List D) : cN ((ar p l j).flatMap cP ++ rest) ((kp p l j).length * 2) (eK #[.string ⟨#[]⟩, .int .i64 0] (l.length - (kp p l j).length)) = (kp p l j).flatMap cP ++ (eK #[.string ⟨#[]⟩, .int .i64 0] (l.length - (kp p l j).length) ++ rest) := by
 have hz : (eK #[.string ⟨#[]⟩, .int .i64 0] (l.length - (kp p l j).length)).length = ((l.drop (kp p l j).length).flatMap cP).length := by
  rw [cB (f := cP) (k := 2) (fun _ => rfl), dX (k := 2) rfl, List.length_drop]
 have hk : ((kp p l j).flatMap cP).length = (kp p l j).length * 2 := cB (f := cP) (fun _ => rfl) _;unfold ar;rw [List.flatMap_append, List.append_assoc, ← hk, iF _ _ _ _ hz]
theorem Hp (l : List PI) (p : PI → Bool) (f : FuncId) (caps : List D) (m cap : Nat) (rest : List D) (σ : List (List D)) (hl : l.length ≤ 9223372036854775807) (hσ : σ[m]? = some (l.flatMap cP ++ rest)) (hcp : ∀ d ∈ caps, d.plain = true) (hcs : caps.map D.strip = caps) (hp : ∀ x τ, Ct Tryz.prog f (cG x :: caps) τ (fun r τ' => r = .bool (p x) ∧ τ' = τ)) : Ct Tryz.prog 169 [.slo m 0 l.length cap, .clo (.func f) [] caps] σ (fun r σ' => r = .int (pO p l) ∧ σ' = σ) := by
 refine zf (rs:=[.tmp 4]) Tryz.func169 Tryz.ntmps169 Tryz.results169 ?_;simp only [aQ];refine zr ⟨[],[],[],[7,14],[]⟩ fun _ _ Z=>?_;simp (disch:=omega)[hσ,hcs];and_intros<;>(try omega);apply Z;apply aD;refine zr ⟨[],[],[],[7,14],[]⟩ fun _ _ Z=>?_;simp (disch:=omega)[hσ,hcs];and_intros<;>(try omega);apply Z;apply aK;refine zk [0,1,4,7,8] ?_;refine bQ (fun (k : Nat) => [(8, .d (.v (.int .i64 (k : Int))))]) [4, 5, 8, 9, 10, 11, 12, 13, 14, 15, 16, 17, 18] (fun (k : Nat) => k ≤ l.length ∧ ∀ x ∈ l.take k, p x = false) (fun (k : Nat) => l.length - k) (0) (by simp <;> rfl) ?_ ?_ ?_
 ·simp
 ·simp
 rintro k ⟨hk, hh⟩;simp only [List.cons_append, List.nil_append];refine zr ⟨[],[],[],[7,14],[]⟩ fun _ _ Z=>?_;simp (disch:=omega)[hσ,hcs];and_intros<;>(try omega);apply Z;apply aD;refine zi ?_;refine ⟨fun c1=>?_,fun c1=>?_⟩
 ·try simp at c1
  apply aH;apply aB;apply aD;apply aK;refine zr ⟨[],[],[],[7,14],[]⟩ fun _ _ Z=>?_;simp (disch:=omega)[hσ,hcs];and_intros<;>(try omega);apply Z;refine zr ⟨[],[],[],[7,14],[]⟩ fun _ _ Z=>?_;refine aA 5 fun _ Y=>?_;simp (disch:=omega)[hσ,hcs];and_intros<;>(try omega);apply Y;simp only [List.drop];refine aG fun _ Y=>?_;simp (disch:=omega)[hσ,hcs];refine ⟨hcp, ?_⟩;refine cO (hp l[k] _) ?_;apply Y;simp only [dF];apply Z;refine zi ?_;refine ⟨fun c2=>?_,fun c2=>?_⟩
  ·try simp at c2
   refine zk [0,1,5,7,8] ?_;refine zr ⟨[],[],[],[7,14],[]⟩ fun _ _ Z=>?_;simp (disch:=omega)[hσ,hcs];and_intros<;>(try omega);apply Z;apply aE;apply aV;apply aL;apply eE;apply aV;apply aL;simp [aN];exact (oK c1 hh c2).symm
  ·try simp at c2
   apply aH;apply aP;apply aB;refine zk [0,1,7,8] ?_;refine zt ⟨[],[],[],[7,14],[]⟩ fun _ _ Z=>?_;simp (disch:=omega)[hσ,hcs];and_intros<;>(try omega);apply Z;refine bA (k + 1) ?_ ?_ (aW rfl ?_ (by simp) (by simp))
   ·exact ⟨by omega, jG (by omega) hh c2⟩
   ·try dsimp only
    omega
   ·simp (disch:=omega)[hσ,hcs]
 ·try simp at c1
  apply bK;apply bJ;apply bL;apply aY;apply aB;refine zr ⟨[],[],[],[7,14],[]⟩ fun _ _ Z=>?_;simp (disch:=omega)[hσ,hcs];and_intros<;>(try omega);apply Z;apply aE;simp [aN];rw [List.take_of_length_le (by omega)] at hh; exact (kA hh).symm
theorem Cs (l : List PI) (p : PI → Bool) (f : FuncId) (caps : List D) (σ : List (List D)) (hl : l.length ≤ 1000000) (hcp : ∀ d ∈ caps, d.plain = true) (hcs : caps.map D.strip = caps) (hp : ∀ x τ, Ct Tryz.prog f (cG x :: caps) τ (fun r τ' => r = .bool (p x) ∧ τ' = τ)) : Ct Tryz.prog 162 [.xs 2 (l.map cG), .clo (.func f) [] caps] σ (fun r σ' => r = .xs 2 ((l.filter fun x => !p x).map cG) ∧ σ' = σ ++ [[]]) := by
 refine zf (rs:=[.tmp 4]) Tryz.func162 Tryz.ntmps162 Tryz.results162 ?_;simp only [aQ];refine iW 0 2 rfl (by decide) fun cap rest hcap hcm hrest hk0 hes => ?_;simp only [List.length_map] at hcap hrest ⊢;rw [Fd];refine zr ⟨[4,13],[],[],[18,24,33,38,41],[]⟩ fun _ _ Z=>?_;simp (disch:=first|omega|assumption)[hcs,fI];and_intros<;>try first|omega|exact rfl
 apply Z;refine zr ⟨[4,13],[],[],[18,24,33,38,41],[]⟩ fun _ _ Z=>?_;refine aA 2 fun _ Y=>?_;simp (disch:=first|omega|assumption)[hcs,fI];and_intros<;>try first|omega|exact rfl
 apply Y;simp only [List.drop];refine aG fun _ Y=>?_;simp (disch:=first|omega|assumption)[hcs,fI];refine cO (Hp l p f caps σ.length cap rest _ (by omega) (by simp) hcp hcs hp) ?_;apply Y;simp (disch:=first|omega|assumption)[hcs,fI];and_intros<;>try first|omega|exact rfl
 apply Z;apply aD;refine zr ⟨[4,13],[],[],[18,24,33,38,41],[]⟩ fun _ _ Z=>?_;simp (disch:=first|omega|assumption)[hcs,fI];and_intros<;>try first|omega|exact rfl
 apply Z;refine zi ?_;refine ⟨fun c1=>?_,fun c1=>?_⟩
 ·try simp at c1
  refine zr ⟨[4,13],[],[],[18,24,33,38,41],[]⟩ fun _ _ Z=>?_;simp (disch:=first|omega|assumption)[hcs,fI];and_intros<;>try first|omega|exact rfl
  apply Z;refine cZ 4 2 σ.length l.length cap (l.map cG) (l.flatMap cP ++ rest) (by simp <;> rfl) (by simp) (by omega) (by simp [hrest, dX (z := #[.string ⟨#[]⟩, .int .i64 0]) (k := 2) rfl]; omega) (by simp) (Zf _) (by rw [Fd]; exact List.prefix_append _ _) ?_;simp only [iN];apply aE;apply aL;simp [aN];rcases mS p l with ⟨_, h⟩ | ⟨k, h, _⟩
  ·rw [h]
  ·omega
 ·try simp at c1
  obtain ⟨k0, e0, e1, e2, e3⟩ := rE c1;rw [e0];apply aH;apply aB;apply aD;refine zr ⟨[4,13],[],[],[18,24,33,38,41],[]⟩ fun _ _ Z=>?_;simp (disch:=first|omega|assumption)[hcs,fI];and_intros<;>try first|omega|exact rfl
  apply Z;apply aK;refine zk [0,1,4,5,6] ?_;refine lP (fun (j : Nat) => [(5, .d (.v (.int .i64 ((kp p l j).length : Int)))), (6, .d (.v (.int .i64 (j : Int))))]) (fun (j : Nat) => []) (fun (j : Nat) => [(σ.length, (ar p l j).flatMap cP ++ rest)]) [5, 6, 7, 16, 17, 18, 19, 20, 21, 22, 23, 24, 25, 26, 27, 28, 29, 30, 31, 32, 33, 34, 35] (fun (j : Nat) => j ≤ l.length) (fun (j : Nat) => l.length - j) (k0 + 1) (by simp <;> rfl) ?_ (by simp) (by simp [e1]) ?_ ?_
  ·simp [e1, e2]
  ·omega
  rintro j hj;simp only [List.cons_append, List.nil_append, lL, kB, List.set_cons_zero, List.set_cons_succ];have hkl := xY p l j hj;have hal := vC p l j;apply aD;refine zr ⟨[4,13],[],[],[18,24,33,38,41],[]⟩ fun _ _ Z=>?_;simp (disch:=first|omega|assumption)[hcs,fI];and_intros<;>try first|omega|exact rfl
  apply Z;refine zi ?_;refine ⟨fun c2=>?_,fun c2=>?_⟩
  ·try simp at c2
   apply aH;apply aB;apply aD;apply aK;refine zr ⟨[4,13],[],[],[18,24,33,38,41],[]⟩ fun _ _ Z=>?_;simp (disch:=first|omega|assumption)[hcs,fI];and_intros<;>try first|omega|exact rfl
   apply Z;refine zk [0,1,4,5,6,7] ?_;refine zr ⟨[4,13],[],[],[18,24,33,38,41],[]⟩ fun _ _ Z=>?_;refine aA 2 fun _ Y=>?_;simp (disch:=first|omega|assumption)[hcs,fI];and_intros<;>try first|omega|exact rfl
   apply Y;simp only [List.drop];refine aG fun _ Y=>?_;simp (disch:=first|omega|assumption)[hcs,fI];simp only [Jm p l j (by omega)];refine ⟨hcp, ?_⟩;refine cO (hp l[j] _) ?_;apply Y;simp (disch:=first|omega|assumption)[hcs,fI];and_intros<;>try first|omega|exact rfl
   apply Z;refine zi ?_;refine ⟨fun c3=>?_,fun c3=>?_⟩
   ·try simp at c3
    refine zr ⟨[4,13],[],[],[18,24,33,38,41],[]⟩ fun _ _ Z=>?_;simp (disch:=first|omega|assumption)[hcs,fI];and_intros<;>try first|omega|exact rfl
    apply Z;refine zk [0,1,4,5,6] ?_;refine zt ⟨[4,13],[],[],[18,24,33,38,41],[]⟩ fun _ _ Z=>?_;simp (disch:=first|omega|assumption)[hcs,fI];and_intros<;>try first|omega|exact rfl
    apply Z;apply aP;apply aB;refine zt ⟨[4,13],[],[],[18,24,33,38,41],[]⟩ fun _ _ Z=>?_;simp (disch:=first|omega|assumption)[hcs,fI];and_intros<;>try first|omega|exact rfl
    apply Z;refine bA (j + 1) ?_ ?_ (aW rfl ?_ (by simp) (by first | (simp [← (pA p l j (by omega) c3).1]; done) | (simp [(pA p l j (by omega) c3).1]; done)))
    ·omega
    ·try dsimp only
     omega
    ·simp (disch:=first|omega|assumption)[hcs,fI,(pA p l j (by omega) c3).2]
   ·try simp at c3
    apply aH;apply aP;apply aB;refine zt ⟨[4,13],[],[],[18,24,33,38,41],[]⟩ fun _ _ Z=>?_;simp (disch:=first|omega|assumption)[hcs,fI];and_intros<;>try first|omega|exact rfl
    apply Z;refine bA (j + 1) ?_ ?_ (aW rfl ?_ (by simp) (by simp [(mH p l j (by omega) c3).1]))
    ·omega
    ·try dsimp only
     omega
    ·simp (disch:=first|omega|assumption)[hcs,fI,(mH p l j (by omega) c3).2]
  ·try simp at c2
   apply bK;apply bJ;apply bL;apply aY;apply aB;refine zr ⟨[4,13],[],[],[18,24,33,38,41],[]⟩ fun _ _ Z=>?_;simp (disch:=first|omega|assumption)[hcs,fI];and_intros<;>try first|omega|exact rfl
   apply Z;refine zk [0,4,5] ?_;refine zr ⟨[4,13],[],[],[18,24,33,38,41],[]⟩ fun _ _ Z=>?_;simp (disch:=first|omega|assumption)[hcs,fI];and_intros<;>try first|omega|exact rfl
   apply Z;refine cZ 4 2 σ.length (kp p l j).length cap ((kp p l j).map cG) ((kp p l j).flatMap cP ++ (eK #[.string ⟨#[]⟩, .int .i64 0] (l.length - (kp p l j).length) ++ rest)) (by simp <;> rfl) (by simp) (by omega) (by simp [hrest, dX (z := #[.string ⟨#[]⟩, .int .i64 0]) (k := 2) rfl]; omega) (by simp) (Zf _) (by rw [Fd]; exact List.prefix_append _ _) ?_;simp only [iN];apply aE;simp [aN];unfold kp; rw [List.take_of_length_le (by omega)]
theorem Hx (l : List PI) (p : PI → Bool) (f : FuncId) (caps : List D) (σ : List (List D)) (hl : l.length ≤ 1000000) (hcp : ∀ d ∈ caps, d.plain = true) (hcs : caps.map D.strip = caps) (hp : ∀ x τ, Ct Tryz.prog f (cG x :: caps) τ (fun r τ' => r = .bool (p x) ∧ τ' = τ)) :
  Ct Tryz.prog 162 [.xs 2 (l.map cG), .clo (.func f) [] caps] σ (fun r σ' => r = .xs 2 ((l.filter fun x => !p x).map cG) ∧ σ' = σ) :=
 (Cs l p f caps σ hl hcp hcs hp).trim fun r σ' ⟨hr, hs⟩ => ⟨σ, [[]], hs, rfl, by rw [hr]; exact aB3 _ _, fun n cs h => .inl h, hr, rfl⟩
theorem Ku (l : List PI) (σ : List (List D)) (hl : l.length ≤ 1000000) : Ct Tryz.prog 109 [.sl false (l.map cG)] σ (fun r σ' => r = .sl true (l.map cG) ∧ σ' = σ) := by
 refine zf (rs:=[.tmp 2]) Tryz.func109 Tryz.ntmps109 Tryz.results109 ?_;simp only [aQ];refine zr ⟨[2],[],[],[],[]⟩ fun _ _ Z=>?_;simp;and_intros<;>(try omega);apply Z;apply aD;refine zr ⟨[2],[],[],[],[]⟩ fun _ _ Z=>?_;refine aA 1 fun _ Y=>?_;simp;and_intros<;>(try omega);apply Y;simp only [List.drop];refine aG fun _ Y=>?_;simp;refine ⟨Y _ ?_, fun e1 => Y _ ?_⟩
 ·skip
  simp only [dF];apply Z;refine bR (t := false) (by simp) (fun h => by cases h) (fun _ => ?_);apply aH;apply aB;refine zr ⟨[2],[],[],[],[]⟩ fun _ _ Z=>?_;simp;and_intros<;>(try omega);apply Z;apply aE;simp [aN]
 ·skip
  simp only [dF];apply Z;refine bR (t := true) (by simp) (fun _ => ?_) (fun h => by cases h);refine zr ⟨[2],[],[],[],[]⟩ fun _ _ Z=>?_;simp;and_intros<;>(try omega);apply Z;apply aE;apply aL;simp [aN, e1]
theorem wP (N cap : Nat) (l : List Int) (rest : List D) (σ : List (List D)) (hl : l.length ≤ 1000000) (hN : σ[N]? = some (l.map D.int ++ rest)) : Ct Tryz.prog 107 [.slo N 0 l.length cap] σ (fun r σ' => kV 1 (l.map D.int) r ∧ σ' = σ) := by
 refine zf (rs:=[.tmp 2]) Tryz.func107 Tryz.ntmps107 Tryz.results107 ?_;simp only [aQ];refine zr ⟨[2,7],[],[],[],[7]⟩ fun _ _ Z=>?_;simp[hN];and_intros<;>(try omega);apply Z;apply aD;refine zr ⟨[2,7],[],[],[],[7]⟩ fun _ _ Z=>?_;refine aA 1 fun _ Y=>?_;simp[hN];and_intros<;>(try omega);apply Y;simp only [List.drop];refine aG fun _ Y=>?_;simp[hN];refine ⟨Y _ ?_, fun e1 => Y _ ?_⟩
 ·skip
  simp only [dF];apply Z;refine bR (t := false) (by simp) (fun h => by cases h) (fun _ => ?_);apply aH;apply aB;refine zr ⟨[2,7],[],[],[],[7]⟩ fun _ _ Z=>?_;refine aA 3 fun _ Y=>?_;simp[hN];refine ⟨l.map D.int, ⟨⟨by simp, by rw [dA (f := D.int) (fun _ => rfl)]; exact List.prefix_append _ _⟩, fH (d := D.int) (fun _ => ⟨rfl, rfl⟩) _, by first | rfl | trivial⟩, ⟨by simp; omega, by simp; omega⟩, ?_⟩;and_intros<;>(try omega);apply Y;simp only [List.drop];simp[hN];and_intros<;>(try omega);apply Z;apply aE;simp [aN, kV]
 ·skip
  simp only [dF];apply Z;refine bR (t := true) (by simp) (fun _ => ?_) (fun h => by cases h);refine zr ⟨[2,7],[],[],[],[7]⟩ fun _ _ Z=>?_;simp[hN];and_intros<;>(try omega);apply Z;apply aE;apply aL;simp [aN, kV, e1]
theorem Lv (N cap : Nat) (l : List Int) (rest : List D) (σ : List (List D)) (hl : l.length ≤ 1000000) (hN : σ[N]? = some (l.map D.int ++ rest)) : Ct Tryz.prog 107 [.slo N 0 l.length cap] σ (fun r σ' => r = .sl false (l.map D.int) ∧ σ' = σ) := ((wP N cap l rest σ hl hN).toX fun _ _ h => h).freeze fun _ _ h => h
def Xo (c : Int) (l : List Int) : Int := pO (fun x => decide (x = c)) l
theorem Mt (N cap : Nat) (l : List Int) (rest : List D) (c : Int) (σ : List (List D)) (hl : l.length ≤ 1000000) (hN : σ[N]? = some (l.map D.int ++ rest)) : Ct Tryz.prog 54 [.slo N 0 l.length cap, D.int c] σ (fun r σ' => r = .int (Xo c l) ∧ σ' = σ) := by
 refine zf (rs:=[.tmp 4]) Tryz.func54 Tryz.ntmps54 Tryz.results54 ?_;simp only [aQ];refine zr ⟨[],[],[],[7,14],[]⟩ fun _ _ Z=>?_;simp (disch:=omega)[hN,aT];and_intros<;>(try omega);apply Z;apply aD;refine zr ⟨[],[],[],[7,14],[]⟩ fun _ _ Z=>?_;simp (disch:=omega)[hN,aT];and_intros<;>(try omega);apply Z;apply aK;refine zk [0,1,4,7,8] ?_;refine bQ (fun (k : Nat) => [(8, .d (.v (.int .i64 (k : Int)))), (5, .d (.any))]) [4, 5, 8, 9, 10, 11, 12, 13, 14, 15, 16, 17, 18] (fun (k : Nat) => k ≤ l.length ∧ ∀ x ∈ l.take k, decide (x = c) = false) (fun (k : Nat) => l.length - k) (0) (by simp <;> rfl) ?_ ?_ ?_
 ·simp
 ·simp
 rintro k ⟨hk, hh⟩;simp only [List.cons_append, List.nil_append];refine zr ⟨[],[],[],[7,14],[]⟩ fun _ _ Z=>?_;simp (disch:=omega)[hN,aT];and_intros<;>(try omega);apply Z;apply aD;refine zi ?_;refine ⟨fun c1=>?_,fun c1=>?_⟩
 ·try simp at c1
  apply aH;apply aB;apply aD;apply aK;refine zr ⟨[],[],[],[7,14],[]⟩ fun _ _ Z=>?_;simp (disch:=omega)[hN,aT];and_intros<;>(try omega);apply Z;refine zr ⟨[],[],[],[7,14],[]⟩ fun _ _ Z=>?_;simp (disch:=omega)[hN,aT];and_intros<;>(try omega);apply Z;refine zi ?_;refine ⟨fun c2=>?_,fun c2=>?_⟩
  ·try simp at c2
   refine zk [0,1,5,7,8] ?_;refine zr ⟨[],[],[],[7,14],[]⟩ fun _ _ Z=>?_;simp (disch:=omega)[hN,aT];and_intros<;>(try omega);apply Z;apply aE;apply aV;apply aL;apply eE;apply aV;apply aL;simp [aN];exact (oK c1 hh (by simp; exact c2.symm)).symm
  ·try simp at c2
   apply aH;apply aP;apply aB;refine zk [0,1,5,7,8] ?_;refine zt ⟨[],[],[],[7,14],[]⟩ fun _ _ Z=>?_;simp (disch:=omega)[hN,aT];and_intros<;>(try omega);apply Z;refine bA (k + 1) ?_ ?_ (aW rfl ?_ (by simp) (by simp))
   ·exact ⟨by omega, jG (by omega) hh (by simp; exact fun e => c2 e.symm)⟩
   ·try dsimp only
    omega
   ·simp (disch:=omega)[hN,aT]
 ·try simp at c1
  apply bK;apply bJ;apply bL;apply aY;apply aB;refine zr ⟨[],[],[],[7,14],[]⟩ fun _ _ Z=>?_;simp (disch:=omega)[hN,aT];and_intros<;>(try omega);apply Z;apply aE;simp [aN];rw [List.take_of_length_le (by omega)] at hh; exact (kA hh).symm
end Go.Proofs.YtpfmpeaekgdgnaaGreat


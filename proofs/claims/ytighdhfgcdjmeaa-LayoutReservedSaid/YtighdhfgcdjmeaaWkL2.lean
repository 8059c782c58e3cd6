import Derived.Test.YtighdhfgcdjmeaaWkL1
namespace Go.Proofs.Ytighdhfgcdjmeaa
open Go Go.Vm
set_option maxRecDepth 20000
set_option linter.all false
set_option maxHeartbeats 8000000
attribute [simp] cA
theorem zP (l : List AT) : (l.map bR).flatMap D.cells = l.flatMap cA := bA (fun _ => rfl) l
theorem Qr (l : List AT) : ∀ d ∈ l.map bR, d.ncells = 2 ∧ d.arr = true := by
 intro d hd;obtain ⟨a, _, rfl⟩ := List.mem_map.1 hd;exact ⟨rfl, rfl⟩
@[simp high] theorem aA7 (l : List AT) : (l.flatMap cA).length = l.length * 2 := bB (f := cA) (fun _ => rfl) l
@[simp high] theorem aB5 (l : List AT) (rest : List D) (i : Nat) (h : i < l.length) : lG true 2 ((l.flatMap cA ++ rest).drop (i * 2)) = some (.agg (cA l[i])) := vH (f := cA) (fun _ => rfl) l rest i h
@[simp high] theorem aD5 (l : List AT) (rest : List D) (i : Nat) (x : AT) (h : i < l.length) : bJ (l.flatMap cA ++ rest) (i * 2) [D.str x.name, D.str x.value] = (l.set i x).flatMap cA ++ rest := kN (f := cA) (fun _ => rfl) l rest i x h
theorem dR (p : AT → Bool) (l : List AT) (j : Nat) (rest : List D) : bJ ((ar p l j).flatMap cA ++ rest) ((kp p l j).length * 2) (dE #[.string ⟨#[]⟩, .string ⟨#[]⟩] (l.length - (kp p l j).length)) = (kp p l j).flatMap cA ++ (dE #[.string ⟨#[]⟩, .string ⟨#[]⟩] (l.length - (kp p l j).length) ++ rest) := by
 have hz : (dE #[.string ⟨#[]⟩, .string ⟨#[]⟩] (l.length - (kp p l j).length)).length = ((l.drop (kp p l j).length).flatMap cA).length := by
  rw [bB (f := cA) (k := 2) (fun _ => rfl), dX (k := 2) rfl, List.length_drop]
 have hk : ((kp p l j).flatMap cA).length = (kp p l j).length * 2 := bB (f := cA) (fun _ => rfl) _;unfold ar;rw [List.flatMap_append, List.append_assoc, ← hk, fD _ _ _ _ hz]
theorem Bo (l : List AT) (p : AT → Bool) (f : FuncId) (caps : List D) (m cap : Nat) (rest : List D) (σ : List (List D)) (hl : l.length ≤ 9223372036854775807) (hσ : σ[m]? = some (l.flatMap cA ++ rest)) (hcp : ∀ d ∈ caps, d.plain = true) (hcs : caps.map D.strip = caps) (hp : ∀ x τ, Ct Try.prog f (bR x :: caps) τ (fun r τ' => r = .bool (p x) ∧ τ' = τ)) : Ct Try.prog 91 [.slo m 0 l.length cap, .clo (.func f) [] caps] σ (fun r σ' => r = .int (qI p l) ∧ σ' = σ) := by
 refine zf (rs:=[.tmp 4]) Try.func91 Try.ntmps91 Try.results91 ?_;simp only [aM];refine zr ⟨[],[],[],[7,14],[]⟩ fun _ _ Z=>?_;simp (disch:=omega)[hσ,hcs];and_intros<;>(try omega);apply Z;apply aH;refine zr ⟨[],[],[],[7,14],[]⟩ fun _ _ Z=>?_;simp (disch:=omega)[hσ,hcs];and_intros<;>(try omega);apply Z;apply aN;refine zk [0,1,4,7,8] ?_;refine cN (fun (k : Nat) => [(8, .d (.v (.int .i64 (k : Int))))]) [4, 5, 8, 9, 10, 11, 12, 13, 14, 15, 16, 17, 18] (fun (k : Nat) => k ≤ l.length ∧ ∀ x ∈ l.take k, p x = false) (fun (k : Nat) => l.length - k) (0) (by simp <;> rfl) ?_ ?_ ?_
 ·simp
 ·simp
 rintro k ⟨hk, hh⟩;simp only [List.cons_append, List.nil_append];refine zr ⟨[],[],[],[7,14],[]⟩ fun _ _ Z=>?_;simp (disch:=omega)[hσ,hcs];and_intros<;>(try omega);apply Z;apply aH;refine zi ?_;refine ⟨fun c1=>?_,fun c1=>?_⟩
 ·try simp at c1
  apply aK;apply aE;apply aH;apply aN;refine zr ⟨[],[],[],[7,14],[]⟩ fun _ _ Z=>?_;simp (disch:=omega)[hσ,hcs];and_intros<;>(try omega);apply Z;refine zr ⟨[],[],[],[7,14],[]⟩ fun _ _ Z=>?_;refine aC 5 fun _ Y=>?_;simp (disch:=omega)[hσ,hcs];and_intros<;>(try omega);apply Y;simp only [List.drop];refine aD fun _ Y=>?_;simp (disch:=omega)[hσ,hcs];refine ⟨hcp, ?_⟩;refine cD (hp l[k] _) ?_;apply Y;simp only [iR];apply Z;refine zi ?_;refine ⟨fun c2=>?_,fun c2=>?_⟩
  ·try simp at c2
   refine zk [0,1,5,7,8] ?_;refine zr ⟨[],[],[],[7,14],[]⟩ fun _ _ Z=>?_;simp (disch:=omega)[hσ,hcs];and_intros<;>(try omega);apply Z;apply aF;apply eE;apply bD;apply xD;apply eE;apply bD;simp [aR];exact (Cv c1 hh c2).symm
  ·try simp at c2
   apply aK;apply aZ;apply aE;refine zk [0,1,7,8] ?_;refine zt ⟨[],[],[],[7,14],[]⟩ fun _ _ Z=>?_;simp (disch:=omega)[hσ,hcs];and_intros<;>(try omega);apply Z;refine bT (k + 1) ?_ ?_ (bI rfl ?_ (by simp) (by simp))
   ·exact ⟨by omega, zB (by omega) hh c2⟩
   ·try dsimp only
    omega
   ·simp (disch:=omega)[hσ,hcs]
 ·try simp at c1
  apply bP;apply bN;apply bO;apply bG;apply aE;refine zr ⟨[],[],[],[7,14],[]⟩ fun _ _ Z=>?_;simp (disch:=omega)[hσ,hcs];and_intros<;>(try omega);apply Z;apply aF;simp [aR];rw [List.take_of_length_le (by omega)] at hh; exact (uN hh).symm
theorem zA (l : List AT) (p : AT → Bool) (f : FuncId) (caps : List D) (σ : List (List D)) (hl : l.length ≤ 1000000) (hcp : ∀ d ∈ caps, d.plain = true) (hcs : caps.map D.strip = caps) (hp : ∀ x τ, Ct Try.prog f (bR x :: caps) τ (fun r τ' => r = .bool (p x) ∧ τ' = τ)) : Ct Try.prog 73 [.xs 2 (l.map bR), .clo (.func f) [] caps] σ (fun r σ' => r = .xs 2 ((l.filter fun x => !p x).map bR) ∧ σ' = σ ++ [[]]) := by
 refine zf (rs:=[.tmp 4]) Try.func73 Try.ntmps73 Try.results73 ?_;simp only [aM];refine jA 0 2 rfl (by decide) fun cap rest hcap hcm hrest hk0 hes => ?_;simp only [List.length_map] at hcap hrest ⊢;rw [zP];refine zr ⟨[4,13],[],[],[18,24,33,38,41],[]⟩ fun _ _ Z=>?_;simp (disch:=first|omega|assumption)[hcs,dR];and_intros<;>try first|omega|exact rfl
 apply Z;refine zr ⟨[4,13],[],[],[18,24,33,38,41],[]⟩ fun _ _ Z=>?_;refine aC 2 fun _ Y=>?_;simp (disch:=first|omega|assumption)[hcs,dR];and_intros<;>try first|omega|exact rfl
 apply Y;simp only [List.drop];refine aD fun _ Y=>?_;simp (disch:=first|omega|assumption)[hcs,dR];refine cD (Bo l p f caps σ.length cap rest _ (by omega) (by simp) hcp hcs hp) ?_;apply Y;simp (disch:=first|omega|assumption)[hcs,dR];and_intros<;>try first|omega|exact rfl
 apply Z;apply aH;refine zr ⟨[4,13],[],[],[18,24,33,38,41],[]⟩ fun _ _ Z=>?_;simp (disch:=first|omega|assumption)[hcs,dR];and_intros<;>try first|omega|exact rfl
 apply Z;refine zi ?_;refine ⟨fun c1=>?_,fun c1=>?_⟩
 ·try simp at c1
  refine zr ⟨[4,13],[],[],[18,24,33,38,41],[]⟩ fun _ _ Z=>?_;simp (disch:=first|omega|assumption)[hcs,dR];and_intros<;>try first|omega|exact rfl
  apply Z;refine bZ 4 2 σ.length l.length cap (l.map bR) (l.flatMap cA ++ rest) (by simp <;> rfl) (by simp) (by omega) (by simp [hrest, dX (z := #[.string ⟨#[]⟩, .string ⟨#[]⟩]) (k := 2) rfl]; omega) (by simp) (Qr _) (by rw [zP]; exact List.prefix_append _ _) ?_;simp only [kX];apply aF;apply bD;simp [aR];rcases rS p l with ⟨_, h⟩ | ⟨k, h, _⟩
  ·rw [h]
  ·omega
 ·try simp at c1
  obtain ⟨k0, e0, e1, e2, e3⟩ := yQ c1;rw [e0];apply aK;apply aE;apply aH;refine zr ⟨[4,13],[],[],[18,24,33,38,41],[]⟩ fun _ _ Z=>?_;simp (disch:=first|omega|assumption)[hcs,dR];and_intros<;>try first|omega|exact rfl
  apply Z;apply aN;refine zk [0,1,4,5,6] ?_;refine fY (fun (j : Nat) => [(5, .d (.v (.int .i64 ((kp p l j).length : Int)))), (6, .d (.v (.int .i64 (j : Int))))]) (fun (j : Nat) => []) (fun (j : Nat) => [(σ.length, (ar p l j).flatMap cA ++ rest)]) [5, 6, 7, 16, 17, 18, 19, 20, 21, 22, 23, 24, 25, 26, 27, 28, 29, 30, 31, 32, 33, 34, 35] (fun (j : Nat) => j ≤ l.length) (fun (j : Nat) => l.length - j) (k0 + 1) (by simp <;> rfl) ?_ (by simp) (by simp [e1]) ?_ ?_
  ·simp [e1, e2]
  ·omega
  rintro j hj;simp only [List.cons_append, List.nil_append, gN, fI, List.set_cons_zero, List.set_cons_succ];have hkl := Cq p l j hj;have hal := Bp p l j;apply aH;refine zr ⟨[4,13],[],[],[18,24,33,38,41],[]⟩ fun _ _ Z=>?_;simp (disch:=first|omega|assumption)[hcs,dR];and_intros<;>try first|omega|exact rfl
  apply Z;refine zi ?_;refine ⟨fun c2=>?_,fun c2=>?_⟩
  ·try simp at c2
   apply aK;apply aE;apply aH;apply aN;refine zr ⟨[4,13],[],[],[18,24,33,38,41],[]⟩ fun _ _ Z=>?_;simp (disch:=first|omega|assumption)[hcs,dR];and_intros<;>try first|omega|exact rfl
   apply Z;refine zk [0,1,4,5,6,7] ?_;refine zr ⟨[4,13],[],[],[18,24,33,38,41],[]⟩ fun _ _ Z=>?_;refine aC 2 fun _ Y=>?_;simp (disch:=first|omega|assumption)[hcs,dR];and_intros<;>try first|omega|exact rfl
   apply Y;simp only [List.drop];refine aD fun _ Y=>?_;simp (disch:=first|omega|assumption)[hcs,dR];simp only [Qt p l j (by omega)];refine ⟨hcp, ?_⟩;refine cD (hp l[j] _) ?_;apply Y;simp (disch:=first|omega|assumption)[hcs,dR];and_intros<;>try first|omega|exact rfl
   apply Z;refine zi ?_;refine ⟨fun c3=>?_,fun c3=>?_⟩
   ·try simp at c3
    refine zr ⟨[4,13],[],[],[18,24,33,38,41],[]⟩ fun _ _ Z=>?_;simp (disch:=first|omega|assumption)[hcs,dR];and_intros<;>try first|omega|exact rfl
    apply Z;refine zk [0,1,4,5,6] ?_;refine zt ⟨[4,13],[],[],[18,24,33,38,41],[]⟩ fun _ _ Z=>?_;simp (disch:=first|omega|assumption)[hcs,dR];and_intros<;>try first|omega|exact rfl
    apply Z;apply aZ;apply aE;refine zt ⟨[4,13],[],[],[18,24,33,38,41],[]⟩ fun _ _ Z=>?_;simp (disch:=first|omega|assumption)[hcs,dR];and_intros<;>try first|omega|exact rfl
    apply Z;refine bT (j + 1) ?_ ?_ (bI rfl ?_ (by simp) (by first | (simp [← (uB p l j (by omega) c3).1]; done) | (simp [(uB p l j (by omega) c3).1]; done)))
    ·omega
    ·try dsimp only
     omega
    ·simp (disch:=first|omega|assumption)[hcs,dR,(uB p l j (by omega) c3).2]
   ·try simp at c3
    apply aK;apply aZ;apply aE;refine zt ⟨[4,13],[],[],[18,24,33,38,41],[]⟩ fun _ _ Z=>?_;simp (disch:=first|omega|assumption)[hcs,dR];and_intros<;>try first|omega|exact rfl
    apply Z;refine bT (j + 1) ?_ ?_ (bI rfl ?_ (by simp) (by simp [(rX p l j (by omega) c3).1]))
    ·omega
    ·try dsimp only
     omega
    ·simp (disch:=first|omega|assumption)[hcs,dR,(rX p l j (by omega) c3).2]
  ·try simp at c2
   apply bP;apply bN;apply bO;apply bG;apply aE;refine zr ⟨[4,13],[],[],[18,24,33,38,41],[]⟩ fun _ _ Z=>?_;simp (disch:=first|omega|assumption)[hcs,dR];and_intros<;>try first|omega|exact rfl
   apply Z;refine zk [0,4,5] ?_;refine zr ⟨[4,13],[],[],[18,24,33,38,41],[]⟩ fun _ _ Z=>?_;simp (disch:=first|omega|assumption)[hcs,dR];and_intros<;>try first|omega|exact rfl
   apply Z;refine bZ 4 2 σ.length (kp p l j).length cap ((kp p l j).map bR) ((kp p l j).flatMap cA ++ (dE #[.string ⟨#[]⟩, .string ⟨#[]⟩] (l.length - (kp p l j).length) ++ rest)) (by simp <;> rfl) (by simp) (by omega) (by simp [hrest, dX (z := #[.string ⟨#[]⟩, .string ⟨#[]⟩]) (k := 2) rfl]; omega) (by simp) (Qr _) (by rw [zP]; exact List.prefix_append _ _) ?_;simp only [kX];apply aF;simp [aR];unfold kp; rw [List.take_of_length_le (by omega)]
theorem Bn (l : List AT) (p : AT → Bool) (f : FuncId) (caps : List D) (σ : List (List D)) (hl : l.length ≤ 1000000) (hcp : ∀ d ∈ caps, d.plain = true) (hcs : caps.map D.strip = caps) (hp : ∀ x τ, Ct Try.prog f (bR x :: caps) τ (fun r τ' => r = .bool (p x) ∧ τ' = τ)) :
  Ct Try.prog 73 [.xs 2 (l.map bR), .clo (.func f) [] caps] σ (fun r σ' => r = .xs 2 ((l.filter fun x => !p x).map bR) ∧ σ' = σ) :=
 (zA l p f caps σ hl hcp hcs hp).trim fun r σ' ⟨hr, hs⟩ => ⟨σ, [[]], hs, rfl, by rw [hr]; exact Te _ _, fun n cs h => .inl h, hr, rfl⟩
attribute [simp] cP
theorem zX (l : List PI) : (l.map bH).flatMap D.cells = l.flatMap cP := bA (fun _ => rfl) l
theorem Qi (l : List PI) : ∀ d ∈ l.map bH, d.ncells = 2 ∧ d.arr = true := by
 intro d hd;obtain ⟨a, _, rfl⟩ := List.mem_map.1 hd;exact ⟨rfl, rfl⟩
@[simp high] theorem aBl (l : List PI) : (l.flatMap cP).length = l.length * 2 := bB (f := cP) (fun _ => rfl) l
@[simp high] theorem aC5 (l : List PI) (rest : List D) (i : Nat) (h : i < l.length) : lG true 2 ((l.flatMap cP ++ rest).drop (i * 2)) = some (.agg (cP l[i])) := vH (f := cP) (fun _ => rfl) l rest i h
@[simp high] theorem aEi (l : List PI) (rest : List D) (i : Nat) (x : PI) (h : i < l.length) : bJ (l.flatMap cP ++ rest) (i * 2) [D.str x.name, D.int x.value] = (l.set i x).flatMap cP ++ rest := kN (f := cP) (fun _ => rfl) l rest i x h
theorem dQ (p : PI → Bool) (l : List PI) (j : Nat) (rest : List D) : bJ ((ar p l j).flatMap cP ++ rest) ((kp p l j).length * 2) (dE #[.string ⟨#[]⟩, .int .i64 0] (l.length - (kp p l j).length)) = (kp p l j).flatMap cP ++ (dE #[.string ⟨#[]⟩, .int .i64 0] (l.length - (kp p l j).length) ++ rest) := by
 have hz : (dE #[.string ⟨#[]⟩, .int .i64 0] (l.length - (kp p l j).length)).length = ((l.drop (kp p l j).length).flatMap cP).length := by
  rw [bB (f := cP) (k := 2) (fun _ => rfl), dX (k := 2) rfl, List.length_drop]
 have hk : ((kp p l j).flatMap cP).length = (kp p l j).length * 2 := bB (f := cP) (fun _ => rfl) _;unfold ar;rw [List.flatMap_append, List.append_assoc, ← hk, fD _ _ _ _ hz]
theorem Az (l : List PI) (p : PI → Bool) (f : FuncId) (caps : List D) (m cap : Nat) (rest : List D) (σ : List (List D)) (hl : l.length ≤ 9223372036854775807) (hσ : σ[m]? = some (l.flatMap cP ++ rest)) (hcp : ∀ d ∈ caps, d.plain = true) (hcs : caps.map D.strip = caps) (hp : ∀ x τ, Ct Try.prog f (bH x :: caps) τ (fun r τ' => r = .bool (p x) ∧ τ' = τ)) : Ct Try.prog 92 [.slo m 0 l.length cap, .clo (.func f) [] caps] σ (fun r σ' => r = .int (qI p l) ∧ σ' = σ) := by
 refine zf (rs:=[.tmp 4]) Try.func92 Try.ntmps92 Try.results92 ?_;simp only [aM];refine zr ⟨[],[],[],[7,14],[]⟩ fun _ _ Z=>?_;simp (disch:=omega)[hσ,hcs];and_intros<;>(try omega);apply Z;apply aH;refine zr ⟨[],[],[],[7,14],[]⟩ fun _ _ Z=>?_;simp (disch:=omega)[hσ,hcs];and_intros<;>(try omega);apply Z;apply aN;refine zk [0,1,4,7,8] ?_;refine cN (fun (k : Nat) => [(8, .d (.v (.int .i64 (k : Int))))]) [4, 5, 8, 9, 10, 11, 12, 13, 14, 15, 16, 17, 18] (fun (k : Nat) => k ≤ l.length ∧ ∀ x ∈ l.take k, p x = false) (fun (k : Nat) => l.length - k) (0) (by simp <;> rfl) ?_ ?_ ?_
 ·simp
 ·simp
 rintro k ⟨hk, hh⟩;simp only [List.cons_append, List.nil_append];refine zr ⟨[],[],[],[7,14],[]⟩ fun _ _ Z=>?_;simp (disch:=omega)[hσ,hcs];and_intros<;>(try omega);apply Z;apply aH;refine zi ?_;refine ⟨fun c1=>?_,fun c1=>?_⟩
 ·try simp at c1
  apply aK;apply aE;apply aH;apply aN;refine zr ⟨[],[],[],[7,14],[]⟩ fun _ _ Z=>?_;simp (disch:=omega)[hσ,hcs];and_intros<;>(try omega);apply Z;refine zr ⟨[],[],[],[7,14],[]⟩ fun _ _ Z=>?_;refine aC 5 fun _ Y=>?_;simp (disch:=omega)[hσ,hcs];and_intros<;>(try omega);apply Y;simp only [List.drop];refine aD fun _ Y=>?_;simp (disch:=omega)[hσ,hcs];refine ⟨hcp, ?_⟩;refine cD (hp l[k] _) ?_;apply Y;simp only [iR];apply Z;refine zi ?_;refine ⟨fun c2=>?_,fun c2=>?_⟩
  ·try simp at c2
   refine zk [0,1,5,7,8] ?_;refine zr ⟨[],[],[],[7,14],[]⟩ fun _ _ Z=>?_;simp (disch:=omega)[hσ,hcs];and_intros<;>(try omega);apply Z;apply aF;apply eE;apply bD;apply xD;apply eE;apply bD;simp [aR];exact (Cv c1 hh c2).symm
  ·try simp at c2
   apply aK;apply aZ;apply aE;refine zk [0,1,7,8] ?_;refine zt ⟨[],[],[],[7,14],[]⟩ fun _ _ Z=>?_;simp (disch:=omega)[hσ,hcs];and_intros<;>(try omega);apply Z;refine bT (k + 1) ?_ ?_ (bI rfl ?_ (by simp) (by simp))
   ·exact ⟨by omega, zB (by omega) hh c2⟩
   ·try dsimp only
    omega
   ·simp (disch:=omega)[hσ,hcs]
 ·try simp at c1
  apply bP;apply bN;apply bO;apply bG;apply aE;refine zr ⟨[],[],[],[7,14],[]⟩ fun _ _ Z=>?_;simp (disch:=omega)[hσ,hcs];and_intros<;>(try omega);apply Z;apply aF;simp [aR];rw [List.take_of_length_le (by omega)] at hh; exact (uN hh).symm
theorem yA (l : List PI) (p : PI → Bool) (f : FuncId) (caps : List D) (σ : List (List D)) (hl : l.length ≤ 1000000) (hcp : ∀ d ∈ caps, d.plain = true) (hcs : caps.map D.strip = caps) (hp : ∀ x τ, Ct Try.prog f (bH x :: caps) τ (fun r τ' => r = .bool (p x) ∧ τ' = τ)) : Ct Try.prog 75 [.xs 2 (l.map bH), .clo (.func f) [] caps] σ (fun r σ' => r = .xs 2 ((l.filter fun x => !p x).map bH) ∧ σ' = σ ++ [[]]) := by
 refine zf (rs:=[.tmp 4]) Try.func75 Try.ntmps75 Try.results75 ?_;simp only [aM];refine jA 0 2 rfl (by decide) fun cap rest hcap hcm hrest hk0 hes => ?_;simp only [List.length_map] at hcap hrest ⊢;rw [zX];refine zr ⟨[4,13],[],[],[18,24,33,38,41],[]⟩ fun _ _ Z=>?_;simp (disch:=first|omega|assumption)[hcs,dQ];and_intros<;>try first|omega|exact rfl
 apply Z;refine zr ⟨[4,13],[],[],[18,24,33,38,41],[]⟩ fun _ _ Z=>?_;refine aC 2 fun _ Y=>?_;simp (disch:=first|omega|assumption)[hcs,dQ];and_intros<;>try first|omega|exact rfl
 apply Y;simp only [List.drop];refine aD fun _ Y=>?_;simp (disch:=first|omega|assumption)[hcs,dQ];refine cD (Az l p f caps σ.length cap rest _ (by omega) (by simp) hcp hcs hp) ?_;apply Y;simp (disch:=first|omega|assumption)[hcs,dQ];and_intros<;>try first|omega|exact rfl
 apply Z;apply aH;refine zr ⟨[4,13],[],[],[18,24,33,38,41],[]⟩ fun _ _ Z=>?_;simp (disch:=first|omega|assumption)[hcs,dQ];and_intros<;>try first|omega|exact rfl
 apply Z;refine zi ?_;refine ⟨fun c1=>?_,fun c1=>?_⟩
 ·try simp at c1
  refine zr ⟨[4,13],[],[],[18,24,33,38,41],[]⟩ fun _ _ Z=>?_;simp (disch:=first|omega|assumption)[hcs,dQ];and_intros<;>try first|omega|exact rfl
  apply Z;refine bZ 4 2 σ.length l.length cap (l.map bH) (l.flatMap cP ++ rest) (by simp <;> rfl) (by simp) (by omega) (by simp [hrest, dX (z := #[.string ⟨#[]⟩, .int .i64 0]) (k := 2) rfl]; omega) (by simp) (Qi _) (by rw [zX]; exact List.prefix_append _ _) ?_;simp only [kX];apply aF;apply bD;simp [aR];rcases rS p l with ⟨_, h⟩ | ⟨k, h, _⟩
  ·rw [h]
  ·omega
 ·try simp at c1
  obtain ⟨k0, e0, e1, e2, e3⟩ := yQ c1;rw [e0];apply aK;apply aE;apply aH;refine zr ⟨[4,13],[],[],[18,24,33,38,41],[]⟩ fun _ _ Z=>?_;simp (disch:=first|omega|assumption)[hcs,dQ];and_intros<;>try first|omega|exact rfl
  apply Z;apply aN;refine zk [0,1,4,5,6] ?_;refine fY (fun (j : Nat) => [(5, .d (.v (.int .i64 ((kp p l j).length : Int)))), (6, .d (.v (.int .i64 (j : Int))))]) (fun (j : Nat) => []) (fun (j : Nat) => [(σ.length, (ar p l j).flatMap cP ++ rest)]) [5, 6, 7, 16, 17, 18, 19, 20, 21, 22, 23, 24, 25, 26, 27, 28, 29, 30, 31, 32, 33, 34, 35] (fun (j : Nat) => j ≤ l.length) (fun (j : Nat) => l.length - j) (k0 + 1) (by simp <;> rfl) ?_ (by simp) (by simp [e1]) ?_ ?_
  ·simp [e1, e2]
  ·omega
  rintro j hj;simp only [List.cons_append, List.nil_append, gN, fI, List.set_cons_zero, List.set_cons_succ];have hkl := Cq p l j hj;have hal := Bp p l j;apply aH;refine zr ⟨[4,13],[],[],[18,24,33,38,41],[]⟩ fun _ _ Z=>?_;simp (disch:=first|omega|assumption)[hcs,dQ];and_intros<;>try first|omega|exact rfl
  apply Z;refine zi ?_;refine ⟨fun c2=>?_,fun c2=>?_⟩
  ·try simp at c2
   apply aK;apply aE;apply aH;apply aN;refine zr ⟨[4,13],[],[],[18,24,33,38,41],[]⟩ fun _ _ Z=>?_;simp (disch:=first|omega|assumption)[hcs,dQ];and_intros<;>try first|omega|exact rfl
   apply Z;refine zk [0,1,4,5,6,7] ?_;refine zr ⟨[4,13],[],[],[18,24,33,38,41],[]⟩ fun _ _ Z=>?_;refine aC 2 fun _ Y=>?_;simp (disch:=first|omega|assumption)[hcs,dQ];and_intros<;>try first|omega|exact rfl
   apply Y;simp only [List.drop];refine aD fun _ Y=>?_;simp (disch:=first|omega|assumption)[hcs,dQ];simp only [Qt p l j (by omega)];refine ⟨hcp, ?_⟩;refine cD (hp l[j] _) ?_;apply Y;simp (disch:=first|omega|assumption)[hcs,dQ];and_intros<;>try first|omega|exact rfl
   apply Z;refine zi ?_;refine ⟨fun c3=>?_,fun c3=>?_⟩
   ·try simp at c3
    refine zr ⟨[4,13],[],[],[18,24,33,38,41],[]⟩ fun _ _ Z=>?_;simp (disch:=first|omega|assumption)[hcs,dQ];and_intros<;>try first|omega|exact rfl
    apply Z;refine zk [0,1,4,5,6] ?_;refine zt ⟨[4,13],[],[],[18,24,33,38,41],[]⟩ fun _ _ Z=>?_;simp (disch:=first|omega|assumption)[hcs,dQ];and_intros<;>try first|omega|exact rfl
    apply Z;apply aZ;apply aE;refine zt ⟨[4,13],[],[],[18,24,33,38,41],[]⟩ fun _ _ Z=>?_;simp (disch:=first|omega|assumption)[hcs,dQ];and_intros<;>try first|omega|exact rfl
    apply Z;refine bT (j + 1) ?_ ?_ (bI rfl ?_ (by simp) (by first | (simp [← (uB p l j (by omega) c3).1]; done) | (simp [(uB p l j (by omega) c3).1]; done)))
    ·omega
    ·try dsimp only
     omega
    ·simp (disch:=first|omega|assumption)[hcs,dQ,(uB p l j (by omega) c3).2]
   ·try simp at c3
    apply aK;apply aZ;apply aE;refine zt ⟨[4,13],[],[],[18,24,33,38,41],[]⟩ fun _ _ Z=>?_;simp (disch:=first|omega|assumption)[hcs,dQ];and_intros<;>try first|omega|exact rfl
    apply Z;refine bT (j + 1) ?_ ?_ (bI rfl ?_ (by simp) (by simp [(rX p l j (by omega) c3).1]))
    ·omega
    ·try dsimp only
     omega
    ·simp (disch:=first|omega|assumption)[hcs,dQ,(rX p l j (by omega) c3).2]
  ·try simp at c2
   apply bP;apply bN;apply bO;apply bG;apply aE;refine zr ⟨[4,13],[],[],[18,24,33,38,41],[]⟩ fun _ _ Z=>?_;simp (disch:=first|omega|assumption)[hcs,dQ];and_intros<;>try first|omega|exact rfl
   apply Z;refine zk [0,4,5] ?_;refine zr ⟨[4,13],[],[],[18,24,33,38,41],[]⟩ fun _ _ Z=>?_;simp (disch:=first|omega|assumption)[hcs,dQ];and_intros<;>try first|omega|exact rfl
   apply Z;refine bZ 4 2 σ.length (kp p l j).length cap ((kp p l j).map bH) ((kp p l j).flatMap cP ++ (dE #[.string ⟨#[]⟩, .int .i64 0] (l.length - (kp p l j).length) ++ rest)) (by simp <;> rfl) (by simp) (by omega) (by simp [hrest, dX (z := #[.string ⟨#[]⟩, .int .i64 0]) (k := 2) rfl]; omega) (by simp) (Qi _) (by rw [zX]; exact List.prefix_append _ _) ?_;simp only [kX];apply aF;simp [aR];unfold kp; rw [List.take_of_length_le (by omega)]
theorem zR (l : List PI) (p : PI → Bool) (f : FuncId) (caps : List D) (σ : List (List D)) (hl : l.length ≤ 1000000) (hcp : ∀ d ∈ caps, d.plain = true) (hcs : caps.map D.strip = caps) (hp : ∀ x τ, Ct Try.prog f (bH x :: caps) τ (fun r τ' => r = .bool (p x) ∧ τ' = τ)) :
  Ct Try.prog 75 [.xs 2 (l.map bH), .clo (.func f) [] caps] σ (fun r σ' => r = .xs 2 ((l.filter fun x => !p x).map bH) ∧ σ' = σ) :=
 (yA l p f caps σ hl hcp hcs hp).trim fun r σ' ⟨hr, hs⟩ => ⟨σ, [[]], hs, rfl, by rw [hr]; exact Se _ _, fun n cs h => .inl h, hr, rfl⟩
end Go.Proofs.Ytighdhfgcdjmeaa


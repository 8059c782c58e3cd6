import Derived.Test.YtpfmpeaekgdgnaaGreatWkAr3
namespace Go.Proofs.YtpfmpeaekgdgnaaGreat
open Go Go.Vm
set_option maxRecDepth 20000
set_option linter.all false
set_option maxHeartbeats 8000000
theorem wT (l : List Int) (p : Int → Bool) (f : FuncId) (caps : List D) (m cap : Nat) (rest : List D) (σ : List (List D)) (hl : l.length ≤ 9223372036854775807) (hσ : σ[m]? = some (l.map D.int ++ rest)) (hcp : ∀ d ∈ caps, d.plain = true) (hcs : caps.map D.strip = caps) (hp : ∀ x τ, σ <+: τ → Ct Tryz.prog f (D.int x :: caps) τ (fun r τ' => r = .bool (p x) ∧ τ' = τ)) : Ct Tryz.prog 142 [.slo m 0 l.length cap, .clo (.func f) [] caps] σ (fun r σ' => r = .int (qD p l) ∧ σ' = σ) := by
 refine zf (rs:=[.tmp 4]) Tryz.func142 Tryz.ntmps142 Tryz.results142 ?_;simp only [aQ];refine zr ⟨[],[],[],[7,14],[]⟩ fun _ _ Z=>?_;simp (disch:=omega)[hσ,hcs,aT];and_intros<;>(try omega);apply Z;apply aD;refine zr ⟨[],[],[],[7,14],[]⟩ fun _ _ Z=>?_;simp (disch:=omega)[hσ,hcs,aT];and_intros<;>(try omega);apply Z;apply aK;refine zk [0,1,4,7,8] ?_;refine bR (fun (k : Nat) => [(8, .d (.v (.int .i64 (k : Int))))]) [4, 5, 8, 9, 10, 11, 12, 13, 14, 15, 16, 17, 18] (fun (k : Nat) => k ≤ l.length ∧ ∀ x ∈ l.take k, p x = false) (fun (k : Nat) => l.length - k) (0) (by simp <;> rfl) ?_ ?_ ?_
 ·simp
 ·simp
 rintro k ⟨hk, hh⟩;simp only [List.cons_append, List.nil_append];refine zr ⟨[],[],[],[7,14],[]⟩ fun _ _ Z=>?_;simp (disch:=omega)[hσ,hcs,aT];and_intros<;>(try omega);apply Z;apply aD;refine zi ?_;refine ⟨fun c1=>?_,fun c1=>?_⟩
 ·try simp at c1
  apply aG;apply aB;apply aD;apply aK;refine zr ⟨[],[],[],[7,14],[]⟩ fun _ _ Z=>?_;simp (disch:=omega)[hσ,hcs,aT];and_intros<;>(try omega);apply Z;refine zr ⟨[],[],[],[7,14],[]⟩ fun _ _ Z=>?_;refine aA 5 fun _ Y=>?_;simp (disch:=omega)[hσ,hcs,aT];and_intros<;>(try omega);apply Y;simp only [List.drop];refine aF fun _ Y=>?_;simp (disch:=omega)[hσ,hcs,aT];refine ⟨hcp, ?_⟩;refine cO (hp l[k] _ (List.prefix_refl _)) ?_;apply Y;simp only [dZ];apply Z;refine zi ?_;refine ⟨fun c2=>?_,fun c2=>?_⟩
  ·try simp at c2
   refine zk [0,1,5,7,8] ?_;refine zr ⟨[],[],[],[7,14],[]⟩ fun _ _ Z=>?_;simp (disch:=omega)[hσ,hcs,aT];and_intros<;>(try omega);apply Z;apply aC;apply aU;apply aJ;apply eJ;apply aU;apply aJ;simp [aM];exact (pA c1 hh c2).symm
  ·try simp at c2
   apply aG;apply aP;apply aB;refine zk [0,1,7,8] ?_;refine zt ⟨[],[],[],[7,14],[]⟩ fun _ _ Z=>?_;simp (disch:=omega)[hσ,hcs,aT];and_intros<;>(try omega);apply Z;refine bB (k + 1) ?_ ?_ (aW rfl ?_ (by simp) (by simp))
   ·exact ⟨by omega, jL (by omega) hh c2⟩
   ·try dsimp only
    omega
   ·simp (disch:=omega)[hσ,hcs,aT]
 ·try simp at c1
  apply bN;apply bP;apply bO;apply bG;apply aB;refine zr ⟨[],[],[],[7,14],[]⟩ fun _ _ Z=>?_;simp (disch:=omega)[hσ,hcs,aT];and_intros<;>(try omega);apply Z;apply aC;simp [aM];rw [List.take_of_length_le (by omega)] at hh; exact (kK hh).symm
theorem vY (f : FuncId) (caps : List D) (σ : List (List D)) (hcp : ∀ d ∈ caps, d.plain = true) : Ct Tryz.prog 142 [.xl 0, .clo (.func f) [] caps] σ (fun r σ' => r = .int (-1) ∧ σ' = σ) := by
 refine zf (rs:=[.tmp 4]) Tryz.func142 Tryz.ntmps142 Tryz.results142 ?_;simp only [aQ];refine zr ⟨[],[],[],[7],[]⟩ fun _ _ Z=>?_;simp;and_intros<;>(try omega);apply Z;apply aD;refine zr ⟨[],[],[],[7],[]⟩ fun _ _ Z=>?_;simp;and_intros<;>(try omega);apply Z;apply aK;refine zk [0,1,4,7,8] ?_;refine bR (fun (k : Nat) => [(8, .d (.int 0))]) [4, 5, 8, 9, 10, 11, 12, 13, 14, 15, 16, 17, 18] (fun (k : Nat) => k = 0) (fun (k : Nat) => 0) (0) (by simp <;> rfl) ?_ ?_ ?_
 ·simp
 ·rfl
 rintro k hk;simp only [List.cons_append, List.nil_append];refine zr ⟨[],[],[],[7],[]⟩ fun _ _ Z=>?_;simp;and_intros<;>(try omega);apply Z;apply aD;refine zi ?_;refine ⟨fun c1=>?_,fun c1=>?_⟩
 ·simp at c1
 ·try simp at c1
  apply bN;apply bP;apply bO;apply bG;apply aB;refine zr ⟨[],[],[],[7],[]⟩ fun _ _ Z=>?_;simp;and_intros<;>(try omega);apply Z;apply aC;simp [aM]
theorem Bz (p : Int → Bool) (l k : List Int) (rest : List D) : List.take k.length ((k ++ l).map D.int ++ rest) = k.map D.int := by
 rw [List.map_append, List.append_assoc, List.take_append_of_le_length (by simp)];rw [List.take_of_length_le (by simp)]
theorem uT (l : List Int) (p : Int → Bool) (f : FuncId) (caps : List D) (σ : List (List D)) (hl : l.length ≤ 1000000) (hne : l ≠ []) (hcp : ∀ d ∈ caps, d.plain = true) (hcs : caps.map D.strip = caps) (hp : ∀ x τ, σ <+: τ → Ct Tryz.prog f (D.int x :: caps) τ (fun r τ' => r = .bool (p x) ∧ τ' = τ)) : Ct Tryz.prog 121 [.xs 1 (l.map D.int), .clo (.func f) [] caps] σ (fun r σ' => r = .xs 1 ((l.filter fun x => !p x).map D.int) ∧ σ' = σ ++ [[]]) := by
 refine zf (rs:=[.tmp 4]) Tryz.func121 Tryz.ntmps121 Tryz.results121 ?_;simp only [aQ];refine jG 0 1 rfl (by decide) fun cap rest hcap hcm hrest hk0 hes => ?_;simp only [List.length_map] at hcap hrest ⊢;rw [dQ (f := D.int) (fun _ => rfl)];refine zr ⟨[4,13],[],[],[18,24,33,38,41],[]⟩ fun _ _ Z=>?_;simp (disch:=first|omega|assumption)[hcs,aT,cK];and_intros<;>try first|omega|exact rfl
 apply Z;refine zr ⟨[4,13],[],[],[18,24,33,38,41],[]⟩ fun _ _ Z=>?_;refine aA 2 fun _ Y=>?_;simp (disch:=first|omega|assumption)[hcs,aT,cK];and_intros<;>try first|omega|exact rfl
 apply Y;simp only [List.drop];refine aF fun _ Y=>?_;simp (disch:=first|omega|assumption)[hcs,aT,cK];refine cO (wT l p f caps σ.length cap rest _ (by omega) (by simp) hcp hcs fun x τ h => hp x τ (List.IsPrefix.trans (List.prefix_append _ _) h)) ?_;apply Y;simp (disch:=first|omega|assumption)[hcs,aT,cK];and_intros<;>try first|omega|exact rfl
 apply Z;apply aD;refine zr ⟨[4,13],[],[],[18,24,33,38,41],[]⟩ fun _ _ Z=>?_;simp (disch:=first|omega|assumption)[hcs,aT,cK];and_intros<;>try first|omega|exact rfl
 apply Z;refine zi ?_;refine ⟨fun c1=>?_,fun c1=>?_⟩
 ·try simp at c1
  refine zr ⟨[4,13],[],[],[18,24,33,38,41],[]⟩ fun _ _ Z=>?_;simp (disch:=first|omega|assumption)[hcs,aT,cK];and_intros<;>try first|omega|exact rfl
  apply Z;refine dE 4 1 σ.length l.length cap (l.map D.int) (l.map D.int ++ rest) (by simp <;> rfl) (by simp) (by omega) (by simp [hrest]; omega) (by simp) (by simp) (by rw [dQ (fun _ => rfl)]; exact List.prefix_append _ _) ?_;simp only [iS];apply aC;apply aJ;simp [aM];rcases mJ p l with ⟨_, h⟩ | ⟨k, h, _⟩
  ·rw [h]
  ·omega
 ·try simp at c1
  obtain ⟨k0, e0, e1, e2, e3⟩ := rV c1;rw [e0];apply aG;apply aB;apply aD;refine zr ⟨[4,13],[],[],[18,24,33,38,41],[]⟩ fun _ _ Z=>?_;simp (disch:=first|omega|assumption)[hcs,aT,cK];and_intros<;>try first|omega|exact rfl
  apply Z;apply aK;refine zk [0,1,4,5,6] ?_;refine lW (fun (j : Nat) => [(5, .d (.v (.int .i64 ((kp p l j).length : Int)))), (6, .d (.v (.int .i64 (j : Int))))]) (fun (j : Nat) => []) (fun (j : Nat) => [(σ.length, (ar p l j).map D.int ++ rest)]) [5, 6, 7, 16, 17, 18, 19, 20, 21, 22, 23, 24, 25, 26, 27, 28, 29, 30, 31, 32, 33, 34, 35] (fun (j : Nat) => j ≤ l.length) (fun (j : Nat) => l.length - j) (k0 + 1) (by simp <;> rfl) ?_ (by simp) (by simp [e1]) ?_ ?_
  ·simp [e1, e2]
  ·omega
  rintro j hj;simp only [List.cons_append, List.nil_append, mC, kH, List.set_cons_zero, List.set_cons_succ];have hkl := zY p l j hj;have hal := wG p l j;apply aD;refine zr ⟨[4,13],[],[],[18,24,33,38,41],[]⟩ fun _ _ Z=>?_;simp (disch:=first|omega|assumption)[hcs,aT,cK];and_intros<;>try first|omega|exact rfl
  apply Z;refine zi ?_;refine ⟨fun c2=>?_,fun c2=>?_⟩
  ·try simp at c2
   apply aG;apply aB;apply aD;apply aK;refine zr ⟨[4,13],[],[],[18,24,33,38,41],[]⟩ fun _ _ Z=>?_;simp (disch:=first|omega|assumption)[hcs,aT,cK];and_intros<;>try first|omega|exact rfl
   apply Z;refine zk [0,1,4,5,6,7] ?_;refine zr ⟨[4,13],[],[],[18,24,33,38,41],[]⟩ fun _ _ Z=>?_;refine aA 2 fun _ Y=>?_;simp (disch:=first|omega|assumption)[hcs,aT,cK];and_intros<;>try first|omega|exact rfl
   apply Y;simp only [List.drop];refine aF fun _ Y=>?_;simp (disch:=first|omega|assumption)[hcs,aT,cK];simp only [Kc p l j (by omega)];refine ⟨hcp, ?_⟩;refine cO (hp l[j] _ (List.prefix_append _ _)) ?_;apply Y;simp (disch:=first|omega|assumption)[hcs,aT,cK];and_intros<;>try first|omega|exact rfl
   apply Z;refine zi ?_;refine ⟨fun c3=>?_,fun c3=>?_⟩
   ·try simp at c3
    refine zr ⟨[4,13],[],[],[18,24,33,38,41],[]⟩ fun _ _ Z=>?_;simp (disch:=first|omega|assumption)[hcs,aT,cK];and_intros<;>try first|omega|exact rfl
    apply Z;refine zk [0,1,4,5,6] ?_;refine zt ⟨[4,13],[],[],[18,24,33,38,41],[]⟩ fun _ _ Z=>?_;simp (disch:=first|omega|assumption)[hcs,aT,cK];and_intros<;>try first|omega|exact rfl
    apply Z;apply aP;apply aB;refine zt ⟨[4,13],[],[],[18,24,33,38,41],[]⟩ fun _ _ Z=>?_;simp (disch:=first|omega|assumption)[hcs,aT,cK];and_intros<;>try first|omega|exact rfl
    apply Z;refine bB (j + 1) ?_ ?_ (aW rfl ?_ (by simp) (by rw [← (pP p l j (by omega) c3).1]; simp (disch := omega) [Dt, hal]))
    ·omega
    ·try dsimp only
     omega
    ·simp (disch:=first|omega|assumption)[hcs,aT,cK,(pP p l j (by omega) c3).2]
   ·try simp at c3
    apply aG;apply aP;apply aB;refine zt ⟨[4,13],[],[],[18,24,33,38,41],[]⟩ fun _ _ Z=>?_;simp (disch:=first|omega|assumption)[hcs,aT,cK];and_intros<;>try first|omega|exact rfl
    apply Z;refine bB (j + 1) ?_ ?_ (aW rfl ?_ (by simp) (by simp [(mD p l j (by omega) c3).1]))
    ·omega
    ·try dsimp only
     omega
    ·simp (disch:=first|omega|assumption)[hcs,aT,cK,(mD p l j (by omega) c3).2]
  ·try simp at c2
   apply bN;apply bP;apply bO;apply bG;apply aB;refine zr ⟨[4,13],[],[],[18,24,33,38,41],[]⟩ fun _ _ Z=>?_;simp (disch:=first|omega|assumption)[hcs,aT,cK];and_intros<;>try first|omega|exact rfl
   apply Z;refine zk [0,4,5] ?_;refine zr ⟨[4,13],[],[],[18,24,33,38,41],[]⟩ fun _ _ Z=>?_;simp (disch:=first|omega|assumption)[hcs,aT,cK];and_intros<;>try first|omega|exact rfl
   apply Z;refine dE 4 1 σ.length (kp p l j).length cap ((kp p l j).map D.int) ((kp p l j).map D.int ++ (eN #[.int .i64 0] (l.length - (kp p l j).length) ++ rest)) (by simp <;> rfl) (by rw [show List.map D.int (kp p l j) = List.take (kp p l j).length (List.map D.int (ar p l j) ++ rest) from (Bz p _ _ rest).symm]; simp [eF (z := #[.int .i64 0]) (k := 1) rfl, show (kp p l j).length + (l.length - (kp p l j).length) = l.length by omega, Du D.int (ar p l j) rest l.length hal.symm]) (by omega) (by simp [hrest, eF (z := #[.int .i64 0]) (k := 1) rfl]; omega) (by simp) (by simp) (by rw [dQ (fun _ => rfl)]; exact List.prefix_append _ _) ?_;simp only [iS];apply aC;simp [aM];unfold kp; rw [List.take_of_length_le (by omega)]
theorem uN (f : FuncId) (caps : List D) (σ : List (List D)) (hcp : ∀ d ∈ caps, d.plain = true) : Ct Tryz.prog 121 [.xs 1 [], .clo (.func f) [] caps] σ (fun r σ' => r = .xs 1 [] ∧ σ' = σ) := by
 refine zf (rs:=[.tmp 4]) Tryz.func121 Tryz.ntmps121 Tryz.results121 ?_;simp only [aQ];refine zr ⟨[4,13],[],[],[],[]⟩ fun _ _ Z=>?_;simp;and_intros<;>(try omega);apply Z;refine zr ⟨[4,13],[],[],[],[]⟩ fun _ _ Z=>?_;refine aA 2 fun _ Y=>?_;simp;and_intros<;>(try omega);apply Y;simp only [List.drop];refine aF fun _ Y=>?_;simp;refine cO (vY f caps _ hcp) ?_;apply Y;simp;and_intros<;>(try omega);apply Z;apply aD;refine zr ⟨[4,13],[],[],[],[]⟩ fun _ _ Z=>?_;simp;and_intros<;>(try omega);apply Z;refine zi ?_;refine ⟨fun c1=>?_,fun c1=>?_⟩
 ·try simp at c1
  refine zr ⟨[4,13],[],[],[],[]⟩ fun _ _ Z=>?_;simp;and_intros<;>(try omega);apply Z;apply aC;apply aJ;simp[aM]
 ·simp at c1
theorem Hm (l : List Int) (p : Int → Bool) (f : FuncId) (caps : List D) (σ : List (List D)) (hl : l.length ≤ 1000000) (hcp : ∀ d ∈ caps, d.plain = true) (hcs : caps.map D.strip = caps) (hp : ∀ x τ, σ <+: τ → Ct Tryz.prog f (D.int x :: caps) τ (fun r τ' => r = .bool (p x) ∧ τ' = τ)) :
  Ct Tryz.prog 121 [.xs 1 (l.map D.int), .clo (.func f) [] caps] σ (fun r σ' => r = .xs 1 ((l.filter fun x => !p x).map D.int) ∧ σ' = σ) := by
 by_cases hne : l = []
 ·subst hne; exact uN f caps σ hcp
 ·exact (uT l p f caps σ hl hne hcp hcs hp).trim fun r σ' ⟨hr, hs⟩ => ⟨σ, [[]], hs, rfl, by rw [hr]; exact Qj _ _, fun n cs h => .inl h, hr, rfl⟩
attribute [simp] cA
theorem Iw (l : List AT) : (l.map cZ).flatMap D.cells = l.flatMap cA := bZ (fun _ => rfl) l
theorem aAq (l : List AT) : ∀ d ∈ l.map cZ, d.ncells = 2 ∧ d.arr = true := by
 intro d hd;obtain ⟨a, _, rfl⟩ := List.mem_map.1 hd;exact ⟨rfl, rfl⟩
@[simp high] theorem aGv (l : List AT) : (l.flatMap cA).length = l.length * 2 := cB (f := cA) (fun _ => rfl) l
@[simp high] theorem aIi (l : List AT) (rest : List D) (i : Nat) (h : i < l.length) : oM true 2 ((l.flatMap cA ++ rest).drop (i * 2)) = some (.agg (cA l[i])) := Kn (f := cA) (fun _ => rfl) l rest i h
@[simp high] theorem aLj (l : List AT) (rest : List D) (i : Nat) (x : AT) (h : i < l.length) : cN (l.flatMap cA ++ rest) (i * 2) [D.str x.name, D.str x.value] = (l.set i x).flatMap cA ++ rest := uE (f := cA) (fun _ => rfl) l rest i x h
theorem fL (p : AT → Bool) (l : List AT) (j : Nat) (rest : List D) : cN ((ar p l j).flatMap cA ++ rest) ((kp p l j).length * 2) (eN #[.string ⟨#[]⟩, .string ⟨#[]⟩] (l.length - (kp p l j).length)) = (kp p l j).flatMap cA ++ (eN #[.string ⟨#[]⟩, .string ⟨#[]⟩] (l.length - (kp p l j).length) ++ rest) := by
 have hz : (eN #[.string ⟨#[]⟩, .string ⟨#[]⟩] (l.length - (kp p l j).length)).length = ((l.drop (kp p l j).length).flatMap cA).length := by
  rw [cB (f := cA) (k := 2) (fun _ => rfl), eF (k := 2) rfl, List.length_drop]
 have hk : ((kp p l j).flatMap cA).length = (kp p l j).length * 2 := cB (f := cA) (fun _ => rfl) _;unfold ar;rw [List.flatMap_append, List.append_assoc, ← hk, iG _ _ _ _ hz]
theorem Hu (l : List AT) (p : AT → Bool) (f : FuncId) (caps : List D) (m cap : Nat) (rest : List D) (σ : List (List D)) (hl : l.length ≤ 9223372036854775807) (hσ : σ[m]? = some (l.flatMap cA ++ rest)) (hcp : ∀ d ∈ caps, d.plain = true) (hcs : caps.map D.strip = caps) (hp : ∀ x τ, Ct Tryz.prog f (cZ x :: caps) τ (fun r τ' => r = .bool (p x) ∧ τ' = τ)) : Ct Tryz.prog 168 [.slo m 0 l.length cap, .clo (.func f) [] caps] σ (fun r σ' => r = .int (qD p l) ∧ σ' = σ) := by
 refine zf (rs:=[.tmp 4]) Tryz.func168 Tryz.ntmps168 Tryz.results168 ?_;simp only [aQ];refine zr ⟨[],[],[],[7,14],[]⟩ fun _ _ Z=>?_;simp (disch:=omega)[hσ,hcs];and_intros<;>(try omega);apply Z;apply aD;refine zr ⟨[],[],[],[7,14],[]⟩ fun _ _ Z=>?_;simp (disch:=omega)[hσ,hcs];and_intros<;>(try omega);apply Z;apply aK;refine zk [0,1,4,7,8] ?_;refine bR (fun (k : Nat) => [(8, .d (.v (.int .i64 (k : Int))))]) [4, 5, 8, 9, 10, 11, 12, 13, 14, 15, 16, 17, 18] (fun (k : Nat) => k ≤ l.length ∧ ∀ x ∈ l.take k, p x = false) (fun (k : Nat) => l.length - k) (0) (by simp <;> rfl) ?_ ?_ ?_
 ·simp
 ·simp
 rintro k ⟨hk, hh⟩;simp only [List.cons_append, List.nil_append];refine zr ⟨[],[],[],[7,14],[]⟩ fun _ _ Z=>?_;simp (disch:=omega)[hσ,hcs];and_intros<;>(try omega);apply Z;apply aD;refine zi ?_;refine ⟨fun c1=>?_,fun c1=>?_⟩
 ·try simp at c1
  apply aG;apply aB;apply aD;apply aK;refine zr ⟨[],[],[],[7,14],[]⟩ fun _ _ Z=>?_;simp (disch:=omega)[hσ,hcs];and_intros<;>(try omega);apply Z;refine zr ⟨[],[],[],[7,14],[]⟩ fun _ _ Z=>?_;refine aA 5 fun _ Y=>?_;simp (disch:=omega)[hσ,hcs];and_intros<;>(try omega);apply Y;simp only [List.drop];refine aF fun _ Y=>?_;simp (disch:=omega)[hσ,hcs];refine ⟨hcp, ?_⟩;refine cO (hp l[k] _) ?_;apply Y;simp only [dZ];apply Z;refine zi ?_;refine ⟨fun c2=>?_,fun c2=>?_⟩
  ·try simp at c2
   refine zk [0,1,5,7,8] ?_;refine zr ⟨[],[],[],[7,14],[]⟩ fun _ _ Z=>?_;simp (disch:=omega)[hσ,hcs];and_intros<;>(try omega);apply Z;apply aC;apply aU;apply aJ;apply eJ;apply aU;apply aJ;simp [aM];exact (pA c1 hh c2).symm
  ·try simp at c2
   apply aG;apply aP;apply aB;refine zk [0,1,7,8] ?_;refine zt ⟨[],[],[],[7,14],[]⟩ fun _ _ Z=>?_;simp (disch:=omega)[hσ,hcs];and_intros<;>(try omega);apply Z;refine bB (k + 1) ?_ ?_ (aW rfl ?_ (by simp) (by simp))
   ·exact ⟨by omega, jL (by omega) hh c2⟩
   ·try dsimp only
    omega
   ·simp (disch:=omega)[hσ,hcs]
 ·try simp at c1
  apply bN;apply bP;apply bO;apply bG;apply aB;refine zr ⟨[],[],[],[7,14],[]⟩ fun _ _ Z=>?_;simp (disch:=omega)[hσ,hcs];and_intros<;>(try omega);apply Z;apply aC;simp [aM];rw [List.take_of_length_le (by omega)] at hh; exact (kK hh).symm
theorem Ez (l : List AT) (p : AT → Bool) (f : FuncId) (caps : List D) (σ : List (List D)) (hl : l.length ≤ 1000000) (hcp : ∀ d ∈ caps, d.plain = true) (hcs : caps.map D.strip = caps) (hp : ∀ x τ, Ct Tryz.prog f (cZ x :: caps) τ (fun r τ' => r = .bool (p x) ∧ τ' = τ)) : Ct Tryz.prog 161 [.xs 2 (l.map cZ), .clo (.func f) [] caps] σ (fun r σ' => r = .xs 2 ((l.filter fun x => !p x).map cZ) ∧ σ' = σ ++ [[]]) := by
 refine zf (rs:=[.tmp 4]) Tryz.func161 Tryz.ntmps161 Tryz.results161 ?_;simp only [aQ];refine jG 0 2 rfl (by decide) fun cap rest hcap hcm hrest hk0 hes => ?_;simp only [List.length_map] at hcap hrest ⊢;rw [Iw];refine zr ⟨[4,13],[],[],[18,24,33,38,41],[]⟩ fun _ _ Z=>?_;simp (disch:=first|omega|assumption)[hcs,fL];and_intros<;>try first|omega|exact rfl
 apply Z;refine zr ⟨[4,13],[],[],[18,24,33,38,41],[]⟩ fun _ _ Z=>?_;refine aA 2 fun _ Y=>?_;simp (disch:=first|omega|assumption)[hcs,fL];and_intros<;>try first|omega|exact rfl
 apply Y;simp only [List.drop];refine aF fun _ Y=>?_;simp (disch:=first|omega|assumption)[hcs,fL];refine cO (Hu l p f caps σ.length cap rest _ (by omega) (by simp) hcp hcs hp) ?_;apply Y;simp (disch:=first|omega|assumption)[hcs,fL];and_intros<;>try first|omega|exact rfl
 apply Z;apply aD;refine zr ⟨[4,13],[],[],[18,24,33,38,41],[]⟩ fun _ _ Z=>?_;simp (disch:=first|omega|assumption)[hcs,fL];and_intros<;>try first|omega|exact rfl
 apply Z;refine zi ?_;refine ⟨fun c1=>?_,fun c1=>?_⟩
 ·try simp at c1
  refine zr ⟨[4,13],[],[],[18,24,33,38,41],[]⟩ fun _ _ Z=>?_;simp (disch:=first|omega|assumption)[hcs,fL];and_intros<;>try first|omega|exact rfl
  apply Z;refine dE 4 2 σ.length l.length cap (l.map cZ) (l.flatMap cA ++ rest) (by simp <;> rfl) (by simp) (by omega) (by simp [hrest, eF (z := #[.string ⟨#[]⟩, .string ⟨#[]⟩]) (k := 2) rfl]; omega) (by simp) (aAq _) (by rw [Iw]; exact List.prefix_append _ _) ?_;simp only [iS];apply aC;apply aJ;simp [aM];rcases mJ p l with ⟨_, h⟩ | ⟨k, h, _⟩
  ·rw [h]
  ·omega
 ·try simp at c1
  obtain ⟨k0, e0, e1, e2, e3⟩ := rV c1;rw [e0];apply aG;apply aB;apply aD;refine zr ⟨[4,13],[],[],[18,24,33,38,41],[]⟩ fun _ _ Z=>?_;simp (disch:=first|omega|assumption)[hcs,fL];and_intros<;>try first|omega|exact rfl
  apply Z;apply aK;refine zk [0,1,4,5,6] ?_;refine lW (fun (j : Nat) => [(5, .d (.v (.int .i64 ((kp p l j).length : Int)))), (6, .d (.v (.int .i64 (j : Int))))]) (fun (j : Nat) => []) (fun (j : Nat) => [(σ.length, (ar p l j).flatMap cA ++ rest)]) [5, 6, 7, 16, 17, 18, 19, 20, 21, 22, 23, 24, 25, 26, 27, 28, 29, 30, 31, 32, 33, 34, 35] (fun (j : Nat) => j ≤ l.length) (fun (j : Nat) => l.length - j) (k0 + 1) (by simp <;> rfl) ?_ (by simp) (by simp [e1]) ?_ ?_
  ·simp [e1, e2]
  ·omega
  rintro j hj;simp only [List.cons_append, List.nil_append, mC, kH, List.set_cons_zero, List.set_cons_succ];have hkl := zY p l j hj;have hal := wG p l j;apply aD;refine zr ⟨[4,13],[],[],[18,24,33,38,41],[]⟩ fun _ _ Z=>?_;simp (disch:=first|omega|assumption)[hcs,fL];and_intros<;>try first|omega|exact rfl
  apply Z;refine zi ?_;refine ⟨fun c2=>?_,fun c2=>?_⟩
  ·try simp at c2
   apply aG;apply aB;apply aD;apply aK;refine zr ⟨[4,13],[],[],[18,24,33,38,41],[]⟩ fun _ _ Z=>?_;simp (disch:=first|omega|assumption)[hcs,fL];and_intros<;>try first|omega|exact rfl
   apply Z;refine zk [0,1,4,5,6,7] ?_;refine zr ⟨[4,13],[],[],[18,24,33,38,41],[]⟩ fun _ _ Z=>?_;refine aA 2 fun _ Y=>?_;simp (disch:=first|omega|assumption)[hcs,fL];and_intros<;>try first|omega|exact rfl
   apply Y;simp only [List.drop];refine aF fun _ Y=>?_;simp (disch:=first|omega|assumption)[hcs,fL];simp only [Kc p l j (by omega)];refine ⟨hcp, ?_⟩;refine cO (hp l[j] _) ?_;apply Y;simp (disch:=first|omega|assumption)[hcs,fL];and_intros<;>try first|omega|exact rfl
   apply Z;refine zi ?_;refine ⟨fun c3=>?_,fun c3=>?_⟩
   ·try simp at c3
    refine zr ⟨[4,13],[],[],[18,24,33,38,41],[]⟩ fun _ _ Z=>?_;simp (disch:=first|omega|assumption)[hcs,fL];and_intros<;>try first|omega|exact rfl
    apply Z;refine zk [0,1,4,5,6] ?_;refine zt ⟨[4,13],[],[],[18,24,33,38,41],[]⟩ fun _ _ Z=>?_;simp (disch:=first|omega|assumption)[hcs,fL];and_intros<;>try first|omega|exact rfl
    apply Z;apply aP;apply aB;refine zt ⟨[4,13],[],[],[18,24,33,38,41],[]⟩ fun _ _ Z=>?_;simp (disch:=first|omega|assumption)[hcs,fL];and_intros<;>try first|omega|exact rfl
    apply Z;refine bB (j + 1) ?_ ?_ (aW rfl ?_ (by simp) (by first | (simp [← (pP p l j (by omega) c3).1]; done) | (simp [(pP p l j (by omega) c3).1]; done)))
    ·omega
    ·try dsimp only
     omega
    ·simp (disch:=first|omega|assumption)[hcs,fL,(pP p l j (by omega) c3).2]
   ·try simp at c3
    apply aG;apply aP;apply aB;refine zt ⟨[4,13],[],[],[18,24,33,38,41],[]⟩ fun _ _ Z=>?_;simp (disch:=first|omega|assumption)[hcs,fL];and_intros<;>try first|omega|exact rfl
    apply Z;refine bB (j + 1) ?_ ?_ (aW rfl ?_ (by simp) (by simp [(mD p l j (by omega) c3).1]))
    ·omega
    ·try dsimp only
     omega
    ·simp (disch:=first|omega|assumption)[hcs,fL,(mD p l j (by omega) c3).2]
  ·try simp at c2
   apply bN;apply bP;apply bO;apply bG;apply aB;refine zr ⟨[4,13],[],[],[18,24,33,38,41],[]⟩ fun _ _ Z=>?_;simp (disch:=first|omega|assumption)[hcs,fL];and_intros<;>try first|omega|exact rfl
   apply Z;refine zk [0,4,5] ?_;refine zr ⟨[4,13],[],[],[18,24,33,38,41],[]⟩ fun _ _ Z=>?_;simp (disch:=first|omega|assumption)[hcs,fL];and_intros<;>try first|omega|exact rfl
   apply Z;refine dE 4 2 σ.length (kp p l j).length cap ((kp p l j).map cZ) ((kp p l j).flatMap cA ++ (eN #[.string ⟨#[]⟩, .string ⟨#[]⟩] (l.length - (kp p l j).length) ++ rest)) (by simp <;> rfl) (by simp) (by omega) (by simp [hrest, eF (z := #[.string ⟨#[]⟩, .string ⟨#[]⟩]) (k := 2) rfl]; omega) (by simp) (aAq _) (by rw [Iw]; exact List.prefix_append _ _) ?_;simp only [iS];apply aC;simp [aM];unfold kp; rw [List.take_of_length_le (by omega)]
theorem Ht (l : List AT) (p : AT → Bool) (f : FuncId) (caps : List D) (σ : List (List D)) (hl : l.length ≤ 1000000) (hcp : ∀ d ∈ caps, d.plain = true) (hcs : caps.map D.strip = caps) (hp : ∀ x τ, Ct Tryz.prog f (cZ x :: caps) τ (fun r τ' => r = .bool (p x) ∧ τ' = τ)) :
  Ct Tryz.prog 161 [.xs 2 (l.map cZ), .clo (.func f) [] caps] σ (fun r σ' => r = .xs 2 ((l.filter fun x => !p x).map cZ) ∧ σ' = σ) :=
 (Ez l p f caps σ hl hcp hcs hp).trim fun r σ' ⟨hr, hs⟩ => ⟨σ, [[]], hs, rfl, by rw [hr]; exact aB4 _ _, fun n cs h => .inl h, hr, rfl⟩
theorem yU (l : List AT) (σ : List (List D)) (hl : l.length ≤ 1000000) : Ct Tryz.prog 108 [.sl false (l.map cZ)] σ (fun r σ' => r = .sl true (l.map cZ) ∧ σ' = σ) := by
 refine zf (rs:=[.tmp 2]) Tryz.func108 Tryz.ntmps108 Tryz.results108 ?_;simp only [aQ];refine zr ⟨[2],[],[],[],[]⟩ fun _ _ Z=>?_;simp;and_intros<;>(try omega);apply Z;apply aD;refine zr ⟨[2],[],[],[],[]⟩ fun _ _ Z=>?_;refine aA 1 fun _ Y=>?_;simp;and_intros<;>(try omega);apply Y;simp only [List.drop];refine aF fun _ Y=>?_;simp;refine ⟨Y _ ?_, fun e1 => Y _ ?_⟩
 ·skip
  simp only [dZ];apply Z;refine bT (t := false) (by simp) (fun h => by cases h) (fun _ => ?_);apply aG;apply aB;refine zr ⟨[2],[],[],[],[]⟩ fun _ _ Z=>?_;simp;and_intros<;>(try omega);apply Z;apply aC;simp [aM]
 ·skip
  simp only [dZ];apply Z;refine bT (t := true) (by simp) (fun _ => ?_) (fun h => by cases h);refine zr ⟨[2],[],[],[],[]⟩ fun _ _ Z=>?_;simp;and_intros<;>(try omega);apply Z;apply aC;apply aJ;simp [aM, e1]
attribute [simp] cP
theorem Gt (l : List PI) : (l.map cQ).flatMap D.cells = l.flatMap cP := bZ (fun _ => rfl) l
theorem aAr (l : List PI) : ∀ d ∈ l.map cQ, d.ncells = 2 ∧ d.arr = true := by
 intro d hd;obtain ⟨a, _, rfl⟩ := List.mem_map.1 hd;exact ⟨rfl, rfl⟩
@[simp high] theorem aHl (l : List PI) : (l.flatMap cP).length = l.length * 2 := cB (f := cP) (fun _ => rfl) l
@[simp high] theorem aJl (l : List PI) (rest : List D) (i : Nat) (h : i < l.length) : oM true 2 ((l.flatMap cP ++ rest).drop (i * 2)) = some (.agg (cP l[i])) := Kn (f := cP) (fun _ => rfl) l rest i h
@[simp high] theorem aKu (l : List PI) (rest : List D) (i : Nat) (x : PI) (h : i < l.length) : cN (l.flatMap cP ++ rest) (i * 2) [D.str x.name, D.int x.value] = (l.set i x).flatMap cP ++ rest := uE (f := cP) (fun _ => rfl) l rest i x h
theorem fJ (p : PI → Bool) (l : List PI) (j : Nat) (rest : List D) : cN ((ar p l j).flatMap cP ++ rest) ((kp p l j).length * 2) (eN #[.string ⟨#[]⟩, .int .i64 0] (l.length - (kp p l j).length)) = (kp p l j).flatMap cP ++ (eN #[.string ⟨#[]⟩, .int .i64 0] (l.length - (kp p l j).length) ++ rest) := by
 have hz : (eN #[.string ⟨#[]⟩, .int .i64 0] (l.length - (kp p l j).length)).length = ((l.drop (kp p l j).length).flatMap cP).length := by
  rw [cB (f := cP) (k := 2) (fun _ => rfl), eF (k := 2) rfl, List.length_drop]
 have hk : ((kp p l j).flatMap cP).length = (kp p l j).length * 2 := cB (f := cP) (fun _ => rfl) _;unfold ar;rw [List.flatMap_append, List.append_assoc, ← hk, iG _ _ _ _ hz]
theorem Il (l : List PI) (p : PI → Bool) (f : FuncId) (caps : List D) (m cap : Nat) (rest : List D) (σ : List (List D)) (hl : l.length ≤ 9223372036854775807) (hσ : σ[m]? = some (l.flatMap cP ++ rest)) (hcp : ∀ d ∈ caps, d.plain = true) (hcs : caps.map D.strip = caps) (hp : ∀ x τ, Ct Tryz.prog f (cQ x :: caps) τ (fun r τ' => r = .bool (p x) ∧ τ' = τ)) : Ct Tryz.prog 169 [.slo m 0 l.length cap, .clo (.func f) [] caps] σ (fun r σ' => r = .int (qD p l) ∧ σ' = σ) := by
 refine zf (rs:=[.tmp 4]) Tryz.func169 Tryz.ntmps169 Tryz.results169 ?_;simp only [aQ];refine zr ⟨[],[],[],[7,14],[]⟩ fun _ _ Z=>?_;simp (disch:=omega)[hσ,hcs];and_intros<;>(try omega);apply Z;apply aD;refine zr ⟨[],[],[],[7,14],[]⟩ fun _ _ Z=>?_;simp (disch:=omega)[hσ,hcs];and_intros<;>(try omega);apply Z;apply aK;refine zk [0,1,4,7,8] ?_;refine bR (fun (k : Nat) => [(8, .d (.v (.int .i64 (k : Int))))]) [4, 5, 8, 9, 10, 11, 12, 13, 14, 15, 16, 17, 18] (fun (k : Nat) => k ≤ l.length ∧ ∀ x ∈ l.take k, p x = false) (fun (k : Nat) => l.length - k) (0) (by simp <;> rfl) ?_ ?_ ?_
 ·simp
 ·simp
 rintro k ⟨hk, hh⟩;simp only [List.cons_append, List.nil_append];refine zr ⟨[],[],[],[7,14],[]⟩ fun _ _ Z=>?_;simp (disch:=omega)[hσ,hcs];and_intros<;>(try omega);apply Z;apply aD;refine zi ?_;refine ⟨fun c1=>?_,fun c1=>?_⟩
 ·try simp at c1
  apply aG;apply aB;apply aD;apply aK;refine zr ⟨[],[],[],[7,14],[]⟩ fun _ _ Z=>?_;simp (disch:=omega)[hσ,hcs];and_intros<;>(try omega);apply Z;refine zr ⟨[],[],[],[7,14],[]⟩ fun _ _ Z=>?_;refine aA 5 fun _ Y=>?_;simp (disch:=omega)[hσ,hcs];and_intros<;>(try omega);apply Y;simp only [List.drop];refine aF fun _ Y=>?_;simp (disch:=omega)[hσ,hcs];refine ⟨hcp, ?_⟩;refine cO (hp l[k] _) ?_;apply Y;simp only [dZ];apply Z;refine zi ?_;refine ⟨fun c2=>?_,fun c2=>?_⟩
  ·try simp at c2
   refine zk [0,1,5,7,8] ?_;refine zr ⟨[],[],[],[7,14],[]⟩ fun _ _ Z=>?_;simp (disch:=omega)[hσ,hcs];and_intros<;>(try omega);apply Z;apply aC;apply aU;apply aJ;apply eJ;apply aU;apply aJ;simp [aM];exact (pA c1 hh c2).symm
  ·try simp at c2
   apply aG;apply aP;apply aB;refine zk [0,1,7,8] ?_;refine zt ⟨[],[],[],[7,14],[]⟩ fun _ _ Z=>?_;simp (disch:=omega)[hσ,hcs];and_intros<;>(try omega);apply Z;refine bB (k + 1) ?_ ?_ (aW rfl ?_ (by simp) (by simp))
   ·exact ⟨by omega, jL (by omega) hh c2⟩
   ·try dsimp only
    omega
   ·simp (disch:=omega)[hσ,hcs]
 ·try simp at c1
  apply bN;apply bP;apply bO;apply bG;apply aB;refine zr ⟨[],[],[],[7,14],[]⟩ fun _ _ Z=>?_;simp (disch:=omega)[hσ,hcs];and_intros<;>(try omega);apply Z;apply aC;simp [aM];rw [List.take_of_length_le (by omega)] at hh; exact (kK hh).symm
theorem Dg (l : List PI) (p : PI → Bool) (f : FuncId) (caps : List D) (σ : List (List D)) (hl : l.length ≤ 1000000) (hcp : ∀ d ∈ caps, d.plain = true) (hcs : caps.map D.strip = caps) (hp : ∀ x τ, Ct Tryz.prog f (cQ x :: caps) τ (fun r τ' => r = .bool (p x) ∧ τ' = τ)) : Ct Tryz.prog 162 [.xs 2 (l.map cQ), .clo (.func f) [] caps] σ (fun r σ' => r = .xs 2 ((l.filter fun x => !p x).map cQ) ∧ σ' = σ ++ [[]]) := by
 refine zf (rs:=[.tmp 4]) Tryz.func162 Tryz.ntmps162 Tryz.results162 ?_;simp only [aQ];refine jG 0 2 rfl (by decide) fun cap rest hcap hcm hrest hk0 hes => ?_;simp only [List.length_map] at hcap hrest ⊢;rw [Gt];refine zr ⟨[4,13],[],[],[18,24,33,38,41],[]⟩ fun _ _ Z=>?_;simp (disch:=first|omega|assumption)[hcs,fJ];and_intros<;>try first|omega|exact rfl
 apply Z;refine zr ⟨[4,13],[],[],[18,24,33,38,41],[]⟩ fun _ _ Z=>?_;refine aA 2 fun _ Y=>?_;simp (disch:=first|omega|assumption)[hcs,fJ];and_intros<;>try first|omega|exact rfl
 apply Y;simp only [List.drop];refine aF fun _ Y=>?_;simp (disch:=first|omega|assumption)[hcs,fJ];refine cO (Il l p f caps σ.length cap rest _ (by omega) (by simp) hcp hcs hp) ?_;apply Y;simp (disch:=first|omega|assumption)[hcs,fJ];and_intros<;>try first|omega|exact rfl
 apply Z;apply aD;refine zr ⟨[4,13],[],[],[18,24,33,38,41],[]⟩ fun _ _ Z=>?_;simp (disch:=first|omega|assumption)[hcs,fJ];and_intros<;>try first|omega|exact rfl
 apply Z;refine zi ?_;refine ⟨fun c1=>?_,fun c1=>?_⟩
 ·try simp at c1
  refine zr ⟨[4,13],[],[],[18,24,33,38,41],[]⟩ fun _ _ Z=>?_;simp (disch:=first|omega|assumption)[hcs,fJ];and_intros<;>try first|omega|exact rfl
  apply Z;refine dE 4 2 σ.length l.length cap (l.map cQ) (l.flatMap cP ++ rest) (by simp <;> rfl) (by simp) (by omega) (by simp [hrest, eF (z := #[.string ⟨#[]⟩, .int .i64 0]) (k := 2) rfl]; omega) (by simp) (aAr _) (by rw [Gt]; exact List.prefix_append _ _) ?_;simp only [iS];apply aC;apply aJ;simp [aM];rcases mJ p l with ⟨_, h⟩ | ⟨k, h, _⟩
  ·rw [h]
  ·omega
 ·try simp at c1
  obtain ⟨k0, e0, e1, e2, e3⟩ := rV c1;rw [e0];apply aG;apply aB;apply aD;refine zr ⟨[4,13],[],[],[18,24,33,38,41],[]⟩ fun _ _ Z=>?_;simp (disch:=first|omega|assumption)[hcs,fJ];and_intros<;>try first|omega|exact rfl
  apply Z;apply aK;refine zk [0,1,4,5,6] ?_;refine lW (fun (j : Nat) => [(5, .d (.v (.int .i64 ((kp p l j).length : Int)))), (6, .d (.v (.int .i64 (j : Int))))]) (fun (j : Nat) => []) (fun (j : Nat) => [(σ.length, (ar p l j).flatMap cP ++ rest)]) [5, 6, 7, 16, 17, 18, 19, 20, 21, 22, 23, 24, 25, 26, 27, 28, 29, 30, 31, 32, 33, 34, 35] (fun (j : Nat) => j ≤ l.length) (fun (j : Nat) => l.length - j) (k0 + 1) (by simp <;> rfl) ?_ (by simp) (by simp [e1]) ?_ ?_
  ·simp [e1, e2]
  ·omega
  rintro j hj;simp only [List.cons_append, List.nil_append, mC, kH, List.set_cons_zero, List.set_cons_succ];have hkl := zY p l j hj;have hal := wG p l j;apply aD;refine zr ⟨[4,13],[],[],[18,24,33,38,41],[]⟩ fun _ _ Z=>?_;simp (disch:=first|omega|assumption)[hcs,fJ];and_intros<;>try first|omega|exact rfl
  apply Z;refine zi ?_;refine ⟨fun c2=>?_,fun c2=>?_⟩
  ·try simp at c2
   apply aG;apply aB;apply aD;apply aK;refine zr ⟨[4,13],[],[],[18,24,33,38,41],[]⟩ fun _ _ Z=>?_;simp (disch:=first|omega|assumption)[hcs,fJ];and_intros<;>try first|omega|exact rfl
   apply Z;refine zk [0,1,4,5,6,7] ?_;refine zr ⟨[4,13],[],[],[18,24,33,38,41],[]⟩ fun _ _ Z=>?_;refine aA 2 fun _ Y=>?_;simp (disch:=first|omega|assumption)[hcs,fJ];and_intros<;>try first|omega|exact rfl
   apply Y;simp only [List.drop];refine aF fun _ Y=>?_;simp (disch:=first|omega|assumption)[hcs,fJ];simp only [Kc p l j (by omega)];refine ⟨hcp, ?_⟩;refine cO (hp l[j] _) ?_;apply Y;simp (disch:=first|omega|assumption)[hcs,fJ];and_intros<;>try first|omega|exact rfl
   apply Z;refine zi ?_;refine ⟨fun c3=>?_,fun c3=>?_⟩
   ·try simp at c3
    refine zr ⟨[4,13],[],[],[18,24,33,38,41],[]⟩ fun _ _ Z=>?_;simp (disch:=first|omega|assumption)[hcs,fJ];and_intros<;>try first|omega|exact rfl
    apply Z;refine zk [0,1,4,5,6] ?_;refine zt ⟨[4,13],[],[],[18,24,33,38,41],[]⟩ fun _ _ Z=>?_;simp (disch:=first|omega|assumption)[hcs,fJ];and_intros<;>try first|omega|exact rfl
    apply Z;apply aP;apply aB;refine zt ⟨[4,13],[],[],[18,24,33,38,41],[]⟩ fun _ _ Z=>?_;simp (disch:=first|omega|assumption)[hcs,fJ];and_intros<;>try first|omega|exact rfl
    apply Z;refine bB (j + 1) ?_ ?_ (aW rfl ?_ (by simp) (by first | (simp [← (pP p l j (by omega) c3).1]; done) | (simp [(pP p l j (by omega) c3).1]; done)))
    ·omega
    ·try dsimp only
     omega
    ·simp (disch:=first|omega|assumption)[hcs,fJ,(pP p l j (by omega) c3).2]
   ·try simp at c3
    apply aG;apply aP;apply aB;refine zt ⟨[4,13],[],[],[18,24,33,38,41],[]⟩ fun _ _ Z=>?_;simp (disch:=first|omega|assumption)[hcs,fJ];and_intros<;>try first|omega|exact rfl
    apply Z;refine bB (j + 1) ?_ ?_ (aW rfl ?_ (by simp) (by simp [(mD p l j (by omega) c3).1]))
    ·omega
    ·try dsimp only
     omega
    ·simp (disch:=first|omega|assumption)[hcs,fJ,(mD p l j (by omega) c3).2]
  ·try simp at c2
   apply bN;apply bP;apply bO;apply bG;apply aB;refine zr ⟨[4,13],[],[],[18,24,33,38,41],[]⟩ fun _ _ Z=>?_;simp (disch:=first|omega|assumption)[hcs,fJ];and_intros<;>try first|omega|exact rfl
   apply Z;refine zk [0,4,5] ?_;refine zr ⟨[4,13],[],[],[18,24,33,38,41],[]⟩ fun _ _ Z=>?_;simp (disch:=first|omega|assumption)[hcs,fJ];and_intros<;>try first|omega|exact rfl
   apply Z;refine dE 4 2 σ.length (kp p l j).length cap ((kp p l j).map cQ) ((kp p l j).flatMap cP ++ (eN #[.string ⟨#[]⟩, .int .i64 0] (l.length - (kp p l j).length) ++ rest)) (by simp <;> rfl) (by simp) (by omega) (by simp [hrest, eF (z := #[.string ⟨#[]⟩, .int .i64 0]) (k := 2) rfl]; omega) (by simp) (aAr _) (by rw [Gt]; exact List.prefix_append _ _) ?_;simp only [iS];apply aC;simp [aM];unfold kp; rw [List.take_of_length_le (by omega)]
theorem Ge (l : List PI) (p : PI → Bool) (f : FuncId) (caps : List D) (σ : List (List D)) (hl : l.length ≤ 1000000) (hcp : ∀ d ∈ caps, d.plain = true) (hcs : caps.map D.strip = caps) (hp : ∀ x τ, Ct Tryz.prog f (cQ x :: caps) τ (fun r τ' => r = .bool (p x) ∧ τ' = τ)) :
  Ct Tryz.prog 162 [.xs 2 (l.map cQ), .clo (.func f) [] caps] σ (fun r σ' => r = .xs 2 ((l.filter fun x => !p x).map cQ) ∧ σ' = σ) :=
 (Dg l p f caps σ hl hcp hcs hp).trim fun r σ' ⟨hr, hs⟩ => ⟨σ, [[]], hs, rfl, by rw [hr]; exact aC2 _ _, fun n cs h => .inl h, hr, rfl⟩
theorem zU (l : List PI) (σ : List (List D)) (hl : l.length ≤ 1000000) : Ct Tryz.prog 109 [.sl false (l.map cQ)] σ (fun r σ' => r = .sl true (l.map cQ) ∧ σ' = σ) := by
 refine zf (rs:=[.tmp 2]) Tryz.func109 Tryz.ntmps109 Tryz.results109 ?_;simp only [aQ];refine zr ⟨[2],[],[],[],[]⟩ fun _ _ Z=>?_;simp;and_intros<;>(try omega);apply Z;apply aD;refine zr ⟨[2],[],[],[],[]⟩ fun _ _ Z=>?_;refine aA 1 fun _ Y=>?_;simp;and_intros<;>(try omega);apply Y;simp only [List.drop];refine aF fun _ Y=>?_;simp;refine ⟨Y _ ?_, fun e1 => Y _ ?_⟩
 ·skip
  simp only [dZ];apply Z;refine bT (t := false) (by simp) (fun h => by cases h) (fun _ => ?_);apply aG;apply aB;refine zr ⟨[2],[],[],[],[]⟩ fun _ _ Z=>?_;simp;and_intros<;>(try omega);apply Z;apply aC;simp [aM]
 ·skip
  simp only [dZ];apply Z;refine bT (t := true) (by simp) (fun _ => ?_) (fun h => by cases h);refine zr ⟨[2],[],[],[],[]⟩ fun _ _ Z=>?_;simp;and_intros<;>(try omega);apply Z;apply aC;apply aJ;simp [aM, e1]
theorem xF (N cap : Nat) (l : List Int) (rest : List D) (σ : List (List D)) (hl : l.length ≤ 1000000) (hN : σ[N]? = some (l.map D.int ++ rest)) : Ct Tryz.prog 107 [.slo N 0 l.length cap] σ (fun r σ' => qV 1 (l.map D.int) r ∧ σ' = σ) := by
 refine zf (rs:=[.tmp 2]) Tryz.func107 Tryz.ntmps107 Tryz.results107 ?_;simp only [aQ];refine zr ⟨[2,7],[],[],[],[7]⟩ fun _ _ Z=>?_;simp[hN];and_intros<;>(try omega);apply Z;apply aD;refine zr ⟨[2,7],[],[],[],[7]⟩ fun _ _ Z=>?_;refine aA 1 fun _ Y=>?_;simp[hN];and_intros<;>(try omega);apply Y;simp only [List.drop];refine aF fun _ Y=>?_;simp[hN];refine ⟨Y _ ?_, fun e1 => Y _ ?_⟩
 ·skip
  simp only [dZ];apply Z;refine bT (t := false) (by simp) (fun h => by cases h) (fun _ => ?_);apply aG;apply aB;refine zr ⟨[2,7],[],[],[],[7]⟩ fun _ _ Z=>?_;refine aA 3 fun _ Y=>?_;simp[hN];refine ⟨l.map D.int, ⟨⟨by simp, by rw [dQ (f := D.int) (fun _ => rfl)]; exact List.prefix_append _ _⟩, gJ (d := D.int) (fun _ => ⟨rfl, rfl⟩) _, by first | rfl | trivial⟩, ⟨by simp; omega, by simp; omega⟩, ?_⟩;and_intros<;>(try omega);apply Y;simp only [List.drop];simp[hN];and_intros<;>(try omega);apply Z;apply aC;simp [aM, qV]
 ·skip
  simp only [dZ];apply Z;refine bT (t := true) (by simp) (fun _ => ?_) (fun h => by cases h);refine zr ⟨[2,7],[],[],[],[7]⟩ fun _ _ Z=>?_;simp[hN];and_intros<;>(try omega);apply Z;apply aC;apply aJ;simp [aM, qV, e1]
theorem Me (N cap : Nat) (l : List Int) (rest : List D) (σ : List (List D)) (hl : l.length ≤ 1000000) (hN : σ[N]? = some (l.map D.int ++ rest)) : Ct Tryz.prog 107 [.slo N 0 l.length cap] σ (fun r σ' => r = .sl false (l.map D.int) ∧ σ' = σ) := ((xF N cap l rest σ hl hN).toX fun _ _ h => h).freeze fun _ _ h => h
def Xk (c : Int) (l : List Int) : Int := qD (fun x => decide (x = c)) l
theorem Np (N cap : Nat) (l : List Int) (rest : List D) (c : Int) (σ : List (List D)) (hl : l.length ≤ 1000000) (hN : σ[N]? = some (l.map D.int ++ rest)) : Ct Tryz.prog 54 [.slo N 0 l.length cap, D.int c] σ (fun r σ' => r = .int (Xk c l) ∧ σ' = σ) := by
 refine zf (rs:=[.tmp 4]) Tryz.func54 Tryz.ntmps54 Tryz.results54 ?_;simp only [aQ];refine zr ⟨[],[],[],[7,14],[]⟩ fun _ _ Z=>?_;simp (disch:=omega)[hN,aT];and_intros<;>(try omega);apply Z;apply aD;refine zr ⟨[],[],[],[7,14],[]⟩ fun _ _ Z=>?_;simp (disch:=omega)[hN,aT];and_intros<;>(try omega);apply Z;apply aK;refine zk [0,1,4,7,8] ?_;refine bR (fun (k : Nat) => [(8, .d (.v (.int .i64 (k : Int)))), (5, .d (.any))]) [4, 5, 8, 9, 10, 11, 12, 13, 14, 15, 16, 17, 18] (fun (k : Nat) => k ≤ l.length ∧ ∀ x ∈ l.take k, decide (x = c) = false) (fun (k : Nat) => l.length - k) (0) (by simp <;> rfl) ?_ ?_ ?_
 ·simp
 ·simp
 rintro k ⟨hk, hh⟩;simp only [List.cons_append, List.nil_append];refine zr ⟨[],[],[],[7,14],[]⟩ fun _ _ Z=>?_;simp (disch:=omega)[hN,aT];and_intros<;>(try omega);apply Z;apply aD;refine zi ?_;refine ⟨fun c1=>?_,fun c1=>?_⟩
 ·try simp at c1
  apply aG;apply aB;apply aD;apply aK;refine zr ⟨[],[],[],[7,14],[]⟩ fun _ _ Z=>?_;simp (disch:=omega)[hN,aT];and_intros<;>(try omega);apply Z;refine zr ⟨[],[],[],[7,14],[]⟩ fun _ _ Z=>?_;simp (disch:=omega)[hN,aT];and_intros<;>(try omega);apply Z;refine zi ?_;refine ⟨fun c2=>?_,fun c2=>?_⟩
  ·try simp at c2
   refine zk [0,1,5,7,8] ?_;refine zr ⟨[],[],[],[7,14],[]⟩ fun _ _ Z=>?_;simp (disch:=omega)[hN,aT];and_intros<;>(try omega);apply Z;apply aC;apply aU;apply aJ;apply eJ;apply aU;apply aJ;simp [aM];exact (pA c1 hh (by simp; exact c2.symm)).symm
  ·try simp at c2
   apply aG;apply aP;apply aB;refine zk [0,1,5,7,8] ?_;refine zt ⟨[],[],[],[7,14],[]⟩ fun _ _ Z=>?_;simp (disch:=omega)[hN,aT];and_intros<;>(try omega);apply Z;refine bB (k + 1) ?_ ?_ (aW rfl ?_ (by simp) (by simp))
   ·exact ⟨by omega, jL (by omega) hh (by simp; exact fun e => c2 e.symm)⟩
   ·try dsimp only
    omega
   ·simp (disch:=omega)[hN,aT]
 ·try simp at c1
  apply bN;apply bP;apply bO;apply bG;apply aB;refine zr ⟨[],[],[],[7,14],[]⟩ fun _ _ Z=>?_;simp (disch:=omega)[hN,aT];and_intros<;>(try omega);apply Z;apply aC;simp [aM];rw [List.take_of_length_le (by omega)] at hh; exact (kK hh).symm
end Go.Proofs.YtpfmpeaekgdgnaaGreat


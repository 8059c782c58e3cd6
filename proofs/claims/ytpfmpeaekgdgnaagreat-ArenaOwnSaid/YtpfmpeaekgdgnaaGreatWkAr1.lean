import Derived.Test.YtpfmpeaekgdgnaaGreatVmTab
import Derived.Test.YtpfmpeaekgdgnaaGreatVmZ
namespace Go.Proofs.YtpfmpeaekgdgnaaGreat
open Go Go.Vm
set_option maxRecDepth 20000
set_option linter.all false
set_option maxHeartbeats 8000000
def fG (s : ByteArray) (k : Nat) : Int := ((s.data[k]?.getD 0).toNat : Int)
def Bo (p : Int → Bool) (s : ByteArray) : Bool := (List.range s.size).all fun k => p (fG s k)
theorem Oq {p : Int → Bool} {s : ByteArray} {k : Nat} (h : ∀ j, j < k → p (fG s j) = true) (hk : s.size ≤ k) : Bo p s = true := by
 unfold Bo;rw [List.all_eq_true];intro j hj;exact h j (by have := List.mem_range.1 hj; omega)
theorem Oi {p : Int → Bool} {s : ByteArray} {k : Nat} (h : p (fG s k) = false) (hk : k < s.size) : Bo p s = false := by
 rw [← Bool.not_eq_true];intro hh;unfold Bo at hh;rw [List.all_eq_true] at hh;have := hh k (List.mem_range.2 hk);rw [h] at this; cases this
theorem aAy {p : Int → Bool} {s : ByteArray} (h : Bo p s = true) (k : Nat) (hk : k < s.size) : p (fG s k) = true := by
 unfold Bo at h;rw [List.all_eq_true] at h;exact h k (List.mem_range.2 hk)
theorem wF {p : Int → Bool} {s : ByteArray} {k : Nat} (h : ∀ j, j < k → p (fG s j) = true) (h2 : p (fG s k) = true) : ∀ j, j < k + 1 → p (fG s j) = true := fun j hj => by
 rcases Nat.lt_succ_iff_lt_or_eq.1 hj with h1 | rfl
 ·exact h j h1
 ·exact h2
def wV (x0 : Int) (x1 : Int) (x2 : Int) : Int := max x1 (min x0 x2)
theorem Xg (x0 : Int) (x1 : Int) (x2 : Int) (σ : List (List D))  : Ct Tryz.prog 42 [.v (.int .i64 x0), .v (.int .i64 x1), .v (.int .i64 x2)] σ (fun r σ' => r = .v (.int .i64 (wV x0 x1 x2)) ∧ σ' = σ) := by
 refine zf (rs:=[.tmp 6]) Tryz.func42 Tryz.ntmps42 Tryz.results42 ?_;simp only [aQ];refine bC fun all K Z=>?_;simp;and_intros<;>(try omega);apply Z;clear Z K all;refine bC fun all K Z=>?_;simp;and_intros<;>(try omega);apply Z;clear Z K all;apply aE;first | (simp [aN, wV]; done) | (simp [aN, wV]; done) | (simp [aN]; unfold wV; (repeat' split) <;> first | (exfalso; omega) | (simp_all; done)) | (simp [aN, wV, *]; done) | (simp_all [aN, wV]; done) | (simp_all [aN, wV]; omega) | (simp [aN, wV] <;> split <;> omega)
def Bd (x0 : Int) : Int := max (-2147483648) (min x0 2147483647)
theorem aAb (x0 : Int) (σ : List (List D))  : Ct Tryz.prog 128 [.v (.int .i64 x0)] σ (fun r σ' => r = .v (.int .i64 (Bd x0)) ∧ σ' = σ) := by
 refine zf (rs:=[.tmp 2]) Tryz.func128 Tryz.ntmps128 Tryz.results128 ?_;simp only [aQ];refine bC fun all K Z=>?_;simp;and_intros<;>(try omega);apply Z;clear Z K all;refine bC fun all K Z=>?_;simp;and_intros<;>(try omega);apply Z;clear Z K all;apply aE;first | (simp [aN, Bd]; done) | (simp [aN, Bd]; done) | (simp [aN]; unfold Bd; (repeat' split) <;> first | (exfalso; omega) | (simp_all; done)) | (simp [aN, Bd, *]; done) | (simp_all [aN, Bd]; done) | (simp_all [aN, Bd]; omega) | (simp [aN, Bd] <;> split <;> omega)
def jW (x0 : Int) : Int := if x0 > 2147483647 then 2147483647
 else if x0 < (-2147483648) then (-2147483648)
  else x0
theorem Wr (x0 : Int) (σ : List (List D))  : Ct Tryz.prog 99 [.v (.int .i64 x0)] σ (fun r σ' => r = .v (.int .i64 (jW x0)) ∧ σ' = σ) := by
 refine zf (rs:=[.tmp 2]) Tryz.func99 Tryz.ntmps99 Tryz.results99 ?_;simp only [aQ];refine bC fun all K Z=>?_;simp;and_intros<;>(try omega);apply Z;clear Z K all;apply aD;refine bC fun all K Z=>?_;simp;and_intros<;>(try omega);apply Z;clear Z K all;refine zi ?_;refine ⟨fun c1=>?_,fun c1=>?_⟩
 ·try simp at c1
  all_goals try (exfalso; omega)
  all_goals
   refine bC fun all K Z=>?_;simp;and_intros<;>(try omega);apply Z;clear Z K all;apply aE;apply aL;first | (simp [aN, jW, c1]; done) | (simp [aN, jW]; done) | (simp [aN]; unfold jW; (repeat' split) <;> first | (exfalso; omega) | (simp_all; done)) | (simp [aN, jW, *]; done) | (simp_all [aN, jW]; done) | (simp_all [aN, jW]; omega) | (simp [aN, jW] <;> split <;> omega)
 ·try simp at c1
  all_goals try (exfalso; omega)
  all_goals
   apply aH;apply aB;apply aD;refine bC fun all K Z=>?_;simp;and_intros<;>(try omega);apply Z;clear Z K all;refine zi ?_;refine ⟨fun c2=>?_,fun c2=>?_⟩
   ·try simp at c2
    all_goals try (exfalso; omega)
    all_goals
     refine bC fun all K Z=>?_;simp;and_intros<;>(try omega);apply Z;clear Z K all;apply aE;apply aL;first | (simp [aN, jW, c1, c2]; done) | (simp [aN, jW]; done) | (simp [aN]; unfold jW; (repeat' split) <;> first | (exfalso; omega) | (simp_all; done)) | (simp [aN, jW, *]; done) | (simp_all [aN, jW]; done) | (simp_all [aN, jW]; omega) | (simp [aN, jW] <;> split <;> omega)
   ·try simp at c2
    all_goals try (exfalso; omega)
    all_goals
     apply aH;apply aB;refine bC fun all K Z=>?_;simp;and_intros<;>(try omega);apply Z;clear Z K all;apply aE;first | (simp [aN, jW, c1, c2]; done) | (simp [aN, jW]; done) | (simp [aN]; unfold jW; (repeat' split) <;> first | (exfalso; omega) | (simp_all; done)) | (simp [aN, jW, *]; done) | (simp_all [aN, jW]; done) | (simp_all [aN, jW]; omega) | (simp [aN, jW] <;> split <;> omega)
def fC (x0 : Int) : Bool := if x0 ≥ 97 then decide (x0 ≤ 122)
 else false
theorem yL (x0 : Int) (σ : List (List D))  : Ct Tryz.prog 117 [.v (.int .u8 x0)] σ (fun r σ' => r = .v (.bool (fC x0)) ∧ σ' = σ) := by
 refine zf (rs:=[.tmp 2]) Tryz.func117 Tryz.ntmps117 Tryz.results117 ?_;simp only [aQ];refine bC fun all K Z=>?_;simp;and_intros<;>(try omega);apply Z;clear Z K all;refine lH ⟨[],[],[],[],[]⟩ fun all hall K Z=>?_;have ga2 : aS all 2 = some 5 := hall 2;clear hall;refine aA 3 fun K' Y=>?_;simp[ga2];and_intros<;>(try omega);apply Y;clear Y K';simp only [List.drop];refine aX 5 (by simp <;> rfl) ?_;refine ⟨fun g1 => ?_, fun g1 => ?_⟩
 ·try simp at g1
  all_goals try (exfalso; omega)
  all_goals
   simp[ga2];and_intros<;>(try omega);apply Z;clear Z K ga2 all;apply aE;first | (simp [aN, fC, g1]; done) | (simp [aN, fC]; done) | (simp [aN]; unfold fC; (repeat' split) <;> first | (exfalso; omega) | (simp_all; done)) | (simp [aN, fC, *]; done) | (simp_all [aN, fC]; done) | (simp_all [aN, fC]; omega) | (simp [aN, fC] <;> split <;> omega)
 ·try simp at g1
  all_goals try (exfalso; omega)
  all_goals
   simp[ga2];and_intros<;>(try omega);apply Z;clear Z K ga2 all;apply aE;first | (simp [aN, fC, g1]; done) | (simp [aN, fC]; done) | (simp [aN]; unfold fC; (repeat' split) <;> first | (exfalso; omega) | (simp_all; done)) | (simp [aN, fC, *]; done) | (simp_all [aN, fC]; done) | (simp_all [aN, fC]; omega) | (simp [aN, fC] <;> split <;> omega)
def jM (x0 : Int) : Bool := if x0 ≥ 48 then decide (x0 ≤ 57)
 else false
theorem Ux (x0 : Int) (σ : List (List D))  : Ct Tryz.prog 159 [.v (.int .u8 x0)] σ (fun r σ' => r = .v (.bool (jM x0)) ∧ σ' = σ) := by
 refine zf (rs:=[.tmp 2]) Tryz.func159 Tryz.ntmps159 Tryz.results159 ?_;simp only [aQ];refine bC fun all K Z=>?_;simp;and_intros<;>(try omega);apply Z;clear Z K all;refine lH ⟨[],[],[],[],[]⟩ fun all hall K Z=>?_;have ga2 : aS all 2 = some 5 := hall 2;clear hall;refine aA 3 fun K' Y=>?_;simp[ga2];and_intros<;>(try omega);apply Y;clear Y K';simp only [List.drop];refine aX 5 (by simp <;> rfl) ?_;refine ⟨fun g1 => ?_, fun g1 => ?_⟩
 ·try simp at g1
  all_goals try (exfalso; omega)
  all_goals
   simp[ga2];and_intros<;>(try omega);apply Z;clear Z K ga2 all;apply aE;first | (simp [aN, jM, g1]; done) | (simp [aN, jM]; done) | (simp [aN]; unfold jM; (repeat' split) <;> first | (exfalso; omega) | (simp_all; done)) | (simp [aN, jM, *]; done) | (simp_all [aN, jM]; done) | (simp_all [aN, jM]; omega) | (simp [aN, jM] <;> split <;> omega)
 ·try simp at g1
  all_goals try (exfalso; omega)
  all_goals
   simp[ga2];and_intros<;>(try omega);apply Z;clear Z K ga2 all;apply aE;first | (simp [aN, jM, g1]; done) | (simp [aN, jM]; done) | (simp [aN]; unfold jM; (repeat' split) <;> first | (exfalso; omega) | (simp_all; done)) | (simp [aN, jM, *]; done) | (simp_all [aN, jM]; done) | (simp_all [aN, jM]; omega) | (simp [aN, jM] <;> split <;> omega)
def plain (x0 : Int) : Bool := if (fC x0) = true then true
 else if (jM x0) = true then true
  else decide (x0 = 45)
theorem Ut (x0 : Int) (σ : List (List D))  : Ct Tryz.prog 139 [.v (.int .u8 x0)] σ (fun r σ' => r = .v (.bool (plain x0)) ∧ σ' = σ) := by
 refine zf (rs:=[.tmp 2]) Tryz.func139 Tryz.ntmps139 Tryz.results139 ?_;simp only [aQ];refine bC fun all K Z=>?_;simp;and_intros<;>(try omega);apply Z;clear Z K all;refine lH ⟨[],[],[],[],[]⟩ fun all hall K Z=>?_;have ga2 : aS all 2 = some 5 := hall 2;have ga6 : aS all 6 = some 9 := hall 6;clear hall;refine aA 1 fun K' Y=>?_;simp[ga2,ga6];and_intros<;>(try omega);apply Y;clear Y K';simp only [List.drop];refine aG fun K' Y=>?_;simp[ga2,ga6];refine cO (yL x0 _ ) ?_;apply Y;clear Y K';refine aA 1 fun K' Y=>?_;simp[ga2,ga6];and_intros<;>(try omega);apply Y;clear Y K';simp only [List.drop];refine aX 5 (by simp <;> rfl) ?_;refine ⟨fun g1 => ?_, fun g1 => ?_⟩
 ·try simp at g1
  all_goals try (exfalso; omega)
  all_goals
   refine aA 4 fun K' Y=>?_;simp[ga2,ga6];and_intros<;>(try omega);apply Y;clear Y K';simp only [List.drop];simp[ga2,ga6];and_intros<;>(try omega);apply Z;clear Z K ga2 ga6 all;apply aE;first | (simp [aN, plain, g1]; done) | (simp [aN, plain]; done) | (simp [aN]; unfold plain; (repeat' split) <;> first | (exfalso; omega) | (simp_all; done)) | (simp [aN, plain, *]; done) | (simp_all [aN, plain]; done) | (simp_all [aN, plain]; omega) | (simp [aN, plain] <;> split <;> omega)
 ·try simp at g1
  all_goals try (exfalso; omega)
  all_goals
   refine aA 1 fun K' Y=>?_;simp[ga2,ga6];and_intros<;>(try omega);apply Y;clear Y K';simp only [List.drop];refine zg ga2 fun K' Y=>?_;simp[ga2,ga6];refine cO (Ux x0 _ ) ?_;apply Y;clear Y K';refine aA 2 fun K' Y=>?_;simp[ga2,ga6];and_intros<;>(try omega);apply Y;clear Y K';simp only [List.drop];refine aX 9 (by simp <;> rfl) ?_;refine ⟨fun g2 => ?_, fun g2 => ?_⟩
   ·try simp at g2
    all_goals try (exfalso; omega)
    all_goals
     simp[ga2,ga6];and_intros<;>(try omega);apply Z;clear Z K ga2 ga6 all;apply aE;first | (simp [aN, plain, g1, g2]; done) | (simp [aN, plain]; done) | (simp [aN]; unfold plain; (repeat' split) <;> first | (exfalso; omega) | (simp_all; done)) | (simp [aN, plain, *]; done) | (simp_all [aN, plain]; done) | (simp_all [aN, plain]; omega) | (simp [aN, plain] <;> split <;> omega)
   ·try simp at g2
    all_goals try (exfalso; omega)
    all_goals
     simp[ga2,ga6];and_intros<;>(try omega);apply Z;clear Z K ga2 ga6 all;apply aE;first | (simp [aN, plain, g1, g2]; done) | (simp [aN, plain]; done) | (simp [aN]; unfold plain; (repeat' split) <;> first | (exfalso; omega) | (simp_all; done)) | (simp [aN, plain, *]; done) | (simp_all [aN, plain]; done) | (simp_all [aN, plain]; omega) | (simp [aN, plain] <;> split <;> omega)
def cD (x0 : Int) : Bool := if x0 ≥ 97 then if x0 ≤ 122 then true
  else if x0 ≥ 48 then if x0 ≤ 57 then true
    else decide (x0 = 45)
   else decide (x0 = 45)
 else if x0 ≥ 48 then if x0 ≤ 57 then true
   else decide (x0 = 45)
  else decide (x0 = 45)
theorem Li (x0 : Int) (σ : List (List D))  : Ct Tryz.prog 141 [.v (.int .u8 x0)] σ (fun r σ' => r = .v (.bool (cD x0)) ∧ σ' = σ) := by
 refine zf (rs:=[.tmp 2]) Tryz.func141 Tryz.ntmps141 Tryz.results141 ?_;simp only [aQ];refine bC fun all K Z=>?_;simp;and_intros<;>(try omega);apply Z;clear Z K all;refine lH ⟨[],[],[],[],[]⟩ fun all hall K Z=>?_;have ga2 : aS all 2 = some 5 := hall 2;have ga6 : aS all 6 = some 9 := hall 6;have ga9 : aS all 9 = some 12 := hall 9;have ga14 : aS all 14 = some 17 := hall 14;clear hall;refine aA 3 fun K' Y=>?_;simp[ga2,ga6,ga9,ga14];and_intros<;>(try omega);apply Y;clear Y K';simp only [List.drop];refine aX 5 (by simp <;> rfl) ?_;refine ⟨fun g1 => ?_, fun g1 => ?_⟩
 ·try simp at g1
  all_goals try (exfalso; omega)
  all_goals
   refine aA 4 fun K' Y=>?_;simp[ga2,ga6,ga9,ga14];and_intros<;>(try omega);apply Y;clear Y K';simp only [List.drop];refine aX 9 (by simp <;> rfl) ?_;refine ⟨fun g2 => ?_, fun g2 => ?_⟩
   ·try simp at g2
    all_goals try (exfalso; omega)
    all_goals
     refine aA 8 fun K' Y=>?_;simp[ga2,ga6,ga9,ga14];and_intros<;>(try omega);apply Y;clear Y K';simp only [List.drop];simp[ga2,ga6,ga9,ga14];and_intros<;>(try omega);apply Z;clear Z K ga2 ga6 ga9 ga14 all;apply aE;first | (simp [aN, cD, g1, g2]; done) | (simp [aN, cD]; done) | (simp [aN]; unfold cD; (repeat' split) <;> first | (exfalso; omega) | (simp_all; done)) | (simp [aN, cD, *]; done) | (simp_all [aN, cD]; done) | (simp_all [aN, cD]; omega) | (simp [aN, cD] <;> split <;> omega)
   ·try simp at g2
    all_goals try (exfalso; omega)
    all_goals
     refine aA 3 fun K' Y=>?_;simp[ga2,ga6,ga9,ga14];and_intros<;>(try omega);apply Y;clear Y K';simp only [List.drop];refine aX 12 (by simp <;> rfl) ?_;refine ⟨fun g3 => ?_, fun g3 => ?_⟩
     ·try simp at g3
      all_goals try (exfalso; omega)
      all_goals
       refine aA 5 fun K' Y=>?_;simp[ga2,ga6,ga9,ga14];and_intros<;>(try omega);apply Y;clear Y K';simp only [List.drop];refine aX 17 (by simp <;> rfl) ?_;refine ⟨fun g4 => ?_, fun g4 => ?_⟩
       ·try simp at g4
        all_goals try (exfalso; omega)
        all_goals
         simp[ga2,ga6,ga9,ga14];and_intros<;>(try omega);apply Z;clear Z K ga2 ga6 ga9 ga14 all;apply aE;first | (simp [aN, cD, g1, g2, g3, g4]; done) | (simp [aN, cD]; done) | (simp [aN]; unfold cD; (repeat' split) <;> first | (exfalso; omega) | (simp_all; done)) | (simp [aN, cD, *]; done) | (simp_all [aN, cD]; done) | (simp_all [aN, cD]; omega) | (simp [aN, cD] <;> split <;> omega)
       ·try simp at g4
        all_goals try (exfalso; omega)
        all_goals
         simp[ga2,ga6,ga9,ga14];and_intros<;>(try omega);apply Z;clear Z K ga2 ga6 ga9 ga14 all;apply aE;first | (simp [aN, cD, g1, g2, g3, g4]; done) | (simp [aN, cD]; done) | (simp [aN]; unfold cD; (repeat' split) <;> first | (exfalso; omega) | (simp_all; done)) | (simp [aN, cD, *]; done) | (simp_all [aN, cD]; done) | (simp_all [aN, cD]; omega) | (simp [aN, cD] <;> split <;> omega)
     ·try simp at g3
      all_goals try (exfalso; omega)
      all_goals
       refine aA 5 fun K' Y=>?_;simp[ga2,ga6,ga9,ga14];and_intros<;>(try omega);apply Y;clear Y K';simp only [List.drop];simp[ga2,ga6,ga9,ga14];and_intros<;>(try omega);apply Z;clear Z K ga2 ga6 ga9 ga14 all;apply aE;first | (simp [aN, cD, g1, g2, g3]; done) | (simp [aN, cD]; done) | (simp [aN]; unfold cD; (repeat' split) <;> first | (exfalso; omega) | (simp_all; done)) | (simp [aN, cD, *]; done) | (simp_all [aN, cD]; done) | (simp_all [aN, cD]; omega) | (simp [aN, cD] <;> split <;> omega)
 ·try simp at g1
  all_goals try (exfalso; omega)
  all_goals
   refine aA 4 fun K' Y=>?_;simp[ga2,ga6,ga9,ga14];and_intros<;>(try omega);apply Y;clear Y K';simp only [List.drop];refine aA 3 fun K' Y=>?_;simp[ga2,ga6,ga9,ga14];and_intros<;>(try omega);apply Y;clear Y K';simp only [List.drop];refine aX 12 (by simp <;> rfl) ?_;refine ⟨fun g5 => ?_, fun g5 => ?_⟩
   ·try simp at g5
    all_goals try (exfalso; omega)
    all_goals
     refine aA 5 fun K' Y=>?_;simp[ga2,ga6,ga9,ga14];and_intros<;>(try omega);apply Y;clear Y K';simp only [List.drop];refine aX 17 (by simp <;> rfl) ?_;refine ⟨fun g6 => ?_, fun g6 => ?_⟩
     ·try simp at g6
      all_goals try (exfalso; omega)
      all_goals
       simp[ga2,ga6,ga9,ga14];and_intros<;>(try omega);apply Z;clear Z K ga2 ga6 ga9 ga14 all;apply aE;first | (simp [aN, cD, g1, g5, g6]; done) | (simp [aN, cD]; done) | (simp [aN]; unfold cD; (repeat' split) <;> first | (exfalso; omega) | (simp_all; done)) | (simp [aN, cD, *]; done) | (simp_all [aN, cD]; done) | (simp_all [aN, cD]; omega) | (simp [aN, cD] <;> split <;> omega)
     ·try simp at g6
      all_goals try (exfalso; omega)
      all_goals
       simp[ga2,ga6,ga9,ga14];and_intros<;>(try omega);apply Z;clear Z K ga2 ga6 ga9 ga14 all;apply aE;first | (simp [aN, cD, g1, g5, g6]; done) | (simp [aN, cD]; done) | (simp [aN]; unfold cD; (repeat' split) <;> first | (exfalso; omega) | (simp_all; done)) | (simp [aN, cD, *]; done) | (simp_all [aN, cD]; done) | (simp_all [aN, cD]; omega) | (simp [aN, cD] <;> split <;> omega)
   ·try simp at g5
    all_goals try (exfalso; omega)
    all_goals
     refine aA 5 fun K' Y=>?_;simp[ga2,ga6,ga9,ga14];and_intros<;>(try omega);apply Y;clear Y K';simp only [List.drop];simp[ga2,ga6,ga9,ga14];and_intros<;>(try omega);apply Z;clear Z K ga2 ga6 ga9 ga14 all;apply aE;first | (simp [aN, cD, g1, g5]; done) | (simp [aN, cD]; done) | (simp [aN]; unfold cD; (repeat' split) <;> first | (exfalso; omega) | (simp_all; done)) | (simp [aN, cD, *]; done) | (simp_all [aN, cD]; done) | (simp_all [aN, cD]; omega) | (simp [aN, cD] <;> split <;> omega)
theorem aB5 (x : Int) : jW x = Bd x := by
 unfold jW Bd
 repeat' split
 all_goals first | rfl | omega | skip
theorem Eu (x : Int) : fC x = true ↔ 97 ≤ x ∧ x ≤ 122 := by unfold fC; simp
theorem yA (x : Int) : plain x = true ↔ (97 ≤ x ∧ x ≤ 122) ∨ (48 ≤ x ∧ x ≤ 57) ∨ x = 45 := by
 unfold plain fC jM; repeat' split
 all_goals simp_all
 all_goals omega
theorem Hl (x : Int) : cD x = true ↔ (97 ≤ x ∧ x ≤ 122) ∨ (48 ≤ x ∧ x ≤ 57) ∨ x = 45 := by
 unfold cD; repeat' split
 all_goals simp_all
 all_goals omega
theorem yP (x : Int) : cD x = plain x := by rw [Bool.eq_iff_iff, Hl, yA]
def sC (s : ByteArray) : Bool := decide (1 ≤ s.size ∧ s.size ≤ 16) && Bo plain s
def fE (s : ByteArray) : Bool := sC s && decide (97 ≤ fG s 0)
theorem Dk (s : ByteArray) : (s = ⟨#[]⟩) ↔ s.size = 0 := by
 constructor
 ·rintro rfl; rfl
 ·intro h;cases s with
  | mk d =>
   have : d.size = 0 := h;have : d = #[] := by simpa using this
   rw [this]
theorem Yi (s : ByteArray) (p : Int → Bool) (f : FuncId) (σ : List (List D)) (hs : s.size ≤ 9223372036854775807) (hp : ∀ x τ, Ct Tryz.prog f [.v (.int .u8 x)] τ (fun r τ' => r = .bool (p x) ∧ τ' = τ)) : Ct Tryz.prog 138 [D.str s, .clo (.func f) [] []] σ (fun r σ' => r = .bool (Bo p s) ∧ σ' = σ) := by
 refine zf (rs:=[.tmp 4]) Tryz.func138 Tryz.ntmps138 Tryz.results138 ?_;simp only [aQ];refine bC fun _ _ Z=>?_;simp;and_intros<;>(try omega);apply Z;apply aD;refine bC fun _ _ Z=>?_;simp;and_intros<;>(try omega);apply Z;apply aK;refine zk [0,1,4,7,8] ?_;refine bQ (fun (k : Nat) => [(8, .d (.v (.int .i64 (k : Int)))), (5, .d (.any))]) [4, 5, 8, 9, 10, 11, 12, 13, 14, 15, 16, 17] (fun (k : Nat) => k ≤ s.size ∧ ∀ j, j < k → p (fG s j) = true) (fun (k : Nat) => s.size - k) (0) (by simp <;> rfl) ?_ ?_ ?_
 ·simp
 ·simp
 rintro k ⟨hk, hh⟩;simp only [List.cons_append, List.nil_append];refine bC fun _ _ Z=>?_;simp;and_intros<;>(try omega);apply Z;apply aD;refine zi ?_;refine ⟨fun c1=>?_,fun c1=>?_⟩
 ·try simp at c1
  apply aH;apply aB;apply aD;apply aK;refine bC fun _ _ Z=>?_;simp;and_intros<;>(try omega);apply Z;refine bC fun _ _ Z=>?_;refine aA 4 fun _ Y=>?_;simp;and_intros<;>(try omega);apply Y;simp only [List.drop];refine aG fun _ Y=>?_;simp;refine cO (hp (fG s k) _) ?_;apply Y;simp;and_intros<;>(try omega);apply Z;refine zi ?_;refine ⟨fun c2=>?_,fun c2=>?_⟩
  ·try simp at c2
   refine zk [0,1,5,7,8] ?_;refine bC fun _ _ Z=>?_;simp;and_intros<;>(try omega);apply Z;apply aE;apply aV;apply aL;apply eE;apply aV;apply aL;simp [aN];exact Oi (k := k) (by simpa [fG] using c2) (by omega)
  ·try simp at c2
   apply aH;apply aP;apply aB;refine zk [0,1,5,7,8] ?_;refine vS fun _ _ Z=>?_;simp;and_intros<;>(try omega);apply Z;refine bA (k + 1) ?_ ?_ (aW rfl ?_ (by simp) (by simp))
   ·exact ⟨by omega, wF hh (by simpa [fG] using c2)⟩
   ·try dsimp only
    omega
   ·simp
 ·try simp at c1
  apply bK;apply bJ;apply bL;apply aY;apply aB;refine bC fun _ _ Z=>?_;simp;and_intros<;>(try omega);apply Z;apply aE;simp [aN];exact Oq hh (by omega)
theorem Xz (s : ByteArray) (σ : List (List D)) (hs : s.size ≤ 9223372036854775807) : Ct Tryz.prog 116 [D.str s] σ (fun r σ' => r = .bool (sC s) ∧ σ' = σ) := by
 refine zf (rs:=[.tmp 2]) Tryz.func116 Tryz.ntmps116 Tryz.results116 ?_;simp only [aQ];refine bC fun _ _ Z=>?_;simp;and_intros<;>(try omega);apply Z;refine lH ⟨[],[],[],[],[]⟩ fun all hall _ Z=>?_;have ga2 : aS all 2 = some 5 := hall 2;have ga7 : aS all 7 = some 10 := hall 7;refine aA 3 fun _ Y=>?_;simp[ga2,ga7];and_intros<;>(try omega);apply Y;simp only [List.drop];refine aX 5 (by simp <;> rfl) ?_;refine ⟨fun g1 => ?_, fun g1 => ?_⟩
 ·try simp at g1
  refine aA 5 fun _ Y=>?_;simp[ga2,ga7];and_intros<;>(try omega);apply Y;simp only [List.drop];refine aX 10 (by simp <;> rfl) ?_;refine ⟨fun g2 => ?_, fun g2 => ?_⟩
  ·try simp at g2
   refine aA 1 fun _ Y=>?_;simp[ga2,ga7];and_intros<;>(try omega);apply Y;simp only [List.drop];refine zg ga7 fun _ Y=>?_;simp[ga2,ga7];refine cO (Yi s plain 139 _ hs (fun x τ => Ut x τ)) ?_;apply Y;simp[ga2,ga7];and_intros<;>(try omega);apply Z;apply aE;simp [aN, sC];rw [Dk] at g1
   intros; omega
  ·try simp at g2
   simp[ga2,ga7];and_intros<;>(try omega);apply Z;apply aE;simp [aN, sC]
   intros; omega
 ·try simp at g1
  refine aA 5 fun _ Y=>?_;simp[ga2,ga7];and_intros<;>(try omega);apply Y;simp only [List.drop];simp[ga2,ga7];and_intros<;>(try omega);apply Z;apply aE;simp [aN, sC];rw [Dk] at g1
  intros; omega
theorem wB {s : ByteArray} (h : sC s = true) : 0 < s.size ∧ s.size ≤ 16 := by
 unfold sC at h; simp at h; omega
theorem Gj {s : ByteArray} (h : sC s = true) : fC (fG s 0) = decide (97 ≤ fG s 0) := by
 have hp := (wB h).1;unfold sC at h;rw [Bool.and_eq_true] at h;have := aAy h.2 0 hp;rw [yA] at this;rw [Bool.eq_iff_iff, Eu, decide_eq_true_eq];omega
theorem nR (s : ByteArray) (σ : List (List D)) (hs : s.size ≤ 9223372036854775807) : Ct Tryz.prog 80 [D.str s] σ (fun r σ' => r = .bool (fE s) ∧ σ' = σ) := by
 refine zf (rs:=[.tmp 2]) Tryz.func80 Tryz.ntmps80 Tryz.results80 ?_;simp only [aQ];refine bC fun _ _ Z=>?_;simp;and_intros<;>(try omega);apply Z;refine lH ⟨[],[],[],[],[]⟩ fun all hall _ Z=>?_;have ga2 : aS all 2 = some 5 := hall 2;refine aA 1 fun _ Y=>?_;simp[ga2];and_intros<;>(try omega);apply Y;simp only [List.drop];refine aG fun _ Y=>?_;simp[ga2];refine cO (Xz s _ hs) ?_;apply Y;refine aA 1 fun _ Y=>?_;simp[ga2];and_intros<;>(try omega);apply Y;simp only [List.drop];refine aX 5 (by simp <;> rfl) ?_;refine ⟨fun g1 => ?_, fun g1 => ?_⟩
 ·try simp at g1
  have hpos := wB g1;refine aA 2 fun _ Y=>?_;simp[ga2];and_intros<;>(try omega);apply Y;simp only [List.drop];refine zg ga2 fun _ Y=>?_;simp[ga2];refine cO (yL (fG s 0) _) ?_;apply Y;simp[ga2];and_intros<;>(try omega);apply Z;apply aE;simp [aN, fE, g1, Gj g1]
 ·try simp at g1
  simp[ga2];and_intros<;>(try omega);apply Z;apply aE;simp [aN, fE, g1]
theorem Wb (s : ByteArray) (σ : List (List D)) (hs : s.size ≤ 9223372036854775807) : Ct Tryz.prog 120 [D.str s] σ (fun r σ' => r = .bool (sC s) ∧ σ' = σ) := by
 refine zf (rs:=[.tmp 2]) Tryz.func120 Tryz.ntmps120 Tryz.results120 ?_;simp only [aQ];refine bC fun _ _ Z=>?_;simp;and_intros<;>(try omega);apply Z;apply aD;refine bC fun _ _ Z=>?_;simp;and_intros<;>(try omega);apply Z;apply aK;refine zk [0,2,3] ?_;refine bQ (fun (k : Nat) => [(3, .d (.v (.int .i64 (k : Int))))]) [2, 3, 4, 5, 6, 7, 8, 9, 10, 11, 12, 13, 14] (fun (k : Nat) => k ≤ s.size ∧ ∀ j, j < k → plain (fG s j) = true) (fun (k : Nat) => s.size - k) (0) (by simp <;> rfl) ?_ ?_ ?_
 ·simp
 ·simp
 rintro k ⟨hk, hh⟩;simp only [List.cons_append, List.nil_append];apply aD;refine bC fun _ _ Z=>?_;simp;and_intros<;>(try omega);apply Z;refine zi ?_;refine ⟨fun c1=>?_,fun c1=>?_⟩
 ·try simp at c1
  apply aH;apply aB;apply aD;apply aK;refine bC fun _ _ Z=>?_;refine aA 3 fun _ Y=>?_;simp;and_intros<;>(try omega);apply Y;simp only [List.drop];refine aG fun _ Y=>?_;simp;refine cO (Li (fG s k) _) ?_;apply Y;simp;and_intros<;>(try omega);apply Z;refine zi ?_;refine ⟨fun c2=>?_,fun c2=>?_⟩
  ·try simp at c2
   refine bC fun _ _ Z=>?_;simp;and_intros<;>(try omega);apply Z;apply aE;apply aV;apply aL;apply eE;apply aV;apply aL;simp [aN, sC];intro _ _; exact Oi (k := k) (by rw [← yP]; simpa [fG] using c2) (by omega)
  ·try simp at c2
   apply aH;apply aP;apply aB;refine vS fun _ _ Z=>?_;simp;and_intros<;>(try omega);apply Z;refine bA (k + 1) ?_ ?_ (aW rfl ?_ (by simp) (by simp))
   ·exact ⟨by omega, wF hh (by rw [← yP]; simpa [fG] using c2)⟩
   ·try dsimp only
    omega
   ·simp
 ·try simp at c1
  apply bK;apply bJ;apply bL;apply aY;apply aB;refine lH ⟨[],[],[],[],[]⟩ fun all hall _ Z=>?_;have ga3 : aS all 3 = some 18 := hall 3;refine aA 4 fun _ Y=>?_;simp[ga3];and_intros<;>(try omega);apply Y;simp only [List.drop];refine aX 18 (by simp <;> rfl) ?_;refine ⟨fun g3 => ?_, fun g3 => ?_⟩
  ·try simp at g3
   simp[ga3];and_intros<;>(try omega);apply Z;apply aE;simp [aN, sC];have := Oq (p := plain) (s := s) hh (by omega);simp [this];rw [Bool.eq_iff_iff]; simp; omega
  ·try simp at g3
   simp[ga3];and_intros<;>(try omega);apply Z;apply aE;simp [aN, sC]
   intros; omega
theorem Bi (s : ByteArray) (σ : List (List D)) (hs : s.size ≤ 9223372036854775807) : Ct Tryz.prog 83 [D.str s] σ (fun r σ' => r = .bool (fE s) ∧ σ' = σ) := by
 refine zf (rs:=[.tmp 2]) Tryz.func83 Tryz.ntmps83 Tryz.results83 ?_;simp only [aQ];refine bC fun _ _ Z=>?_;simp;and_intros<;>(try omega);apply Z;refine lH ⟨[],[],[],[],[]⟩ fun all hall _ Z=>?_;have ga2 : aS all 2 = some 5 := hall 2;refine aA 1 fun _ Y=>?_;simp[ga2];and_intros<;>(try omega);apply Y;simp only [List.drop];refine aG fun _ Y=>?_;simp[ga2];refine cO (Wb s _ hs) ?_;apply Y;refine aA 1 fun _ Y=>?_;simp[ga2];and_intros<;>(try omega);apply Y;simp only [List.drop];refine aX 5 (by simp <;> rfl) ?_;refine ⟨fun g1 => ?_, fun g1 => ?_⟩
 ·try simp at g1
  have hpos := wB g1;simp[ga2];and_intros<;>(try omega);apply Z;apply aE;simp [aN, fE, g1, fG];rfl
 ·try simp at g1
  simp[ga2];and_intros<;>(try omega);apply Z;apply aE;simp [aN, fE, g1]
def Gi (n : Nat) (s : ByteArray) : ByteArray := if n < s.size then s.extract 0 n else s
theorem Db (n : Nat) (s : ByteArray) : (Gi n s).size ≤ n := by
 unfold Gi; split
 ·simp; omega
 ·omega
theorem Ol (s : ByteArray) (n : Nat) (σ : List (List D)) (hn : n ≤ 1000000) : Ct Tryz.prog 62 [D.str s, D.int n] σ (fun r σ' => r = .v (.string (Gi n s)) ∧ σ' = σ) := by
 refine zf (rs:=[.tmp 4]) Tryz.func62 Tryz.ntmps62 Tryz.results62 ?_;simp only [aQ];refine bC fun _ _ Z=>?_;simp;and_intros<;>(try omega);apply Z;apply aD;refine bC fun _ _ Z=>?_;simp;and_intros<;>(try omega);apply Z;refine zi ?_;refine ⟨fun c1=>?_,fun c1=>?_⟩
 ·try simp at c1
  refine bC fun _ _ Z=>?_;simp;and_intros<;>(try omega);apply Z;apply aE;apply aL;simp [aN, Gi, c1]
 ·try simp at c1
  apply aH;apply aB;refine bC fun _ _ Z=>?_;simp;and_intros<;>(try omega);apply Z;apply aE;simp [aN, Gi];intro h; omega
end Go.Proofs.YtpfmpeaekgdgnaaGreat


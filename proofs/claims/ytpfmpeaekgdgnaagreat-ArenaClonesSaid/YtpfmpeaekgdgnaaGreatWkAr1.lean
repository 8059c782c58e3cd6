import Derived.Test.YtpfmpeaekgdgnaaGreatVmTab
import Derived.Test.YtpfmpeaekgdgnaaGreatVmZ
namespace Go.Proofs.YtpfmpeaekgdgnaaGreat
open Go Go.Vm
set_option maxRecDepth 20000
set_option linter.all false
set_option maxHeartbeats 8000000
def fQ (s : ByteArray) (k : Nat) : Int := ((s.data[k]?.getD 0).toNat : Int)
def Es (p : Int → Bool) (s : ByteArray) : Bool := (List.range s.size).all fun k => p (fQ s k)
theorem Vg {p : Int → Bool} {s : ByteArray} {k : Nat} (h : ∀ j, j < k → p (fQ s j) = true) (hk : s.size ≤ k) : Es p s = true := by
 unfold Es;rw [List.all_eq_true];intro j hj;exact h j (by have := List.mem_range.1 hj; omega)
theorem Tt {p : Int → Bool} {s : ByteArray} {k : Nat} (h : p (fQ s k) = false) (hk : k < s.size) : Es p s = false := by
 rw [← Bool.not_eq_true];intro hh;unfold Es at hh;rw [List.all_eq_true] at hh;have := hh k (List.mem_range.2 hk);rw [h] at this; cases this
theorem aCr {p : Int → Bool} {s : ByteArray} (h : Es p s = true) (k : Nat) (hk : k < s.size) : p (fQ s k) = true := by
 unfold Es at h;rw [List.all_eq_true] at h;exact h k (List.mem_range.2 hk)
theorem wR {p : Int → Bool} {s : ByteArray} {k : Nat} (h : ∀ j, j < k → p (fQ s j) = true) (h2 : p (fQ s k) = true) : ∀ j, j < k + 1 → p (fQ s j) = true := fun j hj => by
 rcases Nat.lt_succ_iff_lt_or_eq.1 hj with h1 | rfl
 ·exact h j h1
 ·exact h2
def yE (x0 : Int) (x1 : Int) (x2 : Int) : Int := max x1 (min x0 x2)
theorem Yh (x0 : Int) (x1 : Int) (x2 : Int) (σ : List (List D))  : Ct Tryz.prog 42 [.v (.int .i64 x0), .v (.int .i64 x1), .v (.int .i64 x2)] σ (fun r σ' => r = .v (.int .i64 (yE x0 x1 x2)) ∧ σ' = σ) := by
 refine zf (rs:=[.tmp 6]) Tryz.func42 Tryz.ntmps42 Tryz.results42 ?_;simp only [aQ];refine aZ fun all K Z=>?_;simp;and_intros<;>(try omega);apply Z;clear Z K all;refine aZ fun all K Z=>?_;simp;and_intros<;>(try omega);apply Z;clear Z K all;apply aC;first | (simp [aM, yE]; done) | (simp [aM, yE]; done) | (simp [aM]; unfold yE; (repeat' split) <;> first | (exfalso; omega) | (simp_all; done)) | (simp [aM, yE, *]; done) | (simp_all [aM, yE]; done) | (simp_all [aM, yE]; omega) | (simp [aM, yE] <;> split <;> omega)
def Cp (x0 : Int) : Int := max (-2147483648) (min x0 2147483647)
theorem aCt (x0 : Int) (σ : List (List D))  : Ct Tryz.prog 128 [.v (.int .i64 x0)] σ (fun r σ' => r = .v (.int .i64 (Cp x0)) ∧ σ' = σ) := by
 refine zf (rs:=[.tmp 2]) Tryz.func128 Tryz.ntmps128 Tryz.results128 ?_;simp only [aQ];refine aZ fun all K Z=>?_;simp;and_intros<;>(try omega);apply Z;clear Z K all;refine aZ fun all K Z=>?_;simp;and_intros<;>(try omega);apply Z;clear Z K all;apply aC;first | (simp [aM, Cp]; done) | (simp [aM, Cp]; done) | (simp [aM]; unfold Cp; (repeat' split) <;> first | (exfalso; omega) | (simp_all; done)) | (simp [aM, Cp, *]; done) | (simp_all [aM, Cp]; done) | (simp_all [aM, Cp]; omega) | (simp [aM, Cp] <;> split <;> omega)
def jZ (x0 : Int) : Int := if x0 > 2147483647 then 2147483647
 else if x0 < (-2147483648) then (-2147483648)
  else x0
theorem aAe (x0 : Int) (σ : List (List D))  : Ct Tryz.prog 99 [.v (.int .i64 x0)] σ (fun r σ' => r = .v (.int .i64 (jZ x0)) ∧ σ' = σ) := by
 refine zf (rs:=[.tmp 2]) Tryz.func99 Tryz.ntmps99 Tryz.results99 ?_;simp only [aQ];refine aZ fun all K Z=>?_;simp;and_intros<;>(try omega);apply Z;clear Z K all;apply aD;refine aZ fun all K Z=>?_;simp;and_intros<;>(try omega);apply Z;clear Z K all;refine zi ?_;refine ⟨fun c1=>?_,fun c1=>?_⟩
 ·try simp at c1
  all_goals try (exfalso; omega)
  all_goals
   refine aZ fun all K Z=>?_;simp;and_intros<;>(try omega);apply Z;clear Z K all;apply aC;apply aJ;first | (simp [aM, jZ, c1]; done) | (simp [aM, jZ]; done) | (simp [aM]; unfold jZ; (repeat' split) <;> first | (exfalso; omega) | (simp_all; done)) | (simp [aM, jZ, *]; done) | (simp_all [aM, jZ]; done) | (simp_all [aM, jZ]; omega) | (simp [aM, jZ] <;> split <;> omega)
 ·try simp at c1
  all_goals try (exfalso; omega)
  all_goals
   apply aG;apply aB;apply aD;refine aZ fun all K Z=>?_;simp;and_intros<;>(try omega);apply Z;clear Z K all;refine zi ?_;refine ⟨fun c2=>?_,fun c2=>?_⟩
   ·try simp at c2
    all_goals try (exfalso; omega)
    all_goals
     refine aZ fun all K Z=>?_;simp;and_intros<;>(try omega);apply Z;clear Z K all;apply aC;apply aJ;first | (simp [aM, jZ, c1, c2]; done) | (simp [aM, jZ]; done) | (simp [aM]; unfold jZ; (repeat' split) <;> first | (exfalso; omega) | (simp_all; done)) | (simp [aM, jZ, *]; done) | (simp_all [aM, jZ]; done) | (simp_all [aM, jZ]; omega) | (simp [aM, jZ] <;> split <;> omega)
   ·try simp at c2
    all_goals try (exfalso; omega)
    all_goals
     apply aG;apply aB;refine aZ fun all K Z=>?_;simp;and_intros<;>(try omega);apply Z;clear Z K all;apply aC;first | (simp [aM, jZ, c1, c2]; done) | (simp [aM, jZ]; done) | (simp [aM]; unfold jZ; (repeat' split) <;> first | (exfalso; omega) | (simp_all; done)) | (simp [aM, jZ, *]; done) | (simp_all [aM, jZ]; done) | (simp_all [aM, jZ]; omega) | (simp [aM, jZ] <;> split <;> omega)
def fO (x0 : Int) : Bool := if x0 ≥ 97 then decide (x0 ≤ 122)
 else false
theorem Ae (x0 : Int) (σ : List (List D))  : Ct Tryz.prog 117 [.v (.int .u8 x0)] σ (fun r σ' => r = .v (.bool (fO x0)) ∧ σ' = σ) := by
 refine zf (rs:=[.tmp 2]) Tryz.func117 Tryz.ntmps117 Tryz.results117 ?_;simp only [aQ];refine aZ fun all K Z=>?_;simp;and_intros<;>(try omega);apply Z;clear Z K all;refine lA ⟨[],[],[],[],[]⟩ fun all hall K Z=>?_;have ga2 : aR all 2 = some 5 := hall 2;clear hall;refine aA 3 fun K' Y=>?_;simp[ga2];and_intros<;>(try omega);apply Y;clear Y K';simp only [List.drop];refine aX 5 (by simp <;> rfl) ?_;refine ⟨fun g1 => ?_, fun g1 => ?_⟩
 ·try simp at g1
  all_goals try (exfalso; omega)
  all_goals
   simp[ga2];and_intros<;>(try omega);apply Z;clear Z K ga2 all;apply aC;first | (simp [aM, fO, g1]; done) | (simp [aM, fO]; done) | (simp [aM]; unfold fO; (repeat' split) <;> first | (exfalso; omega) | (simp_all; done)) | (simp [aM, fO, *]; done) | (simp_all [aM, fO]; done) | (simp_all [aM, fO]; omega) | (simp [aM, fO] <;> split <;> omega)
 ·try simp at g1
  all_goals try (exfalso; omega)
  all_goals
   simp[ga2];and_intros<;>(try omega);apply Z;clear Z K ga2 all;apply aC;first | (simp [aM, fO, g1]; done) | (simp [aM, fO]; done) | (simp [aM]; unfold fO; (repeat' split) <;> first | (exfalso; omega) | (simp_all; done)) | (simp [aM, fO, *]; done) | (simp_all [aM, fO]; done) | (simp_all [aM, fO]; omega) | (simp [aM, fO] <;> split <;> omega)
def jN (x0 : Int) : Bool := if x0 ≥ 48 then decide (x0 ≤ 57)
 else false
theorem Si (x0 : Int) (σ : List (List D))  : Ct Tryz.prog 159 [.v (.int .u8 x0)] σ (fun r σ' => r = .v (.bool (jN x0)) ∧ σ' = σ) := by
 refine zf (rs:=[.tmp 2]) Tryz.func159 Tryz.ntmps159 Tryz.results159 ?_;simp only [aQ];refine aZ fun all K Z=>?_;simp;and_intros<;>(try omega);apply Z;clear Z K all;refine lA ⟨[],[],[],[],[]⟩ fun all hall K Z=>?_;have ga2 : aR all 2 = some 5 := hall 2;clear hall;refine aA 3 fun K' Y=>?_;simp[ga2];and_intros<;>(try omega);apply Y;clear Y K';simp only [List.drop];refine aX 5 (by simp <;> rfl) ?_;refine ⟨fun g1 => ?_, fun g1 => ?_⟩
 ·try simp at g1
  all_goals try (exfalso; omega)
  all_goals
   simp[ga2];and_intros<;>(try omega);apply Z;clear Z K ga2 all;apply aC;first | (simp [aM, jN, g1]; done) | (simp [aM, jN]; done) | (simp [aM]; unfold jN; (repeat' split) <;> first | (exfalso; omega) | (simp_all; done)) | (simp [aM, jN, *]; done) | (simp_all [aM, jN]; done) | (simp_all [aM, jN]; omega) | (simp [aM, jN] <;> split <;> omega)
 ·try simp at g1
  all_goals try (exfalso; omega)
  all_goals
   simp[ga2];and_intros<;>(try omega);apply Z;clear Z K ga2 all;apply aC;first | (simp [aM, jN, g1]; done) | (simp [aM, jN]; done) | (simp [aM]; unfold jN; (repeat' split) <;> first | (exfalso; omega) | (simp_all; done)) | (simp [aM, jN, *]; done) | (simp_all [aM, jN]; done) | (simp_all [aM, jN]; omega) | (simp [aM, jN] <;> split <;> omega)
def plain (x0 : Int) : Bool := if (fO x0) = true then true
 else if (jN x0) = true then true
  else decide (x0 = 45)
theorem Po (x0 : Int) (σ : List (List D))  : Ct Tryz.prog 139 [.v (.int .u8 x0)] σ (fun r σ' => r = .v (.bool (plain x0)) ∧ σ' = σ) := by
 refine zf (rs:=[.tmp 2]) Tryz.func139 Tryz.ntmps139 Tryz.results139 ?_;simp only [aQ];refine aZ fun all K Z=>?_;simp;and_intros<;>(try omega);apply Z;clear Z K all;refine lA ⟨[],[],[],[],[]⟩ fun all hall K Z=>?_;have ga2 : aR all 2 = some 5 := hall 2;have ga6 : aR all 6 = some 9 := hall 6;clear hall;refine aA 1 fun K' Y=>?_;simp[ga2,ga6];and_intros<;>(try omega);apply Y;clear Y K';simp only [List.drop];refine aF fun K' Y=>?_;simp[ga2,ga6];refine cO (Ae x0 _ ) ?_;apply Y;clear Y K';refine aA 1 fun K' Y=>?_;simp[ga2,ga6];and_intros<;>(try omega);apply Y;clear Y K';simp only [List.drop];refine aX 5 (by simp <;> rfl) ?_;refine ⟨fun g1 => ?_, fun g1 => ?_⟩
 ·try simp at g1
  all_goals try (exfalso; omega)
  all_goals
   refine aA 4 fun K' Y=>?_;simp[ga2,ga6];and_intros<;>(try omega);apply Y;clear Y K';simp only [List.drop];simp[ga2,ga6];and_intros<;>(try omega);apply Z;clear Z K ga2 ga6 all;apply aC;first | (simp [aM, plain, g1]; done) | (simp [aM, plain]; done) | (simp [aM]; unfold plain; (repeat' split) <;> first | (exfalso; omega) | (simp_all; done)) | (simp [aM, plain, *]; done) | (simp_all [aM, plain]; done) | (simp_all [aM, plain]; omega) | (simp [aM, plain] <;> split <;> omega)
 ·try simp at g1
  all_goals try (exfalso; omega)
  all_goals
   refine aA 1 fun K' Y=>?_;simp[ga2,ga6];and_intros<;>(try omega);apply Y;clear Y K';simp only [List.drop];refine zg ga2 fun K' Y=>?_;simp[ga2,ga6];refine cO (Si x0 _ ) ?_;apply Y;clear Y K';refine aA 2 fun K' Y=>?_;simp[ga2,ga6];and_intros<;>(try omega);apply Y;clear Y K';simp only [List.drop];refine aX 9 (by simp <;> rfl) ?_;refine ⟨fun g2 => ?_, fun g2 => ?_⟩
   ·try simp at g2
    all_goals try (exfalso; omega)
    all_goals
     simp[ga2,ga6];and_intros<;>(try omega);apply Z;clear Z K ga2 ga6 all;apply aC;first | (simp [aM, plain, g1, g2]; done) | (simp [aM, plain]; done) | (simp [aM]; unfold plain; (repeat' split) <;> first | (exfalso; omega) | (simp_all; done)) | (simp [aM, plain, *]; done) | (simp_all [aM, plain]; done) | (simp_all [aM, plain]; omega) | (simp [aM, plain] <;> split <;> omega)
   ·try simp at g2
    all_goals try (exfalso; omega)
    all_goals
     simp[ga2,ga6];and_intros<;>(try omega);apply Z;clear Z K ga2 ga6 all;apply aC;first | (simp [aM, plain, g1, g2]; done) | (simp [aM, plain]; done) | (simp [aM]; unfold plain; (repeat' split) <;> first | (exfalso; omega) | (simp_all; done)) | (simp [aM, plain, *]; done) | (simp_all [aM, plain]; done) | (simp_all [aM, plain]; omega) | (simp [aM, plain] <;> split <;> omega)
def cF (x0 : Int) : Bool := if x0 ≥ 97 then if x0 ≤ 122 then true
  else if x0 ≥ 48 then if x0 ≤ 57 then true
    else decide (x0 = 45)
   else decide (x0 = 45)
 else if x0 ≥ 48 then if x0 ≤ 57 then true
   else decide (x0 = 45)
  else decide (x0 = 45)
theorem Ll (x0 : Int) (σ : List (List D))  : Ct Tryz.prog 141 [.v (.int .u8 x0)] σ (fun r σ' => r = .v (.bool (cF x0)) ∧ σ' = σ) := by
 refine zf (rs:=[.tmp 2]) Tryz.func141 Tryz.ntmps141 Tryz.results141 ?_;simp only [aQ];refine aZ fun all K Z=>?_;simp;and_intros<;>(try omega);apply Z;clear Z K all;refine lA ⟨[],[],[],[],[]⟩ fun all hall K Z=>?_;have ga2 : aR all 2 = some 5 := hall 2;have ga6 : aR all 6 = some 9 := hall 6;have ga9 : aR all 9 = some 12 := hall 9;have ga14 : aR all 14 = some 17 := hall 14;clear hall;refine aA 3 fun K' Y=>?_;simp[ga2,ga6,ga9,ga14];and_intros<;>(try omega);apply Y;clear Y K';simp only [List.drop];refine aX 5 (by simp <;> rfl) ?_;refine ⟨fun g1 => ?_, fun g1 => ?_⟩
 ·try simp at g1
  all_goals try (exfalso; omega)
  all_goals
   refine aA 4 fun K' Y=>?_;simp[ga2,ga6,ga9,ga14];and_intros<;>(try omega);apply Y;clear Y K';simp only [List.drop];refine aX 9 (by simp <;> rfl) ?_;refine ⟨fun g2 => ?_, fun g2 => ?_⟩
   ·try simp at g2
    all_goals try (exfalso; omega)
    all_goals
     refine aA 8 fun K' Y=>?_;simp[ga2,ga6,ga9,ga14];and_intros<;>(try omega);apply Y;clear Y K';simp only [List.drop];simp[ga2,ga6,ga9,ga14];and_intros<;>(try omega);apply Z;clear Z K ga2 ga6 ga9 ga14 all;apply aC;first | (simp [aM, cF, g1, g2]; done) | (simp [aM, cF]; done) | (simp [aM]; unfold cF; (repeat' split) <;> first | (exfalso; omega) | (simp_all; done)) | (simp [aM, cF, *]; done) | (simp_all [aM, cF]; done) | (simp_all [aM, cF]; omega) | (simp [aM, cF] <;> split <;> omega)
   ·try simp at g2
    all_goals try (exfalso; omega)
    all_goals
     refine aA 3 fun K' Y=>?_;simp[ga2,ga6,ga9,ga14];and_intros<;>(try omega);apply Y;clear Y K';simp only [List.drop];refine aX 12 (by simp <;> rfl) ?_;refine ⟨fun g3 => ?_, fun g3 => ?_⟩
     ·try simp at g3
      all_goals try (exfalso; omega)
      all_goals
       refine aA 5 fun K' Y=>?_;simp[ga2,ga6,ga9,ga14];and_intros<;>(try omega);apply Y;clear Y K';simp only [List.drop];refine aX 17 (by simp <;> rfl) ?_;refine ⟨fun g4 => ?_, fun g4 => ?_⟩
       ·try simp at g4
        all_goals try (exfalso; omega)
        all_goals
         simp[ga2,ga6,ga9,ga14];and_intros<;>(try omega);apply Z;clear Z K ga2 ga6 ga9 ga14 all;apply aC;first | (simp [aM, cF, g1, g2, g3, g4]; done) | (simp [aM, cF]; done) | (simp [aM]; unfold cF; (repeat' split) <;> first | (exfalso; omega) | (simp_all; done)) | (simp [aM, cF, *]; done) | (simp_all [aM, cF]; done) | (simp_all [aM, cF]; omega) | (simp [aM, cF] <;> split <;> omega)
       ·try simp at g4
        all_goals try (exfalso; omega)
        all_goals
         simp[ga2,ga6,ga9,ga14];and_intros<;>(try omega);apply Z;clear Z K ga2 ga6 ga9 ga14 all;apply aC;first | (simp [aM, cF, g1, g2, g3, g4]; done) | (simp [aM, cF]; done) | (simp [aM]; unfold cF; (repeat' split) <;> first | (exfalso; omega) | (simp_all; done)) | (simp [aM, cF, *]; done) | (simp_all [aM, cF]; done) | (simp_all [aM, cF]; omega) | (simp [aM, cF] <;> split <;> omega)
     ·try simp at g3
      all_goals try (exfalso; omega)
      all_goals
       refine aA 5 fun K' Y=>?_;simp[ga2,ga6,ga9,ga14];and_intros<;>(try omega);apply Y;clear Y K';simp only [List.drop];simp[ga2,ga6,ga9,ga14];and_intros<;>(try omega);apply Z;clear Z K ga2 ga6 ga9 ga14 all;apply aC;first | (simp [aM, cF, g1, g2, g3]; done) | (simp [aM, cF]; done) | (simp [aM]; unfold cF; (repeat' split) <;> first | (exfalso; omega) | (simp_all; done)) | (simp [aM, cF, *]; done) | (simp_all [aM, cF]; done) | (simp_all [aM, cF]; omega) | (simp [aM, cF] <;> split <;> omega)
 ·try simp at g1
  all_goals try (exfalso; omega)
  all_goals
   refine aA 4 fun K' Y=>?_;simp[ga2,ga6,ga9,ga14];and_intros<;>(try omega);apply Y;clear Y K';simp only [List.drop];refine aA 3 fun K' Y=>?_;simp[ga2,ga6,ga9,ga14];and_intros<;>(try omega);apply Y;clear Y K';simp only [List.drop];refine aX 12 (by simp <;> rfl) ?_;refine ⟨fun g5 => ?_, fun g5 => ?_⟩
   ·try simp at g5
    all_goals try (exfalso; omega)
    all_goals
     refine aA 5 fun K' Y=>?_;simp[ga2,ga6,ga9,ga14];and_intros<;>(try omega);apply Y;clear Y K';simp only [List.drop];refine aX 17 (by simp <;> rfl) ?_;refine ⟨fun g6 => ?_, fun g6 => ?_⟩
     ·try simp at g6
      all_goals try (exfalso; omega)
      all_goals
       simp[ga2,ga6,ga9,ga14];and_intros<;>(try omega);apply Z;clear Z K ga2 ga6 ga9 ga14 all;apply aC;first | (simp [aM, cF, g1, g5, g6]; done) | (simp [aM, cF]; done) | (simp [aM]; unfold cF; (repeat' split) <;> first | (exfalso; omega) | (simp_all; done)) | (simp [aM, cF, *]; done) | (simp_all [aM, cF]; done) | (simp_all [aM, cF]; omega) | (simp [aM, cF] <;> split <;> omega)
     ·try simp at g6
      all_goals try (exfalso; omega)
      all_goals
       simp[ga2,ga6,ga9,ga14];and_intros<;>(try omega);apply Z;clear Z K ga2 ga6 ga9 ga14 all;apply aC;first | (simp [aM, cF, g1, g5, g6]; done) | (simp [aM, cF]; done) | (simp [aM]; unfold cF; (repeat' split) <;> first | (exfalso; omega) | (simp_all; done)) | (simp [aM, cF, *]; done) | (simp_all [aM, cF]; done) | (simp_all [aM, cF]; omega) | (simp [aM, cF] <;> split <;> omega)
   ·try simp at g5
    all_goals try (exfalso; omega)
    all_goals
     refine aA 5 fun K' Y=>?_;simp[ga2,ga6,ga9,ga14];and_intros<;>(try omega);apply Y;clear Y K';simp only [List.drop];simp[ga2,ga6,ga9,ga14];and_intros<;>(try omega);apply Z;clear Z K ga2 ga6 ga9 ga14 all;apply aC;first | (simp [aM, cF, g1, g5]; done) | (simp [aM, cF]; done) | (simp [aM]; unfold cF; (repeat' split) <;> first | (exfalso; omega) | (simp_all; done)) | (simp [aM, cF, *]; done) | (simp_all [aM, cF]; done) | (simp_all [aM, cF]; omega) | (simp [aM, cF] <;> split <;> omega)
theorem aBe (x : Int) : jZ x = Cp x := by
 unfold jZ Cp
 repeat' split
 all_goals first | rfl | omega | skip
theorem Hs (x : Int) : fO x = true ↔ 97 ≤ x ∧ x ≤ 122 := by unfold fO; simp
theorem yY (x : Int) : plain x = true ↔ (97 ≤ x ∧ x ≤ 122) ∨ (48 ≤ x ∧ x ≤ 57) ∨ x = 45 := by
 unfold plain fO jN; repeat' split
 all_goals simp_all
 all_goals omega
theorem Ie (x : Int) : cF x = true ↔ (97 ≤ x ∧ x ≤ 122) ∨ (48 ≤ x ∧ x ≤ 57) ∨ x = 45 := by
 unfold cF; repeat' split
 all_goals simp_all
 all_goals omega
theorem zD (x : Int) : cF x = plain x := by rw [Bool.eq_iff_iff, Ie, yY]
def sE (s : ByteArray) : Bool := decide (1 ≤ s.size ∧ s.size ≤ 16) && Es plain s
def fR (s : ByteArray) : Bool := sE s && decide (97 ≤ fQ s 0)
theorem Fs (s : ByteArray) : (s = ⟨#[]⟩) ↔ s.size = 0 := by
 constructor
 ·rintro rfl; rfl
 ·intro h;cases s with
  | mk d =>
   have : d.size = 0 := h;have : d = #[] := by simpa using this
   rw [this]
theorem Xl (s : ByteArray) (p : Int → Bool) (f : FuncId) (σ : List (List D)) (hs : s.size ≤ 9223372036854775807) (hp : ∀ x τ, Ct Tryz.prog f [.v (.int .u8 x)] τ (fun r τ' => r = .bool (p x) ∧ τ' = τ)) : Ct Tryz.prog 138 [D.str s, .clo (.func f) [] []] σ (fun r σ' => r = .bool (Es p s) ∧ σ' = σ) := by
 refine zf (rs:=[.tmp 4]) Tryz.func138 Tryz.ntmps138 Tryz.results138 ?_;simp only [aQ];refine aZ fun _ _ Z=>?_;simp;and_intros<;>(try omega);apply Z;apply aD;refine aZ fun _ _ Z=>?_;simp;and_intros<;>(try omega);apply Z;apply aK;refine zk [0,1,4,7,8] ?_;refine bR (fun (k : Nat) => [(8, .d (.v (.int .i64 (k : Int)))), (5, .d (.any))]) [4, 5, 8, 9, 10, 11, 12, 13, 14, 15, 16, 17] (fun (k : Nat) => k ≤ s.size ∧ ∀ j, j < k → p (fQ s j) = true) (fun (k : Nat) => s.size - k) (0) (by simp <;> rfl) ?_ ?_ ?_
 ·simp
 ·simp
 rintro k ⟨hk, hh⟩;simp only [List.cons_append, List.nil_append];refine aZ fun _ _ Z=>?_;simp;and_intros<;>(try omega);apply Z;apply aD;refine zi ?_;refine ⟨fun c1=>?_,fun c1=>?_⟩
 ·try simp at c1
  apply aG;apply aB;apply aD;apply aK;refine aZ fun _ _ Z=>?_;simp;and_intros<;>(try omega);apply Z;refine aZ fun _ _ Z=>?_;refine aA 4 fun _ Y=>?_;simp;and_intros<;>(try omega);apply Y;simp only [List.drop];refine aF fun _ Y=>?_;simp;refine cO (hp (fQ s k) _) ?_;apply Y;simp;and_intros<;>(try omega);apply Z;refine zi ?_;refine ⟨fun c2=>?_,fun c2=>?_⟩
  ·try simp at c2
   refine zk [0,1,5,7,8] ?_;refine aZ fun _ _ Z=>?_;simp;and_intros<;>(try omega);apply Z;apply aC;apply aU;apply aJ;apply eJ;apply aU;apply aJ;simp [aM];exact Tt (k := k) (by simpa [fQ] using c2) (by omega)
  ·try simp at c2
   apply aG;apply aP;apply aB;refine zk [0,1,5,7,8] ?_;refine uM fun _ _ Z=>?_;simp;and_intros<;>(try omega);apply Z;refine bB (k + 1) ?_ ?_ (aW rfl ?_ (by simp) (by simp))
   ·exact ⟨by omega, wR hh (by simpa [fQ] using c2)⟩
   ·try dsimp only
    omega
   ·simp
 ·try simp at c1
  apply bN;apply bP;apply bO;apply bG;apply aB;refine aZ fun _ _ Z=>?_;simp;and_intros<;>(try omega);apply Z;apply aC;simp [aM];exact Vg hh (by omega)
theorem Wt (s : ByteArray) (σ : List (List D)) (hs : s.size ≤ 9223372036854775807) : Ct Tryz.prog 116 [D.str s] σ (fun r σ' => r = .bool (sE s) ∧ σ' = σ) := by
 refine zf (rs:=[.tmp 2]) Tryz.func116 Tryz.ntmps116 Tryz.results116 ?_;simp only [aQ];refine aZ fun _ _ Z=>?_;simp;and_intros<;>(try omega);apply Z;refine lA ⟨[],[],[],[],[]⟩ fun all hall _ Z=>?_;have ga2 : aR all 2 = some 5 := hall 2;have ga7 : aR all 7 = some 10 := hall 7;refine aA 3 fun _ Y=>?_;simp[ga2,ga7];and_intros<;>(try omega);apply Y;simp only [List.drop];refine aX 5 (by simp <;> rfl) ?_;refine ⟨fun g1 => ?_, fun g1 => ?_⟩
 ·try simp at g1
  refine aA 5 fun _ Y=>?_;simp[ga2,ga7];and_intros<;>(try omega);apply Y;simp only [List.drop];refine aX 10 (by simp <;> rfl) ?_;refine ⟨fun g2 => ?_, fun g2 => ?_⟩
  ·try simp at g2
   refine aA 1 fun _ Y=>?_;simp[ga2,ga7];and_intros<;>(try omega);apply Y;simp only [List.drop];refine zg ga7 fun _ Y=>?_;simp[ga2,ga7];refine cO (Xl s plain 139 _ hs (fun x τ => Po x τ)) ?_;apply Y;simp[ga2,ga7];and_intros<;>(try omega);apply Z;apply aC;simp [aM, sE];rw [Fs] at g1
   intros; omega
  ·try simp at g2
   simp[ga2,ga7];and_intros<;>(try omega);apply Z;apply aC;simp [aM, sE]
   intros; omega
 ·try simp at g1
  refine aA 5 fun _ Y=>?_;simp[ga2,ga7];and_intros<;>(try omega);apply Y;simp only [List.drop];simp[ga2,ga7];and_intros<;>(try omega);apply Z;apply aC;simp [aM, sE];rw [Fs] at g1
  intros; omega
theorem wH {s : ByteArray} (h : sE s = true) : 0 < s.size ∧ s.size ≤ 16 := by
 unfold sE at h; simp at h; omega
theorem Jb {s : ByteArray} (h : sE s = true) : fO (fQ s 0) = decide (97 ≤ fQ s 0) := by
 have hp := (wH h).1;unfold sE at h;rw [Bool.and_eq_true] at h;have := aCr h.2 0 hp;rw [yY] at this;rw [Bool.eq_iff_iff, Hs, decide_eq_true_eq];omega
theorem oH (s : ByteArray) (σ : List (List D)) (hs : s.size ≤ 9223372036854775807) : Ct Tryz.prog 80 [D.str s] σ (fun r σ' => r = .bool (fR s) ∧ σ' = σ) := by
 refine zf (rs:=[.tmp 2]) Tryz.func80 Tryz.ntmps80 Tryz.results80 ?_;simp only [aQ];refine aZ fun _ _ Z=>?_;simp;and_intros<;>(try omega);apply Z;refine lA ⟨[],[],[],[],[]⟩ fun all hall _ Z=>?_;have ga2 : aR all 2 = some 5 := hall 2;refine aA 1 fun _ Y=>?_;simp[ga2];and_intros<;>(try omega);apply Y;simp only [List.drop];refine aF fun _ Y=>?_;simp[ga2];refine cO (Wt s _ hs) ?_;apply Y;refine aA 1 fun _ Y=>?_;simp[ga2];and_intros<;>(try omega);apply Y;simp only [List.drop];refine aX 5 (by simp <;> rfl) ?_;refine ⟨fun g1 => ?_, fun g1 => ?_⟩
 ·try simp at g1
  have hpos := wH g1;refine aA 2 fun _ Y=>?_;simp[ga2];and_intros<;>(try omega);apply Y;simp only [List.drop];refine zg ga2 fun _ Y=>?_;simp[ga2];refine cO (Ae (fQ s 0) _) ?_;apply Y;simp[ga2];and_intros<;>(try omega);apply Z;apply aC;simp [aM, fR, g1, Jb g1]
 ·try simp at g1
  simp[ga2];and_intros<;>(try omega);apply Z;apply aC;simp [aM, fR, g1]
theorem Xo (s : ByteArray) (σ : List (List D)) (hs : s.size ≤ 9223372036854775807) : Ct Tryz.prog 120 [D.str s] σ (fun r σ' => r = .bool (sE s) ∧ σ' = σ) := by
 refine zf (rs:=[.tmp 2]) Tryz.func120 Tryz.ntmps120 Tryz.results120 ?_;simp only [aQ];refine aZ fun _ _ Z=>?_;simp;and_intros<;>(try omega);apply Z;apply aD;refine aZ fun _ _ Z=>?_;simp;and_intros<;>(try omega);apply Z;apply aK;refine zk [0,2,3] ?_;refine bR (fun (k : Nat) => [(3, .d (.v (.int .i64 (k : Int))))]) [2, 3, 4, 5, 6, 7, 8, 9, 10, 11, 12, 13, 14] (fun (k : Nat) => k ≤ s.size ∧ ∀ j, j < k → plain (fQ s j) = true) (fun (k : Nat) => s.size - k) (0) (by simp <;> rfl) ?_ ?_ ?_
 ·simp
 ·simp
 rintro k ⟨hk, hh⟩;simp only [List.cons_append, List.nil_append];apply aD;refine aZ fun _ _ Z=>?_;simp;and_intros<;>(try omega);apply Z;refine zi ?_;refine ⟨fun c1=>?_,fun c1=>?_⟩
 ·try simp at c1
  apply aG;apply aB;apply aD;apply aK;refine aZ fun _ _ Z=>?_;refine aA 3 fun _ Y=>?_;simp;and_intros<;>(try omega);apply Y;simp only [List.drop];refine aF fun _ Y=>?_;simp;refine cO (Ll (fQ s k) _) ?_;apply Y;simp;and_intros<;>(try omega);apply Z;refine zi ?_;refine ⟨fun c2=>?_,fun c2=>?_⟩
  ·try simp at c2
   refine aZ fun _ _ Z=>?_;simp;and_intros<;>(try omega);apply Z;apply aC;apply aU;apply aJ;apply eJ;apply aU;apply aJ;simp [aM, sE];intro _ _; exact Tt (k := k) (by rw [← zD]; simpa [fQ] using c2) (by omega)
  ·try simp at c2
   apply aG;apply aP;apply aB;refine uM fun _ _ Z=>?_;simp;and_intros<;>(try omega);apply Z;refine bB (k + 1) ?_ ?_ (aW rfl ?_ (by simp) (by simp))
   ·exact ⟨by omega, wR hh (by rw [← zD]; simpa [fQ] using c2)⟩
   ·try dsimp only
    omega
   ·simp
 ·try simp at c1
  apply bN;apply bP;apply bO;apply bG;apply aB;refine lA ⟨[],[],[],[],[]⟩ fun all hall _ Z=>?_;have ga3 : aR all 3 = some 18 := hall 3;refine aA 4 fun _ Y=>?_;simp[ga3];and_intros<;>(try omega);apply Y;simp only [List.drop];refine aX 18 (by simp <;> rfl) ?_;refine ⟨fun g3 => ?_, fun g3 => ?_⟩
  ·try simp at g3
   simp[ga3];and_intros<;>(try omega);apply Z;apply aC;simp [aM, sE];have := Vg (p := plain) (s := s) hh (by omega);simp [this];rw [Bool.eq_iff_iff]; simp; omega
  ·try simp at g3
   simp[ga3];and_intros<;>(try omega);apply Z;apply aC;simp [aM, sE]
   intros; omega
theorem Eo (s : ByteArray) (σ : List (List D)) (hs : s.size ≤ 9223372036854775807) : Ct Tryz.prog 83 [D.str s] σ (fun r σ' => r = .bool (fR s) ∧ σ' = σ) := by
 refine zf (rs:=[.tmp 2]) Tryz.func83 Tryz.ntmps83 Tryz.results83 ?_;simp only [aQ];refine aZ fun _ _ Z=>?_;simp;and_intros<;>(try omega);apply Z;refine lA ⟨[],[],[],[],[]⟩ fun all hall _ Z=>?_;have ga2 : aR all 2 = some 5 := hall 2;refine aA 1 fun _ Y=>?_;simp[ga2];and_intros<;>(try omega);apply Y;simp only [List.drop];refine aF fun _ Y=>?_;simp[ga2];refine cO (Xo s _ hs) ?_;apply Y;refine aA 1 fun _ Y=>?_;simp[ga2];and_intros<;>(try omega);apply Y;simp only [List.drop];refine aX 5 (by simp <;> rfl) ?_;refine ⟨fun g1 => ?_, fun g1 => ?_⟩
 ·try simp at g1
  have hpos := wH g1;simp[ga2];and_intros<;>(try omega);apply Z;apply aC;simp [aM, fR, g1, fQ];rfl
 ·try simp at g1
  simp[ga2];and_intros<;>(try omega);apply Z;apply aC;simp [aM, fR, g1]
def Ig (n : Nat) (s : ByteArray) : ByteArray := if n < s.size then s.extract 0 n else s
theorem Do (n : Nat) (s : ByteArray) : (Ig n s).size ≤ n := by
 unfold Ig; split
 ·simp; omega
 ·omega
theorem Vb (s : ByteArray) (n : Nat) (σ : List (List D)) (hn : n ≤ 1000000) : Ct Tryz.prog 62 [D.str s, D.int n] σ (fun r σ' => r = .v (.string (Ig n s)) ∧ σ' = σ) := by
 refine zf (rs:=[.tmp 4]) Tryz.func62 Tryz.ntmps62 Tryz.results62 ?_;simp only [aQ];refine aZ fun _ _ Z=>?_;simp;and_intros<;>(try omega);apply Z;apply aD;refine aZ fun _ _ Z=>?_;simp;and_intros<;>(try omega);apply Z;refine zi ?_;refine ⟨fun c1=>?_,fun c1=>?_⟩
 ·try simp at c1
  refine aZ fun _ _ Z=>?_;simp;and_intros<;>(try omega);apply Z;apply aC;apply aJ;simp [aM, Ig, c1]
 ·try simp at c1
  apply aG;apply aB;refine aZ fun _ _ Z=>?_;simp;and_intros<;>(try omega);apply Z;apply aC;simp [aM, Ig];intro h; omega
end Go.Proofs.YtpfmpeaekgdgnaaGreat


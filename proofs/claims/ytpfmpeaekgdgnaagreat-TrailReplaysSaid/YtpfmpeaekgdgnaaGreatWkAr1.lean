import Derived.Test.YtpfmpeaekgdgnaaGreatVmTab
import Derived.Test.YtpfmpeaekgdgnaaGreatVmZ
namespace Go.Proofs.YtpfmpeaekgdgnaaGreat
open Go Go.Vm
set_option maxRecDepth 20000
set_option linter.all false
set_option maxHeartbeats 8000000
def fJ (s : ByteArray) (k : Nat) : Int := ((s.data[k]?.getD 0).toNat : Int)
def Cj (p : Int → Bool) (s : ByteArray) : Bool := (List.range s.size).all fun k => p (fJ s k)
theorem Rx {p : Int → Bool} {s : ByteArray} {k : Nat} (h : ∀ j, j < k → p (fJ s j) = true) (hk : s.size ≤ k) : Cj p s = true := by
 unfold Cj;rw [List.all_eq_true];intro j hj;exact h j (by have := List.mem_range.1 hj; omega)
theorem Rq {p : Int → Bool} {s : ByteArray} {k : Nat} (h : p (fJ s k) = false) (hk : k < s.size) : Cj p s = false := by
 rw [← Bool.not_eq_true];intro hh;unfold Cj at hh;rw [List.all_eq_true] at hh;have := hh k (List.mem_range.2 hk);rw [h] at this; cases this
theorem aBb {p : Int → Bool} {s : ByteArray} (h : Cj p s = true) (k : Nat) (hk : k < s.size) : p (fJ s k) = true := by
 unfold Cj at h;rw [List.all_eq_true] at h;exact h k (List.mem_range.2 hk)
theorem vZ {p : Int → Bool} {s : ByteArray} {k : Nat} (h : ∀ j, j < k → p (fJ s j) = true) (h2 : p (fJ s k) = true) : ∀ j, j < k + 1 → p (fJ s j) = true := fun j hj => by
 rcases Nat.lt_succ_iff_lt_or_eq.1 hj with h1 | rfl
 ·exact h j h1
 ·exact h2
def yD (x0 : Int) (x1 : Int) (x2 : Int) : Int := max x1 (min x0 x2)
theorem Yq (x0 : Int) (x1 : Int) (x2 : Int) (σ : List (List D))  : Ct Tryz.prog 42 [.v (.int .i64 x0), .v (.int .i64 x1), .v (.int .i64 x2)] σ (fun r σ' => r = .v (.int .i64 (yD x0 x1 x2)) ∧ σ' = σ) := by
 refine zf (rs:=[.tmp 6]) Tryz.func42 Tryz.ntmps42 Tryz.results42 ?_;simp only [aN];refine aY fun all K Z=>?_;simp;and_intros<;>(try omega);apply Z;clear Z K all;refine aY fun all K Z=>?_;simp;and_intros<;>(try omega);apply Z;clear Z K all;apply aC;first | (simp [aK, yD]; done) | (simp [aK, yD]; done) | (simp [aK]; unfold yD; (repeat' split) <;> first | (exfalso; omega) | (simp_all; done)) | (simp [aK, yD, *]; done) | (simp_all [aK, yD]; done) | (simp_all [aK, yD]; omega) | (simp [aK, yD] <;> split <;> omega)
def Ce (x0 : Int) : Int := max (-2147483648) (min x0 2147483647)
theorem aCq (x0 : Int) (σ : List (List D))  : Ct Tryz.prog 128 [.v (.int .i64 x0)] σ (fun r σ' => r = .v (.int .i64 (Ce x0)) ∧ σ' = σ) := by
 refine zf (rs:=[.tmp 2]) Tryz.func128 Tryz.ntmps128 Tryz.results128 ?_;simp only [aN];refine aY fun all K Z=>?_;simp;and_intros<;>(try omega);apply Z;clear Z K all;refine aY fun all K Z=>?_;simp;and_intros<;>(try omega);apply Z;clear Z K all;apply aC;first | (simp [aK, Ce]; done) | (simp [aK, Ce]; done) | (simp [aK]; unfold Ce; (repeat' split) <;> first | (exfalso; omega) | (simp_all; done)) | (simp [aK, Ce, *]; done) | (simp_all [aK, Ce]; done) | (simp_all [aK, Ce]; omega) | (simp [aK, Ce] <;> split <;> omega)
def kH (x0 : Int) : Int := if x0 > 2147483647 then 2147483647
 else if x0 < (-2147483648) then (-2147483648)
  else x0
theorem Xr (x0 : Int) (σ : List (List D))  : Ct Tryz.prog 99 [.v (.int .i64 x0)] σ (fun r σ' => r = .v (.int .i64 (kH x0)) ∧ σ' = σ) := by
 refine zf (rs:=[.tmp 2]) Tryz.func99 Tryz.ntmps99 Tryz.results99 ?_;simp only [aN];refine aY fun all K Z=>?_;simp;and_intros<;>(try omega);apply Z;clear Z K all;apply aE;refine aY fun all K Z=>?_;simp;and_intros<;>(try omega);apply Z;clear Z K all;refine zi ?_;refine ⟨fun c1=>?_,fun c1=>?_⟩
 ·try simp at c1
  all_goals try (exfalso; omega)
  all_goals
   refine aY fun all K Z=>?_;simp;and_intros<;>(try omega);apply Z;clear Z K all;apply aC;apply aH;first | (simp [aK, kH, c1]; done) | (simp [aK, kH]; done) | (simp [aK]; unfold kH; (repeat' split) <;> first | (exfalso; omega) | (simp_all; done)) | (simp [aK, kH, *]; done) | (simp_all [aK, kH]; done) | (simp_all [aK, kH]; omega) | (simp [aK, kH] <;> split <;> omega)
 ·try simp at c1
  all_goals try (exfalso; omega)
  all_goals
   apply aG;apply aB;apply aE;refine aY fun all K Z=>?_;simp;and_intros<;>(try omega);apply Z;clear Z K all;refine zi ?_;refine ⟨fun c2=>?_,fun c2=>?_⟩
   ·try simp at c2
    all_goals try (exfalso; omega)
    all_goals
     refine aY fun all K Z=>?_;simp;and_intros<;>(try omega);apply Z;clear Z K all;apply aC;apply aH;first | (simp [aK, kH, c1, c2]; done) | (simp [aK, kH]; done) | (simp [aK]; unfold kH; (repeat' split) <;> first | (exfalso; omega) | (simp_all; done)) | (simp [aK, kH, *]; done) | (simp_all [aK, kH]; done) | (simp_all [aK, kH]; omega) | (simp [aK, kH] <;> split <;> omega)
   ·try simp at c2
    all_goals try (exfalso; omega)
    all_goals
     apply aG;apply aB;refine aY fun all K Z=>?_;simp;and_intros<;>(try omega);apply Z;clear Z K all;apply aC;first | (simp [aK, kH, c1, c2]; done) | (simp [aK, kH]; done) | (simp [aK]; unfold kH; (repeat' split) <;> first | (exfalso; omega) | (simp_all; done)) | (simp [aK, kH, *]; done) | (simp_all [aK, kH]; done) | (simp_all [aK, kH]; omega) | (simp [aK, kH] <;> split <;> omega)
def fN (x0 : Int) : Bool := if x0 ≥ 97 then decide (x0 ≤ 122)
 else false
theorem zH (x0 : Int) (σ : List (List D))  : Ct Tryz.prog 117 [.v (.int .u8 x0)] σ (fun r σ' => r = .v (.bool (fN x0)) ∧ σ' = σ) := by
 refine zf (rs:=[.tmp 2]) Tryz.func117 Tryz.ntmps117 Tryz.results117 ?_;simp only [aN];refine aY fun all K Z=>?_;simp;and_intros<;>(try omega);apply Z;clear Z K all;refine oE ⟨[],[],[],[],[]⟩ fun all hall K Z=>?_;have ga2 : aT all 2 = some 5 := hall 2;clear hall;refine aA 3 fun K' Y=>?_;simp[ga2];and_intros<;>(try omega);apply Y;clear Y K';simp only [List.drop];refine aX 5 (by simp <;> rfl) ?_;refine ⟨fun g1 => ?_, fun g1 => ?_⟩
 ·try simp at g1
  all_goals try (exfalso; omega)
  all_goals
   simp[ga2];and_intros<;>(try omega);apply Z;clear Z K ga2 all;apply aC;first | (simp [aK, fN, g1]; done) | (simp [aK, fN]; done) | (simp [aK]; unfold fN; (repeat' split) <;> first | (exfalso; omega) | (simp_all; done)) | (simp [aK, fN, *]; done) | (simp_all [aK, fN]; done) | (simp_all [aK, fN]; omega) | (simp [aK, fN] <;> split <;> omega)
 ·try simp at g1
  all_goals try (exfalso; omega)
  all_goals
   simp[ga2];and_intros<;>(try omega);apply Z;clear Z K ga2 all;apply aC;first | (simp [aK, fN, g1]; done) | (simp [aK, fN]; done) | (simp [aK]; unfold fN; (repeat' split) <;> first | (exfalso; omega) | (simp_all; done)) | (simp [aK, fN, *]; done) | (simp_all [aK, fN]; done) | (simp_all [aK, fN]; omega) | (simp [aK, fN] <;> split <;> omega)
def jS (x0 : Int) : Bool := if x0 ≥ 48 then decide (x0 ≤ 57)
 else false
theorem Qm (x0 : Int) (σ : List (List D))  : Ct Tryz.prog 159 [.v (.int .u8 x0)] σ (fun r σ' => r = .v (.bool (jS x0)) ∧ σ' = σ) := by
 refine zf (rs:=[.tmp 2]) Tryz.func159 Tryz.ntmps159 Tryz.results159 ?_;simp only [aN];refine aY fun all K Z=>?_;simp;and_intros<;>(try omega);apply Z;clear Z K all;refine oE ⟨[],[],[],[],[]⟩ fun all hall K Z=>?_;have ga2 : aT all 2 = some 5 := hall 2;clear hall;refine aA 3 fun K' Y=>?_;simp[ga2];and_intros<;>(try omega);apply Y;clear Y K';simp only [List.drop];refine aX 5 (by simp <;> rfl) ?_;refine ⟨fun g1 => ?_, fun g1 => ?_⟩
 ·try simp at g1
  all_goals try (exfalso; omega)
  all_goals
   simp[ga2];and_intros<;>(try omega);apply Z;clear Z K ga2 all;apply aC;first | (simp [aK, jS, g1]; done) | (simp [aK, jS]; done) | (simp [aK]; unfold jS; (repeat' split) <;> first | (exfalso; omega) | (simp_all; done)) | (simp [aK, jS, *]; done) | (simp_all [aK, jS]; done) | (simp_all [aK, jS]; omega) | (simp [aK, jS] <;> split <;> omega)
 ·try simp at g1
  all_goals try (exfalso; omega)
  all_goals
   simp[ga2];and_intros<;>(try omega);apply Z;clear Z K ga2 all;apply aC;first | (simp [aK, jS, g1]; done) | (simp [aK, jS]; done) | (simp [aK]; unfold jS; (repeat' split) <;> first | (exfalso; omega) | (simp_all; done)) | (simp [aK, jS, *]; done) | (simp_all [aK, jS]; done) | (simp_all [aK, jS]; omega) | (simp [aK, jS] <;> split <;> omega)
def plain (x0 : Int) : Bool := if (fN x0) = true then true
 else if (jS x0) = true then true
  else decide (x0 = 45)
theorem Uj (x0 : Int) (σ : List (List D))  : Ct Tryz.prog 139 [.v (.int .u8 x0)] σ (fun r σ' => r = .v (.bool (plain x0)) ∧ σ' = σ) := by
 refine zf (rs:=[.tmp 2]) Tryz.func139 Tryz.ntmps139 Tryz.results139 ?_;simp only [aN];refine aY fun all K Z=>?_;simp;and_intros<;>(try omega);apply Z;clear Z K all;refine oE ⟨[],[],[],[],[]⟩ fun all hall K Z=>?_;have ga2 : aT all 2 = some 5 := hall 2;have ga6 : aT all 6 = some 9 := hall 6;clear hall;refine aA 1 fun K' Y=>?_;simp[ga2,ga6];and_intros<;>(try omega);apply Y;clear Y K';simp only [List.drop];refine aD fun K' Y=>?_;simp[ga2,ga6];refine bY (zH x0 _ ) ?_;apply Y;clear Y K';refine aA 1 fun K' Y=>?_;simp[ga2,ga6];and_intros<;>(try omega);apply Y;clear Y K';simp only [List.drop];refine aX 5 (by simp <;> rfl) ?_;refine ⟨fun g1 => ?_, fun g1 => ?_⟩
 ·try simp at g1
  all_goals try (exfalso; omega)
  all_goals
   refine aA 4 fun K' Y=>?_;simp[ga2,ga6];and_intros<;>(try omega);apply Y;clear Y K';simp only [List.drop];simp[ga2,ga6];and_intros<;>(try omega);apply Z;clear Z K ga2 ga6 all;apply aC;first | (simp [aK, plain, g1]; done) | (simp [aK, plain]; done) | (simp [aK]; unfold plain; (repeat' split) <;> first | (exfalso; omega) | (simp_all; done)) | (simp [aK, plain, *]; done) | (simp_all [aK, plain]; done) | (simp_all [aK, plain]; omega) | (simp [aK, plain] <;> split <;> omega)
 ·try simp at g1
  all_goals try (exfalso; omega)
  all_goals
   refine aA 1 fun K' Y=>?_;simp[ga2,ga6];and_intros<;>(try omega);apply Y;clear Y K';simp only [List.drop];refine zg ga2 fun K' Y=>?_;simp[ga2,ga6];refine bY (Qm x0 _ ) ?_;apply Y;clear Y K';refine aA 2 fun K' Y=>?_;simp[ga2,ga6];and_intros<;>(try omega);apply Y;clear Y K';simp only [List.drop];refine aX 9 (by simp <;> rfl) ?_;refine ⟨fun g2 => ?_, fun g2 => ?_⟩
   ·try simp at g2
    all_goals try (exfalso; omega)
    all_goals
     simp[ga2,ga6];and_intros<;>(try omega);apply Z;clear Z K ga2 ga6 all;apply aC;first | (simp [aK, plain, g1, g2]; done) | (simp [aK, plain]; done) | (simp [aK]; unfold plain; (repeat' split) <;> first | (exfalso; omega) | (simp_all; done)) | (simp [aK, plain, *]; done) | (simp_all [aK, plain]; done) | (simp_all [aK, plain]; omega) | (simp [aK, plain] <;> split <;> omega)
   ·try simp at g2
    all_goals try (exfalso; omega)
    all_goals
     simp[ga2,ga6];and_intros<;>(try omega);apply Z;clear Z K ga2 ga6 all;apply aC;first | (simp [aK, plain, g1, g2]; done) | (simp [aK, plain]; done) | (simp [aK]; unfold plain; (repeat' split) <;> first | (exfalso; omega) | (simp_all; done)) | (simp [aK, plain, *]; done) | (simp_all [aK, plain]; done) | (simp_all [aK, plain]; omega) | (simp [aK, plain] <;> split <;> omega)
def cF (x0 : Int) : Bool := if x0 ≥ 97 then if x0 ≤ 122 then true
  else if x0 ≥ 48 then if x0 ≤ 57 then true
    else decide (x0 = 45)
   else decide (x0 = 45)
 else if x0 ≥ 48 then if x0 ≤ 57 then true
   else decide (x0 = 45)
  else decide (x0 = 45)
theorem Oq (x0 : Int) (σ : List (List D))  : Ct Tryz.prog 141 [.v (.int .u8 x0)] σ (fun r σ' => r = .v (.bool (cF x0)) ∧ σ' = σ) := by
 refine zf (rs:=[.tmp 2]) Tryz.func141 Tryz.ntmps141 Tryz.results141 ?_;simp only [aN];refine aY fun all K Z=>?_;simp;and_intros<;>(try omega);apply Z;clear Z K all;refine oE ⟨[],[],[],[],[]⟩ fun all hall K Z=>?_;have ga2 : aT all 2 = some 5 := hall 2;have ga6 : aT all 6 = some 9 := hall 6;have ga9 : aT all 9 = some 12 := hall 9;have ga14 : aT all 14 = some 17 := hall 14;clear hall;refine aA 3 fun K' Y=>?_;simp[ga2,ga6,ga9,ga14];and_intros<;>(try omega);apply Y;clear Y K';simp only [List.drop];refine aX 5 (by simp <;> rfl) ?_;refine ⟨fun g1 => ?_, fun g1 => ?_⟩
 ·try simp at g1
  all_goals try (exfalso; omega)
  all_goals
   refine aA 4 fun K' Y=>?_;simp[ga2,ga6,ga9,ga14];and_intros<;>(try omega);apply Y;clear Y K';simp only [List.drop];refine aX 9 (by simp <;> rfl) ?_;refine ⟨fun g2 => ?_, fun g2 => ?_⟩
   ·try simp at g2
    all_goals try (exfalso; omega)
    all_goals
     refine aA 8 fun K' Y=>?_;simp[ga2,ga6,ga9,ga14];and_intros<;>(try omega);apply Y;clear Y K';simp only [List.drop];simp[ga2,ga6,ga9,ga14];and_intros<;>(try omega);apply Z;clear Z K ga2 ga6 ga9 ga14 all;apply aC;first | (simp [aK, cF, g1, g2]; done) | (simp [aK, cF]; done) | (simp [aK]; unfold cF; (repeat' split) <;> first | (exfalso; omega) | (simp_all; done)) | (simp [aK, cF, *]; done) | (simp_all [aK, cF]; done) | (simp_all [aK, cF]; omega) | (simp [aK, cF] <;> split <;> omega)
   ·try simp at g2
    all_goals try (exfalso; omega)
    all_goals
     refine aA 3 fun K' Y=>?_;simp[ga2,ga6,ga9,ga14];and_intros<;>(try omega);apply Y;clear Y K';simp only [List.drop];refine aX 12 (by simp <;> rfl) ?_;refine ⟨fun g3 => ?_, fun g3 => ?_⟩
     ·try simp at g3
      all_goals try (exfalso; omega)
      all_goals
       refine aA 5 fun K' Y=>?_;simp[ga2,ga6,ga9,ga14];and_intros<;>(try omega);apply Y;clear Y K';simp only [List.drop];refine aX 17 (by simp <;> rfl) ?_;refine ⟨fun g4 => ?_, fun g4 => ?_⟩
       ·try simp at g4
        all_goals try (exfalso; omega)
        all_goals
         simp[ga2,ga6,ga9,ga14];and_intros<;>(try omega);apply Z;clear Z K ga2 ga6 ga9 ga14 all;apply aC;first | (simp [aK, cF, g1, g2, g3, g4]; done) | (simp [aK, cF]; done) | (simp [aK]; unfold cF; (repeat' split) <;> first | (exfalso; omega) | (simp_all; done)) | (simp [aK, cF, *]; done) | (simp_all [aK, cF]; done) | (simp_all [aK, cF]; omega) | (simp [aK, cF] <;> split <;> omega)
       ·try simp at g4
        all_goals try (exfalso; omega)
        all_goals
         simp[ga2,ga6,ga9,ga14];and_intros<;>(try omega);apply Z;clear Z K ga2 ga6 ga9 ga14 all;apply aC;first | (simp [aK, cF, g1, g2, g3, g4]; done) | (simp [aK, cF]; done) | (simp [aK]; unfold cF; (repeat' split) <;> first | (exfalso; omega) | (simp_all; done)) | (simp [aK, cF, *]; done) | (simp_all [aK, cF]; done) | (simp_all [aK, cF]; omega) | (simp [aK, cF] <;> split <;> omega)
     ·try simp at g3
      all_goals try (exfalso; omega)
      all_goals
       refine aA 5 fun K' Y=>?_;simp[ga2,ga6,ga9,ga14];and_intros<;>(try omega);apply Y;clear Y K';simp only [List.drop];simp[ga2,ga6,ga9,ga14];and_intros<;>(try omega);apply Z;clear Z K ga2 ga6 ga9 ga14 all;apply aC;first | (simp [aK, cF, g1, g2, g3]; done) | (simp [aK, cF]; done) | (simp [aK]; unfold cF; (repeat' split) <;> first | (exfalso; omega) | (simp_all; done)) | (simp [aK, cF, *]; done) | (simp_all [aK, cF]; done) | (simp_all [aK, cF]; omega) | (simp [aK, cF] <;> split <;> omega)
 ·try simp at g1
  all_goals try (exfalso; omega)
  all_goals
   refine aA 4 fun K' Y=>?_;simp[ga2,ga6,ga9,ga14];and_intros<;>(try omega);apply Y;clear Y K';simp only [List.drop];refine aA 3 fun K' Y=>?_;simp[ga2,ga6,ga9,ga14];and_intros<;>(try omega);apply Y;clear Y K';simp only [List.drop];refine aX 12 (by simp <;> rfl) ?_;refine ⟨fun g5 => ?_, fun g5 => ?_⟩
   ·try simp at g5
    all_goals try (exfalso; omega)
    all_goals
     refine aA 5 fun K' Y=>?_;simp[ga2,ga6,ga9,ga14];and_intros<;>(try omega);apply Y;clear Y K';simp only [List.drop];refine aX 17 (by simp <;> rfl) ?_;refine ⟨fun g6 => ?_, fun g6 => ?_⟩
     ·try simp at g6
      all_goals try (exfalso; omega)
      all_goals
       simp[ga2,ga6,ga9,ga14];and_intros<;>(try omega);apply Z;clear Z K ga2 ga6 ga9 ga14 all;apply aC;first | (simp [aK, cF, g1, g5, g6]; done) | (simp [aK, cF]; done) | (simp [aK]; unfold cF; (repeat' split) <;> first | (exfalso; omega) | (simp_all; done)) | (simp [aK, cF, *]; done) | (simp_all [aK, cF]; done) | (simp_all [aK, cF]; omega) | (simp [aK, cF] <;> split <;> omega)
     ·try simp at g6
      all_goals try (exfalso; omega)
      all_goals
       simp[ga2,ga6,ga9,ga14];and_intros<;>(try omega);apply Z;clear Z K ga2 ga6 ga9 ga14 all;apply aC;first | (simp [aK, cF, g1, g5, g6]; done) | (simp [aK, cF]; done) | (simp [aK]; unfold cF; (repeat' split) <;> first | (exfalso; omega) | (simp_all; done)) | (simp [aK, cF, *]; done) | (simp_all [aK, cF]; done) | (simp_all [aK, cF]; omega) | (simp [aK, cF] <;> split <;> omega)
   ·try simp at g5
    all_goals try (exfalso; omega)
    all_goals
     refine aA 5 fun K' Y=>?_;simp[ga2,ga6,ga9,ga14];and_intros<;>(try omega);apply Y;clear Y K';simp only [List.drop];simp[ga2,ga6,ga9,ga14];and_intros<;>(try omega);apply Z;clear Z K ga2 ga6 ga9 ga14 all;apply aC;first | (simp [aK, cF, g1, g5]; done) | (simp [aK, cF]; done) | (simp [aK]; unfold cF; (repeat' split) <;> first | (exfalso; omega) | (simp_all; done)) | (simp [aK, cF, *]; done) | (simp_all [aK, cF]; done) | (simp_all [aK, cF]; omega) | (simp [aK, cF] <;> split <;> omega)
theorem aC3 (x : Int) : kH x = Ce x := by
 unfold kH Ce
 repeat' split
 all_goals first | rfl | omega | skip
theorem Jc (x : Int) : fN x = true ↔ 97 ≤ x ∧ x ≤ 122 := by unfold fN; simp
theorem yQ (x : Int) : plain x = true ↔ (97 ≤ x ∧ x ≤ 122) ∨ (48 ≤ x ∧ x ≤ 57) ∨ x = 45 := by
 unfold plain fN jS; repeat' split
 all_goals simp_all
 all_goals omega
theorem Iz (x : Int) : cF x = true ↔ (97 ≤ x ∧ x ≤ 122) ∨ (48 ≤ x ∧ x ≤ 57) ∨ x = 45 := by
 unfold cF; repeat' split
 all_goals simp_all
 all_goals omega
theorem yW (x : Int) : cF x = plain x := by rw [Bool.eq_iff_iff, Iz, yQ]
def sL (s : ByteArray) : Bool := decide (1 ≤ s.size ∧ s.size ≤ 16) && Cj plain s
def fL (s : ByteArray) : Bool := sL s && decide (97 ≤ fJ s 0)
theorem Fq (s : ByteArray) : (s = ⟨#[]⟩) ↔ s.size = 0 := by
 constructor
 ·rintro rfl; rfl
 ·intro h;cases s with
  | mk d =>
   have : d.size = 0 := h;have : d = #[] := by simpa using this
   rw [this]
theorem Xl (s : ByteArray) (p : Int → Bool) (f : FuncId) (σ : List (List D)) (hs : s.size ≤ 9223372036854775807) (hp : ∀ x τ, Ct Tryz.prog f [.v (.int .u8 x)] τ (fun r τ' => r = .bool (p x) ∧ τ' = τ)) : Ct Tryz.prog 138 [D.str s, .clo (.func f) [] []] σ (fun r σ' => r = .bool (Cj p s) ∧ σ' = σ) := by
 refine zf (rs:=[.tmp 4]) Tryz.func138 Tryz.ntmps138 Tryz.results138 ?_;simp only [aN];refine aY fun _ _ Z=>?_;simp;and_intros<;>(try omega);apply Z;apply aE;refine aY fun _ _ Z=>?_;simp;and_intros<;>(try omega);apply Z;apply aM;refine zk [0,1,4,7,8] ?_;refine bV (fun (k : Nat) => [(8, .d (.v (.int .i64 (k : Int)))), (5, .d (.any))]) [4, 5, 8, 9, 10, 11, 12, 13, 14, 15, 16, 17] (fun (k : Nat) => k ≤ s.size ∧ ∀ j, j < k → p (fJ s j) = true) (fun (k : Nat) => s.size - k) (0) (by simp <;> rfl) ?_ ?_ ?_
 ·simp
 ·simp
 rintro k ⟨hk, hh⟩;simp only [List.cons_append, List.nil_append];refine aY fun _ _ Z=>?_;simp;and_intros<;>(try omega);apply Z;apply aE;refine zi ?_;refine ⟨fun c1=>?_,fun c1=>?_⟩
 ·try simp at c1
  apply aG;apply aB;apply aE;apply aM;refine aY fun _ _ Z=>?_;simp;and_intros<;>(try omega);apply Z;refine aY fun _ _ Z=>?_;refine aA 4 fun _ Y=>?_;simp;and_intros<;>(try omega);apply Y;simp only [List.drop];refine aD fun _ Y=>?_;simp;refine bY (hp (fJ s k) _) ?_;apply Y;simp;and_intros<;>(try omega);apply Z;refine zi ?_;refine ⟨fun c2=>?_,fun c2=>?_⟩
  ·try simp at c2
   refine zk [0,1,5,7,8] ?_;refine aY fun _ _ Z=>?_;simp;and_intros<;>(try omega);apply Z;apply aC;apply aR;apply aH;apply eM;apply aR;apply aH;simp [aK];exact Rq (k := k) (by simpa [fJ] using c2) (by omega)
  ·try simp at c2
   apply aG;apply aQ;apply aB;refine zk [0,1,5,7,8] ?_;refine uP fun _ _ Z=>?_;simp;and_intros<;>(try omega);apply Z;refine bB (k + 1) ?_ ?_ (aV rfl ?_ (by simp) (by simp))
   ·exact ⟨by omega, vZ hh (by simpa [fJ] using c2)⟩
   ·try dsimp only
    omega
   ·simp
 ·try simp at c1
  apply bO;apply bM;apply bN;apply bG;apply aB;refine aY fun _ _ Z=>?_;simp;and_intros<;>(try omega);apply Z;apply aC;simp [aK];exact Rx hh (by omega)
theorem Xk (s : ByteArray) (σ : List (List D)) (hs : s.size ≤ 9223372036854775807) : Ct Tryz.prog 116 [D.str s] σ (fun r σ' => r = .bool (sL s) ∧ σ' = σ) := by
 refine zf (rs:=[.tmp 2]) Tryz.func116 Tryz.ntmps116 Tryz.results116 ?_;simp only [aN];refine aY fun _ _ Z=>?_;simp;and_intros<;>(try omega);apply Z;refine oE ⟨[],[],[],[],[]⟩ fun all hall _ Z=>?_;have ga2 : aT all 2 = some 5 := hall 2;have ga7 : aT all 7 = some 10 := hall 7;refine aA 3 fun _ Y=>?_;simp[ga2,ga7];and_intros<;>(try omega);apply Y;simp only [List.drop];refine aX 5 (by simp <;> rfl) ?_;refine ⟨fun g1 => ?_, fun g1 => ?_⟩
 ·try simp at g1
  refine aA 5 fun _ Y=>?_;simp[ga2,ga7];and_intros<;>(try omega);apply Y;simp only [List.drop];refine aX 10 (by simp <;> rfl) ?_;refine ⟨fun g2 => ?_, fun g2 => ?_⟩
  ·try simp at g2
   refine aA 1 fun _ Y=>?_;simp[ga2,ga7];and_intros<;>(try omega);apply Y;simp only [List.drop];refine zg ga7 fun _ Y=>?_;simp[ga2,ga7];refine bY (Xl s plain 139 _ hs (fun x τ => Uj x τ)) ?_;apply Y;simp[ga2,ga7];and_intros<;>(try omega);apply Z;apply aC;simp [aK, sL];rw [Fq] at g1
   intros; omega
  ·try simp at g2
   simp[ga2,ga7];and_intros<;>(try omega);apply Z;apply aC;simp [aK, sL]
   intros; omega
 ·try simp at g1
  refine aA 5 fun _ Y=>?_;simp[ga2,ga7];and_intros<;>(try omega);apply Y;simp only [List.drop];simp[ga2,ga7];and_intros<;>(try omega);apply Z;apply aC;simp [aK, sL];rw [Fq] at g1
  intros; omega
theorem vH {s : ByteArray} (h : sL s = true) : 0 < s.size ∧ s.size ≤ 16 := by
 unfold sL at h; simp at h; omega
theorem Gp {s : ByteArray} (h : sL s = true) : fN (fJ s 0) = decide (97 ≤ fJ s 0) := by
 have hp := (vH h).1;unfold sL at h;rw [Bool.and_eq_true] at h;have := aBb h.2 0 hp;rw [yQ] at this;rw [Bool.eq_iff_iff, Jc, decide_eq_true_eq];omega
theorem oH (s : ByteArray) (σ : List (List D)) (hs : s.size ≤ 9223372036854775807) : Ct Tryz.prog 80 [D.str s] σ (fun r σ' => r = .bool (fL s) ∧ σ' = σ) := by
 refine zf (rs:=[.tmp 2]) Tryz.func80 Tryz.ntmps80 Tryz.results80 ?_;simp only [aN];refine aY fun _ _ Z=>?_;simp;and_intros<;>(try omega);apply Z;refine oE ⟨[],[],[],[],[]⟩ fun all hall _ Z=>?_;have ga2 : aT all 2 = some 5 := hall 2;refine aA 1 fun _ Y=>?_;simp[ga2];and_intros<;>(try omega);apply Y;simp only [List.drop];refine aD fun _ Y=>?_;simp[ga2];refine bY (Xk s _ hs) ?_;apply Y;refine aA 1 fun _ Y=>?_;simp[ga2];and_intros<;>(try omega);apply Y;simp only [List.drop];refine aX 5 (by simp <;> rfl) ?_;refine ⟨fun g1 => ?_, fun g1 => ?_⟩
 ·try simp at g1
  have hpos := vH g1;refine aA 2 fun _ Y=>?_;simp[ga2];and_intros<;>(try omega);apply Y;simp only [List.drop];refine zg ga2 fun _ Y=>?_;simp[ga2];refine bY (zH (fJ s 0) _) ?_;apply Y;simp[ga2];and_intros<;>(try omega);apply Z;apply aC;simp [aK, fL, g1, Gp g1]
 ·try simp at g1
  simp[ga2];and_intros<;>(try omega);apply Z;apply aC;simp [aK, fL, g1]
theorem Zr (s : ByteArray) (σ : List (List D)) (hs : s.size ≤ 9223372036854775807) : Ct Tryz.prog 120 [D.str s] σ (fun r σ' => r = .bool (sL s) ∧ σ' = σ) := by
 refine zf (rs:=[.tmp 2]) Tryz.func120 Tryz.ntmps120 Tryz.results120 ?_;simp only [aN];refine aY fun _ _ Z=>?_;simp;and_intros<;>(try omega);apply Z;apply aE;refine aY fun _ _ Z=>?_;simp;and_intros<;>(try omega);apply Z;apply aM;refine zk [0,2,3] ?_;refine bV (fun (k : Nat) => [(3, .d (.v (.int .i64 (k : Int))))]) [2, 3, 4, 5, 6, 7, 8, 9, 10, 11, 12, 13, 14] (fun (k : Nat) => k ≤ s.size ∧ ∀ j, j < k → plain (fJ s j) = true) (fun (k : Nat) => s.size - k) (0) (by simp <;> rfl) ?_ ?_ ?_
 ·simp
 ·simp
 rintro k ⟨hk, hh⟩;simp only [List.cons_append, List.nil_append];apply aE;refine aY fun _ _ Z=>?_;simp;and_intros<;>(try omega);apply Z;refine zi ?_;refine ⟨fun c1=>?_,fun c1=>?_⟩
 ·try simp at c1
  apply aG;apply aB;apply aE;apply aM;refine aY fun _ _ Z=>?_;refine aA 3 fun _ Y=>?_;simp;and_intros<;>(try omega);apply Y;simp only [List.drop];refine aD fun _ Y=>?_;simp;refine bY (Oq (fJ s k) _) ?_;apply Y;simp;and_intros<;>(try omega);apply Z;refine zi ?_;refine ⟨fun c2=>?_,fun c2=>?_⟩
  ·try simp at c2
   refine aY fun _ _ Z=>?_;simp;and_intros<;>(try omega);apply Z;apply aC;apply aR;apply aH;apply eM;apply aR;apply aH;simp [aK, sL];intro _ _; exact Rq (k := k) (by rw [← yW]; simpa [fJ] using c2) (by omega)
  ·try simp at c2
   apply aG;apply aQ;apply aB;refine uP fun _ _ Z=>?_;simp;and_intros<;>(try omega);apply Z;refine bB (k + 1) ?_ ?_ (aV rfl ?_ (by simp) (by simp))
   ·exact ⟨by omega, vZ hh (by rw [← yW]; simpa [fJ] using c2)⟩
   ·try dsimp only
    omega
   ·simp
 ·try simp at c1
  apply bO;apply bM;apply bN;apply bG;apply aB;refine oE ⟨[],[],[],[],[]⟩ fun all hall _ Z=>?_;have ga3 : aT all 3 = some 18 := hall 3;refine aA 4 fun _ Y=>?_;simp[ga3];and_intros<;>(try omega);apply Y;simp only [List.drop];refine aX 18 (by simp <;> rfl) ?_;refine ⟨fun g3 => ?_, fun g3 => ?_⟩
  ·try simp at g3
   simp[ga3];and_intros<;>(try omega);apply Z;apply aC;simp [aK, sL];have := Rx (p := plain) (s := s) hh (by omega);simp [this];rw [Bool.eq_iff_iff]; simp; omega
  ·try simp at g3
   simp[ga3];and_intros<;>(try omega);apply Z;apply aC;simp [aK, sL]
   intros; omega
theorem Di (s : ByteArray) (σ : List (List D)) (hs : s.size ≤ 9223372036854775807) : Ct Tryz.prog 83 [D.str s] σ (fun r σ' => r = .bool (fL s) ∧ σ' = σ) := by
 refine zf (rs:=[.tmp 2]) Tryz.func83 Tryz.ntmps83 Tryz.results83 ?_;simp only [aN];refine aY fun _ _ Z=>?_;simp;and_intros<;>(try omega);apply Z;refine oE ⟨[],[],[],[],[]⟩ fun all hall _ Z=>?_;have ga2 : aT all 2 = some 5 := hall 2;refine aA 1 fun _ Y=>?_;simp[ga2];and_intros<;>(try omega);apply Y;simp only [List.drop];refine aD fun _ Y=>?_;simp[ga2];refine bY (Zr s _ hs) ?_;apply Y;refine aA 1 fun _ Y=>?_;simp[ga2];and_intros<;>(try omega);apply Y;simp only [List.drop];refine aX 5 (by simp <;> rfl) ?_;refine ⟨fun g1 => ?_, fun g1 => ?_⟩
 ·try simp at g1
  have hpos := vH g1;simp[ga2];and_intros<;>(try omega);apply Z;apply aC;simp [aK, fL, g1, fJ];rfl
 ·try simp at g1
  simp[ga2];and_intros<;>(try omega);apply Z;apply aC;simp [aK, fL, g1]
def Ja (n : Nat) (s : ByteArray) : ByteArray := if n < s.size then s.extract 0 n else s
theorem Fo (n : Nat) (s : ByteArray) : (Ja n s).size ≤ n := by
 unfold Ja; split
 ·simp; omega
 ·omega
theorem Wm (s : ByteArray) (n : Nat) (σ : List (List D)) (hn : n ≤ 1000000) : Ct Tryz.prog 62 [D.str s, D.int n] σ (fun r σ' => r = .v (.string (Ja n s)) ∧ σ' = σ) := by
 refine zf (rs:=[.tmp 4]) Tryz.func62 Tryz.ntmps62 Tryz.results62 ?_;simp only [aN];refine aY fun _ _ Z=>?_;simp;and_intros<;>(try omega);apply Z;apply aE;refine aY fun _ _ Z=>?_;simp;and_intros<;>(try omega);apply Z;refine zi ?_;refine ⟨fun c1=>?_,fun c1=>?_⟩
 ·try simp at c1
  refine aY fun _ _ Z=>?_;simp;and_intros<;>(try omega);apply Z;apply aC;apply aH;simp [aK, Ja, c1]
 ·try simp at c1
  apply aG;apply aB;refine aY fun _ _ Z=>?_;simp;and_intros<;>(try omega);apply Z;apply aC;simp [aK, Ja];intro h; omega
end Go.Proofs.YtpfmpeaekgdgnaaGreat


import Derived.Test.YtpfmpeaekgdgnaaGreatVmTab
import Derived.Test.YtpfmpeaekgdgnaaGreatVmZ
namespace Go.Proofs.YtpfmpeaekgdgnaaGreat
open Go Go.Vm
set_option maxRecDepth 20000
set_option linter.all false
set_option maxHeartbeats 8000000
def byteAt (s : ByteArray) (k : Nat) : Int := ((s.data[k]?.getD 0).toNat : Int)
def allB (p : Int → Bool) (s : ByteArray) : Bool := (List.range s.size).all fun k => p (byteAt s k)
theorem allB_t {p : Int → Bool} {s : ByteArray} {k : Nat} (h : ∀ j, j < k → p (byteAt s j) = true) (hk : s.size ≤ k) : allB p s = true := by
 unfold allB
 rw [List.all_eq_true]
 intro j hj
 exact h j (by have := List.mem_range.1 hj; omega)
theorem allB_f {p : Int → Bool} {s : ByteArray} {k : Nat} (h : p (byteAt s k) = false) (hk : k < s.size) : allB p s = false := by
 rw [← Bool.not_eq_true]
 intro hh
 unfold allB at hh
 rw [List.all_eq_true] at hh
 have := hh k (List.mem_range.2 hk)
 rw [h] at this; cases this
theorem allB_0 {p : Int → Bool} {s : ByteArray} (h : allB p s = true) (k : Nat) (hk : k < s.size) : p (byteAt s k) = true := by
 unfold allB at h
 rw [List.all_eq_true] at h
 exact h k (List.mem_range.2 hk)
theorem below_succ {p : Int → Bool} {s : ByteArray} {k : Nat} (h : ∀ j, j < k → p (byteAt s j) = true) (h2 : p (byteAt s k) = true) : ∀ j, j < k + 1 → p (byteAt s j) = true := fun j hj => by
 rcases Nat.lt_succ_iff_lt_or_eq.1 hj with h1 | rfl
 ·exact h j h1
 ·exact h2
def clip (x0 : Int) (x1 : Int) (x2 : Int) : Int := max x1 (min x0 x2)
theorem clip_fn (x0 : Int) (x1 : Int) (x2 : Int) (σ : List (List D))  : Ct Tryz.prog 42 [.v (.int .i64 x0), .v (.int .i64 x1), .v (.int .i64 x2)] σ (fun r σ' => r = .v (.int .i64 (clip x0 x1 x2)) ∧ σ' = σ) := by
 refine zf (rs:=[.tmp 6]) Tryz.func42 Tryz.ntmps42 Tryz.results42 ?_
 simp only [argEnv]
 refine zr0 fun all K Z=>?_
 simp
 and_intros<;>try omega
 apply Z
 clear Z K all
 refine zr0 fun all K Z=>?_
 simp
 and_intros<;>try omega
 apply Z
 clear Z K all
 apply awp_ret
 first | (simp [endQ, clip]; done) | (simp [endQ, clip]; done) | (simp [endQ]; unfold clip; (repeat' split) <;> first | (exfalso; omega) | (simp_all; done)) | (simp [endQ, clip, *]; done) | (simp_all [endQ, clip]; done) | (simp_all [endQ, clip]; omega) | (simp [endQ, clip] <;> split <;> omega)
def sat (x0 : Int) : Int := max (-2147483648) (min x0 2147483647)
theorem sat_fn (x0 : Int) (σ : List (List D))  : Ct Tryz.prog 128 [.v (.int .i64 x0)] σ (fun r σ' => r = .v (.int .i64 (sat x0)) ∧ σ' = σ) := by
 refine zf (rs:=[.tmp 2]) Tryz.func128 Tryz.ntmps128 Tryz.results128 ?_
 simp only [argEnv]
 refine zr0 fun all K Z=>?_
 simp
 and_intros<;>try omega
 apply Z
 clear Z K all
 refine zr0 fun all K Z=>?_
 simp
 and_intros<;>try omega
 apply Z
 clear Z K all
 apply awp_ret
 first | (simp [endQ, sat]; done) | (simp [endQ, sat]; done) | (simp [endQ]; unfold sat; (repeat' split) <;> first | (exfalso; omega) | (simp_all; done)) | (simp [endQ, sat, *]; done) | (simp_all [endQ, sat]; done) | (simp_all [endQ, sat]; omega) | (simp [endQ, sat] <;> split <;> omega)
def rsat (x0 : Int) : Int := if x0 > 2147483647 then 2147483647
 else if x0 < (-2147483648) then (-2147483648)
  else x0
theorem rsat_fn (x0 : Int) (σ : List (List D))  : Ct Tryz.prog 99 [.v (.int .i64 x0)] σ (fun r σ' => r = .v (.int .i64 (rsat x0)) ∧ σ' = σ) := by
 refine zf (rs:=[.tmp 2]) Tryz.func99 Tryz.ntmps99 Tryz.results99 ?_
 simp only [argEnv]
 refine zr0 fun all K Z=>?_
 simp
 and_intros<;>try omega
 apply Z
 clear Z K all
 apply awp_seq
 refine zr0 fun all K Z=>?_
 simp
 and_intros<;>try omega
 apply Z
 clear Z K all
 refine zi ?_
 refine ⟨fun c1=>?_,fun c1=>?_⟩
 ·try simp at c1
  all_goals try (exfalso; omega)
  all_goals
   refine zr0 fun all K Z=>?_
   simp
   and_intros<;>try omega
   apply Z
   clear Z K all
   apply awp_ret
   apply q_then_r
   first | (simp [endQ, rsat, c1]; done) | (simp [endQ, rsat]; done) | (simp [endQ]; unfold rsat; (repeat' split) <;> first | (exfalso; omega) | (simp_all; done)) | (simp [endQ, rsat, *]; done) | (simp_all [endQ, rsat]; done) | (simp_all [endQ, rsat]; omega) | (simp [endQ, rsat] <;> split <;> omega)
 ·try simp at c1
  all_goals try (exfalso; omega)
  all_goals
   apply awp_skip
   apply q_then_n
   apply awp_seq
   refine zr0 fun all K Z=>?_
   simp
   and_intros<;>try omega
   apply Z
   clear Z K all
   refine zi ?_
   refine ⟨fun c2=>?_,fun c2=>?_⟩
   ·try simp at c2
    all_goals try (exfalso; omega)
    all_goals
     refine zr0 fun all K Z=>?_
     simp
     and_intros<;>try omega
     apply Z
     clear Z K all
     apply awp_ret
     apply q_then_r
     first | (simp [endQ, rsat, c1, c2]; done) | (simp [endQ, rsat]; done) | (simp [endQ]; unfold rsat; (repeat' split) <;> first | (exfalso; omega) | (simp_all; done)) | (simp [endQ, rsat, *]; done) | (simp_all [endQ, rsat]; done) | (simp_all [endQ, rsat]; omega) | (simp [endQ, rsat] <;> split <;> omega)
   ·try simp at c2
    all_goals try (exfalso; omega)
    all_goals
     apply awp_skip
     apply q_then_n
     refine zr0 fun all K Z=>?_
     simp
     and_intros<;>try omega
     apply Z
     clear Z K all
     apply awp_ret
     first | (simp [endQ, rsat, c1, c2]; done) | (simp [endQ, rsat]; done) | (simp [endQ]; unfold rsat; (repeat' split) <;> first | (exfalso; omega) | (simp_all; done)) | (simp [endQ, rsat, *]; done) | (simp_all [endQ, rsat]; done) | (simp_all [endQ, rsat]; omega) | (simp [endQ, rsat] <;> split <;> omega)
def letter (x0 : Int) : Bool := if x0 ≥ 97 then decide (x0 ≤ 122)
 else false
theorem letter_fn (x0 : Int) (σ : List (List D))  : Ct Tryz.prog 117 [.v (.int .u8 x0)] σ (fun r σ' => r = .v (.bool (letter x0)) ∧ σ' = σ) := by
 refine zf (rs:=[.tmp 2]) Tryz.func117 Tryz.ntmps117 Tryz.results117 ?_
 simp only [argEnv]
 refine zr0 fun all K Z=>?_
 simp
 and_intros<;>try omega
 apply Z
 clear Z K all
 refine zrg ⟨[],[],[],[],[]⟩ fun all hall K Z=>?_
 have ga2 : guardOf all 2 = some 5 := hall 2
 clear hall
 refine vcL_split 3 fun K' Y=>?_
 simp[ga2]
 and_intros<;>try omega
 apply Y
 clear Y K'
 simp only [List.drop]
 refine vcL_bool 5 (by simp <;> rfl) ?_
 refine ⟨fun g1 => ?_, fun g1 => ?_⟩
 ·try simp at g1
  all_goals try (exfalso; omega)
  all_goals
   simp[ga2]
   and_intros<;>try omega
   apply Z
   clear Z K ga2 all
   apply awp_ret
   first | (simp [endQ, letter, g1]; done) | (simp [endQ, letter]; done) | (simp [endQ]; unfold letter; (repeat' split) <;> first | (exfalso; omega) | (simp_all; done)) | (simp [endQ, letter, *]; done) | (simp_all [endQ, letter]; done) | (simp_all [endQ, letter]; omega) | (simp [endQ, letter] <;> split <;> omega)
 ·try simp at g1
  all_goals try (exfalso; omega)
  all_goals
   simp[ga2]
   and_intros<;>try omega
   apply Z
   clear Z K ga2 all
   apply awp_ret
   first | (simp [endQ, letter, g1]; done) | (simp [endQ, letter]; done) | (simp [endQ]; unfold letter; (repeat' split) <;> first | (exfalso; omega) | (simp_all; done)) | (simp [endQ, letter, *]; done) | (simp_all [endQ, letter]; done) | (simp_all [endQ, letter]; omega) | (simp [endQ, letter] <;> split <;> omega)
def digit (x0 : Int) : Bool := if x0 ≥ 48 then decide (x0 ≤ 57)
 else false
theorem digit_fn (x0 : Int) (σ : List (List D))  : Ct Tryz.prog 159 [.v (.int .u8 x0)] σ (fun r σ' => r = .v (.bool (digit x0)) ∧ σ' = σ) := by
 refine zf (rs:=[.tmp 2]) Tryz.func159 Tryz.ntmps159 Tryz.results159 ?_
 simp only [argEnv]
 refine zr0 fun all K Z=>?_
 simp
 and_intros<;>try omega
 apply Z
 clear Z K all
 refine zrg ⟨[],[],[],[],[]⟩ fun all hall K Z=>?_
 have ga2 : guardOf all 2 = some 5 := hall 2
 clear hall
 refine vcL_split 3 fun K' Y=>?_
 simp[ga2]
 and_intros<;>try omega
 apply Y
 clear Y K'
 simp only [List.drop]
 refine vcL_bool 5 (by simp <;> rfl) ?_
 refine ⟨fun g1 => ?_, fun g1 => ?_⟩
 ·try simp at g1
  all_goals try (exfalso; omega)
  all_goals
   simp[ga2]
   and_intros<;>try omega
   apply Z
   clear Z K ga2 all
   apply awp_ret
   first | (simp [endQ, digit, g1]; done) | (simp [endQ, digit]; done) | (simp [endQ]; unfold digit; (repeat' split) <;> first | (exfalso; omega) | (simp_all; done)) | (simp [endQ, digit, *]; done) | (simp_all [endQ, digit]; done) | (simp_all [endQ, digit]; omega) | (simp [endQ, digit] <;> split <;> omega)
 ·try simp at g1
  all_goals try (exfalso; omega)
  all_goals
   simp[ga2]
   and_intros<;>try omega
   apply Z
   clear Z K ga2 all
   apply awp_ret
   first | (simp [endQ, digit, g1]; done) | (simp [endQ, digit]; done) | (simp [endQ]; unfold digit; (repeat' split) <;> first | (exfalso; omega) | (simp_all; done)) | (simp [endQ, digit, *]; done) | (simp_all [endQ, digit]; done) | (simp_all [endQ, digit]; omega) | (simp [endQ, digit] <;> split <;> omega)
def plain (x0 : Int) : Bool := if (letter x0) = true then true
 else if (digit x0) = true then true
  else decide (x0 = 45)
theorem plain_fn (x0 : Int) (σ : List (List D))  : Ct Tryz.prog 139 [.v (.int .u8 x0)] σ (fun r σ' => r = .v (.bool (plain x0)) ∧ σ' = σ) := by
 refine zf (rs:=[.tmp 2]) Tryz.func139 Tryz.ntmps139 Tryz.results139 ?_
 simp only [argEnv]
 refine zr0 fun all K Z=>?_
 simp
 and_intros<;>try omega
 apply Z
 clear Z K all
 refine zrg ⟨[],[],[],[],[]⟩ fun all hall K Z=>?_
 have ga2 : guardOf all 2 = some 5 := hall 2
 have ga6 : guardOf all 6 = some 9 := hall 6
 clear hall
 refine vcL_split 1 fun K' Y=>?_
 simp[ga2,ga6]
 and_intros<;>try omega
 apply Y
 clear Y K'
 simp only [List.drop]
 refine vcL_step fun K' Y=>?_
 simp[ga2,ga6]
 refine zce (letter_fn x0 _ ) ?_
 apply Y
 clear Y K'
 refine vcL_split 1 fun K' Y=>?_
 simp[ga2,ga6]
 and_intros<;>try omega
 apply Y
 clear Y K'
 simp only [List.drop]
 refine vcL_bool 5 (by simp <;> rfl) ?_
 refine ⟨fun g1 => ?_, fun g1 => ?_⟩
 ·try simp at g1
  all_goals try (exfalso; omega)
  all_goals
   refine vcL_split 4 fun K' Y=>?_
   simp[ga2,ga6]
   and_intros<;>try omega
   apply Y
   clear Y K'
   simp only [List.drop]
   simp[ga2,ga6]
   and_intros<;>try omega
   apply Z
   clear Z K ga2 ga6 all
   apply awp_ret
   first | (simp [endQ, plain, g1]; done) | (simp [endQ, plain]; done) | (simp [endQ]; unfold plain; (repeat' split) <;> first | (exfalso; omega) | (simp_all; done)) | (simp [endQ, plain, *]; done) | (simp_all [endQ, plain]; done) | (simp_all [endQ, plain]; omega) | (simp [endQ, plain] <;> split <;> omega)
 ·try simp at g1
  all_goals try (exfalso; omega)
  all_goals
   refine vcL_split 1 fun K' Y=>?_
   simp[ga2,ga6]
   and_intros<;>try omega
   apply Y
   clear Y K'
   simp only [List.drop]
   refine zg ga2 fun K' Y=>?_
   simp[ga2,ga6]
   refine zce (digit_fn x0 _ ) ?_
   apply Y
   clear Y K'
   refine vcL_split 2 fun K' Y=>?_
   simp[ga2,ga6]
   and_intros<;>try omega
   apply Y
   clear Y K'
   simp only [List.drop]
   refine vcL_bool 9 (by simp <;> rfl) ?_
   refine ⟨fun g2 => ?_, fun g2 => ?_⟩
   ·try simp at g2
    all_goals try (exfalso; omega)
    all_goals
     simp[ga2,ga6]
     and_intros<;>try omega
     apply Z
     clear Z K ga2 ga6 all
     apply awp_ret
     first | (simp [endQ, plain, g1, g2]; done) | (simp [endQ, plain]; done) | (simp [endQ]; unfold plain; (repeat' split) <;> first | (exfalso; omega) | (simp_all; done)) | (simp [endQ, plain, *]; done) | (simp_all [endQ, plain]; done) | (simp_all [endQ, plain]; omega) | (simp [endQ, plain] <;> split <;> omega)
   ·try simp at g2
    all_goals try (exfalso; omega)
    all_goals
     simp[ga2,ga6]
     and_intros<;>try omega
     apply Z
     clear Z K ga2 ga6 all
     apply awp_ret
     first | (simp [endQ, plain, g1, g2]; done) | (simp [endQ, plain]; done) | (simp [endQ]; unfold plain; (repeat' split) <;> first | (exfalso; omega) | (simp_all; done)) | (simp [endQ, plain, *]; done) | (simp_all [endQ, plain]; done) | (simp_all [endQ, plain]; omega) | (simp [endQ, plain] <;> split <;> omega)
def rplain (x0 : Int) : Bool := if x0 ≥ 97 then if x0 ≤ 122 then true
  else if x0 ≥ 48 then if x0 ≤ 57 then true
    else decide (x0 = 45)
   else decide (x0 = 45)
 else if x0 ≥ 48 then if x0 ≤ 57 then true
   else decide (x0 = 45)
  else decide (x0 = 45)
theorem rplain_fn (x0 : Int) (σ : List (List D))  : Ct Tryz.prog 141 [.v (.int .u8 x0)] σ (fun r σ' => r = .v (.bool (rplain x0)) ∧ σ' = σ) := by
 refine zf (rs:=[.tmp 2]) Tryz.func141 Tryz.ntmps141 Tryz.results141 ?_
 simp only [argEnv]
 refine zr0 fun all K Z=>?_
 simp
 and_intros<;>try omega
 apply Z
 clear Z K all
 refine zrg ⟨[],[],[],[],[]⟩ fun all hall K Z=>?_
 have ga2 : guardOf all 2 = some 5 := hall 2
 have ga6 : guardOf all 6 = some 9 := hall 6
 have ga9 : guardOf all 9 = some 12 := hall 9
 have ga14 : guardOf all 14 = some 17 := hall 14
 clear hall
 refine vcL_split 3 fun K' Y=>?_
 simp[ga2,ga6,ga9,ga14]
 and_intros<;>try omega
 apply Y
 clear Y K'
 simp only [List.drop]
 refine vcL_bool 5 (by simp <;> rfl) ?_
 refine ⟨fun g1 => ?_, fun g1 => ?_⟩
 ·try simp at g1
  all_goals try (exfalso; omega)
  all_goals
   refine vcL_split 4 fun K' Y=>?_
   simp[ga2,ga6,ga9,ga14]
   and_intros<;>try omega
   apply Y
   clear Y K'
   simp only [List.drop]
   refine vcL_bool 9 (by simp <;> rfl) ?_
   refine ⟨fun g2 => ?_, fun g2 => ?_⟩
   ·try simp at g2
    all_goals try (exfalso; omega)
    all_goals
     refine vcL_split 8 fun K' Y=>?_
     simp[ga2,ga6,ga9,ga14]
     and_intros<;>try omega
     apply Y
     clear Y K'
     simp only [List.drop]
     simp[ga2,ga6,ga9,ga14]
     and_intros<;>try omega
     apply Z
     clear Z K ga2 ga6 ga9 ga14 all
     apply awp_ret
     first | (simp [endQ, rplain, g1, g2]; done) | (simp [endQ, rplain]; done) | (simp [endQ]; unfold rplain; (repeat' split) <;> first | (exfalso; omega) | (simp_all; done)) | (simp [endQ, rplain, *]; done) | (simp_all [endQ, rplain]; done) | (simp_all [endQ, rplain]; omega) | (simp [endQ, rplain] <;> split <;> omega)
   ·try simp at g2
    all_goals try (exfalso; omega)
    all_goals
     refine vcL_split 3 fun K' Y=>?_
     simp[ga2,ga6,ga9,ga14]
     and_intros<;>try omega
     apply Y
     clear Y K'
     simp only [List.drop]
     refine vcL_bool 12 (by simp <;> rfl) ?_
     refine ⟨fun g3 => ?_, fun g3 => ?_⟩
     ·try simp at g3
      all_goals try (exfalso; omega)
      all_goals
       refine vcL_split 5 fun K' Y=>?_
       simp[ga2,ga6,ga9,ga14]
       and_intros<;>try omega
       apply Y
       clear Y K'
       simp only [List.drop]
       refine vcL_bool 17 (by simp <;> rfl) ?_
       refine ⟨fun g4 => ?_, fun g4 => ?_⟩
       ·try simp at g4
        all_goals try (exfalso; omega)
        all_goals
         simp[ga2,ga6,ga9,ga14]
         and_intros<;>try omega
         apply Z
         clear Z K ga2 ga6 ga9 ga14 all
         apply awp_ret
         first | (simp [endQ, rplain, g1, g2, g3, g4]; done) | (simp [endQ, rplain]; done) | (simp [endQ]; unfold rplain; (repeat' split) <;> first | (exfalso; omega) | (simp_all; done)) | (simp [endQ, rplain, *]; done) | (simp_all [endQ, rplain]; done) | (simp_all [endQ, rplain]; omega) | (simp [endQ, rplain] <;> split <;> omega)
       ·try simp at g4
        all_goals try (exfalso; omega)
        all_goals
         simp[ga2,ga6,ga9,ga14]
         and_intros<;>try omega
         apply Z
         clear Z K ga2 ga6 ga9 ga14 all
         apply awp_ret
         first | (simp [endQ, rplain, g1, g2, g3, g4]; done) | (simp [endQ, rplain]; done) | (simp [endQ]; unfold rplain; (repeat' split) <;> first | (exfalso; omega) | (simp_all; done)) | (simp [endQ, rplain, *]; done) | (simp_all [endQ, rplain]; done) | (simp_all [endQ, rplain]; omega) | (simp [endQ, rplain] <;> split <;> omega)
     ·try simp at g3
      all_goals try (exfalso; omega)
      all_goals
       refine vcL_split 5 fun K' Y=>?_
       simp[ga2,ga6,ga9,ga14]
       and_intros<;>try omega
       apply Y
       clear Y K'
       simp only [List.drop]
       simp[ga2,ga6,ga9,ga14]
       and_intros<;>try omega
       apply Z
       clear Z K ga2 ga6 ga9 ga14 all
       apply awp_ret
       first | (simp [endQ, rplain, g1, g2, g3]; done) | (simp [endQ, rplain]; done) | (simp [endQ]; unfold rplain; (repeat' split) <;> first | (exfalso; omega) | (simp_all; done)) | (simp [endQ, rplain, *]; done) | (simp_all [endQ, rplain]; done) | (simp_all [endQ, rplain]; omega) | (simp [endQ, rplain] <;> split <;> omega)
 ·try simp at g1
  all_goals try (exfalso; omega)
  all_goals
   refine vcL_split 4 fun K' Y=>?_
   simp[ga2,ga6,ga9,ga14]
   and_intros<;>try omega
   apply Y
   clear Y K'
   simp only [List.drop]
   refine vcL_split 3 fun K' Y=>?_
   simp[ga2,ga6,ga9,ga14]
   and_intros<;>try omega
   apply Y
   clear Y K'
   simp only [List.drop]
   refine vcL_bool 12 (by simp <;> rfl) ?_
   refine ⟨fun g5 => ?_, fun g5 => ?_⟩
   ·try simp at g5
    all_goals try (exfalso; omega)
    all_goals
     refine vcL_split 5 fun K' Y=>?_
     simp[ga2,ga6,ga9,ga14]
     and_intros<;>try omega
     apply Y
     clear Y K'
     simp only [List.drop]
     refine vcL_bool 17 (by simp <;> rfl) ?_
     refine ⟨fun g6 => ?_, fun g6 => ?_⟩
     ·try simp at g6
      all_goals try (exfalso; omega)
      all_goals
       simp[ga2,ga6,ga9,ga14]
       and_intros<;>try omega
       apply Z
       clear Z K ga2 ga6 ga9 ga14 all
       apply awp_ret
       first | (simp [endQ, rplain, g1, g5, g6]; done) | (simp [endQ, rplain]; done) | (simp [endQ]; unfold rplain; (repeat' split) <;> first | (exfalso; omega) | (simp_all; done)) | (simp [endQ, rplain, *]; done) | (simp_all [endQ, rplain]; done) | (simp_all [endQ, rplain]; omega) | (simp [endQ, rplain] <;> split <;> omega)
     ·try simp at g6
      all_goals try (exfalso; omega)
      all_goals
       simp[ga2,ga6,ga9,ga14]
       and_intros<;>try omega
       apply Z
       clear Z K ga2 ga6 ga9 ga14 all
       apply awp_ret
       first | (simp [endQ, rplain, g1, g5, g6]; done) | (simp [endQ, rplain]; done) | (simp [endQ]; unfold rplain; (repeat' split) <;> first | (exfalso; omega) | (simp_all; done)) | (simp [endQ, rplain, *]; done) | (simp_all [endQ, rplain]; done) | (simp_all [endQ, rplain]; omega) | (simp [endQ, rplain] <;> split <;> omega)
   ·try simp at g5
    all_goals try (exfalso; omega)
    all_goals
     refine vcL_split 5 fun K' Y=>?_
     simp[ga2,ga6,ga9,ga14]
     and_intros<;>try omega
     apply Y
     clear Y K'
     simp only [List.drop]
     simp[ga2,ga6,ga9,ga14]
     and_intros<;>try omega
     apply Z
     clear Z K ga2 ga6 ga9 ga14 all
     apply awp_ret
     first | (simp [endQ, rplain, g1, g5]; done) | (simp [endQ, rplain]; done) | (simp [endQ]; unfold rplain; (repeat' split) <;> first | (exfalso; omega) | (simp_all; done)) | (simp [endQ, rplain, *]; done) | (simp_all [endQ, rplain]; done) | (simp_all [endQ, rplain]; omega) | (simp [endQ, rplain] <;> split <;> omega)
theorem sat_eq (x : Int) : rsat x = sat x := by
 unfold rsat sat
 repeat' split
 all_goals first | rfl | omega | skip
theorem letter_iff (x : Int) : letter x = true ↔ 97 ≤ x ∧ x ≤ 122 := by unfold letter; simp
theorem plain_iff (x : Int) : plain x = true ↔ (97 ≤ x ∧ x ≤ 122) ∨ (48 ≤ x ∧ x ≤ 57) ∨ x = 45 := by
 unfold plain letter digit; repeat' split
 all_goals simp_all
 all_goals omega
theorem rplain_iff (x : Int) : rplain x = true ↔ (97 ≤ x ∧ x ≤ 122) ∨ (48 ≤ x ∧ x ≤ 57) ∨ x = 45 := by
 unfold rplain; repeat' split
 all_goals simp_all
 all_goals omega
theorem rplain_eq (x : Int) : rplain x = plain x := by rw [Bool.eq_iff_iff, rplain_iff, plain_iff]
def keyB (s : ByteArray) : Bool := decide (1 ≤ s.size ∧ s.size ≤ 16) && allB plain s
def nameB (s : ByteArray) : Bool := keyB s && decide (97 ≤ byteAt s 0)
theorem ne_empty (s : ByteArray) : (s = ⟨#[]⟩) ↔ s.size = 0 := by
 constructor
 ·rintro rfl; rfl
 ·intro h
  cases s with
  | mk d =>
   have : d.size = 0 := h
   have : d = #[] := by simpa using this
   rw [this]
theorem wall_fn (s : ByteArray) (p : Int → Bool) (f : FuncId) (σ : List (List D)) (hs : s.size ≤ 9223372036854775807) (hp : ∀ x τ, Ct Tryz.prog f [.v (.int .u8 x)] τ (fun r τ' => r = .bool (p x) ∧ τ' = τ)) : Ct Tryz.prog 138 [D.str s, .clo (.func f) [] []] σ (fun r σ' => r = .bool (allB p s) ∧ σ' = σ) := by
 refine zf (rs:=[.tmp 4]) Tryz.func138 Tryz.ntmps138 Tryz.results138 ?_
 simp only [argEnv]
 refine zr0 fun _ _ Z=>?_
 simp
 and_intros<;>try omega
 apply Z
 apply awp_seq
 refine zr0 fun _ _ Z=>?_
 simp
 and_intros<;>try omega
 apply Z
 apply awp_block
 refine zk [0,1,4,7,8] ?_
 refine awp_loopE (fun (k : Nat) => [(8, .d (.v (.int .i64 (k : Int)))), (5, .d (.any))]) [4, 5, 8, 9, 10, 11, 12, 13, 14, 15, 16, 17] (fun (k : Nat) => k ≤ s.size ∧ ∀ j, j < k → p (byteAt s j) = true) (fun (k : Nat) => s.size - k) (0) (by simp <;> rfl) ?_ ?_ ?_
 ·simp
 ·simp
 rintro k ⟨hk, hh⟩
 simp only [List.cons_append, List.nil_append]
 refine zr0 fun _ _ Z=>?_
 simp
 and_intros<;>try omega
 apply Z
 apply awp_seq
 refine zi ?_
 refine ⟨fun c1=>?_,fun c1=>?_⟩
 ·try simp at c1
  apply awp_skip
  apply q_then_n
  apply awp_seq
  apply awp_block
  refine zr0 fun _ _ Z=>?_
  simp
  and_intros<;>try omega
  apply Z
  refine zr0 fun _ _ Z=>?_
  refine vcL_split 4 fun _ Y=>?_
  simp
  and_intros<;>try omega
  apply Y
  simp only [List.drop]
  refine vcL_step fun _ Y=>?_
  simp
  refine zce (hp (byteAt s k) _) ?_
  apply Y
  simp
  and_intros<;>try omega
  apply Z
  refine zi ?_
  refine ⟨fun c2=>?_,fun c2=>?_⟩
  ·try simp at c2
   refine zk [0,1,5,7,8] ?_
   refine zr0 fun _ _ Z=>?_
   simp
   and_intros<;>try omega
   apply Z
   apply awp_ret
   apply q_block_r
   apply q_then_r
   apply q_loop_r
   apply q_block_r
   apply q_then_r
   simp [endQ]
   exact allB_f (k := k) (by simpa [byteAt] using c2) (by omega)
  ·try simp at c2
   apply awp_skip
   apply q_block_n
   apply q_then_n
   refine zk [0,1,5,7,8] ?_
   refine zt0 fun _ _ Z=>?_
   simp
   and_intros<;>try omega
   apply Z
   refine q_round (k + 1) ?_ ?_ (weak_mkA rfl ?_ (by simp) (by simp))
   ·exact ⟨by omega, below_succ hh (by simpa [byteAt] using c2)⟩
   ·try dsimp only
    omega
   ·simp
 ·try simp at c1
  apply awp_exit
  apply q_then_e
  apply q_loop_e
  apply q_block_e
  apply q_then_n
  refine zr0 fun _ _ Z=>?_
  simp
  and_intros<;>try omega
  apply Z
  apply awp_ret
  simp [endQ]
  exact allB_t hh (by omega)
theorem wkey_fn (s : ByteArray) (σ : List (List D)) (hs : s.size ≤ 9223372036854775807) : Ct Tryz.prog 116 [D.str s] σ (fun r σ' => r = .bool (keyB s) ∧ σ' = σ) := by
 refine zf (rs:=[.tmp 2]) Tryz.func116 Tryz.ntmps116 Tryz.results116 ?_
 simp only [argEnv]
 refine zr0 fun _ _ Z=>?_
 simp
 and_intros<;>try omega
 apply Z
 refine zrg ⟨[],[],[],[],[]⟩ fun all hall _ Z=>?_
 have ga2 : guardOf all 2 = some 5 := hall 2
 have ga7 : guardOf all 7 = some 10 := hall 7
 refine vcL_split 3 fun _ Y=>?_
 simp[ga2,ga7]
 and_intros<;>try omega
 apply Y
 simp only [List.drop]
 refine vcL_bool 5 (by simp <;> rfl) ?_
 refine ⟨fun g1 => ?_, fun g1 => ?_⟩
 ·try simp at g1
  refine vcL_split 5 fun _ Y=>?_
  simp[ga2,ga7]
  and_intros<;>try omega
  apply Y
  simp only [List.drop]
  refine vcL_bool 10 (by simp <;> rfl) ?_
  refine ⟨fun g2 => ?_, fun g2 => ?_⟩
  ·try simp at g2
   refine vcL_split 1 fun _ Y=>?_
   simp[ga2,ga7]
   and_intros<;>try omega
   apply Y
   simp only [List.drop]
   refine zg ga7 fun _ Y=>?_
   simp[ga2,ga7]
   refine zce (wall_fn s plain 139 _ hs (fun x τ => plain_fn x τ)) ?_
   apply Y
   simp[ga2,ga7]
   and_intros<;>try omega
   apply Z
   apply awp_ret
   simp [endQ, keyB]
   rw [ne_empty] at g1
   intros; omega
  ·try simp at g2
   simp[ga2,ga7]
   and_intros<;>try omega
   apply Z
   apply awp_ret
   simp [endQ, keyB]
   intros; omega
 ·try simp at g1
  refine vcL_split 5 fun _ Y=>?_
  simp[ga2,ga7]
  and_intros<;>try omega
  apply Y
  simp only [List.drop]
  simp[ga2,ga7]
  and_intros<;>try omega
  apply Z
  apply awp_ret
  simp [endQ, keyB]
  rw [ne_empty] at g1
  intros; omega
theorem keyB_pos {s : ByteArray} (h : keyB s = true) : 0 < s.size ∧ s.size ≤ 16 := by
 unfold keyB at h; simp at h; omega
theorem keyB_first {s : ByteArray} (h : keyB s = true) : letter (byteAt s 0) = decide (97 ≤ byteAt s 0) := by
 have hp := (keyB_pos h).1
 unfold keyB at h
 rw [Bool.and_eq_true] at h
 have := allB_0 h.2 0 hp
 rw [plain_iff] at this
 rw [Bool.eq_iff_iff, letter_iff, decide_eq_true_eq]
 omega
theorem wname_fn (s : ByteArray) (σ : List (List D)) (hs : s.size ≤ 9223372036854775807) : Ct Tryz.prog 80 [D.str s] σ (fun r σ' => r = .bool (nameB s) ∧ σ' = σ) := by
 refine zf (rs:=[.tmp 2]) Tryz.func80 Tryz.ntmps80 Tryz.results80 ?_
 simp only [argEnv]
 refine zr0 fun _ _ Z=>?_
 simp
 and_intros<;>try omega
 apply Z
 refine zrg ⟨[],[],[],[],[]⟩ fun all hall _ Z=>?_
 have ga2 : guardOf all 2 = some 5 := hall 2
 refine vcL_split 1 fun _ Y=>?_
 simp[ga2]
 and_intros<;>try omega
 apply Y
 simp only [List.drop]
 refine vcL_step fun _ Y=>?_
 simp[ga2]
 refine zce (wkey_fn s _ hs) ?_
 apply Y
 refine vcL_split 1 fun _ Y=>?_
 simp[ga2]
 and_intros<;>try omega
 apply Y
 simp only [List.drop]
 refine vcL_bool 5 (by simp <;> rfl) ?_
 refine ⟨fun g1 => ?_, fun g1 => ?_⟩
 ·try simp at g1
  have hpos := keyB_pos g1
  refine vcL_split 2 fun _ Y=>?_
  simp[ga2]
  and_intros<;>try omega
  apply Y
  simp only [List.drop]
  refine zg ga2 fun _ Y=>?_
  simp[ga2]
  refine zce (letter_fn (byteAt s 0) _) ?_
  apply Y
  simp[ga2]
  and_intros<;>try omega
  apply Z
  apply awp_ret
  simp [endQ, nameB, g1, keyB_first g1]
 ·try simp at g1
  simp[ga2]
  and_intros<;>try omega
  apply Z
  apply awp_ret
  simp [endQ, nameB, g1]
theorem rkey_fn (s : ByteArray) (σ : List (List D)) (hs : s.size ≤ 9223372036854775807) : Ct Tryz.prog 120 [D.str s] σ (fun r σ' => r = .bool (keyB s) ∧ σ' = σ) := by
 refine zf (rs:=[.tmp 2]) Tryz.func120 Tryz.ntmps120 Tryz.results120 ?_
 simp only [argEnv]
 refine zr0 fun _ _ Z=>?_
 simp
 and_intros<;>try omega
 apply Z
 apply awp_seq
 refine zr0 fun _ _ Z=>?_
 simp
 and_intros<;>try omega
 apply Z
 apply awp_block
 refine zk [0,2,3] ?_
 refine awp_loopE (fun (k : Nat) => [(3, .d (.v (.int .i64 (k : Int))))]) [2, 3, 4, 5, 6, 7, 8, 9, 10, 11, 12, 13, 14] (fun (k : Nat) => k ≤ s.size ∧ ∀ j, j < k → plain (byteAt s j) = true) (fun (k : Nat) => s.size - k) (0) (by simp <;> rfl) ?_ ?_ ?_
 ·simp
 ·simp
 rintro k ⟨hk, hh⟩
 simp only [List.cons_append, List.nil_append]
 apply awp_seq
 refine zr0 fun _ _ Z=>?_
 simp
 and_intros<;>try omega
 apply Z
 refine zi ?_
 refine ⟨fun c1=>?_,fun c1=>?_⟩
 ·try simp at c1
  apply awp_skip
  apply q_then_n
  apply awp_seq
  apply awp_block
  refine zr0 fun _ _ Z=>?_
  refine vcL_split 3 fun _ Y=>?_
  simp
  and_intros<;>try omega
  apply Y
  simp only [List.drop]
  refine vcL_step fun _ Y=>?_
  simp
  refine zce (rplain_fn (byteAt s k) _) ?_
  apply Y
  simp
  and_intros<;>try omega
  apply Z
  refine zi ?_
  refine ⟨fun c2=>?_,fun c2=>?_⟩
  ·try simp at c2
   refine zr0 fun _ _ Z=>?_
   simp
   and_intros<;>try omega
   apply Z
   apply awp_ret
   apply q_block_r
   apply q_then_r
   apply q_loop_r
   apply q_block_r
   apply q_then_r
   simp [endQ, keyB]
   intro _ _; exact allB_f (k := k) (by rw [← rplain_eq]; simpa [byteAt] using c2) (by omega)
  ·try simp at c2
   apply awp_skip
   apply q_block_n
   apply q_then_n
   refine zt0 fun _ _ Z=>?_
   simp
   and_intros<;>try omega
   apply Z
   refine q_round (k + 1) ?_ ?_ (weak_mkA rfl ?_ (by simp) (by simp))
   ·exact ⟨by omega, below_succ hh (by rw [← rplain_eq]; simpa [byteAt] using c2)⟩
   ·try dsimp only
    omega
   ·simp
 ·try simp at c1
  apply awp_exit
  apply q_then_e
  apply q_loop_e
  apply q_block_e
  apply q_then_n
  refine zrg ⟨[],[],[],[],[]⟩ fun all hall _ Z=>?_
  have ga3 : guardOf all 3 = some 18 := hall 3
  refine vcL_split 4 fun _ Y=>?_
  simp[ga3]
  and_intros<;>try omega
  apply Y
  simp only [List.drop]
  refine vcL_bool 18 (by simp <;> rfl) ?_
  refine ⟨fun g3 => ?_, fun g3 => ?_⟩
  ·try simp at g3
   simp[ga3]
   and_intros<;>try omega
   apply Z
   apply awp_ret
   simp [endQ, keyB]
   have := allB_t (p := plain) (s := s) hh (by omega)
   simp [this]
   rw [Bool.eq_iff_iff]; simp; omega
  ·try simp at g3
   simp[ga3]
   and_intros<;>try omega
   apply Z
   apply awp_ret
   simp [endQ, keyB]
   intros; omega
theorem rname_fn (s : ByteArray) (σ : List (List D)) (hs : s.size ≤ 9223372036854775807) : Ct Tryz.prog 83 [D.str s] σ (fun r σ' => r = .bool (nameB s) ∧ σ' = σ) := by
 refine zf (rs:=[.tmp 2]) Tryz.func83 Tryz.ntmps83 Tryz.results83 ?_
 simp only [argEnv]
 refine zr0 fun _ _ Z=>?_
 simp
 and_intros<;>try omega
 apply Z
 refine zrg ⟨[],[],[],[],[]⟩ fun all hall _ Z=>?_
 have ga2 : guardOf all 2 = some 5 := hall 2
 refine vcL_split 1 fun _ Y=>?_
 simp[ga2]
 and_intros<;>try omega
 apply Y
 simp only [List.drop]
 refine vcL_step fun _ Y=>?_
 simp[ga2]
 refine zce (rkey_fn s _ hs) ?_
 apply Y
 refine vcL_split 1 fun _ Y=>?_
 simp[ga2]
 and_intros<;>try omega
 apply Y
 simp only [List.drop]
 refine vcL_bool 5 (by simp <;> rfl) ?_
 refine ⟨fun g1 => ?_, fun g1 => ?_⟩
 ·try simp at g1
  have hpos := keyB_pos g1
  simp[ga2]
  and_intros<;>try omega
  apply Z
  apply awp_ret
  simp [endQ, nameB, g1, byteAt]
  rfl
 ·try simp at g1
  simp[ga2]
  and_intros<;>try omega
  apply Z
  apply awp_ret
  simp [endQ, nameB, g1]
def cutB (n : Nat) (s : ByteArray) : ByteArray := if n < s.size then s.extract 0 n else s
theorem cutB_len (n : Nat) (s : ByteArray) : (cutB n s).size ≤ n := by
 unfold cutB; split
 ·simp; omega
 ·omega
theorem cut_fn (s : ByteArray) (n : Nat) (σ : List (List D)) (hn : n ≤ 1000000) : Ct Tryz.prog 62 [D.str s, D.int n] σ (fun r σ' => r = .v (.string (cutB n s)) ∧ σ' = σ) := by
 refine zf (rs:=[.tmp 4]) Tryz.func62 Tryz.ntmps62 Tryz.results62 ?_
 simp only [argEnv]
 refine zr0 fun _ _ Z=>?_
 simp
 and_intros<;>try omega
 apply Z
 apply awp_seq
 refine zr0 fun _ _ Z=>?_
 simp
 and_intros<;>try omega
 apply Z
 refine zi ?_
 refine ⟨fun c1=>?_,fun c1=>?_⟩
 ·try simp at c1
  refine zr0 fun _ _ Z=>?_
  simp
  and_intros<;>try omega
  apply Z
  apply awp_ret
  apply q_then_r
  simp [endQ, cutB, c1]
 ·try simp at c1
  apply awp_skip
  apply q_then_n
  refine zr0 fun _ _ Z=>?_
  simp
  and_intros<;>try omega
  apply Z
  apply awp_ret
  simp [endQ, cutB]
  intro h; omega
end Go.Proofs.YtpfmpeaekgdgnaaGreat


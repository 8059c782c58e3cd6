import Derived.Test.YtighdhfgcdjmeaaGreatDoorWkL5
namespace Go.Proofs.YtighdhfgcdjmeaaGreatDoor
open Go Go.Vm
set_option maxRecDepth 20000
set_option linter.all false
set_option maxHeartbeats 8000000
def uF (x0 : Int) : Int := max (-2147483648) (min x0 2147483647)
theorem Bm (x0 : Int) (σ : List (List D))  : Ct Tryz.prog 99 [.v (.int .i64 x0)] σ (fun r σ' => r = .v (.int .i64 (uF x0)) ∧ σ' = σ) := by
 refine zf (rs:=[.tmp 2]) Tryz.func99 Tryz.ntmps99 Tryz.results99 ?_;simp only [aQ];refine bV fun all K Z=>?_;simp;and_intros<;>(try omega);apply Z;clear Z K all;refine bV fun all K Z=>?_;simp;and_intros<;>(try omega);apply Z;clear Z K all;apply aF;first | (simp [aS, uF]; done) | (simp [aS, uF]; done) | (simp [aS]; unfold uF; (repeat' split) <;> first | (exfalso; omega) | (simp_all; done)) | (simp [aS, uF, *]; done) | (simp_all [aS, uF]; done) | (simp_all [aS, uF]; omega) | (simp [aS, uF] <;> split <;> omega)
def tB (x0 : Int) (x1 : Int) (x2 : Int) : Int := max x1 (min x0 x2)
theorem Ep (x0 : Int) (x1 : Int) (x2 : Int) (σ : List (List D))  : Ct Tryz.prog 22 [.v (.int .i64 x0), .v (.int .i64 x1), .v (.int .i64 x2)] σ (fun r σ' => r = .v (.int .i64 (tB x0 x1 x2)) ∧ σ' = σ) := by
 refine zf (rs:=[.tmp 6]) Tryz.func22 Tryz.ntmps22 Tryz.results22 ?_;simp only [aQ];refine bV fun all K Z=>?_;simp;and_intros<;>(try omega);apply Z;clear Z K all;refine bV fun all K Z=>?_;simp;and_intros<;>(try omega);apply Z;clear Z K all;apply aF;first | (simp [aS, tB]; done) | (simp [aS, tB]; done) | (simp [aS]; unfold tB; (repeat' split) <;> first | (exfalso; omega) | (simp_all; done)) | (simp [aS, tB, *]; done) | (simp_all [aS, tB]; done) | (simp_all [aS, tB]; omega) | (simp [aS, tB] <;> split <;> omega)
theorem vZ (x : Int) : -2147483648 ≤ uF x ∧ uF x ≤ 2147483647 := by unfold uF; omega
def iV (a b : Int) : Int := uF (uF a + uF b)
theorem oK (a b : Int) (σ : List (List D))  : Ct Tryz.prog 80 [D.int a, D.int b] σ (fun r σ' => r = .int (iV a b) ∧ σ' = σ) := by
 refine zf (rs:=[.tmp 4]) Tryz.func80 Tryz.ntmps80 Tryz.results80 ?_;simp only [aQ];have hA := vZ a;have hB := vZ b;refine bV fun _ _ Z=>?_;simp;and_intros<;>(try omega);apply Z;refine bV fun _ _ Z=>?_;refine aB 1 fun _ Y=>?_;simp;and_intros<;>(try omega);apply Y;simp only [List.drop];refine aH fun _ Y=>?_;simp;refine dW (Bm a _) ?_;apply Y;refine aB 1 fun _ Y=>?_;simp;and_intros<;>(try omega);apply Y;simp only [List.drop];refine aH fun _ Y=>?_;simp;refine dW (Bm b _) ?_;apply Y;refine aB 1 fun _ Y=>?_;simp;and_intros<;>(try omega);apply Y;simp only [List.drop];refine aH fun _ Y=>?_;simp;refine dW (Bm (uF a + uF b) _) ?_;apply Y;simp;and_intros<;>(try omega);apply Z;apply aF;simp [aS, iV]
structure TN where
 ID : Int
 kind : Int
 tag : ByteArray
 text : ByteArray
 classes : (List ByteArray)
 attrs : (List AT)
 styles : (List PI)
 kids : (List TN)
def mX (s : TN) : D := .agg [.v (.int .i64 s.ID), .v (.int .i64 s.kind), .v (.string s.tag), .v (.string s.text), .sl false (s.classes.map D.str), .sl false (s.attrs.map bY), .sl false (s.styles.map bS), .sl false (s.kids.attach.map fun k => mX k.1)]
termination_by SizeOf.sizeOf s
decreasing_by
 have h := List.sizeOf_lt_of_mem k.2;cases s; simp at h ⊢; omega
@[simp] abbrev gF (s : TN) : D := .agg [.v (.int .i64 s.ID), .v (.int .i64 s.kind), .v (.string s.tag), .v (.string s.text), .sl false (s.classes.map D.str), .sl false (s.attrs.map bY), .sl false (s.styles.map bS), .sl false (s.kids.map mX)]
@[simp] abbrev aE8 (s : TN) : D := .agg [.v (.int .i64 s.ID), .v (.int .i64 s.kind), .v (.string s.tag), .v (.string s.text), .sl true (s.classes.map D.str), .sl true (s.attrs.map bY), .sl true (s.styles.map bS), .sl true (s.kids.map mX)]
@[simp] theorem Pc (s : TN) : mX s = gF s := by rw [mX]; simp
abbrev SO (t : TN) : Prop := t.styles.length ≤ 99999 ∧ Sorted nP t.styles
end Go.Proofs.YtighdhfgcdjmeaaGreatDoor


import Derived.Test.YtighdhfgcdjmeaaDoorWkL5
namespace Go.Proofs.YtighdhfgcdjmeaaDoor
open Go Go.Vm
set_option maxRecDepth 20000
set_option linter.all false
set_option maxHeartbeats 8000000
def xU (x0 : Int) : Int := max (-2147483648) (min x0 2147483647)
theorem zM (x0 : Int) (σ : List (List D))  : Ct Tryd.prog 80 [.v (.int .i64 x0)] σ (fun r σ' => r = .v (.int .i64 (xU x0)) ∧ σ' = σ) := by
 refine zf (rs:=[.tmp 2]) Tryd.func80 Tryd.ntmps80 Tryd.results80 ?_;simp only [aU];refine cH fun all K Z=>?_;simp;and_intros<;>(try omega);apply Z;clear Z K all;refine cH fun all K Z=>?_;simp;and_intros<;>(try omega);apply Z;clear Z K all;apply aH;first | (simp [bB, xU]; done) | (simp [bB, xU]; done) | (simp [bB]; unfold xU; (repeat' split) <;> first | (exfalso; omega) | (simp_all; done)) | (simp [bB, xU, *]; done) | (simp_all [bB, xU]; done) | (simp_all [bB, xU]; omega) | (simp [bB, xU] <;> split <;> omega)
def pR (x0 : Int) (x1 : Int) (x2 : Int) : Int := max x1 (min x0 x2)
theorem Bn (x0 : Int) (x1 : Int) (x2 : Int) (σ : List (List D))  : Ct Tryd.prog 20 [.v (.int .i64 x0), .v (.int .i64 x1), .v (.int .i64 x2)] σ (fun r σ' => r = .v (.int .i64 (pR x0 x1 x2)) ∧ σ' = σ) := by
 refine zf (rs:=[.tmp 6]) Tryd.func20 Tryd.ntmps20 Tryd.results20 ?_;simp only [aU];refine cH fun all K Z=>?_;simp;and_intros<;>(try omega);apply Z;clear Z K all;refine cH fun all K Z=>?_;simp;and_intros<;>(try omega);apply Z;clear Z K all;apply aH;first | (simp [bB, pR]; done) | (simp [bB, pR]; done) | (simp [bB]; unfold pR; (repeat' split) <;> first | (exfalso; omega) | (simp_all; done)) | (simp [bB, pR, *]; done) | (simp_all [bB, pR]; done) | (simp_all [bB, pR]; omega) | (simp [bB, pR] <;> split <;> omega)
theorem Hb (x : Int) : -2147483648 ≤ xU x ∧ xU x ≤ 2147483647 := by unfold xU; omega
def nT (a b : Int) : Int := xU (xU a + xU b)
theorem vW (a b : Int) (σ : List (List D))  : Ct Tryd.prog 63 [D.int a, D.int b] σ (fun r σ' => r = .int (nT a b) ∧ σ' = σ) := by
 refine zf (rs:=[.tmp 4]) Tryd.func63 Tryd.ntmps63 Tryd.results63 ?_;simp only [aU];have hA := Hb a;have hB := Hb b;refine cH fun _ _ Z=>?_;simp;and_intros<;>(try omega);apply Z;refine cH fun _ _ Z=>?_;refine aC 1 fun _ Y=>?_;simp;and_intros<;>(try omega);apply Y;simp only [List.drop];refine aI fun _ Y=>?_;simp;refine eV (zM a _) ?_;apply Y;refine aC 1 fun _ Y=>?_;simp;and_intros<;>(try omega);apply Y;simp only [List.drop];refine aI fun _ Y=>?_;simp;refine eV (zM b _) ?_;apply Y;refine aC 1 fun _ Y=>?_;simp;and_intros<;>(try omega);apply Y;simp only [List.drop];refine aI fun _ Y=>?_;simp;refine eV (zM (xU a + xU b) _) ?_;apply Y;simp;and_intros<;>(try omega);apply Z;apply aH;simp [bB, nT]
structure TN where
 ID : Int
 kind : Int
 tag : ByteArray
 text : ByteArray
 classes : (List ByteArray)
 attrs : (List AT)
 styles : (List PI)
 kids : (List TN)
def yN (s : TN) : D := .agg [.v (.int .i64 s.ID), .v (.int .i64 s.kind), .v (.string s.tag), .v (.string s.text), .sl false (s.classes.map D.str), .sl false (s.attrs.map bZ), .sl false (s.styles.map bQ), .sl false (s.kids.attach.map fun k => yN k.1)]
termination_by SizeOf.sizeOf s
decreasing_by
 have h := List.sizeOf_lt_of_mem k.2;cases s; simp at h ⊢; omega
@[simp] abbrev oO (s : TN) : D := .agg [.v (.int .i64 s.ID), .v (.int .i64 s.kind), .v (.string s.tag), .v (.string s.text), .sl false (s.classes.map D.str), .sl false (s.attrs.map bZ), .sl false (s.styles.map bQ), .sl false (s.kids.map yN)]
@[simp] abbrev aA0 (s : TN) : D := .agg [.v (.int .i64 s.ID), .v (.int .i64 s.kind), .v (.string s.tag), .v (.string s.text), .sl true (s.classes.map D.str), .sl true (s.attrs.map bZ), .sl true (s.styles.map bQ), .sl true (s.kids.map yN)]
@[simp] theorem Lp (s : TN) : yN s = oO s := by rw [yN]; simp
abbrev SO (t : TN) : Prop := t.styles.length ≤ 99999 ∧ Sorted nP t.styles
end Go.Proofs.YtighdhfgcdjmeaaDoor


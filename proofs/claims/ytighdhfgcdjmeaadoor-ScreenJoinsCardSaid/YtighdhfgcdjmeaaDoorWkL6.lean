import Derived.Test.YtighdhfgcdjmeaaDoorWkL5
namespace Go.Proofs.YtighdhfgcdjmeaaDoor
open Go Go.Vm
set_option maxRecDepth 20000
set_option linter.all false
set_option maxHeartbeats 8000000
def wR (x0 : Int) : Int := max (-2147483648) (min x0 2147483647)
theorem zV (x0 : Int) (σ : List (List D))  : Ct Tryd.prog 80 [.v (.int .i64 x0)] σ (fun r σ' => r = .v (.int .i64 (wR x0)) ∧ σ' = σ) := by
 refine zf (rs:=[.tmp 2]) Tryd.func80 Tryd.ntmps80 Tryd.results80 ?_;simp only [aX];refine cN fun all K Z=>?_;simp;and_intros<;>(try omega);apply Z;clear Z K all;refine cN fun all K Z=>?_;simp;and_intros<;>(try omega);apply Z;clear Z K all;apply aI;first | (simp [bE, wR]; done) | (simp [bE, wR]; done) | (simp [bE]; unfold wR; (repeat' split) <;> first | (exfalso; omega) | (simp_all; done)) | (simp [bE, wR, *]; done) | (simp_all [bE, wR]; done) | (simp_all [bE, wR]; omega) | (simp [bE, wR] <;> split <;> omega)
def pO (x0 : Int) (x1 : Int) (x2 : Int) : Int := max x1 (min x0 x2)
theorem Aj (x0 : Int) (x1 : Int) (x2 : Int) (σ : List (List D))  : Ct Tryd.prog 20 [.v (.int .i64 x0), .v (.int .i64 x1), .v (.int .i64 x2)] σ (fun r σ' => r = .v (.int .i64 (pO x0 x1 x2)) ∧ σ' = σ) := by
 refine zf (rs:=[.tmp 6]) Tryd.func20 Tryd.ntmps20 Tryd.results20 ?_;simp only [aX];refine cN fun all K Z=>?_;simp;and_intros<;>(try omega);apply Z;clear Z K all;refine cN fun all K Z=>?_;simp;and_intros<;>(try omega);apply Z;clear Z K all;apply aI;first | (simp [bE, pO]; done) | (simp [bE, pO]; done) | (simp [bE]; unfold pO; (repeat' split) <;> first | (exfalso; omega) | (simp_all; done)) | (simp [bE, pO, *]; done) | (simp_all [bE, pO]; done) | (simp_all [bE, pO]; omega) | (simp [bE, pO] <;> split <;> omega)
theorem Iq (x : Int) : -2147483648 ≤ wR x ∧ wR x ≤ 2147483647 := by unfold wR; omega
def nI (a b : Int) : Int := wR (wR a + wR b)
theorem tD (a b : Int) (σ : List (List D))  : Ct Tryd.prog 63 [D.int a, D.int b] σ (fun r σ' => r = .int (nI a b) ∧ σ' = σ) := by
 refine zf (rs:=[.tmp 4]) Tryd.func63 Tryd.ntmps63 Tryd.results63 ?_;simp only [aX];have hA := Iq a;have hB := Iq b;refine cN fun _ _ Z=>?_;simp;and_intros<;>(try omega);apply Z;refine cN fun _ _ Z=>?_;refine aA 1 fun _ Y=>?_;simp;and_intros<;>(try omega);apply Y;simp only [List.drop];refine aK fun _ Y=>?_;simp;refine fN (zV a _) ?_;apply Y;refine aA 1 fun _ Y=>?_;simp;and_intros<;>(try omega);apply Y;simp only [List.drop];refine aK fun _ Y=>?_;simp;refine fN (zV b _) ?_;apply Y;refine aA 1 fun _ Y=>?_;simp;and_intros<;>(try omega);apply Y;simp only [List.drop];refine aK fun _ Y=>?_;simp;refine fN (zV (wR a + wR b) _) ?_;apply Y;simp;and_intros<;>(try omega);apply Z;apply aI;simp [bE, nI]
structure TN where
 ID : Int
 kind : Int
 tag : ByteArray
 text : ByteArray
 classes : (List ByteArray)
 attrs : (List AT)
 styles : (List PI)
 kids : (List TN)
def yO (s : TN) : D := .agg [.v (.int .i64 s.ID), .v (.int .i64 s.kind), .v (.string s.tag), .v (.string s.text), .sl false (s.classes.map D.str), .sl false (s.attrs.map rF), .sl false (s.styles.map bT), .sl false (s.kids.attach.map fun k => yO k.1)]
termination_by SizeOf.sizeOf s
decreasing_by
 have h := List.sizeOf_lt_of_mem k.2;cases s; simp at h ⊢; omega
@[simp] abbrev uQ (s : TN) : D := .agg [.v (.int .i64 s.ID), .v (.int .i64 s.kind), .v (.string s.tag), .v (.string s.text), .sl false (s.classes.map D.str), .sl false (s.attrs.map rF), .sl false (s.styles.map bT), .sl false (s.kids.map yO)]
@[simp] abbrev Ze (s : TN) : D := .agg [.v (.int .i64 s.ID), .v (.int .i64 s.kind), .v (.string s.tag), .v (.string s.text), .sl true (s.classes.map D.str), .sl true (s.attrs.map rF), .sl true (s.styles.map bT), .sl true (s.kids.map yO)]
@[simp] theorem Pr (s : TN) : yO s = uQ s := by rw [yO]; simp
abbrev SO (t : TN) : Prop := t.styles.length ≤ 99999 ∧ Sorted nP t.styles
end Go.Proofs.YtighdhfgcdjmeaaDoor


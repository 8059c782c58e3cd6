import Derived.Test.YtighdhfgcdjmeaaGreatDoorWkL5
namespace Go.Proofs.YtighdhfgcdjmeaaGreatDoor
open Go Go.Vm
set_option maxRecDepth 20000
set_option linter.all false
set_option maxHeartbeats 8000000
def uA (x0 : Int) : Int := max (-2147483648) (min x0 2147483647)
theorem Cr (x0 : Int) (σ : List (List D))  : Ct Tryz.prog 99 [.v (.int .i64 x0)] σ (fun r σ' => r = .v (.int .i64 (uA x0)) ∧ σ' = σ) := by
 refine zf (rs:=[.tmp 2]) Tryz.func99 Tryz.ntmps99 Tryz.results99 ?_;simp only [aU];refine bP fun all K Z=>?_;simp;and_intros<;>(try omega);apply Z;clear Z K all;refine bP fun all K Z=>?_;simp;and_intros<;>(try omega);apply Z;clear Z K all;apply aG;first | (simp [aQ, uA]; done) | (simp [aQ, uA]; done) | (simp [aQ]; unfold uA; (repeat' split) <;> first | (exfalso; omega) | (simp_all; done)) | (simp [aQ, uA, *]; done) | (simp_all [aQ, uA]; done) | (simp_all [aQ, uA]; omega) | (simp [aQ, uA] <;> split <;> omega)
def qW (x0 : Int) (x1 : Int) (x2 : Int) : Int := max x1 (min x0 x2)
theorem Dn (x0 : Int) (x1 : Int) (x2 : Int) (σ : List (List D))  : Ct Tryz.prog 22 [.v (.int .i64 x0), .v (.int .i64 x1), .v (.int .i64 x2)] σ (fun r σ' => r = .v (.int .i64 (qW x0 x1 x2)) ∧ σ' = σ) := by
 refine zf (rs:=[.tmp 6]) Tryz.func22 Tryz.ntmps22 Tryz.results22 ?_;simp only [aU];refine bP fun all K Z=>?_;simp;and_intros<;>(try omega);apply Z;clear Z K all;refine bP fun all K Z=>?_;simp;and_intros<;>(try omega);apply Z;clear Z K all;apply aG;first | (simp [aQ, qW]; done) | (simp [aQ, qW]; done) | (simp [aQ]; unfold qW; (repeat' split) <;> first | (exfalso; omega) | (simp_all; done)) | (simp [aQ, qW, *]; done) | (simp_all [aQ, qW]; done) | (simp_all [aQ, qW]; omega) | (simp [aQ, qW] <;> split <;> omega)
theorem wP (x : Int) : -2147483648 ≤ uA x ∧ uA x ≤ 2147483647 := by unfold uA; omega
def kZ (a b : Int) : Int := uA (uA a + uA b)
theorem xT (a b : Int) (σ : List (List D))  : Ct Tryz.prog 80 [D.int a, D.int b] σ (fun r σ' => r = .int (kZ a b) ∧ σ' = σ) := by
 refine zf (rs:=[.tmp 4]) Tryz.func80 Tryz.ntmps80 Tryz.results80 ?_;simp only [aU];have hA := wP a;have hB := wP b;refine bP fun _ _ Z=>?_;simp;and_intros<;>(try omega);apply Z;refine bP fun _ _ Z=>?_;refine aA 1 fun _ Y=>?_;simp;and_intros<;>(try omega);apply Y;simp only [List.drop];refine aI fun _ Y=>?_;simp;refine dO (Cr a _) ?_;apply Y;refine aA 1 fun _ Y=>?_;simp;and_intros<;>(try omega);apply Y;simp only [List.drop];refine aI fun _ Y=>?_;simp;refine dO (Cr b _) ?_;apply Y;refine aA 1 fun _ Y=>?_;simp;and_intros<;>(try omega);apply Y;simp only [List.drop];refine aI fun _ Y=>?_;simp;refine dO (Cr (uA a + uA b) _) ?_;apply Y;simp;and_intros<;>(try omega);apply Z;apply aG;simp [aQ, kZ]
structure TN where
 ID : Int
 kind : Int
 tag : ByteArray
 text : ByteArray
 classes : (List ByteArray)
 attrs : (List AT)
 styles : (List PI)
 kids : (List TN)
def iX (s : TN) : D := .agg [.v (.int .i64 s.ID), .v (.int .i64 s.kind), .v (.string s.tag), .v (.string s.text), .sl false (s.classes.map D.str), .sl false (s.attrs.map bW), .sl false (s.styles.map bR), .sl false (s.kids.attach.map fun k => iX k.1)]
termination_by SizeOf.sizeOf s
decreasing_by
 have h := List.sizeOf_lt_of_mem k.2;cases s; simp at h ⊢; omega
@[simp] abbrev iT (s : TN) : D := .agg [.v (.int .i64 s.ID), .v (.int .i64 s.kind), .v (.string s.tag), .v (.string s.text), .sl false (s.classes.map D.str), .sl false (s.attrs.map bW), .sl false (s.styles.map bR), .sl false (s.kids.map iX)]
@[simp] abbrev aC3 (s : TN) : D := .agg [.v (.int .i64 s.ID), .v (.int .i64 s.kind), .v (.string s.tag), .v (.string s.text), .sl true (s.classes.map D.str), .sl true (s.attrs.map bW), .sl true (s.styles.map bR), .sl true (s.kids.map iX)]
@[simp] theorem Pi (s : TN) : iX s = iT s := by rw [iX]; simp
abbrev SO (t : TN) : Prop := t.styles.length ≤ 99999 ∧ Sorted nP t.styles
end Go.Proofs.YtighdhfgcdjmeaaGreatDoor


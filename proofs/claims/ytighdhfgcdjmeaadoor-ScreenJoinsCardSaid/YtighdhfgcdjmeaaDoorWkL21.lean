import Derived.Test.YtighdhfgcdjmeaaDoorWkL6
namespace Go.Proofs.YtighdhfgcdjmeaaDoor
open Go Go.Vm
set_option maxRecDepth 20000
set_option linter.all false
set_option maxHeartbeats 8000000
structure OPT where
 enter : Int
 leave : Int
 move : Int
 mode : Int
 appear : Bool
 moves : Bool
 deriving DecidableEq
@[simp] abbrev Sr (s : OPT) : D := .agg [.v (.int .i64 s.enter), .v (.int .i64 s.leave), .v (.int .i64 s.move), .v (.int .i64 s.mode), .v (.bool s.appear), .v (.bool s.moves)]
structure FL where
 deep : Int
 kind : Int
 tag : ByteArray
 key : ByteArray
 text : ByteArray
 classes : (List ByteArray)
 attrs : (List AT)
 styles : (List PI)
 opts : OPT
 deriving DecidableEq
@[simp] abbrev Vv (s : FL) : D := .agg [.v (.int .i64 s.deep), .v (.int .i64 s.kind), .v (.string s.tag), .v (.string s.key), .v (.string s.text), .sl false (s.classes.map D.str), .sl false (s.attrs.map rF), .sl false (s.styles.map bT), .v (.int .i64 s.opts.enter), .v (.int .i64 s.opts.leave), .v (.int .i64 s.opts.move), .v (.int .i64 s.opts.mode), .v (.bool s.opts.appear), .v (.bool s.opts.moves)]
@[simp] abbrev Zp (s : FL) : D := .agg [.v (.int .i64 s.deep), .v (.int .i64 s.kind), .v (.string s.tag), .v (.string s.key), .v (.string s.text), .sl true (s.classes.map D.str), .sl true (s.attrs.map rF), .sl true (s.styles.map bT), .v (.int .i64 s.opts.enter), .v (.int .i64 s.opts.leave), .v (.int .i64 s.opts.move), .v (.int .i64 s.opts.mode), .v (.bool s.opts.appear), .v (.bool s.opts.moves)]
structure VN where
 kind : Int
 tag : ByteArray
 key : ByteArray
 text : ByteArray
 classes : (List ByteArray)
 attrs : (List AT)
 styles : (List PI)
 opts : OPT
 kids : (List VN)
def Fv (s : VN) : D := .agg [.v (.int .i64 s.kind), .v (.string s.tag), .v (.string s.key), .v (.string s.text), .sl false (s.classes.map D.str), .sl false (s.attrs.map rF), .sl false (s.styles.map bT), .v (.int .i64 s.opts.enter), .v (.int .i64 s.opts.leave), .v (.int .i64 s.opts.move), .v (.int .i64 s.opts.mode), .v (.bool s.opts.appear), .v (.bool s.opts.moves), .sl false (s.kids.attach.map fun k => Fv k.1)]
termination_by SizeOf.sizeOf s
decreasing_by
 have h := List.sizeOf_lt_of_mem k.2;cases s; simp at h ⊢; omega
@[simp] abbrev Qc (s : VN) : D := .agg [.v (.int .i64 s.kind), .v (.string s.tag), .v (.string s.key), .v (.string s.text), .sl false (s.classes.map D.str), .sl false (s.attrs.map rF), .sl false (s.styles.map bT), .v (.int .i64 s.opts.enter), .v (.int .i64 s.opts.leave), .v (.int .i64 s.opts.move), .v (.int .i64 s.opts.mode), .v (.bool s.opts.appear), .v (.bool s.opts.moves), .sl false (s.kids.map Fv)]
@[simp] abbrev Wy (s : VN) : D := .agg [.v (.int .i64 s.kind), .v (.string s.tag), .v (.string s.key), .v (.string s.text), .sl true (s.classes.map D.str), .sl true (s.attrs.map rF), .sl true (s.styles.map bT), .v (.int .i64 s.opts.enter), .v (.int .i64 s.opts.leave), .v (.int .i64 s.opts.move), .v (.int .i64 s.opts.mode), .v (.bool s.opts.appear), .v (.bool s.opts.moves), .sl true (s.kids.map Fv)]
@[simp] theorem Pq (s : VN) : Fv s = Qc s := by rw [Fv]; simp
end Go.Proofs.YtighdhfgcdjmeaaDoor
namespace Go.Proofs.YtighdhfgcdjmeaaDoor
open Go Go.Vm
set_option maxRecDepth 20000
set_option linter.all false
set_option maxHeartbeats 8000000
end Go.Proofs.YtighdhfgcdjmeaaDoor
namespace Go.Proofs.YtighdhfgcdjmeaaDoor
open Go Go.Vm
set_option maxRecDepth 20000
set_option linter.all false
set_option maxHeartbeats 8000000
abbrev VF (v : VN) : Prop := v.classes.length ≤ 4 ∧ v.attrs.length ≤ 4 ∧ v.styles.length ≤ 4 ∧ v.text.size ≤ 70
inductive VG : VN → Prop
 | mk (v : VN) (h : VF v) (hk : ∀ k ∈ v.kids, VG k) : VG v
end Go.Proofs.YtighdhfgcdjmeaaDoor
namespace Go.Proofs.YtighdhfgcdjmeaaDoor
open Go Go.Vm
set_option maxRecDepth 20000
set_option linter.all false
set_option maxHeartbeats 8000000
end Go.Proofs.YtighdhfgcdjmeaaDoor
namespace Go.Proofs.YtighdhfgcdjmeaaDoor
open Go Go.Vm
set_option maxRecDepth 20000
set_option linter.all false
set_option maxHeartbeats 8000000
def rA (t : TN) : Nat := 1 + (t.kids.attach.map fun k => rA k.1).sum
termination_by SizeOf.sizeOf t
decreasing_by
 have h := List.sizeOf_lt_of_mem k.2;cases t; simp at h ⊢; omega
theorem lW (t : TN) : rA t = 1 + (t.kids.map rA).sum := by rw [rA]; simp
abbrev TF (t : TN) : Prop := (t.styles.length ≤ 4 ∧ Sorted nP t.styles) ∧ (t.attrs.length ≤ 4 ∧ Sorted nA t.attrs) ∧ t.text.size ≤ 70 ∧ t.classes.length ≤ 4
inductive TG : TN → Prop
 | mk (t : TN) (h : TF t) (hk : ∀ k ∈ t.kids, TG k) : TG t
end Go.Proofs.YtighdhfgcdjmeaaDoor
namespace Go.Proofs.YtighdhfgcdjmeaaDoor
open Go Go.Vm
set_option maxRecDepth 20000
set_option linter.all false
set_option maxHeartbeats 8000000
end Go.Proofs.YtighdhfgcdjmeaaDoor


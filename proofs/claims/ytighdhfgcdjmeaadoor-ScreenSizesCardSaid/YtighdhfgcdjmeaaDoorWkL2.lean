import Derived.Test.YtighdhfgcdjmeaaDoorWkL1
namespace Go.Proofs.YtighdhfgcdjmeaaDoor
open Go Go.Vm
set_option maxRecDepth 20000
set_option linter.all false
set_option maxHeartbeats 8000000
attribute [simp] cA
@[simp high] theorem Xa (l : List AT) : (l.flatMap cA).length = l.length * 2 := bC (f := cA) (fun _ => rfl) l
@[simp high] theorem Ze (l : List AT) (rest : List D) (i : Nat) (h : i < l.length) : jV true 2 ((l.flatMap cA ++ rest).drop (i * 2)) = some (.agg (cA l[i])) := vC (f := cA) (fun _ => rfl) l rest i h
@[simp high] theorem aBa (l : List AT) (rest : List D) (i : Nat) (x : AT) (h : i < l.length) : bF (l.flatMap cA ++ rest) (i * 2) [D.str x.name, D.str x.value] = (l.set i x).flatMap cA ++ rest := kN (f := cA) (fun _ => rfl) l rest i x h
attribute [simp] cP
@[simp high] theorem Wx (l : List PI) : (l.flatMap cP).length = l.length * 2 := bC (f := cP) (fun _ => rfl) l
@[simp high] theorem aBr (l : List PI) (rest : List D) (i : Nat) (h : i < l.length) : jV true 2 ((l.flatMap cP ++ rest).drop (i * 2)) = some (.agg (cP l[i])) := vC (f := cP) (fun _ => rfl) l rest i h
@[simp high] theorem aC0 (l : List PI) (rest : List D) (i : Nat) (x : PI) (h : i < l.length) : bF (l.flatMap cP ++ rest) (i * 2) [D.str x.name, D.int x.value] = (l.set i x).flatMap cP ++ rest := kN (f := cP) (fun _ => rfl) l rest i x h
end Go.Proofs.YtighdhfgcdjmeaaDoor


import Derived.Test.YtighdhfgcdjmeaaGreatDoorWkL1
namespace Go.Proofs.YtighdhfgcdjmeaaGreatDoor
open Go Go.Vm
set_option maxRecDepth 20000
set_option linter.all false
set_option maxHeartbeats 8000000
attribute [simp] cA
@[simp high] theorem aBp (l : List AT) : (l.flatMap cA).length = l.length * 2 := bM (f := cA) (fun _ => rfl) l
@[simp high] theorem aC9 (l : List AT) (rest : List D) (i : Nat) (h : i < l.length) : lD true 2 ((l.flatMap cA ++ rest).drop (i * 2)) = some (.agg (cA l[i])) := xC (f := cA) (fun _ => rfl) l rest i h
@[simp high] theorem aGv (l : List AT) (rest : List D) (i : Nat) (x : AT) (h : i < l.length) : bO (l.flatMap cA ++ rest) (i * 2) [D.str x.name, D.str x.value] = (l.set i x).flatMap cA ++ rest := kR (f := cA) (fun _ => rfl) l rest i x h
attribute [simp] cP
@[simp high] theorem aCb (l : List PI) : (l.flatMap cP).length = l.length * 2 := bM (f := cP) (fun _ => rfl) l
@[simp high] theorem aEe (l : List PI) (rest : List D) (i : Nat) (h : i < l.length) : lD true 2 ((l.flatMap cP ++ rest).drop (i * 2)) = some (.agg (cP l[i])) := xC (f := cP) (fun _ => rfl) l rest i h
@[simp high] theorem aGb (l : List PI) (rest : List D) (i : Nat) (x : PI) (h : i < l.length) : bO (l.flatMap cP ++ rest) (i * 2) [D.str x.name, D.int x.value] = (l.set i x).flatMap cP ++ rest := kR (f := cP) (fun _ => rfl) l rest i x h
end Go.Proofs.YtighdhfgcdjmeaaGreatDoor


import Derived.Test.YtighdhfgcdjmeaaGreatDoorWkL1
namespace Go.Proofs.YtighdhfgcdjmeaaGreatDoor
open Go Go.Vm
set_option maxRecDepth 20000
set_option linter.all false
set_option maxHeartbeats 8000000
attribute [simp] cA
@[simp high] theorem aA8 (l : List AT) : (l.flatMap cA).length = l.length * 2 := bN (f := cA) (fun _ => rfl) l
@[simp high] theorem aCj (l : List AT) (rest : List D) (i : Nat) (h : i < l.length) : kR true 2 ((l.flatMap cA ++ rest).drop (i * 2)) = some (.agg (cA l[i])) := xK (f := cA) (fun _ => rfl) l rest i h
@[simp high] theorem aGc (l : List AT) (rest : List D) (i : Nat) (x : AT) (h : i < l.length) : bQ (l.flatMap cA ++ rest) (i * 2) [D.str x.name, D.str x.value] = (l.set i x).flatMap cA ++ rest := kS (f := cA) (fun _ => rfl) l rest i x h
attribute [simp] cP
@[simp high] theorem aBm (l : List PI) : (l.flatMap cP).length = l.length * 2 := bN (f := cP) (fun _ => rfl) l
@[simp high] theorem aBx (l : List PI) (rest : List D) (i : Nat) (h : i < l.length) : kR true 2 ((l.flatMap cP ++ rest).drop (i * 2)) = some (.agg (cP l[i])) := xK (f := cP) (fun _ => rfl) l rest i h
@[simp high] theorem aD0 (l : List PI) (rest : List D) (i : Nat) (x : PI) (h : i < l.length) : bQ (l.flatMap cP ++ rest) (i * 2) [D.str x.name, D.int x.value] = (l.set i x).flatMap cP ++ rest := kS (f := cP) (fun _ => rfl) l rest i x h
end Go.Proofs.YtighdhfgcdjmeaaGreatDoor


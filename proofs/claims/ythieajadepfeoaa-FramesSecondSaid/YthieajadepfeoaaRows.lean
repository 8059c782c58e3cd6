/-
  No cell of these rows narrows 'for every input' (looked for: loops, veiled, ifaces, maps, wideKeys, modest, calm, conditions, laid).
  DERIVED. THE GIVEN ROWS OF THIS SEAT. 11 by the template 'for every input the law returns true; each argument reads behind the call as it read before'; 0 by the template 'total and deterministic' (their statements: YthieajadepfeoaaTotals.lean).
  GIVEN WITH THE SEED: the statements are not yours to turn. If you find one false, say at which input.
  Laid BY PROGRAM, IN A SANDBOX (cutbox-rows.mjs): the forced cells as the released guide's own fill.sh prints them over the translation ee0d77f6a0d46824… (all of the seat's roots in one cut). By AI agents, Wed Nov 11 2026. No macro, syntax, notation, axiom, sorry.
-/
import Derived.Test.YthieajadepfeoaaChecked
import GoSem.Claim
import GoSem.ClaimJoined
import GoSem.ClaimMapViews
import Derived.JoinedTies
import Derived.KernelRfl
namespace Go.Proofs.Ythieajadepfeoaa
/- THE CELL 'sum', in the pinned program and in every row, IS THE sha256 OF THE DUMP (.gsa) THAT YthieajadepfeoaaProg.lean LOADS. Nothing in Lean hashes anything: it is a label: what it is worth is what the hold of that sum in a sandbox is worth. -/
noncomputable def Try.pinned : Pinned := { name := "ythieajadepfeoaa", sum := "ee0d77f6a0d468242e5338d5f6905217b3940693892e15494b1002f43b6bb928", checked := Try.checked }
namespace Rows
def none {H : Type} : Left H := { results := [], args := [] }

/-- 'scrimlaw03.ClassesLeast': WHATEVER THE INPUT: true; the input reads as it did. -/
def classesLeastSpec : ChangeSpec := { name := "classesLeast", fn := fun _ => fun
  | [d1, d2, d3] => { results := [.lit (.bool true)], args := [d1, d2, d3] }
  | _ => none }
def classesLeastRow : OpenClaim := { program := "ythieajadepfeoaa", sum := "ee0d77f6a0d468242e5338d5f6905217b3940693892e15494b1002f43b6bb928", func := "scrim/scrimlaw03.ClassesLeast", spec := "classesLeast", apart := false }
def ClassesLeastSaid : Prop := classesLeastRow.holds Try.pinned (OpenSpec.ofChange classesLeastSpec)

/-- ITS FALSE NEIGHBOUR: 'it returns false'. Refute it at one input. -/
def classesLeastWrong : ChangeSpec := { name := "classesLeast", fn := fun _ => fun
  | [d1, d2, d3] => { results := [.lit (.bool false)], args := [d1, d2, d3] }
  | _ => none }
def ClassesLeastWrongFalsely : Prop := classesLeastRow.holds Try.pinned (OpenSpec.ofChange classesLeastWrong)

/-- 'scrimlaw17.FramesSecond': WHATEVER THE INPUT: true; the input reads as it did. -/
def framesSecondSpec : ChangeSpec := { name := "framesSecond", fn := fun _ => fun
  | [d] => { results := [.lit (.bool true)], args := [d] }
  | _ => none }
def framesSecondRow : OpenClaim := { program := "ythieajadepfeoaa", sum := "ee0d77f6a0d468242e5338d5f6905217b3940693892e15494b1002f43b6bb928", func := "scrim/scrimlaw17.FramesSecond", spec := "framesSecond", unfollowed := true, recurses := true, apart := false }
def FramesSecondSaid : Prop := framesSecondRow.holds Try.pinned (OpenSpec.ofChange framesSecondSpec)

/-- ITS FALSE NEIGHBOUR: 'it returns false'. Refute it at one input. -/
def framesSecondWrong : ChangeSpec := { name := "framesSecond", fn := fun _ => fun
  | [d] => { results := [.lit (.bool false)], args := [d] }
  | _ => none }
def FramesSecondWrongFalsely : Prop := framesSecondRow.holds Try.pinned (OpenSpec.ofChange framesSecondWrong)

/-- 'scrimlaw03.ClassesSame': WHATEVER THE INPUT: true; the input reads as it did. -/
def classesSameSpec : ChangeSpec := { name := "classesSame", fn := fun _ => fun
  | [d1, d2] => { results := [.lit (.bool true)], args := [d1, d2] }
  | _ => none }
def classesSameRow : OpenClaim := { program := "ythieajadepfeoaa", sum := "ee0d77f6a0d468242e5338d5f6905217b3940693892e15494b1002f43b6bb928", func := "scrim/scrimlaw03.ClassesSame", spec := "classesSame", apart := false }
def ClassesSameSaid : Prop := classesSameRow.holds Try.pinned (OpenSpec.ofChange classesSameSpec)

/-- ITS FALSE NEIGHBOUR: 'it returns false'. Refute it at one input. -/
def classesSameWrong : ChangeSpec := { name := "classesSame", fn := fun _ => fun
  | [d1, d2] => { results := [.lit (.bool false)], args := [d1, d2] }
  | _ => none }
def ClassesSameWrongFalsely : Prop := classesSameRow.holds Try.pinned (OpenSpec.ofChange classesSameWrong)

/-- 'scrimlaw17.FramesPlay': WHATEVER THE INPUT: true; the input reads as it did. -/
def framesPlaySpec : ChangeSpec := { name := "framesPlay", fn := fun _ => fun
  | [d1, d2] => { results := [.lit (.bool true)], args := [d1, d2] }
  | _ => none }
def framesPlayRow : OpenClaim := { program := "ythieajadepfeoaa", sum := "ee0d77f6a0d468242e5338d5f6905217b3940693892e15494b1002f43b6bb928", func := "scrim/scrimlaw17.FramesPlay", spec := "framesPlay", unfollowed := true, recurses := true, apart := false }
def FramesPlaySaid : Prop := framesPlayRow.holds Try.pinned (OpenSpec.ofChange framesPlaySpec)

/-- ITS FALSE NEIGHBOUR: 'it returns false'. Refute it at one input. -/
def framesPlayWrong : ChangeSpec := { name := "framesPlay", fn := fun _ => fun
  | [d1, d2] => { results := [.lit (.bool false)], args := [d1, d2] }
  | _ => none }
def FramesPlayWrongFalsely : Prop := framesPlayRow.holds Try.pinned (OpenSpec.ofChange framesPlayWrong)

/-- 'scrimlaw03.ClassesLists': WHATEVER THE INPUT: true; the input reads as it did. -/
def classesListsSpec : ChangeSpec := { name := "classesLists", fn := fun _ => fun
  | [d1, d2] => { results := [.lit (.bool true)], args := [d1, d2] }
  | _ => none }
def classesListsRow : OpenClaim := { program := "ythieajadepfeoaa", sum := "ee0d77f6a0d468242e5338d5f6905217b3940693892e15494b1002f43b6bb928", func := "scrim/scrimlaw03.ClassesLists", spec := "classesLists", unfollowed := true, recurses := true, apart := false }
def ClassesListsSaid : Prop := classesListsRow.holds Try.pinned (OpenSpec.ofChange classesListsSpec)

/-- ITS FALSE NEIGHBOUR: 'it returns false'. Refute it at one input. -/
def classesListsWrong : ChangeSpec := { name := "classesLists", fn := fun _ => fun
  | [d1, d2] => { results := [.lit (.bool false)], args := [d1, d2] }
  | _ => none }
def ClassesListsWrongFalsely : Prop := classesListsRow.holds Try.pinned (OpenSpec.ofChange classesListsWrong)

/-- 'scrimlaw03.ClassesTurns': WHATEVER THE INPUT: true; the input reads as it did. -/
def classesTurnsSpec : ChangeSpec := { name := "classesTurns", fn := fun _ => fun
  | [d1, d2] => { results := [.lit (.bool true)], args := [d1, d2] }
  | _ => none }
def classesTurnsRow : OpenClaim := { program := "ythieajadepfeoaa", sum := "ee0d77f6a0d468242e5338d5f6905217b3940693892e15494b1002f43b6bb928", func := "scrim/scrimlaw03.ClassesTurns", spec := "classesTurns", unfollowed := true, recurses := true, apart := false }
def ClassesTurnsSaid : Prop := classesTurnsRow.holds Try.pinned (OpenSpec.ofChange classesTurnsSpec)

/-- ITS FALSE NEIGHBOUR: 'it returns false'. Refute it at one input. -/
def classesTurnsWrong : ChangeSpec := { name := "classesTurns", fn := fun _ => fun
  | [d1, d2] => { results := [.lit (.bool false)], args := [d1, d2] }
  | _ => none }
def ClassesTurnsWrongFalsely : Prop := classesTurnsRow.holds Try.pinned (OpenSpec.ofChange classesTurnsWrong)

/-- 'scrimlaw03.ClassesApply': WHATEVER THE INPUT: true; the input reads as it did. -/
def classesApplySpec : ChangeSpec := { name := "classesApply", fn := fun _ => fun
  | [d1, d2] => { results := [.lit (.bool true)], args := [d1, d2] }
  | _ => none }
def classesApplyRow : OpenClaim := { program := "ythieajadepfeoaa", sum := "ee0d77f6a0d468242e5338d5f6905217b3940693892e15494b1002f43b6bb928", func := "scrim/scrimlaw03.ClassesApply", spec := "classesApply", unfollowed := true, recurses := true, apart := false }
def ClassesApplySaid : Prop := classesApplyRow.holds Try.pinned (OpenSpec.ofChange classesApplySpec)

/-- ITS FALSE NEIGHBOUR: 'it returns false'. Refute it at one input. -/
def classesApplyWrong : ChangeSpec := { name := "classesApply", fn := fun _ => fun
  | [d1, d2] => { results := [.lit (.bool false)], args := [d1, d2] }
  | _ => none }
def ClassesApplyWrongFalsely : Prop := classesApplyRow.holds Try.pinned (OpenSpec.ofChange classesApplyWrong)

/-- 'scrimlaw17.FramesClones': WHATEVER THE INPUT: true; the input reads as it did. -/
def framesClonesSpec : ChangeSpec := { name := "framesClones", fn := fun _ => fun
  | [d1, d2] => { results := [.lit (.bool true)], args := [d1, d2] }
  | _ => none }
def framesClonesRow : OpenClaim := { program := "ythieajadepfeoaa", sum := "ee0d77f6a0d468242e5338d5f6905217b3940693892e15494b1002f43b6bb928", func := "scrim/scrimlaw17.FramesClones", spec := "framesClones", unfollowed := true, recurses := true, apart := false }
def FramesClonesSaid : Prop := framesClonesRow.holds Try.pinned (OpenSpec.ofChange framesClonesSpec)

/-- ITS FALSE NEIGHBOUR: 'it returns false'. Refute it at one input. -/
def framesClonesWrong : ChangeSpec := { name := "framesClones", fn := fun _ => fun
  | [d1, d2] => { results := [.lit (.bool false)], args := [d1, d2] }
  | _ => none }
def FramesClonesWrongFalsely : Prop := framesClonesRow.holds Try.pinned (OpenSpec.ofChange framesClonesWrong)

/-- 'scrimlaw21.PhaseWords': WHATEVER THE INPUT: true; the input reads as it did. -/
def phaseWordsSpec : ChangeSpec := { name := "phaseWords", fn := fun _ => fun
  | [d1, d2] => { results := [.lit (.bool true)], args := [d1, d2] }
  | _ => none }
def phaseWordsRow : OpenClaim := { program := "ythieajadepfeoaa", sum := "ee0d77f6a0d468242e5338d5f6905217b3940693892e15494b1002f43b6bb928", func := "scrim/scrimlaw21.PhaseWords", spec := "phaseWords", apart := false }
def PhaseWordsSaid : Prop := phaseWordsRow.holds Try.pinned (OpenSpec.ofChange phaseWordsSpec)

/-- ITS FALSE NEIGHBOUR: 'it returns false'. Refute it at one input. -/
def phaseWordsWrong : ChangeSpec := { name := "phaseWords", fn := fun _ => fun
  | [d1, d2] => { results := [.lit (.bool false)], args := [d1, d2] }
  | _ => none }
def PhaseWordsWrongFalsely : Prop := phaseWordsRow.holds Try.pinned (OpenSpec.ofChange phaseWordsWrong)

/-- 'scrimlaw21.PhaseEnds': WHATEVER THE INPUT: true; the input reads as it did. -/
def phaseEndsSpec : ChangeSpec := { name := "phaseEnds", fn := fun _ => fun
  | [d1, d2] => { results := [.lit (.bool true)], args := [d1, d2] }
  | _ => none }
def phaseEndsRow : OpenClaim := { program := "ythieajadepfeoaa", sum := "ee0d77f6a0d468242e5338d5f6905217b3940693892e15494b1002f43b6bb928", func := "scrim/scrimlaw21.PhaseEnds", spec := "phaseEnds", apart := false }
def PhaseEndsSaid : Prop := phaseEndsRow.holds Try.pinned (OpenSpec.ofChange phaseEndsSpec)

/-- ITS FALSE NEIGHBOUR: 'it returns false'. Refute it at one input. -/
def phaseEndsWrong : ChangeSpec := { name := "phaseEnds", fn := fun _ => fun
  | [d1, d2] => { results := [.lit (.bool false)], args := [d1, d2] }
  | _ => none }
def PhaseEndsWrongFalsely : Prop := phaseEndsRow.holds Try.pinned (OpenSpec.ofChange phaseEndsWrong)

/-- 'scrimlaw21.PhaseJobs': WHATEVER THE INPUT: true; the input reads as it did. -/
def phaseJobsSpec : ChangeSpec := { name := "phaseJobs", fn := fun _ => fun
  | [d1, d2] => { results := [.lit (.bool true)], args := [d1, d2] }
  | _ => none }
def phaseJobsRow : OpenClaim := { program := "ythieajadepfeoaa", sum := "ee0d77f6a0d468242e5338d5f6905217b3940693892e15494b1002f43b6bb928", func := "scrim/scrimlaw21.PhaseJobs", spec := "phaseJobs", apart := false }
def PhaseJobsSaid : Prop := phaseJobsRow.holds Try.pinned (OpenSpec.ofChange phaseJobsSpec)

/-- ITS FALSE NEIGHBOUR: 'it returns false'. Refute it at one input. -/
def phaseJobsWrong : ChangeSpec := { name := "phaseJobs", fn := fun _ => fun
  | [d1, d2] => { results := [.lit (.bool false)], args := [d1, d2] }
  | _ => none }
def PhaseJobsWrongFalsely : Prop := phaseJobsRow.holds Try.pinned (OpenSpec.ofChange phaseJobsWrong)

/- THE SECOND FORM. 'bulk': how many values and letters a reading holds, each counted each time it is reached (what is shared counts as often as it is met; a slice's spare places count too). A statement '..UptoSaid' is the law's where the arguments, and the package variables that the reading takes, are together of bulk at most 1048576: NARROWER than '..Said'. Prove '..Said' where nothing that the law and all that it calls make is longer than what came in: it says more and counts as full. Else prove '..UptoSaid'. A law counts once. -/
mutual
def uptoBulk {H : Type} : DataW H → Nat
  | .lit (.string bytes) => bytes.length + 1
  | .lit _ => 1
  | .nil => 1
  | .ptr d => uptoBulk d + 1
  | .slice elems spare => uptoBulkAll elems + uptoBulkAll spare + 1
  | .agg parts => uptoBulkAll parts + 1
  | .iface _ d => uptoBulk d + 1
  | .map entries => uptoBulkEntries entries + 1
  | .held _ => 1
def uptoBulkAll {H : Type} : List (DataW H) → Nat
  | [] => 0
  | d :: r => uptoBulk d + uptoBulkAll r
def uptoBulkEntries {H : Type} : List (Lit × DataW H) → Nat
  | [] => 0
  | x :: r => uptoBulkEntry x + uptoBulkEntries r
def uptoBulkEntry {H : Type} : Lit × DataW H → Nat
  | (.string bytes, d) => bytes.length + uptoBulk d + 1
  | (_, d) => uptoBulk d + 1
 end
def uptoSmall : (H : Type) → List (DataW H) → Bool := fun _ ds => decide (uptoBulkAll ds ≤ 1048576)
def OpenSpec.upto (s : _root_.Go.ChangeSpec) : _root_.Go.OpenSpec := { _root_.Go.OpenSpec.ofChange s with cond := some uptoSmall }

/-- 'scrimlaw03.ClassesLeast', WHERE WHAT IT READS IS OF BULK AT MOST 1048576: true; the input reads as it did. -/
def classesLeastUptoRow : OpenClaim := { program := "ythieajadepfeoaa", sum := "ee0d77f6a0d468242e5338d5f6905217b3940693892e15494b1002f43b6bb928", func := "scrim/scrimlaw03.ClassesLeast", spec := "classesLeast", apart := false, narrowed := true }
def ClassesLeastUptoSaid : Prop := classesLeastUptoRow.holds Try.pinned (OpenSpec.upto classesLeastSpec)

/-- 'scrimlaw17.FramesSecond', WHERE WHAT IT READS IS OF BULK AT MOST 1048576: true; the input reads as it did. -/
def framesSecondUptoRow : OpenClaim := { program := "ythieajadepfeoaa", sum := "ee0d77f6a0d468242e5338d5f6905217b3940693892e15494b1002f43b6bb928", func := "scrim/scrimlaw17.FramesSecond", spec := "framesSecond", unfollowed := true, recurses := true, apart := false, narrowed := true }
def FramesSecondUptoSaid : Prop := framesSecondUptoRow.holds Try.pinned (OpenSpec.upto framesSecondSpec)

/-- 'scrimlaw03.ClassesSame', WHERE WHAT IT READS IS OF BULK AT MOST 1048576: true; the input reads as it did. -/
def classesSameUptoRow : OpenClaim := { program := "ythieajadepfeoaa", sum := "ee0d77f6a0d468242e5338d5f6905217b3940693892e15494b1002f43b6bb928", func := "scrim/scrimlaw03.ClassesSame", spec := "classesSame", apart := false, narrowed := true }
def ClassesSameUptoSaid : Prop := classesSameUptoRow.holds Try.pinned (OpenSpec.upto classesSameSpec)

/-- 'scrimlaw17.FramesPlay', WHERE WHAT IT READS IS OF BULK AT MOST 1048576: true; the input reads as it did. -/
def framesPlayUptoRow : OpenClaim := { program := "ythieajadepfeoaa", sum := "ee0d77f6a0d468242e5338d5f6905217b3940693892e15494b1002f43b6bb928", func := "scrim/scrimlaw17.FramesPlay", spec := "framesPlay", unfollowed := true, recurses := true, apart := false, narrowed := true }
def FramesPlayUptoSaid : Prop := framesPlayUptoRow.holds Try.pinned (OpenSpec.upto framesPlaySpec)

/-- 'scrimlaw03.ClassesLists', WHERE WHAT IT READS IS OF BULK AT MOST 1048576: true; the input reads as it did. -/
def classesListsUptoRow : OpenClaim := { program := "ythieajadepfeoaa", sum := "ee0d77f6a0d468242e5338d5f6905217b3940693892e15494b1002f43b6bb928", func := "scrim/scrimlaw03.ClassesLists", spec := "classesLists", unfollowed := true, recurses := true, apart := false, narrowed := true }
def ClassesListsUptoSaid : Prop := classesListsUptoRow.holds Try.pinned (OpenSpec.upto classesListsSpec)

/-- 'scrimlaw03.ClassesTurns', WHERE WHAT IT READS IS OF BULK AT MOST 1048576: true; the input reads as it did. -/
def classesTurnsUptoRow : OpenClaim := { program := "ythieajadepfeoaa", sum := "ee0d77f6a0d468242e5338d5f6905217b3940693892e15494b1002f43b6bb928", func := "scrim/scrimlaw03.ClassesTurns", spec := "classesTurns", unfollowed := true, recurses := true, apart := false, narrowed := true }
def ClassesTurnsUptoSaid : Prop := classesTurnsUptoRow.holds Try.pinned (OpenSpec.upto classesTurnsSpec)

/-- 'scrimlaw03.ClassesApply', WHERE WHAT IT READS IS OF BULK AT MOST 1048576: true; the input reads as it did. -/
def classesApplyUptoRow : OpenClaim := { program := "ythieajadepfeoaa", sum := "ee0d77f6a0d468242e5338d5f6905217b3940693892e15494b1002f43b6bb928", func := "scrim/scrimlaw03.ClassesApply", spec := "classesApply", unfollowed := true, recurses := true, apart := false, narrowed := true }
def ClassesApplyUptoSaid : Prop := classesApplyUptoRow.holds Try.pinned (OpenSpec.upto classesApplySpec)

/-- 'scrimlaw17.FramesClones', WHERE WHAT IT READS IS OF BULK AT MOST 1048576: true; the input reads as it did. -/
def framesClonesUptoRow : OpenClaim := { program := "ythieajadepfeoaa", sum := "ee0d77f6a0d468242e5338d5f6905217b3940693892e15494b1002f43b6bb928", func := "scrim/scrimlaw17.FramesClones", spec := "framesClones", unfollowed := true, recurses := true, apart := false, narrowed := true }
def FramesClonesUptoSaid : Prop := framesClonesUptoRow.holds Try.pinned (OpenSpec.upto framesClonesSpec)

/-- 'scrimlaw21.PhaseWords', WHERE WHAT IT READS IS OF BULK AT MOST 1048576: true; the input reads as it did. -/
def phaseWordsUptoRow : OpenClaim := { program := "ythieajadepfeoaa", sum := "ee0d77f6a0d468242e5338d5f6905217b3940693892e15494b1002f43b6bb928", func := "scrim/scrimlaw21.PhaseWords", spec := "phaseWords", apart := false, narrowed := true }
def PhaseWordsUptoSaid : Prop := phaseWordsUptoRow.holds Try.pinned (OpenSpec.upto phaseWordsSpec)

/-- 'scrimlaw21.PhaseEnds', WHERE WHAT IT READS IS OF BULK AT MOST 1048576: true; the input reads as it did. -/
def phaseEndsUptoRow : OpenClaim := { program := "ythieajadepfeoaa", sum := "ee0d77f6a0d468242e5338d5f6905217b3940693892e15494b1002f43b6bb928", func := "scrim/scrimlaw21.PhaseEnds", spec := "phaseEnds", apart := false, narrowed := true }
def PhaseEndsUptoSaid : Prop := phaseEndsUptoRow.holds Try.pinned (OpenSpec.upto phaseEndsSpec)

/-- 'scrimlaw21.PhaseJobs', WHERE WHAT IT READS IS OF BULK AT MOST 1048576: true; the input reads as it did. -/
def phaseJobsUptoRow : OpenClaim := { program := "ythieajadepfeoaa", sum := "ee0d77f6a0d468242e5338d5f6905217b3940693892e15494b1002f43b6bb928", func := "scrim/scrimlaw21.PhaseJobs", spec := "phaseJobs", apart := false, narrowed := true }
def PhaseJobsUptoSaid : Prop := phaseJobsUptoRow.holds Try.pinned (OpenSpec.upto phaseJobsSpec)

end Rows
end Go.Proofs.Ythieajadepfeoaa

/-
  No cell of these rows narrows 'for every input' (looked for: loops, veiled, ifaces, maps, wideKeys, modest, calm, conditions, laid).
  DERIVED. THE GIVEN ROWS OF THIS SEAT. 8 by the template 'for every input the law returns true; each argument reads behind the call as it read before'; 0 by the template 'total and deterministic' (their statements: YtpfmpeaekgdgnaaGreatTotals.lean).
  GIVEN WITH THE SEED: the statements are not yours to turn. If you find one false, say at which input.
  Laid BY PROGRAM, IN A SANDBOX (cutbox-rows.mjs): the forced cells as the released guide's own fill.sh prints them over the translation 63f80f5de088b9b3… (all of the seat's roots in one cut). By AI agents, Wed Nov 11 2026. No macro, syntax, notation, axiom, sorry.
-/
import Derived.Test.YtpfmpeaekgdgnaaGreatChecked
import GoSem.Claim
import GoSem.ClaimJoined
import GoSem.ClaimMapViews
import Derived.JoinedTies
import Derived.KernelRfl
namespace Go.Proofs.YtpfmpeaekgdgnaaGreat
/- THE CELL 'sum', in the pinned program and in every row, IS THE sha256 OF THE DUMP (.gsa) THAT YtpfmpeaekgdgnaaGreatProg.lean LOADS. Nothing in Lean hashes anything: it is a label: what it is worth is what the hold of that sum in a sandbox is worth. -/
noncomputable def Tryz.pinned : Pinned := { name := "ytpfmpeaekgdgnaagreat", sum := "63f80f5de088b9b379257fe4a85c05072d9c71cd037ca5404077a509f13a9056", checked := Tryz.checked }
namespace Rows
def none {H : Type} : Left H := { results := [], args := [] }

/-- 'scrimlaw05.ArenaWithin': WHATEVER THE INPUT: true; the input reads as it did. -/
def arenaWithinSpec : ChangeSpec := { name := "arenaWithin", fn := fun _ => fun
  | [d1, d2, d3] => { results := [.lit (.bool true)], args := [d1, d2, d3] }
  | _ => none }
def arenaWithinRow : OpenClaim := { program := "ytpfmpeaekgdgnaagreat", sum := "63f80f5de088b9b379257fe4a85c05072d9c71cd037ca5404077a509f13a9056", func := "scrim/scrimlaw05.ArenaWithin", spec := "arenaWithin", inPlace := ["slices.overlaps[int]", "slices.overlaps[scrim/props.Pair[string]]", "slices.overlaps[scrim/props.Pair[int]]"], unfollowed := true, recurses := true, apart := false }
def ArenaWithinSaid : Prop := arenaWithinRow.holds Tryz.pinned (OpenSpec.ofChange arenaWithinSpec)

/-- ITS FALSE NEIGHBOUR: 'it returns false'. Refute it at one input. -/
def arenaWithinWrong : ChangeSpec := { name := "arenaWithin", fn := fun _ => fun
  | [d1, d2, d3] => { results := [.lit (.bool false)], args := [d1, d2, d3] }
  | _ => none }
def ArenaWithinWrongFalsely : Prop := arenaWithinRow.holds Tryz.pinned (OpenSpec.ofChange arenaWithinWrong)

/-- 'scrimlaw05.ArenaPlays': WHATEVER THE INPUT: true; the input reads as it did. -/
def arenaPlaysSpec : ChangeSpec := { name := "arenaPlays", fn := fun _ => fun
  | [d1, d2] => { results := [.lit (.bool true)], args := [d1, d2] }
  | _ => none }
def arenaPlaysRow : OpenClaim := { program := "ytpfmpeaekgdgnaagreat", sum := "63f80f5de088b9b379257fe4a85c05072d9c71cd037ca5404077a509f13a9056", func := "scrim/scrimlaw05.ArenaPlays", spec := "arenaPlays", inPlace := ["slices.overlaps[int]", "slices.overlaps[scrim/props.Pair[string]]", "slices.overlaps[scrim/props.Pair[int]]"], unfollowed := true, recurses := true, apart := false }
def ArenaPlaysSaid : Prop := arenaPlaysRow.holds Tryz.pinned (OpenSpec.ofChange arenaPlaysSpec)

/-- ITS FALSE NEIGHBOUR: 'it returns false'. Refute it at one input. -/
def arenaPlaysWrong : ChangeSpec := { name := "arenaPlays", fn := fun _ => fun
  | [d1, d2] => { results := [.lit (.bool false)], args := [d1, d2] }
  | _ => none }
def ArenaPlaysWrongFalsely : Prop := arenaPlaysRow.holds Tryz.pinned (OpenSpec.ofChange arenaPlaysWrong)

/-- 'scrimlaw05.ArenaTree': WHATEVER THE INPUT: true; the input reads as it did. -/
def arenaTreeSpec : ChangeSpec := { name := "arenaTree", fn := fun _ => fun
  | [d1, d2] => { results := [.lit (.bool true)], args := [d1, d2] }
  | _ => none }
def arenaTreeRow : OpenClaim := { program := "ytpfmpeaekgdgnaagreat", sum := "63f80f5de088b9b379257fe4a85c05072d9c71cd037ca5404077a509f13a9056", func := "scrim/scrimlaw05.ArenaTree", spec := "arenaTree", inPlace := ["slices.overlaps[int]", "slices.overlaps[scrim/props.Pair[string]]", "slices.overlaps[scrim/props.Pair[int]]"], unfollowed := true, recurses := true, apart := false }
def ArenaTreeSaid : Prop := arenaTreeRow.holds Tryz.pinned (OpenSpec.ofChange arenaTreeSpec)

/-- ITS FALSE NEIGHBOUR: 'it returns false'. Refute it at one input. -/
def arenaTreeWrong : ChangeSpec := { name := "arenaTree", fn := fun _ => fun
  | [d1, d2] => { results := [.lit (.bool false)], args := [d1, d2] }
  | _ => none }
def ArenaTreeWrongFalsely : Prop := arenaTreeRow.holds Tryz.pinned (OpenSpec.ofChange arenaTreeWrong)

/-- 'scrimlaw05.ArenaOwn': WHATEVER THE INPUT: true; the input reads as it did. -/
def arenaOwnSpec : ChangeSpec := { name := "arenaOwn", fn := fun _ => fun
  | [d1, d2] => { results := [.lit (.bool true)], args := [d1, d2] }
  | _ => none }
def arenaOwnRow : OpenClaim := { program := "ytpfmpeaekgdgnaagreat", sum := "63f80f5de088b9b379257fe4a85c05072d9c71cd037ca5404077a509f13a9056", func := "scrim/scrimlaw05.ArenaOwn", spec := "arenaOwn", inPlace := ["slices.overlaps[int]", "slices.overlaps[scrim/props.Pair[string]]", "slices.overlaps[scrim/props.Pair[int]]"], unfollowed := true, recurses := true, apart := false }
def ArenaOwnSaid : Prop := arenaOwnRow.holds Tryz.pinned (OpenSpec.ofChange arenaOwnSpec)

/-- ITS FALSE NEIGHBOUR: 'it returns false'. Refute it at one input. -/
def arenaOwnWrong : ChangeSpec := { name := "arenaOwn", fn := fun _ => fun
  | [d1, d2] => { results := [.lit (.bool false)], args := [d1, d2] }
  | _ => none }
def ArenaOwnWrongFalsely : Prop := arenaOwnRow.holds Tryz.pinned (OpenSpec.ofChange arenaOwnWrong)

/-- 'scrimlaw05.ArenaClones': WHATEVER THE INPUT: true; the input reads as it did. -/
def arenaClonesSpec : ChangeSpec := { name := "arenaClones", fn := fun _ => fun
  | [d1, d2] => { results := [.lit (.bool true)], args := [d1, d2] }
  | _ => none }
def arenaClonesRow : OpenClaim := { program := "ytpfmpeaekgdgnaagreat", sum := "63f80f5de088b9b379257fe4a85c05072d9c71cd037ca5404077a509f13a9056", func := "scrim/scrimlaw05.ArenaClones", spec := "arenaClones", inPlace := ["slices.overlaps[int]", "slices.overlaps[scrim/props.Pair[string]]", "slices.overlaps[scrim/props.Pair[int]]"], unfollowed := true, recurses := true, apart := false }
def ArenaClonesSaid : Prop := arenaClonesRow.holds Tryz.pinned (OpenSpec.ofChange arenaClonesSpec)

/-- ITS FALSE NEIGHBOUR: 'it returns false'. Refute it at one input. -/
def arenaClonesWrong : ChangeSpec := { name := "arenaClones", fn := fun _ => fun
  | [d1, d2] => { results := [.lit (.bool false)], args := [d1, d2] }
  | _ => none }
def ArenaClonesWrongFalsely : Prop := arenaClonesRow.holds Tryz.pinned (OpenSpec.ofChange arenaClonesWrong)

/-- 'scrimlaw06.TrailNotes': WHATEVER THE INPUT: true; the input reads as it did. -/
def trailNotesSpec : ChangeSpec := { name := "trailNotes", fn := fun _ => fun
  | [d1, d2] => { results := [.lit (.bool true)], args := [d1, d2] }
  | _ => none }
def trailNotesRow : OpenClaim := { program := "ytpfmpeaekgdgnaagreat", sum := "63f80f5de088b9b379257fe4a85c05072d9c71cd037ca5404077a509f13a9056", func := "scrim/scrimlaw06.TrailNotes", spec := "trailNotes", inPlace := ["slices.overlaps[int]", "slices.overlaps[scrim/props.Pair[string]]", "slices.overlaps[scrim/props.Pair[int]]"], unfollowed := true, recurses := true, apart := false }
def TrailNotesSaid : Prop := trailNotesRow.holds Tryz.pinned (OpenSpec.ofChange trailNotesSpec)

/-- ITS FALSE NEIGHBOUR: 'it returns false'. Refute it at one input. -/
def trailNotesWrong : ChangeSpec := { name := "trailNotes", fn := fun _ => fun
  | [d1, d2] => { results := [.lit (.bool false)], args := [d1, d2] }
  | _ => none }
def TrailNotesWrongFalsely : Prop := trailNotesRow.holds Tryz.pinned (OpenSpec.ofChange trailNotesWrong)

/-- 'scrimlaw06.TrailOps': WHATEVER THE INPUT: true; the input reads as it did. -/
def trailOpsSpec : ChangeSpec := { name := "trailOps", fn := fun _ => fun
  | [d] => { results := [.lit (.bool true)], args := [d] }
  | _ => none }
def trailOpsRow : OpenClaim := { program := "ytpfmpeaekgdgnaagreat", sum := "63f80f5de088b9b379257fe4a85c05072d9c71cd037ca5404077a509f13a9056", func := "scrim/scrimlaw06.TrailOps", spec := "trailOps", inPlace := ["slices.overlaps[int]", "slices.overlaps[scrim/props.Pair[string]]", "slices.overlaps[scrim/props.Pair[int]]"], unfollowed := true, recurses := true, apart := false }
def TrailOpsSaid : Prop := trailOpsRow.holds Tryz.pinned (OpenSpec.ofChange trailOpsSpec)

/-- ITS FALSE NEIGHBOUR: 'it returns false'. Refute it at one input. -/
def trailOpsWrong : ChangeSpec := { name := "trailOps", fn := fun _ => fun
  | [d] => { results := [.lit (.bool false)], args := [d] }
  | _ => none }
def TrailOpsWrongFalsely : Prop := trailOpsRow.holds Tryz.pinned (OpenSpec.ofChange trailOpsWrong)

/-- 'scrimlaw06.TrailReplays': WHATEVER THE INPUT: true; the input reads as it did. -/
def trailReplaysSpec : ChangeSpec := { name := "trailReplays", fn := fun _ => fun
  | [d1, d2] => { results := [.lit (.bool true)], args := [d1, d2] }
  | _ => none }
def trailReplaysRow : OpenClaim := { program := "ytpfmpeaekgdgnaagreat", sum := "63f80f5de088b9b379257fe4a85c05072d9c71cd037ca5404077a509f13a9056", func := "scrim/scrimlaw06.TrailReplays", spec := "trailReplays", inPlace := ["slices.overlaps[int]", "slices.overlaps[scrim/props.Pair[string]]", "slices.overlaps[scrim/props.Pair[int]]"], unfollowed := true, recurses := true, apart := false }
def TrailReplaysSaid : Prop := trailReplaysRow.holds Tryz.pinned (OpenSpec.ofChange trailReplaysSpec)

/-- ITS FALSE NEIGHBOUR: 'it returns false'. Refute it at one input. -/
def trailReplaysWrong : ChangeSpec := { name := "trailReplays", fn := fun _ => fun
  | [d1, d2] => { results := [.lit (.bool false)], args := [d1, d2] }
  | _ => none }
def TrailReplaysWrongFalsely : Prop := trailReplaysRow.holds Tryz.pinned (OpenSpec.ofChange trailReplaysWrong)

/- THE SECOND FORM. 'bulk': how many values and letters a reading holds, each counted each time it is reached (what is shared counts as often as it is met; a slice's spare places count too). A statement '..UptoSaid' is the law's where the arguments, and the package variables that the reading takes, are together of bulk at most 1048576: NARROWER than '..Said'. Prove '..Said' where nothing that the law and all that it calls make is longer than what came in: it says more and counts as full. Else prove '..UptoSaid'. A law counts once. -/
mutual
def uptoBulk {H : Type} : DataW H → Nat
  | .lit (.string bytes) => bytes.length + 1
  | .lit _ => 1
  | .nil => 1
  | .ptr d => uptoBulk d + 1
  | .slice elems spare => uptoBulkAll elems + uptoBulkAll spare + 1
  | .agg parts => uptoBulkAll parts + 1
  | .iface _ d => uptoBulk d + 1
  | .map entries => uptoBulkEntries entries + 1
  | .held _ => 1
def uptoBulkAll {H : Type} : List (DataW H) → Nat
  | [] => 0
  | d :: r => uptoBulk d + uptoBulkAll r
def uptoBulkEntries {H : Type} : List (Lit × DataW H) → Nat
  | [] => 0
  | x :: r => uptoBulkEntry x + uptoBulkEntries r
def uptoBulkEntry {H : Type} : Lit × DataW H → Nat
  | (.string bytes, d) => bytes.length + uptoBulk d + 1
  | (_, d) => uptoBulk d + 1
 end
def uptoSmall : (H : Type) → List (DataW H) → Bool := fun _ ds => decide (uptoBulkAll ds ≤ 1048576)
def OpenSpec.upto (s : _root_.Go.ChangeSpec) : _root_.Go.OpenSpec := { _root_.Go.OpenSpec.ofChange s with cond := some uptoSmall }

/-- 'scrimlaw05.ArenaWithin', WHERE WHAT IT READS IS OF BULK AT MOST 1048576: true; the input reads as it did. -/
def arenaWithinUptoRow : OpenClaim := { program := "ytpfmpeaekgdgnaagreat", sum := "63f80f5de088b9b379257fe4a85c05072d9c71cd037ca5404077a509f13a9056", func := "scrim/scrimlaw05.ArenaWithin", spec := "arenaWithin", inPlace := ["slices.overlaps[int]", "slices.overlaps[scrim/props.Pair[string]]", "slices.overlaps[scrim/props.Pair[int]]"], unfollowed := true, recurses := true, apart := false, narrowed := true }
def ArenaWithinUptoSaid : Prop := arenaWithinUptoRow.holds Tryz.pinned (OpenSpec.upto arenaWithinSpec)

/-- 'scrimlaw05.ArenaPlays', WHERE WHAT IT READS IS OF BULK AT MOST 1048576: true; the input reads as it did. -/
def arenaPlaysUptoRow : OpenClaim := { program := "ytpfmpeaekgdgnaagreat", sum := "63f80f5de088b9b379257fe4a85c05072d9c71cd037ca5404077a509f13a9056", func := "scrim/scrimlaw05.ArenaPlays", spec := "arenaPlays", inPlace := ["slices.overlaps[int]", "slices.overlaps[scrim/props.Pair[string]]", "slices.overlaps[scrim/props.Pair[int]]"], unfollowed := true, recurses := true, apart := false, narrowed := true }
def ArenaPlaysUptoSaid : Prop := arenaPlaysUptoRow.holds Tryz.pinned (OpenSpec.upto arenaPlaysSpec)

/-- 'scrimlaw05.ArenaTree', WHERE WHAT IT READS IS OF BULK AT MOST 1048576: true; the input reads as it did. -/
def arenaTreeUptoRow : OpenClaim := { program := "ytpfmpeaekgdgnaagreat", sum := "63f80f5de088b9b379257fe4a85c05072d9c71cd037ca5404077a509f13a9056", func := "scrim/scrimlaw05.ArenaTree", spec := "arenaTree", inPlace := ["slices.overlaps[int]", "slices.overlaps[scrim/props.Pair[string]]", "slices.overlaps[scrim/props.Pair[int]]"], unfollowed := true, recurses := true, apart := false, narrowed := true }
def ArenaTreeUptoSaid : Prop := arenaTreeUptoRow.holds Tryz.pinned (OpenSpec.upto arenaTreeSpec)

/-- 'scrimlaw05.ArenaOwn', WHERE WHAT IT READS IS OF BULK AT MOST 1048576: true; the input reads as it did. -/
def arenaOwnUptoRow : OpenClaim := { program := "ytpfmpeaekgdgnaagreat", sum := "63f80f5de088b9b379257fe4a85c05072d9c71cd037ca5404077a509f13a9056", func := "scrim/scrimlaw05.ArenaOwn", spec := "arenaOwn", inPlace := ["slices.overlaps[int]", "slices.overlaps[scrim/props.Pair[string]]", "slices.overlaps[scrim/props.Pair[int]]"], unfollowed := true, recurses := true, apart := false, narrowed := true }
def ArenaOwnUptoSaid : Prop := arenaOwnUptoRow.holds Tryz.pinned (OpenSpec.upto arenaOwnSpec)

/-- 'scrimlaw05.ArenaClones', WHERE WHAT IT READS IS OF BULK AT MOST 1048576: true; the input reads as it did. -/
def arenaClonesUptoRow : OpenClaim := { program := "ytpfmpeaekgdgnaagreat", sum := "63f80f5de088b9b379257fe4a85c05072d9c71cd037ca5404077a509f13a9056", func := "scrim/scrimlaw05.ArenaClones", spec := "arenaClones", inPlace := ["slices.overlaps[int]", "slices.overlaps[scrim/props.Pair[string]]", "slices.overlaps[scrim/props.Pair[int]]"], unfollowed := true, recurses := true, apart := false, narrowed := true }
def ArenaClonesUptoSaid : Prop := arenaClonesUptoRow.holds Tryz.pinned (OpenSpec.upto arenaClonesSpec)

/-- 'scrimlaw06.TrailNotes', WHERE WHAT IT READS IS OF BULK AT MOST 1048576: true; the input reads as it did. -/
def trailNotesUptoRow : OpenClaim := { program := "ytpfmpeaekgdgnaagreat", sum := "63f80f5de088b9b379257fe4a85c05072d9c71cd037ca5404077a509f13a9056", func := "scrim/scrimlaw06.TrailNotes", spec := "trailNotes", inPlace := ["slices.overlaps[int]", "slices.overlaps[scrim/props.Pair[string]]", "slices.overlaps[scrim/props.Pair[int]]"], unfollowed := true, recurses := true, apart := false, narrowed := true }
def TrailNotesUptoSaid : Prop := trailNotesUptoRow.holds Tryz.pinned (OpenSpec.upto trailNotesSpec)

/-- 'scrimlaw06.TrailOps', WHERE WHAT IT READS IS OF BULK AT MOST 1048576: true; the input reads as it did. -/
def trailOpsUptoRow : OpenClaim := { program := "ytpfmpeaekgdgnaagreat", sum := "63f80f5de088b9b379257fe4a85c05072d9c71cd037ca5404077a509f13a9056", func := "scrim/scrimlaw06.TrailOps", spec := "trailOps", inPlace := ["slices.overlaps[int]", "slices.overlaps[scrim/props.Pair[string]]", "slices.overlaps[scrim/props.Pair[int]]"], unfollowed := true, recurses := true, apart := false, narrowed := true }
def TrailOpsUptoSaid : Prop := trailOpsUptoRow.holds Tryz.pinned (OpenSpec.upto trailOpsSpec)

/-- 'scrimlaw06.TrailReplays', WHERE WHAT IT READS IS OF BULK AT MOST 1048576: true; the input reads as it did. -/
def trailReplaysUptoRow : OpenClaim := { program := "ytpfmpeaekgdgnaagreat", sum := "63f80f5de088b9b379257fe4a85c05072d9c71cd037ca5404077a509f13a9056", func := "scrim/scrimlaw06.TrailReplays", spec := "trailReplays", inPlace := ["slices.overlaps[int]", "slices.overlaps[scrim/props.Pair[string]]", "slices.overlaps[scrim/props.Pair[int]]"], unfollowed := true, recurses := true, apart := false, narrowed := true }
def TrailReplaysUptoSaid : Prop := trailReplaysUptoRow.holds Tryz.pinned (OpenSpec.upto trailReplaysSpec)

end Rows
end Go.Proofs.YtpfmpeaekgdgnaaGreat

/-
  No cell of these rows narrows 'for every input' (looked for: loops, veiled, ifaces, maps, wideKeys, modest, calm, conditions, laid).
  DERIVED. THE GIVEN ROWS OF THIS SEAT. 6 by the template 'for every input the law returns true; each argument reads behind the call as it read before'; 0 by the template 'total and deterministic' (their statements: YtnlokhfcgaikiaaTotals.lean).
  GIVEN WITH THE SEED: the statements are not yours to turn. If you find one false, say at which input.
  Laid BY PROGRAM, IN A SANDBOX (cutbox-rows.mjs): the forced cells as the released guide's own fill.sh prints them over the translation ceb0f9e5b5f64009… (all of the seat's roots in one cut). By AI agents, Wed Nov 11 2026. No macro, syntax, notation, axiom, sorry.
-/
import Derived.Test.YtnlokhfcgaikiaaChecked
import GoSem.Claim
import GoSem.ClaimJoined
import GoSem.ClaimMapViews
import Derived.JoinedTies
import Derived.KernelRfl
namespace Go.Proofs.Ytnlokhfcgaikiaa
/- THE CELL 'sum', in the pinned program and in every row, IS THE sha256 OF THE DUMP (.gsa) THAT YtnlokhfcgaikiaaProg.lean LOADS. Nothing in Lean hashes anything: it is a label: what it is worth is what the hold of that sum in a sandbox is worth. -/
noncomputable def Try.pinned : Pinned := { name := "ytnlokhfcgaikiaa", sum := "ceb0f9e5b5f640094d46c53d420f6dad76dc8069fa296bf18dcd47a57c883aa2", checked := Try.checked }
namespace Rows
def none {H : Type} : Left H := { results := [], args := [] }

/-- 'scrimlaw16.WheelOrder': WHATEVER THE INPUT: true; the input reads as it did. -/
def wheelOrderSpec : ChangeSpec := { name := "wheelOrder", fn := fun _ => fun
  | [d] => { results := [.lit (.bool true)], args := [d] }
  | _ => none }
def wheelOrderRow : OpenClaim := { program := "ytnlokhfcgaikiaa", sum := "ceb0f9e5b5f640094d46c53d420f6dad76dc8069fa296bf18dcd47a57c883aa2", func := "scrim/scrimlaw16.WheelOrder", spec := "wheelOrder", unfollowed := true, recurses := true, apart := false }
def WheelOrderSaid : Prop := wheelOrderRow.holds Try.pinned (OpenSpec.ofChange wheelOrderSpec)

/-- ITS FALSE NEIGHBOUR: 'it returns false'. Refute it at one input. -/
def wheelOrderWrong : ChangeSpec := { name := "wheelOrder", fn := fun _ => fun
  | [d] => { results := [.lit (.bool false)], args := [d] }
  | _ => none }
def WheelOrderWrongFalsely : Prop := wheelOrderRow.holds Try.pinned (OpenSpec.ofChange wheelOrderWrong)

/-- 'scrimlaw18.SchedEnds': WHATEVER THE INPUT: true; the input reads as it did. -/
def schedEndsSpec : ChangeSpec := { name := "schedEnds", fn := fun _ => fun
  | [d1, d2] => { results := [.lit (.bool true)], args := [d1, d2] }
  | _ => none }
def schedEndsRow : OpenClaim := { program := "ytnlokhfcgaikiaa", sum := "ceb0f9e5b5f640094d46c53d420f6dad76dc8069fa296bf18dcd47a57c883aa2", func := "scrim/scrimlaw18.SchedEnds", spec := "schedEnds", unfollowed := true, recurses := true, apart := false }
def SchedEndsSaid : Prop := schedEndsRow.holds Try.pinned (OpenSpec.ofChange schedEndsSpec)

/-- ITS FALSE NEIGHBOUR: 'it returns false'. Refute it at one input. -/
def schedEndsWrong : ChangeSpec := { name := "schedEnds", fn := fun _ => fun
  | [d1, d2] => { results := [.lit (.bool false)], args := [d1, d2] }
  | _ => none }
def SchedEndsWrongFalsely : Prop := schedEndsRow.holds Try.pinned (OpenSpec.ofChange schedEndsWrong)

/-- 'scrimlaw16.WheelPlays': WHATEVER THE INPUT: true; the input reads as it did. -/
def wheelPlaysSpec : ChangeSpec := { name := "wheelPlays", fn := fun _ => fun
  | [d1, d2] => { results := [.lit (.bool true)], args := [d1, d2] }
  | _ => none }
def wheelPlaysRow : OpenClaim := { program := "ytnlokhfcgaikiaa", sum := "ceb0f9e5b5f640094d46c53d420f6dad76dc8069fa296bf18dcd47a57c883aa2", func := "scrim/scrimlaw16.WheelPlays", spec := "wheelPlays", unfollowed := true, recurses := true, apart := false }
def WheelPlaysSaid : Prop := wheelPlaysRow.holds Try.pinned (OpenSpec.ofChange wheelPlaysSpec)

/-- ITS FALSE NEIGHBOUR: 'it returns false'. Refute it at one input. -/
def wheelPlaysWrong : ChangeSpec := { name := "wheelPlays", fn := fun _ => fun
  | [d1, d2] => { results := [.lit (.bool false)], args := [d1, d2] }
  | _ => none }
def WheelPlaysWrongFalsely : Prop := wheelPlaysRow.holds Try.pinned (OpenSpec.ofChange wheelPlaysWrong)

/-- 'scrimlaw16.WheelClones': WHATEVER THE INPUT: true; the input reads as it did. -/
def wheelClonesSpec : ChangeSpec := { name := "wheelClones", fn := fun _ => fun
  | [d1, d2] => { results := [.lit (.bool true)], args := [d1, d2] }
  | _ => none }
def wheelClonesRow : OpenClaim := { program := "ytnlokhfcgaikiaa", sum := "ceb0f9e5b5f640094d46c53d420f6dad76dc8069fa296bf18dcd47a57c883aa2", func := "scrim/scrimlaw16.WheelClones", spec := "wheelClones", unfollowed := true, recurses := true, apart := false }
def WheelClonesSaid : Prop := wheelClonesRow.holds Try.pinned (OpenSpec.ofChange wheelClonesSpec)

/-- ITS FALSE NEIGHBOUR: 'it returns false'. Refute it at one input. -/
def wheelClonesWrong : ChangeSpec := { name := "wheelClones", fn := fun _ => fun
  | [d1, d2] => { results := [.lit (.bool false)], args := [d1, d2] }
  | _ => none }
def WheelClonesWrongFalsely : Prop := wheelClonesRow.holds Try.pinned (OpenSpec.ofChange wheelClonesWrong)

/-- 'scrimlaw18.SchedPlays': WHATEVER THE INPUT: true; the input reads as it did. -/
def schedPlaysSpec : ChangeSpec := { name := "schedPlays", fn := fun _ => fun
  | [d1, d2] => { results := [.lit (.bool true)], args := [d1, d2] }
  | _ => none }
def schedPlaysRow : OpenClaim := { program := "ytnlokhfcgaikiaa", sum := "ceb0f9e5b5f640094d46c53d420f6dad76dc8069fa296bf18dcd47a57c883aa2", func := "scrim/scrimlaw18.SchedPlays", spec := "schedPlays", unfollowed := true, recurses := true, apart := false }
def SchedPlaysSaid : Prop := schedPlaysRow.holds Try.pinned (OpenSpec.ofChange schedPlaysSpec)

/-- ITS FALSE NEIGHBOUR: 'it returns false'. Refute it at one input. -/
def schedPlaysWrong : ChangeSpec := { name := "schedPlays", fn := fun _ => fun
  | [d1, d2] => { results := [.lit (.bool false)], args := [d1, d2] }
  | _ => none }
def SchedPlaysWrongFalsely : Prop := schedPlaysRow.holds Try.pinned (OpenSpec.ofChange schedPlaysWrong)

/-- 'scrimlaw18.SchedClones': WHATEVER THE INPUT: true; the input reads as it did. -/
def schedClonesSpec : ChangeSpec := { name := "schedClones", fn := fun _ => fun
  | [d1, d2] => { results := [.lit (.bool true)], args := [d1, d2] }
  | _ => none }
def schedClonesRow : OpenClaim := { program := "ytnlokhfcgaikiaa", sum := "ceb0f9e5b5f640094d46c53d420f6dad76dc8069fa296bf18dcd47a57c883aa2", func := "scrim/scrimlaw18.SchedClones", spec := "schedClones", unfollowed := true, recurses := true, apart := false }
def SchedClonesSaid : Prop := schedClonesRow.holds Try.pinned (OpenSpec.ofChange schedClonesSpec)

/-- ITS FALSE NEIGHBOUR: 'it returns false'. Refute it at one input. -/
def schedClonesWrong : ChangeSpec := { name := "schedClones", fn := fun _ => fun
  | [d1, d2] => { results := [.lit (.bool false)], args := [d1, d2] }
  | _ => none }
def SchedClonesWrongFalsely : Prop := schedClonesRow.holds Try.pinned (OpenSpec.ofChange schedClonesWrong)

/- THE SECOND FORM. 'bulk': how many values and letters a reading holds, each counted each time it is reached (what is shared counts as often as it is met; a slice's spare places count too). A statement '..UptoSaid' is the law's where the arguments, and the package variables that the reading takes, are together of bulk at most 1048576: NARROWER than '..Said'. Prove '..Said' where nothing that the law and all that it calls make is longer than what came in: it says more and counts as full. Else prove '..UptoSaid'. A law counts once. -/
mutual
def uptoBulk {H : Type} : DataW H → Nat
  | .lit (.string bytes) => bytes.length + 1
  | .lit _ => 1
  | .nil => 1
  | .ptr d => uptoBulk d + 1
  | .slice elems spare => uptoBulkAll elems + uptoBulkAll spare + 1
  | .agg parts => uptoBulkAll parts + 1
  | .iface _ d => uptoBulk d + 1
  | .map entries => uptoBulkEntries entries + 1
  | .held _ => 1
def uptoBulkAll {H : Type} : List (DataW H) → Nat
  | [] => 0
  | d :: r => uptoBulk d + uptoBulkAll r
def uptoBulkEntries {H : Type} : List (Lit × DataW H) → Nat
  | [] => 0
  | x :: r => uptoBulkEntry x + uptoBulkEntries r
def uptoBulkEntry {H : Type} : Lit × DataW H → Nat
  | (.string bytes, d) => bytes.length + uptoBulk d + 1
  | (_, d) => uptoBulk d + 1
 end
def uptoSmall : (H : Type) → List (DataW H) → Bool := fun _ ds => decide (uptoBulkAll ds ≤ 1048576)
def OpenSpec.upto (s : _root_.Go.ChangeSpec) : _root_.Go.OpenSpec := { _root_.Go.OpenSpec.ofChange s with cond := some uptoSmall }

/-- 'scrimlaw16.WheelOrder', WHERE WHAT IT READS IS OF BULK AT MOST 1048576: true; the input reads as it did. -/
def wheelOrderUptoRow : OpenClaim := { program := "ytnlokhfcgaikiaa", sum := "ceb0f9e5b5f640094d46c53d420f6dad76dc8069fa296bf18dcd47a57c883aa2", func := "scrim/scrimlaw16.WheelOrder", spec := "wheelOrder", unfollowed := true, recurses := true, apart := false, narrowed := true }
def WheelOrderUptoSaid : Prop := wheelOrderUptoRow.holds Try.pinned (OpenSpec.upto wheelOrderSpec)

/-- 'scrimlaw18.SchedEnds', WHERE WHAT IT READS IS OF BULK AT MOST 1048576: true; the input reads as it did. -/
def schedEndsUptoRow : OpenClaim := { program := "ytnlokhfcgaikiaa", sum := "ceb0f9e5b5f640094d46c53d420f6dad76dc8069fa296bf18dcd47a57c883aa2", func := "scrim/scrimlaw18.SchedEnds", spec := "schedEnds", unfollowed := true, recurses := true, apart := false, narrowed := true }
def SchedEndsUptoSaid : Prop := schedEndsUptoRow.holds Try.pinned (OpenSpec.upto schedEndsSpec)

/-- 'scrimlaw16.WheelPlays', WHERE WHAT IT READS IS OF BULK AT MOST 1048576: true; the input reads as it did. -/
def wheelPlaysUptoRow : OpenClaim := { program := "ytnlokhfcgaikiaa", sum := "ceb0f9e5b5f640094d46c53d420f6dad76dc8069fa296bf18dcd47a57c883aa2", func := "scrim/scrimlaw16.WheelPlays", spec := "wheelPlays", unfollowed := true, recurses := true, apart := false, narrowed := true }
def WheelPlaysUptoSaid : Prop := wheelPlaysUptoRow.holds Try.pinned (OpenSpec.upto wheelPlaysSpec)

/-- 'scrimlaw16.WheelClones', WHERE WHAT IT READS IS OF BULK AT MOST 1048576: true; the input reads as it did. -/
def wheelClonesUptoRow : OpenClaim := { program := "ytnlokhfcgaikiaa", sum := "ceb0f9e5b5f640094d46c53d420f6dad76dc8069fa296bf18dcd47a57c883aa2", func := "scrim/scrimlaw16.WheelClones", spec := "wheelClones", unfollowed := true, recurses := true, apart := false, narrowed := true }
def WheelClonesUptoSaid : Prop := wheelClonesUptoRow.holds Try.pinned (OpenSpec.upto wheelClonesSpec)

/-- 'scrimlaw18.SchedPlays', WHERE WHAT IT READS IS OF BULK AT MOST 1048576: true; the input reads as it did. -/
def schedPlaysUptoRow : OpenClaim := { program := "ytnlokhfcgaikiaa", sum := "ceb0f9e5b5f640094d46c53d420f6dad76dc8069fa296bf18dcd47a57c883aa2", func := "scrim/scrimlaw18.SchedPlays", spec := "schedPlays", unfollowed := true, recurses := true, apart := false, narrowed := true }
def SchedPlaysUptoSaid : Prop := schedPlaysUptoRow.holds Try.pinned (OpenSpec.upto schedPlaysSpec)

/-- 'scrimlaw18.SchedClones', WHERE WHAT IT READS IS OF BULK AT MOST 1048576: true; the input reads as it did. -/
def schedClonesUptoRow : OpenClaim := { program := "ytnlokhfcgaikiaa", sum := "ceb0f9e5b5f640094d46c53d420f6dad76dc8069fa296bf18dcd47a57c883aa2", func := "scrim/scrimlaw18.SchedClones", spec := "schedClones", unfollowed := true, recurses := true, apart := false, narrowed := true }
def SchedClonesUptoSaid : Prop := schedClonesUptoRow.holds Try.pinned (OpenSpec.upto schedClonesSpec)

end Rows
end Go.Proofs.Ytnlokhfcgaikiaa

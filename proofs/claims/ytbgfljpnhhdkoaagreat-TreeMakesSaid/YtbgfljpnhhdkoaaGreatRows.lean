/-
  No cell of these rows narrows 'for every input' (looked for: loops, veiled, ifaces, maps, wideKeys, modest, calm, conditions, laid).
  DERIVED. THE GIVEN ROWS OF THIS SEAT. 9 by the template 'for every input the law returns true; each argument reads behind the call as it read before'; 0 by the template 'total and deterministic' (their statements: YtbgfljpnhhdkoaaGreatTotals.lean).
  GIVEN WITH THE SEED: the statements are not yours to turn. If you find one false, say at which input.
  Laid BY PROGRAM, IN A SANDBOX (cutbox-rows.mjs): the forced cells as the released guide's own fill.sh prints them over the translation f718c27fcb51380c… (all of the seat's roots in one cut). By AI agents, Wed Nov 11 2026. No macro, syntax, notation, axiom, sorry.
-/
import Derived.Test.YtbgfljpnhhdkoaaGreatChecked
import GoSem.Claim
import GoSem.ClaimJoined
import GoSem.ClaimMapViews
import Derived.JoinedTies
import Derived.KernelRfl
namespace Go.Proofs.YtbgfljpnhhdkoaaGreat
/- THE CELL 'sum', in the pinned program and in every row, IS THE sha256 OF THE DUMP (.gsa) THAT YtbgfljpnhhdkoaaGreatProg.lean LOADS. Nothing in Lean hashes anything: it is a label: what it is worth is what the hold of that sum in a sandbox is worth. -/
noncomputable def Tryz.pinned : Pinned := { name := "ytbgfljpnhhdkoaagreat", sum := "f718c27fcb51380c98c20c258a06dba52bb89f78d46d1c865bbc4b35f6216838", checked := Tryz.checked }
namespace Rows
def none {H : Type} : Left H := { results := [], args := [] }

/-- 'scrimlaw22.PatchOrder': WHATEVER THE INPUT: true; the input reads as it did. -/
def patchOrderSpec : ChangeSpec := { name := "patchOrder", fn := fun _ => fun
  | [d1, d2] => { results := [.lit (.bool true)], args := [d1, d2] }
  | _ => none }
def patchOrderRow : OpenClaim := { program := "ytbgfljpnhhdkoaagreat", sum := "f718c27fcb51380c98c20c258a06dba52bb89f78d46d1c865bbc4b35f6216838", func := "scrim/scrimlaw22.PatchOrder", spec := "patchOrder", inPlace := ["slices.overlaps[int]", "slices.overlaps[scrim/props.Pair[string]]", "slices.overlaps[scrim/props.Pair[int]]"], unfollowed := true, recurses := true, apart := false }
def PatchOrderSaid : Prop := patchOrderRow.holds Tryz.pinned (OpenSpec.ofChange patchOrderSpec)

/-- ITS FALSE NEIGHBOUR: 'it returns false'. Refute it at one input. -/
def patchOrderWrong : ChangeSpec := { name := "patchOrder", fn := fun _ => fun
  | [d1, d2] => { results := [.lit (.bool false)], args := [d1, d2] }
  | _ => none }
def PatchOrderWrongFalsely : Prop := patchOrderRow.holds Tryz.pinned (OpenSpec.ofChange patchOrderWrong)

/-- 'scrimlaw22.PatchKids': WHATEVER THE INPUT: true; the input reads as it did. -/
def patchKidsSpec : ChangeSpec := { name := "patchKids", fn := fun _ => fun
  | [d1, d2, d3] => { results := [.lit (.bool true)], args := [d1, d2, d3] }
  | _ => none }
def patchKidsRow : OpenClaim := { program := "ytbgfljpnhhdkoaagreat", sum := "f718c27fcb51380c98c20c258a06dba52bb89f78d46d1c865bbc4b35f6216838", func := "scrim/scrimlaw22.PatchKids", spec := "patchKids", inPlace := ["slices.overlaps[int]", "slices.overlaps[scrim/props.Pair[string]]", "slices.overlaps[scrim/props.Pair[int]]"], unfollowed := true, recurses := true, apart := false }
def PatchKidsSaid : Prop := patchKidsRow.holds Tryz.pinned (OpenSpec.ofChange patchKidsSpec)

/-- ITS FALSE NEIGHBOUR: 'it returns false'. Refute it at one input. -/
def patchKidsWrong : ChangeSpec := { name := "patchKids", fn := fun _ => fun
  | [d1, d2, d3] => { results := [.lit (.bool false)], args := [d1, d2, d3] }
  | _ => none }
def PatchKidsWrongFalsely : Prop := patchKidsRow.holds Tryz.pinned (OpenSpec.ofChange patchKidsWrong)

/-- 'scrimlaw22.PatchSays': WHATEVER THE INPUT: true; the input reads as it did. -/
def patchSaysSpec : ChangeSpec := { name := "patchSays", fn := fun _ => fun
  | [d] => { results := [.lit (.bool true)], args := [d] }
  | _ => none }
def patchSaysRow : OpenClaim := { program := "ytbgfljpnhhdkoaagreat", sum := "f718c27fcb51380c98c20c258a06dba52bb89f78d46d1c865bbc4b35f6216838", func := "scrim/scrimlaw22.PatchSays", spec := "patchSays", inPlace := ["slices.overlaps[int]", "slices.overlaps[scrim/props.Pair[string]]", "slices.overlaps[scrim/props.Pair[int]]"], unfollowed := true, recurses := true, apart := false }
def PatchSaysSaid : Prop := patchSaysRow.holds Tryz.pinned (OpenSpec.ofChange patchSaysSpec)

/-- ITS FALSE NEIGHBOUR: 'it returns false'. Refute it at one input. -/
def patchSaysWrong : ChangeSpec := { name := "patchSays", fn := fun _ => fun
  | [d] => { results := [.lit (.bool false)], args := [d] }
  | _ => none }
def PatchSaysWrongFalsely : Prop := patchSaysRow.holds Tryz.pinned (OpenSpec.ofChange patchSaysWrong)

/-- 'scrimlaw24.TreePaints': WHATEVER THE INPUT: true; the input reads as it did. -/
def treePaintsSpec : ChangeSpec := { name := "treePaints", fn := fun _ => fun
  | [d1, d2] => { results := [.lit (.bool true)], args := [d1, d2] }
  | _ => none }
def treePaintsRow : OpenClaim := { program := "ytbgfljpnhhdkoaagreat", sum := "f718c27fcb51380c98c20c258a06dba52bb89f78d46d1c865bbc4b35f6216838", func := "scrim/scrimlaw24.TreePaints", spec := "treePaints", inPlace := ["slices.overlaps[scrim/props.Pair[string]]", "slices.overlaps[scrim/props.Pair[int]]", "slices.overlaps[int]"], unfollowed := true, recurses := true, apart := false }
def TreePaintsSaid : Prop := treePaintsRow.holds Tryz.pinned (OpenSpec.ofChange treePaintsSpec)

/-- ITS FALSE NEIGHBOUR: 'it returns false'. Refute it at one input. -/
def treePaintsWrong : ChangeSpec := { name := "treePaints", fn := fun _ => fun
  | [d1, d2] => { results := [.lit (.bool false)], args := [d1, d2] }
  | _ => none }
def TreePaintsWrongFalsely : Prop := treePaintsRow.holds Tryz.pinned (OpenSpec.ofChange treePaintsWrong)

/-- 'scrimlaw24.TreeKids': WHATEVER THE INPUT: true; the input reads as it did. -/
def treeKidsSpec : ChangeSpec := { name := "treeKids", fn := fun _ => fun
  | [d1, d2] => { results := [.lit (.bool true)], args := [d1, d2] }
  | _ => none }
def treeKidsRow : OpenClaim := { program := "ytbgfljpnhhdkoaagreat", sum := "f718c27fcb51380c98c20c258a06dba52bb89f78d46d1c865bbc4b35f6216838", func := "scrim/scrimlaw24.TreeKids", spec := "treeKids", inPlace := ["slices.overlaps[scrim/props.Pair[string]]", "slices.overlaps[scrim/props.Pair[int]]", "slices.overlaps[int]"], unfollowed := true, recurses := true, apart := false }
def TreeKidsSaid : Prop := treeKidsRow.holds Tryz.pinned (OpenSpec.ofChange treeKidsSpec)

/-- ITS FALSE NEIGHBOUR: 'it returns false'. Refute it at one input. -/
def treeKidsWrong : ChangeSpec := { name := "treeKids", fn := fun _ => fun
  | [d1, d2] => { results := [.lit (.bool false)], args := [d1, d2] }
  | _ => none }
def TreeKidsWrongFalsely : Prop := treeKidsRow.holds Tryz.pinned (OpenSpec.ofChange treeKidsWrong)

/-- 'scrimlaw24.TreeClones': WHATEVER THE INPUT: true; the input reads as it did. -/
def treeClonesSpec : ChangeSpec := { name := "treeClones", fn := fun _ => fun
  | [d1, d2, d3] => { results := [.lit (.bool true)], args := [d1, d2, d3] }
  | _ => none }
def treeClonesRow : OpenClaim := { program := "ytbgfljpnhhdkoaagreat", sum := "f718c27fcb51380c98c20c258a06dba52bb89f78d46d1c865bbc4b35f6216838", func := "scrim/scrimlaw24.TreeClones", spec := "treeClones", inPlace := ["slices.overlaps[scrim/props.Pair[string]]", "slices.overlaps[scrim/props.Pair[int]]", "slices.overlaps[int]"], unfollowed := true, recurses := true, apart := false }
def TreeClonesSaid : Prop := treeClonesRow.holds Tryz.pinned (OpenSpec.ofChange treeClonesSpec)

/-- ITS FALSE NEIGHBOUR: 'it returns false'. Refute it at one input. -/
def treeClonesWrong : ChangeSpec := { name := "treeClones", fn := fun _ => fun
  | [d1, d2, d3] => { results := [.lit (.bool false)], args := [d1, d2, d3] }
  | _ => none }
def TreeClonesWrongFalsely : Prop := treeClonesRow.holds Tryz.pinned (OpenSpec.ofChange treeClonesWrong)

/-- 'scrimlaw24.TreeShows': WHATEVER THE INPUT: true; the input reads as it did. -/
def treeShowsSpec : ChangeSpec := { name := "treeShows", fn := fun _ => fun
  | [d1, d2] => { results := [.lit (.bool true)], args := [d1, d2] }
  | _ => none }
def treeShowsRow : OpenClaim := { program := "ytbgfljpnhhdkoaagreat", sum := "f718c27fcb51380c98c20c258a06dba52bb89f78d46d1c865bbc4b35f6216838", func := "scrim/scrimlaw24.TreeShows", spec := "treeShows", inPlace := ["slices.overlaps[scrim/props.Pair[string]]", "slices.overlaps[scrim/props.Pair[int]]", "slices.overlaps[int]"], unfollowed := true, recurses := true, apart := false }
def TreeShowsSaid : Prop := treeShowsRow.holds Tryz.pinned (OpenSpec.ofChange treeShowsSpec)

/-- ITS FALSE NEIGHBOUR: 'it returns false'. Refute it at one input. -/
def treeShowsWrong : ChangeSpec := { name := "treeShows", fn := fun _ => fun
  | [d1, d2] => { results := [.lit (.bool false)], args := [d1, d2] }
  | _ => none }
def TreeShowsWrongFalsely : Prop := treeShowsRow.holds Tryz.pinned (OpenSpec.ofChange treeShowsWrong)

/-- 'scrimlaw22.PatchDresses': WHATEVER THE INPUT: true; the input reads as it did. -/
def patchDressesSpec : ChangeSpec := { name := "patchDresses", fn := fun _ => fun
  | [d1, d2, d3] => { results := [.lit (.bool true)], args := [d1, d2, d3] }
  | _ => none }
def patchDressesRow : OpenClaim := { program := "ytbgfljpnhhdkoaagreat", sum := "f718c27fcb51380c98c20c258a06dba52bb89f78d46d1c865bbc4b35f6216838", func := "scrim/scrimlaw22.PatchDresses", spec := "patchDresses", inPlace := ["slices.overlaps[int]", "slices.overlaps[scrim/props.Pair[string]]", "slices.overlaps[scrim/props.Pair[int]]"], unfollowed := true, recurses := true, apart := false }
def PatchDressesSaid : Prop := patchDressesRow.holds Tryz.pinned (OpenSpec.ofChange patchDressesSpec)

/-- ITS FALSE NEIGHBOUR: 'it returns false'. Refute it at one input. -/
def patchDressesWrong : ChangeSpec := { name := "patchDresses", fn := fun _ => fun
  | [d1, d2, d3] => { results := [.lit (.bool false)], args := [d1, d2, d3] }
  | _ => none }
def PatchDressesWrongFalsely : Prop := patchDressesRow.holds Tryz.pinned (OpenSpec.ofChange patchDressesWrong)

/-- 'scrimlaw24.TreeMakes': WHATEVER THE INPUT: true; the input reads as it did. -/
def treeMakesSpec : ChangeSpec := { name := "treeMakes", fn := fun _ => fun
  | [d1, d2] => { results := [.lit (.bool true)], args := [d1, d2] }
  | _ => none }
def treeMakesRow : OpenClaim := { program := "ytbgfljpnhhdkoaagreat", sum := "f718c27fcb51380c98c20c258a06dba52bb89f78d46d1c865bbc4b35f6216838", func := "scrim/scrimlaw24.TreeMakes", spec := "treeMakes", inPlace := ["slices.overlaps[scrim/props.Pair[string]]", "slices.overlaps[scrim/props.Pair[int]]", "slices.overlaps[int]"], unfollowed := true, recurses := true, apart := false }
def TreeMakesSaid : Prop := treeMakesRow.holds Tryz.pinned (OpenSpec.ofChange treeMakesSpec)

/-- ITS FALSE NEIGHBOUR: 'it returns false'. Refute it at one input. -/
def treeMakesWrong : ChangeSpec := { name := "treeMakes", fn := fun _ => fun
  | [d1, d2] => { results := [.lit (.bool false)], args := [d1, d2] }
  | _ => none }
def TreeMakesWrongFalsely : Prop := treeMakesRow.holds Tryz.pinned (OpenSpec.ofChange treeMakesWrong)

/- THE SECOND FORM. 'bulk': how many values and letters a reading holds, each counted each time it is reached (what is shared counts as often as it is met; a slice's spare places count too). A statement '..UptoSaid' is the law's where the arguments, and the package variables that the reading takes, are together of bulk at most 1048576: NARROWER than '..Said'. Prove '..Said' where nothing that the law and all that it calls make is longer than what came in: it says more and counts as full. Else prove '..UptoSaid'. A law counts once. -/
mutual
def uptoBulk {H : Type} : DataW H → Nat
  | .lit (.string bytes) => bytes.length + 1
  | .lit _ => 1
  | .nil => 1
  | .ptr d => uptoBulk d + 1
  | .slice elems spare => uptoBulkAll elems + uptoBulkAll spare + 1
  | .agg parts => uptoBulkAll parts + 1
  | .iface _ d => uptoBulk d + 1
  | .map entries => uptoBulkEntries entries + 1
  | .held _ => 1
def uptoBulkAll {H : Type} : List (DataW H) → Nat
  | [] => 0
  | d :: r => uptoBulk d + uptoBulkAll r
def uptoBulkEntries {H : Type} : List (Lit × DataW H) → Nat
  | [] => 0
  | x :: r => uptoBulkEntry x + uptoBulkEntries r
def uptoBulkEntry {H : Type} : Lit × DataW H → Nat
  | (.string bytes, d) => bytes.length + uptoBulk d + 1
  | (_, d) => uptoBulk d + 1
 end
def uptoSmall : (H : Type) → List (DataW H) → Bool := fun _ ds => decide (uptoBulkAll ds ≤ 1048576)
def OpenSpec.upto (s : _root_.Go.ChangeSpec) : _root_.Go.OpenSpec := { _root_.Go.OpenSpec.ofChange s with cond := some uptoSmall }

/-- 'scrimlaw22.PatchOrder', WHERE WHAT IT READS IS OF BULK AT MOST 1048576: true; the input reads as it did. -/
def patchOrderUptoRow : OpenClaim := { program := "ytbgfljpnhhdkoaagreat", sum := "f718c27fcb51380c98c20c258a06dba52bb89f78d46d1c865bbc4b35f6216838", func := "scrim/scrimlaw22.PatchOrder", spec := "patchOrder", inPlace := ["slices.overlaps[int]", "slices.overlaps[scrim/props.Pair[string]]", "slices.overlaps[scrim/props.Pair[int]]"], unfollowed := true, recurses := true, apart := false, narrowed := true }
def PatchOrderUptoSaid : Prop := patchOrderUptoRow.holds Tryz.pinned (OpenSpec.upto patchOrderSpec)

/-- 'scrimlaw22.PatchKids', WHERE WHAT IT READS IS OF BULK AT MOST 1048576: true; the input reads as it did. -/
def patchKidsUptoRow : OpenClaim := { program := "ytbgfljpnhhdkoaagreat", sum := "f718c27fcb51380c98c20c258a06dba52bb89f78d46d1c865bbc4b35f6216838", func := "scrim/scrimlaw22.PatchKids", spec := "patchKids", inPlace := ["slices.overlaps[int]", "slices.overlaps[scrim/props.Pair[string]]", "slices.overlaps[scrim/props.Pair[int]]"], unfollowed := true, recurses := true, apart := false, narrowed := true }
def PatchKidsUptoSaid : Prop := patchKidsUptoRow.holds Tryz.pinned (OpenSpec.upto patchKidsSpec)

/-- 'scrimlaw22.PatchSays', WHERE WHAT IT READS IS OF BULK AT MOST 1048576: true; the input reads as it did. -/
def patchSaysUptoRow : OpenClaim := { program := "ytbgfljpnhhdkoaagreat", sum := "f718c27fcb51380c98c20c258a06dba52bb89f78d46d1c865bbc4b35f6216838", func := "scrim/scrimlaw22.PatchSays", spec := "patchSays", inPlace := ["slices.overlaps[int]", "slices.overlaps[scrim/props.Pair[string]]", "slices.overlaps[scrim/props.Pair[int]]"], unfollowed := true, recurses := true, apart := false, narrowed := true }
def PatchSaysUptoSaid : Prop := patchSaysUptoRow.holds Tryz.pinned (OpenSpec.upto patchSaysSpec)

/-- 'scrimlaw24.TreePaints', WHERE WHAT IT READS IS OF BULK AT MOST 1048576: true; the input reads as it did. -/
def treePaintsUptoRow : OpenClaim := { program := "ytbgfljpnhhdkoaagreat", sum := "f718c27fcb51380c98c20c258a06dba52bb89f78d46d1c865bbc4b35f6216838", func := "scrim/scrimlaw24.TreePaints", spec := "treePaints", inPlace := ["slices.overlaps[scrim/props.Pair[string]]", "slices.overlaps[scrim/props.Pair[int]]", "slices.overlaps[int]"], unfollowed := true, recurses := true, apart := false, narrowed := true }
def TreePaintsUptoSaid : Prop := treePaintsUptoRow.holds Tryz.pinned (OpenSpec.upto treePaintsSpec)

/-- 'scrimlaw24.TreeKids', WHERE WHAT IT READS IS OF BULK AT MOST 1048576: true; the input reads as it did. -/
def treeKidsUptoRow : OpenClaim := { program := "ytbgfljpnhhdkoaagreat", sum := "f718c27fcb51380c98c20c258a06dba52bb89f78d46d1c865bbc4b35f6216838", func := "scrim/scrimlaw24.TreeKids", spec := "treeKids", inPlace := ["slices.overlaps[scrim/props.Pair[string]]", "slices.overlaps[scrim/props.Pair[int]]", "slices.overlaps[int]"], unfollowed := true, recurses := true, apart := false, narrowed := true }
def TreeKidsUptoSaid : Prop := treeKidsUptoRow.holds Tryz.pinned (OpenSpec.upto treeKidsSpec)

/-- 'scrimlaw24.TreeClones', WHERE WHAT IT READS IS OF BULK AT MOST 1048576: true; the input reads as it did. -/
def treeClonesUptoRow : OpenClaim := { program := "ytbgfljpnhhdkoaagreat", sum := "f718c27fcb51380c98c20c258a06dba52bb89f78d46d1c865bbc4b35f6216838", func := "scrim/scrimlaw24.TreeClones", spec := "treeClones", inPlace := ["slices.overlaps[scrim/props.Pair[string]]", "slices.overlaps[scrim/props.Pair[int]]", "slices.overlaps[int]"], unfollowed := true, recurses := true, apart := false, narrowed := true }
def TreeClonesUptoSaid : Prop := treeClonesUptoRow.holds Tryz.pinned (OpenSpec.upto treeClonesSpec)

/-- 'scrimlaw24.TreeShows', WHERE WHAT IT READS IS OF BULK AT MOST 1048576: true; the input reads as it did. -/
def treeShowsUptoRow : OpenClaim := { program := "ytbgfljpnhhdkoaagreat", sum := "f718c27fcb51380c98c20c258a06dba52bb89f78d46d1c865bbc4b35f6216838", func := "scrim/scrimlaw24.TreeShows", spec := "treeShows", inPlace := ["slices.overlaps[scrim/props.Pair[string]]", "slices.overlaps[scrim/props.Pair[int]]", "slices.overlaps[int]"], unfollowed := true, recurses := true, apart := false, narrowed := true }
def TreeShowsUptoSaid : Prop := treeShowsUptoRow.holds Tryz.pinned (OpenSpec.upto treeShowsSpec)

/-- 'scrimlaw22.PatchDresses', WHERE WHAT IT READS IS OF BULK AT MOST 1048576: true; the input reads as it did. -/
def patchDressesUptoRow : OpenClaim := { program := "ytbgfljpnhhdkoaagreat", sum := "f718c27fcb51380c98c20c258a06dba52bb89f78d46d1c865bbc4b35f6216838", func := "scrim/scrimlaw22.PatchDresses", spec := "patchDresses", inPlace := ["slices.overlaps[int]", "slices.overlaps[scrim/props.Pair[string]]", "slices.overlaps[scrim/props.Pair[int]]"], unfollowed := true, recurses := true, apart := false, narrowed := true }
def PatchDressesUptoSaid : Prop := patchDressesUptoRow.holds Tryz.pinned (OpenSpec.upto patchDressesSpec)

/-- 'scrimlaw24.TreeMakes', WHERE WHAT IT READS IS OF BULK AT MOST 1048576: true; the input reads as it did. -/
def treeMakesUptoRow : OpenClaim := { program := "ytbgfljpnhhdkoaagreat", sum := "f718c27fcb51380c98c20c258a06dba52bb89f78d46d1c865bbc4b35f6216838", func := "scrim/scrimlaw24.TreeMakes", spec := "treeMakes", inPlace := ["slices.overlaps[scrim/props.Pair[string]]", "slices.overlaps[scrim/props.Pair[int]]", "slices.overlaps[int]"], unfollowed := true, recurses := true, apart := false, narrowed := true }
def TreeMakesUptoSaid : Prop := treeMakesUptoRow.holds Tryz.pinned (OpenSpec.upto treeMakesSpec)

end Rows
end Go.Proofs.YtbgfljpnhhdkoaaGreat

/-
  DERIVED. GIVEN WITH THE SEED: THE CARDS: each row of YtighdhfgcdjmeaaDoorRows.lean that lists a variable, with what it lists TIED to the program's text (the seventh form; the later family's looks); each row that meets fmt, with fmt's text TOLD by the authors' own Lean function (tested against real Go, not proved from fmt's source: count such statements apart). THE CARD IS WHAT COUNTS. Prove the row's statement (the work); the ties are given (YtighdhfgcdjmeaaDoorTie.lean); close each card by the builder's one call (the guide's Derived/Test/ToyasCard.lean, 'card_holds'). Laid BY PROGRAM, IN A SANDBOX (cutbox-door.mjs). By AI agents, Wed Nov 11 2026. No macro, syntax, notation, axiom, sorry.
-/
import Derived.Test.YtighdhfgcdjmeaaDoorRows
import GoSem.ClaimSeven
namespace Go.Proofs.YtighdhfgcdjmeaaDoor
namespace Rows

/-- THE TIED CARD OF 'scrimlaw32.ScreenJoins'. -/
def screenJoinsCard : Claim7 := { stood := { row := screenJoinsRow, standIns := [], harness := (true, "14f1726b7a318052761a35ac735824e1678dc0b4dc5cc1f396d791825540aadd"), looks := false }, kinds := [], alts := [], laidByText := true, laidKinds := [.data, .pinned], laidTests := true, laidLooks := .later }
def ScreenJoinsCardSaid : Prop := Claim7.holds Tryd.pinned (.plain (OpenSpec.ofChange screenJoinsSpec)) screenJoinsCard

/-- THE TIED CARD OF 'scrimlaw32.ScreenSizes'. -/
def screenSizesCard : Claim7 := { stood := { row := screenSizesRow, standIns := [], harness := (true, "14f1726b7a318052761a35ac735824e1678dc0b4dc5cc1f396d791825540aadd"), looks := false }, kinds := [], alts := [], laidByText := true, laidKinds := [.data, .pinned], laidTests := true, laidLooks := .later }
def ScreenSizesCardSaid : Prop := Claim7.holds Tryd.pinned (.plain (OpenSpec.ofChange screenSizesSpec)) screenSizesCard

/-- THE SECOND FORM's CARD OF 'scrimlaw32.ScreenJoins'. -/
def screenJoinsUptoCard : Claim7 := { stood := { row := screenJoinsUptoRow, standIns := [], harness := (true, "14f1726b7a318052761a35ac735824e1678dc0b4dc5cc1f396d791825540aadd"), looks := false }, kinds := [], alts := [], laidByText := true, laidKinds := [.data, .pinned], laidTests := true, laidLooks := .later }
def ScreenJoinsUptoCardSaid : Prop := Claim7.holds Tryd.pinned (.plain (OpenSpec.upto screenJoinsSpec)) screenJoinsUptoCard

/-- THE SECOND FORM's CARD OF 'scrimlaw32.ScreenSizes'. -/
def screenSizesUptoCard : Claim7 := { stood := { row := screenSizesUptoRow, standIns := [], harness := (true, "14f1726b7a318052761a35ac735824e1678dc0b4dc5cc1f396d791825540aadd"), looks := false }, kinds := [], alts := [], laidByText := true, laidKinds := [.data, .pinned], laidTests := true, laidLooks := .later }
def ScreenSizesUptoCardSaid : Prop := Claim7.holds Tryd.pinned (.plain (OpenSpec.upto screenSizesSpec)) screenSizesUptoCard
end Rows
end Go.Proofs.YtighdhfgcdjmeaaDoor

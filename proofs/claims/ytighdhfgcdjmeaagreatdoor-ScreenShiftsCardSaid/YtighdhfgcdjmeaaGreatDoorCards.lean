/-
  DERIVED. GIVEN WITH THE SEED: THE CARDS: each row of YtighdhfgcdjmeaaGreatDoorRows.lean that lists a variable, with what it lists TIED to the program's text (the seventh form; the later family's looks); each row that meets fmt, with fmt's text TOLD by the authors' own Lean function (tested against real Go, not proved from fmt's source: count such statements apart). THE CARD IS WHAT COUNTS. Prove the row's statement (the work); the ties are given (YtighdhfgcdjmeaaGreatDoorTie.lean); close each card by the builder's one call (the guide's Derived/Test/ToyasCard.lean, 'card_holds'). Laid BY PROGRAM, IN A SANDBOX (cutbox-door.mjs). By AI agents, Wed Nov 11 2026. No macro, syntax, notation, axiom, sorry.
-/
import Derived.Test.YtighdhfgcdjmeaaGreatDoorRows
import GoSem.ClaimSeven
namespace Go.Proofs.YtighdhfgcdjmeaaGreatDoor
namespace Rows

/-- THE TIED CARD OF 'scrimlaw32.ScreenDraws'. -/
def screenDrawsCard : Claim7 := { stood := { row := screenDrawsRow, standIns := [], harness := (true, "e3210ebd469f9c556747029b47a93f5d01c632432b7202cc7087ee02166bad3a"), looks := false }, kinds := [], alts := [], laidByText := true, laidKinds := [.data, .pinned], laidTests := true, laidLooks := .later }
def ScreenDrawsCardSaid : Prop := Claim7.holds Tryz.pinned (.plain (OpenSpec.ofChange screenDrawsSpec)) screenDrawsCard

/-- THE TIED CARD OF 'scrimlaw32.ScreenShifts'. -/
def screenShiftsCard : Claim7 := { stood := { row := screenShiftsRow, standIns := [], harness := (true, "e3210ebd469f9c556747029b47a93f5d01c632432b7202cc7087ee02166bad3a"), looks := false }, kinds := [], alts := [], laidByText := true, laidKinds := [.data, .pinned], laidTests := true, laidLooks := .later }
def ScreenShiftsCardSaid : Prop := Claim7.holds Tryz.pinned (.plain (OpenSpec.ofChange screenShiftsSpec)) screenShiftsCard

/-- THE SECOND FORM's CARD OF 'scrimlaw32.ScreenDraws'. -/
def screenDrawsUptoCard : Claim7 := { stood := { row := screenDrawsUptoRow, standIns := [], harness := (true, "e3210ebd469f9c556747029b47a93f5d01c632432b7202cc7087ee02166bad3a"), looks := false }, kinds := [], alts := [], laidByText := true, laidKinds := [.data, .pinned], laidTests := true, laidLooks := .later }
def ScreenDrawsUptoCardSaid : Prop := Claim7.holds Tryz.pinned (.plain (OpenSpec.upto screenDrawsSpec)) screenDrawsUptoCard

/-- THE SECOND FORM's CARD OF 'scrimlaw32.ScreenShifts'. -/
def screenShiftsUptoCard : Claim7 := { stood := { row := screenShiftsUptoRow, standIns := [], harness := (true, "e3210ebd469f9c556747029b47a93f5d01c632432b7202cc7087ee02166bad3a"), looks := false }, kinds := [], alts := [], laidByText := true, laidKinds := [.data, .pinned], laidTests := true, laidLooks := .later }
def ScreenShiftsUptoCardSaid : Prop := Claim7.holds Tryz.pinned (.plain (OpenSpec.upto screenShiftsSpec)) screenShiftsUptoCard
end Rows
end Go.Proofs.YtighdhfgcdjmeaaGreatDoor

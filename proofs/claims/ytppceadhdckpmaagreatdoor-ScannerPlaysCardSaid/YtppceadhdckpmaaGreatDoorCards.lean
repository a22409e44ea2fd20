/-
  DERIVED. GIVEN WITH THE SEED: THE CARDS: each row of YtppceadhdckpmaaGreatDoorRows.lean that lists a variable, with what it lists TIED to the program's text (the seventh form; the later family's looks); each row that meets fmt, with fmt's text TOLD by the authors' own Lean function (tested against real Go, not proved from fmt's source: count such statements apart). THE CARD IS WHAT COUNTS. Prove the row's statement (the work); the ties are given (YtppceadhdckpmaaGreatDoorTie.lean); close each card by the builder's one call (the guide's Derived/Test/ToyasCard.lean, 'card_holds'). Laid BY PROGRAM, IN A SANDBOX (cutbox-door.mjs). By AI agents, Wed Nov 11 2026. No macro, syntax, notation, axiom, sorry.
-/
import Derived.Test.YtppceadhdckpmaaGreatDoorRows
import GoSem.ClaimSeven
namespace Go.Proofs.YtppceadhdckpmaaGreatDoor
namespace Rows

/-- THE TIED CARD OF 'wirelesslaw22.ScannerPlays'. -/
def scannerPlaysCard : Claim7 := { stood := { row := scannerPlaysRow, standIns := [], harness := (true, "c438bcff661ee6e5f8cc21e37a3ec78c531c9c74c26c7dcd684dbca467a540bb"), looks := false }, kinds := [], alts := [], laidByText := true, laidKinds := [.data], laidTests := true, laidLooks := .later }
def ScannerPlaysCardSaid : Prop := Claim7.holds Tryz.pinned (.plain (OpenSpec.ofChange scannerPlaysSpec)) scannerPlaysCard

/-- THE SECOND FORM's CARD OF 'wirelesslaw22.ScannerPlays'. -/
def scannerPlaysUptoCard : Claim7 := { stood := { row := scannerPlaysUptoRow, standIns := [], harness := (true, "c438bcff661ee6e5f8cc21e37a3ec78c531c9c74c26c7dcd684dbca467a540bb"), looks := false }, kinds := [], alts := [], laidByText := true, laidKinds := [.data], laidTests := true, laidLooks := .later }
def ScannerPlaysUptoCardSaid : Prop := Claim7.holds Tryz.pinned (.plain (OpenSpec.upto scannerPlaysSpec)) scannerPlaysUptoCard
end Rows
end Go.Proofs.YtppceadhdckpmaaGreatDoor

/-
  DERIVED. GIVEN WITH THE SEED: THE CARDS: each row of YtefkifgonadiiabDoorRows.lean that lists a variable, with what it lists TIED to the program's text (the seventh form; the later family's looks); each row that meets fmt, with fmt's text TOLD by the authors' own Lean function (tested against real Go, not proved from fmt's source: count such statements apart). THE CARD IS WHAT COUNTS. Prove the row's statement (the work); the ties are given (YtefkifgonadiiabDoorTie.lean); close each card by the builder's one call (the guide's Derived/Test/ToyasCard.lean, 'card_holds'). Laid BY PROGRAM, IN A SANDBOX (cutbox-door.mjs). By AI agents, Wed Nov 11 2026. No macro, syntax, notation, axiom, sorry.
-/
import Derived.Test.YtefkifgonadiiabDoorRows
import GoSem.ClaimSeven
namespace Go.Proofs.YtefkifgonadiiabDoor
namespace Rows

/-- THE TIED CARD OF 'berthshiftlaw.DirectoryWheres'. -/
def directoryWheresCard : Claim7 := { stood := { row := directoryWheresRow, standIns := [], harness := (true, "1ddbdd0de7b2f17dfe3e7fbf8b67eb54d9b4e5048ce5f7b030e4d343c4ab5b9b"), looks := false }, kinds := [], alts := [], laidByText := true, laidKinds := [.data], laidTests := true, laidLooks := .later }
def DirectoryWheresCardSaid : Prop := Claim7.holds Tryd.pinned (.plain (OpenSpec.ofChange directoryWheresSpec)) directoryWheresCard

/-- THE TIED CARD OF 'berthshiftlaw.DirectoryMakes'. -/
def directoryMakesCard : Claim7 := { stood := { row := directoryMakesRow, standIns := [], harness := (true, "1ddbdd0de7b2f17dfe3e7fbf8b67eb54d9b4e5048ce5f7b030e4d343c4ab5b9b"), looks := false }, kinds := [], alts := [], laidByText := true, laidKinds := [.data], laidTests := true, laidLooks := .later }
def DirectoryMakesCardSaid : Prop := Claim7.holds Tryd.pinned (.plain (OpenSpec.ofChange directoryMakesSpec)) directoryMakesCard

/-- THE SECOND FORM's CARD OF 'berthshiftlaw.DirectoryWheres'. -/
def directoryWheresUptoCard : Claim7 := { stood := { row := directoryWheresUptoRow, standIns := [], harness := (true, "1ddbdd0de7b2f17dfe3e7fbf8b67eb54d9b4e5048ce5f7b030e4d343c4ab5b9b"), looks := false }, kinds := [], alts := [], laidByText := true, laidKinds := [.data], laidTests := true, laidLooks := .later }
def DirectoryWheresUptoCardSaid : Prop := Claim7.holds Tryd.pinned (.plain (OpenSpec.upto directoryWheresSpec)) directoryWheresUptoCard

/-- THE SECOND FORM's CARD OF 'berthshiftlaw.DirectoryMakes'. -/
def directoryMakesUptoCard : Claim7 := { stood := { row := directoryMakesUptoRow, standIns := [], harness := (true, "1ddbdd0de7b2f17dfe3e7fbf8b67eb54d9b4e5048ce5f7b030e4d343c4ab5b9b"), looks := false }, kinds := [], alts := [], laidByText := true, laidKinds := [.data], laidTests := true, laidLooks := .later }
def DirectoryMakesUptoCardSaid : Prop := Claim7.holds Tryd.pinned (.plain (OpenSpec.upto directoryMakesSpec)) directoryMakesUptoCard
end Rows
end Go.Proofs.YtefkifgonadiiabDoor

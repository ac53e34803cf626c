/-
  DERIVED. GIVEN WITH THE SEED: THE CARDS: each row of YtidmifejdbgngaaDoorRows.lean that lists a variable, with what it lists TIED to the program's text (the seventh form; the later family's looks); each row that meets fmt, with fmt's text TOLD by the authors' own Lean function (tested against real Go, not proved from fmt's source: count such statements apart). THE CARD IS WHAT COUNTS. Prove the row's statement (the work); the ties are given (YtidmifejdbgngaaDoorTie.lean); close each card by the builder's one call (the guide's Derived/Test/ToyasCard.lean, 'card_holds'). Laid BY PROGRAM, IN A SANDBOX (cutbox-door.mjs). By AI agents, Wed Nov 11 2026. No macro, syntax, notation, axiom, sorry.
-/
import Derived.Test.YtidmifejdbgngaaDoorRows
import GoSem.ClaimSeven
namespace Go.Proofs.YtidmifejdbgngaaDoor
namespace Rows

/-- THE TIED CARD OF 'berthshiftlaw.DirectoryFlips'. -/
def directoryFlipsCard : Claim7 := { stood := { row := directoryFlipsRow, standIns := [], harness := (true, "04b3995d7b2af2fe67fdd1289c421dbc5f96f9656872a75b5ad36008133ad986"), looks := false }, kinds := [], alts := [], laidByText := true, laidKinds := [.data], laidTests := true, laidLooks := .later }
def DirectoryFlipsCardSaid : Prop := Claim7.holds Tryd.pinned (.plain (OpenSpec.ofChange directoryFlipsSpec)) directoryFlipsCard

/-- THE SECOND FORM's CARD OF 'berthshiftlaw.DirectoryFlips'. -/
def directoryFlipsUptoCard : Claim7 := { stood := { row := directoryFlipsUptoRow, standIns := [], harness := (true, "04b3995d7b2af2fe67fdd1289c421dbc5f96f9656872a75b5ad36008133ad986"), looks := false }, kinds := [], alts := [], laidByText := true, laidKinds := [.data], laidTests := true, laidLooks := .later }
def DirectoryFlipsUptoCardSaid : Prop := Claim7.holds Tryd.pinned (.plain (OpenSpec.upto directoryFlipsSpec)) directoryFlipsUptoCard
end Rows
end Go.Proofs.YtidmifejdbgngaaDoor

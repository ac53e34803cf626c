/-
  DERIVED. GIVEN WITH THE SEED: THE CARDS: each row of YtefkifgonadiiaaDoorRows.lean that lists a variable, with what it lists TIED to the program's text (the seventh form; the later family's looks); each row that meets fmt, with fmt's text TOLD by the authors' own Lean function (tested against real Go, not proved from fmt's source: count such statements apart). THE CARD IS WHAT COUNTS. Prove the row's statement (the work); the ties are given (YtefkifgonadiiaaDoorTie.lean); close each card by the builder's one call (the guide's Derived/Test/ToyasCard.lean, 'card_holds'). Laid BY PROGRAM, IN A SANDBOX (cutbox-door.mjs). By AI agents, Wed Nov 11 2026. No macro, syntax, notation, axiom, sorry.
-/
import Derived.Test.YtefkifgonadiiaaDoorRows
import GoSem.ClaimSeven
namespace Go.Proofs.YtefkifgonadiiaaDoor
namespace Rows

/-- THE TIED CARD OF 'berthshiftlaw.DirectoryChecks'. -/
def directoryChecksCard : Claim7 := { stood := { row := directoryChecksRow, standIns := [], harness := (true, "9b8704b65704e9d65b51b35eb1d4e34aa4943f41540592944e5476806f5e7694"), looks := false }, kinds := [], alts := [], laidByText := true, laidKinds := [.data], laidTests := true, laidLooks := .later }
def DirectoryChecksCardSaid : Prop := Claim7.holds Tryd.pinned (.plain (OpenSpec.ofChange directoryChecksSpec)) directoryChecksCard

/-- THE TIED CARD OF 'berthshiftlaw.DirectoryNews'. -/
def directoryNewsCard : Claim7 := { stood := { row := directoryNewsRow, standIns := [], harness := (true, "9b8704b65704e9d65b51b35eb1d4e34aa4943f41540592944e5476806f5e7694"), looks := false }, kinds := [], alts := [], laidByText := true, laidKinds := [.data], laidTests := true, laidLooks := .later }
def DirectoryNewsCardSaid : Prop := Claim7.holds Tryd.pinned (.plain (OpenSpec.ofChange directoryNewsSpec)) directoryNewsCard

/-- THE SECOND FORM's CARD OF 'berthshiftlaw.DirectoryChecks'. -/
def directoryChecksUptoCard : Claim7 := { stood := { row := directoryChecksUptoRow, standIns := [], harness := (true, "9b8704b65704e9d65b51b35eb1d4e34aa4943f41540592944e5476806f5e7694"), looks := false }, kinds := [], alts := [], laidByText := true, laidKinds := [.data], laidTests := true, laidLooks := .later }
def DirectoryChecksUptoCardSaid : Prop := Claim7.holds Tryd.pinned (.plain (OpenSpec.upto directoryChecksSpec)) directoryChecksUptoCard

/-- THE SECOND FORM's CARD OF 'berthshiftlaw.DirectoryNews'. -/
def directoryNewsUptoCard : Claim7 := { stood := { row := directoryNewsUptoRow, standIns := [], harness := (true, "9b8704b65704e9d65b51b35eb1d4e34aa4943f41540592944e5476806f5e7694"), looks := false }, kinds := [], alts := [], laidByText := true, laidKinds := [.data], laidTests := true, laidLooks := .later }
def DirectoryNewsUptoCardSaid : Prop := Claim7.holds Tryd.pinned (.plain (OpenSpec.upto directoryNewsSpec)) directoryNewsUptoCard
end Rows
end Go.Proofs.YtefkifgonadiiaaDoor

/-
  DERIVED. GIVEN WITH THE SEED: THE CARDS: each row of YtlfgjcahpppbbaaGreatDoorRows.lean that lists a variable, with what it lists TIED to the program's text (the seventh form; the later family's looks); each row that meets fmt, with fmt's text TOLD by the authors' own Lean function (tested against real Go, not proved from fmt's source: count such statements apart). THE CARD IS WHAT COUNTS. Prove the row's statement (the work); the ties are given (YtlfgjcahpppbbaaGreatDoorTie.lean); close each card by the builder's one call (the guide's Derived/Test/ToyasCard.lean, 'card_holds'). Laid BY PROGRAM, IN A SANDBOX (cutbox-door.mjs). By AI agents, Wed Nov 11 2026. No macro, syntax, notation, axiom, sorry.
-/
import Derived.Test.YtlfgjcahpppbbaaGreatDoorRows
import GoSem.ClaimSeven
namespace Go.Proofs.YtlfgjcahpppbbaaGreatDoor
namespace Rows

/-- THE TIED CARD OF 'berthshifttop.TopState'. -/
def topStateCard : Claim7 := { stood := { row := topStateRow, standIns := [], harness := (true, "9be92da7ca5ff786bd6f3c2aca94231d25133da4c985a112b327964fd7b43d09"), looks := true }, kinds := [], alts := [], laidByText := true, laidKinds := [.data, .data], laidTests := true, laidLooks := .later }
def TopStateCardSaid : Prop := Claim7.holds Tryz.pinned (.plain (OpenSpec.ofChange topStateSpec)) topStateCard

/-- THE TIED CARD OF 'berthshifttop.TopKept'. -/
def topKeptCard : Claim7 := { stood := { row := topKeptRow, standIns := [], harness := (true, "9be92da7ca5ff786bd6f3c2aca94231d25133da4c985a112b327964fd7b43d09"), looks := true }, kinds := [], alts := [], laidByText := true, laidKinds := [.data, .data], laidTests := true, laidLooks := .later }
def TopKeptCardSaid : Prop := Claim7.holds Tryz.pinned (.plain (OpenSpec.ofChange topKeptSpec)) topKeptCard

/-- THE SECOND FORM's CARD OF 'berthshifttop.TopState'. -/
def topStateUptoCard : Claim7 := { stood := { row := topStateUptoRow, standIns := [], harness := (true, "9be92da7ca5ff786bd6f3c2aca94231d25133da4c985a112b327964fd7b43d09"), looks := true }, kinds := [], alts := [], laidByText := true, laidKinds := [.data, .data], laidTests := true, laidLooks := .later }
def TopStateUptoCardSaid : Prop := Claim7.holds Tryz.pinned (.plain (OpenSpec.upto topStateSpec)) topStateUptoCard

/-- THE SECOND FORM's CARD OF 'berthshifttop.TopKept'. -/
def topKeptUptoCard : Claim7 := { stood := { row := topKeptUptoRow, standIns := [], harness := (true, "9be92da7ca5ff786bd6f3c2aca94231d25133da4c985a112b327964fd7b43d09"), looks := true }, kinds := [], alts := [], laidByText := true, laidKinds := [.data, .data], laidTests := true, laidLooks := .later }
def TopKeptUptoCardSaid : Prop := Claim7.holds Tryz.pinned (.plain (OpenSpec.upto topKeptSpec)) topKeptUptoCard
end Rows
end Go.Proofs.YtlfgjcahpppbbaaGreatDoor

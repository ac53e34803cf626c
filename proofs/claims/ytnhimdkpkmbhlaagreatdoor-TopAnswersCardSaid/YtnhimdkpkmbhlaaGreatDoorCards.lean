/-
  DERIVED. GIVEN WITH THE SEED: THE CARDS: each row of YtnhimdkpkmbhlaaGreatDoorRows.lean that lists a variable, with what it lists TIED to the program's text (the seventh form; the later family's looks); each row that meets fmt, with fmt's text TOLD by the authors' own Lean function (tested against real Go, not proved from fmt's source: count such statements apart). THE CARD IS WHAT COUNTS. Prove the row's statement (the work); the ties are given (YtnhimdkpkmbhlaaGreatDoorTie.lean); close each card by the builder's one call (the guide's Derived/Test/ToyasCard.lean, 'card_holds'). Laid BY PROGRAM, IN A SANDBOX (cutbox-door.mjs). By AI agents, Wed Nov 11 2026. No macro, syntax, notation, axiom, sorry.
-/
import Derived.Test.YtnhimdkpkmbhlaaGreatDoorRows
import GoSem.ClaimSeven
namespace Go.Proofs.YtnhimdkpkmbhlaaGreatDoor
namespace Rows

/-- THE TIED CARD OF 'berthshifttop.TopLinear'. -/
def topLinearCard : Claim7 := { stood := { row := topLinearRow, standIns := [], harness := (true, "134e0c4ea25d1b98eeba68e0bf89e730a262668337034b200b75432ddc89f18d"), looks := true }, kinds := [], alts := [], laidByText := true, laidKinds := [.data, .data], laidTests := true, laidLooks := .later }
def TopLinearCardSaid : Prop := Claim7.holds Tryz.pinned (.plain (OpenSpec.ofChange topLinearSpec)) topLinearCard

/-- THE TIED CARD OF 'berthshifttop.TopNever'. -/
def topNeverCard : Claim7 := { stood := { row := topNeverRow, standIns := [], harness := (true, "134e0c4ea25d1b98eeba68e0bf89e730a262668337034b200b75432ddc89f18d"), looks := true }, kinds := [], alts := [], laidByText := true, laidKinds := [.data, .data], laidTests := true, laidLooks := .later }
def TopNeverCardSaid : Prop := Claim7.holds Tryz.pinned (.plain (OpenSpec.ofChange topNeverSpec)) topNeverCard

/-- THE TIED CARD OF 'berthshifttop.TopStale'. -/
def topStaleCard : Claim7 := { stood := { row := topStaleRow, standIns := [], harness := (true, "134e0c4ea25d1b98eeba68e0bf89e730a262668337034b200b75432ddc89f18d"), looks := true }, kinds := [], alts := [], laidByText := true, laidKinds := [.data, .data], laidTests := true, laidLooks := .later }
def TopStaleCardSaid : Prop := Claim7.holds Tryz.pinned (.plain (OpenSpec.ofChange topStaleSpec)) topStaleCard

/-- THE TIED CARD OF 'berthshifttop.TopHandles'. -/
def topHandlesCard : Claim7 := { stood := { row := topHandlesRow, standIns := [], harness := (true, "134e0c4ea25d1b98eeba68e0bf89e730a262668337034b200b75432ddc89f18d"), looks := true }, kinds := [], alts := [], laidByText := true, laidKinds := [.data, .data], laidTests := true, laidLooks := .later }
def TopHandlesCardSaid : Prop := Claim7.holds Tryz.pinned (.plain (OpenSpec.ofChange topHandlesSpec)) topHandlesCard

/-- THE TIED CARD OF 'berthshifttop.TopEpochs'. -/
def topEpochsCard : Claim7 := { stood := { row := topEpochsRow, standIns := [], harness := (true, "134e0c4ea25d1b98eeba68e0bf89e730a262668337034b200b75432ddc89f18d"), looks := true }, kinds := [], alts := [], laidByText := true, laidKinds := [.data, .data], laidTests := true, laidLooks := .later }
def TopEpochsCardSaid : Prop := Claim7.holds Tryz.pinned (.plain (OpenSpec.ofChange topEpochsSpec)) topEpochsCard

/-- THE TIED CARD OF 'berthshifttop.TopAsked'. -/
def topAskedCard : Claim7 := { stood := { row := topAskedRow, standIns := [], harness := (true, "134e0c4ea25d1b98eeba68e0bf89e730a262668337034b200b75432ddc89f18d"), looks := true }, kinds := [], alts := [], laidByText := true, laidKinds := [.data, .data], laidTests := true, laidLooks := .later }
def TopAskedCardSaid : Prop := Claim7.holds Tryz.pinned (.plain (OpenSpec.ofChange topAskedSpec)) topAskedCard

/-- THE TIED CARD OF 'berthshifttop.TopUnsynced'. -/
def topUnsyncedCard : Claim7 := { stood := { row := topUnsyncedRow, standIns := [], harness := (true, "134e0c4ea25d1b98eeba68e0bf89e730a262668337034b200b75432ddc89f18d"), looks := true }, kinds := [], alts := [], laidByText := true, laidKinds := [.data, .data], laidTests := true, laidLooks := .later }
def TopUnsyncedCardSaid : Prop := Claim7.holds Tryz.pinned (.plain (OpenSpec.ofChange topUnsyncedSpec)) topUnsyncedCard

/-- THE TIED CARD OF 'berthshifttop.TopAnswers'. -/
def topAnswersCard : Claim7 := { stood := { row := topAnswersRow, standIns := [], harness := (true, "134e0c4ea25d1b98eeba68e0bf89e730a262668337034b200b75432ddc89f18d"), looks := true }, kinds := [], alts := [], laidByText := true, laidKinds := [.data, .data], laidTests := true, laidLooks := .later }
def TopAnswersCardSaid : Prop := Claim7.holds Tryz.pinned (.plain (OpenSpec.ofChange topAnswersSpec)) topAnswersCard

/-- THE SECOND FORM's CARD OF 'berthshifttop.TopLinear'. -/
def topLinearUptoCard : Claim7 := { stood := { row := topLinearUptoRow, standIns := [], harness := (true, "134e0c4ea25d1b98eeba68e0bf89e730a262668337034b200b75432ddc89f18d"), looks := true }, kinds := [], alts := [], laidByText := true, laidKinds := [.data, .data], laidTests := true, laidLooks := .later }
def TopLinearUptoCardSaid : Prop := Claim7.holds Tryz.pinned (.plain (OpenSpec.upto topLinearSpec)) topLinearUptoCard

/-- THE SECOND FORM's CARD OF 'berthshifttop.TopNever'. -/
def topNeverUptoCard : Claim7 := { stood := { row := topNeverUptoRow, standIns := [], harness := (true, "134e0c4ea25d1b98eeba68e0bf89e730a262668337034b200b75432ddc89f18d"), looks := true }, kinds := [], alts := [], laidByText := true, laidKinds := [.data, .data], laidTests := true, laidLooks := .later }
def TopNeverUptoCardSaid : Prop := Claim7.holds Tryz.pinned (.plain (OpenSpec.upto topNeverSpec)) topNeverUptoCard

/-- THE SECOND FORM's CARD OF 'berthshifttop.TopStale'. -/
def topStaleUptoCard : Claim7 := { stood := { row := topStaleUptoRow, standIns := [], harness := (true, "134e0c4ea25d1b98eeba68e0bf89e730a262668337034b200b75432ddc89f18d"), looks := true }, kinds := [], alts := [], laidByText := true, laidKinds := [.data, .data], laidTests := true, laidLooks := .later }
def TopStaleUptoCardSaid : Prop := Claim7.holds Tryz.pinned (.plain (OpenSpec.upto topStaleSpec)) topStaleUptoCard

/-- THE SECOND FORM's CARD OF 'berthshifttop.TopHandles'. -/
def topHandlesUptoCard : Claim7 := { stood := { row := topHandlesUptoRow, standIns := [], harness := (true, "134e0c4ea25d1b98eeba68e0bf89e730a262668337034b200b75432ddc89f18d"), looks := true }, kinds := [], alts := [], laidByText := true, laidKinds := [.data, .data], laidTests := true, laidLooks := .later }
def TopHandlesUptoCardSaid : Prop := Claim7.holds Tryz.pinned (.plain (OpenSpec.upto topHandlesSpec)) topHandlesUptoCard

/-- THE SECOND FORM's CARD OF 'berthshifttop.TopEpochs'. -/
def topEpochsUptoCard : Claim7 := { stood := { row := topEpochsUptoRow, standIns := [], harness := (true, "134e0c4ea25d1b98eeba68e0bf89e730a262668337034b200b75432ddc89f18d"), looks := true }, kinds := [], alts := [], laidByText := true, laidKinds := [.data, .data], laidTests := true, laidLooks := .later }
def TopEpochsUptoCardSaid : Prop := Claim7.holds Tryz.pinned (.plain (OpenSpec.upto topEpochsSpec)) topEpochsUptoCard

/-- THE SECOND FORM's CARD OF 'berthshifttop.TopAsked'. -/
def topAskedUptoCard : Claim7 := { stood := { row := topAskedUptoRow, standIns := [], harness := (true, "134e0c4ea25d1b98eeba68e0bf89e730a262668337034b200b75432ddc89f18d"), looks := true }, kinds := [], alts := [], laidByText := true, laidKinds := [.data, .data], laidTests := true, laidLooks := .later }
def TopAskedUptoCardSaid : Prop := Claim7.holds Tryz.pinned (.plain (OpenSpec.upto topAskedSpec)) topAskedUptoCard

/-- THE SECOND FORM's CARD OF 'berthshifttop.TopUnsynced'. -/
def topUnsyncedUptoCard : Claim7 := { stood := { row := topUnsyncedUptoRow, standIns := [], harness := (true, "134e0c4ea25d1b98eeba68e0bf89e730a262668337034b200b75432ddc89f18d"), looks := true }, kinds := [], alts := [], laidByText := true, laidKinds := [.data, .data], laidTests := true, laidLooks := .later }
def TopUnsyncedUptoCardSaid : Prop := Claim7.holds Tryz.pinned (.plain (OpenSpec.upto topUnsyncedSpec)) topUnsyncedUptoCard

/-- THE SECOND FORM's CARD OF 'berthshifttop.TopAnswers'. -/
def topAnswersUptoCard : Claim7 := { stood := { row := topAnswersUptoRow, standIns := [], harness := (true, "134e0c4ea25d1b98eeba68e0bf89e730a262668337034b200b75432ddc89f18d"), looks := true }, kinds := [], alts := [], laidByText := true, laidKinds := [.data, .data], laidTests := true, laidLooks := .later }
def TopAnswersUptoCardSaid : Prop := Claim7.holds Tryz.pinned (.plain (OpenSpec.upto topAnswersSpec)) topAnswersUptoCard
end Rows
end Go.Proofs.YtnhimdkpkmbhlaaGreatDoor

/-
  DERIVED. GIVEN WITH THE SEED: THE CARDS: each row of YtbffmhpkenoogaaGreatDoorRows.lean that lists a variable, with what it lists TIED to the program's text (the seventh form; the later family's looks); each row that meets fmt, with fmt's text TOLD by the authors' own Lean function (tested against real Go, not proved from fmt's source: count such statements apart). THE CARD IS WHAT COUNTS. Prove the row's statement (the work); the ties are given (YtbffmhpkenoogaaGreatDoorTie.lean); close each card by the builder's one call (the guide's Derived/Test/ToyasCard.lean, 'card_holds'). Laid BY PROGRAM, IN A SANDBOX (cutbox-door.mjs). By AI agents, Wed Nov 11 2026. No macro, syntax, notation, axiom, sorry.
-/
import Derived.Test.YtbffmhpkenoogaaGreatDoorRows
import GoSem.ClaimSeven
namespace Go.Proofs.YtbffmhpkenoogaaGreatDoor
namespace Rows

/-- THE TIED CARD OF 'berthshifttop.TopOne'. -/
def topOneCard : Claim7 := { stood := { row := topOneRow, standIns := [], harness := (true, "5d874e2b8e72c2a99403e3e506f236953b00c8573004f1f580a65f92b516d6db"), looks := true }, kinds := [], alts := [], laidByText := true, laidKinds := [.data, .data], laidTests := true, laidLooks := .later }
def TopOneCardSaid : Prop := Claim7.holds Tryz.pinned (.plain (OpenSpec.ofChange topOneSpec)) topOneCard

/-- THE TIED CARD OF 'berthshifttop.TopAuthority'. -/
def topAuthorityCard : Claim7 := { stood := { row := topAuthorityRow, standIns := [], harness := (true, "5d874e2b8e72c2a99403e3e506f236953b00c8573004f1f580a65f92b516d6db"), looks := true }, kinds := [], alts := [], laidByText := true, laidKinds := [.data, .data], laidTests := true, laidLooks := .later }
def TopAuthorityCardSaid : Prop := Claim7.holds Tryz.pinned (.plain (OpenSpec.ofChange topAuthoritySpec)) topAuthorityCard

/-- THE TIED CARD OF 'berthshifttop.TopLinear'. -/
def topLinearCard : Claim7 := { stood := { row := topLinearRow, standIns := [], harness := (true, "5d874e2b8e72c2a99403e3e506f236953b00c8573004f1f580a65f92b516d6db"), looks := true }, kinds := [], alts := [], laidByText := true, laidKinds := [.data, .data], laidTests := true, laidLooks := .later }
def TopLinearCardSaid : Prop := Claim7.holds Tryz.pinned (.plain (OpenSpec.ofChange topLinearSpec)) topLinearCard

/-- THE TIED CARD OF 'berthshiftlaw.ClusterRefuses'. -/
def clusterRefusesCard : Claim7 := { stood := { row := clusterRefusesRow, standIns := [], harness := (true, "5d874e2b8e72c2a99403e3e506f236953b00c8573004f1f580a65f92b516d6db"), looks := true }, kinds := [], alts := [], laidByText := true, laidKinds := [.data, .data], laidTests := true, laidLooks := .later }
def ClusterRefusesCardSaid : Prop := Claim7.holds Tryz.pinned (.plain (OpenSpec.ofChange clusterRefusesSpec)) clusterRefusesCard

/-- THE TIED CARD OF 'berthshifttop.TopState'. -/
def topStateCard : Claim7 := { stood := { row := topStateRow, standIns := [], harness := (true, "5d874e2b8e72c2a99403e3e506f236953b00c8573004f1f580a65f92b516d6db"), looks := true }, kinds := [], alts := [], laidByText := true, laidKinds := [.data, .data], laidTests := true, laidLooks := .later }
def TopStateCardSaid : Prop := Claim7.holds Tryz.pinned (.plain (OpenSpec.ofChange topStateSpec)) topStateCard

/-- THE TIED CARD OF 'berthshifttop.TopFair'. -/
def topFairCard : Claim7 := { stood := { row := topFairRow, standIns := [], harness := (true, "5d874e2b8e72c2a99403e3e506f236953b00c8573004f1f580a65f92b516d6db"), looks := true }, kinds := [], alts := [], laidByText := true, laidKinds := [.data, .data], laidTests := true, laidLooks := .later }
def TopFairCardSaid : Prop := Claim7.holds Tryz.pinned (.plain (OpenSpec.ofChange topFairSpec)) topFairCard

/-- THE TIED CARD OF 'berthshifttop.TopMoved'. -/
def topMovedCard : Claim7 := { stood := { row := topMovedRow, standIns := [], harness := (true, "5d874e2b8e72c2a99403e3e506f236953b00c8573004f1f580a65f92b516d6db"), looks := true }, kinds := [], alts := [], laidByText := true, laidKinds := [.data, .data], laidTests := true, laidLooks := .later }
def TopMovedCardSaid : Prop := Claim7.holds Tryz.pinned (.plain (OpenSpec.ofChange topMovedSpec)) topMovedCard

/-- THE TIED CARD OF 'berthshifttop.TopKept'. -/
def topKeptCard : Claim7 := { stood := { row := topKeptRow, standIns := [], harness := (true, "5d874e2b8e72c2a99403e3e506f236953b00c8573004f1f580a65f92b516d6db"), looks := true }, kinds := [], alts := [], laidByText := true, laidKinds := [.data, .data], laidTests := true, laidLooks := .later }
def TopKeptCardSaid : Prop := Claim7.holds Tryz.pinned (.plain (OpenSpec.ofChange topKeptSpec)) topKeptCard

/-- THE TIED CARD OF 'berthshifttop.TopNever'. -/
def topNeverCard : Claim7 := { stood := { row := topNeverRow, standIns := [], harness := (true, "5d874e2b8e72c2a99403e3e506f236953b00c8573004f1f580a65f92b516d6db"), looks := true }, kinds := [], alts := [], laidByText := true, laidKinds := [.data, .data], laidTests := true, laidLooks := .later }
def TopNeverCardSaid : Prop := Claim7.holds Tryz.pinned (.plain (OpenSpec.ofChange topNeverSpec)) topNeverCard

/-- THE TIED CARD OF 'berthshifttop.TopStale'. -/
def topStaleCard : Claim7 := { stood := { row := topStaleRow, standIns := [], harness := (true, "5d874e2b8e72c2a99403e3e506f236953b00c8573004f1f580a65f92b516d6db"), looks := true }, kinds := [], alts := [], laidByText := true, laidKinds := [.data, .data], laidTests := true, laidLooks := .later }
def TopStaleCardSaid : Prop := Claim7.holds Tryz.pinned (.plain (OpenSpec.ofChange topStaleSpec)) topStaleCard

/-- THE TIED CARD OF 'berthshifttop.TopHandles'. -/
def topHandlesCard : Claim7 := { stood := { row := topHandlesRow, standIns := [], harness := (true, "5d874e2b8e72c2a99403e3e506f236953b00c8573004f1f580a65f92b516d6db"), looks := true }, kinds := [], alts := [], laidByText := true, laidKinds := [.data, .data], laidTests := true, laidLooks := .later }
def TopHandlesCardSaid : Prop := Claim7.holds Tryz.pinned (.plain (OpenSpec.ofChange topHandlesSpec)) topHandlesCard

/-- THE TIED CARD OF 'berthshifttop.TopEpochs'. -/
def topEpochsCard : Claim7 := { stood := { row := topEpochsRow, standIns := [], harness := (true, "5d874e2b8e72c2a99403e3e506f236953b00c8573004f1f580a65f92b516d6db"), looks := true }, kinds := [], alts := [], laidByText := true, laidKinds := [.data, .data], laidTests := true, laidLooks := .later }
def TopEpochsCardSaid : Prop := Claim7.holds Tryz.pinned (.plain (OpenSpec.ofChange topEpochsSpec)) topEpochsCard

/-- THE TIED CARD OF 'berthshifttop.TopSealed'. -/
def topSealedCard : Claim7 := { stood := { row := topSealedRow, standIns := [], harness := (true, "5d874e2b8e72c2a99403e3e506f236953b00c8573004f1f580a65f92b516d6db"), looks := true }, kinds := [], alts := [], laidByText := true, laidKinds := [.data, .data], laidTests := true, laidLooks := .later }
def TopSealedCardSaid : Prop := Claim7.holds Tryz.pinned (.plain (OpenSpec.ofChange topSealedSpec)) topSealedCard

/-- THE TIED CARD OF 'berthshifttop.TopAsked'. -/
def topAskedCard : Claim7 := { stood := { row := topAskedRow, standIns := [], harness := (true, "5d874e2b8e72c2a99403e3e506f236953b00c8573004f1f580a65f92b516d6db"), looks := true }, kinds := [], alts := [], laidByText := true, laidKinds := [.data, .data], laidTests := true, laidLooks := .later }
def TopAskedCardSaid : Prop := Claim7.holds Tryz.pinned (.plain (OpenSpec.ofChange topAskedSpec)) topAskedCard

/-- THE TIED CARD OF 'berthshifttop.TopPrefix'. -/
def topPrefixCard : Claim7 := { stood := { row := topPrefixRow, standIns := [], harness := (true, "5d874e2b8e72c2a99403e3e506f236953b00c8573004f1f580a65f92b516d6db"), looks := true }, kinds := [], alts := [], laidByText := true, laidKinds := [.data, .data], laidTests := true, laidLooks := .later }
def TopPrefixCardSaid : Prop := Claim7.holds Tryz.pinned (.plain (OpenSpec.ofChange topPrefixSpec)) topPrefixCard

/-- THE TIED CARD OF 'berthshifttop.TopWhole'. -/
def topWholeCard : Claim7 := { stood := { row := topWholeRow, standIns := [], harness := (true, "5d874e2b8e72c2a99403e3e506f236953b00c8573004f1f580a65f92b516d6db"), looks := true }, kinds := [], alts := [], laidByText := true, laidKinds := [.data, .data], laidTests := true, laidLooks := .later }
def TopWholeCardSaid : Prop := Claim7.holds Tryz.pinned (.plain (OpenSpec.ofChange topWholeSpec)) topWholeCard

/-- THE TIED CARD OF 'berthshifttop.TopSteps'. -/
def topStepsCard : Claim7 := { stood := { row := topStepsRow, standIns := [], harness := (true, "5d874e2b8e72c2a99403e3e506f236953b00c8573004f1f580a65f92b516d6db"), looks := true }, kinds := [], alts := [], laidByText := true, laidKinds := [.data, .data], laidTests := true, laidLooks := .later }
def TopStepsCardSaid : Prop := Claim7.holds Tryz.pinned (.plain (OpenSpec.ofChange topStepsSpec)) topStepsCard

/-- THE TIED CARD OF 'berthshifttop.TopUnsynced'. -/
def topUnsyncedCard : Claim7 := { stood := { row := topUnsyncedRow, standIns := [], harness := (true, "5d874e2b8e72c2a99403e3e506f236953b00c8573004f1f580a65f92b516d6db"), looks := true }, kinds := [], alts := [], laidByText := true, laidKinds := [.data, .data], laidTests := true, laidLooks := .later }
def TopUnsyncedCardSaid : Prop := Claim7.holds Tryz.pinned (.plain (OpenSpec.ofChange topUnsyncedSpec)) topUnsyncedCard

/-- THE TIED CARD OF 'berthshifttop.TopAnswers'. -/
def topAnswersCard : Claim7 := { stood := { row := topAnswersRow, standIns := [], harness := (true, "5d874e2b8e72c2a99403e3e506f236953b00c8573004f1f580a65f92b516d6db"), looks := true }, kinds := [], alts := [], laidByText := true, laidKinds := [.data, .data], laidTests := true, laidLooks := .later }
def TopAnswersCardSaid : Prop := Claim7.holds Tryz.pinned (.plain (OpenSpec.ofChange topAnswersSpec)) topAnswersCard

/-- THE TIED CARD OF 'berthshifttop.TopPlan'. -/
def topPlanCard : Claim7 := { stood := { row := topPlanRow, standIns := [], harness := (true, "5d874e2b8e72c2a99403e3e506f236953b00c8573004f1f580a65f92b516d6db"), looks := true }, kinds := [], alts := [], laidByText := true, laidKinds := [.data, .data], laidTests := true, laidLooks := .later }
def TopPlanCardSaid : Prop := Claim7.holds Tryz.pinned (.plain (OpenSpec.ofChange topPlanSpec)) topPlanCard

/-- THE SECOND FORM's CARD OF 'berthshifttop.TopOne'. -/
def topOneUptoCard : Claim7 := { stood := { row := topOneUptoRow, standIns := [], harness := (true, "5d874e2b8e72c2a99403e3e506f236953b00c8573004f1f580a65f92b516d6db"), looks := true }, kinds := [], alts := [], laidByText := true, laidKinds := [.data, .data], laidTests := true, laidLooks := .later }
def TopOneUptoCardSaid : Prop := Claim7.holds Tryz.pinned (.plain (OpenSpec.upto topOneSpec)) topOneUptoCard

/-- THE SECOND FORM's CARD OF 'berthshifttop.TopAuthority'. -/
def topAuthorityUptoCard : Claim7 := { stood := { row := topAuthorityUptoRow, standIns := [], harness := (true, "5d874e2b8e72c2a99403e3e506f236953b00c8573004f1f580a65f92b516d6db"), looks := true }, kinds := [], alts := [], laidByText := true, laidKinds := [.data, .data], laidTests := true, laidLooks := .later }
def TopAuthorityUptoCardSaid : Prop := Claim7.holds Tryz.pinned (.plain (OpenSpec.upto topAuthoritySpec)) topAuthorityUptoCard

/-- THE SECOND FORM's CARD OF 'berthshifttop.TopLinear'. -/
def topLinearUptoCard : Claim7 := { stood := { row := topLinearUptoRow, standIns := [], harness := (true, "5d874e2b8e72c2a99403e3e506f236953b00c8573004f1f580a65f92b516d6db"), looks := true }, kinds := [], alts := [], laidByText := true, laidKinds := [.data, .data], laidTests := true, laidLooks := .later }
def TopLinearUptoCardSaid : Prop := Claim7.holds Tryz.pinned (.plain (OpenSpec.upto topLinearSpec)) topLinearUptoCard

/-- THE SECOND FORM's CARD OF 'berthshiftlaw.ClusterRefuses'. -/
def clusterRefusesUptoCard : Claim7 := { stood := { row := clusterRefusesUptoRow, standIns := [], harness := (true, "5d874e2b8e72c2a99403e3e506f236953b00c8573004f1f580a65f92b516d6db"), looks := true }, kinds := [], alts := [], laidByText := true, laidKinds := [.data, .data], laidTests := true, laidLooks := .later }
def ClusterRefusesUptoCardSaid : Prop := Claim7.holds Tryz.pinned (.plain (OpenSpec.upto clusterRefusesSpec)) clusterRefusesUptoCard

/-- THE SECOND FORM's CARD OF 'berthshifttop.TopState'. -/
def topStateUptoCard : Claim7 := { stood := { row := topStateUptoRow, standIns := [], harness := (true, "5d874e2b8e72c2a99403e3e506f236953b00c8573004f1f580a65f92b516d6db"), looks := true }, kinds := [], alts := [], laidByText := true, laidKinds := [.data, .data], laidTests := true, laidLooks := .later }
def TopStateUptoCardSaid : Prop := Claim7.holds Tryz.pinned (.plain (OpenSpec.upto topStateSpec)) topStateUptoCard

/-- THE SECOND FORM's CARD OF 'berthshifttop.TopFair'. -/
def topFairUptoCard : Claim7 := { stood := { row := topFairUptoRow, standIns := [], harness := (true, "5d874e2b8e72c2a99403e3e506f236953b00c8573004f1f580a65f92b516d6db"), looks := true }, kinds := [], alts := [], laidByText := true, laidKinds := [.data, .data], laidTests := true, laidLooks := .later }
def TopFairUptoCardSaid : Prop := Claim7.holds Tryz.pinned (.plain (OpenSpec.upto topFairSpec)) topFairUptoCard

/-- THE SECOND FORM's CARD OF 'berthshifttop.TopMoved'. -/
def topMovedUptoCard : Claim7 := { stood := { row := topMovedUptoRow, standIns := [], harness := (true, "5d874e2b8e72c2a99403e3e506f236953b00c8573004f1f580a65f92b516d6db"), looks := true }, kinds := [], alts := [], laidByText := true, laidKinds := [.data, .data], laidTests := true, laidLooks := .later }
def TopMovedUptoCardSaid : Prop := Claim7.holds Tryz.pinned (.plain (OpenSpec.upto topMovedSpec)) topMovedUptoCard

/-- THE SECOND FORM's CARD OF 'berthshifttop.TopKept'. -/
def topKeptUptoCard : Claim7 := { stood := { row := topKeptUptoRow, standIns := [], harness := (true, "5d874e2b8e72c2a99403e3e506f236953b00c8573004f1f580a65f92b516d6db"), looks := true }, kinds := [], alts := [], laidByText := true, laidKinds := [.data, .data], laidTests := true, laidLooks := .later }
def TopKeptUptoCardSaid : Prop := Claim7.holds Tryz.pinned (.plain (OpenSpec.upto topKeptSpec)) topKeptUptoCard

/-- THE SECOND FORM's CARD OF 'berthshifttop.TopNever'. -/
def topNeverUptoCard : Claim7 := { stood := { row := topNeverUptoRow, standIns := [], harness := (true, "5d874e2b8e72c2a99403e3e506f236953b00c8573004f1f580a65f92b516d6db"), looks := true }, kinds := [], alts := [], laidByText := true, laidKinds := [.data, .data], laidTests := true, laidLooks := .later }
def TopNeverUptoCardSaid : Prop := Claim7.holds Tryz.pinned (.plain (OpenSpec.upto topNeverSpec)) topNeverUptoCard

/-- THE SECOND FORM's CARD OF 'berthshifttop.TopStale'. -/
def topStaleUptoCard : Claim7 := { stood := { row := topStaleUptoRow, standIns := [], harness := (true, "5d874e2b8e72c2a99403e3e506f236953b00c8573004f1f580a65f92b516d6db"), looks := true }, kinds := [], alts := [], laidByText := true, laidKinds := [.data, .data], laidTests := true, laidLooks := .later }
def TopStaleUptoCardSaid : Prop := Claim7.holds Tryz.pinned (.plain (OpenSpec.upto topStaleSpec)) topStaleUptoCard

/-- THE SECOND FORM's CARD OF 'berthshifttop.TopHandles'. -/
def topHandlesUptoCard : Claim7 := { stood := { row := topHandlesUptoRow, standIns := [], harness := (true, "5d874e2b8e72c2a99403e3e506f236953b00c8573004f1f580a65f92b516d6db"), looks := true }, kinds := [], alts := [], laidByText := true, laidKinds := [.data, .data], laidTests := true, laidLooks := .later }
def TopHandlesUptoCardSaid : Prop := Claim7.holds Tryz.pinned (.plain (OpenSpec.upto topHandlesSpec)) topHandlesUptoCard

/-- THE SECOND FORM's CARD OF 'berthshifttop.TopEpochs'. -/
def topEpochsUptoCard : Claim7 := { stood := { row := topEpochsUptoRow, standIns := [], harness := (true, "5d874e2b8e72c2a99403e3e506f236953b00c8573004f1f580a65f92b516d6db"), looks := true }, kinds := [], alts := [], laidByText := true, laidKinds := [.data, .data], laidTests := true, laidLooks := .later }
def TopEpochsUptoCardSaid : Prop := Claim7.holds Tryz.pinned (.plain (OpenSpec.upto topEpochsSpec)) topEpochsUptoCard

/-- THE SECOND FORM's CARD OF 'berthshifttop.TopSealed'. -/
def topSealedUptoCard : Claim7 := { stood := { row := topSealedUptoRow, standIns := [], harness := (true, "5d874e2b8e72c2a99403e3e506f236953b00c8573004f1f580a65f92b516d6db"), looks := true }, kinds := [], alts := [], laidByText := true, laidKinds := [.data, .data], laidTests := true, laidLooks := .later }
def TopSealedUptoCardSaid : Prop := Claim7.holds Tryz.pinned (.plain (OpenSpec.upto topSealedSpec)) topSealedUptoCard

/-- THE SECOND FORM's CARD OF 'berthshifttop.TopAsked'. -/
def topAskedUptoCard : Claim7 := { stood := { row := topAskedUptoRow, standIns := [], harness := (true, "5d874e2b8e72c2a99403e3e506f236953b00c8573004f1f580a65f92b516d6db"), looks := true }, kinds := [], alts := [], laidByText := true, laidKinds := [.data, .data], laidTests := true, laidLooks := .later }
def TopAskedUptoCardSaid : Prop := Claim7.holds Tryz.pinned (.plain (OpenSpec.upto topAskedSpec)) topAskedUptoCard

/-- THE SECOND FORM's CARD OF 'berthshifttop.TopPrefix'. -/
def topPrefixUptoCard : Claim7 := { stood := { row := topPrefixUptoRow, standIns := [], harness := (true, "5d874e2b8e72c2a99403e3e506f236953b00c8573004f1f580a65f92b516d6db"), looks := true }, kinds := [], alts := [], laidByText := true, laidKinds := [.data, .data], laidTests := true, laidLooks := .later }
def TopPrefixUptoCardSaid : Prop := Claim7.holds Tryz.pinned (.plain (OpenSpec.upto topPrefixSpec)) topPrefixUptoCard

/-- THE SECOND FORM's CARD OF 'berthshifttop.TopWhole'. -/
def topWholeUptoCard : Claim7 := { stood := { row := topWholeUptoRow, standIns := [], harness := (true, "5d874e2b8e72c2a99403e3e506f236953b00c8573004f1f580a65f92b516d6db"), looks := true }, kinds := [], alts := [], laidByText := true, laidKinds := [.data, .data], laidTests := true, laidLooks := .later }
def TopWholeUptoCardSaid : Prop := Claim7.holds Tryz.pinned (.plain (OpenSpec.upto topWholeSpec)) topWholeUptoCard

/-- THE SECOND FORM's CARD OF 'berthshifttop.TopSteps'. -/
def topStepsUptoCard : Claim7 := { stood := { row := topStepsUptoRow, standIns := [], harness := (true, "5d874e2b8e72c2a99403e3e506f236953b00c8573004f1f580a65f92b516d6db"), looks := true }, kinds := [], alts := [], laidByText := true, laidKinds := [.data, .data], laidTests := true, laidLooks := .later }
def TopStepsUptoCardSaid : Prop := Claim7.holds Tryz.pinned (.plain (OpenSpec.upto topStepsSpec)) topStepsUptoCard

/-- THE SECOND FORM's CARD OF 'berthshifttop.TopUnsynced'. -/
def topUnsyncedUptoCard : Claim7 := { stood := { row := topUnsyncedUptoRow, standIns := [], harness := (true, "5d874e2b8e72c2a99403e3e506f236953b00c8573004f1f580a65f92b516d6db"), looks := true }, kinds := [], alts := [], laidByText := true, laidKinds := [.data, .data], laidTests := true, laidLooks := .later }
def TopUnsyncedUptoCardSaid : Prop := Claim7.holds Tryz.pinned (.plain (OpenSpec.upto topUnsyncedSpec)) topUnsyncedUptoCard

/-- THE SECOND FORM's CARD OF 'berthshifttop.TopAnswers'. -/
def topAnswersUptoCard : Claim7 := { stood := { row := topAnswersUptoRow, standIns := [], harness := (true, "5d874e2b8e72c2a99403e3e506f236953b00c8573004f1f580a65f92b516d6db"), looks := true }, kinds := [], alts := [], laidByText := true, laidKinds := [.data, .data], laidTests := true, laidLooks := .later }
def TopAnswersUptoCardSaid : Prop := Claim7.holds Tryz.pinned (.plain (OpenSpec.upto topAnswersSpec)) topAnswersUptoCard

/-- THE SECOND FORM's CARD OF 'berthshifttop.TopPlan'. -/
def topPlanUptoCard : Claim7 := { stood := { row := topPlanUptoRow, standIns := [], harness := (true, "5d874e2b8e72c2a99403e3e506f236953b00c8573004f1f580a65f92b516d6db"), looks := true }, kinds := [], alts := [], laidByText := true, laidKinds := [.data, .data], laidTests := true, laidLooks := .later }
def TopPlanUptoCardSaid : Prop := Claim7.holds Tryz.pinned (.plain (OpenSpec.upto topPlanSpec)) topPlanUptoCard
end Rows
end Go.Proofs.YtbffmhpkenoogaaGreatDoor

/-
  DERIVED. GIVEN WITH THE SEED: THE CARDS: each row of YthhnonpehllibaaGreatDoorRows.lean that lists a variable, with what it lists TIED to the program's text (the seventh form; the later family's looks); each row that meets fmt, with fmt's text TOLD by the authors' own Lean function (tested against real Go, not proved from fmt's source: count such statements apart). THE CARD IS WHAT COUNTS. Prove the row's statement (the work); the ties are given (YthhnonpehllibaaGreatDoorTie.lean); close each card by the builder's one call (the guide's Derived/Test/ToyasCard.lean, 'card_holds'). Laid BY PROGRAM, IN A SANDBOX (cutbox-door.mjs). By AI agents, Wed Nov 11 2026. No macro, syntax, notation, axiom, sorry.
-/
import Derived.Test.YthhnonpehllibaaGreatDoorRows
import GoSem.ClaimSeven
namespace Go.Proofs.YthhnonpehllibaaGreatDoor
namespace Rows

/-- THE TIED CARD OF 'berthshifttop.TopAuthority'. -/
def topAuthorityCard : Claim7 := { stood := { row := topAuthorityRow, standIns := [], harness := (true, "7a44caa82cd64af4f9ae81448aa3717c86f948a1001f2fe238b98c5763730843"), looks := true }, kinds := [], alts := [], laidByText := true, laidKinds := [.data, .data], laidTests := true, laidLooks := .later }
def TopAuthorityCardSaid : Prop := Claim7.holds Tryz.pinned (.plain (OpenSpec.ofChange topAuthoritySpec)) topAuthorityCard

/-- THE TIED CARD OF 'berthshifttop.TopSealed'. -/
def topSealedCard : Claim7 := { stood := { row := topSealedRow, standIns := [], harness := (true, "7a44caa82cd64af4f9ae81448aa3717c86f948a1001f2fe238b98c5763730843"), looks := true }, kinds := [], alts := [], laidByText := true, laidKinds := [.data, .data], laidTests := true, laidLooks := .later }
def TopSealedCardSaid : Prop := Claim7.holds Tryz.pinned (.plain (OpenSpec.ofChange topSealedSpec)) topSealedCard

/-- THE TIED CARD OF 'berthshifttop.TopPrefix'. -/
def topPrefixCard : Claim7 := { stood := { row := topPrefixRow, standIns := [], harness := (true, "7a44caa82cd64af4f9ae81448aa3717c86f948a1001f2fe238b98c5763730843"), looks := true }, kinds := [], alts := [], laidByText := true, laidKinds := [.data, .data], laidTests := true, laidLooks := .later }
def TopPrefixCardSaid : Prop := Claim7.holds Tryz.pinned (.plain (OpenSpec.ofChange topPrefixSpec)) topPrefixCard

/-- THE TIED CARD OF 'berthshifttop.TopWhole'. -/
def topWholeCard : Claim7 := { stood := { row := topWholeRow, standIns := [], harness := (true, "7a44caa82cd64af4f9ae81448aa3717c86f948a1001f2fe238b98c5763730843"), looks := true }, kinds := [], alts := [], laidByText := true, laidKinds := [.data, .data], laidTests := true, laidLooks := .later }
def TopWholeCardSaid : Prop := Claim7.holds Tryz.pinned (.plain (OpenSpec.ofChange topWholeSpec)) topWholeCard

/-- THE SECOND FORM's CARD OF 'berthshifttop.TopAuthority'. -/
def topAuthorityUptoCard : Claim7 := { stood := { row := topAuthorityUptoRow, standIns := [], harness := (true, "7a44caa82cd64af4f9ae81448aa3717c86f948a1001f2fe238b98c5763730843"), looks := true }, kinds := [], alts := [], laidByText := true, laidKinds := [.data, .data], laidTests := true, laidLooks := .later }
def TopAuthorityUptoCardSaid : Prop := Claim7.holds Tryz.pinned (.plain (OpenSpec.upto topAuthoritySpec)) topAuthorityUptoCard

/-- THE SECOND FORM's CARD OF 'berthshifttop.TopSealed'. -/
def topSealedUptoCard : Claim7 := { stood := { row := topSealedUptoRow, standIns := [], harness := (true, "7a44caa82cd64af4f9ae81448aa3717c86f948a1001f2fe238b98c5763730843"), looks := true }, kinds := [], alts := [], laidByText := true, laidKinds := [.data, .data], laidTests := true, laidLooks := .later }
def TopSealedUptoCardSaid : Prop := Claim7.holds Tryz.pinned (.plain (OpenSpec.upto topSealedSpec)) topSealedUptoCard

/-- THE SECOND FORM's CARD OF 'berthshifttop.TopPrefix'. -/
def topPrefixUptoCard : Claim7 := { stood := { row := topPrefixUptoRow, standIns := [], harness := (true, "7a44caa82cd64af4f9ae81448aa3717c86f948a1001f2fe238b98c5763730843"), looks := true }, kinds := [], alts := [], laidByText := true, laidKinds := [.data, .data], laidTests := true, laidLooks := .later }
def TopPrefixUptoCardSaid : Prop := Claim7.holds Tryz.pinned (.plain (OpenSpec.upto topPrefixSpec)) topPrefixUptoCard

/-- THE SECOND FORM's CARD OF 'berthshifttop.TopWhole'. -/
def topWholeUptoCard : Claim7 := { stood := { row := topWholeUptoRow, standIns := [], harness := (true, "7a44caa82cd64af4f9ae81448aa3717c86f948a1001f2fe238b98c5763730843"), looks := true }, kinds := [], alts := [], laidByText := true, laidKinds := [.data, .data], laidTests := true, laidLooks := .later }
def TopWholeUptoCardSaid : Prop := Claim7.holds Tryz.pinned (.plain (OpenSpec.upto topWholeSpec)) topWholeUptoCard
end Rows
end Go.Proofs.YthhnonpehllibaaGreatDoor

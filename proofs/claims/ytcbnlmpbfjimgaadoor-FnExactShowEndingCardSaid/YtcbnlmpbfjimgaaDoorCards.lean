/-
  DERIVED. GIVEN WITH THE SEED: THE CARDS: each row of YtcbnlmpbfjimgaaDoorRows.lean that lists a variable, with what it lists TIED to the program's text (the seventh form; the later family's looks); each row that meets fmt, with fmt's text TOLD by the authors' own Lean function (tested against real Go, not proved from fmt's source: count such statements apart). THE CARD IS WHAT COUNTS. Prove the row's statement (the work); the ties are given (YtcbnlmpbfjimgaaDoorTie.lean); close each card by the builder's one call (the guide's Derived/Test/ToyasCard.lean, 'card_holds'). Laid BY PROGRAM, IN A SANDBOX (cutbox-door.mjs). By AI agents, Wed Nov 11 2026. No macro, syntax, notation, axiom, sorry.
-/
import Derived.Test.YtcbnlmpbfjimgaaDoorRows
import GoSem.ClaimSeven
namespace Go.Proofs.YtcbnlmpbfjimgaaDoor
namespace Rows

/-- THE TIED CARD OF 'laws.FnExactShowEnding'. -/
def fnExactShowEndingCard : Claim7 := { stood := { row := fnExactShowEndingRow, standIns := [], harness := (true, "1f04fe364c91017decd7a51ebc1533391cacfdb4efa83bbdff608e8eca77370a"), looks := false }, kinds := [], alts := [], laidByText := true, laidKinds := [.data, .data, .data], laidTests := true, laidLooks := .later }
def FnExactShowEndingCardSaid : Prop := Claim7.holds Tryd.pinned (.plain (OpenSpec.ofChange fnExactShowEndingSpec)) fnExactShowEndingCard

/-- THE TIED CARD OF 'laws.FnExactShowWord'. -/
def fnExactShowWordCard : Claim7 := { stood := { row := fnExactShowWordRow, standIns := [], harness := (true, "1f04fe364c91017decd7a51ebc1533391cacfdb4efa83bbdff608e8eca77370a"), looks := false }, kinds := [], alts := [], laidByText := true, laidKinds := [.data, .data, .data, .data, .pinned], laidTests := true, laidLooks := .later }
def FnExactShowWordCardSaid : Prop := Claim7.holds Tryd.pinned (.plain (OpenSpec.ofChange fnExactShowWordSpec)) fnExactShowWordCard

/-- THE TIED CARD OF 'laws.FnExactThreaded'. -/
def fnExactThreadedCard : Claim7 := { stood := { row := fnExactThreadedRow, standIns := [], harness := (true, "1f04fe364c91017decd7a51ebc1533391cacfdb4efa83bbdff608e8eca77370a"), looks := false }, kinds := [], alts := [], laidByText := true, laidKinds := [.data, .pinned], laidTests := true, laidLooks := .later }
def FnExactThreadedCardSaid : Prop := Claim7.holds Tryd.pinned (.plain (OpenSpec.ofChange fnExactThreadedSpec)) fnExactThreadedCard

/-- THE TIED CARD OF 'laws.FnExactSameBlocks'. -/
def fnExactSameBlocksCard : Claim7 := { stood := { row := fnExactSameBlocksRow, standIns := [], harness := (true, "1f04fe364c91017decd7a51ebc1533391cacfdb4efa83bbdff608e8eca77370a"), looks := false }, kinds := [], alts := [], laidByText := true, laidKinds := [.data, .pinned], laidTests := true, laidLooks := .later }
def FnExactSameBlocksCardSaid : Prop := Claim7.holds Tryd.pinned (.plain (OpenSpec.ofChange fnExactSameBlocksSpec)) fnExactSameBlocksCard

/-- THE TIED CARD OF 'laws.FnExactListing'. -/
def fnExactListingCard : Claim7 := { stood := { row := fnExactListingRow, standIns := [], harness := (true, "1f04fe364c91017decd7a51ebc1533391cacfdb4efa83bbdff608e8eca77370a"), looks := false }, kinds := [], alts := [], laidByText := true, laidKinds := [.data, .data, .data, .data, .pinned], laidTests := true, laidLooks := .later }
def FnExactListingCardSaid : Prop := Claim7.holds Tryd.pinned (.plain (OpenSpec.ofChange fnExactListingSpec)) fnExactListingCard

/-- THE SECOND FORM's CARD OF 'laws.FnExactShowEnding'. -/
def fnExactShowEndingUptoCard : Claim7 := { stood := { row := fnExactShowEndingUptoRow, standIns := [], harness := (true, "1f04fe364c91017decd7a51ebc1533391cacfdb4efa83bbdff608e8eca77370a"), looks := false }, kinds := [], alts := [], laidByText := true, laidKinds := [.data, .data, .data], laidTests := true, laidLooks := .later }
def FnExactShowEndingUptoCardSaid : Prop := Claim7.holds Tryd.pinned (.plain (OpenSpec.upto fnExactShowEndingSpec)) fnExactShowEndingUptoCard

/-- THE SECOND FORM's CARD OF 'laws.FnExactShowWord'. -/
def fnExactShowWordUptoCard : Claim7 := { stood := { row := fnExactShowWordUptoRow, standIns := [], harness := (true, "1f04fe364c91017decd7a51ebc1533391cacfdb4efa83bbdff608e8eca77370a"), looks := false }, kinds := [], alts := [], laidByText := true, laidKinds := [.data, .data, .data, .data, .pinned], laidTests := true, laidLooks := .later }
def FnExactShowWordUptoCardSaid : Prop := Claim7.holds Tryd.pinned (.plain (OpenSpec.upto fnExactShowWordSpec)) fnExactShowWordUptoCard

/-- THE SECOND FORM's CARD OF 'laws.FnExactThreaded'. -/
def fnExactThreadedUptoCard : Claim7 := { stood := { row := fnExactThreadedUptoRow, standIns := [], harness := (true, "1f04fe364c91017decd7a51ebc1533391cacfdb4efa83bbdff608e8eca77370a"), looks := false }, kinds := [], alts := [], laidByText := true, laidKinds := [.data, .pinned], laidTests := true, laidLooks := .later }
def FnExactThreadedUptoCardSaid : Prop := Claim7.holds Tryd.pinned (.plain (OpenSpec.upto fnExactThreadedSpec)) fnExactThreadedUptoCard

/-- THE SECOND FORM's CARD OF 'laws.FnExactSameBlocks'. -/
def fnExactSameBlocksUptoCard : Claim7 := { stood := { row := fnExactSameBlocksUptoRow, standIns := [], harness := (true, "1f04fe364c91017decd7a51ebc1533391cacfdb4efa83bbdff608e8eca77370a"), looks := false }, kinds := [], alts := [], laidByText := true, laidKinds := [.data, .pinned], laidTests := true, laidLooks := .later }
def FnExactSameBlocksUptoCardSaid : Prop := Claim7.holds Tryd.pinned (.plain (OpenSpec.upto fnExactSameBlocksSpec)) fnExactSameBlocksUptoCard

/-- THE SECOND FORM's CARD OF 'laws.FnExactListing'. -/
def fnExactListingUptoCard : Claim7 := { stood := { row := fnExactListingUptoRow, standIns := [], harness := (true, "1f04fe364c91017decd7a51ebc1533391cacfdb4efa83bbdff608e8eca77370a"), looks := false }, kinds := [], alts := [], laidByText := true, laidKinds := [.data, .data, .data, .data, .pinned], laidTests := true, laidLooks := .later }
def FnExactListingUptoCardSaid : Prop := Claim7.holds Tryd.pinned (.plain (OpenSpec.upto fnExactListingSpec)) fnExactListingUptoCard
end Rows
end Go.Proofs.YtcbnlmpbfjimgaaDoor

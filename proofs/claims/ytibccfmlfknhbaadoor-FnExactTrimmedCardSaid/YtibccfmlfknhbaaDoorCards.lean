/-
  DERIVED. GIVEN WITH THE SEED: THE CARDS: each row of YtibccfmlfknhbaaDoorRows.lean that lists a variable, with what it lists TIED to the program's text (the seventh form; the later family's looks); each row that meets fmt, with fmt's text TOLD by the authors' own Lean function (tested against real Go, not proved from fmt's source: count such statements apart). THE CARD IS WHAT COUNTS. Prove the row's statement (the work); the ties are given (YtibccfmlfknhbaaDoorTie.lean); close each card by the builder's one call (the guide's Derived/Test/ToyasCard.lean, 'card_holds'). Laid BY PROGRAM, IN A SANDBOX (cutbox-door.mjs). By AI agents, Wed Nov 11 2026. No macro, syntax, notation, axiom, sorry.
-/
import Derived.Test.YtibccfmlfknhbaaDoorRows
import GoSem.ClaimSeven
namespace Go.Proofs.YtibccfmlfknhbaaDoor
namespace Rows

/-- THE TIED CARD OF 'laws.FnExactShowWord'. -/
def fnExactShowWordCard : Claim7 := { stood := { row := fnExactShowWordRow, standIns := [], harness := (true, "b3b3cd8c9deea0343a611874c9d3ee40f317e0a8f54b36841e4dd7b4f666d193"), looks := false }, kinds := [], alts := [], laidByText := true, laidKinds := [.data, .data, .data, .data, .pinned], laidTests := true, laidLooks := .later }
def FnExactShowWordCardSaid : Prop := Claim7.holds Tryd.pinned (.plain (OpenSpec.ofChange fnExactShowWordSpec)) fnExactShowWordCard

/-- THE TIED CARD OF 'laws.FnExactListing'. -/
def fnExactListingCard : Claim7 := { stood := { row := fnExactListingRow, standIns := [], harness := (true, "b3b3cd8c9deea0343a611874c9d3ee40f317e0a8f54b36841e4dd7b4f666d193"), looks := false }, kinds := [], alts := [], laidByText := true, laidKinds := [.data, .data, .data, .data, .pinned], laidTests := true, laidLooks := .later }
def FnExactListingCardSaid : Prop := Claim7.holds Tryd.pinned (.plain (OpenSpec.ofChange fnExactListingSpec)) fnExactListingCard

/-- THE TIED CARD OF 'laws.FnExactThreaded'. -/
def fnExactThreadedCard : Claim7 := { stood := { row := fnExactThreadedRow, standIns := [], harness := (true, "b3b3cd8c9deea0343a611874c9d3ee40f317e0a8f54b36841e4dd7b4f666d193"), looks := false }, kinds := [], alts := [], laidByText := true, laidKinds := [.data, .pinned], laidTests := true, laidLooks := .later }
def FnExactThreadedCardSaid : Prop := Claim7.holds Tryd.pinned (.plain (OpenSpec.ofChange fnExactThreadedSpec)) fnExactThreadedCard

/-- THE TIED CARD OF 'laws.FnExactSameBlocks'. -/
def fnExactSameBlocksCard : Claim7 := { stood := { row := fnExactSameBlocksRow, standIns := [], harness := (true, "b3b3cd8c9deea0343a611874c9d3ee40f317e0a8f54b36841e4dd7b4f666d193"), looks := false }, kinds := [], alts := [], laidByText := true, laidKinds := [.data, .pinned], laidTests := true, laidLooks := .later }
def FnExactSameBlocksCardSaid : Prop := Claim7.holds Tryd.pinned (.plain (OpenSpec.ofChange fnExactSameBlocksSpec)) fnExactSameBlocksCard

/-- THE TIED CARD OF 'laws.FnExactSameFn'. -/
def fnExactSameFnCard : Claim7 := { stood := { row := fnExactSameFnRow, standIns := [], harness := (true, "b3b3cd8c9deea0343a611874c9d3ee40f317e0a8f54b36841e4dd7b4f666d193"), looks := false }, kinds := [], alts := [], laidByText := true, laidKinds := [.data, .pinned], laidTests := true, laidLooks := .later }
def FnExactSameFnCardSaid : Prop := Claim7.holds Tryd.pinned (.plain (OpenSpec.ofChange fnExactSameFnSpec)) fnExactSameFnCard

/-- THE TIED CARD OF 'laws.FnExactTrimmed'. -/
def fnExactTrimmedCard : Claim7 := { stood := { row := fnExactTrimmedRow, standIns := [], harness := (true, "b3b3cd8c9deea0343a611874c9d3ee40f317e0a8f54b36841e4dd7b4f666d193"), looks := false }, kinds := [], alts := [], laidByText := true, laidKinds := [.data, .pinned], laidTests := true, laidLooks := .later }
def FnExactTrimmedCardSaid : Prop := Claim7.holds Tryd.pinned (.plain (OpenSpec.ofChange fnExactTrimmedSpec)) fnExactTrimmedCard

/-- THE SECOND FORM's CARD OF 'laws.FnExactShowWord'. -/
def fnExactShowWordUptoCard : Claim7 := { stood := { row := fnExactShowWordUptoRow, standIns := [], harness := (true, "b3b3cd8c9deea0343a611874c9d3ee40f317e0a8f54b36841e4dd7b4f666d193"), looks := false }, kinds := [], alts := [], laidByText := true, laidKinds := [.data, .data, .data, .data, .pinned], laidTests := true, laidLooks := .later }
def FnExactShowWordUptoCardSaid : Prop := Claim7.holds Tryd.pinned (.plain (OpenSpec.upto fnExactShowWordSpec)) fnExactShowWordUptoCard

/-- THE SECOND FORM's CARD OF 'laws.FnExactListing'. -/
def fnExactListingUptoCard : Claim7 := { stood := { row := fnExactListingUptoRow, standIns := [], harness := (true, "b3b3cd8c9deea0343a611874c9d3ee40f317e0a8f54b36841e4dd7b4f666d193"), looks := false }, kinds := [], alts := [], laidByText := true, laidKinds := [.data, .data, .data, .data, .pinned], laidTests := true, laidLooks := .later }
def FnExactListingUptoCardSaid : Prop := Claim7.holds Tryd.pinned (.plain (OpenSpec.upto fnExactListingSpec)) fnExactListingUptoCard

/-- THE SECOND FORM's CARD OF 'laws.FnExactThreaded'. -/
def fnExactThreadedUptoCard : Claim7 := { stood := { row := fnExactThreadedUptoRow, standIns := [], harness := (true, "b3b3cd8c9deea0343a611874c9d3ee40f317e0a8f54b36841e4dd7b4f666d193"), looks := false }, kinds := [], alts := [], laidByText := true, laidKinds := [.data, .pinned], laidTests := true, laidLooks := .later }
def FnExactThreadedUptoCardSaid : Prop := Claim7.holds Tryd.pinned (.plain (OpenSpec.upto fnExactThreadedSpec)) fnExactThreadedUptoCard

/-- THE SECOND FORM's CARD OF 'laws.FnExactSameBlocks'. -/
def fnExactSameBlocksUptoCard : Claim7 := { stood := { row := fnExactSameBlocksUptoRow, standIns := [], harness := (true, "b3b3cd8c9deea0343a611874c9d3ee40f317e0a8f54b36841e4dd7b4f666d193"), looks := false }, kinds := [], alts := [], laidByText := true, laidKinds := [.data, .pinned], laidTests := true, laidLooks := .later }
def FnExactSameBlocksUptoCardSaid : Prop := Claim7.holds Tryd.pinned (.plain (OpenSpec.upto fnExactSameBlocksSpec)) fnExactSameBlocksUptoCard

/-- THE SECOND FORM's CARD OF 'laws.FnExactSameFn'. -/
def fnExactSameFnUptoCard : Claim7 := { stood := { row := fnExactSameFnUptoRow, standIns := [], harness := (true, "b3b3cd8c9deea0343a611874c9d3ee40f317e0a8f54b36841e4dd7b4f666d193"), looks := false }, kinds := [], alts := [], laidByText := true, laidKinds := [.data, .pinned], laidTests := true, laidLooks := .later }
def FnExactSameFnUptoCardSaid : Prop := Claim7.holds Tryd.pinned (.plain (OpenSpec.upto fnExactSameFnSpec)) fnExactSameFnUptoCard

/-- THE SECOND FORM's CARD OF 'laws.FnExactTrimmed'. -/
def fnExactTrimmedUptoCard : Claim7 := { stood := { row := fnExactTrimmedUptoRow, standIns := [], harness := (true, "b3b3cd8c9deea0343a611874c9d3ee40f317e0a8f54b36841e4dd7b4f666d193"), looks := false }, kinds := [], alts := [], laidByText := true, laidKinds := [.data, .pinned], laidTests := true, laidLooks := .later }
def FnExactTrimmedUptoCardSaid : Prop := Claim7.holds Tryd.pinned (.plain (OpenSpec.upto fnExactTrimmedSpec)) fnExactTrimmedUptoCard
end Rows
end Go.Proofs.YtibccfmlfknhbaaDoor

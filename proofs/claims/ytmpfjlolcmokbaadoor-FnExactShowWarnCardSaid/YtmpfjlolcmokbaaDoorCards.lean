/-
  DERIVED. GIVEN WITH THE SEED: THE CARDS: each row of YtmpfjlolcmokbaaDoorRows.lean that lists a variable, with what it lists TIED to the program's text (the seventh form; the later family's looks); each row that meets fmt, with fmt's text TOLD by the authors' own Lean function (tested against real Go, not proved from fmt's source: count such statements apart). THE CARD IS WHAT COUNTS. Prove the row's statement (the work); the ties are given (YtmpfjlolcmokbaaDoorTie.lean); close each card by the builder's one call (the guide's Derived/Test/ToyasCard.lean, 'card_holds'). Laid BY PROGRAM, IN A SANDBOX (cutbox-door.mjs). By AI agents, Wed Nov 11 2026. No macro, syntax, notation, axiom, sorry.
-/
import Derived.Test.YtmpfjlolcmokbaaDoorRows
import GoSem.ClaimSeven
namespace Go.Proofs.YtmpfjlolcmokbaaDoor
namespace Rows

/-- THE TIED CARD OF 'laws.FnExactShowWarn'. -/
def fnExactShowWarnCard : Claim7 := { stood := { row := fnExactShowWarnRow, standIns := [], harness := (true, "51343b062d1cd31d3078b354fc2d139d261b52feed024c80ea7265551c6de50b"), looks := false }, kinds := [], alts := [], laidByText := true, laidKinds := [.data, .data, .data], laidTests := true, laidLooks := .later }
def FnExactShowWarnCardSaid : Prop := Claim7.holds Tryd.pinned (.plain (OpenSpec.ofChange fnExactShowWarnSpec)) fnExactShowWarnCard

/-- THE SECOND FORM's CARD OF 'laws.FnExactShowWarn'. -/
def fnExactShowWarnUptoCard : Claim7 := { stood := { row := fnExactShowWarnUptoRow, standIns := [], harness := (true, "51343b062d1cd31d3078b354fc2d139d261b52feed024c80ea7265551c6de50b"), looks := false }, kinds := [], alts := [], laidByText := true, laidKinds := [.data, .data, .data], laidTests := true, laidLooks := .later }
def FnExactShowWarnUptoCardSaid : Prop := Claim7.holds Tryd.pinned (.plain (OpenSpec.upto fnExactShowWarnSpec)) fnExactShowWarnUptoCard
end Rows
end Go.Proofs.YtmpfjlolcmokbaaDoor

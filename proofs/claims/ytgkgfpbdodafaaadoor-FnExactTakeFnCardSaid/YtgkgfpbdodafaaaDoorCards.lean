/-
  DERIVED. GIVEN WITH THE SEED: THE CARDS: each row of YtgkgfpbdodafaaaDoorRows.lean that lists a variable, with what it lists TIED to the program's text (the seventh form; the later family's looks); each row that meets fmt, with fmt's text TOLD by the authors' own Lean function (tested against real Go, not proved from fmt's source: count such statements apart). THE CARD IS WHAT COUNTS. Prove the row's statement (the work); the ties are given (YtgkgfpbdodafaaaDoorTie.lean); close each card by the builder's one call (the guide's Derived/Test/ToyasCard.lean, 'card_holds'). Laid BY PROGRAM, IN A SANDBOX (cutbox-door.mjs). By AI agents, Wed Nov 11 2026. No macro, syntax, notation, axiom, sorry.
-/
import Derived.Test.YtgkgfpbdodafaaaDoorRows
import GoSem.ClaimSeven
namespace Go.Proofs.YtgkgfpbdodafaaaDoor
namespace Rows

/-- THE TIED CARD OF 'laws.FnExactTakeFn'. -/
def fnExactTakeFnCard : Claim7 := { stood := { row := fnExactTakeFnRow, standIns := [], harness := (true, "d6e1732eb385665e6f037097a3e40afc6782b41d5d8ff7bedff35525a3a49fdb"), looks := false }, kinds := [], alts := [], laidByText := true, laidKinds := [.data, .pinned], laidTests := true, laidLooks := .later }
def FnExactTakeFnCardSaid : Prop := Claim7.holds Tryd.pinned (.plain (OpenSpec.ofChange fnExactTakeFnSpec)) fnExactTakeFnCard

/-- THE SECOND FORM's CARD OF 'laws.FnExactTakeFn'. -/
def fnExactTakeFnUptoCard : Claim7 := { stood := { row := fnExactTakeFnUptoRow, standIns := [], harness := (true, "d6e1732eb385665e6f037097a3e40afc6782b41d5d8ff7bedff35525a3a49fdb"), looks := false }, kinds := [], alts := [], laidByText := true, laidKinds := [.data, .pinned], laidTests := true, laidLooks := .later }
def FnExactTakeFnUptoCardSaid : Prop := Claim7.holds Tryd.pinned (.plain (OpenSpec.upto fnExactTakeFnSpec)) fnExactTakeFnUptoCard
end Rows
end Go.Proofs.YtgkgfpbdodafaaaDoor

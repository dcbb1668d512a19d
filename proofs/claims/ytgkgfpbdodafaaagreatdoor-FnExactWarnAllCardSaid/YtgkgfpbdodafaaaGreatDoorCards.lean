/-
  DERIVED. GIVEN WITH THE SEED: THE CARDS: each row of YtgkgfpbdodafaaaGreatDoorRows.lean that lists a variable, with what it lists TIED to the program's text (the seventh form; the later family's looks); each row that meets fmt, with fmt's text TOLD by the authors' own Lean function (tested against real Go, not proved from fmt's source: count such statements apart). THE CARD IS WHAT COUNTS. Prove the row's statement (the work); the ties are given (YtgkgfpbdodafaaaGreatDoorTie.lean); close each card by the builder's one call (the guide's Derived/Test/ToyasCard.lean, 'card_holds'). Laid BY PROGRAM, IN A SANDBOX (cutbox-door.mjs). By AI agents, Wed Nov 11 2026. No macro, syntax, notation, axiom, sorry.
-/
import Derived.Test.YtgkgfpbdodafaaaGreatDoorRows
import GoSem.ClaimSeven
namespace Go.Proofs.YtgkgfpbdodafaaaGreatDoor
namespace Rows

/-- THE TIED CARD OF 'laws.FnExactUnusedVars'. -/
def fnExactUnusedVarsCard : Claim7 := { stood := { row := fnExactUnusedVarsRow, standIns := [], harness := (true, "ead415c9b31c834d709513c57346e6ce1f22d782d44f565d96423ed6448e59b2"), looks := false }, kinds := [], alts := [], laidByText := true, laidKinds := [.data, .pinned], laidTests := true, laidLooks := .later }
def FnExactUnusedVarsCardSaid : Prop := Claim7.holds Tryz.pinned (.plain (OpenSpec.ofChange fnExactUnusedVarsSpec)) fnExactUnusedVarsCard

/-- THE TIED CARD OF 'laws.FnExactWarnFn'. -/
def fnExactWarnFnCard : Claim7 := { stood := { row := fnExactWarnFnRow, standIns := [], harness := (true, "ead415c9b31c834d709513c57346e6ce1f22d782d44f565d96423ed6448e59b2"), looks := false }, kinds := [], alts := [], laidByText := true, laidKinds := [.data, .data, .data, .data, .pinned], laidTests := true, laidLooks := .later }
def FnExactWarnFnCardSaid : Prop := Claim7.holds Tryz.pinned (.plain (OpenSpec.ofChange fnExactWarnFnSpec)) fnExactWarnFnCard

/-- THE TIED CARD OF 'laws.FnExactWarnAll'. -/
def fnExactWarnAllCard : Claim7 := { stood := { row := fnExactWarnAllRow, standIns := [], harness := (true, "ead415c9b31c834d709513c57346e6ce1f22d782d44f565d96423ed6448e59b2"), looks := false }, kinds := [], alts := [], laidByText := true, laidKinds := [.data, .data, .data, .data, .pinned], laidTests := true, laidLooks := .later }
def FnExactWarnAllCardSaid : Prop := Claim7.holds Tryz.pinned (.plain (OpenSpec.ofChange fnExactWarnAllSpec)) fnExactWarnAllCard

/-- THE SECOND FORM's CARD OF 'laws.FnExactUnusedVars'. -/
def fnExactUnusedVarsUptoCard : Claim7 := { stood := { row := fnExactUnusedVarsUptoRow, standIns := [], harness := (true, "ead415c9b31c834d709513c57346e6ce1f22d782d44f565d96423ed6448e59b2"), looks := false }, kinds := [], alts := [], laidByText := true, laidKinds := [.data, .pinned], laidTests := true, laidLooks := .later }
def FnExactUnusedVarsUptoCardSaid : Prop := Claim7.holds Tryz.pinned (.plain (OpenSpec.upto fnExactUnusedVarsSpec)) fnExactUnusedVarsUptoCard

/-- THE SECOND FORM's CARD OF 'laws.FnExactWarnFn'. -/
def fnExactWarnFnUptoCard : Claim7 := { stood := { row := fnExactWarnFnUptoRow, standIns := [], harness := (true, "ead415c9b31c834d709513c57346e6ce1f22d782d44f565d96423ed6448e59b2"), looks := false }, kinds := [], alts := [], laidByText := true, laidKinds := [.data, .data, .data, .data, .pinned], laidTests := true, laidLooks := .later }
def FnExactWarnFnUptoCardSaid : Prop := Claim7.holds Tryz.pinned (.plain (OpenSpec.upto fnExactWarnFnSpec)) fnExactWarnFnUptoCard

/-- THE SECOND FORM's CARD OF 'laws.FnExactWarnAll'. -/
def fnExactWarnAllUptoCard : Claim7 := { stood := { row := fnExactWarnAllUptoRow, standIns := [], harness := (true, "ead415c9b31c834d709513c57346e6ce1f22d782d44f565d96423ed6448e59b2"), looks := false }, kinds := [], alts := [], laidByText := true, laidKinds := [.data, .data, .data, .data, .pinned], laidTests := true, laidLooks := .later }
def FnExactWarnAllUptoCardSaid : Prop := Claim7.holds Tryz.pinned (.plain (OpenSpec.upto fnExactWarnAllSpec)) fnExactWarnAllUptoCard
end Rows
end Go.Proofs.YtgkgfpbdodafaaaGreatDoor

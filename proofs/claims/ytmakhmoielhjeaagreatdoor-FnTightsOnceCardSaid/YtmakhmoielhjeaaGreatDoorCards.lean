/-
  DERIVED. GIVEN WITH THE SEED: THE CARDS: each row of YtmakhmoielhjeaaGreatDoorRows.lean that lists a variable, with what it lists TIED to the program's text (the seventh form; the later family's looks); each row that meets fmt, with fmt's text TOLD by the authors' own Lean function (tested against real Go, not proved from fmt's source: count such statements apart). THE CARD IS WHAT COUNTS. Prove the row's statement (the work); the ties are given (YtmakhmoielhjeaaGreatDoorTie.lean); close each card by the builder's one call (the guide's Derived/Test/ToyasCard.lean, 'card_holds'). Laid BY PROGRAM, IN A SANDBOX (cutbox-door.mjs). By AI agents, Wed Nov 11 2026. No macro, syntax, notation, axiom, sorry.
-/
import Derived.Test.YtmakhmoielhjeaaGreatDoorRows
import GoSem.ClaimSeven
namespace Go.Proofs.YtmakhmoielhjeaaGreatDoor
namespace Rows

/-- THE TIED CARD OF 'laws.FnTightsOnce'. -/
def fnTightsOnceCard : Claim7 := { stood := { row := fnTightsOnceRow, standIns := [], harness := (true, "c2c5dba691bd597c8a6cf46056803d918571961eeddf076224ed15377ea07fe2"), looks := false }, kinds := [], alts := [], laidByText := true, laidKinds := [.data, .pinned], laidTests := true, laidLooks := .later }
def FnTightsOnceCardSaid : Prop := Claim7.holds Tryz.pinned (.plain (OpenSpec.ofChange fnTightsOnceSpec)) fnTightsOnceCard

/-- THE TIED CARD OF 'laws.FnReports'. -/
def fnReportsCard : Claim7 := { stood := { row := fnReportsRow, standIns := [], harness := (true, "c2c5dba691bd597c8a6cf46056803d918571961eeddf076224ed15377ea07fe2"), looks := false }, kinds := [], alts := [], laidByText := true, laidKinds := [.data, .data, .data, .data, .pinned], laidTests := true, laidLooks := .later }
def FnReportsCardSaid : Prop := Claim7.holds Tryz.pinned (.plain (OpenSpec.ofChange fnReportsSpec)) fnReportsCard

/-- THE TIED CARD OF 'laws.FnFlowsWays'. -/
def fnFlowsWaysCard : Claim7 := { stood := { row := fnFlowsWaysRow, standIns := [], harness := (true, "c2c5dba691bd597c8a6cf46056803d918571961eeddf076224ed15377ea07fe2"), looks := false }, kinds := [], alts := [], laidByText := true, laidKinds := [.data, .pinned], laidTests := true, laidLooks := .later }
def FnFlowsWaysCardSaid : Prop := Claim7.holds Tryz.pinned (.plain (OpenSpec.ofChange fnFlowsWaysSpec)) fnFlowsWaysCard

/-- THE TIED CARD OF 'laws.FnTightsTold'. -/
def fnTightsToldCard : Claim7 := { stood := { row := fnTightsToldRow, standIns := [], harness := (true, "c2c5dba691bd597c8a6cf46056803d918571961eeddf076224ed15377ea07fe2"), looks := false }, kinds := [], alts := [], laidByText := true, laidKinds := [.data, .pinned], laidTests := true, laidLooks := .later }
def FnTightsToldCardSaid : Prop := Claim7.holds Tryz.pinned (.plain (OpenSpec.ofChange fnTightsToldSpec)) fnTightsToldCard

/-- THE TIED CARD OF 'laws.FnFlowsTold'. -/
def fnFlowsToldCard : Claim7 := { stood := { row := fnFlowsToldRow, standIns := [], harness := (true, "c2c5dba691bd597c8a6cf46056803d918571961eeddf076224ed15377ea07fe2"), looks := false }, kinds := [], alts := [], laidByText := true, laidKinds := [.data, .pinned], laidTests := true, laidLooks := .later }
def FnFlowsToldCardSaid : Prop := Claim7.holds Tryz.pinned (.plain (OpenSpec.ofChange fnFlowsToldSpec)) fnFlowsToldCard

/-- THE TIED CARD OF 'laws.FnWarnsTold'. -/
def fnWarnsToldCard : Claim7 := { stood := { row := fnWarnsToldRow, standIns := [], harness := (true, "c2c5dba691bd597c8a6cf46056803d918571961eeddf076224ed15377ea07fe2"), looks := false }, kinds := [], alts := [], laidByText := true, laidKinds := [.data, .data, .data, .data, .pinned], laidTests := true, laidLooks := .later }
def FnWarnsToldCardSaid : Prop := Claim7.holds Tryz.pinned (.plain (OpenSpec.ofChange fnWarnsToldSpec)) fnWarnsToldCard

/-- THE SECOND FORM's CARD OF 'laws.FnTightsOnce'. -/
def fnTightsOnceUptoCard : Claim7 := { stood := { row := fnTightsOnceUptoRow, standIns := [], harness := (true, "c2c5dba691bd597c8a6cf46056803d918571961eeddf076224ed15377ea07fe2"), looks := false }, kinds := [], alts := [], laidByText := true, laidKinds := [.data, .pinned], laidTests := true, laidLooks := .later }
def FnTightsOnceUptoCardSaid : Prop := Claim7.holds Tryz.pinned (.plain (OpenSpec.upto fnTightsOnceSpec)) fnTightsOnceUptoCard

/-- THE SECOND FORM's CARD OF 'laws.FnReports'. -/
def fnReportsUptoCard : Claim7 := { stood := { row := fnReportsUptoRow, standIns := [], harness := (true, "c2c5dba691bd597c8a6cf46056803d918571961eeddf076224ed15377ea07fe2"), looks := false }, kinds := [], alts := [], laidByText := true, laidKinds := [.data, .data, .data, .data, .pinned], laidTests := true, laidLooks := .later }
def FnReportsUptoCardSaid : Prop := Claim7.holds Tryz.pinned (.plain (OpenSpec.upto fnReportsSpec)) fnReportsUptoCard

/-- THE SECOND FORM's CARD OF 'laws.FnFlowsWays'. -/
def fnFlowsWaysUptoCard : Claim7 := { stood := { row := fnFlowsWaysUptoRow, standIns := [], harness := (true, "c2c5dba691bd597c8a6cf46056803d918571961eeddf076224ed15377ea07fe2"), looks := false }, kinds := [], alts := [], laidByText := true, laidKinds := [.data, .pinned], laidTests := true, laidLooks := .later }
def FnFlowsWaysUptoCardSaid : Prop := Claim7.holds Tryz.pinned (.plain (OpenSpec.upto fnFlowsWaysSpec)) fnFlowsWaysUptoCard

/-- THE SECOND FORM's CARD OF 'laws.FnTightsTold'. -/
def fnTightsToldUptoCard : Claim7 := { stood := { row := fnTightsToldUptoRow, standIns := [], harness := (true, "c2c5dba691bd597c8a6cf46056803d918571961eeddf076224ed15377ea07fe2"), looks := false }, kinds := [], alts := [], laidByText := true, laidKinds := [.data, .pinned], laidTests := true, laidLooks := .later }
def FnTightsToldUptoCardSaid : Prop := Claim7.holds Tryz.pinned (.plain (OpenSpec.upto fnTightsToldSpec)) fnTightsToldUptoCard

/-- THE SECOND FORM's CARD OF 'laws.FnFlowsTold'. -/
def fnFlowsToldUptoCard : Claim7 := { stood := { row := fnFlowsToldUptoRow, standIns := [], harness := (true, "c2c5dba691bd597c8a6cf46056803d918571961eeddf076224ed15377ea07fe2"), looks := false }, kinds := [], alts := [], laidByText := true, laidKinds := [.data, .pinned], laidTests := true, laidLooks := .later }
def FnFlowsToldUptoCardSaid : Prop := Claim7.holds Tryz.pinned (.plain (OpenSpec.upto fnFlowsToldSpec)) fnFlowsToldUptoCard

/-- THE SECOND FORM's CARD OF 'laws.FnWarnsTold'. -/
def fnWarnsToldUptoCard : Claim7 := { stood := { row := fnWarnsToldUptoRow, standIns := [], harness := (true, "c2c5dba691bd597c8a6cf46056803d918571961eeddf076224ed15377ea07fe2"), looks := false }, kinds := [], alts := [], laidByText := true, laidKinds := [.data, .data, .data, .data, .pinned], laidTests := true, laidLooks := .later }
def FnWarnsToldUptoCardSaid : Prop := Claim7.holds Tryz.pinned (.plain (OpenSpec.upto fnWarnsToldSpec)) fnWarnsToldUptoCard
end Rows
end Go.Proofs.YtmakhmoielhjeaaGreatDoor

/-
  DERIVED. GIVEN WITH THE SEED: THE CARDS: each row of YtibccfmlfknhbabDoorRows.lean that lists a variable, with what it lists TIED to the program's text (the seventh form; the later family's looks); each row that meets fmt, with fmt's text TOLD by the authors' own Lean function (tested against real Go, not proved from fmt's source: count such statements apart). THE CARD IS WHAT COUNTS. Prove the row's statement (the work); the ties are given (YtibccfmlfknhbabDoorTie.lean); close each card by the builder's one call (the guide's Derived/Test/ToyasCard.lean, 'card_holds'). Laid BY PROGRAM, IN A SANDBOX (cutbox-door.mjs). By AI agents, Wed Nov 11 2026. No macro, syntax, notation, axiom, sorry.
-/
import Derived.Test.YtibccfmlfknhbabDoorRows
import GoSem.ClaimSeven
namespace Go.Proofs.YtibccfmlfknhbabDoor
namespace Rows

/-- THE TIED CARD OF 'laws.FnExactTightened'. -/
def fnExactTightenedCard : Claim7 := { stood := { row := fnExactTightenedRow, standIns := [], harness := (true, "ab511a6cd8408bd12044c4613e7c36798d7cc5af06627f6fc1a971f7b60dfdaf"), looks := false }, kinds := [], alts := [], laidByText := true, laidKinds := [.data, .pinned], laidTests := true, laidLooks := .later }
def FnExactTightenedCardSaid : Prop := Claim7.holds Tryd.pinned (.plain (OpenSpec.ofChange fnExactTightenedSpec)) fnExactTightenedCard

/-- THE TIED CARD OF 'laws.FnExactDiffFns'. -/
def fnExactDiffFnsCard : Claim7 := { stood := { row := fnExactDiffFnsRow, standIns := [], harness := (true, "ab511a6cd8408bd12044c4613e7c36798d7cc5af06627f6fc1a971f7b60dfdaf"), looks := false }, kinds := [], alts := [], laidByText := true, laidKinds := [.data, .pinned], laidTests := true, laidLooks := .later }
def FnExactDiffFnsCardSaid : Prop := Claim7.holds Tryd.pinned (.plain (OpenSpec.ofChange fnExactDiffFnsSpec)) fnExactDiffFnsCard

/-- THE TIED CARD OF 'laws.FnExactTightAll'. -/
def fnExactTightAllCard : Claim7 := { stood := { row := fnExactTightAllRow, standIns := [], harness := (true, "ab511a6cd8408bd12044c4613e7c36798d7cc5af06627f6fc1a971f7b60dfdaf"), looks := false }, kinds := [], alts := [], laidByText := true, laidKinds := [.data, .pinned], laidTests := true, laidLooks := .later }
def FnExactTightAllCardSaid : Prop := Claim7.holds Tryd.pinned (.plain (OpenSpec.ofChange fnExactTightAllSpec)) fnExactTightAllCard

/-- THE TIED CARD OF 'laws.FnExactDropFn'. -/
def fnExactDropFnCard : Claim7 := { stood := { row := fnExactDropFnRow, standIns := [], harness := (true, "ab511a6cd8408bd12044c4613e7c36798d7cc5af06627f6fc1a971f7b60dfdaf"), looks := false }, kinds := [], alts := [], laidByText := true, laidKinds := [.data, .pinned], laidTests := true, laidLooks := .later }
def FnExactDropFnCardSaid : Prop := Claim7.holds Tryd.pinned (.plain (OpenSpec.ofChange fnExactDropFnSpec)) fnExactDropFnCard

/-- THE SECOND FORM's CARD OF 'laws.FnExactTightened'. -/
def fnExactTightenedUptoCard : Claim7 := { stood := { row := fnExactTightenedUptoRow, standIns := [], harness := (true, "ab511a6cd8408bd12044c4613e7c36798d7cc5af06627f6fc1a971f7b60dfdaf"), looks := false }, kinds := [], alts := [], laidByText := true, laidKinds := [.data, .pinned], laidTests := true, laidLooks := .later }
def FnExactTightenedUptoCardSaid : Prop := Claim7.holds Tryd.pinned (.plain (OpenSpec.upto fnExactTightenedSpec)) fnExactTightenedUptoCard

/-- THE SECOND FORM's CARD OF 'laws.FnExactDiffFns'. -/
def fnExactDiffFnsUptoCard : Claim7 := { stood := { row := fnExactDiffFnsUptoRow, standIns := [], harness := (true, "ab511a6cd8408bd12044c4613e7c36798d7cc5af06627f6fc1a971f7b60dfdaf"), looks := false }, kinds := [], alts := [], laidByText := true, laidKinds := [.data, .pinned], laidTests := true, laidLooks := .later }
def FnExactDiffFnsUptoCardSaid : Prop := Claim7.holds Tryd.pinned (.plain (OpenSpec.upto fnExactDiffFnsSpec)) fnExactDiffFnsUptoCard

/-- THE SECOND FORM's CARD OF 'laws.FnExactTightAll'. -/
def fnExactTightAllUptoCard : Claim7 := { stood := { row := fnExactTightAllUptoRow, standIns := [], harness := (true, "ab511a6cd8408bd12044c4613e7c36798d7cc5af06627f6fc1a971f7b60dfdaf"), looks := false }, kinds := [], alts := [], laidByText := true, laidKinds := [.data, .pinned], laidTests := true, laidLooks := .later }
def FnExactTightAllUptoCardSaid : Prop := Claim7.holds Tryd.pinned (.plain (OpenSpec.upto fnExactTightAllSpec)) fnExactTightAllUptoCard

/-- THE SECOND FORM's CARD OF 'laws.FnExactDropFn'. -/
def fnExactDropFnUptoCard : Claim7 := { stood := { row := fnExactDropFnUptoRow, standIns := [], harness := (true, "ab511a6cd8408bd12044c4613e7c36798d7cc5af06627f6fc1a971f7b60dfdaf"), looks := false }, kinds := [], alts := [], laidByText := true, laidKinds := [.data, .pinned], laidTests := true, laidLooks := .later }
def FnExactDropFnUptoCardSaid : Prop := Claim7.holds Tryd.pinned (.plain (OpenSpec.upto fnExactDropFnSpec)) fnExactDropFnUptoCard
end Rows
end Go.Proofs.YtibccfmlfknhbabDoor

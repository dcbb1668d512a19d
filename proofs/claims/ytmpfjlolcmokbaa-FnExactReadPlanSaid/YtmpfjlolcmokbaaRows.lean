/-
  No cell of these rows narrows 'for every input' (looked for: loops, veiled, ifaces, maps, wideKeys, modest, calm, conditions, laid).
  DERIVED. THE GIVEN ROWS OF THIS SEAT. 5 by the template 'for every input the law returns true; each argument reads behind the call as it read before'; 0 by the template 'total and deterministic' (their statements: YtmpfjlolcmokbaaTotals.lean).
  GIVEN WITH THE SEED: the statements are not yours to turn. If you find one false, say at which input.
  Laid BY PROGRAM, IN A SANDBOX (cutbox-rows.mjs): the forced cells as the released guide's own fill.sh prints them over the translation 69be3f90f844a878… (all of the seat's roots in one cut). By AI agents, Wed Nov 11 2026. No macro, syntax, notation, axiom, sorry.
-/
import Derived.Test.YtmpfjlolcmokbaaChecked
import GoSem.Claim
import GoSem.ClaimJoined
import GoSem.ClaimMapViews
import Derived.JoinedTies
import Derived.KernelRfl
namespace Go.Proofs.Ytmpfjlolcmokbaa
/- THE CELL 'sum', in the pinned program and in every row, IS THE sha256 OF THE DUMP (.gsa) THAT YtmpfjlolcmokbaaProg.lean LOADS. Nothing in Lean hashes anything: it is a label: what it is worth is what the hold of that sum in a sandbox is worth. -/
noncomputable def Try.pinned : Pinned := { name := "ytmpfjlolcmokbaa", sum := "69be3f90f844a87830140dbd58b5790486e9acf7970a3d52e7994efa1b1cbd36", checked := Try.checked }
namespace Rows
def none {H : Type} : Left H := { results := [], args := [] }

/-- 'laws.FnExactWishText': WHATEVER THE INPUT: true; the input reads as it did. -/
def fnExactWishTextSpec : ChangeSpec := { name := "fnExactWishText", fn := fun _ => fun
  | [d] => { results := [.lit (.bool true)], args := [d] }
  | _ => none }
def fnExactWishTextRow : OpenClaim := { program := "ytmpfjlolcmokbaa", sum := "69be3f90f844a87830140dbd58b5790486e9acf7970a3d52e7994efa1b1cbd36", func := "loop.example/g00423/laws.FnExactWishText", spec := "fnExactWishText", apart := false }
def FnExactWishTextSaid : Prop := fnExactWishTextRow.holds Try.pinned (OpenSpec.ofChange fnExactWishTextSpec)

/-- ITS FALSE NEIGHBOUR: 'it returns false'. Refute it at one input. -/
def fnExactWishTextWrong : ChangeSpec := { name := "fnExactWishText", fn := fun _ => fun
  | [d] => { results := [.lit (.bool false)], args := [d] }
  | _ => none }
def FnExactWishTextWrongFalsely : Prop := fnExactWishTextRow.holds Try.pinned (OpenSpec.ofChange fnExactWishTextWrong)

/-- 'laws.FnExactPlanText': WHATEVER THE INPUT: true; the input reads as it did. -/
def fnExactPlanTextSpec : ChangeSpec := { name := "fnExactPlanText", fn := fun _ => fun
  | [d] => { results := [.lit (.bool true)], args := [d] }
  | _ => none }
def fnExactPlanTextRow : OpenClaim := { program := "ytmpfjlolcmokbaa", sum := "69be3f90f844a87830140dbd58b5790486e9acf7970a3d52e7994efa1b1cbd36", func := "loop.example/g00423/laws.FnExactPlanText", spec := "fnExactPlanText", apart := false }
def FnExactPlanTextSaid : Prop := fnExactPlanTextRow.holds Try.pinned (OpenSpec.ofChange fnExactPlanTextSpec)

/-- ITS FALSE NEIGHBOUR: 'it returns false'. Refute it at one input. -/
def fnExactPlanTextWrong : ChangeSpec := { name := "fnExactPlanText", fn := fun _ => fun
  | [d] => { results := [.lit (.bool false)], args := [d] }
  | _ => none }
def FnExactPlanTextWrongFalsely : Prop := fnExactPlanTextRow.holds Try.pinned (OpenSpec.ofChange fnExactPlanTextWrong)

/-- 'laws.FnExactJumpsIn': WHATEVER THE INPUT: true; the input reads as it did. -/
def fnExactJumpsInSpec : ChangeSpec := { name := "fnExactJumpsIn", fn := fun _ => fun
  | [d] => { results := [.lit (.bool true)], args := [d] }
  | _ => none }
def fnExactJumpsInRow : OpenClaim := { program := "ytmpfjlolcmokbaa", sum := "69be3f90f844a87830140dbd58b5790486e9acf7970a3d52e7994efa1b1cbd36", func := "loop.example/g00423/laws.FnExactJumpsIn", spec := "fnExactJumpsIn", apart := false }
def FnExactJumpsInSaid : Prop := fnExactJumpsInRow.holds Try.pinned (OpenSpec.ofChange fnExactJumpsInSpec)

/-- ITS FALSE NEIGHBOUR: 'it returns false'. Refute it at one input. -/
def fnExactJumpsInWrong : ChangeSpec := { name := "fnExactJumpsIn", fn := fun _ => fun
  | [d] => { results := [.lit (.bool false)], args := [d] }
  | _ => none }
def FnExactJumpsInWrongFalsely : Prop := fnExactJumpsInRow.holds Try.pinned (OpenSpec.ofChange fnExactJumpsInWrong)

/-- 'laws.FnExactReadWish': WHATEVER THE INPUT: true; the input reads as it did. -/
def fnExactReadWishSpec : ChangeSpec := { name := "fnExactReadWish", fn := fun _ => fun
  | [d1, d2] => { results := [.lit (.bool true)], args := [d1, d2] }
  | _ => none }
def fnExactReadWishRow : OpenClaim := { program := "ytmpfjlolcmokbaa", sum := "69be3f90f844a87830140dbd58b5790486e9acf7970a3d52e7994efa1b1cbd36", func := "loop.example/g00423/laws.FnExactReadWish", spec := "fnExactReadWish", apart := false }
def FnExactReadWishSaid : Prop := fnExactReadWishRow.holds Try.pinned (OpenSpec.ofChange fnExactReadWishSpec)

/-- ITS FALSE NEIGHBOUR: 'it returns false'. Refute it at one input. -/
def fnExactReadWishWrong : ChangeSpec := { name := "fnExactReadWish", fn := fun _ => fun
  | [d1, d2] => { results := [.lit (.bool false)], args := [d1, d2] }
  | _ => none }
def FnExactReadWishWrongFalsely : Prop := fnExactReadWishRow.holds Try.pinned (OpenSpec.ofChange fnExactReadWishWrong)

/-- 'laws.FnExactReadPlan': WHATEVER THE INPUT: true; the input reads as it did. -/
def fnExactReadPlanSpec : ChangeSpec := { name := "fnExactReadPlan", fn := fun _ => fun
  | [d] => { results := [.lit (.bool true)], args := [d] }
  | _ => none }
def fnExactReadPlanRow : OpenClaim := { program := "ytmpfjlolcmokbaa", sum := "69be3f90f844a87830140dbd58b5790486e9acf7970a3d52e7994efa1b1cbd36", func := "loop.example/g00423/laws.FnExactReadPlan", spec := "fnExactReadPlan", apart := false }
def FnExactReadPlanSaid : Prop := fnExactReadPlanRow.holds Try.pinned (OpenSpec.ofChange fnExactReadPlanSpec)

/-- ITS FALSE NEIGHBOUR: 'it returns false'. Refute it at one input. -/
def fnExactReadPlanWrong : ChangeSpec := { name := "fnExactReadPlan", fn := fun _ => fun
  | [d] => { results := [.lit (.bool false)], args := [d] }
  | _ => none }
def FnExactReadPlanWrongFalsely : Prop := fnExactReadPlanRow.holds Try.pinned (OpenSpec.ofChange fnExactReadPlanWrong)

/- THE SECOND FORM. 'bulk': how many values and letters a reading holds, each counted each time it is reached (what is shared counts as often as it is met; a slice's spare places count too). A statement '..UptoSaid' is the law's where the arguments, and the package variables that the reading takes, are together of bulk at most 1048576: NARROWER than '..Said'. Prove '..Said' where nothing that the law and all that it calls make is longer than what came in: it says more and counts as full. Else prove '..UptoSaid'. A law counts once. -/
mutual
def uptoBulk {H : Type} : DataW H → Nat
  | .lit (.string bytes) => bytes.length + 1
  | .lit _ => 1
  | .nil => 1
  | .ptr d => uptoBulk d + 1
  | .slice elems spare => uptoBulkAll elems + uptoBulkAll spare + 1
  | .agg parts => uptoBulkAll parts + 1
  | .iface _ d => uptoBulk d + 1
  | .map entries => uptoBulkEntries entries + 1
  | .held _ => 1
def uptoBulkAll {H : Type} : List (DataW H) → Nat
  | [] => 0
  | d :: r => uptoBulk d + uptoBulkAll r
def uptoBulkEntries {H : Type} : List (Lit × DataW H) → Nat
  | [] => 0
  | x :: r => uptoBulkEntry x + uptoBulkEntries r
def uptoBulkEntry {H : Type} : Lit × DataW H → Nat
  | (.string bytes, d) => bytes.length + uptoBulk d + 1
  | (_, d) => uptoBulk d + 1
 end
def uptoSmall : (H : Type) → List (DataW H) → Bool := fun _ ds => decide (uptoBulkAll ds ≤ 1048576)
def OpenSpec.upto (s : _root_.Go.ChangeSpec) : _root_.Go.OpenSpec := { _root_.Go.OpenSpec.ofChange s with cond := some uptoSmall }

/-- 'laws.FnExactWishText', WHERE WHAT IT READS IS OF BULK AT MOST 1048576: true; the input reads as it did. -/
def fnExactWishTextUptoRow : OpenClaim := { program := "ytmpfjlolcmokbaa", sum := "69be3f90f844a87830140dbd58b5790486e9acf7970a3d52e7994efa1b1cbd36", func := "loop.example/g00423/laws.FnExactWishText", spec := "fnExactWishText", apart := false, narrowed := true }
def FnExactWishTextUptoSaid : Prop := fnExactWishTextUptoRow.holds Try.pinned (OpenSpec.upto fnExactWishTextSpec)

/-- 'laws.FnExactPlanText', WHERE WHAT IT READS IS OF BULK AT MOST 1048576: true; the input reads as it did. -/
def fnExactPlanTextUptoRow : OpenClaim := { program := "ytmpfjlolcmokbaa", sum := "69be3f90f844a87830140dbd58b5790486e9acf7970a3d52e7994efa1b1cbd36", func := "loop.example/g00423/laws.FnExactPlanText", spec := "fnExactPlanText", apart := false, narrowed := true }
def FnExactPlanTextUptoSaid : Prop := fnExactPlanTextUptoRow.holds Try.pinned (OpenSpec.upto fnExactPlanTextSpec)

/-- 'laws.FnExactJumpsIn', WHERE WHAT IT READS IS OF BULK AT MOST 1048576: true; the input reads as it did. -/
def fnExactJumpsInUptoRow : OpenClaim := { program := "ytmpfjlolcmokbaa", sum := "69be3f90f844a87830140dbd58b5790486e9acf7970a3d52e7994efa1b1cbd36", func := "loop.example/g00423/laws.FnExactJumpsIn", spec := "fnExactJumpsIn", apart := false, narrowed := true }
def FnExactJumpsInUptoSaid : Prop := fnExactJumpsInUptoRow.holds Try.pinned (OpenSpec.upto fnExactJumpsInSpec)

/-- 'laws.FnExactReadWish', WHERE WHAT IT READS IS OF BULK AT MOST 1048576: true; the input reads as it did. -/
def fnExactReadWishUptoRow : OpenClaim := { program := "ytmpfjlolcmokbaa", sum := "69be3f90f844a87830140dbd58b5790486e9acf7970a3d52e7994efa1b1cbd36", func := "loop.example/g00423/laws.FnExactReadWish", spec := "fnExactReadWish", apart := false, narrowed := true }
def FnExactReadWishUptoSaid : Prop := fnExactReadWishUptoRow.holds Try.pinned (OpenSpec.upto fnExactReadWishSpec)

/-- 'laws.FnExactReadPlan', WHERE WHAT IT READS IS OF BULK AT MOST 1048576: true; the input reads as it did. -/
def fnExactReadPlanUptoRow : OpenClaim := { program := "ytmpfjlolcmokbaa", sum := "69be3f90f844a87830140dbd58b5790486e9acf7970a3d52e7994efa1b1cbd36", func := "loop.example/g00423/laws.FnExactReadPlan", spec := "fnExactReadPlan", apart := false, narrowed := true }
def FnExactReadPlanUptoSaid : Prop := fnExactReadPlanUptoRow.holds Try.pinned (OpenSpec.upto fnExactReadPlanSpec)

end Rows
end Go.Proofs.Ytmpfjlolcmokbaa

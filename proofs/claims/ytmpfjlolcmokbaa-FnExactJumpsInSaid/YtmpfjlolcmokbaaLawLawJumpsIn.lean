/- The law FnExactJumpsIn holds for every input: it returns true and leaves what came in as it was. No condition beyond the row's own. -/
import Derived.Test.YtmpfjlolcmokbaaRows
import Derived.Test.YtmpfjlolcmokbaaLawGX
import Derived.Test.YtmpfjlolcmokbaaLawJumpsIn
import Derived.JoinedOf
set_option linter.all false
namespace Go.Proofs.Ytmpfjlolcmokbaa
open Go.ChangeShapes Go.WideShapes Go.RowKit Go.Proofs.YtmpfjlolcmokbaaE
set_option linter.unusedVariables false
namespace fnExactJumpsIn
theorem own : ownKnob Try.prog.godebug = none := by kernel_rfl
theorem laidOut : laidOutB Try.prog = true := by kernel_rfl
set_option maxRecDepth 100000 in
theorem lifted (os : Os) (started : os.Started) (H : Type) (enc : TypeId × Value → H) :
    ReturnsInHanded {} Try.checked os 5 .any (Rows.fnExactJumpsInSpec.pre6 enc Try.prog Try.f5 Rows.fnExactJumpsInRow.domain false) (Rows.fnExactJumpsInSpec.post enc Try.prog Try.f5 false true false false) := by
  refine returnsInHanded_of_change_sized (C := Try.checked) own started (by kernel_rfl) Try.func5
    (ChangeSpec.witness6 (enc := enc) (C := Try.checked) false ⟨#[], #[.agg #[.string ByteArray.empty, .int .i64 0, .slice none 0 0, .slice none 0 0]], []⟩ 8 (by kernel_rfl) (by kernel_rfl) (by kernel_rfl) (by kernel_rfl)) ?_
  intro W base args ds gs before hval hW _ hsz _
  exact contract_of (f := 5) (ps := C5.ps) (F := C5.F) tabOk kOk laidOut c5 (by kernel_rfl) (by kernel_rfl) ⟨4, rfl, Try.underlying4⟩ rfl
    (fun H ds h => by match ds, (h : ds.length = 1) with | [d0], _ => rfl)
    (fun x hb => JumpsIn.pure x.1 hb.1) W base args ds gs before hval hW hsz
theorem over : Rows.fnExactJumpsInRow.holds Try.pinned (OpenSpec.ofChange Rows.fnExactJumpsInSpec) :=
  OpenClaim.holds_of_wide 5 Try.f5 rfl rfl rfl rfl rfl rfl rfl ⟨rfl, rfl, rfl, rfl, rfl⟩ rfl rfl rfl rfl rfl (by kernel_rfl) Try.func5 (by kernel_rfl)
    (of_decide_eq_true (by kernel_rfl)) (by unfold Func.isWrapper; first | (rw [if_pos (by decide +kernel)]; kernel_rfl) | (rw [if_neg (by decide +kernel)]; exact ⟨rfl, rfl⟩))
    (fun os started H enc _ => lifted os started H enc)
end fnExactJumpsIn
/-- The row. -/
theorem fnExactJumpsIn_holds : Rows.FnExactJumpsInSaid := fnExactJumpsIn.over
end Go.Proofs.Ytmpfjlolcmokbaa

/- The law FnExactPlanText holds for every input: it returns true and leaves what came in as it was. No condition beyond the row's own. -/
import Derived.Test.YtmpfjlolcmokbaaRows
import Derived.Test.YtmpfjlolcmokbaaLawGX
import Derived.Test.YtmpfjlolcmokbaaLawPlanText
import Derived.JoinedOf
set_option linter.all false
namespace Go.Proofs.Ytmpfjlolcmokbaa
open Go.ChangeShapes Go.WideShapes Go.RowKit Go.Proofs.YtmpfjlolcmokbaaE
set_option linter.unusedVariables false
namespace fnExactPlanText
theorem own : ownKnob Try.prog.godebug = none := by kernel_rfl
theorem laidOut : laidOutB Try.prog = true := by kernel_rfl
set_option maxRecDepth 100000 in
theorem lifted (os : Os) (started : os.Started) (H : Type) (enc : TypeId × Value → H) :
    ReturnsInHanded {} Try.checked os 4 .any (Rows.fnExactPlanTextSpec.pre6 enc Try.prog Try.f4 Rows.fnExactPlanTextRow.domain false) (Rows.fnExactPlanTextSpec.post enc Try.prog Try.f4 false true false false) := by
  refine returnsInHanded_of_change_sized (C := Try.checked) own started (by kernel_rfl) Try.func4
    (ChangeSpec.witness6 (enc := enc) (C := Try.checked) false ⟨#[], #[.slice none 0 0], []⟩ 8 (by kernel_rfl) (by kernel_rfl) (by kernel_rfl) (by kernel_rfl)) ?_
  intro W base args ds gs before hval hW _ hsz _
  exact contract_of (f := 4) (ps := C4.ps) (F := C4.F) tabOk kOk laidOut c4 (by kernel_rfl) (by kernel_rfl) ⟨4, rfl, Try.underlying4⟩ rfl
    (fun H ds h => by match ds, (h : ds.length = 1) with | [d0], _ => rfl)
    (fun x hb => PlanText.pure x.1 hb.1) W base args ds gs before hval hW hsz
theorem over : Rows.fnExactPlanTextRow.holds Try.pinned (OpenSpec.ofChange Rows.fnExactPlanTextSpec) :=
  OpenClaim.holds_of_wide 4 Try.f4 rfl rfl rfl rfl rfl rfl rfl ⟨rfl, rfl, rfl, rfl, rfl⟩ rfl rfl rfl rfl rfl (by kernel_rfl) Try.func4 (by kernel_rfl)
    (of_decide_eq_true (by kernel_rfl)) (by unfold Func.isWrapper; first | (rw [if_pos (by decide +kernel)]; kernel_rfl) | (rw [if_neg (by decide +kernel)]; exact ⟨rfl, rfl⟩))
    (fun os started H enc _ => lifted os started H enc)
end fnExactPlanText
/-- The row. -/
theorem fnExactPlanText_holds : Rows.FnExactPlanTextSaid := fnExactPlanText.over
end Go.Proofs.Ytmpfjlolcmokbaa

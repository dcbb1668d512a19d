/- The law FnExactReadPlan holds for every input: it returns true and leaves what came in as it was. No condition beyond the row's own. -/
import Derived.Test.YtmpfjlolcmokbaaRows
import Derived.Test.YtmpfjlolcmokbaaLawGX
import Derived.Test.YtmpfjlolcmokbaaLawReadPlan
import Derived.JoinedOf
set_option linter.all false
namespace Go.Proofs.Ytmpfjlolcmokbaa
open Go.ChangeShapes Go.WideShapes Go.RowKit Go.Proofs.YtmpfjlolcmokbaaE
set_option linter.unusedVariables false
namespace fnExactReadPlan
theorem own : ownKnob Try.prog.godebug = none := by kernel_rfl
theorem laidOut : laidOutB Try.prog = true := by kernel_rfl
set_option maxRecDepth 100000 in
theorem lifted (os : Os) (started : os.Started) (H : Type) (enc : TypeId × Value → H) :
    ReturnsInHanded {} Try.checked os 7 .any (Rows.fnExactReadPlanSpec.pre6 enc Try.prog Try.f7 Rows.fnExactReadPlanRow.domain false) (Rows.fnExactReadPlanSpec.post enc Try.prog Try.f7 false true false false) := by
  refine returnsInHanded_of_change_sized (C := Try.checked) own started (by kernel_rfl) Try.func7
    (ChangeSpec.witness6 (enc := enc) (C := Try.checked) false ⟨#[], #[.string ByteArray.empty], []⟩ 8 (by kernel_rfl) (by kernel_rfl) (by kernel_rfl) (by kernel_rfl)) ?_
  intro W base args ds gs before hval hW _ hsz _
  exact contract_of (f := 7) (ps := C7.ps) (F := C7.F) tabOk kOk laidOut c7 (by kernel_rfl) (by kernel_rfl) ⟨4, rfl, Try.underlying4⟩ rfl
    (fun H ds h => by match ds, (h : ds.length = 1) with | [d0], _ => rfl)
    (fun x hb => ⟨_, ReadPlan.pure x.1 hb.1, rfl⟩) W base args ds gs before hval hW hsz
theorem over : Rows.fnExactReadPlanRow.holds Try.pinned (OpenSpec.ofChange Rows.fnExactReadPlanSpec) :=
  OpenClaim.holds_of_wide 7 Try.f7 rfl rfl rfl rfl rfl rfl rfl ⟨rfl, rfl, rfl, rfl, rfl⟩ rfl rfl rfl rfl rfl (by kernel_rfl) Try.func7 (by kernel_rfl)
    (of_decide_eq_true (by kernel_rfl)) (by unfold Func.isWrapper; first | (rw [if_pos (by decide +kernel)]; kernel_rfl) | (rw [if_neg (by decide +kernel)]; exact ⟨rfl, rfl⟩))
    (fun os started H enc _ => lifted os started H enc)
end fnExactReadPlan
/-- The row. -/
theorem fnExactReadPlan_holds : Rows.FnExactReadPlanSaid := fnExactReadPlan.over
end Go.Proofs.Ytmpfjlolcmokbaa

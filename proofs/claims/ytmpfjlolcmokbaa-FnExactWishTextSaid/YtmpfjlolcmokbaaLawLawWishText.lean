/- The law FnExactWishText holds for every input: it returns true and leaves what came in as it was. No condition beyond the row's own. -/
import Derived.Test.YtmpfjlolcmokbaaRows
import Derived.Test.YtmpfjlolcmokbaaLawGX
import Derived.Test.YtmpfjlolcmokbaaLawWishText
import Derived.JoinedOf
set_option linter.all false
namespace Go.Proofs.Ytmpfjlolcmokbaa
open Go.ChangeShapes Go.WideShapes Go.RowKit Go.Proofs.YtmpfjlolcmokbaaE
set_option linter.unusedVariables false
namespace fnExactWishText
theorem own : ownKnob Try.prog.godebug = none := by kernel_rfl
theorem laidOut : laidOutB Try.prog = true := by kernel_rfl
set_option maxRecDepth 100000 in
theorem lifted (os : Os) (started : os.Started) (H : Type) (enc : TypeId × Value → H) :
    ReturnsInHanded {} Try.checked os 3 .any (Rows.fnExactWishTextSpec.pre6 enc Try.prog Try.f3 Rows.fnExactWishTextRow.domain false) (Rows.fnExactWishTextSpec.post enc Try.prog Try.f3 false true false false) := by
  refine returnsInHanded_of_change_sized (C := Try.checked) own started (by kernel_rfl) Try.func3
    (ChangeSpec.witness6 (enc := enc) (C := Try.checked) false ⟨#[], #[.agg #[.int .i64 0, .int .i64 0, .int .i64 0, .int .i64 0, .int .i64 0, .string ByteArray.empty, .string ByteArray.empty]], []⟩ 8 (by kernel_rfl) (by kernel_rfl) (by kernel_rfl) (by kernel_rfl)) ?_
  intro W base args ds gs before hval hW _ hsz _
  exact contract_of (f := 3) (ps := C3.ps) (F := C3.F) tabOk kOk laidOut c3 (by kernel_rfl) (by kernel_rfl) ⟨4, rfl, Try.underlying4⟩ rfl
    (fun H ds h => by match ds, (h : ds.length = 1) with | [d0], _ => rfl)
    (fun x hb => WishText.pure x.1 hb.1) W base args ds gs before hval hW hsz
theorem over : Rows.fnExactWishTextRow.holds Try.pinned (OpenSpec.ofChange Rows.fnExactWishTextSpec) :=
  OpenClaim.holds_of_wide 3 Try.f3 rfl rfl rfl rfl rfl rfl rfl ⟨rfl, rfl, rfl, rfl, rfl⟩ rfl rfl rfl rfl rfl (by kernel_rfl) Try.func3 (by kernel_rfl)
    (of_decide_eq_true (by kernel_rfl)) (by unfold Func.isWrapper; first | (rw [if_pos (by decide +kernel)]; kernel_rfl) | (rw [if_neg (by decide +kernel)]; exact ⟨rfl, rfl⟩))
    (fun os started H enc _ => lifted os started H enc)
end fnExactWishText
/-- The row. -/
theorem fnExactWishText_holds : Rows.FnExactWishTextSaid := fnExactWishText.over
end Go.Proofs.Ytmpfjlolcmokbaa

/- The law FnExactReadWish holds for every input: it returns true and leaves what came in as it was. No condition beyond the row's own. -/
import Derived.Test.YtmpfjlolcmokbaaRows
import Derived.Test.YtmpfjlolcmokbaaLawGX
import Derived.Test.YtmpfjlolcmokbaaLawReadWish
import Derived.JoinedOf
set_option linter.all false
namespace Go.Proofs.Ytmpfjlolcmokbaa
open Go.ChangeShapes Go.WideShapes Go.RowKit Go.Proofs.YtmpfjlolcmokbaaE
set_option linter.unusedVariables false
namespace fnExactReadWish
theorem own : ownKnob Try.prog.godebug = none := by kernel_rfl
theorem laidOut : laidOutB Try.prog = true := by kernel_rfl
set_option maxRecDepth 100000 in
theorem lifted (os : Os) (started : os.Started) (H : Type) (enc : TypeId × Value → H) :
    ReturnsInHanded {} Try.checked os 6 .any (Rows.fnExactReadWishSpec.pre6 enc Try.prog Try.f6 Rows.fnExactReadWishRow.domain false) (Rows.fnExactReadWishSpec.post enc Try.prog Try.f6 false true false false) := by
  refine returnsInHanded_of_change_sized (C := Try.checked) own started (by kernel_rfl) Try.func6
    (ChangeSpec.witness6 (enc := enc) (C := Try.checked) false ⟨#[], #[.string ByteArray.empty, .int .i64 0], []⟩ 8 (by kernel_rfl) (by kernel_rfl) (by kernel_rfl) (by kernel_rfl)) ?_
  intro W base args ds gs before hval hW _ hsz _
  exact contract_of (f := 6) (ps := C6.ps) (F := C6.F) tabOk kOk laidOut c6 (by kernel_rfl) (by kernel_rfl) ⟨4, rfl, Try.underlying4⟩ rfl
    (fun H ds h => by match ds, (h : ds.length = 2) with | [d0, d1], _ => rfl)
    (fun x hb => ⟨_, ReadWish.pure x.1 x.2.1 hb.1 hb.2.1, rfl⟩) W base args ds gs before hval hW hsz
theorem over : Rows.fnExactReadWishRow.holds Try.pinned (OpenSpec.ofChange Rows.fnExactReadWishSpec) :=
  OpenClaim.holds_of_wide 6 Try.f6 rfl rfl rfl rfl rfl rfl rfl ⟨rfl, rfl, rfl, rfl, rfl⟩ rfl rfl rfl rfl rfl (by kernel_rfl) Try.func6 (by kernel_rfl)
    (of_decide_eq_true (by kernel_rfl)) (by unfold Func.isWrapper; first | (rw [if_pos (by decide +kernel)]; kernel_rfl) | (rw [if_neg (by decide +kernel)]; exact ⟨rfl, rfl⟩))
    (fun os started H enc _ => lifted os started H enc)
end fnExactReadWish
/-- The row. -/
theorem fnExactReadWish_holds : Rows.FnExactReadWishSaid := fnExactReadWish.over
end Go.Proofs.Ytmpfjlolcmokbaa

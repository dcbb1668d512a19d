/- How deep a tree is, as the reference tells it. No condition beyond each lemma's own. -/
import Derived.Test.YtgkgfpbdodafaaaGreatDoorLawDeep
set_option linter.all false
namespace Go.Proofs.YtgkgfpbdodafaaaGreatDoorE
set_option linter.all false
set_option maxRecDepth 100000
theorem spec_DeepOf_ok (l : List NODE) (hl : FineN l) (n : Int) : spec_DeepOf l n = some (deepAt l n, ()) := by
  unfold spec_DeepOf deepAt
  simp only [lenm1 hl.len, sIn, Option.bind_some]
  by_cases hr : 0 ≤ n ∧ n ≤ (l.length : Int) - 1
  case neg => simp only [hr, decide_false, Bool.not_false, cond_true, cond_false]
  obtain ⟨k, rfl⟩ : ∃ m : Nat, n = (m : Int) := ⟨n.toNat, by omega⟩
  have hk : k < l.length := by omega
  simp only [hr, and_self, decide_true, Bool.not_true, cond_false, cond_true, spec_Deeps_ok l hl k hk, Option.bind_some]
  rw [idx_run (show k < (deeps l (k + 1)).length by rw [deeps_len]; omega), deeps_get l (k + 1) k (by omega)]
  rfl
end Go.Proofs.YtgkgfpbdodafaaaGreatDoorE

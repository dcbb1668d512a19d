/- The law FnExactSameBlocks, the plain part. No condition beyond each lemma's own. -/
import Derived.Test.YtibccfmlfknhbaaDoorLawTree
set_option linter.all false
namespace Go.Proofs.YtibccfmlfknhbaaDoorE
set_option linter.all false
set_option maxRecDepth 100000
namespace SameBlocks
theorem both (c : PROG) (h : FineN c.1) (n : Int) : ∃ v, spec_SameBlocks c n = some (v, ()) ∧ impl_SameBlocks c n = some (v, ()) := by
  unfold spec_SameBlocks impl_SameBlocks
  simp only [spec_DeepOf_ok _ h, impl_DeepOf_ok _ h, Option.bind_some]
  by_cases hz : deepAt c.1 n = 0
  · exact ⟨false, by simp only [hz, decide_true, cond_true, joinP_some], by simp only [hz, decide_true, cond_true, joinP_some]⟩
  have hp := in_ok hz
  obtain ⟨hr, hok, hd⟩ := deepAt_pos hp
  simp only [hz, decide_false, cond_false, idx_range hr, joinP_some]
  by_cases h16 : (rd c.1 n zN).1 = 16
  case neg => exact ⟨false, by simp only [h16, ne_eq, not_false_eq_true, decide_true, cond_true], by simp only [h16, ne_eq, not_false_eq_true, decide_true, cond_true]⟩
  simp only [h16, ne_eq, not_true_eq_false, decide_false, cond_false]
  have hlen : (rd c.1 n zN).2.2.2.length = 3 := by
    simp only [nodeOk, nodeBody, Bool.and_eq_true, decide_eq_true_eq, h16] at hok
    have := hok.2.2.1
    have e : kr 16 = (3, 3) := rfl
    rw [e] at this
    simp only at this
    omega
  have k1 := deep_kid hp (i := 1) (by omega)
  have k2 := deep_kid hp (i := 2) (by omega)
  have e1 : rd (rd c.1 n zN).2.2.2 (1 : Int) (0 : Int) = (rd c.1 n zN).2.2.2.getD 1 0 := rfl
  have e2 : rd (rd c.1 n zN).2.2.2 (2 : Int) (0 : Int) = (rd c.1 n zN).2.2.2.getD 2 0 := rfl
  have hS := spec_SameTree_ok c c h h ((rd c.1 n zN).2.2.2.getD 1 0) ((rd c.1 n zN).2.2.2.getD 2 0)
  have hI := impl_same_ok c c h ((rd c.1 n zN).2.2.2.getD 1 0) ((rd c.1 n zN).2.2.2.getD 2 0) k1.1 k2.1
  have eT : sameT c.1 c.1 ((rd c.1 n zN).2.2.2.getD 1 0) ((rd c.1 n zN).2.2.2.getD 2 0) = sm c.1 c.1 ((rd c.1 n zN).2.2.2.getD 1 0) ((rd c.1 n zN).2.2.2.getD 2 0) := by
    unfold sameT
    rw [decide_eq_true k1.1, decide_eq_true k2.1, Bool.true_and, Bool.true_and]
  rw [eT] at hS
  refine ⟨sm c.1 c.1 ((rd c.1 n zN).2.2.2.getD 1 0) ((rd c.1 n zN).2.2.2.getD 2 0), ?_, ?_⟩
  · rw [idx_range (show (0 : Int) ≤ 1 ∧ (1 : Int) < ((rd c.1 n zN).2.2.2.length : Int) by omega), idx_range (show (0 : Int) ≤ 2 ∧ (2 : Int) < ((rd c.1 n zN).2.2.2.length : Int) by omega), e1, e2, hS]
    rfl
  · rw [idx_range (show (0 : Int) ≤ 1 ∧ (1 : Int) < ((rd c.1 n zN).2.2.2.length : Int) by omega), idx_range (show (0 : Int) ≤ 2 ∧ (2 : Int) < ((rd c.1 n zN).2.2.2.length : Int) by omega), e1, e2, hI]
    rfl
theorem pure (c : PROG) (n : Int) (hb : Bnd t_Program c) (_ : Bnd (.int .i64) n) : laws_FnExactSameBlocks c n = some (true, ()) := by
  simp only [laws_FnExactSameBlocks]
  rw [ok_laws_szProgram c 1048576 hb (by decide) (by decide)]
  by_cases hw : (wt t_Program c : Int) ≤ 1048576
  · have h : wt t_Program c ≤ big := by have : big = 1048576 := rfl
                                        omega
    obtain ⟨v, hS, hI⟩ := both c (finep_of c (by omega)).n n
    have e2 : laws_eqProgram c c = some (true, ()) := by rw [ok_laws_eqProgram _ _ h]; simp
    rw [if_pos hw]
    simp only [Option.bind_some, show ¬ ((1048576 : Int) - (wt t_Program c : Int) < 0) by omega, decide_false, cond_false, ok_laws_toProgram c h, hS, hI, e2, Bool.not_true, beq_self_eq_true]
  · rw [if_neg hw]; simp
end SameBlocks
end Go.Proofs.YtibccfmlfknhbaaDoorE

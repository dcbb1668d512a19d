/- The law FnExactSameFn, the plain part. No condition beyond each lemma's own. -/
import Derived.Test.YtibccfmlfknhbaaDoorLawFnEq
set_option linter.all false
namespace Go.Proofs.YtibccfmlfknhbaaDoorE
set_option linter.all false
set_option maxRecDepth 100000
namespace SameFn
theorem pure (c : PROG) (n : Int) (d : PROG) (m : Int) (hb : Bnd t_Program c) (_ : Bnd (.int .i64) n) (hd : Bnd t_Program d) (_ : Bnd (.int .i64) m) : laws_FnExactSameFn c n d m = some (true, ()) := by
  simp only [laws_FnExactSameFn]
  rw [ok_laws_szProgram c 1048576 hb (by decide) (by decide)]
  by_cases hw : (wt t_Program c : Int) ≤ 1048576
  case neg => rw [if_neg hw]; simp
  rw [if_pos hw]
  simp only [Option.bind_some, show ¬ ((1048576 : Int) - (wt t_Program c : Int) < 0) by omega, decide_false, cond_false]
  rw [ok_laws_szProgram d _ hd (by omega) (by omega)]
  by_cases hv : (wt t_Program d : Int) ≤ 1048576 - (wt t_Program c : Int)
  case neg => rw [if_neg hv]; simp
  rw [if_pos hv]
  have hbig : big = 1048576 := rfl
  have h1 : wt t_Program c ≤ big := by omega
  have h2 : wt t_Program d ≤ big := by omega
  have f1 := finep_of c (by omega)
  have f2 := finep_of d (by omega)
  have e1 : laws_eqProgram c c = some (true, ()) := by rw [ok_laws_eqProgram _ _ h1]; simp
  have e2 : laws_eqProgram d d = some (true, ()) := by rw [ok_laws_eqProgram _ _ h2]; simp
  simp only [Option.bind_some, show ¬ ((1048576 : Int) - (wt t_Program c : Int) - (wt t_Program d : Int) < 0) by omega, decide_false, cond_false, ok_laws_toProgram c h1, ok_laws_toProgram d h2, spec_SameFn_ok c d f1 f2, impl_SameFn_ok c d f1 f2, e1, e2, Bool.not_true, beq_self_eq_true]
end SameFn
end Go.Proofs.YtibccfmlfknhbaaDoorE

/- The law FnExactWarnFn, the plain part. No condition beyond the law's own bounds. -/
import Derived.Test.YtgkgfpbdodafaaaGreatDoorLawWarnW
import Derived.Test.YtgkgfpbdodafaaaGreatDoorLawMX
set_option linter.all false
namespace Go.Proofs.YtgkgfpbdodafaaaGreatDoorE
set_option linter.all false
set_option maxRecDepth 100000
namespace WarnFn
theorem pure (c : PROG) (n : Int) (hb : Bnd t_Program c) (_ : Bnd (.int .i64) n) : laws_FnExactWarnFn c n = some (true, ()) := by
  simp only [laws_FnExactWarnFn]
  rw [ok_laws_szProgram c 1048576 hb (by decide) (by decide)]
  by_cases hw : (wt t_Program c : Int) ≤ 1048576
  case neg => rw [if_neg hw]; simp
  rw [if_pos hw]
  have hbig : big = 1048576 := rfl
  have h1 : wt t_Program c ≤ big := by omega
  have f1 := finep_of c (by omega)
  have hwt : wt (.list 0 t_Warn) (warnFn c n) ≤ 9927 := warnFn_wt c n
  have e1 : laws_eqProgram c c = some (true, ()) := by rw [ok_laws_eqProgram _ _ h1]; simp
  have e3 : laws_eqWarnS (warnFn c n) (warnFn c n) = some (true, ()) := by rw [ok_laws_eqWarnS _ _ (by omega)]; simp
  obtain ⟨k1, p1, a1, b1, c1, d1⟩ := ok_laws_markProgram c 1 (by omega)
  obtain ⟨k3, p3, a3, b3, c3, m3⟩ := ok_laws_markWarnS (warnFn c n) 1 (by omega)
  have a1' : laws_markProgram c (1 : Int) = _ := a1
  have a3' : laws_markWarnS (warnFn c n) (1 : Int) = _ := a3
  have m3' : laws_heldWarnS p3 (1 : Int) = _ := m3
  have n2 : ¬ ((k1 : Int) < 0) := by omega
  have n3 : ¬ ((k3 : Int) < 0) := by omega
  simp only [Option.bind_some, show ¬ ((1048576 : Int) - (wt t_Program c : Int) < 0) by omega, decide_false, cond_false, ok_laws_toProgram c h1, spec_Warn_ok c f1, impl_Warn_ok c f1, e1, e3, Bool.not_true, a1', a3', m3', n2, n3, joinP_some, ne_eq, not_true_eq_false]
end WarnFn
end Go.Proofs.YtgkgfpbdodafaaaGreatDoorE

/- The law FnExactTakeFn, the plain part. No condition beyond the law's own bounds. -/
import Derived.Test.YtgkgfpbdodafaaaDoorLawTakeC
import Derived.Test.YtgkgfpbdodafaaaDoorLawMX
set_option linter.all false
namespace Go.Proofs.YtgkgfpbdodafaaaDoorE
set_option linter.all false
set_option maxRecDepth 100000
namespace TakeFn
theorem pure (c d : PROG) (s : ByteArray) (hb : Bnd t_Program c) (hd : Bnd t_Program d) (_ : Bnd .str s) : laws_FnExactTakeFn c d s = some (true, ()) := by
  simp only [laws_FnExactTakeFn]
  by_cases hsz : (1048576 : Int) < (s.size : Int)
  · simp only [hsz, decide_true, cond_true]
  simp only [hsz, decide_false, cond_false]
  rw [ok_laws_szProgram c 1048576 hb (by decide) (by decide)]
  by_cases hw : (wt t_Program c : Int) ≤ 1048576
  case neg => rw [if_neg hw]; simp
  rw [if_pos hw]
  simp only [Option.bind_some, show ¬ ((1048576 : Int) - (wt t_Program c : Int) < 0) by omega, decide_false, cond_false]
  rw [ok_laws_szProgram d _ hd (by omega) (by omega)]
  by_cases hv : (wt t_Program d : Int) ≤ 1048576 - (wt t_Program c : Int)
  case neg => rw [if_neg hv]; simp
  rw [if_pos hv]
  have hbig : big = 1048576 := rfl
  have h1 : wt t_Program c ≤ big := by omega
  have h2 : wt t_Program d ≤ big := by omega
  have f1 := finep_of c (by omega)
  have f2 := finep_of d (by omega)
  obtain ⟨r, v, hS, hI, hr⟩ := both c d f1 f2 (by omega) s
  have hr' : wt t_Program r ≤ big := by omega
  have e0 : laws_eqProgram r r = some (true, ()) := by rw [ok_laws_eqProgram _ _ hr']; simp
  have e1 : laws_eqProgram c c = some (true, ()) := by rw [ok_laws_eqProgram _ _ h1]; simp
  have e2 : laws_eqProgram d d = some (true, ()) := by rw [ok_laws_eqProgram _ _ h2]; simp
  obtain ⟨k1, p1, a1, b1, c1, d1⟩ := ok_laws_markProgram c 1 (by omega)
  obtain ⟨k2, p2, a2, b2, c2, d2⟩ := ok_laws_markProgram d k1 (by omega)
  obtain ⟨k3, p3, a3, b3, c3, d3⟩ := ok_laws_markProgram r 1 (by omega)
  have n2 : ¬ ((k2 : Int) < 0) := by omega
  have n3 : ¬ ((k3 : Int) < 0) := by omega
  have a1' : laws_markProgram c (1 : Int) = _ := a1
  have a3' : laws_markProgram r (1 : Int) = _ := a3
  have d3' : laws_heldProgram p3 (1 : Int) = _ := d3
  simp only [Option.bind_some, show ¬ ((1048576 : Int) - (wt t_Program c : Int) - (wt t_Program d : Int) < 0) by omega, decide_false, cond_false, ok_laws_toProgram c h1, ok_laws_toProgram d h2, hS, hI, e0, e1, e2, Bool.not_true, a1', a2, a3', d3', n2, n3, joinP_some, ne_eq, not_true_eq_false, beq_self_eq_true]
end TakeFn
end Go.Proofs.YtgkgfpbdodafaaaDoorE

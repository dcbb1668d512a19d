/- The law FnExactDropFn, the plain part. No condition beyond the law's own bounds. -/
import Derived.Test.YtibccfmlfknhbabDoorLawDrop
import Derived.Test.YtibccfmlfknhbabDoorLawMX
set_option linter.all false
namespace Go.Proofs.YtibccfmlfknhbabDoorE
set_option linter.all false
set_option maxRecDepth 100000
namespace DropFn
theorem pure (c : PROG) (s : ByteArray) (hb : Bnd t_Program c) (_ : Bnd .str s) : laws_FnExactDropFn c s = some (true, ()) := by
  simp only [laws_FnExactDropFn]
  by_cases hsz : (1048576 : Int) < (s.size : Int)
  · simp only [hsz, decide_true, cond_true]
  simp only [hsz, decide_false, cond_false]
  rw [ok_laws_szProgram c 1048576 hb (by decide) (by decide)]
  by_cases hw : (wt t_Program c : Int) ≤ 1048576
  case neg => rw [if_neg hw]; simp
  rw [if_pos hw]
  have hbig : big = 1048576 := rfl
  have h : wt t_Program c ≤ big := by omega
  have hf := finep_of c (by omega)
  obtain ⟨d, v, hS, hI, hd⟩ := both c hf (by omega) s
  have hd' : wt t_Program d ≤ big := by omega
  have e1 : laws_eqProgram d d = some (true, ()) := by rw [ok_laws_eqProgram _ _ hd']; simp
  have e2 : laws_eqProgram c c = some (true, ()) := by rw [ok_laws_eqProgram _ _ h]; simp
  obtain ⟨k1, p1, a1, b1, c1, d1⟩ := ok_laws_markProgram c 1 (by omega)
  obtain ⟨k2, p2, a2, b2, c2, d2⟩ := ok_laws_markProgram d 1 (by omega)
  have n1 : ¬ ((k1 : Int) < 0) := by omega
  have n2 : ¬ ((k2 : Int) < 0) := by omega
  have a1' : laws_markProgram c (1 : Int) = _ := a1
  have a2' : laws_markProgram d (1 : Int) = _ := a2
  have d2' : laws_heldProgram p2 (1 : Int) = _ := d2
  simp only [Option.bind_some, show ¬ ((1048576 : Int) - (wt t_Program c : Int) < 0) by omega, decide_false, cond_false, ok_laws_toProgram c h, hS, hI, e1, e2, Bool.not_true, a1', a2', d2', n1, n2, joinP_some, ne_eq, not_true_eq_false, beq_self_eq_true]
end DropFn
end Go.Proofs.YtibccfmlfknhbabDoorE

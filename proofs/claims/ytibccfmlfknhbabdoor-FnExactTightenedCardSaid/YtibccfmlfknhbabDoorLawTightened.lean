/- The law FnExactTightened, the plain part. No condition beyond the law's own bounds. -/
import Derived.Test.YtibccfmlfknhbabDoorLawTight
import Derived.Test.YtibccfmlfknhbabDoorLawMX
set_option linter.all false
namespace Go.Proofs.YtibccfmlfknhbabDoorE
set_option linter.all false
set_option maxRecDepth 100000
namespace Tightened
theorem pure (c : CODE) (hb : Bnd t_Code c) : laws_FnExactTightened c = some (true, ()) := by
  simp only [laws_FnExactTightened]
  rw [ok_laws_szCode c 1048576 hb (by decide) (by decide)]
  by_cases hw : (wt t_Code c : Int) ≤ 1048576
  case neg => rw [if_neg hw]; simp
  rw [if_pos hw]
  have hbig : big = 1048576 := rfl
  have h : wt t_Code c ≤ big := by omega
  obtain ⟨d, hS, hI, hd⟩ := Tight.both c (by omega)
  have hd' : wt t_Code d ≤ big := by omega
  have e1 : laws_eqCode d d = some (true, ()) := by rw [ok_laws_eqCode _ _ hd']; simp
  have e2 : laws_eqCode c c = some (true, ()) := by rw [ok_laws_eqCode _ _ h]; simp
  obtain ⟨k1, p1, a1, b1, c1, d1⟩ := ok_laws_markCode c 1 (by omega)
  obtain ⟨k2, p2, a2, b2, c2, d2⟩ := ok_laws_markCode d 1 (by omega)
  have n1 : ¬ ((k1 : Int) < 0) := by omega
  have n2 : ¬ ((k2 : Int) < 0) := by omega
  have a1' : laws_markCode c (1 : Int) = _ := a1
  have a2' : laws_markCode d (1 : Int) = _ := a2
  have d2' : laws_heldCode p2 (1 : Int) = _ := d2
  simp only [Option.bind_some, show ¬ ((1048576 : Int) - (wt t_Code c : Int) < 0) by omega, decide_false, cond_false, ok_laws_toCode c h, hS, hI, e1, e2, Bool.not_true, a1', a2', d2', n1, n2, joinP_some, ne_eq, not_true_eq_false]
end Tightened
end Go.Proofs.YtibccfmlfknhbabDoorE

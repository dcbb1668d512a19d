/- The helpers of the law of X. No condition. -/
import Derived.Test.YtmpfjlolcmokbaaDoorPackP
import Derived.Test.YtmpfjlolcmokbaaDoorLawFX
set_option linter.all false
namespace Go.Proofs.YtmpfjlolcmokbaaDoorE
set_option maxRecDepth 100000
set_option linter.all false

abbrev t_Warn : Ty := .pair (.int .i64) (.pair (.int .i64) (.str))
theorem ok_laws_szWarn : SzOk t_Warn laws_szWarn := by
  intro a left hb h0 h1
  obtain ⟨b0, b1, b2⟩ := hb
  have hw : wt t_Warn a = 0 + (0 + (a.2.2.size)) := rfl
  rw [hw]
  simp only [laws_szWarn]
  rw [sub64 (l := left) (by omega) (by omega) (szb b2)]
  by_cases c2 : left - (a.2.2.size : Int) < 0
  · simp only [c2, decide_true, cond_true]; rw [if_neg (by omega)]
  simp only [c2, decide_false, cond_false]
  rw [if_pos (by omega)]; congr 2; omega
theorem ok_laws_toWarn : ToOk t_Warn laws_toWarn := by
  intro a h
  have hw : wt t_Warn a = 0 + (0 + (a.2.2.size)) := rfl
  simp only [laws_toWarn]
end Go.Proofs.YtmpfjlolcmokbaaDoorE

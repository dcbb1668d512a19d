/- The helpers of the law of X. No condition. -/
import Derived.Test.YtibccfmlfknhbabDoorPackP
import Derived.Test.YtibccfmlfknhbabDoorLawFX
set_option linter.all false
namespace Go.Proofs.YtibccfmlfknhbabDoorE
set_option maxRecDepth 100000
set_option linter.all false

theorem ok_laws_szIntS : SzOk (.list 0 (.int .i64)) laws_szIntS := sz0_ok (e := 0) (t := .int .i64) rfl
abbrev t_Ins : Ty := .pair (.int .i64) (.pair (.int .i64) (.pair (.int .i64) (.pair (.int .i64) (.pair (.int .i64) (.pair (.str) (.list 0 (.int .i64)))))))
theorem ok_laws_szIns : SzOk t_Ins laws_szIns := by
  intro a left hb h0 h1
  obtain ⟨b0, b1, b2, b3, b4, b5, b6⟩ := hb
  have hw : wt t_Ins a = 0 + (0 + (0 + (0 + (0 + (a.2.2.2.2.2.1.size + (wt (.list 0 (.int .i64)) a.2.2.2.2.2.2)))))) := rfl
  rw [hw]
  simp only [laws_szIns]
  rw [sub64 (l := left) (by omega) (by omega) (szb b5)]
  by_cases c5 : left - (a.2.2.2.2.2.1.size : Int) < 0
  · simp only [c5, decide_true, cond_true]; rw [if_neg (by omega)]
  simp only [c5, decide_false, cond_false]
  rw [ok_laws_szIntS _ _ b6 (by omega) (by omega)]
  by_cases c6 : (wt (.list 0 (.int .i64)) a.2.2.2.2.2.2 : Int) ≤ (left - (a.2.2.2.2.2.1.size : Int))
  case neg => simp only [if_neg c6, Option.bind_some, show (-1:Int) < 0 from by decide, decide_true, cond_true]; rw [if_neg (by omega)]
  rw [if_pos c6, Option.bind_some]
  rw [show decide (((left - (a.2.2.2.2.2.1.size : Int)) - (wt (.list 0 (.int .i64)) a.2.2.2.2.2.2 : Int)) < 0) = false from by simp; omega]
  simp only [cond_false]
  rw [if_pos (by omega)]
  try (congr 2 <;> omega)
theorem ok_laws_szInsS : SzOk (.list 0 t_Ins) laws_szInsS := by
  have e : laws_szInsS = szS (D := Ty.D t_Ins) laws_szIns ((0 : Int), ((0 : Int), ((0 : Int), ((0 : Int), ((0 : Int), ((⟨#[]⟩ : ByteArray), [])))))) := rfl
  rw [e]; exact szS_ok (e := 0) ok_laws_szIns
abbrev t_Code : Ty := .pair (.str) (.pair (.int .i64) (.pair (.list 0 (.int .i64)) (.list 0 t_Ins)))
theorem ok_laws_szCode : SzOk t_Code laws_szCode := by
  intro a left hb h0 h1
  obtain ⟨b0, b1, b2, b3⟩ := hb
  have hw : wt t_Code a = a.1.size + (0 + (wt (.list 0 (.int .i64)) a.2.2.1 + (wt (.list 0 t_Ins) a.2.2.2))) := rfl
  rw [hw]
  simp only [laws_szCode]
  rw [sub64 (l := left) (by omega) (by omega) (szb b0)]
  by_cases c0 : left - (a.1.size : Int) < 0
  · simp only [c0, decide_true, cond_true]; rw [if_neg (by omega)]
  simp only [c0, decide_false, cond_false]
  rw [ok_laws_szIntS _ _ b2 (by omega) (by omega)]
  by_cases c2 : (wt (.list 0 (.int .i64)) a.2.2.1 : Int) ≤ (left - (a.1.size : Int))
  case neg => simp only [if_neg c2, Option.bind_some, show (-1:Int) < 0 from by decide, decide_true, cond_true]; rw [if_neg (by omega)]
  rw [if_pos c2, Option.bind_some]
  rw [show decide (((left - (a.1.size : Int)) - (wt (.list 0 (.int .i64)) a.2.2.1 : Int)) < 0) = false from by simp; omega]
  simp only [cond_false]
  rw [ok_laws_szInsS _ _ b3 (by omega) (by omega)]
  by_cases c3 : (wt (.list 0 t_Ins) a.2.2.2 : Int) ≤ ((left - (a.1.size : Int)) - (wt (.list 0 (.int .i64)) a.2.2.1 : Int))
  case neg => simp only [if_neg c3, Option.bind_some, show (-1:Int) < 0 from by decide, decide_true, cond_true]; rw [if_neg (by omega)]
  rw [if_pos c3, Option.bind_some]
  rw [show decide ((((left - (a.1.size : Int)) - (wt (.list 0 (.int .i64)) a.2.2.1 : Int)) - (wt (.list 0 t_Ins) a.2.2.2 : Int)) < 0) = false from by simp; omega]
  simp only [cond_false]
  rw [if_pos (by omega)]
  try (congr 2 <;> omega)
theorem ok_laws_toIntS : ToOk (.list 0 (.int .i64)) laws_toIntS := toS0_ok (e := 0) (t := .int .i64) (z := (0 : Int)) (by_ := 8) (by decide)
theorem ok_laws_toIns : ToOk t_Ins laws_toIns := by
  intro a h
  have hw : wt t_Ins a = 0 + (0 + (0 + (0 + (0 + (a.2.2.2.2.2.1.size + (wt (.list 0 (.int .i64)) a.2.2.2.2.2.2)))))) := rfl
  simp only [laws_toIns]
  rw [ok_laws_toIntS _ (by omega)]; simp only [Option.bind_some]
theorem ok_laws_toInsS : ToOk (.list 0 t_Ins) laws_toInsS := by
  have e : laws_toInsS = toS (D := Ty.D t_Ins) laws_toIns ((0 : Int), ((0 : Int), ((0 : Int), ((0 : Int), ((0 : Int), ((⟨#[]⟩ : ByteArray), [])))))) 80 := rfl
  rw [e]; exact toS_ok (e := 0) ok_laws_toIns (by decide)
theorem ok_laws_toCode : ToOk t_Code laws_toCode := by
  intro a h
  have hw : wt t_Code a = a.1.size + (0 + (wt (.list 0 (.int .i64)) a.2.2.1 + (wt (.list 0 t_Ins) a.2.2.2))) := rfl
  simp only [laws_toCode]
  rw [ok_laws_toIntS _ (by omega)]; simp only [Option.bind_some]
  rw [ok_laws_toInsS _ (by omega)]; simp only [Option.bind_some]
theorem ok_laws_eqIntS : EqOk (.list 0 (.int .i64)) laws_eqIntS := eqS0_ok (e := 0) (t := .int .i64) (z := (0 : Int))
open Classical in
theorem ok_laws_eqIns : EqOk t_Ins laws_eqIns := by
  intro a b h
  have hw : wt t_Ins a = 0 + (0 + (0 + (0 + (0 + (a.2.2.2.2.2.1.size + (wt (.list 0 (.int .i64)) a.2.2.2.2.2.2)))))) := rfl
  simp only [laws_eqIns]
  rw [ok_laws_eqIntS _ _ (by omega)]
  have he : (a = b) = (a.1 = b.1 ∧ a.2.1 = b.2.1 ∧ a.2.2.1 = b.2.2.1 ∧ a.2.2.2.1 = b.2.2.2.1 ∧ a.2.2.2.2.1 = b.2.2.2.2.1 ∧ a.2.2.2.2.2.1 = b.2.2.2.2.2.1 ∧ a.2.2.2.2.2.2 = b.2.2.2.2.2.2) := by simp only [Prod.ext_iff]
  simp only [he]
  by_cases e0 : a.1 = b.1
  case neg => simp [e0]
  by_cases e1 : a.2.1 = b.2.1
  case neg => simp [e0, e1]
  by_cases e2 : a.2.2.1 = b.2.2.1
  case neg => simp [e0, e1, e2]
  by_cases e3 : a.2.2.2.1 = b.2.2.2.1
  case neg => simp [e0, e1, e2, e3]
  by_cases e4 : a.2.2.2.2.1 = b.2.2.2.2.1
  case neg => simp [e0, e1, e2, e3, e4]
  by_cases e5 : a.2.2.2.2.2.1 = b.2.2.2.2.2.1
  case neg => simp [e0, e1, e2, e3, e4, e5]
  by_cases e6 : a.2.2.2.2.2.2 = b.2.2.2.2.2.2
  case neg => simp [e0, e1, e2, e3, e4, e5, e6]
  simp [e0, e1, e2, e3, e4, e5, e6]
theorem ok_laws_eqInsS : EqOk (.list 0 t_Ins) laws_eqInsS := by
  have e : laws_eqInsS = eqS (D := Ty.D t_Ins) laws_eqIns ((0 : Int), ((0 : Int), ((0 : Int), ((0 : Int), ((0 : Int), ((⟨#[]⟩ : ByteArray), [])))))) := rfl
  rw [e]; exact eqS_ok (e := 0) ok_laws_eqIns
open Classical in
theorem ok_laws_eqCode : EqOk t_Code laws_eqCode := by
  intro a b h
  have hw : wt t_Code a = a.1.size + (0 + (wt (.list 0 (.int .i64)) a.2.2.1 + (wt (.list 0 t_Ins) a.2.2.2))) := rfl
  simp only [laws_eqCode]
  rw [ok_laws_eqIntS _ _ (by omega)]
  rw [ok_laws_eqInsS _ _ (by omega)]
  have he : (a = b) = (a.1 = b.1 ∧ a.2.1 = b.2.1 ∧ a.2.2.1 = b.2.2.1 ∧ a.2.2.2 = b.2.2.2) := by simp only [Prod.ext_iff]
  simp only [he]
  by_cases e0 : a.1 = b.1
  case neg => simp [e0]
  by_cases e1 : a.2.1 = b.2.1
  case neg => simp [e0, e1]
  by_cases e2 : a.2.2.1 = b.2.2.1
  case neg => simp [e0, e1, e2]
  by_cases e3 : a.2.2.2 = b.2.2.2
  case neg => simp [e0, e1, e2, e3]
  simp [e0, e1, e2, e3]
theorem ok_laws_szCodeS : SzOk (.list 0 t_Code) laws_szCodeS := by
  have e : laws_szCodeS = szS (D := Ty.D t_Code) laws_szCode ((⟨#[]⟩ : ByteArray), ((0 : Int), ([], []))) := rfl
  rw [e]; exact szS_ok (e := 0) ok_laws_szCode
theorem ok_laws_toCodeS : ToOk (.list 0 t_Code) laws_toCodeS := by
  have e : laws_toCodeS = toS (D := Ty.D t_Code) laws_toCode ((⟨#[]⟩ : ByteArray), ((0 : Int), ([], []))) 72 := rfl
  rw [e]; exact toS_ok (e := 0) ok_laws_toCode (by decide)
theorem ok_laws_eqCodeS : EqOk (.list 0 t_Code) laws_eqCodeS := by
  have e : laws_eqCodeS = eqS (D := Ty.D t_Code) laws_eqCode ((⟨#[]⟩ : ByteArray), ((0 : Int), ([], []))) := rfl
  rw [e]; exact eqS_ok (e := 0) ok_laws_eqCode
end Go.Proofs.YtibccfmlfknhbabDoorE

/- The helpers of the law of X. No condition. -/
import Derived.Test.YtgkgfpbdodafaaaGreatDoorPackP
import Derived.Test.YtgkgfpbdodafaaaGreatDoorLawFX
set_option linter.all false
namespace Go.Proofs.YtgkgfpbdodafaaaGreatDoorE
set_option maxRecDepth 100000
set_option linter.all false
theorem ok_laws_szIntS : SzOk (.list 0 (.int .i64)) laws_szIntS := sz0_ok (e := 0) (t := .int .i64) rfl
abbrev t_Node : Ty := .pair (.int .i64) (.pair (.int .i64) (.pair (.str) (.list 0 (.int .i64))))
theorem ok_laws_szNode : SzOk t_Node laws_szNode := by
  intro a left hb h0 h1
  obtain ⟨b0, b1, b2, b3⟩ := hb
  have hw : wt t_Node a = 0 + (0 + (a.2.2.1.size + (wt (.list 0 (.int .i64)) a.2.2.2))) := rfl
  rw [hw]
  simp only [laws_szNode]
  rw [sub64 (l := left) (by omega) (by omega) (szb b2)]
  by_cases c2 : left - (a.2.2.1.size : Int) < 0
  · simp only [c2, decide_true, cond_true]; rw [if_neg (by omega)]
  simp only [c2, decide_false, cond_false]
  rw [ok_laws_szIntS _ _ b3 (by omega) (by omega)]
  by_cases c3 : (wt (.list 0 (.int .i64)) a.2.2.2 : Int) ≤ (left - (a.2.2.1.size : Int))
  case neg => simp only [if_neg c3, Option.bind_some, show (-1:Int) < 0 from by decide, decide_true, cond_true]; rw [if_neg (by omega)]
  rw [if_pos c3, Option.bind_some]
  rw [show decide (((left - (a.2.2.1.size : Int)) - (wt (.list 0 (.int .i64)) a.2.2.2 : Int)) < 0) = false from by simp; omega]
  simp only [cond_false]
  rw [if_pos (by omega)]
  try (congr 2 <;> omega)
theorem ok_laws_szNodeS : SzOk (.list 0 t_Node) laws_szNodeS := by
  have e : laws_szNodeS = szS (D := Ty.D t_Node) laws_szNode ((0 : Int), ((0 : Int), ((⟨#[]⟩ : ByteArray), []))) := rfl
  rw [e]; exact szS_ok (e := 0) ok_laws_szNode
abbrev t_Param : Ty := .pair (.str) (.int .i64)
theorem ok_laws_szParam : SzOk t_Param laws_szParam := by
  intro a left hb h0 h1
  obtain ⟨b0, b1⟩ := hb
  have hw : wt t_Param a = a.1.size + (0) := rfl
  rw [hw]
  simp only [laws_szParam]
  rw [sub64 (l := left) (by omega) (by omega) (szb b0)]
  by_cases c0 : left - (a.1.size : Int) < 0
  · simp only [c0, decide_true, cond_true]; rw [if_neg (by omega)]
  simp only [c0, decide_false, cond_false]
  rw [if_pos (by omega)]
  try (congr 2 <;> omega)
theorem ok_laws_szParamS : SzOk (.list 0 t_Param) laws_szParamS := by
  have e : laws_szParamS = szS (D := Ty.D t_Param) laws_szParam ((⟨#[]⟩ : ByteArray), (0 : Int)) := rfl
  rw [e]; exact szS_ok (e := 0) ok_laws_szParam
abbrev t_Fn : Ty := .pair (.str) (.pair (.list 0 t_Param) (.pair (.int .i64) (.pair (.int .i64) (.int .i64))))
theorem ok_laws_szFn : SzOk t_Fn laws_szFn := by
  intro a left hb h0 h1
  obtain ⟨b0, b1, b2, b3, b4⟩ := hb
  have hw : wt t_Fn a = a.1.size + (wt (.list 0 t_Param) a.2.1 + (0 + (0 + (0)))) := rfl
  rw [hw]
  simp only [laws_szFn]
  rw [sub64 (l := left) (by omega) (by omega) (szb b0)]
  by_cases c0 : left - (a.1.size : Int) < 0
  · simp only [c0, decide_true, cond_true]; rw [if_neg (by omega)]
  simp only [c0, decide_false, cond_false]
  rw [ok_laws_szParamS _ _ b1 (by omega) (by omega)]
  by_cases c1 : (wt (.list 0 t_Param) a.2.1 : Int) ≤ (left - (a.1.size : Int))
  case neg => simp only [if_neg c1, Option.bind_some, show (-1:Int) < 0 from by decide, decide_true, cond_true]; rw [if_neg (by omega)]
  rw [if_pos c1, Option.bind_some]
  rw [show decide (((left - (a.1.size : Int)) - (wt (.list 0 t_Param) a.2.1 : Int)) < 0) = false from by simp; omega]
  simp only [cond_false]
  rw [if_pos (by omega)]
  try (congr 2 <;> omega)
theorem ok_laws_szFnS : SzOk (.list 0 t_Fn) laws_szFnS := by
  have e : laws_szFnS = szS (D := Ty.D t_Fn) laws_szFn ((⟨#[]⟩ : ByteArray), ([], ((0 : Int), ((0 : Int), (0 : Int))))) := rfl
  rw [e]; exact szS_ok (e := 0) ok_laws_szFn
abbrev t_Program : Ty := .pair (.list 0 t_Node) (.list 0 t_Fn)
theorem ok_laws_szProgram : SzOk t_Program laws_szProgram := by
  intro a left hb h0 h1
  obtain ⟨b0, b1⟩ := hb
  have hw : wt t_Program a = wt (.list 0 t_Node) a.1 + (wt (.list 0 t_Fn) a.2) := rfl
  rw [hw]
  simp only [laws_szProgram]
  rw [ok_laws_szNodeS _ _ b0 (by omega) (by omega)]
  by_cases c0 : (wt (.list 0 t_Node) a.1 : Int) ≤ left
  case neg => simp only [if_neg c0, Option.bind_some, show (-1:Int) < 0 from by decide, decide_true, cond_true]; rw [if_neg (by omega)]
  rw [if_pos c0, Option.bind_some]
  rw [show decide ((left - (wt (.list 0 t_Node) a.1 : Int)) < 0) = false from by simp; omega]
  simp only [cond_false]
  rw [ok_laws_szFnS _ _ b1 (by omega) (by omega)]
  by_cases c1 : (wt (.list 0 t_Fn) a.2 : Int) ≤ (left - (wt (.list 0 t_Node) a.1 : Int))
  case neg => simp only [if_neg c1, Option.bind_some, show (-1:Int) < 0 from by decide, decide_true, cond_true]; rw [if_neg (by omega)]
  rw [if_pos c1, Option.bind_some]
  rw [show decide (((left - (wt (.list 0 t_Node) a.1 : Int)) - (wt (.list 0 t_Fn) a.2 : Int)) < 0) = false from by simp; omega]
  simp only [cond_false]
  rw [if_pos (by omega)]
  try (congr 2 <;> omega)
theorem ok_laws_toIntS : ToOk (.list 0 (.int .i64)) laws_toIntS := toS0_ok (e := 0) (t := .int .i64) (z := (0 : Int)) (by_ := 8) (by decide)
theorem ok_laws_toNode : ToOk t_Node laws_toNode := by
  intro a h
  have hw : wt t_Node a = 0 + (0 + (a.2.2.1.size + (wt (.list 0 (.int .i64)) a.2.2.2))) := rfl
  simp only [laws_toNode]
  rw [ok_laws_toIntS _ (by omega)]; simp only [Option.bind_some]
theorem ok_laws_toNodeS : ToOk (.list 0 t_Node) laws_toNodeS := by
  have e : laws_toNodeS = toS (D := Ty.D t_Node) laws_toNode ((0 : Int), ((0 : Int), ((⟨#[]⟩ : ByteArray), []))) 56 := rfl
  rw [e]; exact toS_ok (e := 0) ok_laws_toNode (by decide)
theorem ok_laws_toParam : ToOk t_Param laws_toParam := by
  intro a h
  have hw : wt t_Param a = a.1.size + (0) := rfl
  simp only [laws_toParam]
theorem ok_laws_toParamS : ToOk (.list 0 t_Param) laws_toParamS := by
  have e : laws_toParamS = toS (D := Ty.D t_Param) laws_toParam ((⟨#[]⟩ : ByteArray), (0 : Int)) 24 := rfl
  rw [e]; exact toS_ok (e := 0) ok_laws_toParam (by decide)
theorem ok_laws_toFn : ToOk t_Fn laws_toFn := by
  intro a h
  have hw : wt t_Fn a = a.1.size + (wt (.list 0 t_Param) a.2.1 + (0 + (0 + (0)))) := rfl
  simp only [laws_toFn]
  rw [ok_laws_toParamS _ (by omega)]; simp only [Option.bind_some]
theorem ok_laws_toFnS : ToOk (.list 0 t_Fn) laws_toFnS := by
  have e : laws_toFnS = toS (D := Ty.D t_Fn) laws_toFn ((⟨#[]⟩ : ByteArray), ([], ((0 : Int), ((0 : Int), (0 : Int))))) 64 := rfl
  rw [e]; exact toS_ok (e := 0) ok_laws_toFn (by decide)
theorem ok_laws_toProgram : ToOk t_Program laws_toProgram := by
  intro a h
  have hw : wt t_Program a = wt (.list 0 t_Node) a.1 + (wt (.list 0 t_Fn) a.2) := rfl
  simp only [laws_toProgram]
  rw [ok_laws_toNodeS _ (by omega)]; simp only [Option.bind_some]
  rw [ok_laws_toFnS _ (by omega)]; simp only [Option.bind_some]
abbrev t_Warn : Ty := .pair (.int .i64) (.pair (.int .i64) (.str))
open Classical in
theorem ok_laws_eqWarn : EqOk t_Warn laws_eqWarn := by
  intro a b h
  have hw : wt t_Warn a = 0 + (0 + (a.2.2.size)) := rfl
  simp only [laws_eqWarn]
  have he : (a = b) = (a.1 = b.1 ∧ a.2.1 = b.2.1 ∧ a.2.2 = b.2.2) := by simp only [Prod.ext_iff]
  simp only [he]
  by_cases e0 : a.1 = b.1
  case neg => simp [e0]
  by_cases e1 : a.2.1 = b.2.1
  case neg => simp [e0, e1]
  by_cases e2 : a.2.2 = b.2.2
  case neg => simp [e0, e1, e2]
  simp [e0, e1, e2]
theorem ok_laws_eqWarnS : EqOk (.list 0 t_Warn) laws_eqWarnS := by
  have e : laws_eqWarnS = eqS (D := Ty.D t_Warn) laws_eqWarn ((0 : Int), ((0 : Int), (⟨#[]⟩ : ByteArray))) := rfl
  rw [e]; exact eqS_ok (e := 0) ok_laws_eqWarn
theorem ok_laws_eqIntS : EqOk (.list 0 (.int .i64)) laws_eqIntS := eqS0_ok (e := 0) (t := .int .i64) (z := (0 : Int))
open Classical in
theorem ok_laws_eqNode : EqOk t_Node laws_eqNode := by
  intro a b h
  have hw : wt t_Node a = 0 + (0 + (a.2.2.1.size + (wt (.list 0 (.int .i64)) a.2.2.2))) := rfl
  simp only [laws_eqNode]
  rw [ok_laws_eqIntS _ _ (by omega)]
  have he : (a = b) = (a.1 = b.1 ∧ a.2.1 = b.2.1 ∧ a.2.2.1 = b.2.2.1 ∧ a.2.2.2 = b.2.2.2) := by simp only [Prod.ext_iff]
  simp only [he]
  by_cases e0 : a.1 = b.1
  case neg => simp [e0]
  by_cases e1 : a.2.1 = b.2.1
  case neg => simp [e0, e1]
  by_cases e2 : a.2.2.1 = b.2.2.1
  case neg => simp [e0, e1, e2]
  by_cases e3 : a.2.2.2 = b.2.2.2
  case neg => simp [e0, e1, e2, e3]
  simp [e0, e1, e2, e3]
theorem ok_laws_eqNodeS : EqOk (.list 0 t_Node) laws_eqNodeS := by
  have e : laws_eqNodeS = eqS (D := Ty.D t_Node) laws_eqNode ((0 : Int), ((0 : Int), ((⟨#[]⟩ : ByteArray), []))) := rfl
  rw [e]; exact eqS_ok (e := 0) ok_laws_eqNode
open Classical in
theorem ok_laws_eqParam : EqOk t_Param laws_eqParam := by
  intro a b h
  have hw : wt t_Param a = a.1.size + (0) := rfl
  simp only [laws_eqParam]
  have he : (a = b) = (a.1 = b.1 ∧ a.2 = b.2) := by simp only [Prod.ext_iff]
  simp only [he]
  by_cases e0 : a.1 = b.1
  case neg => simp [e0]
  by_cases e1 : a.2 = b.2
  case neg => simp [e0, e1]
  simp [e0, e1]
theorem ok_laws_eqParamS : EqOk (.list 0 t_Param) laws_eqParamS := by
  have e : laws_eqParamS = eqS (D := Ty.D t_Param) laws_eqParam ((⟨#[]⟩ : ByteArray), (0 : Int)) := rfl
  rw [e]; exact eqS_ok (e := 0) ok_laws_eqParam
open Classical in
theorem ok_laws_eqFn : EqOk t_Fn laws_eqFn := by
  intro a b h
  have hw : wt t_Fn a = a.1.size + (wt (.list 0 t_Param) a.2.1 + (0 + (0 + (0)))) := rfl
  simp only [laws_eqFn]
  rw [ok_laws_eqParamS _ _ (by omega)]
  have he : (a = b) = (a.1 = b.1 ∧ a.2.1 = b.2.1 ∧ a.2.2.1 = b.2.2.1 ∧ a.2.2.2.1 = b.2.2.2.1 ∧ a.2.2.2.2 = b.2.2.2.2) := by simp only [Prod.ext_iff]
  simp only [he]
  by_cases e0 : a.1 = b.1
  case neg => simp [e0]
  by_cases e1 : a.2.1 = b.2.1
  case neg => simp [e0, e1]
  by_cases e2 : a.2.2.1 = b.2.2.1
  case neg => simp [e0, e1, e2]
  by_cases e3 : a.2.2.2.1 = b.2.2.2.1
  case neg => simp [e0, e1, e2, e3]
  by_cases e4 : a.2.2.2.2 = b.2.2.2.2
  case neg => simp [e0, e1, e2, e3, e4]
  simp [e0, e1, e2, e3, e4]
theorem ok_laws_eqFnS : EqOk (.list 0 t_Fn) laws_eqFnS := by
  have e : laws_eqFnS = eqS (D := Ty.D t_Fn) laws_eqFn ((⟨#[]⟩ : ByteArray), ([], ((0 : Int), ((0 : Int), (0 : Int))))) := rfl
  rw [e]; exact eqS_ok (e := 0) ok_laws_eqFn
open Classical in
theorem ok_laws_eqProgram : EqOk t_Program laws_eqProgram := by
  intro a b h
  have hw : wt t_Program a = wt (.list 0 t_Node) a.1 + (wt (.list 0 t_Fn) a.2) := rfl
  simp only [laws_eqProgram]
  rw [ok_laws_eqNodeS _ _ (by omega)]
  rw [ok_laws_eqFnS _ _ (by omega)]
  have he : (a = b) = (a.1 = b.1 ∧ a.2 = b.2) := by simp only [Prod.ext_iff]
  simp only [he]
  by_cases e0 : a.1 = b.1
  case neg => simp [e0]
  by_cases e1 : a.2 = b.2
  case neg => simp [e0, e1]
  simp [e0, e1]
end Go.Proofs.YtgkgfpbdodafaaaGreatDoorE

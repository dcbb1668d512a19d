/- What the law of X marks is held. No condition beyond each lemma's own. -/
import Derived.Test.YtgkgfpbdodafaaaGreatDoorPackP
import Derived.Test.YtgkgfpbdodafaaaGreatDoorLawAX
set_option linter.all false
namespace Go.Proofs.YtgkgfpbdodafaaaGreatDoorE
set_option maxRecDepth 100000
set_option linter.all false
theorem markText_some (k : Int) (hk : k < 9223372036854775808) : ∃ t : ByteArray, laws_markText k = some (t, ()) := by
  unfold laws_markText
  by_cases h0 : k ≤ 0
  · exact ⟨s_m0_e422, by simp only [h0, decide_true, cond_true]⟩
  · simp only [h0, decide_false, cond_false, Option.bind_some]
    obtain ⟨r, h1, h2⟩ := loopF_inv (step := L1_laws_markText) (fun b => ∃ (n d : Nat), b.1 = (n : Int) ∧ n < 9223372036854775808 ∧ n < 10 ^ d ∧ b.2.1.size + d ≤ 30) (fun b => b.1.toNat) (fun r => r.1.size ≤ 30) (fun b hb => by
      obtain ⟨x, out, u⟩ := b
      obtain ⟨n, d, rfl, g1, g2, g3⟩ := hb
      simp only at g3
      by_cases hn : 0 < n
      · right
        have hn' : (0 : Int) < (n : Int) := by omega
        have e1 : Int.tmod (n : Int) 10 = ((n % 10 : Nat) : Int) := rfl
        have e2 : Int.tdiv (n : Int) 10 = ((n / 10 : Nat) : Int) := rfl
        have hsz : ∀ y : Int, (bts [y]).size = 1 := fun y => by rw [btsSize]; rfl
        cases d with
        | zero => omega
        | succ d =>
          refine ⟨(((n / 10 : Nat) : Int), bts [IntKind.wrap .u8 (IntKind.wrap .i64 ((48 : Int) + ((n % 10 : Nat) : Int)))] ++ out, ()), ?_, ⟨n / 10, d, rfl, by omega, ?_, ?_⟩, ?_⟩
          rotate_left
          · rw [Nat.pow_succ] at g2; omega
          · simp only [ByteArray.size_append, hsz]; omega
          · show (((n / 10 : Nat) : Int)).toNat < ((n : Nat) : Int).toNat
            omega
          · simp only [L1_laws_markText, hn', decide_true, cond_true, nzRun (show (10 : Int) ≠ 0 by decide), e1, e2, wrapNat (show n / 10 < 9223372036854775808 by omega)]
            rw [le_run (by rw [hsz]; simp only [maxI]; omega)]; rfl
      · left
        have hn' : ¬ (0 : Int) < (n : Int) := by omega
        refine ⟨(out, ()), by simp only [L1_laws_markText, hn', decide_false, cond_false, Option.map_some], by show out.size ≤ 30; omega⟩) (k, ⟨#[]⟩, ()) ⟨k.toNat, 19, by simp only; omega, by omega, by
          have : (10 : Nat) ^ 19 = 10000000000000000000 := by decide
          omega, (by decide : (⟨#[]⟩ : ByteArray).size + 19 ≤ 30)⟩
    rw [h1]
    have : s_m_62c6.size = 1 := by decide
    refine ⟨s_m_62c6 ++ r.1, ?_⟩
    simp only [joinP_some]
    rw [le_run (by simp only [maxI]; omega)]
noncomputable def mtx (k : Int) : ByteArray := ((laws_markText k).getD (⟨#[]⟩, ())).1
theorem markText_ok (k : Int) (hk : k < 9223372036854775808) : laws_markText k = some (mtx k, ()) := by
  obtain ⟨t, h⟩ := markText_some k hk
  unfold mtx
  rw [h]; rfl
theorem ok_laws_markIntS : MkOk (.list 0 (.int .i64)) laws_markIntS laws_heldIntS := markS_gen (t := .int .i64) (e := 0) L1_laws_markIntS L1_laws_heldIntS (fun l i k hi hl hk => by
  have hi2 : (i : Int) < (List.length l : Int) := by omega
  have hidx : ∀ {α : Type} {K : Option α}, (Cnd.idx (i : Int) (List.length l)).run K = K := fun {α} {K} => idx_run hi
  have hset : ∀ (l3 : List (Ty.D (.int .i64))) (x z : Ty.D (.int .i64)), i < l3.length → rd (List.set l3 i x) (i : Int) z = x := fun l3 x z h => by rw [rd_nat (by rw [List.length_set]; exact h), List.getElem_set_self]
  have hrd : ∀ z : Ty.D (.int .i64), rd l (i : Int) z = l[i] := fun z => rd_nat hi
  generalize l[i] = e at hk hrd ⊢
  have wi := wrapSucc (show i < 9223372036854775807 by omega)
  have hw : wt (.int .i64) e = 0 := rfl
  have w0 := wrapSucc (show k < 9223372036854775807 by omega)
  refine ⟨k + 1, ((k : Nat) : Int), ?_, by omega, by omega, fun l2 h2 he hl2 => ?_⟩
  · simp only [L1_laws_markIntS, hi2, decide_true, cond_true, hidx, bindD, List.length_set, Int.toNat_natCast, wi, w0, hset, hrd, hi, List.set_set, Option.bind_some, Option.map_some]
    try rfl
  · have hi3 : (i : Int) < (List.length l2 : Int) := by omega
    have hidx2 : ∀ {α : Type} {K : Option α}, (Cnd.idx (i : Int) (List.length l2)).run K = K := fun {α} {K} => idx_run h2
    have hrd2 : ∀ z : Ty.D (.int .i64), rd l2 (i : Int) z = ((k : Nat) : Int) := fun z => by rw [rd_nat h2, he]
    simp only [L1_laws_heldIntS, hi3, decide_true, cond_true, hidx2, hrd2, wi, w0, ne_eq, not_true_eq_false, decide_false, cond_false, Option.bind_some, Option.map_some]
    try rfl)
  (fun l k => by simp only [L1_laws_markIntS, Int.lt_irrefl, decide_false, cond_false, Option.map_some])
  (fun l k => by simp only [L1_laws_heldIntS, Int.lt_irrefl, decide_false, cond_false, Option.map_some])
theorem ok_laws_markNodeS : MkOk (.list 0 t_Node) laws_markNodeS laws_heldNodeS := markS_gen (t := t_Node) (e := 0) L1_laws_markNodeS L1_laws_heldNodeS (fun l i k hi hl hk => by
  have hi2 : (i : Int) < (List.length l : Int) := by omega
  have hidx : ∀ {α : Type} {K : Option α}, (Cnd.idx (i : Int) (List.length l)).run K = K := fun {α} {K} => idx_run hi
  have hset : ∀ (l3 : List (Ty.D t_Node)) (x z : Ty.D t_Node), i < l3.length → rd (List.set l3 i x) (i : Int) z = x := fun l3 x z h => by rw [rd_nat (by rw [List.length_set]; exact h), List.getElem_set_self]
  have hrd : ∀ z : Ty.D t_Node, rd l (i : Int) z = l[i] := fun z => rd_nat hi
  generalize l[i] = e at hk hrd ⊢
  have wi := wrapSucc (show i < 9223372036854775807 by omega)
  have hw : wt t_Node e = 0 + (0 + (e.2.2.1.size + (wt (.list 0 (.int .i64)) (e.2.2.2)))) := rfl
  have w0 := wrapSucc (show k < 9223372036854775807 by omega)
  have w1 := wrapSucc (show k + 1 < 9223372036854775807 by omega)
  have w2 := wrapSucc (show k + 2 < 9223372036854775807 by omega)
  have hw3 : wt (.list 0 (.int .i64)) (e.2.2.2) = (e.2.2.2).length + ((e.2.2.2).map (wt (.int .i64))).sum := rfl
  obtain ⟨k3, p3, a3, b3, c3, d3⟩ := ok_laws_markIntS e.2.2.2 (k + 3) (by omega)
  refine ⟨k3, (((k : Nat) : Int), (((k + 1 : Nat) : Int), (mtx ((k + 2 : Nat) : Int), p3))), ?_, by omega, by omega, fun l2 h2 he hl2 => ?_⟩
  · simp only [L1_laws_markNodeS, hi2, decide_true, cond_true, hidx, bindD, List.length_set, Int.toNat_natCast, wi, w0, w1, w2, hset, hrd, hi, List.set_set, Option.bind_some, Option.map_some, markText_ok _ (show ((k + 2 : Nat) : Int) < 9223372036854775808 by omega), a3]
    try rfl
  · have hi3 : (i : Int) < (List.length l2 : Int) := by omega
    have hidx2 : ∀ {α : Type} {K : Option α}, (Cnd.idx (i : Int) (List.length l2)).run K = K := fun {α} {K} => idx_run h2
    have hrd2 : ∀ z : Ty.D t_Node, rd l2 (i : Int) z = (((k : Nat) : Int), (((k + 1 : Nat) : Int), (mtx ((k + 2 : Nat) : Int), p3))) := fun z => by rw [rd_nat h2, he]
    simp only [L1_laws_heldNodeS, hi3, decide_true, cond_true, hidx2, hrd2, wi, w0, w1, w2, ne_eq, not_true_eq_false, decide_false, cond_false, Option.bind_some, Option.map_some, markText_ok _ (show ((k + 2 : Nat) : Int) < 9223372036854775808 by omega), d3, show ¬ ((k3 : Nat) : Int) < 0 by omega]
    try rfl)
  (fun l k => by simp only [L1_laws_markNodeS, Int.lt_irrefl, decide_false, cond_false, Option.map_some])
  (fun l k => by simp only [L1_laws_heldNodeS, Int.lt_irrefl, decide_false, cond_false, Option.map_some])
theorem ok_laws_markParamS : MkOk (.list 0 t_Param) laws_markParamS laws_heldParamS := markS_gen (t := t_Param) (e := 0) L1_laws_markParamS L1_laws_heldParamS (fun l i k hi hl hk => by
  have hi2 : (i : Int) < (List.length l : Int) := by omega
  have hidx : ∀ {α : Type} {K : Option α}, (Cnd.idx (i : Int) (List.length l)).run K = K := fun {α} {K} => idx_run hi
  have hset : ∀ (l3 : List (Ty.D t_Param)) (x z : Ty.D t_Param), i < l3.length → rd (List.set l3 i x) (i : Int) z = x := fun l3 x z h => by rw [rd_nat (by rw [List.length_set]; exact h), List.getElem_set_self]
  have hrd : ∀ z : Ty.D t_Param, rd l (i : Int) z = l[i] := fun z => rd_nat hi
  generalize l[i] = e at hk hrd ⊢
  have wi := wrapSucc (show i < 9223372036854775807 by omega)
  have hw : wt t_Param e = e.1.size + (0) := rfl
  have w0 := wrapSucc (show k < 9223372036854775807 by omega)
  have w1 := wrapSucc (show k + 1 < 9223372036854775807 by omega)
  refine ⟨k + 2, (mtx ((k : Nat) : Int), ((k + 1 : Nat) : Int)), ?_, by omega, by omega, fun l2 h2 he hl2 => ?_⟩
  · simp only [L1_laws_markParamS, hi2, decide_true, cond_true, hidx, bindD, List.length_set, Int.toNat_natCast, wi, w0, w1, hset, hrd, hi, List.set_set, Option.bind_some, Option.map_some, markText_ok _ (show ((k : Nat) : Int) < 9223372036854775808 by omega)]
    try rfl
  · have hi3 : (i : Int) < (List.length l2 : Int) := by omega
    have hidx2 : ∀ {α : Type} {K : Option α}, (Cnd.idx (i : Int) (List.length l2)).run K = K := fun {α} {K} => idx_run h2
    have hrd2 : ∀ z : Ty.D t_Param, rd l2 (i : Int) z = (mtx ((k : Nat) : Int), ((k + 1 : Nat) : Int)) := fun z => by rw [rd_nat h2, he]
    simp only [L1_laws_heldParamS, hi3, decide_true, cond_true, hidx2, hrd2, wi, w0, w1, ne_eq, not_true_eq_false, decide_false, cond_false, Option.bind_some, Option.map_some, markText_ok _ (show ((k : Nat) : Int) < 9223372036854775808 by omega)]
    try rfl)
  (fun l k => by simp only [L1_laws_markParamS, Int.lt_irrefl, decide_false, cond_false, Option.map_some])
  (fun l k => by simp only [L1_laws_heldParamS, Int.lt_irrefl, decide_false, cond_false, Option.map_some])
theorem ok_laws_markFnS : MkOk (.list 0 t_Fn) laws_markFnS laws_heldFnS := markS_gen (t := t_Fn) (e := 0) L1_laws_markFnS L1_laws_heldFnS (fun l i k hi hl hk => by
  have hi2 : (i : Int) < (List.length l : Int) := by omega
  have hidx : ∀ {α : Type} {K : Option α}, (Cnd.idx (i : Int) (List.length l)).run K = K := fun {α} {K} => idx_run hi
  have hset : ∀ (l3 : List (Ty.D t_Fn)) (x z : Ty.D t_Fn), i < l3.length → rd (List.set l3 i x) (i : Int) z = x := fun l3 x z h => by rw [rd_nat (by rw [List.length_set]; exact h), List.getElem_set_self]
  have hrd : ∀ z : Ty.D t_Fn, rd l (i : Int) z = l[i] := fun z => rd_nat hi
  generalize l[i] = e at hk hrd ⊢
  have wi := wrapSucc (show i < 9223372036854775807 by omega)
  have hw : wt t_Fn e = e.1.size + (wt (.list 0 t_Param) (e.2.1) + (0 + (0 + (0)))) := rfl
  have w0 := wrapSucc (show k < 9223372036854775807 by omega)
  have hw1 : wt (.list 0 t_Param) (e.2.1) = (e.2.1).length + ((e.2.1).map (wt t_Param)).sum := rfl
  obtain ⟨k1, p1, a1, b1, c1, d1⟩ := ok_laws_markParamS e.2.1 (k + 1) (by omega)
  have w2 := wrapSucc (show k1 < 9223372036854775807 by omega)
  have w3 := wrapSucc (show k1 + 1 < 9223372036854775807 by omega)
  have w4 := wrapSucc (show k1 + 2 < 9223372036854775807 by omega)
  refine ⟨k1 + 3, (mtx ((k : Nat) : Int), (p1, (((k1 : Nat) : Int), (((k1 + 1 : Nat) : Int), ((k1 + 2 : Nat) : Int))))), ?_, by omega, by omega, fun l2 h2 he hl2 => ?_⟩
  · simp only [L1_laws_markFnS, hi2, decide_true, cond_true, hidx, bindD, List.length_set, Int.toNat_natCast, wi, w0, w2, w3, w4, hset, hrd, hi, List.set_set, Option.bind_some, Option.map_some, markText_ok _ (show ((k : Nat) : Int) < 9223372036854775808 by omega), a1]
    try rfl
  · have hi3 : (i : Int) < (List.length l2 : Int) := by omega
    have hidx2 : ∀ {α : Type} {K : Option α}, (Cnd.idx (i : Int) (List.length l2)).run K = K := fun {α} {K} => idx_run h2
    have hrd2 : ∀ z : Ty.D t_Fn, rd l2 (i : Int) z = (mtx ((k : Nat) : Int), (p1, (((k1 : Nat) : Int), (((k1 + 1 : Nat) : Int), ((k1 + 2 : Nat) : Int))))) := fun z => by rw [rd_nat h2, he]
    simp only [L1_laws_heldFnS, hi3, decide_true, cond_true, hidx2, hrd2, wi, w0, w2, w3, w4, ne_eq, not_true_eq_false, decide_false, cond_false, Option.bind_some, Option.map_some, markText_ok _ (show ((k : Nat) : Int) < 9223372036854775808 by omega), d1, show ¬ ((k1 : Nat) : Int) < 0 by omega]
    try rfl)
  (fun l k => by simp only [L1_laws_markFnS, Int.lt_irrefl, decide_false, cond_false, Option.map_some])
  (fun l k => by simp only [L1_laws_heldFnS, Int.lt_irrefl, decide_false, cond_false, Option.map_some])
theorem ok_laws_markProgram : MkOk t_Program laws_markProgram laws_heldProgram := by
  intro a k hk
  have hw : wt t_Program a = wt (.list 0 t_Node) (a.1) + (wt (.list 0 t_Fn) (a.2)) := rfl
  obtain ⟨k0, p0, a0, b0, c0, d0⟩ := ok_laws_markNodeS a.1 (k) (by omega)
  obtain ⟨k1, p1, a1, b1, c1, d1⟩ := ok_laws_markFnS a.2 (k0) (by omega)
  refine ⟨k1, (p0, p1), ?_, by omega, by omega, ?_⟩
  · simp only [laws_markProgram, Option.bind_some, a0, a1]
  · simp only [laws_heldProgram, Option.bind_some, decide_false, cond_false, d0, show ¬ ((k0 : Nat) : Int) < 0 by omega, d1, show ¬ ((k1 : Nat) : Int) < 0 by omega]
theorem ok_laws_markWarnS : MkOk (.list 0 t_Warn) laws_markWarnS laws_heldWarnS := markS_gen (t := t_Warn) (e := 0) L1_laws_markWarnS L1_laws_heldWarnS (fun l i k hi hl hk => by
  have hi2 : (i : Int) < (List.length l : Int) := by omega
  have hidx : ∀ {α : Type} {K : Option α}, (Cnd.idx (i : Int) (List.length l)).run K = K := fun {α} {K} => idx_run hi
  have hset : ∀ (l3 : List (Ty.D t_Warn)) (x z : Ty.D t_Warn), i < l3.length → rd (List.set l3 i x) (i : Int) z = x := fun l3 x z h => by rw [rd_nat (by rw [List.length_set]; exact h), List.getElem_set_self]
  have hrd : ∀ z : Ty.D t_Warn, rd l (i : Int) z = l[i] := fun z => rd_nat hi
  generalize l[i] = e at hk hrd ⊢
  have wi := wrapSucc (show i < 9223372036854775807 by omega)
  have hw : wt t_Warn e = 0 + (0 + (e.2.2.size)) := rfl
  have w0 := wrapSucc (show k < 9223372036854775807 by omega)
  have w1 := wrapSucc (show k + 1 < 9223372036854775807 by omega)
  have w2 := wrapSucc (show k + 2 < 9223372036854775807 by omega)
  refine ⟨k + 3, (((k : Nat) : Int), (((k + 1 : Nat) : Int), mtx ((k + 2 : Nat) : Int))), ?_, by omega, by omega, fun l2 h2 he hl2 => ?_⟩
  · simp only [L1_laws_markWarnS, hi2, decide_true, cond_true, hidx, bindD, List.length_set, Int.toNat_natCast, wi, w0, w1, w2, hset, hrd, hi, List.set_set, Option.bind_some, Option.map_some, markText_ok _ (show ((k + 2 : Nat) : Int) < 9223372036854775808 by omega)]
    try rfl
  · have hi3 : (i : Int) < (List.length l2 : Int) := by omega
    have hidx2 : ∀ {α : Type} {K : Option α}, (Cnd.idx (i : Int) (List.length l2)).run K = K := fun {α} {K} => idx_run h2
    have hrd2 : ∀ z : Ty.D t_Warn, rd l2 (i : Int) z = (((k : Nat) : Int), (((k + 1 : Nat) : Int), mtx ((k + 2 : Nat) : Int))) := fun z => by rw [rd_nat h2, he]
    simp only [L1_laws_heldWarnS, hi3, decide_true, cond_true, hidx2, hrd2, wi, w0, w1, w2, ne_eq, not_true_eq_false, decide_false, cond_false, Option.bind_some, Option.map_some, markText_ok _ (show ((k + 2 : Nat) : Int) < 9223372036854775808 by omega)]
    try rfl)
  (fun l k => by simp only [L1_laws_markWarnS, Int.lt_irrefl, decide_false, cond_false, Option.map_some])
  (fun l k => by simp only [L1_laws_heldWarnS, Int.lt_irrefl, decide_false, cond_false, Option.map_some])
end Go.Proofs.YtgkgfpbdodafaaaGreatDoorE

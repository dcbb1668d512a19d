/- Which variables nobody uses: the program's reckoning and the reference's. No condition beyond each lemma's own. -/
import Derived.Test.YtgkgfpbdodafaaaGreatDoorLawVars
set_option linter.all false
namespace Go.Proofs.YtgkgfpbdodafaaaGreatDoorE
set_option linter.all false
set_option maxRecDepth 100000
def isUse (l : List NODE) (k : Int) : Bool := decide ((rd l k zN).1 ≠ 14)
theorem fold_or {α : Type} (q : α → Bool) : ∀ (xs : List α) (b : Bool), xs.foldl (fun b x => b || q x) b = (b || xs.any q)
  | [], b => by simp
  | x :: xs, b => by rw [List.foldl_cons, fold_or q xs, List.any_cons, Bool.or_assoc]
theorem un_innerS (p : PROG) (fn i : Int) (o : List ByteArray) (vs : List VAR) (us : List Int) (hu : us.length ≤ 2097152) (hr : ∀ x ∈ us, 0 ≤ x ∧ x < (p.1.length : Int)) :
    loopF L1_spec_UnusedVars (fn, o, vs, i, false, us, (0 : Int), p, ()) = some (fn, o, vs, i, us.any (isUse p.1), p, ()) := by
  have h := loopF_fold (step := L1_spec_UnusedVars) us (fun b k => b || isUse p.1 k) (fun k b => (fn, o, vs, i, b, us, (k : Int), p, ())) (fun b => (fn, o, vs, i, b, p, ())) (fun _ _ => True) (fun k hk b _ => by
    refine ⟨?_, trivial⟩
    simp only [L1_spec_UnusedVars, lt_cast hk, decide_true, cond_true]
    cases b
    · simp only [cond_false, idx_run hk, rd_nat hk, idx_range (hr _ (List.getElem_mem hk)), joinP_some, Option.map_some, wrapSucc (show k < 9223372036854775807 by omega), Bool.false_or, isUse]
    · simp only [cond_true, joinP_some, Option.map_some, wrapSucc (show k < 9223372036854775807 by omega), Bool.true_or]) (fun b _ => by
    simp only [L1_spec_UnusedVars, not_lt_self, decide_false, cond_false, Option.map_some]) false trivial
  have h' := h.1
  rw [fold_or, Bool.false_or] at h'
  exact h'
theorem un_innerI (p : PROG) (fn vl i : Int) (o : List ByteArray) (vs : List VAR) (v : VAR) (us : List Int) (hu : us.length ≤ 2097152) (hr : ∀ x ∈ us, 0 ≤ x ∧ x < (p.1.length : Int)) :
    loopF L1_impl_UnusedVars (fn, o, false, vs, vl, i, us, (us.length : Int), (0 : Int), p, v, ()) = some (fn, o, us.any (isUse p.1), vs, vl, i, p, v, ()) := by
  have h := loopF_fold (step := L1_impl_UnusedVars) us (fun b k => b || isUse p.1 k) (fun k b => (fn, o, b, vs, vl, i, us, (us.length : Int), (k : Int), p, v, ())) (fun b => (fn, o, b, vs, vl, i, p, v, ())) (fun _ _ => True) (fun k hk b _ => by
    refine ⟨?_, trivial⟩
    simp only [L1_impl_UnusedVars, lt_cast hk, decide_true, cond_true, idx_run hk]
    cases b
    · simp only [cond_false, rd_nat hk, idx_range (hr _ (List.getElem_mem hk)), joinP_some, Option.map_some, wrapSucc (show k < 9223372036854775807 by omega), Bool.false_or, isUse]
    · simp only [cond_true, joinP_some, Option.map_some, wrapSucc (show k < 9223372036854775807 by omega), Bool.true_or]) (fun b _ => by
    simp only [L1_impl_UnusedVars, not_lt_self, decide_false, cond_false, Option.map_some]) false trivial
  have h' := h.1
  rw [fold_or, Bool.false_or] at h'
  exact h'
def unusedQ (p : PROG) (fn : Int) (v : VAR) : Bool := !(usesOf p fn v.1).any (isUse p.1)
def unusedV (p : PROG) (fn : Int) : List ByteArray := ((varsOf p fn).filter (unusedQ p fn)).map (fun v => v.1)
theorem uses_rng {p : PROG} {fn : Int} {s : ByteArray} : ∀ x ∈ usesOf p fn s, 0 ≤ x ∧ x < (p.1.length : Int) := fun x h => (fnN_rng (uses_mem h)).1
theorem spec_Unused_ok (p : PROG) (hp : FineP p) (fn : Int) : spec_UnusedVars p fn = some (unusedV p fn, ()) := by
  have hlen := vars_len hp fn
  have h := loopF_fold (step := L2_spec_UnusedVars) (varsOf p fn) (fun o v => bif unusedQ p fn v then o ++ [v.1] else o) (fun i o => (fn, o, varsOf p fn, (i : Int), p, ())) (fun o => (o, ())) (fun i o => o.length ≤ i) (fun i hi o ho => by
    have hin := un_innerS p fn (i : Int) o (varsOf p fn) (usesOf p fn (varsOf p fn)[i].1) (uses_len hp ..) uses_rng
    simp only [L2_spec_UnusedVars, lt_cast hi, decide_true, cond_true, idx_run hi, rd_nat hi, spec_Uses_ok p hp, Option.bind_some, hin, joinP_some, unusedQ]
    cases (usesOf p fn (varsOf p fn)[i].1).any (isUse p.1)
    · simp only [Bool.not_false, cond_true, idx_run hi, rd_nat hi]
      rw [le_run (by simp; omega)]
      simp only [joinP_some, Option.map_some, wrapSucc (show i < 9223372036854775807 by omega)]
      exact ⟨by trivial, by simp; omega⟩
    · simp only [Bool.not_true, cond_false, joinP_some, Option.map_some, wrapSucc (show i < 9223372036854775807 by omega)]
      exact ⟨by trivial, by omega⟩) (fun o ho => by
    simp only [L2_spec_UnusedVars, not_lt_self, decide_false, cond_false, Option.map_some]) [] (Nat.le_refl 0)
  have h' : loopF L2_spec_UnusedVars (fn, [], varsOf p fn, (0 : Int), p, ()) = _ := h.1
  unfold spec_UnusedVars
  rw [spec_Vars_ok p hp, Option.bind_some]
  simp only [Option.bind_some, h', joinP_some]
  rw [fold_filter, List.nil_append]
  rfl
theorem impl_Unused_ok (p : PROG) (hp : FineP p) (fn : Int) : impl_UnusedVars p fn = some (unusedV p fn, ()) := by
  have hlen := vars_len hp fn
  have h := loopF_fold (step := L2_impl_UnusedVars) (varsOf p fn) (fun o v => bif unusedQ p fn v then o ++ [v.1] else o) (fun i o => (fn, o, varsOf p fn, ((varsOf p fn).length : Int), (i : Int), p, ())) (fun o => (o, ())) (fun i o => o.length ≤ i) (fun i hi o ho => by
    have hin := un_innerI p fn ((varsOf p fn).length : Int) (i : Int) o (varsOf p fn) (varsOf p fn)[i] (usesOf p fn (varsOf p fn)[i].1) (uses_len hp ..) uses_rng
    simp only [L2_impl_UnusedVars, lt_cast hi, decide_true, cond_true, idx_run hi, rd_nat hi, impl_Uses_ok p hp, Option.bind_some, hin, joinP_some, unusedQ]
    cases (usesOf p fn (varsOf p fn)[i].1).any (isUse p.1)
    · simp only [Bool.not_false, cond_true]
      rw [le_run (by simp; omega)]
      simp only [joinP_some, Option.map_some, wrapSucc (show i < 9223372036854775807 by omega)]
      exact ⟨by trivial, by simp; omega⟩
    · simp only [Bool.not_true, cond_false, joinP_some, Option.map_some, wrapSucc (show i < 9223372036854775807 by omega)]
      exact ⟨by trivial, by omega⟩) (fun o ho => by
    simp only [L2_impl_UnusedVars, not_lt_self, decide_false, cond_false, Option.map_some]) [] (Nat.le_refl 0)
  have h' : loopF L2_impl_UnusedVars (fn, [], varsOf p fn, ((varsOf p fn).length : Int), (0 : Int), p, ()) = _ := h.1
  unfold impl_UnusedVars
  rw [impl_Vars_ok p hp, Option.bind_some]
  simp only [Option.bind_some, h', joinP_some]
  rw [fold_filter, List.nil_append]
  rfl
theorem sum_filter {α : Type} (w : α → Nat) (q : α → Bool) : ∀ l : List α, ((l.filter q).map w).sum ≤ (l.map w).sum
  | [] => Nat.le_refl _
  | x :: l => by
    have := sum_filter w q l
    cases h : q x <;> simp [h] <;> omega
theorem sum_le {α : Type} (f g : α → Nat) (h : ∀ x, f x ≤ g x) : ∀ l : List α, (l.map f).sum ≤ (l.map g).sum
  | [] => Nat.le_refl _
  | x :: l => by
    have := sum_le f g h l
    have := h x
    simp only [List.map_cons, List.sum_cons]
    omega
theorem sum_range {α : Type} (w : α → Nat) (z : α) (l : List α) : ((List.range l.length).map fun (t : Nat) => w (rd l (t : Int) z)).sum = (l.map w).sum := by
  congr 1
  refine List.ext_getElem (by simp) fun i h1 h2 => ?_
  have hi : i < l.length := by simpa using h1
  simp [rd_nat hi, hi]
theorem sum_one {α : Type} (f : α → Nat) : ∀ l : List α, (l.map fun x => 1 + f x).sum = l.length + (l.map f).sum
  | [] => rfl
  | x :: l => by
    have := sum_one f l
    simp only [List.map_cons, List.sum_cons, List.length_cons]
    omega
def nw (l : List NODE) (k : Int) : Nat := 1 + (rd l k zN).2.2.1.size
theorem unds_wt (l : List NODE) (r : Int) : ((unds l r).map (nw l)).sum ≤ l.length + (l.map (wt t_Node)).sum := by
  have h0 : ((List.range l.length).map fun (t : Nat) => nw l (t : Int)).sum ≤ l.length + (l.map (wt t_Node)).sum := by
    have h1 := sum_range (fun x : NODE => 1 + x.2.2.1.size) zN l
    have h2 := sum_one (fun x : NODE => x.2.2.1.size) l
    have h3 := sum_le (fun x : NODE => x.2.2.1.size) (wt t_Node) (fun x => by have := wt_node x; omega) l
    have h4 : ((List.range l.length).map fun (t : Nat) => nw l (t : Int)).sum = _ := h1
    omega
  unfold unds
  cases decide (deepAt l r = 0)
  · rw [cond_false, undL, List.map_map]
    exact Nat.le_trans (sum_filter _ _ _) h0
  · simp
theorem unusedV_wt (p : PROG) (hp : FineP p) (fn : Int) : wt (.list 0 .str) (unusedV p fn) ≤ wt t_Program p := by
  have e : wt (.list 0 .str) (unusedV p fn) = (unusedV p fn).length + ((unusedV p fn).map ByteArray.size).sum := rfl
  have e1 : (unusedV p fn).length + ((unusedV p fn).map ByteArray.size).sum = (((varsOf p fn).filter (unusedQ p fn)).map fun v => 1 + v.1.size).sum := by
    unfold unusedV
    generalize (varsOf p fn).filter (unusedQ p fn) = l
    induction l with
    | nil => rfl
    | cons x l ih => simp only [List.map_cons, List.sum_cons, List.length_cons] at ih ⊢; omega
  have e2 := sum_filter (fun v : VAR => 1 + v.1.size) (unusedQ p fn) (varsOf p fn)
  have e3 : ((varsOf p fn).map fun v => 1 + v.1.size).sum ≤ wt t_Program p := by
    have a1 := wt_prog p
    unfold varsOf
    by_cases hr : 0 ≤ fn ∧ fn ≤ (p.2.length : Int) - 1
    case neg => simp [fnIn, hr]
    obtain ⟨k, rfl⟩ : ∃ m : Nat, fn = (m : Int) := ⟨fn.toNat, by omega⟩
    have hk : k < p.2.length := by omega
    have a2 := sum_mem (f := wt t_Fn) hk
    rw [show fnIn p (k : Int) = true from decide_eq_true hr, cond_true, rd_nat hk]
    have a3 := wt_fn p.2[k]
    generalize p.2[k] = x at a2 a3 ⊢
    rw [List.map_append, List.sum_append, List.map_map, List.map_map]
    have b1 : (x.2.1.map ((fun v : VAR => 1 + v.1.size) ∘ parV)).sum ≤ x.2.1.length + (x.2.1.map (wt t_Param)).sum := by
      generalize x.2.1 = l
      induction l with
      | nil => exact Nat.le_refl _
      | cons y l ih =>
        have : wt t_Param y = y.1.size + 0 := rfl
        simp only [List.map_cons, List.sum_cons, List.length_cons, Function.comp, parV] at ih ⊢
        omega
    have b2 : (((unds p.1 x.2.2.2.1).filter (isLet p.1)).map ((fun v : VAR => 1 + v.1.size) ∘ letV p.1)).sum ≤ ((unds p.1 x.2.2.2.1).map (nw p.1)).sum := sum_filter _ _ _
    have b3 := unds_wt p.1 x.2.2.2.1
    omega
  omega
end Go.Proofs.YtgkgfpbdodafaaaGreatDoorE

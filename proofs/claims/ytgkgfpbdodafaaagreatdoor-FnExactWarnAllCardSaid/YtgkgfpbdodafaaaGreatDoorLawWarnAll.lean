/- The law FnExactWarnAll, the plain part. No condition beyond the law's own bounds. -/
import Derived.Test.YtgkgfpbdodafaaaGreatDoorLawWarnW
import Derived.Test.YtgkgfpbdodafaaaGreatDoorLawCalls
import Derived.Test.YtgkgfpbdodafaaaGreatDoorLawMX
set_option linter.all false
namespace Go.Proofs.YtgkgfpbdodafaaaGreatDoorE
set_option linter.all false
set_option maxRecDepth 100000
def deadL (n : Nat) (r : List Int) : List Int := ((List.range n).filter fun (t : Nat) => !hasI r (t : Int)).map fun (t : Nat) => (t : Int)
theorem deadL_len (n : Nat) (r : List Int) : (deadL n r).length ≤ n := by
  unfold deadL
  rw [List.length_map]
  exact Nat.le_trans (filter_len ..) (by simp)
theorem deadL_nodup (n : Nat) (r : List Int) : (deadL n r).Nodup := by
  unfold deadL
  have : (((List.range n).filter fun (t : Nat) => !hasI r (t : Int)).map fun (t : Nat) => (t : Int)).Pairwise (· < ·) := by
    rw [List.pairwise_map]
    refine List.Pairwise.imp ?_ ((List.pairwise_lt_range (n := n)).filter _)
    intro a b h; omega
  exact this.imp fun {a b} h => by omega
theorem dead_loopS (p : PROG) (hf : p.2.length ≤ 1048576) (r : List Int) (hr : r.Pairwise (· < ·)) (hrl : r.length ≤ 1048576) : ∀ (m k : Nat) (a b out : List Int), k + m = p.2.length → r = a ++ b → (∀ x ∈ a, x < (k : Int)) → (∀ x ∈ b, (k : Int) ≤ x) → out.length ≤ k →
    loopF L1_spec_DeadFns (out, r, (a.length : Int), (k : Int), p, ()) = some (out ++ ((List.range' k m).filter fun (t : Nat) => !hasI r (t : Int)).map (fun (t : Nat) => (t : Int)), ()) := by
  intro m
  induction m with
  | zero =>
    intro k a b out hk hab ha hb ho
    obtain rfl : k = p.2.length := by omega
    rw [loopF_inr (r := (out, ())) (by simp only [L1_spec_DeadFns, not_lt_self, decide_false, cond_false, Option.map_some])]
    simp
  | succ m ih =>
    intro k a b out hk hab ha hb ho
    have hkl : k < p.2.length := by omega
    have wk := wrapSucc (show k < 9223372036854775807 by omega)
    have hal : a.length ≤ 1048576 := by rw [hab] at hrl; simp at hrl; omega
    have wa := wrapSucc (show a.length < 9223372036854775807 by omega)
    have stay : (∀ x ∈ b, ((k + 1 : Nat) : Int) ≤ x) → hasI r (k : Int) = false → L1_spec_DeadFns (out, r, (a.length : Int), (k : Int), p, ()) = some (.inl (out ++ [(k : Int)], r, (a.length : Int), ((k + 1 : Nat) : Int), p, ())) → loopF L1_spec_DeadFns (out, r, (a.length : Int), (k : Int), p, ()) = some (out ++ ((List.range' k (m + 1)).filter fun (t : Nat) => !hasI r (t : Int)).map (fun (t : Nat) => (t : Int)), ()) := fun hb2 hno hst => by
      rw [loopF_inl hst, ih (k + 1) a b _ (by omega) hab (fun x hx => by have := ha x hx; omega) hb2 (by simp; omega), List.range'_succ, List.filter_cons]
      rw [hno]
      simp
    cases b with
    | nil =>
      have hra : r = a := by simpa using hab
      have hno : hasI r (k : Int) = false := by
        rw [hasI_not, hra]; intro h; have := ha _ h; omega
      refine stay (fun x hx => by simp at hx) hno ?_
      have hnl : ¬ ((a.length : Int) < (r.length : Int)) := by rw [hra]; omega
      simp only [L1_spec_DeadFns, lt_cast hkl, decide_true, cond_true, hnl, decide_false, cond_false, joinP_some]
      rw [le_run (by simp; omega)]
      simp only [joinP_some, Option.map_some, wk]
    | cons x b =>
      have hlt : a.length < r.length := by rw [hab]; simp
      have hget : r[a.length] = x := by simp [hab]
      by_cases hx : x = (k : Int)
      · have hin : hasI r (k : Int) = true := by rw [hasI_iff, hab, ← hx]; simp
        have hst : L1_spec_DeadFns (out, r, (a.length : Int), (k : Int), p, ()) = some (.inl (out, r, ((a.length + 1 : Nat) : Int), ((k + 1 : Nat) : Int), p, ())) := by
          simp only [L1_spec_DeadFns, lt_cast hkl, decide_true, cond_true, lt_cast hlt, idx_run hlt, rd_nat hlt, hget, hx, joinP_some, Option.map_some, wk, wa]
        have hbx : ∀ y ∈ b, x < y := by
          rw [hab] at hr
          have := (List.pairwise_append.1 hr).2.1
          exact (List.pairwise_cons.1 this).1
        have e : ((a.length + 1 : Nat) : Int) = ((a ++ [x]).length : Int) := by simp
        rw [loopF_inl hst, e, ih (k + 1) (a ++ [x]) b out (by omega) (by rw [hab]; simp) (fun y hy => by
          rcases List.mem_append.1 hy with h | h
          · have := ha y h; omega
          · simp at h; omega) (fun y hy => by have := hbx y hy; omega) (by omega), List.range'_succ, List.filter_cons]
        rw [hin]
        simp
      · have hbx : ∀ y ∈ (x :: b), x ≤ y := by
          rw [hab] at hr
          have := (List.pairwise_append.1 hr).2.1
          intro y hy
          rcases List.mem_cons.1 hy with h | h
          · omega
          · have := (List.pairwise_cons.1 this).1 y h; omega
        have hkx : (k : Int) < x := by have := hb x (List.mem_cons_self ..); omega
        have hno : hasI r (k : Int) = false := by
          rw [hasI_not, hab]; intro h
          rcases List.mem_append.1 h with h | h
          · have := ha _ h; omega
          · have := hbx _ h; omega
        refine stay (fun y hy => by have := hbx y hy; omega) hno ?_
        simp only [L1_spec_DeadFns, lt_cast hkl, decide_true, cond_true, lt_cast hlt, idx_run hlt, rd_nat hlt, hget, hx, decide_false, cond_false, joinP_some]
        rw [le_run (by simp; omega)]
        simp only [joinP_some, Option.map_some, wk]
theorem dead_both (p : PROG) (hp : FineP p) : ∃ r, spec_DeadFns p = some (deadL p.2.length r, ()) ∧ impl_DeadFns p = some (deadL p.2.length r, ()) := by
  have hf := hp.f
  obtain ⟨r, R⟩ := reach_both p hp ((p.2.length : Int) - 1)
  have hrl := R.g.len
  refine ⟨r, ?_, ?_⟩
  · have h := dead_loopS p hf r R.o (by omega) p.2.length 0 [] r [] (by omega) rfl (fun x hx => by simp at hx) (fun x hx => (R.g.2 x hx).1) (Nat.le_refl _)
    have h' : loopF L1_spec_DeadFns ([], r, (0 : Int), (0 : Int), p, ()) = _ := h
    unfold spec_DeadFns
    rw [lenf1 hp, R.s, Option.bind_some]
    simp only [Option.bind_some, h', joinP_some, List.nil_append, deadL, List.range_eq_range']
  · have h := loopF_fold (step := L1_impl_DeadFns) (List.range p.2.length) (fun o t => bif !hasI r (t : Int) then o ++ [(t : Int)] else o) (fun i o => (r, o, (p.2.length : Int), (i : Int), ())) (fun o => (o, ())) (fun i o => o.length ≤ i) (fun i hi o ho => by
      have hi' : i < p.2.length := by simpa using hi
      simp only [L1_impl_DeadFns, lt_cast hi', decide_true, cond_true, iHas r _ (show r.length ≤ 4000000 by omega), Option.bind_some, List.getElem_range]
      cases hasI r (i : Int)
      · simp only [Bool.not_false, cond_true]
        rw [le_run (by simp; omega)]
        simp only [joinP_some, Option.map_some, wrapSucc (show i < 9223372036854775807 by omega)]
        exact ⟨by trivial, by simp; omega⟩
      · simp only [Bool.not_true, cond_false, joinP_some, Option.map_some, wrapSucc (show i < 9223372036854775807 by omega)]
        exact ⟨by trivial, by omega⟩) (fun o _ => by
      simp only [L1_impl_DeadFns, List.length_range, not_lt_self, decide_false, cond_false, Option.map_some]) [] (Nat.le_refl 0)
    have h' : loopF L1_impl_DeadFns (r, [], (p.2.length : Int), (0 : Int), ()) = _ := h.1
    unfold impl_DeadFns
    rw [lenf1 hp, R.i, Option.bind_some]
    simp only [Option.bind_some, h', joinP_some]
    rw [fold_filter, List.nil_append]
    rfl
def wDead (p : PROG) (d : List Int) (i : Nat) (o : List WARN) : List WARN := bif hasI d (i : Int) then o ++ [((5 : Int), ((i : Int), (rd p.2 (i : Int) zF).1))] else o
def wAll (p : PROG) (d : List Int) (o : List WARN) (i : Nat) : List WARN := wDead p d i (o ++ warnFn p (i : Int))
theorem fold_once (w : List WARN) (i : Int) : ∀ (d : List Int) (o : List WARN), d.Nodup → d.foldl (fun o x => bif decide (x = i) then o ++ w else o) o = bif hasI d i then o ++ w else o
  | [], o, _ => by simp [hasI]
  | x :: d, o, h => by
    rw [List.nodup_cons] at h
    rw [List.foldl_cons]
    by_cases hx : x = i
    · subst hx
      rw [decide_eq_true rfl, cond_true, fold_once w x d _ h.2, hasI_not.2 h.1]
      simp [hasI]
    · rw [decide_eq_false hx, cond_false, fold_once w i d _ h.2]
      have : hasI (x :: d) i = hasI d i := by unfold hasI; rw [List.any_cons, decide_eq_false hx, Bool.false_or]
      rw [this]
theorem warnFn_len (p : PROG) (fn : Int) : (warnFn p fn).length ≤ 9927 := by
  have h1 := warnFn_wt p fn
  have h2 := wW_eq (warnFn p fn)
  omega
theorem wDead_len (p : PROG) (d : List Int) (i : Nat) (o : List WARN) : (wDead p d i o).length ≤ o.length + 1 := by unfold wDead; cases hasI d (i : Int) <;> simp
theorem wAll_len (p : PROG) (d : List Int) (i : Nat) (o : List WARN) : (wAll p d o i).length ≤ o.length + 9928 := by
  have h1 := wDead_len p d i (o ++ warnFn p (i : Int))
  have h2 := warnFn_len p (i : Int)
  unfold wAll
  rw [List.length_append] at h1
  omega
theorem all_innerS (p : PROG) (i : Nat) (hi : i < p.2.length) (d : List Int) (hd : d.Nodup) (hdl : d.length ≤ 1048576) (o : List WARN) (ho : o.length ≤ 10000000) :
    loopF L1_spec_WarnAll (o, d, (i : Int), (0 : Int), p, ()) = some (wDead p d i o, d, (i : Int), p, ()) := by
  have h := loopF_fold (step := L1_spec_WarnAll) d (fun o x => bif decide (x = (i : Int)) then o ++ [((5 : Int), ((i : Int), (rd p.2 (i : Int) zF).1))] else o) (fun k o => (o, d, (i : Int), (k : Int), p, ())) (fun o => (o, d, (i : Int), p, ())) (fun k o => o.length ≤ 10000000 + k) (fun k hk o ho => by
    simp only [L1_spec_WarnAll, lt_cast hk, decide_true, cond_true, idx_run hk, rd_nat hk, idx_run hi]
    cases decide (d[k] = (i : Int))
    · simp only [cond_false, joinP_some, Option.map_some, wrapSucc (show k < 9223372036854775807 by omega)]
      exact ⟨by trivial, by omega⟩
    · simp only [cond_true]
      rw [le_run (by simp; omega)]
      simp only [joinP_some, Option.map_some, wrapSucc (show k < 9223372036854775807 by omega)]
      exact ⟨by trivial, by simp; omega⟩) (fun o _ => by
    simp only [L1_spec_WarnAll, not_lt_self, decide_false, cond_false, Option.map_some]) o (by omega)
  have h' := h.1
  rw [fold_once _ _ d o hd] at h'
  exact h'
def warnAll (p : PROG) (d : List Int) : List WARN := bif namesRight p then (List.range p.2.length).foldl (wAll p d) [] else []
theorem all_both (p : PROG) (hp : FineP p) : ∃ d, spec_WarnAll p = some (warnAll p d, ()) ∧ impl_WarnAll p = some (warnAll p d, ()) := by
  have hf := hp.f
  obtain ⟨r, d1, d2⟩ := dead_both p hp
  have hnd := deadL_nodup p.2.length r
  have hdl := deadL_len p.2.length r
  generalize deadL p.2.length r = d at d1 d2 hnd hdl
  refine ⟨d, ?_, ?_⟩
  · unfold spec_WarnAll warnAll
    rw [spec_Names_ok p hp, Option.bind_some]
    cases hn : namesRight p
    · simp only [Bool.not_false, cond_true, cond_false]
    have P : POK p := by
      unfold namesRight at hn
      rw [Bool.and_eq_true] at hn
      exact pok_of hn.1
    have h8 := P.m
    have h := loopF_fold (step := L2_spec_WarnAll) (List.range p.2.length) (wAll p d) (fun i o => (o, d, (i : Int), p, ())) (fun o => (o, ())) (fun i o => o.length ≤ 9928 * i) (fun i hi o ho => by
      have hi' : i < p.2.length := by simpa using hi
      have hwl := warnFn_len p (i : Int)
      have hal := wAll_len p d i o
      have hin := all_innerS p i hi' d hnd (by omega) (o ++ warnFn p (i : Int)) (by rw [List.length_append]; omega)
      simp only [L2_spec_WarnAll, lt_cast hi', decide_true, cond_true, spec_Warn_ok p hp, Option.bind_some, List.getElem_range]
      rw [le_run (by omega)]
      simp only [hin, joinP_some, Option.map_some, wrapSucc (show i < 9223372036854775807 by omega)]
      exact ⟨by trivial, by omega⟩) (fun o _ => by
      simp only [L2_spec_WarnAll, List.length_range, not_lt_self, decide_false, cond_false, Option.map_some]) [] (Nat.le_refl 0)
    have h' : loopF L2_spec_WarnAll ([], d, (0 : Int), p, ()) = _ := h.1
    simp only [Bool.not_true, cond_false, cond_true, d1, Option.bind_some, h', joinP_some]
  · unfold impl_WarnAll warnAll
    rw [impl_Names_ok p hp, Option.bind_some]
    cases hn : namesRight p
    · simp only [Bool.not_false, cond_true, cond_false]
    have P : POK p := by
      unfold namesRight at hn
      rw [Bool.and_eq_true] at hn
      exact pok_of hn.1
    have h8 := P.m
    have h := loopF_fold (step := L1_impl_WarnAll) (List.range p.2.length) (wAll p d) (fun i o => (d, o, p.2, (p.2.length : Int), (i : Int), p, ())) (fun o => (o, ())) (fun i o => o.length ≤ 9928 * i) (fun i hi o ho => by
      have hi' : i < p.2.length := by simpa using hi
      have hwl := warnFn_len p (i : Int)
      have hal := wAll_len p d i o
      simp only [L1_impl_WarnAll, lt_cast hi', decide_true, cond_true, idx_run hi', impl_Warn_ok p hp, Option.bind_some, List.getElem_range]
      rw [le_run (by omega)]
      rw [iHas d _ (by omega), Option.bind_some]
      refine ⟨?_, by omega⟩
      simp only [wAll, wDead]
      cases hasI d (i : Int)
      · simp only [cond_false, joinP_some, Option.map_some, wrapSucc (show i < 9223372036854775807 by omega)]
      · simp only [cond_true]
        rw [le_run (by rw [List.length_append]; simp; omega)]
        simp only [joinP_some, Option.map_some, wrapSucc (show i < 9223372036854775807 by omega)]) (fun o _ => by
      simp only [L1_impl_WarnAll, List.length_range, not_lt_self, decide_false, cond_false, Option.map_some]) [] (Nat.le_refl 0)
    have h' : loopF L1_impl_WarnAll (d, [], p.2, (p.2.length : Int), (0 : Int), p, ()) = _ := h.1
    simp only [Bool.not_true, cond_false, cond_true, d2, Option.bind_some, h', joinP_some]
theorem warnAll_wt (p : PROG) (d : List Int) : wW (warnAll p d) ≤ 100000 := by
  unfold warnAll
  cases hn : namesRight p
  · rw [cond_false, wW_eq]; simp
  have P : POK p := by
    unfold namesRight at hn
    rw [Bool.and_eq_true] at hn
    exact pok_of hn.1
  have h8 := P.m
  rw [cond_true]
  have key : ∀ (l : List Nat) (o : List WARN), (∀ i ∈ l, i < p.2.length) → wW (l.foldl (wAll p d) o) ≤ wW o + 9936 * l.length := by
    intro l
    induction l with
    | nil => intro o _; exact Nat.le_refl _
    | cons i l ih =>
      intro o hl
      have h1 := ih (wAll p d o i) fun j hj => hl j (List.mem_cons_of_mem _ hj)
      have h2 := warnFn_wt p (i : Int)
      have h3 := (fn_names P (hl i (List.mem_cons_self ..))).1
      have h4 : wW (wAll p d o i) ≤ wW o + 9936 := by
        unfold wAll wDead
        cases hasI d (i : Int)
        · rw [cond_false, wW_app]; omega
        · rw [cond_true, wW_app, wW_app, wW_one]; simp only; omega
      simp only [List.foldl_cons, List.length_cons, Nat.mul_add]
      omega
  have h1 := key (List.range p.2.length) [] (fun i hi => List.mem_range.1 hi)
  have h2 : wW [] = 0 := rfl
  rw [List.length_range] at h1
  omega
namespace WarnAll
theorem pure (c : PROG) (hb : Bnd t_Program c) : laws_FnExactWarnAll c = some (true, ()) := by
  simp only [laws_FnExactWarnAll]
  rw [ok_laws_szProgram c 1048576 hb (by decide) (by decide)]
  by_cases hw : (wt t_Program c : Int) ≤ 1048576
  case neg => rw [if_neg hw]; simp
  rw [if_pos hw]
  have hbig : big = 1048576 := rfl
  have h1 : wt t_Program c ≤ big := by omega
  have f1 := finep_of c (by omega)
  obtain ⟨d, dS, dI⟩ := all_both c f1
  have hwt : wt (.list 0 t_Warn) (warnAll c d) ≤ 100000 := warnAll_wt c d
  generalize warnAll c d = w at dS dI hwt
  have e1 : laws_eqProgram c c = some (true, ()) := by rw [ok_laws_eqProgram _ _ h1]; simp
  have e3 : laws_eqWarnS w w = some (true, ()) := by rw [ok_laws_eqWarnS _ _ (by omega)]; simp
  obtain ⟨k1, p1, a1, b1, c1, d1⟩ := ok_laws_markProgram c 1 (by omega)
  obtain ⟨k3, p3, a3, b3, c3, m3⟩ := ok_laws_markWarnS w 1 (by omega)
  have a1' : laws_markProgram c (1 : Int) = _ := a1
  have a3' : laws_markWarnS w (1 : Int) = _ := a3
  have m3' : laws_heldWarnS p3 (1 : Int) = _ := m3
  have n2 : ¬ ((k1 : Int) < 0) := by omega
  have n3 : ¬ ((k3 : Int) < 0) := by omega
  simp only [Option.bind_some, show ¬ ((1048576 : Int) - (wt t_Program c : Int) < 0) by omega, decide_false, cond_false, ok_laws_toProgram c h1, dS, dI, e1, e3, Bool.not_true, a1', a3', m3', n2, n3, joinP_some, ne_eq, not_true_eq_false]
end WarnAll
end Go.Proofs.YtgkgfpbdodafaaaGreatDoorE

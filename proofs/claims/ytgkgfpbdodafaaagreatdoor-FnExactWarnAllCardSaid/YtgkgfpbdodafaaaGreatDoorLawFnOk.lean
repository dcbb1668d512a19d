/- Which functions are right, as the program has it and as the reference has it. No condition beyond each lemma's own. -/
import Derived.Test.YtgkgfpbdodafaaaGreatDoorLawPOk
set_option linter.all false
namespace Go.Proofs.YtgkgfpbdodafaaaGreatDoorE
set_option linter.all false
set_option maxRecDepth 100000
def parOk (q : ByteArray × Int) : Bool := nameOk q.1 && decide (1 ≤ q.2 ∧ q.2 ≤ 4)
def pars (x : FN) : Bool := x.2.1.all parOk
def bodyOk (l : List NODE) (x : FN) : Bool := decide (0 ≤ x.2.2.2.1 ∧ x.2.2.2.1 ≤ (l.length : Int) - 1) && decide ((rd l x.2.2.2.1 zN).1 = 20)
def retOk (l : List NODE) (x : FN) : Bool := bif decide (x.2.2.1 = 0) then decide (x.2.2.2.2 = -1) else decide (0 ≤ x.2.2.2.2 ∧ x.2.2.2.2 ≤ (l.length : Int) - 1) && decide (1 ≤ (rd l x.2.2.2.2 zN).1 ∧ (rd l x.2.2.2.2 zN).1 ≤ 12)
def fnI (l : List NODE) (x : FN) : Bool := nameOk x.1 && (decide ((x.2.1.length : Int) ≤ 3) && (decide (0 ≤ x.2.2.1 ∧ x.2.2.1 ≤ 2) && (pars x && (bodyOk l x && retOk l x))))
def fokB (p : PROG) (i : Int) : Bool := fnI p.1 (rd p.2 i zF) && decide (fnAt p.2 (rd p.2 i zF).1 = i)
theorem parsS (p : PROG) (x : FN) (hx : x.2.1.length ≤ 1048576) : loopF L1_spec_l04Fn ((0 : Int), p, x, ()) = some (bif pars x then .inl (p, x, ()) else .inr (false, ())) := by
  exact loopF_all (step := L1_spec_l04Fn) x.2.1 parOk (fun k => ((k : Int), p, x, ())) (.inl (p, x, ())) (.inr (false, ())) (fun k hk => by
    have wk := wrapSucc (show k < 9223372036854775807 by omega)
    simp only [L1_spec_l04Fn, lt_cast hk, decide_true, cond_true, idx_run hk, rd_nat hk, spec_NameOk_ok, sIn, Option.bind_some, parOk]
    cases nameOk x.2.1[k].1
    · simp only [Bool.not_false, cond_true, joinP_some, Option.map_some, Bool.false_and, cond_false]
    · cases decide (1 ≤ x.2.1[k].2 ∧ x.2.1[k].2 ≤ 4) <;> simp only [Bool.not_true, Bool.not_false, cond_true, cond_false, joinP_some, Option.map_some, Bool.and_self, Bool.and_false, wk]) (by
    simp only [L1_spec_l04Fn, not_lt_self, decide_false, cond_false, Option.map_some])
theorem parsI (p : PROG) (x : FN) (hx : x.2.1.length ≤ 1048576) : loopF L1_impl_fnOk (x.2.1, (x.2.1.length : Int), (0 : Int), p, x, ()) = some (bif pars x then .inl (p, x, ()) else .inr (false, ())) := by
  exact loopF_all (step := L1_impl_fnOk) x.2.1 parOk (fun k => (x.2.1, (x.2.1.length : Int), (k : Int), p, x, ())) (.inl (p, x, ())) (.inr (false, ())) (fun k hk => by
    have wk := wrapSucc (show k < 9223372036854775807 by omega)
    simp only [L1_impl_fnOk, lt_cast hk, decide_true, cond_true, idx_run hk, rd_nat hk, impl_NameOk_ok, iIn, Option.bind_some, parOk]
    cases nameOk x.2.1[k].1
    · simp only [Bool.not_false, cond_true, joinP_some, Option.map_some, Bool.false_and, cond_false]
    · cases decide (1 ≤ x.2.1[k].2 ∧ x.2.1[k].2 ≤ 4) <;> simp only [Bool.not_true, Bool.not_false, cond_true, cond_false, joinP_some, Option.map_some, Bool.and_self, Bool.and_false, wk]) (by
    simp only [L1_impl_fnOk, not_lt_self, decide_false, cond_false, Option.map_some])
theorem spec_Fn_ok (p : PROG) (hp : FineP p) (i : Nat) (hi : i < p.2.length) : spec_l04Fn p (i : Int) = some (fokB p (i : Int), ()) := by
  unfold spec_l04Fn fokB fnI
  have hx := hp.a _ (List.getElem_mem hi)
  rw [idx_run hi]
  have hr : rd p.2 (i : Int) zF = p.2[i] := rd_nat hi
  rw [hr]
  generalize p.2[i] = x at hx
  have e : ((spec_NameOk x.1).bind fun y1 => bif !y1.1 then some (true, p, x, ()) else (spec_FnAt p x.1).bind fun y2 => bif decide (y2.1 ≠ (i : Int)) then some (true, p, x, ()) else bif decide ((3 : Int) < (x.2.1.length : Int)) then some (true, p, x, ()) else (spec_l01In x.2.2.1 (0 : Int) (2 : Int)).bind fun y3 => some (!y3.1, p, x, ())) =
      some (!(nameOk x.1 && (decide (fnAt p.2 x.1 = (i : Int)) && (decide ((x.2.1.length : Int) ≤ 3) && decide (0 ≤ x.2.2.1 ∧ x.2.2.1 ≤ 2)))), p, x, ()) := by
    simp only [spec_NameOk_ok, spec_FnAt_ok p hp, sIn, Option.bind_some]
    cases nameOk x.1
    · rfl
    by_cases h2 : fnAt p.2 x.1 = (i : Int)
    · by_cases h3 : (3 : Int) < (x.2.1.length : Int)
      · simp only [h2, h3, show ¬ ((x.2.1.length : Int) ≤ 3) by omega, ne_eq, not_true_eq_false, decide_true, decide_false, cond_true, cond_false, Bool.not_true, Bool.false_and, Bool.and_false, Bool.not_false]
      · simp only [h2, h3, show ((x.2.1.length : Int) ≤ 3) by omega, ne_eq, not_true_eq_false, decide_true, decide_false, cond_false, Bool.not_true, Bool.true_and]
    · simp only [h2, ne_eq, not_false_eq_true, decide_true, decide_false, cond_true, cond_false, Bool.not_true, Bool.false_and, Bool.and_false, Bool.not_false]
  rw [e, joinP_some]
  cases hA : nameOk x.1
  · simp only [Bool.false_and, Bool.not_false, cond_true]
  cases hB : decide (fnAt p.2 x.1 = (i : Int))
  · simp only [Bool.false_and, Bool.and_false, Bool.not_false, cond_true]
  cases hC : decide ((x.2.1.length : Int) ≤ 3)
  · simp only [Bool.false_and, Bool.and_false, Bool.not_false, cond_true]
  cases hD : decide (0 ≤ x.2.2.1 ∧ x.2.2.1 ≤ 2)
  · simp only [Bool.false_and, Bool.and_false, Bool.not_false, cond_true]
  simp only [Bool.and_self, Bool.not_true, cond_false, Option.bind_some, parsS p x hx, Bool.true_and, Bool.and_true]
  cases hP : pars x
  · simp only [cond_false, joinS_inr, Bool.false_and]
  simp only [cond_true, joinS_inl, Bool.true_and, lenm1 hp.n.len, sIn, Option.bind_some, spec_l04Value, bodyOk, retOk]
  by_cases hb : 0 ≤ x.2.2.2.1 ∧ x.2.2.2.1 ≤ (p.1.length : Int) - 1
  · simp only [hb, and_self, decide_true, Bool.not_true, cond_false, idx_range (show 0 ≤ x.2.2.2.1 ∧ x.2.2.2.1 < (p.1.length : Int) by omega), joinP_some, Bool.true_and]
    by_cases h20 : (rd p.1 x.2.2.2.1 zN).1 = 20
    · simp only [h20, ne_eq, not_true_eq_false, decide_true, decide_false, cond_false, Bool.true_and]
      cases decide (x.2.2.1 = 0)
      · simp only [cond_false]
        by_cases hc : 0 ≤ x.2.2.2.2 ∧ x.2.2.2.2 ≤ (p.1.length : Int) - 1
        · simp only [lenm1 hp.n.len, hc, and_self, decide_true, cond_true, idx_range (show 0 ≤ x.2.2.2.2 ∧ x.2.2.2.2 < (p.1.length : Int) by omega), joinP_some, Bool.true_and]
        · simp only [lenm1 hp.n.len, hc, decide_false, cond_false, joinP_some, Bool.false_and]
      · simp only [cond_true]
    · simp only [h20, ne_eq, not_false_eq_true, decide_true, decide_false, cond_true, Bool.false_and]
  · simp only [hb, decide_false, Bool.not_false, cond_true, joinP_some, Bool.false_and]
theorem impl_Fn_ok (p : PROG) (hp : FineN p.1) (x : FN) (hx : x.2.1.length ≤ 1048576) : impl_fnOk p x = some (fnI p.1 x, ()) := by
  unfold impl_fnOk fnI
  have e : ((impl_NameOk x.1).bind fun y1 => bif !y1.1 then some (true, p, x, ()) else bif decide ((3 : Int) < (x.2.1.length : Int)) then some (true, p, x, ()) else bif decide (x.2.2.1 ≠ (0 : Int)) then bif decide (x.2.2.1 ≠ (1 : Int)) then some (decide (x.2.2.1 ≠ (2 : Int)), p, x, ()) else some (false, p, x, ()) else some (false, p, x, ())) =
      some (!(nameOk x.1 && (decide ((x.2.1.length : Int) ≤ 3) && decide (0 ≤ x.2.2.1 ∧ x.2.2.1 ≤ 2))), p, x, ()) := by
    simp only [impl_NameOk_ok, Option.bind_some]
    cases nameOk x.1
    · rfl
    by_cases h3 : (3 : Int) < (x.2.1.length : Int)
    · simp only [h3, show ¬ ((x.2.1.length : Int) ≤ 3) by omega, decide_true, decide_false, cond_true, cond_false, Bool.not_true, Bool.false_and, Bool.and_false, Bool.not_false]
    · simp only [h3, show ((x.2.1.length : Int) ≤ 3) by omega, decide_true, decide_false, cond_false, Bool.not_true, Bool.true_and]
      by_cases r0 : x.2.2.1 = 0
      · simp [r0]
      · by_cases r1 : x.2.2.1 = 1
        · simp [r1]
        · by_cases r2 : x.2.2.1 = 2
          · simp [r2]
          · have : ¬ (0 ≤ x.2.2.1 ∧ x.2.2.1 ≤ 2) := by omega
            simp [r0, r1, r2, this]
  rw [e, joinP_some]
  cases hA : nameOk x.1
  · simp only [Bool.false_and, Bool.not_false, cond_true]
  cases hC : decide ((x.2.1.length : Int) ≤ 3)
  · simp only [Bool.false_and, Bool.and_false, Bool.not_false, cond_true]
  cases hD : decide (0 ≤ x.2.2.1 ∧ x.2.2.1 ≤ 2)
  · simp only [Bool.false_and, Bool.and_false, Bool.not_false, cond_true]
  simp only [Bool.and_self, Bool.not_true, cond_false, Option.bind_some, parsI p x hx, Bool.true_and]
  cases hP : pars x
  · simp only [cond_false, joinS_inr, Bool.false_and]
  simp only [cond_true, joinS_inl, Bool.true_and, lenm1 hp.len, iIn, Option.bind_some, impl_isValue, bodyOk, retOk]
  by_cases hb : 0 ≤ x.2.2.2.1 ∧ x.2.2.2.1 ≤ (p.1.length : Int) - 1
  · simp only [hb, and_self, decide_true, Bool.not_true, cond_false, idx_range (show 0 ≤ x.2.2.2.1 ∧ x.2.2.2.1 < (p.1.length : Int) by omega), joinP_some, Bool.true_and]
    by_cases h20 : (rd p.1 x.2.2.2.1 zN).1 = 20
    · simp only [h20, ne_eq, not_true_eq_false, decide_true, decide_false, cond_false, Bool.true_and]
      cases decide (x.2.2.1 = 0)
      · simp only [cond_false]
        by_cases hc : 0 ≤ x.2.2.2.2 ∧ x.2.2.2.2 ≤ (p.1.length : Int) - 1
        · simp only [lenm1 hp.len, hc, and_self, decide_true, cond_true, idx_range (show 0 ≤ x.2.2.2.2 ∧ x.2.2.2.2 < (p.1.length : Int) by omega), joinP_some, Bool.true_and]
        · simp only [lenm1 hp.len, hc, decide_false, cond_false, joinP_some, Bool.false_and]
      · simp only [cond_true]
    · simp only [h20, ne_eq, not_false_eq_true, decide_true, decide_false, cond_true, Bool.false_and]
  · simp only [hb, decide_false, Bool.not_false, cond_true, joinP_some, Bool.false_and]
end Go.Proofs.YtgkgfpbdodafaaaGreatDoorE

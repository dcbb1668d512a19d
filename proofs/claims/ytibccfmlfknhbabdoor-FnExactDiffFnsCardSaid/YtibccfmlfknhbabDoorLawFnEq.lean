/- Whether two functions are the same: the program's reckoning and the reference's. No condition beyond each lemma's own. -/
import Derived.Test.YtibccfmlfknhbabDoorLawTree
set_option linter.all false
namespace Go.Proofs.YtibccfmlfknhbabDoorE
set_option linter.all false
set_option maxRecDepth 100000

abbrev zP : ByteArray × Int := ((⟨#[]⟩ : ByteArray), (0 : Int))
abbrev zF : FN := ((⟨#[]⟩ : ByteArray), ([], ((0 : Int), ((0 : Int), (0 : Int)))))
def parE (x y : FN) (i : Nat) : Bool := eqD (.pair (.str) (.int .i64)) (rd x.2.1 (i : Int) zP) (rd y.2.1 (i : Int) zP)
def parEq (x y : FN) : Bool := (List.range x.2.1.length).all (parE x y)
def hdF (x y : FN) : Bool := decide (x.1 = y.1) && (decide (x.2.2.1 = y.2.2.1) && decide ((x.2.1.length : Int) = (y.2.1.length : Int)))
def sgn (x y : FN) : Bool := decide (x.2.2.2.2 < 0) == decide (y.2.2.2.2 < 0)
def fnEq (p q : List NODE) (x y : FN) : Bool := hdF x y && (parEq x y && (sameT p q x.2.2.2.1 y.2.2.2.1 && (sgn x y && (bif decide (x.2.2.2.2 < 0) then true else sameT p q x.2.2.2.2 y.2.2.2.2))))
theorem hdF_len {x y : FN} (h : hdF x y = true) : x.2.1.length = y.2.1.length := by
  simp only [hdF, Bool.and_eq_true, decide_eq_true_eq] at h
  omega
theorem hdF_cut {α : Type} (x y : FN) (g : Bool) (K : Bool → α) : (bif decide (x.1 ≠ y.1) then K true else bif decide (x.2.2.1 ≠ y.2.2.1) then K true else bif decide ((x.2.1.length : Int) ≠ (y.2.1.length : Int)) then K true else K (!g)) = K (!(hdF x y && g)) := by
  unfold hdF
  by_cases h1 : x.1 = y.1
  · by_cases h2 : x.2.2.1 = y.2.2.1
    · by_cases h3 : (x.2.1.length : Int) = (y.2.1.length : Int)
      · simp only [h1, h2, h3, ne_eq, not_true_eq_false, decide_false, decide_true, cond_false, Bool.true_and]
      · simp only [h1, h2, h3, ne_eq, not_true_eq_false, not_false_eq_true, decide_false, decide_true, cond_false, cond_true, Bool.and_false, Bool.false_and, Bool.not_false]
    · simp only [h1, h2, ne_eq, not_true_eq_false, not_false_eq_true, decide_false, decide_true, cond_true, cond_false, Bool.and_false, Bool.false_and, Bool.not_false]
  · simp only [h1, ne_eq, not_false_eq_true, decide_false, decide_true, cond_true, Bool.false_and, Bool.not_false]
theorem par_loopS (n : Int) (p q : PROG) (x y : FN) (hx : x.2.1.length ≤ 1048576) (hl : x.2.1.length = y.2.1.length) :
    loopF L1_spec_SameProgram (n, (0 : Int), p, q, x, y, ()) = some (bif parEq x y then .inl (n, p, q, x, y, ()) else .inr (.inr (.inr (.inr (false, ()))))) := by
  have h := loopF_all (step := L1_spec_SameProgram) (List.range x.2.1.length) (parE x y) (fun i => (n, (i : Int), p, q, x, y, ())) (.inl (n, p, q, x, y, ())) (.inr (.inr (.inr (.inr (false, ()))))) (fun i hi => by
    have hi' : i < x.2.1.length := by simpa using hi
    have hj : i < y.2.1.length := by omega
    simp only [L1_spec_SameProgram, lt_cast hi', decide_true, cond_true, idx_run hi', idx_run hj, List.getElem_range, wrapSucc (show i < 9223372036854775807 by omega)]
    have e : eqD (.pair (.str) (.int .i64)) (rd x.2.1 (i : Int) zP) (rd y.2.1 (i : Int) zP) = parE x y i := rfl
    rw [e]
    cases parE x y i <;> simp only [Bool.not_true, Bool.not_false, cond_true, cond_false, Option.map_some]) (by
    rw [List.length_range]
    simp only [L1_spec_SameProgram, not_lt_self, decide_false, cond_false, Option.map_some])
  exact h
theorem par_loopI (x y : FN) (hx : x.2.1.length ≤ 1048576) (hl : x.2.1.length = y.2.1.length) :
    loopF L1_impl_sameHead ((x.2.1.length : Int), (0 : Int), x, y, ()) = some (bif parEq x y then .inl () else .inr (false, ())) := by
  have h := loopF_all (step := L1_impl_sameHead) (List.range x.2.1.length) (parE x y) (fun i => ((x.2.1.length : Int), (i : Int), x, y, ())) (.inl ()) (.inr (false, ())) (fun i hi => by
    have hi' : i < x.2.1.length := by simpa using hi
    have hj : i < y.2.1.length := by omega
    simp only [L1_impl_sameHead, lt_cast hi', decide_true, cond_true, idx_run hi', idx_run hj, List.getElem_range, wrapSucc (show i < 9223372036854775807 by omega)]
    have e : eqD (.pair (.str) (.int .i64)) (rd x.2.1 (i : Int) zP) (rd y.2.1 (i : Int) zP) = parE x y i := rfl
    rw [e]
    cases parE x y i <;> simp only [Bool.not_true, Bool.not_false, cond_true, cond_false, Option.map_some]) (by
    rw [List.length_range]
    simp only [L1_impl_sameHead, not_lt_self, decide_false, cond_false, Option.map_some])
  exact h
theorem sameHead_ok (x y : FN) (hx : x.2.1.length ≤ 1048576) : impl_sameHead x y = some (hdF x y && parEq x y, ()) := by
  unfold impl_sameHead
  have e : (bif decide (x.1 ≠ y.1) then some (true, x, y, ()) else bif decide (x.2.2.1 ≠ y.2.2.1) then some (true, x, y, ()) else some (decide ((x.2.1.length : Int) ≠ (y.2.1.length : Int)), x, y, ())) = some (!hdF x y, x, y, ()) := by
    have := hdF_cut x y true (fun t => some (t, x, y, ()))
    rw [Bool.and_true] at this
    rw [← this]
    by_cases h3 : (x.2.1.length : Int) = (y.2.1.length : Int)
    · simp only [h3, ne_eq, not_true_eq_false, decide_false, cond_false, Bool.not_true]
    · simp only [h3, ne_eq, not_false_eq_true, decide_true, cond_true]
  rw [e, joinP_some]
  cases hh : hdF x y
  · simp only [Bool.not_false, cond_true, Bool.false_and]
  · simp only [Bool.not_true, cond_false, Option.bind_some, par_loopI x y hx (hdF_len hh), Bool.true_and]
    cases parEq x y <;> simp only [cond_true, cond_false, joinS_inl, joinS_inr]
theorem same_round (p q : PROG) (hp : FineN p.1) (hq : FineN q.1) (i : Nat) (hi : i < p.2.length) (hj : i < q.2.length) (hb : i < 9223372036854775807) (hx : p.2[i].2.1.length ≤ 1048576) :
    L2_spec_SameProgram ((i : Int), p, q, ()) = bif fnEq p.1 q.1 p.2[i] q.2[i] then some (.inl (((i + 1 : Nat) : Int), p, q, ())) else some (.inr (.inr (false, ()))) := by
  unfold L2_spec_SameProgram
  simp only [lt_cast hi, decide_true, cond_true, idx_run hi, idx_run hj, rd_nat hi, rd_nat hj]
  generalize p.2[i] = x at hx ⊢
  generalize q.2[i] = y
  have e := hdF_cut x y (sgn x y) (fun t => some ((i : Int), t, p, q, x, y, ()))
  have e' : (!((decide (x.2.2.2.2 < (0 : Int))) == (decide (y.2.2.2.2 < (0 : Int))))) = !sgn x y := rfl
  rw [e', e, joinP_some]
  unfold fnEq
  cases hh : hdF x y
  · simp only [Bool.false_and, Bool.not_false, cond_true, Option.map_some, joinS_inr, cond_false]
  cases hs : sgn x y
  · simp only [Bool.and_false, Bool.false_and, Bool.not_false, cond_true, Option.map_some, joinS_inr, cond_false]
  simp only [Bool.and_self, Bool.not_true, cond_false, Option.bind_some, par_loopS (i : Int) p q x y hx (hdF_len hh), Bool.true_and]
  cases parEq x y
  · simp only [cond_false, joinS_inr, Bool.false_and]
  simp only [cond_true, joinS_inl, spec_SameTree_ok p q hp hq, Option.bind_some, Bool.true_and]
  cases sameT p.1 q.1 x.2.2.2.1 y.2.2.2.1
  · simp only [Bool.not_false, cond_true, joinP_some, Option.map_some, joinS_inr, Bool.false_and, cond_false]
  simp only [Bool.not_true, cond_false, Bool.true_and]
  by_cases hb' : x.2.2.2.2 < 0
  · simp only [show ¬ (0 ≤ x.2.2.2.2) by omega, hb', decide_false, decide_true, cond_false, cond_true, joinP_some, Option.map_some, joinS_inl, wrapSucc hb]
  · simp only [show (0 ≤ x.2.2.2.2) by omega, hb', decide_false, decide_true, cond_false, cond_true]
    cases sameT p.1 q.1 x.2.2.2.2 y.2.2.2.2 <;> simp only [Bool.not_true, Bool.not_false, cond_true, cond_false, joinP_some, Option.map_some, joinS_inl, joinS_inr, wrapSucc hb]
theorem one_ok (p q : List NODE) (hp : FineN p) (hq : FineN q) (x y : FN) (hx : x.2.1.length ≤ 1048576) : spec_SameProgram (p, [x]) (q, [y]) = some (fnEq p q x y, ()) := by
  unfold spec_SameProgram
  have h1 := same_round (p, [x]) (q, [y]) hp hq 0 (by simp) (by simp) (by omega) hx
  have h1 : L2_spec_SameProgram ((0 : Int), (p, [x]), (q, [y]), ()) = bif fnEq p q x y then some (.inl (((0 + 1 : Nat) : Int), (p, [x]), (q, [y]), ())) else some (.inr (.inr (false, ()))) := h1
  have h2 : L2_spec_SameProgram (((0 + 1 : Nat) : Int), (p, [x]), (q, [y]), ()) = some (.inr (.inl ())) := rfl
  simp only [List.length_cons, List.length_nil, ne_eq, not_true_eq_false, decide_false, cond_false, Option.bind_some]
  cases hv : fnEq p q x y
  · rw [hv, cond_false] at h1
    rw [loopF_inr h1]; rfl
  · rw [hv, cond_true] at h1
    rw [loopF_inl h1, loopF_inr h2]; rfl
theorem sameFns_ok (p q : PROG) (hp : FineN p.1) (hq : FineN q.1) (x y : FN) (hx : x.2.1.length ≤ 1048576) : impl_sameFns p x q y = some (fnEq p.1 q.1 x y, ()) := by
  unfold impl_sameFns fnEq
  simp only [sameHead_ok x y hx, Option.bind_some]
  cases hdF x y
  · simp only [Bool.false_and, Bool.not_false, cond_true, joinP_some]
  cases parEq x y
  · simp only [Bool.and_false, Bool.false_and, Bool.not_false, cond_true, joinP_some]
  simp only [Bool.and_self, Bool.not_true, cond_false, impl_SameTree_ok p q hp hq, Option.bind_some, Bool.true_and]
  cases sameT p.1 q.1 x.2.2.2.1 y.2.2.2.1
  · simp only [Bool.false_and, Bool.not_false, cond_true, joinP_some]
  have e' : (!((decide (x.2.2.2.2 < (0 : Int))) == (decide (y.2.2.2.2 < (0 : Int))))) = !sgn x y := rfl
  simp only [Bool.not_true, cond_false, Bool.true_and, e', joinP_some]
  cases sgn x y
  · simp only [Bool.false_and, Bool.not_false, cond_true]
  simp only [Bool.not_true, cond_false, Bool.true_and]
  cases decide (x.2.2.2.2 < 0) <;> simp only [cond_true, cond_false, joinP_some, impl_SameTree_ok p q hp hq, Option.bind_some]
def fnIn (p : PROG) (n : Int) : Bool := decide (0 ≤ n ∧ n ≤ (p.2.length : Int) - 1)
def sameF (p : PROG) (a : Int) (q : PROG) (b : Int) : Bool := fnIn p a && (fnIn q b && fnEq p.1 q.1 (rd p.2 a zF) (rd q.2 b zF))
theorem rd_par {p : PROG} {a : Int} (h : 0 ≤ a ∧ a ≤ (p.2.length : Int) - 1) (hp : FineP p) : (rd p.2 a zF).2.1.length ≤ 1048576 := by
  obtain ⟨k, rfl⟩ : ∃ m : Nat, a = (m : Int) := ⟨a.toNat, by omega⟩
  have hk : k < p.2.length := by omega
  rw [rd_nat hk]
  exact hp.a _ (List.getElem_mem hk)
theorem spec_SameFn_ok (p q : PROG) (hp : FineP p) (hq : FineP q) (a b : Int) : spec_SameFn p a q b = some (sameF p a q b, ()) := by
  unfold spec_SameFn sameF fnIn
  simp only [lenm1 hp.f, lenm1 hq.f, sIn, Option.bind_some]
  by_cases ha : 0 ≤ a ∧ a ≤ (p.2.length : Int) - 1
  case neg => simp only [ha, decide_false, Bool.not_false, cond_true, joinP_some, Bool.false_and]
  by_cases hb : 0 ≤ b ∧ b ≤ (q.2.length : Int) - 1
  case neg => simp only [ha, hb, and_self, decide_true, decide_false, Bool.not_true, Bool.not_false, cond_true, cond_false, joinP_some, Bool.false_and, Bool.true_and]
  simp only [ha, hb, and_self, decide_true, Bool.not_true, cond_false, joinP_some, Bool.true_and, idx_range (show 0 ≤ a ∧ a < (p.2.length : Int) by omega), idx_range (show 0 ≤ b ∧ b < (q.2.length : Int) by omega)]
  rw [one_ok p.1 q.1 hp.n hq.n _ _ (rd_par ha hp)]
  rfl
theorem impl_SameFn_ok (p q : PROG) (hp : FineP p) (hq : FineP q) (a b : Int) : impl_SameFn p a q b = some (sameF p a q b, ()) := by
  unfold impl_SameFn sameF fnIn
  simp only [lenm1 hp.f, lenm1 hq.f, iIn, Option.bind_some]
  by_cases ha : 0 ≤ a ∧ a ≤ (p.2.length : Int) - 1
  case neg => simp only [ha, decide_false, cond_false, joinP_some, Bool.false_and]
  by_cases hb : 0 ≤ b ∧ b ≤ (q.2.length : Int) - 1
  case neg => simp only [ha, hb, and_self, decide_true, decide_false, cond_true, cond_false, joinP_some, Bool.false_and, Bool.true_and]
  simp only [ha, hb, and_self, decide_true, cond_true, joinP_some, Bool.true_and, idx_range (show 0 ≤ a ∧ a < (p.2.length : Int) by omega), idx_range (show 0 ≤ b ∧ b < (q.2.length : Int) by omega)]
  rw [sameFns_ok p q hp.n hq.n _ _ (rd_par ha hp)]
  rfl
end Go.Proofs.YtibccfmlfknhbabDoorE

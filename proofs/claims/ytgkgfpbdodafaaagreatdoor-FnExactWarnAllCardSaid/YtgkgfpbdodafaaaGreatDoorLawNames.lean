/- Whether names are right: the program's reckoning and the reference's. No condition beyond each lemma's own. -/
import Derived.Test.YtgkgfpbdodafaaaGreatDoorLawSightB
set_option linter.all false
namespace Go.Proofs.YtgkgfpbdodafaaaGreatDoorE
set_option linter.all false
set_option maxRecDepth 100000
def varAt (l : List VAR) (s : ByteArray) : Int := match l.findIdx? (fun v => decide (v.1 = s)) with
  | some i => (i : Int)
  | none => -1
theorem spec_VarAt_ok (l : List VAR) (hl : l.length ≤ 2097152) (s : ByteArray) : spec_VarAt l s = some (varAt l s, ()) := by
  have h := loopF_find (step := L1_spec_VarAt) l (fun v => decide (v.1 = s)) (fun k => (l, s, (k : Int), ())) (fun k => .inr ((k : Int), ())) (.inl ()) (fun k hk => by
    simp only [L1_spec_VarAt, lt_cast hk, decide_true, cond_true, idx_run hk, rd_nat hk, wrapSucc (show k < 9223372036854775807 by omega)]
    cases decide (l[k].1 = s) <;> rfl) (by
    simp only [L1_spec_VarAt, not_lt_self, decide_false, cond_false, Option.map_some])
  have h' : loopF L1_spec_VarAt (l, s, (0 : Int), ()) = _ := h
  simp only [spec_VarAt, Option.bind_some, h', varAt]
  cases l.findIdx? fun v => decide (v.1 = s) <;> rfl
theorem impl_VarAt_ok (l : List VAR) (hl : l.length ≤ 2097152) (s : ByteArray) : impl_VarAt l s = some (varAt l s, ()) := by
  have h := loopF_find (step := L1_impl_VarAt) l (fun v => decide (v.1 = s)) (fun k => (s, l, (l.length : Int), (k : Int), ())) (fun k => .inr ((k : Int), ())) (.inl ()) (fun k hk => by
    simp only [L1_impl_VarAt, lt_cast hk, decide_true, cond_true, idx_run hk, rd_nat hk, wrapSucc (show k < 9223372036854775807 by omega)]
    cases decide (l[k].1 = s) <;> rfl) (by
    simp only [L1_impl_VarAt, not_lt_self, decide_false, cond_false, Option.map_some])
  have h' : loopF L1_impl_VarAt (s, l, (l.length : Int), (0 : Int), ()) = _ := h
  simp only [impl_VarAt, Option.bind_some, h', varAt]
  cases l.findIdx? fun v => decide (v.1 = s) <;> rfl
def oneQ (l : List VAR) (k : Nat) : Bool := decide (varAt l (rd l (k : Int) zV).1 = (k : Int))
def namesL (l : List VAR) : Bool := (List.range l.length).all (oneQ l)
theorem impl_namesOf_ok (p : PROG) (hp : FineP p) (i : Int) : impl_namesOf p i = some (namesL (varsOf p i), ()) := by
  have hl := vars_len hp i
  unfold impl_namesOf
  rw [impl_Vars_ok p hp, Option.bind_some]
  generalize varsOf p i = l at hl ⊢
  have h := loopF_all (step := L1_impl_namesOf) (List.range l.length) (oneQ l) (fun k => (l, l, (l.length : Int), (k : Int), ())) (.inl ()) (.inr (false, ())) (fun k hk => by
    have hk' : k < l.length := by simpa using hk
    simp only [L1_impl_namesOf, lt_cast hk', decide_true, cond_true, idx_run hk', impl_VarAt_ok l hl, Option.bind_some, List.getElem_range, oneQ, wrapSucc (show k < 9223372036854775807 by omega)]
    by_cases hc : varAt l (rd l (k : Int) zV).1 = (k : Int)
    · simp only [hc, ne_eq, not_true_eq_false, decide_false, decide_true, cond_false, cond_true, Option.map_some]
    · simp only [hc, ne_eq, not_false_eq_true, decide_false, decide_true, cond_false, cond_true, Option.map_some]) (by
    simp only [L1_impl_namesOf, List.length_range, not_lt_self, decide_false, cond_false, Option.map_some])
  have h' : loopF L1_impl_namesOf (l, l, (l.length : Int), (0 : Int), ()) = _ := h
  simp only [Option.bind_some, h', namesL]
  cases (List.range l.length).all (oneQ l) <;> rfl
def parN (x : FN) : List ByteArray := x.2.1.map fun a => a.1
def nrF (p : PROG) (i : Nat) : Bool := namesL (varsOf p (i : Int)) && (sight p (i : Int) (rd p.2 (i : Int) zF).2.2.2.1 (parN (rd p.2 (i : Int) zF)) && (bif decide (0 ≤ (rd p.2 (i : Int) zF).2.2.2.2) then sight p (i : Int) (rd p.2 (i : Int) zF).2.2.2.2 (extL p.1 (rd p.2 (i : Int) zF).2.2.2.1 (parN (rd p.2 (i : Int) zF))) else true))
def namesRight (p : PROG) : Bool := progOk p && (List.range p.2.length).all (nrF p)
structure POK (p : PROG) : Prop where
  n : AllN p.1
  f : allF p = true
  l : p.1.length ≤ 300
  m : p.2.length ≤ 8
theorem pok_of {p : PROG} (h : progOk p = true) : POK p := by
  simp only [progOk, Bool.and_eq_true, decide_eq_true_eq] at h
  exact ⟨alln_of h.2.2.1, h.2.2.2.1, by omega, by omega⟩
theorem POK.deep {p : PROG} (h : POK p) {k : Int} (hk : 0 ≤ k ∧ k < (p.1.length : Int)) : (0 : Int) < deepAt p.1 k := by
  obtain ⟨m, rfl⟩ : ∃ m : Nat, k = (m : Int) := ⟨k.toNat, by omega⟩
  have h1 := (h.n m (by omega)).2
  refine in_ok ?_
  unfold deepAt
  rw [decide_eq_true (by omega), cond_true]
  exact h1
structure FnIs (p : PROG) (i : Nat) (x : FN) : Prop where
  par : x.2.1.length ≤ 3
  bd : (0 : Int) < deepAt p.1 x.2.2.2.1
  bk : (rd p.1 x.2.2.2.1 zN).1 = 20
  rt : 0 ≤ x.2.2.2.2 → (0 : Int) < deepAt p.1 x.2.2.2.2 ∧ (rd p.1 x.2.2.2.2 zN).1 ≤ 12
  rm : -1 ≤ x.2.2.2.2
theorem POK.fn {p : PROG} (h : POK p) {i : Nat} (hi : i < p.2.length) : FnIs p i (rd p.2 (i : Int) zF) := by
  have h1 := List.all_eq_true.1 h.f i (by simpa using hi)
  simp only [fokB, fnI, Bool.and_eq_true, decide_eq_true_eq, bodyOk] at h1
  obtain ⟨⟨_, h2, _, _, ⟨h3, h4⟩, h5⟩, _⟩ := h1
  refine ⟨by omega, h.deep (by omega), h4, fun h6 => ?_, ?_⟩
  · unfold retOk at h5
    by_cases hz : (rd p.2 (i : Int) zF).2.2.1 = 0
    · rw [decide_eq_true hz, cond_true, decide_eq_true_eq] at h5
      omega
    · rw [decide_eq_false hz, cond_false, Bool.and_eq_true, decide_eq_true_eq, decide_eq_true_eq] at h5
      exact ⟨h.deep (by omega), by omega⟩
  · unfold retOk at h5
    by_cases hz : (rd p.2 (i : Int) zF).2.2.1 = 0
    · rw [decide_eq_true hz, cond_true, decide_eq_true_eq] at h5
      omega
    · rw [decide_eq_false hz, cond_false, Bool.and_eq_true, decide_eq_true_eq, decide_eq_true_eq] at h5
      omega
theorem names_oneS (p : PROG) (hp : FineP p) (i : Int) (l : List VAR) (hl : l.length ≤ 2097152) : loopF L1_spec_NamesRight (i, l, (0 : Int), p, ()) = some (bif namesL l then .inl (i, p, ()) else .inr (.inr (.inr (.inr (false, ()))))) := by
  have h := loopF_all (step := L1_spec_NamesRight) (List.range l.length) (oneQ l) (fun k => (i, l, (k : Int), p, ())) (.inl (i, p, ())) (.inr (.inr (.inr (.inr (false, ()))))) (fun k hk => by
    have hk' : k < l.length := by simpa using hk
    simp only [L1_spec_NamesRight, lt_cast hk', decide_true, cond_true, idx_run hk', spec_VarAt_ok l hl, Option.bind_some, List.getElem_range, oneQ, wrapSucc (show k < 9223372036854775807 by omega)]
    by_cases hc : varAt l (rd l (k : Int) zV).1 = (k : Int)
    · simp only [hc, ne_eq, not_true_eq_false, decide_false, decide_true, cond_false, cond_true, Option.map_some]
    · simp only [hc, ne_eq, not_false_eq_true, decide_false, decide_true, cond_false, cond_true, Option.map_some]) (by
    simp only [L1_spec_NamesRight, List.length_range, not_lt_self, decide_false, cond_false, Option.map_some])
  exact h
theorem names_parS (p : PROG) (i : Nat) (hi : i < p.2.length) (x : FN) (hx : rd p.2 (i : Int) zF = x) (hl : x.2.1.length ≤ 1048576) : loopF L2_spec_NamesRight ((i : Int), (0 : Int), p, (p, ((i : Int), ([], false))), ()) = some ((i : Int), p, (p, ((i : Int), (parN x, false))), ()) := by
  have h := loopF_push (step := L2_spec_NamesRight) x.2.1 (fun a => a.1) (fun k o => ((i : Int), (k : Int), p, (p, ((i : Int), (o, false))), ())) (fun o => ((i : Int), p, (p, ((i : Int), (o, false))), ())) (fun k hk o ho => by
    simp only [L2_spec_NamesRight, idx_run hi, hx, lt_cast hk, decide_true, cond_true, idx_run hk, rd_nat hk]
    rw [le_run (by simp; omega)]
    simp only [Option.map_some, wrapSucc (show k < 9223372036854775807 by omega)]) (fun o ho => by
    simp only [L2_spec_NamesRight, idx_run hi, hx, not_lt_self, decide_false, cond_false, Option.map_some])
  exact h
theorem parN_len (x : FN) : (parN x).length = x.2.1.length := by simp [parN]
theorem spec_Names_ok (p : PROG) (hp : FineP p) : spec_NamesRight p = some (namesRight p, ()) := by
  unfold spec_NamesRight namesRight
  rw [spec_Prog_ok p hp, Option.bind_some]
  cases hok : progOk p
  · simp only [Bool.not_false, cond_true, Bool.false_and]
  have P := pok_of hok
  have hn := P.m
  have hnn := P.l
  have h := loopF_all (step := L3_spec_NamesRight) (List.range p.2.length) (nrF p) (fun i => ((i : Int), p, ())) (.inl ()) (.inr (false, ())) (fun i hi => by
    have hi' : i < p.2.length := by simpa using hi
    have F := P.fn hi'
    simp only [L3_spec_NamesRight, lt_cast hi', decide_true, cond_true, spec_Vars_ok p hp, Option.bind_some, names_oneS p hp (i : Int) _ (vars_len hp _), List.getElem_range, nrF]
    cases namesL (varsOf p (i : Int))
    · simp only [cond_false, Bool.false_and, joinS_inr]
    · generalize hx : rd p.2 (i : Int) zF = x at F ⊢
      have hpl := parN_len x
      have hpar := F.par
      have hpS := names_parS p i hi' x hx (by omega)
      have hbl := block_ok p hp (i : Int) x.2.2.2.1 (parN x) false F.bd F.bk (by omega)
      simp only [cond_true, joinS_inl, hpS, joinP_some, idx_run hi', hx, hbl, Option.bind_some, Bool.false_or, Bool.true_and]
      by_cases hr : 0 ≤ x.2.2.2.2
      · obtain ⟨r1, r2⟩ := F.rt hr
        have hel := extL_len p.1 (rd p.1 x.2.2.2.1 zN).2.2.2 (parN x)
        have htw := nk_twelve (deepAt_pos F.bd).2.1
        have hv := value_ok p hp (i : Int) x.2.2.2.2 (extL p.1 x.2.2.2.1 (parN x)) (!sight p (i : Int) x.2.2.2.1 (parN x)) r1 r2 (by unfold extL; omega)
        simp only [hr, decide_true, cond_true, hv, Option.bind_some, joinP_some]
        cases sight p (i : Int) x.2.2.2.1 (parN x) <;> cases sight p (i : Int) x.2.2.2.2 (extL p.1 x.2.2.2.1 (parN x)) <;> simp only [Bool.not_true, Bool.not_false, Bool.or_false, Bool.or_true, Bool.true_or, Bool.false_or, Bool.true_and, Bool.false_and, cond_true, cond_false, Option.map_some, joinS_inr, joinS_inl, wrapSucc (show i < 9223372036854775807 by omega)]
      · simp only [hr, decide_false, cond_false, joinP_some]
        cases sight p (i : Int) x.2.2.2.1 (parN x) <;> simp only [Bool.not_true, Bool.not_false, Bool.and_true, Bool.true_and, Bool.false_and, cond_true, cond_false, Option.map_some, joinS_inr, joinS_inl, wrapSucc (show i < 9223372036854775807 by omega)]) (by
    simp only [L3_spec_NamesRight, List.length_range, not_lt_self, decide_false, cond_false, Option.map_some])
  have h' : loopF L3_spec_NamesRight ((0 : Int), p, ()) = _ := h
  simp only [Bool.not_true, cond_false, Option.bind_some, h', Bool.true_and]
  cases (List.range p.2.length).all (nrF p) <;> rfl
theorem names_parI (p : PROG) (fs : List FN) (i n k : Int) (y : List (ByteArray × Int)) (x : FN) (hl : y.length ≤ 1048576) : loopF L1_impl_NamesRight (i, [], fs, n, k, y, (y.length : Int), (0 : Int), p, x, ()) = some (i, y.map (fun a => a.1), fs, n, k, p, x, ()) := by
  have h := loopF_push (step := L1_impl_NamesRight) y (fun a => a.1) (fun j o => (i, o, fs, n, k, y, (y.length : Int), (j : Int), p, x, ())) (fun o => (i, o, fs, n, k, p, x, ())) (fun j hj o ho => by
    simp only [L1_impl_NamesRight, lt_cast hj, decide_true, cond_true, idx_run hj, rd_nat hj]
    rw [le_run (by simp; omega)]
    simp only [Option.map_some, wrapSucc (show j < 9223372036854775807 by omega)]) (fun o ho => by
    simp only [L1_impl_NamesRight, not_lt_self, decide_false, cond_false, Option.map_some])
  exact h
theorem names_letI (p : PROG) (fs : List FN) (i n k : Int) (ys : List Int) (x : FN) (nm : List ByteArray) (hnm : nm.length ≤ 2000000) (hl : ys.length ≤ 12) (hy : ∀ y ∈ ys, 0 ≤ y ∧ y < (p.1.length : Int)) :
    loopF L2_impl_NamesRight (i, nm, fs, n, k, ys, (ys.length : Int), (0 : Int), p, x, ()) = some (i, ys.foldl (extT p.1 true) nm, fs, n, k, p, x, ()) := by
  have h := loopF_fold (step := L2_impl_NamesRight) ys (extT p.1 true) (fun j o => (i, o, fs, n, k, ys, (ys.length : Int), (j : Int), p, x, ())) (fun o => (i, o, fs, n, k, p, x, ())) (fun j o => o.length ≤ 2000000 + j) (fun j hj o ho => by
    refine ⟨?_, Nat.le_trans (extT_len ..) (by omega)⟩
    simp only [L2_impl_NamesRight, lt_cast hj, decide_true, cond_true, idx_run hj, rd_nat hj, idx_range (hy _ (List.getElem_mem hj)), extT, isLet, Bool.true_and]
    cases decide ((rd p.1 ys[j] zN).1 = 13)
    · simp only [cond_false, joinP_some, Option.map_some, wrapSucc (show j < 9223372036854775807 by omega)]
    · simp only [cond_true]
      rw [le_run (by simp; omega)]
      simp only [joinP_some, Option.map_some, wrapSucc (show j < 9223372036854775807 by omega)]) (fun o ho => by
    simp only [L2_impl_NamesRight, not_lt_self, decide_false, cond_false, Option.map_some]) nm (by omega)
  exact h.1
theorem impl_Names_ok (p : PROG) (hp : FineP p) : impl_NamesRight p = some (namesRight p, ()) := by
  unfold impl_NamesRight namesRight
  rw [impl_Prog_ok p hp, Option.bind_some]
  cases hok : progOk p
  · simp only [Bool.not_false, cond_true, Bool.false_and]
  have P := pok_of hok
  have hn := P.m
  have hnn := P.l
  have h := loopF_all (step := L3_impl_NamesRight) (List.range p.2.length) (nrF p) (fun i => (p.2, (p.2.length : Int), (i : Int), p, ())) (.inl ()) (.inr (false, ())) (fun i hi => by
    have hi' : i < p.2.length := by simpa using hi
    have F := P.fn hi'
    simp only [L3_impl_NamesRight, lt_cast hi', decide_true, cond_true, idx_run hi', impl_namesOf_ok p hp, Option.bind_some, List.getElem_range, nrF]
    cases namesL (varsOf p (i : Int))
    · simp only [Bool.not_false, cond_true, cond_false, Bool.false_and, Option.map_some, joinS_inr]
    · have hx0 : rd p.2 (i : Int) Z3 = rd p.2 (i : Int) zF := rfl
      generalize hx : rd p.2 (i : Int) zF = x at F hx0 ⊢
      have hpl := parN_len x
      have hpar := F.par
      have hpI := names_parI p p.2 (i : Int) (p.2.length : Int) (i : Int) x.2.1 x (by omega)
      have hse := impl_Seen_ok p hp (i : Int) (by omega) x.2.2.2.1 (parN x) F.bd (by omega)
      have htw := nk_twelve (deepAt_pos F.bd).2.1
      have hlI := names_letI p p.2 (i : Int) (p.2.length : Int) (i : Int) (rd p.1 x.2.2.2.1 zN).2.2.2 x (parN x) (by omega) htw (fun y hy => by
        have := kid_pos F.bd hy
        have := (deepAt_pos F.bd).1
        omega)
      have hel := extL_len p.1 (rd p.1 x.2.2.2.1 zN).2.2.2 (parN x)
      have hpI' : loopF L1_impl_NamesRight ((i : Int), [], p.2, (p.2.length : Int), (i : Int), x.2.1, (x.2.1.length : Int), (0 : Int), p, x, ()) = some ((i : Int), parN x, p.2, (p.2.length : Int), (i : Int), p, x, ()) := hpI
      have hlI' : loopF L2_impl_NamesRight ((i : Int), parN x, p.2, (p.2.length : Int), (i : Int), (rd p.1 x.2.2.2.1 zN).2.2.2, ((rd p.1 x.2.2.2.1 zN).2.2.2.length : Int), (0 : Int), p, x, ()) = some ((i : Int), extL p.1 x.2.2.2.1 (parN x), p.2, (p.2.length : Int), (i : Int), p, x, ()) := hlI
      simp only [Bool.not_true, cond_true, cond_false, hx, hpI', joinP_some, hse, Option.bind_some, Bool.true_and]
      cases sight p (i : Int) x.2.2.2.1 (parN x)
      · simp only [Bool.not_false, cond_true, cond_false, Bool.false_and, Option.map_some, joinS_inr]
      · simp only [Bool.not_true, cond_false, idx_range (deepAt_pos F.bd).1, hlI', joinP_some, Bool.true_and]
        by_cases hr : 0 ≤ x.2.2.2.2
        · obtain ⟨r1, r2⟩ := F.rt hr
          have hs2 := impl_Seen_ok p hp (i : Int) (by omega) x.2.2.2.2 (extL p.1 x.2.2.2.1 (parN x)) r1 (by unfold extL; omega)
          simp only [hr, decide_true, cond_true, hs2, Option.bind_some, joinP_some]
          cases sight p (i : Int) x.2.2.2.2 (extL p.1 x.2.2.2.1 (parN x)) <;> simp only [Bool.not_true, Bool.not_false, cond_true, cond_false, Option.map_some, joinS_inr, joinS_inl, wrapSucc (show i < 9223372036854775807 by omega)]
        · simp only [hr, decide_false, cond_false, cond_true, joinP_some, Option.map_some, joinS_inl, wrapSucc (show i < 9223372036854775807 by omega)]) (by
    simp only [L3_impl_NamesRight, List.length_range, not_lt_self, decide_false, cond_false, Option.map_some])
  have h' : loopF L3_impl_NamesRight (p.2, (p.2.length : Int), (0 : Int), p, ()) = _ := h
  simp only [Bool.not_true, cond_false, Option.bind_some, h', Bool.true_and]
  cases (List.range p.2.length).all (nrF p) <;> rfl
end Go.Proofs.YtgkgfpbdodafaaaGreatDoorE

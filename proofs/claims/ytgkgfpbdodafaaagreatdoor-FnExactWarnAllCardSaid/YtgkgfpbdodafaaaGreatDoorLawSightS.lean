/- Which names are in sight: the reference's reckoning. No condition beyond each lemma's own. -/
import Derived.Test.YtgkgfpbdodafaaaGreatDoorLawSight
set_option linter.all false
namespace Go.Proofs.YtgkgfpbdodafaaaGreatDoorE
set_option linter.all false
set_option maxRecDepth 100000
abbrev SEEN := PROG × (Int × (List ByteArray × Bool))
theorem sHasT' (l : List ByteArray) (s : ByteArray) (hl : l.length ≤ 16000000) : spec_l07Has l s = some (hasT l s, ()) := by
  have h := loopF_any (step := L1_spec_l07Has) l (fun y => decide (y = s)) (fun k => (l, s, (k : Int), ())) (.inr (true, ())) (.inl ()) (fun k hk => by
    simp only [L1_spec_l07Has, lt_cast hk, decide_true, cond_true, idx_run hk, rd_nat hk, wrapSucc (show k < 9223372036854775807 by omega)]
    cases decide (l[k] = s) <;> rfl) (by
    simp only [L1_spec_l07Has, not_lt_self, decide_false, cond_false, Option.map_some])
  have h' : loopF L1_spec_l07Has (l, s, (0 : Int), ()) = _ := h
  simp only [spec_l07Has, Option.bind_some, h', hasT]
  cases l.any fun y => decide (y = s) <;> rfl
theorem ext_none (l : List NODE) (nm : List ByteArray) (y : Int) : extT l false nm y = nm := rfl
theorem foldl_none (l : List NODE) (nm : List ByteArray) : ∀ ys : List Int, ys.foldl (extT l false) nm = nm
  | [] => rfl
  | y :: ys => foldl_none l nm ys
theorem fits_val {k i j : Int} (h : fits k i j = true) (hk : k ≤ 19) (h2 : ¬ ((k = 16 ∨ k = 17) ∧ 0 < i)) : 1 ≤ j ∧ j ≤ 12 := by
  unfold fits at h
  rw [decide_eq_false (show ¬ k = 20 by omega), cond_false] at h
  have e : ((decide (k = 16) || decide (k = 17)) && decide (0 < i)) = false := by
    rw [Bool.and_eq_false_iff]
    by_cases hi : 0 < i
    · left
      have : ¬ (k = 16 ∨ k = 17) := fun h => h2 ⟨h, hi⟩
      rw [Bool.or_eq_false_iff]
      exact ⟨decide_eq_false (by omega), decide_eq_false (by omega)⟩
    · right; exact decide_eq_false hi
  rw [e, cond_false] at h
  by_cases h19 : k = 19
  · rw [decide_eq_true h19, cond_true] at h
    have := of_decide_eq_true h
    omega
  · rw [decide_eq_false h19, cond_false] at h
    exact of_decide_eq_true h
theorem fits_blk {k i j : Int} (h : fits k i j = true) (hk : k = 16 ∨ k = 17) (hi : 0 < i) : j = 20 := by
  unfold fits at h
  rw [decide_eq_false (show ¬ k = 20 by omega), cond_false] at h
  have e : ((decide (k = 16) || decide (k = 17)) && decide (0 < i)) = true := by
    rw [Bool.and_eq_true, Bool.or_eq_true]
    exact ⟨hk.imp decide_eq_true decide_eq_true, decide_eq_true hi⟩
  rw [e, cond_true] at h
  exact of_decide_eq_true h
theorem fits_step {k i j : Int} (h : fits k i j = true) (hk : k = 20) : 13 ≤ j ∧ j ≤ 19 := by
  unfold fits at h
  rw [decide_eq_true hk, cond_true] at h
  exact of_decide_eq_true h
theorem value_R (p : PROG) (hp : FineP p) (fn : Int) : ∀ (n : Nat) (k : Int) (nm : List ByteArray) (b : Bool), (0 : Int) < deepAt p.1 k → (rd p.1 k zN).1 ≤ 12 → k.toNat < n → nm.length ≤ 16000000 →
    (R_spec_l07Seen_value n).1 (p, (fn, (nm, b))) k = some ((p, (fn, (nm, b || !sight p fn k nm))), ())
  | 0, _, _, _, _, _, h, _ => absurd h (by omega)
  | n + 1, k, nm, b, hd, h12, hn, hnm => by
    have hk := (deepAt_pos hd).1
    have hok := (deepAt_pos hd).2.1
    have hkind := nk_kind hok
    have htw := nk_twelve hok
    have hkid := fun y hy => @kid_pos p.1 k hd y hy
    have hval : ∀ i (hi : i < (rd p.1 k zN).2.2.2.length), (rd p.1 (rd p.1 k zN).2.2.2[i] zN).1 ≤ 12 := fun i hi => (fits_val (nk_fits hok hi) (by omega) (by omega)).2
    rw [sight_eq p fn hd]
    show spec_l07Seen_value_S (R_spec_l07Seen_value n).1 (p, (fn, (nm, b))) k = _
    unfold spec_l07Seen_value_S
    rw [idx_range (show 0 ≤ k ∧ k < ((List.length (p, (fn, (nm, b))).1.1 : Nat) : Int) from hk)]
    generalize rd p.1 k zN = x at h12 hkind htw hkid hval ⊢
    have h20 : ¬ x.1 = 20 := by omega
    rw [decide_eq_false h20]
    have hl := loopF_fold (step := L1_spec_l07Seen_value (R_spec_l07Seen_value n).1) x.2.2.2 (fun (c : List ByteArray × Bool) y => (extT p.1 false c.1 y, c.2 || !sight p fn y c.1)) (fun i c => ((i : Int), (p, (fn, (c.1, c.2))), x, ())) (fun c => ((p, (fn, (c.1, c.2))), x, ())) (fun _ c => c.1 = nm) (fun i hi c hc => by
      obtain ⟨k1, k2, k3⟩ := hkid _ (List.getElem_mem hi)
      have ih := value_R p hp fn n x.2.2.2[i] c.1 c.2 k1 (hval i hi) (by omega) (by rw [hc]; exact hnm)
      refine ⟨?_, by rw [ext_none]; exact hc⟩
      simp only [L1_spec_l07Seen_value, lt_cast hi, decide_true, cond_true, idx_run hi, rd_nat hi, ih, Option.bind_some, Option.map_some, wrapSucc (show i < 9223372036854775807 by omega), ext_none]) (fun c _ => by
      simp only [L1_spec_l07Seen_value, not_lt_self, decide_false, cond_false, Option.map_some]) (nm, b) rfl
    have h1 := hl.1
    rw [fold_runc (fun nm y => sight p fn y nm) (extT p.1 false), foldl_none] at h1
    have h1' : loopF (L1_spec_l07Seen_value (R_spec_l07Seen_value n).1) ((0 : Int), (p, (fn, (nm, b))), x, ()) = _ := h1
    simp only [Option.bind_some, h1', joinP_some]
    generalize (runc (fun nm y => sight p fn y nm) (extT p.1 false) x.2.2.2 nm).isSome = r
    have hT := sHasT' nm x.2.2.1 hnm
    have hrest : usesK x.1 = true → some ((p, (fn, (nm, b || !r || !hasT nm x.2.2.1))), ()) = some ((p, (fn, (nm, b || !(okH p fn x nm && r)))), ()) := fun hu => by
      have e12 : ¬ x.1 = 12 := by
        intro h; rw [h] at hu; simp [usesK] at hu
      simp only [okH, hu, Bool.not_true, Bool.false_or, decide_eq_false e12, Bool.not_false, Bool.true_or, Bool.and_true]
      cases b <;> cases r <;> cases hasT nm x.2.2.1 <;> rfl
    have hcase : x.1 = 1 ∨ x.1 = 2 ∨ x.1 = 3 ∨ x.1 = 4 ∨ x.1 = 5 ∨ x.1 = 6 ∨ (7 ≤ x.1 ∧ x.1 ≤ 11) ∨ x.1 = 12 := by omega
    have hset : usesK x.1 = true → (bif (b || !r) then some ((p, (fn, (nm, true))), ()) else (spec_l07Has nm x.2.2.1).bind fun y8 => some ((p, (fn, (nm, !y8.1))), ())) = some ((p, (fn, (nm, b || !(okH p fn x nm && r)))), ()) := fun hu => by
      rw [← hrest hu, hT, Option.bind_some]
      cases (b || !r) <;> rfl
    have huse : x.1 = 2 ∨ x.1 = 3 ∨ x.1 = 4 ∨ x.1 = 5 ∨ x.1 = 6 → usesK x.1 = true := fun h => by
      simp only [usesK, Bool.or_eq_true, decide_eq_true_eq]; omega
    rcases hcase with h | h | h | h | h | h | h | h
    · have hu : usesK x.1 = false := by rw [h]; rfl
      simp only [h, decide_true, decide_false, cond_true, cond_false, joinP_some, Int.reduceEq, okH, show usesK 1 = false from rfl, Bool.not_false, Bool.true_or, Bool.true_and]
    · have := hset (huse (by omega))
      simp only [h, decide_true, decide_false, cond_true, cond_false, joinP_some, Int.reduceEq]
      rw [this]; rfl
    · have := hset (huse (by omega))
      simp only [h, decide_true, decide_false, cond_true, cond_false, joinP_some, Int.reduceEq]
      rw [this]; rfl
    · have := hset (huse (by omega))
      simp only [h, decide_true, decide_false, cond_true, cond_false, joinP_some, Int.reduceEq]
      rw [this]; rfl
    · have := hset (huse (by omega))
      simp only [h, decide_true, decide_false, cond_true, cond_false, joinP_some, Int.reduceEq]
      rw [this]; rfl
    · have := hset (huse (by omega))
      simp only [h, decide_true, decide_false, cond_true, cond_false, joinP_some, Int.reduceEq]
      rw [this]; rfl
    · have hu : usesK x.1 = false := by
        simp only [usesK, Bool.or_eq_false_iff, decide_eq_false_iff_not]; omega
      simp only [show ¬ x.1 = 2 by omega, show ¬ x.1 = 3 by omega, show ¬ x.1 = 4 by omega, show ¬ x.1 = 5 by omega, show ¬ x.1 = 6 by omega, show ¬ x.1 = 12 by omega, decide_false, cond_false, joinP_some, okH, hu, Bool.not_false, Bool.true_or, Bool.true_and]
    · have hF := spec_FnAt_ok p hp x.2.2.1
      simp only [h, decide_true, decide_false, cond_true, cond_false, joinP_some, Int.reduceEq, hF, Option.bind_some, okH, show usesK 12 = false from rfl, Bool.not_false, Bool.true_or, Bool.true_and, Bool.not_true, Bool.false_or]
      cases hb : (b || !r)
      · simp only [cond_false]
        have hr : b = false ∧ r = true := by revert hb; cases b <;> cases r <;> simp
        rw [hr.1, hr.2]
        by_cases h0 : fnAt p.2 x.2.2.1 < 0
        · have hc : callOk p fn x = false := by
            unfold callOk; rw [Bool.and_eq_false_iff]; exact .inl (decide_eq_false (by omega))
          simp only [h0, decide_true, cond_true, joinP_some, hc]; rfl
        · by_cases h1 : fn ≤ fnAt p.2 x.2.2.1
          · have hc : callOk p fn x = false := by
              unfold callOk; rw [Bool.and_eq_false_iff]; exact .inl (decide_eq_false (by omega))
            simp only [h0, h1, decide_true, decide_false, cond_true, cond_false, joinP_some, hc]; rfl
          · have hlt := fnAt_lt (l := p.2) (s := x.2.2.1)
            simp only [h0, h1, decide_false, cond_false]
            rw [idx_range ⟨by omega, hlt⟩]
            simp only [joinP_some, callOk, decide_eq_true (show 0 ≤ fnAt p.2 x.2.2.1 ∧ fnAt p.2 x.2.2.1 ≤ fn - 1 by omega), Bool.true_and, Bool.and_true, Bool.false_or]
            by_cases hl : ((rd p.2 (fnAt p.2 x.2.2.1) zF).2.1.length : Int) = (x.2.2.2.length : Int) <;> simp [hl]
      · have hr : (b || !(callOk p fn x && r)) = true := by revert hb; cases b <;> cases r <;> simp
        simp only [cond_true, joinP_some, hr]
theorem value_ok (p : PROG) (hp : FineP p) (fn : Int) (k : Int) (nm : List ByteArray) (b : Bool) (hd : (0 : Int) < deepAt p.1 k) (h12 : (rd p.1 k zN).1 ≤ 12) (hnm : nm.length ≤ 16000000) :
    spec_l07Seen_value (p, (fn, (nm, b))) k = some ((p, (fn, (nm, b || !sight p fn k nm))), ()) :=
  limF_some.2 ⟨k.toNat + 1, fun n hn => value_R p hp fn n k nm b hd h12 (by omega) hnm⟩
end Go.Proofs.YtgkgfpbdodafaaaGreatDoorE

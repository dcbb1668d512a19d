/- Which words and codes are right, as the program has it and as the reference has it. No condition beyond each lemma's own. -/
import Derived.Test.YtibccfmlfknhbabDoorLawCode
set_option linter.all false
namespace Go.Proofs.YtibccfmlfknhbabDoorE
set_option linter.all false
set_option maxRecDepth 100000

abbrev INS := Int × (Int × (Int × (Int × (Int × (ByteArray × List Int)))))
abbrev CODE := ByteArray × (Int × (List Int × List INS))
structure Small (c : CODE) : Prop where
  l : c.2.2.1.length ≤ 1048576
  w : c.2.2.2.length ≤ 1048576
def place (c : CODE) (n : Int) : Bool := decide (0 ≤ n ∧ n ≤ (c.2.2.1.length : Int) - 1)
theorem len1 {n : Nat} (h : n ≤ 1048576) : IntKind.wrap .i64 ((n : Int) - 1) = (n : Int) - 1 := wrap64 (by omega) (by omega)
theorem sPlace (c : CODE) (h : Small c) (n : Int) : spec_l11Place c n = some (place c n, ()) := by
  simp only [spec_l11Place, len1 h.l, sIn, Option.bind_some, place]
theorem iPlace (c : CODE) (h : Small c) (n : Int) (b : Bool) : impl_isPlace c n b = some (bif b then place c n else decide (n = 0), ()) := by
  cases b <;> simp only [impl_isPlace, len1 h.l, iIn, Option.bind_some, place, cond_true, cond_false]
def hasB (k : Int) : Bool := decide (2 ≤ k ∧ k ≤ 7) || (decide (9 ≤ k ∧ k ≤ 12) || (decide (k = 14) || decide (k = 15)))
def hasC (k : Int) : Bool := decide (10 ≤ k ∧ k ≤ 12)
theorem sHasB (k : Int) : spec_l11HasB k = some (hasB k, ()) := by
  simp only [spec_l11HasB, sIn, Option.bind_some, hasB]
  cases decide (2 ≤ k ∧ k ≤ 7) <;> cases decide (9 ≤ k ∧ k ≤ 12) <;> cases decide (k = 14) <;> rfl
theorem iHasB (k : Int) : impl_hasB k = some (hasB k, ()) := by
  simp only [impl_hasB, iIn, Option.bind_some, hasB]
  cases decide (2 ≤ k ∧ k ≤ 7) <;> cases decide (9 ≤ k ∧ k ≤ 12) <;> cases decide (k = 14) <;> rfl
theorem sHasC (k : Int) : spec_l11HasC k = some (hasC k, ()) := by simp only [spec_l11HasC, sIn, Option.bind_some, hasC]
theorem iHasC (k : Int) : impl_hasC k = some (hasC k, ()) := by simp only [impl_hasC, iIn, Option.bind_some, hasC]
theorem iHasA (k : Int) (h : 1 ≤ k ∧ k ≤ 20) : impl_hasA k = some (decide (k ≠ 18), ()) := by
  simp only [impl_hasA, iIn, Option.bind_some]
  by_cases h1 : 1 ≤ k ∧ k ≤ 17
  · simp only [h1, and_self, decide_true, cond_true, joinP_some]
    simp; omega
  · simp only [h1, decide_false, cond_false]
    by_cases h2 : k = 19
    · simp only [h2, decide_true, cond_true, joinP_some]; rfl
    · simp only [h2, decide_false, cond_false, joinP_some]
      simp only [Option.some.injEq, Prod.mk.injEq, and_true]
      by_cases h3 : k = 20
      · subst h3; rfl
      · have : k = 18 := by omega
        subst this; rfl
def okA (c : CODE) (w : INS) : Bool := bif decide (w.1 = 18) then decide (w.2.1 = 0) else (decide (w.1 = 13) || decide (w.1 = 20)) && decide (w.2.1 = -1) || place c w.2.1
def okB (c : CODE) (w : INS) : Bool := bif hasB w.1 then place c w.2.2.1 else decide (w.2.2.1 = 0)
def okC (c : CODE) (w : INS) : Bool := bif hasC w.1 then place c w.2.2.2.1 else decide (w.2.2.2.1 = 0)
def okN (c : CODE) (w : INS) : Bool := bif decide (w.1 = 1) then decide (0 ≤ w.2.2.2.2.1 ∧ w.2.2.2.2.1 ≤ 1000000000) else bif decide (w.1 = 18) || decide (w.1 = 19) then decide (0 ≤ w.2.2.2.2.1 ∧ w.2.2.2.2.1 ≤ (c.2.2.2.length : Int) - 1) else decide (w.2.2.2.2.1 = 0)
def okR (c : CODE) (w : INS) : Bool := bif decide (w.1 = 13) then w.2.2.2.2.2.2.all (place c) && (nameOk w.2.2.2.2.2.1 && decide ((w.2.2.2.2.2.2.length : Int) ≤ 3)) else decide (w.2.2.2.2.2.1 = (⟨#[]⟩ : ByteArray)) && decide ((w.2.2.2.2.2.2.length : Int) = 0)
def wordOk (c : CODE) (w : INS) : Bool := decide (1 ≤ w.1 ∧ w.1 ≤ 20) && (okA c w && (okB c w && (okC c w && (okN c w && okR c w))))
theorem sA (c : CODE) (h : Small c) (w : INS) : spec_l11A c w = some (okA c w, ()) := by
  simp only [spec_l11A, okA]
  by_cases h1 : w.1 = 13
  · simp only [h1, decide_true, cond_true, joinP_some, show ¬ ((13 : Int) = 18) by decide, decide_false, cond_false, Bool.true_or, Bool.true_and, sPlace c h, Option.bind_some]
    cases decide (w.2.1 = -1) <;> rfl
  · by_cases h2 : w.1 = 20
    · simp only [h2, show ¬ ((20 : Int) = 13) by decide, decide_true, decide_false, cond_true, cond_false, joinP_some, show ¬ ((20 : Int) = 18) by decide, Bool.or_true, Bool.true_and, sPlace c h, Option.bind_some]
      cases decide (w.2.1 = -1) <;> rfl
    · simp only [h1, h2, decide_false, cond_false, joinP_some, Bool.or_self, Bool.false_and, Bool.false_or, sPlace c h, Option.bind_some]
      cases decide (w.1 = 18) <;> rfl
theorem args_loopS (c : CODE) (h : Small c) (w : INS) (hl : w.2.2.2.2.2.2.length ≤ 1048576) : loopF L1_spec_WordOk ((0 : Int), c, w, ()) = some (bif w.2.2.2.2.2.2.all (place c) then .inl (w, ()) else .inr (false, ())) := by
  exact loopF_all (step := L1_spec_WordOk) w.2.2.2.2.2.2 (place c) (fun k => ((k : Int), c, w, ())) (.inl (w, ())) (.inr (false, ())) (fun k hk => by
    simp only [L1_spec_WordOk, lt_cast hk, decide_true, cond_true, idx_run hk, rd_nat hk, sPlace c h, Option.bind_some, wrapSucc (show k < 9223372036854775807 by omega)]
    cases place c w.2.2.2.2.2.2[k] <;> rfl) (by
    simp only [L1_spec_WordOk, not_lt_self, decide_false, cond_false, Option.map_some])
theorem args_loopI (c : CODE) (h : Small c) (w : INS) (hl : w.2.2.2.2.2.2.length ≤ 1048576) : loopF L1_impl_WordOk (w.2.2.2.2.2.2, (w.2.2.2.2.2.2.length : Int), (0 : Int), c, w, ()) = some (bif w.2.2.2.2.2.2.all (place c) then .inl (w, ()) else .inr (false, ())) := by
  exact loopF_all (step := L1_impl_WordOk) w.2.2.2.2.2.2 (place c) (fun k => (w.2.2.2.2.2.2, (w.2.2.2.2.2.2.length : Int), (k : Int), c, w, ())) (.inl (w, ())) (.inr (false, ())) (fun k hk => by
    simp only [L1_impl_WordOk, lt_cast hk, decide_true, cond_true, idx_run hk, rd_nat hk, iPlace c h, Option.bind_some, wrapSucc (show k < 9223372036854775807 by omega)]
    cases place c w.2.2.2.2.2.2[k] <;> rfl) (by
    simp only [L1_impl_WordOk, not_lt_self, decide_false, cond_false, Option.map_some])
theorem spec_WordOk_ok (c : CODE) (h : Small c) (w : INS) (hl : w.2.2.2.2.2.2.length ≤ 1048576) : spec_WordOk c w = some (wordOk c w, ()) := by
  unfold spec_WordOk wordOk
  simp only [sIn, sA c h, Option.bind_some]
  by_cases h1 : 1 ≤ w.1 ∧ w.1 ≤ 20
  case neg => simp only [h1, decide_false, Bool.not_false, cond_true, joinP_some, Bool.false_and]
  simp only [h1, and_self, decide_true, Bool.not_true, cond_false, joinP_some, Bool.true_and]
  cases okA c w
  case false => simp only [Bool.not_false, cond_true, Bool.false_and]
  simp only [Bool.not_true, cond_false, Bool.true_and, sHasB, sPlace c h, Option.bind_some]
  have eB : (bif hasB w.1 then bif !place c w.2.2.1 then some (true, c, w, ()) else bif !hasB w.1 then some (decide (w.2.2.1 ≠ 0), c, w, ()) else some (false, c, w, ()) else bif !hasB w.1 then some (decide (w.2.2.1 ≠ 0), c, w, ()) else some (false, c, w, ())) = some (!okB c w, c, w, ()) := by
    simp only [okB]
    cases hasB w.1 <;> cases place c w.2.2.1 <;> by_cases e : w.2.2.1 = 0 <;> simp [e]
  rw [eB, joinP_some]
  cases okB c w
  case false => simp only [Bool.not_false, cond_true, Bool.false_and]
  simp only [Bool.not_true, cond_false, Bool.true_and, sHasC, sPlace c h, Option.bind_some]
  have eC : (bif hasC w.1 then bif !place c w.2.2.2.1 then some (true, c, w, ()) else bif !hasC w.1 then some (decide (w.2.2.2.1 ≠ 0), c, w, ()) else some (false, c, w, ()) else bif !hasC w.1 then some (decide (w.2.2.2.1 ≠ 0), c, w, ()) else some (false, c, w, ())) = some (!okC c w, c, w, ()) := by
    simp only [okC]
    cases hasC w.1 <;> cases place c w.2.2.2.1 <;> by_cases e : w.2.2.2.1 = 0 <;> simp [e]
  rw [eC, joinP_some]
  cases okC c w
  case false => simp only [Bool.not_false, cond_true, Bool.false_and]
  simp only [Bool.not_true, cond_false, Bool.true_and, sIn, Option.bind_some, len1 h.w]
  have fin : (bif decide (w.1 ≠ 13) then joinP (bif decide (w.2.2.2.2.2.1 = (⟨#[]⟩ : ByteArray)) then some (decide ((w.2.2.2.2.2.2.length : Int) = 0), ()) else some (false, ())) fun x19 => some (x19.1, ()) else joinS ((some ((0 : Int), c, w, ())).bind fun x200 => loopF L1_spec_WordOk x200) fun x22 => joinP ((spec_NameOk x22.1.2.2.2.2.2.1).bind fun y23 => bif y23.1 then some (decide ((x22.1.2.2.2.2.2.2.length : Int) ≤ 3), ()) else some (false, ())) fun x24 => some (x24.1, ())) = some (okR c w, ()) := by
    simp only [okR]
    by_cases h13 : w.1 = 13
    · simp only [h13, ne_eq, not_true_eq_false, decide_false, cond_false, Option.bind_some, args_loopS c h w hl, decide_true, cond_true]
      cases w.2.2.2.2.2.2.all (place c)
      · simp only [cond_false, joinS_inr, Bool.false_and]
      · simp only [cond_true, joinS_inl, spec_NameOk_ok, Option.bind_some, Bool.true_and]
        cases nameOk w.2.2.2.2.2.1 <;> rfl
    · simp only [h13, ne_eq, not_false_eq_true, decide_true, cond_true, decide_false, cond_false]
      cases decide (w.2.2.2.2.2.1 = (⟨#[]⟩ : ByteArray)) <;> rfl
  simp only [okN]
  by_cases hk1 : w.1 = 1
  · simp only [hk1, decide_true, cond_true]
    cases decide (0 ≤ w.2.2.2.2.1 ∧ w.2.2.2.2.1 ≤ 1000000000)
    · simp only [Bool.not_false, cond_true, Option.map_some, joinS_inr, Bool.false_and]
    · simp only [Bool.not_true, cond_false, Option.map_some, joinS_inl, Bool.true_and]
      exact fin
  · have e15 : (bif decide (w.1 = 18) then some (decide (w.1 = 18), c, w, ()) else some (decide (w.1 = 19), c, w, ())) = some (decide (w.1 = 18) || decide (w.1 = 19), c, w, ()) := by
      cases decide (w.1 = 18) <;> rfl
    simp only [hk1, decide_false, cond_false]
    rw [e15, joinP_some]
    cases decide (w.1 = 18) || decide (w.1 = 19)
    · simp only [cond_false]
      by_cases hz : w.2.2.2.2.1 = 0
      · simp only [hz, ne_eq, not_true_eq_false, decide_false, cond_false, joinS_inl, Option.map_some, decide_true, Bool.true_and]
        exact fin
      · simp only [hz, ne_eq, not_false_eq_true, decide_true, cond_true, Option.map_some, joinS_inr, decide_false, Bool.false_and]
    · simp only [cond_true, sIn, Option.bind_some, len1 h.w]
      cases decide (0 ≤ w.2.2.2.2.1 ∧ w.2.2.2.2.1 ≤ (c.2.2.2.length : Int) - 1)
      · simp only [Bool.not_false, cond_true, Option.map_some, joinS_inr, Bool.false_and]
      · simp only [Bool.not_true, cond_false, joinS_inl, Option.map_some, Bool.true_and]
        exact fin
theorem zero_range (x : Int) : decide (0 ≤ x ∧ x ≤ 0) = decide (x = 0) := by
  by_cases e : x = 0
  · simp [e]
  · rw [decide_eq_false e, decide_eq_false (by omega)]
theorem impl_WordOk_ok (c : CODE) (h : Small c) (w : INS) (hl : w.2.2.2.2.2.2.length ≤ 1048576) : impl_WordOk c w = some (wordOk c w, ()) := by
  unfold impl_WordOk wordOk
  simp only [iIn, Option.bind_some]
  by_cases h1 : 1 ≤ w.1 ∧ w.1 ≤ 20
  case neg => simp only [h1, decide_false, Bool.not_false, cond_true, Bool.false_and]
  simp only [h1, and_self, decide_true, Bool.not_true, cond_false, Bool.true_and]
  have e0 : (bif decide (w.1 = 13) then some (decide (w.2.1 = -1), c, w, ()) else bif decide (w.1 = 20) then some (decide (w.2.1 = -1), c, w, ()) else some (false, c, w, ())) = some ((decide (w.1 = 13) || decide (w.1 = 20)) && decide (w.2.1 = -1), c, w, ()) := by
    cases decide (w.1 = 13) <;> cases decide (w.1 = 20) <;> rfl
  rw [e0, joinP_some]
  simp only [iHasA w.1 h1, iHasB, iHasC, iPlace c h, Option.bind_some]
  have eA : (bif !((decide (w.1 = 13) || decide (w.1 = 20)) && decide (w.2.1 = -1)) then bif !(bif decide (w.1 ≠ 18) then place c w.2.1 else decide (w.2.1 = 0)) then some (true, c, w, ()) else bif !(bif hasB w.1 then place c w.2.2.1 else decide (w.2.2.1 = 0)) then some (true, c, w, ()) else some (!(bif hasC w.1 then place c w.2.2.2.1 else decide (w.2.2.2.1 = 0)), c, w, ())
      else bif !(bif hasB w.1 then place c w.2.2.1 else decide (w.2.2.1 = 0)) then some (true, c, w, ()) else some (!(bif hasC w.1 then place c w.2.2.2.1 else decide (w.2.2.2.1 = 0)), c, w, ())) = some (!(okA c w && (okB c w && okC c w)), c, w, ()) := by
    have hA : okA c w = (((decide (w.1 = 13) || decide (w.1 = 20)) && decide (w.2.1 = -1)) || (bif decide (w.1 ≠ 18) then place c w.2.1 else decide (w.2.1 = 0))) := by
      simp only [okA]
      by_cases e : w.1 = 18
      · simp [e]
      · simp [e]
    rw [hA]
    show _ = some (!(_ && ((bif hasB w.1 then place c w.2.2.1 else decide (w.2.2.1 = 0)) && (bif hasC w.1 then place c w.2.2.2.1 else decide (w.2.2.2.1 = 0)))), c, w, ())
    cases ((decide (w.1 = 13) || decide (w.1 = 20)) && decide (w.2.1 = -1)) <;> cases (bif decide (w.1 ≠ 18) then place c w.2.1 else decide (w.2.1 = 0)) <;> cases (bif hasB w.1 then place c w.2.2.1 else decide (w.2.2.1 = 0)) <;> cases (bif hasC w.1 then place c w.2.2.2.1 else decide (w.2.2.2.1 = 0)) <;> rfl
  rw [eA, joinP_some]
  have hsp : (okA c w && (okB c w && (okC c w && (okN c w && okR c w)))) = ((okA c w && (okB c w && okC c w)) && (okN c w && okR c w)) := by
    cases okA c w <;> cases okB c w <;> cases okC c w <;> rfl
  rw [hsp]
  cases okA c w && (okB c w && okC c w)
  case false => simp only [Bool.not_false, cond_true, Bool.false_and]
  simp only [Bool.not_true, cond_false, Bool.true_and, len1 h.w]
  have e15 : (bif decide (w.1 = 18) then some ((0 : Int), decide (w.1 = 18), c, w, ()) else some ((0 : Int), decide (w.1 = 19), c, w, ())) = some ((0 : Int), decide (w.1 = 18) || decide (w.1 = 19), c, w, ()) := by
    cases decide (w.1 = 18) <;> rfl
  rw [e15, joinP_some]
  simp only [len1 h.w]
  have eN : (bif decide (w.1 = 1) then some ((1000000000 : Int), c, w, ()) else joinP (bif decide (w.1 = 18) || decide (w.1 = 19) then some ((c.2.2.2.length : Int) - 1, c, w, ()) else some ((0 : Int), c, w, ())) fun x15 : Int × CODE × INS × Unit => some (x15.1, x15.2.1, x15.2.2.1, ())) =
      some ((bif decide (w.1 = 1) then (1000000000 : Int) else bif decide (w.1 = 18) || decide (w.1 = 19) then (c.2.2.2.length : Int) - 1 else 0), c, w, ()) := by
    cases decide (w.1 = 1) <;> cases (decide (w.1 = 18) || decide (w.1 = 19)) <;> rfl
  rw [eN, joinP_some]
  simp only [iIn, Option.bind_some]
  have eK : decide (0 ≤ w.2.2.2.2.1 ∧ w.2.2.2.2.1 ≤ (bif decide (w.1 = 1) then (1000000000 : Int) else bif decide (w.1 = 18) || decide (w.1 = 19) then (c.2.2.2.length : Int) - 1 else 0)) = okN c w := by
    simp only [okN]
    cases decide (w.1 = 1) <;> cases (decide (w.1 = 18) || decide (w.1 = 19)) <;> simp only [cond_true, cond_false]
    exact zero_range _
  rw [eK]
  cases okN c w
  case false => simp only [Bool.not_false, cond_true, Bool.false_and]
  simp only [Bool.not_true, cond_false, Bool.true_and, okR]
  by_cases h13 : w.1 = 13
  · simp only [h13, ne_eq, not_true_eq_false, decide_false, cond_false, args_loopI c h w hl, decide_true, cond_true]
    cases w.2.2.2.2.2.2.all (place c)
    · simp only [cond_false, joinS_inr, Bool.false_and]
    · simp only [cond_true, joinS_inl, impl_NameOk_ok, Option.bind_some, Bool.true_and]
      cases nameOk w.2.2.2.2.2.1 <;> rfl
  · simp only [h13, ne_eq, not_false_eq_true, decide_true, cond_true, decide_false, cond_false]
    cases decide (w.2.2.2.2.2.1 = (⟨#[]⟩ : ByteArray)) <;> rfl
/-- What is said of a code that came in: its sizes. -/
structure FineC (c : CODE) : Prop where
  s : Small c
  a : ∀ w ∈ c.2.2.2, (w : INS).2.2.2.2.2.2.length ≤ 1048576
theorem wt_code (c : CODE) : wt t_Code c = c.1.size + (0 + ((c.2.2.1.length + (c.2.2.1.map (wt (.int .i64))).sum) + (c.2.2.2.length + (c.2.2.2.map (wt t_Ins)).sum))) := rfl
theorem wt_ins (w : INS) : wt t_Ins w = 0 + (0 + (0 + (0 + (0 + (w.2.2.2.2.2.1.size + (w.2.2.2.2.2.2.length + (w.2.2.2.2.2.2.map (wt (.int .i64))).sum)))))) := rfl
theorem fine_of (c : CODE) (h : wt t_Code c ≤ 1048576) : FineC c := by
  rw [wt_code] at h
  refine ⟨⟨by omega, by omega⟩, fun w hw => ?_⟩
  obtain ⟨i, hi, rfl⟩ := List.mem_iff_getElem.1 hw
  have h1 := sum_mem (f := wt t_Ins) hi
  have h2 := wt_ins c.2.2.2[i]
  omega
def localOk (n : Int) : Bool := decide (1 ≤ n ∧ n ≤ 4)
def codeOk (c : CODE) : Bool := nameOk c.1 && (decide (c.2.2.1.length ≤ 200) && (decide (0 ≤ c.2.1 ∧ c.2.1 ≤ (c.2.2.1.length : Int)) && (decide (1 ≤ c.2.2.2.length ∧ c.2.2.2.length ≤ 400) && (decide ((c.2.2.2.getD (c.2.2.2.length - 1) (0, 0, 0, 0, 0, ⟨#[]⟩, [])).1 = 20) && (c.2.2.1.all localOk && c.2.2.2.all (wordOk c))))))
theorem locals_loopS (c : CODE) (h : FineC c) : loopF L1_spec_CodeOk ((0 : Int), c, ()) = some (bif c.2.2.1.all localOk then .inl (c, ()) else .inr (false, ())) := by
  have hl := h.s.l
  exact loopF_all (step := L1_spec_CodeOk) c.2.2.1 localOk (fun k => ((k : Int), c, ())) (.inl (c, ())) (.inr (false, ())) (fun k hk => by
    simp only [L1_spec_CodeOk, lt_cast hk, decide_true, cond_true, idx_run hk, rd_nat hk, sIn, Option.bind_some, wrapSucc (show k < 9223372036854775807 by omega), localOk]
    cases decide (1 ≤ c.2.2.1[k] ∧ c.2.2.1[k] ≤ 4) <;> rfl) (by
    simp only [L1_spec_CodeOk, not_lt_self, decide_false, cond_false, Option.map_some])
theorem locals_loopI (c : CODE) (h : FineC c) : loopF L1_impl_CodeOk (c.2.2.1, (c.2.2.1.length : Int), (0 : Int), c, ()) = some (bif c.2.2.1.all localOk then .inl (c, ()) else .inr (false, ())) := by
  have hl := h.s.l
  exact loopF_all (step := L1_impl_CodeOk) c.2.2.1 localOk (fun k => (c.2.2.1, (c.2.2.1.length : Int), (k : Int), c, ())) (.inl (c, ())) (.inr (false, ())) (fun k hk => by
    simp only [L1_impl_CodeOk, lt_cast hk, decide_true, cond_true, idx_run hk, rd_nat hk, iIn, Option.bind_some, wrapSucc (show k < 9223372036854775807 by omega), localOk]
    cases decide (1 ≤ c.2.2.1[k] ∧ c.2.2.1[k] ≤ 4) <;> rfl) (by
    simp only [L1_impl_CodeOk, not_lt_self, decide_false, cond_false, Option.map_some])
theorem words_loopS (c : CODE) (h : FineC c) : loopF L2_spec_CodeOk ((0 : Int), c, ()) = some (bif c.2.2.2.all (wordOk c) then .inl () else .inr (false, ())) := by
  have hl := h.s.w
  exact loopF_all (step := L2_spec_CodeOk) c.2.2.2 (wordOk c) (fun k => ((k : Int), c, ())) (.inl ()) (.inr (false, ())) (fun k hk => by
    simp only [L2_spec_CodeOk, lt_cast hk, decide_true, cond_true, idx_run hk, rd_nat hk, spec_WordOk_ok c h.s _ (h.a _ (List.getElem_mem hk)), Option.bind_some, wrapSucc (show k < 9223372036854775807 by omega)]
    cases wordOk c c.2.2.2[k] <;> rfl) (by
    simp only [L2_spec_CodeOk, not_lt_self, decide_false, cond_false, Option.map_some])
theorem words_loopI (c : CODE) (h : FineC c) : loopF L2_impl_CodeOk (c.2.2.2, (c.2.2.2.length : Int), (0 : Int), c, ()) = some (bif c.2.2.2.all (wordOk c) then .inl () else .inr (false, ())) := by
  have hl := h.s.w
  exact loopF_all (step := L2_impl_CodeOk) c.2.2.2 (wordOk c) (fun k => (c.2.2.2, (c.2.2.2.length : Int), (k : Int), c, ())) (.inl ()) (.inr (false, ())) (fun k hk => by
    simp only [L2_impl_CodeOk, lt_cast hk, decide_true, cond_true, idx_run hk, rd_nat hk, impl_WordOk_ok c h.s _ (h.a _ (List.getElem_mem hk)), Option.bind_some, wrapSucc (show k < 9223372036854775807 by omega)]
    cases wordOk c c.2.2.2[k] <;> rfl) (by
    simp only [L2_impl_CodeOk, not_lt_self, decide_false, cond_false, Option.map_some])
theorem last_cast {n : Nat} (h : 1 ≤ n) : (n : Int) - 1 = ((n - 1 : Nat) : Int) := by omega
theorem rd_getD {α : Type} (l : List α) (k : Nat) (z : α) : rd l (k : Int) z = l.getD k z := by simp [rd]
theorem head_code (c : CODE) (h : FineC c) (nm : Bool) (r : Bool × CODE × Unit → Option (Bool × Unit)) :
    (joinP (bif !nm then some (true, c, ()) else bif decide ((200 : Int) < (c.2.2.1.length : Int)) then some (true, c, ()) else bif !decide ((0 : Int) ≤ c.2.1 ∧ c.2.1 ≤ (c.2.2.1.length : Int)) then some (true, c, ()) else bif !decide ((1 : Int) ≤ (c.2.2.2.length : Int) ∧ (c.2.2.2.length : Int) ≤ 400) then some (true, c, ()) else
      (Cnd.idx ((c.2.2.2.length : Int) - 1) (c.2.2.2.length)).run (some (decide ((rd c.2.2.2 ((c.2.2.2.length : Int) - 1) (0, 0, 0, 0, 0, ⟨#[]⟩, [])).1 ≠ (20 : Int)), c, ()))) r) =
    r (!(nm && (decide (c.2.2.1.length ≤ 200) && (decide (0 ≤ c.2.1 ∧ c.2.1 ≤ (c.2.2.1.length : Int)) && (decide (1 ≤ c.2.2.2.length ∧ c.2.2.2.length ≤ 400) && decide ((c.2.2.2.getD (c.2.2.2.length - 1) (0, 0, 0, 0, 0, ⟨#[]⟩, [])).1 = 20))))), c, ()) := by
  have e1 : decide ((200 : Int) < (c.2.2.1.length : Int)) = !decide (c.2.2.1.length ≤ 200) := by
    by_cases e : c.2.2.1.length ≤ 200
    · rw [decide_eq_true e, decide_eq_false (by omega)]; rfl
    · rw [decide_eq_false e, decide_eq_true (by omega)]; rfl
  have e2 : decide ((1 : Int) ≤ (c.2.2.2.length : Int) ∧ (c.2.2.2.length : Int) ≤ 400) = decide (1 ≤ c.2.2.2.length ∧ c.2.2.2.length ≤ 400) := by
    by_cases e : 1 ≤ c.2.2.2.length ∧ c.2.2.2.length ≤ 400
    · rw [decide_eq_true e, decide_eq_true (by omega)]
    · rw [decide_eq_false e, decide_eq_false (by omega)]
  rw [e1, e2]
  cases nm
  · rfl
  cases decide (c.2.2.1.length ≤ 200)
  · rfl
  cases decide (0 ≤ c.2.1 ∧ c.2.1 ≤ (c.2.2.1.length : Int))
  · rfl
  by_cases e : 1 ≤ c.2.2.2.length ∧ c.2.2.2.length ≤ 400
  · have hlt : c.2.2.2.length - 1 < c.2.2.2.length := by omega
    simp only [e, and_self, decide_true, Bool.not_true, cond_false, last_cast e.1, idx_run hlt, rd_getD, joinP_some, Bool.true_and]
    by_cases e3 : (c.2.2.2.getD (c.2.2.2.length - 1) (0, 0, 0, 0, 0, ⟨#[]⟩, [])).1 = 20
    · simp [e3]
    · simp [e3]
  · rw [decide_eq_false e]; rfl
theorem spec_CodeOk_ok (c : CODE) (h : FineC c) : spec_CodeOk c = some (codeOk c, ()) := by
  unfold spec_CodeOk codeOk
  simp only [spec_NameOk_ok, sIn, Option.bind_some, len1 h.s.w]
  rw [head_code c h]
  have hsp : ∀ a b d e f g i : Bool, (a && (b && (d && (e && (f && (g && i)))))) = ((a && (b && (d && (e && f)))) && (g && i)) := by decide
  rw [hsp]
  cases nameOk c.1 && (decide (c.2.2.1.length ≤ 200) && (decide (0 ≤ c.2.1 ∧ c.2.1 ≤ (c.2.2.1.length : Int)) && (decide (1 ≤ c.2.2.2.length ∧ c.2.2.2.length ≤ 400) && decide ((c.2.2.2.getD (c.2.2.2.length - 1) (0, 0, 0, 0, 0, ⟨#[]⟩, [])).1 = 20))))
  · rfl
  simp only [Bool.not_true, cond_false, Bool.true_and, locals_loopS c h]
  cases c.2.2.1.all localOk
  · rfl
  simp only [cond_true, joinS_inl, Option.bind_some, words_loopS c h, Bool.true_and]
  cases c.2.2.2.all (wordOk c) <;> rfl
theorem impl_CodeOk_ok (c : CODE) (h : FineC c) : impl_CodeOk c = some (codeOk c, ()) := by
  unfold impl_CodeOk codeOk
  simp only [impl_NameOk_ok, iIn, Option.bind_some, len1 h.s.w]
  rw [head_code c h]
  have hsp : ∀ a b d e f g i : Bool, (a && (b && (d && (e && (f && (g && i)))))) = ((a && (b && (d && (e && f)))) && (g && i)) := by decide
  rw [hsp]
  cases nameOk c.1 && (decide (c.2.2.1.length ≤ 200) && (decide (0 ≤ c.2.1 ∧ c.2.1 ≤ (c.2.2.1.length : Int)) && (decide (1 ≤ c.2.2.2.length ∧ c.2.2.2.length ≤ 400) && decide ((c.2.2.2.getD (c.2.2.2.length - 1) (0, 0, 0, 0, 0, ⟨#[]⟩, [])).1 = 20))))
  · rfl
  simp only [Bool.not_true, cond_false, Bool.true_and, locals_loopI c h]
  cases c.2.2.1.all localOk
  · rfl
  simp only [cond_true, joinS_inl, Option.bind_some, words_loopI c h, Bool.true_and]
  cases c.2.2.2.all (wordOk c) <;> rfl
end Go.Proofs.YtibccfmlfknhbabDoorE

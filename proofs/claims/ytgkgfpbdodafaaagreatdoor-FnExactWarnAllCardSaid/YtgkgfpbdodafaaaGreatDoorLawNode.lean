/- Which nodes are right, as the program has it and as the reference has it. No condition beyond each lemma's own. -/
import Derived.Test.YtgkgfpbdodafaaaGreatDoorLawCode
set_option linter.all false
namespace Go.Proofs.YtgkgfpbdodafaaaGreatDoorE
set_option linter.all false
set_option maxRecDepth 100000
abbrev NODE := Int × (Int × (ByteArray × List Int))
abbrev FN := ByteArray × (List (ByteArray × Int) × (Int × (Int × Int)))
abbrev PROG := List NODE × List FN
abbrev zN : NODE := ((0 : Int), ((0 : Int), ((⟨#[]⟩ : ByteArray), [])))
structure FineN (l : List NODE) : Prop where
  len : l.length ≤ 1048576
  kid : ∀ x ∈ l, (x : NODE).2.2.2.length ≤ 1048576
theorem lenm1 {n : Nat} (h : n ≤ 1048576) : IntKind.wrap .i64 ((n : Int) - 1) = (n : Int) - 1 := wrap64 (by omega) (by omega)
def kr (k : Int) : Int × Int := if k = 8 ∨ k = 13 ∨ k = 14 ∨ k = 15 ∨ k = 18 ∨ k = 19 then (1, 1) else if k = 9 ∨ k = 10 ∨ k = 11 ∨ k = 17 then (2, 2) else if k = 12 then (0, 3) else if k = 16 then (3, 3) else if k = 20 then (0, 12) else (0, 0)
theorem sKids (k : Int) : spec_l04Kids k = some ((kr k).1, (kr k).2, ()) := by
  unfold spec_l04Kids kr
  by_cases h8 : k = 8
  · subst h8; rfl
  by_cases h13 : k = 13
  · subst h13; rfl
  by_cases h14 : k = 14
  · subst h14; rfl
  by_cases h15 : k = 15
  · subst h15; rfl
  by_cases h18 : k = 18
  · subst h18; rfl
  by_cases h19 : k = 19
  · subst h19; rfl
  by_cases h9 : k = 9
  · subst h9; rfl
  by_cases h10 : k = 10
  · subst h10; rfl
  by_cases h11 : k = 11
  · subst h11; rfl
  by_cases h17 : k = 17
  · subst h17; rfl
  by_cases h12 : k = 12
  · subst h12; rfl
  by_cases h16 : k = 16
  · subst h16; rfl
  by_cases h20 : k = 20
  · subst h20; rfl
  simp only [h8, h13, h14, h15, h18, h19, h9, h10, h11, h17, h12, h16, h20, decide_false, cond_false, joinP_some, or_self, if_false]
theorem iKids (k : Int) : impl_shape k = some ((kr k).1, (kr k).2, ()) := by
  unfold impl_shape kr
  by_cases h8 : k = 8
  · subst h8; rfl
  by_cases h13 : k = 13
  · subst h13; rfl
  by_cases h14 : k = 14
  · subst h14; rfl
  by_cases h15 : k = 15
  · subst h15; rfl
  by_cases h18 : k = 18
  · subst h18; rfl
  by_cases h19 : k = 19
  · subst h19; rfl
  by_cases h9 : k = 9
  · subst h9; rfl
  by_cases h10 : k = 10
  · subst h10; rfl
  by_cases h11 : k = 11
  · subst h11; rfl
  by_cases h17 : k = 17
  · subst h17; rfl
  by_cases h12 : k = 12
  · subst h12; rfl
  by_cases h16 : k = 16
  · subst h16; rfl
  by_cases h20 : k = 20
  · subst h20; rfl
  simp only [h8, h13, h14, h15, h18, h19, h9, h10, h11, h17, h12, h16, h20, decide_false, cond_false, joinP_some, or_self, if_false]
def named (k : Int) : Bool := decide (2 ≤ k ∧ k ≤ 6) || decide (12 ≤ k ∧ k ≤ 15)
theorem iNamed (k : Int) : impl_hasName k = some (named k, ()) := by
  simp only [impl_hasName, iIn, Option.bind_some, named]
  cases decide (2 ≤ k ∧ k ≤ 6) <;> rfl
theorem sNamed (k : Int) : spec_l04Named k = some (named k, ()) := by
  unfold spec_l04Named
  by_cases h2 : k = 2
  · subst h2; rfl
  by_cases h3 : k = 3
  · subst h3; rfl
  by_cases h4 : k = 4
  · subst h4; rfl
  by_cases h5 : k = 5
  · subst h5; rfl
  by_cases h6 : k = 6
  · subst h6; rfl
  by_cases h12 : k = 12
  · subst h12; rfl
  by_cases h13 : k = 13
  · subst h13; rfl
  by_cases h14 : k = 14
  · subst h14; rfl
  by_cases h15 : k = 15
  · subst h15; rfl
  simp only [h2, h3, h4, h5, h6, h12, h13, h14, h15, decide_false, cond_false, joinP_some, named]
  rw [decide_eq_false (by omega), decide_eq_false (by omega)]; rfl
def fits (k i j : Int) : Bool := bif decide (k = 20) then decide (13 ≤ j ∧ j ≤ 19) else bif (decide (k = 16) || decide (k = 17)) && decide (0 < i) then decide (j = 20) else bif decide (k = 19) then decide (j = 12) else decide (1 ≤ j ∧ j ≤ 12)
theorem sFits (k i j : Int) : spec_l04Fits k i j = some (fits k i j, ()) := by
  simp only [spec_l04Fits, spec_l04Statement, spec_l04Value, sIn, Option.bind_some, fits]
  cases decide (k = 20)
  · simp only [cond_false]
    by_cases h16 : k = 16
    · subst h16
      simp only [decide_true, cond_true, joinP_some, Bool.true_or, Bool.true_and]
      cases decide (0 < i) <;> rfl
    · by_cases h17 : k = 17
      · subst h17
        simp only [show ¬ ((17 : Int) = 16) by decide, decide_true, decide_false, cond_true, cond_false, joinP_some, Bool.or_true, Bool.true_and]
        cases decide (0 < i) <;> rfl
      · simp only [h16, h17, decide_false, cond_false, joinP_some, Bool.or_self, Bool.false_and]
        cases decide (k = 19) <;> rfl
  · rfl
theorem iFits (k i j : Int) : impl_kidFits k i j = some (fits k i j, ()) := by
  simp only [impl_kidFits, impl_isStep, impl_isValue, iIn, Option.bind_some, fits]
  cases decide (k = 20)
  · simp only [cond_false]
    by_cases h16 : k = 16
    · subst h16
      simp only [decide_true, cond_true, joinP_some, Bool.true_or, Bool.true_and]
      cases decide (0 < i) <;> rfl
    · by_cases h17 : k = 17
      · subst h17
        simp only [show ¬ ((17 : Int) = 16) by decide, decide_true, decide_false, cond_true, cond_false, joinP_some, Bool.or_true, Bool.true_and]
        cases decide (0 < i) <;> rfl
      · simp only [h16, h17, decide_false, cond_false, joinP_some, Bool.or_self, Bool.false_and]
        cases decide (k = 19) <;> rfl
  · rfl
def hasI (l : List Int) (n : Int) : Bool := l.any fun y => decide (y = n)
theorem iHas (l : List Int) (n : Int) (hl : l.length ≤ 4000000) : impl_hasInt l n = some (hasI l n, ()) := by
  have h := loopF_any (step := L1_impl_hasInt) l (fun y => decide (y = n)) (fun k => (n, l, (l.length : Int), (k : Int), ())) (.inr (true, ())) (.inl ()) (fun k hk => by
    simp only [L1_impl_hasInt, lt_cast hk, decide_true, cond_true, idx_run hk, rd_nat hk, wrapSucc (show k < 9223372036854775807 by omega)]
    cases decide (l[k] = n) <;> rfl) (by
    simp only [L1_impl_hasInt, not_lt_self, decide_false, cond_false, Option.map_some])
  have h' : loopF L1_impl_hasInt (n, l, (l.length : Int), (0 : Int), ()) = _ := h
  simp only [impl_hasInt, Option.bind_some, h', hasI]
  cases l.any fun y => decide (y = n) <;> rfl
def kidOk (l : List NODE) (k : Int) (x : NODE) (i : Nat) : Bool := decide (0 ≤ x.2.2.2.getD i 0 ∧ x.2.2.2.getD i 0 ≤ k - 1) && (fits x.1 (i : Int) (rd l (x.2.2.2.getD i 0) zN).1 && !hasI (x.2.2.2.take i) (x.2.2.2.getD i 0))
def kidsOk (l : List NODE) (k : Int) (x : NODE) : Bool := (List.range x.2.2.2.length).all (kidOk l k x)
def nodeBody (l : List NODE) (k : Int) (x : NODE) : Bool := decide (1 ≤ x.1 ∧ x.1 ≤ 20) && (decide ((kr x.1).1 ≤ (x.2.2.2.length : Int) ∧ (x.2.2.2.length : Int) ≤ (kr x.1).2) && ((bif decide (x.1 = 1) then decide (0 ≤ x.2.1 ∧ x.2.1 ≤ 1000000000) else decide (x.2.1 = 0)) && ((bif named x.1 then nameOk x.2.2.1 else decide (x.2.2.1 = (⟨#[]⟩ : ByteArray))) && kidsOk l k x)))
def nodeOk (l : List NODE) (k : Int) : Bool := decide (0 ≤ k ∧ k ≤ (l.length : Int) - 1) && nodeBody l k (rd l k zN)
theorem lsub_take {α : Type} (l : List α) (i : Nat) : lsub l (0 : Int) (i : Int) = l.take i := by simp [lsub]
theorem cut_run {α : Type} {i n : Nat} {K : Option α} (h : i ≤ n) : (Cnd.cut (0 : Int) (i : Int) n).run K = K := by
  simp only [Cnd.run]; rw [if_pos ⟨by omega, by omega, by omega⟩]
theorem idx_range {α : Type} {n : Int} {m : Nat} {K : Option α} (h : 0 ≤ n ∧ n < (m : Int)) : (Cnd.idx n m).run K = K := by
  simp only [Cnd.run]; rw [if_pos h]
theorem kids_loopI (l : List NODE) (k : Nat) (hk : k < l.length) (hl : FineN l) (x : NODE) (hx : x.2.2.2.length ≤ 1048576) :
    loopF L1_impl_NodeOk (l, (k : Int), x.2.2.2, (x.2.2.2.length : Int), (0 : Int), x, ()) = some (bif kidsOk l k x then .inl (x, ()) else .inr (false, ())) := by
  have hlen := hl.len
  have h := loopF_all (step := L1_impl_NodeOk) (List.range x.2.2.2.length) (kidOk l k x) (fun i => (l, (k : Int), x.2.2.2, (x.2.2.2.length : Int), (i : Int), x, ())) (.inl (x, ())) (.inr (false, ())) (fun i hi => by
    have hi' : i < x.2.2.2.length := by simpa using hi
    have wi := wrapSucc (show i < 9223372036854775807 by omega)
    have hg : x.2.2.2.getD i 0 = x.2.2.2[i] := by simp [hi']
    have wk : IntKind.wrap .i64 ((k : Int) - 1) = (k : Int) - 1 := wrap64 (by omega) (by omega)
    simp only [L1_impl_NodeOk, lt_cast hi', decide_true, cond_true, idx_run hi', rd_nat hi', iIn, Option.bind_some, wk, List.getElem_range, kidOk, hg]
    generalize x.2.2.2[i] = kid
    by_cases hr : 0 ≤ kid ∧ kid ≤ (k : Int) - 1
    · simp only [hr, and_self, decide_true, Bool.not_true, cond_false, cut_run (Nat.le_of_lt hi'), lsub_take, iHas _ _ (show (x.2.2.2.take i).length ≤ 4000000 by rw [List.length_take]; omega), Option.bind_some, Bool.true_and, idx_range (show 0 ≤ kid ∧ kid < (l.length : Int) by omega), iFits]
      cases hasI (x.2.2.2.take i) kid <;> cases fits x.1 (i : Int) (rd l kid zN).1 <;> simp only [cond_true, cond_false, joinP_some, Bool.not_true, Bool.not_false, Bool.and_true, Bool.and_false, Option.map_some, wi]
    · simp only [hr, decide_false, Bool.not_false, cond_true, joinP_some, Bool.false_and, cond_false, Option.map_some]) (by
    rw [List.length_range]
    simp only [L1_impl_NodeOk, not_lt_self, decide_false, cond_false, Option.map_some])
  exact h
theorem dup_loop (l : List NODE) (k : Int) (x : NODE) (i : Nat) (hi : i < x.2.2.2.length) (hx : x.2.2.2.length ≤ 1048576) :
    loopF L1_spec_NodeOk (l, k, (i : Int), (0 : Int), x, ()) = some (bif hasI (x.2.2.2.take i) (x.2.2.2.getD i 0) then .inr (.inr (.inr (.inr (false, ())))) else .inl (l, k, (i : Int), x, ())) := by
  have hlen : (x.2.2.2.take i).length = i := by rw [List.length_take]; omega
  have h := loopF_any (step := L1_spec_NodeOk) (x.2.2.2.take i) (fun y => decide (y = x.2.2.2.getD i 0)) (fun j => (l, k, (i : Int), (j : Int), x, ())) (.inr (.inr (.inr (.inr (false, ()))))) (.inl (l, k, (i : Int), x, ())) (fun j hj => by
    have hj' : j < i := by omega
    have hjl : j < x.2.2.2.length := by omega
    have hg : x.2.2.2.getD i 0 = x.2.2.2[i] := by simp [hi]
    have e : decide (x.2.2.2[i] = x.2.2.2[j]) = decide (x.2.2.2[j] = x.2.2.2[i]) := by
      by_cases h : x.2.2.2[i] = x.2.2.2[j]
      · rw [decide_eq_true h, decide_eq_true h.symm]
      · rw [decide_eq_false h, decide_eq_false (fun h' => h h'.symm)]
    simp only [L1_spec_NodeOk, lt_cast hj', decide_true, cond_true, idx_run hi, idx_run hjl, rd_nat hi, rd_nat hjl, wrapSucc (show j < 9223372036854775807 by omega), hg, e, List.getElem_take]
    cases decide (x.2.2.2[j] = x.2.2.2[i]) <;> rfl) (by
    rw [hlen]
    simp only [L1_spec_NodeOk, not_lt_self, decide_false, cond_false, Option.map_some])
  exact h
theorem kids_loopS (l : List NODE) (k : Nat) (hk : k < l.length) (hl : FineN l) (x : NODE) (hx : x.2.2.2.length ≤ 1048576) :
    loopF L2_spec_NodeOk (l, (k : Int), (0 : Int), x, ()) = some (bif kidsOk l k x then .inl () else .inr (false, ())) := by
  have hlen := hl.len
  have h := loopF_all (step := L2_spec_NodeOk) (List.range x.2.2.2.length) (kidOk l k x) (fun i => (l, (k : Int), (i : Int), x, ())) (.inl ()) (.inr (false, ())) (fun i hi => by
    have hi' : i < x.2.2.2.length := by simpa using hi
    have wi := wrapSucc (show i < 9223372036854775807 by omega)
    have hg : x.2.2.2.getD i 0 = x.2.2.2[i] := by simp [hi']
    have wk : IntKind.wrap .i64 ((k : Int) - 1) = (k : Int) - 1 := wrap64 (by omega) (by omega)
    have hd := dup_loop l (k : Int) x i hi' hx
    rw [hg] at hd
    simp only [L2_spec_NodeOk, lt_cast hi', decide_true, cond_true, idx_run hi', rd_nat hi', sIn, Option.bind_some, wk, List.getElem_range, kidOk, hg]
    generalize x.2.2.2[i] = kid at hd ⊢
    by_cases hr : 0 ≤ kid ∧ kid ≤ (k : Int) - 1
    · simp only [hr, and_self, decide_true, Bool.not_true, cond_false, Option.bind_some, Bool.true_and, idx_range (show 0 ≤ kid ∧ kid < (l.length : Int) by omega), sFits]
      cases fits x.1 (i : Int) (rd l kid zN).1
      · simp only [Bool.not_false, joinP_some, cond_true, Option.map_some, joinS_inr, Bool.false_and, cond_false]
      · simp only [Bool.not_true, joinP_some, cond_false, hd, Bool.true_and]
        cases hasI (x.2.2.2.take i) kid <;> simp only [cond_true, cond_false, joinS_inl, joinS_inr, Bool.not_true, Bool.not_false, Option.map_some, wi]
    · simp only [hr, decide_false, Bool.not_false, cond_true, joinP_some, Bool.false_and, cond_false, Option.map_some, joinS_inr]) (by
    rw [List.length_range]
    simp only [L2_spec_NodeOk, not_lt_self, decide_false, cond_false, Option.map_some])
  exact h
theorem name_ne {s : ByteArray} (h : nameOk s = true) : s ≠ (⟨#[]⟩ : ByteArray) := by
  rintro rfl
  simp only [nameOk, Bool.and_eq_true, decide_eq_true_eq] at h
  have := h.1.1.1.1
  have e : (⟨#[]⟩ : ByteArray).size = 0 := rfl
  omega
theorem impl_NodeOk_ok (l : List NODE) (hl : FineN l) (k : Int) : impl_NodeOk l k = some (nodeOk l k, ()) := by
  unfold impl_NodeOk nodeOk
  simp only [lenm1 hl.len, iIn, Option.bind_some]
  by_cases hr : 0 ≤ k ∧ k ≤ (l.length : Int) - 1
  case neg => simp only [hr, decide_false, Bool.not_false, cond_true, Bool.false_and]
  obtain ⟨k, rfl⟩ : ∃ n : Nat, k = (n : Int) := ⟨k.toNat, by omega⟩
  have hk : k < l.length := by omega
  simp only [hr, and_self, decide_true, Bool.not_true, cond_false, idx_run hk, iKids, Option.bind_some, Bool.true_and, rd_nat hk, nodeBody]
  have hx := hl.kid _ (List.getElem_mem hk)
  have hloop := kids_loopI l k hk hl l[k] hx
  generalize l[k] = x at hx hloop ⊢
  cases decide (1 ≤ x.1 ∧ x.1 ≤ 20)
  · simp only [Bool.not_false, cond_true, joinP_some, Bool.false_and]
  simp only [Bool.not_true, cond_false, Bool.true_and]
  cases decide ((kr x.1).1 ≤ (x.2.2.2.length : Int) ∧ (x.2.2.2.length : Int) ≤ (kr x.1).2)
  · simp only [Bool.not_false, cond_true, joinP_some, Bool.false_and]
  simp only [Bool.not_true, cond_false, joinP_some, Bool.true_and, hloop]
  cases kidsOk l k x
  · simp only [cond_false, joinS_inr, Bool.and_false]
  simp only [cond_true, joinS_inl, Bool.and_true]
  have eN : (bif decide (x.1 = 1) then bif !decide (0 ≤ x.2.1 ∧ x.2.1 ≤ 1000000000) then some (true, x, ()) else bif decide (x.1 ≠ 1) then some (decide (x.2.1 ≠ 0), x, ()) else some (false, x, ()) else bif decide (x.1 ≠ 1) then some (decide (x.2.1 ≠ 0), x, ()) else some (false, x, ())) = some (!(bif decide (x.1 = 1) then decide (0 ≤ x.2.1 ∧ x.2.1 ≤ 1000000000) else decide (x.2.1 = 0)), x, ()) := by
    by_cases e : x.1 = 1
    · simp only [e, decide_true, cond_true, ne_eq, not_true_eq_false, decide_false, cond_false]
      cases decide (0 ≤ x.2.1 ∧ x.2.1 ≤ 1000000000) <;> rfl
    · by_cases e2 : x.2.1 = 0 <;> simp [e, e2]
  rw [eN, joinP_some]
  cases (bif decide (x.1 = 1) then decide (0 ≤ x.2.1 ∧ x.2.1 ≤ 1000000000) else decide (x.2.1 = 0))
  · simp only [Bool.not_false, cond_true, Bool.false_and]
  simp only [Bool.not_true, cond_false, iNamed, impl_NameOk_ok, Option.bind_some, Bool.true_and]
  cases named x.1 <;> rfl
theorem spec_NodeOk_ok (l : List NODE) (hl : FineN l) (k : Int) : spec_NodeOk l k = some (nodeOk l k, ()) := by
  unfold spec_NodeOk nodeOk
  simp only [lenm1 hl.len, sIn, Option.bind_some]
  by_cases hr : 0 ≤ k ∧ k ≤ (l.length : Int) - 1
  case neg => simp only [hr, decide_false, Bool.not_false, cond_true, joinP_some, Bool.false_and]
  obtain ⟨k, rfl⟩ : ∃ n : Nat, k = (n : Int) := ⟨k.toNat, by omega⟩
  have hk : k < l.length := by omega
  simp only [hr, and_self, decide_true, Bool.not_true, cond_false, idx_run hk, Bool.true_and, rd_nat hk, nodeBody, joinP_some]
  have hx := hl.kid _ (List.getElem_mem hk)
  have hloop := kids_loopS l k hk hl l[k] hx
  generalize l[k] = x at hx hloop ⊢
  cases decide (1 ≤ x.1 ∧ x.1 ≤ 20)
  · simp only [Bool.not_false, cond_true, Bool.false_and]
  simp only [Bool.not_true, cond_false, Bool.true_and, idx_run hk, sKids, Option.bind_some, sIn]
  have eN : (bif !decide ((kr x.1).1 ≤ (x.2.2.2.length : Int) ∧ (x.2.2.2.length : Int) ≤ (kr x.1).2) then some (l, (k : Int), true, x, ()) else bif !decide (0 ≤ x.2.1 ∧ x.2.1 ≤ 1000000000) then some (l, (k : Int), true, x, ()) else bif decide (x.1 ≠ 1) then some (l, (k : Int), decide (x.2.1 ≠ 0), x, ()) else some (l, (k : Int), false, x, ())) =
      some (l, (k : Int), !(decide ((kr x.1).1 ≤ (x.2.2.2.length : Int) ∧ (x.2.2.2.length : Int) ≤ (kr x.1).2) && (bif decide (x.1 = 1) then decide (0 ≤ x.2.1 ∧ x.2.1 ≤ 1000000000) else decide (x.2.1 = 0))), x, ()) := by
    cases decide ((kr x.1).1 ≤ (x.2.2.2.length : Int) ∧ (x.2.2.2.length : Int) ≤ (kr x.1).2)
    · rfl
    by_cases e : x.1 = 1
    · simp only [e, decide_true, cond_true, ne_eq, not_true_eq_false, decide_false, cond_false, Bool.not_true, Bool.true_and]
      cases decide (0 ≤ x.2.1 ∧ x.2.1 ≤ 1000000000) <;> rfl
    · by_cases e2 : x.2.1 = 0
      · simp [e, e2]
      · by_cases e3 : 0 ≤ x.2.1 ∧ x.2.1 ≤ 1000000000 <;> simp [e, e2, e3]
  rw [eN, joinP_some]
  cases decide ((kr x.1).1 ≤ (x.2.2.2.length : Int) ∧ (x.2.2.2.length : Int) ≤ (kr x.1).2)
  · simp only [Bool.false_and, Bool.not_false, cond_true]
  simp only [Bool.true_and]
  cases (bif decide (x.1 = 1) then decide (0 ≤ x.2.1 ∧ x.2.1 ≤ 1000000000) else decide (x.2.1 = 0))
  · simp only [Bool.not_false, cond_true, Bool.false_and]
  simp only [Bool.not_true, cond_false, Bool.true_and, sNamed, spec_NameOk_ok, Option.bind_some]
  have eM : (bif !(named x.1 == decide (x.2.2.1 ≠ (⟨#[]⟩ : ByteArray))) then some (l, (k : Int), true, x, ()) else bif decide (x.2.2.1 ≠ (⟨#[]⟩ : ByteArray)) then some (l, (k : Int), !nameOk x.2.2.1, x, ()) else some (l, (k : Int), false, x, ())) =
      some (l, (k : Int), !(bif named x.1 then nameOk x.2.2.1 else decide (x.2.2.1 = (⟨#[]⟩ : ByteArray))), x, ()) := by
    by_cases e : x.2.2.1 = (⟨#[]⟩ : ByteArray)
    · have hn : nameOk x.2.2.1 = false := by
        cases h : nameOk x.2.2.1
        · rfl
        · exact absurd e (name_ne h)
      rw [hn]
      cases named x.1 <;> simp [e]
    · cases named x.1 <;> simp [e]
  rw [eM, joinP_some]
  cases (bif named x.1 then nameOk x.2.2.1 else decide (x.2.2.1 = (⟨#[]⟩ : ByteArray)))
  · simp only [Bool.not_false, cond_true, Bool.false_and]
  simp only [Bool.not_true, cond_false, Bool.true_and, hloop]
  cases kidsOk l k x <;> rfl
end Go.Proofs.YtgkgfpbdodafaaaGreatDoorE

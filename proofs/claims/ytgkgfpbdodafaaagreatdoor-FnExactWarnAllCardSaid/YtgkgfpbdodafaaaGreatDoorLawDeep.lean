/- How deep a tree is: the program's reckoning and the reference's. No condition beyond each lemma's own. -/
import Derived.Test.YtgkgfpbdodafaaaGreatDoorLawNode
set_option linter.all false
namespace Go.Proofs.YtgkgfpbdodafaaaGreatDoorE
set_option linter.all false
set_option maxRecDepth 100000
theorem loopF_reach {α β : Type} {step : β → Option (β ⊕ α)} (S : Nat → β) (m : Nat) (H : ∀ k, k < m → step (S k) = some (.inl (S (k + 1)))) : loopF step (S 0) = loopF step (S m) := by
  have key : ∀ j, j ≤ m → loopF step (S 0) = loopF step (S j) := by
    intro j
    induction j with
    | zero => intro _; rfl
    | succ j ih => intro hj; rw [ih (by omega), loopF_inl (H j (by omega))]
  exact key m (Nat.le_refl m)
def dStep (ds : List Int) (d kid : Int) : Int := if d < rd ds kid (0 : Int) + 1 then rd ds kid (0 : Int) + 1 else d
def dKids (ds : List Int) (x : NODE) : Int := x.2.2.2.foldl (dStep ds) 1
def dCut (d : Int) : Int := bif decide ((10 : Int) < d) then 0 else d
def dNext (l : List NODE) (ds : List Int) (k : Nat) : Int := bif nodeOk l (k : Int) && (decide (k = 0) || decide (rd ds ((k : Int) - 1) (0 : Int) ≠ 0)) then dCut (dKids ds (rd l (k : Int) zN)) else 0
def deeps (l : List NODE) : Nat → List Int
  | 0 => []
  | k + 1 => deeps l k ++ [dNext l (deeps l k) k]
def dAt (l : List NODE) (k : Nat) : Int := dNext l (deeps l k) k
theorem deeps_len (l : List NODE) : ∀ k, (deeps l k).length = k
  | 0 => rfl
  | k + 1 => by simp [deeps, deeps_len l k]
theorem deeps_get (l : List NODE) : ∀ (k j : Nat) (h : j < k), rd (deeps l k) (j : Int) (0 : Int) = dAt l j
  | k + 1, j, h => by
    have hl := deeps_len l k
    rw [rd_nat (show j < (deeps l (k + 1)).length by rw [deeps_len]; exact h)]
    simp only [deeps]
    by_cases e : j = k
    · subst e
      rw [List.getElem_append_right (by omega)]
      simp [hl, dAt]
    · have h' : j < k := by omega
      rw [List.getElem_append_left (by omega), ← rd_nat (z := (0 : Int)) (show j < (deeps l k).length by omega)]
      exact deeps_get l k j h'
theorem nodeOk_lt {l : List NODE} {k : Int} (h : nodeOk l k = true) : 0 ≤ k ∧ k < (l.length : Int) := by
  simp only [nodeOk, Bool.and_eq_true, decide_eq_true_eq] at h
  omega
theorem nodeOk_kid {l : List NODE} {k : Int} (h : nodeOk l k = true) {i : Nat} (hi : i < (rd l k zN).2.2.2.length) : 0 ≤ (rd l k zN).2.2.2[i] ∧ (rd l k zN).2.2.2[i] < k := by
  simp only [nodeOk, nodeBody, kidsOk, Bool.and_eq_true, List.all_eq_true] at h
  have := h.2.2.2.2.2 i (by simpa using hi)
  simp only [kidOk, Bool.and_eq_true, decide_eq_true_eq] at this
  have e : (rd l k zN).2.2.2.getD i 0 = (rd l k zN).2.2.2[i] := by
    generalize rd l k zN = x at hi ⊢
    simp [hi]
  rw [e] at this
  omega
theorem dKids_le (l : List NODE) (k : Nat) (ds : List Int) (H : ∀ j : Nat, j < k → 0 ≤ rd ds (j : Int) (0 : Int) ∧ rd ds (j : Int) (0 : Int) ≤ 10) (x : NODE) (hx : ∀ y ∈ x.2.2.2, (0 : Int) ≤ y ∧ y < (k : Int)) : 1 ≤ dKids ds x ∧ dKids ds x ≤ 11 := by
  have key : ∀ (m : List Int) (d : Int), (∀ y ∈ m, (0 : Int) ≤ y ∧ y < (k : Int)) → 1 ≤ d ∧ d ≤ 11 → 1 ≤ m.foldl (dStep ds) d ∧ m.foldl (dStep ds) d ≤ 11 := by
    intro m
    induction m with
    | nil => intro d _ h; exact h
    | cons y m ih =>
      intro d hm hd
      rw [List.foldl_cons]
      refine ih _ (fun z hz => hm z (List.mem_cons_of_mem _ hz)) ?_
      have hy := hm y (List.mem_cons_self ..)
      have := H y.toNat (by omega)
      rw [show ((y.toNat : Nat) : Int) = y by omega] at this
      unfold dStep
      split <;> omega
  exact key x.2.2.2 1 hx ⟨by omega, by omega⟩
theorem kid_mem {l : List NODE} {k : Int} (h : nodeOk l k = true) : ∀ y ∈ (rd l k zN).2.2.2, (0 : Int) ≤ y ∧ y < k := by
  intro y hy
  obtain ⟨i, hi, rfl⟩ := List.getElem_of_mem hy
  exact nodeOk_kid h hi
theorem dAt_le (l : List NODE) : ∀ k, 0 ≤ dAt l k ∧ dAt l k ≤ 10 := by
  intro k
  induction k using Nat.strongRecOn with
  | _ k ih =>
    unfold dAt dNext
    cases h : nodeOk l (k : Int)
    · simp
    cases (decide (k = 0) || decide (rd (deeps l k) ((k : Int) - 1) (0 : Int) ≠ 0))
    · simp
    simp only [Bool.and_self, cond_true]
    have := dKids_le l k (deeps l k) (fun j hj => by rw [deeps_get l k j hj]; exact ih j hj) (rd l (k : Int) zN) (kid_mem h)
    unfold dCut
    generalize dKids (deeps l k) (rd l (k : Int) zN) = v at this ⊢
    by_cases h10 : (10 : Int) < v
    · simp [h10]
    · simp [h10]; omega
theorem dAt_succ (l : List NODE) (k : Nat) (h : dAt l k = 0) : dAt l (k + 1) = 0 := by
  have e : rd (deeps l (k + 1)) (((k + 1 : Nat) : Int) - 1) (0 : Int) = 0 := by
    rw [show ((k + 1 : Nat) : Int) - 1 = (k : Int) by omega, deeps_get l (k + 1) k (by omega), h]
  rw [dAt, dNext, e]
  simp
theorem dAt_zero (l : List NODE) (k n : Nat) (hkn : k ≤ n) (h : dAt l k = 0) : dAt l n = 0 := by
  induction n with
  | zero => obtain rfl : k = 0 := by omega
            exact h
  | succ n ih =>
    by_cases e : k = n + 1
    · subst e; exact h
    · exact dAt_succ l n (ih (by omega))
theorem dAt_ok {l : List NODE} {k : Nat} (h : dAt l k ≠ 0) : nodeOk l (k : Int) = true := by
  cases e : nodeOk l (k : Int)
  · exact absurd (by unfold dAt dNext; rw [e]; rfl) h
  · rfl
theorem deeps_rng (l : List NODE) (k : Nat) (y : Int) (hy : 0 ≤ y ∧ y < (k : Int)) : 0 ≤ rd (deeps l k) y (0 : Int) ∧ rd (deeps l k) y (0 : Int) ≤ 10 := by
  have := deeps_get l k y.toNat (by omega)
  rw [show ((y.toNat : Nat) : Int) = y by omega] at this
  rw [this]; exact dAt_le l _
theorem dStep_le (l : List NODE) (k : Nat) (y : Int) (hy : 0 ≤ y ∧ y < (k : Int)) (d : Int) (hd : 1 ≤ d ∧ d ≤ 11) : 1 ≤ dStep (deeps l k) d y ∧ dStep (deeps l k) d y ≤ 11 := by
  have := deeps_rng l k y hy
  unfold dStep
  split <;> omega
theorem deep_innerS (l : List NODE) (hl : FineN l) (n : Int) (k : Nat) (hk : k < l.length) (hok : nodeOk l (k : Int) = true) :
    loopF L1_spec_l04Deeps (l, n, deeps l k, (k : Int), (1 : Int), (0 : Int), ()) = some (l, n, deeps l k, (k : Int), dKids (deeps l k) l[k], ()) := by
  have hkid : ∀ i (hi : i < l[k].2.2.2.length), (0 : Int) ≤ l[k].2.2.2[i] ∧ l[k].2.2.2[i] < (k : Int) := by
    have := kid_mem hok
    rw [rd_nat hk] at this
    exact fun i hi => this _ (List.getElem_mem hi)
  have hx := hl.kid _ (List.getElem_mem hk)
  have hlen := deeps_len l k
  have hrd : ∀ i (hi : i < l[k].2.2.2.length), (0 : Int) ≤ rd (deeps l k) l[k].2.2.2[i] (0 : Int) ∧ rd (deeps l k) l[k].2.2.2[i] (0 : Int) ≤ 10 := fun i hi => deeps_rng l k _ (hkid i hi)
  have hst : ∀ i (hi : i < l[k].2.2.2.length) d, 1 ≤ d ∧ d ≤ 11 → 1 ≤ dStep (deeps l k) d l[k].2.2.2[i] ∧ dStep (deeps l k) d l[k].2.2.2[i] ≤ 11 := fun i hi d hd => dStep_le l k _ (hkid i hi) d hd
  have e1 : ∀ i : Int, (Cnd.idx (k : Int) l.length).run (α := (List NODE × Int × List Int × Int × Int × Int × Bool × Unit)) = fun K => K := fun i => by funext K; exact idx_run hk
  have hr : rd l (k : Int) zN = l[k] := rd_nat hk
  generalize l[k] = x at hkid hx hrd hst hr ⊢
  have h := loopF_fold (step := L1_spec_l04Deeps) x.2.2.2 (dStep (deeps l k)) (fun i d => (l, n, deeps l k, (k : Int), d, (i : Int), ())) (fun d => (l, n, deeps l k, (k : Int), d, ())) (fun _ d => 1 ≤ d ∧ d ≤ 11) (fun i hi d hd => by
    refine ⟨?_, hst i hi d hd⟩
    have a1 := hkid i hi
    have a2 := hrd i hi
    have wi := wrapSucc (show i < 9223372036854775807 by omega)
    simp only [L1_spec_l04Deeps, show (0 : Int) < d by omega, decide_true, cond_true, idx_run hk, hr, lt_cast hi, joinP_some, idx_run hi, rd_nat hi]
    generalize x.2.2.2[i] = y at a1 a2 ⊢
    rw [idx_range (show 0 ≤ y ∧ y < ((deeps l k).length : Int) by omega)]
    unfold dStep
    generalize rd (deeps l k) y (0 : Int) = v at a2 ⊢
    rw [show IntKind.wrap .i64 (v + 1) = v + 1 from wrap64 (by omega) (by omega)]
    by_cases hlt : d < v + 1
    · simp only [hlt, decide_true, cond_true, if_true, idx_range (show 0 ≤ y ∧ y < ((deeps l k).length : Int) by omega), joinP_some, wi, Option.map_some]
    · simp only [hlt, decide_false, cond_false, if_false, joinP_some, wi, Option.map_some]) (fun d hd => by
    simp only [L1_spec_l04Deeps, show (0 : Int) < d by omega, decide_true, cond_true, idx_run hk, hr, not_lt_self, decide_false, joinP_some, cond_false, Option.map_some]) 1 ⟨by omega, by omega⟩
  exact h.1
theorem deep_innerI (l : List NODE) (hl : FineN l) (n : Int) (k : Nat) (hk : k < l.length) (hok : nodeOk l (k : Int) = true) :
    loopF L1_impl_depths (l, n, deeps l k, (k : Int), (1 : Int), l[k].2.2.2, (l[k].2.2.2.length : Int), (0 : Int), ()) = some (l, n, deeps l k, (k : Int), dKids (deeps l k) l[k], ()) := by
  have hkid : ∀ i (hi : i < l[k].2.2.2.length), (0 : Int) ≤ l[k].2.2.2[i] ∧ l[k].2.2.2[i] < (k : Int) := by
    have := kid_mem hok
    rw [rd_nat hk] at this
    exact fun i hi => this _ (List.getElem_mem hi)
  have hx := hl.kid _ (List.getElem_mem hk)
  have hlen := deeps_len l k
  have hrd : ∀ i (hi : i < l[k].2.2.2.length), (0 : Int) ≤ rd (deeps l k) l[k].2.2.2[i] (0 : Int) ∧ rd (deeps l k) l[k].2.2.2[i] (0 : Int) ≤ 10 := fun i hi => deeps_rng l k _ (hkid i hi)
  have hst : ∀ i (hi : i < l[k].2.2.2.length) d, 1 ≤ d ∧ d ≤ 11 → 1 ≤ dStep (deeps l k) d l[k].2.2.2[i] ∧ dStep (deeps l k) d l[k].2.2.2[i] ≤ 11 := fun i hi d hd => dStep_le l k _ (hkid i hi) d hd
  generalize l[k] = x at hkid hx hrd hst ⊢
  have h := loopF_fold (step := L1_impl_depths) x.2.2.2 (dStep (deeps l k)) (fun i d => (l, n, deeps l k, (k : Int), d, x.2.2.2, (x.2.2.2.length : Int), (i : Int), ())) (fun d => (l, n, deeps l k, (k : Int), d, ())) (fun _ d => 1 ≤ d ∧ d ≤ 11) (fun i hi d hd => by
    refine ⟨?_, hst i hi d hd⟩
    have a1 := hkid i hi
    have a2 := hrd i hi
    have wi := wrapSucc (show i < 9223372036854775807 by omega)
    simp only [L1_impl_depths, lt_cast hi, decide_true, cond_true, idx_run hi, rd_nat hi]
    generalize x.2.2.2[i] = y at a1 a2 ⊢
    rw [idx_range (show 0 ≤ y ∧ y < ((deeps l k).length : Int) by omega)]
    unfold dStep
    generalize rd (deeps l k) y (0 : Int) = v at a2 ⊢
    rw [show IntKind.wrap .i64 (v + 1) = v + 1 from wrap64 (by omega) (by omega)]
    simp only [wi, Option.map_some, gt_iff_lt]) (fun d hd => by
    simp only [L1_impl_depths, not_lt_self, decide_false, cond_false, Option.map_some]) 1 ⟨by omega, by omega⟩
  exact h.1
theorem push_run {α : Type} {l : List NODE} (hl : FineN l) {k : Nat} (hk : k < l.length) {d : Int} {K : Option α} : (Cnd.le (((deeps l k).length + List.length [d]) * 8) 140737488355328).run K = K := by
  have := hl.len
  have e := deeps_len l k
  simp only [Cnd.run]
  rw [if_pos]
  simp only [List.length_cons, List.length_nil]
  omega
theorem deep_roundS (l : List NODE) (hl : FineN l) (n : Int) (k : Nat) (hk : k < l.length) (hn : (k : Int) ≤ n) :
    L2_spec_l04Deeps (l, n, deeps l k, (k : Int), ()) = some (.inl (l, n, deeps l (k + 1), ((k + 1 : Nat) : Int), ())) := by
  have hlen := hl.len
  have wi := wrapSucc (show k < 9223372036854775807 by omega)
  have e0 : deeps l (k + 1) = deeps l k ++ [dAt l k] := rfl
  have h1 : ∀ z, loopF L1_spec_l04Deeps (l, n, deeps l k, (k : Int), (0 : Int), z, ()) = some (l, n, deeps l k, (k : Int), (0 : Int), ()) := fun z => loopF_inr (by
    simp only [L1_spec_l04Deeps, show ¬ ((0 : Int) < 0) by decide, decide_false, cond_false, joinP_some, Option.map_some])
  have hdl := deeps_len l k
  unfold L2_spec_l04Deeps
  simp only [hn, decide_true, cond_true, lt_cast hk, joinP_some, spec_NodeOk_ok l hl, Option.bind_some]
  have e1 : (bif !nodeOk l (k : Int) then some (l, n, deeps l k, (k : Int), (1 : Int), true, ()) else bif decide ((0 : Int) < (k : Int)) then (Cnd.idx (IntKind.wrap .i64 ((k : Int) - 1)) (deeps l k).length).run (some (l, n, deeps l k, (k : Int), (1 : Int), decide (rd (deeps l k) (IntKind.wrap .i64 ((k : Int) - 1)) (0 : Int) = 0), ())) else some (l, n, deeps l k, (k : Int), (1 : Int), false, ())) =
      some (l, n, deeps l k, (k : Int), (1 : Int), !(nodeOk l (k : Int) && (decide (k = 0) || decide (rd (deeps l k) ((k : Int) - 1) (0 : Int) ≠ 0))), ()) := by
    cases nodeOk l (k : Int)
    · rfl
    by_cases hz : k = 0
    · subst hz; rfl
    · rw [wrap64 (show -9223372036854775808 ≤ (k : Int) - 1 by omega) (by omega), idx_range (show 0 ≤ (k : Int) - 1 ∧ (k : Int) - 1 < ((deeps l k).length : Int) by omega)]
      rw [decide_eq_true (show (0 : Int) < (k : Int) by omega), decide_eq_false hz]
      generalize rd (deeps l k) ((k : Int) - 1) (0 : Int) = v
      by_cases hr : v = 0 <;> simp [hr]
  rw [e1, joinP_some]
  cases hc : nodeOk l (k : Int) && (decide (k = 0) || decide (rd (deeps l k) ((k : Int) - 1) (0 : Int) ≠ 0))
  · have hd : dAt l k = 0 := by unfold dAt dNext; rw [hc]; rfl
    simp only [Bool.not_false, cond_true, joinP_some, h1, Option.bind_some, show ¬ ((10 : Int) < 0) by decide, decide_false, cond_false, push_run hl hk, Option.map_some, wi, e0, hd]
  · have hok : nodeOk l (k : Int) = true := by
      rw [Bool.and_eq_true] at hc; exact hc.1
    have hd : dAt l k = dCut (dKids (deeps l k) l[k]) := by unfold dAt dNext; rw [hc, rd_nat hk]; rfl
    simp only [Bool.not_true, cond_false, joinP_some, Option.bind_some, deep_innerS l hl n k hk hok, push_run hl hk, Option.map_some, wi, e0, hd, dCut]
    cases decide ((10 : Int) < dKids (deeps l k) l[k]) <;> simp only [cond_true, cond_false, joinP_some, push_run hl hk, Option.map_some, wi]
theorem deep_roundI (l : List NODE) (hl : FineN l) (n : Int) (k : Nat) (hk : k < l.length) (hn : (k : Int) ≤ n) (hp : k = 0 ∨ dAt l (k - 1) ≠ 0) :
    L2_impl_depths (l, n, deeps l k, (k : Int), ()) = bif decide (dAt l k = 0) then some (.inr (.inr ([], false, ()))) else some (.inl (l, n, deeps l (k + 1), ((k + 1 : Nat) : Int), ())) := by
  have hlen := hl.len
  have wi := wrapSucc (show k < 9223372036854775807 by omega)
  have e0 : deeps l (k + 1) = deeps l k ++ [dAt l k] := rfl
  have hpp : (decide (k = 0) || decide (rd (deeps l k) ((k : Int) - 1) (0 : Int) ≠ 0)) = true := by
    rcases hp with rfl | hp
    · rfl
    · by_cases hz : k = 0
      · subst hz; rfl
      · rw [show (k : Int) - 1 = ((k - 1 : Nat) : Int) by omega, deeps_get l k (k - 1) (by omega)]
        simp [hp]
  unfold L2_impl_depths
  simp only [hn, decide_true, cond_true, impl_NodeOk_ok l hl, Option.bind_some]
  cases hok : nodeOk l (k : Int)
  · have hd : dAt l k = 0 := by unfold dAt dNext; rw [hok]; rfl
    simp only [Bool.not_false, cond_true, joinS_inr, Option.map_some, hd, decide_true]
  · have hd : dAt l k = dCut (dKids (deeps l k) l[k]) := by unfold dAt dNext; rw [hok, hpp, rd_nat hk]; rfl
    have hb := dKids_le l k (deeps l k) (fun j hj => by rw [deeps_get l k j hj]; exact dAt_le l j) (rd l (k : Int) zN) (kid_mem hok)
    rw [rd_nat hk] at hb
    simp only [Bool.not_true, cond_false, idx_run hk, rd_nat hk, deep_innerI l hl n k hk hok, Option.bind_some, joinP_some, e0, hd, dCut]
    by_cases h10 : (10 : Int) < dKids (deeps l k) l[k]
    · simp only [h10, decide_true, cond_true, Option.map_some, joinS_inr]
    · simp only [h10, decide_false, cond_false, push_run hl hk, Option.map_some, joinS_inl, wi]
      rw [decide_eq_false (by omega)]; rfl
def deepAt (l : List NODE) (n : Int) : Int := bif decide (0 ≤ n ∧ n ≤ (l.length : Int) - 1) then dAt l n.toNat else 0
theorem spec_Deeps_ok (l : List NODE) (hl : FineN l) (k : Nat) (hk : k < l.length) : spec_l04Deeps l (k : Int) = some (deeps l (k + 1), ()) := by
  have h := loopF_reach (step := L2_spec_l04Deeps) (fun j => (l, (k : Int), deeps l j, (j : Int), ())) (k + 1) (fun j hj => deep_roundS l hl k j (by omega) (by omega))
  have h2 : loopF L2_spec_l04Deeps (l, (k : Int), deeps l (k + 1), ((k + 1 : Nat) : Int), ()) = some (deeps l (k + 1), ()) := loopF_inr (by
    simp only [L2_spec_l04Deeps, show ¬ (((k + 1 : Nat) : Int) ≤ (k : Int)) by omega, decide_false, cond_false, joinP_some, Option.map_some])
  have h3 : loopF L2_spec_l04Deeps (l, (k : Int), [], (0 : Int), ()) = some (deeps l (k + 1), ()) := h.trans h2
  simp only [spec_l04Deeps, Option.bind_some, h3, joinP_some]
theorem impl_DeepOf_ok (l : List NODE) (hl : FineN l) (n : Int) : impl_DeepOf l n = some (deepAt l n, ()) := by
  unfold impl_DeepOf deepAt
  simp only [impl_depths, lenm1 hl.len, iIn, Option.bind_some]
  by_cases hr : 0 ≤ n ∧ n ≤ (l.length : Int) - 1
  case neg => simp only [hr, decide_false, Bool.not_false, cond_true, cond_false, Option.bind_some]
  obtain ⟨k, rfl⟩ : ∃ m : Nat, n = (m : Int) := ⟨n.toNat, by omega⟩
  have hk : k < l.length := by omega
  have key : ∀ m j, j + m = k + 1 → (j = 0 ∨ dAt l (j - 1) ≠ 0) → loopF L2_impl_depths (l, (k : Int), deeps l j, (j : Int), ()) = some (bif decide (dAt l k = 0) then .inr ([], false, ()) else .inl (deeps l (k + 1), ())) := by
    intro m
    induction m with
    | zero =>
      intro j hj hp
      obtain rfl : j = k + 1 := by omega
      have hp : dAt l k ≠ 0 := by simpa using hp
      rw [decide_eq_false hp]
      exact loopF_inr (by simp only [L2_impl_depths, show ¬ (((k + 1 : Nat) : Int) ≤ (k : Int)) by omega, decide_false, cond_false, Option.map_some])
    | succ m ih =>
      intro j hj hp
      have h1 := deep_roundI l hl k j (by omega) (by omega) hp
      by_cases hz : dAt l j = 0
      · rw [decide_eq_true hz, cond_true] at h1
        rw [loopF_inr h1, decide_eq_true (dAt_zero l j k (by omega) hz)]
        rfl
      · rw [decide_eq_false hz, cond_false] at h1
        rw [loopF_inl h1]
        exact ih (j + 1) (by omega) (.inr (by simpa using hz))
  have h3 : loopF L2_impl_depths (l, (k : Int), [], (0 : Int), ()) = _ := key (k + 1) 0 (by omega) (.inl rfl)
  simp only [hr, and_self, decide_true, Bool.not_true, cond_false, cond_true, Option.bind_some, h3, Int.toNat_natCast]
  by_cases hz : dAt l k = 0
  · simp only [hz, decide_true, cond_true, joinS_inr, Option.bind_some, Bool.not_false]
  · simp only [hz, decide_false, cond_false, joinS_inl, Option.bind_some, Bool.not_true]
    rw [idx_run (show k < (deeps l (k + 1)).length by rw [deeps_len]; omega), deeps_get l (k + 1) k (by omega)]
theorem deepAt_pos {l : List NODE} {n : Int} (h : (0 : Int) < deepAt l n) : (0 ≤ n ∧ n < (l.length : Int)) ∧ nodeOk l n = true ∧ ∀ m, 0 ≤ m → m ≤ n → (0 : Int) < deepAt l m := by
  unfold deepAt at h
  by_cases hr : 0 ≤ n ∧ n ≤ (l.length : Int) - 1
  case neg => simp [hr] at h
  rw [decide_eq_true hr, cond_true] at h
  refine ⟨by omega, ?_, fun m h0 hm => ?_⟩
  · have := dAt_ok (l := l) (k := n.toNat) (by omega)
    rwa [show ((n.toNat : Nat) : Int) = n by omega] at this
  · unfold deepAt
    rw [decide_eq_true (by omega), cond_true]
    have h1 := dAt_le l m.toNat
    by_cases hz : dAt l m.toNat = 0
    · have := dAt_zero l m.toNat n.toNat (by omega) hz
      omega
    · omega
end Go.Proofs.YtgkgfpbdodafaaaGreatDoorE

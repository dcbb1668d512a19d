/- Whether two trees are the same: the program's reckoning and the reference's. No condition beyond each lemma's own. -/
import Derived.Test.YtgkgfpbdodafaaaGreatDoorLawDeepS
set_option linter.all false
namespace Go.Proofs.YtgkgfpbdodafaaaGreatDoorE
set_option linter.all false
set_option maxRecDepth 100000
theorem all_ext {α : Type} {f g : α → Bool} : ∀ {l : List α}, (∀ x ∈ l, f x = g x) → l.all f = l.all g
  | [], _ => rfl
  | x :: l, h => by rw [List.all_cons, List.all_cons, h x (List.mem_cons_self ..), all_ext fun y hy => h y (List.mem_cons_of_mem _ hy)]
def hdEq (x y : NODE) : Bool := decide (x.1 = y.1) && (decide (x.2.1 = y.2.1) && (decide (x.2.2.1 = y.2.2.1) && decide ((x.2.2.2.length : Int) = (y.2.2.2.length : Int))))
def same (p q : List NODE) : Nat → Int → Int → Bool
  | 0, _, _ => false
  | f + 1, a, b => hdEq (rd p a zN) (rd q b zN) && (List.range (rd p a zN).2.2.2.length).all fun i => same p q f ((rd p a zN).2.2.2.getD i 0) ((rd q b zN).2.2.2.getD i 0)
theorem rd_kid {l : List NODE} {a : Int} (h : 0 ≤ a ∧ a < (l.length : Int)) (hl : FineN l) : (rd l a zN).2.2.2.length ≤ 1048576 := by
  obtain ⟨k, rfl⟩ : ∃ m : Nat, a = (m : Int) := ⟨a.toNat, by omega⟩
  have hk : k < l.length := by omega
  rw [rd_nat hk]
  exact hl.kid _ (List.getElem_mem hk)
theorem deep_kid {p : List NODE} {a : Int} (h : (0 : Int) < deepAt p a) {i : Nat} (hi : i < (rd p a zN).2.2.2.length) : (0 : Int) < deepAt p ((rd p a zN).2.2.2.getD i 0) ∧ 0 ≤ (rd p a zN).2.2.2.getD i 0 ∧ (rd p a zN).2.2.2.getD i 0 < a := by
  obtain ⟨h1, h2, h3⟩ := deepAt_pos h
  have h4 := nodeOk_kid h2 hi
  have e : (rd p a zN).2.2.2.getD i 0 = (rd p a zN).2.2.2[i] := by
    generalize rd p a zN = x at hi ⊢
    simp [hi]
  rw [e]
  exact ⟨h3 _ h4.1 (by omega), h4⟩
theorem same_fuel (p q : List NODE) : ∀ (f g : Nat) (a b : Int), (0 : Int) < deepAt p a → a.toNat < f → a.toNat < g → same p q f a b = same p q g a b
  | 0, _, _, _, _, h, _ => absurd h (by omega)
  | _ + 1, 0, _, _, _, _, h => absurd h (by omega)
  | f + 1, g + 1, a, b, hd, hf, hg => by
    simp only [same]
    congr 1
    refine all_ext fun i hi => ?_
    have hi : i < (rd p a zN).2.2.2.length := by simpa using hi
    obtain ⟨k1, k2, k3⟩ := deep_kid hd hi
    exact same_fuel p q f g _ _ k1 (by omega) (by omega)
theorem hd_cut {α : Type} (x y : NODE) (K : Bool → α) : (bif decide (x.1 ≠ y.1) then K true else bif decide (x.2.1 ≠ y.2.1) then K true else bif decide (x.2.2.1 ≠ y.2.2.1) then K true else K (decide ((x.2.2.2.length : Int) ≠ (y.2.2.2.length : Int)))) = K (!hdEq x y) := by
  unfold hdEq
  by_cases h1 : x.1 = y.1
  · by_cases h2 : x.2.1 = y.2.1
    · by_cases h3 : x.2.2.1 = y.2.2.1
      · by_cases h4 : (x.2.2.2.length : Int) = (y.2.2.2.length : Int)
        · simp only [h1, h2, h3, h4, ne_eq, not_true_eq_false, decide_false, decide_true, cond_false, Bool.and_self, Bool.not_true]
        · simp only [h1, h2, h3, h4, ne_eq, not_true_eq_false, not_false_eq_true, decide_false, decide_true, cond_false, Bool.and_false, Bool.not_false]
      · simp only [h1, h2, h3, ne_eq, not_true_eq_false, not_false_eq_true, decide_false, decide_true, cond_true, cond_false, Bool.and_false, Bool.false_and, Bool.not_false]
    · simp only [h1, h2, ne_eq, not_true_eq_false, not_false_eq_true, decide_false, decide_true, cond_true, cond_false, Bool.and_false, Bool.false_and, Bool.not_false]
  · simp only [h1, ne_eq, not_false_eq_true, decide_false, decide_true, cond_true, Bool.false_and, Bool.not_false]
theorem hdEq_len {x y : NODE} (h : hdEq x y = true) : x.2.2.2.length = y.2.2.2.length := by
  simp only [hdEq, Bool.and_eq_true, decide_eq_true_eq] at h
  omega
theorem same_stepS (r : List NODE → Int → List NODE → Int → Option (Bool × Unit)) (p q : List NODE) (a b : Int) (ha : 0 ≤ a ∧ a < (p.length : Int)) (hb : 0 ≤ b ∧ b < (q.length : Int)) (hp : FineN p) (v : Nat → Bool)
    (hr : ∀ i, i < (rd p a zN).2.2.2.length → i < (rd q b zN).2.2.2.length → r p ((rd p a zN).2.2.2.getD i 0) q ((rd q b zN).2.2.2.getD i 0) = some (v i, ())) :
    spec_l05Same_S r p a q b = some (hdEq (rd p a zN) (rd q b zN) && (List.range (rd p a zN).2.2.2.length).all v, ()) := by
  have hx := rd_kid ha hp
  unfold spec_l05Same_S
  rw [idx_range ha, idx_range hb]
  generalize rd p a zN = x at hx hr ⊢
  generalize rd q b zN = y at hr ⊢
  have hc := hd_cut x y (fun t => some (p, q, t, x, y, ()))
  rw [hc, joinP_some]
  cases hh : hdEq x y
  · simp only [Bool.not_false, cond_true, Bool.false_and]
  have hlen := hdEq_len hh
  have h := loopF_all (step := L1_spec_l05Same r) (List.range x.2.2.2.length) v (fun i => (p, q, (i : Int), x, y, ())) (.inl ()) (.inr (false, ())) (fun i hi => by
    have hi' : i < x.2.2.2.length := by simpa using hi
    have hj : i < y.2.2.2.length := by omega
    have h1 := hr i hi' hj
    have e1 : rd x.2.2.2 (i : Int) (0 : Int) = x.2.2.2.getD i 0 := rfl
    have e2 : rd y.2.2.2 (i : Int) (0 : Int) = y.2.2.2.getD i 0 := rfl
    simp only [L1_spec_l05Same, lt_cast hi', decide_true, cond_true, idx_run hi', idx_run hj, e1, e2, h1, Option.bind_some, List.getElem_range, wrapSucc (show i < 9223372036854775807 by omega)]
    cases v i <;> simp only [Bool.not_true, Bool.not_false, cond_true, cond_false, Option.map_some]) (by
    rw [List.length_range]
    simp only [L1_spec_l05Same, not_lt_self, decide_false, cond_false, Option.map_some])
  have h' : loopF (L1_spec_l05Same r) (p, q, (0 : Int), x, y, ()) = _ := h
  simp only [Bool.not_true, cond_false, Option.bind_some, h', Bool.true_and]
  cases (List.range x.2.2.2.length).all v <;> simp only [cond_true, cond_false, joinS_inl, joinS_inr]
theorem same_stepI (r : PROG → Int → PROG → Int → Option (Bool × Unit)) (p q : PROG) (a b : Int) (ha : 0 ≤ a ∧ a < (p.1.length : Int)) (hb : 0 ≤ b ∧ b < (q.1.length : Int)) (hp : FineN p.1) (v : Nat → Bool)
    (hr : ∀ i, i < (rd p.1 a zN).2.2.2.length → i < (rd q.1 b zN).2.2.2.length → r p ((rd p.1 a zN).2.2.2.getD i 0) q ((rd q.1 b zN).2.2.2.getD i 0) = some (v i, ())) :
    impl_sameTree_S r p a q b = some (hdEq (rd p.1 a zN) (rd q.1 b zN) && (List.range (rd p.1 a zN).2.2.2.length).all v, ()) := by
  have hx := rd_kid ha hp
  unfold impl_sameTree_S
  rw [idx_range ha, idx_range hb]
  generalize rd p.1 a zN = x at hx hr ⊢
  generalize rd q.1 b zN = y at hr ⊢
  have hc := hd_cut x y (fun t => some (t, p, q, x, y, ()))
  rw [hc, joinP_some]
  cases hh : hdEq x y
  · simp only [Bool.not_false, cond_true, Bool.false_and]
  have hlen := hdEq_len hh
  have h := loopF_all (step := L1_impl_sameTree r) (List.range x.2.2.2.length) v (fun i => ((x.2.2.2.length : Int), (i : Int), p, q, x, y, ())) (.inl ()) (.inr (false, ())) (fun i hi => by
    have hi' : i < x.2.2.2.length := by simpa using hi
    have hj : i < y.2.2.2.length := by omega
    have h1 := hr i hi' hj
    have e1 : rd x.2.2.2 (i : Int) (0 : Int) = x.2.2.2.getD i 0 := rfl
    have e2 : rd y.2.2.2 (i : Int) (0 : Int) = y.2.2.2.getD i 0 := rfl
    simp only [L1_impl_sameTree, lt_cast hi', decide_true, cond_true, idx_run hi', idx_run hj, e1, e2, h1, Option.bind_some, List.getElem_range, wrapSucc (show i < 9223372036854775807 by omega)]
    cases v i <;> simp only [Bool.not_true, Bool.not_false, cond_true, cond_false, Option.map_some]) (by
    rw [List.length_range]
    simp only [L1_impl_sameTree, not_lt_self, decide_false, cond_false, Option.map_some])
  have h' : loopF (L1_impl_sameTree r) ((x.2.2.2.length : Int), (0 : Int), p, q, x, y, ()) = _ := h
  simp only [Bool.not_true, cond_false, Option.bind_some, h', Bool.true_and]
  cases (List.range x.2.2.2.length).all v <;> simp only [cond_true, cond_false, joinS_inl, joinS_inr]
theorem same_RS (p q : List NODE) (hp : FineN p) : ∀ (n : Nat) (a b : Int), (0 : Int) < deepAt p a → (0 : Int) < deepAt q b → a.toNat < n → (R_spec_l05Same n).1 p a q b = some (same p q n a b, ())
  | 0, _, _, _, _, h => absurd h (by omega)
  | n + 1, a, b, ha, hb, hn => by
    have h := same_stepS (R_spec_l05Same n).1 p q a b (deepAt_pos ha).1 (deepAt_pos hb).1 hp (fun i => same p q n ((rd p a zN).2.2.2.getD i 0) ((rd q b zN).2.2.2.getD i 0)) (fun i hi hj => by
      obtain ⟨k1, k2, k3⟩ := deep_kid ha hi
      exact same_RS p q hp n _ _ k1 (deep_kid hb hj).1 (by omega))
    exact h
theorem same_RI (p q : PROG) (hp : FineN p.1) : ∀ (n : Nat) (a b : Int), (0 : Int) < deepAt p.1 a → (0 : Int) < deepAt q.1 b → a.toNat < n → (R_impl_sameTree n).1 p a q b = some (same p.1 q.1 n a b, ())
  | 0, _, _, _, _, h => absurd h (by omega)
  | n + 1, a, b, ha, hb, hn => by
    have h := same_stepI (R_impl_sameTree n).1 p q a b (deepAt_pos ha).1 (deepAt_pos hb).1 hp (fun i => same p.1 q.1 n ((rd p.1 a zN).2.2.2.getD i 0) ((rd q.1 b zN).2.2.2.getD i 0)) (fun i hi hj => by
      obtain ⟨k1, k2, k3⟩ := deep_kid ha hi
      exact same_RI p q hp n _ _ k1 (deep_kid hb hj).1 (by omega))
    exact h
def sm (p q : List NODE) (a b : Int) : Bool := same p q (a.toNat + 1) a b
theorem spec_Same_ok (p q : List NODE) (hp : FineN p) (a b : Int) (ha : (0 : Int) < deepAt p a) (hb : (0 : Int) < deepAt q b) : spec_l05Same p a q b = some (sm p q a b, ()) := by
  refine limF_some.2 ⟨a.toNat + 1, fun n hn => ?_⟩
  rw [sm, same_fuel p q (a.toNat + 1) n a b ha (by omega) (by omega)]
  exact same_RS p q hp n a b ha hb (by omega)
theorem impl_same_ok (p q : PROG) (hp : FineN p.1) (a b : Int) (ha : (0 : Int) < deepAt p.1 a) (hb : (0 : Int) < deepAt q.1 b) : impl_sameTree p a q b = some (sm p.1 q.1 a b, ()) := by
  refine limF_some.2 ⟨a.toNat + 1, fun n hn => ?_⟩
  rw [sm, same_fuel p.1 q.1 (a.toNat + 1) n a b ha (by omega) (by omega)]
  exact same_RI p q hp n a b ha hb (by omega)
def sameT (p q : List NODE) (a b : Int) : Bool := decide ((0 : Int) < deepAt p a) && (decide ((0 : Int) < deepAt q b) && sm p q a b)
theorem spec_SameTree_ok (p q : PROG) (hp : FineN p.1) (hq : FineN q.1) (a b : Int) : spec_SameTree p a q b = some (sameT p.1 q.1 a b, ()) := by
  unfold spec_SameTree sameT
  simp only [spec_DeepOf_ok _ hp, spec_DeepOf_ok _ hq, Option.bind_some]
  by_cases ha : (0 : Int) < deepAt p.1 a
  · by_cases hb : (0 : Int) < deepAt q.1 b
    · simp only [ha, hb, decide_true, cond_true, spec_Same_ok p.1 q.1 hp a b ha hb, Option.bind_some, joinP_some, Bool.true_and]
    · simp only [ha, hb, decide_true, decide_false, cond_true, cond_false, joinP_some, Bool.true_and, Bool.false_and]
  · simp only [ha, decide_false, cond_false, joinP_some, Bool.false_and]
end Go.Proofs.YtgkgfpbdodafaaaGreatDoorE

/- What the smallest readings reckon: a number out of bytes, a short text. No condition beyond each lemma's own. -/
import Derived.Test.YtmpfjlolcmokbaaLawWords
set_option linter.all false
namespace Go.Proofs.YtmpfjlolcmokbaaE
set_option linter.all false

theorem wrap_succ2 {n : Nat} (h : n < 4611686018427387904) : IntKind.wrap .i64 ((n : Int) + 1) = ((n + 1 : Nat) : Int) := wrapSucc (by omega)
theorem bAt_nat (s : ByteArray) (i : Nat) : bAt s (i : Int) = ((s.data.getD i 0).toNat : Int) := by simp [bAt]
theorem bAt_lt (s : ByteArray) (i : Nat) : (s.data.getD i 0).toNat < 256 := UInt8.toNat_lt _
@[reducible] def nI (l : List Nat) : List Int := l.map fun (x : Nat) => (x : Int)
theorem sub_bts {s : ByteArray} {a : Nat} {p : List Nat} (h : a + p.length ≤ s.size) (hp : ∀ j (hj : j < p.length), p[j] = (s.data.getD (a + j) 0).toNat) : sub s (a : Int) ((a + p.length : Nat) : Int) = bts (nI p) := by
  have hsz : s.size = s.data.size := rfl
  apply ByteArray.ext
  apply Array.ext
  · simp [sub, bts]; omega
  · intro i h1 h2
    have hi : i < p.length := by simpa [bts] using h2
    have e : (sub s (a : Int) ((a + p.length : Nat) : Int)).data = s.data.extract a (a + p.length) := by
      unfold sub
      rw [Int.toNat_natCast, Int.toNat_natCast, ByteArray.data_extract]
    simp only [e, bts, List.getElem_toArray, List.getElem_map, Int.toNat_natCast, hp i hi]
    rw [Array.getElem_extract, Array.getD_eq_getD_getElem?, Array.getElem?_eq_getElem (by omega)]
    simp
theorem sub_app {s : ByteArray} {a i j : Nat} (h1 : a ≤ i) (h2 : i ≤ j) : sub s (a : Int) (i : Int) ++ sub s (i : Int) (j : Int) = sub s (a : Int) (j : Int) := by
  apply ByteArray.ext
  simp only [sub, Int.toNat_natCast, ByteArray.data_append, ByteArray.data_extract, Array.extract_append_extract]
  rw [Nat.min_eq_left h1, Nat.max_eq_right h2]
theorem bts_inj : ∀ {xs ys : List Nat}, (∀ x ∈ xs, x < 256) → (∀ x ∈ ys, x < 256) → bts (nI xs) = bts (nI ys) → xs = ys := by
  intro xs ys hx hy h
  have h2 := congrArg (fun s : ByteArray => s.data.toList) h
  simp only [bts, List.map_map] at h2
  have key : ∀ {xs ys : List Nat}, (∀ x ∈ xs, x < 256) → (∀ x ∈ ys, x < 256) → xs.map (fun n => UInt8.ofNat n) = ys.map (fun n => UInt8.ofNat n) → xs = ys := by
    intro xs
    induction xs with
    | nil => intro ys _ _ h; cases ys <;> simp_all
    | cons x xs ih =>
      intro ys hx hy h
      cases ys with
      | nil => simp at h
      | cons y ys =>
        simp only [List.map_cons, List.cons.injEq] at h
        have e : x = y := by
          have := congrArg UInt8.toNat h.1
          simp only [UInt8.toNat_ofNat'] at this
          have h1 := hx x (by simp)
          have h2 := hy y (by simp)
          omega
        rw [e, ih (fun z hz => hx z (by simp [hz])) (fun z hz => hy z (by simp [hz])) h.2]
  exact key hx hy (by simpa [Function.comp_def] using h2)
/-- A number out of its bytes, the smallest first. -/
def val : List Nat → Nat
  | [] => 0
  | b :: l => b % 128 + 128 * val l
theorem val_app : ∀ (p : List Nat) (b : Nat), val (p ++ [b]) = val p + (b % 128) * 128 ^ p.length
  | [], b => by simp [val]
  | x :: p, b => by
    simp only [List.cons_append, val, val_app p b, List.length_cons, Nat.pow_succ]
    rw [Nat.mul_add, Nat.add_assoc, Nat.mul_comm 128 (b % 128 * _), Nat.mul_assoc]
theorem val_lt : ∀ (p : List Nat), val p < 128 ^ p.length
  | [] => by simp [val]
  | x :: p => by
    have := val_lt p
    simp only [val, List.length_cons, Nat.pow_succ]
    omega
def vln (n : Nat) : List Nat := if n ≤ 127 then [n] else (128 + n % 128) :: vln (n / 128)
termination_by n
decreasing_by omega
theorem vln_vl (n : Nat) : vl n = nI (vln n) := by
  induction n using Nat.strongRecOn with
  | _ n ih =>
    rw [vl, vln]
    split
    · rfl
    · rw [ih (n / 128) (by omega)]; rfl
theorem vln_lt (n : Nat) : ∀ x ∈ vln n, x < 256 := by
  induction n using Nat.strongRecOn with
  | _ n ih =>
    rw [vln]
    split
    · intro x hx; simp at hx; omega
    · intro x hx
      rcases List.mem_cons.1 hx with rfl | hx
      · omega
      · exact ih (n / 128) (by omega) x hx
theorem vln_val : ∀ (p : List Nat) (b : Nat), (∀ x ∈ p, 128 ≤ x ∧ x < 256) → b < 128 → (vln (val (p ++ [b])) = p ++ [b] ↔ (p = [] ∨ b ≠ 0))
  | [], b, _, hb => by
    simp only [List.nil_append, val, Nat.mul_zero, Nat.add_zero, Nat.mod_eq_of_lt hb, true_or, iff_true]
    rw [vln, if_pos (by omega)]
  | x :: p, b, hp, hb => by
    have hx := hp x (by simp)
    have ih := vln_val p b (fun y hy => hp y (by simp [hy])) hb
    simp only [List.cons_append, val, reduceCtorEq, false_or]
    rw [vln]
    by_cases h0 : val (p ++ [b]) = 0
    · have hb0 : b = 0 := by
        rw [val_app] at h0
        have h1 : (b % 128) * 128 ^ p.length = 0 := by omega
        rcases Nat.mul_eq_zero.1 h1 with h2 | h2
        · omega
        · exact absurd h2 (by have := Nat.pow_pos (n := p.length) (show 0 < 128 by omega); omega)
      rw [h0, if_pos (by omega)]
      simp [hb0]
    · rw [if_neg (by omega)]
      have e1 : 128 + (x % 128 + 128 * val (p ++ [b])) % 128 = x := by omega
      have e2 : (x % 128 + 128 * val (p ++ [b])) / 128 = val (p ++ [b]) := by omega
      rw [e1, e2, List.cons.injEq]
      simp only [true_and]
      rw [ih]
      constructor
      · rintro (rfl | h)
        · intro hb0
          subst hb0
          simp [val] at h0
        · exact h
      · exact .inr
/-- A reading of a number that went well, or not. -/
def RvOk (s : ByteArray) (a : Nat) : Int × Int × Bool × Unit → Prop := fun r => r = (0, 0, false, ()) ∨ ∃ n i : Nat, r = ((n : Int), (i : Int), true, ()) ∧ n ≤ 1000000000 ∧ a < i ∧ i ≤ s.size ∧ sub s (a : Int) (i : Int) = bts (vl n)
theorem pow7 : ∀ k : Nat, k < 5 → (2 : Int) ^ (min (7 * k) 64) = ((128 ^ k : Nat) : Int)
  | 0, _ => rfl
  | 1, _ => rfl
  | 2, _ => rfl
  | 3, _ => rfl
  | 4, _ => rfl
  | n + 5, h => by omega
theorem rv_loops (s : ByteArray) (a : Nat) (hs : s.size < 4611686018427387904) : ∀ (m k : Nat) (p : List Nat), k + m = 5 → p.length = k → a + k ≤ s.size → (∀ x ∈ p, 128 ≤ x ∧ x < 256) → (∀ j (hj : j < p.length), p[j] = (s.data.getD (a + j) 0).toNat) →
    ∃ r, loopF L1_spec_ReadVar (s, (a : Int), (val p : Int), ((128 ^ k : Nat) : Int), ((a + k : Nat) : Int), ()) = some r ∧ loopF L1_impl_ReadVar (s, (a : Int), (val p : Int), (k : Int), ()) = some r ∧ (∀ x, r = .inr x → RvOk s a x) := by
  intro m
  induction m with
  | zero =>
    intro k p hk hl ha hp hq
    obtain rfl : k = 5 := by omega
    refine ⟨.inl (), loopF_inr ?_, loopF_inr ?_, fun x hx => by cases hx⟩
    · have e : IntKind.wrap .i64 ((a : Int) + 5) = ((a + 5 : Nat) : Int) := by rw [wrap64 (by omega) (by omega)]; rfl
      simp only [L1_spec_ReadVar, e, show ¬ (((a + 5 : Nat) : Int) < ((a + 5 : Nat) : Int)) by omega, decide_false]
      cases decide (((a + 5 : Nat) : Int) < (s.size : Int)) <;> rfl
    · simp [L1_impl_ReadVar, joinP]
  | succ m ih =>
    intro k p hk hl ha hp hq
    have e5 : IntKind.wrap .i64 ((a : Int) + 5) = ((a + 5 : Nat) : Int) := by rw [wrap64 (by omega) (by omega)]; rfl
    have eak : IntKind.wrap .i64 ((a : Int) + (k : Int)) = ((a + k : Nat) : Int) := by rw [wrap64 (by omega) (by omega)]; rfl
    have hk5 : (k : Int) < 5 := by omega
    have hak5 : ((a + k : Nat) : Int) < ((a + 5 : Nat) : Int) := by omega
    by_cases hin : a + k < s.size
    · have hin' : ((a + k : Nat) : Int) < (s.size : Int) := by omega
      have hb : bAt s ((a + k : Nat) : Int) = ((s.data.getD (a + k) 0).toNat : Int) := bAt_nat s (a + k)
      have hblt := bAt_lt s (a + k)
      generalize hbv : (s.data.getD (a + k) 0).toNat = b at hb hblt
      have hv := val_lt p
      rw [hl] at hv
      have hpw : 128 ^ (k + 1) ≤ 34359738368 := Nat.le_trans (Nat.pow_le_pow_right (by omega) (show k + 1 ≤ 5 by omega)) (by decide)
      have hpk : 128 ^ (k + 1) = 128 ^ k * 128 := Nat.pow_succ ..
      have hva := val_app p b
      rw [hl] at hva
      have hvn := val_lt (p ++ [b])
      rw [List.length_append, hl] at hvn
      simp only [List.length_cons, List.length_nil, Nat.zero_add] at hvn
      have hm : (b % 128) * 128 ^ k ≤ 34359738368 := by omega
      have et : Int.tmod (b : Int) 128 = ((b % 128 : Nat) : Int) := rfl
      have e7 : IntKind.wrap .i64 ((7 : Int) * (k : Int)) = ((7 * k : Nat) : Int) := by rw [wrap64 (by omega) (by omega)]; simp
      have ebits : IntKind.bits .i64 = 64 := rfl
      have em : IntKind.wrap .i64 (((b % 128 : Nat) : Int) * ((128 ^ k : Nat) : Int)) = (((b % 128) * 128 ^ k : Nat) : Int) := by
        rw [← Int.natCast_mul, wrapNat (by omega)]
      have ea : IntKind.wrap .i64 ((val p : Int) + (((b % 128) * 128 ^ k : Nat) : Int)) = ((val (p ++ [b]) : Nat) : Int) := by
        rw [← Int.natCast_add, ← hva, wrapNat (by omega)]
      have ef : IntKind.wrap .i64 (((128 ^ k : Nat) : Int) * 128) = ((128 ^ (k + 1) : Nat) : Int) := by
        rw [hpk, Int.natCast_mul]; exact wrap64 (by have : (0 : Int) ≤ ((128 ^ k : Nat) : Int) := Int.natCast_nonneg _; omega) (by omega)
      have ei : IntKind.wrap .i64 (((a + k : Nat) : Int) + 1) = ((a + (k + 1) : Nat) : Int) := wrapSucc (by omega)
      have ekk : IntKind.wrap .i64 ((k : Int) + 1) = ((k + 1 : Nat) : Int) := wrapSucc (by omega)
      have hq2 : ∀ j (hj : j < (p ++ [b]).length), (p ++ [b])[j] = (s.data.getD (a + j) 0).toNat := by
        intro j hj
        rcases Nat.lt_or_ge j p.length with h1 | h1
        · rw [List.getElem_append_left h1]; exact hq j h1
        · have : j = p.length := by simp at hj; omega
          subst this
          rw [List.getElem_append_right (by omega)]
          simp only [Nat.sub_self, List.getElem_singleton]
          rw [hl, hbv]
      have hidx : ∀ {α : Type} {K : Option α}, (Cnd.idx ((a + k : Nat) : Int) s.size).run K = K := fun {α} {K} => idx_run hin
      have hwb : IntKind.wrap .i64 (b : Int) = (b : Int) := wrapNat (by omega)
      by_cases hbl : b < 128
      · -- the last byte
        have hbl' : (b : Int) < 128 := by omega
        have hsub : sub s (a : Int) ((a + (k + 1) : Nat) : Int) = bts (nI (p ++ [b])) := by
          have := sub_bts (s := s) (a := a) (p := p ++ [b]) (by simp; omega) hq2
          rw [List.length_append, hl] at this
          exact this
        have hvar : spec_l01Var ((val (p ++ [b]) : Nat) : Int) = some (bts (vl (val (p ++ [b]))), ()) := spec_l01Var_ok _ (by omega)
        have hiff : bts (vl (val (p ++ [b]))) = bts (nI (p ++ [b])) ↔ (p = [] ∨ b ≠ 0) := by
          rw [vln_vl, ← vln_val p b hp hbl]
          refine ⟨fun h => bts_inj (vln_lt _) (fun x hx => ?_) h, fun h => by rw [h]⟩
          rcases List.mem_append.1 hx with h1 | h1
          · exact (hp x h1).2
          · simp at h1; omega
        have hcut : ∀ {α : Type} {K : Option α}, (Cnd.cut (a : Int) ((a + (k + 1) : Nat) : Int) s.size).run K = K := by
          intro α K
          simp only [Cnd.run]
          rw [if_pos (by omega)]
        let bad : Bool := decide (1000000000 < val (p ++ [b])) || !decide (p = [] ∨ b ≠ 0)
        refine ⟨.inr (if bad = true then (0, 0, false, ()) else ((val (p ++ [b]) : Nat), ((a + (k + 1) : Nat) : Int), true, ())), loopF_inr ?_, loopF_inr ?_, fun x hx => ?_⟩
        · simp only [L1_spec_ReadVar, e5, hin', hak5, decide_true, cond_true, joinP_some, hidx, nz_run (show (128 : Int) ≠ 0 by decide), hb, hbl', hwb, et, em, ea, ei, hcut, hvar, Option.bind_some, hsub]
          by_cases h1 : 1000000000 < val (p ++ [b])
          · have h1' : (1000000000 : Int) < ((val (p ++ [b]) : Nat) : Int) := by omega
            have hbad : bad = true := by simp [bad, h1]
            simp only [h1', decide_true, cond_true, joinP_some, if_pos hbad, Option.map_some]
          · have h1' : ¬ (1000000000 : Int) < ((val (p ++ [b]) : Nat) : Int) := by omega
            by_cases h2 : p = [] ∨ b ≠ 0
            · have hbad : bad = false := by simp [bad, h1, h2]
              have h2' := hiff.2 h2
              simp only [h1', decide_false, cond_false, joinP_some, h2', ne_eq, not_true_eq_false, if_neg (show ¬ bad = true by simp [hbad]), Option.map_some, ei]
            · have hbad : bad = true := by simp [bad, h2]
              have h2' : bts (vl (val (p ++ [b]))) ≠ bts (nI (p ++ [b])) := fun h => h2 (hiff.1 h)
              simp only [h1', decide_false, cond_false, joinP_some, ne_eq, h2', not_false_eq_true, decide_true, cond_true, if_pos hbad, Option.map_some]
        · simp only [L1_impl_ReadVar, hk5, eak, hin', decide_true, cond_true, joinP_some, hidx, nz_run (show (128 : Int) ≠ 0 by decide), e7, nn_run, hb, hbl', hwb, et, Int.toNat_natCast, ebits, pow7 k (by omega), em, ea, ei]
          have hpk0 : p = [] ↔ k = 0 := by rw [← hl, List.length_eq_zero_iff]
          by_cases hb0 : b = 0
          · have hb0' : (b : Int) = 0 := by omega
            by_cases hk0 : 0 < k
            · have hk0' : (0 : Int) < (k : Int) := by omega
              have hbad : bad = true := by
                have : ¬ (p = [] ∨ b ≠ 0) := by rw [hpk0]; omega
                simp [bad, this]
              simp only [hb0', decide_true, cond_true, hk0', joinP_some, if_pos hbad, Option.map_some]
            · have hk0' : ¬ (0 : Int) < (k : Int) := by omega
              have hp0 : p = [] := hpk0.2 (by omega)
              have : bad = decide (1000000000 < val (p ++ [b])) := by simp [bad, hp0]
              by_cases h1 : 1000000000 < val (p ++ [b])
              · have h1' : (1000000000 : Int) < ((val (p ++ [b]) : Nat) : Int) := by omega
                simp only [hb0', decide_true, cond_true, hk0', decide_false, cond_false, h1', joinP_some, if_pos (show bad = true by rw [this]; simpa using h1), Option.map_some]
              · have h1' : ¬ (1000000000 : Int) < ((val (p ++ [b]) : Nat) : Int) := by omega
                simp only [hb0', decide_true, cond_true, hk0', decide_false, cond_false, h1', joinP_some, if_neg (show ¬ bad = true by rw [this]; simpa using h1), Option.map_some, eak, ei]
          · have hb0' : ¬ (b : Int) = 0 := by omega
            have : bad = decide (1000000000 < val (p ++ [b])) := by simp [bad, hb0]
            by_cases h1 : 1000000000 < val (p ++ [b])
            · have h1' : (1000000000 : Int) < ((val (p ++ [b]) : Nat) : Int) := by omega
              simp only [hb0', decide_false, cond_false, h1', decide_true, cond_true, joinP_some, if_pos (show bad = true by rw [this]; simpa using h1), Option.map_some]
            · have h1' : ¬ (1000000000 : Int) < ((val (p ++ [b]) : Nat) : Int) := by omega
              simp only [hb0', decide_false, cond_false, h1', joinP_some, if_neg (show ¬ bad = true by rw [this]; simpa using h1), Option.map_some, eak, ei]
        · simp only [Sum.inr.injEq] at hx
          subst hx
          by_cases hbad : bad = true
          · rw [if_pos hbad]; exact .inl rfl
          · rw [if_neg hbad]
            simp only [bad, Bool.or_eq_true, decide_eq_true_eq, not_or, Bool.not_eq_true', decide_eq_false_iff_not, Decidable.not_not] at hbad
            exact .inr ⟨_, _, rfl, by omega, by omega, by omega, by rw [hsub]; exact (hiff.2 (by by_cases hp0 : p = []; exact .inl hp0; exact .inr (fun hb0 => hbad.2 ⟨hp0, hb0⟩))).symm⟩
      · have hbl' : ¬ (b : Int) < 128 := by omega
        obtain ⟨r, r1, r2, r3⟩ := ih (k + 1) (p ++ [b]) (by omega) (by simp [hl]) (by omega) (fun x hx => by
          rcases List.mem_append.1 hx with h1 | h1
          · exact hp x h1
          · simp at h1; omega) hq2
        refine ⟨r, ?_, ?_, r3⟩
        · rw [loopF_inl (b' := (s, (a : Int), ((val (p ++ [b]) : Nat) : Int), ((128 ^ (k + 1) : Nat) : Int), ((a + (k + 1) : Nat) : Int), ())), r1]
          simp only [L1_spec_ReadVar, e5, hin', hak5, decide_true, cond_true, joinP_some, hidx, nz_run (show (128 : Int) ≠ 0 by decide), hb, hbl', hwb, et, em, ea, ei, ef, decide_false, cond_false, Option.map_some]
        · rw [loopF_inl (b' := (s, (a : Int), ((val (p ++ [b]) : Nat) : Int), ((k + 1 : Nat) : Int), ())), r2]
          simp only [L1_impl_ReadVar, hk5, eak, hin', decide_true, cond_true, joinP_some, hidx, nz_run (show (128 : Int) ≠ 0 by decide), e7, nn_run, hb, hbl', hwb, et, Int.toNat_natCast, ebits, pow7 k (by omega), em, ea, ekk, decide_false, cond_false, Option.map_some]
    · have hin' : ¬ ((a + k : Nat) : Int) < (s.size : Int) := by omega
      refine ⟨.inl (), loopF_inr ?_, loopF_inr ?_, fun x hx => by cases hx⟩
      · simp only [L1_spec_ReadVar, hin', decide_false, cond_false, joinP_some, Option.map_some]
      · simp only [L1_impl_ReadVar, hk5, eak, hin', decide_true, cond_true, decide_false, cond_false, joinP_some, Option.map_some]
/-- Both read a number alike. -/
theorem readVar_ok (s : ByteArray) (a : Int) (hs : s.size < 4611686018427387904) : ∃ r, spec_ReadVar s a = some r ∧ impl_ReadVar s a = some r ∧ (r = (0, 0, false, ()) ∨ ∃ n i : Nat, r = ((n : Int), (i : Int), true, ()) ∧ n ≤ 1000000000 ∧ a < (i : Int) ∧ 0 ≤ a ∧ i ≤ s.size ∧ sub s a (i : Int) = bts (vl n)) := by
  by_cases ha : 0 ≤ a ∧ a ≤ (s.size : Int)
  · obtain ⟨n, rfl⟩ := Int.eq_ofNat_of_zero_le ha.1
    obtain ⟨r, h1, h2, h3⟩ := rv_loops s n hs 5 0 [] rfl rfl (by omega) (by simp) (by simp)
    simp only [val, Nat.pow_zero, Nat.add_zero, Int.natCast_zero] at h1 h2
    simp only [spec_ReadVar, impl_ReadVar, spec_in_ok, impl_in_ok, Option.bind_some, decide_eq_true ha, Bool.not_true, cond_false]
    rw [show ((1 : Int)) = ((1 : Nat) : Int) from rfl, h1, h2]
    cases r with
    | inl u => exact ⟨_, rfl, rfl, .inl rfl⟩
    | inr x =>
      refine ⟨x, rfl, rfl, ?_⟩
      rcases h3 x rfl with h4 | ⟨m, i, h4, h5, h6, h7, h8⟩
      · exact .inl h4
      · exact .inr ⟨m, i, h4, h5, by omega, by omega, h7, h8⟩
  · refine ⟨_, ?_, ?_, .inl rfl⟩
    · simp only [spec_ReadVar, spec_in_ok, Option.bind_some, decide_eq_false ha, Bool.not_false, cond_true]
    · simp only [impl_ReadVar, impl_in_ok, Option.bind_some, decide_eq_false ha, Bool.not_false, cond_true]
/-- Both read a short text alike. -/
theorem readShort_ok (s : ByteArray) (a : Int) (hs : s.size < 4611686018427387904) : ∃ r, spec_ReadShort s a = some r ∧ impl_ReadShort s a = some r ∧ (r = (⟨#[]⟩, 0, false, ()) ∨ ∃ (t : ByteArray) (i : Nat), r = (t, (i : Int), true, ()) ∧ t.size ≤ 20000 ∧ a < (i : Int) ∧ 0 ≤ a ∧ i ≤ s.size ∧ sub s a (i : Int) = bts (vl t.size) ++ t) := by
  obtain ⟨r, h1, h2, h3⟩ := readVar_ok s a hs
  have e : impl_ReadShort s a = spec_ReadShort s a := by simp only [impl_ReadShort, spec_ReadShort, h1, h2]
  rw [e]
  have : ∃ r, spec_ReadShort s a = some r ∧ (r = (⟨#[]⟩, 0, false, ()) ∨ ∃ (t : ByteArray) (i : Nat), r = (t, (i : Int), true, ()) ∧ t.size ≤ 20000 ∧ a < (i : Int) ∧ 0 ≤ a ∧ i ≤ s.size ∧ sub s a (i : Int) = bts (vl t.size) ++ t) := by
    simp only [spec_ReadShort, h1, Option.bind_some]
    rcases h3 with rfl | ⟨n, i, rfl, h4, h5, h6, h7, h8⟩
    · exact ⟨_, rfl, .inl rfl⟩
    · by_cases hn : n ≤ 20000
      · have hn' : ¬ (20000 : Int) < (n : Int) := by omega
        have ew : IntKind.wrap .i64 ((s.size : Int) - (i : Int)) = ((s.size - i : Nat) : Int) := by rw [wrap64 (by omega) (by omega)]; omega
        have ew2 : IntKind.wrap .i64 ((i : Int) + (n : Int)) = ((i + n : Nat) : Int) := by rw [wrap64 (by omega) (by omega)]; rfl
        by_cases hf : s.size - i < n
        · have hf' : ((s.size - i : Nat) : Int) < (n : Int) := by omega
          refine ⟨_, ?_, .inl rfl⟩
          simp only [Bool.not_true, cond_false, hn', decide_false, joinP_some, ew, hf', decide_true, cond_true]
        · have hf' : ¬ ((s.size - i : Nat) : Int) < (n : Int) := by omega
          refine ⟨(sub s (i : Int) ((i + n : Nat) : Int), ((i + n : Nat) : Int), true, ()), ?_, .inr ⟨_, _, rfl, ?_, by omega, h6, by omega, ?_⟩⟩
          · simp only [Bool.not_true, cond_false, hn', decide_false, joinP_some, ew, hf', ew2, Cnd.run]
            rw [if_pos (by omega)]
          · simp only [sub, Int.toNat_natCast, ByteArray.size_extract]; omega
          · have esz : (sub s (i : Int) ((i + n : Nat) : Int)).size = n := by simp only [sub, Int.toNat_natCast, ByteArray.size_extract]; omega
            obtain ⟨a', rfl⟩ := Int.eq_ofNat_of_zero_le h6
            rw [esz, ← h8]
            exact (sub_app (by omega) (by omega)).symm
      · have hn' : (20000 : Int) < (n : Int) := by omega
        refine ⟨_, ?_, .inl rfl⟩
        simp only [Bool.not_true, cond_false, hn', decide_true, cond_true, joinP_some]
  obtain ⟨r, a1, a2⟩ := this
  exact ⟨r, a1, a1, a2⟩
end Go.Proofs.YtmpfjlolcmokbaaE

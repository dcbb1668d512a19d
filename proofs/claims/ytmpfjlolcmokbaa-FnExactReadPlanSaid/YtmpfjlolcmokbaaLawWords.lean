/- What the smallest words of the program and of the reference reckon: ranges, numbers as bytes. No condition beyond each lemma's own. -/
import Derived.Test.YtmpfjlolcmokbaaLawAX
set_option linter.all false
namespace Go.Proofs.YtmpfjlolcmokbaaE
set_option linter.all false

theorem spec_in_ok (a b c : Int) : spec_l01In a b c = some (decide (b ≤ a ∧ a ≤ c), ()) := by
  unfold spec_l01In
  by_cases h : b ≤ a <;> simp [h, joinP]
theorem impl_in_ok (a b c : Int) : impl_in a b c = some (decide (b ≤ a ∧ a ≤ c), ()) := by
  unfold impl_in
  by_cases h : b ≤ a <;> simp [h, joinP]

/-- A number's bytes. -/
def vl (n : Nat) : List Int := if n ≤ 127 then [(n : Int)] else ((128 + n % 128 : Nat) : Int) :: vl (n / 128)
termination_by n
decreasing_by omega
theorem wrapU8 {n : Nat} (h : n < 256) : IntKind.wrap .u8 (n : Int) = n := by
  have e : (2 : Int) ^ IntKind.u8.bits = 256 := by decide
  simp only [IntKind.wrap, e, show IntKind.u8.signed = false from rfl, Bool.false_and, Bool.false_eq_true, if_false]
  omega
theorem nz_run {α : Type} {b : Int} {K : Option α} (h : b ≠ 0) : (Cnd.nz b).run K = K := by
  simp only [Cnd.run]; rw [if_neg h]
theorem vl_len : ∀ (k n : Nat), n < 128 ^ (k + 1) → (vl n).length ≤ k + 1
  | 0, n, h => by
    rw [vl, if_pos (by simpa using Nat.le_of_lt_succ h)]; simp
  | k + 1, n, h => by
    rw [vl]
    split
    · simp
    · rw [List.length_cons]
      have := vl_len k (n / 128) (by rw [Nat.div_lt_iff_lt_mul (by omega)]; rw [Nat.pow_succ] at h; exact h)
      omega
theorem vl_len9 {n : Nat} (h : n < 9223372036854775808) : (vl n).length ≤ 9 := by
  have h9 : (128 : Nat) ^ 9 = 9223372036854775808 := by decide
  exact vl_len 8 n (by rw [h9]; exact h)
theorem bts_size (l : List Int) : (bts l).size = l.length := by simp [bts, ByteArray.size]
theorem impl_varLoop (n : Nat) : ∀ (out : List Int), n < 9223372036854775808 → out.length + (vl n).length ≤ 1000 → ∃ (m : Nat) (l : List Int), loopF L1_impl_varText ((n : Int), out, ()) = some ((m : Int), l, ()) ∧ m < 128 ∧ l ++ [(m : Int)] = out ++ vl n ∧ l.length ≤ 1000 := by
  induction n using Nat.strongRecOn with
  | _ n ih =>
    intro out hn hl
    by_cases h : n ≤ 127
    · refine ⟨n, out, loopF_inr ?_, by omega, by rw [vl, if_pos h], by omega⟩
      simp [L1_impl_varText, show ¬ ((127 : Int) < n) by omega]
    · have hv : vl n = ((128 + n % 128 : Nat) : Int) :: vl (n / 128) := by rw [vl, if_neg h]
      rw [hv, List.length_cons] at hl
      obtain ⟨m, l, h1, h2, h3, h4⟩ := ih (n / 128) (by omega) (out ++ [((128 + n % 128 : Nat) : Int)]) (by omega) (by simp; omega)
      refine ⟨m, l, ?_, h2, by rw [h3, hv]; simp, h4⟩
      rw [loopF_inl (b' := (((n / 128 : Nat) : Int), out ++ [((128 + n % 128 : Nat) : Int)], ())), h1]
      have e1 : Int.tmod (n : Int) 128 = ((n % 128 : Nat) : Int) := rfl
      have e2 : Int.tdiv (n : Int) 128 = ((n / 128 : Nat) : Int) := rfl
      have e3 : (128 : Int) + ((n % 128 : Nat) : Int) = ((128 + n % 128 : Nat) : Int) := by omega
      simp only [L1_impl_varText, show ((127 : Int) < n) by omega, decide_true, cond_true, nz_run (show (128 : Int) ≠ 0 by decide), e1, e2, e3, wrapNat (show 128 + n % 128 < 9223372036854775808 by omega), wrapNat (show n / 128 < 9223372036854775808 by omega), wrapU8 (show 128 + n % 128 < 256 by omega)]
      rw [le_run (by simp; omega)]; rfl
theorem impl_varText_ok (n : Nat) (hn : n < 9223372036854775808) : impl_varText n = some (bts (vl n), ()) := by
  obtain ⟨m, l, h1, h2, h3, h4⟩ := impl_varLoop n [] hn (by have := vl_len9 hn; simp; omega)
  simp only [impl_varText, Option.bind_some, h1, joinP_some, wrapU8 (show m < 256 by omega)]
  rw [le_run (by simp; omega), h3]; rfl
theorem spec_varLoop (n : Nat) : ∀ (out : List Int), n < 9223372036854775808 → out.length + (vl n).length ≤ 1000 → ∃ (m : Nat) (l : List Int), loopF L1_spec_l01Var ((n : Int), out, ()) = some ((m : Int), l, ()) ∧ m < 128 ∧ l ++ [(m : Int)] = out ++ vl n ∧ l.length ≤ 1000 := by
  induction n using Nat.strongRecOn with
  | _ n ih =>
    intro out hn hl
    by_cases h : n ≤ 127
    · refine ⟨n, out, loopF_inr ?_, by omega, by rw [vl, if_pos h], by omega⟩
      simp [L1_spec_l01Var, show ¬ ((127 : Int) < n) by omega]
    · have hv : vl n = ((128 + n % 128 : Nat) : Int) :: vl (n / 128) := by rw [vl, if_neg h]
      rw [hv, List.length_cons] at hl
      obtain ⟨m, l, h1, h2, h3, h4⟩ := ih (n / 128) (by omega) (out ++ [((128 + n % 128 : Nat) : Int)]) (by omega) (by simp; omega)
      refine ⟨m, l, ?_, h2, by rw [h3, hv]; simp, h4⟩
      rw [loopF_inl (b' := (((n / 128 : Nat) : Int), out ++ [((128 + n % 128 : Nat) : Int)], ())), h1]
      have e1 : Int.tmod (n : Int) 128 = ((n % 128 : Nat) : Int) := rfl
      have e2 : Int.tdiv (n : Int) 128 = ((n / 128 : Nat) : Int) := rfl
      have e3 : ((n % 128 : Nat) : Int) + (128 : Int) = ((128 + n % 128 : Nat) : Int) := by omega
      simp only [L1_spec_l01Var, show ((127 : Int) < n) by omega, decide_true, cond_true, nz_run (show (128 : Int) ≠ 0 by decide), e1, e2, e3, wrapNat (show 128 + n % 128 < 9223372036854775808 by omega), wrapNat (show n / 128 < 9223372036854775808 by omega), wrapU8 (show 128 + n % 128 < 256 by omega)]
      rw [le_run (by simp; omega)]; rfl
theorem spec_l01Var_ok (n : Nat) (hn : n < 9223372036854775808) : spec_l01Var n = some (bts (vl n), ()) := by
  obtain ⟨m, l, h1, h2, h3, h4⟩ := spec_varLoop n [] hn (by have := vl_len9 hn; simp; omega)
  simp only [spec_l01Var, Option.bind_some, h1, joinP_some, wrapU8 (show m < 256 by omega)]
  rw [le_run (by simp; omega), h3]; rfl
theorem impl_VarText_ok (n : Int) : impl_VarText n = some (if 0 ≤ n ∧ n ≤ 1000000000 then (bts (vl n.toNat), true, ()) else (⟨#[]⟩, false, ())) := by
  simp only [impl_VarText, impl_in_ok, Option.bind_some]
  by_cases h : 0 ≤ n ∧ n ≤ 1000000000
  · have := impl_varText_ok n.toNat (by omega)
    rw [Int.toNat_of_nonneg h.1] at this
    simp [h, this]
  · simp [h]
end Go.Proofs.YtmpfjlolcmokbaaE

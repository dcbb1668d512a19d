/- ShowEnding, as the program has it and as the reference has it, gives the same text; so the law yields true. No condition beyond the law's own bounds. -/
import Derived.Test.YtcbnlmpbfjimgaaDoorLawDec
set_option linter.all false
namespace Go.Proofs.YtcbnlmpbfjimgaaDoorE
set_option linter.all false
namespace ShowEnding

abbrev W := List Int × Int
def I64 (n : Int) : Prop := -9223372036854775808 ≤ n ∧ n ≤ 9223372036854775807
def tolds : List Int → ByteArray → ByteArray
  | [], out => out
  | n :: l, out => tolds l (out ++ itb n ++ s___36a9)
theorem tolds_size : ∀ (l : List Int) (out : ByteArray), (∀ n ∈ l, I64 n) → (tolds l out).size ≤ out.size + 22 * l.length
  | [], out, _ => by simp [tolds]
  | n :: l, out, h => by
    have := tolds_size l (out ++ itb n ++ s___36a9) (fun x hx => h x (by simp [hx]))
    have h1 := h n (by simp)
    have h2 := itb_size h1.1 h1.2
    have e1 : s___36a9.size = 1 := rfl
    simp only [ByteArray.size_append] at this
    simp only [tolds, List.length_cons]
    omega
theorem eSIn (a b c : Int) : spec_l01In a b c = some (decide (b ≤ a ∧ a ≤ c), ()) := by
  unfold spec_l01In
  by_cases h : b ≤ a <;> simp [h, joinP]
theorem eIIn (a b c : Int) : impl_in a b c = some (decide (b ≤ a ∧ a ≤ c), ()) := by
  unfold impl_in
  by_cases h : b ≤ a <;> simp [h, joinP]
theorem spec_loop (l : List Int) (c : Int) (hb : ∀ n ∈ l, I64 n) (hl : l.length ≤ 1048576) : ∀ (m k : Nat) (out : ByteArray), k + m = l.length → out.size + 22 * m ≤ 100000000 → loopF L1_spec_ShowEnding (out, (k : Int), (l, c), ()) = some (tolds (l.drop k) out, (l, c), ())
  | 0, k, out, hk, hs => by
    rw [List.drop_eq_nil_of_le (by omega)]
    exact loopF_inr (by simp [L1_spec_ShowEnding, tolds, show ¬ ((k : Int) < (l.length : Int)) by omega])
  | m + 1, k, out, hk, hs => by
    have hkl : k < l.length := by omega
    have h1 := hb l[k] (List.getElem_mem hkl)
    have h2 := itb_size h1.1 h1.2
    have e1 : s___36a9.size = 1 := rfl
    rw [List.drop_eq_getElem_cons hkl, tolds, loopF_inl (b' := (out ++ itb l[k] ++ s___36a9, ((k + 1 : Nat) : Int), (l, c), ())), spec_loop l c hb hl m (k + 1) _ (by omega) (by simp only [ByteArray.size_append]; omega)]
    simp only [L1_spec_ShowEnding, show ((k : Int) < (l.length : Int)) by omega, decide_true, cond_true, idx_run hkl, rd_nat hkl, spec_Decimal_ok _ h1.1 h1.2, Option.bind_some, wrapSucc (show k < 9223372036854775807 by omega)]
    rw [le_run (by simp only [maxI]; omega), le_run (by simp only [ByteArray.size_append, maxI]; omega)]; rfl
theorem impl_loop (l : List Int) (c : Int) (hb : ∀ n ∈ l, I64 n) (hl : l.length ≤ 1048576) : ∀ (m k : Nat) (out : ByteArray), k + m = l.length → out.size + 22 * m ≤ 100000000 → loopF L1_impl_ShowEnding (out, l, (l.length : Int), (k : Int), (l, c), ()) = some (tolds (l.drop k) out, (l, c), ())
  | 0, k, out, hk, hs => by
    rw [List.drop_eq_nil_of_le (by omega)]
    exact loopF_inr (by simp [L1_impl_ShowEnding, tolds, show ¬ ((k : Int) < (l.length : Int)) by omega])
  | m + 1, k, out, hk, hs => by
    have hkl : k < l.length := by omega
    have h1 := hb l[k] (List.getElem_mem hkl)
    have h2 := itb_size h1.1 h1.2
    have e1 : s___36a9.size = 1 := rfl
    rw [List.drop_eq_getElem_cons hkl, tolds, loopF_inl (b' := (out ++ itb l[k] ++ s___36a9, l, (l.length : Int), ((k + 1 : Nat) : Int), (l, c), ())), impl_loop l c hb hl m (k + 1) _ (by omega) (by simp only [ByteArray.size_append]; omega)]
    simp only [L1_impl_ShowEnding, show ((k : Int) < (l.length : Int)) by omega, decide_true, cond_true, idx_run hkl, rd_nat hkl, impl_Decimal_ok _ h1.1 h1.2, Option.bind_some, wrapSucc (show k < 9223372036854775807 by omega)]
    rw [le_run (by simp only [maxI]; omega), le_run (by simp only [ByteArray.size_append, maxI]; omega), ByteArray.append_assoc]; rfl
def ends : List ByteArray := [s_done_a4c3, s_fuel_acbe, s_input_c96c, s_over_5fb6, s_moved_5edd, s_gone_283b]
def et (c : Int) : ByteArray := if 0 ≤ c ∧ c ≤ 5 then ends.getD c.toNat ⟨#[]⟩ else s___8a8d
theorem et_size (k : Int) : (et k).size ≤ 10 := by
  unfold et
  split
  · rename_i h
    have : k.toNat = 0 ∨ k.toNat = 1 ∨ k.toNat = 2 ∨ k.toNat = 3 ∨ k.toNat = 4 ∨ k.toNat = 5 := by omega
    rcases this with h | h | h | h | h | h <;> rw [h] <;> decide
  · decide
theorem idx6 {α : Type} {c : Int} {K : Option α} (h : 0 ≤ c ∧ c ≤ 5) : (Cnd.idx c (List.length [s_done_a4c3, s_fuel_acbe, s_input_c96c, s_over_5fb6, s_moved_5edd, s_gone_283b])).run K = K := by
  simp only [Cnd.run]
  rw [if_pos (by simp; omega)]
def txt (w : W) : ByteArray := tolds w.1 ⟨#[]⟩ ++ et w.2 ++ s___01ba
theorem spec_ok (w : W) (hb : ∀ n ∈ w.1, I64 n) (hl : w.1.length ≤ 1048576) : spec_ShowEnding w = some (txt w, ()) := by
  obtain ⟨l, c⟩ := w
  have h := spec_loop l c hb hl l.length 0 ⟨#[]⟩ (by omega) (by
    have : (⟨#[]⟩ : ByteArray).size = 0 := rfl
    simp only at hl
    omega)
  have hsz := tolds_size l ⟨#[]⟩ hb
  have h0 : (⟨#[]⟩ : ByteArray).size = 0 := rfl
  have e1 : s___01ba.size = 1 := rfl
  have e2 : s____ce77.size = 2 := rfl
  simp only at hl
  simp only [Int.natCast_zero, List.drop_zero] at h
  have hk := et_size c
  simp only [spec_ShowEnding, Option.bind_some, h, joinP_some, eSIn, txt]
  by_cases hc : 0 ≤ c ∧ c ≤ 5
  · have het : rd [s_done_a4c3, s_fuel_acbe, s_input_c96c, s_over_5fb6, s_moved_5edd, s_gone_283b] c (⟨#[]⟩ : ByteArray) = et c := by
      unfold et; rw [if_pos hc]; rfl
    simp only [decide_eq_true hc, Bool.not_true, cond_false, idx6 hc, het]
    rw [le_run (by simp only [maxI]; omega), le_run (by simp only [ByteArray.size_append, maxI]; omega)]
  · have het : et c = s___8a8d := by unfold et; rw [if_neg hc]
    simp only [decide_eq_false hc, Bool.not_false, cond_true]
    rw [le_run (by simp only [maxI]; omega), het, ByteArray.append_assoc]
    rfl
theorem impl_ok (w : W) (hb : ∀ n ∈ w.1, I64 n) (hl : w.1.length ≤ 1048576) : impl_ShowEnding w = some (txt w, ()) := by
  obtain ⟨l, c⟩ := w
  have h := impl_loop l c hb hl l.length 0 ⟨#[]⟩ (by omega) (by
    have : (⟨#[]⟩ : ByteArray).size = 0 := rfl
    simp only at hl
    omega)
  have hsz := tolds_size l ⟨#[]⟩ hb
  have h0 : (⟨#[]⟩ : ByteArray).size = 0 := rfl
  have e1 : s___01ba.size = 1 := rfl
  simp only at hl
  simp only [Int.natCast_zero, List.drop_zero] at h
  have hk := et_size c
  simp only [impl_ShowEnding, Option.bind_some, h, joinP_some, eIIn, txt]
  have hfin : (Cnd.le ((tolds l ⟨#[]⟩).size + (et c).size) maxI).run ((Cnd.le ((tolds l ⟨#[]⟩ ++ et c).size + s___01ba.size) maxI).run (some (tolds l ⟨#[]⟩ ++ et c ++ s___01ba, ()))) = some (tolds l ⟨#[]⟩ ++ et c ++ s___01ba, ()) := by
    rw [le_run (by simp only [maxI]; omega), le_run (by simp only [ByteArray.size_append, maxI]; omega)]
  by_cases hc : 0 ≤ c ∧ c ≤ 5
  · have het : rd [s_done_a4c3, s_fuel_acbe, s_input_c96c, s_over_5fb6, s_moved_5edd, s_gone_283b] c (⟨#[]⟩ : ByteArray) = et c := by
      unfold et; rw [if_pos hc]; rfl
    simp only [decide_eq_true hc, cond_true, idx6 hc, het, joinP_some, hfin]
  · have het : s___8a8d = et c := by unfold et; rw [if_neg hc]
    simp only [decide_eq_false hc, cond_false, joinP_some, het, hfin]
theorem pure (w : W) (hb : Bnd t_Ending w) : laws_FnExactShowEnding w = some (true, ()) := by
  have hall : ∀ n ∈ w.1, I64 n := fun n hn => by
    obtain ⟨i, hi, rfl⟩ := List.mem_iff_getElem.1 hn
    have := wf64 (hb.1.2 i hi)
    exact ⟨this.1, by have := this.2; exact Int.le_of_lt_add_one this⟩
  simp only [laws_FnExactShowEnding]
  rw [ok_laws_szEnding w 1048576 hb (by decide) (by decide)]
  by_cases hw : (wt t_Ending w : Int) ≤ 1048576
  · have h : wt t_Ending w ≤ big := by
      have : big = 1048576 := rfl
      omega
    have hlen : w.1.length ≤ 1048576 := by
      have : wt t_Ending w = (w.1.length + (w.1.map (wt (.int .i64))).sum) + 0 := rfl
      omega
    rw [if_pos hw]
    simp only [Option.bind_some, show ¬ ((1048576 : Int) - (wt t_Ending w : Int) < 0) by omega, decide_false, cond_false, ok_laws_toEnding w h, spec_ok w hall hlen, impl_ok w hall hlen, ne_eq, not_true_eq_false]
    rw [ok_laws_eqEnding w w h]
    simp
  · rw [if_neg hw]; simp
end ShowEnding
end Go.Proofs.YtcbnlmpbfjimgaaDoorE

/- WishText, as the program has it and as the reference has it, gives the same text; so the law yields true. No condition beyond the law's own bounds. -/
import Derived.Test.YtmpfjlolcmokbaaLawWords
set_option linter.all false
namespace Go.Proofs.YtmpfjlolcmokbaaE
set_option linter.all false
namespace WishText

def numsT : List Int → ByteArray → Option ByteArray
  | [], out => some out
  | n :: l, out => if 0 ≤ n ∧ n ≤ 1000000000 then numsT l (out ++ bts (vl n.toNat)) else none
theorem numsT_size : ∀ (l : List Int) (out t : ByteArray), numsT l out = some t → t.size ≤ out.size + 9 * l.length
  | [], out, t, h => by simp only [numsT, Option.some.injEq] at h; subst h; simp
  | n :: l, out, t, h => by
    simp only [numsT] at h
    split at h
    · rename_i hn
      have := numsT_size l _ t h
      have h9 := vl_len9 (n := n.toNat) (by omega)
      rw [ByteArray.size_append, bts_size] at this
      rw [List.length_cons]; omega
    · cases h
def wt7 (w : Ty.D t_Wish) : Option ByteArray := if w.2.2.2.2.2.1.size ≤ 8 ∧ w.2.2.2.2.2.2.size ≤ 8 then (numsT [w.1, w.2.1, w.2.2.1, w.2.2.2.1, w.2.2.2.2.1] ⟨#[]⟩).map fun t => t ++ (bts (vl w.2.2.2.2.2.1.size) ++ w.2.2.2.2.2.1) ++ (bts (vl w.2.2.2.2.2.2.size) ++ w.2.2.2.2.2.2) else none

theorem impl_loop (l : List Int) (w : Ty.D t_Wish) : ∀ (m k : Nat) (out : ByteArray), k + m = l.length → out.size + 9 * m ≤ 1000 → l.length < 1000 → loopF L1_impl_WishText (out, l, (l.length : Int), (k : Int), w, ()) = some (match numsT (l.drop k) out with | some t => .inl (t, w, ()) | none => .inr (⟨#[]⟩, ()))
  | 0, k, out, hk, hs, hl => by
    rw [List.drop_eq_nil_of_le (by omega)]
    exact loopF_inr (by simp [L1_impl_WishText, numsT, show ¬ ((k : Int) < (l.length : Int)) by omega])
  | m + 1, k, out, hk, hs, hl => by
    have hkl : k < l.length := by omega
    rw [List.drop_eq_getElem_cons hkl]
    simp only [numsT]
    by_cases hn : 0 ≤ l[k] ∧ l[k] ≤ 1000000000
    · rw [if_pos hn]
      have h9 := vl_len9 (n := l[k].toNat) (by omega)
      rw [loopF_inl (b' := (out ++ bts (vl l[k].toNat), l, (l.length : Int), ((k + 1 : Nat) : Int), w, ())), impl_loop l w m (k + 1) _ (by omega) (by rw [ByteArray.size_append, bts_size]; omega) hl]
      simp only [L1_impl_WishText, show ((k : Int) < (l.length : Int)) by omega, decide_true, cond_true, idx_run hkl, rd_nat hkl, impl_VarText_ok, if_pos hn, Option.bind_some, Bool.not_true, cond_false, wrapSucc (show k < 9223372036854775807 by omega)]
      rw [le_run (by rw [bts_size]; simp only [maxI]; omega)]; rfl
    · rw [if_neg hn]
      refine loopF_inr ?_
      simp only [L1_impl_WishText, show ((k : Int) < (l.length : Int)) by omega, decide_true, cond_true, idx_run hkl, rd_nat hkl, impl_VarText_ok, if_neg hn, Option.bind_some, Bool.not_false, cond_true]
      rfl
theorem impl_shortText_ok (s : ByteArray) (h : s.size ≤ 1000000) : impl_shortText s = some (bts (vl s.size) ++ s, ()) := by
  have h9 := vl_len9 (n := s.size) (by omega)
  simp only [impl_shortText, impl_varText_ok s.size (by omega), Option.bind_some]
  rw [le_run (by rw [bts_size]; simp only [maxI]; omega)]
theorem impl_ok (w : Ty.D t_Wish) : impl_WishText w = some ((wt7 w).getD ⟨#[]⟩, ()) := by
  by_cases h : w.2.2.2.2.2.1.size ≤ 8 ∧ w.2.2.2.2.2.2.size ≤ 8
  · have e1 : ¬ ((8 : Int) < (w.2.2.2.2.2.1.size : Int)) := by omega
    have e2 : ¬ ((8 : Int) < (w.2.2.2.2.2.2.size : Int)) := by omega
    simp only [impl_WishText, e1, e2, decide_false, cond_false, joinP_some, Option.bind_some, wt7, if_pos h]
    have := impl_loop [w.1, w.2.1, w.2.2.1, w.2.2.2.1, w.2.2.2.2.1] w 5 0 ⟨#[]⟩ rfl (by decide) (by simp)
    simp only [Int.natCast_zero, List.drop_zero] at this
    rw [this]
    cases hn : numsT [w.1, w.2.1, w.2.2.1, w.2.2.2.1, w.2.2.2.2.1] ⟨#[]⟩ with
    | none => rfl
    | some t =>
      have hsz := numsT_size _ _ _ hn
      have h0 : (⟨#[]⟩ : ByteArray).size = 0 := rfl
      simp only [List.length_cons, List.length_nil, h0] at hsz
      have a1 := vl_len9 (n := w.2.2.2.2.2.1.size) (by omega)
      have a2 := vl_len9 (n := w.2.2.2.2.2.2.size) (by omega)
      simp only [joinS_inl, impl_shortText_ok w.2.2.2.2.2.1 (by omega), impl_shortText_ok w.2.2.2.2.2.2 (by omega), Option.bind_some]
      rw [le_run (by rw [ByteArray.size_append, bts_size]; simp only [maxI]; omega), le_run (by simp only [ByteArray.size_append, bts_size, maxI]; omega)]
      rfl
  · have hb : (joinP (bif decide ((8 : Int) < (w.2.2.2.2.2.1.size : Int)) then some (true, w, ()) else some (decide ((8 : Int) < (w.2.2.2.2.2.2.size : Int)), w, ()) : Option (Bool × Ty.D t_Wish × Unit)) fun x => some x) = some (true, w, ()) := by
      by_cases e1 : (8 : Int) < (w.2.2.2.2.2.1.size : Int)
      · simp [e1, joinP]
      · have e2 : (8 : Int) < (w.2.2.2.2.2.2.size : Int) := by omega
        simp [e1, e2, joinP]
    have hb' : (bif decide ((8 : Int) < (w.2.2.2.2.2.1.size : Int)) then some (true, w, ()) else some (decide ((8 : Int) < (w.2.2.2.2.2.2.size : Int)), w, ()) : Option (Bool × Ty.D t_Wish × Unit)) = some (true, w, ()) := by
      simpa [joinP] using hb
    simp only [impl_WishText, wt7, if_neg h]
    rw [hb']; rfl
theorem spec_loop (l : List Int) (w : Ty.D t_Wish) : ∀ (m k : Nat) (out : ByteArray), k + m = l.length → out.size + 9 * m ≤ 1000 → l.length < 1000 → loopF L1_spec_WishText (l, out, (k : Int), w, ()) = some (match numsT (l.drop k) out with | some t => .inl (t, w, ()) | none => .inr (⟨#[]⟩, ()))
  | 0, k, out, hk, hs, hl => by
    rw [List.drop_eq_nil_of_le (by omega)]
    exact loopF_inr (by simp [L1_spec_WishText, numsT, show ¬ ((k : Int) < (l.length : Int)) by omega])
  | m + 1, k, out, hk, hs, hl => by
    have hkl : k < l.length := by omega
    rw [List.drop_eq_getElem_cons hkl]
    simp only [numsT]
    by_cases hn : 0 ≤ l[k] ∧ l[k] ≤ 1000000000
    · rw [if_pos hn]
      have h9 := vl_len9 (n := l[k].toNat) (by omega)
      have hv := spec_l01Var_ok l[k].toNat (by omega)
      rw [Int.toNat_of_nonneg hn.1] at hv
      rw [loopF_inl (b' := (l, out ++ bts (vl l[k].toNat), ((k + 1 : Nat) : Int), w, ())), spec_loop l w m (k + 1) _ (by omega) (by rw [ByteArray.size_append, bts_size]; omega) hl]
      simp only [L1_spec_WishText, show ((k : Int) < (l.length : Int)) by omega, decide_true, cond_true, idx_run hkl, rd_nat hkl, spec_in_ok, hn, and_self, Option.bind_some, Bool.not_true, cond_false, hv, wrapSucc (show k < 9223372036854775807 by omega)]
      rw [le_run (by rw [bts_size]; simp only [maxI]; omega)]; rfl
    · rw [if_neg hn]
      refine loopF_inr ?_
      simp only [L1_spec_WishText, show ((k : Int) < (l.length : Int)) by omega, decide_true, cond_true, idx_run hkl, rd_nat hkl, spec_in_ok, decide_eq_false hn, Option.bind_some, Bool.not_false]
      rfl
theorem spec_ok (w : Ty.D t_Wish) : spec_WishText w = some ((wt7 w).getD ⟨#[]⟩, ()) := by
  simp only [spec_WishText, Option.bind_some]
  have := spec_loop [w.1, w.2.1, w.2.2.1, w.2.2.2.1, w.2.2.2.2.1] w 5 0 ⟨#[]⟩ rfl (by decide) (by simp)
  simp only [Int.natCast_zero, List.drop_zero] at this
  rw [this]
  cases hn : numsT [w.1, w.2.1, w.2.2.1, w.2.2.2.1, w.2.2.2.2.1] ⟨#[]⟩ with
  | none =>
    have : wt7 w = none := by unfold wt7; rw [hn]; split <;> rfl
    rw [this]; rfl
  | some t =>
    have hsz := numsT_size _ _ _ hn
    have h0 : (⟨#[]⟩ : ByteArray).size = 0 := rfl
    simp only [List.length_cons, List.length_nil, h0] at hsz
    simp only [joinS_inl]
    by_cases h : w.2.2.2.2.2.1.size ≤ 8 ∧ w.2.2.2.2.2.2.size ≤ 8
    · have e1 : ¬ ((8 : Int) < (w.2.2.2.2.2.1.size : Int)) := by omega
      have e2 : ¬ ((8 : Int) < (w.2.2.2.2.2.2.size : Int)) := by omega
      have a1 := vl_len9 (n := w.2.2.2.2.2.1.size) (by omega)
      have a2 := vl_len9 (n := w.2.2.2.2.2.2.size) (by omega)
      simp only [e1, e2, decide_false, cond_false, joinP_some, spec_l01Var_ok w.2.2.2.2.2.1.size (by omega), spec_l01Var_ok w.2.2.2.2.2.2.size (by omega), Option.bind_some, wt7, if_pos h, hn, Option.map_some, Option.getD_some]
      rw [le_run (by simp only [bts_size, maxI]; omega), le_run (by simp only [ByteArray.size_append, bts_size, maxI]; omega), le_run (by simp only [ByteArray.size_append, bts_size, maxI]; omega), le_run (by simp only [ByteArray.size_append, bts_size, maxI]; omega)]
      simp only [ByteArray.append_assoc]
    · have hb' : (bif decide ((8 : Int) < (w.2.2.2.2.2.1.size : Int)) then some (t, true, w, ()) else some (t, decide ((8 : Int) < (w.2.2.2.2.2.2.size : Int)), w, ()) : Option (ByteArray × Bool × Ty.D t_Wish × Unit)) = some (t, true, w, ()) := by
        by_cases e1 : (8 : Int) < (w.2.2.2.2.2.1.size : Int)
        · simp [e1]
        · have e2 : (8 : Int) < (w.2.2.2.2.2.2.size : Int) := by omega
          simp [e1, e2]
      rw [hb']
      simp only [joinP_some, cond_true, wt7, if_neg h]; rfl
theorem pure (w : Ty.D t_Wish) (hb : Bnd t_Wish w) : laws_FnExactWishText w = some (true, ()) := by
  simp only [laws_FnExactWishText]
  rw [ok_laws_szWish w 1048576 hb (by decide) (by decide)]
  by_cases hw : (wt t_Wish w : Int) ≤ 1048576
  · have h : wt t_Wish w ≤ big := by
      have : big = 1048576 := rfl
      omega
    rw [if_pos hw]
    simp only [Option.bind_some, show ¬ ((1048576 : Int) - (wt t_Wish w : Int) < 0) by omega, decide_false, cond_false, ok_laws_toWish w h, spec_ok, impl_ok]
    simp
  · rw [if_neg hw]; simp
end WishText
end Go.Proofs.YtmpfjlolcmokbaaE

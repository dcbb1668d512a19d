/- PlanText, as the program has it and as the reference has it, gives the same text; so the law yields true. No condition beyond the law's own bounds. -/
import Derived.Test.YtmpfjlolcmokbaaLawWishText
set_option linter.all false
namespace Go.Proofs.YtmpfjlolcmokbaaE
set_option linter.all false
namespace PlanText

/-- The text of a list, one wish behind the other; none if one has no text. -/
def plT : List (Ty.D t_Wish) → ByteArray → Option ByteArray
  | [], out => some out
  | w :: l, out => if (WishText.wt7 w).getD ⟨#[]⟩ = (⟨#[]⟩ : ByteArray) then none else plT l (out ++ (WishText.wt7 w).getD ⟨#[]⟩)
theorem wt7_size (w : Ty.D t_Wish) : ((WishText.wt7 w).getD ⟨#[]⟩).size ≤ 100 := by
  unfold WishText.wt7
  split
  · rename_i h
    cases hn : WishText.numsT [w.1, w.2.1, w.2.2.1, w.2.2.2.1, w.2.2.2.2.1] ⟨#[]⟩ with
    | none => exact (by decide : (⟨#[]⟩ : ByteArray).size ≤ 100)
    | some t =>
      have hsz := WishText.numsT_size _ _ _ hn
      have h0 : (⟨#[]⟩ : ByteArray).size = 0 := rfl
      simp only [List.length_cons, List.length_nil, h0] at hsz
      have a1 := vl_len9 (n := w.2.2.2.2.2.1.size) (by omega)
      have a2 := vl_len9 (n := w.2.2.2.2.2.2.size) (by omega)
      simp only [Option.map_some, Option.getD_some, ByteArray.size_append, bts_size]
      omega
  · exact (by decide : (⟨#[]⟩ : ByteArray).size ≤ 100)
theorem impl_loop (l : List (Ty.D t_Wish)) (hl : l.length ≤ 1048576) : ∀ (m k : Nat) (out : ByteArray), k + m = l.length → out.size + 100 * m ≤ 1000000000 → loopF L1_impl_PlanText (out, l, (l.length : Int), (k : Int), ()) = some (match plT (l.drop k) out with | some t => .inl (t, ()) | none => .inr (⟨#[]⟩, ()))
  | 0, k, out, hk, hs => by
    rw [List.drop_eq_nil_of_le (by omega)]
    exact loopF_inr (by simp [L1_impl_PlanText, plT, show ¬ ((k : Int) < (l.length : Int)) by omega])
  | m + 1, k, out, hk, hs => by
    have hkl : k < l.length := by omega
    rw [List.drop_eq_getElem_cons hkl]
    simp only [plT]
    have hz := wt7_size l[k]
    by_cases hn : (WishText.wt7 l[k]).getD ⟨#[]⟩ = (⟨#[]⟩ : ByteArray)
    · rw [if_pos hn]
      refine loopF_inr ?_
      simp only [L1_impl_PlanText, show ((k : Int) < (l.length : Int)) by omega, decide_true, cond_true, idx_run hkl, rd_nat hkl, WishText.impl_ok, Option.bind_some, hn]
      rfl
    · rw [if_neg hn, loopF_inl (b' := (out ++ (WishText.wt7 l[k]).getD ⟨#[]⟩, l, (l.length : Int), ((k + 1 : Nat) : Int), ())), impl_loop l hl m (k + 1) _ (by omega) (by rw [ByteArray.size_append]; omega)]
      simp only [L1_impl_PlanText, show ((k : Int) < (l.length : Int)) by omega, decide_true, cond_true, idx_run hkl, rd_nat hkl, WishText.impl_ok, Option.bind_some, hn, decide_false, cond_false, wrapSucc (show k < 9223372036854775807 by omega)]
      rw [le_run (by simp only [maxI]; omega)]; rfl
theorem spec_loop (l : List (Ty.D t_Wish)) (hl : l.length ≤ 1048576) : ∀ (m k : Nat) (out : ByteArray), k + m = l.length → out.size + 100 * m ≤ 1000000000 → loopF L1_spec_PlanText (l, out, (k : Int), ()) = some (match plT (l.drop k) out with | some t => .inl (t, ()) | none => .inr (⟨#[]⟩, ()))
  | 0, k, out, hk, hs => by
    rw [List.drop_eq_nil_of_le (by omega)]
    exact loopF_inr (by simp [L1_spec_PlanText, plT, show ¬ ((k : Int) < (l.length : Int)) by omega])
  | m + 1, k, out, hk, hs => by
    have hkl : k < l.length := by omega
    rw [List.drop_eq_getElem_cons hkl]
    simp only [plT]
    have hz := wt7_size l[k]
    by_cases hn : (WishText.wt7 l[k]).getD ⟨#[]⟩ = (⟨#[]⟩ : ByteArray)
    · rw [if_pos hn]
      refine loopF_inr ?_
      simp only [L1_spec_PlanText, show ((k : Int) < (l.length : Int)) by omega, decide_true, cond_true, idx_run hkl, rd_nat hkl, WishText.spec_ok, Option.bind_some, hn]
      rfl
    · rw [if_neg hn, loopF_inl (b' := (l, out ++ (WishText.wt7 l[k]).getD ⟨#[]⟩, ((k + 1 : Nat) : Int), ())), spec_loop l hl m (k + 1) _ (by omega) (by rw [ByteArray.size_append]; omega)]
      simp only [L1_spec_PlanText, show ((k : Int) < (l.length : Int)) by omega, decide_true, cond_true, idx_run hkl, rd_nat hkl, WishText.spec_ok, Option.bind_some, hn, decide_false, cond_false, wrapSucc (show k < 9223372036854775807 by omega)]
      rw [le_run (by simp only [maxI]; omega)]; rfl
theorem impl_ok (l : List (Ty.D t_Wish)) (hl : l.length ≤ 1048576) : impl_PlanText l = some ((plT l ⟨#[]⟩).getD ⟨#[]⟩, ()) := by
  have := impl_loop l hl l.length 0 ⟨#[]⟩ (by omega) (by have h0 : (⟨#[]⟩ : ByteArray).size = 0 := rfl
                                                         omega)
  simp only [Int.natCast_zero, List.drop_zero] at this
  simp only [impl_PlanText, Option.bind_some, this]
  cases plT l ⟨#[]⟩ <;> rfl
theorem spec_ok (l : List (Ty.D t_Wish)) (hl : l.length ≤ 1048576) : spec_PlanText l = some ((plT l ⟨#[]⟩).getD ⟨#[]⟩, ()) := by
  have := spec_loop l hl l.length 0 ⟨#[]⟩ (by omega) (by have h0 : (⟨#[]⟩ : ByteArray).size = 0 := rfl
                                                         omega)
  simp only [Int.natCast_zero, List.drop_zero] at this
  simp only [spec_PlanText, Option.bind_some, this]
  cases plT l ⟨#[]⟩ <;> rfl
open Classical in
theorem pure (l : List (Ty.D t_Wish)) (hb : Bnd (.list 0 t_Wish) l) : laws_FnExactPlanText l = some (true, ()) := by
  simp only [laws_FnExactPlanText]
  rw [ok_laws_szWishS l 1048576 hb (by decide) (by decide)]
  by_cases hw : (wt (.list 0 t_Wish) l : Int) ≤ 1048576
  · have hwt : wt (.list 0 t_Wish) l = l.length + (l.map (wt t_Wish)).sum := rfl
    have h : wt (.list 0 t_Wish) l ≤ big := by
      have : big = 1048576 := rfl
      omega
    have hl : l.length ≤ 1048576 := by omega
    rw [if_pos hw]
    simp only [Option.bind_some, show ¬ ((1048576 : Int) - (wt (.list 0 t_Wish) l : Int) < 0) by omega, decide_false, cond_false, ok_laws_toWishS l h, spec_ok l hl, impl_ok l hl, ok_laws_eqWishS l l h]
    simp
  · rw [if_neg hw]; simp
end PlanText
end Go.Proofs.YtmpfjlolcmokbaaE

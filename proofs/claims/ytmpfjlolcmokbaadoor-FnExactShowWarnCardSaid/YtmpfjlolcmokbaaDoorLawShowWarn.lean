/- ShowWarn, as the program has it and as the reference has it, gives the same text; so the law yields true. No condition beyond the law's own bounds. -/
import Derived.Test.YtmpfjlolcmokbaaDoorLawDec
set_option linter.all false
namespace Go.Proofs.YtmpfjlolcmokbaaDoorE
set_option linter.all false
namespace ShowWarn

abbrev W := Int × (Int × ByteArray)
def kinds : List ByteArray := [s___8a8d, s_unused_febe, s_same_0967, s_empty_2e1c, s_const_f75c, s_dead_28a3]
def kt (k : Int) : ByteArray := if 1 ≤ k ∧ k ≤ 5 then kinds.getD k.toNat ⟨#[]⟩ else s___8a8d
theorem kt_size (k : Int) : (kt k).size ≤ 10 := by
  unfold kt
  split
  · rename_i h
    have : k.toNat = 1 ∨ k.toNat = 2 ∨ k.toNat = 3 ∨ k.toNat = 4 ∨ k.toNat = 5 := by omega
    rcases this with h | h | h | h | h <;> rw [h] <;> decide
  · decide
def txt (w : W) : ByteArray := ((itb (if w.2.1 < 0 then 0 else w.2.1) ++ s___36a9) ++ kt w.1) ++ (if w.2.2 = (⟨#[]⟩ : ByteArray) then ⟨#[]⟩ else s___36a9 ++ w.2.2)
theorem sIn (a b c : Int) : spec_l01In a b c = some (decide (b ≤ a ∧ a ≤ c), ()) := by
  unfold spec_l01In
  by_cases h : b ≤ a <;> simp [h, joinP]
theorem iIn (a b c : Int) : impl_in a b c = some (decide (b ≤ a ∧ a ≤ c), ()) := by
  unfold impl_in
  by_cases h : b ≤ a <;> simp [h, joinP]
theorem app_nil (a : ByteArray) : a ++ (⟨#[]⟩ : ByteArray) = a := by apply ByteArray.ext; simp
theorem spec_ok (w : W) (h0 : -9223372036854775808 ≤ w.2.1) (h1 : w.2.1 ≤ 9223372036854775807) (hs : w.2.2.size ≤ 1048576) : spec_ShowWarn w = some (txt w, ()) := by
  have e1 : s___36a9.size = 1 := rfl
  have hnum : spec_l25Num w.2.1 = some (itb (if w.2.1 < 0 then 0 else w.2.1), ()) := by
    unfold spec_l25Num
    by_cases hn : w.2.1 < 0
    · simp only [hn, decide_true, cond_true, if_true]
      have : itb 0 = s_0_5fec := by
        have : Lib.itoa 0 = [48] := by
          unfold Lib.itoa; rw [if_neg (by omega)]; exact Lib.decDigits_one (by omega)
        unfold itb; rw [this]; rfl
      rw [this]
    · simp only [hn, decide_false, cond_false, if_false, spec_Decimal_ok _ h0 h1, Option.bind_some]
  have hz : (itb (if w.2.1 < 0 then 0 else w.2.1)).size ≤ 21 := by
    split
    · exact itb_size (by omega) (by omega)
    · exact itb_size h0 h1
  have hk := kt_size w.1
  have key : ∀ (k : Int), kinds.getD k.toNat ⟨#[]⟩ = kt w.1 → 0 ≤ k → k < 6 → ((spec_l25Num w.2.1).bind fun y3 => (Cnd.le (y3.1.size + s___36a9.size) maxI).run ((Cnd.idx k (List.length kinds)).run ((Cnd.le ((y3.1 ++ s___36a9).size + (rd kinds k (⟨#[]⟩ : ByteArray)).size) maxI).run (joinP (bif decide (w.2.2 ≠ (⟨#[]⟩ : ByteArray)) then (Cnd.le (((y3.1 ++ s___36a9) ++ (rd kinds k (⟨#[]⟩ : ByteArray))).size + s___36a9.size) maxI).run ((Cnd.le ((((y3.1 ++ s___36a9) ++ (rd kinds k (⟨#[]⟩ : ByteArray))) ++ s___36a9).size + w.2.2.size) maxI).run (some ((((y3.1 ++ s___36a9) ++ (rd kinds k (⟨#[]⟩ : ByteArray))) ++ s___36a9) ++ w.2.2, ()))) else some ((y3.1 ++ s___36a9) ++ (rd kinds k (⟨#[]⟩ : ByteArray)), ())) fun x4 => some (x4.1, ()))))) = some (txt w, ()) := by
    intro k hkt k0 k6
    have hrd : rd kinds k (⟨#[]⟩ : ByteArray) = kt w.1 := hkt
    rw [hnum]
    simp only [Option.bind_some, hrd]
    rw [le_run (by simp only [maxI]; omega)]
    have hidx : ∀ {K : Option (ByteArray × Unit)}, (Cnd.idx k (List.length kinds)).run K = K := by
      intro K
      simp only [Cnd.run]
      rw [if_pos (by have : List.length kinds = 6 := rfl; omega)]
    rw [hidx, le_run (by rw [ByteArray.size_append]; simp only [maxI]; omega)]
    by_cases hw : w.2.2 = (⟨#[]⟩ : ByteArray)
    · simp only [hw, ne_eq, not_true_eq_false, decide_false, cond_false, joinP_some, txt, if_true, app_nil]
    · simp only [hw, ne_eq, not_false_eq_true, decide_true, cond_true, txt, if_false]
      rw [le_run (by simp only [ByteArray.size_append, maxI]; omega), le_run (by simp only [ByteArray.size_append, maxI]; omega)]
      simp only [joinP_some, ByteArray.append_assoc]
  simp only [spec_ShowWarn, sIn, Option.bind_some]
  by_cases hin : 1 ≤ w.1 ∧ w.1 ≤ 5
  · simp only [decide_eq_true hin, cond_true, joinP_some]
    exact key w.1 (by unfold kt; rw [if_pos hin]) (by omega) (by omega)
  · simp only [decide_eq_false hin, cond_false, joinP_some]
    exact key 0 (by unfold kt; rw [if_neg hin]; rfl) (by omega) (by omega)
theorem impl_ok (w : W) (h0 : -9223372036854775808 ≤ w.2.1) (h1 : w.2.1 ≤ 9223372036854775807) (hs : w.2.2.size ≤ 1048576) : impl_ShowWarn w = some (txt w, ()) := by
  have e1 : s___36a9.size = 1 := rfl
  have hmax : (if (0 : Int) > w.2.1 then (0 : Int) else w.2.1) = (if w.2.1 < 0 then 0 else w.2.1) := rfl
  have hz : (itb (if w.2.1 < 0 then 0 else w.2.1)).size ≤ 21 := by
    split
    · exact itb_size (by omega) (by omega)
    · exact itb_size h0 h1
  have hd : impl_Decimal (if w.2.1 < 0 then 0 else w.2.1) = some (itb (if w.2.1 < 0 then 0 else w.2.1), ()) := by
    split
    · exact impl_Decimal_ok _ (by omega) (by omega)
    · exact impl_Decimal_ok _ h0 h1
  have hk := kt_size w.1
  have hb : (bif decide (1 ≤ w.1 ∧ w.1 ≤ 5) then (Cnd.idx (IntKind.wrap .i64 (w.1 - (1 : Int))) (List.length [s_unused_febe, s_same_0967, s_empty_2e1c, s_const_f75c, s_dead_28a3])).run (some (rd [s_unused_febe, s_same_0967, s_empty_2e1c, s_const_f75c, s_dead_28a3] (IntKind.wrap .i64 (w.1 - (1 : Int))) (⟨#[]⟩ : ByteArray), w, ())) else some (s___8a8d, w, ())) = some (kt w.1, w, ()) := by
    by_cases hin : 1 ≤ w.1 ∧ w.1 ≤ 5
    · simp only [decide_eq_true hin, cond_true, wrap64 (show -9223372036854775808 ≤ w.1 - 1 by omega) (by omega)]
      have hidx : ∀ {K : Option (ByteArray × W × Unit)}, (Cnd.idx (w.1 - 1) (List.length [s_unused_febe, s_same_0967, s_empty_2e1c, s_const_f75c, s_dead_28a3])).run K = K := by
        intro K
        simp only [Cnd.run]
        rw [if_pos (by simp; omega)]
      rw [hidx]
      have : rd [s_unused_febe, s_same_0967, s_empty_2e1c, s_const_f75c, s_dead_28a3] (w.1 - 1) (⟨#[]⟩ : ByteArray) = kt w.1 := by
        unfold kt
        rw [if_pos hin]
        have : w.1 = 1 ∨ w.1 = 2 ∨ w.1 = 3 ∨ w.1 = 4 ∨ w.1 = 5 := by omega
        rcases this with h | h | h | h | h <;> rw [h] <;> rfl
      rw [this]
    · simp only [decide_eq_false hin, cond_false, kt, if_neg hin]
  simp only [impl_ShowWarn, iIn, Option.bind_some]
  rw [hb]
  simp only [joinP_some, hmax, hd, Option.bind_some]
  rw [le_run (by simp only [maxI]; omega), le_run (by rw [ByteArray.size_append]; simp only [maxI]; omega)]
  by_cases hw : w.2.2 = (⟨#[]⟩ : ByteArray)
  · simp only [hw, ne_eq, not_true_eq_false, decide_false, cond_false, joinP_some, txt, if_true, app_nil]
  · simp only [hw, ne_eq, not_false_eq_true, decide_true, cond_true, txt, if_false]
    rw [le_run (by simp only [maxI]; omega), le_run (by simp only [ByteArray.size_append, maxI]; omega)]
    simp only [joinP_some]
theorem pure (w : W) (hb : Bnd t_Warn w) : laws_FnExactShowWarn w = some (true, ()) := by
  have hn := wf64 hb.2.1
  simp only [laws_FnExactShowWarn]
  rw [ok_laws_szWarn w 1048576 hb (by decide) (by decide)]
  by_cases hw : (wt t_Warn w : Int) ≤ 1048576
  · have h : wt t_Warn w ≤ big := by
      have : big = 1048576 := rfl
      omega
    have hsz : w.2.2.size ≤ 1048576 := by
      have : wt t_Warn w = 0 + (0 + w.2.2.size) := rfl
      omega
    rw [if_pos hw]
    simp only [Option.bind_some, show ¬ ((1048576 : Int) - (wt t_Warn w : Int) < 0) by omega, decide_false, cond_false, ok_laws_toWarn w h, spec_ok w hn.1 (by omega) hsz, impl_ok w hn.1 (by omega) hsz]
    simp
  · rw [if_neg hw]; simp
end ShowWarn
end Go.Proofs.YtmpfjlolcmokbaaDoorE

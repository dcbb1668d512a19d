/- Which names, words and codes are right, as the program has it and as the reference has it. No condition beyond each lemma's own. -/
import Derived.Test.YtgkgfpbdodafaaaGreatDoorLawBase
set_option linter.all false
namespace Go.Proofs.YtgkgfpbdodafaaaGreatDoorE
set_option linter.all false
set_option maxRecDepth 100000
def keys : List ByteArray := [s_fn_0f1e, s_let_5654, s_if_935f, s_else_7dd5, s_while_07a8, s_print_ce95, s_do_ac0b, s_new_1150, s_clone_b5d6, s_mut_631c, s_input_c96c, s_int_6da8, s_box_26f8, s_ret_85e4]
def isKey (s : ByteArray) : Bool := keys.any fun k => decide (k = s)
theorem spec_KeyWord_ok (s : ByteArray) : spec_KeyWord s = some (isKey s, ()) := by
  simp only [spec_KeyWord, spec_l03Keys, Option.bind_some]
  have h := loopF_any (step := L1_spec_KeyWord) keys (fun k => decide (k = s)) (fun k => (s, keys, (k : Int), ())) (.inr (true, ())) (.inl ()) (fun k hk => by
    have hk14 : k < 14 := hk
    simp only [L1_spec_KeyWord, lt_cast hk, decide_true, cond_true, idx_run hk, rd_nat hk]
    by_cases e : keys[k] = s <;> simp only [e, decide_true, decide_false, cond_true, cond_false, cond_true, cond_false, Option.map_some, wrapSucc (show k < 9223372036854775807 by omega)]) (by
    simp only [L1_spec_KeyWord, not_lt_self, decide_false, cond_false, Option.map_some])
  have h' : loopF L1_spec_KeyWord (s, [s_fn_0f1e, s_let_5654, s_if_935f, s_else_7dd5, s_while_07a8, s_print_ce95, s_do_ac0b, s_new_1150, s_clone_b5d6, s_mut_631c, s_input_c96c, s_int_6da8, s_box_26f8, s_ret_85e4], (0 : Int), ()) = _ := h
  rw [h']
  show joinS (some (bif isKey s then Sum.inr (true, ()) else Sum.inl ())) _ = _
  cases isKey s <;> rfl
theorem split_keys : lib_Split s_fn_let_if_else_w_d3db s___36a9 = some (keys, ()) := by kernel_rfl
theorem impl_oneOf_ok (s t : ByteArray) (l : List ByteArray) (hl : l.length ≤ 1000) (h : lib_Split t s___36a9 = some (l, ())) : impl_oneOf s t = some (l.any (fun k => decide (k = s)), ()) := by
  simp only [impl_oneOf, h, Option.bind_some]
  have h := loopF_any (step := L1_impl_oneOf) l (fun k => decide (k = s)) (fun k => (s, l, (l.length : Int), (k : Int), ())) (.inr (true, ())) (.inl ()) (fun k hk => by
    simp only [L1_impl_oneOf, lt_cast hk, decide_true, cond_true, idx_run hk, rd_nat hk]
    by_cases e : l[k] = s <;> simp only [e, decide_true, decide_false, cond_true, cond_false, cond_true, cond_false, Option.map_some, wrapSucc (show k < 9223372036854775807 by omega)]) (by
    simp only [L1_impl_oneOf, not_lt_self, decide_false, cond_false, Option.map_some])
  rw [show ((s, l, (l.length : Int), (0 : Int), ()) : ByteArray × List ByteArray × Int × Int × Unit) = (fun k : Nat => (s, l, (l.length : Int), (k : Int), ())) 0 from rfl, h]
  cases l.any fun k => decide (k = s) <;> rfl
theorem impl_KeyWord_ok (s : ByteArray) : impl_KeyWord s = some (isKey s, ()) := by
  simp only [impl_KeyWord, impl_oneOf_ok s _ keys (by decide) split_keys, Option.bind_some]
  rfl
def letter (c : Int) : Bool := decide (97 ≤ c ∧ c ≤ 122)
def figure (c : Int) : Bool := decide (48 ≤ c ∧ c ≤ 57)
theorem sLetter (c : Int) : spec_l03Letter c = some (letter c, ()) := by
  unfold spec_l03Letter letter
  by_cases h : 97 ≤ c <;> simp [h, joinP]
theorem sFigure (c : Int) : spec_l03Figure c = some (figure c, ()) := by
  unfold spec_l03Figure figure
  by_cases h : 48 ≤ c <;> simp [h, joinP]
theorem iLetter (c : Int) : impl_isLetter c = some (letter c, ()) := by
  unfold impl_isLetter letter
  by_cases h : 97 ≤ c <;> simp [h, joinP]
theorem iFigure (c : Int) : impl_isFigure c = some (figure c, ()) := by
  unfold impl_isFigure figure
  by_cases h : 48 ≤ c <;> simp [h, joinP]
def signOk (b : UInt8) : Bool := letter (b.toNat : Int) || figure (b.toNat : Int)
def nameOk (s : ByteArray) : Bool := decide (1 ≤ s.size ∧ s.size ≤ 8) && letter (bAt s 0) && !isKey s && s.data.toList.all signOk
theorem bAt_list {s : ByteArray} {k : Nat} (h : k < s.data.toList.length) : bAt s (k : Int) = ((s.data.toList[k].toNat : Nat) : Int) := by
  have h' : k < s.data.size := by simpa using h
  rw [bAt_nat', Array.getD_eq_getD_getElem?, Array.getElem?_eq_getElem h']
  simp
theorem size_list (s : ByteArray) : s.data.toList.length = s.size := by rw [Array.length_toList]; rfl
theorem name_loopS (s : ByteArray) (hs : s.size ≤ 8) : loopF L1_spec_NameOk (s, (0 : Int), ()) = some (bif s.data.toList.all signOk then .inl () else .inr (false, ())) := by
  have hsz := size_list s
  have h := loopF_all (step := L1_spec_NameOk) s.data.toList signOk (fun k => (s, (k : Int), ())) (.inl ()) (.inr (false, ())) (fun k hk => by
    have hk' : k < s.size := by omega
    have hb := bAt_list hk
    simp only [L1_spec_NameOk, lt_cast hk', decide_true, cond_true, idx_run hk', sLetter, sFigure, Option.bind_some, hb, signOk]
    generalize ((s.data.toList[k].toNat : Nat) : Int) = x
    cases letter x <;> cases figure x <;> simp only [Bool.not_false, Bool.not_true, cond_true, cond_false, joinP_some, Option.map_some, Bool.or_false, Bool.or_true, Bool.true_or, Bool.false_or, cond_true, cond_false, wrapSucc (show k < 9223372036854775807 by omega)]) (by
    rw [hsz]
    simp only [L1_spec_NameOk, not_lt_self, decide_false, cond_false, Option.map_some])
  exact h
theorem name_loopI (s : ByteArray) (hs : s.size ≤ 8) : loopF L1_impl_NameOk (s, (0 : Int), ()) = some (bif s.data.toList.all signOk then .inl (s, ()) else .inr (false, ())) := by
  have hsz := size_list s
  have h := loopF_all (step := L1_impl_NameOk) s.data.toList signOk (fun k => (s, (k : Int), ())) (.inl (s, ())) (.inr (false, ())) (fun k hk => by
    have hk' : k < s.size := by omega
    have hb := bAt_list hk
    simp only [L1_impl_NameOk, lt_cast hk', decide_true, cond_true, idx_run hk', iLetter, iFigure, Option.bind_some, hb, signOk]
    generalize ((s.data.toList[k].toNat : Nat) : Int) = x
    cases letter x <;> cases figure x <;> simp only [Bool.not_false, Bool.not_true, cond_true, cond_false, joinP_some, Option.map_some, Bool.or_false, Bool.or_true, Bool.true_or, Bool.false_or, cond_true, cond_false, wrapSucc (show k < 9223372036854775807 by omega)]) (by
    rw [hsz]
    simp only [L1_impl_NameOk, not_lt_self, decide_false, cond_false, Option.map_some])
  exact h
theorem idx0 {α : Type} {n : Nat} {K : Option α} (h : 0 < n) : (Cnd.idx (0 : Int) n).run K = K := idx_run (k := 0) h
theorem spec_NameOk_ok (s : ByteArray) : spec_NameOk s = some (nameOk s, ()) := by
  unfold spec_NameOk nameOk
  rw [sIn]
  simp only [Option.bind_some]
  by_cases h : (1 : Int) ≤ (s.size : Int) ∧ (s.size : Int) ≤ 8
  · have h' : 1 ≤ s.size ∧ s.size ≤ 8 := by omega
    simp only [h, h', and_self, decide_true, Bool.not_true, cond_false, idx0 (show 0 < s.size by omega), sLetter, Option.bind_some, Bool.true_and]
    cases letter (bAt s 0)
    · simp only [Bool.not_false, cond_true, joinP_some, Bool.false_and]
    · simp only [Bool.not_true, cond_false, spec_KeyWord_ok, Option.bind_some, joinP_some, Bool.true_and]
      cases isKey s
      · simp only [cond_false, Option.bind_some, name_loopS s h'.2, Bool.not_false, Bool.true_and]
        cases s.data.toList.all signOk <;> simp only [cond_true, cond_false, joinS_inl, joinS_inr]
      · simp only [cond_true, Bool.not_true, Bool.false_and]
  · have h' : ¬ (1 ≤ s.size ∧ s.size ≤ 8) := by omega
    simp only [h, h', decide_false, Bool.not_false, cond_true, joinP_some, Bool.false_and]
theorem impl_NameOk_ok (s : ByteArray) : impl_NameOk s = some (nameOk s, ()) := by
  unfold impl_NameOk nameOk
  rw [iIn]
  simp only [Option.bind_some]
  by_cases h : (1 : Int) ≤ (s.size : Int) ∧ (s.size : Int) ≤ 8
  · have h' : 1 ≤ s.size ∧ s.size ≤ 8 := by omega
    simp only [h, h', and_self, decide_true, Bool.not_true, cond_false, idx0 (show 0 < s.size by omega), iLetter, Option.bind_some, Bool.true_and]
    cases letter (bAt s 0)
    · simp only [Bool.not_false, joinP_some, cond_true, Bool.false_and]
    · simp only [Bool.not_true, joinP_some, cond_false, Option.bind_some, name_loopI s h'.2, Bool.true_and]
      cases s.data.toList.all signOk
      · simp only [cond_false, joinS_inr, Bool.and_false]
      · simp only [cond_true, joinS_inl, impl_KeyWord_ok, Option.bind_some, Bool.and_true]
  · have h' : ¬ (1 ≤ s.size ∧ s.size ≤ 8) := by omega
    simp only [h, h', decide_false, Bool.not_false, cond_true, joinP_some, Bool.false_and]
end Go.Proofs.YtgkgfpbdodafaaaGreatDoorE

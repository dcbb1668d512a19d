/- ShowWord, as the program has it and as the reference has it, gives the same text; so the law yields true. No condition beyond the law's own bounds. -/
import Derived.Test.YtibccfmlfknhbaaDoorLawDec
import Derived.KernelRfl
set_option linter.all false
namespace Go.Proofs.YtibccfmlfknhbaaDoorE
set_option linter.all false
namespace ShowWord

abbrev W := Int × (Int × (Int × (Int × (Int × (ByteArray × List Int)))))
def I64 (n : Int) : Prop := -9223372036854775808 ≤ n ∧ n ≤ 9223372036854775807
theorem sIn (a b c : Int) : spec_l01In a b c = some (decide (b ≤ a ∧ a ≤ c), ()) := by
  unfold spec_l01In
  by_cases h : b ≤ a <;> simp [h, joinP]
theorem iIn (a b c : Int) : impl_in a b c = some (decide (b ≤ a ∧ a ≤ c), ()) := by
  unfold impl_in
  by_cases h : b ≤ a <;> simp [h, joinP]
def fig (n : Int) : ByteArray := if n < 0 then s___3973 else itb n
theorem fig_size {n : Int} (h : I64 n) : (fig n).size ≤ 21 := by
  unfold fig
  split
  · decide
  · exact itb_size h.1 h.2
theorem spec_fig {n : Int} (h : I64 n) : spec_l34Num n = some (fig n, ()) := by
  unfold spec_l34Num fig
  by_cases hn : n < 0
  · simp only [hn, decide_true, cond_true, if_true]
  · simp only [hn, decide_false, cond_false, if_false, spec_Decimal_ok n h.1 h.2, Option.bind_some]
theorem impl_fig {n : Int} (h : I64 n) : impl_figures n = some (fig n, ()) := by
  unfold impl_figures fig
  by_cases hn : n < 0
  · simp only [hn, decide_true, cond_true, if_true]
  · simp only [hn, decide_false, cond_false, if_false, impl_Decimal_ok n h.1 h.2, Option.bind_some]
def hb (k : Int) : Bool := decide ((2 ≤ k ∧ k ≤ 7) ∨ (9 ≤ k ∧ k ≤ 12) ∨ k = 14 ∨ k = 15)
def hc (k : Int) : Bool := decide (10 ≤ k ∧ k ≤ 12)
def hn (k : Int) : Bool := decide (k = 1 ∨ k = 18 ∨ k = 19)
theorem spec_hb (k : Int) : spec_l11HasB k = some (hb k, ()) := by
  simp only [spec_l11HasB, sIn, Option.bind_some, hb]
  by_cases h1 : 2 ≤ k ∧ k ≤ 7
  · simp [h1, joinP]
  · by_cases h2 : 9 ≤ k ∧ k ≤ 12
    · simp [h1, h2, joinP]
    · by_cases h3 : k = 14 <;> simp [h1, h2, h3, joinP]
theorem impl_hb (k : Int) : impl_hasB k = some (hb k, ()) := by
  simp only [impl_hasB, iIn, Option.bind_some, hb]
  by_cases h1 : 2 ≤ k ∧ k ≤ 7
  · simp [h1, joinP]
  · by_cases h2 : 9 ≤ k ∧ k ≤ 12
    · simp [h1, h2, joinP]
    · by_cases h3 : k = 14 <;> simp [h1, h2, h3, joinP]
theorem spec_hc (k : Int) : spec_l11HasC k = some (hc k, ()) := by
  simp only [spec_l11HasC, sIn, Option.bind_some, hc]
theorem impl_hc (k : Int) : impl_hasC k = some (hc k, ()) := by
  simp only [impl_hasC, iIn, Option.bind_some, hc]
theorem impl_hn (k : Int) : impl_hasNum k = some (hn k, ()) := by
  simp only [impl_hasNum, hn]
  by_cases h1 : k = 1
  · simp [h1, joinP]
  · by_cases h2 : k = 18 <;> simp [h1, h2, joinP]
theorem impl_ha (k : Int) (h : 1 ≤ k ∧ k ≤ 20) : impl_hasA k = some (decide (k ≠ 18), ()) := by
  simp only [impl_hasA, iIn, Option.bind_some]
  by_cases h1 : 1 ≤ k ∧ k ≤ 17
  · have : k ≠ 18 := by omega
    simp [h1, joinP, this]
  · by_cases h2 : k = 19
    · simp [h2, joinP]
    · by_cases h3 : k = 18
      · simp [h3, joinP]
      · have : k = 20 := by omega
        simp [this, joinP]
/-- Parts one behind the other, a space between. -/
def glue : ByteArray → List ByteArray → ByteArray
  | o, [] => o
  | o, p :: l => glue (o ++ s___36a9 ++ p) l
theorem glue_app (o : ByteArray) (l l' : List ByteArray) : glue o (l ++ l') = glue (glue o l) l' := by
  induction l generalizing o with
  | nil => rfl
  | cons p l ih => exact ih _
def opt (b : Bool) (p : ByteArray) : List ByteArray := if b then [p] else []
def names : List ByteArray := [s_const_f75c, s_copy_6f5a, s_move_683a, s_read_3316, s_clone_b5d6, s_lend_5d59, s_mut_631c, s_input_c96c, s_new_1150, s_add_7e9e, s_less_4fdd, s_same_0967, s_call_7edb, s_put_373c, s_store_824d, s_print_ce95, s_drop_d90e, s_jump_6bda, s_if_935f, s_ret_85e4]
theorem split_names : lib_Split s_const_copy_move__77de s___36a9 = some (names, ()) := by kernel_rfl
theorem glue_tail (l : List ByteArray) : ∀ p : ByteArray, (⟨(p.data.toList ++ Lib.joinTail s___36a9.data.toList (l.map (·.data.toList))).toArray⟩ : ByteArray) = glue p l := by
  induction l with
  | nil => intro p; simp [glue, Lib.joinTail]
  | cons q l ih =>
    intro p
    have := ih (p ++ s___36a9 ++ q)
    rw [glue, ← this]
    apply ByteArray.ext
    simp [Lib.joinTail, List.append_assoc]
theorem glue_size : ∀ (l : List ByteArray) (o : ByteArray), (glue o l).size = o.size + (l.map fun p => p.size + 1).sum
  | [], o => by simp [glue]
  | p :: l, o => by
    have e1 : s___36a9.size = 1 := rfl
    rw [glue, glue_size l, List.map_cons, List.sum_cons, ByteArray.size_append, ByteArray.size_append]
    omega
theorem lib_join (p : ByteArray) (l : List ByteArray) (h1 : l.length ≤ 2000000) (h2 : (glue p l).size ≤ 1000000000) : lib_Join (p :: l) s___36a9 = some (glue p l, ()) := by
  have e : (⟨(Lib.join ((p :: l).map (·.data.toList)) s___36a9.data.toList).toArray⟩ : ByteArray) = glue p l := by
    rw [List.map_cons, Lib.join_cons]; exact glue_tail l p
  have e2 : (Lib.join ((p :: l).map (·.data.toList)) s___36a9.data.toList).length = (glue p l).size := by
    rw [← e]; simp [ByteArray.size]
  unfold lib_Join
  rw [if_pos ⟨by simp; omega, by rw [e2]; omega⟩, e]
/-- One part more, where it is wanted. -/
theorem spec_step (b : Bool) (out : ByteArray) {n : Int} (w : W) (h : I64 n) (hs : out.size ≤ 1000000000) {β : Type} (k : ByteArray × W × Unit → Option β) :
    joinP (bif b then (Cnd.le (out.size + s___36a9.size) maxI).run ((spec_l34Num n).bind fun y6 => (Cnd.le ((out ++ s___36a9).size + y6.1.size) maxI).run (some ((out ++ s___36a9) ++ y6.1, w, ()))) else some (out, w, ())) k = k (glue out (opt b (fig n)), w, ()) := by
  have e1 : s___36a9.size = 1 := rfl
  have h2 := fig_size h
  cases b with
  | false => rfl
  | true =>
    simp only [cond_true, spec_fig h, Option.bind_some]
    rw [le_run (by simp only [maxI]; omega), le_run (by simp only [ByteArray.size_append, maxI]; omega)]
    rfl
theorem impl_step (b : Bool) (l : List ByteArray) {n : Int} (w : W) (h : I64 n) (hs : l.length ≤ 1000) {β : Type} (k : List ByteArray × W × Unit → Option β) :
    joinP (bif b then (impl_figures n).bind fun y => (Cnd.le ((List.length l + List.length [y.1]) * 16) 140737488355328).run (some (l ++ [y.1], w, ())) else some (l, w, ())) k = k (l ++ opt b (fig n), w, ()) := by
  cases b with
  | false => simp [opt, joinP]
  | true =>
    simp only [cond_true, impl_fig h, Option.bind_some]
    rw [le_run (by simp; omega)]
    rfl
theorem opt_len (b : Bool) (p : ByteArray) : (opt b p).length ≤ 1 := by cases b <;> simp [opt]
theorem opt_glue_size (b : Bool) (o : ByteArray) {n : Int} (h : I64 n) : (glue o (opt b (fig n))).size ≤ o.size + 22 := by
  have h2 := fig_size h
  rw [glue_size]
  cases b <;> simp [opt]
  omega
/-- The arguments, one behind the other. -/
theorem spec_loop (w : W) (hb : ∀ n ∈ w.2.2.2.2.2.2, I64 n) (hl : w.2.2.2.2.2.2.length ≤ 1048576) : ∀ (m k : Nat) (out : ByteArray), k + m = w.2.2.2.2.2.2.length → out.size + 22 * m ≤ 100000000 → loopF L1_spec_ShowWord (out, (k : Int), w, ()) = some (glue out ((w.2.2.2.2.2.2.drop k).map fig), ())
  | 0, k, out, hk, hs => by
    rw [List.drop_eq_nil_of_le (by omega)]
    refine loopF_inr ?_
    simp only [L1_spec_ShowWord, show ¬ ((k : Int) < (w.2.2.2.2.2.2.length : Int)) by omega, decide_false, cond_false, Option.map_some, List.map_nil, glue]
  | m + 1, k, out, hk, hs => by
    have hkl : k < w.2.2.2.2.2.2.length := by omega
    have h1 := hb _ (List.getElem_mem hkl)
    have h2 := fig_size h1
    have e1 : s___36a9.size = 1 := rfl
    rw [List.drop_eq_getElem_cons hkl, List.map_cons, glue, loopF_inl (b' := (out ++ s___36a9 ++ fig w.2.2.2.2.2.2[k], ((k + 1 : Nat) : Int), w, ())), spec_loop w hb hl m (k + 1) _ (by omega) (by simp only [ByteArray.size_append]; omega)]
    simp only [L1_spec_ShowWord, show ((k : Int) < (w.2.2.2.2.2.2.length : Int)) by omega, decide_true, cond_true, idx_run hkl, rd_nat hkl, spec_fig h1, Option.bind_some, wrapSucc (show k < 9223372036854775807 by omega)]
    rw [le_run (by simp only [maxI]; omega), le_run (by simp only [ByteArray.size_append, maxI]; omega)]; rfl
theorem impl_loop (a : List Int) (hb : ∀ n ∈ a, I64 n) (hl : a.length ≤ 1048576) : ∀ (m k : Nat) (l : List ByteArray), k + m = a.length → l.length + m ≤ 2000000 → loopF L1_impl_ShowWord (l, a, (a.length : Int), (k : Int), ()) = some (l ++ (a.drop k).map fig, ())
  | 0, k, l, hk, hs => by
    rw [List.drop_eq_nil_of_le (by omega)]
    refine loopF_inr ?_
    simp only [L1_impl_ShowWord, show ¬ ((k : Int) < (a.length : Int)) by omega, decide_false, cond_false, Option.map_some, List.map_nil, List.append_nil]
  | m + 1, k, l, hk, hs => by
    have hkl : k < a.length := by omega
    have h1 := hb _ (List.getElem_mem hkl)
    rw [List.drop_eq_getElem_cons hkl, List.map_cons, loopF_inl (b' := (l ++ [fig a[k]], a, (a.length : Int), ((k + 1 : Nat) : Int), ())), impl_loop a hb hl m (k + 1) _ (by omega) (by simp; omega), List.append_assoc]
    · rfl
    · simp only [L1_impl_ShowWord, show ((k : Int) < (a.length : Int)) by omega, decide_true, cond_true, idx_run hkl, rd_nat hkl, impl_fig h1, Option.bind_some, wrapSucc (show k < 9223372036854775807 by omega)]
      rw [le_run (by simp; omega)]; rfl
def parts (w : W) : List ByteArray := opt (decide (w.1 ≠ 18)) (fig w.2.1) ++ opt (hb w.1) (fig w.2.2.1) ++ opt (hc w.1) (fig w.2.2.2.1) ++ opt (hn w.1) (fig w.2.2.2.2.1) ++ (if w.1 = 13 then w.2.2.2.2.2.1 :: w.2.2.2.2.2.2.map fig else [])
def name (w : W) : ByteArray := names.getD (w.1 - 1).toNat ⟨#[]⟩
def txt (w : W) : ByteArray := if 1 ≤ w.1 ∧ w.1 ≤ 20 then glue (name w) (parts w) else ⟨#[]⟩
structure Ok (w : W) : Prop where
  a : I64 w.2.1
  b : I64 w.2.2.1
  c : I64 w.2.2.2.1
  n : I64 w.2.2.2.2.1
  s : w.2.2.2.2.2.1.size ≤ 1048576
  l : w.2.2.2.2.2.2.length ≤ 1048576
  i : ∀ n ∈ w.2.2.2.2.2.2, I64 n
theorem name_size (w : W) : (name w).size ≤ 10 := by
  have : ∀ i, (names.getD i ⟨#[]⟩).size ≤ 10 := by
    intro i
    rcases Nat.lt_or_ge i 20 with h | h
    · have : ∀ i : Fin 20, (names.getD i.1 ⟨#[]⟩).size ≤ 10 := by decide
      exact this ⟨i, h⟩
    · have hn : names.length = 20 := rfl
      rw [List.getD_eq_getElem?_getD, List.getElem?_eq_none (by omega)]
      decide
  exact this _
theorem spec_last (w : W) (h : Ok w) (out : ByteArray) (hs : out.size ≤ 1000) :
    (joinP (joinP (bif decide (w.1 = (1 : Int)) then some (out, w.1, decide (w.1 = (1 : Int)), w, ()) else joinP (bif decide (w.1 = (18 : Int)) then some (out, w.1, decide (w.1 = (18 : Int)), w, ()) else some (out, w.1, decide (w.1 = (19 : Int)), w, ())) fun x11 => some (x11.1, x11.2.1, x11.2.2.1, x11.2.2.2.1, ())) fun x12 => joinP (bif x12.2.2.1 then (Cnd.le (x12.1.size + s___36a9.size) maxI).run ((spec_l34Num x12.2.2.2.1.2.2.2.2.1).bind fun y13 => (Cnd.le ((x12.1 ++ s___36a9).size + y13.1.size) maxI).run (some ((x12.1 ++ s___36a9) ++ y13.1, ()))) else joinP (bif decide (x12.2.1 = (13 : Int)) then (Cnd.le (x12.1.size + s___36a9.size) maxI).run ((Cnd.le ((x12.1 ++ s___36a9).size + x12.2.2.2.1.2.2.2.2.2.1.size) maxI).run (joinP ((some ((x12.1 ++ s___36a9) ++ x12.2.2.2.1.2.2.2.2.2.1, (0 : Int), x12.2.2.2.1, ())).bind fun x140 => loopF L1_spec_ShowWord x140) fun x16 => some (x16.1, ()))) else some (x12.1, ())) fun x17 => some (x17.1, ())) fun x18 => some (x18.1, ())) fun x19 => some (x19.1, ()) : Option (ByteArray × Unit))
    = some (glue out (opt (hn w.1) (fig w.2.2.2.2.1) ++ (if w.1 = 13 then w.2.2.2.2.2.1 :: w.2.2.2.2.2.2.map fig else [])), ()) := by
  have e1 : s___36a9.size = 1 := rfl
  have h2 := fig_size h.n
  have hin : joinP (bif decide (w.1 = (1 : Int)) then some (out, w.1, decide (w.1 = (1 : Int)), w, ()) else joinP (bif decide (w.1 = (18 : Int)) then some (out, w.1, decide (w.1 = (18 : Int)), w, ()) else some (out, w.1, decide (w.1 = (19 : Int)), w, ())) fun x11 => some (x11.1, x11.2.1, x11.2.2.1, x11.2.2.2.1, ())) (fun x => some x) = some (out, w.1, hn w.1, w, ()) := by
    by_cases k1 : w.1 = 1
    · simp [k1, joinP, hn]
    · by_cases k2 : w.1 = 18
      · simp [k2, joinP, hn]
      · simp [k1, k2, joinP, hn]
  have hin' : (bif decide (w.1 = (1 : Int)) then some (out, w.1, decide (w.1 = (1 : Int)), w, ()) else joinP (bif decide (w.1 = (18 : Int)) then some (out, w.1, decide (w.1 = (18 : Int)), w, ()) else some (out, w.1, decide (w.1 = (19 : Int)), w, ())) fun x11 => some (x11.1, x11.2.1, x11.2.2.1, x11.2.2.2.1, ())) = some (out, w.1, hn w.1, w, ()) := by
    rw [← hin]; unfold joinP; simp
  rw [hin']
  simp only [joinP_some]
  cases hnb : hn w.1 with
  | true =>
    have h13 : ¬ w.1 = 13 := by
      simp only [hn, decide_eq_true_eq] at hnb
      omega
    simp only [cond_true, spec_fig h.n, Option.bind_some]
    rw [le_run (by simp only [maxI]; omega), le_run (by simp only [ByteArray.size_append, maxI]; omega)]
    simp only [joinP_some, h13, if_false, opt, if_true, List.append_nil, glue]
  | false =>
    simp only [cond_false, opt, Bool.false_eq_true, if_false, List.nil_append]
    by_cases h13 : w.1 = 13
    · simp only [h13, decide_true, cond_true, Option.bind_some, if_true]
      have hl := spec_loop w h.i h.l w.2.2.2.2.2.2.length 0 (out ++ s___36a9 ++ w.2.2.2.2.2.1) (by omega) (by have := h.s; have := h.l; simp only [ByteArray.size_append]; omega)
      simp only [Int.natCast_zero, List.drop_zero] at hl
      have hs2 := h.s
      rw [le_run (by simp only [maxI]; omega), le_run (by simp only [ByteArray.size_append, maxI]; omega), hl]
      simp only [joinP_some, glue]
    · simp only [h13, decide_false, cond_false, joinP_some, if_false, glue]
theorem spec_ok (w : W) (h : Ok w) : spec_ShowWord w = some (txt w, ()) := by
  simp only [spec_ShowWord, sIn, Option.bind_some, txt]
  by_cases hk : 1 ≤ w.1 ∧ w.1 ≤ 20
  · have hrd : rd ((⟨#[]⟩ : ByteArray) :: names) w.1 (⟨#[]⟩ : ByteArray) = name w := by
      unfold name
      show ((⟨#[]⟩ : ByteArray) :: names).getD w.1.toNat ⟨#[]⟩ = _
      rw [show w.1.toNat = (w.1 - 1).toNat + 1 by omega, List.getD_cons_succ]
    have hnm : spec_l34Names = some ((⟨#[]⟩ : ByteArray) :: names, ()) := rfl
    have hidx : ∀ {K : Option (ByteArray × Unit)}, (Cnd.idx w.1 (List.length ((⟨#[]⟩ : ByteArray) :: names))).run K = K := by
      intro K
      simp only [Cnd.run]
      rw [if_pos (by have : List.length ((⟨#[]⟩ : ByteArray) :: names) = 21 := rfl; omega)]
    have hs := name_size w
    simp only [decide_eq_true hk, Bool.not_true, cond_false, hnm, Option.bind_some, hidx, hrd, if_pos hk]
    rw [spec_step (decide (w.1 ≠ 18)) (name w) w h.a (by omega)]
    have q1 := opt_glue_size (decide (w.1 ≠ 18)) (name w) h.a
    simp only [spec_hb, Option.bind_some]
    rw [spec_step (hb w.1) _ w h.b (by omega)]
    have q2 := opt_glue_size (hb w.1) (glue (name w) (opt (decide (w.1 ≠ 18)) (fig w.2.1))) h.b
    simp only [spec_hc, Option.bind_some]
    rw [spec_step (hc w.1) _ w h.c (by omega)]
    have q3 := opt_glue_size (hc w.1) (glue (glue (name w) (opt (decide (w.1 ≠ 18)) (fig w.2.1))) (opt (hb w.1) (fig w.2.2.1))) h.c
    refine (spec_last w h (glue (glue (glue (name w) (opt (decide (w.1 ≠ 18)) (fig w.2.1))) (opt (hb w.1) (fig w.2.2.1))) (opt (hc w.1) (fig w.2.2.2.1))) (by omega)).trans ?_
    simp only [parts, glue_app, List.append_assoc]
  · simp only [decide_eq_false hk, Bool.not_false, cond_true, if_neg hk]
theorem glue_le : ∀ (l : List ByteArray) (o : ByteArray) (B : Nat), (∀ p ∈ l, p.size ≤ B) → (glue o l).size ≤ o.size + (B + 1) * l.length
  | [], o, B, _ => by simp [glue]
  | p :: l, o, B, h => by
    have := glue_le l (o ++ s___36a9 ++ p) B (fun q hq => h q (by simp [hq]))
    have h1 := h p (by simp)
    have e1 : s___36a9.size = 1 := rfl
    simp only [ByteArray.size_append] at this
    rw [glue, List.length_cons, Nat.mul_succ]
    omega
theorem parts_size (w : W) (h : Ok w) : (glue (name w) (parts w)).size ≤ 100000000 := by
  have q0 := name_size w
  have q1 := opt_glue_size (decide (w.1 ≠ 18)) (name w) h.a
  have q2 := opt_glue_size (hb w.1) (glue (name w) (opt (decide (w.1 ≠ 18)) (fig w.2.1))) h.b
  have q3 := opt_glue_size (hc w.1) (glue (glue (name w) (opt (decide (w.1 ≠ 18)) (fig w.2.1))) (opt (hb w.1) (fig w.2.2.1))) h.c
  have q4 := opt_glue_size (hn w.1) (glue (glue (glue (name w) (opt (decide (w.1 ≠ 18)) (fig w.2.1))) (opt (hb w.1) (fig w.2.2.1))) (opt (hc w.1) (fig w.2.2.2.1))) h.n
  simp only [parts, glue_app]
  split
  · rw [glue]
    have q5 := glue_le (w.2.2.2.2.2.2.map fig) (glue (glue (glue (glue (name w) (opt (decide (w.1 ≠ 18)) (fig w.2.1))) (opt (hb w.1) (fig w.2.2.1))) (opt (hc w.1) (fig w.2.2.2.1))) (opt (hn w.1) (fig w.2.2.2.2.1)) ++ s___36a9 ++ w.2.2.2.2.2.1) 21 (fun p hp => by
      obtain ⟨n, hn, rfl⟩ := List.mem_map.1 hp
      exact fig_size (h.i n hn))
    have e1 : s___36a9.size = 1 := rfl
    have hl := h.l
    have hs := h.s
    simp only [ByteArray.size_append, List.length_map] at q5
    omega
  · rw [glue]; omega
theorem parts_len (w : W) (h : Ok w) : (parts w).length ≤ 1100000 := by
  have hl := h.l
  have a1 := opt_len (decide (w.1 ≠ 18)) (fig w.2.1)
  have a2 := opt_len (hb w.1) (fig w.2.2.1)
  have a3 := opt_len (hc w.1) (fig w.2.2.2.1)
  have a4 := opt_len (hn w.1) (fig w.2.2.2.2.1)
  simp only [parts, List.length_append]
  split
  · simp only [List.length_cons, List.length_map]; omega
  · simp only [List.length_nil]; omega
theorem impl_ok (w : W) (h : Ok w) : impl_ShowWord w = some (txt w, ()) := by
  simp only [impl_ShowWord, iIn, Option.bind_some, txt]
  by_cases hk : 1 ≤ w.1 ∧ w.1 ≤ 20
  · have hw : IntKind.wrap .i64 (w.1 - (1 : Int)) = w.1 - 1 := wrap64 (by omega) (by omega)
    have hrd : rd names (w.1 - 1) (⟨#[]⟩ : ByteArray) = name w := rfl
    have hidx : ∀ {K : Option (ByteArray × Unit)}, (Cnd.idx (w.1 - 1) (List.length names)).run K = K := by
      intro K
      simp only [Cnd.run]
      rw [if_pos (by have : List.length names = 20 := rfl; omega)]
    have a1 := opt_len (decide (w.1 ≠ 18)) (fig w.2.1)
    have a2 := opt_len (hb w.1) (fig w.2.2.1)
    have a3 := opt_len (hc w.1) (fig w.2.2.2.1)
    have a4 := opt_len (hn w.1) (fig w.2.2.2.2.1)
    simp only [decide_eq_true hk, Bool.not_true, cond_false, split_names, Option.bind_some, hw, hidx, hrd, impl_ha w.1 hk, if_pos hk]
    rw [impl_step (decide (w.1 ≠ 18)) [name w] w h.a (by simp)]
    simp only [impl_hb, Option.bind_some]
    rw [impl_step (hb w.1) _ w h.b (by simp only [List.length_append, List.length_cons, List.length_nil]; omega)]
    simp only [impl_hc, Option.bind_some]
    rw [impl_step (hc w.1) _ w h.c (by simp only [List.length_append, List.length_cons, List.length_nil]; omega)]
    simp only [impl_hn, Option.bind_some]
    rw [impl_step (hn w.1) _ w h.n (by simp only [List.length_append, List.length_cons, List.length_nil]; omega)]
    have hj := lib_join (name w) (parts w) (by have := parts_len w h; omega) (by have := parts_size w h; omega)
    by_cases h13 : w.1 = 13
    · have hl := impl_loop w.2.2.2.2.2.2 h.i h.l w.2.2.2.2.2.2.length 0 ((((([name w] ++ opt (decide (w.1 ≠ 18)) (fig w.2.1)) ++ opt (hb w.1) (fig w.2.2.1)) ++ opt (hc w.1) (fig w.2.2.2.1)) ++ opt (hn w.1) (fig w.2.2.2.2.1)) ++ [w.2.2.2.2.2.1]) (by omega) (by have := h.l; simp only [List.length_append, List.length_cons, List.length_nil]; omega)
      simp only [Int.natCast_zero, List.drop_zero] at hl
      have hp : ((((([name w] ++ opt (decide (w.1 ≠ 18)) (fig w.2.1)) ++ opt (hb w.1) (fig w.2.2.1)) ++ opt (hc w.1) (fig w.2.2.2.1)) ++ opt (hn w.1) (fig w.2.2.2.2.1)) ++ [w.2.2.2.2.2.1]) ++ w.2.2.2.2.2.2.map fig = name w :: parts w := by
        unfold parts; rw [if_pos h13]; simp
      have hd : decide (w.1 = 13) = true := decide_eq_true h13
      simp only [hd, cond_true, Option.bind_some]
      rw [le_run (by simp only [List.length_append, List.length_cons, List.length_nil]; omega), hl]
      simp only [joinP_some, hp, hj, Option.bind_some]
    · have hp : (((([name w] ++ opt (decide (w.1 ≠ 18)) (fig w.2.1)) ++ opt (hb w.1) (fig w.2.2.1)) ++ opt (hc w.1) (fig w.2.2.2.1)) ++ opt (hn w.1) (fig w.2.2.2.2.1)) = name w :: parts w := by
        unfold parts; rw [if_neg h13]; simp
      have hd : decide (w.1 = 13) = false := decide_eq_false h13
      simp only [hd, cond_false, joinP_some, hp, hj, Option.bind_some]
  · simp only [decide_eq_false hk, Bool.not_false, cond_true, if_neg hk]
theorem pure (w : W) (hbd : Bnd t_Ins w) : laws_FnExactShowWord w = some (true, ()) := by
  have i64 : ∀ {n : Int}, (Lit.int .i64 n).wf = true → I64 n := fun {n} hh => by
    have := wf64 hh
    exact ⟨this.1, by have := this.2; omega⟩
  simp only [laws_FnExactShowWord]
  rw [ok_laws_szIns w 1048576 hbd (by decide) (by decide)]
  by_cases hw : (wt t_Ins w : Int) ≤ 1048576
  · have h : wt t_Ins w ≤ big := by
      have : big = 1048576 := rfl
      omega
    have hwt : wt t_Ins w = 0 + (0 + (0 + (0 + (0 + (w.2.2.2.2.2.1.size + (w.2.2.2.2.2.2.length + (w.2.2.2.2.2.2.map (wt (.int .i64))).sum)))))) := rfl
    have hok : Ok w := ⟨i64 hbd.2.1, i64 hbd.2.2.1, i64 hbd.2.2.2.1, i64 hbd.2.2.2.2.1, by omega, by omega, fun n hn => by
      obtain ⟨i, hi, rfl⟩ := List.mem_iff_getElem.1 hn
      exact i64 (hbd.2.2.2.2.2.2.2 i hi)⟩
    rw [if_pos hw]
    simp only [Option.bind_some, show ¬ ((1048576 : Int) - (wt t_Ins w : Int) < 0) by omega, decide_false, cond_false, ok_laws_toIns w h, spec_ok w hok, impl_ok w hok, ne_eq, not_true_eq_false]
    rw [ok_laws_eqIns w w h]
    simp
  · rw [if_neg hw]; simp
end ShowWord
end Go.Proofs.YtibccfmlfknhbaaDoorE

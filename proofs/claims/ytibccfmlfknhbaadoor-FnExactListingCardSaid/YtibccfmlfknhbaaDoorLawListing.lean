/- Listing, as the program has it and as the reference has it, gives the same text; so the law yields true. No condition beyond the law's own bounds. -/
import Derived.Test.YtibccfmlfknhbaaDoorLawShowWord
set_option linter.all false
namespace Go.Proofs.YtibccfmlfknhbaaDoorE
set_option linter.all false
namespace Listing

abbrev I := ShowWord.W
abbrev W := ByteArray × (Int × (List Int × List I))
/-- How long a word's text is at most. -/
theorem txt_size (w : I) (h : ShowWord.Ok w) : (ShowWord.txt w).size ≤ 100000000 := by
  unfold ShowWord.txt
  split
  · exact ShowWord.parts_size w h
  · exact (by decide : (⟨#[]⟩ : ByteArray).size ≤ 100000000)
def line (k : Nat) (w : I) : ByteArray := itb (k : Int) ++ s___36a9 ++ ShowWord.txt w ++ s___01ba
def lines : Nat → List I → ByteArray → ByteArray
  | _, [], out => out
  | k, w :: l, out => lines (k + 1) l (out ++ line k w)
theorem spec_loop (x : W) (hl : x.2.2.2.length ≤ 1048576) (hok : ∀ w ∈ x.2.2.2, ShowWord.Ok w) : ∀ (m k : Nat) (out : ByteArray), k + m = x.2.2.2.length → out.size + 200000000 * m ≤ 1000000000000000 → loopF L1_spec_Listing (out, (k : Int), x, ()) = some (lines k (x.2.2.2.drop k) out, ())
  | 0, k, out, hk, hs => by
    rw [List.drop_eq_nil_of_le (by omega)]
    refine loopF_inr ?_
    simp only [L1_spec_Listing, show ¬ ((k : Int) < (x.2.2.2.length : Int)) by omega, decide_false, cond_false, Option.map_some, lines]
  | m + 1, k, out, hk, hs => by
    have hkl : k < x.2.2.2.length := by omega
    have h1 := hok _ (List.getElem_mem hkl)
    have h2 := txt_size _ h1
    have h3 := itb_size (n := (k : Int)) (by omega) (by omega)
    have e1 : s___36a9.size = 1 := rfl
    have e2 : s___01ba.size = 1 := rfl
    rw [List.drop_eq_getElem_cons hkl, lines, loopF_inl (b' := (out ++ line k x.2.2.2[k], ((k + 1 : Nat) : Int), x, ())), spec_loop x hl hok m (k + 1) _ (by omega) (by simp only [line, ByteArray.size_append]; omega)]
    simp only [L1_spec_Listing, show ((k : Int) < (x.2.2.2.length : Int)) by omega, decide_true, cond_true, idx_run hkl, rd_nat hkl, spec_Decimal_ok (k : Int) (by omega) (by omega), ShowWord.spec_ok _ h1, Option.bind_some, wrapSucc (show k < 9223372036854775807 by omega)]
    rw [le_run (by simp only [maxI]; omega), le_run (by simp only [ByteArray.size_append, maxI]; omega), le_run (by simp only [ByteArray.size_append, maxI]; omega), le_run (by simp only [ByteArray.size_append, maxI]; omega)]
    simp only [line, ByteArray.append_assoc, Option.map_some]
theorem impl_loop (l : List I) (hl : l.length ≤ 1048576) (hok : ∀ w ∈ l, ShowWord.Ok w) : ∀ (m k : Nat) (out : ByteArray), k + m = l.length → out.size + 200000000 * m ≤ 1000000000000000 → loopF L1_impl_Listing (out, l, (l.length : Int), (k : Int), ()) = some (lines k (l.drop k) out, ())
  | 0, k, out, hk, hs => by
    rw [List.drop_eq_nil_of_le (by omega)]
    refine loopF_inr ?_
    simp only [L1_impl_Listing, show ¬ ((k : Int) < (l.length : Int)) by omega, decide_false, cond_false, Option.map_some, lines]
  | m + 1, k, out, hk, hs => by
    have hkl : k < l.length := by omega
    have h1 := hok _ (List.getElem_mem hkl)
    have h2 := txt_size _ h1
    have h3 := itb_size (n := (k : Int)) (by omega) (by omega)
    have e1 : s___36a9.size = 1 := rfl
    have e2 : s___01ba.size = 1 := rfl
    rw [List.drop_eq_getElem_cons hkl, lines, loopF_inl (b' := (out ++ line k l[k], l, (l.length : Int), ((k + 1 : Nat) : Int), ())), impl_loop l hl hok m (k + 1) _ (by omega) (by simp only [line, ByteArray.size_append]; omega)]
    simp only [L1_impl_Listing, show ((k : Int) < (l.length : Int)) by omega, decide_true, cond_true, idx_run hkl, rd_nat hkl, impl_Decimal_ok (k : Int) (by omega) (by omega), ShowWord.impl_ok _ h1, Option.bind_some, wrapSucc (show k < 9223372036854775807 by omega)]
    rw [le_run (by simp only [maxI]; omega), le_run (by simp only [ByteArray.size_append, maxI]; omega), le_run (by simp only [ByteArray.size_append, maxI]; omega), le_run (by simp only [ByteArray.size_append, maxI]; omega)]
    rfl
def txt (x : W) : ByteArray := lines 0 x.2.2.2 (s_code__aacf ++ x.1 ++ s___01ba)
structure Ok (x : W) : Prop where
  n : x.1.size ≤ 1048576
  l : x.2.2.2.length ≤ 1048576
  w : ∀ w ∈ x.2.2.2, ShowWord.Ok w
theorem spec_ok (x : W) (h : Ok x) : spec_Listing x = some (txt x, ()) := by
  have e0 : s_code__aacf.size = 5 := rfl
  have e2 : s___01ba.size = 1 := rfl
  have hn := h.n
  have hlen := h.l
  have hl := spec_loop x h.l h.w x.2.2.2.length 0 (s_code__aacf ++ x.1 ++ s___01ba) (by omega) (by simp only [ByteArray.size_append]; omega)
  simp only [Int.natCast_zero, List.drop_zero] at hl
  simp only [spec_Listing, Option.bind_some, hl, joinP_some]
  rw [le_run (by simp only [maxI]; omega), le_run (by simp only [ByteArray.size_append, maxI]; omega)]
  rfl
theorem impl_ok (x : W) (h : Ok x) : impl_Listing x = some (txt x, ()) := by
  have e0 : s_code__aacf.size = 5 := rfl
  have e2 : s___01ba.size = 1 := rfl
  have hn := h.n
  have hlen := h.l
  have hl := impl_loop x.2.2.2 h.l h.w x.2.2.2.length 0 (s_code__aacf ++ x.1 ++ s___01ba) (by omega) (by simp only [ByteArray.size_append]; omega)
  simp only [Int.natCast_zero, List.drop_zero] at hl
  simp only [impl_Listing, Option.bind_some, hl, joinP_some]
  rw [le_run (by simp only [maxI]; omega), le_run (by simp only [ByteArray.size_append, maxI]; omega)]
  rfl
theorem ok_ins (w : I) (hbd : Bnd t_Ins w) (hw : wt t_Ins w ≤ 1048576) : ShowWord.Ok w := by
  have i64 : ∀ {n : Int}, (Lit.int .i64 n).wf = true → ShowWord.I64 n := fun {n} hh => by
    have := wf64 hh
    exact ⟨this.1, by have := this.2; omega⟩
  have hwt : wt t_Ins w = 0 + (0 + (0 + (0 + (0 + (w.2.2.2.2.2.1.size + (w.2.2.2.2.2.2.length + (w.2.2.2.2.2.2.map (wt (.int .i64))).sum)))))) := rfl
  exact ⟨i64 hbd.2.1, i64 hbd.2.2.1, i64 hbd.2.2.2.1, i64 hbd.2.2.2.2.1, by omega, by omega, fun n hn => by
    obtain ⟨i, hi, rfl⟩ := List.mem_iff_getElem.1 hn
    exact i64 (hbd.2.2.2.2.2.2.2 i hi)⟩
theorem pure (x : W) (hbd : Bnd t_Code x) : laws_FnExactListing x = some (true, ()) := by
  simp only [laws_FnExactListing]
  rw [ok_laws_szCode x 1048576 hbd (by decide) (by decide)]
  by_cases hw : (wt t_Code x : Int) ≤ 1048576
  · have h : wt t_Code x ≤ big := by
      have : big = 1048576 := rfl
      omega
    have hwt : wt t_Code x = x.1.size + (0 + ((x.2.2.1.length + (x.2.2.1.map (wt (.int .i64))).sum) + (x.2.2.2.length + (x.2.2.2.map (wt t_Ins)).sum))) := rfl
    have hok : Ok x := ⟨by omega, by omega, fun w hwm => by
      obtain ⟨i, hi, rfl⟩ := List.mem_iff_getElem.1 hwm
      have := sum_mem (f := wt t_Ins) hi
      exact ok_ins _ (hbd.2.2.2.2 i hi) (by omega)⟩
    rw [if_pos hw]
    simp only [Option.bind_some, show ¬ ((1048576 : Int) - (wt t_Code x : Int) < 0) by omega, decide_false, cond_false, ok_laws_toCode x h, spec_ok x hok, impl_ok x hok, ne_eq, not_true_eq_false]
    rw [ok_laws_eqCode x x h]
    simp
  · rw [if_neg hw]; simp
end Listing
end Go.Proofs.YtibccfmlfknhbaaDoorE

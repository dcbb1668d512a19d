/- Decimal: the reference's numerals are the library's. No condition beyond each lemma's own. -/
import Derived.Test.YtgkgfpbdodafaaaGreatDoorLawAX
import Derived.Lib.ItoaLen
set_option linter.all false
namespace Go.Proofs.YtgkgfpbdodafaaaGreatDoorE
set_option linter.all false
def dd (u : Nat) : ByteArray := if u = 0 then ⟨#[]⟩ else ⟨(Lib.decDigits u).toArray⟩
theorem ba_append (a b : List UInt8) : (⟨a.toArray⟩ : ByteArray) ++ ⟨b.toArray⟩ = ⟨(a ++ b).toArray⟩ := by
  apply ByteArray.ext
  simp
theorem bts_digit {d : Nat} (h : d < 10) : bts [((48 + d : Nat) : Int)] = ⟨[UInt8.ofNat (48 + d)].toArray⟩ := rfl
theorem dd_step {u : Nat} (h : u ≠ 0) : dd u = dd (u / 10) ++ bts [((48 + u % 10 : Nat) : Int)] := by
  rw [bts_digit (Nat.mod_lt _ (by omega))]
  unfold dd
  rw [if_neg h, Lib.decDigits]
  split
  · rename_i h10
    rw [if_pos (by omega), Nat.mod_eq_of_lt h10]
    apply ByteArray.ext; simp
  · rename_i h10
    rw [if_neg (by omega), ba_append]
theorem wrapU8' {n : Nat} (h : n < 256) : IntKind.wrap .u8 (n : Int) = n := by
  have e : (2 : Int) ^ IntKind.u8.bits = 256 := by decide
  simp only [IntKind.wrap, e, show IntKind.u8.signed = false from rfl, Bool.false_and, Bool.false_eq_true, if_false]
  omega
theorem figure_digit {d : Nat} (h : d < 10) : spec_l01Figure (d : Int) = some (((48 + d : Nat) : Int), ()) := by
  have e : (48 : Int) + (d : Int) = ((48 + d : Nat) : Int) := by omega
  simp only [spec_l01Figure, show ((d : Int) < 10) by omega, decide_true, cond_true, e, wrapNat (show 48 + d < 9223372036854775808 by omega), wrapU8' (show 48 + d < 256 by omega)]
theorem bts_one (x : Int) : (bts [x]).size = 1 := rfl
theorem nz10 {α : Type} {K : Option α} : (Cnd.nz (10 : Int)).run K = K := by
  simp only [Cnd.run]; rw [if_neg (by decide)]
theorem dec_loop (neg : Bool) : ∀ (k : Nat) (n : Int) (out : ByteArray), n.natAbs < 10 ^ k → -9223372036854775808 ≤ n → n ≤ 9223372036854775807 → out.size + k ≤ 1000 → loopF L1_spec_Decimal (n, neg, out, ()) = some (neg, dd n.natAbs ++ out, ()) := by
  intro k
  induction k with
  | zero =>
    intro n out hn _ _ _
    have h0 : n = 0 := by simp at hn; omega
    subst h0
    rw [loopF_inr (r := (neg, out, ()))]
    · have : dd (Int.natAbs 0) ++ out = out := by
        apply ByteArray.ext; simp [dd]
      rw [this]
    · simp [L1_spec_Decimal]
  | succ k ih =>
    intro n out hn h1 h2 hs
    by_cases h0 : n = 0
    · subst h0
      rw [loopF_inr (r := (neg, out, ()))]
      · have : dd (Int.natAbs 0) ++ out = out := by
          apply ByteArray.ext; simp [dd]
        rw [this]
      · simp [L1_spec_Decimal]
    · have hm : n.natAbs % 10 < 10 := Nat.mod_lt _ (by omega)
      have hq : (Int.tdiv n 10).natAbs = n.natAbs / 10 := by rw [Int.natAbs_tdiv]; rfl
      have hqb : -9223372036854775808 ≤ Int.tdiv n 10 ∧ Int.tdiv n 10 ≤ 9223372036854775807 := by
        have : (Int.tdiv n 10).natAbs ≤ 922337203685477580 := by rw [hq]; omega
        omega
      have hw : IntKind.wrap .i64 (Int.tdiv n 10) = Int.tdiv n 10 := wrap64 hqb.1 (by omega)
      rw [loopF_inl (b' := (Int.tdiv n 10, neg, bts [((48 + n.natAbs % 10 : Nat) : Int)] ++ out, ())), ih _ _ (by rw [hq]; rw [Nat.pow_succ] at hn; omega) hqb.1 hqb.2 (by rw [ByteArray.size_append, bts_one]; omega), hq, dd_step (u := n.natAbs) (by omega), ByteArray.append_assoc]
      have hmod : (if Int.tmod n 10 < 0 then - Int.tmod n 10 else Int.tmod n 10) = ((n.natAbs % 10 : Nat) : Int) := by
        have h3 : (Int.tmod n 10).natAbs = n.natAbs % 10 := by rw [Int.natAbs_tmod]; rfl
        split <;> omega
      have hle : ∀ {α : Type} {K : Option α}, (Cnd.le ((bts [((48 + n.natAbs % 10 : Nat) : Int)]).size + out.size) maxI).run K = K := fun {α} {K} => le_run (by rw [bts_one]; simp only [maxI]; omega)
      by_cases hneg : Int.tmod n 10 < 0
      · rw [if_pos hneg] at hmod
        have hw2 : IntKind.wrap .i64 (0 - Int.tmod n 10) = ((n.natAbs % 10 : Nat) : Int) := by
          rw [show (0 : Int) - Int.tmod n 10 = ((n.natAbs % 10 : Nat) : Int) by omega]
          exact wrapNat (by omega)
        simp only [L1_spec_Decimal, ne_eq, h0, not_false_eq_true, decide_true, cond_true, nz10, hneg, hw2, joinP_some, figure_digit hm, Option.bind_some, hle, hw, Option.map_some]
      · rw [if_neg hneg] at hmod
        simp only [L1_spec_Decimal, ne_eq, h0, not_false_eq_true, decide_true, cond_true, nz10, hmod, show ¬ (((n.natAbs % 10 : Nat) : Int) < 0) by omega, decide_false, cond_false, joinP_some, figure_digit hm, Option.bind_some, hle, hw, Option.map_some]
def itb (n : Int) : ByteArray := ⟨(Lib.itoa n).toArray⟩
theorem itb_size {n : Int} (h0 : -9223372036854775808 ≤ n) (h1 : n ≤ 9223372036854775807) : (itb n).size ≤ 21 := by
  have := Lib.itoa_length_le n h0 h1
  simpa [itb, ByteArray.size] using this
theorem spec_Decimal_ok (n : Int) (h0 : -9223372036854775808 ≤ n) (h1 : n ≤ 9223372036854775807) : spec_Decimal n = some (itb n, ()) := by
  simp only [spec_Decimal, itb]
  by_cases hz : n = 0
  · subst hz
    simp only [decide_true, cond_true]
    have : Lib.itoa 0 = [48] := by
      unfold Lib.itoa; rw [if_neg (by omega)]; exact Lib.decDigits_one (by omega)
    rw [this]; rfl
  · have h3 := dec_loop (decide (n < 0)) 20 n ⟨#[]⟩ (by
      have : (10 : Nat) ^ 20 = 100000000000000000000 := by decide
      omega) h0 h1 (by decide)
    have h4 : dd n.natAbs ++ ⟨#[]⟩ = (⟨(Lib.decDigits n.natAbs).toArray⟩ : ByteArray) := by
      unfold dd
      rw [if_neg (by omega)]
      apply ByteArray.ext; simp
    rw [h4] at h3
    have hsz : (⟨(Lib.decDigits n.natAbs).toArray⟩ : ByteArray).size ≤ 21 := by
      have := Lib.itoa_length_le n h0 h1
      unfold Lib.itoa at this
      simp only [ByteArray.size, List.size_toArray]
      split at this
      · simp at this; omega
      · rename_i hn
        rw [show n.natAbs = n.toNat by omega]; omega
    simp only [hz, decide_false, cond_false, Option.bind_some, h3, joinP_some, Lib.itoa]
    by_cases hn : n < 0
    · have e1 : s___3973.size = 1 := rfl
      simp only [hn, decide_true, cond_true, if_true]
      rw [le_run (by simp only [maxI]; omega)]
      have e2 : s___3973 = ⟨[(45 : UInt8)].toArray⟩ := rfl
      rw [e2, ba_append]; rfl
    · simp only [hn, decide_false, cond_false, if_false]
      rw [show n.natAbs = n.toNat by omega]
theorem impl_Decimal_ok (n : Int) (h0 : -9223372036854775808 ≤ n) (h1 : n ≤ 9223372036854775807) : impl_Decimal n = some (itb n, ()) := by
  simp only [impl_Decimal, lib_Itoa, if_pos (And.intro h0 h1), Option.bind_some, itb]
end Go.Proofs.YtgkgfpbdodafaaaGreatDoorE

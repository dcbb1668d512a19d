/- Values that are known ahead, and blocks that are the same: the program's reckoning and the reference's. No condition beyond each lemma's own. -/
import Derived.Test.YtgkgfpbdodafaaaGreatDoorLawNames
import Derived.Test.YtgkgfpbdodafaaaGreatDoorLawSame
import Derived.Test.YtgkgfpbdodafaaaGreatDoorLawDec
set_option linter.all false
namespace Go.Proofs.YtgkgfpbdodafaaaGreatDoorE
set_option linter.all false
set_option maxRecDepth 100000
def sbB (c : PROG) (n : Int) : Bool := bif decide (deepAt c.1 n = 0) then false else bif decide ((rd c.1 n zN).1 ≠ 16) then false else sm c.1 c.1 ((rd c.1 n zN).2.2.2.getD 1 0) ((rd c.1 n zN).2.2.2.getD 2 0)
theorem sb_both (c : PROG) (h : FineN c.1) (n : Int) : spec_SameBlocks c n = some (sbB c n, ()) ∧ impl_SameBlocks c n = some (sbB c n, ()) := by
  unfold spec_SameBlocks impl_SameBlocks sbB
  simp only [spec_DeepOf_ok _ h, impl_DeepOf_ok _ h, Option.bind_some]
  by_cases hz : deepAt c.1 n = 0
  · exact ⟨by simp only [hz, decide_true, cond_true, joinP_some], by simp only [hz, decide_true, cond_true, joinP_some]⟩
  have hp := in_ok hz
  obtain ⟨hr, hok, hd⟩ := deepAt_pos hp
  simp only [hz, decide_false, cond_false, idx_range hr, joinP_some]
  by_cases h16 : (rd c.1 n zN).1 = 16
  case neg => exact ⟨by simp only [h16, ne_eq, not_false_eq_true, decide_true, cond_true], by simp only [h16, ne_eq, not_false_eq_true, decide_true, cond_true]⟩
  simp only [h16, ne_eq, not_true_eq_false, decide_false, cond_false]
  have hlen : (rd c.1 n zN).2.2.2.length = 3 := by
    have := nk_len hok
    rw [h16] at this
    have e : kr 16 = (3, 3) := rfl
    rw [e] at this
    simp only at this
    omega
  have k1 := deep_kid hp (i := 1) (by omega)
  have k2 := deep_kid hp (i := 2) (by omega)
  have e1 : rd (rd c.1 n zN).2.2.2 (1 : Int) (0 : Int) = (rd c.1 n zN).2.2.2.getD 1 0 := rfl
  have e2 : rd (rd c.1 n zN).2.2.2 (2 : Int) (0 : Int) = (rd c.1 n zN).2.2.2.getD 2 0 := rfl
  have hS := spec_SameTree_ok c c h h ((rd c.1 n zN).2.2.2.getD 1 0) ((rd c.1 n zN).2.2.2.getD 2 0)
  have hI := impl_same_ok c c h ((rd c.1 n zN).2.2.2.getD 1 0) ((rd c.1 n zN).2.2.2.getD 2 0) k1.1 k2.1
  have eT : sameT c.1 c.1 ((rd c.1 n zN).2.2.2.getD 1 0) ((rd c.1 n zN).2.2.2.getD 2 0) = sm c.1 c.1 ((rd c.1 n zN).2.2.2.getD 1 0) ((rd c.1 n zN).2.2.2.getD 2 0) := by
    unfold sameT
    rw [decide_eq_true k1.1, decide_eq_true k2.1, Bool.true_and, Bool.true_and]
  rw [eT] at hS
  refine ⟨?_, ?_⟩
  · rw [idx_range (show (0 : Int) ≤ 1 ∧ (1 : Int) < ((rd c.1 n zN).2.2.2.length : Int) by omega), idx_range (show (0 : Int) ≤ 2 ∧ (2 : Int) < ((rd c.1 n zN).2.2.2.length : Int) by omega), e1, e2, hS]
    rfl
  · rw [idx_range (show (0 : Int) ≤ 1 ∧ (1 : Int) < ((rd c.1 n zN).2.2.2.length : Int) by omega), idx_range (show (0 : Int) ≤ 2 ∧ (2 : Int) < ((rd c.1 n zN).2.2.2.length : Int) by omega), e1, e2, hI]
    rfl
theorem sb_16 {c : PROG} {n : Int} (h : ¬ (rd c.1 n zN).1 = 16) : sbB c n = false := by
  unfold sbB
  rw [decide_eq_true (p := (rd c.1 n zN).1 ≠ 16) h]
  cases decide (deepAt c.1 n = 0) <;> rfl
def bit (b : Bool) : Int := bif b then 1 else 0
def cop (k a b : Int) : Int × Bool := bif decide (k = 9) then (bif decide (1000000000 < a + b) then (0, false) else (a + b, true)) else bif decide (k = 10) then (bit (decide (a < b)), true) else (bit (decide (a = b)), true)
def cst (l : List NODE) : Nat → Int → Int × Bool
  | 0, _ => (0, false)
  | f + 1, k => bif decide ((rd l k zN).1 = 1) then ((rd l k zN).2.1, true) else bif decide (9 ≤ (rd l k zN).1 ∧ (rd l k zN).1 ≤ 11) then (bif (cst l f ((rd l k zN).2.2.2.getD 0 0)).2 && (cst l f ((rd l k zN).2.2.2.getD 1 0)).2 then cop (rd l k zN).1 (cst l f ((rd l k zN).2.2.2.getD 0 0)).1 (cst l f ((rd l k zN).2.2.2.getD 1 0)).1 else (0, false)) else (0, false)
theorem two_kids {l : List NODE} {k : Int} (h : nodeOk l k = true) (h9 : 9 ≤ (rd l k zN).1 ∧ (rd l k zN).1 ≤ 11) : (rd l k zN).2.2.2.length = 2 := by
  have h1 := nk_len h
  have e : kr (rd l k zN).1 = (2, 2) := by
    have : (rd l k zN).1 = 9 ∨ (rd l k zN).1 = 10 ∨ (rd l k zN).1 = 11 := by omega
    rcases this with h | h | h <;> rw [h] <;> rfl
  rw [e] at h1
  simp only at h1
  omega
theorem cst_fuel (l : List NODE) : ∀ (f g : Nat) (a : Int), (0 : Int) < deepAt l a → a.toNat < f → a.toNat < g → cst l f a = cst l g a
  | 0, _, _, _, h, _ => absurd h (by omega)
  | _ + 1, 0, _, _, _, h => absurd h (by omega)
  | f + 1, g + 1, a, hd, hf, hg => by
    simp only [cst]
    by_cases h9 : 9 ≤ (rd l a zN).1 ∧ (rd l a zN).1 ≤ 11
    · have hl := two_kids (deepAt_pos hd).2.1 h9
      have k1 := deep_kid hd (i := 0) (by omega)
      have k2 := deep_kid hd (i := 1) (by omega)
      rw [cst_fuel l f g _ k1.1 (by omega) (by omega), cst_fuel l f g _ k2.1 (by omega) (by omega)]
    · rw [decide_eq_false h9]; rfl
theorem bit_rng (b : Bool) : 0 ≤ bit b ∧ bit b ≤ 1000000000 := by cases b <;> simp [bit, joinP_some]
theorem cst_rng (l : List NODE) : ∀ (f : Nat) (a : Int), (0 : Int) < deepAt l a → a.toNat < f → 0 ≤ (cst l f a).1 ∧ (cst l f a).1 ≤ 1000000000
  | 0, _, _, h => absurd h (by omega)
  | f + 1, a, hd, hf => by
    simp only [cst]
    have hok := (deepAt_pos hd).2.1
    by_cases h1 : (rd l a zN).1 = 1
    · have := nk_body hok
      simp only [nodeBody, Bool.and_eq_true] at this
      have h2 := this.2.2.1
      rw [decide_eq_true h1, cond_true] at h2
      rw [decide_eq_true h1, cond_true]
      exact of_decide_eq_true h2
    · rw [decide_eq_false h1, cond_false]
      by_cases h9 : 9 ≤ (rd l a zN).1 ∧ (rd l a zN).1 ≤ 11
      · have hl := two_kids hok h9
        have k1 := deep_kid hd (i := 0) (by omega)
        have k2 := deep_kid hd (i := 1) (by omega)
        have r1 := cst_rng l f _ k1.1 (by omega)
        have r2 := cst_rng l f _ k2.1 (by omega)
        rw [decide_eq_true h9, cond_true]
        generalize cst l f ((rd l a zN).2.2.2.getD 0 0) = u at r1 ⊢
        generalize cst l f ((rd l a zN).2.2.2.getD 1 0) = v at r2 ⊢
        cases u.2 && v.2
        · exact ⟨Int.le_refl 0, (by decide : (0 : Int) ≤ 1000000000)⟩
        · simp only [cond_true, cop]
          by_cases g9 : (rd l a zN).1 = 9
          · rw [decide_eq_true g9, cond_true]
            by_cases hb : 1000000000 < u.1 + v.1
            · rw [decide_eq_true hb]; exact ⟨Int.le_refl 0, (by decide : (0 : Int) ≤ 1000000000)⟩
            · rw [decide_eq_false hb, cond_false]; simp only; omega
          · rw [decide_eq_false g9, cond_false]
            cases decide ((rd l a zN).1 = 10)
            · exact bit_rng _
            · exact bit_rng _
      · rw [decide_eq_false h9]; exact ⟨Int.le_refl 0, (by decide : (0 : Int) ≤ 1000000000)⟩
theorem bit_ok (b : Bool) : impl_bit b = some (bit b, ()) := by cases b <;> rfl
theorem const_RI (p : PROG) : ∀ (n : Nat) (a : Int), (0 : Int) < deepAt p.1 a → a.toNat < n → (R_impl_constOf n).1 p a = some ((cst p.1 n a).1, (cst p.1 n a).2, ())
  | 0, _, _, h => absurd h (by omega)
  | n + 1, a, hd, hn => by
    show impl_constOf_S (R_impl_constOf n).1 p a = _
    unfold impl_constOf_S
    obtain ⟨hr, hok, _⟩ := deepAt_pos hd
    rw [idx_range hr, iIn, Option.bind_some]
    simp only [cst]
    by_cases h1 : (rd p.1 a zN).1 = 1
    · rw [decide_eq_true h1]; rfl
    by_cases h9 : 9 ≤ (rd p.1 a zN).1 ∧ (rd p.1 a zN).1 ≤ 11
    case neg => rw [decide_eq_false h1, decide_eq_false h9]; rfl
    have hl := two_kids hok h9
    have k1 := deep_kid hd (i := 0) (by omega)
    have k2 := deep_kid hd (i := 1) (by omega)
    have i1 := const_RI p n _ k1.1 (by omega)
    have i2 := const_RI p n _ k2.1 (by omega)
    have r1 := cst_rng p.1 n _ k1.1 (by omega)
    have r2 := cst_rng p.1 n _ k2.1 (by omega)
    have e1 : rd (rd p.1 a zN).2.2.2 (0 : Int) (0 : Int) = (rd p.1 a zN).2.2.2.getD 0 0 := rfl
    have e2 : rd (rd p.1 a zN).2.2.2 (1 : Int) (0 : Int) = (rd p.1 a zN).2.2.2.getD 1 0 := rfl
    rw [decide_eq_false h1, decide_eq_true h9, cond_false, Bool.not_true, cond_false, idx_range (show (0 : Int) ≤ 0 ∧ (0 : Int) < ((rd p.1 a zN).2.2.2.length : Int) by omega), e1, i1, Option.bind_some, idx_range (show (0 : Int) ≤ 1 ∧ (1 : Int) < ((rd p.1 a zN).2.2.2.length : Int) by omega), e2, i2, Option.bind_some]
    simp only [cond_true, cond_false]
    generalize cst p.1 n ((rd p.1 a zN).2.2.2.getD 0 0) = u at r1 ⊢
    generalize cst p.1 n ((rd p.1 a zN).2.2.2.getD 1 0) = v at r2 ⊢
    obtain ⟨u1, u2⟩ := u
    obtain ⟨v1, v2⟩ := v
    simp only at r1 r2 ⊢
    cases u2
    · rfl
    cases v2
    · rfl
    have hw : IntKind.wrap .i64 (u1 + v1) = u1 + v1 := wrap64 (by omega) (by omega)
    simp only [Bool.not_true, cond_false, joinP_some, Bool.and_self, cond_true, cop, hw, bit_ok, Option.bind_some]
    by_cases g9 : (rd p.1 a zN).1 = 9
    · simp only [g9, decide_true, cond_true]
      cases decide (1000000000 < u1 + v1) <;> rfl
    · simp only [g9, decide_false, cond_false]
      cases decide ((rd p.1 a zN).1 = 10) <;> rfl
theorem const_RS (l : List NODE) : ∀ (n : Nat) (a : Int), (0 : Int) < deepAt l a → a.toNat < n → (R_spec_l26Const n).1 l a = some ((cst l n a).1, (cst l n a).2, ())
  | 0, _, _, h => absurd h (by omega)
  | n + 1, a, hd, hn => by
    show spec_l26Const_S (R_spec_l26Const n).1 l a = _
    unfold spec_l26Const_S
    obtain ⟨hr, hok, _⟩ := deepAt_pos hd
    rw [idx_range hr]
    simp only [cst]
    by_cases h1 : (rd l a zN).1 = 1
    · rw [decide_eq_true h1]; rfl
    by_cases h9 : 9 ≤ (rd l a zN).1 ∧ (rd l a zN).1 ≤ 11
    case neg =>
      rw [decide_eq_false h1, decide_eq_false h9, decide_eq_false (show ¬ (rd l a zN).1 = 9 by omega), decide_eq_false (show ¬ (rd l a zN).1 = 10 by omega), decide_eq_false (show ¬ (rd l a zN).1 = 11 by omega)]
      rfl
    have hl := two_kids hok h9
    have k1 := deep_kid hd (i := 0) (by omega)
    have k2 := deep_kid hd (i := 1) (by omega)
    have i1 := const_RS l n _ k1.1 (by omega)
    have i2 := const_RS l n _ k2.1 (by omega)
    have r1 := cst_rng l n _ k1.1 (by omega)
    have r2 := cst_rng l n _ k2.1 (by omega)
    have e1 : rd (rd l a zN).2.2.2 (0 : Int) (0 : Int) = (rd l a zN).2.2.2.getD 0 0 := rfl
    have e2 : rd (rd l a zN).2.2.2 (1 : Int) (0 : Int) = (rd l a zN).2.2.2.getD 1 0 := rfl
    have q1 : (0 : Int) ≤ 0 ∧ (0 : Int) < ((rd l a zN).2.2.2.length : Int) := by omega
    have q2 : (0 : Int) ≤ 1 ∧ (1 : Int) < ((rd l a zN).2.2.2.length : Int) := by omega
    rw [decide_eq_false h1, decide_eq_true h9]
    simp only [cond_true, cond_false]
    generalize rd l a zN = x at h1 h9 e1 e2 i1 i2 r1 r2 q1 q2 ⊢
    generalize cst l n (x.2.2.2.getD 0 0) = u at r1 i1 ⊢
    generalize cst l n (x.2.2.2.getD 1 0) = v at r2 i2 ⊢
    obtain ⟨u1, u2⟩ := u
    obtain ⟨v1, v2⟩ := v
    simp only at r1 r2 i1 i2 ⊢
    have hw : IntKind.wrap .i64 (u1 + v1) = u1 + v1 := wrap64 (by omega) (by omega)
    have hk : x.1 = 9 ∨ x.1 = 10 ∨ x.1 = 11 := by omega
    have big1 : ¬ ((1000000000 : Int) < 1) := by decide
    have big0 : ¬ ((1000000000 : Int) < 0) := by decide
    rcases hk with h | h | h
    · simp only [h, decide_true, decide_false, cond_true, cond_false, joinP_some, Int.reduceEq, idx_range q1, idx_range q2, e1, e2, i1, i2, Option.bind_some]
      cases u2
      · rfl
      cases v2
      · rfl
      simp only [Bool.not_true, cond_false, joinP_some, hw, cop, decide_true, cond_true, Bool.and_self, h]
      cases decide (1000000000 < u1 + v1) <;> rfl
    · simp only [h, decide_true, decide_false, cond_true, cond_false, joinP_some, Int.reduceEq, idx_range q1, idx_range q2, e1, e2, i1, i2, Option.bind_some]
      cases u2
      · rfl
      cases v2
      · rfl
      simp only [Bool.not_true, cond_false, joinP_some, cop, decide_true, decide_false, cond_true, Bool.and_self, Int.reduceEq, h]
      cases decide (u1 < v1) <;> simp [bit, joinP_some]
    · simp only [h, decide_true, decide_false, cond_true, cond_false, joinP_some, Int.reduceEq, idx_range q1, idx_range q2, e1, e2, i1, i2, Option.bind_some]
      cases u2
      · rfl
      cases v2
      · rfl
      simp only [Bool.not_true, cond_false, joinP_some, cop, decide_true, decide_false, cond_true, Bool.and_self, Int.reduceEq, h]
      cases decide (u1 = v1) <;> simp [bit, joinP_some]
def cnst (l : List NODE) (k : Int) : Int × Bool := cst l (k.toNat + 1) k
theorem spec_Const_ok (l : List NODE) {a : Int} (h : (0 : Int) < deepAt l a) : spec_l26Const l a = some ((cnst l a).1, (cnst l a).2, ()) := by
  refine limF_some.2 ⟨a.toNat + 1, fun n hn => ?_⟩
  rw [cnst, cst_fuel l (a.toNat + 1) n a h (by omega) (by omega)]
  exact const_RS l n a h (by omega)
theorem impl_Const_ok (p : PROG) {a : Int} (h : (0 : Int) < deepAt p.1 a) : impl_constOf p a = some ((cnst p.1 a).1, (cnst p.1 a).2, ()) := by
  refine limF_some.2 ⟨a.toNat + 1, fun n hn => ?_⟩
  rw [cnst, cst_fuel p.1 (a.toNat + 1) n a h (by omega) (by omega)]
  exact const_RI p n a h (by omega)
theorem cnst_rng {l : List NODE} {a : Int} (h : (0 : Int) < deepAt l a) : 0 ≤ (cnst l a).1 ∧ (cnst l a).1 ≤ 1000000000 := cst_rng l _ a h (Nat.lt_succ_self _)
end Go.Proofs.YtgkgfpbdodafaaaGreatDoorE

/- ReadPlan, as the program has it and as the reference has it, gives the same; so the law yields true. No condition beyond the law's own bounds. -/
import Derived.Test.YtmpfjlolcmokbaaLawReadWish
import Derived.Test.YtmpfjlolcmokbaaLawMarks
set_option linter.all false
namespace Go.Proofs.YtmpfjlolcmokbaaE
set_option linter.all false
namespace ReadPlan

abbrev W := Ty.D t_Wish
def Small (l : List W) : Prop := l.length ≤ 50 ∧ ∀ w ∈ l, wt t_Wish w ≤ 100
theorem small_wt {l : List W} (h : Small l) : wt (.list 0 t_Wish) l ≤ big := by
  obtain ⟨h1, h2⟩ := h
  have key : ∀ l : List W, (∀ w ∈ l, wt t_Wish w ≤ 100) → (l.map (wt t_Wish)).sum ≤ 100 * l.length := by
    intro l
    induction l with
    | nil => intro _; simp
    | cons w l ih =>
      intro h
      have := ih (fun x hx => h x (by simp [hx]))
      have h3 := h w (by simp)
      simp only [List.map_cons, List.sum_cons, List.length_cons]
      omega
  have h3 := key l h2
  have hb : big = 1048576 := rfl
  have hw : wt (.list 0 t_Wish) l = l.length + (l.map (wt t_Wish)).sum := rfl
  omega
/-- Both read a plan alike. -/
theorem ok (s : ByteArray) (hs : s.size < 4611686018427387904) : ∃ (l : List W) (b : Bool), spec_ReadPlan s = some (l, b, ()) ∧ impl_ReadPlan s = some (l, b, ()) ∧ Small l := by
  obtain ⟨r, h1, h2, h3⟩ := loopF_two (f := L1_spec_ReadPlan) (g := L1_impl_ReadPlan) (fun b => b.1 = s ∧ Small b.2.1 ∧ ∃ i : Nat, b.2.2.1 = (i : Int)) (fun b => s.size - b.2.2.1.toNat) (fun r => match r with | .inl x => Small x.1 | .inr x => Small x.1) (fun b hb => by
    obtain ⟨s', l, p, u⟩ := b
    obtain ⟨rfl, ⟨hl1, hl2⟩, i, hi⟩ := hb
    simp only at hi hl1 hl2
    subst hi
    by_cases hin : i < s'.size
    · have hin' : (i : Int) < (s'.size : Int) := by omega
      obtain ⟨r, h1, h2, h3⟩ := ReadWish.ok s' i hs
      have hnil : Small ([] : List W) := ⟨by simp, fun w hw => by cases hw⟩
      rcases h3 with rfl | ⟨w, j, rfl, h4, h5, h6, h7⟩
      · left
        refine ⟨.inr ([], false, ()), ?_, ?_, hnil⟩
        · simp only [L1_spec_ReadPlan, hin', decide_true, cond_true, h1, ReadWish.fail, Option.bind_some, Bool.not_false, joinP_some, Option.map_some]
        · simp only [L1_impl_ReadPlan, hin', decide_true, cond_true, h2, ReadWish.fail, Option.bind_some, Bool.not_false, joinP_some, Option.map_some]
      · by_cases h50 : 50 ≤ List.length l
        · left
          have h50' : (50 : Int) ≤ (List.length l : Int) := by omega
          refine ⟨.inr ([], false, ()), ?_, ?_, hnil⟩
          · simp only [L1_spec_ReadPlan, hin', decide_true, cond_true, h1, Option.bind_some, Bool.not_true, cond_false, h50', joinP_some, Option.map_some]
          · simp only [L1_impl_ReadPlan, hin', decide_true, cond_true, h2, Option.bind_some, Bool.not_true, cond_false, h50', joinP_some, Option.map_some]
        · right
          have h50' : ¬ (50 : Int) ≤ (List.length l : Int) := by omega
          have hle : (List.length l + List.length [w]) * 72 ≤ 140737488355328 := by simp; omega
          refine ⟨(s', l ++ [w], (j : Int), ()), ?_, ?_, ⟨rfl, ⟨by simp; omega, fun x hx => ?_⟩, j, rfl⟩, ?_⟩
          · simp only [L1_spec_ReadPlan, hin', decide_true, cond_true, h1, Option.bind_some, Bool.not_true, cond_false, h50', decide_false, joinP_some, le_run hle, Option.map_some]
          · simp only [L1_impl_ReadPlan, hin', decide_true, cond_true, h2, Option.bind_some, Bool.not_true, cond_false, h50', decide_false, joinP_some, le_run hle, Option.map_some]
          · rcases List.mem_append.1 hx with hx | hx
            · exact hl2 x hx
            · simp at hx; subst hx; exact h4
          · show s'.size - ((j : Nat) : Int).toNat < s'.size - ((i : Nat) : Int).toNat
            omega
    · left
      have hin' : ¬ (i : Int) < (s'.size : Int) := by omega
      refine ⟨.inl (l, ()), ?_, ?_, ⟨hl1, hl2⟩⟩
      · simp only [L1_spec_ReadPlan, hin', decide_false, cond_false, Option.map_some]
      · simp only [L1_impl_ReadPlan, hin', decide_false, cond_false, Option.map_some]) (s, [], (0 : Int), ()) ⟨rfl, ⟨by simp, fun w hw => by cases hw⟩, 0, rfl⟩
  cases r with
  | inl x => exact ⟨x.1, true, by simp only [spec_ReadPlan, Option.bind_some, h1, joinS_inl], by simp only [impl_ReadPlan, Option.bind_some, h2, joinS_inl], h3⟩
  | inr x => exact ⟨x.1, x.2.1, by simp only [spec_ReadPlan, Option.bind_some, h1, joinS_inr], by simp only [impl_ReadPlan, Option.bind_some, h2, joinS_inr], h3⟩

noncomputable def mk (k : Nat) : W := ((k : Int), (((k + 1 : Nat) : Int), (((k + 2 : Nat) : Int), (((k + 3 : Nat) : Int), (((k + 4 : Nat) : Int), (mtx ((k + 5 : Nat) : Int), mtx ((k + 6 : Nat) : Int)))))))
theorem mark_step {k i : Nat} {l : List W} (hk : k < 4611686018427387904) (hi : i < l.length) (hl : l.length ≤ 1048576) : L1_laws_markWishS ((k : Int), (i : Int), l, ()) = some (.inl (((k + 7 : Nat) : Int), ((i + 1 : Nat) : Int), l.set i (mk k), ())) := by
  have hi' : (i : Int) < (List.length l : Int) := by omega
  have w1 := wrapSucc (show k < 9223372036854775807 by omega)
  have w2 := wrapSucc (show k + 1 < 9223372036854775807 by omega)
  have w3 := wrapSucc (show k + 2 < 9223372036854775807 by omega)
  have w4 := wrapSucc (show k + 3 < 9223372036854775807 by omega)
  have w5 := wrapSucc (show k + 4 < 9223372036854775807 by omega)
  have w6 := wrapSucc (show k + 5 < 9223372036854775807 by omega)
  have w7 := wrapSucc (show k + 6 < 9223372036854775807 by omega)
  have wi := wrapSucc (show i < 9223372036854775807 by omega)
  have hidx : ∀ {α : Type} {K : Option α}, (Cnd.idx (i : Int) (List.length l)).run K = K := fun {α} {K} => idx_run hi
  have hset : ∀ (l' : List W) (x z : W), i < l'.length → rd (List.set l' i x) (i : Int) z = x := fun l' x z h => by
    rw [rd_nat (by rw [List.length_set]; exact h), List.getElem_set_self]
  simp only [L1_laws_markWishS, hi', decide_true, cond_true, hidx, bindD, List.length_set, Int.toNat_natCast, w1, w2, w3, w4, w5, w6, w7, wi, hset, hi, List.set_set, markText_ok _ (show ((k + 5 : Nat) : Int) < 9223372036854775808 by omega), markText_ok _ (show ((k + 6 : Nat) : Int) < 9223372036854775808 by omega), Option.bind_some, Option.map_some]
  rfl
/-- What is marked, and the last number. -/
theorem mark_ok (l : List W) (hl : l.length ≤ 1048576) : ∃ l', laws_markWishS l (1 : Int) = some (((1 + 7 * l.length : Nat) : Int), l', ()) ∧ l'.length = l.length ∧ ∀ i (h : i < l'.length), l'[i] = mk (1 + 7 * i) := by
  have key : ∀ m i (l' : List W), i + m = l.length → l'.length = l.length → (∀ j (h : j < l'.length), j < i → l'[j] = mk (1 + 7 * j)) → ∃ l2, loopF L1_laws_markWishS (((1 + 7 * i : Nat) : Int), (i : Int), l', ()) = some (((1 + 7 * l.length : Nat) : Int), l2, ()) ∧ l2.length = l.length ∧ ∀ j (h : j < l2.length), l2[j] = mk (1 + 7 * j) := by
    intro m
    induction m with
    | zero =>
      intro i l' hi hl' hm
      obtain rfl : i = l.length := by omega
      refine ⟨l', loopF_inr ?_, hl', fun j h => hm j h (by omega)⟩
      simp only [L1_laws_markWishS, hl', show ¬ ((l.length : Int) < (l.length : Int)) by omega, decide_false, cond_false, Option.map_some]
    | succ m ih =>
      intro i l' hi hl' hm
      rw [loopF_inl (mark_step (by omega) (by omega) (by omega)), show 1 + 7 * i + 7 = 1 + 7 * (i + 1) by omega]
      refine ih (i + 1) _ (by omega) (by rw [List.length_set]; exact hl') (fun j h hj => ?_)
      by_cases e : i = j
      · subst e; rw [List.getElem_set_self]
      · rw [List.getElem_set_ne e]
        exact hm j (by rw [List.length_set] at h; exact h) (by omega)
  obtain ⟨l2, h1, h2, h3⟩ := key l.length 0 l (by omega) rfl (fun j h hj => by omega)
  refine ⟨l2, ?_, h2, h3⟩
  have e : loopF L1_laws_markWishS ((1 : Int), (0 : Int), l, ()) = _ := h1
  simp only [laws_markWishS, Option.bind_some, e, joinP_some]
theorem held_ok (l : List W) (hl : l.length ≤ 1048576) (hm : ∀ i (h : i < l.length), l[i] = mk (1 + 7 * i)) : laws_heldWishS l (1 : Int) = some (((1 + 7 * l.length : Nat) : Int), ()) := by
  have := loopF_up (step := L1_laws_heldWishS) (fun i => (l, ((1 + 7 * i : Nat) : Int), (i : Int), ())) l.length (.inl (((1 + 7 * l.length : Nat) : Int), ())) (fun i hi => by
    have hi' : (i : Int) < (List.length l : Int) := by omega
    have w1 := wrapSucc (show 1 + 7 * i < 9223372036854775807 by omega)
    have w2 := wrapSucc (show 1 + 7 * i + 1 < 9223372036854775807 by omega)
    have w3 := wrapSucc (show 1 + 7 * i + 2 < 9223372036854775807 by omega)
    have w4 := wrapSucc (show 1 + 7 * i + 3 < 9223372036854775807 by omega)
    have w5 := wrapSucc (show 1 + 7 * i + 4 < 9223372036854775807 by omega)
    have w6 := wrapSucc (show 1 + 7 * i + 5 < 9223372036854775807 by omega)
    have w7 := wrapSucc (show 1 + 7 * i + 6 < 9223372036854775807 by omega)
    have wi := wrapSucc (show i < 9223372036854775807 by omega)
    have hidx : ∀ {α : Type} {K : Option α}, (Cnd.idx (i : Int) (List.length l)).run K = K := fun {α} {K} => idx_run hi
    have hrd : ∀ z : W, rd l (i : Int) z = mk (1 + 7 * i) := fun z => by rw [rd_nat hi, hm i hi]
    simp only [L1_laws_heldWishS, hi', decide_true, cond_true, hidx, hrd, mk, w1, w2, w3, w4, w5, w6, w7, wi, ne_eq, not_true_eq_false, decide_false, cond_false, markText_ok _ (show ((1 + 7 * i + 5 : Nat) : Int) < 9223372036854775808 by omega), markText_ok _ (show ((1 + 7 * i + 6 : Nat) : Int) < 9223372036854775808 by omega), Option.bind_some, Option.map_some]
    rw [show 1 + 7 * i + 6 + 1 = 1 + 7 * (i + 1) by omega]) (by
    simp only [L1_laws_heldWishS, show ¬ ((l.length : Int) < (l.length : Int)) by omega, decide_false, cond_false, Option.map_some])
  have e : loopF L1_laws_heldWishS (l, (1 : Int), (0 : Int), ()) = _ := this
  simp only [laws_heldWishS, Option.bind_some, e, joinS_inl]
theorem pure (s : ByteArray) (hb : Bnd .str s) : laws_FnExactReadPlan s = some (true, ()) := by
  simp only [laws_FnExactReadPlan]
  by_cases hbig : (1048576 : Int) < (s.size : Int)
  · simp only [hbig, decide_true, cond_true]
  · obtain ⟨l, b, h1, h2, h3⟩ := ok s (by omega)
    have hw := small_wt h3
    have heq : laws_eqWishS l l = some (true, ()) := by
      rw [ok_laws_eqWishS _ _ hw]; simp
    obtain ⟨l', m1, m2, m3⟩ := mark_ok l (by have := h3.1; omega)
    have hh := held_ok l' (by have := h3.1; omega) m3
    rw [m2] at hh
    have hneg : ¬ (((1 + 7 * l.length : Nat) : Int) < 0) := by omega
    simp only [hbig, decide_false, cond_false, h1, h2, Option.bind_some, heq, Bool.not_true, beq_self_eq_true, joinP_some, m1, hh, hneg, ne_eq, not_true_eq_false]
end ReadPlan
end Go.Proofs.YtmpfjlolcmokbaaE

/- ReadWish, as the program has it and as the reference has it, gives the same; so the law yields true. No condition beyond the law's own bounds. -/
import Derived.Test.YtmpfjlolcmokbaaLawRead
import Derived.Test.YtmpfjlolcmokbaaLawWishText
set_option linter.all false
namespace Go.Proofs.YtmpfjlolcmokbaaE
set_option linter.all false
namespace ReadWish

abbrev W := Ty.D t_Wish
def z0 : W := ((0 : Int), ((0 : Int), ((0 : Int), ((0 : Int), ((0 : Int), ((⟨#[]⟩ : ByteArray), (⟨#[]⟩ : ByteArray)))))))
def fail : W × Int × Bool × Unit := (z0, (0 : Int), false, ())
abbrev Fs := ByteArray × (Int × Bool)
noncomputable def finI (n1 n2 n3 n4 n5 : Int) (t1 t2 : ByteArray) (st : Fs) : Option (W × Int × Bool × Unit) :=
  joinP (bif st.2.2 then some (true, z0, (n1, (n2, (n3, (n4, (n5, (t1, t2)))))), st, ()) else (impl_WishText (n1, (n2, (n3, (n4, (n5, (t1, t2))))))).bind fun y9 => some (decide (y9.1 = (⟨#[]⟩ : ByteArray)), z0, (n1, (n2, (n3, (n4, (n5, (t1, t2)))))), st, ())) fun x10 => bif x10.1 then some fail else some (x10.2.2.1, x10.2.2.2.1.2.1, true, ())
noncomputable def cS2 (n1 n2 n3 n4 n5 : Int) (t1 : ByteArray) (st : Fs) := (impl_fields_short st).bind fun y => finI n1 n2 n3 n4 n5 t1 y.1 y.2.1
noncomputable def cS1 (n1 n2 n3 n4 n5 : Int) (st : Fs) := (impl_fields_short st).bind fun y => cS2 n1 n2 n3 n4 n5 y.1 y.2.1
noncomputable def c5 (n1 n2 n3 n4 : Int) (st : Fs) := (impl_fields_num st).bind fun y => cS1 n1 n2 n3 n4 y.1 y.2.1
noncomputable def c4 (n1 n2 n3 : Int) (st : Fs) := (impl_fields_num st).bind fun y => c5 n1 n2 n3 y.1 y.2.1
noncomputable def c3 (n1 n2 : Int) (st : Fs) := (impl_fields_num st).bind fun y => c4 n1 n2 y.1 y.2.1
noncomputable def c2 (n1 : Int) (st : Fs) := (impl_fields_num st).bind fun y => c3 n1 y.1 y.2.1
noncomputable def c1 (st : Fs) := (impl_fields_num st).bind fun y => c2 y.1 y.2.1
theorem impl_eq (s : ByteArray) (a : Int) : impl_ReadWish s a = (impl_in a (0 : Int) (s.size : Int)).bind fun y1 => bif !y1.1 then some fail else c1 (s, (a, false)) := rfl

section
variable {s : ByteArray} (hs : s.size < 4611686018427387904)
include hs
theorem num_bad (p : Int) (b : Bool) (h : b = true) : ∃ n p', impl_fields_num (s, (p, b)) = some (n, (s, (p', true)), ()) := by
  subst h
  obtain ⟨r, _, h2, h3⟩ := readVar_ok s p hs
  rcases h3 with rfl | ⟨n, i, rfl, _⟩
  · exact ⟨0, p, by simp only [impl_fields_num, h2, Option.bind_some]; rfl⟩
  · exact ⟨n, i, by simp only [impl_fields_num, h2, Option.bind_some]; rfl⟩
theorem short_bad (p : Int) : ∃ t p', impl_fields_short (s, (p, true)) = some (t, (s, (p', true)), ()) := by
  obtain ⟨r, _, h2, h3⟩ := readShort_ok s p hs
  rcases h3 with rfl | ⟨n, i, rfl, _⟩
  · exact ⟨⟨#[]⟩, p, by simp only [impl_fields_short, h2, Option.bind_some]; rfl⟩
  · exact ⟨n, i, by simp only [impl_fields_short, h2, Option.bind_some]; rfl⟩
theorem num_ok {p : Int} {n i : Nat} (h : impl_ReadVar s p = some ((n : Int), (i : Int), true, ())) (b : Bool) : impl_fields_num (s, (p, b)) = some ((n : Int), (s, ((i : Int), b)), ()) := by
  simp only [impl_fields_num, h, Option.bind_some]; rfl
theorem num_no {p : Int} (h : impl_ReadVar s p = some (0, 0, false, ())) (b : Bool) : impl_fields_num (s, (p, b)) = some (0, (s, (p, true)), ()) := by
  simp only [impl_fields_num, h, Option.bind_some]; rfl
theorem short_ok {p : Int} {t : ByteArray} {i : Nat} (h : impl_ReadShort s p = some (t, (i : Int), true, ())) (b : Bool) : impl_fields_short (s, (p, b)) = some (t, (s, ((i : Int), b)), ()) := by
  simp only [impl_fields_short, h, Option.bind_some]; rfl
theorem short_no {p : Int} (h : impl_ReadShort s p = some (⟨#[]⟩, 0, false, ())) (b : Bool) : impl_fields_short (s, (p, b)) = some (⟨#[]⟩, (s, (p, true)), ()) := by
  simp only [impl_fields_short, h, Option.bind_some]; rfl
omit hs in
theorem fin_bad {n1 n2 n3 n4 n5 : Int} {t1 t2 : ByteArray} {p : Int} : finI n1 n2 n3 n4 n5 t1 t2 (s, (p, true)) = some fail := by
  simp only [finI, cond_true, joinP_some]
theorem cS2_bad {n1 n2 n3 n4 n5 : Int} {t1 : ByteArray} (p : Int) : cS2 n1 n2 n3 n4 n5 t1 (s, (p, true)) = some fail := by
  obtain ⟨t, p', h⟩ := short_bad hs p
  simp only [cS2, h, Option.bind_some, fin_bad]
theorem cS1_bad {n1 n2 n3 n4 n5 : Int} (p : Int) : cS1 n1 n2 n3 n4 n5 (s, (p, true)) = some fail := by
  obtain ⟨t, p', h⟩ := short_bad hs p
  simp only [cS1, h, Option.bind_some, cS2_bad hs]
theorem c5_bad {n1 n2 n3 n4 : Int} (p : Int) : c5 n1 n2 n3 n4 (s, (p, true)) = some fail := by
  obtain ⟨t, p', h⟩ := num_bad hs p true rfl
  simp only [c5, h, Option.bind_some, cS1_bad hs]
theorem c4_bad {n1 n2 n3 : Int} (p : Int) : c4 n1 n2 n3 (s, (p, true)) = some fail := by
  obtain ⟨t, p', h⟩ := num_bad hs p true rfl
  simp only [c4, h, Option.bind_some, c5_bad hs]
theorem c3_bad {n1 n2 : Int} (p : Int) : c3 n1 n2 (s, (p, true)) = some fail := by
  obtain ⟨t, p', h⟩ := num_bad hs p true rfl
  simp only [c3, h, Option.bind_some, c4_bad hs]
theorem c2_bad {n1 : Int} (p : Int) : c2 n1 (s, (p, true)) = some fail := by
  obtain ⟨t, p', h⟩ := num_bad hs p true rfl
  simp only [c2, h, Option.bind_some, c3_bad hs]
end
theorem spec_step {s : ByteArray} {a : Int} {l : List Int} {p : Int} {k : Nat} (hk : k < 5) (hl : l.length ≤ 5) {n i : Nat} (h : spec_ReadVar s p = some ((n : Int), (i : Int), true, ())) (w : W) : loopF L1_spec_ReadWish (s, a, l, p, (k : Int), w, ()) = loopF L1_spec_ReadWish (s, a, l ++ [(n : Int)], (i : Int), ((k + 1 : Nat) : Int), w, ()) := by
  refine loopF_inl ?_
  simp only [L1_spec_ReadWish, show ((k : Int) < 5) by omega, decide_true, cond_true, h, Option.bind_some, Bool.not_true, cond_false, wrapSucc (show k < 9223372036854775807 by omega)]
  rw [le_run (by simp; omega)]; rfl
theorem spec_bad {s : ByteArray} {a : Int} {l : List Int} {p : Int} {k : Nat} (hk : k < 5) (h : spec_ReadVar s p = some (0, 0, false, ())) (w : W) : loopF L1_spec_ReadWish (s, a, l, p, (k : Int), w, ()) = some (.inr fail) := by
  refine loopF_inr ?_
  simp only [L1_spec_ReadWish, show ((k : Int) < 5) by omega, decide_true, cond_true, h, Option.bind_some, Bool.not_false]
  rfl
theorem spec_end {s : ByteArray} {a : Int} {l : List Int} {p : Int} (w : W) : loopF L1_spec_ReadWish (s, a, l, p, ((5 : Nat) : Int), w, ()) = some (.inl (s, a, l, p, w, ())) := loopF_inr (by
  simp only [L1_spec_ReadWish, show ¬ (((5 : Nat) : Int) < 5) by omega, decide_false, cond_false, Option.map_some])
/-- Both read a wish alike. -/
theorem ok (s : ByteArray) (a : Int) (hs : s.size < 4611686018427387904) : ∃ r, spec_ReadWish s a = some r ∧ impl_ReadWish s a = some r ∧ (r = fail ∨ ∃ (w : W) (i : Nat), r = (w, (i : Int), true, ()) ∧ wt t_Wish w ≤ 100 ∧ a < (i : Int) ∧ 0 ≤ a ∧ i ≤ s.size) := by
  by_cases hin : 0 ≤ a ∧ a ≤ (s.size : Int)
  rotate_left
  · refine ⟨fail, ?_, ?_, .inl rfl⟩
    · have hb : spec_ReadVar s a = some (0, 0, false, ()) := by
        obtain ⟨r, h1, h2, h3⟩ := readVar_ok s a hs
        rcases h3 with rfl | ⟨n, i, rfl, g1, g2, g3, g4, g5⟩
        · exact h1
        · exact absurd ⟨g3, by omega⟩ hin
      have := spec_bad (s := s) (a := a) (l := []) (k := 0) (by omega) hb z0
      simp only [Int.natCast_zero] at this
      simp only [spec_ReadWish, Option.bind_some]
      exact congrArg (fun x => joinS x _) this
    · rw [impl_eq]
      simp only [impl_in_ok, Option.bind_some, decide_eq_false hin, Bool.not_false, cond_true]
  have himpl : impl_ReadWish s a = c1 (s, (a, false)) := by
    rw [impl_eq]
    simp only [impl_in_ok, Option.bind_some, decide_eq_true hin, Bool.not_true, cond_false]
  rw [himpl]
  have hspec : ∀ {r : W × Int × Bool × Unit}, loopF L1_spec_ReadWish (s, a, [], a, ((0 : Nat) : Int), z0, ()) = some (.inr r) → spec_ReadWish s a = some r := by
    intro r h
    simp only [Int.natCast_zero] at h
    simp only [spec_ReadWish, Option.bind_some]
    exact congrArg (fun x => joinS x _) h
  obtain ⟨r1, a1, b1, d1⟩ := readVar_ok s a hs
  rcases d1 with rfl | ⟨n1, i1, rfl, e1, f1, g1, o1, s1⟩
  · exact ⟨fail, hspec (spec_bad (by omega) a1 _), by simp only [c1, num_no hs b1, Option.bind_some, c2_bad hs], .inl rfl⟩
  have hl1 := spec_step (a := a) (l := []) (k := 0) (by omega) (by simp) a1 z0
  obtain ⟨r2, a2, b2, d2⟩ := readVar_ok s i1 hs
  rcases d2 with rfl | ⟨n2, i2, rfl, e2, f2, g2, o2, s2⟩
  · exact ⟨fail, hspec (by rw [hl1]; exact spec_bad (by omega) a2 _), by simp only [c1, num_ok hs b1, c2, num_no hs b2, Option.bind_some, c3_bad hs], .inl rfl⟩
  have hl2 := spec_step (a := a) (l := [(n1 : Int)]) (k := 1) (by omega) (by simp) a2 z0
  obtain ⟨r3, a3, b3, d3⟩ := readVar_ok s i2 hs
  rcases d3 with rfl | ⟨n3, i3, rfl, e3, f3, g3, o3, s3⟩
  · exact ⟨fail, hspec (by rw [hl1]; simp only [List.nil_append]; rw [hl2]; exact spec_bad (by omega) a3 _), by simp only [c1, num_ok hs b1, c2, num_ok hs b2, c3, num_no hs b3, Option.bind_some, c4_bad hs], .inl rfl⟩
  have hl3 := spec_step (a := a) (l := [(n1 : Int), (n2 : Int)]) (k := 2) (by omega) (by simp) a3 z0
  obtain ⟨r4, a4, b4, d4⟩ := readVar_ok s i3 hs
  rcases d4 with rfl | ⟨n4, i4, rfl, e4, f4, g4, o4, s4⟩
  · exact ⟨fail, hspec (by rw [hl1]; simp only [List.nil_append]; rw [hl2]; simp only [List.cons_append, List.nil_append]; rw [hl3]; exact spec_bad (by omega) a4 _), by simp only [c1, num_ok hs b1, c2, num_ok hs b2, c3, num_ok hs b3, c4, num_no hs b4, Option.bind_some, c5_bad hs], .inl rfl⟩
  have hl4 := spec_step (a := a) (l := [(n1 : Int), (n2 : Int), (n3 : Int)]) (k := 3) (by omega) (by simp) a4 z0
  obtain ⟨r5, a5, b5, d5⟩ := readVar_ok s i4 hs
  rcases d5 with rfl | ⟨n5, i5, rfl, e5, f5, g5, o5, s5⟩
  · exact ⟨fail, hspec (by rw [hl1]; simp only [List.nil_append]; rw [hl2]; simp only [List.cons_append, List.nil_append]; rw [hl3]; simp only [List.cons_append, List.nil_append]; rw [hl4]; exact spec_bad (by omega) a5 _), by simp only [c1, num_ok hs b1, c2, num_ok hs b2, c3, num_ok hs b3, c4, num_ok hs b4, c5, num_no hs b5, Option.bind_some, cS1_bad hs], .inl rfl⟩
  have hl5 := spec_step (a := a) (l := [(n1 : Int), (n2 : Int), (n3 : Int), (n4 : Int)]) (k := 4) (by omega) (by simp) a5 z0
  have hloop : loopF L1_spec_ReadWish (s, a, [], a, (0 : Int), z0, ()) = some (.inl (s, a, [(n1 : Int), (n2 : Int), (n3 : Int), (n4 : Int), (n5 : Int)], (i5 : Int), z0, ())) := by
    have h0 : ((0 : Nat) : Int) = (0 : Int) := rfl
    rw [← h0, hl1]; simp only [List.nil_append]; rw [hl2]; simp only [List.cons_append, List.nil_append]; rw [hl3]; simp only [List.cons_append, List.nil_append]; rw [hl4]; simp only [List.cons_append, List.nil_append]; rw [hl5]; exact spec_end z0
  have himp5 : c1 (s, (a, false)) = cS1 n1 n2 n3 n4 n5 (s, ((i5 : Int), false)) := by simp only [c1, num_ok hs b1, c2, num_ok hs b2, c3, num_ok hs b3, c4, num_ok hs b4, c5, num_ok hs b5, Option.bind_some]
  rw [himp5]
  unfold z0 at hloop
  simp only [spec_ReadWish, Option.bind_some]
  rw [hloop, joinS_inl]
  obtain ⟨r6, a6, b6, d6⟩ := readShort_ok s i5 hs
  simp only [a6, Option.bind_some]
  rcases d6 with rfl | ⟨t1, i6, rfl, e6, f6, g6, o6, s6⟩
  · exact ⟨fail, rfl, by simp only [cS1, short_no hs b6, Option.bind_some, cS2_bad hs], .inl rfl⟩
  obtain ⟨r7, a7, b7, d7⟩ := readShort_ok s i6 hs
  have h5 : ∀ k : Nat, k < 5 → ∀ {K : Option (W × Int × Bool × Unit)}, (Cnd.idx (k : Int) ([(n1 : Int), (n2 : Int), (n3 : Int), (n4 : Int), (n5 : Int)] : List Int).length).run K = K := fun k hk K => idx_run (by simpa using hk)
  have q0 := @h5 0 (by omega)
  have q1 := @h5 1 (by omega)
  have q2 := @h5 2 (by omega)
  have q3 := @h5 3 (by omega)
  have q4 := @h5 4 (by omega)
  simp only [Int.natCast_zero, Int.natCast_one, Int.cast_ofNat_Int] at q0 q1 q2 q3 q4
  have hrd : rd [(n1 : Int), (n2 : Int), (n3 : Int), (n4 : Int), (n5 : Int)] (0 : Int) (0 : Int) = n1 ∧ rd [(n1 : Int), (n2 : Int), (n3 : Int), (n4 : Int), (n5 : Int)] (1 : Int) (0 : Int) = n2 ∧ rd [(n1 : Int), (n2 : Int), (n3 : Int), (n4 : Int), (n5 : Int)] (2 : Int) (0 : Int) = n3 ∧ rd [(n1 : Int), (n2 : Int), (n3 : Int), (n4 : Int), (n5 : Int)] (3 : Int) (0 : Int) = n4 ∧ rd [(n1 : Int), (n2 : Int), (n3 : Int), (n4 : Int), (n5 : Int)] (4 : Int) (0 : Int) = n5 := ⟨rfl, rfl, rfl, rfl, rfl⟩
  simp only [a7, Option.bind_some, Bool.not_true, cond_false, q0, q1, q2, q3, q4, hrd]
  rcases d7 with rfl | ⟨t2, i7, rfl, e7, f7, g7, o7, s7⟩
  · refine ⟨fail, ?_, by simp only [cS1, short_ok hs b6, cS2, short_no hs b7, Option.bind_some, fin_bad], .inl rfl⟩
    simp only [WishText.spec_ok, Option.bind_some, Bool.not_false, cond_true, joinP_some]
    rfl
  have hfin : cS1 n1 n2 n3 n4 n5 (s, ((i5 : Int), false)) = finI n1 n2 n3 n4 n5 t1 t2 (s, ((i7 : Int), false)) := by simp only [cS1, short_ok hs b6, cS2, short_ok hs b7, Option.bind_some]
  rw [hfin]
  simp only [finI, WishText.spec_ok, WishText.impl_ok, Option.bind_some, Bool.not_true, cond_false]
  obtain ⟨a', rfl⟩ := Int.eq_ofNat_of_zero_le hin.1
  by_cases h8 : t1.size ≤ 8 ∧ t2.size ≤ 8
  · have hw : WishText.wt7 ((n1 : Int), ((n2 : Int), ((n3 : Int), ((n4 : Int), ((n5 : Int), (t1, t2)))))) = some (sub s (a' : Int) (i7 : Int)) := by
      have hn : WishText.numsT [(n1 : Int), (n2 : Int), (n3 : Int), (n4 : Int), (n5 : Int)] ⟨#[]⟩ = some (sub s (a' : Int) (i5 : Int)) := by
        simp only [WishText.numsT]
        rw [if_pos (by omega), if_pos (by omega), if_pos (by omega), if_pos (by omega), if_pos (by omega)]
        simp only [Int.toNat_natCast, Option.some.injEq]
        rw [← s1, ← s2, ← s3, ← s4, ← s5]
        have e0 : (⟨#[]⟩ : ByteArray) ++ sub s (a' : Int) (i1 : Int) = sub s (a' : Int) (i1 : Int) := by
          apply ByteArray.ext; simp
        rw [e0, sub_app (by omega) (by omega), sub_app (by omega) (by omega), sub_app (by omega) (by omega), sub_app (by omega) (by omega)]
      simp only [WishText.wt7, if_pos h8, hn, Option.map_some, ← s6, ← s7]
      rw [sub_app (by omega) (by omega), sub_app (by omega) (by omega)]
    have hne : ¬ sub s (a' : Int) (i7 : Int) = (⟨#[]⟩ : ByteArray) := by
      intro h
      have := congrArg ByteArray.size h
      simp only [sub, Int.toNat_natCast, ByteArray.size_extract] at this
      have h0 : (⟨#[]⟩ : ByteArray).size = 0 := rfl
      omega
    have hcut : ∀ {α : Type} {K : Option α}, (Cnd.cut (a' : Int) (i7 : Int) s.size).run K = K := by
      intro α K
      simp only [Cnd.run]
      rw [if_pos (by omega)]
    refine ⟨(((n1 : Int), ((n2 : Int), ((n3 : Int), ((n4 : Int), ((n5 : Int), (t1, t2)))))), (i7 : Int), true, ()), ?_, ?_, .inr ⟨_, _, rfl, ?_, by omega, by omega, by omega⟩⟩
    · simp only [hw, Option.getD_some, hne, decide_false, cond_false, hcut, joinP_some, ne_eq, not_true_eq_false]
    · simp only [hw, Option.getD_some, hne, decide_false, cond_false, joinP_some]
    · simp only [wt]; omega
  · have hw : WishText.wt7 ((n1 : Int), ((n2 : Int), ((n3 : Int), ((n4 : Int), ((n5 : Int), (t1, t2)))))) = none := by
      simp only [WishText.wt7, if_neg h8]
    refine ⟨fail, ?_, ?_, .inl rfl⟩
    · simp only [hw, Option.getD_none, decide_true, cond_true, joinP_some]; rfl
    · simp only [hw, Option.getD_none, decide_true, cond_true, joinP_some]
theorem pure (s : ByteArray) (a : Int) (hb : Bnd .str s) (_ : Bnd (.int .i64) a) : laws_FnExactReadWish s a = some (true, ()) := by
  simp only [laws_FnExactReadWish]
  by_cases hbig : (1048576 : Int) < (s.size : Int)
  · simp only [hbig, decide_true, cond_true]
  · obtain ⟨r, h1, h2, h3⟩ := ok s a (by omega)
    have hw : wt t_Wish r.1 ≤ big := by
      have : big = 1048576 := rfl
      rcases h3 with rfl | ⟨w, i, rfl, h4, _⟩
      · have : wt t_Wish fail.1 = 0 := rfl
        omega
      · exact Nat.le_trans h4 (by omega)
    simp only [hbig, decide_false, cond_false, h1, h2, Option.bind_some]
    rw [ok_laws_eqWish _ _ hw]
    simp [joinP]
end ReadWish
end Go.Proofs.YtmpfjlolcmokbaaE

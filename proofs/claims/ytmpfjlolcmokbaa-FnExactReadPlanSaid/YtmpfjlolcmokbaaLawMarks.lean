/- What the laws mark a text with. No condition beyond each lemma's own. -/
import Derived.Test.YtmpfjlolcmokbaaLawWords
set_option linter.all false
namespace Go.Proofs.YtmpfjlolcmokbaaE
set_option linter.all false

theorem markText_some (k : Int) (hk : k < 9223372036854775808) : ∃ t : ByteArray, laws_markText k = some (t, ()) := by
  unfold laws_markText
  by_cases h0 : k ≤ 0
  · exact ⟨s_m0_e422, by simp only [h0, decide_true, cond_true]⟩
  · simp only [h0, decide_false, cond_false, Option.bind_some]
    obtain ⟨r, h1, h2⟩ := loopF_inv (step := L1_laws_markText) (fun b => ∃ (n d : Nat), b.1 = (n : Int) ∧ n < 9223372036854775808 ∧ n < 10 ^ d ∧ b.2.1.size + d ≤ 30) (fun b => b.1.toNat) (fun r => r.1.size ≤ 30) (fun b hb => by
      obtain ⟨x, out, u⟩ := b
      obtain ⟨n, d, rfl, g1, g2, g3⟩ := hb
      simp only at g3
      by_cases hn : 0 < n
      · right
        have hn' : (0 : Int) < (n : Int) := by omega
        have e1 : Int.tmod (n : Int) 10 = ((n % 10 : Nat) : Int) := rfl
        have e2 : Int.tdiv (n : Int) 10 = ((n / 10 : Nat) : Int) := rfl
        have hsz : ∀ y : Int, (bts [y]).size = 1 := fun y => by rw [bts_size]; rfl
        cases d with
        | zero => omega
        | succ d =>
          refine ⟨(((n / 10 : Nat) : Int), bts [IntKind.wrap .u8 (IntKind.wrap .i64 ((48 : Int) + ((n % 10 : Nat) : Int)))] ++ out, ()), ?_, ⟨n / 10, d, rfl, by omega, ?_, ?_⟩, ?_⟩
          rotate_left
          · rw [Nat.pow_succ] at g2; omega
          · simp only [ByteArray.size_append, hsz]; omega
          · show (((n / 10 : Nat) : Int)).toNat < ((n : Nat) : Int).toNat
            omega
          · simp only [L1_laws_markText, hn', decide_true, cond_true, nz_run (show (10 : Int) ≠ 0 by decide), e1, e2, wrapNat (show n / 10 < 9223372036854775808 by omega)]
            rw [le_run (by rw [hsz]; simp only [maxI]; omega)]; rfl
      · left
        have hn' : ¬ (0 : Int) < (n : Int) := by omega
        refine ⟨(out, ()), by simp only [L1_laws_markText, hn', decide_false, cond_false, Option.map_some], by show out.size ≤ 30; omega⟩) (k, ⟨#[]⟩, ()) ⟨k.toNat, 19, by simp only; omega, by omega, by
          have : (10 : Nat) ^ 19 = 10000000000000000000 := by decide
          omega, (by decide : (⟨#[]⟩ : ByteArray).size + 19 ≤ 30)⟩
    rw [h1]
    have : s_m_62c6.size = 1 := by decide
    refine ⟨s_m_62c6 ++ r.1, ?_⟩
    simp only [joinP_some]
    rw [le_run (by simp only [maxI]; omega)]
/-- The k-th mark. -/
noncomputable def mtx (k : Int) : ByteArray := ((laws_markText k).getD (⟨#[]⟩, ())).1
theorem markText_ok (k : Int) (hk : k < 9223372036854775808) : laws_markText k = some (mtx k, ()) := by
  obtain ⟨t, h⟩ := markText_some k hk
  unfold mtx
  rw [h]; rfl
/-- Two kinds of rounds that go side by side. -/
theorem loopF_two {α β : Type} {f g : β → Option (β ⊕ α)} (I : β → Prop) (μ : β → Nat) (Q : α → Prop) (H : ∀ b, I b → (∃ r, f b = some (.inr r) ∧ g b = some (.inr r) ∧ Q r) ∨ ∃ b', f b = some (.inl b') ∧ g b = some (.inl b') ∧ I b' ∧ μ b' < μ b) (b : β) (h : I b) : ∃ r, loopF f b = some r ∧ loopF g b = some r ∧ Q r := by
  have : ∀ n b, μ b < n → I b → ∃ r, loopF f b = some r ∧ loopF g b = some r ∧ Q r := by
    intro n
    induction n with
    | zero => intro b h; omega
    | succ n ih =>
      intro b hb hI
      rcases H b hI with ⟨r, h1, h2, h3⟩ | ⟨b', h1, h2, h3, h4⟩
      · exact ⟨r, loopF_inr h1, loopF_inr h2, h3⟩
      · rw [loopF_inl h1, loopF_inl h2]
        exact ih b' (by omega) h3
  exact this _ b (Nat.lt_succ_self _) h
end Go.Proofs.YtmpfjlolcmokbaaE

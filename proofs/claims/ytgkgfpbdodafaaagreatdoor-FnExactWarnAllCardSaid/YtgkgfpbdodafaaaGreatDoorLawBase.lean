/- Plain lemmas on the smallest words: ranges, rounds that look for the first that is wrong. No condition beyond each lemma's own. -/
import Derived.Test.YtgkgfpbdodafaaaGreatDoorPackP
import Derived.Test.YtgkgfpbdodafaaaGreatDoorLawAX
set_option linter.all false
namespace Go.Proofs.YtgkgfpbdodafaaaGreatDoorE
set_option linter.all false
theorem sIn (a b c : Int) : spec_l01In a b c = some (decide (b ≤ a ∧ a ≤ c), ()) := by
  unfold spec_l01In
  by_cases h : b ≤ a <;> simp [h, joinP]
theorem iIn (a b c : Int) : impl_in a b c = some (decide (b ≤ a ∧ a ≤ c), ()) := by
  unfold impl_in
  by_cases h : b ≤ a <;> simp [h, joinP]
theorem loopF_all {α β D : Type} {step : β → Option (β ⊕ α)} (l : List D) (q : D → Bool) (S : Nat → β) (rt rf : α) (H : ∀ k (h : k < l.length), step (S k) = bif q l[k] then some (.inl (S (k + 1))) else some (.inr rf)) (He : step (S l.length) = some (.inr rt)) :
    loopF step (S 0) = some (bif l.all q then rt else rf) := by
  have key : ∀ m k, k + m = l.length → loopF step (S k) = some (bif (l.drop k).all q then rt else rf) := by
    intro m
    induction m with
    | zero =>
      intro k hk
      obtain rfl : k = l.length := by omega
      rw [loopF_inr He, List.drop_length]; rfl
    | succ m ih =>
      intro k hk
      have hkl : k < l.length := by omega
      have h1 := H k hkl
      rw [List.drop_eq_getElem_cons hkl, List.all_cons]
      cases hq : q l[k]
      · rw [hq, cond_false] at h1
        rw [loopF_inr h1]; rfl
      · rw [hq, cond_true] at h1
        rw [loopF_inl h1, ih (k + 1) (by omega), Bool.true_and]
  have := key l.length 0 (by omega)
  rwa [List.drop_zero] at this
theorem loopF_any {α β D : Type} {step : β → Option (β ⊕ α)} (l : List D) (q : D → Bool) (S : Nat → β) (rt rf : α) (H : ∀ k (h : k < l.length), step (S k) = bif q l[k] then some (.inr rt) else some (.inl (S (k + 1)))) (He : step (S l.length) = some (.inr rf)) :
    loopF step (S 0) = some (bif l.any q then rt else rf) := by
  have key : ∀ m k, k + m = l.length → loopF step (S k) = some (bif (l.drop k).any q then rt else rf) := by
    intro m
    induction m with
    | zero =>
      intro k hk
      obtain rfl : k = l.length := by omega
      rw [loopF_inr He, List.drop_length]; rfl
    | succ m ih =>
      intro k hk
      have hkl : k < l.length := by omega
      have h1 := H k hkl
      rw [List.drop_eq_getElem_cons hkl, List.any_cons]
      cases hq : q l[k]
      · rw [hq, cond_false] at h1
        rw [loopF_inl h1, ih (k + 1) (by omega), Bool.false_or]
      · rw [hq, cond_true] at h1
        rw [loopF_inr h1]; rfl
  have := key l.length 0 (by omega)
  rwa [List.drop_zero] at this
theorem loopF_fold {α β D γ : Type} {step : β → Option (β ⊕ α)} (l : List D) (g : γ → D → γ) (S : Nat → γ → β) (r : γ → α) (I : Nat → γ → Prop) (H : ∀ k (h : k < l.length) c, I k c → step (S k c) = some (.inl (S (k + 1) (g c l[k]))) ∧ I (k + 1) (g c l[k])) (He : ∀ c, I l.length c → step (S l.length c) = some (.inr (r c))) (c : γ) (hc : I 0 c) :
    loopF step (S 0 c) = some (r (l.foldl g c)) ∧ I l.length (l.foldl g c) := by
  have key : ∀ m k c, k + m = l.length → I k c → loopF step (S k c) = some (r ((l.drop k).foldl g c)) ∧ I l.length ((l.drop k).foldl g c) := by
    intro m
    induction m with
    | zero =>
      intro k c hk hI
      obtain rfl : k = l.length := by omega
      rw [loopF_inr (He c hI), List.drop_length]; exact ⟨rfl, hI⟩
    | succ m ih =>
      intro k c hk hI
      have hkl : k < l.length := by omega
      obtain ⟨h1, h2⟩ := H k hkl c hI
      rw [List.drop_eq_getElem_cons hkl, List.foldl_cons, loopF_inl h1]
      exact ih (k + 1) _ (by omega) h2
  have := key l.length 0 c (by omega) hc
  rwa [List.drop_zero] at this
theorem lt_cast {k n : Nat} (h : k < n) : ((k : Int) < (n : Int)) := by omega
theorem not_lt_self (n : Nat) : ¬ ((n : Int) < (n : Int)) := by omega
theorem bAt_nat' (s : ByteArray) (i : Nat) : bAt s (i : Int) = ((s.data.getD i 0).toNat : Int) := by simp [bAt]
theorem loopF_map {α β D : Type} {step : β → Option (β ⊕ α)} (l : List D) (f : D → D) (S : Nat → List D → β) (r : List D → α)
    (H : ∀ k (h : k < l.length) (o : List D) (ho : o.length = l.length), o[k]'(by omega) = l[k] → step (S k o) = some (.inl (S (k + 1) (o.set k (f l[k])))))
    (He : ∀ o : List D, o.length = l.length → step (S l.length o) = some (.inr (r o))) : loopF step (S 0 l) = some (r (l.map f)) := by
  have key : ∀ m k, k + m = l.length → loopF step (S k ((l.take k).map f ++ l.drop k)) = some (r (l.map f)) := by
    intro m
    induction m with
    | zero =>
      intro k hk
      obtain rfl : k = l.length := by omega
      rw [List.take_length, List.drop_length, List.append_nil]
      exact loopF_inr (He _ (by simp))
    | succ m ih =>
      intro k hk
      have hkl : k < l.length := by omega
      have hlen : ((l.take k).map f ++ l.drop k).length = l.length := by simp; omega
      have hget : ((l.take k).map f ++ l.drop k)[k]'(by omega) = l[k] := by
        rw [List.getElem_append_right (by simp; omega)]
        simp [Nat.min_eq_left (Nat.le_of_lt hkl)]
      rw [loopF_inl (H k hkl _ hlen hget)]
      have e : ((l.take k).map f ++ l.drop k).set k (f l[k]) = (l.take (k + 1)).map f ++ l.drop (k + 1) := by
        rw [List.set_append_right _ _ (by simp; omega), List.take_succ_eq_append_getElem hkl, List.map_append, List.append_assoc]
        congr 1
        rw [List.length_map, List.length_take, Nat.min_eq_left (Nat.le_of_lt hkl), Nat.sub_self, List.drop_eq_getElem_cons hkl]
        rfl
      rw [e]
      exact ih (k + 1) (by omega)
  simpa using key l.length 0 (by omega)
theorem loopF_push {α β D E : Type} {step : β → Option (β ⊕ α)} (l : List D) (g : D → E) (S : Nat → List E → β) (r : List E → α)
    (H : ∀ k (h : k < l.length) (o : List E), o.length = k → step (S k o) = some (.inl (S (k + 1) (o ++ [g l[k]]))))
    (He : ∀ o : List E, o.length = l.length → step (S l.length o) = some (.inr (r o))) : loopF step (S 0 []) = some (r (l.map g)) := by
  have key : ∀ m k, k + m = l.length → loopF step (S k ((l.take k).map g)) = some (r (l.map g)) := by
    intro m
    induction m with
    | zero =>
      intro k hk
      obtain rfl : k = l.length := by omega
      rw [List.take_length]
      exact loopF_inr (He _ (by simp))
    | succ m ih =>
      intro k hk
      have hkl : k < l.length := by omega
      rw [loopF_inl (H k hkl _ (by simp; omega))]
      have e : (l.take k).map g ++ [g l[k]] = (l.take (k + 1)).map g := by
        rw [List.take_succ_eq_append_getElem hkl, List.map_append]; rfl
      rw [e]
      exact ih (k + 1) (by omega)
  simpa using key l.length 0 (by omega)
end Go.Proofs.YtgkgfpbdodafaaaGreatDoorE

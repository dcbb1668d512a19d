/- Where a function stands, by its name. No condition beyond each lemma's own. -/
import Derived.Test.YtgkgfpbdodafaaaGreatDoorLawTree
set_option linter.all false
namespace Go.Proofs.YtgkgfpbdodafaaaGreatDoorE
set_option linter.all false
set_option maxRecDepth 100000
theorem loopF_find {α β D : Type} {step : β → Option (β ⊕ α)} (l : List D) (q : D → Bool) (S : Nat → β) (rt : Nat → α) (rf : α) (H : ∀ k (h : k < l.length), step (S k) = bif q l[k] then some (.inr (rt k)) else some (.inl (S (k + 1)))) (He : step (S l.length) = some (.inr rf)) :
    loopF step (S 0) = some (match l.findIdx? q with | some i => rt i | none => rf) := by
  have key : ∀ m k, k + m = l.length → loopF step (S k) = some (match (l.drop k).findIdx? q with | some i => rt (k + i) | none => rf) := by
    intro m
    induction m with
    | zero =>
      intro k hk
      obtain rfl : k = l.length := by omega
      rw [loopF_inr He, List.drop_length]; rfl
    | succ m ih =>
      intro k hk
      have hkl : k < l.length := by omega
      have h1 := H k hkl
      rw [List.drop_eq_getElem_cons hkl, List.findIdx?_cons]
      cases hq : q l[k]
      · rw [hq, cond_false] at h1
        rw [loopF_inl h1, ih (k + 1) (by omega)]
        cases hf : (l.drop (k + 1)).findIdx? q with
        | none => simp [hf]
        | some i => simp [hf, Nat.add_assoc, Nat.add_comm 1 i]
      · rw [hq, cond_true] at h1
        rw [loopF_inr h1]; simp
  have := key l.length 0 (by omega)
  rw [List.drop_zero] at this
  rw [this]
  cases l.findIdx? q <;> simp
def fnAt (l : List FN) (s : ByteArray) : Int := match l.findIdx? (fun f => decide (f.1 = s)) with
  | some i => (i : Int)
  | none => -1
theorem spec_FnAt_ok (p : PROG) (hp : FineP p) (s : ByteArray) : spec_FnAt p s = some (fnAt p.2 s, ()) := by
  have hl := hp.f
  have h := loopF_find (step := L1_spec_FnAt) p.2 (fun f => decide (f.1 = s)) (fun k => (s, (k : Int), p, ())) (fun k => .inr ((k : Int), ())) (.inl ()) (fun k hk => by
    simp only [L1_spec_FnAt, lt_cast hk, decide_true, cond_true, idx_run hk, rd_nat hk, wrapSucc (show k < 9223372036854775807 by omega)]
    cases decide (p.2[k].1 = s) <;> rfl) (by
    simp only [L1_spec_FnAt, not_lt_self, decide_false, cond_false, Option.map_some])
  have h' : loopF L1_spec_FnAt (s, (0 : Int), p, ()) = _ := h
  simp only [spec_FnAt, Option.bind_some, h', fnAt]
  cases p.2.findIdx? fun f => decide (f.1 = s) <;> rfl
theorem impl_FnAt_ok (p : PROG) (hp : FineP p) (s : ByteArray) : impl_FnAt p s = some (fnAt p.2 s, ()) := by
  have hl := hp.f
  have h := loopF_find (step := L1_impl_FnAt) p.2 (fun f => decide (f.1 = s)) (fun k => (s, p.2, (p.2.length : Int), (k : Int), ())) (fun k => .inr ((k : Int), ())) (.inl ()) (fun k hk => by
    simp only [L1_impl_FnAt, lt_cast hk, decide_true, cond_true, idx_run hk, rd_nat hk, wrapSucc (show k < 9223372036854775807 by omega)]
    cases decide (p.2[k].1 = s) <;> rfl) (by
    simp only [L1_impl_FnAt, not_lt_self, decide_false, cond_false, Option.map_some])
  have h' : loopF L1_impl_FnAt (s, p.2, (p.2.length : Int), (0 : Int), ()) = _ := h
  simp only [impl_FnAt, Option.bind_some, h', fnAt]
  cases p.2.findIdx? fun f => decide (f.1 = s) <;> rfl
end Go.Proofs.YtgkgfpbdodafaaaGreatDoorE

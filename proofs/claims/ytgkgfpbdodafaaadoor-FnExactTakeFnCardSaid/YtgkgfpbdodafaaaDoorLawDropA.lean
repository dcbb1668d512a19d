/- What is right is small; a program less one function. No condition beyond each lemma's own. -/
import Derived.Test.YtgkgfpbdodafaaaDoorLawPackC
set_option linter.all false
namespace Go.Proofs.YtgkgfpbdodafaaaDoorE
set_option linter.all false
set_option maxRecDepth 100000

theorem kr_le (k : Int) : (kr k).2 ≤ 12 := by
  unfold kr
  repeat' split
  all_goals decide
theorem node_small {l : List NODE} {k : Int} (h : nodeOk l k = true) : (rd l k zN).2.2.2.length ≤ 12 ∧ (rd l k zN).2.2.1.size ≤ 8 := by
  simp only [nodeOk, nodeBody, Bool.and_eq_true, decide_eq_true_eq] at h
  obtain ⟨_, _, h2, _, h4, _⟩ := h
  have := kr_le (rd l k zN).1
  refine ⟨by omega, ?_⟩
  cases hn : named (rd l k zN).1
  · rw [hn, cond_false, decide_eq_true_eq] at h4
    rw [h4]
    exact Nat.zero_le _
  · rw [hn, cond_true] at h4
    simp only [nameOk, Bool.and_eq_true, decide_eq_true_eq] at h4
    exact h4.1.1.1.2
theorem name_small {s : ByteArray} (h : nameOk s = true) : s.size ≤ 8 := by
  simp only [nameOk, Bool.and_eq_true, decide_eq_true_eq] at h
  exact h.1.1.1.2
theorem sum_small {α : Type} {f : α → Nat} {B : Nat} : ∀ l : List α, (∀ x ∈ l, f x ≤ B) → (l.map f).sum ≤ B * l.length
  | [], _ => Nat.zero_le _
  | x :: l, h => by
    have := sum_small l fun y hy => h y (List.mem_cons_of_mem _ hy)
    have := h x (List.mem_cons_self ..)
    simp only [List.map_cons, List.sum_cons, List.length_cons, Nat.mul_add, Nat.mul_one]; omega
theorem Right.fine {p : PROG} (h : Right p) : FineP p ∧ wt t_Program p ≤ 100000 := by
  have n2 := h.n2
  have f2 := h.f2
  have hn : ∀ x ∈ p.1, (x : NODE).2.2.2.length ≤ 12 ∧ x.2.2.1.size ≤ 8 := fun x hx => by
    obtain ⟨k, hk, rfl⟩ := List.getElem_of_mem hx
    have := node_small (h.all k hk).1
    rwa [rd_nat hk] at this
  have hx : ∀ x ∈ p.2, (x : FN).1.size ≤ 8 ∧ x.2.1.length ≤ 3 ∧ ∀ q ∈ x.2.1, (q : ByteArray × Int).1.size ≤ 8 := fun x hx => by
    obtain ⟨i, hi, rfl⟩ := List.getElem_of_mem hx
    have := (h.fns i hi).1
    simp only [fnI, pars, Bool.and_eq_true, decide_eq_true_eq, List.all_eq_true] at this
    refine ⟨name_small this.1, by omega, fun q hq => ?_⟩
    have := this.2.2.2.1 q hq
    simp only [parOk, Bool.and_eq_true] at this
    exact name_small this.1
  refine ⟨⟨⟨by omega, fun x hx => by have := (hn x hx).1; omega⟩, by omega, fun x hx' => by have := (hx x hx').2.1; omega⟩, ?_⟩
  have w1 : (p.1.map (wt t_Node)).sum ≤ 20 * p.1.length := sum_small p.1 fun x hx => by
    rw [wt_node]
    have := hn x hx
    rw [wt_lean0 rfl]
    omega
  have w2 : (p.2.map (wt t_Fn)).sum ≤ 100 * p.2.length := sum_small p.2 fun x hx' => by
    rw [wt_fn]
    have h1 := hx x hx'
    have h2 : (x.2.1.map (wt t_Param)).sum ≤ 8 * x.2.1.length := sum_small x.2.1 fun q hq => by
      have : wt t_Param q = q.1.size + 0 := rfl
      have := h1.2.2 q hq
      omega
    omega
  rw [wt_prog]
  omega
theorem rootsL_app : ∀ a b : List FN, rootsL (a ++ b) = rootsL a ++ rootsL b
  | [], b => rfl
  | x :: a, b => by simp only [List.cons_append, rootsL, rootsL_app a b, List.append_assoc]
def less (p : PROG) (k : Nat) : PROG := (p.1, p.2.take k ++ p.2.drop (k + 1))
theorem less_get {p : PROG} {k : Nat} (hk : k < p.2.length) {i : Nat} (hi : i < (less p k).2.length) : ∃ j, ∃ hj : j < p.2.length, (less p k).2[i] = p.2[j] ∧ j = if i < k then i else i + 1 := by
  have hl : (less p k).2.length = p.2.length - 1 := by simp [less]; omega
  by_cases h : i < k
  · refine ⟨i, by omega, ?_, by rw [if_pos h]⟩
    simp only [less]
    rw [List.getElem_append_left (by rw [List.length_take]; omega), List.getElem_take]
  · refine ⟨i + 1, by omega, ?_, by rw [if_neg h]⟩
    simp only [less]
    rw [List.getElem_append_right (by rw [List.length_take]; omega), List.getElem_drop]
    congr 1
    rw [List.length_take]; omega
theorem less_ok {p : PROG} (h : Right p) {k : Nat} (hk : k < p.2.length) (h2 : 2 ≤ p.2.length) (hp : FineP p) :
    FineP (less p k) ∧ (less p k).2.length = p.2.length - 1 ∧ (∀ i (hi : i < (less p k).2.length), fnI p.1 (less p k).2[i] = true ∧ fnAt (less p k).2 (less p k).2[i].1 = (i : Int)) ∧
    (∀ x ∈ (less p k).2, ∀ y ∈ roots x, (0 : Int) ≤ y ∧ y < (p.1.length : Int)) ∧ sumK (sz p.1) (rootsL (less p k).2) ≤ 300 := by
  have hl : (less p k).2.length = p.2.length - 1 := by simp [less]; omega
  have hmem : ∀ x ∈ (less p k).2, x ∈ p.2 := fun x hx => by
    obtain ⟨i, hi, rfl⟩ := List.getElem_of_mem hx
    obtain ⟨j, hj, e, _⟩ := less_get hk hi
    rw [e]; exact List.getElem_mem hj
  have hf2 := h.f2
  refine ⟨⟨hp.n, by omega, fun x hx => hp.a x (hmem x hx)⟩, hl, fun i hi => ?_, fun x hx => ?_, ?_⟩
  · obtain ⟨j, hj, e, ej⟩ := less_get hk hi
    refine ⟨by rw [e]; exact (h.fns j hj).1, ?_⟩
    rw [fnAt_iff]
    refine ⟨hi, rfl, fun i' hi' => ?_⟩
    obtain ⟨j', hj', e', ej'⟩ := less_get hk (i := i') (by omega)
    rw [e, e']
    obtain ⟨_, _, hne⟩ := fnAt_iff.1 (h.fns j hj).2
    refine hne j' ?_
    split at ej <;> split at ej' <;> omega
  · obtain ⟨i, hi, rfl⟩ := List.getElem_of_mem (hmem x hx)
    exact fnI_roots (h.fns i hi).1
  · have hr := allF_roots ((allF_iff p).2 h.fns)
    have ht := total h.all hr h.ct
    have e : p.2 = p.2.take k ++ (p.2[k] :: p.2.drop (k + 1)) := by
      rw [← List.drop_eq_getElem_cons hk, List.take_append_drop]
    have e2 : sumK (sz p.1) (rootsL p.2) = sumK (sz p.1) (rootsL (p.2.take k)) + (sumK (sz p.1) (roots p.2[k]) + sumK (sz p.1) (rootsL (p.2.drop (k + 1)))) := by
      conv => lhs; rw [e]
      simp only [rootsL_app, rootsL, sumK_app]
    have e3 : sumK (sz p.1) (rootsL (less p k).2) = sumK (sz p.1) (rootsL (p.2.take k)) + sumK (sz p.1) (rootsL (p.2.drop (k + 1))) := by
      simp only [less, rootsL_app, sumK_app]
    have := h.n2
    omega
theorem lsub_drop {α : Type} (l : List α) (i : Nat) (h : i ≤ l.length) : lsub l (i : Int) (l.length : Int) = l.drop i := by
  unfold lsub
  rw [Int.toNat_natCast, List.take_of_length_le]
  rw [List.length_drop]; omega
end Go.Proofs.YtgkgfpbdodafaaaDoorE

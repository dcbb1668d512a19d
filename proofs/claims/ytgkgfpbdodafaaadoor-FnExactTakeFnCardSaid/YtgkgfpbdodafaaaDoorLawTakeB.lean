/- The joined program is packed: both sides end alike. No condition beyond each lemma's own. -/
import Derived.Test.YtgkgfpbdodafaaaDoorLawTakeA
set_option linter.all false
namespace Go.Proofs.YtgkgfpbdodafaaaDoorE
set_option linter.all false
set_option maxRecDepth 100000

theorem packed_fine {N : PROG} {e : List NODE} {ys : List FN} (hN : FineP N) (hP : PI e (rootsL ys)) (hF : FCs N.1 e N.2 ys) (hlen : e.length ≤ 300) : FineP (e, ys) := by
  refine ⟨⟨by show e.length ≤ _; omega, fun x hx => ?_⟩, by show ys.length ≤ _; have := hF.len; have := hN.f; omega, fun y hy => ?_⟩
  · obtain ⟨k, hk, rfl⟩ := List.getElem_of_mem hx
    have := node_small (hP.ok k hk).1
    rw [rd_nat hk] at this
    omega
  · obtain ⟨i, hi, rfl⟩ := List.getElem_of_mem hy
    have hi' : i < N.2.length := by have := hF.len; have hi : i < ys.length := hi; omega
    have := (hF.c i hi' hi).ps
    have h2 := hN.a _ (List.getElem_mem hi')
    show (ys[i]).2.1.length ≤ _
    rw [this]; exact h2
theorem finish (p N : PROG) (hp : FineP p) (hw : wt t_Program p ≤ 1048576) (hN : FineP N) (hA : AllN N.1) (hr : ∀ x ∈ N.2, ∀ y ∈ roots x, (0 : Int) ≤ y ∧ y < (N.1.length : Int)) :
    ∃ (d : PROG) (v : Int), ((spec_Packed N).bind fun y17 => bif !y17.2.1 then some (p, (4 : Int), ()) else (spec_ProgramOk y17.1).bind fun y18 => bif !y18.1 then some (p, (5 : Int), ()) else some (y17.1, (0 : Int), ())) = some (d, v, ()) ∧ impl_packedOf p N = some (d, v, ()) ∧ wt t_Program d ≤ 1048576 := by
  by_cases hs : sumK (sz N.1) (rootsL N.2) ≤ 300
  · obtain ⟨e, ys, g1, g2, g3, g4, g5⟩ := packed N hN hA hr hs
    have hf := packed_fine hN g1 g2 g3
    have hS := spec_Prog_ok (e, ys) hf
    have hI := impl_Prog_ok (e, ys) hf
    cases hok : progOk (e, ys)
    · rw [hok] at hS hI
      exact ⟨p, 5, by simp only [g4, Option.bind_some, Bool.not_true, cond_false, hS, Bool.not_false, cond_true], by simp only [impl_packedOf, g5, Option.bind_some, Bool.not_true, cond_false, hI, Bool.not_false, cond_true, impl_copyP p hp], hw⟩
    · rw [hok] at hS hI
      have := (right_of hok).fine.2
      exact ⟨(e, ys), 0, by simp only [g4, Option.bind_some, Bool.not_true, cond_false, hS], by simp only [impl_packedOf, g5, Option.bind_some, Bool.not_true, cond_false, hI], by omega⟩
  · obtain ⟨h1, h2⟩ := overflow N hN hA hr hs
    exact ⟨p, 4, by simp only [h1, Option.bind_some, Bool.not_false, cond_true], by simp only [impl_packedOf, h2, Option.bind_some, Bool.not_false, cond_true, impl_copyP p hp], hw⟩
/-- A function whose body stands c places on. -/
def shF (c : Nat) (x : FN) : FN := (x.1, (x.2.1, (x.2.2.1, (x.2.2.2.1 + (c : Int), bif decide (0 ≤ x.2.2.2.2) then x.2.2.2.2 + (c : Int) else x.2.2.2.2))))
theorem shF_roots (c n : Nat) (x : FN) (h : ∀ y ∈ roots x, (0 : Int) ≤ y ∧ y < (n : Int)) : ∀ y ∈ roots (shF c x), (0 : Int) ≤ y ∧ y < ((c + n : Nat) : Int) := by
  intro y hy
  obtain ⟨b0, b1⟩ := h x.2.2.2.1 (List.mem_cons_self ..)
  unfold roots at hy
  rcases List.mem_cons.1 hy with rfl | hy
  · simp only [shF]; omega
  · by_cases hc : (0 : Int) ≤ x.2.2.2.2
    · obtain ⟨c0, c1⟩ := h x.2.2.2.2 (by unfold roots; rw [decide_eq_true hc]; simp)
      have e : (shF c x).2.2.2.2 = x.2.2.2.2 + (c : Int) := by simp only [shF, decide_eq_true hc, cond_true]
      rw [e, decide_eq_true (by omega), cond_true] at hy
      obtain rfl := List.mem_singleton.1 hy
      omega
    · have e : (shF c x).2.2.2.2 = x.2.2.2.2 := by simp only [shF, decide_eq_false hc, cond_false]
      rw [e, decide_eq_false hc, cond_false] at hy
      cases hy
theorem join_fine {p q : PROG} (hp : Right p) (hq : Right q) (fs : List FN) (hl : fs.length ≤ 1048576) (hm : ∀ x ∈ fs, x ∈ p.2 ∨ ∃ y ∈ q.2, x = shF p.1.length y) :
    FineP (joinN p.1 q.1, fs) ∧ AllN (joinN p.1 q.1) ∧ ∀ x ∈ fs, ∀ y ∈ roots x, (0 : Int) ≤ y ∧ y < ((joinN p.1 q.1).length : Int) := by
  have hA := hp.all.join hq.all
  have hlen := joinN_len p.1 q.1
  have n1 := hp.n2
  have n2 := hq.n2
  refine ⟨⟨⟨by show (joinN p.1 q.1).length ≤ _; omega, fun x hx => ?_⟩, hl, fun x hx => ?_⟩, hA, fun x hx y hy => ?_⟩
  · obtain ⟨k, hk, rfl⟩ := List.getElem_of_mem hx
    have := node_small (hA k hk).1
    rw [rd_nat hk] at this
    omega
  · rcases hm x hx with h | ⟨y, hy, rfl⟩
    · exact hp.fine.1.a x h
    · exact hq.fine.1.a y hy
  · rw [hlen]
    rcases hm x hx with h | ⟨z, hz, rfl⟩
    · obtain ⟨i, hi, rfl⟩ := List.getElem_of_mem h
      have := fnI_roots (hp.fns i hi).1 y hy
      omega
    · obtain ⟨i, hi, rfl⟩ := List.getElem_of_mem hz
      exact shF_roots p.1.length q.1.length _ (fnI_roots (hq.fns i hi).1) y hy
end Go.Proofs.YtgkgfpbdodafaaaDoorE

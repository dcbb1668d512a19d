/- A function is taken: the program's way and the reference's. No condition beyond each lemma's own. -/
import Derived.Test.YtgkgfpbdodafaaaDoorLawTakeB
set_option linter.all false
namespace Go.Proofs.YtgkgfpbdodafaaaDoorE
set_option linter.all false
set_option maxRecDepth 100000
namespace TakeFn
theorem both (p q : PROG) (hp : FineP p) (hq : FineP q) (hw : wt t_Program p ≤ 1048576) (s : ByteArray) : ∃ (d : PROG) (v : Int), spec_TakeFn p q s = some (d, v, ()) ∧ impl_TakeFn p q s = some (d, v, ()) ∧ wt t_Program d ≤ 1048576 := by
  have hlen := hp.f
  unfold spec_TakeFn impl_TakeFn
  simp only [spec_copyP p hp, impl_copyP p hp, spec_Prog_ok p hp, impl_Prog_ok p hp, spec_Prog_ok q hq, impl_Prog_ok q hq, Option.bind_some]
  cases hok : progOk p
  · exact ⟨p, 1, rfl, rfl, hw⟩
  cases hokq : progOk q
  · exact ⟨p, 1, rfl, rfl, hw⟩
  have hR := right_of hok
  have hQ := right_of hokq
  simp only [Bool.not_true, cond_false, joinP_some, spec_FnAt_ok p hp, impl_FnAt_ok p hp, spec_FnAt_ok q hq, impl_FnAt_ok q hq, Option.bind_some]
  by_cases hneg : fnAt q.2 s < 0
  · exact ⟨p, 2, by simp only [hneg, decide_true, cond_true], by simp only [hneg, decide_true, cond_true], hw⟩
  by_cases h8 : fnAt p.2 s < 0 ∧ (8 : Int) ≤ (p.2.length : Int)
  · exact ⟨p, 3, by simp only [hneg, h8.1, h8.2, decide_true, decide_false, cond_true, cond_false, joinP_some], by simp only [hneg, h8.1, h8.2, decide_true, decide_false, cond_true, cond_false, joinP_some], hw⟩
  obtain ⟨k, hk⟩ : ∃ k : Nat, fnAt q.2 s = (k : Int) := ⟨(fnAt q.2 s).toNat, by omega⟩
  obtain ⟨hkl, _⟩ := fnAt_iff.1 hk
  have n1 := hR.n2
  have n2 := hQ.n2
  have f1 := hR.f1
  have f2 := hR.f2
  have hl : ∀ x ∈ q.1, (x : NODE).2.2.2.length ≤ 1048576 ∧ ∀ y ∈ (x : NODE).2.2.2, (0 : Int) ≤ y ∧ y ≤ 300 := fun x hx => by
    refine ⟨hq.n.kid x hx, fun y hy => ?_⟩
    obtain ⟨j, hj, rfl⟩ := List.getElem_of_mem hx
    have := kid_mem (hQ.all j hj).1 y (by rw [rd_nat hj]; exact hy)
    omega
  have hrd : rd q.2 (k : Int) ((⟨#[]⟩ : ByteArray), ([], ((0 : Int), ((0 : Int), (0 : Int))))) = q.2[k] := rd_nat hkl
  have hpar := hq.a _ (List.getElem_mem hkl)
  have hrt := fnI_roots (hQ.fns k hkl).1
  have hmem := List.getElem_mem hkl
  have w1 : IntKind.wrap .i64 (q.2[k].2.2.2.1 + (p.1.length : Int)) = q.2[k].2.2.2.1 + (p.1.length : Int) := by
    obtain ⟨b0, b1⟩ := hrt q.2[k].2.2.2.1 (List.mem_cons_self ..)
    exact wrap64 (by omega) (by omega)
  have w2 : (0 : Int) ≤ q.2[k].2.2.2.2 → IntKind.wrap .i64 (q.2[k].2.2.2.2 + (p.1.length : Int)) = q.2[k].2.2.2.2 + (p.1.length : Int) := fun hc => by
    obtain ⟨b0, b1⟩ := hrt q.2[k].2.2.2.2 (by unfold roots; rw [decide_eq_true hc]; simp)
    exact wrap64 (by omega) (by omega)
  have hsh : (bif decide ((0 : Int) ≤ q.2[k].2.2.2.2) then (q.2[k].1, (q.2[k].2.1, (q.2[k].2.2.1, (q.2[k].2.2.2.1 + (p.1.length : Int), IntKind.wrap .i64 (q.2[k].2.2.2.2 + (p.1.length : Int)))))) else (q.2[k].1, (q.2[k].2.1, (q.2[k].2.2.1, (q.2[k].2.2.2.1 + (p.1.length : Int), q.2[k].2.2.2.2))))) = shF p.1.length q.2[k] := by
    unfold shF
    by_cases hc : (0 : Int) ≤ q.2[k].2.2.2.2
    · simp only [hc, decide_true, cond_true, w2 hc]
    · simp only [hc, decide_false, cond_false]
  have w2' : ∀ {β : Type} (G : FN → β), (bif decide ((0 : Int) ≤ q.2[k].2.2.2.2) then G (q.2[k].1, (q.2[k].2.1, (q.2[k].2.2.1, (q.2[k].2.2.2.1 + (p.1.length : Int), IntKind.wrap .i64 (q.2[k].2.2.2.2 + (p.1.length : Int)))))) else G (q.2[k].1, (q.2[k].2.1, (q.2[k].2.2.1, (q.2[k].2.2.2.1 + (p.1.length : Int), q.2[k].2.2.2.2))))) = G (shF p.1.length q.2[k]) := fun G => by
    rw [← hsh]; cases decide ((0 : Int) ≤ q.2[k].2.2.2.2) <;> rfl
  have nk : ¬ ((k : Int) < 0) := by omega
  by_cases h6 : fnAt p.2 s < 0
  · have h7 : ¬ (8 : Int) ≤ (p.2.length : Int) := fun h => h8 ⟨h6, h⟩
    have h60 : ¬ (0 : Int) ≤ fnAt p.2 s := by omega
    obtain ⟨m, hm⟩ : ∃ m, p.2.length = m + 1 := ⟨p.2.length - 1, by omega⟩
    have wl : IntKind.wrap .i64 ((p.2.length : Int) - 1) = (m : Int) := by rw [wrap64 (by omega) (by omega)]; omega
    have hml : m < p.2.length := by omega
    have hrm : rd p.2 (m : Int) ((⟨#[]⟩ : ByteArray), ([], ((0 : Int), ((0 : Int), (0 : Int))))) = p.2[m] := rd_nat hml
    have l1 : lsub p.2 (0 : Int) (m : Int) = p.2.take m := lsub_take p.2 m
    have c1 : ∀ {α : Type} {K : Option α}, (Cnd.cut (0 : Int) (m : Int) (List.length p.2)).run K = K := fun {α} {K} => cut_run (by omega)
    have c2 : ∀ {α : Type} {K : Option α}, (Cnd.le ((List.length ([] : List FN) + List.length (p.2.take m)) * 64) 140737488355328).run K = K := fun {α} {K} => nil_leP (by rw [List.length_take]; omega)
    have c3 : ∀ {α : Type} {K : Option α} (x y : FN), (Cnd.le ((List.length (p.2.take m) + List.length [x, y]) * 64) 140737488355328).run K = K := fun {α} {K} x y => le_run (by rw [List.length_take]; simp; omega)
    have c4 : ∀ {α : Type} {K : Option α} (x : FN), (Cnd.le ((List.length (p.2.take m) + List.length [x]) * 64) 140737488355328).run K = K := fun {α} {K} x => le_run (by rw [List.length_take]; simp; omega)
    have c5 : ∀ {α : Type} {K : Option α} (x y : FN), (Cnd.le ((List.length (p.2.take m ++ [x]) + List.length [y]) * 64) 140737488355328).run K = K := fun {α} {K} x y => le_run (by rw [List.length_append, List.length_take]; simp; omega)
    obtain ⟨j1, j2, j3⟩ := join_fine hR hQ (p.2.take m ++ [shF p.1.length q.2[k], p.2[m]]) (by rw [List.length_append, List.length_take]; simp; omega) (fun x hx => by
      rcases List.mem_append.1 hx with hx | hx
      · exact .inl (List.mem_of_mem_take hx)
      · simp only [List.mem_cons, List.not_mem_nil, or_false] at hx
        rcases hx with rfl | rfl
        · exact .inr ⟨_, hmem, rfl⟩
        · exact .inl (List.getElem_mem hml))
    obtain ⟨d, v, g1, g2, g3⟩ := finish p _ hp hw j1 j2 j3
    refine ⟨d, v, ?_, ?_, g3⟩
    · rw [← g1]
      simp only [hk, nk, h6, h7, decide_true, decide_false, cond_true, cond_false, joinP_some, Option.bind_some, spec_copyP p hp, s_take2 p q n1 n2 hl, idx_run hkl, hrd, List.nil_append, le24 hpar, w1, w2' (fun x => some (fnAt p.2 s, ([], []), p, (joinN p.1 q.1, p.2), x, ())), h60, wl, idx_run hml, c1, l1, c2, hrm, c3]
    · rw [← g2]
      simp only [hk, nk, h6, h7, decide_true, decide_false, cond_true, cond_false, joinP_some, Option.bind_some, impl_copyP p hp, impl_nodes q.1 hq.n, i_take2 p q n1 n2 hl, idx_run hkl, hrd, impl_fnP _ hpar, List.nil_append, w1, w2' (fun x => some (fnAt p.2 s, p, ([], []), (joinN p.1 q.1, p.2), x, ())), h60, wl, idx_run hml, c1, l1, c2, hrm, c4, c5, List.append_assoc, List.cons_append]
      rw [g2]; rfl
  · obtain ⟨j, hj⟩ : ∃ j : Nat, fnAt p.2 s = (j : Int) := ⟨(fnAt p.2 s).toNat, by omega⟩
    obtain ⟨hjl, _⟩ := fnAt_iff.1 hj
    have nj : ¬ ((j : Int) < 0) := by omega
    have hj0 : (0 : Int) ≤ (j : Int) := by omega
    obtain ⟨j1, j2, j3⟩ := join_fine hR hQ (p.2.set j (shF p.1.length q.2[k])) (by rw [List.length_set]; omega) (fun x hx => by
      rcases List.mem_or_eq_of_mem_set hx with hx | rfl
      · exact .inl hx
      · exact .inr ⟨_, hmem, rfl⟩)
    obtain ⟨d, v, g1, g2, g3⟩ := finish p _ hp hw j1 j2 j3
    refine ⟨d, v, ?_, ?_, g3⟩
    · rw [← g1]
      simp only [hk, nk, hj, nj, decide_true, decide_false, cond_true, cond_false, joinP_some, Option.bind_some, spec_copyP p hp, s_take2 p q n1 n2 hl, idx_run hkl, hrd, List.nil_append, le24 hpar, w1, w2' (fun x => some ((j : Int), ([], []), p, (joinN p.1 q.1, p.2), x, ())), hj0, idx_run hjl, Int.toNat_natCast, bindD]
    · rw [← g2]
      simp only [hk, nk, hj, nj, decide_true, decide_false, cond_true, cond_false, joinP_some, Option.bind_some, impl_copyP p hp, impl_nodes q.1 hq.n, i_take2 p q n1 n2 hl, idx_run hkl, hrd, impl_fnP _ hpar, w1, w2' (fun x => some ((j : Int), p, ([], []), (joinN p.1 q.1, p.2), x, ())), hj0, idx_run hjl, Int.toNat_natCast, bindD]
      rw [g2]; rfl
end TakeFn
end Go.Proofs.YtgkgfpbdodafaaaDoorE

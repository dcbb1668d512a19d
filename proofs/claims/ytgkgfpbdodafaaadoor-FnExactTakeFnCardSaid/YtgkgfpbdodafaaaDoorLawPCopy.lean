/- Copies of programs. No condition beyond each lemma's own. -/
import Derived.Test.YtgkgfpbdodafaaaDoorLawFnAt
set_option linter.all false
namespace Go.Proofs.YtgkgfpbdodafaaaDoorE
set_option linter.all false
set_option maxRecDepth 100000

theorem nil_leP {α β : Type} {l : List α} {n m : Nat} {K : Option β} (h : l.length * n ≤ m) : (Cnd.le ((List.length ([] : List α) + l.length) * n) m).run K = K := by
  rw [le_run]; simpa using h
theorem one_le {α β : Type} {o : List α} {x : α} {n m : Nat} {K : Option β} (h : (o.length + 1) * n ≤ m) : (Cnd.le ((o.length + List.length [x]) * n) m).run K = K := by
  rw [le_run]; simpa using h
theorem spec_nodes (l : List NODE) (h : FineN l) : spec_l04Nodes l = some (l, ()) := by
  have hlen := h.len
  have hp := loopF_push (step := L1_spec_l04Nodes) l (fun w => w) (fun k o => (l, o, (k : Int), ())) (fun o => (o, ())) (fun k hk o ho => by
    have h1 := h.kid _ (List.getElem_mem hk)
    simp only [L1_spec_l04Nodes, lt_cast hk, decide_true, cond_true, idx_run hk, rd_nat hk, List.nil_append, Option.map_some, wrapSucc (show k < 9223372036854775807 by omega)]
    rw [nil_leP (by omega), one_le (by omega)]) (fun o ho => by
    simp only [L1_spec_l04Nodes, not_lt_self, decide_false, cond_false, Option.map_some])
  have hp' : loopF L1_spec_l04Nodes (l, [], (0 : Int), ()) = _ := hp
  simp only [spec_l04Nodes, Option.bind_some, hp', joinP_some, List.map_id']
theorem spec_copyP (p : PROG) (h : FineP p) : spec_l04Copy p = some (p, ()) := by
  have hf := h.f
  have hp := loopF_push (step := L1_spec_l04Copy) p.2 (fun w => w) (fun k o => ((k : Int), p, ([], []), (p.1, o), ())) (fun o => (([], []), (p.1, o), ())) (fun k hk o ho => by
    have h1 := h.a _ (List.getElem_mem hk)
    simp only [L1_spec_l04Copy, lt_cast hk, decide_true, cond_true, idx_run hk, rd_nat hk, List.nil_append, Option.map_some, wrapSucc (show k < 9223372036854775807 by omega)]
    rw [nil_leP (by omega), one_le (by omega)]) (fun o ho => by
    simp only [L1_spec_l04Copy, not_lt_self, decide_false, cond_false, Option.map_some])
  have hp' : loopF L1_spec_l04Copy ((0 : Int), p, ([], []), (p.1, []), ()) = _ := hp
  simp only [spec_l04Copy, spec_nodes _ h.n, Option.bind_some, hp', joinP_some, List.map_id']
theorem impl_intsP (l : List Int) (h : l.length ≤ 1048576) : impl_copyInts l = some (l, ()) := by
  simp only [impl_copyInts, List.nil_append]
  rw [nil_leP (by omega)]
theorem impl_fnP (x : FN) (h : x.2.1.length ≤ 1048576) : impl_copyFn x = some (x, ()) := by
  simp only [impl_copyFn, List.nil_append]
  rw [nil_leP (by omega)]
theorem impl_nodes (l : List NODE) (h : FineN l) : impl_copyNodes l = some (l, ()) := by
  have hlen := h.len
  have hp := loopF_push (step := L1_impl_copyNodes) l (fun w => w) (fun k o => (o, l, (l.length : Int), (k : Int), ())) (fun o => (o, ())) (fun k hk o ho => by
    have h1 := h.kid _ (List.getElem_mem hk)
    simp only [L1_impl_copyNodes, lt_cast hk, decide_true, cond_true, idx_run hk, rd_nat hk, impl_intsP _ h1, Option.bind_some, Option.map_some, wrapSucc (show k < 9223372036854775807 by omega)]
    rw [one_le (by omega)]) (fun o ho => by
    simp only [L1_impl_copyNodes, not_lt_self, decide_false, cond_false, Option.map_some])
  have hp' : loopF L1_impl_copyNodes ([], l, (l.length : Int), (0 : Int), ()) = _ := hp
  simp only [impl_copyNodes, Option.bind_some, hp', joinP_some, List.map_id']
theorem impl_copyP (p : PROG) (h : FineP p) : impl_copyProgram p = some (p, ()) := by
  have hf := h.f
  have hp := loopF_push (step := L1_impl_copyProgram) p.2 (fun w => w) (fun k o => (p.2, (p.2.length : Int), (k : Int), ([], []), (p.1, o), ())) (fun o => (([], []), (p.1, o), ())) (fun k hk o ho => by
    have h1 := h.a _ (List.getElem_mem hk)
    simp only [L1_impl_copyProgram, lt_cast hk, decide_true, cond_true, idx_run hk, rd_nat hk, impl_fnP _ h1, Option.bind_some, Option.map_some, wrapSucc (show k < 9223372036854775807 by omega)]
    rw [one_le (by omega)]) (fun o ho => by
    simp only [L1_impl_copyProgram, not_lt_self, decide_false, cond_false, Option.map_some])
  have hp' : loopF L1_impl_copyProgram (p.2, (p.2.length : Int), (0 : Int), ([], []), (p.1, []), ()) = _ := hp
  simp only [impl_copyProgram, impl_nodes _ h.n, Option.bind_some, hp', joinP_some, List.map_id']
end Go.Proofs.YtgkgfpbdodafaaaDoorE

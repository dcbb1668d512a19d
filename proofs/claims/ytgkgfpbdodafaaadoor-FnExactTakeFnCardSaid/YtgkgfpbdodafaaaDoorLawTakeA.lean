/- The nodes of the other program are put behind: the program's loops and the reference's. No condition beyond each lemma's own. -/
import Derived.Test.YtgkgfpbdodafaaaDoorLawOver
set_option linter.all false
namespace Go.Proofs.YtgkgfpbdodafaaaDoorE
set_option linter.all false
set_option maxRecDepth 100000

theorem s_take1 (q : PROG) (k : Nat) (hk : k < q.1.length) (c : Nat) (hc : c ≤ 300) (hl : q.1[k].2.2.2.length ≤ 1048576) (hy : ∀ y ∈ q.1[k].2.2.2, (0 : Int) ≤ y ∧ y ≤ 300) (v w : Int) (z cp res : PROG) (A B : Int) (C : ByteArray) :
    loopF L1_spec_TakeFn (v, w, (c : Int), (k : Int), (0 : Int), q, z, cp, res, (A, (B, (C, []))), ()) = some (v, w, (c : Int), (k : Int), q, z, cp, res, (A, (B, (C, q.1[k].2.2.2.map fun y => y + (c : Int)))), ()) := by
  have hrd : rd q.1 (k : Int) ((0 : Int), ((0 : Int), ((⟨#[]⟩ : ByteArray), []))) = q.1[k] := rd_nat hk
  exact loopF_push (step := L1_spec_TakeFn) q.1[k].2.2.2 (fun y => y + (c : Int)) (fun i o => (v, w, (c : Int), (k : Int), (i : Int), q, z, cp, res, (A, (B, (C, o))), ())) (fun o => (v, w, (c : Int), (k : Int), q, z, cp, res, (A, (B, (C, o))), ())) (fun i hi o ho => by
    have h1 := hy _ (List.getElem_mem hi)
    have hw : IntKind.wrap .i64 (q.1[k].2.2.2[i] + (c : Int)) = q.1[k].2.2.2[i] + (c : Int) := wrap64 (by omega) (by omega)
    simp only [L1_spec_TakeFn, idx_run hk, hrd, lt_cast hi, decide_true, cond_true, idx_run hi, rd_nat hi, hw, le8 (show o.length ≤ 1048576 by omega), Option.map_some, wrapSucc (show i < 9223372036854775807 by omega)]) (fun o ho => by
    simp only [L1_spec_TakeFn, idx_run hk, hrd, not_lt_self, decide_false, cond_false, Option.map_some])
theorem s_take2 (p q : PROG) (hp : p.1.length ≤ 300) (hq : q.1.length ≤ 300) (hl : ∀ x ∈ q.1, (x : NODE).2.2.2.length ≤ 1048576 ∧ ∀ y ∈ (x : NODE).2.2.2, (0 : Int) ≤ y ∧ y ≤ 300) (v w : Int) (z cp : PROG) :
    loopF L2_spec_TakeFn (v, w, (p.1.length : Int), (0 : Int), q, z, cp, p, ()) = some (v, w, (p.1.length : Int), q, z, cp, (joinN p.1 q.1, p.2), ()) := by
  have h := loopF_push (step := L2_spec_TakeFn) q.1 (shN p.1.length) (fun k o => (v, w, (p.1.length : Int), (k : Int), q, z, cp, (p.1 ++ o, p.2), ())) (fun o => (v, w, (p.1.length : Int), q, z, cp, (p.1 ++ o, p.2), ())) (fun k hk o ho => by
    obtain ⟨h1, h2⟩ := hl _ (List.getElem_mem hk)
    have hrd : rd q.1 (k : Int) ((0 : Int), ((0 : Int), ((⟨#[]⟩ : ByteArray), []))) = q.1[k] := rd_nat hk
    simp only [L2_spec_TakeFn, lt_cast hk, decide_true, cond_true, idx_run hk, hrd, Option.bind_some, s_take1 q k hk p.1.length hp h1 h2, joinP_some, le56 (show (p.1 ++ o).length ≤ 1048576 by rw [List.length_append]; omega), Option.map_some, wrapSucc (show k < 9223372036854775807 by omega), List.append_assoc]
    rfl) (fun o ho => by
    simp only [L2_spec_TakeFn, not_lt_self, decide_false, cond_false, Option.map_some])
  simp only [List.append_nil] at h
  exact h
theorem i_take1 (x : NODE) (c : Nat) (hc : c ≤ 300) (hl : x.2.2.2.length ≤ 1048576) (hy : ∀ y ∈ x.2.2.2, (0 : Int) ≤ y ∧ y ≤ 300) (v w n k cut : Int) (ns : List NODE) (a b z res : PROG) :
    loopF L1_impl_TakeFn (v, w, (c : Int), (ns, cut), n, k, (x.2.2.2.length : Int), (0 : Int), a, b, z, res, x, ()) = some (v, w, (c : Int), (ns, cut), n, k, a, b, z, res, shN c x, ()) := by
  exact loopF_map (step := L1_impl_TakeFn) x.2.2.2 (fun y => y + (c : Int)) (fun i o => (v, w, (c : Int), (ns, cut), n, k, (x.2.2.2.length : Int), (i : Int), a, b, z, res, (x.1, (x.2.1, (x.2.2.1, o))), ())) (fun o => (v, w, (c : Int), (ns, cut), n, k, a, b, z, res, (x.1, (x.2.1, (x.2.2.1, o))), ())) (fun i hi o ho hg => by
    have h1 := hy _ (List.getElem_mem hi)
    have hio : i < o.length := by omega
    have hw : IntKind.wrap .i64 (o[i] + (c : Int)) = x.2.2.2[i] + (c : Int) := by rw [hg]; exact wrap64 (by omega) (by omega)
    simp only [L1_impl_TakeFn, lt_cast hi, decide_true, cond_true, idx_run hio, rd_nat hio, hw, Int.toNat_natCast, bindD, Option.map_some, wrapSucc (show i < 9223372036854775807 by omega)]) (fun o ho => by
    simp only [L1_impl_TakeFn, not_lt_self, decide_false, cond_false, Option.map_some])
theorem i_take2 (p q : PROG) (hp : p.1.length ≤ 300) (hq : q.1.length ≤ 300) (hl : ∀ x ∈ q.1, (x : NODE).2.2.2.length ≤ 1048576 ∧ ∀ y ∈ (x : NODE).2.2.2, (0 : Int) ≤ y ∧ y ≤ 300) (v w : Int) (a b z : PROG) :
    loopF L2_impl_TakeFn (v, w, (p.1.length : Int), (q.1, (0 : Int)), (q.1.length : Int), (0 : Int), a, b, z, p, ()) = some (v, w, (p.1.length : Int), a, b, z, (joinN p.1 q.1, p.2), ()) := by
  have h := loopF_push (step := L2_impl_TakeFn) q.1 (shN p.1.length) (fun k o => (v, w, (p.1.length : Int), (q.1, (k : Int)), (q.1.length : Int), (k : Int), a, b, z, (p.1 ++ o, p.2), ())) (fun o => (v, w, (p.1.length : Int), a, b, z, (p.1 ++ o, p.2), ())) (fun k hk o ho => by
    obtain ⟨h1, h2⟩ := hl _ (List.getElem_mem hk)
    have hrd : rd q.1 (k : Int) ((0 : Int), ((0 : Int), ((⟨#[]⟩ : ByteArray), []))) = q.1[k] := rd_nat hk
    have hb : ∀ {α : Type} {K : Option α}, (Cnd.both (Cnd.idx (k : Int) (List.length q.1)) (Cnd.cut (k : Int) (k : Int) (List.length q.1))).run K = K := fun {α} {K} => by
      simp only [Cnd.run]
      rw [if_pos ⟨by omega, by omega⟩, if_pos ⟨by omega, by omega, by omega⟩]
    have hc : (k : Int) + 1 = ((k + 1 : Nat) : Int) := by omega
    have hw : IntKind.wrap .i64 ((k + 1 : Nat) : Int) = ((k + 1 : Nat) : Int) := wrap64 (by omega) (by omega)
    simp only [L2_impl_TakeFn, lt_cast hk, decide_true, cond_true, hb, hrd, Option.bind_some, i_take1 q.1[k] p.1.length hp h1 h2, joinP_some, le56 (show (p.1 ++ o).length ≤ 1048576 by rw [List.length_append]; omega), Option.map_some, hc, hw, List.append_assoc]) (fun o ho => by
    simp only [L2_impl_TakeFn, not_lt_self, decide_false, cond_false, Option.map_some])
  simp only [List.append_nil] at h
  exact h
end Go.Proofs.YtgkgfpbdodafaaaDoorE

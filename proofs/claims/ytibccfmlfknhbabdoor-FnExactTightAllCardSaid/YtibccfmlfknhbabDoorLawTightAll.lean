/- The law FnExactTightAll, the plain part. No condition beyond the law's own bounds. -/
import Derived.Test.YtibccfmlfknhbabDoorLawTight
import Derived.Test.YtibccfmlfknhbabDoorLawMX
set_option linter.all false
namespace Go.Proofs.YtibccfmlfknhbabDoorE
set_option linter.all false
set_option maxRecDepth 100000
namespace TightAll
open Classical in
noncomputable def tg (c : CODE) : CODE := if h : wt t_Code c ≤ 1048576 then (Tight.both c h).choose else c
theorem tg_ok (c : CODE) (h : wt t_Code c ≤ 1048576) : spec_Tightened c = some (tg c, ()) ∧ impl_Tightened c = some (tg c, ()) ∧ wt t_Code (tg c) ≤ wt t_Code c := by
  unfold tg
  rw [dif_pos h]
  exact (Tight.both c h).choose_spec
theorem wt_mem {l : List CODE} (h : (l.map (wt t_Code)).sum ≤ 1048576) {k : Nat} (hk : k < l.length) : wt t_Code l[k] ≤ 1048576 := by
  have := sum_mem (f := wt t_Code) hk
  omega
theorem le72 {α : Type} {o : List CODE} {c : CODE} {K : Option α} (h : o.length ≤ 1048576) : (Cnd.le ((o.length + List.length [c]) * 72) 140737488355328).run K = K :=
  le_run (by simp only [List.length_cons, List.length_nil]; omega)
theorem allS (l : List CODE) (hl : l.length ≤ 1048576) (hw : (l.map (wt t_Code)).sum ≤ 1048576) : spec_TightAll l = some (l.map tg, ()) := by
  have h := loopF_push (step := L1_spec_TightAll) l tg (fun k o => (l, o, (k : Int), ())) (fun o => (o, ())) (fun k hk o ho => by
    simp only [L1_spec_TightAll, lt_cast hk, decide_true, cond_true, idx_run hk, rd_nat hk, (tg_ok _ (wt_mem hw hk)).1, Option.bind_some, le72 (show o.length ≤ 1048576 by omega), Option.map_some, wrapSucc (show k < 9223372036854775807 by omega)]) (fun o ho => by
    simp only [L1_spec_TightAll, not_lt_self, decide_false, cond_false, Option.map_some])
  have h' : loopF L1_spec_TightAll (l, [], (0 : Int), ()) = _ := h
  simp only [spec_TightAll, Option.bind_some, h', joinP_some]
theorem allI (l : List CODE) (hl : l.length ≤ 1048576) (hw : (l.map (wt t_Code)).sum ≤ 1048576) : impl_TightAll l = some (l.map tg, ()) := by
  have h := loopF_push (step := L1_impl_TightAll) l tg (fun k o => (o, l, (l.length : Int), (k : Int), ())) (fun o => (o, ())) (fun k hk o ho => by
    simp only [L1_impl_TightAll, lt_cast hk, decide_true, cond_true, idx_run hk, rd_nat hk, (tg_ok _ (wt_mem hw hk)).2.1, Option.bind_some, le72 (show o.length ≤ 1048576 by omega), Option.map_some, wrapSucc (show k < 9223372036854775807 by omega)]) (fun o ho => by
    simp only [L1_impl_TightAll, not_lt_self, decide_false, cond_false, Option.map_some])
  have h' : loopF L1_impl_TightAll ([], l, (l.length : Int), (0 : Int), ()) = _ := h
  simp only [impl_TightAll, Option.bind_some, h', joinP_some]
theorem sum_le (l : List CODE) (h : (l.map (wt t_Code)).sum ≤ 1048576) : ((l.map tg).map (wt t_Code)).sum ≤ (l.map (wt t_Code)).sum := by
  induction l with
  | nil => exact Nat.le_refl _
  | cons c l ih =>
    simp only [List.map_cons, List.sum_cons] at h ⊢
    have h1 := (tg_ok c (by omega)).2.2
    have h2 := ih (by omega)
    omega
theorem pure (c : List CODE) (hb : Bnd (.list 0 t_Code) c) : laws_FnExactTightAll c = some (true, ()) := by
  simp only [laws_FnExactTightAll]
  rw [ok_laws_szCodeS c 1048576 hb (by decide) (by decide)]
  by_cases hw : (wt (.list 0 t_Code) c : Int) ≤ 1048576
  case neg => rw [if_neg hw]; simp
  rw [if_pos hw]
  have hbig : big = 1048576 := rfl
  have h : wt (.list 0 t_Code) c ≤ big := by omega
  have e : wt (.list 0 t_Code) c = c.length + (c.map (wt t_Code)).sum := rfl
  have e' : wt (.list 0 t_Code) (c.map tg) = (c.map tg).length + ((c.map tg).map (wt t_Code)).sum := rfl
  have hs := sum_le c (by omega)
  have hS := allS c (by omega) (by omega)
  have hI := allI c (by omega) (by omega)
  rw [List.length_map] at e'
  have hd' : wt (.list 0 t_Code) (c.map tg) ≤ big := by omega
  generalize c.map tg = d at hd' hS hI
  have e1 : laws_eqCodeS d d = some (true, ()) := by rw [ok_laws_eqCodeS _ _ hd']; simp
  have e2 : laws_eqCodeS c c = some (true, ()) := by rw [ok_laws_eqCodeS _ _ h]; simp
  obtain ⟨k1, p1, a1, b1, c1, d1⟩ := ok_laws_markCodeS c 1 (by omega)
  obtain ⟨k2, p2, a2, b2, c2, d2⟩ := ok_laws_markCodeS d 1 (by omega)
  have n1 : ¬ ((k1 : Int) < 0) := by omega
  have n2 : ¬ ((k2 : Int) < 0) := by omega
  have a1' : laws_markCodeS c (1 : Int) = _ := a1
  have a2' : laws_markCodeS d (1 : Int) = _ := a2
  have d2' : laws_heldCodeS p2 (1 : Int) = _ := d2
  simp only [Option.bind_some, show ¬ ((1048576 : Int) - (wt (.list 0 t_Code) c : Int) < 0) by omega, decide_false, cond_false, ok_laws_toCodeS c h, hS, hI, e1, e2, Bool.not_true, a1', a2', d2', n1, n2, joinP_some, ne_eq, not_true_eq_false]
end TightAll
end Go.Proofs.YtibccfmlfknhbabDoorE

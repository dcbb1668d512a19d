/- Threaded, as the program has it and as the reference has it, lets the same jumps lead to the same words. No condition beyond each lemma's own. -/
import Derived.Test.YtibccfmlfknhbabDoorLawCopy
set_option linter.all false
namespace Go.Proofs.YtibccfmlfknhbabDoorE
set_option linter.all false
set_option maxRecDepth 100000
namespace Threaded

def op (l : List INS) (t : Int) : Int := (rd l t zI).1
def num (l : List INS) (t : Int) : Int := (rd l t zI).2.2.2.2.1
/-- Where jumps lead, n at most. -/
def chase (l : List INS) : Nat → Int → Option Int
  | 0, _ => none
  | n + 1, t => if op l t = 18 then chase l n (num l t) else some t
def hop (l : List INS) : Nat → Int → Int
  | 0, t => t
  | n + 1, t => if op l t = 18 then hop l n (num l t) else t
theorem chase_hop (l : List INS) : ∀ (n : Nat) (t : Int), chase l (n + 1) t = if op l (hop l n t) = 18 then none else some (hop l n t)
  | 0, t => rfl
  | n + 1, t => by
    rw [chase, hop]
    by_cases h : op l t = 18
    · rw [if_pos h, if_pos h]; exact chase_hop l n _
    · rw [if_neg h, if_neg h, if_neg h]
def thr (l : List INS) (w : INS) : INS := if w.1 = 18 ∨ w.1 = 19 then (match chase l (l.length + 1) w.2.2.2.2.1 with | some t => (w.1, (w.2.1, (w.2.2.1, (w.2.2.2.1, (t, (w.2.2.2.2.2.1, w.2.2.2.2.2.2)))))) | none => w) else w
theorem jmp_at {l : List INS} (h : Jmp l) {t : Nat} (ht : t < l.length) (ho : op l (t : Int) = 18) : ∃ u : Nat, num l (t : Int) = (u : Int) ∧ u < l.length := by
  simp only [op, num, rd_nat ht] at ho ⊢
  exact h _ (List.getElem_mem ht) (.inl ho)
theorem endOf_loop (c : CODE) (h : Jmp c.2.2.2) (hl : c.2.2.2.length ≤ 1048576) (N : Nat) (hN : N ≤ 2000000) : ∀ (m k t : Nat), k + m = N → t < c.2.2.2.length → loopF L1_impl_endOf ((t : Int), (N : Int), (k : Int), c, ()) = some (match chase c.2.2.2 m t with | some t => .inr (t, true, ()) | none => .inl ())
  | 0, k, t, hk, ht => by
    obtain rfl : k = N := by omega
    refine loopF_inr ?_
    simp only [L1_impl_endOf, not_lt_self, decide_false, cond_false, Option.map_some, chase]
  | m + 1, k, t, hk, ht => by
    have hkN : k < N := by omega
    by_cases ho : op c.2.2.2 (t : Int) = 18
    · obtain ⟨u, hu, hul⟩ := jmp_at h ht ho
      have ho' : (c.2.2.2[t]).1 = 18 := by simpa only [op, rd_nat ht] using ho
      have hu' : (c.2.2.2[t]).2.2.2.2.1 = (u : Int) := by simpa only [num, rd_nat ht] using hu
      have := endOf_loop c h hl N hN m (k + 1) u (by omega) hul
      rw [chase, if_pos ho, hu, ← this]
      refine loopF_inl ?_
      simp only [L1_impl_endOf, lt_cast hkN, decide_true, cond_true, idx_run ht, rd_nat ht, ho', hu', ne_eq, not_true_eq_false, decide_false, cond_false, Option.map_some, wrapSucc (show k < 9223372036854775807 by omega)]
    · have ho' : ¬ (c.2.2.2[t]).1 = 18 := by simpa only [op, rd_nat ht] using ho
      rw [chase, if_neg ho]
      refine loopF_inr ?_
      simp only [L1_impl_endOf, lt_cast hkN, decide_true, cond_true, idx_run ht, rd_nat ht, ho', ne_eq, not_false_eq_true, Option.map_some]
theorem endOf_ok (c : CODE) (h : Jmp c.2.2.2) (hl : c.2.2.2.length ≤ 1048576) (t : Nat) (ht : t < c.2.2.2.length) : impl_endOf c (t : Int) = some (match chase c.2.2.2 (c.2.2.2.length + 1) t with | some t => (t, true, ()) | none => (0, false, ())) := by
  have h0 := endOf_loop c h hl (c.2.2.2.length + 1) (by omega) (c.2.2.2.length + 1) 0 t (by omega) ht
  have h0' : loopF L1_impl_endOf ((t : Int), ((c.2.2.2.length + 1 : Nat) : Int), (0 : Int), c, ()) = _ := h0
  simp only [impl_endOf, wrapSucc (show c.2.2.2.length < 9223372036854775807 by omega), Option.bind_some, h0']
  cases chase c.2.2.2 (c.2.2.2.length + 1) (t : Int) <;> rfl
theorem hop_loop (c z o : CODE) (i : Int) (h : Jmp c.2.2.2) (hl : c.2.2.2.length ≤ 1048576) : ∀ (m k t : Nat), k + m = c.2.2.2.length → t < c.2.2.2.length → ∃ u : Nat, u < c.2.2.2.length ∧ hop c.2.2.2 m t = (u : Int) ∧ loopF L1_spec_Threaded (i, (t : Int), (k : Int), c, z, o, ()) = some (i, (u : Int), c, z, o, ())
  | 0, k, t, hk, ht => by
    obtain rfl : k = c.2.2.2.length := by omega
    refine ⟨t, ht, rfl, loopF_inr ?_⟩
    simp only [L1_spec_Threaded, not_lt_self, decide_false, cond_false, joinP_some, Option.map_some]
  | m + 1, k, t, hk, ht => by
    have hkN : k < c.2.2.2.length := by omega
    by_cases ho : op c.2.2.2 (t : Int) = 18
    · obtain ⟨u, hu, hul⟩ := jmp_at h ht ho
      have ho' : (c.2.2.2[t]).1 = 18 := by simpa only [op, rd_nat ht] using ho
      have hu' : (c.2.2.2[t]).2.2.2.2.1 = (u : Int) := by simpa only [num, rd_nat ht] using hu
      obtain ⟨v, h1, h2, h3⟩ := hop_loop c z o i h hl m (k + 1) u (by omega) hul
      refine ⟨v, h1, by rw [hop, if_pos ho, hu]; exact h2, ?_⟩
      rw [← h3]
      refine loopF_inl ?_
      simp only [L1_spec_Threaded, lt_cast hkN, decide_true, cond_true, idx_run ht, rd_nat ht, ho', hu', joinP_some, Option.map_some, wrapSucc (show k < 9223372036854775807 by omega)]
    · have ho' : ¬ (c.2.2.2[t]).1 = 18 := by simpa only [op, rd_nat ht] using ho
      refine ⟨t, ht, by rw [hop, if_neg ho], loopF_inr ?_⟩
      simp only [L1_spec_Threaded, lt_cast hkN, decide_true, cond_true, idx_run ht, rd_nat ht, ho', decide_false, cond_false, joinP_some, Option.map_some]
theorem set_self {l : List INS} {k : Nat} (h : k < l.length) : l.set k l[k] = l := List.set_getElem_self h
theorem spec_loop (c z : CODE) (h : Jmp c.2.2.2) (hl : c.2.2.2.length ≤ 1048576) : loopF L2_spec_Threaded ((0 : Int), c, z, c, ()) = some (z, (c.1, (c.2.1, (c.2.2.1, c.2.2.2.map (thr c.2.2.2)))), ()) := by
  exact loopF_map (step := L2_spec_Threaded) c.2.2.2 (thr c.2.2.2) (fun k o => ((k : Int), c, z, (c.1, (c.2.1, (c.2.2.1, o))), ())) (fun o => (z, (c.1, (c.2.1, (c.2.2.1, o))), ())) (fun k hk o ho hg => by
    have hko : k < o.length := by omega
    have wk := wrapSucc (show k < 9223372036854775807 by omega)
    by_cases hj : (c.2.2.2[k]).1 = 18 ∨ (c.2.2.2[k]).1 = 19
    · obtain ⟨t, ht, htl⟩ := h _ (List.getElem_mem hk) hj
      obtain ⟨u, hul, hu, hloop⟩ := hop_loop c z (c.1, (c.2.1, (c.2.2.1, o))) (k : Int) h hl c.2.2.2.length 0 t (by omega) htl
      have hloop' : loopF L1_spec_Threaded ((k : Int), (t : Int), (0 : Int), c, z, (c.1, (c.2.1, (c.2.2.1, o))), ()) = _ := hloop
      have hthr : thr c.2.2.2 c.2.2.2[k] = if op c.2.2.2 (u : Int) = 18 then c.2.2.2[k] else ((c.2.2.2[k]).1, ((c.2.2.2[k]).2.1, ((c.2.2.2[k]).2.2.1, ((c.2.2.2[k]).2.2.2.1, ((u : Int), ((c.2.2.2[k]).2.2.2.2.2.1, (c.2.2.2[k]).2.2.2.2.2.2)))))) := by
        rw [thr, if_pos hj, ht, chase_hop, hu]
        by_cases ho : op c.2.2.2 (u : Int) = 18
        · rw [if_pos ho, if_pos ho]
        · rw [if_neg ho, if_neg ho]
      have hrd : rd o (k : Int) zI = c.2.2.2[k] := by rw [rd_nat hko, hg]
      rw [hthr]
      have fin : (joinP (bif decide (op c.2.2.2 (u : Int) ≠ 18) then (Cnd.idx (k : Int) (List.length o)).run (bindD (t := t_Code) ((c.1, (c.2.1, (c.2.2.1, List.set o (k : Int).toNat ((rd o (k : Int) zI).1, ((rd o (k : Int) zI).2.1, ((rd o (k : Int) zI).2.2.1, ((rd o (k : Int) zI).2.2.2.1, ((u : Int), (rd o (k : Int) zI).2.2.2.2.2)))))))) : CODE) fun v8 => some ((k : Int), c, z, v8, ())) else some ((k : Int), c, z, ((c.1, (c.2.1, (c.2.2.1, o))) : CODE), ())) fun x9 => some (x9.1, x9.2.1, x9.2.2.1, x9.2.2.2.1, ())) =
          some ((k : Int), c, z, ((c.1, (c.2.1, (c.2.2.1, o.set k (if op c.2.2.2 (u : Int) = 18 then c.2.2.2[k] else ((c.2.2.2[k]).1, ((c.2.2.2[k]).2.1, ((c.2.2.2[k]).2.2.1, ((c.2.2.2[k]).2.2.2.1, ((u : Int), ((c.2.2.2[k]).2.2.2.2.2.1, (c.2.2.2[k]).2.2.2.2.2.2)))))))))) : CODE), ()) := by
        by_cases ho : op c.2.2.2 (u : Int) = 18
        · rw [if_pos ho, ← hg, set_self hko, decide_eq_false (by simpa using ho), cond_false]; rfl
        · rw [if_neg ho, decide_eq_true (by simpa using ho), cond_true, idx_run hko, hrd]; rfl
      have tail : ∀ y, (some ((k : Int), c, z, y, ()) : Option (Int × CODE × CODE × CODE × Unit)) = some ((k : Int), c, z, y, ()) → joinP (some ((k : Int), c, z, y, ())) (fun x10 : Int × CODE × CODE × CODE × Unit => Option.map (Sum.inl (β := CODE × CODE × Unit)) (some (IntKind.wrap .i64 (x10.1 + 1), x10.2.1, x10.2.2.1, x10.2.2.2.1, ()))) = some (.inl (((k + 1 : Nat) : Int), c, z, y, ())) := fun y _ => by
        simp only [joinP_some, wk, Option.map_some]
      have go := (congrArg (fun v => joinP v (fun x10 : Int × CODE × CODE × CODE × Unit => Option.map (Sum.inl (β := CODE × CODE × Unit)) (some (IntKind.wrap .i64 (x10.1 + 1), x10.2.1, x10.2.2.1, x10.2.2.2.1, ())))) fin).trans (tail _ rfl)
      simp only [rd_nat hul, hrd] at go
      rcases hj with e | e
      · have d18 : decide ((c.2.2.2[k]).1 ≠ 18) = false := by simp [e]
        simp only [L2_spec_Threaded, lt_cast hk, decide_true, cond_true, rd_nat hk, idx_run hk, d18, cond_false, joinP_some, ht, Option.bind_some, hloop', idx_run hul, hrd]
        exact go
      · have d18 : decide ((c.2.2.2[k]).1 ≠ 18) = true := by simp [e]
        have d19 : decide ((c.2.2.2[k]).1 ≠ 19) = false := by simp [e]
        simp only [L2_spec_Threaded, lt_cast hk, decide_true, cond_true, rd_nat hk, idx_run hk, d18, d19, cond_false, joinP_some, ht, Option.bind_some, hloop', idx_run hul, hrd]
        exact go
    · have hthr : thr c.2.2.2 c.2.2.2[k] = c.2.2.2[k] := by rw [thr, if_neg hj]
      have h18 : ¬ (c.2.2.2[k]).1 = 18 := fun e => hj (.inl e)
      have h19 : ¬ (c.2.2.2[k]).1 = 19 := fun e => hj (.inr e)
      rw [hthr, ← hg, set_self hko]
      simp only [L2_spec_Threaded, lt_cast hk, decide_true, cond_true, rd_nat hk, idx_run hk, h18, h19, ne_eq, not_false_eq_true, joinP_some, wk, Option.map_some]) (fun o ho => by
    simp only [L2_spec_Threaded, not_lt_self, decide_false, cond_false, Option.map_some])
theorem impl_loop (c z : CODE) (h : Jmp c.2.2.2) (hl : c.2.2.2.length ≤ 1048576) : loopF L1_impl_Threaded ((c.2.2.2.length : Int), (0 : Int), c, z, c, ()) = some (z, (c.1, (c.2.1, (c.2.2.1, c.2.2.2.map (thr c.2.2.2)))), ()) := by
  exact loopF_map (step := L1_impl_Threaded) c.2.2.2 (thr c.2.2.2) (fun k o => ((c.2.2.2.length : Int), (k : Int), c, z, (c.1, (c.2.1, (c.2.2.1, o))), ())) (fun o => (z, (c.1, (c.2.1, (c.2.2.1, o))), ())) (fun k hk o ho hg => by
    have hko : k < o.length := by omega
    have wk := wrapSucc (show k < 9223372036854775807 by omega)
    have hrd : rd o (k : Int) zI = c.2.2.2[k] := by rw [rd_nat hko, hg]
    by_cases hj : (c.2.2.2[k]).1 = 18 ∨ (c.2.2.2[k]).1 = 19
    · obtain ⟨t, ht, htl⟩ := h _ (List.getElem_mem hk) hj
      have he := endOf_ok c h hl t htl
      have fin : ∀ (y : Int × Bool × Unit), y = (match chase c.2.2.2 (c.2.2.2.length + 1) (t : Int) with | some t => (t, true, ()) | none => (0, false, ())) → (joinP (bif y.2.1 then bindD (t := t_Code) ((c.1, (c.2.1, (c.2.2.1, List.set o (k : Int).toNat ((c.2.2.2[k]).1, ((c.2.2.2[k]).2.1, ((c.2.2.2[k]).2.2.1, ((c.2.2.2[k]).2.2.2.1, (y.1, (c.2.2.2[k]).2.2.2.2.2)))))))) : CODE) fun v8 => some ((c.2.2.2.length : Int), (k : Int), c, z, v8, ()) else some ((c.2.2.2.length : Int), (k : Int), c, z, ((c.1, (c.2.1, (c.2.2.1, o))) : CODE), ())) fun x9 => some (x9.1, x9.2.1, x9.2.2.1, x9.2.2.2.1, x9.2.2.2.2.1, ())) =
          some ((c.2.2.2.length : Int), (k : Int), c, z, ((c.1, (c.2.1, (c.2.2.1, o.set k (thr c.2.2.2 c.2.2.2[k])))) : CODE), ()) := by
        rintro y rfl
        rw [thr, if_pos hj, ht]
        cases chase c.2.2.2 (c.2.2.2.length + 1) (t : Int) with
        | some v => rfl
        | none => simp only; rw [← hg, set_self hko]; rfl
      have tail : ∀ y, (some ((k : Int), c, z, y, ()) : Option (Int × CODE × CODE × CODE × Unit)) = some ((k : Int), c, z, y, ()) → joinP (some ((c.2.2.2.length : Int), (k : Int), c, z, y, ())) (fun x10 : Int × Int × CODE × CODE × CODE × Unit => Option.map (Sum.inl (β := CODE × CODE × Unit)) (some (x10.1, IntKind.wrap .i64 (x10.2.1 + 1), x10.2.2.1, x10.2.2.2.1, x10.2.2.2.2.1, ()))) = some (.inl ((c.2.2.2.length : Int), ((k + 1 : Nat) : Int), c, z, y, ())) := fun y _ => by
        simp only [joinP_some, wk, Option.map_some]
      have go := (congrArg (fun v => joinP v (fun x10 : Int × Int × CODE × CODE × CODE × Unit => Option.map (Sum.inl (β := CODE × CODE × Unit)) (some (x10.1, IntKind.wrap .i64 (x10.2.1 + 1), x10.2.2.1, x10.2.2.2.1, x10.2.2.2.2.1, ())))) (fin _ rfl)).trans (tail _ rfl)
      rcases hj with e | e
      · have d18 : decide ((c.2.2.2[k]).1 ≠ 18) = false := by simp [e]
        simp only [L1_impl_Threaded, lt_cast hk, decide_true, cond_true, hrd, idx_run hko, d18, cond_false, joinP_some, ht, Option.bind_some, he]
        exact go
      · have d18 : decide ((c.2.2.2[k]).1 ≠ 18) = true := by simp [e]
        have d19 : decide ((c.2.2.2[k]).1 ≠ 19) = false := by simp [e]
        simp only [L1_impl_Threaded, lt_cast hk, decide_true, cond_true, hrd, idx_run hko, d18, d19, cond_false, joinP_some, ht, Option.bind_some, he]
        exact go
    · have hthr : thr c.2.2.2 c.2.2.2[k] = c.2.2.2[k] := by rw [thr, if_neg hj]
      have h18 : ¬ (c.2.2.2[k]).1 = 18 := fun e => hj (.inl e)
      have h19 : ¬ (c.2.2.2[k]).1 = 19 := fun e => hj (.inr e)
      have hs : o.set k (thr c.2.2.2 c.2.2.2[k]) = o := by rw [hthr, ← hg, set_self hko]
      rw [hs]
      simp only [L1_impl_Threaded, lt_cast hk, decide_true, cond_true, hrd, idx_run hko, h18, h19, ne_eq, not_false_eq_true, joinP_some, wk, Option.map_some]) (fun o ho => by
    simp only [L1_impl_Threaded, not_lt_self, decide_false, cond_false, Option.map_some])
noncomputable def val (c : CODE) : CODE := bif codeOk c then (c.1, (c.2.1, (c.2.2.1, c.2.2.2.map (thr c.2.2.2)))) else c
theorem spec_ok (c : CODE) (h : FineC c) : spec_Threaded c = some (val c, ()) := by
  simp only [spec_Threaded, spec_copy c h, spec_CodeOk_ok c h, Option.bind_some, val]
  cases hc : codeOk c
  · simp only [Bool.not_false, cond_true, cond_false]
  · simp only [Bool.not_true, cond_false, cond_true, spec_loop c _ (jmp_of hc) h.s.w, joinP_some]
theorem impl_ok (c : CODE) (h : FineC c) : impl_Threaded c = some (val c, ()) := by
  simp only [impl_Threaded, impl_copy c h, impl_CodeOk_ok c h, Option.bind_some, val]
  cases hc : codeOk c
  · simp only [Bool.not_false, cond_true, cond_false]
  · simp only [Bool.not_true, cond_false, cond_true, impl_loop c _ (jmp_of hc) h.s.w, joinP_some]
theorem thr_wt (l : List INS) (w : INS) : wt t_Ins (thr l w) = wt t_Ins w := by
  unfold thr
  split
  · split
    · rfl
    · rfl
  · rfl
theorem val_wt (c : CODE) : wt t_Code (val c) = wt t_Code c := by
  unfold val
  cases codeOk c
  · rfl
  · simp only [cond_true, wt_code, List.length_map, List.map_map]
    have : (wt t_Ins ∘ thr c.2.2.2) = wt t_Ins := funext fun w => thr_wt _ w
    rw [this]
end Threaded
end Go.Proofs.YtibccfmlfknhbabDoorE

/- Trimmed, as the program has it and as the reference has it. No condition beyond each lemma's own. -/
import Derived.Test.YtibccfmlfknhbabDoorLawReach
set_option linter.all false
namespace Go.Proofs.YtibccfmlfknhbabDoorE
set_option linter.all false
set_option maxRecDepth 100000
namespace Trimmed
abbrev zC : CODE := ((⟨#[]⟩ : ByteArray), ((0 : Int), ([], [])))
def keep (R : List Bool) (l : List INS) (i : Nat) : Bool := decide ((i : Int) = (l.length : Int) - 1) || (rd R (i : Int) false && !(decide ((rd l (i : Int) zI).1 = 18) && decide ((rd l (i : Int) zI).2.2.2.2.1 = ((i + 1 : Nat) : Int))))
abbrev TS := List Int × List INS
def cut (R : List Bool) (l : List INS) (s : TS) (i : Nat) : TS := (s.1 ++ [(s.2.length : Int)], bif keep R l i then s.2 ++ [rd l (i : Int) zI] else s.2)
def TI (l : List INS) (k : Nat) (s : TS) : Prop := s.1.length = k ∧ s.2.length ≤ k ∧ (∀ w ∈ s.2, w ∈ l) ∧ (s.2.map (wt t_Ins)).sum ≤ ((l.take k).map (wt t_Ins)).sum
theorem TI.step {R : List Bool} {l : List INS} {k : Nat} {s : TS} (h : TI l k s) (hk : k < l.length) : TI l (k + 1) (cut R l s k) := by
  obtain ⟨h1, h2, h3, h4⟩ := h
  have e : ((l.take (k + 1)).map (wt t_Ins)).sum = ((l.take k).map (wt t_Ins)).sum + wt t_Ins l[k] := by
    rw [List.take_succ_eq_append_getElem hk, List.map_append, List.sum_append]
    rfl
  unfold cut
  refine ⟨by simp only [List.length_append, List.length_cons, List.length_nil, h1], ?_, ?_, ?_⟩
  · cases keep R l k
    · simp only [cond_false]; omega
    · simp only [cond_true, List.length_append, List.length_cons, List.length_nil]; omega
  · cases keep R l k
    · simp only [cond_false]; exact h3
    · simp only [cond_true]
      intro w hw
      rcases List.mem_append.1 hw with hw | hw
      · exact h3 w hw
      · rw [List.mem_singleton.1 hw, rd_nat hk]; exact List.getElem_mem hk
  · rw [e, rd_nat hk]
    cases keep R l k
    · simp only [cond_false]; omega
    · simp only [cond_true, List.map_append, List.sum_append, List.map_cons, List.map_nil, List.sum_cons, List.sum_nil]; omega
def cuts (R : List Bool) (l : List INS) : TS := (List.range l.length).foldl (cut R l) ([], [])
theorem cutsS (c : CODE) (h : FineC c) (R : List Bool) (hR : R.length = c.2.2.2.length) (h1 : 1 ≤ c.2.2.2.length) (z : CODE) (a : ByteArray) (b : Int) (d : List Int) :
    loopF L1_spec_Trimmed (R, (c.2.2.2.length : Int) - 1, [], (0 : Int), c, z, (a, (b, (d, []))), ()) = some ((cuts R c.2.2.2).1, z, (a, (b, (d, (cuts R c.2.2.2).2))), ()) ∧ TI c.2.2.2 c.2.2.2.length (cuts R c.2.2.2) := by
  have hw := h.s.w
  have hr : (List.range c.2.2.2.length).length = c.2.2.2.length := List.length_range
  have H := loopF_fold (step := L1_spec_Trimmed) (List.range c.2.2.2.length) (cut R c.2.2.2) (fun i s => (R, (c.2.2.2.length : Int) - 1, s.1, (i : Int), c, z, (a, (b, (d, s.2))), ())) (fun s => (s.1, z, (a, (b, (d, s.2))), ())) (TI c.2.2.2) (fun k hk s hs => by
    have hk' : k < c.2.2.2.length := by omega
    rw [List.getElem_range]
    refine ⟨?_, hs.step hk'⟩
    obtain ⟨s1, s2, s3, _⟩ := hs
    have wk := wrapSucc (show k < 9223372036854775807 by omega)
    have hkR : k < R.length := by omega
    have l1 : ∀ {α : Type} {K : Option α}, (Cnd.le ((s.1.length + List.length [(s.2.length : Int)]) * 8) 140737488355328).run K = K := fun {α} {K} => le_run (by simp only [List.length_cons, List.length_nil]; omega)
    have l2 : ∀ (w : INS) {α : Type} {K : Option α}, (Cnd.le ((s.2.length + List.length [w]) * 80) 140737488355328).run K = K := fun w {α} {K} => le_run (by simp only [List.length_cons, List.length_nil]; omega)
    have ha := h.a _ (List.getElem_mem hk')
    have l3 : ∀ {α : Type} {K : Option α}, (Cnd.le ((List.length ([] : List Int) + (c.2.2.2[k]).2.2.2.2.2.2.length) * 8) 140737488355328).run K = K := fun {α} {K} => nil_le (by omega)
    simp only [L1_spec_Trimmed, show (k : Int) ≤ (c.2.2.2.length : Int) - 1 by omega, decide_true, cond_true, l1, idx_run hk', idx_run hkR, cut, keep, rd_nat hk', wk]
    generalize c.2.2.2[k] = w at l3
    cases decide ((k : Int) = (c.2.2.2.length : Int) - 1) <;> cases rd R (k : Int) false <;> cases decide (w.1 = 18) <;> cases decide (w.2.2.2.2.1 = ((k + 1 : Nat) : Int)) <;>
      simp only [cond_true, cond_false, joinP_some, l2, l3, List.nil_append, Option.map_some, wk, Bool.not_true, Bool.not_false, Bool.true_or, Bool.false_or, Bool.and_self, Bool.and_true, Bool.and_false, Bool.true_and, Bool.false_and]) (fun s hs => by
    rw [hr]
    simp only [L1_spec_Trimmed, show ¬ ((c.2.2.2.length : Int) ≤ (c.2.2.2.length : Int) - 1) by omega, decide_false, cond_false, Option.map_some]) ([], []) ⟨rfl, Nat.le_refl _, (fun w hw => by cases hw), Nat.le_refl _⟩
  rw [hr] at H
  exact H
theorem set_rep {l : List Int} {W : Nat} (hl : l.length < W) (v : Int) : (l ++ List.replicate (W - l.length) (0 : Int)).set l.length v = (l ++ [v]) ++ List.replicate (W - (l ++ [v]).length) (0 : Int) := by
  rw [List.set_append_right _ _ (Nat.le_refl _), Nat.sub_self]
  have e : W - l.length = (W - (l ++ [v]).length) + 1 := by simp only [List.length_append, List.length_cons, List.length_nil]; omega
  rw [e, List.replicate_succ, List.set_cons_zero, List.append_assoc]
  rfl
theorem cutsI (c : CODE) (h : FineC c) (R : List Bool) (hR : R.length = c.2.2.2.length) (z y : CODE) :
    loopF L1_impl_Trimmed (R, (c.2.2.2.length : Int) - 1, List.replicate c.2.2.2.length (0 : Int), [], (c.2.2.2, (0 : Int)), (c.2.2.2.length : Int), (0 : Int), z, y, ()) = some ((cuts R c.2.2.2).1, (cuts R c.2.2.2).2, z, y, ()) := by
  have hw := h.s.w
  have hr : (List.range c.2.2.2.length).length = c.2.2.2.length := List.length_range
  have H := loopF_fold (step := L1_impl_Trimmed) (List.range c.2.2.2.length) (cut R c.2.2.2) (fun i s => (R, (c.2.2.2.length : Int) - 1, s.1 ++ List.replicate (c.2.2.2.length - s.1.length) (0 : Int), s.2, (c.2.2.2, (i : Int)), (c.2.2.2.length : Int), (i : Int), z, y, ())) (fun s => (s.1 ++ List.replicate (c.2.2.2.length - s.1.length) (0 : Int), s.2, z, y, ())) (TI c.2.2.2) (fun k hk s hs => by
    have hk' : k < c.2.2.2.length := by omega
    rw [List.getElem_range]
    refine ⟨?_, hs.step hk'⟩
    obtain ⟨s1, s2, s3, _⟩ := hs
    have wk := wrapSucc (show k < 9223372036854775807 by omega)
    have hkR : k < R.length := by omega
    have hset : (s.1 ++ List.replicate (c.2.2.2.length - s.1.length) (0 : Int)).set k (s.2.length : Int) = (s.1 ++ [(s.2.length : Int)]) ++ List.replicate (c.2.2.2.length - (s.1 ++ [(s.2.length : Int)]).length) (0 : Int) := by
      have := set_rep (l := s.1) (W := c.2.2.2.length) (by omega) (s.2.length : Int)
      rwa [show ∀ v, (s.1 ++ List.replicate (c.2.2.2.length - s.1.length) (0 : Int)).set s.1.length v = (s.1 ++ List.replicate (c.2.2.2.length - s.1.length) (0 : Int)).set k v from fun v => congrArg (fun n => (s.1 ++ List.replicate (c.2.2.2.length - s.1.length) (0 : Int)).set n v) s1] at this
    have hpl : k < (s.1 ++ List.replicate (c.2.2.2.length - s.1.length) (0 : Int)).length := by simp only [List.length_append, List.length_replicate]; omega
    have l2 : ∀ (w : INS) {α : Type} {K : Option α}, (Cnd.le ((s.2.length + List.length [w]) * 80) 140737488355328).run K = K := fun w {α} {K} => le_run (by simp only [List.length_cons, List.length_nil]; omega)
    have hq : ∀ {α : Type} {K : Option α}, (Cnd.both (Cnd.idx (k : Int) (List.length c.2.2.2)) (Cnd.cut (k : Int) (k : Int) (List.length c.2.2.2))).run K = K := fun {α} {K} => by
      simp only [Cnd.run]
      rw [if_pos (by omega), if_pos (by omega)]
    have ek : (k : Int) + 1 = ((k + 1 : Nat) : Int) := by omega
    have wk2 : IntKind.wrap .i64 ((k + 1 : Nat) : Int) = ((k + 1 : Nat) : Int) := wrap64 (by omega) (by omega)
    simp only [L1_impl_Trimmed, lt_cast hk', decide_true, cond_true, hq, idx_run hpl, bindD, Int.toNat_natCast, idx_run hkR, cut, keep, rd_nat hk', wk, ek, wk2]
    rw [hset]
    generalize c.2.2.2[k] = w
    generalize (s.1 ++ [(s.2.length : Int)]) ++ List.replicate (c.2.2.2.length - (s.1 ++ [(s.2.length : Int)]).length) (0 : Int) = pl
    cases e1 : decide ((k : Int) = (c.2.2.2.length : Int) - 1) <;> cases rd R (k : Int) false <;> cases decide (w.1 = 18) <;> cases decide (w.2.2.2.2.1 = ((k + 1 : Nat) : Int)) <;>
      simp only [e1, cond_true, cond_false, joinP_some, l2, Option.map_some, wk, ek, wk2, Bool.not_true, Bool.not_false, Bool.true_or, Bool.false_or, Bool.and_self, Bool.and_true, Bool.and_false, Bool.true_and, Bool.false_and]) (fun s hs => by
    rw [hr]
    simp only [L1_impl_Trimmed, not_lt_self, decide_false, cond_false, Option.map_some]) ([], []) ⟨rfl, Nat.le_refl _, (fun w hw => by cases hw), Nat.le_refl _⟩
  obtain ⟨H1, H2, H3, H4⟩ := H
  have e : (cuts R c.2.2.2).1.length = c.2.2.2.length := by rw [← hr]; exact H2
  have H1' : loopF L1_impl_Trimmed (R, (c.2.2.2.length : Int) - 1, List.replicate c.2.2.2.length (0 : Int), [], (c.2.2.2, (0 : Int)), (c.2.2.2.length : Int), (0 : Int), z, y, ()) = some ((cuts R c.2.2.2).1 ++ List.replicate (c.2.2.2.length - (cuts R c.2.2.2).1.length) (0 : Int), (cuts R c.2.2.2).2, z, y, ()) := H1
  rw [H1', e, Nat.sub_self, List.replicate_zero, List.append_nil]
def put (at_ : List Int) (w : INS) : INS := bif decide (w.1 = 18) || decide (w.1 = 19) then (w.1, (w.2.1, (w.2.2.1, (w.2.2.2.1, (rd at_ w.2.2.2.2.1 (0 : Int), w.2.2.2.2.2))))) else w
theorem put_wt (at_ : List Int) (w : INS) : wt t_Ins (put at_ w) = wt t_Ins w := by
  unfold put
  cases decide (w.1 = 18) || decide (w.1 = 19) <;> rfl
theorem putsS (at_ : List Int) (z : CODE) (a : ByteArray) (b : Int) (d : List Int) (l : List INS) (hl : l.length ≤ 1048576) (hj : ∀ w ∈ l, (w : INS).1 = 18 ∨ (w : INS).1 = 19 → ∃ t : Nat, (w : INS).2.2.2.2.1 = (t : Int) ∧ t < at_.length) :
    loopF L2_spec_Trimmed (at_, (0 : Int), z, (a, (b, (d, l))), ()) = some (z, (a, (b, (d, l.map (put at_)))), ()) := by
  refine loopF_map (step := L2_spec_Trimmed) l (put at_) (fun k o => (at_, (k : Int), z, (a, (b, (d, o))), ())) (fun o => (z, (a, (b, (d, o))), ())) (fun k hk o ho he => ?_) (fun o ho => ?_)
  · have hk' : k < o.length := by omega
    have hm := hj _ (List.getElem_mem hk)
    have wk := wrapSucc (show k < 9223372036854775807 by omega)
    have hkl : ((k : Nat) : Int) < (o.length : Int) := by omega
    have hself : o.set k l[k] = o := by rw [← he, List.set_getElem_self]
    simp only [L2_spec_Trimmed, hkl, decide_true, cond_true, idx_run hk', rd_nat hk', he, put, Int.toNat_natCast, bindD]
    generalize l[k] = w at hm he hself ⊢
    by_cases h18 : w.1 = 18
    · obtain ⟨t, ht, htl⟩ := hm (.inl h18)
      simp only [h18, decide_true, cond_true, joinP_some, idx_run hk', rd_nat hk', he, ht, idx_run htl, Bool.true_or, Option.map_some, wk, Int.toNat_natCast]
    · by_cases h19 : w.1 = 19
      · obtain ⟨t, ht, htl⟩ := hm (.inr h19)
        simp only [h19, show ¬ ((19 : Int) = 18) by decide, decide_true, decide_false, cond_true, cond_false, joinP_some, idx_run hk', rd_nat hk', he, Int.toNat_natCast, ht, idx_run htl, Bool.or_true, Option.map_some, wk]
      · simp only [h18, h19, decide_false, cond_false, joinP_some, Bool.or_self, Option.map_some, wk, hself]
  · simp only [L2_spec_Trimmed, ho, not_lt_self, decide_false, cond_false, Option.map_some]
theorem putsI (at_ : List Int) (z y : CODE) (l : List INS) (hl : l.length ≤ 1048576) (hj : ∀ w ∈ l, (w : INS).1 = 18 ∨ (w : INS).1 = 19 → ∃ t : Nat, (w : INS).2.2.2.2.1 = (t : Int) ∧ t < at_.length) :
    loopF L2_impl_Trimmed (at_, l, (l.length : Int), (0 : Int), z, y, ()) = some (l.map (put at_), z, y, ()) := by
  refine loopF_map (step := L2_impl_Trimmed) l (put at_) (fun k o => (at_, o, (l.length : Int), (k : Int), z, y, ())) (fun o => (o, z, y, ())) (fun k hk o ho he => ?_) (fun o ho => ?_)
  · have hk' : k < o.length := by omega
    have hm := hj _ (List.getElem_mem hk)
    have wk := wrapSucc (show k < 9223372036854775807 by omega)
    have hself : o.set k l[k] = o := by rw [← he, List.set_getElem_self]
    simp only [L2_impl_Trimmed, lt_cast hk, decide_true, cond_true, idx_run hk', rd_nat hk', he, put, Int.toNat_natCast, bindD]
    generalize l[k] = w at hm he hself ⊢
    by_cases h18 : w.1 = 18
    · obtain ⟨t, ht, htl⟩ := hm (.inl h18)
      simp only [h18, decide_true, cond_true, joinP_some, rd_nat hk', he, ht, idx_run htl, Bool.true_or, Option.map_some, wk, Int.toNat_natCast]
    · by_cases h19 : w.1 = 19
      · obtain ⟨t, ht, htl⟩ := hm (.inr h19)
        simp only [h19, show ¬ ((19 : Int) = 18) by decide, decide_true, decide_false, cond_true, cond_false, joinP_some, rd_nat hk', he, ht, idx_run htl, Bool.or_true, Option.map_some, wk, Int.toNat_natCast]
      · simp only [h18, h19, decide_false, cond_false, joinP_some, Bool.or_self, Option.map_some, wk, hself]
  · simp only [L2_impl_Trimmed, not_lt_self, decide_false, cond_false, Option.map_some]
def trim (R : List Bool) (c : CODE) : CODE := (c.1, (c.2.1, (c.2.2.1, (cuts R c.2.2.2).2.map (put (cuts R c.2.2.2).1))))
theorem no (c : CODE) (h : FineC c) (hok : codeOk c = false) : spec_Trimmed c = some (c, false, ()) ∧ impl_Trimmed c = some (c, false, ()) := by
  refine ⟨?_, ?_⟩
  · simp only [spec_Trimmed, spec_CodeOk_ok c h, hok, Option.bind_some, Bool.not_false, cond_true, spec_copy c h]
  · simp only [impl_Trimmed, impl_CodeOk_ok c h, hok, Option.bind_some, Bool.not_false, cond_true, impl_copy c h]
theorem yes (c : CODE) (h : FineC c) (hok : codeOk c = true) : ∃ R : List Bool, spec_Trimmed c = some (trim R c, true, ()) ∧ impl_Trimmed c = some (trim R c, true, ()) ∧ wt t_Code (trim R c) ≤ wt t_Code c ∧ (trim R c).2.2.2.length ≤ c.2.2.2.length := by
  have hw := h.s.w
  have h1 : 1 ≤ c.2.2.2.length := by
    have hok' := hok
    simp only [codeOk, Bool.and_eq_true, decide_eq_true_eq] at hok'
    exact hok'.2.2.2.1.1
  obtain ⟨R, hR, rS, rI⟩ := reach c h hok
  have hj := jmp_of hok
  obtain ⟨q1, q2, q3, q4, q5⟩ := cutsS c h R hR h1 zC c.1 c.2.1 c.2.2.1
  have hj2 : ∀ w ∈ (cuts R c.2.2.2).2, (w : INS).1 = 18 ∨ (w : INS).1 = 19 → ∃ t : Nat, (w : INS).2.2.2.2.1 = (t : Int) ∧ t < (cuts R c.2.2.2).1.length := fun w hm ho => by
    rw [q2]; exact hj w (q4 w hm) ho
  have pS := putsS (cuts R c.2.2.2).1 zC c.1 c.2.1 c.2.2.1 (cuts R c.2.2.2).2 (by omega) hj2
  have pI := fun y => putsI (cuts R c.2.2.2).1 zC y (cuts R c.2.2.2).2 (by omega) hj2
  have hb : ∀ {α : Type} {K : Option α}, (Cnd.both (Cnd.nn (c.2.2.2.length : Int)) (Cnd.le (c.2.2.2.length * 8) 140737488355328)).run K = K := fun {α} {K} => by
    simp only [Cnd.run]
    rw [if_pos (by omega), if_pos (by omega)]
  refine ⟨R, ?_, ?_, ?_, ?_⟩
  · simp only [spec_Trimmed, spec_CodeOk_ok c h, hok, Option.bind_some, Bool.not_true, cond_false, rS, spec_copy c h, len1 hw, q1, joinP_some, pS, trim]
  · simp only [impl_Trimmed, impl_CodeOk_ok c h, hok, Option.bind_some, Bool.not_true, cond_false, rI, impl_copy c h, Int.toNat_natCast, hb, len1 hw, cutsI c h R hR, joinP_some, pI, trim]
  · have e : (((cuts R c.2.2.2).2.map (put (cuts R c.2.2.2).1)).map (wt t_Ins)) = (cuts R c.2.2.2).2.map (wt t_Ins) := by
      rw [List.map_map]
      exact congrArg (fun f => (cuts R c.2.2.2).2.map f) (funext fun w => put_wt _ w)
    have e1 := wt_code (trim R c)
    have e2 := wt_code c
    rw [List.take_length] at q5
    simp only [trim, List.length_map, e] at e1
    unfold trim
    omega
  · simp only [trim, List.length_map]; exact q3
theorem both (c : CODE) (h : FineC c) : ∃ (d : CODE) (b : Bool), spec_Trimmed c = some (d, b, ()) ∧ impl_Trimmed c = some (d, b, ()) ∧ wt t_Code d ≤ wt t_Code c := by
  cases hok : codeOk c
  · exact ⟨c, false, (no c h hok).1, (no c h hok).2, Nat.le_refl _⟩
  · obtain ⟨R, a1, a2, a3, _⟩ := yes c h hok
    exact ⟨_, _, a1, a2, a3⟩
theorem cuts_all (R : List Bool) (l : List INS) : ∀ k, k ≤ l.length → ((List.range k).foldl (cut R l) ([], [])).1.length = k ∧ ((List.range k).foldl (cut R l) ([], [])).2.length ≤ k ∧
    (((List.range k).foldl (cut R l) ([], [])).2.length = k → ((List.range k).foldl (cut R l) ([], [])).2 = l.take k ∧ ∀ j, j < k → ((List.range k).foldl (cut R l) ([], [])).1.getD j 0 = (j : Int))
  | 0, _ => ⟨rfl, Nat.le_refl _, fun _ => ⟨rfl, fun j hj => absurd hj (Nat.not_lt_zero j)⟩⟩
  | k + 1, hk => by
    obtain ⟨h1, h2, h3⟩ := cuts_all R l k (by omega)
    rw [List.range_succ, List.foldl_append, List.foldl_cons, List.foldl_nil]
    generalize (List.range k).foldl (cut R l) ([], []) = s at h1 h2 h3 ⊢
    unfold cut
    refine ⟨by simp only [List.length_append, List.length_cons, List.length_nil, h1], ?_, ?_⟩
    · cases keep R l k
      · simp only [cond_false]; omega
      · simp only [cond_true, List.length_append, List.length_cons, List.length_nil]; omega
    · cases keep R l k
      · simp only [cond_false]; intro h; omega
      · simp only [cond_true, List.length_append, List.length_cons, List.length_nil]
        intro h
        have hsk : s.2.length = k := by omega
        obtain ⟨g1, g2⟩ := h3 hsk
        refine ⟨?_, fun j hj => ?_⟩
        · rw [g1, rd_nat (show k < l.length by omega), List.take_succ_eq_append_getElem (show k < l.length by omega)]
        · by_cases e : j = k
          · subst e
            simp [List.getElem?_append_right, h1, hsk]
          · have hjk : j < k := by omega
            have := g2 j hjk
            simp only [List.getD_eq_getElem?_getD] at this ⊢
            rw [List.getElem?_append_left (by omega)]
            exact this
theorem trim_same (R : List Bool) (c : CODE) (hj : Jmp c.2.2.2) (hl : (trim R c).2.2.2.length = c.2.2.2.length) : trim R c = c := by
  obtain ⟨h1, h2, h3⟩ := cuts_all R c.2.2.2 c.2.2.2.length (Nat.le_refl _)
  have hl' : (cuts R c.2.2.2).2.length = c.2.2.2.length := by simpa only [trim, List.length_map] using hl
  obtain ⟨g1, g2⟩ := h3 hl'
  rw [List.take_length] at g1
  have e1 : (cuts R c.2.2.2).2 = c.2.2.2 := g1
  have e2 : c.2.2.2.map (put (cuts R c.2.2.2).1) = c.2.2.2 := by
    have : ∀ w ∈ c.2.2.2, put (cuts R c.2.2.2).1 w = w := fun w hw => by
      unfold put
      by_cases hjj : w.1 = 18 ∨ w.1 = 19
      · obtain ⟨t, ht, htl⟩ := hj w hw hjj
        have e : rd (cuts R c.2.2.2).1 w.2.2.2.2.1 (0 : Int) = w.2.2.2.2.1 := by
          rw [ht]; exact g2 t htl
        rw [e]
        cases decide (w.1 = 18) || decide (w.1 = 19) <;> rfl
      · have : (decide (w.1 = 18) || decide (w.1 = 19)) = false := by simpa using hjj
        rw [this]; rfl
    exact (List.map_congr_left this).trans (List.map_id' _)
  unfold trim
  rw [e1, e2]
end Trimmed
end Go.Proofs.YtibccfmlfknhbabDoorE

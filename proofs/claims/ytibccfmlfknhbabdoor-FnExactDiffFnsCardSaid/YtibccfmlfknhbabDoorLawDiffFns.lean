/- The law FnExactDiffFns, the plain part. No condition beyond each lemma's own. -/
import Derived.Test.YtibccfmlfknhbabDoorLawFnEq
import Derived.Test.YtibccfmlfknhbabDoorLawMX
set_option linter.all false
namespace Go.Proofs.YtibccfmlfknhbabDoorE
set_option linter.all false
set_option maxRecDepth 100000
/-- Rounds that look for the first. -/
theorem loopF_find {α β D : Type} {step : β → Option (β ⊕ α)} (l : List D) (q : D → Bool) (S : Nat → β) (rt : Nat → α) (rf : α) (H : ∀ k (h : k < l.length), step (S k) = bif q l[k] then some (.inr (rt k)) else some (.inl (S (k + 1)))) (He : step (S l.length) = some (.inr rf)) :
    loopF step (S 0) = some (match l.findIdx? q with | some i => rt i | none => rf) := by
  have key : ∀ m k, k + m = l.length → loopF step (S k) = some (match (l.drop k).findIdx? q with | some i => rt (k + i) | none => rf) := by
    intro m
    induction m with
    | zero =>
      intro k hk
      obtain rfl : k = l.length := by omega
      rw [loopF_inr He, List.drop_length]; rfl
    | succ m ih =>
      intro k hk
      have hkl : k < l.length := by omega
      have h1 := H k hkl
      rw [List.drop_eq_getElem_cons hkl, List.findIdx?_cons]
      cases hq : q l[k]
      · rw [hq, cond_false] at h1
        rw [loopF_inl h1, ih (k + 1) (by omega)]
        cases hf : (l.drop (k + 1)).findIdx? q with
        | none => simp [hf]
        | some i => simp [hf, Nat.add_assoc, Nat.add_comm 1 i]
      · rw [hq, cond_true] at h1
        rw [loopF_inr h1]; simp
  have := key l.length 0 (by omega)
  rw [List.drop_zero] at this
  rw [this]
  cases l.findIdx? q <;> simp
def fnAt (l : List FN) (s : ByteArray) : Int := match l.findIdx? (fun f => decide (f.1 = s)) with
  | some i => (i : Int)
  | none => -1
theorem spec_FnAt_ok (p : PROG) (hp : FineP p) (s : ByteArray) : spec_FnAt p s = some (fnAt p.2 s, ()) := by
  have hl := hp.f
  have h := loopF_find (step := L1_spec_FnAt) p.2 (fun f => decide (f.1 = s)) (fun k => (s, (k : Int), p, ())) (fun k => .inr ((k : Int), ())) (.inl ()) (fun k hk => by
    simp only [L1_spec_FnAt, lt_cast hk, decide_true, cond_true, idx_run hk, rd_nat hk, wrapSucc (show k < 9223372036854775807 by omega)]
    cases decide (p.2[k].1 = s) <;> rfl) (by
    simp only [L1_spec_FnAt, not_lt_self, decide_false, cond_false, Option.map_some])
  have h' : loopF L1_spec_FnAt (s, (0 : Int), p, ()) = _ := h
  simp only [spec_FnAt, Option.bind_some, h', fnAt]
  cases p.2.findIdx? fun f => decide (f.1 = s) <;> rfl
theorem impl_FnAt_ok (p : PROG) (hp : FineP p) (s : ByteArray) : impl_FnAt p s = some (fnAt p.2 s, ()) := by
  have hl := hp.f
  have h := loopF_find (step := L1_impl_FnAt) p.2 (fun f => decide (f.1 = s)) (fun k => (s, p.2, (p.2.length : Int), (k : Int), ())) (fun k => .inr ((k : Int), ())) (.inl ()) (fun k hk => by
    simp only [L1_impl_FnAt, lt_cast hk, decide_true, cond_true, idx_run hk, rd_nat hk, wrapSucc (show k < 9223372036854775807 by omega)]
    cases decide (p.2[k].1 = s) <;> rfl) (by
    simp only [L1_impl_FnAt, not_lt_self, decide_false, cond_false, Option.map_some])
  have h' : loopF L1_impl_FnAt (s, p.2, (p.2.length : Int), (0 : Int), ()) = _ := h
  simp only [impl_FnAt, Option.bind_some, h', fnAt]
  cases p.2.findIdx? fun f => decide (f.1 = s) <;> rfl
def nm (p : PROG) (i : Nat) : ByteArray := (rd p.2 (i : Int) zF).1
def d1 (p q : PROG) (i : Nat) : Bool := decide (fnAt q.2 (nm p i) < 0) || !sameF p (i : Int) q (fnAt q.2 (nm p i))
def d2 (p q : PROG) (i : Nat) : Bool := decide (fnAt p.2 (nm q i) < 0)
def dG (p : PROG) (d : Nat → Bool) (out : List ByteArray) (i : Nat) : List ByteArray := bif d i then out ++ [nm p i] else out
def diff1 (p q : PROG) : List ByteArray := (List.range p.2.length).foldl (dG p (d1 p q)) []
def diff (p q : PROG) : List ByteArray := (List.range q.2.length).foldl (dG q (d2 p q)) (diff1 p q)
def dI (p : PROG) (b s : Nat) (k : Nat) (out : List ByteArray) : Prop := out.length ≤ b + k ∧ (out.map ByteArray.size).sum ≤ s + ((p.2.take k).map fun f => f.1.size).sum
theorem dI_step (p : PROG) (d : Nat → Bool) (b s k : Nat) (hk : k < p.2.length) (out : List ByteArray) (h : dI p b s k out) : dI p b s (k + 1) (dG p d out k) := by
  obtain ⟨h1, h2⟩ := h
  have e : ((p.2.take (k + 1)).map fun f => f.1.size).sum = ((p.2.take k).map fun f => f.1.size).sum + p.2[k].1.size := by
    rw [List.take_succ_eq_append_getElem hk, List.map_append, List.sum_append]
    rfl
  have en : nm p k = p.2[k].1 := by unfold nm; rw [rd_nat hk]
  unfold dG
  cases d k
  · exact ⟨by simp only [cond_false]; omega, by simp only [cond_false]; omega⟩
  · refine ⟨?_, ?_⟩
    · simp only [cond_true, List.length_append, List.length_cons, List.length_nil]; omega
    · simp only [cond_true, List.map_append, List.sum_append, List.map_cons, List.map_nil, List.sum_cons, List.sum_nil, en]; omega
theorem le16 {α : Type} {out : List ByteArray} {s : ByteArray} {K : Option α} (h : out.length ≤ 4000000) : (Cnd.le ((out.length + List.length [s]) * 16) 140737488355328).run K = K := by
  simp only [Cnd.run]
  rw [if_pos]
  simp only [List.length_cons, List.length_nil]
  omega
theorem loop1S (p q : PROG) (hp : FineP p) (hq : FineP q) : loopF L1_spec_DiffFns ([], (0 : Int), p, q, ()) = some (diff1 p q, p, q, ()) ∧ dI p 0 0 p.2.length (diff1 p q) := by
  have hl := hp.f
  have hr : (List.range p.2.length).length = p.2.length := List.length_range
  have h := loopF_fold (step := L1_spec_DiffFns) (List.range p.2.length) (dG p (d1 p q)) (fun i out => (out, (i : Int), p, q, ())) (fun out => (out, p, q, ())) (dI p 0 0) (fun k hk out hI => by
    have hk' : k < p.2.length := by omega
    rw [List.getElem_range]
    refine ⟨?_, dI_step p _ 0 0 k hk' out hI⟩
    have e : (rd p.2 (k : Int) zF).1 = nm p k := rfl
    have hle : out.length ≤ 4000000 := by have := hI.1; omega
    simp only [L1_spec_DiffFns, lt_cast hk', decide_true, cond_true, idx_run hk', e, spec_FnAt_ok q hq, spec_SameFn_ok p q hp hq, Option.bind_some, wrapSucc (show k < 9223372036854775807 by omega), le16 hle, dG, d1]
    have wi := wrapSucc (show k < 9223372036854775807 by omega)
    cases decide (fnAt q.2 (nm p k) < 0)
    · cases sameF p (k : Int) q (fnAt q.2 (nm p k))
      · simp only [Bool.not_false, Bool.or_true, cond_true, cond_false, joinP_some, idx_run hk', e, le16 hle, Option.map_some, wi]
      · simp only [Bool.not_true, Bool.or_false, Bool.or_self, cond_true, cond_false, joinP_some, Option.map_some, wi]
    · simp only [Bool.true_or, cond_true, joinP_some, idx_run hk', e, le16 hle, Option.map_some, wi]) (fun out hI => by
    rw [hr]
    simp only [L1_spec_DiffFns, not_lt_self, decide_false, cond_false, Option.map_some]) [] ⟨Nat.zero_le _, Nat.zero_le _⟩
  rw [hr] at h
  exact h
theorem loop1I (p q : PROG) (hp : FineP p) (hq : FineP q) : loopF L1_impl_DiffFns ([], p.2, (p.2.length : Int), (0 : Int), p, q, ()) = some (diff1 p q, p, q, ()) := by
  have hl := hp.f
  have hr : (List.range p.2.length).length = p.2.length := List.length_range
  have h := loopF_fold (step := L1_impl_DiffFns) (List.range p.2.length) (dG p (d1 p q)) (fun i out => (out, p.2, (p.2.length : Int), (i : Int), p, q, ())) (fun out => (out, p, q, ())) (dI p 0 0) (fun k hk out hI => by
    have hk' : k < p.2.length := by omega
    rw [List.getElem_range]
    refine ⟨?_, dI_step p _ 0 0 k hk' out hI⟩
    have e : (rd p.2 (k : Int) zF).1 = nm p k := rfl
    have hle : out.length ≤ 4000000 := by have := hI.1; omega
    simp only [L1_impl_DiffFns, lt_cast hk', decide_true, cond_true, idx_run hk', e, impl_FnAt_ok q hq, impl_SameFn_ok p q hp hq, Option.bind_some, wrapSucc (show k < 9223372036854775807 by omega), dG, d1]
    have wi := wrapSucc (show k < 9223372036854775807 by omega)
    cases decide (fnAt q.2 (nm p k) < 0)
    · cases sameF p (k : Int) q (fnAt q.2 (nm p k))
      · simp only [Bool.not_false, Bool.or_true, cond_true, cond_false, joinP_some, e, le16 hle, Option.map_some, wi]
      · simp only [Bool.not_true, Bool.or_false, Bool.or_self, cond_true, cond_false, joinP_some, Option.map_some, wi]
    · simp only [Bool.true_or, cond_true, joinP_some, e, le16 hle, Option.map_some, wi]) (fun out hI => by
    rw [hr]
    simp only [L1_impl_DiffFns, not_lt_self, decide_false, cond_false, Option.map_some]) [] ⟨Nat.zero_le _, Nat.zero_le _⟩
  exact h.1
theorem loop2S (p q : PROG) (hp : FineP p) (hq : FineP q) (o : List ByteArray) (b s : Nat) (hb : b ≤ 1048576) (ho : dI q b s 0 o) : loopF L2_spec_DiffFns (o, (0 : Int), p, q, ()) = some ((List.range q.2.length).foldl (dG q (d2 p q)) o, ()) ∧ dI q b s q.2.length ((List.range q.2.length).foldl (dG q (d2 p q)) o) := by
  have hl := hq.f
  have hr : (List.range q.2.length).length = q.2.length := List.length_range
  have h := loopF_fold (step := L2_spec_DiffFns) (List.range q.2.length) (dG q (d2 p q)) (fun i out => (out, (i : Int), p, q, ())) (fun out => (out, ())) (dI q b s) (fun k hk out hI => by
    have hk' : k < q.2.length := by omega
    rw [List.getElem_range]
    refine ⟨?_, dI_step q _ b s k hk' out hI⟩
    have e : (rd q.2 (k : Int) zF).1 = nm q k := rfl
    have hle : out.length ≤ 4000000 := by have := hI.1; omega
    simp only [L2_spec_DiffFns, lt_cast hk', decide_true, cond_true, idx_run hk', e, spec_FnAt_ok p hp, Option.bind_some, wrapSucc (show k < 9223372036854775807 by omega), le16 hle, dG, d2]
    have wi := wrapSucc (show k < 9223372036854775807 by omega)
    cases decide (fnAt p.2 (nm q k) < 0) <;> simp only [cond_true, cond_false, joinP_some, e, le16 hle, Option.map_some, wi]) (fun out hI => by
    rw [hr]
    simp only [L2_spec_DiffFns, not_lt_self, decide_false, cond_false, Option.map_some]) o ho
  rw [hr] at h
  exact h
theorem loop2I (p q : PROG) (hp : FineP p) (hq : FineP q) (o : List ByteArray) (b s : Nat) (hb : b ≤ 1048576) (ho : dI q b s 0 o) : loopF L2_impl_DiffFns (o, q.2, (q.2.length : Int), (0 : Int), p, ()) = some ((List.range q.2.length).foldl (dG q (d2 p q)) o, ()) := by
  have hl := hq.f
  have hr : (List.range q.2.length).length = q.2.length := List.length_range
  have h := loopF_fold (step := L2_impl_DiffFns) (List.range q.2.length) (dG q (d2 p q)) (fun i out => (out, q.2, (q.2.length : Int), (i : Int), p, ())) (fun out => (out, ())) (dI q b s) (fun k hk out hI => by
    have hk' : k < q.2.length := by omega
    rw [List.getElem_range]
    refine ⟨?_, dI_step q _ b s k hk' out hI⟩
    have e : (rd q.2 (k : Int) zF).1 = nm q k := rfl
    have hle : out.length ≤ 4000000 := by have := hI.1; omega
    simp only [L2_impl_DiffFns, lt_cast hk', decide_true, cond_true, idx_run hk', e, impl_FnAt_ok p hp, Option.bind_some, wrapSucc (show k < 9223372036854775807 by omega), le16 hle, dG, d2]
    have wi := wrapSucc (show k < 9223372036854775807 by omega)
    cases decide (fnAt p.2 (nm q k) < 0) <;> simp only [cond_true, cond_false, joinP_some, e, le16 hle, Option.map_some, wi]) (fun out hI => by
    rw [hr]
    simp only [L2_impl_DiffFns, not_lt_self, decide_false, cond_false, Option.map_some]) o ho
  exact h.1
theorem dI_next (p q : PROG) (o : List ByteArray) (h : dI p 0 0 p.2.length o) : dI q p.2.length ((p.2.map fun f => f.1.size).sum) 0 o := by
  obtain ⟨h1, h2⟩ := h
  rw [List.take_length] at h2
  exact ⟨by omega, by simp only [List.take_zero, List.map_nil, List.sum_nil]; omega⟩
theorem spec_Diff_ok (p q : PROG) (hp : FineP p) (hq : FineP q) : spec_DiffFns p q = some (diff p q, ()) := by
  obtain ⟨h1, h2⟩ := loop1S p q hp hq
  have h3 := (loop2S p q hp hq _ _ _ hp.f (dI_next p q _ h2)).1
  simp only [spec_DiffFns, Option.bind_some, h1, joinP_some, h3, diff]
theorem impl_Diff_ok (p q : PROG) (hp : FineP p) (hq : FineP q) : impl_DiffFns p q = some (diff p q, ()) := by
  have h1 := loop1I p q hp hq
  have h3 := loop2I p q hp hq _ _ _ hp.f (dI_next p q _ (loop1S p q hp hq).2)
  simp only [impl_DiffFns, Option.bind_some, h1, joinP_some, h3, diff]
theorem fn_sum (l : List FN) : (l.map fun f => f.1.size).sum ≤ (l.map (wt t_Fn)).sum := by
  induction l with
  | nil => exact Nat.le_refl _
  | cons x l ih =>
    simp only [List.map_cons, List.sum_cons]
    have := wt_fn x
    omega
theorem diff_wt (p q : PROG) (hp : FineP p) (hq : FineP q) : wt (.list 0 .str) (diff p q) ≤ wt t_Program p + wt t_Program q := by
  have h1 := (loop1S p q hp hq).2
  have h2 := (loop2S p q hp hq _ _ _ hp.f (dI_next p q _ h1)).2
  obtain ⟨h3, h4⟩ := h2
  rw [List.take_length] at h4
  have e : wt (.list 0 .str) (diff p q) = (diff p q).length + ((diff p q).map ByteArray.size).sum := rfl
  have e2 : (List.range q.2.length).foldl (dG q (d2 p q)) (diff1 p q) = diff p q := rfl
  rw [e2] at h3 h4
  have a1 := wt_prog p
  have a2 := wt_prog q
  have a3 := fn_sum p.2
  have a4 := fn_sum q.2
  omega
namespace DiffFns
theorem pure (c d : PROG) (hb : Bnd t_Program c) (hd : Bnd t_Program d) : laws_FnExactDiffFns c d = some (true, ()) := by
  simp only [laws_FnExactDiffFns]
  rw [ok_laws_szProgram c 1048576 hb (by decide) (by decide)]
  by_cases hw : (wt t_Program c : Int) ≤ 1048576
  case neg => rw [if_neg hw]; simp
  rw [if_pos hw]
  simp only [Option.bind_some, show ¬ ((1048576 : Int) - (wt t_Program c : Int) < 0) by omega, decide_false, cond_false]
  rw [ok_laws_szProgram d _ hd (by omega) (by omega)]
  by_cases hv : (wt t_Program d : Int) ≤ 1048576 - (wt t_Program c : Int)
  case neg => rw [if_neg hv]; simp
  rw [if_pos hv]
  have hbig : big = 1048576 := rfl
  have h1 : wt t_Program c ≤ big := by omega
  have h2 : wt t_Program d ≤ big := by omega
  have f1 := finep_of c (by omega)
  have f2 := finep_of d (by omega)
  have e1 : laws_eqProgram c c = some (true, ()) := by rw [ok_laws_eqProgram _ _ h1]; simp
  have e2 : laws_eqProgram d d = some (true, ()) := by rw [ok_laws_eqProgram _ _ h2]; simp
  have hwt := diff_wt c d f1 f2
  have e3 : laws_eqStringS (diff c d) (diff c d) = some (true, ()) := by rw [ok_laws_eqStringS _ _ (by omega)]; simp
  obtain ⟨k1, p1, a1, b1, c1, _⟩ := ok_laws_markProgram c 1 (by omega)
  obtain ⟨k2, p2, a2, b2, c2, _⟩ := ok_laws_markProgram d k1 (by omega)
  obtain ⟨k3, p3, a3, b3, c3, m3⟩ := ok_laws_markStringS (diff c d) 1 (by omega)
  have a1' : laws_markProgram c (1 : Int) = _ := a1
  have a3' : laws_markStringS (diff c d) (1 : Int) = _ := a3
  have m3' : laws_heldStringS p3 (1 : Int) = _ := m3
  have n2 : ¬ ((k2 : Int) < 0) := by omega
  have n3 : ¬ ((k3 : Int) < 0) := by omega
  simp only [Option.bind_some, show ¬ ((1048576 : Int) - (wt t_Program c : Int) - (wt t_Program d : Int) < 0) by omega, decide_false, cond_false, ok_laws_toProgram c h1, ok_laws_toProgram d h2, spec_Diff_ok c d f1 f2, impl_Diff_ok c d f1 f2, e1, e2, e3, Bool.not_true, a1', a2, a3', m3', n2, n3, joinP_some, ne_eq, not_true_eq_false]
end DiffFns
end Go.Proofs.YtibccfmlfknhbabDoorE

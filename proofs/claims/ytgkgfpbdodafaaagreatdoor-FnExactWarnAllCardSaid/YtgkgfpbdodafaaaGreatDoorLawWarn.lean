/- What is odd in a function: the program's reckoning and the reference's. No condition beyond each lemma's own. -/
import Derived.Test.YtgkgfpbdodafaaaGreatDoorLawUnused
import Derived.Test.YtgkgfpbdodafaaaGreatDoorLawConst
set_option linter.all false
namespace Go.Proofs.YtgkgfpbdodafaaaGreatDoorE
set_option linter.all false
set_option maxRecDepth 100000
abbrev WARN := Int × (Int × ByteArray)
abbrev eB : ByteArray := ⟨#[]⟩
def w2 (p : PROG) (fn k : Int) (o : List WARN) : List WARN := bif sbB p k then o ++ [((2 : Int), (fn, eB))] else o
def w3 (p : PROG) (fn k : Int) (o : List WARN) : List WARN := bif decide ((rd p.1 k zN).1 = 17) && decide (((rd p.1 ((rd p.1 k zN).2.2.2.getD 1 0) zN).2.2.2.length : Int) = 0) then o ++ [((3 : Int), (fn, eB))] else o
def w4 (p : PROG) (fn k : Int) (o : List WARN) : List WARN := bif (decide ((rd p.1 k zN).1 = 16) || decide ((rd p.1 k zN).1 = 17)) && (cnst p.1 ((rd p.1 k zN).2.2.2.getD 0 0)).2 then o ++ [((4 : Int), (fn, itb (cnst p.1 ((rd p.1 k zN).2.2.2.getD 0 0)).1))] else o
def wStep (p : PROG) (fn : Int) (o : List WARN) (k : Int) : List WARN := w4 p fn k (w3 p fn k (w2 p fn k o))
theorem w2_len (p : PROG) (fn k : Int) (o : List WARN) : (w2 p fn k o).length ≤ o.length + 1 := by unfold w2; cases sbB p k <;> simp
theorem w3_len (p : PROG) (fn k : Int) (o : List WARN) : (w3 p fn k o).length ≤ o.length + 1 := by unfold w3; cases decide ((rd p.1 k zN).1 = 17) && decide (((rd p.1 ((rd p.1 k zN).2.2.2.getD 1 0) zN).2.2.2.length : Int) = 0) <;> simp
theorem w4_len (p : PROG) (fn k : Int) (o : List WARN) : (w4 p fn k o).length ≤ o.length + 1 := by unfold w4; cases (decide ((rd p.1 k zN).1 = 16) || decide ((rd p.1 k zN).1 = 17)) && (cnst p.1 ((rd p.1 k zN).2.2.2.getD 0 0)).2 <;> simp
theorem wStep_len (p : PROG) (fn k : Int) (o : List WARN) : (wStep p fn o k).length ≤ o.length + 3 := by
  have h1 := w2_len p fn k o
  have h2 := w3_len p fn k (w2 p fn k o)
  have h3 := w4_len p fn k (w3 p fn k (w2 p fn k o))
  unfold wStep
  omega
def w0 (p : PROG) (fn : Int) : List WARN := (unusedV p fn).map fun s => ((1 : Int), (fn, s))
def warnFn (p : PROG) (fn : Int) : List WARN := bif namesRight p && fnIn p fn then (undL p.1 (rd p.2 fn zF).2.2.2.1).foldl (wStep p fn) (w0 p fn) else []
theorem warn_oneS (p : PROG) (fn : Int) (l : List ByteArray) (hl : l.length ≤ 2097152) : loopF L1_spec_WarnFn (fn, [], l, (0 : Int), p, ()) = some (fn, l.map (fun s => ((1 : Int), (fn, s))), p, ()) := by
  have h := loopF_push (step := L1_spec_WarnFn) l (fun s => ((1 : Int), (fn, s))) (fun i o => (fn, o, l, (i : Int), p, ())) (fun o => (fn, o, p, ())) (fun i hi o ho => by
    simp only [L1_spec_WarnFn, lt_cast hi, decide_true, cond_true, idx_run hi, rd_nat hi]
    rw [le_run (by simp; omega)]
    simp only [Option.map_some, wrapSucc (show i < 9223372036854775807 by omega)]) (fun o ho => by
    simp only [L1_spec_WarnFn, not_lt_self, decide_false, cond_false, Option.map_some])
  exact h
theorem warn_oneI (p : PROG) (fn : Int) (l : List ByteArray) (hl : l.length ≤ 2097152) : loopF L1_impl_WarnFn (fn, [], l, (l.length : Int), (0 : Int), p, ()) = some (fn, l.map (fun s => ((1 : Int), (fn, s))), p, ()) := by
  have h := loopF_push (step := L1_impl_WarnFn) l (fun s => ((1 : Int), (fn, s))) (fun i o => (fn, o, l, (l.length : Int), (i : Int), p, ())) (fun o => (fn, o, p, ())) (fun i hi o ho => by
    simp only [L1_impl_WarnFn, lt_cast hi, decide_true, cond_true, idx_run hi, rd_nat hi]
    rw [le_run (by simp; omega)]
    simp only [Option.map_some, wrapSucc (show i < 9223372036854775807 by omega)]) (fun o ho => by
    simp only [L1_impl_WarnFn, not_lt_self, decide_false, cond_false, Option.map_some])
  exact h
theorem joinP_assoc {α β γ : Type} (x : Option α) (f : α → Option β) (g : β → Option γ) : joinP (joinP x f) g = joinP x fun a => joinP (f a) g := by cases x <;> rfl
structure IW (p : PROG) (k : Int) : Prop where
  a : (0 : Int) < deepAt p.1 ((rd p.1 k zN).2.2.2.getD 0 0)
  b : (0 : Int) < deepAt p.1 ((rd p.1 k zN).2.2.2.getD 1 0)
  l : 2 ≤ (rd p.1 k zN).2.2.2.length
theorem iw_of {p : PROG} {k : Int} (h : (0 : Int) < deepAt p.1 k) (hk : (rd p.1 k zN).1 = 16 ∨ (rd p.1 k zN).1 = 17) : IW p k := by
  have h1 := nk_len (deepAt_pos h).2.1
  have h2 : 2 ≤ (rd p.1 k zN).2.2.2.length := by
    rcases hk with hk | hk <;> rw [hk] at h1
    · have e : kr 16 = (3, 3) := rfl
      rw [e] at h1; simp only at h1; omega
    · have e : kr 17 = (2, 2) := rfl
      rw [e] at h1; simp only at h1; omega
  exact ⟨(deep_kid h (by omega)).1, (deep_kid h (by omega)).1, h2⟩
theorem warn_stepS (p : PROG) (hp : FineP p) (fn : Int) (l : List Int) (hl : l.length ≤ 300) (hd : ∀ x ∈ l, (0 : Int) < deepAt p.1 x) (i : Nat) (hi : i < l.length) (o : List WARN) (ho : o.length ≤ 4000000) :
    L2_spec_WarnFn (fn, o, l, (i : Int), p, ()) = some (.inl (fn, wStep p fn o l[i], l, ((i + 1 : Nat) : Int), p, ())) := by
  have hk := hd _ (List.getElem_mem hi)
  have hr := (deepAt_pos hk).1
  have wi := wrapSucc (show i < 9223372036854775807 by omega)
  have sS := (sb_both p hp.n l[i]).1
  have l2 := w2_len p fn l[i] o
  have l3 := w3_len p fn l[i] (w2 p fn l[i] o)
  simp only [L2_spec_WarnFn, lt_cast hi, decide_true, cond_true, idx_run hi, rd_nat hi, idx_range hr, sS, Option.bind_some]
  have e2 : (bif sbB p l[i] then (Cnd.le ((List.length o + List.length [((2 : Int), (fn, (⟨#[]⟩ : ByteArray)))]) * 32) 140737488355328).run (some (fn, o ++ [((2 : Int), (fn, (⟨#[]⟩ : ByteArray)))], l, (i : Int), p, rd p.1 l[i] Z5, ())) else some (fn, o, l, (i : Int), p, rd p.1 l[i] Z5, ())) = some (fn, w2 p fn l[i] o, l, (i : Int), p, rd p.1 l[i] zN, ()) := by
    unfold w2
    cases sbB p l[i]
    · rfl
    · simp only [cond_true]
      rw [le_run (by simp; omega)]
  rw [e2, joinP_some]
  unfold wStep
  generalize hO : w2 p fn l[i] o = o2 at l2 l3
  by_cases h17 : (rd p.1 l[i] zN).1 = 17
  · have I := iw_of hk (.inr h17)
    have q1 : (0 : Int) ≤ 1 ∧ (1 : Int) < ((rd p.1 l[i] zN).2.2.2.length : Int) := by have := I.l; omega
    have q0 : (0 : Int) ≤ 0 ∧ (0 : Int) < ((rd p.1 l[i] zN).2.2.2.length : Int) := by have := I.l; omega
    have g0 : rd (rd p.1 l[i] zN).2.2.2 (0 : Int) (0 : Int) = (rd p.1 l[i] zN).2.2.2.getD 0 0 := rfl
    have g1 : rd (rd p.1 l[i] zN).2.2.2 (1 : Int) (0 : Int) = (rd p.1 l[i] zN).2.2.2.getD 1 0 := rfl
    have hc := spec_Const_ok p.1 I.a
    have hcr := cnst_rng I.a
    have hD := spec_Decimal_ok (cnst p.1 ((rd p.1 l[i] zN).2.2.2.getD 0 0)).1 (by omega) (by omega)
    simp only [h17, decide_true, cond_true, idx_range q1, g1, idx_range (deepAt_pos I.b).1, joinP_some]
    have e3 : (bif decide (((rd p.1 ((rd p.1 l[i] zN).2.2.2.getD 1 0) zN).2.2.2.length : Int) = 0) then (Cnd.le ((List.length o2 + List.length [((3 : Int), (fn, (⟨#[]⟩ : ByteArray)))]) * 32) 140737488355328).run (some (fn, o2 ++ [((3 : Int), (fn, (⟨#[]⟩ : ByteArray)))], l, (i : Int), p, rd p.1 l[i] zN, ())) else some (fn, o2, l, (i : Int), p, rd p.1 l[i] zN, ())) = some (fn, w3 p fn l[i] o2, l, (i : Int), p, rd p.1 l[i] zN, ()) := by
      unfold w3
      rw [decide_eq_true h17, Bool.true_and]
      cases decide (((rd p.1 ((rd p.1 l[i] zN).2.2.2.getD 1 0) zN).2.2.2.length : Int) = 0)
      · rfl
      · simp only [cond_true]
        rw [le_run (by simp; omega)]
    rw [e3, joinP_some]
    generalize w3 p fn l[i] o2 = o3 at l3
    simp only [h17, show ((17 : Int) = 16) = False from by decide, decide_false, decide_true, cond_true, cond_false, joinP_some, idx_range q0, g0, hc, Option.bind_some]
    unfold w4
    rw [decide_eq_true h17, Bool.or_true, Bool.true_and]
    cases (cnst p.1 ((rd p.1 l[i] zN).2.2.2.getD 0 0)).2
    · simp only [cond_false, joinP_some, Option.map_some, wi]
    · simp only [cond_true, hD, Option.bind_some]
      rw [le_run (by simp; omega)]
      simp only [joinP_some, Option.map_some, wi]
  · simp only [h17, decide_false, cond_false, joinP_some]
    have e3 : w3 p fn l[i] o2 = o2 := by unfold w3; rw [decide_eq_false h17]; rfl
    rw [e3]
    by_cases h16 : (rd p.1 l[i] zN).1 = 16
    · have I := iw_of hk (.inl h16)
      have q0 : (0 : Int) ≤ 0 ∧ (0 : Int) < ((rd p.1 l[i] zN).2.2.2.length : Int) := by have := I.l; omega
      have g0 : rd (rd p.1 l[i] zN).2.2.2 (0 : Int) (0 : Int) = (rd p.1 l[i] zN).2.2.2.getD 0 0 := rfl
      have hc := spec_Const_ok p.1 I.a
      have hcr := cnst_rng I.a
      have hD := spec_Decimal_ok (cnst p.1 ((rd p.1 l[i] zN).2.2.2.getD 0 0)).1 (by omega) (by omega)
      simp only [h16, decide_true, cond_true, joinP_some, idx_range q0, g0, hc, Option.bind_some]
      unfold w4
      rw [decide_eq_true h16, Bool.true_or, Bool.true_and]
      cases (cnst p.1 ((rd p.1 l[i] zN).2.2.2.getD 0 0)).2
      · simp only [cond_false, joinP_some, Option.map_some, wi]
      · simp only [cond_true, hD, Option.bind_some]
        rw [le_run (by simp; omega)]
        simp only [joinP_some, Option.map_some, wi]
    · simp only [h16, decide_false, cond_false, joinP_some, h17, Option.map_some, wi]
      unfold w4
      rw [decide_eq_false h16, decide_eq_false h17]
      rfl
theorem warn_stepI (p : PROG) (hp : FineP p) (fn n : Int) (l : List Int) (hn : n = (l.length : Int)) (hl : l.length ≤ 300) (hd : ∀ x ∈ l, (0 : Int) < deepAt p.1 x) (i : Nat) (hi : i < l.length) (o : List WARN) (ho : o.length ≤ 4000000) :
    L2_impl_WarnFn (fn, o, l, n, (i : Int), p, ()) = some (.inl (fn, wStep p fn o l[i], l, n, ((i + 1 : Nat) : Int), p, ())) := by
  subst hn
  have hk := hd _ (List.getElem_mem hi)
  have hr := (deepAt_pos hk).1
  have wi := wrapSucc (show i < 9223372036854775807 by omega)
  have sI := (sb_both p hp.n l[i]).2
  have l2 := w2_len p fn l[i] o
  have l3 := w3_len p fn l[i] (w2 p fn l[i] o)
  simp only [L2_impl_WarnFn, lt_cast hi, decide_true, cond_true, idx_run hi, rd_nat hi, idx_range hr]
  by_cases hno : ¬ (rd p.1 l[i] zN).1 = 16 ∧ ¬ (rd p.1 l[i] zN).1 = 17
  · obtain ⟨h16, h17⟩ := hno
    simp only [h16, h17, ne_eq, not_false_eq_true, decide_true, cond_true, joinP_some, Option.map_some, wi]
    unfold wStep w4 w3 w2
    rw [sb_16 h16, decide_eq_false h16, decide_eq_false h17]
    rfl
  have hkk : (rd p.1 l[i] zN).1 = 16 ∨ (rd p.1 l[i] zN).1 = 17 := by omega
  have I := iw_of hk hkk
  have q1 : (0 : Int) ≤ 1 ∧ (1 : Int) < ((rd p.1 l[i] zN).2.2.2.length : Int) := by have := I.l; omega
  have q0 : (0 : Int) ≤ 0 ∧ (0 : Int) < ((rd p.1 l[i] zN).2.2.2.length : Int) := by have := I.l; omega
  have g0 : rd (rd p.1 l[i] zN).2.2.2 (0 : Int) (0 : Int) = (rd p.1 l[i] zN).2.2.2.getD 0 0 := rfl
  have g1 : rd (rd p.1 l[i] zN).2.2.2 (1 : Int) (0 : Int) = (rd p.1 l[i] zN).2.2.2.getD 1 0 := rfl
  have hc := impl_Const_ok p I.a
  have hcr := cnst_rng I.a
  have hD := impl_Decimal_ok (cnst p.1 ((rd p.1 l[i] zN).2.2.2.getD 0 0)).1 (by omega) (by omega)
  have e1 : (bif decide ((rd p.1 l[i] zN).1 ≠ (16 : Int)) then some (fn, o, l[i], l, (l.length : Int), (i : Int), decide ((rd p.1 l[i] zN).1 ≠ (17 : Int)), p, rd p.1 l[i] zN, ()) else some (fn, o, l[i], l, (l.length : Int), (i : Int), false, p, rd p.1 l[i] zN, ())) = some (fn, o, l[i], l, (l.length : Int), (i : Int), false, p, rd p.1 l[i] zN, ()) := by
    rcases hkk with h | h
    · simp only [h, ne_eq, not_true_eq_false, decide_false, cond_false]
    · simp only [h, ne_eq, not_true_eq_false, decide_false]
      cases decide (¬ ((17 : Int) = 16)) <;> rfl
  rw [e1, joinP_some]
  simp only [cond_false, sI, Option.bind_some]
  have e2 : (bif sbB p l[i] then (Cnd.le ((List.length o + List.length [((2 : Int), (fn, (⟨#[]⟩ : ByteArray)))]) * 32) 140737488355328).run (some (fn, o ++ [((2 : Int), (fn, (⟨#[]⟩ : ByteArray)))], l, (l.length : Int), (i : Int), p, rd p.1 l[i] zN, ())) else some (fn, o, l, (l.length : Int), (i : Int), p, rd p.1 l[i] zN, ())) = some (fn, w2 p fn l[i] o, l, (l.length : Int), (i : Int), p, rd p.1 l[i] zN, ()) := by
    unfold w2
    cases sbB p l[i]
    · rfl
    · simp only [cond_true]
      rw [le_run (by simp; omega)]
  rw [e2, joinP_some]
  unfold wStep
  generalize hO : w2 p fn l[i] o = o2 at l2 l3
  have e3 : (joinP (bif decide ((rd p.1 l[i] zN).1 = (17 : Int)) then (Cnd.idx (1 : Int) (List.length (rd p.1 l[i] zN).2.2.2)).run ((Cnd.idx (rd (rd p.1 l[i] zN).2.2.2 (1 : Int) (0 : Int)) (List.length p.1)).run (some (fn, o2, l, (l.length : Int), (i : Int), decide (((rd p.1 (rd (rd p.1 l[i] zN).2.2.2 (1 : Int) (0 : Int)) zN).2.2.2.length : Int) = 0), p, rd p.1 l[i] zN, ()))) else some (fn, o2, l, (l.length : Int), (i : Int), false, p, rd p.1 l[i] zN, ())) fun x12 => bif x12.2.2.2.2.2.1 then (Cnd.le ((List.length x12.2.1 + List.length [((3 : Int), (x12.1, (⟨#[]⟩ : ByteArray)))]) * 32) 140737488355328).run (some (x12.1, x12.2.1 ++ [((3 : Int), (x12.1, (⟨#[]⟩ : ByteArray)))], x12.2.2.1, x12.2.2.2.1, x12.2.2.2.2.1, x12.2.2.2.2.2.2.1, x12.2.2.2.2.2.2.2.1, ())) else some (x12.1, x12.2.1, x12.2.2.1, x12.2.2.2.1, x12.2.2.2.2.1, x12.2.2.2.2.2.2.1, x12.2.2.2.2.2.2.2.1, ())) = some (fn, w3 p fn l[i] o2, l, (l.length : Int), (i : Int), p, rd p.1 l[i] zN, ()) := by
    unfold w3
    by_cases h17 : (rd p.1 l[i] zN).1 = 17
    · simp only [h17, decide_true, cond_true, idx_range q1, g1, idx_range (deepAt_pos I.b).1, joinP_some, Bool.true_and]
      cases decide (((rd p.1 ((rd p.1 l[i] zN).2.2.2.getD 1 0) zN).2.2.2.length : Int) = 0)
      · rfl
      · simp only [cond_true]
        rw [le_run (by simp; omega)]
    · simp only [h17, decide_false, cond_false, joinP_some, Bool.false_and]
  rw [← joinP_assoc, e3, joinP_some]
  generalize w3 p fn l[i] o2 = o3 at l3
  simp only [idx_range q0, g0, hc, Option.bind_some]
  unfold w4
  have hor : (decide ((rd p.1 l[i] zN).1 = 16) || decide ((rd p.1 l[i] zN).1 = 17)) = true := by
    rw [Bool.or_eq_true]; exact hkk.imp decide_eq_true decide_eq_true
  rw [hor, Bool.true_and]
  cases (cnst p.1 ((rd p.1 l[i] zN).2.2.2.getD 0 0)).2
  · simp only [cond_false, joinP_some, Option.map_some, wi]
  · simp only [cond_true, hD, Option.bind_some]
    rw [le_run (by simp; omega)]
    simp only [joinP_some, Option.map_some, wi]
theorem wfold_len (p : PROG) (fn : Int) : ∀ (l : List Int) (o : List WARN), (l.foldl (wStep p fn) o).length ≤ o.length + 3 * l.length
  | [], o => Nat.le_refl _
  | k :: l, o => by
    have h1 := wfold_len p fn l (wStep p fn o k)
    have h2 := wStep_len p fn k o
    simp only [List.foldl_cons, List.length_cons]
    omega
theorem unused_len {p : PROG} (hp : FineP p) (fn : Int) : (unusedV p fn).length ≤ 2097152 := by
  unfold unusedV
  rw [List.length_map]
  exact Nat.le_trans (filter_len ..) (vars_len hp fn)
structure InFn (p : PROG) (fn : Int) : Prop where
  k : POK p
  f : FnIs p fn.toNat (rd p.2 fn zF)
  r : 0 ≤ fn ∧ fn < (p.2.length : Int)
theorem in_fn {p : PROG} {fn : Int} (h : namesRight p = true) (hf : fnIn p fn = true) : InFn p fn := by
  unfold namesRight at h
  rw [Bool.and_eq_true] at h
  have hr := of_decide_eq_true hf
  have P := pok_of h.1
  have F := P.fn (i := fn.toNat) (by omega)
  rw [show ((fn.toNat : Nat) : Int) = fn by omega] at F
  exact ⟨P, F, by omega⟩
theorem InFn.all {p : PROG} {fn : Int} (h : InFn p fn) : (undL p.1 (rd p.2 fn zF).2.2.2.1).length ≤ 300 ∧ ∀ x ∈ undL p.1 (rd p.2 fn zF).2.2.2.1, (0 : Int) < deepAt p.1 x :=
  ⟨Nat.le_trans (undL_len ..) h.k.l, fun x hx => undr_deep h.f.bd ((mem_undL h.f.bd x).1 hx)⟩
theorem spec_Warn_ok (p : PROG) (hp : FineP p) (fn : Int) : spec_WarnFn p fn = some (warnFn p fn, ()) := by
  unfold spec_WarnFn warnFn
  rw [spec_Names_ok p hp, Option.bind_some, lenf1 hp, sIn]
  simp only
  cases hn : namesRight p
  · simp only [Bool.not_false, cond_true, joinP_some, Bool.false_and, cond_false]
  simp only [Bool.not_true, cond_false, Option.bind_some, joinP_some, Bool.true_and]
  by_cases hf : 0 ≤ fn ∧ fn ≤ (p.2.length : Int) - 1
  case neg =>
    have : fnIn p fn = false := decide_eq_false hf
    simp only [hf, decide_false, Bool.not_false, cond_true, this, cond_false]
  have hf' : fnIn p fn = true := decide_eq_true hf
  have I := in_fn hn hf'
  obtain ⟨a1, a2⟩ := I.all
  have ul := unused_len hp fn
  have hlp := loopF_fold (step := L2_spec_WarnFn) (undL p.1 (rd p.2 fn zF).2.2.2.1) (wStep p fn) (fun i o => (fn, o, undL p.1 (rd p.2 fn zF).2.2.2.1, (i : Int), p, ())) (fun o => (o, ())) (fun i o => o.length ≤ 2097152 + 3 * i) (fun i hi o ho => ⟨warn_stepS p hp fn _ a1 a2 i hi o (by omega), Nat.le_trans (wStep_len ..) (by omega)⟩) (fun o _ => by
    simp only [L2_spec_WarnFn, not_lt_self, decide_false, cond_false, Option.map_some]) (w0 p fn) (by unfold w0; rw [List.length_map]; omega)
  have h' : loopF L2_spec_WarnFn (fn, w0 p fn, undL p.1 (rd p.2 fn zF).2.2.2.1, (0 : Int), p, ()) = _ := hlp.1
  have hw : loopF L1_spec_WarnFn (fn, [], unusedV p fn, (0 : Int), p, ()) = some (fn, w0 p fn, p, ()) := warn_oneS p fn _ ul
  have hu : unds p.1 (rd p.2 fn zF).2.2.2.1 = undL p.1 (rd p.2 fn zF).2.2.2.1 := by
    unfold unds
    rw [decide_eq_false (show ¬ deepAt p.1 (rd p.2 fn zF).2.2.2.1 = 0 by have := I.f.bd; omega)]; rfl
  simp only [hf, and_self, decide_true, Bool.not_true, cond_false, hf', cond_true, spec_Unused_ok p hp, Option.bind_some, hw, joinP_some, idx_range I.r, spec_Under_ok p hp.n, hu, h']
theorem impl_Warn_ok (p : PROG) (hp : FineP p) (fn : Int) : impl_WarnFn p fn = some (warnFn p fn, ()) := by
  unfold impl_WarnFn warnFn
  rw [impl_Names_ok p hp, Option.bind_some, lenf1 hp, iIn]
  simp only
  cases hn : namesRight p
  · simp only [Bool.not_false, cond_true, joinP_some, Bool.false_and, cond_false]
  simp only [Bool.not_true, cond_false, Option.bind_some, joinP_some, Bool.true_and]
  by_cases hf : 0 ≤ fn ∧ fn ≤ (p.2.length : Int) - 1
  case neg =>
    have : fnIn p fn = false := decide_eq_false hf
    simp only [hf, decide_false, Bool.not_false, cond_true, this, cond_false]
  have hf' : fnIn p fn = true := decide_eq_true hf
  have I := in_fn hn hf'
  obtain ⟨a1, a2⟩ := I.all
  have ul := unused_len hp fn
  have hlp := loopF_fold (step := L2_impl_WarnFn) (undL p.1 (rd p.2 fn zF).2.2.2.1) (wStep p fn) (fun i o => (fn, o, undL p.1 (rd p.2 fn zF).2.2.2.1, ((undL p.1 (rd p.2 fn zF).2.2.2.1).length : Int), (i : Int), p, ())) (fun o => (o, ())) (fun i o => o.length ≤ 2097152 + 3 * i) (fun i hi o ho => ⟨warn_stepI p hp fn _ _ rfl a1 a2 i hi o (by omega), Nat.le_trans (wStep_len ..) (by omega)⟩) (fun o _ => by
    simp only [L2_impl_WarnFn, not_lt_self, decide_false, cond_false, Option.map_some]) (w0 p fn) (by unfold w0; rw [List.length_map]; omega)
  have h' : loopF L2_impl_WarnFn (fn, w0 p fn, undL p.1 (rd p.2 fn zF).2.2.2.1, ((undL p.1 (rd p.2 fn zF).2.2.2.1).length : Int), (0 : Int), p, ()) = _ := hlp.1
  have hw : loopF L1_impl_WarnFn (fn, [], unusedV p fn, ((unusedV p fn).length : Int), (0 : Int), p, ()) = some (fn, w0 p fn, p, ()) := warn_oneI p fn _ ul
  simp only [hf, and_self, decide_true, Bool.not_true, cond_false, hf', cond_true, impl_Unused_ok p hp, Option.bind_some, hw, joinP_some, idx_range I.r, impl_under_ok p.1 hp.n _ I.f.bd, h']
end Go.Proofs.YtgkgfpbdodafaaaGreatDoorE

/- How great the warnings are together. No condition beyond each lemma's own. -/
import Derived.Test.YtgkgfpbdodafaaaGreatDoorLawWarn
set_option linter.all false
namespace Go.Proofs.YtgkgfpbdodafaaaGreatDoorE
set_option linter.all false
set_option maxRecDepth 100000
abbrev tW : Ty := .pair (.int .i64) (.pair (.int .i64) .str)
def wW (l : List WARN) : Nat := wt (.list 0 tW) l
theorem wW_eq (l : List WARN) : wW l = l.length + (l.map fun w => w.2.2.size).sum := by
  have e : wW l = l.length + (l.map (wt tW)).sum := rfl
  rw [e]
  congr 2
  refine List.map_congr_left fun w _ => ?_
  show 0 + (0 + w.2.2.size) = w.2.2.size
  omega
theorem wW_app (a b : List WARN) : wW (a ++ b) = wW a + wW b := by
  simp only [wW_eq, List.length_append, List.map_append, List.sum_append]; omega
theorem wW_one (w : WARN) : wW [w] = 1 + w.2.2.size := by simp [wW_eq]
theorem w2_wt (p : PROG) (fn k : Int) (o : List WARN) : wW (w2 p fn k o) ≤ wW o + 1 := by
  unfold w2; cases sbB p k
  · exact Nat.le_succ _
  · rw [cond_true, wW_app, wW_one]; exact Nat.le_refl _
theorem w3_wt (p : PROG) (fn k : Int) (o : List WARN) : wW (w3 p fn k o) ≤ wW o + 1 := by
  unfold w3; cases decide ((rd p.1 k zN).1 = 17) && decide (((rd p.1 ((rd p.1 k zN).2.2.2.getD 1 0) zN).2.2.2.length : Int) = 0)
  · exact Nat.le_succ _
  · rw [cond_true, wW_app, wW_one]; exact Nat.le_refl _
theorem w4_wt (p : PROG) (fn k : Int) (h : (0 : Int) < deepAt p.1 k) (o : List WARN) : wW (w4 p fn k o) ≤ wW o + 22 := by
  unfold w4
  by_cases hk : (rd p.1 k zN).1 = 16 ∨ (rd p.1 k zN).1 = 17
  · have I := iw_of h hk
    have hcr := cnst_rng I.a
    have hs := itb_size (n := (cnst p.1 ((rd p.1 k zN).2.2.2.getD 0 0)).1) (by omega) (by omega)
    cases (decide ((rd p.1 k zN).1 = 16) || decide ((rd p.1 k zN).1 = 17)) && (cnst p.1 ((rd p.1 k zN).2.2.2.getD 0 0)).2
    · exact Nat.le_add_right ..
    · rw [cond_true, wW_app, wW_one]; simp only; omega
  · rw [decide_eq_false (fun e => hk (.inl e)), decide_eq_false (fun e => hk (.inr e))]
    exact Nat.le_add_right ..
theorem wStep_wt (p : PROG) (fn k : Int) (h : (0 : Int) < deepAt p.1 k) (o : List WARN) : wW (wStep p fn o k) ≤ wW o + 24 := by
  have h1 := w2_wt p fn k o
  have h2 := w3_wt p fn k (w2 p fn k o)
  have h3 := w4_wt p fn k h (w3 p fn k (w2 p fn k o))
  unfold wStep
  omega
theorem wfold_wt (p : PROG) (fn : Int) : ∀ (l : List Int) (o : List WARN), (∀ x ∈ l, (0 : Int) < deepAt p.1 x) → wW (l.foldl (wStep p fn) o) ≤ wW o + 24 * l.length
  | [], o, _ => Nat.le_refl _
  | k :: l, o, h => by
    have h1 := wfold_wt p fn l (wStep p fn o k) fun x hx => h x (List.mem_cons_of_mem _ hx)
    have h2 := wStep_wt p fn k (h k (List.mem_cons_self ..)) o
    simp only [List.foldl_cons, List.length_cons]
    omega
theorem name_8 {s : ByteArray} (h : nameOk s = true) : s.size ≤ 8 := by
  simp only [nameOk, Bool.and_eq_true, decide_eq_true_eq] at h
  exact h.1.1.1.2
theorem let_8 {p : PROG} (P : POK p) {k : Int} (hk : 0 ≤ k ∧ k < (p.1.length : Int)) (h : isLet p.1 k = true) : (rd p.1 k zN).2.2.1.size ≤ 8 := by
  have := nk_body (deepAt_pos (P.deep hk)).2.1
  simp only [nodeBody, Bool.and_eq_true] at this
  have h2 := this.2.2.2.1
  have h13 : (rd p.1 k zN).1 = 13 := of_decide_eq_true h
  rw [h13, show named 13 = true from rfl, cond_true] at h2
  exact name_8 h2
theorem fn_names {p : PROG} (P : POK p) {i : Nat} (hi : i < p.2.length) : (rd p.2 (i : Int) zF).1.size ≤ 8 ∧ ∀ a ∈ (rd p.2 (i : Int) zF).2.1, a.1.size ≤ 8 := by
  have h1 := List.all_eq_true.1 P.f i (by simpa using hi)
  simp only [fokB, fnI, Bool.and_eq_true, pars] at h1
  refine ⟨name_8 h1.1.1, fun a ha => ?_⟩
  have := List.all_eq_true.1 h1.1.2.2.2.1 a ha
  simp only [parOk, Bool.and_eq_true] at this
  exact name_8 this.1
theorem vars_8 {p : PROG} {fn : Int} (I : InFn p fn) : (varsOf p fn).length ≤ 303 ∧ ∀ v ∈ varsOf p fn, v.1.size ≤ 8 := by
  have hf : fnIn p fn = true := decide_eq_true (by have := I.r; omega)
  unfold varsOf
  rw [hf, cond_true]
  constructor
  · have h1 := unds_len p.1 (rd p.2 fn zF).2.2.2.1
    have h2 := filter_len (isLet p.1) (unds p.1 (rd p.2 fn zF).2.2.2.1)
    have h3 := I.k.l
    have h4 := I.f.par
    rw [List.length_append, List.length_map, List.length_map]
    omega
  · intro v hv
    rcases List.mem_append.1 hv with h | h
    · obtain ⟨a, ha, rfl⟩ := List.mem_map.1 h
      have := (fn_names I.k (i := fn.toNat) (by have := I.r; omega)).2
      rw [show ((fn.toNat : Nat) : Int) = fn by have := I.r; omega] at this
      exact this a ha
    · obtain ⟨k, hk, rfl⟩ := List.mem_map.1 h
      obtain ⟨h1, h2⟩ := List.mem_filter.1 hk
      exact let_8 I.k (unds_rng h1).1 h2
theorem sum_bd {α : Type} (f : α → Nat) (b : Nat) : ∀ l : List α, (∀ x ∈ l, f x ≤ b) → (l.map f).sum ≤ b * l.length
  | [], _ => by simp
  | x :: l, h => by
    have h1 := sum_bd f b l fun y hy => h y (List.mem_cons_of_mem _ hy)
    have h2 := h x (List.mem_cons_self ..)
    simp only [List.map_cons, List.sum_cons, List.length_cons, Nat.mul_add]
    omega
theorem w0_wt {p : PROG} {fn : Int} (I : InFn p fn) : wW (w0 p fn) ≤ 2727 := by
  obtain ⟨h1, h2⟩ := vars_8 I
  have hl : (unusedV p fn).length ≤ 303 := by
    unfold unusedV
    rw [List.length_map]
    exact Nat.le_trans (filter_len ..) h1
  have hs : ∀ s ∈ unusedV p fn, s.size ≤ 8 := fun s hs => by
    obtain ⟨v, hv, rfl⟩ := List.mem_map.1 hs
    exact h2 v (List.mem_filter.1 hv).1
  rw [wW_eq]
  unfold w0
  rw [List.length_map, List.map_map]
  have := sum_bd ((fun w : WARN => w.2.2.size) ∘ fun s => ((1 : Int), (fn, s))) 8 (unusedV p fn) hs
  omega
theorem warnFn_wt (p : PROG) (fn : Int) : wW (warnFn p fn) ≤ 9927 := by
  unfold warnFn
  cases hn : namesRight p
  · rw [Bool.false_and, cond_false, wW_eq]; simp
  cases hf : fnIn p fn
  · rw [Bool.and_false, cond_false, wW_eq]; simp
  have I := in_fn hn hf
  obtain ⟨a1, a2⟩ := I.all
  have h0 := w0_wt I
  have h1 := wfold_wt p fn _ (w0 p fn) a2
  rw [Bool.and_self, cond_true]
  omega
end Go.Proofs.YtgkgfpbdodafaaaGreatDoorE

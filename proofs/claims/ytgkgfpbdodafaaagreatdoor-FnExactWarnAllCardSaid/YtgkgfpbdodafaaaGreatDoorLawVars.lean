/- A function's variables, who uses them, and which nobody uses: the program's reckoning and the reference's. No condition beyond each lemma's own. -/
import Derived.Test.YtgkgfpbdodafaaaGreatDoorLawUses
set_option linter.all false
namespace Go.Proofs.YtgkgfpbdodafaaaGreatDoorE
set_option linter.all false
set_option maxRecDepth 100000
abbrev VAR := ByteArray × (Int × Int)
abbrev zV : VAR := ((⟨#[]⟩ : ByteArray), ((0 : Int), (0 : Int)))
theorem fold_push {α β : Type} (f : α → β) : ∀ (xs : List α) (o : List β), xs.foldl (fun o x => o ++ [f x]) o = o ++ xs.map f
  | [], o => by simp
  | x :: xs, o => by rw [List.foldl_cons, fold_push f xs]; simp
def parV (x : ByteArray × Int) : VAR := (x.1, (x.2, (-1 : Int)))
def isLet (l : List NODE) (k : Int) : Bool := decide ((rd l k zN).1 = 13)
def letV (l : List NODE) (k : Int) : VAR := ((rd l k zN).2.2.1, ((0 : Int), k))
def varsOf (p : PROG) (fn : Int) : List VAR := bif fnIn p fn then (rd p.2 fn zF).2.1.map parV ++ ((unds p.1 (rd p.2 fn zF).2.2.2.1).filter (isLet p.1)).map (letV p.1) else []
theorem fn_par {p : PROG} (hp : FineP p) {fn : Int} (h : 0 ≤ fn ∧ fn < (p.2.length : Int)) : (rd p.2 fn zF).2.1.length ≤ 1048576 := by
  obtain ⟨k, rfl⟩ : ∃ m : Nat, fn = (m : Int) := ⟨fn.toNat, by omega⟩
  have hk : k < p.2.length := by omega
  rw [rd_nat hk]
  exact hp.a _ (List.getElem_mem hk)
theorem idx_of {α : Type} {l : List NODE} {k x : Int} (h : x ∈ unds l k) {K : Option α} : (Cnd.idx x l.length).run K = K := idx_range (unds_rng h).1
theorem vars_letS (p : PROG) (hp : FineP p) (r : Int) (o : List VAR) (ho : o.length ≤ 1048576) : loopF L2_spec_VarsOf (o, unds p.1 r, (0 : Int), p, ()) = some (o ++ ((unds p.1 r).filter (isLet p.1)).map (letV p.1), ()) := by
  have hn := hp.n.len
  have hlen := unds_len p.1 r
  have h := loopF_fold (step := L2_spec_VarsOf) (unds p.1 r) (fun o k => bif isLet p.1 k then o ++ [letV p.1 k] else o) (fun i o => (o, unds p.1 r, (i : Int), p, ())) (fun o => (o, ())) (fun i o => o.length ≤ 1048576 + i) (fun i hi o ho => by
    have hid : ∀ {α : Type} {K : Option α}, (Cnd.idx (unds p.1 r)[i] p.1.length).run K = K := fun {α K} => idx_of (List.getElem_mem hi)
    simp only [L2_spec_VarsOf, lt_cast hi, decide_true, cond_true, idx_run hi, rd_nat hi, hid, isLet]
    cases decide ((rd p.1 (unds p.1 r)[i] zN).1 = 13)
    · simp only [cond_false, joinP_some, Option.map_some, wrapSucc (show i < 9223372036854775807 by omega)]
      exact ⟨by trivial, by omega⟩
    · simp only [cond_true]
      rw [le_run (by simp; omega)]
      simp only [joinP_some, Option.map_some, wrapSucc (show i < 9223372036854775807 by omega)]
      exact ⟨by trivial, by simp; omega⟩) (fun o ho => by
    simp only [L2_spec_VarsOf, not_lt_self, decide_false, cond_false, Option.map_some]) o (by omega)
  have h' := h.1
  rw [fold_filter] at h'
  exact h'
theorem vars_letI (p : PROG) (hp : FineP p) (r : Int) (o : List VAR) (ho : o.length ≤ 1048576) : loopF L2_impl_VarsOf (o, unds p.1 r, ((unds p.1 r).length : Int), (0 : Int), p, ()) = some (o ++ ((unds p.1 r).filter (isLet p.1)).map (letV p.1), ()) := by
  have hn := hp.n.len
  have hlen := unds_len p.1 r
  have h := loopF_fold (step := L2_impl_VarsOf) (unds p.1 r) (fun o k => bif isLet p.1 k then o ++ [letV p.1 k] else o) (fun i o => (o, unds p.1 r, ((unds p.1 r).length : Int), (i : Int), p, ())) (fun o => (o, ())) (fun i o => o.length ≤ 1048576 + i) (fun i hi o ho => by
    have hid : ∀ {α : Type} {K : Option α}, (Cnd.idx (unds p.1 r)[i] p.1.length).run K = K := fun {α K} => idx_of (List.getElem_mem hi)
    simp only [L2_impl_VarsOf, lt_cast hi, decide_true, cond_true, idx_run hi, rd_nat hi, hid, isLet]
    cases decide ((rd p.1 (unds p.1 r)[i] zN).1 = 13)
    · simp only [cond_false, joinP_some, Option.map_some, wrapSucc (show i < 9223372036854775807 by omega)]
      exact ⟨by trivial, by omega⟩
    · simp only [cond_true]
      rw [le_run (by simp; omega)]
      simp only [joinP_some, Option.map_some, wrapSucc (show i < 9223372036854775807 by omega)]
      exact ⟨by trivial, by simp; omega⟩) (fun o ho => by
    simp only [L2_impl_VarsOf, not_lt_self, decide_false, cond_false, Option.map_some]) o (by omega)
  have h' := h.1
  rw [fold_filter] at h'
  exact h'
theorem vars_parS (p : PROG) (x : FN) (hx : x.2.1.length ≤ 1048576) : loopF L1_spec_VarsOf ([], (0 : Int), p, x, ()) = some (x.2.1.map parV, p, x, ()) := by
  have h := loopF_push (step := L1_spec_VarsOf) x.2.1 parV (fun i o => (o, (i : Int), p, x, ())) (fun o => (o, p, x, ())) (fun i hi o ho => by
    simp only [L1_spec_VarsOf, lt_cast hi, decide_true, cond_true, idx_run hi, rd_nat hi]
    rw [le_run (by simp; omega)]
    simp only [Option.map_some, wrapSucc (show i < 9223372036854775807 by omega)]
    rfl) (fun o ho => by
    simp only [L1_spec_VarsOf, not_lt_self, decide_false, cond_false, Option.map_some])
  exact h
theorem vars_parI (p : PROG) (fn : Int) (x : List (ByteArray × Int)) (hx : x.length ≤ 1048576) : loopF L1_impl_VarsOf (fn, [], x, (x.length : Int), (0 : Int), p, ()) = some (fn, x.map parV, p, ()) := by
  have h := loopF_push (step := L1_impl_VarsOf) x parV (fun i o => (fn, o, x, (x.length : Int), (i : Int), p, ())) (fun o => (fn, o, p, ())) (fun i hi o ho => by
    simp only [L1_impl_VarsOf, lt_cast hi, decide_true, cond_true, idx_run hi, rd_nat hi]
    rw [le_run (by simp; omega)]
    simp only [Option.map_some, wrapSucc (show i < 9223372036854775807 by omega)]
    rfl) (fun o ho => by
    simp only [L1_impl_VarsOf, not_lt_self, decide_false, cond_false, Option.map_some])
  exact h
theorem spec_Vars_ok (p : PROG) (hp : FineP p) (fn : Int) : spec_VarsOf p fn = some (varsOf p fn, ()) := by
  unfold spec_VarsOf varsOf fnIn
  rw [lenf1 hp, sIn, Option.bind_some]
  by_cases hr : 0 ≤ fn ∧ fn ≤ (p.2.length : Int) - 1
  case neg => simp only [hr, decide_false, Bool.not_false, cond_true, cond_false]
  have hi : ∀ {α : Type} {K : Option α}, (Cnd.idx fn p.2.length).run K = K := fun {α K} => idx_range (by omega)
  have hx := fn_par hp (show 0 ≤ fn ∧ fn < (p.2.length : Int) by omega)
  simp only [hr, and_self, decide_true, Bool.not_true, cond_false, cond_true, hi]
  generalize rd p.2 fn zF = x at hx ⊢
  simp only [Option.bind_some, vars_parS p x hx, joinP_some, spec_Under_ok p hp.n, vars_letS p hp _ (x.2.1.map parV) (by simpa using hx)]
theorem impl_Vars_ok (p : PROG) (hp : FineP p) (fn : Int) : impl_VarsOf p fn = some (varsOf p fn, ()) := by
  unfold impl_VarsOf varsOf fnIn
  rw [lenf1 hp, iIn, Option.bind_some]
  by_cases hr : 0 ≤ fn ∧ fn ≤ (p.2.length : Int) - 1
  case neg => simp only [hr, decide_false, Bool.not_false, cond_true, cond_false]
  have hi : ∀ {α : Type} {K : Option α}, (Cnd.idx fn p.2.length).run K = K := fun {α K} => idx_range (by omega)
  have hx := fn_par hp (show 0 ≤ fn ∧ fn < (p.2.length : Int) by omega)
  simp only [hr, and_self, decide_true, Bool.not_true, cond_false, cond_true, hi, Option.bind_some, vars_parI p fn _ hx, joinP_some, impl_Under_ok p hp.n]
  rw [vars_letI p hp _ _ (by simpa using hx)]
  rfl
theorem filter_len {α : Type} (q : α → Bool) (l : List α) : (l.filter q).length ≤ l.length := List.length_filter_le ..
theorem vars_len {p : PROG} (hp : FineP p) (fn : Int) : (varsOf p fn).length ≤ 2097152 := by
  unfold varsOf fnIn
  by_cases hr : 0 ≤ fn ∧ fn ≤ (p.2.length : Int) - 1
  · have hx := fn_par hp (show 0 ≤ fn ∧ fn < (p.2.length : Int) by omega)
    have h1 := unds_len p.1 (rd p.2 fn zF).2.2.2.1
    have h2 := filter_len (isLet p.1) (unds p.1 (rd p.2 fn zF).2.2.2.1)
    have h3 := hp.n.len
    simp only [hr, and_self, decide_true, cond_true, List.length_append, List.length_map]
    omega
  · simp [hr]
def usesK (k : Int) : Bool := decide (2 ≤ k ∧ k ≤ 6) || (decide (k = 14) || decide (k = 15))
theorem iUses (k : Int) : impl_uses k = some (usesK k, ()) := by
  unfold impl_uses usesK
  rw [iIn, Option.bind_some]
  by_cases h : 2 ≤ k ∧ k ≤ 6
  · simp [h, joinP_some]
  · by_cases h2 : k = 14 <;> simp [h, h2, joinP_some]
theorem sUses (k : Int) : spec_l07Uses k = some (usesK k, ()) := by
  unfold spec_l07Uses usesK
  by_cases h2 : k = 2
  · subst h2; simp [joinP_some]
  by_cases h3 : k = 3
  · subst h3; simp [joinP_some]
  by_cases h4 : k = 4
  · subst h4; simp [joinP_some]
  by_cases h5 : k = 5
  · subst h5; simp [joinP_some]
  by_cases h6 : k = 6
  · subst h6; simp [joinP_some]
  have h : ¬ (2 ≤ k ∧ k ≤ 6) := by omega
  by_cases h14 : k = 14
  · subst h14; simp [joinP_some]
  by_cases h15 : k = 15
  · subst h15; simp [joinP_some]
  simp [joinP_some, h2, h3, h4, h5, h6, h, h14, h15]
def usesQ (l : List NODE) (s : ByteArray) (k : Int) : Bool := usesK (rd l k zN).1 && decide ((rd l k zN).2.2.1 = s)
def usesOf (p : PROG) (fn : Int) (s : ByteArray) : List Int := (fnN p fn).filter (usesQ p.1 s)
theorem idx_fn {α : Type} {p : PROG} {fn x : Int} (h : x ∈ fnN p fn) {K : Option α} : (Cnd.idx x p.1.length).run K = K := idx_range (fnN_rng h).1
theorem spec_Uses_ok (p : PROG) (hp : FineP p) (fn : Int) (s : ByteArray) : spec_UsesOf p fn s = some (usesOf p fn s, ()) := by
  have hlen := fnN_len hp (fn := fn)
  have h := loopF_fold (step := L1_spec_UsesOf) (fnN p fn) (fun o k => bif usesQ p.1 s k then o ++ [k] else o) (fun i o => (s, o, fnN p fn, (i : Int), p, ())) (fun o => (o, ())) (fun i o => o.length ≤ i) (fun i hi o ho => by
    have hid : ∀ {α : Type} {K : Option α}, (Cnd.idx (fnN p fn)[i] p.1.length).run K = K := fun {α K} => idx_fn (List.getElem_mem hi)
    simp only [L1_spec_UsesOf, lt_cast hi, decide_true, cond_true, idx_run hi, rd_nat hi, hid, sUses, Option.bind_some, usesQ]
    cases usesK (rd p.1 (fnN p fn)[i] zN).1
    · simp only [cond_false, joinP_some, Option.map_some, wrapSucc (show i < 9223372036854775807 by omega), Bool.false_and]
      exact ⟨by trivial, by omega⟩
    · simp only [cond_true, joinP_some, Bool.true_and]
      cases decide ((rd p.1 (fnN p fn)[i] zN).2.2.1 = s)
      · simp only [cond_false, joinP_some, Option.map_some, wrapSucc (show i < 9223372036854775807 by omega)]
        exact ⟨by trivial, by omega⟩
      · simp only [cond_true]
        rw [idx_run hi, le_run (by simp; omega)]
        simp only [joinP_some, Option.map_some, rd_nat hi, wrapSucc (show i < 9223372036854775807 by omega)]
        exact ⟨by trivial, by simp; omega⟩) (fun o ho => by
    simp only [L1_spec_UsesOf, not_lt_self, decide_false, cond_false, Option.map_some]) [] (Nat.le_refl 0)
  have h' : loopF L1_spec_UsesOf (s, [], fnN p fn, (0 : Int), p, ()) = _ := h.1
  unfold spec_UsesOf
  rw [spec_All_ok p hp, Option.bind_some]
  simp only [Option.bind_some, h', joinP_some]
  have hf := fold_filter (usesQ p.1 s) (fun k : Int => k) (fnN p fn) []
  rw [hf]
  simp [usesOf]
theorem impl_Uses_ok (p : PROG) (hp : FineP p) (fn : Int) (s : ByteArray) : impl_UsesOf p fn s = some (usesOf p fn s, ()) := by
  have hlen := fnN_len hp (fn := fn)
  have h := loopF_fold (step := L1_impl_UsesOf) (fnN p fn) (fun o k => bif usesQ p.1 s k then o ++ [k] else o) (fun i o => (s, o, fnN p fn, ((fnN p fn).length : Int), (i : Int), p, ())) (fun o => (o, ())) (fun i o => o.length ≤ i) (fun i hi o ho => by
    have hid : ∀ {α : Type} {K : Option α}, (Cnd.idx (fnN p fn)[i] p.1.length).run K = K := fun {α K} => idx_fn (List.getElem_mem hi)
    simp only [L1_impl_UsesOf, lt_cast hi, decide_true, cond_true, idx_run hi, rd_nat hi, hid, iUses, Option.bind_some, usesQ]
    cases usesK (rd p.1 (fnN p fn)[i] zN).1
    · simp only [cond_false, joinP_some, Option.map_some, wrapSucc (show i < 9223372036854775807 by omega), Bool.false_and]
      exact ⟨by trivial, by omega⟩
    · simp only [cond_true, joinP_some, Bool.true_and]
      cases decide ((rd p.1 (fnN p fn)[i] zN).2.2.1 = s)
      · simp only [cond_false, joinP_some, Option.map_some, wrapSucc (show i < 9223372036854775807 by omega)]
        exact ⟨by trivial, by omega⟩
      · simp only [cond_true]
        rw [le_run (by simp; omega)]
        simp only [joinP_some, Option.map_some, wrapSucc (show i < 9223372036854775807 by omega)]
        exact ⟨by trivial, by simp; omega⟩) (fun o ho => by
    simp only [L1_impl_UsesOf, not_lt_self, decide_false, cond_false, Option.map_some]) [] (Nat.le_refl 0)
  have h' : loopF L1_impl_UsesOf (s, [], fnN p fn, ((fnN p fn).length : Int), (0 : Int), p, ()) = _ := h.1
  unfold impl_UsesOf
  rw [impl_fnN_ok p hp, Option.bind_some]
  simp only [Option.bind_some, h', joinP_some]
  have hf := fold_filter (usesQ p.1 s) (fun k : Int => k) (fnN p fn) []
  rw [hf]
  simp [usesOf]
theorem uses_len {p : PROG} (hp : FineP p) (fn : Int) (s : ByteArray) : (usesOf p fn s).length ≤ 2097152 := Nat.le_trans (filter_len ..) (fnN_len hp)
theorem uses_mem {p : PROG} {fn : Int} {s : ByteArray} {x : Int} (h : x ∈ usesOf p fn s) : x ∈ fnN p fn := (List.mem_filter.1 h).1
end Go.Proofs.YtgkgfpbdodafaaaGreatDoorE

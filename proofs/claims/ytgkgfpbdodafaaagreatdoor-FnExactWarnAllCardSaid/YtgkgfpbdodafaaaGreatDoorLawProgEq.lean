/- Which programs are right: both reckonings answer the same, and what a right program is. No condition beyond each lemma's own. -/
import Derived.Test.YtgkgfpbdodafaaaGreatDoorLawProgOk
set_option linter.all false
namespace Go.Proofs.YtgkgfpbdodafaaaGreatDoorE
set_option linter.all false
set_option maxRecDepth 100000
theorem all_ext' {α : Type} {f g : α → Bool} : ∀ {l : List α}, (∀ x ∈ l, f x = g x) → l.all f = l.all g
  | [], _ => rfl
  | x :: l, h => by rw [List.all_cons, List.all_cons, h x (List.mem_cons_self ..), all_ext' fun y hy => h y (List.mem_cons_of_mem _ hy)]
theorem good_tb (b : Int) (n : Nat) (f : Nat → Int) : good b (tb n f) = (List.range n).all fun t => decide (f t = 1) || decide (f t = b) := by
  unfold good tb
  rw [List.all_map]
  rfl
def Rl (n : Nat) (f h : Nat → Int) : Prop := ∀ t, t < n → (f t = -1 ∧ h t = 1000) ∨ (0 ≤ f t ∧ f t = h t ∧ f t < 1000)
theorem marks_eq (n : Nat) : ∀ (rs : List Int) (f h : Nat → Int), (∀ y ∈ rs, (0 : Int) ≤ y ∧ y < (n : Int)) → Rl n f h → ((runc rq rg rs f).elim false fun f' => good (-1) (tb n f')) = good 1000 (tb n (rs.foldl add h))
  | [], f, h, _, hR => by
    simp only [runc, Option.elim_some, List.foldl_nil]
    rw [good_tb, good_tb]
    refine all_ext' fun t ht => ?_
    have ht : t < n := by simpa using ht
    rcases hR t ht with ⟨h1, h2⟩ | ⟨h1, h2, h3⟩
    · rw [h1, h2]; rfl
    · rw [← h2]
      have e1 : ¬ f t = -1 := by omega
      have e2 : ¬ f t = 1000 := by omega
      rw [decide_eq_false e1, decide_eq_false e2]
  | y :: rs, f, h, hr, hR => by
    obtain ⟨y0, y1⟩ := hr y (List.mem_cons_self ..)
    obtain ⟨r, rfl⟩ : ∃ r : Nat, y = (r : Int) := ⟨y.toNat, by omega⟩
    have hrn : r < n := by omega
    have hrest := fun z hz => hr z (List.mem_cons_of_mem _ hz)
    by_cases h0 : f r = 0
    · have e1 : rq f (r : Int) = true := by unfold rq; rw [Int.toNat_natCast, decide_eq_true h0]; simp
      have e2 : rg f (r : Int) = upd f r (-1) := by unfold rg; rw [decide_eq_false (show ¬ (r : Int) < 0 by omega)]; rfl
      have hh : h r = 0 := by
        rcases hR r hrn with ⟨h1, _⟩ | ⟨_, h2, _⟩ <;> omega
      simp only [runc, e1, e2, cond_true, List.foldl_cons]
      refine marks_eq n rs _ _ hrest (fun t ht => ?_)
      unfold add upd
      rw [Int.toNat_natCast]
      by_cases e : t = r
      · rw [if_pos e, if_pos e, hh]; left; omega
      · rw [if_neg e, if_neg e]; exact hR t ht
    · have e1 : rq f (r : Int) = false := by
        unfold rq; rw [Int.toNat_natCast, decide_eq_false h0, decide_eq_false (show ¬ (r : Int) < 0 by omega)]; rfl
      simp only [runc, e1, cond_false, Option.elim_none]
      rw [adds _ (fun z hz => (hr z hz).1)]
      symm
      rw [good_tb]
      cases hb : (List.range n).all fun t => decide (h t + 1000 * (cn ((r : Int) :: rs) t : Int) = 1) || decide (h t + 1000 * (cn ((r : Int) :: rs) t : Int) = 1000)
      · rfl
      · exfalso
        have := List.all_eq_true.1 hb r (by simpa using hrn)
        simp only [cn, decide_true, cond_true, Bool.or_eq_true, decide_eq_true_eq] at this
        rcases hR r hrn with ⟨h1, h2⟩ | ⟨h1, h2, h3⟩ <;> omega
theorem cn_hasI : ∀ (l : List Int) (n : Int) (t : Nat), hasI l n = false → n = (t : Int) → cn l t = 0
  | [], _, _, _, _ => rfl
  | y :: l, n, t, h, e => by
    simp only [hasI, List.any_cons, Bool.or_eq_false_iff] at h
    have h1 : decide (y = (t : Int)) = false := by rw [← e]; exact h.1
    simp only [cn, h1, cond_false, cn_hasI l n t h.2 e]
theorem kids_one {l : List NODE} {k : Int} (h : nodeOk l k = true) (t : Nat) : cn (rd l k zN).2.2.2 t ≤ 1 := by
  simp only [nodeOk, nodeBody, kidsOk, Bool.and_eq_true, List.all_eq_true] at h
  have hd := h.2.2.2.2.2
  generalize rd l k zN = x at hd
  have key : ∀ i, i ≤ x.2.2.2.length → cn (x.2.2.2.take i) t ≤ 1 := by
    intro i
    induction i with
    | zero => intro _; simp [cn]
    | succ i ih =>
      intro hi
      have hi' : i < x.2.2.2.length := by omega
      have := hd i (by simpa using hi')
      simp only [kidOk, Bool.and_eq_true, Bool.not_eq_true'] at this
      have hh := this.2.2
      have e : x.2.2.2.getD i 0 = x.2.2.2[i] := by simp [hi']
      rw [e] at hh
      rw [List.take_succ_eq_append_getElem hi', cn_app]
      by_cases et : x.2.2.2[i] = (t : Int)
      · rw [cn_hasI _ _ t hh et]
        simp only [cn, decide_eq_true et, cond_true]; omega
      · simp only [cn, decide_eq_false et, cond_false]
        have := ih (by omega)
        omega
  have := key x.2.2.2.length (Nat.le_refl _)
  rwa [List.take_length] at this
def AllN (l : List NODE) : Prop := ∀ k : Nat, k < l.length → nodeOk l (k : Int) = true ∧ dAt l k ≠ 0
theorem alln_of {l : List NODE} (h : (0 : Int) < deepAt l ((l.length : Int) - 1)) : AllN l := fun k hk => by
  obtain ⟨h1, h2, h3⟩ := deepAt_pos h
  have h4 := h3 (k : Int) (by omega) (by omega)
  refine ⟨(deepAt_pos h4).2.1, ?_⟩
  unfold deepAt at h4
  rw [decide_eq_true (by omega), cond_true, Int.toNat_natCast] at h4
  omega
theorem AllN.kd {l : List NODE} (h : AllN l) : Kd l := ⟨fun x hx y hy => by
  obtain ⟨k, hk, rfl⟩ := List.getElem_of_mem hx
  have h1 := kid_mem (h k hk).1
  rw [rd_nat hk] at h1
  have := h1 y hy
  omega⟩
theorem us_le {l : List NODE} (h : AllN l) (t : Nat) : us l t ≤ l.length := by
  have key : ∀ k, k ≤ l.length → us (l.take k) t ≤ k := by
    intro k
    induction k with
    | zero => intro _; simp [us]
    | succ k ih =>
      intro hk
      have hk' : k < l.length := by omega
      have h1 := kids_one (h k hk').1 t
      rw [rd_nat hk'] at h1
      rw [List.take_succ_eq_append_getElem hk', us_app]
      have := ih (by omega)
      simp only [us]; omega
  have := key l.length (Nat.le_refl _)
  rwa [List.take_length] at this
def progOk (p : PROG) : Bool := decide (1 ≤ (p.1.length : Int) ∧ (p.1.length : Int) ≤ 300) && (decide (1 ≤ (p.2.length : Int) ∧ (p.2.length : Int) ≤ 8) && (decide ((0 : Int) < deepAt p.1 ((p.1.length : Int) - 1)) && (allF p && good 1000 (tb p.1.length ((rootsL p.2).foldl add (U p.1))))))
theorem allF_roots {p : PROG} (h : allF p = true) : ∀ y ∈ rootsL p.2, (0 : Int) ≤ y ∧ y < (p.1.length : Int) := by
  have key : ∀ l : List FN, (∀ x ∈ l, ∀ y ∈ roots x, (0 : Int) ≤ y ∧ y < (p.1.length : Int)) → ∀ y ∈ rootsL l, (0 : Int) ≤ y ∧ y < (p.1.length : Int) := by
    intro l
    induction l with
    | nil => intro _ y hy; cases hy
    | cons x l ih =>
      intro hx y hy
      rcases List.mem_append.1 hy with hy | hy
      · exact hx x (List.mem_cons_self ..) y hy
      · exact ih (fun z hz => hx z (List.mem_cons_of_mem _ hz)) y hy
  refine key p.2 fun x hx => ?_
  obtain ⟨i, hi, rfl⟩ := List.getElem_of_mem hx
  have := fok_roots (List.all_eq_true.1 h i (by simpa using hi))
  rwa [rd_nat hi] at this
theorem spec_Prog_ok (p : PROG) (hp : FineP p) : spec_ProgramOk p = some (progOk p, ()) := by
  unfold spec_ProgramOk progOk
  simp only [sIn, Option.bind_some]
  by_cases h1 : 1 ≤ (p.1.length : Int) ∧ (p.1.length : Int) ≤ 300
  case neg => simp only [h1, decide_false, Bool.not_false, cond_true, joinP_some, Bool.false_and]
  by_cases h2 : 1 ≤ (p.2.length : Int) ∧ (p.2.length : Int) ≤ 8
  case neg => simp only [h1, h2, and_self, decide_true, decide_false, Bool.not_true, Bool.not_false, cond_true, cond_false, joinP_some, Bool.false_and, Bool.and_false]
  have hlast : p.1.length - 1 < p.1.length := by omega
  have ec : (p.1.length : Int) - 1 = ((p.1.length - 1 : Nat) : Int) := by omega
  have hD := spec_Deeps_ok p.1 hp.n (p.1.length - 1) hlast
  have hsucc : p.1.length - 1 + 1 = p.1.length := by omega
  rw [hsucc] at hD
  have hlen := deeps_len p.1 p.1.length
  have hg := deeps_get p.1 p.1.length (p.1.length - 1) hlast
  have hdA : deepAt p.1 ((p.1.length - 1 : Nat) : Int) = dAt p.1 (p.1.length - 1) := by
    unfold deepAt; rw [decide_eq_true (by omega), cond_true, Int.toNat_natCast]
  have hdl := dAt_le p.1 (p.1.length - 1)
  have wr2 : IntKind.wrap .i64 ((p.1.length - 1 : Nat) : Int) = ((p.1.length - 1 : Nat) : Int) := wrap64 (by omega) (by omega)
  simp only [h1, h2, and_self, decide_true, Bool.not_true, cond_false, joinP_some, Bool.true_and, ec, wr2, hD, Option.bind_some, hlen, idx_run hlast, hg, hdA]
  by_cases hz : dAt p.1 (p.1.length - 1) = 0
  · simp only [hz, decide_true, cond_true, show ¬ ((0 : Int) < 0) by decide, decide_false, Bool.false_and]
  have hpos : (0 : Int) < dAt p.1 (p.1.length - 1) := by omega
  have hA : AllN p.1 := alln_of (by rw [ec, hdA]; exact hpos)
  simp only [hz, hpos, decide_false, decide_true, cond_false, usedS p.1 hp.n hA.kd (by omega), Option.bind_some, Bool.true_and]
  have hU : BI 1000000000 (U p.1) := fun t => by
    have := us_le hA t
    unfold U; omega
  rw [fnsS p hp _ hU]
  cases allF p
  · simp only [cond_false, joinS_inr, Bool.false_and]
  · simp only [cond_true, joinS_inl, Option.bind_some, Bool.true_and]
    rw [goodS _ (by rw [tb_len]; omega)]
    cases good 1000 (tb p.1.length ((rootsL p.2).foldl add (U p.1))) <;> simp only [cond_true, cond_false, joinS_inl, joinS_inr]
theorem impl_Prog_ok (p : PROG) (hp : FineP p) : impl_ProgramOk p = some (progOk p, ()) := by
  unfold impl_ProgramOk progOk
  simp only [iIn, Option.bind_some, impl_DeepOf_ok _ hp.n, lenm1 hp.n.len]
  by_cases h1 : 1 ≤ (p.1.length : Int) ∧ (p.1.length : Int) ≤ 300
  case neg => simp only [h1, decide_false, Bool.not_false, cond_true, joinP_some, Bool.false_and]
  by_cases h2 : 1 ≤ (p.2.length : Int) ∧ (p.2.length : Int) ≤ 8
  case neg => simp only [h1, h2, and_self, decide_true, decide_false, Bool.not_true, Bool.not_false, cond_true, cond_false, joinP_some, Bool.false_and, Bool.and_false]
  simp only [h1, h2, and_self, decide_true, Bool.not_true, cond_false, joinP_some, Bool.true_and]
  by_cases hz : deepAt p.1 ((p.1.length : Int) - 1) = 0
  · simp only [hz, decide_true, cond_true, show ¬ ((0 : Int) < 0) by decide, decide_false, Bool.false_and]
  have hpos := in_ok hz
  have hA : AllN p.1 := alln_of hpos
  have hb : ∀ {α : Type} {K : Option α}, (Cnd.both (Cnd.nn (p.1.length : Int)) (Cnd.le (p.1.length * 8) 140737488355328)).run K = K := fun {α} {K} => by
    simp only [Cnd.run]
    rw [if_pos (by omega), if_pos (by omega)]
  simp only [hz, hpos, decide_false, decide_true, cond_false, Int.toNat_natCast, hb, Option.bind_some, usedI p.1 p hp.n hA.kd (by omega), joinP_some, Bool.true_and]
  rw [fnsI p hp, runI, range_rd]
  have hrel : Rl p.1.length (U p.1) (U p.1) := fun t ht => .inr (by
    have := us_le hA t
    unfold U; omega)
  have hall : ((List.range p.2.length).all fun i => fokB p (i : Int)) = allF p := rfl
  rw [hall]
  cases hF : allF p
  · simp only [cond_false, Option.elim_none, joinS_inr, Bool.false_and]
  · have hm := marks_eq p.1.length (rootsL p.2) (U p.1) (U p.1) (allF_roots hF) hrel
    simp only [cond_true, Bool.true_and]
    rw [← hm]
    cases runc rq rg (rootsL p.2) (U p.1) with
    | none => simp only [Option.elim_none, joinS_inr]
    | some f =>
      simp only [Option.elim_some, joinS_inl, Option.bind_some]
      rw [goodI _ (by rw [tb_len]; omega)]
      cases good (-1) (tb p.1.length f) <;> simp only [cond_true, cond_false, joinS_inl, joinS_inr]
end Go.Proofs.YtgkgfpbdodafaaaGreatDoorE

/- Which programs are right, as the program has it and as the reference has it. No condition beyond each lemma's own. -/
import Derived.Test.YtgkgfpbdodafaaaGreatDoorLawFnAt
set_option linter.all false
namespace Go.Proofs.YtgkgfpbdodafaaaGreatDoorE
set_option linter.all false
set_option maxRecDepth 100000
def tb (n : Nat) (f : Nat → Int) : List Int := (List.range n).map f
theorem tb_len (n : Nat) (f : Nat → Int) : (tb n f).length = n := by simp [tb]
theorem tb_rd {n : Nat} {f : Nat → Int} {k : Nat} (h : k < n) : rd (tb n f) (k : Int) (0 : Int) = f k := by
  rw [rd_nat (by rw [tb_len]; exact h)]
  simp [tb]
def upd (f : Nat → Int) (k : Nat) (v : Int) : Nat → Int := fun t => if t = k then v else f t
theorem tb_set {n : Nat} {f : Nat → Int} {k : Nat} (h : k < n) (v : Int) : (tb n f).set k v = tb n (upd f k v) := by
  apply List.ext_getElem
  · rw [List.length_set, tb_len, tb_len]
  · intro i h1 h2
    rw [List.getElem_set]
    simp only [tb, List.getElem_map, List.getElem_range, upd]
    by_cases e : k = i
    · rw [if_pos e, if_pos e.symm]
    · rw [if_neg e, if_neg (fun h => e h.symm)]
theorem tb_rep (n : Nat) : List.replicate n (0 : Int) = tb n (fun _ => 0) := by
  apply List.ext_getElem
  · rw [List.length_replicate, tb_len]
  · intro i h1 h2; simp [tb]
def cn : List Int → Nat → Nat
  | [], _ => 0
  | y :: l, t => (bif decide (y = (t : Int)) then 1 else 0) + cn l t
theorem cn_app (a b : List Int) (t : Nat) : cn (a ++ b) t = cn a t + cn b t := by
  induction a with
  | nil => simp [cn]
  | cons y a ih => simp only [List.cons_append, cn, ih]; omega
theorem cn_le (l : List Int) (t : Nat) : cn l t ≤ l.length := by
  induction l with
  | nil => exact Nat.le_refl _
  | cons y l ih =>
    simp only [cn, List.length_cons]
    cases decide (y = (t : Int)) <;> simp only [cond_true, cond_false] <;> omega
def bump (f : Nat → Int) (y : Int) : Nat → Int := upd f y.toNat (f y.toNat + 1)
theorem bump_eq (f : Nat → Int) {y : Int} (hy : 0 ≤ y) (t : Nat) : bump f y t = f t + (bif decide (y = (t : Int)) then 1 else 0) := by
  unfold bump upd
  by_cases e : t = y.toNat
  · have : y = (t : Int) := by omega
    rw [if_pos e, decide_eq_true this, cond_true, e]
  · have : ¬ y = (t : Int) := by omega
    rw [if_neg e, decide_eq_false this, cond_false]; omega
theorem bumps (ks : List Int) (hk : ∀ y ∈ ks, (0 : Int) ≤ y) : ∀ f : Nat → Int, ks.foldl bump f = fun t => f t + (cn ks t : Int) := by
  induction ks with
  | nil => intro f; funext t; simp [cn]
  | cons y ks ih =>
    intro f
    rw [List.foldl_cons, ih (fun z hz => hk z (List.mem_cons_of_mem _ hz))]
    funext t
    rw [bump_eq f (hk y (List.mem_cons_self ..)) t]
    simp only [cn]
    cases decide (y = (t : Int)) <;> simp only [cond_true, cond_false] <;> omega
def us : List NODE → Nat → Nat
  | [], _ => 0
  | x :: l, t => cn x.2.2.2 t + us l t
theorem us_app (a b : List NODE) (t : Nat) : us (a ++ b) t = us a t + us b t := by
  induction a with
  | nil => simp [us]
  | cons y a ih => simp only [List.cons_append, us, ih]; omega
structure Kd (l : List NODE) : Prop where
  k : ∀ x ∈ l, ∀ y ∈ (x : NODE).2.2.2, (0 : Int) ≤ y ∧ y < (l.length : Int)
def BI (B : Int) (f : Nat → Int) : Prop := ∀ t, 0 ≤ f t ∧ f t ≤ B
theorem BI.bump {B : Int} {f : Nat → Int} (h : BI B f) {y : Int} (hy : 0 ≤ y) : BI (B + 1) (bump f y) := by
  intro t
  rw [bump_eq f hy t]
  have := h t
  cases decide (y = (t : Int)) <;> simp only [cond_true, cond_false] <;> omega
theorem used_in (l : List NODE) (hl : FineN l) (hk : Kd l) (i : Nat) (hi : i < l.length) (f : Nat → Int) {B : Int} (hB : B ≤ 1000000000000) (hf : BI B f) :
    loopF L1_spec_l04Used (l, tb l.length f, (i : Int), (0 : Int), ()) = some (l, tb l.length (l[i].2.2.2.foldl bump f), (i : Int), ()) := by
  have hx := hl.kid _ (List.getElem_mem hi)
  have hkk := hk.k _ (List.getElem_mem hi)
  have hr : rd l (i : Int) zN = l[i] := rd_nat hi
  generalize l[i] = x at hx hkk hr
  have h := loopF_fold (step := L1_spec_l04Used) x.2.2.2 bump (fun j f => (l, tb l.length f, (i : Int), (j : Int), ())) (fun f => (l, tb l.length f, (i : Int), ())) (fun j f => BI (B + (j : Int)) f) (fun j hj f hf => by
    obtain ⟨h1, h2⟩ := hkk _ (List.getElem_mem hj)
    refine ⟨?_, by rw [show B + ((j + 1 : Nat) : Int) = B + (j : Int) + 1 by omega]; exact hf.bump h1⟩
    have wj := wrapSucc (show j < 9223372036854775807 by omega)
    obtain ⟨y, hy⟩ : ∃ y : Nat, x.2.2.2[j] = (y : Int) := ⟨x.2.2.2[j].toNat, by omega⟩
    rw [hy] at h2 ⊢
    have hyl : y < l.length := by omega
    have hyt : y < (tb l.length f).length := by rw [tb_len]; exact hyl
    have hb := hf y
    simp only [L1_spec_l04Used, idx_run hi, hr, lt_cast hj, decide_true, cond_true, idx_run hj, rd_nat hj, hy, idx_run hyt, tb_rd hyl, Int.toNat_natCast, tb_set hyl, bindD, Option.map_some, wj, wrap64 (show -9223372036854775808 ≤ f y + 1 by omega) (show f y + 1 < 9223372036854775808 by omega), bump]) (fun f hf => by
    simp only [L1_spec_l04Used, idx_run hi, hr, not_lt_self, decide_false, cond_false, Option.map_some]) f (by simpa using hf)
  exact h.1
theorem used_inI (l : List NODE) (p : PROG) (hl : FineN l) (hk : Kd l) (i : Nat) (hi : i < l.length) (f : Nat → Int) {B : Int} (hB : B ≤ 1000000000000) (hf : BI B f) :
    loopF L1_impl_ProgramOk (tb l.length f, l, (l.length : Int), (i : Int), l[i].2.2.2, (l[i].2.2.2.length : Int), (0 : Int), p, ()) = some (tb l.length (l[i].2.2.2.foldl bump f), l, (l.length : Int), (i : Int), p, ()) := by
  have hx := hl.kid _ (List.getElem_mem hi)
  have hkk := hk.k _ (List.getElem_mem hi)
  generalize l[i] = x at hx hkk
  have h := loopF_fold (step := L1_impl_ProgramOk) x.2.2.2 bump (fun j f => (tb l.length f, l, (l.length : Int), (i : Int), x.2.2.2, (x.2.2.2.length : Int), (j : Int), p, ())) (fun f => (tb l.length f, l, (l.length : Int), (i : Int), p, ())) (fun j f => BI (B + (j : Int)) f) (fun j hj f hf => by
    obtain ⟨h1, h2⟩ := hkk _ (List.getElem_mem hj)
    refine ⟨?_, by rw [show B + ((j + 1 : Nat) : Int) = B + (j : Int) + 1 by omega]; exact hf.bump h1⟩
    have wj := wrapSucc (show j < 9223372036854775807 by omega)
    obtain ⟨y, hy⟩ : ∃ y : Nat, x.2.2.2[j] = (y : Int) := ⟨x.2.2.2[j].toNat, by omega⟩
    rw [hy] at h2 ⊢
    have hyl : y < l.length := by omega
    have hyt : y < (tb l.length f).length := by rw [tb_len]; exact hyl
    have hb := hf y
    simp only [L1_impl_ProgramOk, lt_cast hj, decide_true, cond_true, idx_run hj, rd_nat hj, hy, idx_run hyt, tb_rd hyl, Int.toNat_natCast, tb_set hyl, bindD, Option.map_some, wj, wrap64 (show -9223372036854775808 ≤ f y + 1 by omega) (show f y + 1 < 9223372036854775808 by omega), bump]) (fun f hf => by
    simp only [L1_impl_ProgramOk, not_lt_self, decide_false, cond_false, Option.map_some]) f (by simpa using hf)
  exact h.1
def bumpN (f : Nat → Int) (x : NODE) : Nat → Int := x.2.2.2.foldl bump f
theorem bumpN_eq (f : Nat → Int) (x : NODE) (hx : ∀ y ∈ x.2.2.2, (0 : Int) ≤ y) : bumpN f x = fun t => f t + (cn x.2.2.2 t : Int) := bumps _ hx f
theorem bumpNs (l : List NODE) (hk : ∀ x ∈ l, ∀ y ∈ (x : NODE).2.2.2, (0 : Int) ≤ y) : ∀ f : Nat → Int, l.foldl bumpN f = fun t => f t + (us l t : Int) := by
  induction l with
  | nil => intro f; funext t; simp [us]
  | cons x l ih =>
    intro f
    rw [List.foldl_cons, ih (fun z hz => hk z (List.mem_cons_of_mem _ hz)), bumpN_eq f x (hk x (List.mem_cons_self ..))]
    funext t
    simp only [us]; omega
theorem BI.bumpN {B : Int} {f : Nat → Int} (h : BI B f) {x : NODE} (hx : ∀ y ∈ x.2.2.2, (0 : Int) ≤ y) (hl : x.2.2.2.length ≤ 1048576) : BI (B + 1048576) (bumpN f x) := by
  intro t
  rw [bumpN_eq f x hx]
  have := h t
  have := cn_le x.2.2.2 t
  simp only; omega
def U (l : List NODE) : Nat → Int := fun t => (us l t : Int)
theorem usedS (l : List NODE) (hl : FineN l) (hk : Kd l) (h300 : l.length ≤ 300) : spec_l04Used l = some (tb l.length (U l), ()) := by
  have h := loopF_fold (step := L2_spec_l04Used) l bumpN (fun i f => (l, tb l.length f, (i : Int), ())) (fun f => (tb l.length f, ())) (fun i f => BI ((i : Int) * 1048576) f) (fun i hi f hf => by
    have hx := hl.kid _ (List.getElem_mem hi)
    have hkk := hk.k _ (List.getElem_mem hi)
    refine ⟨?_, by rw [show ((i + 1 : Nat) : Int) * 1048576 = (i : Int) * 1048576 + 1048576 by omega]; exact hf.bumpN (fun y hy => (hkk y hy).1) hx⟩
    simp only [L2_spec_l04Used, lt_cast hi, decide_true, cond_true, Option.bind_some, used_in l hl hk i hi f (show (i : Int) * 1048576 ≤ 1000000000000 by omega) hf, joinP_some, Option.map_some, wrapSucc (show i < 9223372036854775807 by omega), bumpN]) (fun f hf => by
    simp only [L2_spec_l04Used, not_lt_self, decide_false, cond_false, Option.map_some]) (fun _ => 0) (fun t => by simp)
  have h1 := h.1
  rw [bumpNs l (fun x hx y hy => (hk.k x hx y hy).1)] at h1
  have h' : loopF L2_spec_l04Used (l, List.replicate l.length (0 : Int), (0 : Int), ()) = some (tb l.length (U l), ()) := by
    rw [tb_rep]
    refine h1.trans ?_
    have : (fun t => (0 : Int) + (us l t : Int)) = U l := by funext t; simp [U]
    rw [this]
  have hb : ∀ {α : Type} {K : Option α}, (Cnd.both (Cnd.nn (l.length : Int)) (Cnd.le (l.length * 8) 140737488355328)).run K = K := fun {α} {K} => by
    simp only [Cnd.run]
    rw [if_pos (by omega), if_pos (by omega)]
  simp only [spec_l04Used, Int.toNat_natCast, hb, Option.bind_some, h', joinP_some]
theorem usedI (l : List NODE) (p : PROG) (hl : FineN l) (hk : Kd l) (h300 : l.length ≤ 300) : loopF L2_impl_ProgramOk (List.replicate l.length (0 : Int), l, (l.length : Int), (0 : Int), p, ()) = some (tb l.length (U l), p, ()) := by
  have h := loopF_fold (step := L2_impl_ProgramOk) l bumpN (fun i f => (tb l.length f, l, (l.length : Int), (i : Int), p, ())) (fun f => (tb l.length f, p, ())) (fun i f => BI ((i : Int) * 1048576) f) (fun i hi f hf => by
    have hx := hl.kid _ (List.getElem_mem hi)
    have hkk := hk.k _ (List.getElem_mem hi)
    refine ⟨?_, by rw [show ((i + 1 : Nat) : Int) * 1048576 = (i : Int) * 1048576 + 1048576 by omega]; exact hf.bumpN (fun y hy => (hkk y hy).1) hx⟩
    simp only [L2_impl_ProgramOk, lt_cast hi, decide_true, cond_true, idx_run hi, rd_nat hi, Option.bind_some, used_inI l p hl hk i hi f (show (i : Int) * 1048576 ≤ 1000000000000 by omega) hf, joinP_some, Option.map_some, wrapSucc (show i < 9223372036854775807 by omega), bumpN]) (fun f hf => by
    simp only [L2_impl_ProgramOk, not_lt_self, decide_false, cond_false, Option.map_some]) (fun _ => 0) (fun t => by simp)
  have h1 := h.1
  rw [bumpNs l (fun x hx y hy => (hk.k x hx y hy).1)] at h1
  rw [tb_rep]
  refine h1.trans ?_
  have : (fun t => (0 : Int) + (us l t : Int)) = U l := by funext t; simp [U]
  rw [this]
end Go.Proofs.YtgkgfpbdodafaaaGreatDoorE

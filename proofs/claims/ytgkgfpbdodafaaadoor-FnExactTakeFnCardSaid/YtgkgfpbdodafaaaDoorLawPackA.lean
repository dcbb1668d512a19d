/- Nodes put behind others: what stays right. No condition beyond each lemma's own. -/
import Derived.Test.YtgkgfpbdodafaaaDoorLawProgEq
set_option linter.all false
namespace Go.Proofs.YtgkgfpbdodafaaaDoorE
set_option linter.all false
set_option maxRecDepth 100000

theorem rd_app {α : Type} {a b : List α} {k : Nat} {z : α} (h : k < a.length) : rd (a ++ b) (k : Int) z = rd a (k : Int) z := by
  rw [rd_nat (by rw [List.length_append]; omega), rd_nat h, List.getElem_append_left h]
theorem kidOk_app (a b : List NODE) (k : Nat) (hk : k < a.length) (x : NODE) (i : Nat) : kidOk (a ++ b) (k : Int) x i = kidOk a (k : Int) x i := by
  unfold kidOk
  by_cases h : 0 ≤ x.2.2.2.getD i 0 ∧ x.2.2.2.getD i 0 ≤ (k : Int) - 1
  · generalize x.2.2.2.getD i 0 = y at h
    obtain ⟨n, rfl⟩ : ∃ n : Nat, y = (n : Int) := ⟨y.toNat, by omega⟩
    rw [rd_app (show n < a.length by omega)]
  · rw [decide_eq_false h, Bool.false_and, Bool.false_and]
theorem nodeOk_app (a b : List NODE) (k : Nat) (hk : k < a.length) : nodeOk (a ++ b) (k : Int) = nodeOk a (k : Int) := by
  unfold nodeOk nodeBody kidsOk
  rw [rd_app hk, decide_eq_true (show 0 ≤ (k : Int) ∧ (k : Int) ≤ ((a ++ b).length : Int) - 1 by rw [List.length_append]; omega), decide_eq_true (show 0 ≤ (k : Int) ∧ (k : Int) ≤ (a.length : Int) - 1 by omega)]
  congr 5
  exact all_ext' fun i _ => kidOk_app a b k hk _ i
theorem deeps_app (a b : List NODE) : ∀ k, k ≤ a.length → deeps (a ++ b) k = deeps a k
  | 0, _ => rfl
  | k + 1, h => by
    have ih := deeps_app a b k (by omega)
    simp only [deeps, dNext]
    rw [ih, nodeOk_app a b k (by omega), rd_app (show k < a.length by omega)]
theorem dAt_app (a b : List NODE) {k : Nat} (hk : k < a.length) : dAt (a ++ b) k = dAt a k := by
  unfold dAt dNext
  rw [deeps_app a b k (by omega), nodeOk_app a b k hk, rd_app hk]
/-- Nodes that are right, each used once, but for the open roots R. -/
structure PI (a : List NODE) (R : List Int) : Prop where
  ok : ∀ j : Nat, j < a.length → nodeOk a (j : Int) = true ∧ dAt a j ≠ 0
  ct : ∀ t : Nat, t < a.length → us a t + cn R t = 1
  rg : ∀ r ∈ R, (0 : Int) ≤ r ∧ r < (a.length : Int)
theorem cn_out : ∀ (l : List Int) (t : Nat), (∀ y ∈ l, y < (t : Int)) → cn l t = 0
  | [], _, _ => rfl
  | y :: l, t, h => by
    have : ¬ y = (t : Int) := by have := h y (List.mem_cons_self ..); omega
    simp only [cn, decide_eq_false this, cond_false, cn_out l t (fun z hz => h z (List.mem_cons_of_mem _ hz))]
theorem us_out : ∀ (l : List NODE) (t : Nat), (∀ x ∈ l, ∀ y ∈ (x : NODE).2.2.2, y < (t : Int)) → us l t = 0
  | [], _, _ => rfl
  | x :: l, t, h => by
    simp only [us, cn_out _ t (h x (List.mem_cons_self ..)), us_out l t (fun z hz => h z (List.mem_cons_of_mem _ hz))]
theorem PI.kids_lt {a : List NODE} {R : List Int} (h : PI a R) : ∀ x ∈ a, ∀ y ∈ (x : NODE).2.2.2, (0 : Int) ≤ y ∧ y < (a.length : Int) := fun x hx y hy => by
  obtain ⟨j, hj, rfl⟩ := List.getElem_of_mem hx
  have := kid_mem (h.ok j hj).1
  rw [rd_nat hj] at this
  have := this y hy
  omega
theorem hasI_cn : ∀ (l : List Int) (t : Nat), cn l t = 0 → hasI l (t : Int) = false
  | [], _, _ => rfl
  | y :: l, t, h => by
    simp only [cn] at h
    cases hd : decide (y = (t : Int))
    · rw [hd, cond_false] at h
      simp only [hasI, List.any_cons, hd, Bool.false_or]
      exact hasI_cn l t (by omega)
    · rw [hd, cond_true] at h; omega
theorem dist_of {ks : List Int} (h0 : ∀ y ∈ ks, (0 : Int) ≤ y) (h : ∀ t, cn ks t ≤ 1) (i : Nat) (hi : i < ks.length) : hasI (ks.take i) ks[i] = false := by
  obtain ⟨t, ht⟩ : ∃ t : Nat, ks[i] = (t : Int) := ⟨ks[i].toNat, by have := h0 _ (List.getElem_mem hi); omega⟩
  rw [ht]
  refine hasI_cn _ t ?_
  have h1 := h t
  have e : cn ks t = cn (ks.take i) t + cn (ks.drop i) t := by rw [← cn_app, List.take_append_drop]
  rw [List.drop_eq_getElem_cons hi] at e
  simp only [cn, decide_eq_true ht, cond_true] at e
  omega
def dmx (d v : Int) : Int := if d < v + 1 then v + 1 else d
theorem dStep_map (ds : List Int) : ∀ (ks : List Int) (d : Int), ks.foldl (dStep ds) d = (ks.map fun y => rd ds y (0 : Int)).foldl dmx d
  | [], d => rfl
  | y :: ks, d => by
    simp only [List.foldl_cons, List.map_cons]
    rw [dStep_map ds ks]; rfl
/-- A new index for an old one: the same kind, as deep. -/
def Cor (l a : List NODE) (y z : Int) : Prop := ∃ n : Nat, z = (n : Int) ∧ n < a.length ∧ (rd a z zN).1 = (rd l y zN).1 ∧ dAt a n = dAt l y.toNat
theorem Cor.app {l a : List NODE} {y z : Int} (h : Cor l a y z) (b : List NODE) : Cor l (a ++ b) y z := by
  obtain ⟨n, rfl, h1, h2, h3⟩ := h
  exact ⟨n, rfl, by rw [List.length_append]; omega, by rw [rd_app h1]; exact h2, by rw [dAt_app a b h1]; exact h3⟩
structure Cors (l a : List NODE) (ys zs : List Int) : Prop where
  len : zs.length = ys.length
  c : ∀ i (h : i < ys.length) (h' : i < zs.length), Cor l a ys[i] zs[i]
theorem Cors.app {l a : List NODE} {ys zs : List Int} (h : Cors l a ys zs) (b : List NODE) : Cors l (a ++ b) ys zs := ⟨h.len, fun i h1 h2 => (h.c i h1 h2).app b⟩
/-- A node is put behind its kids. -/
theorem PI.node {l a : List NODE} {R zs : List Int} {k : Nat} (hk : k < l.length) (hl : nodeOk l (k : Int) = true ∧ dAt l k ≠ 0) (hlp : ∀ j : Nat, j < k → dAt l j ≠ 0) (h : PI a (R ++ zs)) (hc : Cors l a (rd l (k : Int) zN).2.2.2 zs) :
    PI (a ++ [((rd l (k : Int) zN).1, ((rd l (k : Int) zN).2.1, ((rd l (k : Int) zN).2.2.1, zs)))]) (R ++ [(a.length : Int)]) ∧ Cor l (a ++ [((rd l (k : Int) zN).1, ((rd l (k : Int) zN).2.1, ((rd l (k : Int) zN).2.2.1, zs)))]) (k : Int) (a.length : Int) := by
  have hkid := kid_mem hl.1
  have hdl : dAt l k = dCut (dKids (deeps l k) (rd l (k : Int) zN)) := by
    unfold dAt dNext
    have : (decide (k = 0) || decide (rd (deeps l k) ((k : Int) - 1) (0 : Int) ≠ 0)) = true := by
      by_cases hz : k = 0
      · simp [hz]
      · rw [show (k : Int) - 1 = ((k - 1 : Nat) : Int) by omega, deeps_get l k (k - 1) (by omega)]
        simp [hlp (k - 1) (by omega)]
    rw [hl.1, this]; rfl
  have hnode := hl.1
  simp only [nodeOk, nodeBody, kidsOk, Bool.and_eq_true, List.all_eq_true] at hnode
  obtain ⟨_, n1, n2, n3, n4, n5⟩ := hnode
  generalize hx : rd l (k : Int) zN = x at n1 n2 n3 n4 n5 hc hkid hdl ⊢
  have hz0 : ∀ y ∈ zs, (0 : Int) ≤ y ∧ y < (a.length : Int) := fun y hy => h.rg y (List.mem_append_right _ hy)
  have hR0 : ∀ y ∈ R, (0 : Int) ≤ y ∧ y < (a.length : Int) := fun y hy => h.rg y (List.mem_append_left _ hy)
  have hzd : ∀ t, cn zs t ≤ 1 := fun t => by
    by_cases ht : t < a.length
    · have := h.ct t ht
      rw [cn_app] at this; omega
    · rw [cn_out zs t (fun y hy => by have := (hz0 y hy).2; omega)]; omega
  have hrx : rd (a ++ [((x.1, (x.2.1, (x.2.2.1, zs))) : NODE)]) (a.length : Int) zN = (x.1, (x.2.1, (x.2.2.1, zs))) := by
    rw [rd_nat (by simp)]; simp
  have hnew : nodeOk (a ++ [((x.1, (x.2.1, (x.2.2.1, zs))) : NODE)]) (a.length : Int) = true := by
    simp only [nodeOk, nodeBody, kidsOk, Bool.and_eq_true, List.all_eq_true, hrx]
    refine ⟨decide_eq_true (by rw [List.length_append]; simp), n1, ?_, n3, n4, fun i hi => ?_⟩
    · rw [hc.len]; exact n2
    · have hi' : i < zs.length := by simpa using hi
      have hiy : i < x.2.2.2.length := by rw [← hc.len]; exact hi'
      have h5 := n5 i (by simpa using hiy)
      simp only [kidOk, Bool.and_eq_true] at h5 ⊢
      have e1 : x.2.2.2.getD i 0 = x.2.2.2[i] := by simp [hiy]
      have e2 : zs.getD i 0 = zs[i] := by simp [hi']
      obtain ⟨n, c1, c2, c3, _⟩ := hc.c i hiy hi'
      rw [e1] at h5
      rw [e2]
      refine ⟨decide_eq_true (by rw [c1]; omega), ?_, ?_⟩
      · rw [c1, rd_app c2, ← c1, c3]; exact h5.2.1
      · rw [dist_of (fun y hy => (hz0 y hy).1) hzd i hi']; rfl
  have hdep : deeps (a ++ [((x.1, (x.2.1, (x.2.2.1, zs))) : NODE)]) a.length = deeps a a.length := deeps_app a _ a.length (Nat.le_refl _)
  have hdnew : dAt (a ++ [((x.1, (x.2.1, (x.2.2.1, zs))) : NODE)]) a.length = dAt l k := by
    have hcond : (decide (a.length = 0) || decide (rd (deeps a a.length) ((a.length : Int) - 1) (0 : Int) ≠ 0)) = true := by
      by_cases hz : a.length = 0
      · simp [hz]
      · rw [show (a.length : Int) - 1 = ((a.length - 1 : Nat) : Int) by omega, deeps_get a a.length (a.length - 1) (by omega)]
        simp [(h.ok (a.length - 1) (by omega)).2]
    rw [hdl]
    unfold dAt dNext
    rw [hnew, hdep, hcond, hrx]
    show dCut (dKids (deeps a a.length) (x.1, (x.2.1, (x.2.2.1, zs)))) = _
    unfold dKids
    rw [dStep_map, dStep_map]
    have : zs.map (fun y => rd (deeps a a.length) y (0 : Int)) = x.2.2.2.map (fun y => rd (deeps l k) y (0 : Int)) := by
      apply List.ext_getElem
      · rw [List.length_map, List.length_map, hc.len]
      · intro i h1 h2
        rw [List.length_map] at h1 h2
        rw [List.getElem_map, List.getElem_map]
        obtain ⟨n, c1, c2, _, c4⟩ := hc.c i h2 h1
        have hy := hkid _ (List.getElem_mem h2)
        rw [c1, deeps_get a a.length n c2, c4]
        have := deeps_get l k (x.2.2.2[i]).toNat (by omega)
        rw [show (((x.2.2.2[i]).toNat : Nat) : Int) = x.2.2.2[i] by omega] at this
        exact this.symm
    show dCut ((zs.map fun y => rd (deeps a a.length) y (0 : Int)).foldl dmx 1) = _
    rw [this]
  refine ⟨⟨fun j hj => ?_, fun t ht => ?_, fun r hr => ?_⟩, a.length, rfl, by simp, by rw [hrx, hx], by rw [hdnew]; rfl⟩
  · rw [List.length_append, List.length_singleton] at hj
    by_cases e : j = a.length
    · subst e; exact ⟨hnew, by rw [hdnew]; exact hl.2⟩
    · rw [nodeOk_app a _ j (by omega), dAt_app a _ (by omega)]
      exact h.ok j (by omega)
  · rw [List.length_append, List.length_singleton] at ht
    rw [us_app, cn_app]
    have e3 : us [((x.1, (x.2.1, (x.2.2.1, zs))) : NODE)] t = cn zs t := by simp [us]
    rw [e3]
    by_cases e : t = a.length
    · subst e
      rw [us_out a _ (fun x hx y hy => (h.kids_lt x hx y hy).2), cn_out zs _ (fun y hy => (hz0 y hy).2), cn_out R _ (fun y hy => (hR0 y hy).2)]
      simp [cn]
    · have := h.ct t (by omega)
      rw [cn_app] at this
      have e4 : cn [(a.length : Int)] t = 0 := by
        have : ¬ (a.length : Int) = (t : Int) := by omega
        simp only [cn, decide_eq_false this, cond_false]
      rw [e4]; omega
  · rw [List.length_append, List.length_singleton]
    rcases List.mem_append.1 hr with hr | hr
    · have := hR0 r hr; omega
    · rw [List.mem_singleton.1 hr]; omega
end Go.Proofs.YtgkgfpbdodafaaaDoorE

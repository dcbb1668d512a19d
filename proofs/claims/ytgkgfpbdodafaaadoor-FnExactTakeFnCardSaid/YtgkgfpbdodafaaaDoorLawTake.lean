/- A program's function is taken into another: the nodes joined are right again. No condition beyond each lemma's own. -/
import Derived.Test.YtgkgfpbdodafaaaDoorLawDropA
set_option linter.all false
namespace Go.Proofs.YtgkgfpbdodafaaaDoorE
set_option linter.all false
set_option maxRecDepth 100000

/-- A node whose kids stand c places on. -/
def shN (c : Nat) (x : NODE) : NODE := (x.1, (x.2.1, (x.2.2.1, x.2.2.2.map fun y => y + (c : Int))))
def joinN (a b : List NODE) : List NODE := a ++ b.map (shN a.length)
theorem joinN_len (a b : List NODE) : (joinN a b).length = a.length + b.length := by simp [joinN]
theorem joinN_rd {a b : List NODE} {k : Nat} (hk : k < b.length) : rd (joinN a b) ((a.length + k : Nat) : Int) zN = shN a.length (rd b (k : Int) zN) := by
  rw [rd_nat (by rw [joinN_len]; omega), rd_nat hk]
  simp [joinN]
theorem hasI_sh (c : Nat) : ∀ (l : List Int) (y : Int), hasI (l.map fun y => y + (c : Int)) (y + (c : Int)) = hasI l y
  | [], _ => rfl
  | z :: l, y => by
    have ih := hasI_sh c l y
    simp only [hasI] at ih
    have e : decide (z + (c : Int) = y + (c : Int)) = decide (z = y) := decide_eq_decide.2 ⟨fun h => by omega, fun h => by omega⟩
    simp only [hasI, List.map_cons, List.any_cons, ih, e]
theorem getD_nat {α : Type} {l : List α} {i : Nat} {z : α} (h : i < l.length) : l.getD i z = l[i] := by simp [h]
theorem kidOk_sh {a b : List NODE} {k : Nat} (hk : k < b.length) (x : NODE) {i : Nat} (hi : i < x.2.2.2.length) (h : kidOk b (k : Int) x i = true) : kidOk (joinN a b) ((a.length + k : Nat) : Int) (shN a.length x) i = true := by
  unfold kidOk at h ⊢
  rw [getD_nat hi] at h
  have hi' : i < (shN a.length x).2.2.2.length := by simp [shN]; exact hi
  have e0 : (shN a.length x).2.2.2[i] = x.2.2.2[i] + (a.length : Int) := by simp [shN]
  rw [getD_nat hi', e0]
  have e1 : (shN a.length x).2.2.2.take i = (x.2.2.2.take i).map fun y => y + (a.length : Int) := by simp [shN, List.map_take]
  rw [e1, hasI_sh]
  rw [Bool.and_eq_true, Bool.and_eq_true, decide_eq_true_eq] at h
  obtain ⟨h1, h2, h3⟩ := h
  generalize x.2.2.2[i] = y at h1 h2 h3 ⊢
  obtain ⟨n, rfl⟩ : ∃ n : Nat, y = (n : Int) := ⟨y.toNat, by omega⟩
  have e2 : (n : Int) + (a.length : Int) = ((a.length + n : Nat) : Int) := by omega
  rw [h3, Bool.and_true, e2, joinN_rd (show n < b.length by omega)]
  have e3 : (shN a.length (rd b (n : Int) zN)).1 = (rd b (n : Int) zN).1 := rfl
  have e4 : (shN a.length x).1 = x.1 := rfl
  rw [e3, e4, h2, Bool.and_true, decide_eq_true_eq]
  omega
theorem nodeOk_sh {a b : List NODE} {k : Nat} (hk : k < b.length) (h : nodeOk b (k : Int) = true) : nodeOk (joinN a b) ((a.length + k : Nat) : Int) = true := by
  unfold nodeOk at h ⊢
  rw [joinN_rd hk]
  generalize rd b (k : Int) zN = x at h ⊢
  rw [Bool.and_eq_true] at h ⊢
  refine ⟨decide_eq_true (by rw [joinN_len]; omega), ?_⟩
  have h := h.2
  unfold nodeBody at h ⊢
  have e4 : (shN a.length x).1 = x.1 := rfl
  have e5 : (shN a.length x).2.1 = x.2.1 := rfl
  have e6 : (shN a.length x).2.2.1 = x.2.2.1 := rfl
  have e7 : (shN a.length x).2.2.2.length = x.2.2.2.length := by simp [shN]
  rw [e4, e5, e6, e7]
  simp only [Bool.and_eq_true] at h ⊢
  refine ⟨h.1, h.2.1, h.2.2.1, h.2.2.2.1, ?_⟩
  have hk2 := h.2.2.2.2
  unfold kidsOk at hk2 ⊢
  rw [e7]
  rw [List.all_eq_true] at hk2 ⊢
  intro i hi
  exact kidOk_sh hk x (List.mem_range.1 hi) (hk2 i hi)
theorem dAt_val {l : List NODE} {k : Nat} (hk : nodeOk l (k : Int) = true) (hp : ∀ j : Nat, j < k → dAt l j ≠ 0) : dAt l k = dCut (((rd l (k : Int) zN).2.2.2.map fun y => dAt l y.toNat).foldl dmx 1) := by
  have hkid := kid_mem hk
  have hdl : dAt l k = dCut (dKids (deeps l k) (rd l (k : Int) zN)) := by
    unfold dAt dNext
    have : (decide (k = 0) || decide (rd (deeps l k) ((k : Int) - 1) (0 : Int) ≠ 0)) = true := by
      by_cases hz : k = 0
      · simp [hz]
      · rw [show (k : Int) - 1 = ((k - 1 : Nat) : Int) by omega, deeps_get l k (k - 1) (by omega)]
        simp [hp (k - 1) (by omega)]
    rw [this, hk, Bool.and_true, cond_true]
  rw [hdl, dKids, dStep_map]
  congr 2
  refine List.map_congr_left fun y hy => ?_
  have := hkid y hy
  have e := deeps_get l k y.toNat (by omega)
  rwa [show ((y.toNat : Nat) : Int) = y by omega] at e
theorem dAt_sh {a b : List NODE} (ha : AllN a) (hb : AllN b) : ∀ k, k < b.length → dAt (joinN a b) (a.length + k) = dAt b k := by
  intro k
  induction k using Nat.strongRecOn with
  | _ k ih =>
    intro hk
    have hj : ∀ j : Nat, j < a.length + k → dAt (joinN a b) j ≠ 0 := fun j hjk => by
      by_cases h : j < a.length
      · rw [joinN, dAt_app a _ h]; exact (ha j h).2
      · obtain ⟨m, rfl⟩ : ∃ m, j = a.length + m := ⟨j - a.length, by omega⟩
        rw [ih m (by omega) (by omega)]; exact (hb m (by omega)).2
    rw [dAt_val (nodeOk_sh hk (hb k hk).1) hj, dAt_val (hb k hk).1 (fun j h => (hb j (by omega)).2), joinN_rd hk]
    congr 2
    have hkid := kid_mem (hb k hk).1
    generalize rd b (k : Int) zN = x at hkid ⊢
    simp only [shN, List.map_map]
    refine List.map_congr_left fun y hy => ?_
    have := hkid y hy
    simp only [Function.comp]
    rw [show (y + (a.length : Int)).toNat = a.length + y.toNat by omega]
    exact ih y.toNat (by omega) (by omega)
/-- The nodes joined are right. -/
theorem AllN.join {a b : List NODE} (ha : AllN a) (hb : AllN b) : AllN (joinN a b) := fun j hj => by
  rw [joinN_len] at hj
  by_cases h : j < a.length
  · have h1 := ha j h
    rw [joinN, dAt_app a _ h, nodeOk_app a _ j h]; exact h1
  · obtain ⟨m, rfl⟩ : ∃ m, j = a.length + m := ⟨j - a.length, by omega⟩
    exact ⟨nodeOk_sh (by omega) (hb m (by omega)).1, by rw [dAt_sh ha hb m (by omega)]; exact (hb m (by omega)).2⟩
end Go.Proofs.YtgkgfpbdodafaaaDoorE

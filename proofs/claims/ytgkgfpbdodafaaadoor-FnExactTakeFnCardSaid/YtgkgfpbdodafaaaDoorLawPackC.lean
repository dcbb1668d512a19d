/- What the packing leaves is right. No condition beyond each lemma's own. -/
import Derived.Test.YtgkgfpbdodafaaaDoorLawPackB
set_option linter.all false
namespace Go.Proofs.YtgkgfpbdodafaaaDoorE
set_option linter.all false
set_option maxRecDepth 100000

theorem fnAt_names {a b : List FN} (h : a.map (·.1) = b.map (·.1)) (s : ByteArray) : fnAt a s = fnAt b s := by
  have h1 := List.findIdx?_map (f := fun x : FN => x.1) (l := a) (p := fun n => decide (n = s))
  have h2 := List.findIdx?_map (f := fun x : FN => x.1) (l := b) (p := fun n => decide (n = s))
  unfold fnAt
  have e : a.findIdx? (fun f => decide (f.1 = s)) = b.findIdx? (fun f => decide (f.1 = s)) := by
    have h1' : (a.map (·.1)).findIdx? (fun n => decide (n = s)) = a.findIdx? (fun f => decide (f.1 = s)) := h1
    have h2' : (b.map (·.1)).findIdx? (fun n => decide (n = s)) = b.findIdx? (fun f => decide (f.1 = s)) := h2
    rw [← h1', ← h2', h]
  rw [e]
theorem fnAt_iff {l : List FN} {s : ByteArray} {i : Nat} : fnAt l s = (i : Int) ↔ ∃ h : i < l.length, l[i].1 = s ∧ ∀ j (hj : j < i), (l[j]'(by omega)).1 ≠ s := by
  unfold fnAt
  cases hf : l.findIdx? fun f => decide (f.1 = s) with
  | none =>
    simp only
    refine ⟨fun h => by omega, fun ⟨h, h1, _⟩ => ?_⟩
    rw [List.findIdx?_eq_none_iff] at hf
    have := hf _ (List.getElem_mem h)
    simp [h1] at this
  | some k =>
    rw [List.findIdx?_eq_some_iff_getElem] at hf
    obtain ⟨hk, h1, h2⟩ := hf
    simp only
    refine ⟨fun h => ?_, fun ⟨h, h3, h4⟩ => ?_⟩
    · have : k = i := by omega
      subst this
      exact ⟨hk, by simpa using h1, fun j hj => by simpa using h2 j hj⟩
    · have : k = i := by
        rcases Nat.lt_trichotomy k i with hlt | he | hgt
        · exact absurd (by simpa using h1) (h4 k hlt)
        · exact he
        · have := h2 i hgt
          simp [h3] at this
      omega
/-- Of a right program. -/
structure Right (p : PROG) : Prop where
  n1 : 1 ≤ p.1.length
  n2 : p.1.length ≤ 300
  f1 : 1 ≤ p.2.length
  f2 : p.2.length ≤ 8
  all : AllN p.1
  fns : ∀ i (h : i < p.2.length), fnI p.1 p.2[i] = true ∧ fnAt p.2 p.2[i].1 = (i : Int)
  ct : ∀ t, t < p.1.length → us p.1 t + cn (rootsL p.2) t = 1
theorem allF_iff (p : PROG) : allF p = true ↔ ∀ i (h : i < p.2.length), fnI p.1 p.2[i] = true ∧ fnAt p.2 p.2[i].1 = (i : Int) := by
  unfold allF
  rw [List.all_eq_true]
  refine ⟨fun h i hi => ?_, fun h i hi => ?_⟩
  · have := h i (by simpa using hi)
    simp only [fokB, Bool.and_eq_true, decide_eq_true_eq] at this
    rwa [rd_nat hi] at this
  · have hi' : i < p.2.length := by simpa using hi
    simp only [fokB, Bool.and_eq_true, decide_eq_true_eq]
    rw [rd_nat hi']
    exact h i hi'
theorem right_of {p : PROG} (h : progOk p = true) : Right p := by
  simp only [progOk, Bool.and_eq_true, decide_eq_true_eq] at h
  obtain ⟨⟨a1, a2⟩, ⟨b1, b2⟩, c, d, e⟩ := h
  have hA := alln_of c
  have hr := allF_roots d
  refine ⟨by omega, by omega, by omega, by omega, hA, (allF_iff p).1 d, fun t ht => ?_⟩
  rw [adds _ (fun y hy => (hr y hy).1), good_tb, List.all_eq_true] at e
  have h1 := e t (by simpa using ht)
  have h2 := us_le hA t
  have hU : U p.1 t = (us p.1 t : Int) := rfl
  simp only [hU, Bool.or_eq_true, decide_eq_true_eq] at h1
  rcases h1 with h1 | h1 <;> omega
theorem Right.ok {p : PROG} (h : Right p) : progOk p = true := by
  have hF := (allF_iff p).2 h.fns
  have hr := allF_roots hF
  have n1 := h.n1
  have n2 := h.n2
  have f1 := h.f1
  have f2 := h.f2
  have hlast := h.all (p.1.length - 1) (by omega)
  have hd : (0 : Int) < deepAt p.1 ((p.1.length : Int) - 1) := by
    unfold deepAt
    rw [decide_eq_true (by omega), cond_true, show ((p.1.length : Int) - 1).toNat = p.1.length - 1 by omega]
    have := dAt_le p.1 (p.1.length - 1)
    omega
  simp only [progOk, Bool.and_eq_true, decide_eq_true_eq]
  refine ⟨⟨by omega, by omega⟩, ⟨by omega, by omega⟩, hd, hF, ?_⟩
  rw [adds _ (fun y hy => (hr y hy).1), good_tb, List.all_eq_true]
  intro t ht
  have ht : t < p.1.length := by simpa using ht
  have := h.ct t ht
  have hU : U p.1 t = (us p.1 t : Int) := rfl
  simp only [hU, Bool.or_eq_true, decide_eq_true_eq]
  omega
theorem fnI_roots {l : List NODE} {x : FN} (h : fnI l x = true) : ∀ y ∈ roots x, (0 : Int) ≤ y ∧ y < (l.length : Int) := by
  simp only [fnI, bodyOk, Bool.and_eq_true, decide_eq_true_eq] at h
  obtain ⟨_, _, _, _, ⟨hb, _⟩, hr⟩ := h
  intro y hy
  unfold roots at hy
  rcases List.mem_cons.1 hy with rfl | hy
  · omega
  · cases hd : decide ((0 : Int) ≤ x.2.2.2.2)
    · rw [hd, cond_false] at hy; cases hy
    · rw [hd, cond_true] at hy
      obtain rfl := List.mem_singleton.1 hy
      have hd := of_decide_eq_true hd
      unfold retOk at hr
      cases h0 : decide (x.2.2.1 = 0)
      · rw [h0, cond_false, Bool.and_eq_true, decide_eq_true_eq] at hr
        omega
      · rw [h0, cond_true, decide_eq_true_eq] at hr
        omega
theorem fnI_FC {l a : List NODE} {x y : FN} (h : fnI l x = true) (hc : FC l a x y) : fnI a y = true := by
  have hroots := fnI_roots h
  simp only [fnI, bodyOk, Bool.and_eq_true, decide_eq_true_eq] at h ⊢
  obtain ⟨h1, h2, h3, h4, ⟨h5, h6⟩, h7⟩ := h
  obtain ⟨n, c1, c2, c3, _⟩ := hc.bd
  refine ⟨by rw [hc.nm]; exact h1, by rw [hc.ps]; exact h2, by rw [hc.rt]; exact h3, by unfold pars; rw [hc.ps]; exact h4, ⟨by omega, by rw [c3]; exact h6⟩, ?_⟩
  unfold retOk at h7 ⊢
  rw [hc.rt]
  cases h0 : decide (x.2.2.1 = 0)
  · rw [h0, cond_false, Bool.and_eq_true, decide_eq_true_eq, decide_eq_true_eq] at h7
    rw [cond_false, Bool.and_eq_true, decide_eq_true_eq, decide_eq_true_eq]
    obtain ⟨m, d1, d2, d3, _⟩ := hc.vl (by omega)
    exact ⟨by omega, by rw [d3]; exact h7.2⟩
  · rw [h0, cond_true, decide_eq_true_eq] at h7
    rw [cond_true, decide_eq_true_eq, hc.no (by omega)]
    exact h7
/-- What the packing leaves of a program less a function is right. -/
theorem packed_right {q : PROG} {e : List NODE} {ys : List FN} (hf1 : 1 ≤ q.2.length) (hf2 : q.2.length ≤ 8) (hq : ∀ i (h : i < q.2.length), fnI q.1 q.2[i] = true ∧ fnAt q.2 q.2[i].1 = (i : Int)) (hP : PI e (rootsL ys)) (hF : FCs q.1 e q.2 ys) (hlen : e.length ≤ 300) : Right (e, ys) := by
  have hnames : ys.map (·.1) = q.2.map (·.1) := by
    apply List.ext_getElem
    · rw [List.length_map, List.length_map, hF.len]
    · intro i h1 h2
      rw [List.length_map] at h1 h2
      rw [List.getElem_map, List.getElem_map]
      exact (hF.c i h2 h1).nm
  have hylen := hF.len
  refine ⟨?_, hlen, by show 1 ≤ ys.length; omega, by show ys.length ≤ 8; omega, fun k hk => hP.ok k hk, fun i hi => ?_, hP.ct⟩
  · obtain ⟨n, _, h, _⟩ := (hF.c 0 (by omega) (by omega)).bd
    show 1 ≤ e.length
    omega
  · have hi' : i < ys.length := hi
    have hiq : i < q.2.length := by omega
    have hc := hF.c i hiq hi'
    have h1 := hq i hiq
    refine ⟨fnI_FC h1.1 hc, ?_⟩
    show fnAt ys ys[i].1 = _
    rw [fnAt_names hnames, hc.nm]
    exact h1.2
end Go.Proofs.YtgkgfpbdodafaaaDoorE

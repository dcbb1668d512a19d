/- Tightened, as the program has it and as the reference has it: rounds end, at the same code. No condition beyond each lemma's own. -/
import Derived.Test.YtibccfmlfknhbabDoorLawThread
import Derived.Test.YtibccfmlfknhbabDoorLawTrim
set_option linter.all false
namespace Go.Proofs.YtibccfmlfknhbabDoorE
set_option linter.all false
set_option maxRecDepth 100000
namespace Tight
open Threaded
/-- More places than things: two are the same. -/
theorem php : ∀ (W : Nat) (f : Nat → Nat), (∀ i, i ≤ W → f i < W) → ∃ i j, i < j ∧ j ≤ W ∧ f i = f j
  | 0, f, h => absurd (h 0 (Nat.le_refl 0)) (Nat.not_lt_zero _)
  | W + 1, f, h => by
    by_cases hex : ∃ i, i ≤ W ∧ f i = f (W + 1)
    · obtain ⟨i, hi, he⟩ := hex
      exact ⟨i, W + 1, by omega, Nat.le_refl _, he⟩
    · have hne : ∀ i, i ≤ W → f i ≠ f (W + 1) := fun i hi he => hex ⟨i, hi, he⟩
      obtain ⟨i, j, hij, hj, he⟩ := php W (fun i => if f i = W then f (W + 1) else f i) (fun i hi => by
        have h1 := h i (by omega)
        have h2 := h (W + 1) (Nat.le_refl _)
        have h3 := hne i hi
        split <;> omega)
      refine ⟨i, j, hij, by omega, ?_⟩
      have h3 := hne i (by omega)
      have h4 := hne j hj
      split at he <;> split at he <;> omega
def gst (l : List INS) (t : Nat) : Nat := (num l (t : Int)).toNat
def fst_ (l : List INS) : Nat → Nat → Nat
  | 0, t => t
  | k + 1, t => fst_ l k (gst l t)
theorem fst_add (l : List INS) : ∀ (a b t : Nat), fst_ l (a + b) t = fst_ l b (fst_ l a t)
  | 0, b, t => by rw [Nat.zero_add]; rfl
  | a + 1, b, t => by
    rw [show a + 1 + b = (a + b) + 1 by omega]
    exact fst_add l a b (gst l t)
theorem gst_ok {l : List INS} (h : Jmp l) {t : Nat} (ht : t < l.length) (ho : op l (t : Int) = 18) : num l (t : Int) = (gst l t : Int) ∧ gst l t < l.length := by
  obtain ⟨u, hu, hul⟩ := jmp_at h ht ho
  unfold gst
  rw [hu]
  exact ⟨rfl, by simpa using hul⟩
theorem chase_none {l : List INS} (h : Jmp l) : ∀ (n t : Nat), t < l.length → (chase l n (t : Int) = none ↔ ∀ k, k < n → op l (fst_ l k t : Int) = 18)
  | 0, t, _ => ⟨fun _ k hk => absurd hk (Nat.not_lt_zero k), fun _ => rfl⟩
  | n + 1, t, ht => by
    rw [chase]
    by_cases ho : op l (t : Int) = 18
    · obtain ⟨g1, g2⟩ := gst_ok h ht ho
      rw [if_pos ho, g1, chase_none h n (gst l t) g2]
      refine ⟨fun hh k hk => ?_, fun hh k hk => hh (k + 1) (by omega)⟩
      cases k with
      | zero => exact ho
      | succ k => exact hh k (by omega)
    · rw [if_neg ho]
      refine ⟨fun hh => (by cases hh), fun hh => absurd (hh 0 (by omega)) ho⟩
theorem fst_lt {l : List INS} (h : Jmp l) : ∀ (k t : Nat), t < l.length → (∀ j, j < k → op l (fst_ l j t : Int) = 18) → fst_ l k t < l.length
  | 0, t, ht, _ => ht
  | k + 1, t, ht, hh => by
    obtain ⟨_, g2⟩ := gst_ok h ht (hh 0 (by omega))
    exact fst_lt h k (gst l t) g2 (fun j hj => hh (j + 1) (by omega))
theorem forever {l : List INS} (h : Jmp l) {t : Nat} (ht : t < l.length) (hn : chase l (l.length + 1) (t : Int) = none) : ∀ n, chase l n (t : Int) = none := by
  have h1 := (chase_none h _ t ht).1 hn
  have hall : ∀ k, op l (fst_ l k t : Int) = 18 := by
    obtain ⟨i, j, hij, hj, he⟩ := php l.length (fun k => fst_ l k t) (fun k hk => fst_lt h k t ht (fun j hj => h1 j (by omega)))
    intro k
    induction k using Nat.strongRecOn with
    | _ k ih =>
      by_cases hk : k < l.length + 1
      · exact h1 k hk
      · have e1 : fst_ l k t = fst_ l (k - j) (fst_ l j t) := by rw [← fst_add]; congr 1; omega
        have e2 : fst_ l (i + (k - j)) t = fst_ l (k - j) (fst_ l i t) := fst_add l i (k - j) t
        have he : fst_ l i t = fst_ l j t := he
        rw [e1, ← he, ← e2]
        exact ih _ (by omega)
  exact fun n => (chase_none h n t ht).2 fun k _ => hall k
theorem chase_end {l : List INS} (h : Jmp l) : ∀ (n t : Nat) (u : Int), t < l.length → chase l n (t : Int) = some u → ∃ v : Nat, u = (v : Int) ∧ v < l.length ∧ op l (v : Int) ≠ 18
  | 0, t, u, _, hc => by cases hc
  | n + 1, t, u, ht, hc => by
    rw [chase] at hc
    by_cases ho : op l (t : Int) = 18
    · obtain ⟨g1, g2⟩ := gst_ok h ht ho
      rw [if_pos ho, g1] at hc
      exact chase_end h n _ u g2 hc
    · rw [if_neg ho] at hc
      obtain ⟨rfl⟩ := hc
      exact ⟨t, rfl, ht, ho⟩
theorem thr_fields (l : List INS) (w : INS) : (thr l w).1 = w.1 ∧ (thr l w).2.1 = w.2.1 ∧ (thr l w).2.2.1 = w.2.2.1 ∧ (thr l w).2.2.2.1 = w.2.2.2.1 ∧ (thr l w).2.2.2.2.2 = w.2.2.2.2.2 := by
  unfold thr
  split
  · split
    · exact ⟨rfl, rfl, rfl, rfl, rfl⟩
    · exact ⟨rfl, rfl, rfl, rfl, rfl⟩
  · exact ⟨rfl, rfl, rfl, rfl, rfl⟩
theorem rd_map {l : List INS} {f : INS → INS} {t : Nat} (ht : t < l.length) : rd (l.map f) (t : Int) zI = f l[t] := by
  rw [rd_nat (by rw [List.length_map]; exact ht), List.getElem_map]
theorem op_map {l : List INS} {t : Nat} (ht : t < l.length) : op (l.map (thr l)) (t : Int) = op l (t : Int) := by
  unfold op
  rw [rd_map ht, (thr_fields l _).1, rd_nat ht]
/-- What leads nowhere still leads nowhere. -/
theorem lost {l : List INS} (h : Jmp l) : ∀ (n t : Nat), t < l.length → (∀ n, chase l n (t : Int) = none) → chase (l.map (thr l)) n (t : Int) = none
  | 0, t, _, _ => rfl
  | n + 1, t, ht, hf => by
    have ho : op l (t : Int) = 18 := by
      have := hf 1
      rw [chase] at this
      by_cases ho : op l (t : Int) = 18
      · exact ho
      · rw [if_neg ho] at this; cases this
    obtain ⟨g1, g2⟩ := gst_ok h ht ho
    have hf2 : ∀ n, chase l n (gst l t : Int) = none := fun n => by
      have := hf (n + 1)
      rw [chase, if_pos ho, g1] at this
      exact this
    have ho' : (l[t]).1 = 18 := by simpa only [op, rd_nat ht] using ho
    have hn' : (l[t]).2.2.2.2.1 = (gst l t : Int) := by simpa only [num, rd_nat ht] using g1
    have hthr : thr l l[t] = l[t] := by
      rw [thr, if_pos (.inl ho'), hn', hf2]
    have hnum : num (l.map (thr l)) (t : Int) = (gst l t : Int) := by
      unfold num
      rw [rd_map ht, hthr]
      exact hn'
    rw [chase, if_pos (by rw [op_map ht]; exact ho), hnum]
    exact lost h n _ g2 hf2
theorem thr_idem {l : List INS} (h : Jmp l) (w : INS) (hw : w ∈ l) : thr (l.map (thr l)) (thr l w) = thr l w := by
  by_cases hj : w.1 = 18 ∨ w.1 = 19
  · obtain ⟨t, ht, htl⟩ := h w hw hj
    have hf := thr_fields l w
    have hj' : (thr l w).1 = 18 ∨ (thr l w).1 = 19 := by rw [hf.1]; exact hj
    have hlen : (l.map (thr l)).length = l.length := List.length_map ..
    cases hc : chase l (l.length + 1) (t : Int) with
    | some u =>
      obtain ⟨v, rfl, hv, hov⟩ := chase_end h _ t u htl hc
      have e : (thr l w).2.2.2.2.1 = (v : Int) := by
        rw [thr, if_pos hj, ht, hc]
      rw [thr, if_pos hj', e, hlen]
      have : chase (l.map (thr l)) (l.length + 1) (v : Int) = some (v : Int) := by
        rw [chase, if_neg (by rw [op_map hv]; exact hov)]
      rw [this, ← e]
    | none =>
      have e : thr l w = w := by rw [thr, if_pos hj, ht, hc]
      rw [e, thr, if_pos hj, ht, hlen, lost h _ t htl (forever h htl hc)]
  · have e : thr l w = w := by rw [thr, if_neg hj]
    rw [e, thr, if_neg hj]
theorem val_idem (c : CODE) : val (val c) = val c := by
  cases hc : codeOk c
  · have e : val c = c := by unfold val; rw [hc]; rfl
    rw [e, e]
  · have e : val c = (c.1, (c.2.1, (c.2.2.1, c.2.2.2.map (thr c.2.2.2)))) := by unfold val; rw [hc]; rfl
    rw [e]
    unfold val
    cases codeOk (c.1, (c.2.1, (c.2.2.1, c.2.2.2.map (thr c.2.2.2))))
    · rfl
    · simp only [cond_true]
      have : (c.2.2.2.map (thr c.2.2.2)).map (thr (c.2.2.2.map (thr c.2.2.2))) = c.2.2.2.map (thr c.2.2.2) := by
        rw [List.map_map]
        exact List.map_congr_left fun w hw => thr_idem (jmp_of hc) w hw
      rw [this]
/-- Are they the same, word by word? -/
def sameB (a b : List INS) (i : Nat) : Bool := decide ((rd a (i : Int) zI).2.2.2.2.1 = (rd b (i : Int) zI).2.2.2.2.1)
def sameL (a b : List INS) : Bool := (List.range a.length).all (sameB a b)
structure Like (a b : List INS) : Prop where
  len : a.length = b.length
  f : ∀ i (h : i < a.length) (h' : i < b.length), (a[i]).1 = (b[i]).1 ∧ (a[i]).2.1 = (b[i]).2.1 ∧ (a[i]).2.2.1 = (b[i]).2.2.1 ∧ (a[i]).2.2.2.1 = (b[i]).2.2.2.1 ∧ (a[i]).2.2.2.2.2 = (b[i]).2.2.2.2.2
theorem ints_same (l : List Int) (hl : l.length ≤ 1048576) : impl_sameInts l l = some (true, ()) := by
  have h := loopF_all (step := L1_impl_sameInts) l (fun _ => true) (fun k => (l, l, (l.length : Int), (k : Int), ())) (.inl ()) (.inr (false, ())) (fun k hk => by
    simp only [L1_impl_sameInts, lt_cast hk, decide_true, cond_true, idx_run hk, ne_eq, not_true_eq_false, decide_false, cond_false, Option.map_some, wrapSucc (show k < 9223372036854775807 by omega)]) (by
    simp only [L1_impl_sameInts, not_lt_self, decide_false, cond_false, Option.map_some])
  have h' : loopF L1_impl_sameInts (l, l, (l.length : Int), (0 : Int), ()) = _ := h
  have ht : (l.all fun _ => true) = true := by simp
  simp only [impl_sameInts, ne_eq, not_true_eq_false, decide_false, cond_false, Option.bind_some, h', ht, cond_true, joinS_inl]
theorem word_same (a b : INS) (h1 : a.1 = b.1) (h2 : a.2.1 = b.2.1) (h3 : a.2.2.1 = b.2.2.1) (h4 : a.2.2.2.1 = b.2.2.2.1) (h5 : a.2.2.2.2.2 = b.2.2.2.2.2) (hl : b.2.2.2.2.2.2.length ≤ 1048576) : impl_sameWord a b = some (decide (a.2.2.2.2.1 = b.2.2.2.2.1), ()) := by
  have h6 : a.2.2.2.2.2.1 = b.2.2.2.2.2.1 := by rw [h5]
  have h7 : a.2.2.2.2.2.2 = b.2.2.2.2.2.2 := by rw [h5]
  unfold impl_sameWord
  rw [h7, ints_same _ hl]
  cases hd : decide (a.2.2.2.2.1 = b.2.2.2.2.1) <;> simp only [h1, h2, h3, h4, h6, decide_true, cond_true, cond_false, joinP_some, Option.bind_some]
theorem sameI (a b : List INS) (h : Like a b) (hl : a.length ≤ 1048576) (ha : ∀ w ∈ b, (w : INS).2.2.2.2.2.2.length ≤ 1048576) : impl_sameWords a b = some (sameL a b, ()) := by
  have hlen := h.len
  have h1 := loopF_all (step := L1_impl_sameWords) (List.range a.length) (sameB a b) (fun k => (a, b, (a.length : Int), (k : Int), ())) (.inl ()) (.inr (false, ())) (fun k hk => by
    have hk' : k < a.length := by simpa using hk
    have hkb : k < b.length := by omega
    obtain ⟨f1, f2, f3, f4, f5⟩ := h.f k hk' hkb
    simp only [L1_impl_sameWords, lt_cast hk', decide_true, cond_true, idx_run hk', idx_run hkb, rd_nat hk', rd_nat hkb, word_same _ _ f1 f2 f3 f4 f5 (ha _ (List.getElem_mem hkb)), Option.bind_some, List.getElem_range, sameB, wrapSucc (show k < 9223372036854775807 by omega)]
    cases decide (a[k].2.2.2.2.1 = b[k].2.2.2.2.1) <;> simp only [Bool.not_true, Bool.not_false, cond_true, cond_false, Option.map_some]) (by
    rw [List.length_range]
    simp only [L1_impl_sameWords, not_lt_self, decide_false, cond_false, Option.map_some])
  have h' : loopF L1_impl_sameWords (a, b, (a.length : Int), (0 : Int), ()) = _ := h1
  have hne : decide ((a.length : Int) ≠ (b.length : Int)) = false := by simp [hlen]
  simp only [impl_sameWords, hne, cond_false, Option.bind_some, h', sameL]
  cases (List.range a.length).all (sameB a b) <;> simp only [cond_true, cond_false, joinS_inl, joinS_inr]
theorem sameS (a b : CODE) (h : Like a.2.2.2 b.2.2.2) (hl : a.2.2.2.length ≤ 1048576) : spec_l30Same a b = some (sameL a.2.2.2 b.2.2.2, ()) := by
  have hlen := h.len
  have h1 := loopF_all (step := L1_spec_l30Same) (List.range a.2.2.2.length) (sameB a.2.2.2 b.2.2.2) (fun k => ((k : Int), a, b, ())) (.inl ()) (.inr (false, ())) (fun k hk => by
    have hk' : k < a.2.2.2.length := by simpa using hk
    have hkb : k < b.2.2.2.length := by omega
    obtain ⟨f1, _⟩ := h.f k hk' hkb
    have wk := wrapSucc (show k < 9223372036854775807 by omega)
    simp only [L1_spec_l30Same, lt_cast hk', decide_true, cond_true, idx_run hk', idx_run hkb, rd_nat hk', rd_nat hkb, f1, ne_eq, not_true_eq_false, decide_false, cond_false, joinP_some, List.getElem_range, sameB]
    by_cases e : a.2.2.2[k].2.2.2.2.1 = b.2.2.2[k].2.2.2.2.1
    · simp only [e, not_true_eq_false, decide_false, decide_true, cond_false, cond_true, Option.map_some, wk]
    · simp only [e, not_false_eq_true, decide_false, decide_true, cond_false, cond_true, Option.map_some]) (by
    rw [List.length_range]
    simp only [L1_spec_l30Same, not_lt_self, decide_false, cond_false, Option.map_some])
  have h' : loopF L1_spec_l30Same ((0 : Int), a, b, ()) = _ := h1
  have hne : decide ((a.2.2.2.length : Int) ≠ (b.2.2.2.length : Int)) = false := by simp [hlen]
  simp only [spec_l30Same, hne, cond_false, Option.bind_some, h', sameL]
  cases (List.range a.2.2.2.length).all (sameB a.2.2.2 b.2.2.2) <;> simp only [cond_true, cond_false, joinS_inl, joinS_inr]
theorem diffI (a b : List INS) (h : a.length ≠ b.length) : impl_sameWords a b = some (false, ()) := by
  have hne : decide ((a.length : Int) ≠ (b.length : Int)) = true := by simp; omega
  simp only [impl_sameWords, hne, cond_true]
theorem diffS (a b : CODE) (h : a.2.2.2.length ≠ b.2.2.2.length) : spec_l30Same a b = some (false, ()) := by
  have hne : decide ((a.2.2.2.length : Int) ≠ (b.2.2.2.length : Int)) = true := by simp; omega
  simp only [spec_l30Same, hne, cond_true]
theorem like_val (c : CODE) : Like (val c).2.2.2 c.2.2.2 := by
  cases hc : codeOk c
  · have e : val c = c := by unfold val; rw [hc]; rfl
    rw [e]; exact ⟨rfl, fun i h h' => ⟨rfl, rfl, rfl, rfl, rfl⟩⟩
  · have e : (val c).2.2.2 = c.2.2.2.map (thr c.2.2.2) := by unfold val; rw [hc]; rfl
    rw [e]
    refine ⟨List.length_map .., fun i h h' => ?_⟩
    rw [List.getElem_map]
    exact thr_fields _ _
theorem like_refl (a : List INS) : Like a a := ⟨rfl, fun i h h' => ⟨rfl, rfl, rfl, rfl, rfl⟩⟩
theorem sameL_refl (a : List INS) : sameL a a = true := by
  unfold sameL
  rw [List.all_eq_true]
  intro i _
  simp [sameB]
abbrev zC : CODE := ((⟨#[]⟩ : ByteArray), ((0 : Int), ([], [])))
theorem stepS (o d : CODE) (ok b : Bool) (n : Nat) (hn : n < 1000) (h1 : spec_Threaded o = some (val o, ())) (h2 : spec_Trimmed (val o) = some (d, ok, ())) (h3 : ok = true → spec_l30Same d o = some (b, ())) :
    L1_spec_Tightened ((n : Int), zC, o, ()) = bif !ok || b then some (.inr (zC, o, ())) else some (.inl (((n + 1 : Nat) : Int), zC, d, ())) := by
  unfold L1_spec_Tightened
  simp only [show (n : Int) < 1000 by omega, decide_true, cond_true, h1, h2, Option.bind_some]
  cases ok
  · simp only [Bool.not_false, cond_true, joinP_some, Option.map_some, Bool.true_or]
  · simp only [Bool.not_true, cond_false, h3 rfl, Option.bind_some, joinP_some, Bool.false_or]
    cases b <;> simp only [cond_true, cond_false, Option.map_some, wrapSucc (show n < 9223372036854775807 by omega)]
theorem stepI (o d : CODE) (ok b : Bool) (h1 : impl_Threaded o = some (val o, ())) (h2 : impl_Trimmed (val o) = some (d, ok, ())) (h3 : ok = true → impl_sameWords d.2.2.2 o.2.2.2 = some (b, ())) :
    L1_impl_Tightened (zC, o, ()) = bif !ok || b then some (.inr (o, ())) else some (.inl (zC, d, ())) := by
  unfold L1_impl_Tightened
  simp only [h1, h2, Option.bind_some]
  cases ok
  · simp only [Bool.not_false, cond_true, joinP_some, Option.map_some, Bool.true_or]
  · simp only [Bool.not_true, cond_false, h3 rfl, Option.bind_some, joinP_some, Bool.false_or]
    cases b <;> simp only [cond_true, cond_false, Option.map_some]
theorem loop : ∀ (m n : Nat) (o : CODE), (codeOk (val o) = true → o.2.2.2.length ≤ m) → n + m + 2 ≤ 1000 → wt t_Code o ≤ 1048576 →
    ∃ r : CODE, loopF L1_spec_Tightened ((n : Int), zC, o, ()) = some (zC, r, ()) ∧ loopF L1_impl_Tightened (zC, o, ()) = some (r, ()) ∧ wt t_Code r ≤ wt t_Code o
  | m, n, o, hm, hn, hw => by
    have hf := fine_of o hw
    have hv : wt t_Code (val o) ≤ 1048576 := by rw [val_wt]; exact hw
    have hfv := fine_of (val o) hv
    cases hok : codeOk (val o)
    · obtain ⟨n1, n2⟩ := Trimmed.no (val o) hfv hok
      have s1 := stepS o (val o) false false n (by omega) (spec_ok o hf) n1 (fun h => by cases h)
      have s2 := stepI o (val o) false false (impl_ok o hf) n2 (fun h => by cases h)
      exact ⟨o, loopF_inr s1, loopF_inr s2, Nat.le_refl _⟩
    · obtain ⟨R, t1, t2, t3, t4⟩ := Trimmed.yes (val o) hfv hok
      have hlv := (like_val o).len
      have hm' := hm hok
      have hlow : (val o).2.2.2.length ≤ 1048576 := hfv.s.w
      by_cases hlen : (Trimmed.trim R (val o)).2.2.2.length = (val o).2.2.2.length
      · have e := Trimmed.trim_same R (val o) (jmp_of hok) hlen
        rw [e] at t1 t2
        have s1 := stepS o (val o) true (sameL (val o).2.2.2 o.2.2.2) n (by omega) (spec_ok o hf) t1 (fun _ => sameS (val o) o (like_val o) hlow)
        have s2 := stepI o (val o) true (sameL (val o).2.2.2 o.2.2.2) (impl_ok o hf) t2 (fun _ => sameI _ _ (like_val o) hlow hf.a)
        cases hb : sameL (val o).2.2.2 o.2.2.2
        · rw [hb] at s1 s2
          have q1 := spec_ok (val o) hfv
          have q2 := impl_ok (val o) hfv
          rw [val_idem] at q1 q2
          have u1 := stepS (val o) (val o) true true (n + 1) (by omega) (by rw [val_idem]; exact q1) (by rw [val_idem]; exact t1) (fun _ => by rw [sameS (val o) (val o) (like_refl _) hlow, sameL_refl])
          have u2 := stepI (val o) (val o) true true (by rw [val_idem]; exact q2) (by rw [val_idem]; exact t2) (fun _ => by rw [sameI _ _ (like_refl _) hlow hfv.a, sameL_refl])
          exact ⟨val o, by rw [loopF_inl s1]; exact loopF_inr u1, by rw [loopF_inl s2]; exact loopF_inr u2, by rw [val_wt]; exact Nat.le_refl _⟩
        · rw [hb] at s1 s2
          exact ⟨o, loopF_inr s1, loopF_inr s2, Nat.le_refl _⟩
      · have hlt : (Trimmed.trim R (val o)).2.2.2.length ≠ o.2.2.2.length := by omega
        have s1 := stepS o _ true false n (by omega) (spec_ok o hf) t1 (fun _ => diffS _ _ hlt)
        have s2 := stepI o _ true false (impl_ok o hf) t2 (fun _ => diffI _ _ hlt)
        rw [val_wt] at t3
        match m, hm', hn with
        | 0, hm', _ => omega
        | m + 1, hm', hn =>
          obtain ⟨r, r1, r2, r3⟩ := loop m (n + 1) (Trimmed.trim R (val o)) (fun _ => by omega) (by omega) (by omega)
          exact ⟨r, by rw [loopF_inl s1]; exact r1, by rw [loopF_inl s2]; exact r2, by omega⟩
theorem both (c : CODE) (hw : wt t_Code c ≤ 1048576) : ∃ r : CODE, spec_Tightened c = some (r, ()) ∧ impl_Tightened c = some (r, ()) ∧ wt t_Code r ≤ wt t_Code c := by
  have hf := fine_of c hw
  obtain ⟨r, r1, r2, r3⟩ := loop 400 0 c (fun h => by
    have hlv := (like_val c).len
    simp only [codeOk, Bool.and_eq_true, decide_eq_true_eq] at h
    have := h.2.2.2.1.2
    omega) (by omega) hw
  have r1' : loopF L1_spec_Tightened ((0 : Int), zC, c, ()) = _ := r1
  refine ⟨r, ?_, ?_, r3⟩
  · simp only [spec_Tightened, spec_copy c hf, Option.bind_some, r1', joinP_some]
  · simp only [impl_Tightened, impl_copy c hf, Option.bind_some, r2]
end Tight
end Go.Proofs.YtibccfmlfknhbabDoorE

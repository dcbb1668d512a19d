/- A right program less one function, packed. No condition beyond each lemma's own. -/
import Derived.Test.YtgkgfpbdodafaaaDoorLawPut
import Derived.Test.YtgkgfpbdodafaaaDoorLawPCopy
set_option linter.all false
namespace Go.Proofs.YtgkgfpbdodafaaaDoorE
set_option linter.all false
set_option maxRecDepth 100000

def Sm (g : Nat → Nat) : Nat → Nat
  | 0 => 0
  | n + 1 => Sm g n + g n
theorem Sm_congr {f g : Nat → Nat} : ∀ n, (∀ t, t < n → f t = g t) → Sm f n = Sm g n
  | 0, _ => rfl
  | n + 1, h => by simp only [Sm]; rw [Sm_congr n (fun t ht => h t (by omega)), h n (by omega)]
theorem Sm_add (f g : Nat → Nat) : ∀ n, Sm (fun t => f t + g t) n = Sm f n + Sm g n
  | 0 => rfl
  | n + 1 => by simp only [Sm, Sm_add f g n]; omega
theorem Sm_zero : ∀ n, Sm (fun _ => 0) n = 0
  | 0 => rfl
  | n + 1 => by simp only [Sm, Sm_zero n]
theorem Sm_one (g : Nat → Nat) (r : Nat) : ∀ n, Sm (fun t => (bif decide ((r : Int) = (t : Int)) then 1 else 0) * g t) n = if r < n then g r else 0
  | 0 => rfl
  | n + 1 => by
    simp only [Sm, Sm_one g r n]
    by_cases e : r = n
    · subst e
      rw [if_neg (Nat.lt_irrefl r), if_pos (Nat.lt_succ_self r), decide_eq_true rfl, cond_true]; omega
    · have : ¬ (r : Int) = (n : Int) := by omega
      rw [decide_eq_false this, cond_false]
      by_cases h : r < n
      · rw [if_pos h, if_pos (by omega)]; omega
      · rw [if_neg h, if_neg (by omega)]; omega
theorem sumK_Sm (g : Nat → Nat) (n : Nat) : ∀ ks : List Int, (∀ y ∈ ks, (0 : Int) ≤ y ∧ y < (n : Int)) → sumK g ks = Sm (fun t => cn ks t * g t) n
  | [], _ => by
    simp only [sumK, cn, Nat.zero_mul]
    exact (Sm_zero n).symm
  | y :: ks, h => by
    obtain ⟨h0, h1⟩ := h y (List.mem_cons_self ..)
    obtain ⟨r, rfl⟩ : ∃ r : Nat, y = (r : Int) := ⟨y.toNat, by omega⟩
    simp only [sumK, cn, Nat.add_mul, Int.toNat_natCast]
    rw [Sm_add, Sm_one, if_pos (by omega), sumK_Sm g n ks fun z hz => h z (List.mem_cons_of_mem _ hz)]
theorem kid_sums {l : List NODE} (hA : AllN l) (g : Nat → Nat) : ∀ m, m ≤ l.length → Sm (fun k => sumK g (rd l (k : Int) zN).2.2.2) m = Sm (fun t => us (l.take m) t * g t) l.length
  | 0, _ => by
    simp only [Sm, List.take_zero, us, Nat.zero_mul]
    exact (Sm_zero _).symm
  | m + 1, h => by
    have hm : m < l.length := by omega
    have hk := kid_mem (hA m hm).1
    simp only [Sm]
    rw [kid_sums hA g m (by omega), sumK_Sm g l.length _ (fun y hy => by have := hk y hy; omega), ← Sm_add]
    refine Sm_congr _ fun t _ => ?_
    rw [List.take_succ_eq_append_getElem hm, us_app, rd_nat hm]
    simp only [us, Nat.add_zero, Nat.add_mul]
/-- The roots' trees are all the nodes. -/
theorem total {l : List NODE} (hA : AllN l) {R : List Int} (hR : ∀ y ∈ R, (0 : Int) ≤ y ∧ y < (l.length : Int)) (hct : ∀ t, t < l.length → us l t + cn R t = 1) : sumK (sz l) R = l.length := by
  have h1 : Sm (sz l) l.length = Sm (fun _ => 1) l.length + Sm (fun k => sumK (sz l) (rd l (k : Int) zN).2.2.2) l.length := by
    rw [← Sm_add]
    exact Sm_congr _ fun t ht => sz_eq hA ht
  have h2 := kid_sums hA (sz l) l.length (Nat.le_refl _)
  rw [List.take_length] at h2
  have h3 := sumK_Sm (sz l) l.length R hR
  have h4 : Sm (sz l) l.length = Sm (fun t => us l t * sz l t) l.length + Sm (fun t => cn R t * sz l t) l.length := by
    rw [← Sm_add]
    refine Sm_congr _ fun t ht => ?_
    rw [← Nat.add_mul, hct t ht, Nat.one_mul]
  have h5 : ∀ n, Sm (fun _ => 1) n = n := fun n => by
    induction n with
    | zero => rfl
    | succ n ih => simp only [Sm, ih]
  have h6 := h5 l.length
  omega
theorem spec_put_ok {l : List NODE} {k : Nat} {a : List NODE} {R : List Int} {deep : Int} {e : List NODE} (h : PutOk l k a R deep e) : spec_l04Pack_put (l, (a, false)) (k : Int) deep = some (((a ++ e).length : Int) - 1, (l, (a ++ e, false)), ()) :=
  limF_some.2 ⟨k + 1, fun n hn => h.s n (by omega)⟩
theorem impl_put_ok {l : List NODE} {k : Nat} {a : List NODE} {R : List Int} {deep : Int} {e : List NODE} (h : PutOk l k a R deep e) : impl_packer_put (l, (a, false)) (k : Int) deep = some (((a ++ e).length : Int) - 1, (l, (a ++ e, false)), ()) :=
  limF_some.2 ⟨k + 1, fun n hn => h.i n (by omega)⟩
/-- A function, and what it is after the packing. -/
structure FC (l a : List NODE) (x y : FN) : Prop where
  nm : y.1 = x.1
  ps : y.2.1 = x.2.1
  rt : y.2.2.1 = x.2.2.1
  bd : Cor l a x.2.2.2.1 y.2.2.2.1
  vl : 0 ≤ x.2.2.2.2 → Cor l a x.2.2.2.2 y.2.2.2.2
  no : ¬ 0 ≤ x.2.2.2.2 → y.2.2.2.2 = x.2.2.2.2
theorem FC.app {l a : List NODE} {x y : FN} (h : FC l a x y) (b : List NODE) : FC l (a ++ b) x y := ⟨h.nm, h.ps, h.rt, h.bd.app b, fun hv => (h.vl hv).app b, h.no⟩
/-- One function is packed. -/
theorem one_fn (l : List NODE) (hl : FineN l) (hA : AllN l) (x : FN) (hr : ∀ y ∈ roots x, (0 : Int) ≤ y ∧ y < (l.length : Int)) (a : List NODE) (R : List Int) (hP : PI a R) (hsz : a.length + sumK (sz l) (roots x) ≤ 300) :
    ∃ (e : List NODE) (y : FN), e.length = sumK (sz l) (roots x) ∧ PI (a ++ e) (R ++ roots y) ∧ FC l (a ++ e) x y ∧
      (∃ v e1, spec_l04Pack_put (l, (a, false)) x.2.2.2.1 (1 : Int) = some (y.2.2.2.1, (l, (e1, false)), ()) ∧ impl_packer_put (l, (a, false)) x.2.2.2.1 (1 : Int) = some (y.2.2.2.1, (l, (e1, false)), ()) ∧
        (if 0 ≤ x.2.2.2.2 then spec_l04Pack_put (l, (e1, false)) x.2.2.2.2 (1 : Int) = some (v, (l, (a ++ e, false)), ()) ∧ impl_packer_put (l, (e1, false)) x.2.2.2.2 (1 : Int) = some (v, (l, (a ++ e, false)), ()) else e1 = a ++ e ∧ v = x.2.2.2.2) ∧ y = (x.1, (x.2.1, (x.2.2.1, (y.2.2.2.1, v))))) := by
  obtain ⟨b0, b1⟩ := hr x.2.2.2.1 (List.mem_cons_self ..)
  obtain ⟨b, hb⟩ : ∃ b : Nat, x.2.2.2.1 = (b : Int) := ⟨x.2.2.2.1.toNat, by omega⟩
  have hbl : b < l.length := by omega
  have hdb := dAt_le l b
  have hs0 : sumK (sz l) (roots x) = sz l b + sumK (sz l) (bif decide (0 ≤ x.2.2.2.2) then [x.2.2.2.2] else []) := by
    unfold roots; simp only [sumK, hb, Int.toNat_natCast]
  obtain ⟨e1, p1⟩ := put_ok l hl hA b hbl a R hP (by omega) 1 (by omega) (by omega)
  have s1 := spec_put_ok p1
  have i1 := impl_put_ok p1
  by_cases hc : (0 : Int) ≤ x.2.2.2.2
  · obtain ⟨c0, c1⟩ := hr x.2.2.2.2 (by unfold roots; rw [decide_eq_true hc]; simp)
    obtain ⟨c, hcc⟩ : ∃ c : Nat, x.2.2.2.2 = (c : Int) := ⟨x.2.2.2.2.toNat, by omega⟩
    have hcl : c < l.length := by omega
    have hdc := dAt_le l c
    rw [decide_eq_true hc] at hs0
    simp only [cond_true, sumK, hcc, Int.toNat_natCast] at hs0
    have hlen1 := p1.len
    obtain ⟨e2, p2⟩ := put_ok l hl hA c hcl (a ++ e1) _ p1.pi (by rw [List.length_append]; omega) 1 (by omega) (by omega)
    have s2 := spec_put_ok p2
    have i2 := impl_put_ok p2
    have hge : (0 : Int) ≤ ((a ++ e1 ++ e2).length : Int) - 1 := by
      obtain ⟨n, hn, _⟩ := p2.cor; omega
    refine ⟨e1 ++ e2, (x.1, (x.2.1, (x.2.2.1, (((a ++ e1).length : Int) - 1, ((a ++ e1 ++ e2).length : Int) - 1)))), ?_, ?_, ⟨rfl, rfl, rfl, ?_, fun _ => ?_, fun h => absurd hc h⟩, ((a ++ e1 ++ e2).length : Int) - 1, a ++ e1, ?_, ?_, ?_, rfl⟩
    · rw [List.length_append, hlen1, p2.len]; omega
    · unfold roots
      simp only
      rw [decide_eq_true hge, cond_true, ← List.append_assoc]
      have := p2.pi
      rw [List.append_assoc R] at this
      exact this
    · rw [← List.append_assoc, hb]; exact p1.cor.app e2
    · rw [← List.append_assoc, hcc]; exact p2.cor
    · rw [hb]; exact s1
    · rw [hb]; exact i1
    · rw [if_pos hc, hcc, ← List.append_assoc]; exact ⟨s2, i2⟩
  · rw [decide_eq_false hc] at hs0
    simp only [cond_false, sumK, Nat.add_zero] at hs0
    refine ⟨e1, (x.1, (x.2.1, (x.2.2.1, (((a ++ e1).length : Int) - 1, x.2.2.2.2)))), by rw [p1.len, hs0], ?_, ⟨rfl, rfl, rfl, by rw [hb]; exact p1.cor, fun h => absurd h hc, fun _ => rfl⟩, x.2.2.2.2, a ++ e1, by rw [hb]; exact s1, by rw [hb]; exact i1, by rw [if_neg hc]; exact ⟨rfl, rfl⟩, rfl⟩
    unfold roots
    simp only
    rw [decide_eq_false hc, cond_false]
    exact p1.pi
structure FCs (l a : List NODE) (xs ys : List FN) : Prop where
  len : ys.length = xs.length
  c : ∀ i (h : i < xs.length) (h' : i < ys.length), FC l a xs[i] ys[i]
theorem le24 {α : Type} {o : List (ByteArray × Int)} {K : Option α} (h : o.length ≤ 1048576) : (Cnd.le ((List.length ([] : List (ByteArray × Int)) + o.length) * 24) 140737488355328).run K = K := nil_leP (by omega)
theorem le64 {α : Type} {o : List FN} {x : FN} {K : Option α} (h : o.length ≤ 1048576) : (Cnd.le ((o.length + List.length [x]) * 64) 140737488355328).run K = K := one_le (by omega)
theorem pack_loop (q : PROG) (hq : FineP q) (hA : AllN q.1) (hr : ∀ x ∈ q.2, ∀ y ∈ roots x, (0 : Int) ≤ y ∧ y < (q.1.length : Int)) :
    ∀ (m i : Nat) (a : List NODE) (ys : List FN), i + m = q.2.length → PI a (rootsL ys) → ys.length = i → (∀ j (h : j < q.2.length) (h' : j < ys.length), FC q.1 a q.2[j] ys[j]) → a.length + sumK (sz q.1) (rootsL (q.2.drop i)) ≤ 300 →
      ∃ (e : List NODE) (ys' : List FN), PI (a ++ e) (rootsL ys') ∧ FCs q.1 (a ++ e) q.2 ys' ∧ (a ++ e).length ≤ 300 ∧
        loopF L1_spec_Packed ((i : Int), q, ([], []), ([], ys), (q.1, (a, false)), ()) = some (([], []), ([], ys'), (q.1, (a ++ e, false)), ()) ∧
        loopF L1_impl_Packed (q.2, (q.2.length : Int), (i : Int), ([], []), (q.1, (a, false)), ([], ys), ()) = some (([], []), (q.1, (a ++ e, false)), ([], ys'), ()) := by
  have hf := hq.f
  intro m
  induction m with
  | zero =>
    intro i a ys hi hP hys hfc hle
    obtain rfl : i = q.2.length := by omega
    refine ⟨[], ys, by rw [List.append_nil]; exact hP, ⟨hys, fun j h h' => by rw [List.append_nil]; exact hfc j h h'⟩, by rw [List.append_nil]; omega, loopF_inr ?_, loopF_inr ?_⟩
    · rw [List.append_nil]
      simp only [L1_spec_Packed, not_lt_self, decide_false, cond_false, Option.map_some]
    · rw [List.append_nil]
      simp only [L1_impl_Packed, not_lt_self, decide_false, cond_false, Option.map_some]
  | succ m ih =>
    intro i a ys hi hP hys hfc hle
    have hil : i < q.2.length := by omega
    have hx := hq.a _ (List.getElem_mem hil)
    have hrx := hr _ (List.getElem_mem hil)
    rw [List.drop_eq_getElem_cons hil] at hle
    simp only [rootsL, sumK_app] at hle
    obtain ⟨e, y, g1, g2, g3, v, e1, s1, i1, s2, hy⟩ := one_fn q.1 hq.n hA q.2[i] hrx a (rootsL ys) hP (by omega)
    have hrl : rootsL (ys ++ [y]) = rootsL ys ++ roots y := by
      have : ∀ l : List FN, rootsL (l ++ [y]) = rootsL l ++ roots y := fun l => by
        induction l with
        | nil => simp [rootsL]
        | cons x l ih => simp only [List.cons_append, rootsL, ih, List.append_assoc]
      exact this ys
    obtain ⟨e2, ys', h1, h2, h3, h4, h5⟩ := ih (i + 1) (a ++ e) (ys ++ [y]) (by omega) (by rw [hrl]; exact g2) (by simp [hys]) (fun j h h' => by
      by_cases ej : j < ys.length
      · rw [List.getElem_append_left ej]
        exact (hfc j h ej).app e
      · have : j = i := by simp at h'; omega
        subst this
        rw [List.getElem_append_right (by omega)]
        simp only [hys, Nat.sub_self, List.getElem_cons_zero]
        exact g3) (by rw [List.length_append]; omega)
    have wi := wrapSucc (show i < 9223372036854775807 by omega)
    refine ⟨e ++ e2, ys', by rw [← List.append_assoc]; exact h1, by rw [← List.append_assoc]; exact h2, by rw [← List.append_assoc]; exact h3, ?_, ?_⟩
    · rw [← List.append_assoc, ← h4]
      refine loopF_inl ?_
      simp only [L1_spec_Packed, lt_cast hil, decide_true, cond_true, idx_run hil, rd_nat hil, le24 hx, List.nil_append]
      generalize q.2[i] = x at s1 s2 hy
      simp only [s1, Option.bind_some]
      by_cases hc : (0 : Int) ≤ x.2.2.2.2
      · rw [if_pos hc] at s2
        simp only [hc, decide_true, cond_true, s2.1, Option.bind_some, joinP_some, le64 (show ys.length ≤ 1048576 by omega), Option.map_some, wi, ← hy]
      · rw [if_neg hc] at s2
        rw [s2.2] at hy
        simp only [hc, decide_false, cond_false, s2.1, joinP_some, le64 (show ys.length ≤ 1048576 by omega), Option.map_some, wi, ← hy]
    · rw [← List.append_assoc, ← h5]
      refine loopF_inl ?_
      simp only [L1_impl_Packed, lt_cast hil, decide_true, cond_true, idx_run hil, rd_nat hil, impl_fnP _ hx, Option.bind_some]
      generalize q.2[i] = x at i1 s2 hy
      simp only [i1, Option.bind_some]
      by_cases hc : (0 : Int) ≤ x.2.2.2.2
      · rw [if_pos hc] at s2
        simp only [hc, decide_true, cond_true, s2.2, Option.bind_some, joinP_some, le64 (show ys.length ≤ 1048576 by omega), Option.map_some, wi, ← hy]
      · rw [if_neg hc] at s2
        rw [s2.2] at hy
        simp only [hc, decide_false, cond_false, s2.1, joinP_some, le64 (show ys.length ≤ 1048576 by omega), Option.map_some, wi, ← hy]
theorem packed (q : PROG) (hq : FineP q) (hA : AllN q.1) (hr : ∀ x ∈ q.2, ∀ y ∈ roots x, (0 : Int) ≤ y ∧ y < (q.1.length : Int)) (hs : sumK (sz q.1) (rootsL q.2) ≤ 300) :
    ∃ (e : List NODE) (ys : List FN), PI e (rootsL ys) ∧ FCs q.1 e q.2 ys ∧ e.length ≤ 300 ∧ spec_Packed q = some ((e, ys), true, ()) ∧ impl_Packed q = some ((e, ys), true, ()) := by
  have h0 : PI [] (rootsL []) := ⟨fun j hj => absurd hj (Nat.not_lt_zero j), fun t ht => absurd ht (Nat.not_lt_zero t), fun r hr => by cases hr⟩
  obtain ⟨e, ys, h1, h2, h3, h4, h5⟩ := pack_loop q hq hA hr q.2.length 0 [] [] (by omega) h0 rfl (fun j h h' => absurd h' (Nat.not_lt_zero j)) (by rw [List.drop_zero]; simp; exact hs)
  rw [List.nil_append] at h1 h2 h3 h4 h5
  have h4' : loopF L1_spec_Packed ((0 : Int), q, ([], []), ([], []), (q.1, ([], false)), ()) = _ := h4
  have h5' : loopF L1_impl_Packed (q.2, (q.2.length : Int), (0 : Int), ([], []), (q.1, ([], false)), ([], []), ()) = _ := h5
  refine ⟨e, ys, h1, h2, h3, ?_, ?_⟩
  · simp only [spec_Packed, Option.bind_some, h4', joinP_some, cond_false, show ¬ ((300 : Int) < (e.length : Int)) by omega, decide_false]
  · simp only [impl_Packed, Option.bind_some, h5', joinP_some, cond_false]
end Go.Proofs.YtgkgfpbdodafaaaDoorE

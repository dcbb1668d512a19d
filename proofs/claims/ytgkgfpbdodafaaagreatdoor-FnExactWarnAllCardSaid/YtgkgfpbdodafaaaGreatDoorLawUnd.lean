/- What lies under a node: the reference's marks and the program's rounds. No condition beyond each lemma's own. -/
import Derived.Test.YtgkgfpbdodafaaaGreatDoorLawDeepS
import Derived.Test.YtgkgfpbdodafaaaGreatDoorLawTree
set_option linter.all false
namespace Go.Proofs.YtgkgfpbdodafaaaGreatDoorE
set_option linter.all false
set_option maxRecDepth 100000
def rc (l : List NODE) : Nat → Int → Int → Bool
  | 0, _, _ => false
  | f + 1, a, t => decide (a = t) || (rd l a zN).2.2.2.any fun y => rc l f y t
def undr (l : List NODE) (a t : Int) : Bool := rc l (a.toNat + 1) a t
theorem kid_len {l : List NODE} {a : Int} (h : 0 ≤ a ∧ a < (l.length : Int)) (hl : FineN l) : (rd l a zN).2.2.2.length ≤ 1048576 := by
  obtain ⟨k, rfl⟩ : ∃ m : Nat, a = (m : Int) := ⟨a.toNat, by omega⟩
  have hk : k < l.length := by omega
  rw [rd_nat hk]
  exact hl.kid _ (List.getElem_mem hk)
theorem any_ext' {α : Type} {f g : α → Bool} : ∀ {l : List α}, (∀ x ∈ l, f x = g x) → l.any f = l.any g
  | [], _ => rfl
  | x :: l, h => by rw [List.any_cons, List.any_cons, h x (List.mem_cons_self ..), any_ext' fun y hy => h y (List.mem_cons_of_mem _ hy)]
theorem kid_pos {l : List NODE} {a : Int} (h : (0 : Int) < deepAt l a) {y : Int} (hy : y ∈ (rd l a zN).2.2.2) : (0 : Int) < deepAt l y ∧ 0 ≤ y ∧ y < a := by
  obtain ⟨_, h2, h3⟩ := deepAt_pos h
  obtain ⟨k1, k2⟩ := kid_mem h2 y hy
  exact ⟨h3 y k1 (by omega), k1, k2⟩
theorem rc_fuel (l : List NODE) : ∀ (f g : Nat) (a t : Int), (0 : Int) < deepAt l a → a.toNat < f → a.toNat < g → rc l f a t = rc l g a t
  | 0, _, _, _, _, h, _ => absurd h (by omega)
  | _ + 1, 0, _, _, _, _, h => absurd h (by omega)
  | f + 1, g + 1, a, t, hd, hf, hg => by
    simp only [rc]
    congr 1
    refine any_ext' fun y hy => ?_
    obtain ⟨k1, k2, k3⟩ := kid_pos hd hy
    exact rc_fuel l f g y t k1 (by omega) (by omega)
theorem undr_eq {l : List NODE} {a : Int} (h : (0 : Int) < deepAt l a) (t : Int) : undr l a t = (decide (a = t) || (rd l a zN).2.2.2.any fun y => undr l y t) := by
  unfold undr
  simp only [rc]
  congr 1
  refine any_ext' fun y hy => ?_
  obtain ⟨k1, k2, k3⟩ := kid_pos h hy
  exact rc_fuel l a.toNat (y.toNat + 1) y t k1 (by omega) (by omega)
theorem undr_self (l : List NODE) (a : Int) : undr l a a = true := by simp [undr, rc]
theorem undr_kid {l : List NODE} {a y t : Int} (h : (0 : Int) < deepAt l a) (hy : y ∈ (rd l a zN).2.2.2) (ht : undr l y t = true) : undr l a t = true := by
  rw [undr_eq h, Bool.or_eq_true]
  exact .inr (List.any_eq_true.2 ⟨y, hy, ht⟩)
theorem undr_le {l : List NODE} : ∀ (n : Nat) (a t : Int), a.toNat < n → (0 : Int) < deepAt l a → undr l a t = true → 0 ≤ t ∧ t ≤ a
  | 0, _, _, h, _, _ => absurd h (by omega)
  | n + 1, a, t, hn, h, ht => by
    rw [undr_eq h, Bool.or_eq_true] at ht
    rcases ht with ht | ht
    · have := of_decide_eq_true ht
      have := (deepAt_pos h).1
      omega
    · obtain ⟨y, hy, hy2⟩ := List.any_eq_true.1 ht
      obtain ⟨k1, k2, k3⟩ := kid_pos h hy
      have := undr_le n y t (by omega) k1 hy2
      omega
theorem undr_rng {l : List NODE} {a t : Int} (h : (0 : Int) < deepAt l a) (ht : undr l a t = true) : 0 ≤ t ∧ t ≤ a := undr_le _ a t (Nat.lt_succ_self _) h ht
theorem undr_deep {l : List NODE} {a t : Int} (h : (0 : Int) < deepAt l a) (ht : undr l a t = true) : (0 : Int) < deepAt l t := by
  have := undr_rng h ht
  exact (deepAt_pos h).2.2 t this.1 this.2
theorem undr_trans' {l : List NODE} : ∀ (n : Nat) (a b t : Int), a.toNat < n → (0 : Int) < deepAt l a → undr l a b = true → undr l b t = true → undr l a t = true
  | 0, _, _, _, h, _, _, _ => absurd h (by omega)
  | n + 1, a, b, t, hn, h, hb, ht => by
    rw [undr_eq h, Bool.or_eq_true] at hb
    rcases hb with hb | hb
    · have := of_decide_eq_true hb
      subst this
      exact ht
    · obtain ⟨y, hy, hy2⟩ := List.any_eq_true.1 hb
      obtain ⟨k1, k2, k3⟩ := kid_pos h hy
      exact undr_kid h hy (undr_trans' n y b t (by omega) k1 hy2 ht)
theorem undr_trans {l : List NODE} {a b t : Int} (h : (0 : Int) < deepAt l a) (hb : undr l a b = true) (ht : undr l b t = true) : undr l a t = true := undr_trans' _ a b t (Nat.lt_succ_self _) h hb ht
def mrk (l : List NODE) (k : Int) (s : List Bool) : List Bool := s.mapIdx fun t b => b || undr l k (t : Int)
@[simp] theorem mrk_len (l : List NODE) (k : Int) (s : List Bool) : (mrk l k s).length = s.length := by simp [mrk]
theorem mrk_get (l : List NODE) (k : Int) (s : List Bool) {t : Nat} (h : t < s.length) : (mrk l k s).getD t false = (s.getD t false || undr l k (t : Int)) := by
  simp [mrk, h]
def Cl (l : List NODE) (b : Int) (s : List Bool) : Prop := ∀ a : Nat, (a : Int) < b → s.getD a false = true → ∀ t : Nat, undr l (a : Int) (t : Int) = true → s.getD t false = true
theorem Cl.mono {l : List NODE} {b c : Int} {s : List Bool} (h : Cl l b s) (hc : c ≤ b) : Cl l c s := fun a ha hs t ht => h a (by omega) hs t ht
theorem getD_lt {s : List Bool} {t : Nat} (h : s.getD t false = true) : t < s.length := by
  rcases Nat.lt_or_ge t s.length with h1 | h1
  · exact h1
  · simp [h1] at h
theorem Cl.mrk {l : List NODE} {b k : Int} {s : List Bool} (h : Cl l b s) (hs : s.length = l.length) (hk : (0 : Int) < deepAt l k) : Cl l b (mrk l k s) := by
  intro a ha h1 t ht
  have hal := getD_lt h1
  rw [mrk_len] at hal
  rw [mrk_get _ _ _ hal, Bool.or_eq_true] at h1
  rcases h1 with h1 | h1
  · have h2 := h a ha h1 t ht
    rw [mrk_get _ _ _ (getD_lt h2), h2, Bool.true_or]
  · have h2 := undr_trans hk h1 ht
    have h3 := undr_rng hk h2
    have h4 := (deepAt_pos hk).1
    rw [mrk_get _ _ _ (show t < s.length by omega), h2, Bool.or_true]
theorem fold_mrk (l : List NODE) : ∀ (ys : List Int) (s : List Bool), (ys.foldl (fun s y => mrk l y s) s).length = s.length ∧ ∀ t, t < s.length → (ys.foldl (fun s y => mrk l y s) s).getD t false = (s.getD t false || ys.any fun y => undr l y (t : Int))
  | [], s => ⟨rfl, fun t h => by simp⟩
  | y :: ys, s => by
    obtain ⟨h1, h2⟩ := fold_mrk l ys (mrk l y s)
    rw [List.foldl_cons]
    refine ⟨by rw [h1, mrk_len], fun t ht => ?_⟩
    rw [h2 t (by rw [mrk_len]; exact ht), mrk_get _ _ _ ht, List.any_cons, Bool.or_assoc]
theorem ext_getD {a b : List Bool} (hl : a.length = b.length) (h : ∀ t, t < b.length → a.getD t false = b.getD t false) : a = b := by
  refine List.ext_getElem hl fun t h1 h2 => ?_
  have := h t h2
  simpa [h1, h2] using this
theorem set_getD {s : List Bool} {m t : Nat} (hm : m < s.length) (ht : t < s.length) : (s.set m true).getD t false = (s.getD t false || decide (m = t)) := by
  by_cases h : m = t
  · subst h; simp [hm]
  · simp [List.getElem?_set, h]
theorem mark_R (l : List NODE) (hl : FineN l) : ∀ (n : Nat) (k : Int) (s : List Bool), (0 : Int) < deepAt l k → k.toNat < n → s.length = l.length → Cl l (k + 1) s → (R_spec_l04Mark n).1 l k s = some (mrk l k s, ())
  | 0, _, _, _, h, _, _ => absurd h (by omega)
  | n + 1, k, s, hk, hn, hs, hc => by
    show spec_l04Mark_S (R_spec_l04Mark n).1 l k s = _
    obtain ⟨h1, h2, h3⟩ := deepAt_pos hk
    obtain ⟨m, rfl⟩ : ∃ m : Nat, k = (m : Int) := ⟨k.toNat, by omega⟩
    have hm : m < s.length := by omega
    have hml : m < l.length := by omega
    unfold spec_l04Mark_S
    rw [idx_run hm, rd_nat hm]
    cases hb : s[m]
    · have hx := hl.kid _ (List.getElem_mem hml)
      have hkid := fun y hy => @kid_pos l (m : Int) hk y hy
      rw [rd_nat hml] at hkid
      have hue := fun t => undr_eq hk t
      rw [rd_nat hml] at hue
      have hrd : rd l (m : Int) zN = l[m] := rd_nat hml
      have hcl0 : Cl l (m : Int) (s.set m true) := fun a ha h1 t ht => by
        have hal := getD_lt h1
        rw [List.length_set] at hal
        rw [set_getD hm hal] at h1
        have hne : ¬ m = a := by omega
        rw [decide_eq_false hne, Bool.or_false] at h1
        have h2 := hc a (by omega) h1 t ht
        rw [set_getD hm (getD_lt h2), h2, Bool.true_or]
      generalize l[m] = x at hx hkid hue hrd
      have h := loopF_fold (step := L1_spec_l04Mark (R_spec_l04Mark n).1) x.2.2.2 (fun s y => mrk l y s) (fun i s => (l, (m : Int), (i : Int), s, ())) (fun s => (s, ())) (fun _ s => s.length = l.length ∧ Cl l (m : Int) s) (fun i hi c hI => by
        obtain ⟨g1, g2⟩ := hI
        obtain ⟨k1, k2, k3⟩ := hkid _ (List.getElem_mem hi)
        have ih := mark_R l hl n x.2.2.2[i] c k1 (by omega) g1 (g2.mono (by omega))
        refine ⟨?_, by rw [mrk_len]; exact g1, g2.mrk g1 k1⟩
        simp only [L1_spec_l04Mark, idx_run hml, hrd, lt_cast hi, decide_true, cond_true, idx_run hi, rd_nat hi, ih, Option.bind_some, Option.map_some, wrapSucc (show i < 9223372036854775807 by omega)]) (fun c hI => by
        simp only [L1_spec_l04Mark, idx_run hml, hrd, not_lt_self, decide_false, cond_false, Option.map_some]) (s.set m true) ⟨by rw [List.length_set]; exact hs, hcl0⟩
      have h' : loopF (L1_spec_l04Mark (R_spec_l04Mark n).1) (l, (m : Int), (0 : Int), s.set m true, ()) = _ := h.1
      simp only [cond_false, idx_run hm, bindD, Int.toNat_natCast, Option.bind_some, h', joinP_some]
      congr 2
      obtain ⟨f1, f2⟩ := fold_mrk l x.2.2.2 (s.set m true)
      refine ext_getD (by rw [f1, List.length_set, mrk_len]) fun t ht => ?_
      rw [mrk_len] at ht
      rw [f2 t (by rw [List.length_set]; exact ht), mrk_get _ _ _ ht, set_getD hm ht, hue, Bool.or_assoc]
      congr 2
      exact decide_eq_decide.2 (by omega)
    · simp only [cond_true]
      congr 2
      refine ext_getD (by rw [mrk_len]) fun t ht => ?_
      rw [mrk_len] at ht
      rw [mrk_get _ _ _ ht]
      cases hu : undr l (m : Int) (t : Int)
      · rw [Bool.or_false]
      · rw [hc m (by omega) (by simp [hm, hb]) t hu]; rfl
def undL (l : List NODE) (k : Int) : List Int := ((List.range l.length).filter fun (t : Nat) => undr l k (t : Int)).map fun (t : Nat) => (t : Int)
def unds (l : List NODE) (k : Int) : List Int := bif decide (deepAt l k = 0) then [] else undL l k
theorem fold_filter {α β : Type} (p : α → Bool) (f : α → β) : ∀ (xs : List α) (o : List β), xs.foldl (fun o x => bif p x then o ++ [f x] else o) o = o ++ (xs.filter p).map f
  | [], o => by simp
  | x :: xs, o => by
    rw [List.foldl_cons, fold_filter p f xs]
    cases h : p x <;> simp [h]
theorem undL_len (l : List NODE) (k : Int) : (undL l k).length ≤ l.length := by
  unfold undL
  rw [List.length_map]
  exact Nat.le_trans (List.length_filter_le ..) (by simp)
theorem mem_undL {l : List NODE} {k : Int} (hk : (0 : Int) < deepAt l k) (x : Int) : x ∈ undL l k ↔ undr l k x = true := by
  unfold undL
  rw [List.mem_map]
  constructor
  · rintro ⟨t, ht, rfl⟩
    exact (List.mem_filter.1 ht).2
  · intro h
    have h1 := undr_rng hk h
    have h2 := (deepAt_pos hk).1
    have e : ((x.toNat : Nat) : Int) = x := by omega
    exact ⟨x.toNat, List.mem_filter.2 ⟨List.mem_range.2 (by omega), by rw [e]; exact h⟩, e⟩
theorem undL_sorted (l : List NODE) (k : Int) : (undL l k).Pairwise (· < ·) := by
  unfold undL
  rw [List.pairwise_map]
  refine List.Pairwise.imp ?_ ((List.pairwise_lt_range (n := l.length)).filter _)
  intro a b h
  omega
theorem spec_Under_ok (p : PROG) (hp : FineN p.1) (k : Int) : spec_Under p k = some (unds p.1 k, ()) := by
  unfold spec_Under unds
  rw [spec_DeepOf_ok p.1 hp k, Option.bind_some]
  by_cases hz : deepAt p.1 k = 0
  · simp only [hz, decide_true, cond_true]
  have hk := in_ok hz
  have hn := hp.len
  have hC : Cl p.1 (k + 1) (List.replicate p.1.length false) := fun a _ h t _ => by
    have := getD_lt h
    simp at this
    simp [this] at h
  have hm : spec_l04Mark p.1 k (List.replicate p.1.length false) = some (mrk p.1 k (List.replicate p.1.length false), ()) :=
    limF_some.2 ⟨k.toNat + 1, fun n hn' => mark_R p.1 hp n k _ hk (by omega) (by simp) hC⟩
  have hsl : (mrk p.1 k (List.replicate p.1.length false)).length = p.1.length := by simp
  have hsg : ∀ t : Nat, t < p.1.length → rd (mrk p.1 k (List.replicate p.1.length false)) (t : Int) false = undr p.1 k (t : Int) := fun t ht => by
    have := mrk_get p.1 k (List.replicate p.1.length false) (t := t) (by simpa using ht)
    rw [show rd (mrk p.1 k (List.replicate p.1.length false)) (t : Int) false = (mrk p.1 k (List.replicate p.1.length false)).getD t false from rfl, this]
    simp [ht]
  generalize mrk p.1 k (List.replicate p.1.length false) = s at hm hsl hsg
  have h := loopF_fold (step := L1_spec_Under) (List.range p.1.length) (fun o t => bif undr p.1 k (t : Int) then o ++ [(t : Int)] else o) (fun i o => (o, s, (i : Int), ())) (fun o => (o, ())) (fun i o => o.length ≤ i) (fun i hi o ho => by
    have hi' : i < p.1.length := by simpa using hi
    have hi2 : i < s.length := by omega
    simp only [L1_spec_Under, lt_cast hi2, decide_true, cond_true, idx_run hi2, hsg i hi', List.getElem_range, wrapSucc (show i < 9223372036854775807 by omega)]
    cases undr p.1 k (i : Int)
    · simp only [cond_false, joinP_some, Option.map_some, wrapSucc (show i < 9223372036854775807 by omega)]
      exact ⟨by trivial, by omega⟩
    · simp only [cond_true, le_run (show (o.length + [(i : Int)].length) * 8 ≤ 140737488355328 by simp; omega), joinP_some, Option.map_some, wrapSucc (show i < 9223372036854775807 by omega)]
      exact ⟨by trivial, by simp; omega⟩) (fun o ho => by
    simp only [L1_spec_Under, List.length_range, hsl, not_lt_self, decide_false, cond_false, Option.map_some]) [] (Nat.le_refl 0)
  have h' : loopF L1_spec_Under ([], s, (0 : Int), ()) = _ := h.1
  simp only [decide_eq_false hz, cond_false]
  rw [show (Cnd.both (Cnd.nn (List.length p.1 : Int)) (Cnd.le ((List.length p.1 : Int).toNat * 1) 140737488355328)).run _ = _ from by
    simp only [Cnd.run]
    rw [if_pos (by omega), if_pos (by omega)]]
  rw [show (List.length p.1 : Int).toNat = p.1.length from Int.toNat_natCast _, hm, Option.bind_some]
  simp only [Option.bind_some, h', joinP_some]
  rw [fold_filter, List.nil_append]
  rfl
end Go.Proofs.YtgkgfpbdodafaaaGreatDoorE

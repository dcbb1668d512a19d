/- A tree is copied behind others: the program's way and the reference's. No condition beyond each lemma's own. -/
import Derived.Test.YtgkgfpbdodafaaaDoorLawPackA
set_option linter.all false
namespace Go.Proofs.YtgkgfpbdodafaaaDoorE
set_option linter.all false
set_option maxRecDepth 100000

def sumK (g : Nat → Nat) : List Int → Nat
  | [] => 0
  | y :: ys => g y.toNat + sumK g ys
theorem sumK_app (g : Nat → Nat) : ∀ a b : List Int, sumK g (a ++ b) = sumK g a + sumK g b
  | [], b => by simp [sumK]
  | y :: a, b => by simp only [List.cons_append, sumK, sumK_app g a b]; omega
theorem sumK_congr {g h : Nat → Nat} : ∀ ys : List Int, (∀ y ∈ ys, g y.toNat = h y.toNat) → sumK g ys = sumK h ys
  | [], _ => rfl
  | y :: ys, H => by simp only [sumK]; rw [H y (List.mem_cons_self ..), sumK_congr ys fun z hz => H z (List.mem_cons_of_mem _ hz)]
def szF (l : List NODE) : Nat → Nat → Nat
  | 0, _ => 0
  | f + 1, k => 1 + sumK (szF l f) (rd l (k : Int) zN).2.2.2
theorem szF_fuel {l : List NODE} (h : AllN l) : ∀ (f g k : Nat), k < l.length → k < f → k < g → szF l f k = szF l g k
  | 0, _, _, _, hf, _ => absurd hf (Nat.not_lt_zero _)
  | _ + 1, 0, _, _, _, hg => absurd hg (Nat.not_lt_zero _)
  | f + 1, g + 1, k, hk, hf, hg => by
    simp only [szF]
    congr 1
    refine sumK_congr _ fun y hy => ?_
    have := kid_mem (h k hk).1 y hy
    exact szF_fuel h f g y.toNat (by omega) (by omega) (by omega)
/-- How many nodes a tree has. -/
def sz (l : List NODE) (k : Nat) : Nat := szF l (k + 1) k
theorem sz_eq {l : List NODE} (h : AllN l) {k : Nat} (hk : k < l.length) : sz l k = 1 + sumK (sz l) (rd l (k : Int) zN).2.2.2 := by
  unfold sz
  simp only [szF]
  congr 1
  refine sumK_congr _ fun y hy => ?_
  have := kid_mem (h k hk).1 y hy
  exact szF_fuel h k (y.toNat + 1) y.toNat (by omega) (by omega) (by omega)
theorem dmx_l (d v : Int) : d ≤ dmx d v := by unfold dmx; split <;> omega
theorem dmx_r (d v : Int) : v + 1 ≤ dmx d v := by unfold dmx; split <;> omega
theorem dmx_ge : ∀ (vs : List Int) (d : Int), d ≤ vs.foldl dmx d
  | [], d => Int.le_refl d
  | v :: vs, d => Int.le_trans (dmx_l d v) (dmx_ge vs (dmx d v))
theorem dmx_mem : ∀ (vs : List Int) (d v : Int), v ∈ vs → v + 1 ≤ vs.foldl dmx d
  | w :: vs, d, v, h => by
    rcases List.mem_cons.1 h with rfl | h
    · exact Int.le_trans (dmx_r d v) (dmx_ge vs (dmx d v))
    · exact dmx_mem vs _ v h
theorem dAt_kid {l : List NODE} {k : Nat} (hd : dAt l k ≠ 0) {y : Int} (hy : y ∈ (rd l (k : Int) zN).2.2.2) : dAt l y.toNat + 1 ≤ dAt l k := by
  have hok := dAt_ok hd
  have hk := kid_mem hok y hy
  unfold dAt at hd
  unfold dNext at hd
  cases hc : (nodeOk l (k : Int) && (decide (k = 0) || decide (rd (deeps l k) ((k : Int) - 1) (0 : Int) ≠ 0)))
  · rw [hc] at hd; exact absurd rfl hd
  · have e : dAt l k = dCut (dKids (deeps l k) (rd l (k : Int) zN)) := by unfold dAt dNext; rw [hc]; rfl
    rw [hc, cond_true] at hd
    rw [e]
    unfold dCut at hd ⊢
    cases h10 : decide ((10 : Int) < dKids (deeps l k) (rd l (k : Int) zN))
    · rw [cond_false]
      unfold dKids
      rw [dStep_map]
      have e2 : dAt l y.toNat = rd (deeps l k) y (0 : Int) := by
        have := deeps_get l k y.toNat (by omega)
        rw [show ((y.toNat : Nat) : Int) = y by omega] at this
        exact this.symm
      rw [e2]
      exact dmx_mem _ _ _ (List.mem_map_of_mem hy)
    · rw [h10] at hd; exact absurd rfl hd
abbrev PKR := List NODE × (List NODE × Bool)
structure PutOk (l : List NODE) (k : Nat) (a : List NODE) (R : List Int) (deep : Int) (e : List NODE) : Prop where
  len : e.length = sz l k
  pi : PI (a ++ e) (R ++ [((a ++ e).length : Int) - 1])
  cor : Cor l (a ++ e) (k : Int) (((a ++ e).length : Int) - 1)
  s : ∀ n, k < n → (R_spec_l04Pack_put n).1 (l, (a, false)) (k : Int) deep = some (((a ++ e).length : Int) - 1, (l, (a ++ e, false)), ())
  i : ∀ n, k < n → (R_impl_packer_put n).1 (l, (a, false)) (k : Int) deep = some (((a ++ e).length : Int) - 1, (l, (a ++ e, false)), ())
theorem le8 {α : Type} {o : List Int} {x : Int} {K : Option α} (h : o.length ≤ 1048576) : (Cnd.le ((o.length + List.length [x]) * 8) 140737488355328).run K = K := le_run (by simp only [List.length_cons, List.length_nil]; omega)
theorem le56 {α : Type} {o : List NODE} {x : NODE} {K : Option α} (h : o.length ≤ 1048576) : (Cnd.le ((o.length + List.length [x]) * 56) 140737488355328).run K = K := le_run (by simp only [List.length_cons, List.length_nil]; omega)
theorem put_kids (l : List NODE) (hl : FineN l) (hA : AllN l) (k : Nat) (hk : k < l.length) (R : List Int) (deep : Int) (hd1 : 1 ≤ deep) (hd2 : deep + dAt l k ≤ 11) (A : Int) (B : Int) (C : ByteArray)
    (IH : ∀ c, c < k → ∀ a R, PI a R → a.length + sz l c ≤ 300 → ∀ deep, 1 ≤ deep → deep + dAt l c ≤ 11 → ∃ e, PutOk l c a R deep e) :
    ∀ (m i : Nat) (a : List NODE) (acc : List Int), i + m = (rd l (k : Int) zN).2.2.2.length → PI a (R ++ acc) → acc.length = i → (∀ j (h : j < (rd l (k : Int) zN).2.2.2.length) (h' : j < acc.length), Cor l a (rd l (k : Int) zN).2.2.2[j] acc[j]) →
      a.length + sumK (sz l) ((rd l (k : Int) zN).2.2.2.drop i) ≤ 299 →
      ∃ (e : List NODE) (acc' : List Int), PI (a ++ e) (R ++ acc') ∧ Cors l (a ++ e) (rd l (k : Int) zN).2.2.2 acc' ∧ e.length = sumK (sz l) ((rd l (k : Int) zN).2.2.2.drop i) ∧
        (∀ n, k ≤ n → loopF (L1_spec_l04Pack_put (R_spec_l04Pack_put n).1) ((k : Int), deep, (i : Int), (l, (a, false)), (A, (B, (C, acc))), ()) = some ((l, (a ++ e, false)), (A, (B, (C, acc'))), ())) ∧
        (∀ n, k ≤ n → loopF (L1_impl_packer_put (R_impl_packer_put n).1) (deep, acc, (rd l (k : Int) zN).2.2.2, ((rd l (k : Int) zN).2.2.2.length : Int), (i : Int), (l, (a, false)), rd l (k : Int) zN, ()) = some (.inl (acc', (l, (a ++ e, false)), rd l (k : Int) zN, ()))) := by
  have hok := (hA k hk).1
  have hkd := (hA k hk).2
  have hkid := kid_mem hok
  have hxl : (rd l (k : Int) zN).2.2.2.length ≤ 1048576 := by
    rw [rd_nat hk]; exact hl.kid _ (List.getElem_mem hk)
  have hdk : ∀ y ∈ (rd l (k : Int) zN).2.2.2, dAt l y.toNat + 1 ≤ dAt l k := fun y hy => dAt_kid hkd hy
  generalize hx : rd l (k : Int) zN = x at hkid hxl hdk ⊢
  have hrd : rd l (k : Int) ((0 : Int), ((0 : Int), ((⟨#[]⟩ : ByteArray), []))) = x := hx
  intro m
  induction m with
  | zero =>
    intro i a acc hi hP hacc hcor hle
    obtain rfl : i = x.2.2.2.length := by omega
    refine ⟨[], acc, by rw [List.append_nil]; exact hP, ⟨hacc, fun j h h' => by rw [List.append_nil]; exact hcor j h h'⟩, by rw [List.drop_length]; rfl, fun n _ => loopF_inr ?_, fun n _ => loopF_inr ?_⟩
    · rw [List.append_nil]
      simp only [L1_spec_l04Pack_put, idx_run hk, hrd, not_lt_self, decide_false, cond_false, joinP_some, Option.map_some]
    · rw [List.append_nil]
      simp only [L1_impl_packer_put, not_lt_self, decide_false, cond_false, Option.map_some]
  | succ m ih =>
    intro i a acc hi hP hacc hcor hle
    have hil : i < x.2.2.2.length := by omega
    have hy := hkid _ (List.getElem_mem hil)
    obtain ⟨c, hc⟩ : ∃ c : Nat, x.2.2.2[i] = (c : Int) := ⟨x.2.2.2[i].toNat, by omega⟩
    have hck : c < k := by omega
    have hdc := hdk _ (List.getElem_mem hil)
    rw [hc, Int.toNat_natCast] at hdc
    rw [List.drop_eq_getElem_cons hil, hc] at hle
    simp only [sumK, Int.toNat_natCast] at hle
    obtain ⟨e1, he1⟩ := IH c hck a (R ++ acc) hP (by omega) (deep + 1) (by omega) (by omega)
    have hP1 : PI (a ++ e1) (R ++ (acc ++ [((a ++ e1).length : Int) - 1])) := by
      have := he1.pi
      rwa [List.append_assoc] at this
    have hlen1 := he1.len
    obtain ⟨e2, acc', g1, g2, g3, g4, g5⟩ := ih (i + 1) (a ++ e1) (acc ++ [((a ++ e1).length : Int) - 1]) (by omega) hP1 (by simp [hacc]) (fun j h h' => by
      by_cases ej : j < acc.length
      · rw [List.getElem_append_left ej]
        exact (hcor j h ej).app e1
      · have : j = i := by simp at h'; omega
        subst this
        rw [List.getElem_append_right (by omega)]
        simp only [hacc, Nat.sub_self, List.getElem_cons_zero, hc]
        exact he1.cor) (by rw [List.length_append]; omega)
    have wi := wrapSucc (show i < 9223372036854775807 by omega)
    have hdb := dAt_le l k
    have wd : IntKind.wrap .i64 (deep + 1) = deep + 1 := wrap64 (by omega) (by omega)
    refine ⟨e1 ++ e2, acc', by rw [← List.append_assoc]; exact g1, by rw [← List.append_assoc]; exact g2, ?_, fun n hn => ?_, fun n hn => ?_⟩
    · rw [List.length_append, g3, hlen1, List.drop_eq_getElem_cons hil, hc]
      simp only [sumK, Int.toNat_natCast]
    · rw [← List.append_assoc, ← g4 n hn]
      refine loopF_inl ?_
      have hs := he1.s n (by omega)
      simp only [L1_spec_l04Pack_put, idx_run hk, hrd, lt_cast hil, decide_true, cond_true, Bool.not_false, joinP_some, idx_run hil, rd_nat hil, hc, wd, hs, Option.bind_some, le8 (show acc.length ≤ 1048576 by omega), Option.map_some, wi]
    · rw [← List.append_assoc, ← g5 n hn]
      refine loopF_inl ?_
      have hs := he1.i n (by omega)
      simp only [L1_impl_packer_put, lt_cast hil, decide_true, cond_true, idx_run hil, rd_nat hil, hc, wd, hs, Option.bind_some, cond_false, le8 (show acc.length ≤ 1048576 by omega), Option.map_some, wi]
theorem put_ok (l : List NODE) (hl : FineN l) (hA : AllN l) : ∀ k, k < l.length → ∀ a R, PI a R → a.length + sz l k ≤ 300 → ∀ deep, 1 ≤ deep → deep + dAt l k ≤ 11 → ∃ e, PutOk l k a R deep e := by
  intro k
  induction k using Nat.strongRecOn with
  | _ k IH =>
    intro hk a R hP hsz deep hd1 hd2
    have hs := sz_eq hA hk
    have hkd := (hA k hk).2
    have hdb := dAt_le l k
    have hkid := kid_mem (hA k hk).1
    obtain ⟨e, acc, g1, g2, g3, g4, g5⟩ := put_kids l hl hA k hk R deep hd1 hd2 (rd l (k : Int) zN).1 (rd l (k : Int) zN).2.1 (rd l (k : Int) zN).2.2.1 (fun c hc a R h1 h2 d h3 h4 => IH c hc (by omega) a R h1 h2 d h3 h4) (rd l (k : Int) zN).2.2.2.length 0 a [] (by omega) (by rw [List.append_nil]; exact hP) rfl (fun j h h' => absurd h' (Nat.not_lt_zero j)) (by rw [List.drop_zero]; omega)
    rw [List.drop_zero] at g3
    obtain ⟨n1, n2⟩ := PI.node hk (hA k hk) (fun j hj => (hA j (by omega)).2) g1 g2
    have hlen : ((a ++ e).length : Int) + 1 - 1 = ((a ++ e).length : Int) := by omega
    have hL : ∀ x : NODE, ((a ++ (e ++ [x])).length : Int) - 1 = ((a ++ e).length : Int) := fun x => by simp only [List.length_append, List.length_cons, List.length_nil]; omega
    have hle : (a ++ e).length ≤ 299 := by rw [List.length_append]; omega
    refine ⟨e ++ [((rd l (k : Int) zN).1, ((rd l (k : Int) zN).2.1, ((rd l (k : Int) zN).2.2.1, acc)))], by rw [List.length_append, g3, hs]; simp; omega, ?_, ?_, fun n hn => ?_, fun n hn => ?_⟩
    · rw [hL, ← List.append_assoc]; exact n1
    · rw [hL, ← List.append_assoc]; exact n2
    · match n, hn with
      | n + 1, hn =>
        have hloop := g4 n (by omega)
        have hloop' : loopF (L1_spec_l04Pack_put (R_spec_l04Pack_put n).1) ((k : Int), deep, (0 : Int), (l, (a, false)), ((rd l (k : Int) zN).1, ((rd l (k : Int) zN).2.1, ((rd l (k : Int) zN).2.2.1, []))), ()) = _ := hloop
        have hstep : (R_spec_l04Pack_put (n + 1)).1 = spec_l04Pack_put_S (R_spec_l04Pack_put n).1 := rfl
        have wl : IntKind.wrap .i64 (((a ++ e).length : Int) + 1 - 1) = ((a ++ e).length : Int) := by rw [hlen]; exact wrap64 (by omega) (by omega)
        rw [hstep, hL, ← List.append_assoc]
        unfold spec_l04Pack_put_S
        simp only [cond_false, show ¬ ((10 : Int) < deep) by omega, decide_false, lenm1 hl.len, sIn, Option.bind_some, show (0 : Int) ≤ (k : Int) ∧ (k : Int) ≤ (l.length : Int) - 1 by omega, and_self, decide_true, Bool.not_true, show ¬ ((300 : Int) < (a.length : Int)) by omega, joinP_some, idx_run hk, hloop', le56 (show (a ++ e).length ≤ 1048576 by omega)]
        simp only [List.length_append, List.length_cons, List.length_nil] at wl ⊢
        rw [show ((a.length + e.length + (0 + 1) : Nat) : Int) - 1 = (((a.length + e.length : Nat) : Int) + 1 - 1) by omega, wl]
    · match n, hn with
      | n + 1, hn =>
        have hloop := g5 n (by omega)
        have hloop' : loopF (L1_impl_packer_put (R_impl_packer_put n).1) (deep, [], (rd l (k : Int) zN).2.2.2, ((rd l (k : Int) zN).2.2.2.length : Int), (0 : Int), (l, (a, false)), rd l (k : Int) zN, ()) = _ := hloop
        have hstep : (R_impl_packer_put (n + 1)).1 = impl_packer_put_S (R_impl_packer_put n).1 := rfl
        have wl : IntKind.wrap .i64 (((a ++ e).length : Int) + 1 - 1) = ((a ++ e).length : Int) := by rw [hlen]; exact wrap64 (by omega) (by omega)
        rw [hstep, hL, ← List.append_assoc]
        unfold impl_packer_put_S
        simp only [cond_false, show ¬ ((10 : Int) < deep) by omega, decide_false, lenm1 hl.len, iIn, Option.bind_some, show (0 : Int) ≤ (k : Int) ∧ (k : Int) ≤ (l.length : Int) - 1 by omega, and_self, decide_true, Bool.not_true, show ¬ ((300 : Int) ≤ (a.length : Int)) by omega, joinP_some, idx_run hk, hloop', joinS_inl, show ¬ ((300 : Int) ≤ ((a ++ e).length : Int)) by omega, le56 (show (a ++ e).length ≤ 1048576 by omega)]
        simp only [List.length_append, List.length_cons, List.length_nil] at wl ⊢
        rw [show ((a.length + e.length + (0 + 1) : Nat) : Int) - 1 = (((a.length + e.length : Nat) : Int) + 1 - 1) by omega, wl]
end Go.Proofs.YtgkgfpbdodafaaaDoorE

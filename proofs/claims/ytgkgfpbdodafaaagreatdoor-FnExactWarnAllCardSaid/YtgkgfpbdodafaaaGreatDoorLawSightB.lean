/- Which names are in sight: the reference's statements and blocks. No condition beyond each lemma's own. -/
import Derived.Test.YtgkgfpbdodafaaaGreatDoorLawSightS
set_option linter.all false
namespace Go.Proofs.YtgkgfpbdodafaaaGreatDoorE
set_option linter.all false
set_option maxRecDepth 100000
def extL (l : List NODE) (k : Int) (nm : List ByteArray) : List ByteArray := (rd l k zN).2.2.2.foldl (extT l true) nm
theorem extL_len (l : List NODE) : ∀ (ys : List Int) (nm : List ByteArray), (ys.foldl (extT l true) nm).length ≤ nm.length + ys.length
  | [], nm => Nat.le_refl _
  | y :: ys, nm => by
    have h1 := extL_len l ys (extT l true nm y)
    have h2 := extT_len l true nm y
    simp only [List.foldl_cons, List.length_cons]
    omega
theorem len1 {α : Type} {l : List α} (h : l.length = 1) : ∃ a, l = [a] := by
  match l, h with
  | [a], _ => exact ⟨a, rfl⟩
theorem len2 {α : Type} {l : List α} (h : l.length = 2) : ∃ a b, l = [a, b] := by
  match l, h with
  | [a, b], _ => exact ⟨a, b, rfl⟩
theorem len3 {α : Type} {l : List α} (h : l.length = 3) : ∃ a b c, l = [a, b, c] := by
  match l, h with
  | [a, b, c], _ => exact ⟨a, b, c, rfl⟩
theorem bs_R (p : PROG) (hp : FineP p) (fn : Int) : ∀ n : Nat,
    (∀ (k : Int) (nm : List ByteArray) (b : Bool), (0 : Int) < deepAt p.1 k → (rd p.1 k zN).1 = 20 → k.toNat < n → nm.length + 12 * (k.toNat + 1) ≤ 16000000 → (R_spec_l07Seen_block n).1 (p, (fn, (nm, b))) k = some ((p, (fn, (extL p.1 k nm, b || !sight p fn k nm))), ())) ∧
    (∀ (k : Int) (nm : List ByteArray) (b : Bool), (0 : Int) < deepAt p.1 k → (13 ≤ (rd p.1 k zN).1 ∧ (rd p.1 k zN).1 ≤ 19) → k.toNat < n → nm.length + 12 * (k.toNat + 1) ≤ 16000000 → (R_spec_l07Seen_block n).2.1 (p, (fn, (nm, b))) k = some ((p, (fn, (extT p.1 true nm k, b || !sight p fn k nm))), ()))
  | 0 => ⟨fun _ _ _ _ _ h => absurd h (by omega), fun _ _ _ _ _ h => absurd h (by omega)⟩
  | n + 1 => by
    obtain ⟨ihB, ihS⟩ := bs_R p hp fn n
    have hpn := hp.n.len
    constructor
    · intro k nm b hd h20 hn hb
      have hk := (deepAt_pos hd).1
      have hok := (deepAt_pos hd).2.1
      have htw := nk_twelve hok
      have hkid := fun y hy => @kid_pos p.1 k hd y hy
      have hstep : ∀ i (hi : i < (rd p.1 k zN).2.2.2.length), 13 ≤ (rd p.1 (rd p.1 k zN).2.2.2[i] zN).1 ∧ (rd p.1 (rd p.1 k zN).2.2.2[i] zN).1 ≤ 19 := fun i hi => fits_step (nk_fits hok hi) h20
      rw [sight_eq p fn hd]
      show spec_l07Seen_block_S (R_spec_l07Seen_block n).1 (R_spec_l07Seen_block n).2.1 (p, (fn, (nm, b))) k = _
      unfold spec_l07Seen_block_S extL
      have hidx : ∀ {α : Type} {K : Option α}, (Cnd.idx k (List.length p.1)).run K = K := fun {α K} => idx_range hk
      have hrd : rd p.1 k Z5 = rd p.1 k zN := rfl
      generalize hx : rd p.1 k zN = x at h20 htw hkid hstep hrd ⊢
      have hl := loopF_fold (step := L1_spec_l07Seen_block (R_spec_l07Seen_block n).1 (R_spec_l07Seen_block n).2.1) x.2.2.2 (fun (c : List ByteArray × Bool) y => (extT p.1 true c.1 y, c.2 || !sight p fn y c.1)) (fun i c => (k, (i : Int), (p, (fn, (c.1, c.2))), ())) (fun c => ((p, (fn, (c.1, c.2))), ())) (fun i c => c.1.length ≤ nm.length + i) (fun i hi c hc => by
        obtain ⟨k1, k2, k3⟩ := hkid _ (List.getElem_mem hi)
        have ih := ihS x.2.2.2[i] c.1 c.2 k1 (hstep i hi) (by omega) (by omega)
        refine ⟨?_, Nat.le_trans (extT_len ..) (by omega)⟩
        simp only [L1_spec_l07Seen_block, hidx, hx, lt_cast hi, decide_true, cond_true, idx_run hi, rd_nat hi, ih, Option.bind_some, Option.map_some, wrapSucc (show i < 9223372036854775807 by omega)]) (fun c _ => by
        simp only [L1_spec_l07Seen_block, hidx, hx, not_lt_self, decide_false, cond_false, Option.map_some]) (nm, b) (Nat.le_refl _)
      have h1 := hl.1
      rw [fold_runc (fun nm y => sight p fn y nm) (extT p.1 true)] at h1
      have h1' : loopF (L1_spec_l07Seen_block (R_spec_l07Seen_block n).1 (R_spec_l07Seen_block n).2.1) (k, (0 : Int), (p, (fn, (nm, b))), ()) = _ := h1
      simp only [Option.bind_some, h1', joinP_some, okH, h20, show usesK 20 = false from rfl, Bool.not_false, Bool.true_or, Bool.true_and, decide_true, show ((20 : Int) = 12) = False from by decide, decide_false]
    · intro k nm b hd hk13 hn hb
      have hk := (deepAt_pos hd).1
      have hok := (deepAt_pos hd).2.1
      have hlen := nk_len hok
      have hkid := fun y hy => @kid_pos p.1 k hd y hy
      have hfit := fun i hi => @nk_fits p.1 k hok i hi
      rw [sight_eq p fn hd]
      show spec_l07Seen_step_S (R_spec_l07Seen_block n).1 (R_spec_l07Seen_block n).2.1 (p, (fn, (nm, b))) k = _
      unfold spec_l07Seen_step_S
      rw [show extT p.1 true nm k = bif decide ((rd p.1 k zN).1 = 13) then nm ++ [(rd p.1 k zN).2.2.1] else nm from rfl]
      rw [idx_range (show 0 ≤ k ∧ k < ((List.length (p, (fn, (nm, b))).1.1 : Nat) : Int) from hk)]
      generalize rd p.1 k zN = x at hk13 hlen hkid hfit ⊢
      have h20 : ¬ x.1 = 20 := by omega
      have h12 : ¬ x.1 = 12 := by omega
      have hpos : 0 < x.2.2.2.length := by
        have : (kr x.1).1 ≥ 1 := by
          have hc : x.1 = 13 ∨ x.1 = 14 ∨ x.1 = 15 ∨ x.1 = 16 ∨ x.1 = 17 ∨ x.1 = 18 ∨ x.1 = 19 := by omega
          rcases hc with h | h | h | h | h | h | h <;> rw [h] <;> decide
        omega
      obtain ⟨k1, k2, k3⟩ := hkid _ (List.getElem_mem hpos)
      have hv := fits_val (hfit 0 hpos) (by omega) (by simp)
      have hval := value_ok p hp fn x.2.2.2[0] nm b k1 hv.2 (by omega)
      have hT := sHasT' nm x.2.2.1 (by omega)
      rw [show (Cnd.idx (0 : Int) x.2.2.2.length).run _ = _ from idx_run (k := 0) hpos, show rd x.2.2.2 (0 : Int) (0 : Int) = x.2.2.2[0] from rd_nat (k := 0) hpos]
      simp only [hval, Option.bind_some, okH, decide_eq_false h20, decide_eq_false h12, Bool.not_false, Bool.true_or, Bool.and_true]
      have one : ∀ y, (runc (fun nm y => sight p fn y nm) (extT p.1 false) [y] nm).isSome = sight p fn y nm := fun y => by
        simp only [runc]; cases sight p fn y nm <;> rfl
      have hcase : x.1 = 13 ∨ x.1 = 14 ∨ x.1 = 15 ∨ x.1 = 16 ∨ x.1 = 17 ∨ (x.1 = 18 ∨ x.1 = 19) := by omega
      rcases hcase with h | h | h | h | h | h
      · rw [h] at hlen
        obtain ⟨y, hy⟩ := len1 (l := x.2.2.2) (by have : kr 13 = (1, 1) := rfl; rw [this] at hlen; simp at hlen; omega)
        simp only [hy, one]
        simp only [h, decide_true, decide_false, cond_true, cond_false, joinP_some, Int.reduceEq, show usesK 13 = false from rfl, Bool.not_false, Bool.true_or, Bool.true_and]
        rw [le_run (by simp; omega), le_run (by simp; omega)]
        simp only [joinP_some, List.nil_append, List.getElem_cons_zero]
      · rw [h] at hlen
        obtain ⟨y, hy⟩ := len1 (l := x.2.2.2) (by have : kr 14 = (1, 1) := rfl; rw [this] at hlen; simp at hlen; omega)
        simp only [hy, one]
        simp only [h, decide_true, decide_false, cond_true, cond_false, joinP_some, Int.reduceEq, show usesK 14 = true from rfl, Bool.not_true, Bool.false_or, List.getElem_cons_zero, hT, Option.bind_some]
        cases b <;> cases sight p fn y nm <;> cases hasT nm x.2.2.1 <;> rfl
      · rw [h] at hlen
        obtain ⟨y, hy⟩ := len1 (l := x.2.2.2) (by have : kr 15 = (1, 1) := rfl; rw [this] at hlen; simp at hlen; omega)
        simp only [hy, one]
        simp only [h, decide_true, decide_false, cond_true, cond_false, joinP_some, Int.reduceEq, show usesK 15 = true from rfl, Bool.not_true, Bool.false_or, List.getElem_cons_zero, hT, Option.bind_some]
        cases b <;> cases sight p fn y nm <;> cases hasT nm x.2.2.1 <;> rfl
      · rw [h] at hlen
        have hl3 : x.2.2.2.length = 3 := by have : kr 16 = (3, 3) := rfl; rw [this] at hlen; simp at hlen; omega
        have hb1 := ihB x.2.2.2[1] nm (b || !sight p fn x.2.2.2[0] nm) (hkid _ (List.getElem_mem (by omega))).1 (fits_blk (hfit 1 (by omega)) (.inl h) (by decide)) (by have := hkid _ (List.getElem_mem (show 1 < x.2.2.2.length by omega)); omega) (by have := hkid _ (List.getElem_mem (show 1 < x.2.2.2.length by omega)); omega)
        have hb2 := ihB x.2.2.2[2] nm (b || !sight p fn x.2.2.2[0] nm || !sight p fn x.2.2.2[1] nm) (hkid _ (List.getElem_mem (by omega))).1 (fits_blk (hfit 2 (by omega)) (.inl h) (by decide)) (by have := hkid _ (List.getElem_mem (show 2 < x.2.2.2.length by omega)); omega) (by have := hkid _ (List.getElem_mem (show 2 < x.2.2.2.length by omega)); omega)
        have hl : loopF (L1_spec_l07Seen_step (R_spec_l07Seen_block n).1 (R_spec_l07Seen_block n).2.1) ((1 : Int), (p, (fn, (nm, b || !sight p fn x.2.2.2[0] nm))), x, ()) = some ((p, (fn, (nm, b || !sight p fn x.2.2.2[0] nm || !sight p fn x.2.2.2[1] nm || !sight p fn x.2.2.2[2] nm))), ()) := by
          rw [loopF_inl (b' := (((2 : Nat) : Int), (p, (fn, (nm, b || !sight p fn x.2.2.2[0] nm || !sight p fn x.2.2.2[1] nm))), x, ())) (by
            have a1 : ((1 : Nat) : Int) < (x.2.2.2.length : Int) := by omega
            have := idx_run (α := SL1_spec_l07Seen_step ⊕ (Y0 × Unit)) (k := 1) (n := x.2.2.2.length) (by omega) (K := some (.inl (((2 : Nat) : Int), (p, (fn, (nm, b || !sight p fn x.2.2.2[0] nm || !sight p fn x.2.2.2[1] nm))), x, ())))
            simp only [L1_spec_l07Seen_step, show (1 : Int) < (x.2.2.2.length : Int) from a1, decide_true, cond_true, show rd x.2.2.2 (1 : Int) (0 : Int) = x.2.2.2[1] from rd_nat (k := 1) (by omega), hb1, Option.bind_some, Option.map_some]
            exact this)]
          rw [loopF_inl (b' := (((3 : Nat) : Int), (p, (fn, (nm, b || !sight p fn x.2.2.2[0] nm || !sight p fn x.2.2.2[1] nm || !sight p fn x.2.2.2[2] nm))), x, ())) (by
            simp only [L1_spec_l07Seen_step, lt_cast (show 2 < x.2.2.2.length by omega), decide_true, cond_true, idx_run (show 2 < x.2.2.2.length by omega), rd_nat (show 2 < x.2.2.2.length by omega), hb2, Option.bind_some, Option.map_some]
            rfl)]
          refine loopF_inr ?_
          simp only [L1_spec_l07Seen_step, show ¬ (((3 : Nat) : Int) < (x.2.2.2.length : Int)) by omega, decide_false, cond_false, Option.map_some]
        simp only [h, decide_true, decide_false, cond_true, cond_false, joinP_some, Int.reduceEq, show usesK 16 = false from rfl, Bool.not_false, Bool.true_or, Bool.true_and, Option.bind_some, hl, Bool.false_and]
        obtain ⟨y0, y1, y2, hy⟩ := len3 hl3
        simp only [hy, List.getElem_cons_zero, List.getElem_cons_succ, runc, ext_none]
        cases b <;> cases sight p fn y0 nm <;> cases sight p fn y1 nm <;> cases sight p fn y2 nm <;> rfl
      · rw [h] at hlen
        have hl2 : x.2.2.2.length = 2 := by have : kr 17 = (2, 2) := rfl; rw [this] at hlen; simp at hlen; omega
        have hb1 := ihB x.2.2.2[1] nm (b || !sight p fn x.2.2.2[0] nm) (hkid _ (List.getElem_mem (by omega))).1 (fits_blk (hfit 1 (by omega)) (.inr h) (by decide)) (by have := hkid _ (List.getElem_mem (show 1 < x.2.2.2.length by omega)); omega) (by have := hkid _ (List.getElem_mem (show 1 < x.2.2.2.length by omega)); omega)
        have hl : loopF (L1_spec_l07Seen_step (R_spec_l07Seen_block n).1 (R_spec_l07Seen_block n).2.1) ((1 : Int), (p, (fn, (nm, b || !sight p fn x.2.2.2[0] nm))), x, ()) = some ((p, (fn, (nm, b || !sight p fn x.2.2.2[0] nm || !sight p fn x.2.2.2[1] nm))), ()) := by
          rw [loopF_inl (b' := (((2 : Nat) : Int), (p, (fn, (nm, b || !sight p fn x.2.2.2[0] nm || !sight p fn x.2.2.2[1] nm))), x, ())) (by
            have a1 : ((1 : Nat) : Int) < (x.2.2.2.length : Int) := by omega
            have := idx_run (α := SL1_spec_l07Seen_step ⊕ (Y0 × Unit)) (k := 1) (n := x.2.2.2.length) (by omega) (K := some (.inl (((2 : Nat) : Int), (p, (fn, (nm, b || !sight p fn x.2.2.2[0] nm || !sight p fn x.2.2.2[1] nm))), x, ())))
            simp only [L1_spec_l07Seen_step, show (1 : Int) < (x.2.2.2.length : Int) from a1, decide_true, cond_true, show rd x.2.2.2 (1 : Int) (0 : Int) = x.2.2.2[1] from rd_nat (k := 1) (by omega), hb1, Option.bind_some, Option.map_some]
            exact this)]
          refine loopF_inr ?_
          simp only [L1_spec_l07Seen_step, show ¬ (((2 : Nat) : Int) < (x.2.2.2.length : Int)) by omega, decide_false, cond_false, Option.map_some]
        simp only [h, decide_true, decide_false, cond_true, cond_false, joinP_some, Int.reduceEq, show usesK 17 = false from rfl, Bool.not_false, Bool.true_or, Bool.true_and, Option.bind_some, hl, Bool.false_and]
        obtain ⟨y0, y1, hy⟩ := len2 hl2
        simp only [hy, List.getElem_cons_zero, List.getElem_cons_succ, runc, ext_none]
        cases b <;> cases sight p fn y0 nm <;> cases sight p fn y1 nm <;> rfl
      · have hu : usesK x.1 = false := by simp only [usesK, Bool.or_eq_false_iff, decide_eq_false_iff_not]; omega
        obtain ⟨y, hy⟩ := len1 (l := x.2.2.2) (by
          rcases h with h | h <;> rw [h] at hlen
          · have : kr 18 = (1, 1) := rfl; rw [this] at hlen; simp at hlen; omega
          · have : kr 19 = (1, 1) := rfl; rw [this] at hlen; simp at hlen; omega)
        simp only [hy, one, hu]
        simp only [show ¬ x.1 = 13 by omega, show ¬ x.1 = 14 by omega, show ¬ x.1 = 15 by omega, show ¬ x.1 = 16 by omega, show ¬ x.1 = 17 by omega, decide_false, cond_false, joinP_some, Bool.not_false, Bool.true_or, Bool.true_and, List.getElem_cons_zero, Bool.false_and, Bool.and_false]
theorem block_ok (p : PROG) (hp : FineP p) (fn : Int) (k : Int) (nm : List ByteArray) (b : Bool) (hd : (0 : Int) < deepAt p.1 k) (h20 : (rd p.1 k zN).1 = 20) (hnm : nm.length ≤ 2000000) :
    spec_l07Seen_block (p, (fn, (nm, b))) k = some ((p, (fn, (extL p.1 k nm, b || !sight p fn k nm))), ()) := by
  have hk := (deepAt_pos hd).1
  have hkn := hp.n.len
  exact limF_some.2 ⟨k.toNat + 1, fun n hn => (bs_R p hp fn n).1 k nm b hd h20 (by omega) (by omega)⟩
end Go.Proofs.YtgkgfpbdodafaaaGreatDoorE

/- What lies under a node: the program's rounds, and that they find what the reference marks. No condition beyond each lemma's own. -/
import Derived.Test.YtgkgfpbdodafaaaGreatDoorLawUnd
set_option linter.all false
namespace Go.Proofs.YtgkgfpbdodafaaaGreatDoorE
set_option linter.all false
set_option maxRecDepth 100000
theorem sorted_ext : ∀ (a b : List Int), a.Pairwise (· < ·) → b.Pairwise (· < ·) → (∀ x, x ∈ a ↔ x ∈ b) → a = b
  | [], [], _, _, _ => rfl
  | [], y :: b, _, _, h => absurd ((h y).2 (List.mem_cons_self ..)) (by simp)
  | x :: a, [], _, _, h => absurd ((h x).1 (List.mem_cons_self ..)) (by simp)
  | x :: a, y :: b, ha, hb, h => by
    rw [List.pairwise_cons] at ha hb
    have hxy : x = y := by
      have h1 := (h x).1 (List.mem_cons_self ..)
      have h2 := (h y).2 (List.mem_cons_self ..)
      rcases List.mem_cons.1 h1 with e | e
      · exact e
      · rcases List.mem_cons.1 h2 with e2 | e2
        · exact e2.symm
        · have := hb.1 x e
          have := ha.1 y e2
          omega
    subst hxy
    congr 1
    refine sorted_ext a b ha.2 hb.2 fun z => ⟨fun hz => ?_, fun hz => ?_⟩
    · have h1 := (h z).1 (List.mem_cons_of_mem _ hz)
      rcases List.mem_cons.1 h1 with e | e
      · have := ha.1 z hz
        omega
      · exact e
    · have h1 := (h z).2 (List.mem_cons_of_mem _ hz)
      rcases List.mem_cons.1 h1 with e | e
      · have := hb.1 z hz
        omega
      · exact e
def srt (l : List Int) : List Int := l.mergeSort fun a b => decide (a ≤ b)
theorem ints_ok (l : List Int) (h : l.length ≤ 4000000) : lib_Ints l = some (srt l, ()) := by
  unfold lib_Ints
  rw [if_pos (by omega)]
  rfl
theorem mem_srt (l : List Int) (x : Int) : x ∈ srt l ↔ x ∈ l := List.mem_mergeSort
theorem srt_sorted {l : List Int} (h : l.Nodup) : (srt l).Pairwise (· < ·) := by
  have h1 : (srt l).Pairwise (fun a b => decide (a ≤ b) = true) := List.pairwise_mergeSort (fun a b c h1 h2 => by simp only [decide_eq_true_eq] at *; omega) (fun a b => by simp only [Bool.or_eq_true, decide_eq_true_eq]; omega) l
  have h2 : (srt l).Nodup := (List.mergeSort_perm l _).nodup_iff.2 h
  exact (h1.and h2).imp fun {a b} h => by
    have := of_decide_eq_true h.1
    have := h.2
    omega
def addK (o : List Int) (y : Int) : List Int := bif hasI o y then o else o ++ [y]
theorem hasI_iff {l : List Int} {n : Int} : hasI l n = true ↔ n ∈ l := by
  unfold hasI
  rw [List.any_eq_true]
  exact ⟨fun ⟨x, hx, h⟩ => by rw [← of_decide_eq_true h]; exact hx, fun h => ⟨n, h, decide_eq_true rfl⟩⟩
theorem mem_addK {o : List Int} {y x : Int} : x ∈ addK o y ↔ x ∈ o ∨ x = y := by
  unfold addK
  cases h : hasI o y
  · simp
  · simp only [cond_true]
    have := hasI_iff.1 h
    exact ⟨.inl, fun h => h.elim id fun e => by rw [e]; exact this⟩
theorem nodup_addK {o : List Int} {y : Int} (h : o.Nodup) : (addK o y).Nodup := by
  unfold addK
  cases hh : hasI o y
  · simp only [cond_false]
    rw [List.nodup_append]
    refine ⟨h, by simp, fun a ha b hb => ?_⟩
    simp only [List.mem_singleton] at hb
    intro e
    subst hb e
    rw [hasI_iff.2 ha] at hh
    cases hh
  · exact h
theorem pre_addK (o : List Int) (y : Int) : o <+: addK o y := by
  unfold addK
  cases hasI o y
  · exact List.prefix_append ..
  · exact List.prefix_rfl
theorem mem_foldK : ∀ {ys o : List Int} {x : Int}, x ∈ ys.foldl addK o ↔ x ∈ o ∨ x ∈ ys
  | [], o, x => by simp
  | y :: ys, o, x => by
    rw [List.foldl_cons, mem_foldK, mem_addK, List.mem_cons, or_assoc]
theorem nodup_foldK : ∀ {ys o : List Int}, o.Nodup → (ys.foldl addK o).Nodup
  | [], _, h => h
  | _ :: ys, _, h => nodup_foldK (ys := ys) (nodup_addK h)
theorem pre_foldK : ∀ (ys o : List Int), o <+: ys.foldl addK o
  | [], _ => List.prefix_rfl
  | y :: ys, o => (pre_addK o y).trans (pre_foldK ys (addK o y))
theorem nodup_len : ∀ (n : Nat) (o : List Int), o.Nodup → (∀ x ∈ o, 0 ≤ x ∧ x < (n : Int)) → o.length ≤ n
  | 0, o, _, h => by
    cases o with
    | nil => exact Nat.le_refl 0
    | cons x o => have := h x (List.mem_cons_self ..); omega
  | n + 1, o, hn, h => by
    have h1 := nodup_len n (o.erase (n : Int)) (hn.erase _) (fun x hx => by
      have h2 := (List.Nodup.mem_erase_iff hn).1 hx
      have h3 := h x h2.2
      have := h2.1
      omega)
    by_cases hm : (n : Int) ∈ o
    · rw [List.length_erase_of_mem hm] at h1
      omega
    · rw [List.erase_of_not_mem hm] at h1
      omega
def Rg (n : Nat) (o : List Int) : Prop := o.Nodup ∧ ∀ x ∈ o, 0 ≤ x ∧ x < (n : Int)
theorem Rg.len {n : Nat} {o : List Int} (h : Rg n o) : o.length ≤ n := nodup_len n o h.1 h.2
theorem Rg.add {n : Nat} {o : List Int} (h : Rg n o) {y : Int} (hy : 0 ≤ y ∧ y < (n : Int)) : Rg n (addK o y) := ⟨nodup_addK h.1, fun x hx => by
  rcases mem_addK.1 hx with h1 | h1
  · exact h.2 x h1
  · rw [h1]; exact hy⟩
theorem under_inner (l : List NODE) (hl : FineN l) (i : Int) (ys o : List Int) (hy : ∀ y ∈ ys, 0 ≤ y ∧ y < (l.length : Int)) (hyl : ys.length ≤ 1048576) (ho : Rg l.length o) :
    loopF L1_impl_under (l, o, i, ys, (ys.length : Int), (0 : Int), ()) = some (l, ys.foldl addK o, i, ()) := by
  have hn := hl.len
  have h := loopF_fold (step := L1_impl_under) ys addK (fun k o => (l, o, i, ys, (ys.length : Int), (k : Int), ())) (fun o => (l, o, i, ())) (fun _ o => Rg l.length o) (fun k hk o ho => by
    refine ⟨?_, ho.add (hy _ (List.getElem_mem hk))⟩
    have hlen := ho.len
    simp only [L1_impl_under, lt_cast hk, decide_true, cond_true, idx_run hk, rd_nat hk, iHas o _ (by omega), Option.bind_some, addK]
    cases hasI o ys[k]
    · simp only [Bool.not_false, cond_true, cond_false, le_run (show (o.length + [ys[k]].length) * 8 ≤ 140737488355328 by simp; omega), joinP_some, Option.map_some, wrapSucc (show k < 9223372036854775807 by omega)]
    · simp only [Bool.not_true, cond_true, cond_false, joinP_some, Option.map_some, wrapSucc (show k < 9223372036854775807 by omega)]) (fun o ho => by
    simp only [L1_impl_under, not_lt_self, decide_false, cond_false, Option.map_some]) o ho
  exact h.1
structure BIu (l : List NODE) (k : Int) (i : Nat) (o : List Int) : Prop where
  nd : o.Nodup
  un : ∀ x ∈ o, undr l k x = true
  at_ : k ∈ o
  le : i ≤ o.length
  cl : ∀ x ∈ o.take i, ∀ y ∈ (rd l x zN).2.2.2, y ∈ o
theorem BIu.rg {l : List NODE} {k : Int} {i : Nat} {o : List Int} (h : BIu l k i o) (hk : (0 : Int) < deepAt l k) : Rg l.length o := ⟨h.nd, fun x hx => by
  have h1 := undr_rng hk (h.un x hx)
  have h2 := (deepAt_pos hk).1
  omega⟩
theorem under_outer (l : List NODE) (hl : FineN l) (k : Int) (hk : (0 : Int) < deepAt l k) : ∀ (m i : Nat) (o : List Int), l.length ≤ i + m → BIu l k i o → ∃ o', loopF L2_impl_under (l, o, (i : Int), ()) = some (o', ()) ∧ BIu l k o'.length o' := by
  have hn := hl.len
  have done : ∀ (i : Nat) (o : List Int), i = o.length → BIu l k i o → ∃ o', loopF L2_impl_under (l, o, (i : Int), ()) = some (o', ()) ∧ BIu l k o'.length o' := fun i o hi h => by
    subst hi
    refine ⟨o, loopF_inr ?_, h⟩
    simp only [L2_impl_under, not_lt_self, decide_false, cond_false, Option.map_some]
  intro m
  induction m with
  | zero =>
    intro i o hm h
    have := (h.rg hk).len
    have := h.le
    exact done i o (by omega) h
  | succ m ih =>
    intro i o hm h
    rcases Nat.lt_or_ge i o.length with hi | hi
    · have hx := h.un _ (List.getElem_mem hi)
      have hxd := undr_deep hk hx
      have hxr := (deepAt_pos hxd).1
      obtain ⟨a, ha⟩ : ∃ a : Nat, o[i] = (a : Int) := ⟨o[i].toNat, by omega⟩
      have hal : a < l.length := by omega
      have hkl := kid_len hxr hl
      have hin := under_inner l hl (i : Int) (rd l o[i] zN).2.2.2 o (fun y hy => by
        have := kid_pos hxd hy
        omega) hkl (h.rg hk)
      have hst : L2_impl_under (l, o, (i : Int), ()) = some (.inl (l, (rd l o[i] zN).2.2.2.foldl addK o, ((i + 1 : Nat) : Int), ())) := by
        have hidx : (Cnd.idx o[i] l.length).run (α := List NODE × List Int × Int × Unit) = fun K => K := by
          funext K; rw [ha]; exact idx_run hal
        simp only [L2_impl_under, lt_cast hi, decide_true, cond_true, idx_run hi, rd_nat hi, hidx, Option.bind_some, hin, joinP_some, Option.map_some, wrapSucc (show i < 9223372036854775807 by have := (h.rg hk).len; omega)]
      rw [loopF_inl hst]
      have hpre := pre_foldK (rd l o[i] zN).2.2.2 o
      refine ih (i + 1) _ (by omega) ⟨nodup_foldK h.nd, fun x hx' => ?_, mem_foldK.2 (.inl h.at_), ?_, fun x hx' y hy => ?_⟩
      · rcases mem_foldK.1 hx' with h1 | h1
        · exact h.un x h1
        · exact undr_trans hk hx (undr_kid hxd h1 (undr_self l x))
      · have := hpre.length_le
        omega
      · obtain ⟨e, he⟩ := hpre
        rw [← he, List.take_append_of_le_length (by omega), List.take_succ_eq_append_getElem hi, List.mem_append] at hx'
        rcases hx' with h1 | h1
        · exact mem_foldK.2 (.inl (h.cl x h1 y hy))
        · simp only [List.mem_singleton] at h1
          subst h1
          exact mem_foldK.2 (.inr hy)
    · exact done i o (by have := h.le; omega) h
theorem closed_all {l : List NODE} {o : List Int} (hc : ∀ x ∈ o, ∀ y ∈ (rd l x zN).2.2.2, y ∈ o) : ∀ (n : Nat) (a t : Int), a.toNat < n → (0 : Int) < deepAt l a → a ∈ o → undr l a t = true → t ∈ o
  | 0, _, _, h, _, _, _ => absurd h (by omega)
  | n + 1, a, t, hn, h, ha, ht => by
    rw [undr_eq h, Bool.or_eq_true] at ht
    rcases ht with ht | ht
    · rw [← of_decide_eq_true ht]; exact ha
    · obtain ⟨y, hy, hy2⟩ := List.any_eq_true.1 ht
      obtain ⟨k1, k2, k3⟩ := kid_pos h hy
      exact closed_all hc n y t (by omega) k1 (hc a ha y hy) hy2
theorem impl_under_ok (l : List NODE) (hl : FineN l) (k : Int) (hk : (0 : Int) < deepAt l k) : impl_under l k = some (undL l k, ()) := by
  have hkr := (deepAt_pos hk).1
  have hn := hl.len
  obtain ⟨o, h1, h2⟩ := under_outer l hl k hk l.length 0 [k] (by omega) ⟨by simp, fun x hx => by
    simp only [List.mem_singleton] at hx
    rw [hx]; exact undr_self l k, by simp, by simp, fun x hx => by simp at hx⟩
  have h1' : loopF L2_impl_under (l, [k], (0 : Int), ()) = _ := h1
  have hlen := (h2.rg hk).len
  have hc := h2.cl
  rw [List.take_length] at hc
  unfold impl_under
  simp only [Option.bind_some, h1', joinP_some, ints_ok o (by omega)]
  congr 2
  refine sorted_ext _ _ (srt_sorted h2.nd) (undL_sorted l k) fun x => ?_
  rw [mem_srt, mem_undL hk]
  exact ⟨h2.un x, closed_all hc _ k x (Nat.lt_succ_self _) hk h2.at_⟩
theorem impl_Under_ok (p : PROG) (hp : FineN p.1) (k : Int) : impl_Under p k = some (unds p.1 k, ()) := by
  unfold impl_Under unds
  rw [impl_DeepOf_ok p.1 hp k, Option.bind_some]
  by_cases hz : deepAt p.1 k = 0
  · simp only [hz, decide_true, cond_true]
  simp only [decide_eq_false hz, cond_false, impl_under_ok p.1 hp k (in_ok hz), Option.bind_some]
theorem unds_sorted (l : List NODE) (k : Int) : (unds l k).Pairwise (· < ·) := by
  unfold unds
  cases decide (deepAt l k = 0)
  · exact undL_sorted l k
  · exact List.Pairwise.nil
theorem unds_len (l : List NODE) (k : Int) : (unds l k).length ≤ l.length := by
  unfold unds
  cases decide (deepAt l k = 0)
  · exact undL_len l k
  · exact Nat.zero_le _
theorem unds_rng {l : List NODE} {k x : Int} (h : x ∈ unds l k) : (0 ≤ x ∧ x < (l.length : Int)) ∧ (0 : Int) < deepAt l x := by
  unfold unds at h
  by_cases hz : deepAt l k = 0
  · simp [hz] at h
  · rw [decide_eq_false hz, cond_false] at h
    have := undr_deep (in_ok hz) ((mem_undL (in_ok hz) x).1 h)
    exact ⟨(deepAt_pos this).1, this⟩
end Go.Proofs.YtgkgfpbdodafaaaGreatDoorE

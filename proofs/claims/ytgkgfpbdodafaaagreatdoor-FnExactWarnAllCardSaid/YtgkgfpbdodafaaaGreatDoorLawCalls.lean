/- Who calls whom, and which functions nobody comes to: the program's reckoning and the reference's. No condition beyond each lemma's own. -/
import Derived.Test.YtgkgfpbdodafaaaGreatDoorLawUses
import Derived.Test.YtgkgfpbdodafaaaGreatDoorLawFnAt
set_option linter.all false
namespace Go.Proofs.YtgkgfpbdodafaaaGreatDoorE
set_option linter.all false
set_option maxRecDepth 100000
theorem sAddK (l : List Int) (n : Int) (hl : l.length ≤ 4000000) : spec_l11Add l n = some (addK l n, ()) := by
  have h := loopF_any (step := L1_spec_l11Add) l (fun y => decide (y = n)) (fun k => (l, n, (k : Int), ())) (.inr (l, ())) (.inl (l, n, ())) (fun k hk => by
    simp only [L1_spec_l11Add, lt_cast hk, decide_true, cond_true, idx_run hk, rd_nat hk, wrapSucc (show k < 9223372036854775807 by omega)]
    cases decide (l[k] = n) <;> rfl) (by
    simp only [L1_spec_l11Add, not_lt_self, decide_false, cond_false, Option.map_some])
  have h' : loopF L1_spec_l11Add (l, n, (0 : Int), ()) = _ := h
  unfold spec_l11Add addK hasI
  simp only [Option.bind_some, h']
  cases l.any fun y => decide (y = n)
  · simp only [cond_false, joinS_inl]
    rw [le_run (by simp; omega)]
  · rfl
theorem fnAt_rng {l : List FN} {s : ByteArray} (h : (0 : Int) ≤ fnAt l s) : 0 ≤ fnAt l s ∧ fnAt l s < (l.length : Int) := by
  refine ⟨h, ?_⟩
  unfold fnAt
  cases h : l.findIdx? fun f => decide (f.1 = s) with
  | none => simp only; omega
  | some i =>
    obtain ⟨h1, _⟩ := List.findIdx?_eq_some_iff_getElem.1 h
    simp only; omega
def callK (p : PROG) (o : List Int) (k : Int) : List Int := bif decide ((rd p.1 k zN).1 = 12) then (bif decide ((0 : Int) ≤ fnAt p.2 (rd p.1 k zN).2.2.1) then addK o (fnAt p.2 (rd p.1 k zN).2.2.1) else o) else o
def calls (p : PROG) (fn : Int) : List Int := (fnN p fn).foldl (callK p) []
theorem callK_rg {p : PROG} {o : List Int} (h : Rg p.2.length o) (k : Int) : Rg p.2.length (callK p o k) := by
  unfold callK
  cases decide ((rd p.1 k zN).1 = 12)
  · exact h
  · by_cases h0 : (0 : Int) ≤ fnAt p.2 (rd p.1 k zN).2.2.1
    · rw [decide_eq_true h0, cond_true, cond_true]
      exact h.add (fnAt_rng h0)
    · rw [decide_eq_false h0]
      exact h
theorem rg_nil (n : Nat) : Rg n [] := ⟨List.nodup_nil, fun x hx => by simp at hx⟩
theorem calls_rg (p : PROG) (fn : Int) : Rg p.2.length (calls p fn) := by
  have key : ∀ (l o : List Int), Rg p.2.length o → Rg p.2.length (l.foldl (callK p) o) := by
    intro l
    induction l with
    | nil => intro o h; exact h
    | cons k l ih => intro o h; exact ih _ (callK_rg h k)
  exact key _ _ (rg_nil _)
theorem spec_Calls_ok (p : PROG) (hp : FineP p) (fn : Int) : spec_CallsOf p fn = some (calls p fn, ()) := by
  have hlen := fnN_len hp (fn := fn)
  have hf := hp.f
  have h := loopF_fold (step := L1_spec_CallsOf) (fnN p fn) (callK p) (fun i o => (o, fnN p fn, (i : Int), p, ())) (fun o => (o, ())) (fun _ o => Rg p.2.length o) (fun i hi o ho => by
    refine ⟨?_, callK_rg ho _⟩
    have hol := ho.len
    have hid : ∀ {α : Type} {K : Option α}, (Cnd.idx (fnN p fn)[i] p.1.length).run K = K := fun {α K} => idx_range (fnN_rng (List.getElem_mem hi)).1
    simp only [L1_spec_CallsOf, lt_cast hi, decide_true, cond_true, idx_run hi, rd_nat hi, hid, callK]
    by_cases h12 : (rd p.1 (fnN p fn)[i] zN).1 = 12
    · simp only [h12, ne_eq, not_true_eq_false, decide_false, decide_true, cond_true, cond_false, spec_FnAt_ok p hp, Option.bind_some]
      by_cases h0 : (0 : Int) ≤ fnAt p.2 (rd p.1 (fnN p fn)[i] zN).2.2.1
      · simp only [h0, decide_true, cond_true, sAddK o _ (by omega), Option.bind_some, joinP_some, Option.map_some, wrapSucc (show i < 9223372036854775807 by omega)]
      · simp only [h0, decide_false, cond_false, joinP_some, Option.map_some, wrapSucc (show i < 9223372036854775807 by omega)]
    · simp only [h12, ne_eq, not_false_eq_true, decide_false, decide_true, cond_true, cond_false, joinP_some, Option.map_some, wrapSucc (show i < 9223372036854775807 by omega)]) (fun o ho => by
    simp only [L1_spec_CallsOf, not_lt_self, decide_false, cond_false, Option.map_some]) [] (rg_nil _)
  have h' : loopF L1_spec_CallsOf ([], fnN p fn, (0 : Int), p, ()) = _ := h.1
  unfold spec_CallsOf calls
  rw [spec_All_ok p hp, Option.bind_some]
  simp only [Option.bind_some, h', joinP_some]
theorem impl_Calls_ok (p : PROG) (hp : FineP p) (fn : Int) : impl_CallsOf p fn = some (calls p fn, ()) := by
  have hlen := fnN_len hp (fn := fn)
  have hf := hp.f
  have h := loopF_fold (step := L1_impl_CallsOf) (fnN p fn) (callK p) (fun i o => (o, fnN p fn, ((fnN p fn).length : Int), (i : Int), p, ())) (fun o => (o, ())) (fun _ o => Rg p.2.length o) (fun i hi o ho => by
    refine ⟨?_, callK_rg ho _⟩
    have hol := ho.len
    have hid : ∀ {α : Type} {K : Option α}, (Cnd.idx (fnN p fn)[i] p.1.length).run K = K := fun {α K} => idx_range (fnN_rng (List.getElem_mem hi)).1
    simp only [L1_impl_CallsOf, lt_cast hi, decide_true, cond_true, idx_run hi, rd_nat hi, hid, callK]
    by_cases h12 : (rd p.1 (fnN p fn)[i] zN).1 = 12
    · simp only [h12, decide_true, cond_true, impl_FnAt_ok p hp, Option.bind_some]
      by_cases h0 : (0 : Int) ≤ fnAt p.2 (rd p.1 (fnN p fn)[i] zN).2.2.1
      · simp only [h0, decide_true, cond_true, iHas o _ (show o.length ≤ 4000000 by omega), Option.bind_some, joinP_some, addK]
        cases hasI o (fnAt p.2 (rd p.1 (fnN p fn)[i] zN).2.2.1)
        · simp only [Bool.not_false, cond_true, cond_false]
          rw [le_run (by simp; omega)]
          simp only [joinP_some, Option.map_some, wrapSucc (show i < 9223372036854775807 by omega)]
        · simp only [Bool.not_true, cond_true, cond_false, joinP_some, Option.map_some, wrapSucc (show i < 9223372036854775807 by omega)]
      · simp only [h0, decide_false, cond_false, joinP_some, Option.map_some, wrapSucc (show i < 9223372036854775807 by omega)]
    · simp only [h12, decide_false, cond_false, joinP_some, Option.map_some, wrapSucc (show i < 9223372036854775807 by omega)]) (fun o ho => by
    simp only [L1_impl_CallsOf, not_lt_self, decide_false, cond_false, Option.map_some]) [] (rg_nil _)
  have h' : loopF L1_impl_CallsOf ([], fnN p fn, ((fnN p fn).length : Int), (0 : Int), p, ()) = _ := h.1
  unfold impl_CallsOf calls
  rw [impl_fnN_ok p hp, Option.bind_some]
  simp only [Option.bind_some, h', joinP_some]
def memb (n : Nat) (o : List Int) : List Bool := (List.range n).map fun (t : Nat) => hasI o (t : Int)
theorem memb_len (n : Nat) (o : List Int) : (memb n o).length = n := by simp [memb]
theorem memb_rd {n : Nat} {o : List Int} {t : Nat} (h : t < n) : rd (memb n o) (t : Int) false = hasI o (t : Int) := by
  rw [rd_nat (by rw [memb_len]; exact h)]
  simp [memb]
theorem memb_set {n : Nat} {o : List Int} {t : Nat} (h : t < n) (hh : hasI o (t : Int) = false) : (memb n o).set t true = memb n (addK o (t : Int)) := by
  refine List.ext_getElem (by simp [memb]) fun i h1 h2 => ?_
  have hi : i < n := by simpa [memb] using h2
  rw [List.getElem_set]
  have e : (memb n (addK o (t : Int)))[i] = hasI (addK o (t : Int)) (i : Int) := by simp [memb]
  have e2 : (memb n o)[i]'(by rw [memb_len]; exact hi) = hasI o (i : Int) := by simp [memb]
  rw [e]
  by_cases hti : t = i
  · subst hti
    rw [if_pos rfl]
    exact (hasI_iff.2 (mem_addK.2 (.inr rfl))).symm
  · rw [if_neg hti, e2]
    cases hb : hasI o (i : Int)
    · symm
      rw [← Bool.not_eq_true, hasI_iff, mem_addK]
      rintro (h | h)
      · rw [hasI_iff.2 h] at hb; cases hb
      · omega
    · exact (hasI_iff.2 (mem_addK.2 (.inl (hasI_iff.1 hb)))).symm
theorem reach_innerS (p : PROG) (hp : FineP p) (i : Int) (ys o : List Int) (hy : ∀ y ∈ ys, 0 ≤ y ∧ y < (p.2.length : Int)) (hyl : ys.length ≤ 1048576) (ho : Rg p.2.length o) :
    loopF L1_spec_ReachedFns ([], memb p.2.length o, o, i, ys, (0 : Int), p, ()) = some ([], memb p.2.length (ys.foldl addK o), ys.foldl addK o, i, p, ()) := by
  have hf := hp.f
  have h := loopF_fold (step := L1_spec_ReachedFns) ys addK (fun k o => ([], memb p.2.length o, o, i, ys, (k : Int), p, ())) (fun o => ([], memb p.2.length o, o, i, p, ())) (fun _ o => Rg p.2.length o) (fun k hk o ho => by
    have hyk := hy _ (List.getElem_mem hk)
    refine ⟨?_, ho.add hyk⟩
    have hlen := ho.len
    obtain ⟨t, ht⟩ : ∃ t : Nat, ys[k] = (t : Int) := ⟨ys[k].toNat, by omega⟩
    have htn : t < p.2.length := by omega
    have htm : t < (memb p.2.length o).length := by rw [memb_len]; exact htn
    simp only [L1_spec_ReachedFns, lt_cast hk, decide_true, cond_true, idx_run hk, rd_nat hk, ht, idx_run htm, memb_rd htn, addK]
    cases hh : hasI o (t : Int)
    · have hs := memb_set htn hh
      rw [addK, hh, cond_false] at hs
      simp only [Bool.not_false, cond_true, cond_false, bindD, Int.toNat_natCast, hs]
      rw [le_run (by simp; omega)]
      simp only [joinP_some, Option.map_some, wrapSucc (show k < 9223372036854775807 by omega)]
    · simp only [Bool.not_true, cond_true, cond_false, joinP_some, Option.map_some, wrapSucc (show k < 9223372036854775807 by omega)]) (fun o ho => by
    simp only [L1_spec_ReachedFns, not_lt_self, decide_false, cond_false, Option.map_some]) o ho
  exact h.1
theorem reach_innerI (p : PROG) (hp : FineP p) (i : Int) (ys o : List Int) (hy : ∀ y ∈ ys, 0 ≤ y ∧ y < (p.2.length : Int)) (hyl : ys.length ≤ 1048576) (ho : Rg p.2.length o) :
    loopF L1_impl_ReachedFns (o, i, ys, (ys.length : Int), (0 : Int), p, ()) = some (ys.foldl addK o, i, p, ()) := by
  have hf := hp.f
  have h := loopF_fold (step := L1_impl_ReachedFns) ys addK (fun k o => (o, i, ys, (ys.length : Int), (k : Int), p, ())) (fun o => (o, i, p, ())) (fun _ o => Rg p.2.length o) (fun k hk o ho => by
    refine ⟨?_, ho.add (hy _ (List.getElem_mem hk))⟩
    have hlen := ho.len
    simp only [L1_impl_ReachedFns, lt_cast hk, decide_true, cond_true, idx_run hk, rd_nat hk, iHas o _ (show o.length ≤ 4000000 by omega), Option.bind_some, addK]
    cases hasI o ys[k]
    · simp only [Bool.not_false, cond_true, cond_false, le_run (show (o.length + [ys[k]].length) * 8 ≤ 140737488355328 by simp; omega), joinP_some, Option.map_some, wrapSucc (show k < 9223372036854775807 by omega)]
    · simp only [Bool.not_true, cond_true, cond_false, joinP_some, Option.map_some, wrapSucc (show k < 9223372036854775807 by omega)]) (fun o ho => by
    simp only [L1_impl_ReachedFns, not_lt_self, decide_false, cond_false, Option.map_some]) o ho
  exact h.1
theorem reach_outer (p : PROG) (hp : FineP p) : ∀ (m i : Nat) (o : List Int), p.2.length ≤ i + m → i ≤ o.length → Rg p.2.length o →
    ∃ o', loopF L2_spec_ReachedFns ([], memb p.2.length o, o, (i : Int), p, ()) = some ([], memb p.2.length o', ()) ∧ loopF L2_impl_ReachedFns (o, (i : Int), p, ()) = some (o', ()) ∧ Rg p.2.length o' := by
  have hf := hp.f
  have done : ∀ (i : Nat) (o : List Int), i = o.length → Rg p.2.length o → ∃ o', loopF L2_spec_ReachedFns ([], memb p.2.length o, o, (i : Int), p, ()) = some ([], memb p.2.length o', ()) ∧ loopF L2_impl_ReachedFns (o, (i : Int), p, ()) = some (o', ()) ∧ Rg p.2.length o' := fun i o hi h => by
    subst hi
    refine ⟨o, loopF_inr ?_, loopF_inr ?_, h⟩
    · simp only [L2_spec_ReachedFns, not_lt_self, decide_false, cond_false, Option.map_some]
    · simp only [L2_impl_ReachedFns, not_lt_self, decide_false, cond_false, Option.map_some]
  intro m
  induction m with
  | zero =>
    intro i o hm hi h
    have := h.len
    exact done i o (by omega) h
  | succ m ih =>
    intro i o hm hi h
    rcases Nat.lt_or_ge i o.length with hio | hio
    · have hc := calls_rg p o[i]
      have hcl := hc.len
      have hol := h.len
      have hS := reach_innerS p hp (i : Int) (calls p o[i]) o hc.2 (by omega) h
      have hI := reach_innerI p hp (i : Int) (calls p o[i]) o hc.2 (by omega) h
      have wi := wrapSucc (show i < 9223372036854775807 by omega)
      have hstS : L2_spec_ReachedFns ([], memb p.2.length o, o, (i : Int), p, ()) = some (.inl ([], memb p.2.length ((calls p o[i]).foldl addK o), (calls p o[i]).foldl addK o, ((i + 1 : Nat) : Int), p, ())) := by
        simp only [L2_spec_ReachedFns, lt_cast hio, decide_true, cond_true, idx_run hio, rd_nat hio, spec_Calls_ok p hp, Option.bind_some, hS, joinP_some, Option.map_some, wi]
      have hstI : L2_impl_ReachedFns (o, (i : Int), p, ()) = some (.inl ((calls p o[i]).foldl addK o, ((i + 1 : Nat) : Int), p, ())) := by
        simp only [L2_impl_ReachedFns, lt_cast hio, decide_true, cond_true, idx_run hio, rd_nat hio, impl_Calls_ok p hp, Option.bind_some, hI, joinP_some, Option.map_some, wi]
      rw [loopF_inl hstS, loopF_inl hstI]
      have hpre := (pre_foldK (calls p o[i]) o).length_le
      exact ih (i + 1) _ (by omega) (by omega) (fold_addK_rg _ _ hc.2 h)
    · exact done i o (by omega) h
theorem both_run {α : Type} {n a b : Nat} {K : Option α} (h : a ≤ b) : (Cnd.both (Cnd.nn (n : Int)) (Cnd.le a b)).run K = K := by
  show (Cnd.nn (n : Int)).run ((Cnd.le a b).run K) = K
  rw [nn_run, le_run h]
theorem hasI_not {l : List Int} {n : Int} : hasI l n = false ↔ ¬ n ∈ l := by rw [← Bool.not_eq_true, hasI_iff]
structure Rch (p : PROG) (fn : Int) (r : List Int) : Prop where
  s : spec_ReachedFns p fn = some (r, ())
  i : impl_ReachedFns p fn = some (r, ())
  o : r.Pairwise (· < ·)
  g : Rg p.2.length r
theorem reach_both (p : PROG) (hp : FineP p) (fn : Int) : ∃ r, Rch p fn r := by
  have hf := hp.f
  by_cases hr : 0 ≤ fn ∧ fn ≤ (p.2.length : Int) - 1
  case neg =>
    refine ⟨[], ?_, ?_, List.Pairwise.nil, rg_nil _⟩
    · unfold spec_ReachedFns
      rw [lenf1 hp, sIn, Option.bind_some]
      simp only [hr, decide_false, Bool.not_false, cond_true]
    · unfold impl_ReachedFns
      rw [lenf1 hp, iIn, Option.bind_some]
      simp only [hr, decide_false, Bool.not_false, cond_true]
  obtain ⟨t, rfl⟩ : ∃ t : Nat, fn = (t : Int) := ⟨fn.toNat, by omega⟩
  have ht : t < p.2.length := by omega
  have h0 : Rg p.2.length [(t : Int)] := ⟨by simp, fun x hx => by simp at hx; omega⟩
  obtain ⟨o, h1, h2, h3⟩ := reach_outer p hp p.2.length 0 [(t : Int)] (by omega) (by simp) h0
  have hm0 : (List.replicate p.2.length false).set t true = memb p.2.length [(t : Int)] := by
    have e : List.replicate p.2.length false = memb p.2.length [] := by
      refine List.ext_getElem (by simp [memb]) fun i a b => ?_
      simp [memb, hasI]
    rw [e, memb_set ht (by simp [hasI])]
    rfl
  have h1' : loopF L2_spec_ReachedFns ([], memb p.2.length [(t : Int)], [(t : Int)], (0 : Int), p, ()) = _ := h1
  have h2' : loopF L2_impl_ReachedFns ([(t : Int)], (0 : Int), p, ()) = _ := h2
  have hsrt : ((List.range p.2.length).filter fun (t : Nat) => hasI o (t : Int)).map (fun (t : Nat) => (t : Int)) = srt o := by
    refine sorted_ext _ _ ?_ (srt_sorted h3.1) fun x => ?_
    · rw [List.pairwise_map]
      refine List.Pairwise.imp ?_ ((List.pairwise_lt_range (n := p.2.length)).filter _)
      intro a b h; omega
    · rw [mem_srt, List.mem_map]
      constructor
      · rintro ⟨t, ht, rfl⟩
        exact hasI_iff.1 (List.mem_filter.1 ht).2
      · intro hx
        have := h3.2 x hx
        exact ⟨x.toNat, List.mem_filter.2 ⟨List.mem_range.2 (by omega), by rw [show ((x.toNat : Nat) : Int) = x by omega]; exact hasI_iff.2 hx⟩, by omega⟩
  have hL3 : loopF L3_spec_ReachedFns ([], memb p.2.length o, (0 : Int), ()) = some (srt o, ()) := by
    have h := loopF_fold (step := L3_spec_ReachedFns) (List.range p.2.length) (fun o' t => bif hasI o (t : Int) then o' ++ [(t : Int)] else o') (fun i o' => (o', memb p.2.length o, (i : Int), ())) (fun o' => (o', ())) (fun i o' => o'.length ≤ i) (fun i hi o' ho' => by
      have hi' : i < p.2.length := by simpa using hi
      have hi2 : i < (memb p.2.length o).length := by rw [memb_len]; exact hi'
      simp only [L3_spec_ReachedFns, lt_cast hi2, decide_true, cond_true, idx_run hi2, memb_rd hi', List.getElem_range]
      cases hasI o (i : Int)
      · simp only [cond_false, joinP_some, Option.map_some, wrapSucc (show i < 9223372036854775807 by omega)]
        exact ⟨by trivial, by omega⟩
      · simp only [cond_true]
        rw [le_run (by simp; omega)]
        simp only [joinP_some, Option.map_some, wrapSucc (show i < 9223372036854775807 by omega)]
        exact ⟨by trivial, by simp; omega⟩) (fun o' _ => by
      simp only [L3_spec_ReachedFns, List.length_range, memb_len, not_lt_self, decide_false, cond_false, Option.map_some]) [] (Nat.le_refl 0)
    have h' := h.1
    rw [fold_filter, List.nil_append, hsrt] at h'
    exact h'
  refine ⟨srt o, ?_, ?_, srt_sorted h3.1, ⟨(List.mergeSort_perm o _).nodup_iff.2 h3.1, fun x hx => h3.2 x ((mem_srt o x).1 hx)⟩⟩
  · unfold spec_ReachedFns
    rw [lenf1 hp, sIn, Option.bind_some]
    simp only [hr, and_self, decide_true, Bool.not_true, cond_false]
    rw [show (List.length p.2 : Int).toNat = p.2.length from Int.toNat_natCast _, both_run (by omega), idx_run (show t < (List.replicate p.2.length false).length by simpa using ht)]
    simp only [bindD, Int.toNat_natCast, hm0, Option.bind_some, h1', joinP_some, hL3]
  · unfold impl_ReachedFns
    rw [lenf1 hp, iIn, Option.bind_some]
    have hol := h3.len
    simp only [hr, and_self, decide_true, Bool.not_true, cond_false, Option.bind_some, h2', joinP_some, ints_ok o (by omega)]
end Go.Proofs.YtgkgfpbdodafaaaGreatDoorE

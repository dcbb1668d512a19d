/- The nodes of a function, its variables, and who uses them: the program's reckoning and the reference's. No condition beyond each lemma's own. -/
import Derived.Test.YtgkgfpbdodafaaaGreatDoorLawUndI
set_option linter.all false
namespace Go.Proofs.YtgkgfpbdodafaaaGreatDoorE
set_option linter.all false
set_option maxRecDepth 100000
def mg : Nat → List Int → List Int → List Int
  | 0, _, _ => []
  | _ + 1, [], b => b
  | _ + 1, x :: a, [] => x :: a
  | f + 1, x :: a, y :: b => bif decide (x < y) then x :: mg f a (y :: b) else bif decide (x = y) then y :: mg f a b else y :: mg f (x :: a) b
theorem mg_mem : ∀ (f : Nat) (a b : List Int) (x : Int), a.length + b.length ≤ f → (x ∈ mg (f + 1) a b ↔ x ∈ a ∨ x ∈ b)
  | _, [], b, x, _ => by simp [mg]
  | _, y :: a, [], x, _ => by simp [mg]
  | 0, y :: a, z :: b, x, h => by simp at h
  | f + 1, y :: a, z :: b, x, h => by
    simp only [List.length_cons] at h
    simp only [mg]
    by_cases h1 : y < z
    · simp only [decide_eq_true h1, cond_true, List.mem_cons]
      rw [mg_mem f a (z :: b) x (by simp only [List.length_cons]; omega), List.mem_cons, or_assoc]
    · simp only [decide_eq_false h1, cond_false]
      by_cases h2 : y = z
      · simp only [decide_eq_true h2, cond_true, List.mem_cons]
        rw [mg_mem f a b x (by omega), h2]
        constructor
        · rintro (h | h | h)
          · exact .inl (.inl h)
          · exact .inl (.inr h)
          · exact .inr (.inr h)
        · rintro ((h | h) | (h | h))
          · exact .inl h
          · exact .inr (.inl h)
          · exact .inl h
          · exact .inr (.inr h)
      · simp only [decide_eq_false h2, cond_false, List.mem_cons]
        rw [mg_mem f (y :: a) b x (by simp only [List.length_cons]; omega), List.mem_cons]
        constructor
        · rintro (h | (h | h) | h)
          · exact .inr (.inl h)
          · exact .inl (.inl h)
          · exact .inl (.inr h)
          · exact .inr (.inr h)
        · rintro ((h | h) | (h | h))
          · exact .inr (.inl (.inl h))
          · exact .inr (.inl (.inr h))
          · exact .inl h
          · exact .inr (.inr h)
theorem mg_sorted : ∀ (f : Nat) (a b : List Int), a.length + b.length ≤ f → a.Pairwise (· < ·) → b.Pairwise (· < ·) → (mg (f + 1) a b).Pairwise (· < ·)
  | _, [], b, _, _, hb => hb
  | _, y :: a, [], _, ha, _ => ha
  | 0, y :: a, z :: b, h, _, _ => by simp at h
  | f + 1, y :: a, z :: b, h, ha, hb => by
    simp only [List.length_cons] at h
    have ha' := List.pairwise_cons.1 ha
    have hb' := List.pairwise_cons.1 hb
    simp only [mg]
    by_cases h1 : y < z
    · simp only [decide_eq_true h1, cond_true]
      have hl : a.length + (z :: b).length ≤ f := by simp only [List.length_cons]; omega
      refine List.pairwise_cons.2 ⟨fun x hx => ?_, mg_sorted f a (z :: b) hl ha'.2 hb⟩
      rcases (mg_mem f a (z :: b) x hl).1 hx with h2 | h2
      · exact ha'.1 x h2
      · rcases List.mem_cons.1 h2 with h3 | h3
        · omega
        · have := hb'.1 x h3; omega
    · simp only [decide_eq_false h1, cond_false]
      by_cases h2 : y = z
      · simp only [decide_eq_true h2, cond_true]
        have hl : a.length + b.length ≤ f := by omega
        refine List.pairwise_cons.2 ⟨fun x hx => ?_, mg_sorted f a b hl ha'.2 hb'.2⟩
        rcases (mg_mem f a b x hl).1 hx with h3 | h3
        · have := ha'.1 x h3; omega
        · exact hb'.1 x h3
      · simp only [decide_eq_false h2, cond_false]
        have hl : (y :: a).length + b.length ≤ f := by simp only [List.length_cons]; omega
        refine List.pairwise_cons.2 ⟨fun x hx => ?_, mg_sorted f (y :: a) b hl ha hb'.2⟩
        rcases (mg_mem f (y :: a) b x hl).1 hx with h3 | h3
        · rcases List.mem_cons.1 h3 with h4 | h4
          · omega
          · have := ha'.1 x h4; omega
        · exact hb'.1 x h3
theorem mg_len : ∀ (f : Nat) (a b : List Int), (mg f a b).length ≤ a.length + b.length
  | 0, _, _ => by simp [mg]
  | _ + 1, [], b => by simp [mg]
  | _ + 1, x :: a, [] => by simp [mg]
  | f + 1, x :: a, y :: b => by
    have h1 := mg_len f a (y :: b)
    have h2 := mg_len f a b
    have h3 := mg_len f (x :: a) b
    simp only [mg]
    cases decide (x < y) <;> cases decide (x = y) <;> simp only [cond_true, cond_false, List.length_cons] at * <;> omega
def uni (a b : List Int) : List Int := mg (a.length + b.length + 1) a b
theorem all_loop (a b : List Int) (ha : a.length ≤ 1048576) (hb : b.length ≤ 1048576) : ∀ (m i k : Nat) (o : List Int), a.length - i + (b.length - k) ≤ m → i ≤ a.length → k ≤ b.length → o.length ≤ i + k →
    loopF L1_spec_l07All (o, a, b, (i : Int), (k : Int), ()) = some (o ++ mg (m + 1) (a.drop i) (b.drop k), ()) := by
  have si : ∀ {i : Nat}, i < a.length → IntKind.wrap .i64 ((i : Int) + 1) = ((i + 1 : Nat) : Int) := fun {i} h => wrapSucc (by omega)
  have sk : ∀ {i : Nat}, i < b.length → IntKind.wrap .i64 ((i : Int) + 1) = ((i + 1 : Nat) : Int) := fun {i} h => wrapSucc (by omega)
  intro m
  induction m with
  | zero =>
    intro i k o hm hi hk ho
    obtain rfl : i = a.length := by omega
    obtain rfl : k = b.length := by omega
    rw [loopF_inr (r := (o, ())) (by simp only [L1_spec_l07All, not_lt_self, decide_false, cond_false, joinP_some, Option.map_some])]
    simp [mg]
  | succ m ih =>
    intro i k o hm hi hk ho
    have one : ∀ x : Int, (o.length + [x].length) * 8 ≤ 140737488355328 := fun x => by simp; omega
    by_cases hia : i < a.length
    · have hda : a.drop i = a[i] :: a.drop (i + 1) := List.drop_eq_getElem_cons hia
      by_cases hkb : k < b.length
      · have hdb : b.drop k = b[k] :: b.drop (k + 1) := List.drop_eq_getElem_cons hkb
        have hng : ¬ ((b.length : Int) ≤ (k : Int)) := by omega
        by_cases h1 : a[i] < b[k]
        · rw [loopF_inl (b' := (o ++ [a[i]], a, b, ((i + 1 : Nat) : Int), (k : Int), ())) (by
            simp only [L1_spec_l07All, lt_cast hia, hng, decide_true, decide_false, cond_true, cond_false, joinP_some, idx_run hia, idx_run hkb, rd_nat hia, rd_nat hkb, h1, le_run (one _), Option.map_some, si hia])]
          rw [ih (i + 1) k _ (by omega) (by omega) (by omega) (by simp; omega), hda, hdb]
          simp [mg, h1]
        · by_cases h2 : a[i] = b[k]
          · rw [loopF_inl (b' := (o ++ [b[k]], a, b, ((i + 1 : Nat) : Int), ((k + 1 : Nat) : Int), ())) (by
              simp only [L1_spec_l07All, lt_cast hia, hng, decide_true, decide_false, cond_true, cond_false, joinP_some, idx_run hia, idx_run hkb, rd_nat hia, rd_nat hkb, h1, h2, show ¬ b[k] < b[k] by omega, le_run (one _), Option.map_some, si hia, sk hkb])]
            rw [ih (i + 1) (k + 1) _ (by omega) (by omega) (by omega) (by simp; omega), hda, hdb]
            simp [mg, h2]
          · rw [loopF_inl (b' := (o ++ [b[k]], a, b, (i : Int), ((k + 1 : Nat) : Int), ())) (by
              simp only [L1_spec_l07All, lt_cast hia, hng, decide_true, decide_false, cond_true, cond_false, joinP_some, idx_run hia, idx_run hkb, rd_nat hia, rd_nat hkb, h1, h2, le_run (one _), Option.map_some, si hia, sk hkb])]
            rw [ih i (k + 1) _ (by omega) (by omega) (by omega) (by simp; omega), hda, hdb]
            simp [mg, h1, h2]
      · obtain rfl : k = b.length := by omega
        rw [loopF_inl (b' := (o ++ [a[i]], a, b, ((i + 1 : Nat) : Int), (b.length : Int), ())) (by
            simp only [L1_spec_l07All, lt_cast hia, Int.le_refl, decide_true, decide_false, cond_true, cond_false, joinP_some, idx_run hia, rd_nat hia, le_run (one _), Option.map_some, si hia])]
        rw [ih (i + 1) b.length _ (by omega) (by omega) (by omega) (by simp; omega), hda]
        rw [List.drop_length]
        cases h3 : a.drop (i + 1) with
        | nil => simp [mg]
        | cons x r => cases m <;> simp [mg]
    · obtain rfl : i = a.length := by omega
      by_cases hkb : k < b.length
      · have hdb : b.drop k = b[k] :: b.drop (k + 1) := List.drop_eq_getElem_cons hkb
        have hng : ¬ ((b.length : Int) ≤ (k : Int)) := by omega
        rw [loopF_inl (b' := (o ++ [b[k]], a, b, (a.length : Int), ((k + 1 : Nat) : Int), ())) (by
            simp only [L1_spec_l07All, not_lt_self, lt_cast hkb, hng, decide_true, decide_false, cond_true, cond_false, joinP_some, idx_run hkb, rd_nat hkb, le_run (one _), Option.map_some, sk hkb])]
        rw [ih a.length (k + 1) _ (by omega) (by omega) (by omega) (by simp; omega), hdb]
        rw [List.drop_length]
        simp [mg]
      · obtain rfl : k = b.length := by omega
        rw [loopF_inr (r := (o, ())) (by simp only [L1_spec_l07All, not_lt_self, decide_false, cond_false, joinP_some, Option.map_some])]
        simp [mg]
def fnIn (p : PROG) (fn : Int) : Bool := decide (0 ≤ fn ∧ fn ≤ (p.2.length : Int) - 1)
def fnN (p : PROG) (fn : Int) : List Int := bif fnIn p fn then uni (unds p.1 (rd p.2 fn zF).2.2.2.1) (unds p.1 (rd p.2 fn zF).2.2.2.2) else []
theorem lenf1 {p : PROG} (hp : FineP p) : IntKind.wrap .i64 ((p.2.length : Int) - 1) = (p.2.length : Int) - 1 := lenm1 hp.f
theorem spec_All_ok (p : PROG) (hp : FineP p) (fn : Int) : spec_l07All p fn = some (fnN p fn, ()) := by
  unfold spec_l07All fnN fnIn
  rw [lenf1 hp, sIn, Option.bind_some]
  by_cases hr : 0 ≤ fn ∧ fn ≤ (p.2.length : Int) - 1
  case neg => simp only [hr, decide_false, Bool.not_false, cond_true, cond_false]
  have hn := hp.n.len
  have hi : ∀ {α : Type} {K : Option α}, (Cnd.idx fn p.2.length).run K = K := fun {α K} => idx_range (by omega)
  have h := all_loop (unds p.1 (rd p.2 fn zF).2.2.2.1) (unds p.1 (rd p.2 fn zF).2.2.2.2) (Nat.le_trans (unds_len ..) hn) (Nat.le_trans (unds_len ..) hn) _ 0 0 [] (Nat.le_refl _) (Nat.zero_le _) (Nat.zero_le _) (Nat.le_refl _)
  have h' : loopF L1_spec_l07All ([], unds p.1 (rd p.2 fn zF).2.2.2.1, unds p.1 (rd p.2 fn zF).2.2.2.2, (0 : Int), (0 : Int), ()) = _ := h
  simp only [hr, and_self, decide_true, Bool.not_true, cond_false, cond_true, hi, spec_Under_ok p hp.n, Option.bind_some, h', joinP_some]
  simp [uni]
theorem fold_addK_rg {n : Nat} : ∀ (ys o : List Int), (∀ y ∈ ys, 0 ≤ y ∧ y < (n : Int)) → Rg n o → Rg n (ys.foldl addK o)
  | [], _, _, h => h
  | y :: ys, o, hy, h => fold_addK_rg ys _ (fun z hz => hy z (List.mem_cons_of_mem _ hz)) (h.add (hy y (List.mem_cons_self ..)))
theorem fn_inner (p : PROG) (hp : FineP p) (rs : List Int) (rl i : Int) (ys o : List Int) (hy : ∀ y ∈ ys, 0 ≤ y ∧ y < (p.1.length : Int)) (hyl : ys.length ≤ 1048576) (ho : Rg p.1.length o) :
    loopF L1_impl_fnNodes (o, rs, rl, i, ys, (ys.length : Int), (0 : Int), p, ()) = some (ys.foldl addK o, rs, rl, i, p, ()) := by
  have hn := hp.n.len
  have h := loopF_fold (step := L1_impl_fnNodes) ys addK (fun k o => (o, rs, rl, i, ys, (ys.length : Int), (k : Int), p, ())) (fun o => (o, rs, rl, i, p, ())) (fun _ o => Rg p.1.length o) (fun k hk o ho => by
    refine ⟨?_, ho.add (hy _ (List.getElem_mem hk))⟩
    have hlen := ho.len
    simp only [L1_impl_fnNodes, lt_cast hk, decide_true, cond_true, idx_run hk, rd_nat hk, iHas o _ (by omega), Option.bind_some, addK]
    cases hasI o ys[k]
    · simp only [Bool.not_false, cond_true, cond_false, le_run (show (o.length + [ys[k]].length) * 8 ≤ 140737488355328 by simp; omega), joinP_some, Option.map_some, wrapSucc (show k < 9223372036854775807 by omega)]
    · simp only [Bool.not_true, cond_true, cond_false, joinP_some, Option.map_some, wrapSucc (show k < 9223372036854775807 by omega)]) (fun o ho => by
    simp only [L1_impl_fnNodes, not_lt_self, decide_false, cond_false, Option.map_some]) o ho
  exact h.1
theorem unds_in {l : List NODE} {k : Int} : ∀ y ∈ unds l k, 0 ≤ y ∧ y < (l.length : Int) := fun y hy => (unds_rng hy).1
theorem fn_outer (p : PROG) (hp : FineP p) (rs : List Int) (hr : rs.length ≤ 4) : loopF L2_impl_fnNodes ([], rs, (rs.length : Int), (0 : Int), p, ()) = some (rs.foldl (fun o r => (unds p.1 r).foldl addK o) [], ()) ∧ Rg p.1.length (rs.foldl (fun o r => (unds p.1 r).foldl addK o) []) := by
  have hn := hp.n.len
  have h := loopF_fold (step := L2_impl_fnNodes) rs (fun o r => (unds p.1 r).foldl addK o) (fun k o => (o, rs, (rs.length : Int), (k : Int), p, ())) (fun o => (o, ())) (fun _ o => Rg p.1.length o) (fun k hk o ho => by
    refine ⟨?_, fold_addK_rg _ _ unds_in ho⟩
    have hin := fn_inner p hp rs (rs.length : Int) (k : Int) (unds p.1 rs[k]) o unds_in (Nat.le_trans (unds_len ..) hn) ho
    simp only [L2_impl_fnNodes, lt_cast hk, decide_true, cond_true, idx_run hk, rd_nat hk, impl_Under_ok p hp.n, Option.bind_some, hin, joinP_some, Option.map_some, wrapSucc (show k < 9223372036854775807 by omega)]) (fun o ho => by
    simp only [L2_impl_fnNodes, not_lt_self, decide_false, cond_false, Option.map_some]) [] ⟨List.nodup_nil, fun x hx => by simp at hx⟩
  exact h
theorem unds_neg (l : List NODE) : unds l (-1) = [] := by
  have : deepAt l (-1) = 0 := by simp [deepAt]
  simp [unds, this]
def rootsI (x : FN) : List Int := bif decide (x.2.2.2.2 ≠ (-1 : Int)) then [x.2.2.2.1, x.2.2.2.2] else [x.2.2.2.1]
theorem impl_roots_ok (p : PROG) (hp : FineP p) (fn : Int) : impl_roots p fn = some (bif fnIn p fn then rootsI (rd p.2 fn zF) else [], ()) := by
  unfold impl_roots fnIn rootsI
  rw [lenf1 hp, iIn, Option.bind_some]
  by_cases hr : 0 ≤ fn ∧ fn ≤ (p.2.length : Int) - 1
  case neg => simp only [hr, decide_false, Bool.not_false, cond_true, cond_false]
  have hi : ∀ {α : Type} {K : Option α}, (Cnd.idx fn p.2.length).run K = K := fun {α K} => idx_range (by omega)
  simp only [hr, and_self, decide_true, Bool.not_true, cond_false, cond_true, hi]
  generalize rd p.2 fn zF = x
  by_cases hz : x.2.2.2.2 = (-1 : Int)
  · simp only [hz, ne_eq, not_true_eq_false, decide_false, cond_false, joinP_some]
  · simp only [hz, ne_eq, not_false_eq_true, decide_true, cond_true, joinP_some]
    rw [le_run (by simp)]
    rfl
theorem impl_fnN_ok (p : PROG) (hp : FineP p) (fn : Int) : impl_fnNodes p fn = some (fnN p fn, ()) := by
  have hn := hp.n.len
  unfold impl_fnNodes
  rw [impl_roots_ok p hp, Option.bind_some]
  cases hf : fnIn p fn
  · obtain ⟨h1, h2⟩ := fn_outer p hp [] (by simp)
    have h1' : loopF L2_impl_fnNodes ([], [], ((List.length ([] : List Int) : Nat) : Int), (0 : Int), p, ()) = some ([], ()) := h1
    simp only [cond_false, Option.bind_some, h1', joinP_some, ints_ok [] (by simp)]
    simp [srt, fnN, hf]
  · obtain ⟨h1, h2⟩ := fn_outer p hp (rootsI (rd p.2 fn zF)) (by unfold rootsI; cases decide ((rd p.2 fn zF).2.2.2.2 ≠ (-1 : Int)) <;> simp)
    simp only [cond_true, Option.bind_some, h1, joinP_some, ints_ok _ (Nat.le_trans h2.len (by omega))]
    congr 2
    unfold fnN
    rw [hf, cond_true]
    refine sorted_ext _ _ (srt_sorted h2.1) (mg_sorted _ _ _ (Nat.le_refl _) (unds_sorted ..) (unds_sorted ..)) fun x => ?_
    rw [mem_srt, uni, mg_mem _ _ _ _ (Nat.le_refl _)]
    unfold rootsI
    generalize rd p.2 fn zF = y
    by_cases hz : y.2.2.2.2 = (-1 : Int)
    · rw [hz, unds_neg]
      simp only [ne_eq, not_true_eq_false, decide_false, cond_false, List.foldl_cons, List.foldl_nil, mem_foldK]
      simp
    · simp only [ne_eq, hz, not_false_eq_true, decide_true, cond_true, List.foldl_cons, List.foldl_nil, mem_foldK]
      simp
theorem fnN_rng {p : PROG} {fn x : Int} (h : x ∈ fnN p fn) : (0 ≤ x ∧ x < (p.1.length : Int)) ∧ (0 : Int) < deepAt p.1 x := by
  unfold fnN at h
  cases hf : fnIn p fn
  · simp [hf] at h
  · rw [hf, cond_true, uni, mg_mem _ _ _ _ (Nat.le_refl _)] at h
    rcases h with h | h
    · exact unds_rng h
    · exact unds_rng h
theorem fnN_len {p : PROG} (hp : FineP p) {fn : Int} : (fnN p fn).length ≤ 2097152 := by
  have hn := hp.n.len
  unfold fnN
  cases fnIn p fn
  · simp
  · have h1 := unds_len p.1 (rd p.2 fn zF).2.2.2.1
    have h2 := unds_len p.1 (rd p.2 fn zF).2.2.2.2
    have h3 := mg_len ((unds p.1 (rd p.2 fn zF).2.2.2.1).length + (unds p.1 (rd p.2 fn zF).2.2.2.2).length + 1) (unds p.1 (rd p.2 fn zF).2.2.2.1) (unds p.1 (rd p.2 fn zF).2.2.2.2)
    rw [cond_true, uni]
    omega
end Go.Proofs.YtgkgfpbdodafaaaGreatDoorE

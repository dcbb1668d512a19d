/- More than 300 nodes: the packing ends not well, the program's way and the reference's. No condition beyond each lemma's own. -/
import Derived.Test.YtgkgfpbdodafaaaDoorLawTake
set_option linter.all false
namespace Go.Proofs.YtgkgfpbdodafaaaDoorE
set_option linter.all false
set_option maxRecDepth 100000

theorem s_over (l : List NODE) (hl : FineN l) (k : Nat) (hk : k < l.length) (deep : Int) (hd : deep ≤ 10) (a : List NODE) (bd : Bool) (h : bd = true ∨ 300 < a.length) (n : Nat) : (R_spec_l04Pack_put (n + 1)).1 (l, (a, bd)) (k : Int) deep = some ((-1 : Int), (l, (a, true)), ()) := by
  have hstep : (R_spec_l04Pack_put (n + 1)).1 = spec_l04Pack_put_S (R_spec_l04Pack_put n).1 := rfl
  rw [hstep]
  unfold spec_l04Pack_put_S
  cases bd
  · have h3 : 300 < a.length := by rcases h with h | h; cases h; exact h
    simp only [cond_false, show ¬ ((10 : Int) < deep) by omega, decide_false, lenm1 hl.len, sIn, Option.bind_some, show (0 : Int) ≤ (k : Int) ∧ (k : Int) ≤ (l.length : Int) - 1 by omega, and_self, decide_true, Bool.not_true, show ((300 : Int) < (a.length : Int)) by omega, joinP_some, cond_true]
  · simp only [cond_true, joinP_some]
/-- The reference's put, when it may be too much. -/
def SOv (l : List NODE) (k : Nat) (a : List NODE) (deep : Int) : Prop := ∃ (v : Int) (a' : List NODE) (bd : Bool), (∀ n, k < n → (R_spec_l04Pack_put n).1 (l, (a, false)) (k : Int) deep = some (v, (l, (a', bd)), ())) ∧ (a'.length : Int) ≤ 301 + dAt l k ∧ (bd = true ∨ (bd = false ∧ a'.length = a.length + sz l k))
theorem s_kids (l : List NODE) (hl : FineN l) (hA : AllN l) (k : Nat) (hk : k < l.length) (deep : Int) (hd1 : 1 ≤ deep) (hd2 : deep + dAt l k ≤ 11) (A : Int) (B : Int) (C : ByteArray)
    (IH : ∀ c, c < k → ∀ a, a.length ≤ 300 → ∀ deep, 1 ≤ deep → deep + dAt l c ≤ 11 → SOv l c a deep) :
    ∀ (m i : Nat) (a : List NODE) (bd : Bool) (acc : List Int), i + m = (rd l (k : Int) zN).2.2.2.length → acc.length ≤ i → (a.length : Int) ≤ 300 + dAt l k →
      ∃ (a' : List NODE) (bd' : Bool) (acc' : List Int), (a'.length : Int) ≤ 300 + dAt l k ∧ (bd' = true ∨ (bd = false ∧ bd' = false ∧ a'.length = a.length + sumK (sz l) ((rd l (k : Int) zN).2.2.2.drop i))) ∧
        (∀ n, k ≤ n → loopF (L1_spec_l04Pack_put (R_spec_l04Pack_put n).1) ((k : Int), deep, (i : Int), (l, (a, bd)), (A, (B, (C, acc))), ()) = some ((l, (a', bd')), (A, (B, (C, acc'))), ())) := by
  have hok := (hA k hk).1
  have hkd := (hA k hk).2
  have hkid := kid_mem hok
  have hxl : (rd l (k : Int) zN).2.2.2.length ≤ 1048576 := by
    rw [rd_nat hk]; exact hl.kid _ (List.getElem_mem hk)
  have hdk : ∀ y ∈ (rd l (k : Int) zN).2.2.2, dAt l y.toNat + 1 ≤ dAt l k := fun y hy => dAt_kid hkd hy
  generalize hx : rd l (k : Int) zN = x at hkid hxl hdk ⊢
  have hrd : rd l (k : Int) ((0 : Int), ((0 : Int), ((⟨#[]⟩ : ByteArray), []))) = x := hx
  intro m
  induction m with
  | zero =>
    intro i a bd acc hi hacc hle
    obtain rfl : i = x.2.2.2.length := by omega
    refine ⟨a, bd, acc, hle, ?_, fun n _ => loopF_inr ?_⟩
    · cases bd
      · right; rw [List.drop_length]; exact ⟨rfl, rfl, rfl⟩
      · exact .inl rfl
    · simp only [L1_spec_l04Pack_put, idx_run hk, hrd, not_lt_self, decide_false, cond_false, joinP_some, Option.map_some]
  | succ m ih =>
    intro i a bd acc hi hacc hle
    have hil : i < x.2.2.2.length := by omega
    cases bd
    case true =>
      refine ⟨a, true, acc, hle, .inl rfl, fun n _ => loopF_inr ?_⟩
      simp only [L1_spec_l04Pack_put, idx_run hk, hrd, lt_cast hil, decide_true, cond_true, Bool.not_true, joinP_some, cond_false, Option.map_some]
    have hy := hkid _ (List.getElem_mem hil)
    obtain ⟨c, hc⟩ : ∃ c : Nat, x.2.2.2[i] = (c : Int) := ⟨x.2.2.2[i].toNat, by omega⟩
    have hck : c < k := by omega
    have hdc := hdk _ (List.getElem_mem hil)
    rw [hc, Int.toNat_natCast] at hdc
    have hdb := dAt_le l k
    have hdb2 := dAt_le l c
    have hcn := (hA c (by omega)).2
    have hone : ∃ (v : Int) (a1 : List NODE) (b1 : Bool), (∀ n, k ≤ n → (R_spec_l04Pack_put n).1 (l, (a, false)) (c : Int) (deep + 1) = some (v, (l, (a1, b1)), ())) ∧ (a1.length : Int) ≤ 300 + dAt l k ∧ (b1 = true ∨ (b1 = false ∧ a1.length = a.length + sz l c)) := by
      by_cases h3 : a.length ≤ 300
      · obtain ⟨v, a1, b1, h1, h2, h3⟩ := IH c hck a h3 (deep + 1) (by omega) (by omega)
        exact ⟨v, a1, b1, fun n hn => h1 n (by omega), by omega, h3⟩
      · refine ⟨-1, a, true, fun n hn => ?_, hle, .inl rfl⟩
        match n, hn with
        | n + 1, hn => exact s_over l hl c (by omega) (deep + 1) (by omega) a false (.inr (by omega)) n
        | 0, hn => omega
    obtain ⟨v, a1, b1, p1, p2, p3⟩ := hone
    obtain ⟨a', bd', acc', g1, g2, g3⟩ := ih (i + 1) a1 b1 (acc ++ [v]) (by omega) (by simp; omega) p2
    have wi := wrapSucc (show i < 9223372036854775807 by omega)
    have wd : IntKind.wrap .i64 (deep + 1) = deep + 1 := wrap64 (by omega) (by omega)
    refine ⟨a', bd', acc', g1, ?_, fun n hn => ?_⟩
    · rcases g2 with g2 | ⟨g2, g4, g5⟩
      · exact .inl g2
      · rcases p3 with p3 | ⟨p3, p4⟩
        · rw [p3] at g2; cases g2
        · right
          refine ⟨rfl, g4, ?_⟩
          rw [g5, p4, List.drop_eq_getElem_cons hil, hc]
          simp only [sumK, Int.toNat_natCast]; omega
    · rw [← g3 n hn]
      refine loopF_inl ?_
      have hs := p1 n hn
      simp only [L1_spec_l04Pack_put, idx_run hk, hrd, lt_cast hil, decide_true, cond_true, Bool.not_false, joinP_some, idx_run hil, rd_nat hil, hc, wd, hs, Option.bind_some, le8 (show acc.length ≤ 1048576 by omega), Option.map_some, wi]
theorem s_ov (l : List NODE) (hl : FineN l) (hA : AllN l) : ∀ k, k < l.length → ∀ a, a.length ≤ 300 → ∀ deep, 1 ≤ deep → deep + dAt l k ≤ 11 → SOv l k a deep := by
  intro k
  induction k using Nat.strongRecOn with
  | _ k IH =>
    intro hk a ha deep hd1 hd2
    have hs := sz_eq hA hk
    have hkd := (hA k hk).2
    have hdb := dAt_le l k
    obtain ⟨a', bd', acc', g1, g2, g3⟩ := s_kids l hl hA k hk deep hd1 hd2 (rd l (k : Int) zN).1 (rd l (k : Int) zN).2.1 (rd l (k : Int) zN).2.2.1 (fun c hc a h1 d h3 h4 => IH c hc (by omega) a h1 d h3 h4) (rd l (k : Int) zN).2.2.2.length 0 a false [] (by omega) (by simp) (by omega)
    rw [List.drop_zero] at g2
    refine ⟨((a'.length + 1 : Nat) : Int) - 1, a' ++ [((rd l (k : Int) zN).1, ((rd l (k : Int) zN).2.1, ((rd l (k : Int) zN).2.2.1, acc')))], bd', fun n hn => ?_, by simp; omega, ?_⟩
    · match n, hn with
      | n + 1, hn =>
        have hloop := g3 n (by omega)
        have hloop' : loopF (L1_spec_l04Pack_put (R_spec_l04Pack_put n).1) ((k : Int), deep, (0 : Int), (l, (a, false)), ((rd l (k : Int) zN).1, ((rd l (k : Int) zN).2.1, ((rd l (k : Int) zN).2.2.1, []))), ()) = _ := hloop
        have hstep : (R_spec_l04Pack_put (n + 1)).1 = spec_l04Pack_put_S (R_spec_l04Pack_put n).1 := rfl
        rw [hstep]
        unfold spec_l04Pack_put_S
        have wl : ∀ x : NODE, IntKind.wrap .i64 (((a' ++ [x]).length : Int) - 1) = ((a'.length + 1 : Nat) : Int) - 1 := fun x => by
          rw [List.length_append, List.length_singleton]; exact wrap64 (by omega) (by omega)
        simp only [cond_false, show ¬ ((10 : Int) < deep) by omega, decide_false, lenm1 hl.len, sIn, Option.bind_some, show (0 : Int) ≤ (k : Int) ∧ (k : Int) ≤ (l.length : Int) - 1 by omega, and_self, decide_true, Bool.not_true, show ¬ ((300 : Int) < (a.length : Int)) by omega, joinP_some, idx_run hk, hloop', le56 (show a'.length ≤ 1048576 by omega), wl]
    · rcases g2 with g2 | ⟨g2, g4, g5⟩
      · exact .inl g2
      · refine .inr ⟨g4, ?_⟩
        rw [List.length_append, List.length_singleton, g5, hs]; omega
theorem i_over (l : List NODE) (hl : FineN l) (k : Nat) (hk : k < l.length) (deep : Int) (hd : deep ≤ 10) (a : List NODE) (bd : Bool) (h : bd = true ∨ 300 ≤ a.length) (n : Nat) : (R_impl_packer_put (n + 1)).1 (l, (a, bd)) (k : Int) deep = some ((-1 : Int), (l, (a, true)), ()) := by
  have hstep : (R_impl_packer_put (n + 1)).1 = impl_packer_put_S (R_impl_packer_put n).1 := rfl
  rw [hstep]
  unfold impl_packer_put_S
  cases bd
  · have h3 : 300 ≤ a.length := by rcases h with h | h; cases h; exact h
    simp only [cond_false, show ¬ ((10 : Int) < deep) by omega, decide_false, lenm1 hl.len, iIn, Option.bind_some, show (0 : Int) ≤ (k : Int) ∧ (k : Int) ≤ (l.length : Int) - 1 by omega, and_self, decide_true, Bool.not_true, show ((300 : Int) ≤ (a.length : Int)) by omega, joinP_some, cond_true]
  · simp only [cond_true, joinP_some]
/-- The program's put, when it may be too much. -/
def IOv (l : List NODE) (k : Nat) (a : List NODE) (deep : Int) : Prop := ∃ (v : Int) (a' : List NODE) (bd : Bool), (∀ n, k < n → (R_impl_packer_put n).1 (l, (a, false)) (k : Int) deep = some (v, (l, (a', bd)), ())) ∧ a'.length ≤ 300 ∧ (bd = true ∨ (bd = false ∧ a'.length = a.length + sz l k))
theorem i_kids (l : List NODE) (hl : FineN l) (hA : AllN l) (k : Nat) (hk : k < l.length) (deep : Int) (hd1 : 1 ≤ deep) (hd2 : deep + dAt l k ≤ 11)
    (IH : ∀ c, c < k → ∀ a, a.length ≤ 300 → ∀ deep, 1 ≤ deep → deep + dAt l c ≤ 11 → IOv l c a deep) :
    ∀ (m i : Nat) (a : List NODE) (acc : List Int), i + m = (rd l (k : Int) zN).2.2.2.length → acc.length ≤ i → a.length ≤ 300 →
      ∃ (a' : List NODE), a'.length ≤ 300 ∧ ((∀ n, k ≤ n → loopF (L1_impl_packer_put (R_impl_packer_put n).1) (deep, acc, (rd l (k : Int) zN).2.2.2, ((rd l (k : Int) zN).2.2.2.length : Int), (i : Int), (l, (a, false)), rd l (k : Int) zN, ()) = some (.inr ((-1 : Int), (l, (a', true)), ()))) ∨
        (a'.length = a.length + sumK (sz l) ((rd l (k : Int) zN).2.2.2.drop i) ∧ ∃ acc', (∀ n, k ≤ n → loopF (L1_impl_packer_put (R_impl_packer_put n).1) (deep, acc, (rd l (k : Int) zN).2.2.2, ((rd l (k : Int) zN).2.2.2.length : Int), (i : Int), (l, (a, false)), rd l (k : Int) zN, ()) = some (.inl (acc', (l, (a', false)), rd l (k : Int) zN, ()))))) := by
  have hok := (hA k hk).1
  have hkd := (hA k hk).2
  have hkid := kid_mem hok
  have hxl : (rd l (k : Int) zN).2.2.2.length ≤ 1048576 := by
    rw [rd_nat hk]; exact hl.kid _ (List.getElem_mem hk)
  have hdk : ∀ y ∈ (rd l (k : Int) zN).2.2.2, dAt l y.toNat + 1 ≤ dAt l k := fun y hy => dAt_kid hkd hy
  generalize hx : rd l (k : Int) zN = x at hkid hxl hdk ⊢
  intro m
  induction m with
  | zero =>
    intro i a acc hi hacc hle
    obtain rfl : i = x.2.2.2.length := by omega
    refine ⟨a, hle, .inr ⟨by rw [List.drop_length]; rfl, acc, fun n _ => loopF_inr ?_⟩⟩
    simp only [L1_impl_packer_put, not_lt_self, decide_false, cond_false, Option.map_some]
  | succ m ih =>
    intro i a acc hi hacc hle
    have hil : i < x.2.2.2.length := by omega
    have hy := hkid _ (List.getElem_mem hil)
    obtain ⟨c, hc⟩ : ∃ c : Nat, x.2.2.2[i] = (c : Int) := ⟨x.2.2.2[i].toNat, by omega⟩
    have hck : c < k := by omega
    have hdc := hdk _ (List.getElem_mem hil)
    rw [hc, Int.toNat_natCast] at hdc
    have hdb := dAt_le l k
    have hdb2 := dAt_le l c
    obtain ⟨v, a1, b1, p1, p2, p3⟩ := IH c hck a hle (deep + 1) (by omega) (by omega)
    have wi := wrapSucc (show i < 9223372036854775807 by omega)
    have wd : IntKind.wrap .i64 (deep + 1) = deep + 1 := wrap64 (by omega) (by omega)
    cases b1
    case true =>
      refine ⟨a1, p2, .inl fun n hn => loopF_inr ?_⟩
      have hs := p1 n (by omega)
      simp only [L1_impl_packer_put, lt_cast hil, decide_true, cond_true, idx_run hil, rd_nat hil, hc, wd, hs, Option.bind_some, Option.map_some]
    have p4 : a1.length = a.length + sz l c := by rcases p3 with p3 | p3; cases p3; exact p3.2
    obtain ⟨a', g1, g2⟩ := ih (i + 1) a1 (acc ++ [v]) (by omega) (by simp; omega) p2
    have step : ∀ n, k ≤ n → loopF (L1_impl_packer_put (R_impl_packer_put n).1) (deep, acc, x.2.2.2, (x.2.2.2.length : Int), (i : Int), (l, (a, false)), x, ()) = loopF (L1_impl_packer_put (R_impl_packer_put n).1) (deep, acc ++ [v], x.2.2.2, (x.2.2.2.length : Int), ((i + 1 : Nat) : Int), (l, (a1, false)), x, ()) := fun n hn => by
      refine loopF_inl ?_
      have hs := p1 n (by omega)
      simp only [L1_impl_packer_put, lt_cast hil, decide_true, cond_true, idx_run hil, rd_nat hil, hc, wd, hs, Option.bind_some, cond_false, le8 (show acc.length ≤ 1048576 by omega), Option.map_some, wi]
    refine ⟨a', g1, ?_⟩
    rcases g2 with g2 | ⟨g2, acc', g3⟩
    · exact .inl fun n hn => by rw [step n hn]; exact g2 n hn
    · refine .inr ⟨?_, acc', fun n hn => by rw [step n hn]; exact g3 n hn⟩
      rw [g2, p4, List.drop_eq_getElem_cons hil, hc]
      simp only [sumK, Int.toNat_natCast]; omega
theorem i_ov (l : List NODE) (hl : FineN l) (hA : AllN l) : ∀ k, k < l.length → ∀ a, a.length ≤ 300 → ∀ deep, 1 ≤ deep → deep + dAt l k ≤ 11 → IOv l k a deep := by
  intro k
  induction k using Nat.strongRecOn with
  | _ k IH =>
    intro hk a ha deep hd1 hd2
    have hs := sz_eq hA hk
    have hkd := (hA k hk).2
    have hdb := dAt_le l k
    by_cases h300 : 300 ≤ a.length
    · refine ⟨-1, a, true, fun n hn => ?_, ha, .inl rfl⟩
      match n, hn with
      | n + 1, hn => exact i_over l hl k hk deep (by omega) a false (.inr h300) n
    obtain ⟨a', g1, g2⟩ := i_kids l hl hA k hk deep hd1 hd2 (fun c hc a h1 d h3 h4 => IH c hc (by omega) a h1 d h3 h4) (rd l (k : Int) zN).2.2.2.length 0 a [] (by omega) (by simp) ha
    rw [List.drop_zero] at g2
    have hstep : ∀ n, (R_impl_packer_put (n + 1)).1 = impl_packer_put_S (R_impl_packer_put n).1 := fun n => rfl
    rcases g2 with g2 | ⟨g2, acc', g3⟩
    · refine ⟨-1, a', true, fun n hn => ?_, g1, .inl rfl⟩
      match n, hn with
      | n + 1, hn =>
        have hloop' : loopF (L1_impl_packer_put (R_impl_packer_put n).1) (deep, [], (rd l (k : Int) zN).2.2.2, ((rd l (k : Int) zN).2.2.2.length : Int), (0 : Int), (l, (a, false)), rd l (k : Int) zN, ()) = _ := g2 n (by omega)
        rw [hstep]
        unfold impl_packer_put_S
        simp only [cond_false, show ¬ ((10 : Int) < deep) by omega, decide_false, lenm1 hl.len, iIn, Option.bind_some, show (0 : Int) ≤ (k : Int) ∧ (k : Int) ≤ (l.length : Int) - 1 by omega, and_self, decide_true, Bool.not_true, show ¬ ((300 : Int) ≤ (a.length : Int)) by omega, joinP_some, idx_run hk, hloop', joinS_inr]
    · by_cases h3 : 300 ≤ a'.length
      · refine ⟨-1, a', true, fun n hn => ?_, g1, .inl rfl⟩
        match n, hn with
        | n + 1, hn =>
          have hloop' : loopF (L1_impl_packer_put (R_impl_packer_put n).1) (deep, [], (rd l (k : Int) zN).2.2.2, ((rd l (k : Int) zN).2.2.2.length : Int), (0 : Int), (l, (a, false)), rd l (k : Int) zN, ()) = _ := g3 n (by omega)
          rw [hstep]
          unfold impl_packer_put_S
          simp only [cond_false, cond_true, show ¬ ((10 : Int) < deep) by omega, decide_false, lenm1 hl.len, iIn, Option.bind_some, show (0 : Int) ≤ (k : Int) ∧ (k : Int) ≤ (l.length : Int) - 1 by omega, and_self, decide_true, Bool.not_true, show ¬ ((300 : Int) ≤ (a.length : Int)) by omega, joinP_some, idx_run hk, hloop', joinS_inl, show ((300 : Int) ≤ (a'.length : Int)) by omega]
      · refine ⟨((a'.length + 1 : Nat) : Int) - 1, a' ++ [((rd l (k : Int) zN).1, ((rd l (k : Int) zN).2.1, ((rd l (k : Int) zN).2.2.1, acc')))], false, fun n hn => ?_, by simp; omega, .inr ⟨rfl, by rw [List.length_append, List.length_singleton, g2, hs]; omega⟩⟩
        match n, hn with
        | n + 1, hn =>
          have hloop' : loopF (L1_impl_packer_put (R_impl_packer_put n).1) (deep, [], (rd l (k : Int) zN).2.2.2, ((rd l (k : Int) zN).2.2.2.length : Int), (0 : Int), (l, (a, false)), rd l (k : Int) zN, ()) = _ := g3 n (by omega)
          have wl : ∀ x : NODE, IntKind.wrap .i64 (((a' ++ [x]).length : Int) - 1) = ((a'.length + 1 : Nat) : Int) - 1 := fun x => by
            rw [List.length_append, List.length_singleton]; exact wrap64 (by omega) (by omega)
          rw [hstep]
          unfold impl_packer_put_S
          simp only [cond_false, cond_true, show ¬ ((10 : Int) < deep) by omega, decide_false, lenm1 hl.len, iIn, Option.bind_some, show (0 : Int) ≤ (k : Int) ∧ (k : Int) ≤ (l.length : Int) - 1 by omega, and_self, decide_true, Bool.not_true, show ¬ ((300 : Int) ≤ (a.length : Int)) by omega, joinP_some, idx_run hk, hloop', joinS_inl, show ¬ ((300 : Int) ≤ (a'.length : Int)) by omega, le56 (show a'.length ≤ 1048576 by omega), wl]
/-- One put. -/
theorem s_put (l : List NODE) (hl : FineN l) (hA : AllN l) (k : Nat) (hk : k < l.length) (a : List NODE) (bd : Bool) (ha : a.length ≤ 311) :
    ∃ (v : Int) (a' : List NODE) (bd' : Bool), spec_l04Pack_put (l, (a, bd)) (k : Int) (1 : Int) = some (v, (l, (a', bd')), ()) ∧ a'.length ≤ 311 ∧ (bd' = true ∨ (bd = false ∧ bd' = false ∧ a'.length = a.length + sz l k)) := by
  have hdb := dAt_le l k
  by_cases h : bd = true ∨ 300 < a.length
  · refine ⟨-1, a, true, limF_some.2 ⟨k + 1, fun n hn => ?_⟩, ha, .inl rfl⟩
    match n, hn with
    | n + 1, hn => exact s_over l hl k hk 1 (by omega) a bd h n
  · have hb : bd = false := by cases bd; rfl; exact absurd (.inl rfl) h
    subst hb
    obtain ⟨v, a', b', h1, h2, h3⟩ := s_ov l hl hA k hk a (by omega) 1 (by omega) (by omega)
    exact ⟨v, a', b', limF_some.2 ⟨k + 1, fun n hn => h1 n (by omega)⟩, by omega, h3.imp id fun h => ⟨rfl, h.1, h.2⟩⟩
theorem s_one (l : List NODE) (hl : FineN l) (hA : AllN l) (x : FN) (hr : ∀ y ∈ roots x, (0 : Int) ≤ y ∧ y < (l.length : Int)) (a : List NODE) (bd : Bool) (ha : a.length ≤ 311) :
    ∃ (v w : Int) (a1 a' : List NODE) (b1 bd' : Bool), spec_l04Pack_put (l, (a, bd)) x.2.2.2.1 (1 : Int) = some (v, (l, (a1, b1)), ()) ∧ (if 0 ≤ x.2.2.2.2 then spec_l04Pack_put (l, (a1, b1)) x.2.2.2.2 (1 : Int) = some (w, (l, (a', bd')), ()) else a1 = a' ∧ b1 = bd' ∧ w = x.2.2.2.2) ∧ a'.length ≤ 311 ∧ (bd' = true ∨ (bd = false ∧ bd' = false ∧ a'.length = a.length + sumK (sz l) (roots x))) := by
  obtain ⟨b0, b1⟩ := hr x.2.2.2.1 (List.mem_cons_self ..)
  obtain ⟨b, hb⟩ : ∃ b : Nat, x.2.2.2.1 = (b : Int) := ⟨x.2.2.2.1.toNat, by omega⟩
  have hs0 : sumK (sz l) (roots x) = sz l b + sumK (sz l) (bif decide (0 ≤ x.2.2.2.2) then [x.2.2.2.2] else []) := by
    unfold roots; simp only [sumK, hb, Int.toNat_natCast]
  obtain ⟨v, a1, d1, p1, p2, p3⟩ := s_put l hl hA b (by omega) a bd ha
  by_cases hc : (0 : Int) ≤ x.2.2.2.2
  · obtain ⟨c0, c1⟩ := hr x.2.2.2.2 (by unfold roots; rw [decide_eq_true hc]; simp)
    obtain ⟨c, hcc⟩ : ∃ c : Nat, x.2.2.2.2 = (c : Int) := ⟨x.2.2.2.2.toNat, by omega⟩
    rw [decide_eq_true hc] at hs0
    simp only [cond_true, sumK, hcc, Int.toNat_natCast] at hs0
    obtain ⟨w, a2, d2, q1, q2, q3⟩ := s_put l hl hA c (by omega) a1 d1 p2
    refine ⟨v, w, a1, a2, d1, d2, by rw [hb]; exact p1, by rw [if_pos hc, hcc]; exact q1, q2, ?_⟩
    rcases q3 with q3 | ⟨q3, q4, q5⟩
    · exact .inl q3
    · rcases p3 with p3 | ⟨p3, p4, p5⟩
      · rw [p3] at q3; cases q3
      · exact .inr ⟨p3, q4, by omega⟩
  · rw [decide_eq_false hc] at hs0
    simp only [cond_false, sumK, Nat.add_zero] at hs0
    refine ⟨v, x.2.2.2.2, a1, a1, d1, d1, by rw [hb]; exact p1, by rw [if_neg hc]; exact ⟨rfl, rfl, rfl⟩, p2, ?_⟩
    rw [hs0]; exact p3
/-- One put. -/
theorem i_put (l : List NODE) (hl : FineN l) (hA : AllN l) (k : Nat) (hk : k < l.length) (a : List NODE) (bd : Bool) (ha : a.length ≤ 300) :
    ∃ (v : Int) (a' : List NODE) (bd' : Bool), impl_packer_put (l, (a, bd)) (k : Int) (1 : Int) = some (v, (l, (a', bd')), ()) ∧ a'.length ≤ 300 ∧ (bd' = true ∨ (bd = false ∧ bd' = false ∧ a'.length = a.length + sz l k)) := by
  have hdb := dAt_le l k
  by_cases h : bd = true ∨ 300 < a.length
  · refine ⟨-1, a, true, limF_some.2 ⟨k + 1, fun n hn => ?_⟩, ha, .inl rfl⟩
    match n, hn with
    | n + 1, hn => exact i_over l hl k hk 1 (by omega) a bd (h.imp id fun h => by omega) n
  · have hb : bd = false := by cases bd; rfl; exact absurd (.inl rfl) h
    subst hb
    obtain ⟨v, a', b', h1, h2, h3⟩ := i_ov l hl hA k hk a (by omega) 1 (by omega) (by omega)
    exact ⟨v, a', b', limF_some.2 ⟨k + 1, fun n hn => h1 n (by omega)⟩, by omega, h3.imp id fun h => ⟨rfl, h.1, h.2⟩⟩
theorem i_one (l : List NODE) (hl : FineN l) (hA : AllN l) (x : FN) (hr : ∀ y ∈ roots x, (0 : Int) ≤ y ∧ y < (l.length : Int)) (a : List NODE) (bd : Bool) (ha : a.length ≤ 300) :
    ∃ (v w : Int) (a1 a' : List NODE) (b1 bd' : Bool), impl_packer_put (l, (a, bd)) x.2.2.2.1 (1 : Int) = some (v, (l, (a1, b1)), ()) ∧ (if 0 ≤ x.2.2.2.2 then impl_packer_put (l, (a1, b1)) x.2.2.2.2 (1 : Int) = some (w, (l, (a', bd')), ()) else a1 = a' ∧ b1 = bd' ∧ w = x.2.2.2.2) ∧ a'.length ≤ 300 ∧ (bd' = true ∨ (bd = false ∧ bd' = false ∧ a'.length = a.length + sumK (sz l) (roots x))) := by
  obtain ⟨b0, b1⟩ := hr x.2.2.2.1 (List.mem_cons_self ..)
  obtain ⟨b, hb⟩ : ∃ b : Nat, x.2.2.2.1 = (b : Int) := ⟨x.2.2.2.1.toNat, by omega⟩
  have hs0 : sumK (sz l) (roots x) = sz l b + sumK (sz l) (bif decide (0 ≤ x.2.2.2.2) then [x.2.2.2.2] else []) := by
    unfold roots; simp only [sumK, hb, Int.toNat_natCast]
  obtain ⟨v, a1, d1, p1, p2, p3⟩ := i_put l hl hA b (by omega) a bd ha
  by_cases hc : (0 : Int) ≤ x.2.2.2.2
  · obtain ⟨c0, c1⟩ := hr x.2.2.2.2 (by unfold roots; rw [decide_eq_true hc]; simp)
    obtain ⟨c, hcc⟩ : ∃ c : Nat, x.2.2.2.2 = (c : Int) := ⟨x.2.2.2.2.toNat, by omega⟩
    rw [decide_eq_true hc] at hs0
    simp only [cond_true, sumK, hcc, Int.toNat_natCast] at hs0
    obtain ⟨w, a2, d2, q1, q2, q3⟩ := i_put l hl hA c (by omega) a1 d1 p2
    refine ⟨v, w, a1, a2, d1, d2, by rw [hb]; exact p1, by rw [if_pos hc, hcc]; exact q1, q2, ?_⟩
    rcases q3 with q3 | ⟨q3, q4, q5⟩
    · exact .inl q3
    · rcases p3 with p3 | ⟨p3, p4, p5⟩
      · rw [p3] at q3; cases q3
      · exact .inr ⟨p3, q4, by omega⟩
  · rw [decide_eq_false hc] at hs0
    simp only [cond_false, sumK, Nat.add_zero] at hs0
    refine ⟨v, x.2.2.2.2, a1, a1, d1, d1, by rw [hb]; exact p1, by rw [if_neg hc]; exact ⟨rfl, rfl, rfl⟩, p2, ?_⟩
    rw [hs0]; exact p3
theorem s_loop (q : PROG) (hq : FineP q) (hA : AllN q.1) (hr : ∀ x ∈ q.2, ∀ y ∈ roots x, (0 : Int) ≤ y ∧ y < (q.1.length : Int)) :
    ∀ (m i : Nat) (a : List NODE) (bd : Bool) (ys : List FN), i + m = q.2.length → ys.length = i → a.length ≤ 311 →
      ∃ (a' : List NODE) (bd' : Bool) (ys' : List FN), (bd' = true ∨ (bd = false ∧ bd' = false ∧ a'.length = a.length + sumK (sz q.1) (rootsL (q.2.drop i)))) ∧
        loopF L1_spec_Packed ((i : Int), q, ([], []), ([], ys), (q.1, (a, bd)), ()) = some (([], []), ([], ys'), (q.1, (a', bd')), ()) := by
  have hf := hq.f
  intro m
  induction m with
  | zero =>
    intro i a bd ys hi hys ha
    obtain rfl : i = q.2.length := by omega
    refine ⟨a, bd, ys, ?_, loopF_inr ?_⟩
    · cases bd
      · right; rw [List.drop_length]; exact ⟨rfl, rfl, rfl⟩
      · exact .inl rfl
    · simp only [L1_spec_Packed, not_lt_self, decide_false, cond_false, Option.map_some]
  | succ m ih =>
    intro i a bd ys hi hys ha
    have hil : i < q.2.length := by omega
    have hx := hq.a _ (List.getElem_mem hil)
    have hrx := hr _ (List.getElem_mem hil)
    obtain ⟨v, w, a1, a2, d1, d2, s1, s2, h1, h2⟩ := s_one q.1 hq.n hA q.2[i] hrx a bd ha
    obtain ⟨a', bd', ys', g1, g2⟩ := ih (i + 1) a2 d2 (ys ++ [(q.2[i].1, (q.2[i].2.1, (q.2[i].2.2.1, (v, w))))]) (by omega) (by simp [hys]) h1
    have wi := wrapSucc (show i < 9223372036854775807 by omega)
    refine ⟨a', bd', ys', ?_, ?_⟩
    · rcases g1 with g1 | ⟨g1, g3, g4⟩
      · exact .inl g1
      · rcases h2 with h2 | ⟨h2, h3, h4⟩
        · rw [h2] at g1; cases g1
        · refine .inr ⟨h2, g3, ?_⟩
          rw [g4, h4, List.drop_eq_getElem_cons hil]
          simp only [rootsL, sumK_app]; omega
    · rw [← g2]
      refine loopF_inl ?_
      simp only [L1_spec_Packed, lt_cast hil, decide_true, cond_true, idx_run hil, rd_nat hil, le24 hx, List.nil_append]
      generalize q.2[i] = x at s1 s2
      simp only [s1, Option.bind_some]
      by_cases hc : (0 : Int) ≤ x.2.2.2.2
      · rw [if_pos hc] at s2
        simp only [hc, decide_true, cond_true, s2, Option.bind_some, joinP_some, le64 (show ys.length ≤ 1048576 by omega), Option.map_some, wi]
      · rw [if_neg hc] at s2
        obtain ⟨rfl, rfl, rfl⟩ := s2
        simp only [hc, decide_false, cond_false, joinP_some, le64 (show ys.length ≤ 1048576 by omega), Option.map_some, wi]
theorem i_loop (q : PROG) (hq : FineP q) (hA : AllN q.1) (hr : ∀ x ∈ q.2, ∀ y ∈ roots x, (0 : Int) ≤ y ∧ y < (q.1.length : Int)) :
    ∀ (m i : Nat) (a : List NODE) (bd : Bool) (ys : List FN), i + m = q.2.length → ys.length = i → a.length ≤ 300 →
      ∃ (a' : List NODE) (bd' : Bool) (ys' : List FN), a'.length ≤ 300 ∧ (bd' = true ∨ (bd = false ∧ bd' = false ∧ a'.length = a.length + sumK (sz q.1) (rootsL (q.2.drop i)))) ∧
        loopF L1_impl_Packed (q.2, (q.2.length : Int), (i : Int), ([], []), (q.1, (a, bd)), ([], ys), ()) = some (([], []), (q.1, (a', bd')), ([], ys'), ()) := by
  have hf := hq.f
  intro m
  induction m with
  | zero =>
    intro i a bd ys hi hys ha
    obtain rfl : i = q.2.length := by omega
    refine ⟨a, bd, ys, ha, ?_, loopF_inr ?_⟩
    · cases bd
      · right; rw [List.drop_length]; exact ⟨rfl, rfl, rfl⟩
      · exact .inl rfl
    · simp only [L1_impl_Packed, not_lt_self, decide_false, cond_false, Option.map_some]
  | succ m ih =>
    intro i a bd ys hi hys ha
    have hil : i < q.2.length := by omega
    have hx := hq.a _ (List.getElem_mem hil)
    have hrx := hr _ (List.getElem_mem hil)
    obtain ⟨v, w, a1, a2, d1, d2, s1, s2, h1, h2⟩ := i_one q.1 hq.n hA q.2[i] hrx a bd ha
    obtain ⟨a', bd', ys', g0, g1, g2⟩ := ih (i + 1) a2 d2 (ys ++ [(q.2[i].1, (q.2[i].2.1, (q.2[i].2.2.1, (v, w))))]) (by omega) (by simp [hys]) h1
    have wi := wrapSucc (show i < 9223372036854775807 by omega)
    refine ⟨a', bd', ys', g0, ?_, ?_⟩
    · rcases g1 with g1 | ⟨g1, g3, g4⟩
      · exact .inl g1
      · rcases h2 with h2 | ⟨h2, h3, h4⟩
        · rw [h2] at g1; cases g1
        · refine .inr ⟨h2, g3, ?_⟩
          rw [g4, h4, List.drop_eq_getElem_cons hil]
          simp only [rootsL, sumK_app]; omega
    · rw [← g2]
      refine loopF_inl ?_
      simp only [L1_impl_Packed, lt_cast hil, decide_true, cond_true, idx_run hil, rd_nat hil, impl_fnP _ hx, Option.bind_some]
      generalize q.2[i] = x at s1 s2
      simp only [s1, Option.bind_some]
      by_cases hc : (0 : Int) ≤ x.2.2.2.2
      · rw [if_pos hc] at s2
        simp only [hc, decide_true, cond_true, s2, Option.bind_some, joinP_some, le64 (show ys.length ≤ 1048576 by omega), Option.map_some, wi]
      · rw [if_neg hc] at s2
        obtain ⟨rfl, rfl, rfl⟩ := s2
        simp only [hc, decide_false, cond_false, joinP_some, le64 (show ys.length ≤ 1048576 by omega), Option.map_some, wi]
/-- Too many nodes: both end not well. -/
theorem overflow (q : PROG) (hq : FineP q) (hA : AllN q.1) (hr : ∀ x ∈ q.2, ∀ y ∈ roots x, (0 : Int) ≤ y ∧ y < (q.1.length : Int)) (hs : ¬ sumK (sz q.1) (rootsL q.2) ≤ 300) :
    spec_Packed q = some (([], []), false, ()) ∧ impl_Packed q = some (([], []), false, ()) := by
  obtain ⟨a, b, ys, g1, g2⟩ := s_loop q hq hA hr q.2.length 0 [] false [] (by omega) rfl (by simp)
  obtain ⟨a', b', ys', h0, h1, h2⟩ := i_loop q hq hA hr q.2.length 0 [] false [] (by omega) rfl (by simp)
  rw [List.drop_zero] at g1 h1
  simp only [List.length_nil, Nat.zero_add] at g1 h1
  have g2' : loopF L1_spec_Packed ((0 : Int), q, ([], []), ([], []), (q.1, ([], false)), ()) = _ := g2
  have h2' : loopF L1_impl_Packed (q.2, (q.2.length : Int), (0 : Int), ([], []), (q.1, ([], false)), ([], []), ()) = _ := h2
  have hb' : b' = true := by rcases h1 with h1 | ⟨_, _, h1⟩; exact h1; omega
  subst hb'
  refine ⟨?_, ?_⟩
  · rcases g1 with g1 | ⟨_, g1, g3⟩
    · subst g1
      simp only [spec_Packed, Option.bind_some, g2', joinP_some, cond_true]
    · subst g1
      simp only [spec_Packed, Option.bind_some, g2', joinP_some, cond_false, show (300 : Int) < (a.length : Int) by omega, decide_true, cond_true]
  · simp only [impl_Packed, Option.bind_some, h2', joinP_some, cond_true]
end Go.Proofs.YtgkgfpbdodafaaaDoorE

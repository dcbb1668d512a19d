/- Which names are in sight: the program's reckoning and the reference's. No condition beyond each lemma's own. -/
import Derived.Test.YtgkgfpbdodafaaaGreatDoorLawVars
import Derived.Test.YtgkgfpbdodafaaaGreatDoorLawProgEq
set_option linter.all false
namespace Go.Proofs.YtgkgfpbdodafaaaGreatDoorE
set_option linter.all false
set_option maxRecDepth 100000
def hasT (l : List ByteArray) (s : ByteArray) : Bool := l.any fun y => decide (y = s)
theorem iHasT (l : List ByteArray) (s : ByteArray) (hl : l.length ≤ 4000000) : impl_hasText l s = some (hasT l s, ()) := by
  have h := loopF_any (step := L1_impl_hasText) l (fun y => decide (y = s)) (fun k => (s, l, (l.length : Int), (k : Int), ())) (.inr (true, ())) (.inl ()) (fun k hk => by
    simp only [L1_impl_hasText, lt_cast hk, decide_true, cond_true, idx_run hk, rd_nat hk, wrapSucc (show k < 9223372036854775807 by omega)]
    cases decide (l[k] = s) <;> rfl) (by
    simp only [L1_impl_hasText, not_lt_self, decide_false, cond_false, Option.map_some])
  have h' : loopF L1_impl_hasText (s, l, (l.length : Int), (0 : Int), ()) = _ := h
  simp only [impl_hasText, Option.bind_some, h', hasT]
  cases l.any fun y => decide (y = s) <;> rfl
theorem sHasT (l : List ByteArray) (s : ByteArray) (hl : l.length ≤ 4000000) : spec_l07Has l s = some (hasT l s, ()) := by
  have h := loopF_any (step := L1_spec_l07Has) l (fun y => decide (y = s)) (fun k => (l, s, (k : Int), ())) (.inr (true, ())) (.inl ()) (fun k hk => by
    simp only [L1_spec_l07Has, lt_cast hk, decide_true, cond_true, idx_run hk, rd_nat hk, wrapSucc (show k < 9223372036854775807 by omega)]
    cases decide (l[k] = s) <;> rfl) (by
    simp only [L1_spec_l07Has, not_lt_self, decide_false, cond_false, Option.map_some])
  have h' : loopF L1_spec_l07Has (l, s, (0 : Int), ()) = _ := h
  simp only [spec_l07Has, Option.bind_some, h', hasT]
  cases l.any fun y => decide (y = s) <;> rfl
theorem runc_ext {γ D : Type} {q q' : γ → D → Bool} {g : γ → D → γ} : ∀ (l : List D) (c : γ), (∀ x ∈ l, ∀ c, q c x = q' c x) → runc q g l c = runc q' g l c
  | [], _, _ => rfl
  | x :: l, c, h => by
    simp only [runc]
    rw [h x (List.mem_cons_self ..), runc_ext l _ fun y hy => h y (List.mem_cons_of_mem _ hy)]
theorem fold_runc {γ D : Type} (q : γ → D → Bool) (g : γ → D → γ) : ∀ (l : List D) (c : γ) (b : Bool), l.foldl (fun (s : γ × Bool) x => (g s.1 x, s.2 || !q s.1 x)) (c, b) = (l.foldl g c, b || !(runc q g l c).isSome)
  | [], c, b => by simp [runc]
  | x :: l, c, b => by
    simp only [List.foldl_cons, runc]
    rw [fold_runc q g l]
    cases q c x <;> simp
theorem kr_le (k : Int) : (kr k).2 ≤ 12 := by unfold kr; repeat (first | split | decide)
theorem nk_body {l : List NODE} {a : Int} (h : nodeOk l a = true) : nodeBody l a (rd l a zN) = true := by
  simp only [nodeOk, Bool.and_eq_true] at h
  exact h.2
theorem nk_kind {l : List NODE} {a : Int} (h : nodeOk l a = true) : 1 ≤ (rd l a zN).1 ∧ (rd l a zN).1 ≤ 20 := by
  have := nk_body h
  simp only [nodeBody, Bool.and_eq_true, decide_eq_true_eq] at this
  exact this.1
theorem nk_len {l : List NODE} {a : Int} (h : nodeOk l a = true) : (kr (rd l a zN).1).1 ≤ ((rd l a zN).2.2.2.length : Int) ∧ ((rd l a zN).2.2.2.length : Int) ≤ (kr (rd l a zN).1).2 := by
  have := nk_body h
  simp only [nodeBody, Bool.and_eq_true, decide_eq_true_eq] at this
  exact this.2.1
theorem nk_twelve {l : List NODE} {a : Int} (h : nodeOk l a = true) : (rd l a zN).2.2.2.length ≤ 12 := by
  have h1 := nk_len h
  have h2 := kr_le (rd l a zN).1
  omega
theorem nk_fits {l : List NODE} {a : Int} (h : nodeOk l a = true) {i : Nat} (hi : i < (rd l a zN).2.2.2.length) : fits (rd l a zN).1 (i : Int) (rd l (rd l a zN).2.2.2[i] zN).1 = true := by
  have := nk_body h
  simp only [nodeBody, Bool.and_eq_true] at this
  have h2 := List.all_eq_true.1 this.2.2.2.2 i (by simpa using hi)
  simp only [kidOk, Bool.and_eq_true] at h2
  have e : (rd l a zN).2.2.2.getD i 0 = (rd l a zN).2.2.2[i] := by
    generalize rd l a zN = x at hi ⊢
    simp [hi]
  rw [e] at h2
  exact h2.2.1
def callOk (p : PROG) (fn : Int) (x : NODE) : Bool := decide (0 ≤ fnAt p.2 x.2.2.1 ∧ fnAt p.2 x.2.2.1 ≤ fn - 1) && decide (((rd p.2 (fnAt p.2 x.2.2.1) zF).2.1.length : Int) = (x.2.2.2.length : Int))
def okH (p : PROG) (fn : Int) (x : NODE) (nm : List ByteArray) : Bool := (!usesK x.1 || hasT nm x.2.2.1) && (!decide (x.1 = 12) || callOk p fn x)
def extT (l : List NODE) (b : Bool) (nm : List ByteArray) (y : Int) : List ByteArray := bif b && isLet l y then nm ++ [(rd l y zN).2.2.1] else nm
def sn (p : PROG) (fn : Int) : Nat → Int → List ByteArray → Bool
  | 0, _, _ => false
  | f + 1, k, nm => okH p fn (rd p.1 k zN) nm && (runc (fun nm y => sn p fn f y nm) (extT p.1 (decide ((rd p.1 k zN).1 = 20))) (rd p.1 k zN).2.2.2 nm).isSome
theorem sn_fuel (p : PROG) (fn : Int) : ∀ (f g : Nat) (a : Int) (nm : List ByteArray), (0 : Int) < deepAt p.1 a → a.toNat < f → a.toNat < g → sn p fn f a nm = sn p fn g a nm
  | 0, _, _, _, _, h, _ => absurd h (by omega)
  | _ + 1, 0, _, _, _, _, h => absurd h (by omega)
  | f + 1, g + 1, a, nm, hd, hf, hg => by
    simp only [sn]
    congr 2
    refine runc_ext _ _ fun y hy c => ?_
    obtain ⟨k1, k2, k3⟩ := kid_pos hd hy
    exact sn_fuel p fn f g y c k1 (by omega) (by omega)
def sight (p : PROG) (fn : Int) (k : Int) (nm : List ByteArray) : Bool := sn p fn (k.toNat + 1) k nm
theorem sight_eq (p : PROG) (fn : Int) {k : Int} (h : (0 : Int) < deepAt p.1 k) (nm : List ByteArray) : sight p fn k nm = (okH p fn (rd p.1 k zN) nm && (runc (fun nm y => sight p fn y nm) (extT p.1 (decide ((rd p.1 k zN).1 = 20))) (rd p.1 k zN).2.2.2 nm).isSome) := by
  unfold sight
  simp only [sn]
  congr 2
  refine runc_ext _ _ fun y hy c => ?_
  obtain ⟨k1, k2, k3⟩ := kid_pos h hy
  exact sn_fuel p fn k.toNat (y.toNat + 1) y c k1 (by omega) (by omega)
theorem extT_len (l : List NODE) (b : Bool) (nm : List ByteArray) (y : Int) : (extT l b nm y).length ≤ nm.length + 1 := by
  unfold extT
  cases b && isLet l y <;> simp
theorem fnAt_lt {l : List FN} {s : ByteArray} : fnAt l s < (l.length : Int) := by
  unfold fnAt
  cases h : l.findIdx? fun f => decide (f.1 = s) with
  | none => simp only; omega
  | some i =>
    obtain ⟨h1, _⟩ := List.findIdx?_eq_some_iff_getElem.1 h
    simp only; omega
theorem seen_RI (p : PROG) (hp : FineP p) (fn : Int) (hfn : 0 ≤ fn ∧ fn ≤ 1048576) : ∀ (n : Nat) (k : Int) (nm : List ByteArray), (0 : Int) < deepAt p.1 k → k.toNat < n → nm.length + 12 * (k.toNat + 1) ≤ 16000000 → (R_impl_seen n).1 p fn k nm = some (sn p fn n k nm, ())
  | 0, _, _, _, h, _ => absurd h (by omega)
  | n + 1, k, nm, hd, hn, hb => by
    have hk := (deepAt_pos hd).1
    have hok := (deepAt_pos hd).2.1
    have h12 := nk_twelve hok
    have hkid := fun y hy => @kid_pos p.1 k hd y hy
    show impl_seen_S (R_impl_seen n).1 p fn k nm = _
    unfold impl_seen_S
    simp only [sn]
    rw [idx_range hk]
    have hkn := hp.n.len
    have hnm : nm.length ≤ 16000000 := by omega
    generalize rd p.1 k zN = x at h12 hkid ⊢
    have hT : impl_hasText nm x.2.2.1 = some (hasT nm x.2.2.1, ()) := by
      have h := loopF_any (step := L1_impl_hasText) nm (fun y => decide (y = x.2.2.1)) (fun k => (x.2.2.1, nm, (nm.length : Int), (k : Int), ())) (.inr (true, ())) (.inl ()) (fun k hk => by
        simp only [L1_impl_hasText, lt_cast hk, decide_true, cond_true, idx_run hk, rd_nat hk, wrapSucc (show k < 9223372036854775807 by omega)]
        cases decide (nm[k] = x.2.2.1) <;> rfl) (by
        simp only [L1_impl_hasText, not_lt_self, decide_false, cond_false, Option.map_some])
      have h' : loopF L1_impl_hasText (x.2.2.1, nm, (nm.length : Int), (0 : Int), ()) = _ := h
      simp only [impl_hasText, Option.bind_some, h', hasT]
      cases nm.any fun y => decide (y = x.2.2.1) <;> rfl
    have hloop : loopF (L1_impl_seen (R_impl_seen n).1) (fn, nm, x.2.2.2, (x.2.2.2.length : Int), (0 : Int), p, x, ()) = some ((runc (fun nm y => sn p fn n y nm) (extT p.1 (decide (x.1 = 20))) x.2.2.2 nm).elim (.inr (false, ())) fun _ => .inl ()) := by
      have h := loopF_run (step := L1_impl_seen (R_impl_seen n).1) x.2.2.2 (fun nm y => sn p fn n y nm) (extT p.1 (decide (x.1 = 20))) (fun i nm => (fn, nm, x.2.2.2, (x.2.2.2.length : Int), (i : Int), p, x, ())) (fun _ => .inl ()) (.inr (false, ())) (fun i c => c.length ≤ nm.length + i) (fun i hi c hc => by
        obtain ⟨k1, k2, k3⟩ := hkid _ (List.getElem_mem hi)
        have ih := seen_RI p hp fn hfn n x.2.2.2[i] c k1 (by omega) (by omega)
        refine ⟨?_, fun _ => Nat.le_trans (extT_len ..) (by omega)⟩
        simp only [L1_impl_seen, lt_cast hi, decide_true, cond_true, idx_run hi, rd_nat hi, ih, Option.bind_some]
        cases sn p fn n x.2.2.2[i] c
        · simp only [Bool.not_false, cond_true, Option.map_some, cond_false]
        · simp only [Bool.not_true, cond_false, cond_true, extT]
          by_cases h20 : x.1 = 20
          · simp only [h20, decide_true, cond_true, idx_range (deepAt_pos k1).1, joinP_some, Bool.true_and, isLet]
            cases decide ((rd p.1 x.2.2.2[i] zN).1 = 13)
            · simp only [cond_false, joinP_some, Option.map_some, wrapSucc (show i < 9223372036854775807 by omega)]
            · simp only [cond_true]
              rw [le_run (by simp; omega)]
              simp only [joinP_some, Option.map_some, wrapSucc (show i < 9223372036854775807 by omega)]
          · simp only [h20, decide_false, cond_false, joinP_some, Bool.false_and, Option.map_some, wrapSucc (show i < 9223372036854775807 by omega)]) (fun c _ => by
        simp only [L1_impl_seen, not_lt_self, decide_false, cond_false, Option.map_some]) nm (Nat.le_refl _)
      exact h
    have hfin : (Cnd.le ((List.length ([] : List (ByteArray)) + List.length nm) * 16) 140737488355328).run (joinS ((some (fn, ([] : List (ByteArray)) ++ nm, x.2.2.2, (List.length x.2.2.2 : Int), (0 : Int), p, x, ())).bind fun x80 => loopF (L1_impl_seen (R_impl_seen n).1) x80) fun x12 => some (true, ())) = some ((runc (fun nm y => sn p fn n y nm) (extT p.1 (decide (x.1 = 20))) x.2.2.2 nm).isSome, ()) := by
      rw [le_run (by simp; omega)]
      simp only [List.nil_append, Option.bind_some, hloop]
      cases runc (fun nm y => sn p fn n y nm) (extT p.1 (decide (x.1 = 20))) x.2.2.2 nm <;> rfl
    rw [iUses, Option.bind_some]
    simp only [okH, hT]
    have hcall : ∀ {b : Bool}, (joinS (bif decide (x.1 = (12 : Int)) then (impl_FnAt p x.2.2.1).bind fun y4 => joinP ((impl_in y4.1 (0 : Int) (IntKind.wrap .i64 (fn - (1 : Int)))).bind fun y5 => bif !y5.1 then some (fn, nm, true, p, x, ()) else (Cnd.idx y4.1 (List.length p.2)).run (some (fn, nm, decide ((List.length (((rd p.2 y4.1 zF).2).1) : Int) ≠ (List.length x.2.2.2 : Int)), p, x, ()))) fun x6 => bif x6.2.2.1 then (some (false, ())).map Sum.inr else (some (x6.1, x6.2.1, x6.2.2.2.1, x6.2.2.2.2.1, ())).map Sum.inl else (some (fn, nm, p, x, ())).map Sum.inl) fun x7 => (Cnd.le ((List.length ([] : List (ByteArray)) + List.length x7.2.1) * 16) 140737488355328).run (joinS ((some (x7.1, ([] : List (ByteArray)) ++ x7.2.1, x7.2.2.2.1.2.2.2, (List.length x7.2.2.2.1.2.2.2 : Int), (0 : Int), x7.2.2.1, x7.2.2.2.1, ())).bind fun x80 => loopF (L1_impl_seen (R_impl_seen n).1) x80) fun x12 => some (true, ()))) = some ((!decide (x.1 = 12) || callOk p fn x) && (runc (fun nm y => sn p fn n y nm) (extT p.1 (decide (x.1 = 20))) x.2.2.2 nm).isSome, ()) := by
      intro _
      by_cases h12 : x.1 = 12
      · simp only [h12, decide_true, cond_true, Bool.not_true, Bool.false_or]
        rw [impl_FnAt_ok p hp, Option.bind_some, show IntKind.wrap .i64 (fn - 1) = fn - 1 from wrap64 (by omega) (by omega), iIn, Option.bind_some]
        unfold callOk
        by_cases hr : 0 ≤ fnAt p.2 x.2.2.1 ∧ fnAt p.2 x.2.2.1 ≤ fn - 1
        · have hlt := fnAt_lt (l := p.2) (s := x.2.2.1)
          simp only [hr, and_self, decide_true, Bool.not_true, cond_false, Bool.true_and]
          rw [idx_range ⟨hr.1, hlt⟩, joinP_some]
          by_cases hl : ((rd p.2 (fnAt p.2 x.2.2.1) zF).2.1.length : Int) = (x.2.2.2.length : Int)
          · simp only [hl, ne_eq, not_true_eq_false, decide_false, decide_true, cond_false, Option.map_some, joinS_inl, Bool.true_and]
            rw [h12] at hfin
            exact hfin
          · simp only [hl, ne_eq, not_false_eq_true, decide_false, decide_true, cond_true, Option.map_some, joinS_inr, Bool.false_and]
        · simp only [hr, decide_false, Bool.not_false, cond_true, Bool.false_and, joinP_some, Option.map_some, joinS_inr]
      · simp only [h12, decide_false, cond_false, Option.map_some, joinS_inl, Bool.not_false, Bool.true_or, Bool.true_and]
        exact hfin
    cases usesK x.1
    · simp only [cond_false, joinP_some, Bool.not_false, Bool.true_or, Bool.true_and]
      exact hcall (b := true)
    · simp only [cond_true, Option.bind_some, joinP_some, Bool.not_true, Bool.false_or]
      cases hasT nm x.2.2.1
      · simp only [Bool.not_false, cond_true, Bool.false_and]
      · simp only [Bool.not_true, cond_false, Bool.true_and]
        exact hcall (b := true)
theorem impl_Seen_ok (p : PROG) (hp : FineP p) (fn : Int) (hfn : 0 ≤ fn ∧ fn ≤ 1048576) (k : Int) (nm : List ByteArray) (hd : (0 : Int) < deepAt p.1 k) (hnm : nm.length ≤ 2000000) : impl_seen p fn k nm = some (sight p fn k nm, ()) := by
  have hk := (deepAt_pos hd).1
  have hkn := hp.n.len
  refine limF_some.2 ⟨k.toNat + 1, fun n hn => ?_⟩
  have := seen_RI p hp fn hfn n k nm hd (by omega) (by omega)
  rw [sn_fuel p fn n (k.toNat + 1) k nm hd (by omega) (by omega)] at this
  exact this
end Go.Proofs.YtgkgfpbdodafaaaGreatDoorE

/- The engine, texts P1 P2 P3: how code is reckoned as Lean functions, and that it is sound. No condition. -/
import Derived.Test.YtgkgfpbdodafaaaGreatDoorPackE
set_option linter.all false
/- Plain lemmas on numbers, lists and rounds. No condition. -/
namespace Go.Proofs.YtgkgfpbdodafaaaGreatDoorE
theorem wrap64 {x : Int} (h1 : -9223372036854775808 ≤ x) (h2 : x < 9223372036854775808) : IntKind.wrap .i64 x = x := by
  have e : (2 : Int) ^ IntKind.i64.bits = 18446744073709551616 := by decide
  have e2 : (2 : Int) ^ (IntKind.i64.bits - 1) = 9223372036854775808 := by decide
  simp only [IntKind.wrap, e, e2, show IntKind.i64.signed = true from rfl, Bool.true_and]
  split
  · rename_i h; simp only [decide_eq_true_eq] at h; omega
  · rename_i h; simp only [decide_eq_true_eq] at h; omega
theorem wrapNat {n : Nat} (h : n < 9223372036854775808) : IntKind.wrap .i64 (n : Int) = n := wrap64 (by omega) (by omega)
theorem wrapSucc {n : Nat} (h : n < 9223372036854775807) : IntKind.wrap .i64 ((n : Int) + 1) = ((n + 1 : Nat) : Int) := by
  rw [wrap64 (by omega) (by omega)]; rfl
theorem wf64 {n : Int} (h : (Lit.int .i64 n).wf = true) : -9223372036854775808 ≤ n ∧ n < 9223372036854775808 := by
  have e : IntKind.i64.min = -9223372036854775808 := by decide
  have e2 : IntKind.i64.max = 9223372036854775807 := by decide
  simp [Lit.wf, e, e2] at h
  omega
theorem loopF_inl {α β : Type} {step : β → Option (β ⊕ α)} {b b' : β} (h : step b = some (.inl b')) : loopF step b = loopF step b' := by rw [loopF_eq, h]
theorem loopF_inr {α β : Type} {step : β → Option (β ⊕ α)} {b : β} {r : α} (h : step b = some (.inr r)) : loopF step b = some r := by rw [loopF_eq, h]
theorem loopF_up {α β : Type} {step : β → Option (β ⊕ α)} (S : Nat → β) (n : Nat) (r : α) (h : ∀ k, k < n → step (S k) = some (.inl (S (k + 1)))) (he : step (S n) = some (.inr r)) : loopF step (S 0) = some r := by
  have : ∀ m, m ≤ n → loopF step (S (n - m)) = some r := by
    intro m
    induction m with
    | zero => intro _; exact loopF_inr he
    | succ m ih =>
      intro hm
      rw [loopF_inl (h (n - (m + 1)) (by omega)), show n - (m + 1) + 1 = n - m by omega]
      exact ih (by omega)
  simpa using this n (Nat.le_refl _)
theorem loopF_rec {α β : Type} {step : β → Option (β ⊕ α)} (S : Nat → β) (n : Nat) (h : Nat → α) (H : ∀ k, k ≤ n → step (S k) = some (.inr (h k)) ∨ (k < n ∧ step (S k) = some (.inl (S (k + 1))) ∧ h k = h (k + 1))) : ∀ k, k ≤ n → loopF step (S k) = some (h k) := by
  have : ∀ m, m ≤ n → loopF step (S (n - m)) = some (h (n - m)) := by
    intro m
    induction m with
    | zero =>
      intro _
      rcases H n (Nat.le_refl _) with h1 | h1
      · exact loopF_inr h1
      · omega
    | succ m ih =>
      intro hm
      rcases H (n - (m + 1)) (by omega) with h1 | ⟨_, h1, h2⟩
      · exact loopF_inr h1
      · rw [loopF_inl h1, h2, show n - (m + 1) + 1 = n - m by omega]
        exact ih (by omega)
  intro k hk
  have := this (n - k) (by omega)
  rwa [show n - (n - k) = k by omega] at this
theorem loopF_inv {α β : Type} {step : β → Option (β ⊕ α)} (I : β → Prop) (μ : β → Nat) (Q : α → Prop) (H : ∀ b, I b → (∃ r, step b = some (.inr r) ∧ Q r) ∨ ∃ b', step b = some (.inl b') ∧ I b' ∧ μ b' < μ b) (b : β) (h : I b) : ∃ r, loopF step b = some r ∧ Q r := by
  have : ∀ n b, μ b < n → I b → ∃ r, loopF step b = some r ∧ Q r := by
    intro n
    induction n with
    | zero => intro b h; omega
    | succ n ih =>
      intro b hb hI
      rcases H b hI with ⟨r, h1, h2⟩ | ⟨b', h1, h2, h3⟩
      · exact ⟨r, loopF_inr h1, h2⟩
      · rw [loopF_inl h1]
        exact ih b' (by omega) h2
  exact this _ b (Nat.lt_succ_self _) h
theorem idx_run {α : Type} {k n : Nat} {K : Option α} (h : k < n) : (Cnd.idx (k : Int) n).run K = K := by
  simp only [Cnd.run]; rw [if_pos]; omega
theorem le_run {α : Type} {a b : Nat} {K : Option α} (h : a ≤ b) : (Cnd.le a b).run K = K := by
  simp only [Cnd.run]; rw [if_pos h]
theorem nn_run {α : Type} {a : Nat} {K : Option α} : (Cnd.nn (a : Int)).run K = K := by
  simp only [Cnd.run]; rw [if_pos (by omega)]
theorem rd_nat {α : Type} {l : List α} {k : Nat} {z : α} (h : k < l.length) : rd l (k : Int) z = l[k] := by
  simp [rd, h]
theorem joinP_some {α β : Type} {x : β} {k : β → Option α} : joinP (some x) k = k x := rfl
theorem joinS_inl {α β : Type} {x : β} {k : β → Option α} : joinS (some (.inl x)) k = k x := rfl
theorem joinS_inr {α β : Type} {x : α} {k : β → Option α} : joinS (some (.inr x)) k = some x := rfl
def Bnd : (t : Ty) → t.D → Prop
  | .int k, n => (Lit.int k n).wf = true
  | .bool, _ => True
  | .str, s => s.size ≤ 140737488351232
  | .list _ t, l => List.length l ≤ maxLen ∧ ∀ i (h : i < List.length l), Bnd t (List.get l ⟨i, h⟩)
  | .pair a b, x => Bnd a x.1 ∧ Bnd b x.2
def wt : (t : Ty) → t.D → Nat
  | .int _, _ => 0
  | .bool, _ => 0
  | .str, s => s.size
  | .list _ t, l => List.length l + (List.map (wt t) l).sum
  | .pair a b, x => wt a x.1 + wt b x.2
end Go.Proofs.YtgkgfpbdodafaaaGreatDoorE
/- The laws' own helpers by kind: what is measured, copied, compared. No condition. -/
namespace Go.Proofs.YtgkgfpbdodafaaaGreatDoorE
set_option linter.all false
def szLoop {D : Type} (sz : D → Int → Option (Int × Unit)) (z : D) (x1 : List D × Int × Int × Unit) : Option ((List D × Int × Int × Unit) ⊕ ((Int × Unit) ⊕ (Int × Unit))) :=
  bif decide (x1.2.2.1 < (List.length x1.1 : Int)) then (Cnd.idx x1.2.2.1 (List.length x1.1)).run ((sz (rd x1.1 x1.2.2.1 z) x1.2.1).bind fun y2 => bif decide (y2.1 < (0 : Int)) then ((some ((-1 : Int), ())).map Sum.inr).map Sum.inr else (some (x1.1, y2.1, IntKind.wrap .i64 (x1.2.2.1 + (1 : Int)), ())).map Sum.inl) else ((some (x1.2.1, ())).map Sum.inl).map Sum.inr
noncomputable def szS {D : Type} (sz : D → Int → Option (Int × Unit)) (z : D) (a0 : List D) (a1 : Int) : Option (Int × Unit) :=
  bif decide ((IntKind.wrap .i64 (a1 - (List.length a0 : Int))) < (0 : Int)) then some ((-1 : Int), ()) else joinS ((some (a0, IntKind.wrap .i64 (a1 - (List.length a0 : Int)), (0 : Int), ())).bind fun x10 => loopF (szLoop sz z) x10) fun x3 => some (x3.1, ())
def SzOk (t : Ty) (sz : t.D → Int → Option (Int × Unit)) : Prop := ∀ a (left : Int), Bnd t a → 0 ≤ left → left < 4611686018427387904 → sz a left = some (if (wt t a : Int) ≤ left then left - wt t a else -1, ())
theorem sub64 {l : Int} {n : Nat} (h1 : 0 ≤ l) (h2 : l < 4611686018427387904) (hn : n ≤ maxLen) : IntKind.wrap .i64 (l - n) = l - n := by
  have : maxLen = 9223372036854775807 := by decide
  exact wrap64 (by omega) (by omega)
theorem szb {n : Nat} (h : n ≤ 140737488351232) : n ≤ maxLen := by
  have : maxLen = 9223372036854775807 := by decide
  omega
theorem sum_drop {D : Type} {f : D → Nat} {l : List D} {k : Nat} (h : k < l.length) : ((l.drop k).map f).sum = f l[k] + ((l.drop (k + 1)).map f).sum := by
  rw [List.drop_eq_getElem_cons h]; rfl
theorem sum_mem {D : Type} {f : D → Nat} {l : List D} {k : Nat} (h : k < l.length) : f l[k] ≤ (l.map f).sum := by
  have h3 : (l.map f).sum = ((l.take k ++ l.drop k).map f).sum := by rw [List.take_append_drop]
  rw [h3, List.map_append, List.sum_append_nat, sum_drop h]; omega
theorem szS_ok {e : Nat} {t : Ty} {sz : t.D → Int → Option (Int × Unit)} (h : SzOk t sz) {z : t.D} : SzOk (.list e t) (szS sz z) := by
  intro a left hb h0 h1
  obtain ⟨hb1, hb2⟩ := hb
  have hm : maxLen = 9223372036854775807 := by decide
  have hw : wt (.list e t) a = List.length a + (List.map (wt t) a).sum := rfl
  simp only [szS, sub64 h0 h1 hb1]
  by_cases hlt : left - (List.length a : Int) < 0
  · simp only [hlt, decide_true, cond_true]
    rw [if_neg (by rw [hw]; omega)]
  · simp only [hlt, decide_false, cond_false, Option.bind_some]
    have key : ∀ m k (l : Int), k + m = List.length a → 0 ≤ l → l < 4611686018427387904 → loopF (szLoop sz z) (a, l, (k : Int), ()) = some (if (((a.drop k).map (wt t)).sum : Int) ≤ l then .inl (l - (((a.drop k).map (wt t)).sum : Nat), ()) else .inr (-1, ())) := by
      intro m
      induction m with
      | zero =>
        intro k l hk h2 h3
        have hk' : ¬ ((k : Int) < (List.length a : Int)) := by omega
        rw [loopF_inr (r := .inl (l, ()))]
        · rw [List.drop_eq_nil_of_le (by omega)]
          simp [h2]
        · simp [szLoop, hk']
      | succ m ih =>
        intro k l hk h2 h3
        have hkl : k < List.length a := by omega
        have hk' : ((k : Int) < (List.length a : Int)) := by omega
        have hs := h a[k] l (hb2 k hkl) h2 h3
        rw [sum_drop hkl]
        by_cases hle : (wt t a[k] : Int) ≤ l
        · rw [if_pos hle] at hs
          rw [loopF_inl (b' := (a, l - wt t a[k], ((k + 1 : Nat) : Int), ())), ih (k + 1) _ (by omega) (by omega) (by omega)]
          · by_cases h4 : (((a.drop (k + 1)).map (wt t)).sum : Int) ≤ l - wt t a[k]
            · rw [if_pos h4, if_pos (by omega)]
              congr 3; omega
            · rw [if_neg h4, if_neg (by omega)]
          · have h5 : ¬ (l - (wt t a[k] : Int) < 0) := by omega
            simp only [szLoop, hk', decide_true, cond_true, idx_run hkl, rd_nat hkl, hs, Option.bind_some, h5, decide_false, cond_false, wrapSucc (show k < 9223372036854775807 by omega), Option.map_some]
        · rw [if_neg hle] at hs
          rw [loopF_inr (r := .inr (-1, ())), if_neg (by omega)]
          simp only [szLoop, hk', decide_true, cond_true, idx_run hkl, rd_nat hkl, hs, Option.bind_some, show ((-1 : Int) < 0) by omega, Option.map_some]
    have := key (List.length a) 0 _ (by omega) (Int.not_lt.1 hlt) (by omega)
    simp only [Int.natCast_zero] at this
    rw [this, List.drop_zero]
    by_cases h4 : ((a.map (wt t)).sum : Int) ≤ left - (List.length a : Int)
    · rw [if_pos h4, if_pos (by rw [hw]; omega), joinS_inl]
      simp only; congr 2; rw [hw]; omega
    · rw [if_neg h4, if_neg (by rw [hw]; omega), joinS_inr]
noncomputable def sz0 {D : Type} (a0 : List D) (a1 : Int) : Option (Int × Unit) := bif decide ((IntKind.wrap .i64 (a1 - (List.length a0 : Int))) < (0 : Int)) then some ((-1 : Int), ()) else some (IntKind.wrap .i64 (a1 - (List.length a0 : Int)), ())
def lean0 : Ty → Bool
  | .int _ => true
  | .bool => true
  | _ => false
theorem wt_lean0 {t : Ty} (h : lean0 t = true) (l : List t.D) : (l.map (wt t)).sum = 0 := by
  induction l with
  | nil => rfl
  | cons a l ih => simp only [List.map_cons, List.sum_cons, ih]; cases t <;> simp_all [lean0, wt]
theorem sz0_ok {e : Nat} {t : Ty} (ht : lean0 t = true) : SzOk (.list e t) sz0 := by
  intro a left hb h0 h1
  obtain ⟨hb1, hb2⟩ := hb
  have hw : wt (.list e t) a = List.length a + (List.map (wt t) a).sum := rfl
  rw [wt_lean0 ht] at hw
  simp only [sz0, sub64 h0 h1 hb1]
  by_cases hlt : left - (List.length a : Int) < 0
  · simp only [hlt, decide_true, cond_true]
    rw [if_neg (by omega)]
  · simp only [hlt, decide_false, cond_false]
    rw [if_pos (by omega)]; congr 2; omega
def toLoop {D : Type} (to : D → Option (D × Unit)) (z : D) (x1 : List D × List D × Int × Unit) : Option ((List D × List D × Int × Unit) ⊕ (List D × Unit)) :=
  bif decide (x1.2.2.1 < (List.length x1.1 : Int)) then (Cnd.idx x1.2.2.1 (List.length x1.1)).run ((to (rd x1.1 x1.2.2.1 z)).bind fun y2 => (Cnd.idx x1.2.2.1 (List.length x1.2.1)).run ((some (x1.1, List.set x1.2.1 x1.2.2.1.toNat y2.1, IntKind.wrap .i64 (x1.2.2.1 + (1 : Int)), ())).map Sum.inl)) else (some (x1.2.1, ())).map Sum.inr
noncomputable def toS {D : Type} (to : D → Option (D × Unit)) (z : D) (by_ : Nat) (a0 : List D) : Option (List D × Unit) :=
  (Cnd.both (Cnd.nn (List.length a0 : Int)) (Cnd.le ((List.length a0 : Int).toNat * by_) 140737488355328)).run (joinP ((some (a0, List.replicate (List.length a0 : Int).toNat z, (0 : Int), ())).bind fun x10 => loopF (toLoop to z) x10) fun x3 => some (x3.1, ()))
def toLoop0 {D : Type} (z : D) (x1 : List D × List D × Int × Unit) : Option ((List D × List D × Int × Unit) ⊕ (List D × Unit)) :=
  bif decide (x1.2.2.1 < (List.length x1.1 : Int)) then (Cnd.idx x1.2.2.1 (List.length x1.1)).run ((Cnd.idx x1.2.2.1 (List.length x1.2.1)).run ((some (x1.1, List.set x1.2.1 x1.2.2.1.toNat (rd x1.1 x1.2.2.1 z), IntKind.wrap .i64 (x1.2.2.1 + (1 : Int)), ())).map Sum.inl)) else (some (x1.2.1, ())).map Sum.inr
noncomputable def toS0 {D : Type} (z : D) (by_ : Nat) (a0 : List D) : Option (List D × Unit) :=
  (Cnd.both (Cnd.nn (List.length a0 : Int)) (Cnd.le ((List.length a0 : Int).toNat * by_) 140737488355328)).run (joinP ((some (a0, List.replicate (List.length a0 : Int).toNat z, (0 : Int), ())).bind fun x10 => loopF (toLoop0 z) x10) fun x2 => some (x2.1, ()))
def big : Nat := 1048576
def ToOk (t : Ty) (to : t.D → Option (t.D × Unit)) : Prop := ∀ a, wt t a ≤ big → to a = some (a, ())
theorem toLoop_gen {D : Type} (step : List D × List D × Int × Unit → Option ((List D × List D × Int × Unit) ⊕ (List D × Unit))) (a : List D) (z : D) (hl : a.length ≤ big)
    (h1 : ∀ (k : Nat) (ys : List D) (hk : k < a.length), ys.length = a.length → step (a, ys, (k : Int), ()) = some (.inl (a, ys.set k a[k], ((k + 1 : Nat) : Int), ()))) (h2 : ∀ ys, step (a, ys, (a.length : Int), ()) = some (.inr (ys, ()))) :
    loopF step (a, List.replicate a.length z, (0 : Int), ()) = some (a, ()) := by
  refine loopF_up (fun k => (a, a.take k ++ List.replicate (a.length - k) z, (k : Int), ())) a.length (a, ()) (fun k hk => ?_) ?_
  · rw [h1 k _ hk (by simp; omega)]
    congr 4
    rw [show a.length - k = (a.length - (k + 1)) + 1 by omega, List.replicate_succ, List.set_append_right _ _ (by simp; omega)]
    simp only [List.length_take, show k - min k a.length = 0 by omega, List.set_cons_zero]
    rw [List.take_succ_eq_append_getElem hk, List.append_assoc]; rfl
  · rw [h2]; simp
theorem toS_ok {e : Nat} {t : Ty} {to : t.D → Option (t.D × Unit)} (h : ToOk t to) {z : t.D} {by_ : Nat} (hby : by_ ≤ 1000) : ToOk (.list e t) (toS to z by_) := by
  intro a hw
  have hw' : wt (.list e t) a = List.length a + (List.map (wt t) a).sum := rfl
  have hl : List.length a ≤ big := by omega
  have hmul : List.length a * by_ ≤ 140737488355328 := Nat.le_trans (Nat.mul_le_mul hl hby) (by decide)
  have hel : ∀ k (hk : k < List.length a), wt t a[k] ≤ big := fun k hk => by
    have := sum_mem (f := wt t) hk
    omega
  have hb : big = 1048576 := rfl
  simp only [toS, Cnd.run, Int.toNat_natCast, if_pos hmul, if_pos (show (0 : Int) ≤ (List.length a : Int) by omega), Option.bind_some]
  rw [toLoop_gen (toLoop to z) a z hl (fun k ys hk hy => ?_) (fun ys => ?_)]
  · rfl
  · simp only [toLoop, show ((k : Int) < (List.length a : Int)) by omega, decide_true, cond_true, idx_run hk, rd_nat hk, h _ (hel k hk), Option.bind_some]
    rw [idx_run (by omega), wrapSucc (by omega)]; simp
  · simp [toLoop]
theorem toS0_ok {e : Nat} {t : Ty} {z : t.D} {by_ : Nat} (hby : by_ ≤ 1000) : ToOk (.list e t) (toS0 z by_) := by
  intro a hw
  have hw' : wt (.list e t) a = List.length a + (List.map (wt t) a).sum := rfl
  have hl : List.length a ≤ big := by omega
  have hmul : List.length a * by_ ≤ 140737488355328 := Nat.le_trans (Nat.mul_le_mul hl hby) (by decide)
  have hb : big = 1048576 := rfl
  simp only [toS0, Cnd.run, Int.toNat_natCast, if_pos hmul, if_pos (show (0 : Int) ≤ (List.length a : Int) by omega), Option.bind_some]
  rw [toLoop_gen (toLoop0 z) a z hl (fun k ys hk hy => ?_) (fun ys => ?_)]
  · rfl
  · simp only [toLoop0, show ((k : Int) < (List.length a : Int)) by omega, decide_true, cond_true, idx_run hk, rd_nat hk]
    rw [idx_run (by omega), wrapSucc (by omega)]; simp
  · simp [toLoop0]
def eqLoop {D : Type} (eq : D → D → Option (Bool × Unit)) (z : D) (x1 : List D × List D × Int × Unit) : Option ((List D × List D × Int × Unit) ⊕ (Unit ⊕ (Bool × Unit))) :=
  bif decide (x1.2.2.1 < (List.length x1.1 : Int)) then (Cnd.idx x1.2.2.1 (List.length x1.1)).run ((Cnd.idx x1.2.2.1 (List.length x1.2.1)).run ((eq (rd x1.1 x1.2.2.1 z) (rd x1.2.1 x1.2.2.1 z)).bind fun y2 => bif !y2.1 then ((some (false, ())).map Sum.inr).map Sum.inr else (some (x1.1, x1.2.1, IntKind.wrap .i64 (x1.2.2.1 + (1 : Int)), ())).map Sum.inl)) else ((some (())).map Sum.inl).map Sum.inr
noncomputable def eqS {D : Type} (eq : D → D → Option (Bool × Unit)) (z : D) (a0 a1 : List D) : Option (Bool × Unit) :=
  bif decide ((List.length a0 : Int) ≠ (List.length a1 : Int)) then some (false, ()) else joinS ((some (a0, a1, (0 : Int), ())).bind fun x10 => loopF (eqLoop eq z) x10) fun x3 => some (true, ())
def eqLoop0 {D : Type} [DecidableEq D] (z : D) (x1 : List D × List D × Int × Unit) : Option ((List D × List D × Int × Unit) ⊕ (Unit ⊕ (Bool × Unit))) :=
  bif decide (x1.2.2.1 < (List.length x1.1 : Int)) then (Cnd.idx x1.2.2.1 (List.length x1.1)).run ((Cnd.idx x1.2.2.1 (List.length x1.2.1)).run (bif decide ((rd x1.1 x1.2.2.1 z) ≠ (rd x1.2.1 x1.2.2.1 z)) then ((some (false, ())).map Sum.inr).map Sum.inr else (some (x1.1, x1.2.1, IntKind.wrap .i64 (x1.2.2.1 + (1 : Int)), ())).map Sum.inl)) else ((some (())).map Sum.inl).map Sum.inr
noncomputable def eqS0 {D : Type} [DecidableEq D] (z : D) (a0 a1 : List D) : Option (Bool × Unit) :=
  bif decide ((List.length a0 : Int) ≠ (List.length a1 : Int)) then some (false, ()) else joinS ((some (a0, a1, (0 : Int), ())).bind fun x10 => loopF (eqLoop0 z) x10) fun x3 => some (true, ())
open Classical in
def EqOk (t : Ty) (eq : t.D → t.D → Option (Bool × Unit)) : Prop := ∀ a b, wt t a ≤ big → eq a b = some (decide (a = b), ())
open Classical in
theorem eqLoop_gen {D : Type} (step : List D × List D × Int × Unit → Option ((List D × List D × Int × Unit) ⊕ (Unit ⊕ (Bool × Unit)))) (a b : List D) (hlen : a.length = b.length)
    (h1 : ∀ (k : Nat) (hk : k < a.length) (hk' : k < b.length), step (a, b, (k : Int), ()) = some (if a[k] = b[k] then .inl (a, b, ((k + 1 : Nat) : Int), ()) else .inr (.inr (false, ())))) (h2 : step (a, b, (a.length : Int), ()) = some (.inr (.inl ()))) :
    loopF step (a, b, (0 : Int), ()) = some (if a = b then .inl () else .inr (false, ())) := by
  have key : ∀ m k, k + m = a.length → loopF step (a, b, (k : Int), ()) = some (if a.drop k = b.drop k then .inl () else .inr (false, ())) := by
    intro m
    induction m with
    | zero =>
      intro k hk
      obtain rfl : k = a.length := by omega
      rw [loopF_inr h2, List.drop_eq_nil_of_le (Nat.le_refl _), List.drop_eq_nil_of_le (by omega)]; simp
    | succ m ih =>
      intro k hk
      have hka : k < a.length := by omega
      have hkb : k < b.length := by omega
      have := h1 k hka hkb
      have hd : (a.drop k = b.drop k) = (a[k] = b[k] ∧ a.drop (k + 1) = b.drop (k + 1)) := by
        rw [List.drop_eq_getElem_cons hka, List.drop_eq_getElem_cons hkb, List.cons.injEq]
      simp only [hd]
      by_cases he : a[k] = b[k]
      · rw [if_pos he] at this
        rw [loopF_inl this, ih (k + 1) (by omega)]
        simp [he]
      · rw [if_neg he] at this
        rw [loopF_inr this]
        simp [he]
  have := key a.length 0 (by omega)
  simpa using this
theorem eqS_ok {e : Nat} {t : Ty} {eq : t.D → t.D → Option (Bool × Unit)} (h : EqOk t eq) {z : t.D} : EqOk (.list e t) (eqS eq z) := by
  intro a b hw
  have hw' : wt (.list e t) a = List.length a + (List.map (wt t) a).sum := rfl
  have hl : List.length a ≤ big := by omega
  have hel : ∀ k (hk : k < List.length a), wt t a[k] ≤ big := fun k hk => by
    have := sum_mem (f := wt t) hk
    omega
  have hb : big = 1048576 := rfl
  simp only [eqS]
  by_cases hlen : List.length a = List.length b
  · simp only [show ¬ ((List.length a : Int) ≠ (List.length b : Int)) by omega, decide_false, cond_false, Option.bind_some]
    rw [eqLoop_gen (eqLoop eq z) a b hlen (fun k hk hk' => ?_) ?_]
    · by_cases he : a = b
      · simp only [he, if_true, joinS_inl, decide_true]
      · simp only [he, if_false, joinS_inr, decide_false]
    · simp [eqLoop]
    · simp only [eqLoop, show ((k : Int) < (List.length a : Int)) by omega, decide_true, cond_true, idx_run hk, rd_nat hk, rd_nat hk', idx_run hk', h _ _ (hel k hk), Option.bind_some]
      by_cases he : a[k] = b[k]
      · simp only [he, decide_true, Bool.not_true, cond_false, if_true, Option.map_some, wrapSucc (show k < 9223372036854775807 by omega)]
      · simp only [he, decide_false, Bool.not_false, cond_true, if_false, Option.map_some]
  · have hne : a ≠ b := fun h => hlen (by rw [h])
    simp only [show ((List.length a : Int) ≠ (List.length b : Int)) by omega, ne_eq, not_false_eq_true, decide_true, cond_true, hne, decide_false]
theorem eqS0_ok {e : Nat} {t : Ty} [DecidableEq t.D] {z : t.D} : EqOk (.list e t) (eqS0 z) := by
  intro a b hw
  have hw' : wt (.list e t) a = List.length a + (List.map (wt t) a).sum := rfl
  have hl : List.length a ≤ big := by omega
  have hb : big = 1048576 := rfl
  simp only [eqS0]
  by_cases hlen : List.length a = List.length b
  · simp only [show ¬ ((List.length a : Int) ≠ (List.length b : Int)) by omega, decide_false, cond_false, Option.bind_some]
    rw [eqLoop_gen (eqLoop0 z) a b hlen (fun k hk hk' => ?_) ?_]
    · by_cases he : a = b
      · simp only [he, if_true, joinS_inl, decide_true]
      · simp only [he, if_false, joinS_inr, decide_false]
    · simp [eqLoop0]
    · simp only [eqLoop0, show ((k : Int) < (List.length a : Int)) by omega, decide_true, cond_true, idx_run hk, rd_nat hk, rd_nat hk', idx_run hk']
      by_cases he : a[k] = b[k]
      · simp only [he, ne_eq, not_true_eq_false, decide_false, cond_false, if_true, Option.map_some, wrapSucc (show k < 9223372036854775807 by omega)]
      · simp only [he, ne_eq, not_false_eq_true, decide_true, cond_true, if_false, Option.map_some]
  · have hne : a ≠ b := fun h => hlen (by rw [h])
    simp only [show ((List.length a : Int) ≠ (List.length b : Int)) by omega, ne_eq, not_false_eq_true, decide_true, cond_true, hne, decide_false]
end Go.Proofs.YtgkgfpbdodafaaaGreatDoorE
/- Plain lemmas: what is written through a result is read back. No condition beyond each lemma's own. -/
namespace Go.Proofs.YtgkgfpbdodafaaaGreatDoorE
set_option linter.all false
theorem btsSize (l : List Int) : (bts l).size = l.length := by simp [bts, ByteArray.size]
theorem nzRun {α : Type} {b : Int} {K : Option α} (h : b ≠ 0) : (Cnd.nz b).run K = K := by
  simp only [Cnd.run]; rw [if_neg h]
def MkOk (t : Ty) (mark : t.D → Int → Option (Int × t.D × Unit)) (held : t.D → Int → Option (Int × Unit)) : Prop :=
  ∀ (a : t.D) (k : Nat), k + 16 * wt t a < 4611686018427387904 → ∃ (k' : Nat) (a' : t.D), mark a (k : Int) = some ((k' : Int), a', ()) ∧ k ≤ k' ∧ k' ≤ k + 16 * wt t a ∧ held a' (k : Int) = some ((k' : Int), ())
theorem sum_set {D : Type} (f : D → Nat) : ∀ (l : List D) (i : Nat) (x : D) (h : i < l.length), ((l.set i x).map f).sum + f l[i] = (l.map f).sum + f x
  | a :: l, 0, x, _ => by simp only [List.set_cons_zero, List.map_cons, List.sum_cons, List.getElem_cons_zero]; omega
  | a :: l, i + 1, x, h => by
    simp only [List.set_cons_succ, List.map_cons, List.sum_cons, List.getElem_cons_succ]
    have := sum_set f l i x (by simpa using h)
    omega
theorem markS_gen {t : Ty} {e : Nat} (ms : Int × Int × List t.D × Unit → Option ((Int × Int × List t.D × Unit) ⊕ (Int × List t.D × Unit))) (hs : List t.D × Int × Int × Unit → Option ((List t.D × Int × Int × Unit) ⊕ ((Int × Unit) ⊕ (Int × Unit))))
    (Hm : ∀ (l : List t.D) (i k : Nat) (hi : i < l.length), l.length < 4611686018427387904 → k + 16 * (1 + wt t l[i]) < 4611686018427387904 → ∃ (k' : Nat) (e' : t.D), ms ((k : Int), (i : Int), l, ()) = some (.inl ((k' : Int), ((i + 1 : Nat) : Int), l.set i e', ())) ∧ k ≤ k' ∧ k' ≤ k + 16 * (1 + wt t l[i]) ∧
      ∀ (l2 : List t.D) (h2 : i < l2.length), l2[i] = e' → l2.length < 4611686018427387904 → hs (l2, (k : Int), (i : Int), ()) = some (.inl (l2, (k' : Int), ((i + 1 : Nat) : Int), ())))
    (Hme : ∀ (l : List t.D) (k : Nat), ms ((k : Int), (l.length : Int), l, ()) = some (.inr ((k : Int), l, ())))
    (Hhe : ∀ (l : List t.D) (k : Nat), hs (l, (k : Int), (l.length : Int), ()) = some (.inr (.inl ((k : Int), ())))) :
    MkOk (.list e t) (fun a k => joinP ((some (k, (0 : Int), a, ())).bind fun x => loopF ms x) fun x => some (x.1, x.2.1, ())) (fun a k => joinS ((some (a, k, (0 : Int), ())).bind fun x => loopF hs x) fun x => some (x.1, ())) := by
  intro a k hk
  have hwt : wt (.list e t) a = a.length + (a.map (wt t)).sum := rfl
  rw [hwt] at hk
  have key : ∀ (m i : Nat) (k : Nat) (l : List t.D), i + m = l.length → k + 16 * (m + ((l.drop i).map (wt t)).sum) < 4611686018427387904 → l.length < 4611686018427387904 →
      ∃ (k' : Nat) (l' : List t.D), loopF ms ((k : Int), (i : Int), l, ()) = some ((k' : Int), l', ()) ∧ l'.length = l.length ∧ l'.take i = l.take i ∧ k ≤ k' ∧ k' ≤ k + 16 * (m + ((l.drop i).map (wt t)).sum) ∧
        loopF hs (l', (k : Int), (i : Int), ()) = some (.inl ((k' : Int), ())) := by
    intro m
    induction m with
    | zero =>
      intro i k l hi _ _
      obtain rfl : i = l.length := by omega
      exact ⟨k, l, loopF_inr (Hme l k), rfl, rfl, Nat.le_refl _, by omega, loopF_inr (Hhe l k)⟩
    | succ m ih =>
      intro i k l hi hb hl
      have hil : i < l.length := by omega
      have hsum := sum_drop (f := wt t) hil
      obtain ⟨k1, e', a1, a2, a3, a4⟩ := Hm l i k hil hl (by omega)
      have hdrop : (l.set i e').drop (i + 1) = l.drop (i + 1) := by rw [List.drop_set_of_lt (by omega)]
      obtain ⟨k2, l', b1, b2, b3, b4, b5, b6⟩ := ih (i + 1) k1 (l.set i e') (by rw [List.length_set]; omega) (by rw [hdrop]; omega) (by rw [List.length_set]; exact hl)
      rw [List.length_set] at b2
      have hi' : i < l'.length := by omega
      have hget : l'[i] = e' := by
        have h1 : (l'.take (i + 1))[i]? = some l'[i] := by rw [List.getElem?_take_of_lt (by omega), List.getElem?_eq_getElem hi']
        rw [b3, List.getElem?_take_of_lt (by omega), List.getElem?_set_self hil] at h1
        exact (Option.some.inj h1).symm
      have htake : l'.take i = l.take i := by
        have := congrArg (List.take i) b3
        rw [List.take_take, List.take_take, Nat.min_eq_left (by omega), List.take_set_of_le (by omega)] at this
        exact this
      refine ⟨k2, l', by rw [loopF_inl a1]; exact b1, b2, htake, by omega, by rw [hdrop] at b5; omega, ?_⟩
      rw [loopF_inl (a4 l' hi' hget (by omega))]
      exact b6
  obtain ⟨k', l', h1, h2, h3, h4, h5, h6⟩ := key a.length 0 k a (by omega) (by simpa using hk) (by omega)
  simp only [List.drop_zero] at h5
  refine ⟨k', l', ?_, h4, by rw [hwt]; exact h5, ?_⟩
  · have h1' : loopF ms ((k : Int), (0 : Int), a, ()) = _ := h1
    simp only [Option.bind_some, h1', joinP_some]
  · have h6' : loopF hs (l', (k : Int), (0 : Int), ()) = _ := h6
    simp only [Option.bind_some, h6', joinS_inl]
end Go.Proofs.YtgkgfpbdodafaaaGreatDoorE

/- Which programs are right: both reckonings answer the same. No condition beyond each lemma's own. -/
import Derived.Test.YtgkgfpbdodafaaaGreatDoorLawFnOk
set_option linter.all false
namespace Go.Proofs.YtgkgfpbdodafaaaGreatDoorE
set_option linter.all false
set_option maxRecDepth 100000
def runc {γ D : Type} (q : γ → D → Bool) (g : γ → D → γ) : List D → γ → Option γ
  | [], c => some c
  | x :: l, c => bif q c x then runc q g l (g c x) else none
theorem runc_app {γ D : Type} (q : γ → D → Bool) (g : γ → D → γ) : ∀ (a b : List D) (c : γ), runc q g (a ++ b) c = (runc q g a c).bind (runc q g b)
  | [], b, c => rfl
  | x :: a, b, c => by
    simp only [List.cons_append, runc]
    cases q c x
    · rfl
    · simp only [cond_true]; exact runc_app q g a b _
theorem loopF_run {α β γ D : Type} {step : β → Option (β ⊕ α)} (l : List D) (q : γ → D → Bool) (g : γ → D → γ) (S : Nat → γ → β) (r : γ → α) (rf : α) (I : Nat → γ → Prop)
    (H : ∀ k (h : k < l.length) c, I k c → (step (S k c) = bif q c l[k] then some (.inl (S (k + 1) (g c l[k]))) else some (.inr rf)) ∧ (q c l[k] = true → I (k + 1) (g c l[k])))
    (He : ∀ c, I l.length c → step (S l.length c) = some (.inr (r c))) (c : γ) (hc : I 0 c) :
    loopF step (S 0 c) = some ((runc q g l c).elim rf r) := by
  have key : ∀ m k c, k + m = l.length → I k c → loopF step (S k c) = some ((runc q g (l.drop k) c).elim rf r) := by
    intro m
    induction m with
    | zero =>
      intro k c hk hI
      obtain rfl : k = l.length := by omega
      rw [loopF_inr (He c hI), List.drop_length]; rfl
    | succ m ih =>
      intro k c hk hI
      have hkl : k < l.length := by omega
      obtain ⟨h1, h2⟩ := H k hkl c hI
      rw [List.drop_eq_getElem_cons hkl, runc]
      cases hq : q c l[k]
      · rw [hq, cond_false] at h1
        rw [loopF_inr h1]; rfl
      · rw [hq, cond_true] at h1
        rw [loopF_inl h1, ih (k + 1) _ (by omega) (h2 hq)]; rfl
  have := key l.length 0 c (by omega) hc
  rwa [List.drop_zero] at this
theorem range_rd {α : Type} (l : List α) (z : α) : (List.range l.length).map (fun (i : Nat) => rd l (i : Int) z) = l := by
  apply List.ext_getElem
  · simp
  · intro i h1 h2
    rw [List.getElem_map, List.getElem_range, rd_nat h2]
def roots (x : FN) : List Int := x.2.2.2.1 :: bif decide (0 ≤ x.2.2.2.2) then [x.2.2.2.2] else []
def rootsL : List FN → List Int
  | [] => []
  | x :: l => roots x ++ rootsL l
def add (f : Nat → Int) (y : Int) : Nat → Int := upd f y.toNat (f y.toNat + 1000)
theorem adds (rs : List Int) (hr : ∀ y ∈ rs, (0 : Int) ≤ y) : ∀ f : Nat → Int, rs.foldl add f = fun t => f t + 1000 * (cn rs t : Int) := by
  induction rs with
  | nil => intro f; funext t; simp [cn]
  | cons y rs ih =>
    intro f
    rw [List.foldl_cons, ih (fun z hz => hr z (List.mem_cons_of_mem _ hz))]
    funext t
    have hy := hr y (List.mem_cons_self ..)
    simp only [add, upd, cn]
    by_cases e : t = y.toNat
    · have : y = (t : Int) := by omega
      rw [if_pos e, decide_eq_true this, cond_true, ← e]; omega
    · have : ¬ y = (t : Int) := by omega
      rw [if_neg e, decide_eq_false this, cond_false]; omega
theorem fok_roots {p : PROG} {i : Int} (h : fokB p i = true) : ∀ y ∈ roots (rd p.2 i zF), (0 : Int) ≤ y ∧ y < (p.1.length : Int) := by
  simp only [fokB, fnI, bodyOk, Bool.and_eq_true, decide_eq_true_eq] at h
  obtain ⟨⟨_, _, _, _, ⟨hb, _⟩, hr⟩, _⟩ := h
  intro y hy
  unfold roots at hy
  rcases List.mem_cons.1 hy with rfl | hy
  · omega
  · cases hd : decide ((0 : Int) ≤ (rd p.2 i zF).2.2.2.2)
    · rw [hd, cond_false] at hy; cases hy
    · rw [hd, cond_true] at hy
      obtain rfl := List.mem_singleton.1 hy
      have hd := of_decide_eq_true hd
      unfold retOk at hr
      cases h0 : decide ((rd p.2 i zF).2.2.1 = 0)
      · rw [h0, cond_false, Bool.and_eq_true, decide_eq_true_eq] at hr
        omega
      · rw [h0, cond_true, decide_eq_true_eq] at hr
        omega
def allF (p : PROG) : Bool := (List.range p.2.length).all fun i => fokB p (i : Int)
def gS (p : PROG) (f : Nat → Int) (i : Nat) : Nat → Int := (roots (rd p.2 (i : Int) zF)).foldl add f
theorem runc_const {γ D : Type} (q : D → Bool) (g : γ → D → γ) : ∀ (l : List D) (c : γ), runc (fun _ x => q x) g l c = bif l.all q then some (l.foldl g c) else none
  | [], c => rfl
  | x :: l, c => by
    simp only [runc, List.all_cons, List.foldl_cons]
    cases q x
    · rfl
    · simp only [cond_true, Bool.true_and]; exact runc_const q g l _
theorem foldl_roots (p : PROG) : ∀ (l : List FN) (f : Nat → Int), l.foldl (fun f x => (roots x).foldl add f) f = (rootsL l).foldl add f
  | [], f => rfl
  | x :: l, f => by
    simp only [List.foldl_cons, rootsL, List.foldl_append]
    exact foldl_roots p l _
theorem gS_all (p : PROG) (f : Nat → Int) : (List.range p.2.length).foldl (gS p) f = (rootsL p.2).foldl add f := by
  have h := List.foldl_map (f := fun i : Nat => rd p.2 (i : Int) zF) (g := fun (f : Nat → Int) x => (roots x).foldl add f) (l := List.range p.2.length) (init := f)
  rw [range_rd] at h
  rw [foldl_roots p] at h
  exact h.symm
theorem fnsS (p : PROG) (hp : FineP p) (f : Nat → Int) (hf : BI 1000000000 f) :
    loopF L1_spec_ProgramOk (tb p.1.length f, (0 : Int), p, ()) = some (bif allF p then .inl (tb p.1.length ((rootsL p.2).foldl add f), ()) else .inr (false, ())) := by
  have hl := hp.f
  have hr : (List.range p.2.length).length = p.2.length := List.length_range
  have h := loopF_run (step := L1_spec_ProgramOk) (List.range p.2.length) (fun _ (i : Nat) => fokB p (i : Int)) (gS p) (fun i f => (tb p.1.length f, (i : Int), p, ())) (fun f => .inl (tb p.1.length f, ())) (.inr (false, ())) (fun k f => BI (1000000000 + (k : Int) * 2000) f) (fun k hk f hf => by
    have hk' : k < p.2.length := by omega
    rw [List.getElem_range]
    have wk := wrapSucc (show k < 9223372036854775807 by omega)
    refine ⟨?_, fun hq => ?_⟩
    · simp only [L1_spec_ProgramOk, lt_cast hk', decide_true, cond_true, spec_Fn_ok p hp k hk', Option.bind_some, idx_run hk']
      cases hq : fokB p (k : Int)
      · simp only [Bool.not_false, cond_true, cond_false, Option.map_some]
      · have hro := fok_roots hq
        simp only [Bool.not_true, cond_false, cond_true, gS]
        generalize rd p.2 (k : Int) zF = x at hro
        obtain ⟨b0, b1⟩ := hro x.2.2.2.1 (List.mem_cons_self ..)
        obtain ⟨b, hb⟩ : ∃ b : Nat, x.2.2.2.1 = (b : Int) := ⟨x.2.2.2.1.toNat, by omega⟩
        have hbl : b < p.1.length := by omega
        have hbt : b < (tb p.1.length f).length := by rw [tb_len]; exact hbl
        have hfb := hf b
        have w1 : IntKind.wrap .i64 (f b + 1000) = f b + 1000 := wrap64 (by omega) (by omega)
        by_cases hc : (0 : Int) ≤ x.2.2.2.2
        · obtain ⟨c0, c1⟩ := hro x.2.2.2.2 (by unfold roots; rw [decide_eq_true hc]; simp)
          obtain ⟨c, hcc⟩ : ∃ c : Nat, x.2.2.2.2 = (c : Int) := ⟨x.2.2.2.2.toNat, by omega⟩
          have hcl : c < p.1.length := by omega
          have hct : ∀ f, c < (tb p.1.length f).length := fun f => by rw [tb_len]; exact hcl
          have hfc := hf c
          have hu : 0 ≤ upd f b (f b + 1000) c ∧ upd f b (f b + 1000) c ≤ 2000000000000 := by
            unfold upd; split <;> omega
          have w2 : IntKind.wrap .i64 (upd f b (f b + 1000) c + 1000) = upd f b (f b + 1000) c + 1000 := wrap64 (by omega) (by omega)
          simp only [hb, hcc, idx_run hbt, tb_rd hbl, w1, Int.toNat_natCast, tb_set hbl, bindD, show (0 : Int) ≤ (c : Int) by omega, decide_true, cond_true, idx_run (hct _), tb_rd hcl, w2, tb_set hcl, joinP_some, Option.map_some, wk, roots, List.foldl_cons, List.foldl_nil, add]
        · simp only [hb, hc, idx_run hbt, tb_rd hbl, w1, Int.toNat_natCast, tb_set hbl, bindD, decide_false, cond_false, joinP_some, Option.map_some, wk, roots, List.foldl_cons, List.foldl_nil, add]
    · have hro := fok_roots hq
      unfold gS
      rw [adds _ (fun y hy => (hro y hy).1)]
      intro t
      have h1 := hf t
      have h2 := cn_le (roots (rd p.2 (k : Int) zF)) t
      have h3 : (roots (rd p.2 (k : Int) zF)).length ≤ 2 := by
        unfold roots
        cases decide ((0 : Int) ≤ (rd p.2 (k : Int) zF).2.2.2.2) <;> simp
      simp only
      omega) (fun f hf => by
    rw [hr]
    simp only [L1_spec_ProgramOk, not_lt_self, decide_false, cond_false, Option.map_some]) f (by simpa using hf)
  have h' : loopF L1_spec_ProgramOk (tb p.1.length f, (0 : Int), p, ()) = _ := h
  rw [h', runc_const, gS_all]
  unfold allF
  cases (List.range p.2.length).all fun i => fokB p (i : Int) <;> rfl
def rq (f : Nat → Int) (y : Int) : Bool := decide (y < 0) || decide (f y.toNat = 0)
def rg (f : Nat → Int) (y : Int) : Nat → Int := bif decide (y < 0) then f else upd f y.toNat (-1)
def two (x : FN) : List Int := [x.2.2.2.1, x.2.2.2.2]
theorem two_roots (x : FN) (hb : 0 ≤ x.2.2.2.1) (f : Nat → Int) : runc rq rg (two x) f = runc rq rg (roots x) f := by
  unfold two roots
  by_cases hc : (0 : Int) ≤ x.2.2.2.2
  · rw [decide_eq_true hc]; rfl
  · rw [decide_eq_false hc, cond_false]
    simp only [runc]
    cases rq f x.2.2.2.1
    · rfl
    · have h1 : rq (rg f x.2.2.2.1) x.2.2.2.2 = true := by
        unfold rq; rw [decide_eq_true (show x.2.2.2.2 < 0 by omega)]; rfl
      have h2 : rg (rg f x.2.2.2.1) x.2.2.2.2 = rg f x.2.2.2.1 := by
        unfold rg; rw [decide_eq_true (show x.2.2.2.2 < 0 by omega)]; rfl
      simp only [cond_true, h1, h2]
theorem markI (p : PROG) (L : List FN) (n k : Int) (x : FN) (hr : ∀ y ∈ two x, y < (p.1.length : Int)) (f : Nat → Int) :
    loopF L3_impl_ProgramOk (tb p.1.length f, L, n, k, two x, ((two x).length : Int), (0 : Int), p, ()) = some ((runc rq rg (two x) f).elim (.inr (.inr (.inr (.inr (false, ()))))) fun f => .inl (tb p.1.length f, L, n, k, p, ())) := by
  exact loopF_run (step := L3_impl_ProgramOk) (two x) rq rg (fun j f => (tb p.1.length f, L, n, k, two x, ((two x).length : Int), (j : Int), p, ())) (fun f => .inl (tb p.1.length f, L, n, k, p, ())) (.inr (.inr (.inr (.inr (false, ()))))) (fun _ _ => True) (fun j hj f _ => by
    refine ⟨?_, fun _ => trivial⟩
    have hy := hr _ (List.getElem_mem hj)
    have wj := wrapSucc (show j < 9223372036854775807 by have : (two x).length = 2 := rfl; omega)
    simp only [L3_impl_ProgramOk, lt_cast hj, decide_true, cond_true, idx_run hj, rd_nat hj]
    generalize (two x)[j] = y at hy
    by_cases hn : y < 0
    · simp only [rq, rg, hn, decide_true, cond_true, Option.map_some, joinS_inl, wj, Bool.true_or]
    · obtain ⟨t, rfl⟩ : ∃ t : Nat, y = (t : Int) := ⟨y.toNat, by omega⟩
      have htl : t < p.1.length := by omega
      have htt : t < (tb p.1.length f).length := by rw [tb_len]; exact htl
      by_cases h0 : f t = 0
      · simp only [rq, rg, hn, decide_false, cond_false, idx_run htt, tb_rd htl, h0, ne_eq, not_true_eq_false, decide_true, Int.toNat_natCast, tb_set htl, bindD, Option.map_some, joinS_inl, wj, Bool.or_true, cond_true]
      · simp only [rq, rg, hn, decide_false, cond_false, idx_run htt, tb_rd htl, h0, ne_eq, not_false_eq_true, decide_true, Int.toNat_natCast, Option.map_some, joinS_inr, cond_true, Bool.or_self]) (fun f _ => by
    simp only [L3_impl_ProgramOk, not_lt_self, decide_false, cond_false, Option.map_some]) f trivial
def qI (p : PROG) (f : Nat → Int) (i : Nat) : Bool := fokB p (i : Int) && (runc rq rg (roots (rd p.2 (i : Int) zF)) f).isSome
def gI (p : PROG) (f : Nat → Int) (i : Nat) : Nat → Int := (runc rq rg (roots (rd p.2 (i : Int) zF)) f).getD f
theorem fnsI (p : PROG) (hp : FineP p) (f : Nat → Int) :
    loopF L4_impl_ProgramOk (tb p.1.length f, p.2, (p.2.length : Int), (0 : Int), p, ()) = some ((runc (qI p) (gI p) (List.range p.2.length) f).elim (.inr (false, ())) fun f => .inl (tb p.1.length f, ())) := by
  have hl := hp.f
  have hr : (List.range p.2.length).length = p.2.length := List.length_range
  have h := loopF_run (step := L4_impl_ProgramOk) (List.range p.2.length) (qI p) (gI p) (fun i f => (tb p.1.length f, p.2, (p.2.length : Int), (i : Int), p, ())) (fun f => .inl (tb p.1.length f, ())) (.inr (false, ())) (fun _ _ => True) (fun k hk f _ => by
    have hk' : k < p.2.length := by omega
    rw [List.getElem_range]
    have wk := wrapSucc (show k < 9223372036854775807 by omega)
    refine ⟨?_, fun _ => trivial⟩
    have hx := hp.a _ (List.getElem_mem hk')
    have hro := fok_roots (p := p) (i := (k : Int))
    have hfb : fokB p (k : Int) = (fnI p.1 p.2[k] && decide (fnAt p.2 p.2[k].1 = (k : Int))) := by unfold fokB; rw [rd_nat hk']
    simp only [L4_impl_ProgramOk, lt_cast hk', decide_true, cond_true, idx_run hk', rd_nat hk', impl_Fn_ok p hp.n _ hx, Option.bind_some, qI, gI, hfb]
    rw [rd_nat hk', hfb] at hro
    generalize p.2[k] = x at hx hro
    cases hF : fnI p.1 x
    · simp only [Bool.not_false, cond_true, joinP_some, Option.map_some, joinS_inr, Bool.false_and, cond_false]
    · simp only [Bool.not_true, cond_false, impl_FnAt_ok p hp, Option.bind_some, joinP_some, Bool.true_and]
      by_cases hA : fnAt p.2 x.1 = (k : Int)
      · have hro := hro (by rw [hF, decide_eq_true hA]; rfl)
        have hb := hro x.2.2.2.1 (List.mem_cons_self ..)
        have htwo : ∀ y ∈ two x, y < (p.1.length : Int) := fun y hy => by
          rcases List.mem_cons.1 hy with rfl | hy
          · exact hb.2
          · obtain rfl := List.mem_singleton.1 hy
            by_cases hc : (0 : Int) ≤ x.2.2.2.2
            · exact (hro x.2.2.2.2 (by unfold roots; rw [decide_eq_true hc]; simp)).2
            · omega
        have hm := markI p p.2 (p.2.length : Int) (k : Int) x htwo f
        rw [two_roots x hb.1] at hm
        have hm' : loopF L3_impl_ProgramOk (tb p.1.length f, p.2, (p.2.length : Int), (k : Int), [x.2.2.2.1, x.2.2.2.2], (List.length [x.2.2.2.1, x.2.2.2.2] : Int), (0 : Int), p, ()) = _ := hm
        simp only [hA, ne_eq, not_true_eq_false, decide_false, decide_true, cond_false, hm']
        cases runc rq rg (roots x) f with
        | none => simp only [Option.elim_none, joinS_inr, Option.isSome_none, Bool.and_false, Bool.true_and, cond_false]
        | some f' => simp only [Option.elim_some, joinS_inl, Option.map_some, Option.isSome_some, Bool.and_self, Bool.true_and, cond_true, Option.getD_some, wk]
      · simp only [hA, ne_eq, not_false_eq_true, decide_true, decide_false, cond_true, Option.map_some, joinS_inr, Bool.false_and, cond_false]) (fun f _ => by
    rw [hr]
    simp only [L4_impl_ProgramOk, not_lt_self, decide_false, cond_false, Option.map_some]) f trivial
  exact h
theorem runI (p : PROG) : ∀ (is : List Nat) (f : Nat → Int), runc (qI p) (gI p) is f = bif is.all (fun i => fokB p (i : Int)) then runc rq rg (rootsL (is.map fun (i : Nat) => rd p.2 (i : Int) zF)) f else none
  | [], f => rfl
  | i :: is, f => by
    simp only [runc, List.all_cons, List.map_cons, rootsL, runc_app, qI, gI]
    cases fokB p (i : Int)
    · rfl
    · simp only [Bool.true_and]
      cases runc rq rg (roots (rd p.2 (i : Int) zF)) f with
      | none => simp only [Option.isSome_none, cond_false, Option.bind_none]; cases is.all fun i => fokB p (i : Int) <;> rfl
      | some f' => simp only [Option.isSome_some, cond_true, Option.getD_some, Option.bind_some]; exact runI p is f'
def good (b : Int) (l : List Int) : Bool := l.all fun v => decide (v = 1) || decide (v = b)
theorem goodS (l : List Int) (hl : l.length ≤ 1048576) : loopF L2_spec_ProgramOk (l, (0 : Int), ()) = some (bif good 1000 l then .inl () else .inr (false, ())) := by
  exact loopF_all (step := L2_spec_ProgramOk) l (fun v => decide (v = 1) || decide (v = 1000)) (fun k => (l, (k : Int), ())) (.inl ()) (.inr (false, ())) (fun k hk => by
    have wk := wrapSucc (show k < 9223372036854775807 by omega)
    simp only [L2_spec_ProgramOk, lt_cast hk, decide_true, cond_true, idx_run hk, rd_nat hk]
    generalize l[k] = v
    by_cases h1 : v = 1
    · simp only [h1, ne_eq, not_true_eq_false, decide_false, decide_true, cond_false, joinP_some, Option.map_some, wk, Bool.true_or, cond_true]
    · by_cases h2 : v = 1000
      · simp only [h2, show ¬ ((1000 : Int) = 1) by decide, ne_eq, not_true_eq_false, not_false_eq_true, decide_false, decide_true, cond_false, cond_true, joinP_some, Option.map_some, wk, Bool.or_true]
      · simp only [h1, h2, ne_eq, not_false_eq_true, decide_false, decide_true, cond_false, cond_true, joinP_some, Option.map_some, Bool.or_self]) (by
    simp only [L2_spec_ProgramOk, not_lt_self, decide_false, cond_false, Option.map_some])
theorem goodI (l : List Int) (hl : l.length ≤ 1048576) : loopF L5_impl_ProgramOk (l, (l.length : Int), (0 : Int), ()) = some (bif good (-1) l then .inl () else .inr (false, ())) := by
  exact loopF_all (step := L5_impl_ProgramOk) l (fun v => decide (v = 1) || decide (v = -1)) (fun k => (l, (l.length : Int), (k : Int), ())) (.inl ()) (.inr (false, ())) (fun k hk => by
    have wk := wrapSucc (show k < 9223372036854775807 by omega)
    simp only [L5_impl_ProgramOk, lt_cast hk, decide_true, cond_true, idx_run hk, rd_nat hk]
    generalize l[k] = v
    by_cases h1 : v = 1
    · simp only [h1, ne_eq, not_true_eq_false, decide_false, decide_true, cond_false, joinP_some, Option.map_some, wk, Bool.true_or, cond_true]
    · by_cases h2 : v = -1
      · simp only [h2, show ¬ ((-1 : Int) = 1) by decide, ne_eq, not_true_eq_false, not_false_eq_true, decide_false, decide_true, cond_false, cond_true, joinP_some, Option.map_some, wk, Bool.or_true]
      · simp only [h1, h2, ne_eq, not_false_eq_true, decide_false, decide_true, cond_false, cond_true, joinP_some, Option.map_some, Bool.or_self]) (by
    simp only [L5_impl_ProgramOk, not_lt_self, decide_false, cond_false, Option.map_some])
end Go.Proofs.YtgkgfpbdodafaaaGreatDoorE

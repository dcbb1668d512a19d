/- Which words are reached: the program's reckoning and the reference's. No condition beyond each lemma's own. -/
import Derived.Test.YtibccfmlfknhbabDoorLawCopy
set_option linter.all false
namespace Go.Proofs.YtibccfmlfknhbabDoorE
set_option linter.all false
set_option maxRecDepth 100000

def inR (c : CODE) (n : Int) : Bool := decide (0 ≤ n ∧ n ≤ (c.2.2.2.length : Int) - 1)
def cand (c : CODE) (i : Nat) : List Int := bif decide ((rd c.2.2.2 (i : Int) zI).1 = 20) then [] else bif decide ((rd c.2.2.2 (i : Int) zI).1 = 18) then [(rd c.2.2.2 (i : Int) zI).2.2.2.2.1] else bif decide ((rd c.2.2.2 (i : Int) zI).1 = 19) then [((i + 1 : Nat) : Int), (rd c.2.2.2 (i : Int) zI).2.2.2.2.1] else [((i + 1 : Nat) : Int)]
def addS (c : CODE) (o : List Int) (n : Int) : List Int := bif inR c n then (bif o.any (fun y => decide (y = n)) then o else o ++ [n]) else o
def addI (c : CODE) (o : List Int) (n : Int) : List Int := bif inR c n then o ++ [n] else o
def nxS (c : CODE) (i : Nat) : List Int := (cand c i).foldl (addS c) []
def nxI (c : CODE) (i : Nat) : List Int := (cand c i).foldl (addI c) []
theorem cand_len (c : CODE) (i : Nat) : (cand c i).length ≤ 2 := by
  unfold cand
  cases decide ((rd c.2.2.2 (i : Int) zI).1 = 20) <;> cases decide ((rd c.2.2.2 (i : Int) zI).1 = 18) <;> cases decide ((rd c.2.2.2 (i : Int) zI).1 = 19) <;> simp
theorem spec_add (l : List Int) (n : Int) (hl : l.length ≤ 4000000) : spec_l11Add l n = some (bif l.any (fun y => decide (y = n)) then l else l ++ [n], ()) := by
  have h := loopF_any (step := L1_spec_l11Add) l (fun y => decide (y = n)) (fun k => (l, n, (k : Int), ())) (.inr (l, ())) (.inl (l, n, ())) (fun k hk => by
    simp only [L1_spec_l11Add, lt_cast hk, decide_true, cond_true, idx_run hk, rd_nat hk, wrapSucc (show k < 9223372036854775807 by omega)]
    cases decide (l[k] = n) <;> rfl) (by
    simp only [L1_spec_l11Add, not_lt_self, decide_false, cond_false, Option.map_some])
  have h' : loopF L1_spec_l11Add (l, n, (0 : Int), ()) = _ := h
  simp only [spec_l11Add, Option.bind_some, h']
  cases l.any fun y => decide (y = n)
  · simp only [cond_false, joinS_inl]
    rw [le_run (by simp; omega)]
  · simp only [cond_true, joinS_inr]
theorem spec_next (c : CODE) (h : FineC c) (i : Nat) (hi : i < c.2.2.2.length) : spec_Next c (i : Int) = some (nxS c i, ()) := by
  have hw := h.s.w
  have hcl := cand_len c i
  have wi := wrapSucc (show i < 9223372036854775807 by omega)
  have h1 := loopF_fold (step := L1_spec_Next) (cand c i) (addS c) (fun k o => (o, cand c i, (k : Int), c, ())) (fun o => (o, ())) (fun k o => o.length ≤ k) (fun k hk o ho => by
    refine ⟨?_, ?_⟩
    · simp only [L1_spec_Next, lt_cast hk, decide_true, cond_true, idx_run hk, rd_nat hk, len1 hw, sIn, Option.bind_some, wrapSucc (show k < 9223372036854775807 by omega), spec_add o _ (show o.length ≤ 4000000 by omega), addS, inR]
      generalize (cand c i)[k] = n
      have wk := wrapSucc (show k < 9223372036854775807 by omega)
      cases decide (0 ≤ n ∧ n ≤ (c.2.2.2.length : Int) - 1) <;> simp only [cond_true, cond_false, joinP_some, Option.map_some, wk]
    · unfold addS
      cases inR c (cand c i)[k]
      · simp only [cond_false]; omega
      · cases o.any fun y => decide (y = (cand c i)[k])
        · simp only [cond_true, cond_false, List.length_append, List.length_cons, List.length_nil]; omega
        · simp only [cond_true]; omega) (fun o ho => by
    simp only [L1_spec_Next, not_lt_self, decide_false, cond_false, Option.map_some]) [] (Nat.zero_le _)
  have h2 : loopF L1_spec_Next ([], cand c i, (0 : Int), c, ()) = some (nxS c i, ()) := h1.1
  unfold spec_Next
  simp only [len1 hw, sIn, Option.bind_some]
  rw [decide_eq_true (show (0 : Int) ≤ (i : Int) ∧ (i : Int) ≤ (c.2.2.2.length : Int) - 1 by omega)]
  simp only [Bool.not_true, cond_false, idx_run hi, wi]
  unfold cand at h2
  cases e20 : decide ((rd c.2.2.2 (i : Int) zI).1 = 20) <;> cases e18 : decide ((rd c.2.2.2 (i : Int) zI).1 = 18) <;> cases e19 : decide ((rd c.2.2.2 (i : Int) zI).1 = 19) <;> simp only [e20, e18, e19, cond_true, cond_false] at h2 <;> simp only [e20, e18, e19, cond_true, cond_false, joinP_some, Option.bind_some, h2]
theorem impl_next (c : CODE) (h : FineC c) (i : Nat) (hi : i < c.2.2.2.length) : impl_Next c (i : Int) = some (nxI c i, ()) := by
  have hw := h.s.w
  have hcl := cand_len c i
  have wi := wrapSucc (show i < 9223372036854775807 by omega)
  have h1 := loopF_fold (step := L1_impl_Next) (cand c i) (addI c) (fun k o => (o, cand c i, ((cand c i).length : Int), (k : Int), c, ())) (fun o => (o, ())) (fun k o => o.length ≤ k) (fun k hk o ho => by
    refine ⟨?_, ?_⟩
    · have hle : (Cnd.le ((o.length + List.length [(cand c i)[k]]) * 8) 140737488355328).holds := by simp only [Cnd.holds, List.length_cons, List.length_nil]; omega
      simp only [L1_impl_Next, lt_cast hk, decide_true, cond_true, idx_run hk, rd_nat hk, len1 hw, iIn, Option.bind_some, wrapSucc (show k < 9223372036854775807 by omega), addI, inR]
      generalize (cand c i)[k] = n at hle
      rw [le_run hle]
      have wk := wrapSucc (show k < 9223372036854775807 by omega)
      cases decide (0 ≤ n ∧ n ≤ (c.2.2.2.length : Int) - 1) <;> simp only [cond_true, cond_false, joinP_some, Option.map_some, wk]
    · unfold addI
      cases inR c (cand c i)[k]
      · simp only [cond_false]; omega
      · simp only [cond_true, List.length_append, List.length_cons, List.length_nil]; omega) (fun o ho => by
    simp only [L1_impl_Next, not_lt_self, decide_false, cond_false, Option.map_some]) [] (Nat.zero_le _)
  have h2 : loopF L1_impl_Next ([], cand c i, ((cand c i).length : Int), (0 : Int), c, ()) = some (nxI c i, ()) := h1.1
  unfold impl_Next
  simp only [len1 hw, iIn, Option.bind_some]
  rw [decide_eq_true (show (0 : Int) ≤ (i : Int) ∧ (i : Int) ≤ (c.2.2.2.length : Int) - 1 by omega)]
  simp only [Bool.not_true, cond_false, idx_run hi, wi]
  unfold cand at h2
  cases e20 : decide ((rd c.2.2.2 (i : Int) zI).1 = 20) <;> cases e18 : decide ((rd c.2.2.2 (i : Int) zI).1 = 18) <;> cases e19 : decide ((rd c.2.2.2 (i : Int) zI).1 = 19) <;> simp only [e20, e18, e19, cond_true, cond_false] at h2 <;> (try rw [le_run (by simp)]) <;> simp only [e20, e18, e19, cond_true, cond_false, joinP_some, Option.bind_some, List.cons_append, List.nil_append, h2]
def Rng (c : CODE) (n : Int) : Prop := ∃ k : Nat, n = (k : Int) ∧ k < c.2.2.2.length
theorem inR_ok {c : CODE} {n : Int} (h : inR c n = true) : Rng c n := by
  simp only [inR, decide_eq_true_eq] at h
  exact ⟨n.toNat, by omega, by omega⟩
theorem foldl_keep {α β : Type} (P : β → Prop) (g : β → α → β) (hg : ∀ o n, P o → P (g o n)) : ∀ (l : List α) (o : β), P o → P (l.foldl g o)
  | [], o, h => h
  | x :: l, o, h => foldl_keep P g hg l (g o x) (hg o x h)
theorem nxS_in (c : CODE) (i : Nat) : ∀ n ∈ nxS c i, Rng c n :=
  foldl_keep (fun o => ∀ n ∈ o, Rng c n) (addS c) (fun o n ho x hx => by
    unfold addS at hx
    cases hr : inR c n
    · rw [hr, cond_false] at hx; exact ho x hx
    · rw [hr, cond_true] at hx
      cases ha : o.any fun y => decide (y = n)
      · rw [ha, cond_false] at hx
        rcases List.mem_append.1 hx with hx | hx
        · exact ho x hx
        · rw [List.mem_singleton.1 hx]; exact inR_ok hr
      · rw [ha, cond_true] at hx; exact ho x hx) (cand c i) [] (fun n hn => by cases hn)
theorem nxI_in (c : CODE) (i : Nat) : ∀ n ∈ nxI c i, Rng c n :=
  foldl_keep (fun o => ∀ n ∈ o, Rng c n) (addI c) (fun o n ho x hx => by
    unfold addI at hx
    cases hr : inR c n
    · rw [hr, cond_false] at hx; exact ho x hx
    · rw [hr, cond_true] at hx
      rcases List.mem_append.1 hx with hx | hx
      · exact ho x hx
      · rw [List.mem_singleton.1 hx]; exact inR_ok hr) (cand c i) [] (fun n hn => by cases hn)
/-- How many are not marked. -/
def fls : List Bool → Nat
  | [] => 0
  | b :: l => (bif b then 0 else 1) + fls l
theorem fls_set : ∀ (h : List Bool) (n : Nat) (hn : n < h.length), h[n] = false → fls (h.set n true) + 1 = fls h
  | b :: l, 0, _, h0 => by
    have : b = false := h0
    subst this
    simp only [List.set_cons_zero, fls, cond_true, cond_false]; omega
  | b :: l, n + 1, hn, h0 => by
    have := fls_set l n (by simpa using hn) (by simpa using h0)
    simp only [List.set_cons_succ, fls]; omega
abbrev VS := List Bool × List Int
def vis (s : VS) (n : Int) : VS := bif rd s.1 n false then s else (s.1.set n.toNat true, s.2 ++ [n])
theorem vis_inv {W : Nat} {s : VS} (hs : s.1.length = W) {n : Nat} (hn : n < W) : (vis s (n : Int)).1.length = W ∧ (vis s (n : Int)).2.length + fls (vis s (n : Int)).1 = s.2.length + fls s.1 ∧ fls (vis s (n : Int)).1 ≤ fls s.1 := by
  have hl : n < s.1.length := by omega
  unfold vis
  rw [rd_nat hl]
  cases hb : s.1[n]
  · have := fls_set s.1 n hl hb
    simp only [cond_false, Int.toNat_natCast, List.length_set, List.length_append, List.length_cons, List.length_nil]
    omega
  · exact ⟨hs, rfl, Nat.le_refl _⟩
theorem vis_idem {W : Nat} {s : VS} (hs : s.1.length = W) {n : Nat} (hn : n < W) : vis (vis s (n : Int)) (n : Int) = vis s (n : Int) := by
  have hl : n < s.1.length := by omega
  unfold vis
  rw [rd_nat hl]
  cases hb : s.1[n]
  · simp only [cond_false, Int.toNat_natCast]
    rw [rd_nat (by rw [List.length_set]; exact hl), List.getElem_set_self]
    rfl
  · simp only [cond_true]
    rw [rd_nat hl, hb]; rfl
theorem visits (c : CODE) (i : Nat) (s : VS) (hs : s.1.length = c.2.2.2.length) : (nxS c i).foldl vis s = (nxI c i).foldl vis s := by
  have key : ∀ a b : Int, ([a, b].foldl (addS c) []).foldl vis s = ([a, b].foldl (addI c) []).foldl vis s := fun a b => by
    simp only [List.foldl_cons, List.foldl_nil, addS, addI]
    cases ha : inR c a <;> cases hb : inR c b <;> simp only [cond_true, cond_false, List.any_nil, List.nil_append, List.foldl_cons, List.foldl_nil, List.any_cons, Bool.or_false]
    by_cases e : a = b
    · subst e
      obtain ⟨n, rfl, hn⟩ := inR_ok ha
      simp only [decide_true, cond_true, List.foldl_cons, List.foldl_nil, List.cons_append, List.nil_append]
      exact (vis_idem hs hn).symm
    · simp only [e, decide_false, cond_false]
  have key1 : ∀ a : Int, ([a].foldl (addS c) []).foldl vis s = ([a].foldl (addI c) []).foldl vis s := fun a => by
    simp only [List.foldl_cons, List.foldl_nil, addS, addI]
    cases ha : inR c a <;> simp only [cond_true, cond_false, List.any_nil, List.nil_append]
  unfold nxS nxI cand
  cases decide ((rd c.2.2.2 (i : Int) zI).1 = 20) <;> cases decide ((rd c.2.2.2 (i : Int) zI).1 = 18) <;> cases decide ((rd c.2.2.2 (i : Int) zI).1 = 19) <;> simp only [cond_true, cond_false] <;> first | exact key _ _ | exact key1 _ | rfl
theorem vis_pre (a : List Int) : ∀ (ns : List Int) (h : List Bool) (t : List Int), ns.foldl vis (h, a ++ t) = ((ns.foldl vis (h, t)).1, a ++ (ns.foldl vis (h, t)).2)
  | [], h, t => rfl
  | n :: ns, h, t => by
    simp only [List.foldl_cons, vis]
    cases rd h n false
    · simp only [cond_false, List.append_assoc]
      exact vis_pre a ns _ _
    · simp only [cond_true]
      exact vis_pre a ns _ _
def VI (W B F : Nat) (s : VS) : Prop := s.1.length = W ∧ s.2.length + fls s.1 = B ∧ fls s.1 ≤ F
theorem VI.step {W B F : Nat} {s : VS} (h : VI W B F s) {n : Nat} (hn : n < W) : VI W B F (vis s (n : Int)) := by
  obtain ⟨h1, h2, h3⟩ := h
  obtain ⟨g1, g2, g3⟩ := vis_inv h1 hn
  exact ⟨g1, by omega, by omega⟩
theorem inner_S (c : CODE) (i : Int) (ns : List Int) (hns : ∀ n ∈ ns, Rng c n) (hl : ns.length ≤ 1000) (s : VS) {B F : Nat} (hB : B ≤ 4000000) (hs : VI c.2.2.2.length B F s) :
    loopF L1_spec_ReachedWords (s.1, s.2, i, ns, (0 : Int), c, ()) = some ((ns.foldl vis s).1, (ns.foldl vis s).2, i, c, ()) ∧ VI c.2.2.2.length B F (ns.foldl vis s) := by
  have h := loopF_fold (step := L1_spec_ReachedWords) ns vis (fun k s => (s.1, s.2, i, ns, (k : Int), c, ())) (fun s => (s.1, s.2, i, c, ())) (fun _ s => VI c.2.2.2.length B F s) (fun k hk s hs => by
    obtain ⟨n, hn, hlt⟩ := hns _ (List.getElem_mem hk)
    refine ⟨?_, by rw [hn]; exact hs.step hlt⟩
    obtain ⟨h1, h2, h3⟩ := hs
    have hl : n < s.1.length := by omega
    have hle : ∀ {α : Type} {K : Option α}, (Cnd.le ((s.2.length + List.length [(n : Int)]) * 8) 140737488355328).run K = K := fun {α} {K} => le_run (by simp only [List.length_cons, List.length_nil]; omega)
    have wi := wrapSucc (show k < 9223372036854775807 by omega)
    simp only [L1_spec_ReachedWords, lt_cast hk, decide_true, cond_true, idx_run hk, rd_nat hk, hn, idx_run hl, rd_nat hl, vis, Int.toNat_natCast, bindD, hle]
    cases s.1[n] <;> simp only [Bool.not_false, Bool.not_true, cond_true, cond_false, joinP_some, Option.map_some, wi]) (fun s hs => by
    simp only [L1_spec_ReachedWords, not_lt_self, decide_false, cond_false, Option.map_some]) s hs
  exact h
theorem inner_I (c : CODE) (ns : List Int) (hns : ∀ n ∈ ns, Rng c n) (hl : ns.length ≤ 1000) (s : VS) {B F : Nat} (hB : B ≤ 4000000) (hs : VI c.2.2.2.length B F s) :
    loopF L1_impl_ReachedWords (s.1, s.2, ns, (ns.length : Int), (0 : Int), c, ()) = some ((ns.foldl vis s).1, (ns.foldl vis s).2, c, ()) ∧ VI c.2.2.2.length B F (ns.foldl vis s) := by
  have h := loopF_fold (step := L1_impl_ReachedWords) ns vis (fun k s => (s.1, s.2, ns, (ns.length : Int), (k : Int), c, ())) (fun s => (s.1, s.2, c, ())) (fun _ s => VI c.2.2.2.length B F s) (fun k hk s hs => by
    obtain ⟨n, hn, hlt⟩ := hns _ (List.getElem_mem hk)
    refine ⟨?_, by rw [hn]; exact hs.step hlt⟩
    obtain ⟨h1, h2, h3⟩ := hs
    have hl : n < s.1.length := by omega
    have hle : ∀ {α : Type} {K : Option α}, (Cnd.le ((s.2.length + List.length [(n : Int)]) * 8) 140737488355328).run K = K := fun {α} {K} => le_run (by simp only [List.length_cons, List.length_nil]; omega)
    have wi := wrapSucc (show k < 9223372036854775807 by omega)
    simp only [L1_impl_ReachedWords, lt_cast hk, decide_true, cond_true, idx_run hk, rd_nat hk, hn, idx_run hl, rd_nat hl, vis, Int.toNat_natCast, bindD, hle]
    cases s.1[n] <;> simp only [Bool.not_false, Bool.not_true, cond_true, cond_false, joinP_some, Option.map_some, wi]) (fun s hs => by
    simp only [L1_impl_ReachedWords, not_lt_self, decide_false, cond_false, Option.map_some]) s hs
  exact h
theorem fold_len {c : CODE} (g : List Int → Int → List Int) (hg : ∀ o n, (g o n).length ≤ o.length + 1) : ∀ (l o : List Int), (l.foldl g o).length ≤ o.length + l.length
  | [], o => by simp
  | x :: l, o => by
    have h1 := fold_len (c := c) g hg l (g o x)
    have h2 := hg o x
    simp only [List.foldl_cons, List.length_cons]; omega
theorem nx_len (c : CODE) (i : Nat) : (nxS c i).length ≤ 1000 ∧ (nxI c i).length ≤ 1000 := by
  have h := cand_len c i
  have h1 := fold_len (c := c) (addS c) (fun o n => by
    unfold addS; cases inR c n <;> cases (o.any fun y => decide (y = n)) <;> simp) (cand c i) []
  have h2 := fold_len (c := c) (addI c) (fun o n => by
    unfold addI; cases inR c n <;> simp) (cand c i) []
  unfold nxS nxI
  simp only [List.length_nil] at h1 h2
  omega
theorem vis_rng (c : CODE) (ns : List Int) (hns : ∀ n ∈ ns, Rng c n) : ∀ s : VS, (∀ x ∈ s.2, Rng c x) → ∀ x ∈ (ns.foldl vis s).2, Rng c x := by
  induction ns with
  | nil => intro s hs; exact hs
  | cons n ns ih =>
    intro s hs
    rw [List.foldl_cons]
    refine ih (fun m hm => hns m (List.mem_cons_of_mem _ hm)) _ (fun x hx => ?_)
    unfold vis at hx
    cases hb : rd s.1 n false
    · rw [hb, cond_false] at hx
      rcases List.mem_append.1 hx with hx | hx
      · exact hs x hx
      · rw [List.mem_singleton.1 hx]; exact hns n (List.mem_cons_self ..)
    · rw [hb, cond_true] at hx; exact hs x hx
theorem bfs (c : CODE) (hc : FineC c) : ∀ (M : Nat) (h : List Bool) (pre t : List Int), t.length + 2 * fls h ≤ M → h.length = c.2.2.2.length → (∀ x ∈ t, Rng c x) → pre.length + t.length + fls h ≤ 2000000 →
    ∃ res : List Bool, res.length = c.2.2.2.length ∧ loopF L2_spec_ReachedWords (h, pre ++ t, (pre.length : Int), c, ()) = some (res, ()) ∧ loopF L2_impl_ReachedWords (h, t, c, ()) = some (res, ())
  | M, h, pre, [], _, hh, _, _ => by
    refine ⟨h, hh, loopF_inr ?_, loopF_inr rfl⟩
    rw [List.append_nil]
    simp only [L2_spec_ReachedWords, not_lt_self, decide_false, cond_false, Option.map_some]
  | 0, h, pre, x :: t, hM, _, _, _ => by simp at hM
  | M + 1, h, pre, x :: t, hM, hh, ht, hB => by
    obtain ⟨n, rfl, hn⟩ := ht x (List.mem_cons_self ..)
    simp only [List.length_cons] at hM hB
    have hw := hc.s.w
    have hl := nx_len c n
    have hvi : VI c.2.2.2.length (t.length + fls h) (fls h) (h, t) := ⟨hh, rfl, Nat.le_refl _⟩
    have hvs : VI c.2.2.2.length ((pre ++ (n : Int) :: t).length + fls h) (fls h) (h, pre ++ (n : Int) :: t) := ⟨hh, rfl, Nat.le_refl _⟩
    obtain ⟨i1, j1, j2, j3⟩ := inner_I c (nxI c n) (nxI_in c n) hl.2 (h, t) (by omega) hvi
    obtain ⟨s1, _⟩ := inner_S c (pre.length : Int) (nxS c n) (nxS_in c n) hl.1 (h, pre ++ (n : Int) :: t) (by simp only [List.length_append, List.length_cons]; omega) hvs
    have e1 : pre ++ (n : Int) :: t = (pre ++ [(n : Int)]) ++ t := by simp
    rw [visits c n _ hh, e1, vis_pre] at s1
    generalize hs0 : (nxI c n).foldl vis (h, t) = s0 at i1 j1 j2 j3 s1
    have hrng : ∀ x ∈ s0.2, Rng c x := by
      rw [← hs0]
      exact vis_rng c _ (nxI_in c n) _ (fun x hx => ht x (List.mem_cons_of_mem _ hx))
    obtain ⟨res, r1, r2, r3⟩ := bfs c hc M s0.1 (pre ++ [(n : Int)]) s0.2 (by omega) j1 hrng (by simp only [List.length_append, List.length_cons, List.length_nil]; omega)
    refine ⟨res, r1, ?_, ?_⟩
    · rw [← r2]
      refine loopF_inl ?_
      have hp : pre.length < (pre ++ (n : Int) :: t).length := by simp
      have hg : rd (pre ++ (n : Int) :: t) (pre.length : Int) (0 : Int) = (n : Int) := by rw [rd_nat hp]; simp
      have e2 : ((pre ++ [(n : Int)]).length : Int) = ((pre.length + 1 : Nat) : Int) := by simp
      simp only [L2_spec_ReachedWords, lt_cast hp, decide_true, cond_true, idx_run hp, hg, spec_next c hc n hn, Option.bind_some, wrapSucc (show pre.length < 9223372036854775807 by omega), e2]
      rw [e1, s1]
      simp only [joinP_some, Option.map_some, wrapSucc (show pre.length < 9223372036854775807 by omega)]
    · rw [← r3]
      refine loopF_inl ?_
      have hp : 0 < ((n : Int) :: t).length := by simp
      have h0 : (0 : Int) < (((n : Int) :: t).length : Int) := by simp
      have hg : rd ((n : Int) :: t) (0 : Int) (0 : Int) = (n : Int) := rfl
      have hi : ∀ {α : Type} {K : Option α}, (Cnd.idx (0 : Int) (List.length ((n : Int) :: t))).run K = K := fun {α} {K} => idx_run (k := 0) hp
      have hcut : ∀ {α : Type} {K : Option α}, (Cnd.cut (1 : Int) (List.length ((n : Int) :: t) : Int) (List.length ((n : Int) :: t))).run K = K := fun {α} {K} => by
        simp only [Cnd.run]
        rw [if_pos ⟨by omega, by simp only [List.length_cons]; omega, by omega⟩]
      have hsub : lsub ((n : Int) :: t) (1 : Int) (List.length ((n : Int) :: t) : Int) = t := by simp [lsub]
      simp only [L2_impl_ReachedWords, h0, decide_true, cond_true, hi, hcut, hg, impl_next c hc n hn, Option.bind_some, hsub]
      have i1' : loopF L1_impl_ReachedWords (h, t, nxI c n, ((nxI c n).length : Int), (0 : Int), c, ()) = _ := i1
      rw [i1']
      simp only [joinP_some, Option.map_some]
theorem fls_rep : ∀ n : Nat, fls (List.replicate n false) = n
  | 0 => rfl
  | n + 1 => by simp only [List.replicate_succ, fls, cond_false, fls_rep n]; omega
theorem reach (c : CODE) (hc : FineC c) (hok : codeOk c = true) : ∃ R : List Bool, R.length = c.2.2.2.length ∧ spec_ReachedWords c = some (R, ()) ∧ impl_ReachedWords c = some (R, ()) := by
  have hw := hc.s.w
  have h1 : 1 ≤ c.2.2.2.length := by
    simp only [codeOk, Bool.and_eq_true, decide_eq_true_eq] at hok
    exact hok.2.2.2.1.1
  have hz : 0 < (List.replicate c.2.2.2.length false).length := by simp; omega
  have hf := fls_set (List.replicate c.2.2.2.length false) 0 hz (by simp)
  rw [fls_rep] at hf
  obtain ⟨res, r1, r2, r3⟩ := bfs c hc (2 * c.2.2.2.length + 1) ((List.replicate c.2.2.2.length false).set 0 true) [] [(0 : Int)] (by simp only [List.length_cons, List.length_nil]; omega) (by simp) (fun x hx => by
    rw [List.mem_singleton.1 hx]; exact ⟨0, rfl, by omega⟩) (by simp only [List.length_cons, List.length_nil]; omega)
  have r2' : loopF L2_spec_ReachedWords ((List.replicate c.2.2.2.length false).set 0 true, [(0 : Int)], (0 : Int), c, ()) = _ := r2
  have hb : ∀ {α : Type} {K : Option α}, (Cnd.both (Cnd.nn (c.2.2.2.length : Int)) (Cnd.le (c.2.2.2.length * 1) 140737488355328)).run K = K := fun {α} {K} => by
    simp only [Cnd.run]
    rw [if_pos (by omega), if_pos (by omega)]
  have hi : ∀ {α : Type} {K : Option α}, (Cnd.idx (0 : Int) (List.length (List.replicate c.2.2.2.length false))).run K = K := fun {α} {K} => idx_run (k := 0) hz
  refine ⟨res, r1, ?_, ?_⟩
  · simp only [spec_ReachedWords, spec_CodeOk_ok c hc, hok, Option.bind_some, Bool.not_true, cond_false, Int.toNat_natCast, hb, hi, bindD, Int.toNat_zero, r2', joinP_some]
  · simp only [impl_ReachedWords, impl_CodeOk_ok c hc, hok, Option.bind_some, Bool.not_true, cond_false, Int.toNat_natCast, hb, hi, bindD, Int.toNat_zero, r3, joinP_some]
end Go.Proofs.YtibccfmlfknhbabDoorE

/- Copies of codes, and that jumps lead to words. No condition beyond each lemma's own. -/
import Derived.Test.YtibccfmlfknhbabDoorLawCodeW
set_option linter.all false
namespace Go.Proofs.YtibccfmlfknhbabDoorE
set_option linter.all false
set_option maxRecDepth 100000
theorem nil_le {α β : Type} {l : List α} {n m : Nat} {K : Option β} (h : l.length * n ≤ m) : (Cnd.le ((List.length ([] : List α) + l.length) * n) m).run K = K := by
  rw [le_run]; simpa using h
theorem ins_eta (w : INS) : ((w.1, (w.2.1, (w.2.2.1, (w.2.2.2.1, (w.2.2.2.2.1, (w.2.2.2.2.2.1, w.2.2.2.2.2.2)))))) : INS) = w := rfl
theorem spec_words (l : List INS) (hl : l.length ≤ 1048576) (ha : ∀ w ∈ l, (w : INS).2.2.2.2.2.2.length ≤ 1048576) : spec_l11Words l = some (l, ()) := by
  have h := loopF_push (step := L1_spec_l11Words) l (fun w => w) (fun k o => (l, o, (k : Int), ())) (fun o => (o, ())) (fun k hk o ho => by
    have h1 := ha _ (List.getElem_mem hk)
    simp only [L1_spec_l11Words, lt_cast hk, decide_true, cond_true, idx_run hk, rd_nat hk, List.nil_append, Option.map_some, wrapSucc (show k < 9223372036854775807 by omega)]
    rw [nil_le (by omega), le_run (by rw [ho]; simp; omega)]) (fun o ho => by
    simp only [L1_spec_l11Words, not_lt_self, decide_false, cond_false, Option.map_some])
  have h' : loopF L1_spec_l11Words (l, [], (0 : Int), ()) = _ := h
  simp only [spec_l11Words, Option.bind_some, h', joinP_some, List.map_id']
theorem spec_copy (c : CODE) (h : FineC c) : spec_l11Copy c = some (c, ()) := by
  have h1 := h.s.l
  simp only [spec_l11Copy, spec_words _ h.s.w h.a, Option.bind_some, List.nil_append]
  rw [nil_le (by omega)]
theorem impl_ints (l : List Int) (h : l.length ≤ 1048576) : impl_copyInts l = some (l, ()) := by
  simp only [impl_copyInts, List.nil_append]
  rw [nil_le (by omega)]
theorem impl_copy (c : CODE) (h : FineC c) : impl_copyCode c = some (c, ()) := by
  have hl := h.s.w
  have h1 := h.s.l
  have hp := loopF_push (step := L1_impl_copyCode) c.2.2.2 (fun w => w) (fun k o => (o, c.2.2.2, (c.2.2.2.length : Int), (k : Int), c, ((⟨#[]⟩ : ByteArray), ((0 : Int), ([], []))), ())) (fun o => (o, c, ((⟨#[]⟩ : ByteArray), ((0 : Int), ([], []))), ())) (fun k hk o ho => by
    have h1 := h.a _ (List.getElem_mem hk)
    simp only [L1_impl_copyCode, lt_cast hk, decide_true, cond_true, idx_run hk, rd_nat hk, impl_ints _ h1, Option.bind_some, Option.map_some, wrapSucc (show k < 9223372036854775807 by omega)]
    rw [le_run (by rw [ho]; simp; omega)]) (fun o ho => by
    simp only [L1_impl_copyCode, not_lt_self, decide_false, cond_false, Option.map_some])
  have hp' : loopF L1_impl_copyCode ([], c.2.2.2, (c.2.2.2.length : Int), (0 : Int), (c.1, (c.2.1, (c.2.2.1, c.2.2.2))), ((⟨#[]⟩ : ByteArray), ((0 : Int), ([], []))), ()) = _ := hp
  simp only [impl_copyCode, impl_ints _ h1, Option.bind_some, hp', joinP_some, List.map_id']

abbrev zI : INS := ((0 : Int), ((0 : Int), ((0 : Int), ((0 : Int), ((0 : Int), ((⟨#[]⟩ : ByteArray), []))))))
/-- Jumps lead to words. -/
def Jmp (l : List INS) : Prop := ∀ w ∈ l, (w : INS).1 = 18 ∨ (w : INS).1 = 19 → ∃ t : Nat, (w : INS).2.2.2.2.1 = (t : Int) ∧ t < l.length
theorem jmp_of {c : CODE} (h : codeOk c = true) : Jmp c.2.2.2 := by
  intro w hw hj
  simp only [codeOk, Bool.and_eq_true, List.all_eq_true] at h
  have h1 := h.2.2.2.2.2.2 w hw
  simp only [wordOk, Bool.and_eq_true] at h1
  have h2 := h1.2.2.2.2.1
  simp only [okN] at h2
  have hne : ¬ w.1 = 1 := by omega
  have hd : (decide (w.1 = 18) || decide (w.1 = 19)) = true := by simpa using hj
  rw [decide_eq_false hne, hd, cond_false, cond_true, decide_eq_true_eq] at h2
  generalize hn : (w.2.2.2.2.1 : Int) = n at h2
  exact ⟨n.toNat, by omega, by omega⟩
end Go.Proofs.YtibccfmlfknhbabDoorE

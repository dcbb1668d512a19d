/- What is said of a program that came in: its sizes. No condition beyond each lemma's own. -/
import Derived.Test.YtgkgfpbdodafaaaGreatDoorLawDeep
set_option linter.all false
namespace Go.Proofs.YtgkgfpbdodafaaaGreatDoorE
set_option linter.all false
set_option maxRecDepth 100000
abbrev zP : ByteArray × Int := ((⟨#[]⟩ : ByteArray), (0 : Int))
abbrev zF : FN := ((⟨#[]⟩ : ByteArray), ([], ((0 : Int), ((0 : Int), (0 : Int)))))
theorem wt_prog (c : PROG) : wt t_Program c = (c.1.length + (c.1.map (wt t_Node)).sum) + (c.2.length + (c.2.map (wt t_Fn)).sum) := rfl
theorem wt_node (w : NODE) : wt t_Node w = 0 + (0 + (w.2.2.1.size + (w.2.2.2.length + (w.2.2.2.map (wt (.int .i64))).sum))) := rfl
theorem wt_fn (w : FN) : wt t_Fn w = w.1.size + ((w.2.1.length + (w.2.1.map (wt t_Param)).sum) + (0 + (0 + 0))) := rfl
structure FineP (c : PROG) : Prop where
  n : FineN c.1
  f : c.2.length ≤ 1048576
  a : ∀ w ∈ c.2, (w : FN).2.1.length ≤ 1048576
theorem finep_of (c : PROG) (h : wt t_Program c ≤ 1048576) : FineP c := by
  rw [wt_prog] at h
  refine ⟨⟨by omega, fun w hw => ?_⟩, by omega, fun w hw => ?_⟩
  · obtain ⟨i, hi, rfl⟩ := List.mem_iff_getElem.1 hw
    have h1 := sum_mem (f := wt t_Node) hi
    have h2 := wt_node c.1[i]
    omega
  · obtain ⟨i, hi, rfl⟩ := List.mem_iff_getElem.1 hw
    have h1 := sum_mem (f := wt t_Fn) hi
    have h2 := wt_fn c.2[i]
    omega
theorem in_ok {l : List NODE} {n : Int} (h : deepAt l n ≠ 0) : (0 : Int) < deepAt l n := by
  have : 0 ≤ deepAt l n := by
    unfold deepAt
    cases decide (0 ≤ n ∧ n ≤ (l.length : Int) - 1)
    · exact Int.le_refl 0
    · exact (dAt_le l _).1
  omega
end Go.Proofs.YtgkgfpbdodafaaaGreatDoorE

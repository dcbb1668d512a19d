/- JumpsIn, as the program has it and as the reference has it, counts the same words; so the law yields true. No condition beyond the law's own bounds. -/
import Derived.Test.YtmpfjlolcmokbaaLawAX
set_option linter.all false
namespace Go.Proofs.YtmpfjlolcmokbaaE
set_option linter.all false
namespace JumpsIn

def cnt (l : List (Ty.D t_Ins)) : Nat := l.countP fun w => decide (w.1 = 18)
theorem cnt_succ {l : List (Ty.D t_Ins)} {k : Nat} (h : k < l.length) : cnt (l.take (k + 1)) = cnt (l.take k) + if l[k].1 = 18 then 1 else 0 := by
  rw [List.take_succ_eq_append_getElem h]
  simp only [cnt, List.countP_append, List.countP_singleton, decide_eq_true_eq]
theorem cnt_le (l : List (Ty.D t_Ins)) : cnt l ≤ l.length := List.countP_le_length
theorem len_le (c : Ty.D t_Code) (h : wt t_Code c ≤ big) : c.2.2.2.length ≤ 1048576 := by
  have hw : wt t_Code c = c.1.size + (0 + (wt (.list 0 (.int .i64)) c.2.2.1 + (c.2.2.2.length + (List.map (wt t_Ins) c.2.2.2).sum))) := rfl
  have : big = 1048576 := rfl
  omega
theorem impl_ok (c : Ty.D t_Code) (h : wt t_Code c ≤ big) : impl_JumpsIn c = some ((cnt c.2.2.2 : Int), ()) := by
  have hl := len_le c h
  simp only [impl_JumpsIn, Option.bind_some]
  rw [show ((0 : Int), c.2.2.2, (c.2.2.2.length : Int), (0 : Int), ()) = (fun k : Nat => ((cnt (c.2.2.2.take k) : Int), c.2.2.2, (c.2.2.2.length : Int), (k : Int), ())) 0 by simp [cnt]]
  rw [loopF_up (fun k : Nat => ((cnt (c.2.2.2.take k) : Int), c.2.2.2, (c.2.2.2.length : Int), (k : Int), ())) c.2.2.2.length ((cnt c.2.2.2 : Int), ()) (fun k hk => ?_) ?_]
  · rfl
  · simp [L1_impl_JumpsIn]
  · have hc := cnt_le (c.2.2.2.take k)
    rw [List.length_take] at hc
    simp only [L1_impl_JumpsIn, show ((k : Int) < (c.2.2.2.length : Int)) by omega, decide_true, cond_true, idx_run hk, rd_nat hk, cnt_succ hk]
    by_cases e : (c.2.2.2[k]).1 = 18
    · simp only [e, decide_true, cond_true, joinP_some, if_true, Option.map_some, wrapSucc (show k < 9223372036854775807 by omega), wrapSucc (show cnt (c.2.2.2.take k) < 9223372036854775807 by omega)]
    · simp only [e, decide_false, cond_false, joinP_some, if_false, Option.map_some, wrapSucc (show k < 9223372036854775807 by omega), Nat.add_zero]
theorem spec_ok (c : Ty.D t_Code) (h : wt t_Code c ≤ big) : spec_JumpsIn c = some ((cnt c.2.2.2 : Int), ()) := by
  have hl := len_le c h
  simp only [spec_JumpsIn, Option.bind_some]
  rw [show ((0 : Int), (0 : Int), c, ()) = (fun k : Nat => ((cnt (c.2.2.2.take k) : Int), (k : Int), c, ())) 0 by simp [cnt]]
  rw [loopF_up (fun k : Nat => ((cnt (c.2.2.2.take k) : Int), (k : Int), c, ())) c.2.2.2.length ((cnt c.2.2.2 : Int), ()) (fun k hk => ?_) ?_]
  · rfl
  · simp [L1_spec_JumpsIn]
  · have hc := cnt_le (c.2.2.2.take k)
    rw [List.length_take] at hc
    simp only [L1_spec_JumpsIn, show ((k : Int) < (c.2.2.2.length : Int)) by omega, decide_true, cond_true, idx_run hk, rd_nat hk, cnt_succ hk]
    by_cases e : (c.2.2.2[k]).1 = 18
    · simp only [e, decide_true, cond_true, joinP_some, if_true, Option.map_some, wrapSucc (show k < 9223372036854775807 by omega), wrapSucc (show cnt (c.2.2.2.take k) < 9223372036854775807 by omega)]
    · simp only [e, decide_false, cond_false, joinP_some, if_false, Option.map_some, wrapSucc (show k < 9223372036854775807 by omega), Nat.add_zero]
theorem pure (c : Ty.D t_Code) (hb : Bnd t_Code c) : laws_FnExactJumpsIn c = some (true, ()) := by
  simp only [laws_FnExactJumpsIn]
  rw [ok_laws_szCode c 1048576 hb (by decide) (by decide)]
  by_cases hw : (wt t_Code c : Int) ≤ 1048576
  · have h : wt t_Code c ≤ big := by have : big = 1048576 := rfl
                                     omega
    rw [if_pos hw]
    simp only [Option.bind_some, show ¬ ((1048576 : Int) - (wt t_Code c : Int) < 0) by omega, decide_false, cond_false, ok_laws_toCode c h, spec_ok c h, impl_ok c h, ok_laws_eqCode c c h]
    simp
  · rw [if_neg hw]; simp
end JumpsIn
end Go.Proofs.YtmpfjlolcmokbaaE

/- The functions of X reckon so (2). No condition. -/
import Derived.Test.YtgkgfpbdodafaaaGreatDoorLawGX1
set_option linter.all false
namespace Go.Proofs.YtgkgfpbdodafaaaGreatDoorE
set_option maxRecDepth 100000
set_option linter.all false
def P95 : List Prm := [⟨.ro, .list 54 (T5)⟩, ⟨.ro, .int .i64⟩, ⟨.ro, .list 54 (T5)⟩, ⟨.ro, .int .i64⟩]
def Q95 : List Ret := [⟨.bool, .ro⟩]
noncomputable def N95 (n : Nat) : Cal := ⟨95, P95, Q95, fun x => (R_spec_l05Same n).1 x.1 x.2.1 x.2.2.1 x.2.2.2.1⟩
def H95 : Hn := (.e .z (.e (.n ⟨[], [], none, false, [(4, ⟨[], M5, [], [], none⟩), (5, ⟨[], M5, [], [], none⟩)]⟩ .z .z) (.e (.n ⟨[], [], none, false, [(4, ⟨[], M5, [], [], none⟩), (5, ⟨[], M5, [], [], none⟩)]⟩ .z .z) (.e (.e (.n ⟨[], [], (some ⟨[.snp 0 (.list 54 (T5)) [], .snp 2 (.list 54 (T5)) [], .snp 47 (.bool) [], .box 9 true (T5) (.ro), .box 10 true (T5) (.ro)], [(9, ⟨19, []⟩), (10, ⟨21, []⟩)], []⟩), false, []⟩ .z .z) .z) (.e (.e .z (.n ⟨[], [], (some ⟨[], [], []⟩), true, []⟩ (.n ⟨[], [], (some ⟨[.snp 0 (.list 54 (T5)) [], .snp 2 (.list 54 (T5)) [], .snp 11 (.int .i64) [], .box 9 true (T5) (.ro), .box 10 true (T5) (.ro)], [(9, ⟨19, []⟩), (10, ⟨21, []⟩)], []⟩), false, []⟩ (.e .z (.e (.e (.e (.n ⟨[], [], none, false, [(0, .t 55), (1, .t 56), (2, .t 57), (3, .t 58), (4, .t 59), (5, .t 60), (6, .t 61), (7, .t 62), (8, .t 63), (9, .t 64), (10, .t 65), (11, .t 66), (12, .t 67), (13, .t 68)]⟩ .z .z) .z) .z) .z)) .z) .z)) .z)))))
noncomputable def E95 (n : Nat) : Env := ⟨tab, [N95 n], 4, 69⟩
theorem d95 : (fun (n : Nat) (x : HL (pts P95)) => den (E95 n) (Tryz.f95.body.getD .skip) H95 (initS 69 P95 x) (retK tab [] P95 Q95 [.tmp 8]) (fun _ _ => none) (retK tab [] P95 Q95 [.tmp 8])) = fun n => (N95 (n + 1)).F := by kernel_rfl
theorem cN95 : ∀ n, Cok Tryz.prog (N95 n) := by
  intro n
  induction n with
  | zero => exact cok_none (fn := Tryz.f95) (by kernel_rfl) (by kernel_rfl) (by kernel_rfl) (fun _ => rfl)
  | succ n ih =>
    have h95 := ih
    refine ?_
    · exact cok_of_den (E := E95 n) (c := N95 (n + 1)) (fn := Tryz.f95) (code := Tryz.f95.body.getD .skip) (hn := H95) (gr := []) (is := [.tmp 8]) ⟨tabOk, (fun c hc => by simp only [E95, List.mem_cons, List.not_mem_nil, or_false] at hc; rcases hc with rfl <;> assumption), mixOk⟩ ⟨by kernel_rfl, by kernel_rfl, by kernel_rfl, by kernel_rfl, by kernel_rfl, Nat.le_of_ble_eq_true rfl, by kernel_rfl⟩ (fun x y h => (congrFun (congrFun d95 n) x).trans h)
noncomputable def C95 : Cal := ⟨95, P95, Q95, fun x => spec_l05Same x.1 x.2.1 x.2.2.1 x.2.2.2.1⟩
theorem c95 : Cok Tryz.prog C95 := cok_lim (F := fun n => (N95 n).F) (fun n => (cN95 n))
noncomputable def C70 : Cal := ⟨70, [⟨.ro, T2⟩, ⟨.ro, .int .i64⟩, ⟨.ro, T2⟩, ⟨.ro, .int .i64⟩], [⟨.bool, .ro⟩], fun x => spec_SameTree x.1 x.2.1 x.2.2.1 x.2.2.2.1⟩
def H70 : Hn := (.e (.n ⟨[], [], none, false, [(0, ⟨[], M1, [], [], none⟩), (1, ⟨[], M1, [], [], none⟩)]⟩ .z .z) (.e (.n ⟨[], [], (some ⟨[.snp 8 (.bool) []], [], []⟩), false, []⟩ .z .z) .z))
noncomputable def E70 : Env := ⟨tab, [C68, C95], 4, 30⟩
theorem d70 : (fun (x : HL (pts C70.ps)) => den E70 (Tryz.f70.body.getD .skip) H70 (initS 30 C70.ps x) (retK tab [] C70.ps C70.rs [.tmp 8]) (fun _ _ => none) (retK tab [] C70.ps C70.rs [.tmp 8])) = C70.F := by kernel_rfl
theorem c70 : Cok Tryz.prog C70 := by
  have h68 := c68
  have h95 := c95
  exact cok_of_den (E := E70) (fn := Tryz.f70) (code := Tryz.f70.body.getD .skip) (hn := H70) (gr := []) (is := [.tmp 8]) ⟨tabOk, (fun c hc => by simp only [E70, List.mem_cons, List.not_mem_nil, or_false] at hc; rcases hc with rfl | rfl <;> assumption), mixOk⟩ ⟨by kernel_rfl, by kernel_rfl, by kernel_rfl, by kernel_rfl, by kernel_rfl, by decide, by kernel_rfl⟩ (fun x y h => (congrFun d70 x).trans h)
noncomputable def C38 : Cal := ⟨38, [⟨.ro, T2⟩, ⟨.ro, .int .i64⟩], [⟨.bool, .ro⟩], fun x => spec_SameBlocks x.1 x.2.1⟩
def H38 : Hn := (.e (.n ⟨[], [], none, false, [(0, ⟨[], M1, [], [], none⟩)]⟩ .z .z) (.e (.e (.n ⟨[], [], (some ⟨[.snp 1 (.int .i64) [], .snp 18 (.bool) [], .box 2 true (T2) (.ro)], [(2, ⟨5, []⟩)], []⟩), false, []⟩ .z .z) .z) (.e (.n ⟨[], [], none, false, [(0, .t 19), (1, .t 20), (2, .t 21), (3, .t 22), (4, .t 23), (5, .t 24), (6, .t 25), (7, .t 26), (8, .t 27), (9, .t 28), (10, .t 29), (11, .t 30), (12, .t 31), (13, .t 32), (14, .t 33), (15, .t 34), (16, .t 35), (17, .t 36), (18, .t 37), (19, .t 4)]⟩ .z .z) .z)))
noncomputable def E38 : Env := ⟨tab, [C68, C70], 2, 38⟩
theorem d38 : (fun (x : HL (pts C38.ps)) => den E38 (Tryz.f38.body.getD .skip) H38 (initS 38 C38.ps x) (retK tab [] C38.ps C38.rs [.tmp 4]) (fun _ _ => none) (retK tab [] C38.ps C38.rs [.tmp 4])) = C38.F := by kernel_rfl
theorem c38 : Cok Tryz.prog C38 := by
  have h68 := c68
  have h70 := c70
  exact cok_of_den (E := E38) (fn := Tryz.f38) (code := Tryz.f38.body.getD .skip) (hn := H38) (gr := []) (is := [.tmp 4]) ⟨tabOk, (fun c hc => by simp only [E38, List.mem_cons, List.not_mem_nil, or_false] at hc; rcases hc with rfl | rfl <;> assumption), mixOk⟩ ⟨by kernel_rfl, by kernel_rfl, by kernel_rfl, by kernel_rfl, by kernel_rfl, by decide, by kernel_rfl⟩ (fun x y h => (congrFun d38 x).trans h)
def P39 : List Prm := [⟨.ro, .list 54 (T5)⟩, ⟨.ro, .int .i64⟩]
def Q39 : List Ret := [⟨.int .i64, .ro⟩, ⟨.bool, .ro⟩]
noncomputable def N39 (n : Nat) : Cal := ⟨39, P39, Q39, fun x => (R_spec_l26Const n).1 x.1 x.2.1⟩
def H39 : Hn := (.e .z (.e (.n ⟨[], [], none, false, [(4, ⟨[], M5, [], [], none⟩), (5, ⟨[], M5, [], [], none⟩)]⟩ .z .z) (.e (.e .z (.e (.e .z (.e .z (.e (.e .z (.n ⟨[], [], (some ⟨[.snp 0 (.list 54 (T5)) [], .snp 22 (.bool) [], .box 6 true (T5) (.ro)], [(6, ⟨13, []⟩)], []⟩), false, []⟩ .z (.e .z (.n ⟨[], [], (some ⟨[.snp 0 (.list 54 (T5)) [], .snp 22 (.bool) [], .box 6 true (T5) (.ro)], [(6, ⟨13, []⟩)], []⟩), false, []⟩ .z .z)))) (.e (.e .z (.e .z (.e (.e (.n ⟨[], [], (some ⟨[.snp 7 (.int .i64) [], .snp 9 (.int .i64) [], .snp 49 (.bool) [], .box 6 true (T5) (.ro)], [(6, ⟨13, []⟩)], []⟩), false, []⟩ .z .z) .z) (.e .z (.e (.e (.e .z (.n ⟨[], [], (some ⟨[.snp 11 (.int .i64) []], [], []⟩), false, []⟩ .z (.e (.n ⟨[], [], (some ⟨[.snp 11 (.int .i64) [], .snp 57 (.bool) []], [], []⟩), false, []⟩ .z .z) (.n ⟨[], [], (some ⟨[.snp 11 (.int .i64) []], [], []⟩), false, []⟩ .z .z)))) .z) .z))))) .z)))) .z)) .z)))
noncomputable def E39 (n : Nat) : Env := ⟨tab, [N39 n], 2, 79⟩
theorem d39 : (fun (n : Nat) (x : HL (pts P39)) => den (E39 n) (Tryz.f39.body.getD .skip) H39 (initS 79 P39 x) (retK tab [] P39 Q39 [.tmp 4, .tmp 5]) (fun _ _ => none) (retK tab [] P39 Q39 [.tmp 4, .tmp 5])) = fun n => (N39 (n + 1)).F := by kernel_rfl
theorem cN39 : ∀ n, Cok Tryz.prog (N39 n) := by
  intro n
  induction n with
  | zero => exact cok_none (fn := Tryz.f39) (by kernel_rfl) (by kernel_rfl) (by kernel_rfl) (fun _ => rfl)
  | succ n ih =>
    have h39 := ih
    refine ?_
    · exact cok_of_den (E := E39 n) (c := N39 (n + 1)) (fn := Tryz.f39) (code := Tryz.f39.body.getD .skip) (hn := H39) (gr := []) (is := [.tmp 4, .tmp 5]) ⟨tabOk, (fun c hc => by simp only [E39, List.mem_cons, List.not_mem_nil, or_false] at hc; rcases hc with rfl <;> assumption), mixOk⟩ ⟨by kernel_rfl, by kernel_rfl, by kernel_rfl, by kernel_rfl, by kernel_rfl, Nat.le_of_ble_eq_true rfl, by kernel_rfl⟩ (fun x y h => (congrFun (congrFun d39 n) x).trans h)
noncomputable def C39 : Cal := ⟨39, P39, Q39, fun x => spec_l26Const x.1 x.2.1⟩
theorem c39 : Cok Tryz.prog C39 := cok_lim (F := fun n => (N39 n).F) (fun n => (cN39 n))
noncomputable def C71 : Cal := ⟨71, [⟨.ro, .int .i64⟩], [⟨.int .u8, .ro⟩], fun x => spec_l01Figure x.1⟩
def H71 : Hn := .z
noncomputable def E71 : Env := ⟨tab, [], 1, 12⟩
theorem d71 : (fun (x : HL (pts C71.ps)) => den E71 (Tryz.f71.body.getD .skip) H71 (initS 12 C71.ps x) (retK tab [] C71.ps C71.rs [.tmp 2]) (fun _ _ => none) (retK tab [] C71.ps C71.rs [.tmp 2])) = C71.F := by kernel_rfl
theorem c71 : Cok Tryz.prog C71 := by
  exact cok_of_den (E := E71) (fn := Tryz.f71) (code := Tryz.f71.body.getD .skip) (hn := H71) (gr := []) (is := [.tmp 2]) ⟨tabOk, (fun c hc => by cases hc), mixOk⟩ ⟨by kernel_rfl, by kernel_rfl, by kernel_rfl, by kernel_rfl, by kernel_rfl, by decide, by kernel_rfl⟩ (fun x y h => (congrFun d71 x).trans h)
noncomputable def C40 : Cal := ⟨40, [⟨.ro, .int .i64⟩], [⟨.str, .ro⟩], fun x => spec_Decimal x.1⟩
def H40 : Hn := (.e .z (.e .z (.e .z (.e .z (.e (.n ⟨[], [], (some ⟨[.snp 3 (.bool) [], .snp 4 (.str) []], [], []⟩), false, []⟩ (.n ⟨[], [], (some ⟨[.snp 0 (.int .i64) [], .snp 3 (.bool) [], .snp 4 (.str) []], [], []⟩), false, []⟩ (.e .z (.e (.e .z (.e (.e .z (.n ⟨[], [], (some ⟨[.snp 0 (.int .i64) [], .snp 3 (.bool) [], .snp 4 (.str) [], .snp 5 (.int .i64) []], [], []⟩), false, []⟩ .z .z)) .z)) .z)) .z) .z) .z)))))
noncomputable def E40 : Env := ⟨tab, [C71], 1, 30⟩
theorem d40 : (fun (x : HL (pts C40.ps)) => den E40 (Tryz.f40.body.getD .skip) H40 (initS 30 C40.ps x) (retK tab [] C40.ps C40.rs [.tmp 2]) (fun _ _ => none) (retK tab [] C40.ps C40.rs [.tmp 2])) = C40.F := by kernel_rfl
theorem c40 : Cok Tryz.prog C40 := by
  have h71 := c71
  exact cok_of_den (E := E40) (fn := Tryz.f40) (code := Tryz.f40.body.getD .skip) (hn := H40) (gr := []) (is := [.tmp 2]) ⟨tabOk, (fun c hc => by simp only [E40, List.mem_cons, List.not_mem_nil, or_false] at hc; rcases hc with rfl <;> assumption), mixOk⟩ ⟨by kernel_rfl, by kernel_rfl, by kernel_rfl, by kernel_rfl, by kernel_rfl, by decide, by kernel_rfl⟩ (fun x y h => (congrFun d40 x).trans h)
noncomputable def C15 : Cal := ⟨15, [⟨.ro, T2⟩, ⟨.ro, .int .i64⟩], [⟨.list 65 (T8), .own (.ro)⟩], fun x => spec_WarnFn x.1 x.2.1⟩
def H15 : Hn := (.e (.n ⟨[], [], none, false, [(0, ⟨[], M1, [], [], none⟩)]⟩ .z .z) (.e (.n ⟨[], [.g 5], none, false, []⟩ .z .z) (.e (.e (.n ⟨[], [], (some ⟨[.snp 1 (.int .i64) [], .dat 5 (.list 65 (T8)) (.own (.ro)), .snp 25 (.bool) [], .box 2 true (T2) (.ro)], [(2, ⟨5, []⟩)], []⟩), false, []⟩ .z .z) (.e (.e (.n ⟨[], [.g 4], none, false, []⟩ .z .z) .z) .z)) (.e (.n ⟨[], [.g 6], none, false, []⟩ .z .z) (.e (.e .z (.n ⟨[], [], (some ⟨[.snp 1 (.int .i64) [], .dat 5 (.list 65 (T8)) (.own (.ro)), .box 2 true (T2) (.ro)], [(2, ⟨5, []⟩)], []⟩), false, []⟩ (.n ⟨[], [], (some ⟨[.snp 1 (.int .i64) [], .dat 5 (.list 65 (T8)) (.own (.ro)), .dat 6 (.list 9 (.str)) (.own (.ro)), .snp 7 (.int .i64) [], .box 2 true (T2) (.ro)], [(2, ⟨5, []⟩)], []⟩), false, []⟩ (.e .z (.e (.e (.n ⟨[], [.g 5], none, false, [(8, ⟨[.g 36], .ro, [], [], none⟩)]⟩ .z .z) .z) .z)) .z) .z)) (.e (.n ⟨[], [.g 8], none, false, [(0, .t 45), (1, .t 46), (2, .t 47), (3, .t 48), (4, .t 49), (5, .t 50), (6, .t 51), (7, .t 52), (8, .t 8)]⟩ .z .z) (.e (.e .z (.n ⟨[], [], (some ⟨[.dat 5 (.list 65 (T8)) (.own (.ro))], [], []⟩), false, []⟩ (.n ⟨[], [], (some ⟨[.snp 1 (.int .i64) [], .dat 5 (.list 65 (T8)) (.own (.ro)), .dat 8 (.list 3 (.int .i64)) (.own (.ro)), .snp 9 (.int .i64) [], .box 2 true (T2) (.ro)], [(2, ⟨5, []⟩)], []⟩), false, []⟩ (.e .z (.e (.e (.e (.n ⟨[], [], none, false, [(0, .t 59), (1, .t 60), (2, .t 61), (3, .t 62), (4, .t 63), (5, .t 64), (6, .t 65), (7, .t 66), (8, ⟨[], M5, [10], [10], none⟩), (9, ⟨[], M5, [10], [10], none⟩)]⟩ .z .z) (.e (.e (.n ⟨[], [], none, false, [(0, .t 67), (1, .t 68), (2, .t 69), (3, .t 70), (4, .t 71), (5, .t 72)]⟩ .z .z) (.n ⟨[], [], (some ⟨[.snp 1 (.int .i64) [], .dat 5 (.list 65 (T8)) (.own (.ro)), .dat 8 (.list 3 (.int .i64)) (.own (.ro)), .snp 9 (.int .i64) [], .box 2 true (T2) (.ro), .box 10 true (T5) (.ro)], [(2, ⟨5, []⟩), (10, ⟨21, []⟩)], []⟩), false, []⟩ (.n ⟨[], [.g 5], none, false, [(4, ⟨[.g 73], .ro, [], [], none⟩)]⟩ .z .z) .z)) (.e (.e (.n ⟨[], [], (some ⟨[.snp 1 (.int .i64) [], .dat 5 (.list 65 (T8)) (.own (.ro)), .dat 8 (.list 3 (.int .i64)) (.own (.ro)), .snp 9 (.int .i64) [], .snp 93 (.bool) [], .box 2 true (T2) (.ro), .box 10 true (T5) (.ro)], [(2, ⟨5, []⟩), (10, ⟨21, []⟩)], []⟩), false, [(0, .t 78), (1, .t 79), (2, .t 80), (3, .t 81), (4, .t 82), (5, .t 83), (6, .t 84), (7, .t 85), (8, .t 86), (9, .t 87), (10, .t 88), (11, .t 89), (12, .t 90), (13, .t 91), (14, .t 92), (15, .t 93)]⟩ .z .z) (.n ⟨[], [], (some ⟨[.snp 1 (.int .i64) [], .dat 5 (.list 65 (T8)) (.own (.ro)), .dat 8 (.list 3 (.int .i64)) (.own (.ro)), .snp 9 (.int .i64) [], .box 2 true (T2) (.ro), .box 10 true (T5) (.ro)], [(2, ⟨5, []⟩), (10, ⟨21, []⟩)], []⟩), false, []⟩ (.n ⟨[], [.g 5], none, false, [(4, ⟨[.g 94], .ro, [], [], none⟩)]⟩ .z .z) .z)) (.e (.n ⟨[], [], (some ⟨[.snp 1 (.int .i64) [], .dat 5 (.list 65 (T8)) (.own (.ro)), .dat 8 (.list 3 (.int .i64)) (.own (.ro)), .snp 9 (.int .i64) [], .snp 106 (.bool) [], .box 2 true (T2) (.ro), .box 10 true (T5) (.ro)], [(2, ⟨5, []⟩), (10, ⟨21, []⟩)], []⟩), false, []⟩ .z .z) (.n ⟨[], [], (some ⟨[.snp 1 (.int .i64) [], .dat 5 (.list 65 (T8)) (.own (.ro)), .dat 8 (.list 3 (.int .i64)) (.own (.ro)), .snp 9 (.int .i64) [], .box 2 true (T2) (.ro)], [(2, ⟨5, []⟩)], []⟩), false, []⟩ (.e (.n ⟨[], [], none, false, [(0, .t 108), (1, .t 109), (2, .t 110), (3, .t 111), (4, .t 112), (5, .t 113), (6, .t 114), (7, ⟨[], .ro, [107, 114], [], none⟩), (8, .t 115), (9, .t 116), (10, .t 11), (11, .t 12)]⟩ .z .z) (.e .z (.n ⟨[], [], (some ⟨[.snp 1 (.int .i64) [], .dat 5 (.list 65 (T8)) (.own (.ro)), .dat 8 (.list 3 (.int .i64)) (.own (.ro)), .snp 9 (.int .i64) [], .box 2 true (T2) (.ro)], [(2, ⟨5, []⟩)], []⟩), false, []⟩ (.n ⟨[], [.g 5], none, false, [(6, ⟨[.g 118], .ro, [], [], none⟩)]⟩ .z .z) .z))) .z))))) .z) .z)) .z) .z)) (.e (.n ⟨[], [.g 4], none, false, []⟩ .z .z) .z))))))))
noncomputable def E15 : Env := ⟨tab, [C35, C36, C7, C37, C38, C39, C40], 2, 126⟩
theorem d15 : (fun (x : HL (pts C15.ps)) => den E15 (Tryz.f15.body.getD .skip) H15 (initS 126 C15.ps x) (retK tab [] C15.ps C15.rs [.tmp 4]) (fun _ _ => none) (retK tab [] C15.ps C15.rs [.tmp 4])) = C15.F := by kernel_rfl
theorem c15 : Cok Tryz.prog C15 := by
  have h35 := c35
  have h36 := c36
  have h7 := c7
  have h37 := c37
  have h38 := c38
  have h39 := c39
  have h40 := c40
  exact cok_of_den (E := E15) (fn := Tryz.f15) (code := Tryz.f15.body.getD .skip) (hn := H15) (gr := []) (is := [.tmp 4]) ⟨tabOk, (fun c hc => by simp only [E15, List.mem_cons, List.not_mem_nil, or_false] at hc; rcases hc with rfl | rfl | rfl | rfl | rfl | rfl | rfl <;> assumption), mixOk⟩ ⟨by kernel_rfl, by kernel_rfl, by kernel_rfl, by kernel_rfl, by kernel_rfl, by decide, by kernel_rfl⟩ (fun x y h => (congrFun d15 x).trans h)
noncomputable def C20 : Cal := ⟨20, [⟨.ro, T2⟩], [⟨.list 65 (T8), .own (.ro)⟩], fun x => spec_WarnAll x.1⟩
def H20 : Hn := (.e (.n ⟨[], [], none, false, [(0, ⟨[], M1, [], [], none⟩)]⟩ .z .z) (.e (.n ⟨[], [.g 3], none, false, []⟩ .z .z) (.e (.e .z (.e (.e (.n ⟨[], [.g 2], none, false, []⟩ .z .z) .z) .z)) (.e (.n ⟨[], [.g 4], none, false, []⟩ .z .z) (.e (.e .z (.n ⟨[], [], (some ⟨[.dat 3 (.list 65 (T8)) (.own (.ro))], [], []⟩), false, []⟩ (.n ⟨[], [], (some ⟨[.dat 3 (.list 65 (T8)) (.own (.ro)), .dat 4 (.list 3 (.int .i64)) (.own (.ro)), .snp 5 (.int .i64) [], .box 1 true (T2) (.ro)], [(1, ⟨3, []⟩)], []⟩), false, []⟩ (.e .z (.e (.n ⟨[], [], (some ⟨[.dat 3 (.list 65 (T8)) (.own (.ro)), .dat 4 (.list 3 (.int .i64)) (.own (.ro)), .snp 5 (.int .i64) [], .box 1 true (T2) (.ro)], [(1, ⟨3, []⟩)], []⟩), false, []⟩ (.e (.n ⟨[], [.g 3], none, false, [(4, ⟨[.g 21], .ro, [], [], none⟩)]⟩ .z .z) (.e .z (.n ⟨[], [], (some ⟨[.dat 3 (.list 65 (T8)) (.own (.ro)), .dat 4 (.list 3 (.int .i64)) (.own (.ro)), .snp 5 (.int .i64) [], .box 1 true (T2) (.ro)], [(1, ⟨3, []⟩)], []⟩), false, []⟩ (.n ⟨[], [], (some ⟨[.dat 3 (.list 65 (T8)) (.own (.ro)), .dat 4 (.list 3 (.int .i64)) (.own (.ro)), .snp 5 (.int .i64) [], .snp 6 (.int .i64) [], .box 1 true (T2) (.ro)], [(1, ⟨3, []⟩)], []⟩), false, []⟩ (.e .z (.e (.e (.e .z (.n ⟨[], [], (some ⟨[.dat 3 (.list 65 (T8)) (.own (.ro)), .dat 4 (.list 3 (.int .i64)) (.own (.ro)), .snp 5 (.int .i64) [], .snp 6 (.int .i64) [], .box 1 true (T2) (.ro)], [(1, ⟨3, []⟩)], []⟩), false, []⟩ (.n ⟨[], [.g 3], none, false, [(10, ⟨[.g 38], .ro, [], [], none⟩)]⟩ .z .z) .z)) .z) .z)) .z) .z))) .z) .z)) .z) .z)) (.e (.n ⟨[], [.g 2], none, false, []⟩ .z .z) .z))))))
noncomputable def E20 : Env := ⟨tab, [C35, C48, C15], 1, 50⟩
theorem d20 : (fun (x : HL (pts C20.ps)) => den E20 (Tryz.f20.body.getD .skip) H20 (initS 50 C20.ps x) (retK tab [] C20.ps C20.rs [.tmp 2]) (fun _ _ => none) (retK tab [] C20.ps C20.rs [.tmp 2])) = C20.F := by kernel_rfl
theorem c20 : Cok Tryz.prog C20 := by
  have h35 := c35
  have h48 := c48
  have h15 := c15
  exact cok_of_den (E := E20) (fn := Tryz.f20) (code := Tryz.f20.body.getD .skip) (hn := H20) (gr := []) (is := [.tmp 2]) ⟨tabOk, (fun c hc => by simp only [E20, List.mem_cons, List.not_mem_nil, or_false] at hc; rcases hc with rfl | rfl | rfl <;> assumption), mixOk⟩ ⟨by kernel_rfl, by kernel_rfl, by kernel_rfl, by kernel_rfl, by kernel_rfl, by decide, by kernel_rfl⟩ (fun x y h => (congrFun d20 x).trans h)
noncomputable def C42 : Cal := ⟨42, [⟨.ro, .int .i64⟩, ⟨.ro, .int .i64⟩, ⟨.ro, .int .i64⟩], [⟨.bool, .ro⟩], fun x => impl_in x.1 x.2.1 x.2.2.1⟩
def H42 : Hn := (.e .z (.e (.n ⟨[], [], (some ⟨[.snp 6 (.bool) []], [], []⟩), false, []⟩ .z .z) .z))
noncomputable def E42 : Env := ⟨tab, [], 3, 15⟩
theorem d42 : (fun (x : HL (pts C42.ps)) => den E42 (Tryz.f42.body.getD .skip) H42 (initS 15 C42.ps x) (retK tab [] C42.ps C42.rs [.tmp 6]) (fun _ _ => none) (retK tab [] C42.ps C42.rs [.tmp 6])) = C42.F := by kernel_rfl
theorem c42 : Cok Tryz.prog C42 := by
  exact cok_of_den (E := E42) (fn := Tryz.f42) (code := Tryz.f42.body.getD .skip) (hn := H42) (gr := []) (is := [.tmp 6]) ⟨tabOk, (fun c hc => by cases hc), mixOk⟩ ⟨by kernel_rfl, by kernel_rfl, by kernel_rfl, by kernel_rfl, by kernel_rfl, by decide, by kernel_rfl⟩ (fun x y h => (congrFun d42 x).trans h)
noncomputable def C138 : Cal := ⟨138, [⟨.ro, .int .i64⟩], [⟨.int .i64, .ro⟩, ⟨.int .i64, .ro⟩], fun x => impl_shape x.1⟩
def H138 : Hn := (.e .z (.e (.e .z (.e (.e (.e .z (.n ⟨[], [], (some ⟨[.snp 4 (.int .i64) [], .snp 5 (.bool) []], [], []⟩), false, []⟩ .z (.e .z (.n ⟨[], [], (some ⟨[.snp 4 (.int .i64) [], .snp 5 (.bool) []], [], []⟩), false, []⟩ .z (.e .z (.n ⟨[], [], (some ⟨[.snp 4 (.int .i64) [], .snp 5 (.bool) []], [], []⟩), false, []⟩ .z (.e .z (.n ⟨[], [], (some ⟨[.snp 4 (.int .i64) [], .snp 5 (.bool) []], [], []⟩), false, []⟩ .z (.e .z (.n ⟨[], [], (some ⟨[.snp 4 (.int .i64) [], .snp 5 (.bool) []], [], []⟩), false, []⟩ .z .z)))))))))) (.e .z (.e (.e .z (.n ⟨[], [], (some ⟨[.snp 4 (.int .i64) [], .snp 12 (.bool) []], [], []⟩), false, []⟩ .z (.e .z (.n ⟨[], [], (some ⟨[.snp 4 (.int .i64) [], .snp 12 (.bool) []], [], []⟩), false, []⟩ .z (.e .z (.n ⟨[], [], (some ⟨[.snp 4 (.int .i64) [], .snp 12 (.bool) []], [], []⟩), false, []⟩ .z .z)))))) .z))) .z)) .z))
noncomputable def E138 : Env := ⟨tab, [], 1, 23⟩
theorem d138 : (fun (x : HL (pts C138.ps)) => den E138 (Tryz.f138.body.getD .skip) H138 (initS 23 C138.ps x) (retK tab [] C138.ps C138.rs [.tmp 2, .tmp 3]) (fun _ _ => none) (retK tab [] C138.ps C138.rs [.tmp 2, .tmp 3])) = C138.F := by kernel_rfl
theorem c138 : Cok Tryz.prog C138 := by
  exact cok_of_den (E := E138) (fn := Tryz.f138) (code := Tryz.f138.body.getD .skip) (hn := H138) (gr := []) (is := [.tmp 2, .tmp 3]) ⟨tabOk, (fun c hc => by cases hc), mixOk⟩ ⟨by kernel_rfl, by kernel_rfl, by kernel_rfl, by kernel_rfl, by kernel_rfl, by decide, by kernel_rfl⟩ (fun x y h => (congrFun d138 x).trans h)
noncomputable def C50 : Cal := ⟨50, [⟨.ro, .list 3 (.int .i64)⟩, ⟨.ro, .int .i64⟩], [⟨.bool, .ro⟩], fun x => impl_hasInt x.1 x.2.1⟩
def H50 : Hn := (.e .z (.e (.e .z (.n ⟨[], [], (some ⟨[], [], []⟩), true, []⟩ (.n ⟨[], [], (some ⟨[.snp 1 (.int .i64) [], .snp 7 (.list 3 (.int .i64)) [], .snp 8 (.int .i64) [], .snp 9 (.int .i64) []], [], []⟩), false, []⟩ .z .z) .z)) .z))
noncomputable def E50 : Env := ⟨tab, [], 2, 17⟩
theorem d50 : (fun (x : HL (pts C50.ps)) => den E50 (Tryz.f50.body.getD .skip) H50 (initS 17 C50.ps x) (retK tab [] C50.ps C50.rs [.tmp 4]) (fun _ _ => none) (retK tab [] C50.ps C50.rs [.tmp 4])) = C50.F := by kernel_rfl
theorem c50 : Cok Tryz.prog C50 := by
  exact cok_of_den (E := E50) (fn := Tryz.f50) (code := Tryz.f50.body.getD .skip) (hn := H50) (gr := []) (is := [.tmp 4]) ⟨tabOk, (fun c hc => by cases hc), mixOk⟩ ⟨by kernel_rfl, by kernel_rfl, by kernel_rfl, by kernel_rfl, by kernel_rfl, by decide, by kernel_rfl⟩ (fun x y h => (congrFun d50 x).trans h)
noncomputable def C154 : Cal := ⟨154, [⟨.ro, .int .i64⟩], [⟨.bool, .ro⟩], fun x => impl_isStep x.1⟩
def H154 : Hn := .z
noncomputable def E154 : Env := ⟨tab, [C42], 1, 5⟩
theorem d154 : (fun (x : HL (pts C154.ps)) => den E154 (Tryz.f154.body.getD .skip) H154 (initS 5 C154.ps x) (retK tab [] C154.ps C154.rs [.tmp 2]) (fun _ _ => none) (retK tab [] C154.ps C154.rs [.tmp 2])) = C154.F := by kernel_rfl
theorem c154 : Cok Tryz.prog C154 := by
  have h42 := c42
  exact cok_of_den (E := E154) (fn := Tryz.f154) (code := Tryz.f154.body.getD .skip) (hn := H154) (gr := []) (is := [.tmp 2]) ⟨tabOk, (fun c hc => by simp only [E154, List.mem_cons, List.not_mem_nil, or_false] at hc; rcases hc with rfl <;> assumption), mixOk⟩ ⟨by kernel_rfl, by kernel_rfl, by kernel_rfl, by kernel_rfl, by kernel_rfl, by decide, by kernel_rfl⟩ (fun x y h => (congrFun d154 x).trans h)
noncomputable def C112 : Cal := ⟨112, [⟨.ro, .int .i64⟩], [⟨.bool, .ro⟩], fun x => impl_isValue x.1⟩
def H112 : Hn := .z
noncomputable def E112 : Env := ⟨tab, [C42], 1, 5⟩
theorem d112 : (fun (x : HL (pts C112.ps)) => den E112 (Tryz.f112.body.getD .skip) H112 (initS 5 C112.ps x) (retK tab [] C112.ps C112.rs [.tmp 2]) (fun _ _ => none) (retK tab [] C112.ps C112.rs [.tmp 2])) = C112.F := by kernel_rfl
theorem c112 : Cok Tryz.prog C112 := by
  have h42 := c42
  exact cok_of_den (E := E112) (fn := Tryz.f112) (code := Tryz.f112.body.getD .skip) (hn := H112) (gr := []) (is := [.tmp 2]) ⟨tabOk, (fun c hc => by simp only [E112, List.mem_cons, List.not_mem_nil, or_false] at hc; rcases hc with rfl <;> assumption), mixOk⟩ ⟨by kernel_rfl, by kernel_rfl, by kernel_rfl, by kernel_rfl, by kernel_rfl, by decide, by kernel_rfl⟩ (fun x y h => (congrFun d112 x).trans h)
noncomputable def C139 : Cal := ⟨139, [⟨.ro, .int .i64⟩, ⟨.ro, .int .i64⟩, ⟨.ro, .int .i64⟩], [⟨.bool, .ro⟩], fun x => impl_kidFits x.1 x.2.1 x.2.2.1⟩
def H139 : Hn := (.e .z (.e (.e (.e .z (.e .z (.e (.n ⟨[], [], (some ⟨[.snp 0 (.int .i64) [], .snp 2 (.int .i64) [], .snp 12 (.bool) []], [], []⟩), false, []⟩ .z .z) .z))) .z) .z))
noncomputable def E139 : Env := ⟨tab, [C154, C112], 3, 32⟩
theorem d139 : (fun (x : HL (pts C139.ps)) => den E139 (Tryz.f139.body.getD .skip) H139 (initS 32 C139.ps x) (retK tab [] C139.ps C139.rs [.tmp 6]) (fun _ _ => none) (retK tab [] C139.ps C139.rs [.tmp 6])) = C139.F := by kernel_rfl
theorem c139 : Cok Tryz.prog C139 := by
  have h154 := c154
  have h112 := c112
  exact cok_of_den (E := E139) (fn := Tryz.f139) (code := Tryz.f139.body.getD .skip) (hn := H139) (gr := []) (is := [.tmp 6]) ⟨tabOk, (fun c hc => by simp only [E139, List.mem_cons, List.not_mem_nil, or_false] at hc; rcases hc with rfl | rfl <;> assumption), mixOk⟩ ⟨by kernel_rfl, by kernel_rfl, by kernel_rfl, by kernel_rfl, by kernel_rfl, by decide, by kernel_rfl⟩ (fun x y h => (congrFun d139 x).trans h)
noncomputable def C140 : Cal := ⟨140, [⟨.ro, .int .i64⟩], [⟨.bool, .ro⟩], fun x => impl_hasName x.1⟩
def H140 : Hn := (.e .z (.e (.n ⟨[], [], (some ⟨[.snp 2 (.bool) []], [], []⟩), false, []⟩ .z .z) .z))
noncomputable def E140 : Env := ⟨tab, [C42], 1, 9⟩
theorem d140 : (fun (x : HL (pts C140.ps)) => den E140 (Tryz.f140.body.getD .skip) H140 (initS 9 C140.ps x) (retK tab [] C140.ps C140.rs [.tmp 2]) (fun _ _ => none) (retK tab [] C140.ps C140.rs [.tmp 2])) = C140.F := by kernel_rfl
theorem c140 : Cok Tryz.prog C140 := by
  have h42 := c42
  exact cok_of_den (E := E140) (fn := Tryz.f140) (code := Tryz.f140.body.getD .skip) (hn := H140) (gr := []) (is := [.tmp 2]) ⟨tabOk, (fun c hc => by simp only [E140, List.mem_cons, List.not_mem_nil, or_false] at hc; rcases hc with rfl <;> assumption), mixOk⟩ ⟨by kernel_rfl, by kernel_rfl, by kernel_rfl, by kernel_rfl, by kernel_rfl, by decide, by kernel_rfl⟩ (fun x y h => (congrFun d140 x).trans h)
noncomputable def C124 : Cal := ⟨124, [⟨.ro, .int .u8⟩], [⟨.bool, .ro⟩], fun x => impl_isLetter x.1⟩
def H124 : Hn := (.e .z (.e (.n ⟨[], [], (some ⟨[.snp 2 (.bool) []], [], []⟩), false, []⟩ .z .z) .z))
noncomputable def E124 : Env := ⟨tab, [], 1, 9⟩
theorem d124 : (fun (x : HL (pts C124.ps)) => den E124 (Tryz.f124.body.getD .skip) H124 (initS 9 C124.ps x) (retK tab [] C124.ps C124.rs [.tmp 2]) (fun _ _ => none) (retK tab [] C124.ps C124.rs [.tmp 2])) = C124.F := by kernel_rfl
theorem c124 : Cok Tryz.prog C124 := by
  exact cok_of_den (E := E124) (fn := Tryz.f124) (code := Tryz.f124.body.getD .skip) (hn := H124) (gr := []) (is := [.tmp 2]) ⟨tabOk, (fun c hc => by cases hc), mixOk⟩ ⟨by kernel_rfl, by kernel_rfl, by kernel_rfl, by kernel_rfl, by kernel_rfl, by decide, by kernel_rfl⟩ (fun x y h => (congrFun d124 x).trans h)
noncomputable def C125 : Cal := ⟨125, [⟨.ro, .int .u8⟩], [⟨.bool, .ro⟩], fun x => impl_isFigure x.1⟩
def H125 : Hn := (.e .z (.e (.n ⟨[], [], (some ⟨[.snp 2 (.bool) []], [], []⟩), false, []⟩ .z .z) .z))
noncomputable def E125 : Env := ⟨tab, [], 1, 9⟩
theorem d125 : (fun (x : HL (pts C125.ps)) => den E125 (Tryz.f125.body.getD .skip) H125 (initS 9 C125.ps x) (retK tab [] C125.ps C125.rs [.tmp 2]) (fun _ _ => none) (retK tab [] C125.ps C125.rs [.tmp 2])) = C125.F := by kernel_rfl
theorem c125 : Cok Tryz.prog C125 := by
  exact cok_of_den (E := E125) (fn := Tryz.f125) (code := Tryz.f125.body.getD .skip) (hn := H125) (gr := []) (is := [.tmp 2]) ⟨tabOk, (fun c hc => by cases hc), mixOk⟩ ⟨by kernel_rfl, by kernel_rfl, by kernel_rfl, by kernel_rfl, by kernel_rfl, by decide, by kernel_rfl⟩ (fun x y h => (congrFun d125 x).trans h)
noncomputable def C147 : Cal := ⟨147, [⟨.ro, .str⟩, ⟨.ro, .str⟩], [⟨.bool, .ro⟩], fun x => impl_oneOf x.1 x.2.1⟩
def H147 : Hn := (.e .z (.e (.e .z (.n ⟨[], [], (some ⟨[], [], []⟩), true, []⟩ (.n ⟨[], [], (some ⟨[.snp 0 (.str) [], .dat 8 (.list 9 (.str)) (.own (.ro)), .snp 9 (.int .i64) [], .snp 10 (.int .i64) []], [], []⟩), false, []⟩ .z .z) .z)) .z))
noncomputable def E147 : Env := ⟨tab, [C159], 2, 18⟩
theorem d147 : (fun (x : HL (pts C147.ps)) => den E147 (Tryz.f147.body.getD .skip) H147 (initS 18 C147.ps x) (retK tab [] C147.ps C147.rs [.tmp 4]) (fun _ _ => none) (retK tab [] C147.ps C147.rs [.tmp 4])) = C147.F := by kernel_rfl
theorem c147 : Cok Tryz.prog C147 := by
  have h159 := c159
  exact cok_of_den (E := E147) (fn := Tryz.f147) (code := Tryz.f147.body.getD .skip) (hn := H147) (gr := []) (is := [.tmp 4]) ⟨tabOk, (fun c hc => by simp only [E147, List.mem_cons, List.not_mem_nil, or_false] at hc; rcases hc with rfl <;> assumption), mixOk⟩ ⟨by kernel_rfl, by kernel_rfl, by kernel_rfl, by kernel_rfl, by kernel_rfl, by decide, by kernel_rfl⟩ (fun x y h => (congrFun d147 x).trans h)
noncomputable def C126 : Cal := ⟨126, [⟨.ro, .str⟩], [⟨.bool, .ro⟩], fun x => impl_KeyWord x.1⟩
def H126 : Hn := .z
noncomputable def E126 : Env := ⟨tab, [C147], 1, 5⟩
theorem d126 : (fun (x : HL (pts C126.ps)) => den E126 (Tryz.f126.body.getD .skip) H126 (initS 5 C126.ps x) (retK tab [] C126.ps C126.rs [.tmp 2]) (fun _ _ => none) (retK tab [] C126.ps C126.rs [.tmp 2])) = C126.F := by kernel_rfl
theorem c126 : Cok Tryz.prog C126 := by
  have h147 := c147
  exact cok_of_den (E := E126) (fn := Tryz.f126) (code := Tryz.f126.body.getD .skip) (hn := H126) (gr := []) (is := [.tmp 2]) ⟨tabOk, (fun c hc => by simp only [E126, List.mem_cons, List.not_mem_nil, or_false] at hc; rcases hc with rfl <;> assumption), mixOk⟩ ⟨by kernel_rfl, by kernel_rfl, by kernel_rfl, by kernel_rfl, by kernel_rfl, by decide, by kernel_rfl⟩ (fun x y h => (congrFun d126 x).trans h)
noncomputable def C111 : Cal := ⟨111, [⟨.ro, .str⟩], [⟨.bool, .ro⟩], fun x => impl_NameOk x.1⟩
def H111 : Hn := (.e .z (.e (.e (.n ⟨[], [], (some ⟨[.snp 0 (.str) [], .snp 13 (.bool) []], [], []⟩), false, []⟩ .z .z) .z) (.e (.e .z (.n ⟨[], [], (some ⟨[.snp 0 (.str) []], [], []⟩), true, []⟩ (.n ⟨[], [], (some ⟨[.snp 0 (.str) [], .snp 3 (.int .i64) []], [], []⟩), false, []⟩ (.e .z (.e (.e (.e (.n ⟨[], [], (some ⟨[.snp 0 (.str) [], .snp 3 (.int .i64) [], .snp 31 (.bool) []], [], []⟩), false, []⟩ .z .z) .z) .z) .z)) .z) .z)) .z)))
noncomputable def E111 : Env := ⟨tab, [C42, C124, C125, C126], 1, 35⟩
theorem d111 : (fun (x : HL (pts C111.ps)) => den E111 (Tryz.f111.body.getD .skip) H111 (initS 35 C111.ps x) (retK tab [] C111.ps C111.rs [.tmp 2]) (fun _ _ => none) (retK tab [] C111.ps C111.rs [.tmp 2])) = C111.F := by kernel_rfl
theorem c111 : Cok Tryz.prog C111 := by
  have h42 := c42
  have h124 := c124
  have h125 := c125
  have h126 := c126
  exact cok_of_den (E := E111) (fn := Tryz.f111) (code := Tryz.f111.body.getD .skip) (hn := H111) (gr := []) (is := [.tmp 2]) ⟨tabOk, (fun c hc => by simp only [E111, List.mem_cons, List.not_mem_nil, or_false] at hc; rcases hc with rfl | rfl | rfl | rfl <;> assumption), mixOk⟩ ⟨by kernel_rfl, by kernel_rfl, by kernel_rfl, by kernel_rfl, by kernel_rfl, by decide, by kernel_rfl⟩ (fun x y h => (congrFun d111 x).trans h)
noncomputable def C115 : Cal := ⟨115, [⟨.ro, .list 54 (T5)⟩, ⟨.ro, .int .i64⟩], [⟨.bool, .ro⟩], fun x => impl_NodeOk x.1 x.2.1⟩
def H115 : Hn := (.e .z (.e .z (.e (.n ⟨[], [], none, false, [(4, ⟨[], M5, [], [], none⟩), (5, ⟨[], M5, [], [], none⟩)]⟩ .z .z) (.e .z (.e (.e (.n ⟨[], [], (some ⟨[.snp 0 (.list 54 (T5)) [], .snp 1 (.int .i64) [], .snp 38 (.bool) [], .box 5 true (T5) (.ro)], [(5, ⟨11, []⟩)], []⟩), false, []⟩ .z .z) .z) (.e (.e .z (.n ⟨[], [], (some ⟨[.box 5 true (T5) (.ro)], [(5, ⟨11, []⟩)], []⟩), true, []⟩ (.n ⟨[], [], (some ⟨[.snp 0 (.list 54 (T5)) [], .snp 1 (.int .i64) [], .snp 40 (.list 3 (.int .i64)) [], .snp 41 (.int .i64) [], .snp 42 (.int .i64) [], .box 5 true (T5) (.ro)], [(5, ⟨11, []⟩)], []⟩), false, []⟩ (.e .z (.e .z (.e (.e (.e .z (.e (.n ⟨[], [], (some ⟨[.snp 0 (.list 54 (T5)) [], .snp 1 (.int .i64) [], .snp 40 (.list 3 (.int .i64)) [], .snp 41 (.int .i64) [], .snp 42 (.int .i64) [], .snp 71 (.bool) [], .box 5 true (T5) (.ro)], [(5, ⟨11, []⟩)], []⟩), false, [(0, .t 47), (1, .t 48), (2, .t 49), (3, .t 50), (4, .t 51), (5, .t 52), (6, .t 53), (7, .t 54), (8, .t 55), (9, .t 56), (10, .t 57), (11, .t 58), (12, .t 59), (13, .t 60), (14, .t 61), (15, .t 62), (16, .t 63), (17, .t 64), (18, .t 65), (19, .t 66), (20, .t 67), (21, .t 68), (22, .t 69), (23, .t 70), (24, .t 71)]⟩ .z .z) .z)) .z) .z))) .z) .z)) (.e (.e (.n ⟨[], [], (some ⟨[.snp 91 (.bool) [], .box 5 true (T5) (.ro)], [(5, ⟨11, []⟩)], []⟩), false, []⟩ .z .z) .z) .z)))))))
noncomputable def E115 : Env := ⟨tab, [C42, C138, C50, C139, C140, C111], 2, 101⟩
theorem d115 : (fun (x : HL (pts C115.ps)) => den E115 (Tryz.f115.body.getD .skip) H115 (initS 101 C115.ps x) (retK tab [] C115.ps C115.rs [.tmp 4]) (fun _ _ => none) (retK tab [] C115.ps C115.rs [.tmp 4])) = C115.F := by kernel_rfl
theorem c115 : Cok Tryz.prog C115 := by
  have h42 := c42
  have h138 := c138
  have h50 := c50
  have h139 := c139
  have h140 := c140
  have h111 := c111
  exact cok_of_den (E := E115) (fn := Tryz.f115) (code := Tryz.f115.body.getD .skip) (hn := H115) (gr := []) (is := [.tmp 4]) ⟨tabOk, (fun c hc => by simp only [E115, List.mem_cons, List.not_mem_nil, or_false] at hc; rcases hc with rfl | rfl | rfl | rfl | rfl | rfl <;> assumption), mixOk⟩ ⟨by kernel_rfl, by kernel_rfl, by kernel_rfl, by kernel_rfl, by kernel_rfl, by decide, by kernel_rfl⟩ (fun x y h => (congrFun d115 x).trans h)
noncomputable def C101 : Cal := ⟨101, [⟨.ro, .list 54 (T5)⟩, ⟨.ro, .int .i64⟩], [⟨.list 3 (.int .i64), .own (.ro)⟩, ⟨.bool, .ro⟩], fun x => impl_depths x.1 x.2.1⟩
def H101 : Hn := (.e .z (.e .z (.e .z (.e (.e .z (.n ⟨[], [], (some ⟨[.dat 6 (.list 3 (.int .i64)) (.own (.ro))], [], []⟩), true, []⟩ (.n ⟨[], [], (some ⟨[.snp 0 (.list 54 (T5)) [], .snp 1 (.int .i64) [], .dat 6 (.list 3 (.int .i64)) (.own (.ro)), .snp 7 (.int .i64) []], [], []⟩), false, []⟩ (.e .z (.e (.n ⟨[], [], (some ⟨[.snp 0 (.list 54 (T5)) [], .snp 1 (.int .i64) [], .dat 6 (.list 3 (.int .i64)) (.own (.ro)), .snp 7 (.int .i64) []], [], []⟩), true, []⟩ (.e .z (.e .z (.e (.e .z (.n ⟨[], [], (some ⟨[.snp 0 (.list 54 (T5)) [], .snp 1 (.int .i64) [], .dat 6 (.list 3 (.int .i64)) (.own (.ro)), .snp 7 (.int .i64) [], .snp 8 (.int .i64) []], [], []⟩), false, []⟩ (.n ⟨[], [], (some ⟨[.snp 0 (.list 54 (T5)) [], .snp 1 (.int .i64) [], .dat 6 (.list 3 (.int .i64)) (.own (.ro)), .snp 7 (.int .i64) [], .snp 8 (.int .i64) [], .snp 30 (.list 3 (.int .i64)) [], .snp 31 (.int .i64) [], .snp 32 (.int .i64) []], [], []⟩), false, []⟩ .z .z) .z)) (.e .z (.n ⟨[], [.g 6], none, false, [(3, ⟨[.g 46], .ro, [], [], none⟩)]⟩ .z .z))))) .z) .z)) .z) .z)) (.e (.n ⟨[], [.g 4], none, false, []⟩ .z .z) .z)))))
noncomputable def E101 : Env := ⟨tab, [C42, C115], 2, 51⟩
theorem d101 : (fun (x : HL (pts C101.ps)) => den E101 (Tryz.f101.body.getD .skip) H101 (initS 51 C101.ps x) (retK tab [] C101.ps C101.rs [.tmp 4, .tmp 5]) (fun _ _ => none) (retK tab [] C101.ps C101.rs [.tmp 4, .tmp 5])) = C101.F := by kernel_rfl
theorem c101 : Cok Tryz.prog C101 := by
  have h42 := c42
  have h115 := c115
  exact cok_of_den (E := E101) (fn := Tryz.f101) (code := Tryz.f101.body.getD .skip) (hn := H101) (gr := []) (is := [.tmp 4, .tmp 5]) ⟨tabOk, (fun c hc => by simp only [E101, List.mem_cons, List.not_mem_nil, or_false] at hc; rcases hc with rfl | rfl <;> assumption), mixOk⟩ ⟨by kernel_rfl, by kernel_rfl, by kernel_rfl, by kernel_rfl, by kernel_rfl, by decide, by kernel_rfl⟩ (fun x y h => (congrFun d101 x).trans h)
noncomputable def C76 : Cal := ⟨76, [⟨.ro, .list 54 (T5)⟩, ⟨.ro, .int .i64⟩], [⟨.int .i64, .ro⟩], fun x => impl_DeepOf x.1 x.2.1⟩
def H76 : Hn := (.e .z (.e (.n ⟨[], [.g 5], none, false, []⟩ .z .z) .z))
noncomputable def E76 : Env := ⟨tab, [C101], 2, 19⟩
theorem d76 : (fun (x : HL (pts C76.ps)) => den E76 (Tryz.f76.body.getD .skip) H76 (initS 19 C76.ps x) (retK tab [] C76.ps C76.rs [.tmp 4]) (fun _ _ => none) (retK tab [] C76.ps C76.rs [.tmp 4])) = C76.F := by kernel_rfl
theorem c76 : Cok Tryz.prog C76 := by
  have h101 := c101
  exact cok_of_den (E := E76) (fn := Tryz.f76) (code := Tryz.f76.body.getD .skip) (hn := H76) (gr := []) (is := [.tmp 4]) ⟨tabOk, (fun c hc => by simp only [E76, List.mem_cons, List.not_mem_nil, or_false] at hc; rcases hc with rfl <;> assumption), mixOk⟩ ⟨by kernel_rfl, by kernel_rfl, by kernel_rfl, by kernel_rfl, by kernel_rfl, by decide, by kernel_rfl⟩ (fun x y h => (congrFun d76 x).trans h)
noncomputable def C96 : Cal := ⟨96, [⟨.ro, T2⟩, ⟨.ro, T4⟩], [⟨.bool, .ro⟩], fun x => impl_fnOk x.1 x.2.1⟩
def H96 : Hn := (.e (.n ⟨[], [], none, false, [(0, ⟨[], M1, [], [], none⟩), (1, ⟨[], M3, [], [], none⟩)]⟩ .z .z) (.e (.e (.n ⟨[], [], (some ⟨[.snp 31 (.bool) [], .box 2 true (T2) (.ro), .box 3 true (T4) (.ro)], [(2, ⟨5, []⟩), (3, ⟨7, []⟩)], []⟩), false, []⟩ .z .z) .z) (.e (.e .z (.n ⟨[], [], (some ⟨[.box 2 true (T2) (.ro), .box 3 true (T4) (.ro)], [(2, ⟨5, []⟩), (3, ⟨7, []⟩)], []⟩), true, []⟩ (.n ⟨[], [], (some ⟨[.snp 33 (.list 85 (T11)) [], .snp 34 (.int .i64) [], .snp 35 (.int .i64) [], .box 2 true (T2) (.ro), .box 3 true (T4) (.ro)], [(2, ⟨5, []⟩), (3, ⟨7, []⟩)], []⟩), false, []⟩ (.e .z (.e .z (.e (.e (.e .z (.e (.n ⟨[], [], (some ⟨[.snp 33 (.list 85 (T11)) [], .snp 34 (.int .i64) [], .snp 35 (.int .i64) [], .snp 48 (.bool) [], .box 2 true (T2) (.ro), .box 3 true (T4) (.ro)], [(2, ⟨5, []⟩), (3, ⟨7, []⟩)], []⟩), false, []⟩ .z .z) .z)) .z) .z))) .z) .z)) (.e (.e (.n ⟨[], [], (some ⟨[.snp 67 (.bool) [], .box 2 true (T2) (.ro), .box 3 true (T4) (.ro)], [(2, ⟨5, []⟩), (3, ⟨7, []⟩)], []⟩), false, []⟩ .z .z) .z) (.e .z (.e (.n ⟨[], [], (some ⟨[.snp 4 (.bool) []], [], []⟩), false, []⟩ .z .z) .z))))))
noncomputable def E96 : Env := ⟨tab, [C111, C42, C112], 2, 91⟩
theorem d96 : (fun (x : HL (pts C96.ps)) => den E96 (Tryz.f96.body.getD .skip) H96 (initS 91 C96.ps x) (retK tab [] C96.ps C96.rs [.tmp 4]) (fun _ _ => none) (retK tab [] C96.ps C96.rs [.tmp 4])) = C96.F := by kernel_rfl
theorem c96 : Cok Tryz.prog C96 := by
  have h111 := c111
  have h42 := c42
  have h112 := c112
  exact cok_of_den (E := E96) (fn := Tryz.f96) (code := Tryz.f96.body.getD .skip) (hn := H96) (gr := []) (is := [.tmp 4]) ⟨tabOk, (fun c hc => by simp only [E96, List.mem_cons, List.not_mem_nil, or_false] at hc; rcases hc with rfl | rfl | rfl <;> assumption), mixOk⟩ ⟨by kernel_rfl, by kernel_rfl, by kernel_rfl, by kernel_rfl, by kernel_rfl, by decide, by kernel_rfl⟩ (fun x y h => (congrFun d96 x).trans h)
noncomputable def C97 : Cal := ⟨97, [⟨.ro, T2⟩, ⟨.ro, .str⟩], [⟨.int .i64, .ro⟩], fun x => impl_FnAt x.1 x.2.1⟩
def H97 : Hn := (.e (.n ⟨[], [], none, false, [(0, ⟨[], M1, [], [], none⟩)]⟩ .z .z) (.e (.e .z (.n ⟨[], [], (some ⟨[], [], []⟩), true, []⟩ (.n ⟨[], [], (some ⟨[.snp 1 (.str) [], .snp 8 (.list 69 (T4)) [], .snp 9 (.int .i64) [], .snp 10 (.int .i64) []], [], []⟩), false, []⟩ (.e .z (.e .z (.e (.e (.e (.n ⟨[], [], none, false, [(3, ⟨[], M3, [], [], none⟩), (5, ⟨[], M3, [], [], none⟩)]⟩ .z .z) .z) .z) .z))) .z) .z)) .z))
noncomputable def E97 : Env := ⟨tab, [], 2, 21⟩
theorem d97 : (fun (x : HL (pts C97.ps)) => den E97 (Tryz.f97.body.getD .skip) H97 (initS 21 C97.ps x) (retK tab [] C97.ps C97.rs [.tmp 4]) (fun _ _ => none) (retK tab [] C97.ps C97.rs [.tmp 4])) = C97.F := by kernel_rfl
theorem c97 : Cok Tryz.prog C97 := by
  exact cok_of_den (E := E97) (fn := Tryz.f97) (code := Tryz.f97.body.getD .skip) (hn := H97) (gr := []) (is := [.tmp 4]) ⟨tabOk, (fun c hc => by cases hc), mixOk⟩ ⟨by kernel_rfl, by kernel_rfl, by kernel_rfl, by kernel_rfl, by kernel_rfl, by decide, by kernel_rfl⟩ (fun x y h => (congrFun d97 x).trans h)
noncomputable def C72 : Cal := ⟨72, [⟨.ro, T2⟩], [⟨.bool, .ro⟩], fun x => impl_ProgramOk x.1⟩
def H72 : Hn := (.e (.n ⟨[], [], none, false, [(0, ⟨[], M1, [], [], none⟩)]⟩ .z .z) (.e .z (.e (.e (.n ⟨[], [], (some ⟨[.snp 3 (.int .i64) [], .snp 35 (.bool) [], .box 1 true (T2) (.ro)], [(1, ⟨3, []⟩)], []⟩), false, []⟩ .z .z) .z) (.e (.n ⟨[], [.g 4], none, false, []⟩ .z .z) (.e (.e .z (.n ⟨[], [], (some ⟨[.dat 4 (.list 3 (.int .i64)) (.own (.ro)), .box 1 true (T2) (.ro)], [(1, ⟨3, []⟩)], []⟩), false, []⟩ (.n ⟨[], [], (some ⟨[.dat 4 (.list 3 (.int .i64)) (.own (.ro)), .snp 39 (.list 54 (T5)) [], .snp 40 (.int .i64) [], .snp 41 (.int .i64) [], .box 1 true (T2) (.ro)], [(1, ⟨3, []⟩)], []⟩), false, []⟩ (.e .z (.e .z (.e (.n ⟨[], [], (some ⟨[.dat 4 (.list 3 (.int .i64)) (.own (.ro)), .snp 39 (.list 54 (T5)) [], .snp 40 (.int .i64) [], .snp 41 (.int .i64) [], .box 1 true (T2) (.ro)], [(1, ⟨3, []⟩)], []⟩), false, []⟩ (.e (.n ⟨[], [], none, false, [(2, ⟨[], M5, [], [], none⟩), (3, ⟨[], M5, [], [], none⟩)]⟩ .z .z) (.e .z (.n ⟨[], [], (some ⟨[.dat 4 (.list 3 (.int .i64)) (.own (.ro)), .snp 39 (.list 54 (T5)) [], .snp 40 (.int .i64) [], .snp 41 (.int .i64) [], .box 1 true (T2) (.ro)], [(1, ⟨3, []⟩)], []⟩), false, []⟩ (.n ⟨[], [], (some ⟨[.dat 4 (.list 3 (.int .i64)) (.own (.ro)), .snp 39 (.list 54 (T5)) [], .snp 40 (.int .i64) [], .snp 41 (.int .i64) [], .snp 46 (.list 3 (.int .i64)) [], .snp 47 (.int .i64) [], .snp 48 (.int .i64) [], .box 1 true (T2) (.ro)], [(1, ⟨3, []⟩)], []⟩), false, []⟩ (.e .z (.e .z (.e (.e (.e .z (.n ⟨[], [], none, false, [(6, ⟨[], .ro, [], [], some 8⟩)]⟩ .z .z)) .z) .z))) .z) .z))) .z) .z))) .z) .z)) (.e (.e .z (.n ⟨[], [], (some ⟨[.dat 4 (.list 3 (.int .i64)) (.own (.ro))], [], []⟩), true, []⟩ (.n ⟨[], [], (some ⟨[.dat 4 (.list 3 (.int .i64)) (.own (.ro)), .snp 61 (.list 69 (T4)) [], .snp 62 (.int .i64) [], .snp 63 (.int .i64) [], .box 1 true (T2) (.ro)], [(1, ⟨3, []⟩)], []⟩), false, []⟩ (.e .z (.e .z (.e (.n ⟨[], [], (some ⟨[.dat 4 (.list 3 (.int .i64)) (.own (.ro)), .snp 61 (.list 69 (T4)) [], .snp 62 (.int .i64) [], .snp 63 (.int .i64) [], .box 1 true (T2) (.ro)], [(1, ⟨3, []⟩)], []⟩), true, []⟩ (.e (.n ⟨[], [], none, false, [(3, ⟨[], M3, [], [], none⟩), (5, ⟨[], M3, [], [], none⟩)]⟩ .z .z) (.e (.e (.n ⟨[], [], (some ⟨[.dat 4 (.list 3 (.int .i64)) (.own (.ro)), .snp 61 (.list 69 (T4)) [], .snp 62 (.int .i64) [], .snp 63 (.int .i64) [], .snp 79 (.bool) [], .box 1 true (T2) (.ro), .box 10 true (T4) (.ro)], [(1, ⟨3, []⟩), (10, ⟨21, []⟩)], []⟩), false, []⟩ .z .z) .z) (.e .z (.n ⟨[], [], (some ⟨[.dat 4 (.list 3 (.int .i64)) (.own (.ro)), .snp 61 (.list 69 (T4)) [], .snp 62 (.int .i64) [], .snp 63 (.int .i64) [], .box 1 true (T2) (.ro)], [(1, ⟨3, []⟩)], []⟩), true, []⟩ (.n ⟨[], [], (some ⟨[.dat 4 (.list 3 (.int .i64)) (.own (.ro)), .snp 61 (.list 69 (T4)) [], .snp 62 (.int .i64) [], .snp 63 (.int .i64) [], .dat 84 (.list 3 (.int .i64)) (.own (.ro)), .snp 85 (.int .i64) [], .snp 86 (.int .i64) [], .box 1 true (T2) (.ro)], [(1, ⟨3, []⟩)], []⟩), false, []⟩ (.e .z (.e .z (.e (.n ⟨[], [], (some ⟨[.dat 4 (.list 3 (.int .i64)) (.own (.ro)), .snp 61 (.list 69 (T4)) [], .snp 62 (.int .i64) [], .snp 63 (.int .i64) [], .dat 84 (.list 3 (.int .i64)) (.own (.ro)), .snp 85 (.int .i64) [], .snp 86 (.int .i64) [], .box 1 true (T2) (.ro)], [(1, ⟨3, []⟩)], []⟩), true, []⟩ (.e .z (.e .z (.e .z (.n ⟨[], [], none, false, [(3, ⟨[], .ro, [], [], some 8⟩)]⟩ .z .z)))) .z) .z))) .z) .z)))) .z) .z))) .z) .z)) (.e (.e (.n ⟨[], [.g 102], none, false, []⟩ .z .z) (.n ⟨[], [], (some ⟨[], [], []⟩), true, []⟩ (.n ⟨[], [], (some ⟨[.dat 102 (.list 3 (.int .i64)) (.own (.ro)), .snp 103 (.int .i64) [], .snp 104 (.int .i64) []], [], []⟩), false, []⟩ (.e .z (.e .z (.e (.e (.e .z (.e (.n ⟨[], [], (some ⟨[.dat 102 (.list 3 (.int .i64)) (.own (.ro)), .snp 103 (.int .i64) [], .snp 104 (.int .i64) [], .snp 113 (.bool) []], [], []⟩), false, []⟩ .z .z) .z)) .z) .z))) .z) .z)) .z)))))))
noncomputable def E72 : Env := ⟨tab, [C42, C76, C96, C97], 1, 115⟩
theorem d72 : (fun (x : HL (pts C72.ps)) => den E72 (Tryz.f72.body.getD .skip) H72 (initS 115 C72.ps x) (retK tab [] C72.ps C72.rs [.tmp 2]) (fun _ _ => none) (retK tab [] C72.ps C72.rs [.tmp 2])) = C72.F := by kernel_rfl
theorem c72 : Cok Tryz.prog C72 := by
  have h42 := c42
  have h76 := c76
  have h96 := c96
  have h97 := c97
  exact cok_of_den (E := E72) (fn := Tryz.f72) (code := Tryz.f72.body.getD .skip) (hn := H72) (gr := []) (is := [.tmp 2]) ⟨tabOk, (fun c hc => by simp only [E72, List.mem_cons, List.not_mem_nil, or_false] at hc; rcases hc with rfl | rfl | rfl | rfl <;> assumption), mixOk⟩ ⟨by kernel_rfl, by kernel_rfl, by kernel_rfl, by kernel_rfl, by kernel_rfl, by decide, by kernel_rfl⟩ (fun x y h => (congrFun d72 x).trans h)
noncomputable def C43 : Cal := ⟨43, [⟨.ro, .list 54 (T5)⟩, ⟨.ro, .int .i64⟩], [⟨.list 3 (.int .i64), .own (.ro)⟩], fun x => impl_under x.1 x.2.1⟩
def H43 : Hn := (.e .z (.e (.n ⟨[], [.g 5], none, false, []⟩ .z .z) (.e (.e .z (.n ⟨[], [], (some ⟨[.dat 5 (.list 3 (.int .i64)) (.own (.ro))], [], []⟩), false, []⟩ (.n ⟨[], [], (some ⟨[.snp 0 (.list 54 (T5)) [], .dat 5 (.list 3 (.int .i64)) (.own (.ro)), .snp 6 (.int .i64) []], [], []⟩), false, []⟩ (.e .z (.e (.n ⟨[], [], (some ⟨[.snp 0 (.list 54 (T5)) [], .dat 5 (.list 3 (.int .i64)) (.own (.ro)), .snp 6 (.int .i64) []], [], []⟩), false, []⟩ (.e .z (.n ⟨[], [], (some ⟨[.snp 0 (.list 54 (T5)) [], .dat 5 (.list 3 (.int .i64)) (.own (.ro)), .snp 6 (.int .i64) []], [], []⟩), false, []⟩ (.n ⟨[], [], (some ⟨[.snp 0 (.list 54 (T5)) [], .dat 5 (.list 3 (.int .i64)) (.own (.ro)), .snp 6 (.int .i64) [], .snp 24 (.list 3 (.int .i64)) [], .snp 25 (.int .i64) [], .snp 26 (.int .i64) []], [], []⟩), false, []⟩ (.e .z (.e .z (.e (.e (.e .z (.e .z (.n ⟨[], [], (some ⟨[.snp 0 (.list 54 (T5)) [], .dat 5 (.list 3 (.int .i64)) (.own (.ro)), .snp 6 (.int .i64) [], .snp 24 (.list 3 (.int .i64)) [], .snp 25 (.int .i64) [], .snp 26 (.int .i64) []], [], []⟩), false, []⟩ (.n ⟨[], [.g 5], none, false, [(3, ⟨[.g 34], .ro, [], [], none⟩)]⟩ .z .z) .z))) .z) .z))) .z) .z)) .z) .z)) .z) .z)) (.e .z (.e (.n ⟨[], [.g 4], none, false, []⟩ .z .z) .z)))))
noncomputable def E43 : Env := ⟨tab, [C50, C75], 2, 42⟩
theorem d43 : (fun (x : HL (pts C43.ps)) => den E43 (Tryz.f43.body.getD .skip) H43 (initS 42 C43.ps x) (retK tab [] C43.ps C43.rs [.tmp 4]) (fun _ _ => none) (retK tab [] C43.ps C43.rs [.tmp 4])) = C43.F := by kernel_rfl
theorem c43 : Cok Tryz.prog C43 := by
  have h50 := c50
  have h75 := c75
  exact cok_of_den (E := E43) (fn := Tryz.f43) (code := Tryz.f43.body.getD .skip) (hn := H43) (gr := []) (is := [.tmp 4]) ⟨tabOk, (fun c hc => by simp only [E43, List.mem_cons, List.not_mem_nil, or_false] at hc; rcases hc with rfl | rfl <;> assumption), mixOk⟩ ⟨by kernel_rfl, by kernel_rfl, by kernel_rfl, by kernel_rfl, by kernel_rfl, by decide, by kernel_rfl⟩ (fun x y h => (congrFun d43 x).trans h)
noncomputable def C57 : Cal := ⟨57, [⟨.ro, T2⟩, ⟨.ro, .int .i64⟩], [⟨.list 3 (.int .i64), .own (.ro)⟩], fun x => impl_Under x.1 x.2.1⟩
def H57 : Hn := (.e (.n ⟨[], [], none, false, [(0, ⟨[], M1, [], [], none⟩)]⟩ .z .z) (.e .z (.e (.n ⟨[], [.g 4], none, false, []⟩ .z .z) .z)))
noncomputable def E57 : Env := ⟨tab, [C76, C43], 2, 14⟩
theorem d57 : (fun (x : HL (pts C57.ps)) => den E57 (Tryz.f57.body.getD .skip) H57 (initS 14 C57.ps x) (retK tab [] C57.ps C57.rs [.tmp 4]) (fun _ _ => none) (retK tab [] C57.ps C57.rs [.tmp 4])) = C57.F := by kernel_rfl
theorem c57 : Cok Tryz.prog C57 := by
  have h76 := c76
  have h43 := c43
  exact cok_of_den (E := E57) (fn := Tryz.f57) (code := Tryz.f57.body.getD .skip) (hn := H57) (gr := []) (is := [.tmp 4]) ⟨tabOk, (fun c hc => by simp only [E57, List.mem_cons, List.not_mem_nil, or_false] at hc; rcases hc with rfl | rfl <;> assumption), mixOk⟩ ⟨by kernel_rfl, by kernel_rfl, by kernel_rfl, by kernel_rfl, by kernel_rfl, by decide, by kernel_rfl⟩ (fun x y h => (congrFun d57 x).trans h)
noncomputable def C28 : Cal := ⟨28, [⟨.ro, T2⟩, ⟨.ro, .int .i64⟩], [⟨.list 52 (T7), .own (.ro)⟩], fun x => impl_VarsOf x.1 x.2.1⟩
def H28 : Hn := (.e (.n ⟨[], [], none, false, [(0, ⟨[], M1, [], [], none⟩)]⟩ .z .z) (.e .z (.e .z (.e (.e .z (.n ⟨[], [], (some ⟨[.snp 1 (.int .i64) [], .dat 5 (.list 52 (T7)) (.own (.ro)), .box 2 true (T2) (.ro)], [(2, ⟨5, []⟩)], []⟩), false, []⟩ (.n ⟨[], [], (some ⟨[.snp 1 (.int .i64) [], .dat 5 (.list 52 (T7)) (.own (.ro)), .snp 23 (.list 85 (T11)) [], .snp 24 (.int .i64) [], .snp 25 (.int .i64) [], .box 2 true (T2) (.ro)], [(2, ⟨5, []⟩)], []⟩), false, []⟩ (.e .z (.e .z (.e (.e (.e .z (.n ⟨[], [.g 5], none, false, [(7, ⟨[.g 29], .ro, [], [], none⟩)]⟩ .z .z)) .z) .z))) .z) .z)) (.e (.e (.n ⟨[], [], none, false, [(0, .t 38), (1, .t 39), (2, .t 40), (3, .t 41), (4, .t 42), (5, .t 43), (6, .t 44), (7, .t 45), (8, .t 46), (9, .t 47)]⟩ .z .z) (.n ⟨[], [], (some ⟨[.dat 5 (.list 52 (T7)) (.own (.ro))], [], []⟩), false, []⟩ (.n ⟨[], [], (some ⟨[.dat 5 (.list 52 (T7)) (.own (.ro)), .dat 45 (.list 3 (.int .i64)) (.own (.ro)), .snp 46 (.int .i64) [], .snp 47 (.int .i64) [], .box 2 true (T2) (.ro)], [(2, ⟨5, []⟩)], []⟩), false, []⟩ (.e .z (.e .z (.e (.e (.e .z (.e (.n ⟨[], [], none, false, [(5, ⟨[], M5, [], [], none⟩), (6, ⟨[], M5, [], [], none⟩)]⟩ .z .z) (.e .z (.n ⟨[], [], (some ⟨[.dat 5 (.list 52 (T7)) (.own (.ro)), .dat 45 (.list 3 (.int .i64)) (.own (.ro)), .snp 46 (.int .i64) [], .snp 47 (.int .i64) [], .box 2 true (T2) (.ro)], [(2, ⟨5, []⟩)], []⟩), false, []⟩ (.n ⟨[], [.g 5], none, false, [(6, ⟨[.g 59], .ro, [], [], none⟩)]⟩ .z .z) .z)))) .z) .z))) .z) .z)) (.e (.n ⟨[], [.g 4], none, false, []⟩ .z .z) .z))))))
noncomputable def E28 : Env := ⟨tab, [C42, C57], 2, 68⟩
theorem d28 : (fun (x : HL (pts C28.ps)) => den E28 (Tryz.f28.body.getD .skip) H28 (initS 68 C28.ps x) (retK tab [] C28.ps C28.rs [.tmp 4]) (fun _ _ => none) (retK tab [] C28.ps C28.rs [.tmp 4])) = C28.F := by kernel_rfl
theorem c28 : Cok Tryz.prog C28 := by
  have h42 := c42
  have h57 := c57
  exact cok_of_den (E := E28) (fn := Tryz.f28) (code := Tryz.f28.body.getD .skip) (hn := H28) (gr := []) (is := [.tmp 4]) ⟨tabOk, (fun c hc => by simp only [E28, List.mem_cons, List.not_mem_nil, or_false] at hc; rcases hc with rfl | rfl <;> assumption), mixOk⟩ ⟨by kernel_rfl, by kernel_rfl, by kernel_rfl, by kernel_rfl, by kernel_rfl, by decide, by kernel_rfl⟩ (fun x y h => (congrFun d28 x).trans h)
noncomputable def C98 : Cal := ⟨98, [⟨.ro, .list 52 (T7)⟩, ⟨.ro, .str⟩], [⟨.int .i64, .ro⟩], fun x => impl_VarAt x.1 x.2.1⟩
def H98 : Hn := (.e .z (.e (.e .z (.n ⟨[], [], (some ⟨[], [], []⟩), true, []⟩ (.n ⟨[], [], (some ⟨[.snp 1 (.str) [], .snp 7 (.list 52 (T7)) [], .snp 8 (.int .i64) [], .snp 9 (.int .i64) []], [], []⟩), false, []⟩ .z .z) .z)) .z))
noncomputable def E98 : Env := ⟨tab, [], 2, 20⟩
theorem d98 : (fun (x : HL (pts C98.ps)) => den E98 (Tryz.f98.body.getD .skip) H98 (initS 20 C98.ps x) (retK tab [] C98.ps C98.rs [.tmp 4]) (fun _ _ => none) (retK tab [] C98.ps C98.rs [.tmp 4])) = C98.F := by kernel_rfl
theorem c98 : Cok Tryz.prog C98 := by
  exact cok_of_den (E := E98) (fn := Tryz.f98) (code := Tryz.f98.body.getD .skip) (hn := H98) (gr := []) (is := [.tmp 4]) ⟨tabOk, (fun c hc => by cases hc), mixOk⟩ ⟨by kernel_rfl, by kernel_rfl, by kernel_rfl, by kernel_rfl, by kernel_rfl, by decide, by kernel_rfl⟩ (fun x y h => (congrFun d98 x).trans h)
noncomputable def C73 : Cal := ⟨73, [⟨.ro, T2⟩, ⟨.ro, .int .i64⟩], [⟨.bool, .ro⟩], fun x => impl_namesOf x.1 x.2.1⟩
def H73 : Hn := (.e (.n ⟨[], [], none, false, [(0, ⟨[], M1, [], [], none⟩)]⟩ .z .z) (.e (.n ⟨[], [.g 5], none, false, []⟩ .z .z) (.e (.e .z (.n ⟨[], [], (some ⟨[], [], []⟩), true, []⟩ (.n ⟨[], [], (some ⟨[.dat 5 (.list 52 (T7)) (.own (.ro)), .snp 11 (.list 52 (T7)) [10], .snp 12 (.int .i64) [], .snp 13 (.int .i64) []], [], []⟩), false, []⟩ .z .z) .z)) .z)))
noncomputable def E73 : Env := ⟨tab, [C28, C98], 2, 25⟩
theorem d73 : (fun (x : HL (pts C73.ps)) => den E73 (Tryz.f73.body.getD .skip) H73 (initS 25 C73.ps x) (retK tab [] C73.ps C73.rs [.tmp 4]) (fun _ _ => none) (retK tab [] C73.ps C73.rs [.tmp 4])) = C73.F := by kernel_rfl
theorem c73 : Cok Tryz.prog C73 := by
  have h28 := c28
  have h98 := c98
  exact cok_of_den (E := E73) (fn := Tryz.f73) (code := Tryz.f73.body.getD .skip) (hn := H73) (gr := []) (is := [.tmp 4]) ⟨tabOk, (fun c hc => by simp only [E73, List.mem_cons, List.not_mem_nil, or_false] at hc; rcases hc with rfl | rfl <;> assumption), mixOk⟩ ⟨by kernel_rfl, by kernel_rfl, by kernel_rfl, by kernel_rfl, by kernel_rfl, by decide, by kernel_rfl⟩ (fun x y h => (congrFun d73 x).trans h)
noncomputable def C59 : Cal := ⟨59, [⟨.ro, .int .i64⟩], [⟨.bool, .ro⟩], fun x => impl_uses x.1⟩
def H59 : Hn := (.e .z (.e (.n ⟨[], [], (some ⟨[.snp 2 (.bool) []], [], []⟩), false, []⟩ .z .z) .z))
noncomputable def E59 : Env := ⟨tab, [C42], 1, 13⟩
theorem d59 : (fun (x : HL (pts C59.ps)) => den E59 (Tryz.f59.body.getD .skip) H59 (initS 13 C59.ps x) (retK tab [] C59.ps C59.rs [.tmp 2]) (fun _ _ => none) (retK tab [] C59.ps C59.rs [.tmp 2])) = C59.F := by kernel_rfl
theorem c59 : Cok Tryz.prog C59 := by
  have h42 := c42
  exact cok_of_den (E := E59) (fn := Tryz.f59) (code := Tryz.f59.body.getD .skip) (hn := H59) (gr := []) (is := [.tmp 2]) ⟨tabOk, (fun c hc => by simp only [E59, List.mem_cons, List.not_mem_nil, or_false] at hc; rcases hc with rfl <;> assumption), mixOk⟩ ⟨by kernel_rfl, by kernel_rfl, by kernel_rfl, by kernel_rfl, by kernel_rfl, by decide, by kernel_rfl⟩ (fun x y h => (congrFun d59 x).trans h)
noncomputable def C99 : Cal := ⟨99, [⟨.ro, .list 9 (.str)⟩, ⟨.ro, .str⟩], [⟨.bool, .ro⟩], fun x => impl_hasText x.1 x.2.1⟩
def H99 : Hn := (.e .z (.e (.e .z (.n ⟨[], [], (some ⟨[], [], []⟩), true, []⟩ (.n ⟨[], [], (some ⟨[.snp 1 (.str) [], .snp 7 (.list 9 (.str)) [], .snp 8 (.int .i64) [], .snp 9 (.int .i64) []], [], []⟩), false, []⟩ .z .z) .z)) .z))
noncomputable def E99 : Env := ⟨tab, [], 2, 17⟩
theorem d99 : (fun (x : HL (pts C99.ps)) => den E99 (Tryz.f99.body.getD .skip) H99 (initS 17 C99.ps x) (retK tab [] C99.ps C99.rs [.tmp 4]) (fun _ _ => none) (retK tab [] C99.ps C99.rs [.tmp 4])) = C99.F := by kernel_rfl
theorem c99 : Cok Tryz.prog C99 := by
  exact cok_of_den (E := E99) (fn := Tryz.f99) (code := Tryz.f99.body.getD .skip) (hn := H99) (gr := []) (is := [.tmp 4]) ⟨tabOk, (fun c hc => by cases hc), mixOk⟩ ⟨by kernel_rfl, by kernel_rfl, by kernel_rfl, by kernel_rfl, by kernel_rfl, by decide, by kernel_rfl⟩ (fun x y h => (congrFun d99 x).trans h)
def P74 : List Prm := [⟨.ro, T2⟩, ⟨.ro, .int .i64⟩, ⟨.ro, .int .i64⟩, ⟨.ro, .list 9 (.str)⟩]
def Q74 : List Ret := [⟨.bool, .ro⟩]
noncomputable def N74 (n : Nat) : Cal := ⟨74, P74, Q74, fun x => (R_impl_seen n).1 x.1 x.2.1 x.2.2.1 x.2.2.2.1⟩
def H74 : Hn := (.e (.n ⟨[], [], none, false, [(0, ⟨[], M1, [], [], none⟩)]⟩ .z .z) (.e (.n ⟨[], [], none, false, [(5, ⟨[], M5, [], [], none⟩), (6, ⟨[], M5, [], [], none⟩)]⟩ .z .z) (.e (.e (.n ⟨[], [], (some ⟨[.snp 1 (.int .i64) [], .snp 3 (.list 9 (.str)) [], .snp 28 (.bool) [], .box 4 true (T2) (.ro), .box 9 true (T5) (.ro)], [(4, ⟨9, []⟩), (9, ⟨19, []⟩)], []⟩), false, []⟩ .z .z) .z) (.e (.e .z (.n ⟨[], [], (some ⟨[.snp 1 (.int .i64) [], .snp 3 (.list 9 (.str)) [], .box 4 true (T2) (.ro), .box 9 true (T5) (.ro)], [(4, ⟨9, []⟩), (9, ⟨19, []⟩)], []⟩), true, []⟩ (.e .z (.e (.n ⟨[], [], (some ⟨[.snp 1 (.int .i64) [], .snp 3 (.list 9 (.str)) [], .snp 53 (.bool) [], .box 4 true (T2) (.ro), .box 9 true (T5) (.ro)], [(4, ⟨9, []⟩), (9, ⟨19, []⟩)], []⟩), false, [(0, .t 36), (1, .t 37), (2, .t 38), (3, .t 39), (4, .t 40), (5, .t 41), (6, .t 42), (7, .t 43), (8, .t 44), (9, .t 45), (10, .t 46), (11, .t 47), (12, .t 48), (13, .t 49), (14, .t 50), (15, .t 51), (16, .t 52), (17, .t 53)]⟩ .z .z) .z)) .z)) (.e (.n ⟨[], [.g 11], none, false, []⟩ .z .z) (.e (.e .z (.n ⟨[], [], (some ⟨[], [], []⟩), true, []⟩ (.n ⟨[], [], (some ⟨[.snp 1 (.int .i64) [], .dat 11 (.list 9 (.str)) (.own (.ro)), .snp 57 (.list 3 (.int .i64)) [], .snp 58 (.int .i64) [], .snp 59 (.int .i64) [], .box 4 true (T2) (.ro), .box 9 true (T5) (.ro)], [(4, ⟨9, []⟩), (9, ⟨19, []⟩)], []⟩), false, []⟩ (.e .z (.e .z (.e (.e (.e .z (.e .z (.e (.n ⟨[], [], (some ⟨[.snp 1 (.int .i64) [], .dat 11 (.list 9 (.str)) (.own (.ro)), .snp 13 (.int .i64) [], .snp 57 (.list 3 (.int .i64)) [], .snp 58 (.int .i64) [], .snp 59 (.int .i64) [], .snp 80 (.bool) [], .box 4 true (T2) (.ro), .box 9 true (T5) (.ro)], [(4, ⟨9, []⟩), (9, ⟨19, []⟩)], []⟩), false, []⟩ .z .z) (.n ⟨[], [], (some ⟨[.snp 1 (.int .i64) [], .dat 11 (.list 9 (.str)) (.own (.ro)), .snp 57 (.list 3 (.int .i64)) [], .snp 58 (.int .i64) [], .snp 59 (.int .i64) [], .box 4 true (T2) (.ro), .box 9 true (T5) (.ro)], [(4, ⟨9, []⟩), (9, ⟨19, []⟩)], []⟩), false, []⟩ (.n ⟨[], [.g 11], none, false, [(8, ⟨[.g 81], .ro, [], [], none⟩)]⟩ .z .z) .z)))) .z) .z))) .z) .z)) .z))))))
noncomputable def E74 (n : Nat) : Env := ⟨tab, [C59, C99, C97, C42, N74 n], 4, 91⟩
theorem d74 : (fun (n : Nat) (x : HL (pts P74)) => den (E74 n) (Tryz.f74.body.getD .skip) H74 (initS 91 P74 x) (retK tab [] P74 Q74 [.tmp 8]) (fun _ _ => none) (retK tab [] P74 Q74 [.tmp 8])) = fun n => (N74 (n + 1)).F := by kernel_rfl
theorem cN74 : ∀ n, Cok Tryz.prog (N74 n) := by
  intro n
  have h59 := c59
  have h99 := c99
  have h97 := c97
  have h42 := c42
  induction n with
  | zero => exact cok_none (fn := Tryz.f74) (by kernel_rfl) (by kernel_rfl) (by kernel_rfl) (fun _ => rfl)
  | succ n ih =>
    have h74 := ih
    refine ?_
    · exact cok_of_den (E := E74 n) (c := N74 (n + 1)) (fn := Tryz.f74) (code := Tryz.f74.body.getD .skip) (hn := H74) (gr := []) (is := [.tmp 8]) ⟨tabOk, (fun c hc => by simp only [E74, List.mem_cons, List.not_mem_nil, or_false] at hc; rcases hc with rfl | rfl | rfl | rfl | rfl <;> assumption), mixOk⟩ ⟨by kernel_rfl, by kernel_rfl, by kernel_rfl, by kernel_rfl, by kernel_rfl, Nat.le_of_ble_eq_true rfl, by kernel_rfl⟩ (fun x y h => (congrFun (congrFun d74 n) x).trans h)
noncomputable def C74 : Cal := ⟨74, P74, Q74, fun x => impl_seen x.1 x.2.1 x.2.2.1 x.2.2.2.1⟩
theorem c74 : Cok Tryz.prog C74 := cok_lim (F := fun n => (N74 n).F) (fun n => (cN74 n))
noncomputable def C41 : Cal := ⟨41, [⟨.ro, T2⟩], [⟨.bool, .ro⟩], fun x => impl_NamesRight x.1⟩
def H41 : Hn := (.e (.n ⟨[], [], none, false, [(0, ⟨[], M1, [], [], none⟩)]⟩ .z .z) (.e .z (.e (.e .z (.n ⟨[], [], (some ⟨[], [], []⟩), true, []⟩ (.n ⟨[], [], (some ⟨[.snp 14 (.list 69 (T4)) [], .snp 15 (.int .i64) [], .snp 16 (.int .i64) [], .box 1 true (T2) (.ro)], [(1, ⟨3, []⟩)], []⟩), false, []⟩ (.e .z (.e .z (.e (.n ⟨[], [], (some ⟨[.snp 14 (.list 69 (T4)) [], .snp 15 (.int .i64) [], .snp 16 (.int .i64) [], .box 1 true (T2) (.ro)], [(1, ⟨3, []⟩)], []⟩), true, []⟩ (.e (.n ⟨[], [], none, false, [(3, ⟨[], M3, [], [], none⟩), (5, ⟨[], M3, [], [], none⟩)]⟩ .z .z) (.e .z (.e .z (.e (.e .z (.n ⟨[], [], (some ⟨[.snp 3 (.int .i64) [], .dat 5 (.list 9 (.str)) (.own (.ro)), .snp 14 (.list 69 (T4)) [], .snp 15 (.int .i64) [], .snp 16 (.int .i64) [], .box 1 true (T2) (.ro), .box 4 true (T4) (.ro)], [(1, ⟨3, []⟩), (4, ⟨9, []⟩)], []⟩), false, []⟩ (.n ⟨[], [], (some ⟨[.snp 3 (.int .i64) [], .dat 5 (.list 9 (.str)) (.own (.ro)), .snp 14 (.list 69 (T4)) [], .snp 15 (.int .i64) [], .snp 16 (.int .i64) [], .snp 26 (.list 85 (T11)) [], .snp 27 (.int .i64) [], .snp 28 (.int .i64) [], .box 1 true (T2) (.ro), .box 4 true (T4) (.ro)], [(1, ⟨3, []⟩), (4, ⟨9, []⟩)], []⟩), false, []⟩ (.e .z (.e .z (.e (.e (.e .z (.n ⟨[], [.g 5], none, false, [(4, ⟨[.g 32], .ro, [], [], none⟩)]⟩ .z .z)) .z) .z))) .z) .z)) (.e .z (.e (.e .z (.n ⟨[], [], (some ⟨[.snp 3 (.int .i64) [], .dat 5 (.list 9 (.str)) (.own (.ro)), .snp 14 (.list 69 (T4)) [], .snp 15 (.int .i64) [], .snp 16 (.int .i64) [], .box 1 true (T2) (.ro), .box 4 true (T4) (.ro)], [(1, ⟨3, []⟩), (4, ⟨9, []⟩)], []⟩), false, []⟩ (.n ⟨[], [], (some ⟨[.snp 3 (.int .i64) [], .dat 5 (.list 9 (.str)) (.own (.ro)), .snp 14 (.list 69 (T4)) [], .snp 15 (.int .i64) [], .snp 16 (.int .i64) [], .snp 51 (.list 3 (.int .i64)) [], .snp 52 (.int .i64) [], .snp 53 (.int .i64) [], .box 1 true (T2) (.ro), .box 4 true (T4) (.ro)], [(1, ⟨3, []⟩), (4, ⟨9, []⟩)], []⟩), false, []⟩ (.e .z (.e .z (.e (.e (.e .z (.e .z (.n ⟨[], [], (some ⟨[.snp 3 (.int .i64) [], .dat 5 (.list 9 (.str)) (.own (.ro)), .snp 14 (.list 69 (T4)) [], .snp 15 (.int .i64) [], .snp 16 (.int .i64) [], .snp 51 (.list 3 (.int .i64)) [], .snp 52 (.int .i64) [], .snp 53 (.int .i64) [], .box 1 true (T2) (.ro), .box 4 true (T4) (.ro)], [(1, ⟨3, []⟩), (4, ⟨9, []⟩)], []⟩), false, []⟩ (.n ⟨[], [.g 5], none, false, [(8, ⟨[.g 64], .ro, [], [], none⟩)]⟩ .z .z) .z))) .z) .z))) .z) .z)) (.e (.n ⟨[], [.g 82], (some ⟨[.snp 14 (.list 69 (T4)) [], .snp 15 (.int .i64) [], .snp 16 (.int .i64) [], .snp 85 (.bool) [], .box 1 true (T2) (.ro)], [(1, ⟨3, []⟩)], []⟩), false, []⟩ .z .z) .z))))))) .z) .z))) .z) .z)) .z)))
noncomputable def E41 : Env := ⟨tab, [C72, C73, C74], 1, 87⟩
theorem d41 : (fun (x : HL (pts C41.ps)) => den E41 (Tryz.f41.body.getD .skip) H41 (initS 87 C41.ps x) (retK tab [] C41.ps C41.rs [.tmp 2]) (fun _ _ => none) (retK tab [] C41.ps C41.rs [.tmp 2])) = C41.F := by kernel_rfl
theorem c41 : Cok Tryz.prog C41 := by
  have h72 := c72
  have h73 := c73
  have h74 := c74
  exact cok_of_den (E := E41) (fn := Tryz.f41) (code := Tryz.f41.body.getD .skip) (hn := H41) (gr := []) (is := [.tmp 2]) ⟨tabOk, (fun c hc => by simp only [E41, List.mem_cons, List.not_mem_nil, or_false] at hc; rcases hc with rfl | rfl | rfl <;> assumption), mixOk⟩ ⟨by kernel_rfl, by kernel_rfl, by kernel_rfl, by kernel_rfl, by kernel_rfl, by decide, by kernel_rfl⟩ (fun x y h => (congrFun d41 x).trans h)
noncomputable def C86 : Cal := ⟨86, [⟨.ro, T2⟩, ⟨.ro, .int .i64⟩], [⟨.list 3 (.int .i64), .own (.ro)⟩], fun x => impl_roots x.1 x.2.1⟩
def H86 : Hn := (.e (.n ⟨[], [], none, false, [(0, ⟨[], M1, [], [], none⟩)]⟩ .z .z) (.e .z (.e (.n ⟨[], [.g 5], none, false, []⟩ .z .z) (.e (.e .z (.n ⟨[], [], (some ⟨[.dat 5 (.list 3 (.int .i64)) (.own (.ro))], [], []⟩), false, []⟩ (.n ⟨[], [.g 5], none, false, [(8, ⟨[.g 27], .ro, [], [], none⟩)]⟩ .z .z) .z)) (.e (.n ⟨[], [.g 4], none, false, []⟩ .z .z) .z)))))
noncomputable def E86 : Env := ⟨tab, [C42], 2, 37⟩
theorem d86 : (fun (x : HL (pts C86.ps)) => den E86 (Tryz.f86.body.getD .skip) H86 (initS 37 C86.ps x) (retK tab [] C86.ps C86.rs [.tmp 4]) (fun _ _ => none) (retK tab [] C86.ps C86.rs [.tmp 4])) = C86.F := by kernel_rfl
theorem c86 : Cok Tryz.prog C86 := by
  have h42 := c42
  exact cok_of_den (E := E86) (fn := Tryz.f86) (code := Tryz.f86.body.getD .skip) (hn := H86) (gr := []) (is := [.tmp 4]) ⟨tabOk, (fun c hc => by simp only [E86, List.mem_cons, List.not_mem_nil, or_false] at hc; rcases hc with rfl <;> assumption), mixOk⟩ ⟨by kernel_rfl, by kernel_rfl, by kernel_rfl, by kernel_rfl, by kernel_rfl, by decide, by kernel_rfl⟩ (fun x y h => (congrFun d86 x).trans h)
noncomputable def C58 : Cal := ⟨58, [⟨.ro, T2⟩, ⟨.ro, .int .i64⟩], [⟨.list 3 (.int .i64), .own (.ro)⟩], fun x => impl_fnNodes x.1 x.2.1⟩
def H58 : Hn := (.e (.n ⟨[], [], none, false, [(0, ⟨[], M1, [], [], none⟩)]⟩ .z .z) (.e .z (.e (.e .z (.n ⟨[], [], (some ⟨[.dat 5 (.list 3 (.int .i64)) (.own (.ro))], [], []⟩), false, []⟩ (.n ⟨[], [], (some ⟨[.dat 5 (.list 3 (.int .i64)) (.own (.ro)), .dat 12 (.list 3 (.int .i64)) (.own (.ro)), .snp 13 (.int .i64) [], .snp 14 (.int .i64) [], .box 2 true (T2) (.ro)], [(2, ⟨5, []⟩)], []⟩), false, []⟩ (.e .z (.e .z (.e (.n ⟨[], [], (some ⟨[.dat 5 (.list 3 (.int .i64)) (.own (.ro)), .dat 12 (.list 3 (.int .i64)) (.own (.ro)), .snp 13 (.int .i64) [], .snp 14 (.int .i64) [], .box 2 true (T2) (.ro)], [(2, ⟨5, []⟩)], []⟩), false, []⟩ (.e .z (.e .z (.n ⟨[], [], (some ⟨[.dat 5 (.list 3 (.int .i64)) (.own (.ro)), .dat 12 (.list 3 (.int .i64)) (.own (.ro)), .snp 13 (.int .i64) [], .snp 14 (.int .i64) [], .box 2 true (T2) (.ro)], [(2, ⟨5, []⟩)], []⟩), false, []⟩ (.n ⟨[], [], (some ⟨[.dat 5 (.list 3 (.int .i64)) (.own (.ro)), .dat 12 (.list 3 (.int .i64)) (.own (.ro)), .snp 13 (.int .i64) [], .snp 14 (.int .i64) [], .dat 20 (.list 3 (.int .i64)) (.own (.ro)), .snp 21 (.int .i64) [], .snp 22 (.int .i64) [], .box 2 true (T2) (.ro)], [(2, ⟨5, []⟩)], []⟩), false, []⟩ (.e .z (.e .z (.e (.e (.e .z (.e .z (.n ⟨[], [], (some ⟨[.dat 5 (.list 3 (.int .i64)) (.own (.ro)), .dat 12 (.list 3 (.int .i64)) (.own (.ro)), .snp 13 (.int .i64) [], .snp 14 (.int .i64) [], .dat 20 (.list 3 (.int .i64)) (.own (.ro)), .snp 21 (.int .i64) [], .snp 22 (.int .i64) [], .box 2 true (T2) (.ro)], [(2, ⟨5, []⟩)], []⟩), false, []⟩ (.n ⟨[], [.g 5], none, false, [(3, ⟨[.g 30], .ro, [], [], none⟩)]⟩ .z .z) .z))) .z) .z))) .z) .z))) .z) .z))) .z) .z)) (.e .z (.e (.n ⟨[], [.g 4], none, false, []⟩ .z .z) .z)))))
noncomputable def E58 : Env := ⟨tab, [C86, C57, C50, C75], 2, 39⟩
theorem d58 : (fun (x : HL (pts C58.ps)) => den E58 (Tryz.f58.body.getD .skip) H58 (initS 39 C58.ps x) (retK tab [] C58.ps C58.rs [.tmp 4]) (fun _ _ => none) (retK tab [] C58.ps C58.rs [.tmp 4])) = C58.F := by kernel_rfl
theorem c58 : Cok Tryz.prog C58 := by
  have h86 := c86
  have h57 := c57
  have h50 := c50
  have h75 := c75
  exact cok_of_den (E := E58) (fn := Tryz.f58) (code := Tryz.f58.body.getD .skip) (hn := H58) (gr := []) (is := [.tmp 4]) ⟨tabOk, (fun c hc => by simp only [E58, List.mem_cons, List.not_mem_nil, or_false] at hc; rcases hc with rfl | rfl | rfl | rfl <;> assumption), mixOk⟩ ⟨by kernel_rfl, by kernel_rfl, by kernel_rfl, by kernel_rfl, by kernel_rfl, by decide, by kernel_rfl⟩ (fun x y h => (congrFun d58 x).trans h)
noncomputable def C104 : Cal := ⟨104, [⟨.ro, T2⟩, ⟨.ro, .int .i64⟩], [⟨.list 3 (.int .i64), .own (.ro)⟩], fun x => impl_CallsOf x.1 x.2.1⟩
def H104 : Hn := (.e (.n ⟨[], [], none, false, [(0, ⟨[], M1, [], [], none⟩)]⟩ .z .z) (.e .z (.e (.e .z (.n ⟨[], [], (some ⟨[.dat 5 (.list 3 (.int .i64)) (.own (.ro))], [], []⟩), false, []⟩ (.n ⟨[], [], (some ⟨[.dat 5 (.list 3 (.int .i64)) (.own (.ro)), .dat 12 (.list 3 (.int .i64)) (.own (.ro)), .snp 13 (.int .i64) [], .snp 14 (.int .i64) [], .box 2 true (T2) (.ro)], [(2, ⟨5, []⟩)], []⟩), false, []⟩ (.e .z (.e .z (.e (.e (.e .z (.e (.n ⟨[], [], none, false, [(5, ⟨[], M5, [], [], none⟩), (6, ⟨[], M5, [], [], none⟩)]⟩ .z .z) (.e .z (.n ⟨[], [], (some ⟨[.dat 5 (.list 3 (.int .i64)) (.own (.ro)), .dat 12 (.list 3 (.int .i64)) (.own (.ro)), .snp 13 (.int .i64) [], .snp 14 (.int .i64) [], .box 2 true (T2) (.ro)], [(2, ⟨5, []⟩)], []⟩), false, []⟩ (.e .z (.e (.n ⟨[], [], (some ⟨[.dat 5 (.list 3 (.int .i64)) (.own (.ro)), .snp 9 (.int .i64) [], .dat 12 (.list 3 (.int .i64)) (.own (.ro)), .snp 13 (.int .i64) [], .snp 14 (.int .i64) [], .snp 37 (.bool) [], .box 2 true (T2) (.ro)], [(2, ⟨5, []⟩)], []⟩), false, []⟩ .z .z) (.n ⟨[], [], (some ⟨[.dat 5 (.list 3 (.int .i64)) (.own (.ro)), .dat 12 (.list 3 (.int .i64)) (.own (.ro)), .snp 13 (.int .i64) [], .snp 14 (.int .i64) [], .box 2 true (T2) (.ro)], [(2, ⟨5, []⟩)], []⟩), false, []⟩ (.n ⟨[], [.g 5], none, false, [(3, ⟨[.g 38], .ro, [], [], none⟩)]⟩ .z .z) .z))) .z)))) .z) .z))) .z) .z)) (.e (.n ⟨[], [.g 4], none, false, []⟩ .z .z) .z))))
noncomputable def E104 : Env := ⟨tab, [C58, C97, C50], 2, 44⟩
theorem d104 : (fun (x : HL (pts C104.ps)) => den E104 (Tryz.f104.body.getD .skip) H104 (initS 44 C104.ps x) (retK tab [] C104.ps C104.rs [.tmp 4]) (fun _ _ => none) (retK tab [] C104.ps C104.rs [.tmp 4])) = C104.F := by kernel_rfl
theorem c104 : Cok Tryz.prog C104 := by
  have h58 := c58
  have h97 := c97
  have h50 := c50
  exact cok_of_den (E := E104) (fn := Tryz.f104) (code := Tryz.f104.body.getD .skip) (hn := H104) (gr := []) (is := [.tmp 4]) ⟨tabOk, (fun c hc => by simp only [E104, List.mem_cons, List.not_mem_nil, or_false] at hc; rcases hc with rfl | rfl | rfl <;> assumption), mixOk⟩ ⟨by kernel_rfl, by kernel_rfl, by kernel_rfl, by kernel_rfl, by kernel_rfl, by decide, by kernel_rfl⟩ (fun x y h => (congrFun d104 x).trans h)
noncomputable def C81 : Cal := ⟨81, [⟨.ro, T2⟩, ⟨.ro, .int .i64⟩], [⟨.list 3 (.int .i64), .own (.ro)⟩], fun x => impl_ReachedFns x.1 x.2.1⟩
def H81 : Hn := (.e (.n ⟨[], [], none, false, [(0, ⟨[], M1, [], [], none⟩)]⟩ .z .z) (.e .z (.e (.n ⟨[], [.g 5], none, false, []⟩ .z .z) (.e (.e .z (.n ⟨[], [], (some ⟨[.dat 5 (.list 3 (.int .i64)) (.own (.ro))], [], []⟩), false, []⟩ (.n ⟨[], [], (some ⟨[.dat 5 (.list 3 (.int .i64)) (.own (.ro)), .snp 6 (.int .i64) [], .box 2 true (T2) (.ro)], [(2, ⟨5, []⟩)], []⟩), false, []⟩ (.e .z (.e (.n ⟨[], [], (some ⟨[.dat 5 (.list 3 (.int .i64)) (.own (.ro)), .snp 6 (.int .i64) [], .box 2 true (T2) (.ro)], [(2, ⟨5, []⟩)], []⟩), false, []⟩ (.e (.n ⟨[], [], none, false, [(0, .t 24), (1, .t 25), (2, .t 26), (3, .t 27), (4, .t 28), (5, .t 29), (6, .t 30), (7, .t 31)]⟩ .z .z) (.n ⟨[], [], (some ⟨[.dat 5 (.list 3 (.int .i64)) (.own (.ro)), .snp 6 (.int .i64) [], .box 2 true (T2) (.ro)], [(2, ⟨5, []⟩)], []⟩), false, []⟩ (.n ⟨[], [], (some ⟨[.dat 5 (.list 3 (.int .i64)) (.own (.ro)), .snp 6 (.int .i64) [], .dat 29 (.list 3 (.int .i64)) (.own (.ro)), .snp 30 (.int .i64) [], .snp 31 (.int .i64) [], .box 2 true (T2) (.ro)], [(2, ⟨5, []⟩)], []⟩), false, []⟩ (.e .z (.e .z (.e (.e (.e .z (.e .z (.n ⟨[], [], (some ⟨[.dat 5 (.list 3 (.int .i64)) (.own (.ro)), .snp 6 (.int .i64) [], .dat 29 (.list 3 (.int .i64)) (.own (.ro)), .snp 30 (.int .i64) [], .snp 31 (.int .i64) [], .box 2 true (T2) (.ro)], [(2, ⟨5, []⟩)], []⟩), false, []⟩ (.n ⟨[], [.g 5], none, false, [(3, ⟨[.g 39], .ro, [], [], none⟩)]⟩ .z .z) .z))) .z) .z))) .z) .z)) .z) .z)) .z) .z)) (.e .z (.e (.n ⟨[], [.g 4], none, false, []⟩ .z .z) .z))))))
noncomputable def E81 : Env := ⟨tab, [C42, C104, C50, C75], 2, 47⟩
theorem d81 : (fun (x : HL (pts C81.ps)) => den E81 (Tryz.f81.body.getD .skip) H81 (initS 47 C81.ps x) (retK tab [] C81.ps C81.rs [.tmp 4]) (fun _ _ => none) (retK tab [] C81.ps C81.rs [.tmp 4])) = C81.F := by kernel_rfl
theorem c81 : Cok Tryz.prog C81 := by
  have h42 := c42
  have h104 := c104
  have h50 := c50
  have h75 := c75
  exact cok_of_den (E := E81) (fn := Tryz.f81) (code := Tryz.f81.body.getD .skip) (hn := H81) (gr := []) (is := [.tmp 4]) ⟨tabOk, (fun c hc => by simp only [E81, List.mem_cons, List.not_mem_nil, or_false] at hc; rcases hc with rfl | rfl | rfl | rfl <;> assumption), mixOk⟩ ⟨by kernel_rfl, by kernel_rfl, by kernel_rfl, by kernel_rfl, by kernel_rfl, by decide, by kernel_rfl⟩ (fun x y h => (congrFun d81 x).trans h)
noncomputable def C49 : Cal := ⟨49, [⟨.ro, T2⟩], [⟨.list 3 (.int .i64), .own (.ro)⟩], fun x => impl_DeadFns x.1⟩
def H49 : Hn := (.e (.n ⟨[], [], none, false, [(0, ⟨[], M1, [], [], none⟩)]⟩ .z .z) (.e (.n ⟨[], [.g 3], none, false, []⟩ .z .z) (.e .z (.e (.e .z (.n ⟨[], [], (some ⟨[.dat 4 (.list 3 (.int .i64)) (.own (.ro))], [], []⟩), false, []⟩ (.n ⟨[], [], (some ⟨[.dat 3 (.list 3 (.int .i64)) (.own (.ro)), .dat 4 (.list 3 (.int .i64)) (.own (.ro)), .snp 14 (.int .i64) [], .snp 15 (.int .i64) []], [], []⟩), false, []⟩ (.e .z (.e .z (.e (.e (.e .z (.e .z (.n ⟨[], [], (some ⟨[.dat 3 (.list 3 (.int .i64)) (.own (.ro)), .dat 4 (.list 3 (.int .i64)) (.own (.ro)), .snp 14 (.int .i64) [], .snp 15 (.int .i64) []], [], []⟩), false, []⟩ (.n ⟨[], [.g 4], none, false, [(3, ⟨[.g 22], .ro, [], [], none⟩)]⟩ .z .z) .z))) .z) .z))) .z) .z)) (.e (.n ⟨[], [.g 2], none, false, []⟩ .z .z) .z)))))
noncomputable def E49 : Env := ⟨tab, [C81, C50], 1, 28⟩
theorem d49 : (fun (x : HL (pts C49.ps)) => den E49 (Tryz.f49.body.getD .skip) H49 (initS 28 C49.ps x) (retK tab [] C49.ps C49.rs [.tmp 2]) (fun _ _ => none) (retK tab [] C49.ps C49.rs [.tmp 2])) = C49.F := by kernel_rfl
theorem c49 : Cok Tryz.prog C49 := by
  have h81 := c81
  have h50 := c50
  exact cok_of_den (E := E49) (fn := Tryz.f49) (code := Tryz.f49.body.getD .skip) (hn := H49) (gr := []) (is := [.tmp 2]) ⟨tabOk, (fun c hc => by simp only [E49, List.mem_cons, List.not_mem_nil, or_false] at hc; rcases hc with rfl | rfl <;> assumption), mixOk⟩ ⟨by kernel_rfl, by kernel_rfl, by kernel_rfl, by kernel_rfl, by kernel_rfl, by decide, by kernel_rfl⟩ (fun x y h => (congrFun d49 x).trans h)
noncomputable def C29 : Cal := ⟨29, [⟨.ro, T2⟩, ⟨.ro, .int .i64⟩, ⟨.ro, .str⟩], [⟨.list 3 (.int .i64), .own (.ro)⟩], fun x => impl_UsesOf x.1 x.2.1 x.2.2.1⟩
def H29 : Hn := (.e (.n ⟨[], [], none, false, [(0, ⟨[], M1, [], [], none⟩)]⟩ .z .z) (.e .z (.e (.e .z (.n ⟨[], [], (some ⟨[.dat 7 (.list 3 (.int .i64)) (.own (.ro))], [], []⟩), false, []⟩ (.n ⟨[], [], (some ⟨[.snp 2 (.str) [], .dat 7 (.list 3 (.int .i64)) (.own (.ro)), .dat 13 (.list 3 (.int .i64)) (.own (.ro)), .snp 14 (.int .i64) [], .snp 15 (.int .i64) [], .box 3 true (T2) (.ro)], [(3, ⟨7, []⟩)], []⟩), false, []⟩ (.e .z (.e .z (.e (.e (.e .z (.e (.n ⟨[], [], none, false, [(5, ⟨[], M5, [], [], none⟩), (6, ⟨[], M5, [], [], none⟩)]⟩ .z .z) (.e (.n ⟨[], [], (some ⟨[.snp 2 (.str) [], .dat 7 (.list 3 (.int .i64)) (.own (.ro)), .snp 9 (.int .i64) [], .dat 13 (.list 3 (.int .i64)) (.own (.ro)), .snp 14 (.int .i64) [], .snp 15 (.int .i64) [], .snp 32 (.bool) [], .box 3 true (T2) (.ro)], [(3, ⟨7, []⟩)], []⟩), false, []⟩ .z .z) (.n ⟨[], [], (some ⟨[.snp 2 (.str) [], .dat 7 (.list 3 (.int .i64)) (.own (.ro)), .dat 13 (.list 3 (.int .i64)) (.own (.ro)), .snp 14 (.int .i64) [], .snp 15 (.int .i64) [], .box 3 true (T2) (.ro)], [(3, ⟨7, []⟩)], []⟩), false, []⟩ (.n ⟨[], [.g 7], none, false, [(3, ⟨[.g 33], .ro, [], [], none⟩)]⟩ .z .z) .z)))) .z) .z))) .z) .z)) (.e (.n ⟨[], [.g 6], none, false, []⟩ .z .z) .z))))
noncomputable def E29 : Env := ⟨tab, [C58, C59], 3, 39⟩
theorem d29 : (fun (x : HL (pts C29.ps)) => den E29 (Tryz.f29.body.getD .skip) H29 (initS 39 C29.ps x) (retK tab [] C29.ps C29.rs [.tmp 6]) (fun _ _ => none) (retK tab [] C29.ps C29.rs [.tmp 6])) = C29.F := by kernel_rfl
theorem c29 : Cok Tryz.prog C29 := by
  have h58 := c58
  have h59 := c59
  exact cok_of_den (E := E29) (fn := Tryz.f29) (code := Tryz.f29.body.getD .skip) (hn := H29) (gr := []) (is := [.tmp 6]) ⟨tabOk, (fun c hc => by simp only [E29, List.mem_cons, List.not_mem_nil, or_false] at hc; rcases hc with rfl | rfl <;> assumption), mixOk⟩ ⟨by kernel_rfl, by kernel_rfl, by kernel_rfl, by kernel_rfl, by kernel_rfl, by decide, by kernel_rfl⟩ (fun x y h => (congrFun d29 x).trans h)
noncomputable def C9 : Cal := ⟨9, [⟨.ro, T2⟩, ⟨.ro, .int .i64⟩], [⟨.list 9 (.str), .own (.ro)⟩], fun x => impl_UnusedVars x.1 x.2.1⟩
def H9 : Hn := (.e (.n ⟨[], [], none, false, [(0, ⟨[], M1, [], [], none⟩)]⟩ .z .z) (.e .z (.e (.e .z (.n ⟨[], [], (some ⟨[.dat 5 (.list 9 (.str)) (.own (.ro))], [], []⟩), false, []⟩ (.n ⟨[], [], (some ⟨[.snp 1 (.int .i64) [], .dat 5 (.list 9 (.str)) (.own (.ro)), .dat 13 (.list 52 (T7)) (.own (.ro)), .snp 14 (.int .i64) [], .snp 15 (.int .i64) [], .box 2 true (T2) (.ro)], [(2, ⟨5, []⟩)], []⟩), false, []⟩ (.e .z (.e .z (.e (.n ⟨[], [], (some ⟨[.snp 1 (.int .i64) [], .dat 5 (.list 9 (.str)) (.own (.ro)), .dat 13 (.list 52 (T7)) (.own (.ro)), .snp 14 (.int .i64) [], .snp 15 (.int .i64) [], .box 2 true (T2) (.ro)], [(2, ⟨5, []⟩)], []⟩), false, []⟩ (.e .z (.e .z (.e (.e .z (.n ⟨[], [], (some ⟨[.snp 1 (.int .i64) [], .dat 5 (.list 9 (.str)) (.own (.ro)), .snp 8 (.bool) [], .dat 13 (.list 52 (T7)) (.own (.ro)), .snp 14 (.int .i64) [], .snp 15 (.int .i64) [], .box 2 true (T2) (.ro), .box 7 true (T7) (.ro)], [(2, ⟨5, []⟩), (7, ⟨15, []⟩)], []⟩), false, []⟩ (.n ⟨[], [], (some ⟨[.snp 1 (.int .i64) [], .dat 5 (.list 9 (.str)) (.own (.ro)), .snp 8 (.bool) [], .dat 13 (.list 52 (T7)) (.own (.ro)), .snp 14 (.int .i64) [], .snp 15 (.int .i64) [], .dat 23 (.list 3 (.int .i64)) (.own (.ro)), .snp 24 (.int .i64) [], .snp 25 (.int .i64) [], .box 2 true (T2) (.ro), .box 7 true (T7) (.ro)], [(2, ⟨5, []⟩), (7, ⟨15, []⟩)], []⟩), false, []⟩ (.e .z (.e .z (.e (.e (.e .z (.n ⟨[], [], (some ⟨[.snp 1 (.int .i64) [], .dat 5 (.list 9 (.str)) (.own (.ro)), .snp 8 (.bool) [], .dat 13 (.list 52 (T7)) (.own (.ro)), .snp 14 (.int .i64) [], .snp 15 (.int .i64) [], .dat 23 (.list 3 (.int .i64)) (.own (.ro)), .snp 24 (.int .i64) [], .snp 25 (.int .i64) [], .box 2 true (T2) (.ro), .box 7 true (T7) (.ro)], [(2, ⟨5, []⟩), (7, ⟨15, []⟩)], []⟩), false, []⟩ .z .z)) .z) .z))) .z) .z)) (.e .z (.n ⟨[], [], (some ⟨[.snp 1 (.int .i64) [], .dat 5 (.list 9 (.str)) (.own (.ro)), .dat 13 (.list 52 (T7)) (.own (.ro)), .snp 14 (.int .i64) [], .snp 15 (.int .i64) [], .box 2 true (T2) (.ro)], [(2, ⟨5, []⟩)], []⟩), false, []⟩ (.n ⟨[], [.g 5], none, false, [(4, ⟨[.g 42], .ro, [], [], none⟩)]⟩ .z .z) .z))))) .z) .z))) .z) .z)) (.e (.n ⟨[], [.g 4], none, false, []⟩ .z .z) .z))))
noncomputable def E9 : Env := ⟨tab, [C28, C29], 2, 49⟩
theorem d9 : (fun (x : HL (pts C9.ps)) => den E9 (Tryz.f9.body.getD .skip) H9 (initS 49 C9.ps x) (retK tab [] C9.ps C9.rs [.tmp 4]) (fun _ _ => none) (retK tab [] C9.ps C9.rs [.tmp 4])) = C9.F := by kernel_rfl
theorem c9 : Cok Tryz.prog C9 := by
  have h28 := c28
  have h29 := c29
  exact cok_of_den (E := E9) (fn := Tryz.f9) (code := Tryz.f9.body.getD .skip) (hn := H9) (gr := []) (is := [.tmp 4]) ⟨tabOk, (fun c hc => by simp only [E9, List.mem_cons, List.not_mem_nil, or_false] at hc; rcases hc with rfl | rfl <;> assumption), mixOk⟩ ⟨by kernel_rfl, by kernel_rfl, by kernel_rfl, by kernel_rfl, by kernel_rfl, by decide, by kernel_rfl⟩ (fun x y h => (congrFun d9 x).trans h)
def P77 : List Prm := [⟨.ro, T2⟩, ⟨.ro, .int .i64⟩, ⟨.ro, T2⟩, ⟨.ro, .int .i64⟩]
def Q77 : List Ret := [⟨.bool, .ro⟩]
noncomputable def N77 (n : Nat) : Cal := ⟨77, P77, Q77, fun x => (R_impl_sameTree n).1 x.1 x.2.1 x.2.2.1 x.2.2.2.1⟩
def H77 : Hn := (.e (.n ⟨[], [], none, false, [(0, ⟨[], M1, [], [], none⟩), (1, ⟨[], M1, [], [], none⟩)]⟩ .z .z) (.e (.n ⟨[], [], none, false, [(0, .t 12), (1, .t 13), (2, .t 14), (3, .t 15), (4, .t 16), (5, .t 17), (6, .t 18), (7, .t 19), (8, .t 20), (9, .t 21), (10, ⟨[], M5, [9], [9], none⟩), (11, ⟨[], M5, [10], [10], none⟩), (12, ⟨[], M5, [9], [9], none⟩), (13, ⟨[], M5, [10], [10], none⟩)]⟩ .z .z) (.e (.e (.n ⟨[], [], (some ⟨[.snp 49 (.bool) [], .box 4 true (T2) (.ro), .box 6 true (T2) (.ro), .box 9 true (T5) (.ro), .box 10 true (T5) (.ro)], [(4, ⟨9, []⟩), (6, ⟨13, []⟩), (9, ⟨19, []⟩), (10, ⟨21, []⟩)], []⟩), false, []⟩ .z .z) .z) (.e (.e .z (.n ⟨[], [], (some ⟨[], [], []⟩), true, []⟩ (.n ⟨[], [], (some ⟨[.snp 52 (.int .i64) [], .snp 53 (.int .i64) [], .box 4 true (T2) (.ro), .box 6 true (T2) (.ro), .box 9 true (T5) (.ro), .box 10 true (T5) (.ro)], [(4, ⟨9, []⟩), (6, ⟨13, []⟩), (9, ⟨19, []⟩), (10, ⟨21, []⟩)], []⟩), false, []⟩ (.e .z (.e .z (.e (.e (.e .z (.e (.n ⟨[], [], none, false, [(0, .t 56), (1, .t 57), (2, .t 58), (3, .t 59), (4, .t 60), (5, .t 61), (6, .t 62), (7, .t 63), (8, .t 64), (9, .t 65), (10, .t 66), (11, .t 67), (12, .t 68), (13, .t 69)]⟩ .z .z) .z)) .z) .z))) .z) .z)) .z))))
noncomputable def E77 (n : Nat) : Env := ⟨tab, [N77 n], 4, 71⟩
theorem d77 : (fun (n : Nat) (x : HL (pts P77)) => den (E77 n) (Tryz.f77.body.getD .skip) H77 (initS 71 P77 x) (retK tab [] P77 Q77 [.tmp 8]) (fun _ _ => none) (retK tab [] P77 Q77 [.tmp 8])) = fun n => (N77 (n + 1)).F := by kernel_rfl
theorem cN77 : ∀ n, Cok Tryz.prog (N77 n) := by
  intro n
  induction n with
  | zero => exact cok_none (fn := Tryz.f77) (by kernel_rfl) (by kernel_rfl) (by kernel_rfl) (fun _ => rfl)
  | succ n ih =>
    have h77 := ih
    refine ?_
    · exact cok_of_den (E := E77 n) (c := N77 (n + 1)) (fn := Tryz.f77) (code := Tryz.f77.body.getD .skip) (hn := H77) (gr := []) (is := [.tmp 8]) ⟨tabOk, (fun c hc => by simp only [E77, List.mem_cons, List.not_mem_nil, or_false] at hc; rcases hc with rfl <;> assumption), mixOk⟩ ⟨by kernel_rfl, by kernel_rfl, by kernel_rfl, by kernel_rfl, by kernel_rfl, Nat.le_of_ble_eq_true rfl, by kernel_rfl⟩ (fun x y h => (congrFun (congrFun d77 n) x).trans h)
noncomputable def C77 : Cal := ⟨77, P77, Q77, fun x => impl_sameTree x.1 x.2.1 x.2.2.1 x.2.2.2.1⟩
theorem c77 : Cok Tryz.prog C77 := cok_lim (F := fun n => (N77 n).F) (fun n => (cN77 n))
noncomputable def C44 : Cal := ⟨44, [⟨.ro, T2⟩, ⟨.ro, .int .i64⟩], [⟨.bool, .ro⟩], fun x => impl_SameBlocks x.1 x.2.1⟩
def H44 : Hn := (.e (.n ⟨[], [], none, false, [(0, ⟨[], M1, [], [], none⟩)]⟩ .z .z) (.e (.e (.n ⟨[], [], (some ⟨[.snp 1 (.int .i64) [], .snp 19 (.bool) [], .box 2 true (T2) (.ro)], [(2, ⟨5, []⟩)], []⟩), false, []⟩ .z .z) .z) (.e (.n ⟨[], [], none, false, [(5, ⟨[], M5, [], [], none⟩), (6, ⟨[], M5, [], [], none⟩)]⟩ .z .z) (.e (.n ⟨[], [], none, false, [(0, .t 25), (1, .t 26), (2, .t 27), (3, .t 28), (4, .t 29), (5, .t 30), (6, .t 31), (7, .t 32), (8, .t 33), (9, .t 34), (10, .t 35), (11, .t 4)]⟩ .z .z) .z))))
noncomputable def E44 : Env := ⟨tab, [C76, C77], 2, 36⟩
theorem d44 : (fun (x : HL (pts C44.ps)) => den E44 (Tryz.f44.body.getD .skip) H44 (initS 36 C44.ps x) (retK tab [] C44.ps C44.rs [.tmp 4]) (fun _ _ => none) (retK tab [] C44.ps C44.rs [.tmp 4])) = C44.F := by kernel_rfl
theorem c44 : Cok Tryz.prog C44 := by
  have h76 := c76
  have h77 := c77
  exact cok_of_den (E := E44) (fn := Tryz.f44) (code := Tryz.f44.body.getD .skip) (hn := H44) (gr := []) (is := [.tmp 4]) ⟨tabOk, (fun c hc => by simp only [E44, List.mem_cons, List.not_mem_nil, or_false] at hc; rcases hc with rfl | rfl <;> assumption), mixOk⟩ ⟨by kernel_rfl, by kernel_rfl, by kernel_rfl, by kernel_rfl, by kernel_rfl, by decide, by kernel_rfl⟩ (fun x y h => (congrFun d44 x).trans h)
noncomputable def C78 : Cal := ⟨78, [⟨.ro, .bool⟩], [⟨.int .i64, .ro⟩], fun x => impl_bit x.1⟩
def H78 : Hn := .z
noncomputable def E78 : Env := ⟨tab, [], 1, 4⟩
theorem d78 : (fun (x : HL (pts C78.ps)) => den E78 (Tryz.f78.body.getD .skip) H78 (initS 4 C78.ps x) (retK tab [] C78.ps C78.rs [.tmp 2]) (fun _ _ => none) (retK tab [] C78.ps C78.rs [.tmp 2])) = C78.F := by kernel_rfl
theorem c78 : Cok Tryz.prog C78 := by
  exact cok_of_den (E := E78) (fn := Tryz.f78) (code := Tryz.f78.body.getD .skip) (hn := H78) (gr := []) (is := [.tmp 2]) ⟨tabOk, (fun c hc => by cases hc), mixOk⟩ ⟨by kernel_rfl, by kernel_rfl, by kernel_rfl, by kernel_rfl, by kernel_rfl, by decide, by kernel_rfl⟩ (fun x y h => (congrFun d78 x).trans h)
def P45 : List Prm := [⟨.ro, T2⟩, ⟨.ro, .int .i64⟩]
def Q45 : List Ret := [⟨.int .i64, .ro⟩, ⟨.bool, .ro⟩]
noncomputable def N45 (n : Nat) : Cal := ⟨45, P45, Q45, fun x => (R_impl_constOf n).1 x.1 x.2.1⟩
def H45 : Hn := (.e (.n ⟨[], [], none, false, [(0, ⟨[], M1, [], [], none⟩)]⟩ .z .z) (.e (.n ⟨[], [], none, false, [(5, ⟨[], M5, [], [], none⟩), (6, ⟨[], M5, [], [], none⟩)]⟩ .z .z) (.e .z (.e .z (.e (.n ⟨[], [], none, false, [(0, .t 26), (1, .t 27), (2, .t 28), (3, .t 29), (4, .t 30), (5, .t 31), (6, ⟨[], .ro, [25, 31], [], none⟩), (7, .t 32), (8, .t 33), (9, .t 7), (10, .t 8)]⟩ .z .z) (.e (.n ⟨[], [], none, false, [(0, .t 35), (1, .t 36), (2, .t 37), (3, .t 38), (4, .t 39), (5, .t 40), (6, ⟨[], .ro, [34, 40], [], none⟩), (7, .t 41), (8, .t 42), (9, .t 9), (10, .t 10)]⟩ .z .z) (.e (.e (.n ⟨[], [], (some ⟨[.snp 7 (.int .i64) [], .snp 9 (.int .i64) [], .snp 48 (.bool) [], .box 6 true (T5) (.ro)], [(6, ⟨13, []⟩)], []⟩), false, []⟩ .z .z) .z) .z)))))))
noncomputable def E45 (n : Nat) : Env := ⟨tab, [C42, N45 n, C78], 2, 70⟩
theorem d45 : (fun (n : Nat) (x : HL (pts P45)) => den (E45 n) (Tryz.f45.body.getD .skip) H45 (initS 70 P45 x) (retK tab [] P45 Q45 [.tmp 4, .tmp 5]) (fun _ _ => none) (retK tab [] P45 Q45 [.tmp 4, .tmp 5])) = fun n => (N45 (n + 1)).F := by kernel_rfl
theorem cN45 : ∀ n, Cok Tryz.prog (N45 n) := by
  intro n
  have h42 := c42
  have h78 := c78
  induction n with
  | zero => exact cok_none (fn := Tryz.f45) (by kernel_rfl) (by kernel_rfl) (by kernel_rfl) (fun _ => rfl)
  | succ n ih =>
    have h45 := ih
    refine ?_
    · exact cok_of_den (E := E45 n) (c := N45 (n + 1)) (fn := Tryz.f45) (code := Tryz.f45.body.getD .skip) (hn := H45) (gr := []) (is := [.tmp 4, .tmp 5]) ⟨tabOk, (fun c hc => by simp only [E45, List.mem_cons, List.not_mem_nil, or_false] at hc; rcases hc with rfl | rfl | rfl <;> assumption), mixOk⟩ ⟨by kernel_rfl, by kernel_rfl, by kernel_rfl, by kernel_rfl, by kernel_rfl, Nat.le_of_ble_eq_true rfl, by kernel_rfl⟩ (fun x y h => (congrFun (congrFun d45 n) x).trans h)
noncomputable def C45 : Cal := ⟨45, P45, Q45, fun x => impl_constOf x.1 x.2.1⟩
theorem c45 : Cok Tryz.prog C45 := cok_lim (F := fun n => (N45 n).F) (fun n => (cN45 n))
noncomputable def C46 : Cal := ⟨46, [⟨.ro, .int .i64⟩], [⟨.str, .ro⟩], fun x => impl_Decimal x.1⟩
def H46 : Hn := .z
noncomputable def E46 : Env := ⟨tab, [C79], 1, 5⟩
theorem d46 : (fun (x : HL (pts C46.ps)) => den E46 (Tryz.f46.body.getD .skip) H46 (initS 5 C46.ps x) (retK tab [] C46.ps C46.rs [.tmp 2]) (fun _ _ => none) (retK tab [] C46.ps C46.rs [.tmp 2])) = C46.F := by kernel_rfl
theorem c46 : Cok Tryz.prog C46 := by
  have h79 := c79
  exact cok_of_den (E := E46) (fn := Tryz.f46) (code := Tryz.f46.body.getD .skip) (hn := H46) (gr := []) (is := [.tmp 2]) ⟨tabOk, (fun c hc => by simp only [E46, List.mem_cons, List.not_mem_nil, or_false] at hc; rcases hc with rfl <;> assumption), mixOk⟩ ⟨by kernel_rfl, by kernel_rfl, by kernel_rfl, by kernel_rfl, by kernel_rfl, by decide, by kernel_rfl⟩ (fun x y h => (congrFun d46 x).trans h)
end Go.Proofs.YtgkgfpbdodafaaaGreatDoorE

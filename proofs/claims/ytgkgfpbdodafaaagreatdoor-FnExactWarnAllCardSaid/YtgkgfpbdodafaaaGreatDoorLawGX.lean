/- The functions of X reckon so (3). No condition. -/
import Derived.Test.YtgkgfpbdodafaaaGreatDoorLawGX2
set_option linter.all false
namespace Go.Proofs.YtgkgfpbdodafaaaGreatDoorE
set_option maxRecDepth 100000
set_option linter.all false
noncomputable def C16 : Cal := ⟨16, [⟨.ro, T2⟩, ⟨.ro, .int .i64⟩], [⟨.list 65 (T8), .own (.ro)⟩], fun x => impl_WarnFn x.1 x.2.1⟩
def H16 : Hn := (.e (.n ⟨[], [], none, false, [(0, ⟨[], M1, [], [], none⟩)]⟩ .z .z) (.e (.e (.n ⟨[], [], (some ⟨[.snp 1 (.int .i64) [], .snp 24 (.bool) [], .box 2 true (T2) (.ro)], [(2, ⟨5, []⟩)], []⟩), false, []⟩ .z .z) .z) (.e .z (.e (.e .z (.n ⟨[], [], (some ⟨[.snp 1 (.int .i64) [], .dat 5 (.list 65 (T8)) (.own (.ro)), .box 2 true (T2) (.ro)], [(2, ⟨5, []⟩)], []⟩), false, []⟩ (.n ⟨[], [], (some ⟨[.snp 1 (.int .i64) [], .dat 5 (.list 65 (T8)) (.own (.ro)), .dat 27 (.list 9 (.str)) (.own (.ro)), .snp 28 (.int .i64) [], .snp 29 (.int .i64) [], .box 2 true (T2) (.ro)], [(2, ⟨5, []⟩)], []⟩), false, []⟩ (.e .z (.e .z (.e (.e (.e .z (.n ⟨[], [.g 5], none, false, [(5, ⟨[.g 33], .ro, [], [], none⟩)]⟩ .z .z)) .z) .z))) .z) .z)) (.e (.e (.n ⟨[], [], none, false, [(0, .t 40), (1, .t 41), (2, .t 42), (3, .t 43), (4, .t 44), (5, .t 45), (6, .t 46), (7, .t 47), (8, .t 48), (9, .t 49), (10, .t 50)]⟩ .z .z) (.n ⟨[], [], (some ⟨[.dat 5 (.list 65 (T8)) (.own (.ro))], [], []⟩), false, []⟩ (.n ⟨[], [], (some ⟨[.snp 1 (.int .i64) [], .dat 5 (.list 65 (T8)) (.own (.ro)), .dat 48 (.list 3 (.int .i64)) (.own (.ro)), .snp 49 (.int .i64) [], .snp 50 (.int .i64) [], .box 2 true (T2) (.ro)], [(2, ⟨5, []⟩)], []⟩), false, []⟩ (.e .z (.e .z (.e (.n ⟨[], [], (some ⟨[.snp 1 (.int .i64) [], .dat 5 (.list 65 (T8)) (.own (.ro)), .dat 48 (.list 3 (.int .i64)) (.own (.ro)), .snp 49 (.int .i64) [], .snp 50 (.int .i64) [], .box 2 true (T2) (.ro)], [(2, ⟨5, []⟩)], []⟩), false, []⟩ (.e .z (.e (.n ⟨[], [], none, false, [(5, ⟨[], M5, [], [], none⟩), (6, ⟨[], M5, [], [], none⟩)]⟩ .z .z) (.e (.e (.n ⟨[], [], (some ⟨[.snp 1 (.int .i64) [], .dat 5 (.list 65 (T8)) (.own (.ro)), .snp 9 (.int .i64) [], .dat 48 (.list 3 (.int .i64)) (.own (.ro)), .snp 49 (.int .i64) [], .snp 50 (.int .i64) [], .snp 66 (.bool) [], .box 2 true (T2) (.ro), .box 10 true (T5) (.ro)], [(2, ⟨5, []⟩), (10, ⟨21, []⟩)], []⟩), false, []⟩ .z .z) .z) (.e (.e .z (.n ⟨[], [], (some ⟨[.snp 1 (.int .i64) [], .dat 5 (.list 65 (T8)) (.own (.ro)), .dat 48 (.list 3 (.int .i64)) (.own (.ro)), .snp 49 (.int .i64) [], .snp 50 (.int .i64) [], .box 2 true (T2) (.ro), .box 10 true (T5) (.ro)], [(2, ⟨5, []⟩), (10, ⟨21, []⟩)], []⟩), false, []⟩ (.n ⟨[], [.g 5], none, false, [(4, ⟨[.g 70], .ro, [], [], none⟩)]⟩ .z .z) .z)) (.e (.e (.n ⟨[], [], (some ⟨[.snp 1 (.int .i64) [], .dat 5 (.list 65 (T8)) (.own (.ro)), .dat 48 (.list 3 (.int .i64)) (.own (.ro)), .snp 49 (.int .i64) [], .snp 50 (.int .i64) [], .snp 90 (.bool) [], .box 2 true (T2) (.ro), .box 10 true (T5) (.ro)], [(2, ⟨5, []⟩), (10, ⟨21, []⟩)], []⟩), false, [(0, .t 75), (1, .t 76), (2, .t 77), (3, .t 78), (4, .t 79), (5, .t 80), (6, .t 81), (7, .t 82), (8, .t 83), (9, .t 84), (10, .t 85), (11, .t 86), (12, .t 87), (13, .t 88), (14, .t 89), (15, .t 90)]⟩ .z .z) (.n ⟨[], [], (some ⟨[.snp 1 (.int .i64) [], .dat 5 (.list 65 (T8)) (.own (.ro)), .dat 48 (.list 3 (.int .i64)) (.own (.ro)), .snp 49 (.int .i64) [], .snp 50 (.int .i64) [], .box 2 true (T2) (.ro), .box 10 true (T5) (.ro)], [(2, ⟨5, []⟩), (10, ⟨21, []⟩)], []⟩), false, []⟩ (.n ⟨[], [.g 5], none, false, [(4, ⟨[.g 91], .ro, [], [], none⟩)]⟩ .z .z) .z)) (.e (.n ⟨[], [], none, false, [(0, .t 97), (1, .t 98), (2, .t 99), (3, .t 100), (4, .t 101), (5, .t 102), (6, ⟨[], .ro, [96, 102], [], none⟩), (7, .t 103), (8, .t 104), (9, .t 11), (10, .t 12)]⟩ .z .z) (.e .z (.n ⟨[], [], (some ⟨[.snp 1 (.int .i64) [], .dat 5 (.list 65 (T8)) (.own (.ro)), .dat 48 (.list 3 (.int .i64)) (.own (.ro)), .snp 49 (.int .i64) [], .snp 50 (.int .i64) [], .box 2 true (T2) (.ro)], [(2, ⟨5, []⟩)], []⟩), false, []⟩ (.n ⟨[], [.g 5], none, false, [(6, ⟨[.g 106], .ro, [], [], none⟩)]⟩ .z .z) .z)))))))) .z) .z))) .z) .z)) (.e (.n ⟨[], [.g 4], none, false, []⟩ .z .z) .z))))))
noncomputable def E16 : Env := ⟨tab, [C41, C42, C9, C43, C44, C45, C46], 2, 115⟩
theorem d16 : (fun (x : HL (pts C16.ps)) => den E16 (Tryz.f16.body.getD .skip) H16 (initS 115 C16.ps x) (retK tab [] C16.ps C16.rs [.tmp 4]) (fun _ _ => none) (retK tab [] C16.ps C16.rs [.tmp 4])) = C16.F := by kernel_rfl
theorem c16 : Cok Tryz.prog C16 := by
  have h41 := c41
  have h42 := c42
  have h9 := c9
  have h43 := c43
  have h44 := c44
  have h45 := c45
  have h46 := c46
  exact cok_of_den (E := E16) (fn := Tryz.f16) (code := Tryz.f16.body.getD .skip) (hn := H16) (gr := []) (is := [.tmp 4]) ⟨tabOk, (fun c hc => by simp only [E16, List.mem_cons, List.not_mem_nil, or_false] at hc; rcases hc with rfl | rfl | rfl | rfl | rfl | rfl | rfl <;> assumption), mixOk⟩ ⟨by kernel_rfl, by kernel_rfl, by kernel_rfl, by kernel_rfl, by kernel_rfl, by decide, by kernel_rfl⟩ (fun x y h => (congrFun d16 x).trans h)
noncomputable def C21 : Cal := ⟨21, [⟨.ro, T2⟩], [⟨.list 65 (T8), .own (.ro)⟩], fun x => impl_WarnAll x.1⟩
def H21 : Hn := (.e (.n ⟨[], [], none, false, [(0, ⟨[], M1, [], [], none⟩)]⟩ .z .z) (.e .z (.e (.n ⟨[], [.g 3], none, false, []⟩ .z .z) (.e .z (.e (.e .z (.n ⟨[], [], (some ⟨[.dat 4 (.list 65 (T8)) (.own (.ro))], [], []⟩), false, []⟩ (.n ⟨[], [], (some ⟨[.dat 3 (.list 3 (.int .i64)) (.own (.ro)), .dat 4 (.list 65 (T8)) (.own (.ro)), .snp 13 (.list 69 (T4)) [], .snp 14 (.int .i64) [], .snp 15 (.int .i64) [], .box 1 true (T2) (.ro)], [(1, ⟨3, []⟩)], []⟩), false, []⟩ (.e .z (.e .z (.e (.e (.e (.n ⟨[], [], none, false, [(3, ⟨[], M3, [], [], none⟩), (5, ⟨[], M3, [], [], none⟩)]⟩ .z .z) (.e (.n ⟨[], [.g 4], none, false, [(4, ⟨[.g 20], .ro, [], [], none⟩)]⟩ .z .z) (.e .z (.n ⟨[], [], (some ⟨[.dat 3 (.list 3 (.int .i64)) (.own (.ro)), .dat 4 (.list 65 (T8)) (.own (.ro)), .snp 13 (.list 69 (T4)) [], .snp 14 (.int .i64) [], .snp 15 (.int .i64) [], .box 1 true (T2) (.ro)], [(1, ⟨3, []⟩)], []⟩), false, []⟩ (.n ⟨[], [.g 4], none, false, [(6, ⟨[.g 28], .ro, [], [], none⟩)]⟩ .z .z) .z)))) .z) .z))) .z) .z)) (.e (.n ⟨[], [.g 2], none, false, []⟩ .z .z) .z))))))
noncomputable def E21 : Env := ⟨tab, [C41, C49, C16, C50], 1, 37⟩
theorem d21 : (fun (x : HL (pts C21.ps)) => den E21 (Tryz.f21.body.getD .skip) H21 (initS 37 C21.ps x) (retK tab [] C21.ps C21.rs [.tmp 2]) (fun _ _ => none) (retK tab [] C21.ps C21.rs [.tmp 2])) = C21.F := by kernel_rfl
theorem c21 : Cok Tryz.prog C21 := by
  have h41 := c41
  have h49 := c49
  have h16 := c16
  have h50 := c50
  exact cok_of_den (E := E21) (fn := Tryz.f21) (code := Tryz.f21.body.getD .skip) (hn := H21) (gr := []) (is := [.tmp 2]) ⟨tabOk, (fun c hc => by simp only [E21, List.mem_cons, List.not_mem_nil, or_false] at hc; rcases hc with rfl | rfl | rfl | rfl <;> assumption), mixOk⟩ ⟨by kernel_rfl, by kernel_rfl, by kernel_rfl, by kernel_rfl, by kernel_rfl, by decide, by kernel_rfl⟩ (fun x y h => (congrFun d21 x).trans h)
noncomputable def C47 : Cal := ⟨47, [⟨.ro, T8⟩, ⟨.ro, T8⟩], [⟨.bool, .ro⟩], fun x => laws_eqWarn x.1 x.2.1⟩
def H47 : Hn := .z
noncomputable def E47 : Env := ⟨tab, [], 2, 20⟩
theorem d47 : (fun (x : HL (pts C47.ps)) => den E47 (Tryz.f47.body.getD .skip) H47 (initS 20 C47.ps x) (retK tab [] C47.ps C47.rs [.tmp 4]) (fun _ _ => none) (retK tab [] C47.ps C47.rs [.tmp 4])) = C47.F := by kernel_rfl
theorem c47 : Cok Tryz.prog C47 := by
  exact cok_of_den (E := E47) (fn := Tryz.f47) (code := Tryz.f47.body.getD .skip) (hn := H47) (gr := []) (is := [.tmp 4]) ⟨tabOk, (fun c hc => by cases hc), mixOk⟩ ⟨by kernel_rfl, by kernel_rfl, by kernel_rfl, by kernel_rfl, by kernel_rfl, by decide, by kernel_rfl⟩ (fun x y h => (congrFun d47 x).trans h)
noncomputable def C17 : Cal := ⟨17, [⟨.ro, .list 65 (T8)⟩, ⟨.ro, .list 65 (T8)⟩], [⟨.bool, .ro⟩], fun x => laws_eqWarnS x.1 x.2.1⟩
def H17 : Hn := (.e .z (.e .z (.e (.e .z (.n ⟨[], [], (some ⟨[], [], []⟩), true, []⟩ (.n ⟨[], [], (some ⟨[.snp 0 (.list 65 (T8)) [], .snp 1 (.list 65 (T8)) [], .snp 5 (.int .i64) []], [], []⟩), false, []⟩ (.e .z (.e (.e (.e (.n ⟨[], [], none, false, [(0, .t 17), (1, .t 18), (2, .t 19), (3, .t 20), (4, .t 21), (5, .t 22), (6, .t 23), (7, .t 24), (8, .t 25), (9, .t 26)]⟩ .z .z) .z) .z) .z)) .z) .z)) .z)))
noncomputable def E17 : Env := ⟨tab, [C47], 2, 27⟩
theorem d17 : (fun (x : HL (pts C17.ps)) => den E17 (Tryz.f17.body.getD .skip) H17 (initS 27 C17.ps x) (retK tab [] C17.ps C17.rs [.tmp 4]) (fun _ _ => none) (retK tab [] C17.ps C17.rs [.tmp 4])) = C17.F := by kernel_rfl
theorem c17 : Cok Tryz.prog C17 := by
  have h47 := c47
  exact cok_of_den (E := E17) (fn := Tryz.f17) (code := Tryz.f17.body.getD .skip) (hn := H17) (gr := []) (is := [.tmp 4]) ⟨tabOk, (fun c hc => by simp only [E17, List.mem_cons, List.not_mem_nil, or_false] at hc; rcases hc with rfl <;> assumption), mixOk⟩ ⟨by kernel_rfl, by kernel_rfl, by kernel_rfl, by kernel_rfl, by kernel_rfl, by decide, by kernel_rfl⟩ (fun x y h => (congrFun d17 x).trans h)
noncomputable def C87 : Cal := ⟨87, [⟨.ro, .list 3 (.int .i64)⟩, ⟨.ro, .list 3 (.int .i64)⟩], [⟨.bool, .ro⟩], fun x => laws_eqIntS x.1 x.2.1⟩
def H87 : Hn := (.e .z (.e .z (.e (.e .z (.n ⟨[], [], (some ⟨[], [], []⟩), true, []⟩ (.n ⟨[], [], (some ⟨[.snp 0 (.list 3 (.int .i64)) [], .snp 1 (.list 3 (.int .i64)) [], .snp 5 (.int .i64) []], [], []⟩), false, []⟩ (.e .z (.e (.e (.e (.n ⟨[], [], none, false, [(0, .t 17), (1, .t 18), (2, .t 19), (3, .t 20), (4, .t 21), (5, .t 22), (6, .t 23), (7, .t 24), (8, .t 25)]⟩ .z .z) .z) .z) .z)) .z) .z)) .z)))
noncomputable def E87 : Env := ⟨tab, [], 2, 26⟩
theorem d87 : (fun (x : HL (pts C87.ps)) => den E87 (Tryz.f87.body.getD .skip) H87 (initS 26 C87.ps x) (retK tab [] C87.ps C87.rs [.tmp 4]) (fun _ _ => none) (retK tab [] C87.ps C87.rs [.tmp 4])) = C87.F := by kernel_rfl
theorem c87 : Cok Tryz.prog C87 := by
  exact cok_of_den (E := E87) (fn := Tryz.f87) (code := Tryz.f87.body.getD .skip) (hn := H87) (gr := []) (is := [.tmp 4]) ⟨tabOk, (fun c hc => by cases hc), mixOk⟩ ⟨by kernel_rfl, by kernel_rfl, by kernel_rfl, by kernel_rfl, by kernel_rfl, by decide, by kernel_rfl⟩ (fun x y h => (congrFun d87 x).trans h)
noncomputable def C60 : Cal := ⟨60, [⟨.ro, T5⟩, ⟨.ro, T5⟩], [⟨.bool, .ro⟩], fun x => laws_eqNode x.1 x.2.1⟩
def H60 : Hn := (.e (.n ⟨[], [], none, false, [(0, ⟨[], M5, [], [], none⟩), (1, ⟨[], M5, [], [], none⟩)]⟩ .z .z) .z)
noncomputable def E60 : Env := ⟨tab, [C87], 2, 26⟩
theorem d60 : (fun (x : HL (pts C60.ps)) => den E60 (Tryz.f60.body.getD .skip) H60 (initS 26 C60.ps x) (retK tab [] C60.ps C60.rs [.tmp 4]) (fun _ _ => none) (retK tab [] C60.ps C60.rs [.tmp 4])) = C60.F := by kernel_rfl
theorem c60 : Cok Tryz.prog C60 := by
  have h87 := c87
  exact cok_of_den (E := E60) (fn := Tryz.f60) (code := Tryz.f60.body.getD .skip) (hn := H60) (gr := []) (is := [.tmp 4]) ⟨tabOk, (fun c hc => by simp only [E60, List.mem_cons, List.not_mem_nil, or_false] at hc; rcases hc with rfl <;> assumption), mixOk⟩ ⟨by kernel_rfl, by kernel_rfl, by kernel_rfl, by kernel_rfl, by kernel_rfl, by decide, by kernel_rfl⟩ (fun x y h => (congrFun d60 x).trans h)
noncomputable def C30 : Cal := ⟨30, [⟨.ro, .list 54 (T5)⟩, ⟨.ro, .list 54 (T5)⟩], [⟨.bool, .ro⟩], fun x => laws_eqNodeS x.1 x.2.1⟩
def H30 : Hn := (.e .z (.e .z (.e (.e .z (.n ⟨[], [], (some ⟨[], [], []⟩), true, []⟩ (.n ⟨[], [], (some ⟨[.snp 0 (.list 54 (T5)) [], .snp 1 (.list 54 (T5)) [], .snp 5 (.int .i64) []], [], []⟩), false, []⟩ (.e .z (.e (.e (.e (.n ⟨[], [], none, false, [(0, .t 17), (1, .t 18), (2, .t 19), (3, .t 20), (4, .t 21), (5, .t 22), (6, .t 23), (7, .t 24), (8, .t 25), (9, .t 26)]⟩ .z .z) .z) .z) .z)) .z) .z)) .z)))
noncomputable def E30 : Env := ⟨tab, [C60], 2, 27⟩
theorem d30 : (fun (x : HL (pts C30.ps)) => den E30 (Tryz.f30.body.getD .skip) H30 (initS 27 C30.ps x) (retK tab [] C30.ps C30.rs [.tmp 4]) (fun _ _ => none) (retK tab [] C30.ps C30.rs [.tmp 4])) = C30.F := by kernel_rfl
theorem c30 : Cok Tryz.prog C30 := by
  have h60 := c60
  exact cok_of_den (E := E30) (fn := Tryz.f30) (code := Tryz.f30.body.getD .skip) (hn := H30) (gr := []) (is := [.tmp 4]) ⟨tabOk, (fun c hc => by simp only [E30, List.mem_cons, List.not_mem_nil, or_false] at hc; rcases hc with rfl <;> assumption), mixOk⟩ ⟨by kernel_rfl, by kernel_rfl, by kernel_rfl, by kernel_rfl, by kernel_rfl, by decide, by kernel_rfl⟩ (fun x y h => (congrFun d30 x).trans h)
noncomputable def C107 : Cal := ⟨107, [⟨.ro, T11⟩, ⟨.ro, T11⟩], [⟨.bool, .ro⟩], fun x => laws_eqParam x.1 x.2.1⟩
def H107 : Hn := .z
noncomputable def E107 : Env := ⟨tab, [], 2, 15⟩
theorem d107 : (fun (x : HL (pts C107.ps)) => den E107 (Tryz.f107.body.getD .skip) H107 (initS 15 C107.ps x) (retK tab [] C107.ps C107.rs [.tmp 4]) (fun _ _ => none) (retK tab [] C107.ps C107.rs [.tmp 4])) = C107.F := by kernel_rfl
theorem c107 : Cok Tryz.prog C107 := by
  exact cok_of_den (E := E107) (fn := Tryz.f107) (code := Tryz.f107.body.getD .skip) (hn := H107) (gr := []) (is := [.tmp 4]) ⟨tabOk, (fun c hc => by cases hc), mixOk⟩ ⟨by kernel_rfl, by kernel_rfl, by kernel_rfl, by kernel_rfl, by kernel_rfl, by decide, by kernel_rfl⟩ (fun x y h => (congrFun d107 x).trans h)
noncomputable def C88 : Cal := ⟨88, [⟨.ro, .list 85 (T11)⟩, ⟨.ro, .list 85 (T11)⟩], [⟨.bool, .ro⟩], fun x => laws_eqParamS x.1 x.2.1⟩
def H88 : Hn := (.e .z (.e .z (.e (.e .z (.n ⟨[], [], (some ⟨[], [], []⟩), true, []⟩ (.n ⟨[], [], (some ⟨[.snp 0 (.list 85 (T11)) [], .snp 1 (.list 85 (T11)) [], .snp 5 (.int .i64) []], [], []⟩), false, []⟩ (.e .z (.e (.e (.e (.n ⟨[], [], none, false, [(0, .t 17), (1, .t 18), (2, .t 19), (3, .t 20), (4, .t 21), (5, .t 22), (6, .t 23), (7, .t 24), (8, .t 25), (9, .t 26)]⟩ .z .z) .z) .z) .z)) .z) .z)) .z)))
noncomputable def E88 : Env := ⟨tab, [C107], 2, 27⟩
theorem d88 : (fun (x : HL (pts C88.ps)) => den E88 (Tryz.f88.body.getD .skip) H88 (initS 27 C88.ps x) (retK tab [] C88.ps C88.rs [.tmp 4]) (fun _ _ => none) (retK tab [] C88.ps C88.rs [.tmp 4])) = C88.F := by kernel_rfl
theorem c88 : Cok Tryz.prog C88 := by
  have h107 := c107
  exact cok_of_den (E := E88) (fn := Tryz.f88) (code := Tryz.f88.body.getD .skip) (hn := H88) (gr := []) (is := [.tmp 4]) ⟨tabOk, (fun c hc => by simp only [E88, List.mem_cons, List.not_mem_nil, or_false] at hc; rcases hc with rfl <;> assumption), mixOk⟩ ⟨by kernel_rfl, by kernel_rfl, by kernel_rfl, by kernel_rfl, by kernel_rfl, by decide, by kernel_rfl⟩ (fun x y h => (congrFun d88 x).trans h)
noncomputable def C61 : Cal := ⟨61, [⟨.ro, T4⟩, ⟨.ro, T4⟩], [⟨.bool, .ro⟩], fun x => laws_eqFn x.1 x.2.1⟩
def H61 : Hn := (.e (.n ⟨[], [], none, false, [(0, ⟨[], M3, [], [], none⟩), (1, ⟨[], M3, [], [], none⟩)]⟩ .z .z) .z)
noncomputable def E61 : Env := ⟨tab, [C88], 2, 31⟩
theorem d61 : (fun (x : HL (pts C61.ps)) => den E61 (Tryz.f61.body.getD .skip) H61 (initS 31 C61.ps x) (retK tab [] C61.ps C61.rs [.tmp 4]) (fun _ _ => none) (retK tab [] C61.ps C61.rs [.tmp 4])) = C61.F := by kernel_rfl
theorem c61 : Cok Tryz.prog C61 := by
  have h88 := c88
  exact cok_of_den (E := E61) (fn := Tryz.f61) (code := Tryz.f61.body.getD .skip) (hn := H61) (gr := []) (is := [.tmp 4]) ⟨tabOk, (fun c hc => by simp only [E61, List.mem_cons, List.not_mem_nil, or_false] at hc; rcases hc with rfl <;> assumption), mixOk⟩ ⟨by kernel_rfl, by kernel_rfl, by kernel_rfl, by kernel_rfl, by kernel_rfl, by decide, by kernel_rfl⟩ (fun x y h => (congrFun d61 x).trans h)
noncomputable def C31 : Cal := ⟨31, [⟨.ro, .list 69 (T4)⟩, ⟨.ro, .list 69 (T4)⟩], [⟨.bool, .ro⟩], fun x => laws_eqFnS x.1 x.2.1⟩
def H31 : Hn := (.e .z (.e .z (.e (.e .z (.n ⟨[], [], (some ⟨[], [], []⟩), true, []⟩ (.n ⟨[], [], (some ⟨[.snp 0 (.list 69 (T4)) [], .snp 1 (.list 69 (T4)) [], .snp 5 (.int .i64) []], [], []⟩), false, []⟩ (.e .z (.e (.e (.e (.n ⟨[], [], none, false, [(0, .t 17), (1, .t 18), (2, .t 19), (3, .t 20), (4, .t 21), (5, .t 22), (6, .t 23), (7, .t 24), (8, .t 25), (9, .t 26)]⟩ .z .z) .z) .z) .z)) .z) .z)) .z)))
noncomputable def E31 : Env := ⟨tab, [C61], 2, 27⟩
theorem d31 : (fun (x : HL (pts C31.ps)) => den E31 (Tryz.f31.body.getD .skip) H31 (initS 27 C31.ps x) (retK tab [] C31.ps C31.rs [.tmp 4]) (fun _ _ => none) (retK tab [] C31.ps C31.rs [.tmp 4])) = C31.F := by kernel_rfl
theorem c31 : Cok Tryz.prog C31 := by
  have h61 := c61
  exact cok_of_den (E := E31) (fn := Tryz.f31) (code := Tryz.f31.body.getD .skip) (hn := H31) (gr := []) (is := [.tmp 4]) ⟨tabOk, (fun c hc => by simp only [E31, List.mem_cons, List.not_mem_nil, or_false] at hc; rcases hc with rfl <;> assumption), mixOk⟩ ⟨by kernel_rfl, by kernel_rfl, by kernel_rfl, by kernel_rfl, by kernel_rfl, by decide, by kernel_rfl⟩ (fun x y h => (congrFun d31 x).trans h)
noncomputable def C11 : Cal := ⟨11, [⟨.ro, T2⟩, ⟨.ro, T2⟩], [⟨.bool, .ro⟩], fun x => laws_eqProgram x.1 x.2.1⟩
def H11 : Hn := (.e (.n ⟨[], [], none, false, [(0, ⟨[], M1, [], [], none⟩), (1, ⟨[], M1, [], [], none⟩)]⟩ .z .z) .z)
noncomputable def E11 : Env := ⟨tab, [C30, C31], 2, 17⟩
theorem d11 : (fun (x : HL (pts C11.ps)) => den E11 (Tryz.f11.body.getD .skip) H11 (initS 17 C11.ps x) (retK tab [] C11.ps C11.rs [.tmp 4]) (fun _ _ => none) (retK tab [] C11.ps C11.rs [.tmp 4])) = C11.F := by kernel_rfl
theorem c11 : Cok Tryz.prog C11 := by
  have h30 := c30
  have h31 := c31
  exact cok_of_den (E := E11) (fn := Tryz.f11) (code := Tryz.f11.body.getD .skip) (hn := H11) (gr := []) (is := [.tmp 4]) ⟨tabOk, (fun c hc => by simp only [E11, List.mem_cons, List.not_mem_nil, or_false] at hc; rcases hc with rfl | rfl <;> assumption), mixOk⟩ ⟨by kernel_rfl, by kernel_rfl, by kernel_rfl, by kernel_rfl, by kernel_rfl, by decide, by kernel_rfl⟩ (fun x y h => (congrFun d11 x).trans h)
noncomputable def C34 : Cal := ⟨34, [⟨.ro, .int .i64⟩], [⟨.str, .ro⟩], fun x => laws_markText x.1⟩
def H34 : Hn := (.e .z (.e .z (.e .z (.e (.n ⟨[], [], (some ⟨[.snp 3 (.str) []], [], []⟩), false, []⟩ (.n ⟨[], [], (some ⟨[.snp 0 (.int .i64) [], .snp 3 (.str) []], [], []⟩), false, []⟩ .z .z) .z) .z))))
noncomputable def E34 : Env := ⟨tab, [], 1, 20⟩
theorem d34 : (fun (x : HL (pts C34.ps)) => den E34 (Tryz.f34.body.getD .skip) H34 (initS 20 C34.ps x) (retK tab [] C34.ps C34.rs [.tmp 2]) (fun _ _ => none) (retK tab [] C34.ps C34.rs [.tmp 2])) = C34.F := by kernel_rfl
theorem c34 : Cok Tryz.prog C34 := by
  exact cok_of_den (E := E34) (fn := Tryz.f34) (code := Tryz.f34.body.getD .skip) (hn := H34) (gr := []) (is := [.tmp 2]) ⟨tabOk, (fun c hc => by cases hc), mixOk⟩ ⟨by kernel_rfl, by kernel_rfl, by kernel_rfl, by kernel_rfl, by kernel_rfl, by decide, by kernel_rfl⟩ (fun x y h => (congrFun d34 x).trans h)
noncomputable def C62 : Cal := ⟨62, [⟨.inp (.own (.ro)), .list 3 (.int .i64)⟩, ⟨.ro, .int .i64⟩], [⟨.int .i64, .ro⟩], fun x => laws_markIntS x.1 x.2.1⟩
def H62 : Hn := (.e .z (.e (.e .z (.n ⟨[], [], (some ⟨[.snp 1 (.int .i64) [], .box 0 false (.list 3 (.int .i64)) (.own (.ro))], [], []⟩), false, []⟩ (.n ⟨[], [], (some ⟨[.snp 1 (.int .i64) [], .snp 5 (.int .i64) [], .box 0 false (.list 3 (.int .i64)) (.own (.ro))], [], [(0, 0)]⟩), false, []⟩ (.e .z (.e (.e (.e (.n ⟨[], [], none, false, [(4, ⟨[], .ro, [], [], some 1⟩)]⟩ .z .z) .z) .z) .z)) .z) .z)) .z))
noncomputable def E62 : Env := ⟨tab, [], 2, 19⟩
theorem d62 : (fun (x : HL (pts C62.ps)) => den E62 (Tryz.f62.body.getD .skip) H62 (initS 19 C62.ps x) (retK tab [] C62.ps C62.rs [.tmp 4]) (fun _ _ => none) (retK tab [] C62.ps C62.rs [.tmp 4])) = C62.F := by kernel_rfl
theorem c62 : Cok Tryz.prog C62 := by
  exact cok_of_den (E := E62) (fn := Tryz.f62) (code := Tryz.f62.body.getD .skip) (hn := H62) (gr := []) (is := [.tmp 4]) ⟨tabOk, (fun c hc => by cases hc), mixOk⟩ ⟨by kernel_rfl, by kernel_rfl, by kernel_rfl, by kernel_rfl, by kernel_rfl, by decide, by kernel_rfl⟩ (fun x y h => (congrFun d62 x).trans h)
noncomputable def C32 : Cal := ⟨32, [⟨.inp (.own (M5)), .list 54 (T5)⟩, ⟨.ro, .int .i64⟩], [⟨.int .i64, .ro⟩], fun x => laws_markNodeS x.1 x.2.1⟩
def H32 : Hn := (.e .z (.e (.e .z (.n ⟨[], [], (some ⟨[.snp 1 (.int .i64) [], .box 0 false (.list 54 (T5)) (.own (M5))], [], []⟩), false, []⟩ (.n ⟨[], [], (some ⟨[.snp 1 (.int .i64) [], .snp 5 (.int .i64) [], .box 0 false (.list 54 (T5)) (.own (M5))], [], [(0, 0)]⟩), false, []⟩ (.e .z (.e (.e (.e (.n ⟨[], [], none, false, [(5, ⟨[], .ro, [], [], some 1⟩)]⟩ .z .z) (.e .z (.e (.n ⟨[], [], none, false, [(5, ⟨[], .ro, [], [], some 1⟩)]⟩ .z .z) (.e .z (.e (.n ⟨[], [], none, false, [(6, ⟨[], .ro, [], [], some 1⟩)]⟩ .z .z) .z))))) .z) .z)) .z) .z)) .z))
noncomputable def E32 : Env := ⟨tab, [C34, C62], 2, 42⟩
theorem d32 : (fun (x : HL (pts C32.ps)) => den E32 (Tryz.f32.body.getD .skip) H32 (initS 42 C32.ps x) (retK tab [] C32.ps C32.rs [.tmp 4]) (fun _ _ => none) (retK tab [] C32.ps C32.rs [.tmp 4])) = C32.F := by kernel_rfl
theorem c32 : Cok Tryz.prog C32 := by
  have h34 := c34
  have h62 := c62
  exact cok_of_den (E := E32) (fn := Tryz.f32) (code := Tryz.f32.body.getD .skip) (hn := H32) (gr := []) (is := [.tmp 4]) ⟨tabOk, (fun c hc => by simp only [E32, List.mem_cons, List.not_mem_nil, or_false] at hc; rcases hc with rfl | rfl <;> assumption), mixOk⟩ ⟨by kernel_rfl, by kernel_rfl, by kernel_rfl, by kernel_rfl, by kernel_rfl, by decide, by kernel_rfl⟩ (fun x y h => (congrFun d32 x).trans h)
noncomputable def C63 : Cal := ⟨63, [⟨.inp (.own (.ro)), .list 85 (T11)⟩, ⟨.ro, .int .i64⟩], [⟨.int .i64, .ro⟩], fun x => laws_markParamS x.1 x.2.1⟩
def H63 : Hn := (.e .z (.e (.e .z (.n ⟨[], [], (some ⟨[.snp 1 (.int .i64) [], .box 0 false (.list 85 (T11)) (.own (.ro))], [], []⟩), false, []⟩ (.n ⟨[], [], (some ⟨[.snp 1 (.int .i64) [], .snp 5 (.int .i64) [], .box 0 false (.list 85 (T11)) (.own (.ro))], [], [(0, 0)]⟩), false, []⟩ (.e .z (.e (.e (.e (.n ⟨[], [], none, false, [(6, ⟨[], .ro, [], [], some 1⟩)]⟩ .z .z) (.e .z (.e (.n ⟨[], [], none, false, [(5, ⟨[], .ro, [], [], some 1⟩)]⟩ .z .z) .z))) .z) .z)) .z) .z)) .z))
noncomputable def E63 : Env := ⟨tab, [C34], 2, 28⟩
theorem d63 : (fun (x : HL (pts C63.ps)) => den E63 (Tryz.f63.body.getD .skip) H63 (initS 28 C63.ps x) (retK tab [] C63.ps C63.rs [.tmp 4]) (fun _ _ => none) (retK tab [] C63.ps C63.rs [.tmp 4])) = C63.F := by kernel_rfl
theorem c63 : Cok Tryz.prog C63 := by
  have h34 := c34
  exact cok_of_den (E := E63) (fn := Tryz.f63) (code := Tryz.f63.body.getD .skip) (hn := H63) (gr := []) (is := [.tmp 4]) ⟨tabOk, (fun c hc => by simp only [E63, List.mem_cons, List.not_mem_nil, or_false] at hc; rcases hc with rfl <;> assumption), mixOk⟩ ⟨by kernel_rfl, by kernel_rfl, by kernel_rfl, by kernel_rfl, by kernel_rfl, by decide, by kernel_rfl⟩ (fun x y h => (congrFun d63 x).trans h)
noncomputable def C33 : Cal := ⟨33, [⟨.inp (.own (M3)), .list 69 (T4)⟩, ⟨.ro, .int .i64⟩], [⟨.int .i64, .ro⟩], fun x => laws_markFnS x.1 x.2.1⟩
def H33 : Hn := (.e .z (.e (.e .z (.n ⟨[], [], (some ⟨[.snp 1 (.int .i64) [], .box 0 false (.list 69 (T4)) (.own (M3))], [], []⟩), false, []⟩ (.n ⟨[], [], (some ⟨[.snp 1 (.int .i64) [], .snp 5 (.int .i64) [], .box 0 false (.list 69 (T4)) (.own (M3))], [], [(0, 0)]⟩), false, []⟩ (.e .z (.e (.e (.e (.n ⟨[], [], none, false, [(6, ⟨[], .ro, [], [], some 1⟩)]⟩ .z .z) (.e .z (.e .z (.e (.n ⟨[], [], none, false, [(5, ⟨[], .ro, [], [], some 1⟩)]⟩ .z .z) (.e .z (.e (.n ⟨[], [], none, false, [(5, ⟨[], .ro, [], [], some 1⟩)]⟩ .z .z) (.e .z (.e (.n ⟨[], [], none, false, [(5, ⟨[], .ro, [], [], some 1⟩)]⟩ .z .z) .z)))))))) .z) .z)) .z) .z)) .z))
noncomputable def E33 : Env := ⟨tab, [C34, C63], 2, 49⟩
theorem d33 : (fun (x : HL (pts C33.ps)) => den E33 (Tryz.f33.body.getD .skip) H33 (initS 49 C33.ps x) (retK tab [] C33.ps C33.rs [.tmp 4]) (fun _ _ => none) (retK tab [] C33.ps C33.rs [.tmp 4])) = C33.F := by kernel_rfl
theorem c33 : Cok Tryz.prog C33 := by
  have h34 := c34
  have h63 := c63
  exact cok_of_den (E := E33) (fn := Tryz.f33) (code := Tryz.f33.body.getD .skip) (hn := H33) (gr := []) (is := [.tmp 4]) ⟨tabOk, (fun c hc => by simp only [E33, List.mem_cons, List.not_mem_nil, or_false] at hc; rcases hc with rfl | rfl <;> assumption), mixOk⟩ ⟨by kernel_rfl, by kernel_rfl, by kernel_rfl, by kernel_rfl, by kernel_rfl, by decide, by kernel_rfl⟩ (fun x y h => (congrFun d33 x).trans h)
noncomputable def C12 : Cal := ⟨12, [⟨.inp (M1), T2⟩, ⟨.ro, .int .i64⟩], [⟨.int .i64, .ro⟩], fun x => laws_markProgram x.1 x.2.1⟩
def H12 : Hn := (.e (.n ⟨[], [], none, false, [(0, ⟨[], M1, [], [], none⟩)]⟩ .z .z) .z)
noncomputable def E12 : Env := ⟨tab, [C32, C33], 2, 14⟩
theorem d12 : (fun (x : HL (pts C12.ps)) => den E12 (Tryz.f12.body.getD .skip) H12 (initS 14 C12.ps x) (retK tab [] C12.ps C12.rs [.tmp 4]) (fun _ _ => none) (retK tab [] C12.ps C12.rs [.tmp 4])) = C12.F := by kernel_rfl
theorem c12 : Cok Tryz.prog C12 := by
  have h32 := c32
  have h33 := c33
  exact cok_of_den (E := E12) (fn := Tryz.f12) (code := Tryz.f12.body.getD .skip) (hn := H12) (gr := []) (is := [.tmp 4]) ⟨tabOk, (fun c hc => by simp only [E12, List.mem_cons, List.not_mem_nil, or_false] at hc; rcases hc with rfl | rfl <;> assumption), mixOk⟩ ⟨by kernel_rfl, by kernel_rfl, by kernel_rfl, by kernel_rfl, by kernel_rfl, by decide, by kernel_rfl⟩ (fun x y h => (congrFun d12 x).trans h)
noncomputable def C18 : Cal := ⟨18, [⟨.inp (.own (.ro)), .list 65 (T8)⟩, ⟨.ro, .int .i64⟩], [⟨.int .i64, .ro⟩], fun x => laws_markWarnS x.1 x.2.1⟩
def H18 : Hn := (.e .z (.e (.e .z (.n ⟨[], [], (some ⟨[.snp 1 (.int .i64) [], .box 0 false (.list 65 (T8)) (.own (.ro))], [], []⟩), false, []⟩ (.n ⟨[], [], (some ⟨[.snp 1 (.int .i64) [], .snp 5 (.int .i64) [], .box 0 false (.list 65 (T8)) (.own (.ro))], [], [(0, 0)]⟩), false, []⟩ (.e .z (.e (.e (.e (.n ⟨[], [], none, false, [(5, ⟨[], .ro, [], [], some 1⟩)]⟩ .z .z) (.e .z (.e (.n ⟨[], [], none, false, [(5, ⟨[], .ro, [], [], some 1⟩)]⟩ .z .z) (.e .z (.e (.n ⟨[], [], none, false, [(6, ⟨[], .ro, [], [], some 1⟩)]⟩ .z .z) .z))))) .z) .z)) .z) .z)) .z))
noncomputable def E18 : Env := ⟨tab, [C34], 2, 35⟩
theorem d18 : (fun (x : HL (pts C18.ps)) => den E18 (Tryz.f18.body.getD .skip) H18 (initS 35 C18.ps x) (retK tab [] C18.ps C18.rs [.tmp 4]) (fun _ _ => none) (retK tab [] C18.ps C18.rs [.tmp 4])) = C18.F := by kernel_rfl
theorem c18 : Cok Tryz.prog C18 := by
  have h34 := c34
  exact cok_of_den (E := E18) (fn := Tryz.f18) (code := Tryz.f18.body.getD .skip) (hn := H18) (gr := []) (is := [.tmp 4]) ⟨tabOk, (fun c hc => by simp only [E18, List.mem_cons, List.not_mem_nil, or_false] at hc; rcases hc with rfl <;> assumption), mixOk⟩ ⟨by kernel_rfl, by kernel_rfl, by kernel_rfl, by kernel_rfl, by kernel_rfl, by decide, by kernel_rfl⟩ (fun x y h => (congrFun d18 x).trans h)
noncomputable def C19 : Cal := ⟨19, [⟨.ro, .list 65 (T8)⟩, ⟨.ro, .int .i64⟩], [⟨.int .i64, .ro⟩], fun x => laws_heldWarnS x.1 x.2.1⟩
def H19 : Hn := (.e .z (.e (.e .z (.n ⟨[], [], (some ⟨[.snp 1 (.int .i64) []], [], []⟩), true, []⟩ (.n ⟨[], [], (some ⟨[.snp 0 (.list 65 (T8)) [], .snp 1 (.int .i64) [], .snp 5 (.int .i64) []], [], []⟩), false, []⟩ (.e .z (.e (.e (.e .z (.e .z (.e .z (.e .z (.e (.e (.n ⟨[], [], none, false, [(0, .t 30), (1, .t 31), (2, .t 32), (3, .t 33), (4, .t 34), (5, .t 35), (6, .t 36), (7, .t 37)]⟩ .z .z) .z) .z))))) .z) .z)) .z) .z)) .z))
noncomputable def E19 : Env := ⟨tab, [C34], 2, 41⟩
theorem d19 : (fun (x : HL (pts C19.ps)) => den E19 (Tryz.f19.body.getD .skip) H19 (initS 41 C19.ps x) (retK tab [] C19.ps C19.rs [.tmp 4]) (fun _ _ => none) (retK tab [] C19.ps C19.rs [.tmp 4])) = C19.F := by kernel_rfl
theorem c19 : Cok Tryz.prog C19 := by
  have h34 := c34
  exact cok_of_den (E := E19) (fn := Tryz.f19) (code := Tryz.f19.body.getD .skip) (hn := H19) (gr := []) (is := [.tmp 4]) ⟨tabOk, (fun c hc => by simp only [E19, List.mem_cons, List.not_mem_nil, or_false] at hc; rcases hc with rfl <;> assumption), mixOk⟩ ⟨by kernel_rfl, by kernel_rfl, by kernel_rfl, by kernel_rfl, by kernel_rfl, by decide, by kernel_rfl⟩ (fun x y h => (congrFun d19 x).trans h)
noncomputable def C5 : Cal := ⟨5, [⟨.ro, T1⟩], [⟨.bool, .ro⟩], fun x => laws_FnExactWarnAll x.1⟩
def H5 : Hn := (.e (.n ⟨[], [], none, false, [(0, ⟨[], M1, [], [], none⟩)]⟩ .z .z) (.e .z (.e .z (.e .z (.e (.n ⟨[], [.g 4], none, false, []⟩ .z .z) (.e (.n ⟨[], [], none, false, [(2, ⟨[], M1, [], [], none⟩), (3, ⟨[], M1, [], [], none⟩)]⟩ .z .z) (.e (.n ⟨[], [.g 6], none, false, []⟩ .z .z) (.e .z (.e (.e (.n ⟨[], [], none, false, [(0, .t 27), (1, .t 28), (2, .t 29), (3, .t 30), (4, .t 31)]⟩ .z .z) .z) (.e .z (.e .z (.e (.e (.n ⟨[], [], (some ⟨[.dat 4 (.list 65 (T8)) (.own (.ro)), .dat 6 (.list 65 (T8)) (.own (.ro)), .snp 42 (.bool) [], .box 1 true (T1) (.ro)], [(1, ⟨3, []⟩)], []⟩), false, []⟩ .z .z) .z) (.e .z (.e .z (.e .z (.e .z (.e .z (.e .z (.e (.n ⟨[], [.g 10], none, false, []⟩ .z .z) .z)))))))))))))))))))
noncomputable def E5 : Env := ⟨tab, [C6, C8, C20, C21, C17, C11, C12, C18, C19], 1, 69⟩
theorem d5 : (fun (x : HL (pts C5.ps)) => den E5 (Tryz.f5.body.getD .skip) H5 (initS 69 C5.ps x) (retK tab [] C5.ps C5.rs [.tmp 2]) (fun _ _ => none) (retK tab [] C5.ps C5.rs [.tmp 2])) = C5.F := by kernel_rfl
theorem c5 : Cok Tryz.prog C5 := by
  have h6 := c6
  have h8 := c8
  have h20 := c20
  have h21 := c21
  have h17 := c17
  have h11 := c11
  have h12 := c12
  have h18 := c18
  have h19 := c19
  exact cok_of_den (E := E5) (fn := Tryz.f5) (code := Tryz.f5.body.getD .skip) (hn := H5) (gr := []) (is := [.tmp 2]) ⟨tabOk, (fun c hc => by simp only [E5, List.mem_cons, List.not_mem_nil, or_false] at hc; rcases hc with rfl | rfl | rfl | rfl | rfl | rfl | rfl | rfl | rfl <;> assumption), mixOk⟩ ⟨by kernel_rfl, by kernel_rfl, by kernel_rfl, by kernel_rfl, by kernel_rfl, by decide, by kernel_rfl⟩ (fun x y h => (congrFun d5 x).trans h)
end Go.Proofs.YtgkgfpbdodafaaaGreatDoorE

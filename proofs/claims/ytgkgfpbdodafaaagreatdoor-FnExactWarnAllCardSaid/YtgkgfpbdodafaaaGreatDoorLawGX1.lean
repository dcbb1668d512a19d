/- The functions of X reckon so (1). No condition. -/
import Derived.Test.YtgkgfpbdodafaaaGreatDoorLawLBX
import Derived.Test.YtgkgfpbdodafaaaGreatDoorPackR
import Derived.Test.YtgkgfpbdodafaaaGreatDoorLawFX
import Derived.Test.YtgkgfpbdodafaaaGreatDoorProg
set_option linter.all false
namespace Go.Proofs.YtgkgfpbdodafaaaGreatDoorE
set_option maxRecDepth 100000
set_option linter.all false
def Hn.e (a b : Hn) : Hn := .n ⟨[], [], none, false, []⟩ a b
def OH.t (n : Nat) : OH := ⟨[], .ro, [n], [], none⟩
def OH.b (n : Nat) : OH := ⟨[], .ro, [], [n], none⟩
def OH.r : OH := ⟨[], .ro, [], [], none⟩
abbrev T11 : Ty := .pair (.str) (.int .i64)
abbrev T8 : Ty := .pair (.int .i64) (.pair (.int .i64) (.str))
abbrev T7 : Ty := .pair (.str) (.pair (.int .i64) (.int .i64))
abbrev M5 : Md := .pr (.ro) (.pr (.ro) (.pr (.ro) (.own (.ro))))
abbrev T5 : Ty := .pair (.int .i64) (.pair (.int .i64) (.pair (.str) (.list 3 (.int .i64))))
abbrev T4 : Ty := .pair (.str) (.pair (.list 85 (T11)) (.pair (.int .i64) (.pair (.int .i64) (.int .i64))))
abbrev M3 : Md := .pr (.ro) (.pr (.own (.ro)) (.ro))
abbrev T3 : Ty := .pair (.str) (.pair (.list 119 (T11)) (.pair (.int .i64) (.pair (.int .i64) (.int .i64))))
abbrev T2 : Ty := .pair (.list 54 (T5)) (.list 69 (T4))
abbrev M1 : Md := .pr (.own (M5)) (.own (M3))
abbrev T1 : Ty := .pair (.list 79 (T5)) (.list 83 (T3))
abbrev M0 : Md := .pr (M1) (M3)
abbrev T0 : Ty := .pair (T2) (.pair (.int .i64) (.pair (.list 9 (.str)) (.bool)))
def tab : List TE := [⟨3, .int .i64, 0, 8⟩, ⟨4, .bool, 0, 1⟩, ⟨5, .int .u8, 0, 1⟩, ⟨9, .str, 0, 16⟩, ⟨22, .list 79 (T5), 0, 24⟩, ⟨23, .list 83 (T3), 0, 24⟩, ⟨25, T1, 2, 48⟩, ⟨27, .list 9 (.str), 0, 24⟩, ⟨29, .list 54 (T5), 0, 24⟩, ⟨30, .list 69 (T4), 0, 24⟩, ⟨32, T2, 2, 48⟩, ⟨39, .list 65 (T8), 0, 24⟩, ⟨47, .list 52 (T7), 0, 24⟩, ⟨49, .list 3 (.int .i64), 0, 24⟩, ⟨52, T7, 3, 32⟩, ⟨54, T5, 4, 56⟩, ⟨65, T8, 3, 32⟩, ⟨67, .list 85 (T11), 0, 24⟩, ⟨69, T4, 5, 64⟩, ⟨79, T5, 4, 56⟩, ⟨81, .list 119 (T11), 0, 24⟩, ⟨83, T3, 5, 64⟩, ⟨85, T11, 2, 24⟩, ⟨93, .list 5 (.int .u8), 0, 24⟩, ⟨97, T0, 4, 88⟩, ⟨99, .list 4 (.bool), 0, 24⟩, ⟨119, T11, 2, 24⟩]
theorem tabOk : TabOk Tryz.prog tab := tab_ok (by kernel_rfl)
theorem kOk : kpos tab = true := by kernel_rfl
theorem mixOk : Tryz.prog.follows .mixedOrders = true := by kernel_rfl
noncomputable def C82 : Cal := ⟨82, [⟨.ro, .list 3 (.int .i64)⟩, ⟨.ro, .int .i64⟩], [⟨.int .i64, .ro⟩], fun x => laws_szIntS x.1 x.2.1⟩
def H82 : Hn := .z
noncomputable def E82 : Env := ⟨tab, [], 2, 12⟩
theorem d82 : (fun (x : HL (pts C82.ps)) => den E82 (Tryz.f82.body.getD .skip) H82 (initS 12 C82.ps x) (retK tab [] C82.ps C82.rs [.tmp 4]) (fun _ _ => none) (retK tab [] C82.ps C82.rs [.tmp 4])) = C82.F := by kernel_rfl
theorem c82 : Cok Tryz.prog C82 := by
  exact cok_of_den (E := E82) (fn := Tryz.f82) (code := Tryz.f82.body.getD .skip) (hn := H82) (gr := []) (is := [.tmp 4]) ⟨tabOk, (fun c hc => by cases hc), mixOk⟩ ⟨by kernel_rfl, by kernel_rfl, by kernel_rfl, by kernel_rfl, by kernel_rfl, by decide, by kernel_rfl⟩ (fun x y h => (congrFun d82 x).trans h)
noncomputable def C51 : Cal := ⟨51, [⟨.ro, T5⟩, ⟨.ro, .int .i64⟩], [⟨.int .i64, .ro⟩], fun x => laws_szNode x.1 x.2.1⟩
def H51 : Hn := (.e (.n ⟨[], [], none, false, [(0, ⟨[], M5, [], [], none⟩)]⟩ .z .z) .z)
noncomputable def E51 : Env := ⟨tab, [C82], 2, 19⟩
theorem d51 : (fun (x : HL (pts C51.ps)) => den E51 (Tryz.f51.body.getD .skip) H51 (initS 19 C51.ps x) (retK tab [] C51.ps C51.rs [.tmp 4]) (fun _ _ => none) (retK tab [] C51.ps C51.rs [.tmp 4])) = C51.F := by kernel_rfl
theorem c51 : Cok Tryz.prog C51 := by
  have h82 := c82
  exact cok_of_den (E := E51) (fn := Tryz.f51) (code := Tryz.f51.body.getD .skip) (hn := H51) (gr := []) (is := [.tmp 4]) ⟨tabOk, (fun c hc => by simp only [E51, List.mem_cons, List.not_mem_nil, or_false] at hc; rcases hc with rfl <;> assumption), mixOk⟩ ⟨by kernel_rfl, by kernel_rfl, by kernel_rfl, by kernel_rfl, by kernel_rfl, by decide, by kernel_rfl⟩ (fun x y h => (congrFun d51 x).trans h)
noncomputable def C22 : Cal := ⟨22, [⟨.ro, .list 79 (T5)⟩, ⟨.ro, .int .i64⟩], [⟨.int .i64, .ro⟩], fun x => laws_szNodeS x.1 x.2.1⟩
def H22 : Hn := (.e .z (.e .z (.e .z (.e (.e .z (.n ⟨[], [], (some ⟨[.snp 1 (.int .i64) []], [], []⟩), true, []⟩ (.n ⟨[], [], (some ⟨[.snp 0 (.list 79 (T5)) [], .snp 1 (.int .i64) [], .snp 5 (.int .i64) []], [], []⟩), false, []⟩ .z .z) .z)) .z))))
noncomputable def E22 : Env := ⟨tab, [C51], 2, 27⟩
theorem d22 : (fun (x : HL (pts C22.ps)) => den E22 (Tryz.f22.body.getD .skip) H22 (initS 27 C22.ps x) (retK tab [] C22.ps C22.rs [.tmp 4]) (fun _ _ => none) (retK tab [] C22.ps C22.rs [.tmp 4])) = C22.F := by kernel_rfl
theorem c22 : Cok Tryz.prog C22 := by
  have h51 := c51
  exact cok_of_den (E := E22) (fn := Tryz.f22) (code := Tryz.f22.body.getD .skip) (hn := H22) (gr := []) (is := [.tmp 4]) ⟨tabOk, (fun c hc => by simp only [E22, List.mem_cons, List.not_mem_nil, or_false] at hc; rcases hc with rfl <;> assumption), mixOk⟩ ⟨by kernel_rfl, by kernel_rfl, by kernel_rfl, by kernel_rfl, by kernel_rfl, by decide, by kernel_rfl⟩ (fun x y h => (congrFun d22 x).trans h)
noncomputable def C105 : Cal := ⟨105, [⟨.ro, T11⟩, ⟨.ro, .int .i64⟩], [⟨.int .i64, .ro⟩], fun x => laws_szParam x.1 x.2.1⟩
def H105 : Hn := .z
noncomputable def E105 : Env := ⟨tab, [], 2, 13⟩
theorem d105 : (fun (x : HL (pts C105.ps)) => den E105 (Tryz.f105.body.getD .skip) H105 (initS 13 C105.ps x) (retK tab [] C105.ps C105.rs [.tmp 4]) (fun _ _ => none) (retK tab [] C105.ps C105.rs [.tmp 4])) = C105.F := by kernel_rfl
theorem c105 : Cok Tryz.prog C105 := by
  exact cok_of_den (E := E105) (fn := Tryz.f105) (code := Tryz.f105.body.getD .skip) (hn := H105) (gr := []) (is := [.tmp 4]) ⟨tabOk, (fun c hc => by cases hc), mixOk⟩ ⟨by kernel_rfl, by kernel_rfl, by kernel_rfl, by kernel_rfl, by kernel_rfl, by decide, by kernel_rfl⟩ (fun x y h => (congrFun d105 x).trans h)
noncomputable def C83 : Cal := ⟨83, [⟨.ro, .list 119 (T11)⟩, ⟨.ro, .int .i64⟩], [⟨.int .i64, .ro⟩], fun x => laws_szParamS x.1 x.2.1⟩
def H83 : Hn := (.e .z (.e .z (.e .z (.e (.e .z (.n ⟨[], [], (some ⟨[.snp 1 (.int .i64) []], [], []⟩), true, []⟩ (.n ⟨[], [], (some ⟨[.snp 0 (.list 119 (T11)) [], .snp 1 (.int .i64) [], .snp 5 (.int .i64) []], [], []⟩), false, []⟩ .z .z) .z)) .z))))
noncomputable def E83 : Env := ⟨tab, [C105], 2, 27⟩
theorem d83 : (fun (x : HL (pts C83.ps)) => den E83 (Tryz.f83.body.getD .skip) H83 (initS 27 C83.ps x) (retK tab [] C83.ps C83.rs [.tmp 4]) (fun _ _ => none) (retK tab [] C83.ps C83.rs [.tmp 4])) = C83.F := by kernel_rfl
theorem c83 : Cok Tryz.prog C83 := by
  have h105 := c105
  exact cok_of_den (E := E83) (fn := Tryz.f83) (code := Tryz.f83.body.getD .skip) (hn := H83) (gr := []) (is := [.tmp 4]) ⟨tabOk, (fun c hc => by simp only [E83, List.mem_cons, List.not_mem_nil, or_false] at hc; rcases hc with rfl <;> assumption), mixOk⟩ ⟨by kernel_rfl, by kernel_rfl, by kernel_rfl, by kernel_rfl, by kernel_rfl, by decide, by kernel_rfl⟩ (fun x y h => (congrFun d83 x).trans h)
noncomputable def C52 : Cal := ⟨52, [⟨.ro, T3⟩, ⟨.ro, .int .i64⟩], [⟨.int .i64, .ro⟩], fun x => laws_szFn x.1 x.2.1⟩
def H52 : Hn := (.e (.n ⟨[], [], none, false, [(0, ⟨[], M3, [], [], none⟩)]⟩ .z .z) .z)
noncomputable def E52 : Env := ⟨tab, [C83], 2, 19⟩
theorem d52 : (fun (x : HL (pts C52.ps)) => den E52 (Tryz.f52.body.getD .skip) H52 (initS 19 C52.ps x) (retK tab [] C52.ps C52.rs [.tmp 4]) (fun _ _ => none) (retK tab [] C52.ps C52.rs [.tmp 4])) = C52.F := by kernel_rfl
theorem c52 : Cok Tryz.prog C52 := by
  have h83 := c83
  exact cok_of_den (E := E52) (fn := Tryz.f52) (code := Tryz.f52.body.getD .skip) (hn := H52) (gr := []) (is := [.tmp 4]) ⟨tabOk, (fun c hc => by simp only [E52, List.mem_cons, List.not_mem_nil, or_false] at hc; rcases hc with rfl <;> assumption), mixOk⟩ ⟨by kernel_rfl, by kernel_rfl, by kernel_rfl, by kernel_rfl, by kernel_rfl, by decide, by kernel_rfl⟩ (fun x y h => (congrFun d52 x).trans h)
noncomputable def C23 : Cal := ⟨23, [⟨.ro, .list 83 (T3)⟩, ⟨.ro, .int .i64⟩], [⟨.int .i64, .ro⟩], fun x => laws_szFnS x.1 x.2.1⟩
def H23 : Hn := (.e .z (.e .z (.e .z (.e (.e .z (.n ⟨[], [], (some ⟨[.snp 1 (.int .i64) []], [], []⟩), true, []⟩ (.n ⟨[], [], (some ⟨[.snp 0 (.list 83 (T3)) [], .snp 1 (.int .i64) [], .snp 5 (.int .i64) []], [], []⟩), false, []⟩ .z .z) .z)) .z))))
noncomputable def E23 : Env := ⟨tab, [C52], 2, 27⟩
theorem d23 : (fun (x : HL (pts C23.ps)) => den E23 (Tryz.f23.body.getD .skip) H23 (initS 27 C23.ps x) (retK tab [] C23.ps C23.rs [.tmp 4]) (fun _ _ => none) (retK tab [] C23.ps C23.rs [.tmp 4])) = C23.F := by kernel_rfl
theorem c23 : Cok Tryz.prog C23 := by
  have h52 := c52
  exact cok_of_den (E := E23) (fn := Tryz.f23) (code := Tryz.f23.body.getD .skip) (hn := H23) (gr := []) (is := [.tmp 4]) ⟨tabOk, (fun c hc => by simp only [E23, List.mem_cons, List.not_mem_nil, or_false] at hc; rcases hc with rfl <;> assumption), mixOk⟩ ⟨by kernel_rfl, by kernel_rfl, by kernel_rfl, by kernel_rfl, by kernel_rfl, by decide, by kernel_rfl⟩ (fun x y h => (congrFun d23 x).trans h)
noncomputable def C6 : Cal := ⟨6, [⟨.ro, T1⟩, ⟨.ro, .int .i64⟩], [⟨.int .i64, .ro⟩], fun x => laws_szProgram x.1 x.2.1⟩
def H6 : Hn := (.e (.n ⟨[], [], none, false, [(0, ⟨[], M1, [], [], none⟩)]⟩ .z .z) .z)
noncomputable def E6 : Env := ⟨tab, [C22, C23], 2, 18⟩
theorem d6 : (fun (x : HL (pts C6.ps)) => den E6 (Tryz.f6.body.getD .skip) H6 (initS 18 C6.ps x) (retK tab [] C6.ps C6.rs [.tmp 4]) (fun _ _ => none) (retK tab [] C6.ps C6.rs [.tmp 4])) = C6.F := by kernel_rfl
theorem c6 : Cok Tryz.prog C6 := by
  have h22 := c22
  have h23 := c23
  exact cok_of_den (E := E6) (fn := Tryz.f6) (code := Tryz.f6.body.getD .skip) (hn := H6) (gr := []) (is := [.tmp 4]) ⟨tabOk, (fun c hc => by simp only [E6, List.mem_cons, List.not_mem_nil, or_false] at hc; rcases hc with rfl | rfl <;> assumption), mixOk⟩ ⟨by kernel_rfl, by kernel_rfl, by kernel_rfl, by kernel_rfl, by kernel_rfl, by decide, by kernel_rfl⟩ (fun x y h => (congrFun d6 x).trans h)
noncomputable def C84 : Cal := ⟨84, [⟨.ro, .list 3 (.int .i64)⟩], [⟨.list 3 (.int .i64), .own (.ro)⟩], fun x => laws_toIntS x.1⟩
def H84 : Hn := (.e .z (.e (.n ⟨[], [.g 3], none, false, []⟩ .z .z) (.e (.e .z (.n ⟨[], [], (some ⟨[.dat 3 (.list 3 (.int .i64)) (.own (.ro))], [], []⟩), false, []⟩ (.n ⟨[], [], (some ⟨[.snp 0 (.list 3 (.int .i64)) [], .dat 3 (.list 3 (.int .i64)) (.own (.ro)), .snp 4 (.int .i64) []], [], []⟩), false, []⟩ (.e .z (.e (.e (.n ⟨[], [], none, false, [(7, ⟨[], .ro, [], [], some 6⟩)]⟩ .z .z) .z) .z)) .z) .z)) (.e (.n ⟨[], [.g 2], none, false, []⟩ .z .z) .z))))
noncomputable def E84 : Env := ⟨tab, [], 1, 22⟩
theorem d84 : (fun (x : HL (pts C84.ps)) => den E84 (Tryz.f84.body.getD .skip) H84 (initS 22 C84.ps x) (retK tab [] C84.ps C84.rs [.tmp 2]) (fun _ _ => none) (retK tab [] C84.ps C84.rs [.tmp 2])) = C84.F := by kernel_rfl
theorem c84 : Cok Tryz.prog C84 := by
  exact cok_of_den (E := E84) (fn := Tryz.f84) (code := Tryz.f84.body.getD .skip) (hn := H84) (gr := []) (is := [.tmp 2]) ⟨tabOk, (fun c hc => by cases hc), mixOk⟩ ⟨by kernel_rfl, by kernel_rfl, by kernel_rfl, by kernel_rfl, by kernel_rfl, by decide, by kernel_rfl⟩ (fun x y h => (congrFun d84 x).trans h)
noncomputable def C55 : Cal := ⟨55, [⟨.ro, T5⟩], [⟨T5, M5⟩], fun x => laws_toNode x.1⟩
def H55 : Hn := (.e (.n ⟨[], [], none, false, [(0, ⟨[], M5, [], [], none⟩), (1, ⟨[], M5, [], [], none⟩)]⟩ .z .z) (.e (.n ⟨[], [], none, false, [(0, ⟨[], M5, [], [], none⟩)]⟩ .z .z) (.e .z (.e .z (.e .z (.e (.n ⟨[], [], none, false, [(4, ⟨[], .own (.ro), [], [], none⟩)]⟩ .z .z) (.e (.n ⟨[], [], none, false, [(1, ⟨[.g 17], M5, [], [], none⟩)]⟩ .z .z) .z)))))))
noncomputable def E55 : Env := ⟨tab, [C84], 1, 18⟩
theorem d55 : (fun (x : HL (pts C55.ps)) => den E55 (Tryz.f55.body.getD .skip) H55 (initS 18 C55.ps x) (retK tab [] C55.ps C55.rs [.cell 2 54]) (fun _ _ => none) (retK tab [] C55.ps C55.rs [.cell 2 54])) = C55.F := by kernel_rfl
theorem c55 : Cok Tryz.prog C55 := by
  have h84 := c84
  exact cok_of_den (E := E55) (fn := Tryz.f55) (code := Tryz.f55.body.getD .skip) (hn := H55) (gr := []) (is := [.cell 2 54]) ⟨tabOk, (fun c hc => by simp only [E55, List.mem_cons, List.not_mem_nil, or_false] at hc; rcases hc with rfl <;> assumption), mixOk⟩ ⟨by kernel_rfl, by kernel_rfl, by kernel_rfl, by kernel_rfl, by kernel_rfl, by decide, by kernel_rfl⟩ (fun x y h => (congrFun d55 x).trans h)
noncomputable def C26 : Cal := ⟨26, [⟨.ro, .list 79 (T5)⟩], [⟨.list 54 (T5), .own (M5)⟩], fun x => laws_toNodeS x.1⟩
def H26 : Hn := (.e .z (.e (.n ⟨[], [.g 3], none, false, [(2, ⟨[], M5, [], [], none⟩)]⟩ .z .z) (.e (.e .z (.n ⟨[], [], (some ⟨[.dat 3 (.list 54 (T5)) (.own (M5))], [], []⟩), false, []⟩ (.n ⟨[], [], (some ⟨[.snp 0 (.list 79 (T5)) [], .dat 3 (.list 54 (T5)) (.own (M5)), .snp 4 (.int .i64) []], [], []⟩), false, []⟩ (.e .z (.e (.e (.n ⟨[], [], none, false, [(8, ⟨[], M5, [], [], some 6⟩)]⟩ .z .z) .z) .z)) .z) .z)) (.e (.n ⟨[], [.g 2], none, false, []⟩ .z .z) .z))))
noncomputable def E26 : Env := ⟨tab, [C55], 1, 23⟩
theorem d26 : (fun (x : HL (pts C26.ps)) => den E26 (Tryz.f26.body.getD .skip) H26 (initS 23 C26.ps x) (retK tab [] C26.ps C26.rs [.tmp 2]) (fun _ _ => none) (retK tab [] C26.ps C26.rs [.tmp 2])) = C26.F := by kernel_rfl
theorem c26 : Cok Tryz.prog C26 := by
  have h55 := c55
  exact cok_of_den (E := E26) (fn := Tryz.f26) (code := Tryz.f26.body.getD .skip) (hn := H26) (gr := []) (is := [.tmp 2]) ⟨tabOk, (fun c hc => by simp only [E26, List.mem_cons, List.not_mem_nil, or_false] at hc; rcases hc with rfl <;> assumption), mixOk⟩ ⟨by kernel_rfl, by kernel_rfl, by kernel_rfl, by kernel_rfl, by kernel_rfl, by decide, by kernel_rfl⟩ (fun x y h => (congrFun d26 x).trans h)
noncomputable def C106 : Cal := ⟨106, [⟨.ro, T11⟩], [⟨T11, .ro⟩], fun x => laws_toParam x.1⟩
def H106 : Hn := .z
noncomputable def E106 : Env := ⟨tab, [], 1, 11⟩
theorem d106 : (fun (x : HL (pts C106.ps)) => den E106 (Tryz.f106.body.getD .skip) H106 (initS 11 C106.ps x) (retK tab [] C106.ps C106.rs [.cell 2 85]) (fun _ _ => none) (retK tab [] C106.ps C106.rs [.cell 2 85])) = C106.F := by kernel_rfl
theorem c106 : Cok Tryz.prog C106 := by
  exact cok_of_den (E := E106) (fn := Tryz.f106) (code := Tryz.f106.body.getD .skip) (hn := H106) (gr := []) (is := [.cell 2 85]) ⟨tabOk, (fun c hc => by cases hc), mixOk⟩ ⟨by kernel_rfl, by kernel_rfl, by kernel_rfl, by kernel_rfl, by kernel_rfl, by decide, by kernel_rfl⟩ (fun x y h => (congrFun d106 x).trans h)
noncomputable def C85 : Cal := ⟨85, [⟨.ro, .list 119 (T11)⟩], [⟨.list 85 (T11), .own (.ro)⟩], fun x => laws_toParamS x.1⟩
def H85 : Hn := (.e .z (.e (.n ⟨[], [.g 3], none, false, []⟩ .z .z) (.e (.e .z (.n ⟨[], [], (some ⟨[.dat 3 (.list 85 (T11)) (.own (.ro))], [], []⟩), false, []⟩ (.n ⟨[], [], (some ⟨[.snp 0 (.list 119 (T11)) [], .dat 3 (.list 85 (T11)) (.own (.ro)), .snp 4 (.int .i64) []], [], []⟩), false, []⟩ (.e .z (.e (.e (.n ⟨[], [], none, false, [(8, ⟨[], .ro, [], [], some 6⟩)]⟩ .z .z) .z) .z)) .z) .z)) (.e (.n ⟨[], [.g 2], none, false, []⟩ .z .z) .z))))
noncomputable def E85 : Env := ⟨tab, [C106], 1, 23⟩
theorem d85 : (fun (x : HL (pts C85.ps)) => den E85 (Tryz.f85.body.getD .skip) H85 (initS 23 C85.ps x) (retK tab [] C85.ps C85.rs [.tmp 2]) (fun _ _ => none) (retK tab [] C85.ps C85.rs [.tmp 2])) = C85.F := by kernel_rfl
theorem c85 : Cok Tryz.prog C85 := by
  have h106 := c106
  exact cok_of_den (E := E85) (fn := Tryz.f85) (code := Tryz.f85.body.getD .skip) (hn := H85) (gr := []) (is := [.tmp 2]) ⟨tabOk, (fun c hc => by simp only [E85, List.mem_cons, List.not_mem_nil, or_false] at hc; rcases hc with rfl <;> assumption), mixOk⟩ ⟨by kernel_rfl, by kernel_rfl, by kernel_rfl, by kernel_rfl, by kernel_rfl, by decide, by kernel_rfl⟩ (fun x y h => (congrFun d85 x).trans h)
noncomputable def C56 : Cal := ⟨56, [⟨.ro, T3⟩], [⟨T4, M3⟩], fun x => laws_toFn x.1⟩
def H56 : Hn := (.e (.n ⟨[], [], none, false, [(0, ⟨[], M3, [], [], none⟩), (1, ⟨[], M3, [], [], none⟩)]⟩ .z .z) (.e (.n ⟨[], [], none, false, [(0, ⟨[], M3, [], [], none⟩)]⟩ .z .z) (.e .z (.e (.n ⟨[], [], none, false, [(4, ⟨[], .own (.ro), [], [], none⟩)]⟩ .z .z) (.e .z (.e .z (.e .z (.e (.n ⟨[], [], none, false, [(1, ⟨[.g 20], M3, [], [], none⟩)]⟩ .z .z) .z))))))))
noncomputable def E56 : Env := ⟨tab, [C85], 1, 21⟩
theorem d56 : (fun (x : HL (pts C56.ps)) => den E56 (Tryz.f56.body.getD .skip) H56 (initS 21 C56.ps x) (retK tab [] C56.ps C56.rs [.cell 2 69]) (fun _ _ => none) (retK tab [] C56.ps C56.rs [.cell 2 69])) = C56.F := by kernel_rfl
theorem c56 : Cok Tryz.prog C56 := by
  have h85 := c85
  exact cok_of_den (E := E56) (fn := Tryz.f56) (code := Tryz.f56.body.getD .skip) (hn := H56) (gr := []) (is := [.cell 2 69]) ⟨tabOk, (fun c hc => by simp only [E56, List.mem_cons, List.not_mem_nil, or_false] at hc; rcases hc with rfl <;> assumption), mixOk⟩ ⟨by kernel_rfl, by kernel_rfl, by kernel_rfl, by kernel_rfl, by kernel_rfl, by decide, by kernel_rfl⟩ (fun x y h => (congrFun d56 x).trans h)
noncomputable def C27 : Cal := ⟨27, [⟨.ro, .list 83 (T3)⟩], [⟨.list 69 (T4), .own (M3)⟩], fun x => laws_toFnS x.1⟩
def H27 : Hn := (.e .z (.e (.n ⟨[], [.g 3], none, false, [(2, ⟨[], M3, [], [], none⟩)]⟩ .z .z) (.e (.e .z (.n ⟨[], [], (some ⟨[.dat 3 (.list 69 (T4)) (.own (M3))], [], []⟩), false, []⟩ (.n ⟨[], [], (some ⟨[.snp 0 (.list 83 (T3)) [], .dat 3 (.list 69 (T4)) (.own (M3)), .snp 4 (.int .i64) []], [], []⟩), false, []⟩ (.e .z (.e (.e (.n ⟨[], [], none, false, [(8, ⟨[], M3, [], [], some 6⟩)]⟩ .z .z) .z) .z)) .z) .z)) (.e (.n ⟨[], [.g 2], none, false, []⟩ .z .z) .z))))
noncomputable def E27 : Env := ⟨tab, [C56], 1, 23⟩
theorem d27 : (fun (x : HL (pts C27.ps)) => den E27 (Tryz.f27.body.getD .skip) H27 (initS 23 C27.ps x) (retK tab [] C27.ps C27.rs [.tmp 2]) (fun _ _ => none) (retK tab [] C27.ps C27.rs [.tmp 2])) = C27.F := by kernel_rfl
theorem c27 : Cok Tryz.prog C27 := by
  have h56 := c56
  exact cok_of_den (E := E27) (fn := Tryz.f27) (code := Tryz.f27.body.getD .skip) (hn := H27) (gr := []) (is := [.tmp 2]) ⟨tabOk, (fun c hc => by simp only [E27, List.mem_cons, List.not_mem_nil, or_false] at hc; rcases hc with rfl <;> assumption), mixOk⟩ ⟨by kernel_rfl, by kernel_rfl, by kernel_rfl, by kernel_rfl, by kernel_rfl, by decide, by kernel_rfl⟩ (fun x y h => (congrFun d27 x).trans h)
noncomputable def C8 : Cal := ⟨8, [⟨.ro, T1⟩], [⟨T2, M1⟩], fun x => laws_toProgram x.1⟩
def H8 : Hn := (.e (.n ⟨[], [], none, false, [(0, ⟨[], M1, [], [], none⟩), (1, ⟨[], M1, [], [], none⟩)]⟩ .z .z) (.e (.n ⟨[], [], none, false, [(0, ⟨[], M1, [], [], none⟩)]⟩ .z .z) (.e (.n ⟨[], [], none, false, [(4, ⟨[], .own (M5), [], [], none⟩)]⟩ .z .z) (.e (.n ⟨[], [], none, false, [(4, ⟨[], .own (M3), [], [], none⟩)]⟩ .z .z) (.e (.n ⟨[], [], none, false, [(1, ⟨[.g 12], M1, [], [], none⟩)]⟩ .z .z) .z)))))
noncomputable def E8 : Env := ⟨tab, [C26, C27], 1, 13⟩
theorem d8 : (fun (x : HL (pts C8.ps)) => den E8 (Tryz.f8.body.getD .skip) H8 (initS 13 C8.ps x) (retK tab [] C8.ps C8.rs [.cell 2 32]) (fun _ _ => none) (retK tab [] C8.ps C8.rs [.cell 2 32])) = C8.F := by kernel_rfl
theorem c8 : Cok Tryz.prog C8 := by
  have h26 := c26
  have h27 := c27
  exact cok_of_den (E := E8) (fn := Tryz.f8) (code := Tryz.f8.body.getD .skip) (hn := H8) (gr := []) (is := [.cell 2 32]) ⟨tabOk, (fun c hc => by simp only [E8, List.mem_cons, List.not_mem_nil, or_false] at hc; rcases hc with rfl | rfl <;> assumption), mixOk⟩ ⟨by kernel_rfl, by kernel_rfl, by kernel_rfl, by kernel_rfl, by kernel_rfl, by decide, by kernel_rfl⟩ (fun x y h => (congrFun d8 x).trans h)
noncomputable def C36 : Cal := ⟨36, [⟨.ro, .int .i64⟩, ⟨.ro, .int .i64⟩, ⟨.ro, .int .i64⟩], [⟨.bool, .ro⟩], fun x => spec_l01In x.1 x.2.1 x.2.2.1⟩
def H36 : Hn := (.e .z (.e (.n ⟨[], [], (some ⟨[.snp 6 (.bool) []], [], []⟩), false, []⟩ .z .z) .z))
noncomputable def E36 : Env := ⟨tab, [], 3, 15⟩
theorem d36 : (fun (x : HL (pts C36.ps)) => den E36 (Tryz.f36.body.getD .skip) H36 (initS 15 C36.ps x) (retK tab [] C36.ps C36.rs [.tmp 6]) (fun _ _ => none) (retK tab [] C36.ps C36.rs [.tmp 6])) = C36.F := by kernel_rfl
theorem c36 : Cok Tryz.prog C36 := by
  exact cok_of_den (E := E36) (fn := Tryz.f36) (code := Tryz.f36.body.getD .skip) (hn := H36) (gr := []) (is := [.tmp 6]) ⟨tabOk, (fun c hc => by cases hc), mixOk⟩ ⟨by kernel_rfl, by kernel_rfl, by kernel_rfl, by kernel_rfl, by kernel_rfl, by decide, by kernel_rfl⟩ (fun x y h => (congrFun d36 x).trans h)
noncomputable def C118 : Cal := ⟨118, [⟨.ro, .int .i64⟩], [⟨.int .i64, .ro⟩, ⟨.int .i64, .ro⟩], fun x => spec_l04Kids x.1⟩
def H118 : Hn := (.e .z (.e (.e .z (.e (.e (.e .z (.n ⟨[], [], (some ⟨[.snp 4 (.int .i64) [], .snp 5 (.bool) []], [], []⟩), false, []⟩ .z (.e .z (.n ⟨[], [], (some ⟨[.snp 4 (.int .i64) [], .snp 5 (.bool) []], [], []⟩), false, []⟩ .z (.e .z (.n ⟨[], [], (some ⟨[.snp 4 (.int .i64) [], .snp 5 (.bool) []], [], []⟩), false, []⟩ .z (.e .z (.n ⟨[], [], (some ⟨[.snp 4 (.int .i64) [], .snp 5 (.bool) []], [], []⟩), false, []⟩ .z (.e .z (.n ⟨[], [], (some ⟨[.snp 4 (.int .i64) [], .snp 5 (.bool) []], [], []⟩), false, []⟩ .z .z)))))))))) (.e .z (.e (.e .z (.n ⟨[], [], (some ⟨[.snp 4 (.int .i64) [], .snp 12 (.bool) []], [], []⟩), false, []⟩ .z (.e .z (.n ⟨[], [], (some ⟨[.snp 4 (.int .i64) [], .snp 12 (.bool) []], [], []⟩), false, []⟩ .z (.e .z (.n ⟨[], [], (some ⟨[.snp 4 (.int .i64) [], .snp 12 (.bool) []], [], []⟩), false, []⟩ .z .z)))))) .z))) .z)) .z))
noncomputable def E118 : Env := ⟨tab, [], 1, 23⟩
theorem d118 : (fun (x : HL (pts C118.ps)) => den E118 (Tryz.f118.body.getD .skip) H118 (initS 23 C118.ps x) (retK tab [] C118.ps C118.rs [.tmp 2, .tmp 3]) (fun _ _ => none) (retK tab [] C118.ps C118.rs [.tmp 2, .tmp 3])) = C118.F := by kernel_rfl
theorem c118 : Cok Tryz.prog C118 := by
  exact cok_of_den (E := E118) (fn := Tryz.f118) (code := Tryz.f118.body.getD .skip) (hn := H118) (gr := []) (is := [.tmp 2, .tmp 3]) ⟨tabOk, (fun c hc => by cases hc), mixOk⟩ ⟨by kernel_rfl, by kernel_rfl, by kernel_rfl, by kernel_rfl, by kernel_rfl, by decide, by kernel_rfl⟩ (fun x y h => (congrFun d118 x).trans h)
noncomputable def C119 : Cal := ⟨119, [⟨.ro, .int .i64⟩], [⟨.bool, .ro⟩], fun x => spec_l04Named x.1⟩
def H119 : Hn := (.e .z (.e (.e .z (.e (.e (.e .z (.n ⟨[], [], (some ⟨[.snp 4 (.bool) []], [], []⟩), false, []⟩ .z (.e .z (.n ⟨[], [], (some ⟨[.snp 4 (.bool) []], [], []⟩), false, []⟩ .z (.e .z (.n ⟨[], [], (some ⟨[.snp 4 (.bool) []], [], []⟩), false, []⟩ .z (.e .z (.n ⟨[], [], (some ⟨[.snp 4 (.bool) []], [], []⟩), false, []⟩ .z (.e .z (.n ⟨[], [], (some ⟨[.snp 4 (.bool) []], [], []⟩), false, []⟩ .z (.e .z (.n ⟨[], [], (some ⟨[.snp 4 (.bool) []], [], []⟩), false, []⟩ .z (.e .z (.n ⟨[], [], (some ⟨[.snp 4 (.bool) []], [], []⟩), false, []⟩ .z (.e .z (.n ⟨[], [], (some ⟨[.snp 4 (.bool) []], [], []⟩), false, []⟩ .z .z)))))))))))))))) .z) .z)) .z))
noncomputable def E119 : Env := ⟨tab, [], 1, 14⟩
theorem d119 : (fun (x : HL (pts C119.ps)) => den E119 (Tryz.f119.body.getD .skip) H119 (initS 14 C119.ps x) (retK tab [] C119.ps C119.rs [.tmp 2]) (fun _ _ => none) (retK tab [] C119.ps C119.rs [.tmp 2])) = C119.F := by kernel_rfl
theorem c119 : Cok Tryz.prog C119 := by
  exact cok_of_den (E := E119) (fn := Tryz.f119) (code := Tryz.f119.body.getD .skip) (hn := H119) (gr := []) (is := [.tmp 2]) ⟨tabOk, (fun c hc => by cases hc), mixOk⟩ ⟨by kernel_rfl, by kernel_rfl, by kernel_rfl, by kernel_rfl, by kernel_rfl, by decide, by kernel_rfl⟩ (fun x y h => (congrFun d119 x).trans h)
noncomputable def C121 : Cal := ⟨121, [⟨.ro, .int .u8⟩], [⟨.bool, .ro⟩], fun x => spec_l03Letter x.1⟩
def H121 : Hn := (.e .z (.e (.n ⟨[], [], (some ⟨[.snp 2 (.bool) []], [], []⟩), false, []⟩ .z .z) .z))
noncomputable def E121 : Env := ⟨tab, [], 1, 9⟩
theorem d121 : (fun (x : HL (pts C121.ps)) => den E121 (Tryz.f121.body.getD .skip) H121 (initS 9 C121.ps x) (retK tab [] C121.ps C121.rs [.tmp 2]) (fun _ _ => none) (retK tab [] C121.ps C121.rs [.tmp 2])) = C121.F := by kernel_rfl
theorem c121 : Cok Tryz.prog C121 := by
  exact cok_of_den (E := E121) (fn := Tryz.f121) (code := Tryz.f121.body.getD .skip) (hn := H121) (gr := []) (is := [.tmp 2]) ⟨tabOk, (fun c hc => by cases hc), mixOk⟩ ⟨by kernel_rfl, by kernel_rfl, by kernel_rfl, by kernel_rfl, by kernel_rfl, by decide, by kernel_rfl⟩ (fun x y h => (congrFun d121 x).trans h)
noncomputable def C146 : Cal := ⟨146, [], [⟨.list 9 (.str), .own (.ro)⟩], fun x => spec_l03Keys ⟩
def H146 : Hn := (.e .z (.e (.n ⟨[], [.g 0], none, false, []⟩ .z .z) .z))
noncomputable def E146 : Env := ⟨tab, [], 0, 2⟩
theorem d146 : (fun (x : HL (pts C146.ps)) => den E146 (Tryz.f146.body.getD .skip) H146 (initS 2 C146.ps x) (retK tab [] C146.ps C146.rs [.tmp 0]) (fun _ _ => none) (retK tab [] C146.ps C146.rs [.tmp 0])) = C146.F := by kernel_rfl
theorem c146 : Cok Tryz.prog C146 := by
  exact cok_of_den (E := E146) (fn := Tryz.f146) (code := Tryz.f146.body.getD .skip) (hn := H146) (gr := []) (is := [.tmp 0]) ⟨tabOk, (fun c hc => by cases hc), mixOk⟩ ⟨by kernel_rfl, by kernel_rfl, by kernel_rfl, by kernel_rfl, by kernel_rfl, by decide, by kernel_rfl⟩ (fun x y h => (congrFun d146 x).trans h)
noncomputable def C122 : Cal := ⟨122, [⟨.ro, .str⟩], [⟨.bool, .ro⟩], fun x => spec_KeyWord x.1⟩
def H122 : Hn := (.e .z (.e (.n ⟨[], [.g 3], none, false, []⟩ .z .z) (.e (.e .z (.n ⟨[], [], (some ⟨[], [], []⟩), true, []⟩ (.n ⟨[], [], (some ⟨[.snp 0 (.str) [], .dat 3 (.list 9 (.str)) (.own (.ro)), .snp 4 (.int .i64) []], [], []⟩), false, []⟩ .z .z) .z)) .z)))
noncomputable def E122 : Env := ⟨tab, [C146], 1, 18⟩
theorem d122 : (fun (x : HL (pts C122.ps)) => den E122 (Tryz.f122.body.getD .skip) H122 (initS 18 C122.ps x) (retK tab [] C122.ps C122.rs [.tmp 2]) (fun _ _ => none) (retK tab [] C122.ps C122.rs [.tmp 2])) = C122.F := by kernel_rfl
theorem c122 : Cok Tryz.prog C122 := by
  have h146 := c146
  exact cok_of_den (E := E122) (fn := Tryz.f122) (code := Tryz.f122.body.getD .skip) (hn := H122) (gr := []) (is := [.tmp 2]) ⟨tabOk, (fun c hc => by simp only [E122, List.mem_cons, List.not_mem_nil, or_false] at hc; rcases hc with rfl <;> assumption), mixOk⟩ ⟨by kernel_rfl, by kernel_rfl, by kernel_rfl, by kernel_rfl, by kernel_rfl, by decide, by kernel_rfl⟩ (fun x y h => (congrFun d122 x).trans h)
noncomputable def C123 : Cal := ⟨123, [⟨.ro, .int .u8⟩], [⟨.bool, .ro⟩], fun x => spec_l03Figure x.1⟩
def H123 : Hn := (.e .z (.e (.n ⟨[], [], (some ⟨[.snp 2 (.bool) []], [], []⟩), false, []⟩ .z .z) .z))
noncomputable def E123 : Env := ⟨tab, [], 1, 9⟩
theorem d123 : (fun (x : HL (pts C123.ps)) => den E123 (Tryz.f123.body.getD .skip) H123 (initS 9 C123.ps x) (retK tab [] C123.ps C123.rs [.tmp 2]) (fun _ _ => none) (retK tab [] C123.ps C123.rs [.tmp 2])) = C123.F := by kernel_rfl
theorem c123 : Cok Tryz.prog C123 := by
  exact cok_of_den (E := E123) (fn := Tryz.f123) (code := Tryz.f123.body.getD .skip) (hn := H123) (gr := []) (is := [.tmp 2]) ⟨tabOk, (fun c hc => by cases hc), mixOk⟩ ⟨by kernel_rfl, by kernel_rfl, by kernel_rfl, by kernel_rfl, by kernel_rfl, by decide, by kernel_rfl⟩ (fun x y h => (congrFun d123 x).trans h)
noncomputable def C109 : Cal := ⟨109, [⟨.ro, .str⟩], [⟨.bool, .ro⟩], fun x => spec_NameOk x.1⟩
def H109 : Hn := (.e .z (.e (.e (.n ⟨[], [], (some ⟨[.snp 0 (.str) [], .snp 17 (.bool) []], [], []⟩), false, []⟩ .z .z) .z) (.e (.e .z (.n ⟨[], [], (some ⟨[], [], []⟩), true, []⟩ (.n ⟨[], [], (some ⟨[.snp 0 (.str) [], .snp 3 (.int .i64) []], [], []⟩), false, []⟩ (.e .z (.e (.e (.e (.n ⟨[], [], (some ⟨[.snp 0 (.str) [], .snp 3 (.int .i64) [], .snp 35 (.bool) []], [], []⟩), false, []⟩ .z .z) .z) .z) .z)) .z) .z)) .z)))
noncomputable def E109 : Env := ⟨tab, [C36, C121, C122, C123], 1, 36⟩
theorem d109 : (fun (x : HL (pts C109.ps)) => den E109 (Tryz.f109.body.getD .skip) H109 (initS 36 C109.ps x) (retK tab [] C109.ps C109.rs [.tmp 2]) (fun _ _ => none) (retK tab [] C109.ps C109.rs [.tmp 2])) = C109.F := by kernel_rfl
theorem c109 : Cok Tryz.prog C109 := by
  have h36 := c36
  have h121 := c121
  have h122 := c122
  have h123 := c123
  exact cok_of_den (E := E109) (fn := Tryz.f109) (code := Tryz.f109.body.getD .skip) (hn := H109) (gr := []) (is := [.tmp 2]) ⟨tabOk, (fun c hc => by simp only [E109, List.mem_cons, List.not_mem_nil, or_false] at hc; rcases hc with rfl | rfl | rfl | rfl <;> assumption), mixOk⟩ ⟨by kernel_rfl, by kernel_rfl, by kernel_rfl, by kernel_rfl, by kernel_rfl, by decide, by kernel_rfl⟩ (fun x y h => (congrFun d109 x).trans h)
noncomputable def C145 : Cal := ⟨145, [⟨.ro, .int .i64⟩], [⟨.bool, .ro⟩], fun x => spec_l04Statement x.1⟩
def H145 : Hn := .z
noncomputable def E145 : Env := ⟨tab, [C36], 1, 5⟩
theorem d145 : (fun (x : HL (pts C145.ps)) => den E145 (Tryz.f145.body.getD .skip) H145 (initS 5 C145.ps x) (retK tab [] C145.ps C145.rs [.tmp 2]) (fun _ _ => none) (retK tab [] C145.ps C145.rs [.tmp 2])) = C145.F := by kernel_rfl
theorem c145 : Cok Tryz.prog C145 := by
  have h36 := c36
  exact cok_of_den (E := E145) (fn := Tryz.f145) (code := Tryz.f145.body.getD .skip) (hn := H145) (gr := []) (is := [.tmp 2]) ⟨tabOk, (fun c hc => by simp only [E145, List.mem_cons, List.not_mem_nil, or_false] at hc; rcases hc with rfl <;> assumption), mixOk⟩ ⟨by kernel_rfl, by kernel_rfl, by kernel_rfl, by kernel_rfl, by kernel_rfl, by decide, by kernel_rfl⟩ (fun x y h => (congrFun d145 x).trans h)
noncomputable def C110 : Cal := ⟨110, [⟨.ro, .int .i64⟩], [⟨.bool, .ro⟩], fun x => spec_l04Value x.1⟩
def H110 : Hn := .z
noncomputable def E110 : Env := ⟨tab, [C36], 1, 5⟩
theorem d110 : (fun (x : HL (pts C110.ps)) => den E110 (Tryz.f110.body.getD .skip) H110 (initS 5 C110.ps x) (retK tab [] C110.ps C110.rs [.tmp 2]) (fun _ _ => none) (retK tab [] C110.ps C110.rs [.tmp 2])) = C110.F := by kernel_rfl
theorem c110 : Cok Tryz.prog C110 := by
  have h36 := c36
  exact cok_of_den (E := E110) (fn := Tryz.f110) (code := Tryz.f110.body.getD .skip) (hn := H110) (gr := []) (is := [.tmp 2]) ⟨tabOk, (fun c hc => by simp only [E110, List.mem_cons, List.not_mem_nil, or_false] at hc; rcases hc with rfl <;> assumption), mixOk⟩ ⟨by kernel_rfl, by kernel_rfl, by kernel_rfl, by kernel_rfl, by kernel_rfl, by decide, by kernel_rfl⟩ (fun x y h => (congrFun d110 x).trans h)
noncomputable def C120 : Cal := ⟨120, [⟨.ro, .int .i64⟩, ⟨.ro, .int .i64⟩, ⟨.ro, .int .i64⟩], [⟨.bool, .ro⟩], fun x => spec_l04Fits x.1 x.2.1 x.2.2.1⟩
def H120 : Hn := (.e .z (.e (.e .z (.e (.e .z (.e .z (.e (.e .z (.n ⟨[], [], (some ⟨[.snp 1 (.int .i64) [], .snp 2 (.int .i64) [], .snp 7 (.int .i64) [], .snp 12 (.bool) []], [], []⟩), false, []⟩ .z .z)) (.n ⟨[], [], (some ⟨[.snp 2 (.int .i64) []], [], []⟩), true, []⟩ .z .z)))) .z)) .z))
noncomputable def E120 : Env := ⟨tab, [C145, C110], 3, 25⟩
theorem d120 : (fun (x : HL (pts C120.ps)) => den E120 (Tryz.f120.body.getD .skip) H120 (initS 25 C120.ps x) (retK tab [] C120.ps C120.rs [.tmp 6]) (fun _ _ => none) (retK tab [] C120.ps C120.rs [.tmp 6])) = C120.F := by kernel_rfl
theorem c120 : Cok Tryz.prog C120 := by
  have h145 := c145
  have h110 := c110
  exact cok_of_den (E := E120) (fn := Tryz.f120) (code := Tryz.f120.body.getD .skip) (hn := H120) (gr := []) (is := [.tmp 6]) ⟨tabOk, (fun c hc => by simp only [E120, List.mem_cons, List.not_mem_nil, or_false] at hc; rcases hc with rfl | rfl <;> assumption), mixOk⟩ ⟨by kernel_rfl, by kernel_rfl, by kernel_rfl, by kernel_rfl, by kernel_rfl, by decide, by kernel_rfl⟩ (fun x y h => (congrFun d120 x).trans h)
noncomputable def C108 : Cal := ⟨108, [⟨.ro, .list 54 (T5)⟩, ⟨.ro, .int .i64⟩], [⟨.bool, .ro⟩], fun x => spec_NodeOk x.1 x.2.1⟩
def H108 : Hn := (.e .z (.e (.e (.n ⟨[], [], (some ⟨[.snp 0 (.list 54 (T5)) [], .snp 1 (.int .i64) [], .snp 24 (.bool) []], [], []⟩), false, []⟩ .z .z) .z) (.e (.n ⟨[], [], none, false, [(4, ⟨[], M5, [], [], none⟩), (5, ⟨[], M5, [], [], none⟩)]⟩ .z .z) (.e .z (.e (.e (.n ⟨[], [], (some ⟨[.snp 0 (.list 54 (T5)) [], .snp 1 (.int .i64) [], .snp 57 (.bool) [], .box 5 true (T5) (.ro)], [(5, ⟨11, []⟩)], []⟩), false, []⟩ .z .z) .z) (.e (.e (.n ⟨[], [], (some ⟨[.snp 0 (.list 54 (T5)) [], .snp 1 (.int .i64) [], .snp 75 (.bool) [], .box 5 true (T5) (.ro)], [(5, ⟨11, []⟩)], []⟩), false, [(0, .t 58), (1, .t 59), (2, .t 60), (3, .t 61), (4, .t 62), (5, .t 63), (6, .t 64), (7, .t 65), (8, .t 66), (9, .t 67), (10, .t 68), (11, .t 69), (12, .t 70), (13, .t 71), (14, .t 72), (15, .t 73), (16, .t 74), (17, .t 75)]⟩ .z .z) .z) (.e (.e .z (.n ⟨[], [], (some ⟨[], [], []⟩), true, []⟩ (.n ⟨[], [], (some ⟨[.snp 0 (.list 54 (T5)) [], .snp 1 (.int .i64) [], .snp 8 (.int .i64) [], .box 5 true (T5) (.ro)], [(5, ⟨11, []⟩)], []⟩), false, []⟩ (.e .z (.e (.n ⟨[], [], (some ⟨[.snp 0 (.list 54 (T5)) [], .snp 1 (.int .i64) [], .snp 8 (.int .i64) [], .box 5 true (T5) (.ro)], [(5, ⟨11, []⟩)], []⟩), true, []⟩ (.e (.e (.n ⟨[], [], (some ⟨[.snp 0 (.list 54 (T5)) [], .snp 1 (.int .i64) [], .snp 8 (.int .i64) [], .snp 107 (.bool) [], .box 5 true (T5) (.ro)], [(5, ⟨11, []⟩)], []⟩), false, [(0, .t 83), (1, .t 84), (2, .t 85), (3, .t 86), (4, .t 87), (5, .t 88), (6, .t 89), (7, .t 90), (8, .t 91), (9, .t 92), (10, .t 93), (11, .t 94), (12, .t 95), (13, .t 96), (14, .t 97), (15, .t 98), (16, .t 99), (17, .t 100), (18, .t 101), (19, .t 102), (20, .t 103), (21, .t 104), (22, .t 105), (23, .t 106), (24, .t 107)]⟩ .z .z) .z) (.e .z (.n ⟨[], [], (some ⟨[.snp 0 (.list 54 (T5)) [], .snp 1 (.int .i64) [], .snp 8 (.int .i64) [], .box 5 true (T5) (.ro)], [(5, ⟨11, []⟩)], []⟩), true, []⟩ (.n ⟨[], [], (some ⟨[.snp 0 (.list 54 (T5)) [], .snp 1 (.int .i64) [], .snp 8 (.int .i64) [], .snp 9 (.int .i64) [], .box 5 true (T5) (.ro)], [(5, ⟨11, []⟩)], []⟩), false, []⟩ (.e .z (.e (.e (.e (.n ⟨[], [], none, false, [(0, .t 113), (1, .t 114), (2, .t 115), (3, .t 116), (4, .t 117), (5, .t 118), (6, .t 119), (7, .t 120), (8, .t 121), (9, .t 122), (10, .t 123)]⟩ .z .z) .z) .z) .z)) .z) .z))) .z) .z)) .z) .z)) .z)))))))
noncomputable def E108 : Env := ⟨tab, [C36, C118, C119, C109, C120], 2, 124⟩
theorem d108 : (fun (x : HL (pts C108.ps)) => den E108 (Tryz.f108.body.getD .skip) H108 (initS 124 C108.ps x) (retK tab [] C108.ps C108.rs [.tmp 4]) (fun _ _ => none) (retK tab [] C108.ps C108.rs [.tmp 4])) = C108.F := by kernel_rfl
theorem c108 : Cok Tryz.prog C108 := by
  have h36 := c36
  have h118 := c118
  have h119 := c119
  have h109 := c109
  have h120 := c120
  exact cok_of_den (E := E108) (fn := Tryz.f108) (code := Tryz.f108.body.getD .skip) (hn := H108) (gr := []) (is := [.tmp 4]) ⟨tabOk, (fun c hc => by simp only [E108, List.mem_cons, List.not_mem_nil, or_false] at hc; rcases hc with rfl | rfl | rfl | rfl | rfl <;> assumption), mixOk⟩ ⟨by kernel_rfl, by kernel_rfl, by kernel_rfl, by kernel_rfl, by kernel_rfl, by decide, by kernel_rfl⟩ (fun x y h => (congrFun d108 x).trans h)
noncomputable def C89 : Cal := ⟨89, [⟨.ro, .list 54 (T5)⟩, ⟨.ro, .int .i64⟩], [⟨.list 3 (.int .i64), .own (.ro)⟩], fun x => spec_l04Deeps x.1 x.2.1⟩
def H89 : Hn := (.e .z (.e (.n ⟨[], [.g 5], none, false, []⟩ .z .z) (.e (.e .z (.n ⟨[], [], (some ⟨[.dat 5 (.list 3 (.int .i64)) (.own (.ro))], [], []⟩), false, []⟩ (.n ⟨[], [], (some ⟨[.snp 0 (.list 54 (T5)) [], .snp 1 (.int .i64) [], .dat 5 (.list 3 (.int .i64)) (.own (.ro)), .snp 6 (.int .i64) []], [], []⟩), false, []⟩ (.e (.e (.n ⟨[], [], (some ⟨[.snp 0 (.list 54 (T5)) [], .snp 1 (.int .i64) [], .dat 5 (.list 3 (.int .i64)) (.own (.ro)), .snp 6 (.int .i64) [], .snp 18 (.bool) []], [], []⟩), false, []⟩ .z .z) .z) (.e (.n ⟨[], [], (some ⟨[.snp 0 (.list 54 (T5)) [], .snp 1 (.int .i64) [], .dat 5 (.list 3 (.int .i64)) (.own (.ro)), .snp 6 (.int .i64) []], [], []⟩), false, []⟩ (.e .z (.e (.e (.n ⟨[], [], (some ⟨[.snp 0 (.list 54 (T5)) [], .snp 1 (.int .i64) [], .dat 5 (.list 3 (.int .i64)) (.own (.ro)), .snp 6 (.int .i64) [], .snp 7 (.int .i64) [], .snp 36 (.bool) []], [], []⟩), false, []⟩ .z .z) (.n ⟨[], [], (some ⟨[.snp 0 (.list 54 (T5)) [], .snp 1 (.int .i64) [], .dat 5 (.list 3 (.int .i64)) (.own (.ro)), .snp 6 (.int .i64) [], .snp 7 (.int .i64) []], [], []⟩), false, []⟩ .z .z)) (.e (.e .z (.n ⟨[], [], (some ⟨[.snp 0 (.list 54 (T5)) [], .snp 1 (.int .i64) [], .dat 5 (.list 3 (.int .i64)) (.own (.ro)), .snp 6 (.int .i64) [], .snp 7 (.int .i64) []], [], []⟩), false, []⟩ (.n ⟨[], [], (some ⟨[.snp 0 (.list 54 (T5)) [], .snp 1 (.int .i64) [], .dat 5 (.list 3 (.int .i64)) (.own (.ro)), .snp 6 (.int .i64) [], .snp 7 (.int .i64) [], .snp 8 (.int .i64) []], [], []⟩), false, []⟩ (.e (.e (.n ⟨[], [], (some ⟨[.snp 0 (.list 54 (T5)) [], .snp 1 (.int .i64) [], .dat 5 (.list 3 (.int .i64)) (.own (.ro)), .snp 6 (.int .i64) [], .snp 7 (.int .i64) [], .snp 8 (.int .i64) [], .snp 48 (.bool) []], [], []⟩), false, []⟩ .z .z) .z) (.e (.e (.e .z (.n ⟨[], [], (some ⟨[.snp 0 (.list 54 (T5)) [], .snp 1 (.int .i64) [], .dat 5 (.list 3 (.int .i64)) (.own (.ro)), .snp 6 (.int .i64) [], .snp 7 (.int .i64) [], .snp 8 (.int .i64) []], [], []⟩), false, []⟩ .z .z)) .z) .z)) .z) .z)) (.e (.e .z (.n ⟨[], [], (some ⟨[.snp 0 (.list 54 (T5)) [], .snp 1 (.int .i64) [], .dat 5 (.list 3 (.int .i64)) (.own (.ro)), .snp 6 (.int .i64) [], .snp 7 (.int .i64) []], [], []⟩), false, []⟩ .z .z)) (.n ⟨[], [.g 5], none, false, [(3, ⟨[.g 79], .ro, [], [], none⟩)]⟩ .z .z))))) .z) .z)) .z) .z)) (.e (.n ⟨[], [.g 4], none, false, []⟩ .z .z) .z))))
noncomputable def E89 : Env := ⟨tab, [C108], 2, 84⟩
theorem d89 : (fun (x : HL (pts C89.ps)) => den E89 (Tryz.f89.body.getD .skip) H89 (initS 84 C89.ps x) (retK tab [] C89.ps C89.rs [.tmp 4]) (fun _ _ => none) (retK tab [] C89.ps C89.rs [.tmp 4])) = C89.F := by kernel_rfl
theorem c89 : Cok Tryz.prog C89 := by
  have h108 := c108
  exact cok_of_den (E := E89) (fn := Tryz.f89) (code := Tryz.f89.body.getD .skip) (hn := H89) (gr := []) (is := [.tmp 4]) ⟨tabOk, (fun c hc => by simp only [E89, List.mem_cons, List.not_mem_nil, or_false] at hc; rcases hc with rfl <;> assumption), mixOk⟩ ⟨by kernel_rfl, by kernel_rfl, by kernel_rfl, by kernel_rfl, by kernel_rfl, by decide, by kernel_rfl⟩ (fun x y h => (congrFun d89 x).trans h)
noncomputable def C90 : Cal := ⟨90, [⟨.ro, .list 54 (T5)⟩], [⟨.list 3 (.int .i64), .own (.ro)⟩], fun x => spec_l04Used x.1⟩
def H90 : Hn := (.e .z (.e (.n ⟨[], [.g 3], none, false, []⟩ .z .z) (.e (.e .z (.n ⟨[], [], (some ⟨[.dat 3 (.list 3 (.int .i64)) (.own (.ro))], [], []⟩), false, []⟩ (.n ⟨[], [], (some ⟨[.snp 0 (.list 54 (T5)) [], .dat 3 (.list 3 (.int .i64)) (.own (.ro)), .snp 4 (.int .i64) []], [], []⟩), false, []⟩ (.e .z (.e (.n ⟨[], [], (some ⟨[.snp 0 (.list 54 (T5)) [], .dat 3 (.list 3 (.int .i64)) (.own (.ro)), .snp 4 (.int .i64) []], [], []⟩), false, []⟩ (.e .z (.n ⟨[], [], (some ⟨[.snp 0 (.list 54 (T5)) [], .dat 3 (.list 3 (.int .i64)) (.own (.ro)), .snp 4 (.int .i64) []], [], []⟩), false, []⟩ (.n ⟨[], [], (some ⟨[.snp 0 (.list 54 (T5)) [], .dat 3 (.list 3 (.int .i64)) (.own (.ro)), .snp 4 (.int .i64) [], .snp 5 (.int .i64) []], [], []⟩), false, []⟩ (.e .z (.e (.e (.n ⟨[], [], none, false, [(13, ⟨[], .ro, [], [], some 6⟩)]⟩ .z .z) .z) .z)) .z) .z)) .z) .z)) .z) .z)) (.e (.n ⟨[], [.g 2], none, false, []⟩ .z .z) .z))))
noncomputable def E90 : Env := ⟨tab, [], 1, 39⟩
theorem d90 : (fun (x : HL (pts C90.ps)) => den E90 (Tryz.f90.body.getD .skip) H90 (initS 39 C90.ps x) (retK tab [] C90.ps C90.rs [.tmp 2]) (fun _ _ => none) (retK tab [] C90.ps C90.rs [.tmp 2])) = C90.F := by kernel_rfl
theorem c90 : Cok Tryz.prog C90 := by
  exact cok_of_den (E := E90) (fn := Tryz.f90) (code := Tryz.f90.body.getD .skip) (hn := H90) (gr := []) (is := [.tmp 2]) ⟨tabOk, (fun c hc => by cases hc), mixOk⟩ ⟨by kernel_rfl, by kernel_rfl, by kernel_rfl, by kernel_rfl, by kernel_rfl, by decide, by kernel_rfl⟩ (fun x y h => (congrFun d90 x).trans h)
noncomputable def C94 : Cal := ⟨94, [⟨.ro, T2⟩, ⟨.ro, .str⟩], [⟨.int .i64, .ro⟩], fun x => spec_FnAt x.1 x.2.1⟩
def H94 : Hn := (.e (.n ⟨[], [], none, false, [(0, ⟨[], M1, [], [], none⟩)]⟩ .z .z) (.e (.e .z (.n ⟨[], [], (some ⟨[], [], []⟩), true, []⟩ (.n ⟨[], [], (some ⟨[.snp 1 (.str) [], .snp 5 (.int .i64) [], .box 2 true (T2) (.ro)], [(2, ⟨5, []⟩)], []⟩), false, []⟩ .z .z) .z)) .z))
noncomputable def E94 : Env := ⟨tab, [], 2, 22⟩
theorem d94 : (fun (x : HL (pts C94.ps)) => den E94 (Tryz.f94.body.getD .skip) H94 (initS 22 C94.ps x) (retK tab [] C94.ps C94.rs [.tmp 4]) (fun _ _ => none) (retK tab [] C94.ps C94.rs [.tmp 4])) = C94.F := by kernel_rfl
theorem c94 : Cok Tryz.prog C94 := by
  exact cok_of_den (E := E94) (fn := Tryz.f94) (code := Tryz.f94.body.getD .skip) (hn := H94) (gr := []) (is := [.tmp 4]) ⟨tabOk, (fun c hc => by cases hc), mixOk⟩ ⟨by kernel_rfl, by kernel_rfl, by kernel_rfl, by kernel_rfl, by kernel_rfl, by decide, by kernel_rfl⟩ (fun x y h => (congrFun d94 x).trans h)
noncomputable def C91 : Cal := ⟨91, [⟨.ro, T2⟩, ⟨.ro, .int .i64⟩], [⟨.bool, .ro⟩], fun x => spec_l04Fn x.1 x.2.1⟩
def H91 : Hn := (.e (.n ⟨[], [], none, false, [(0, ⟨[], M1, [], [], none⟩)]⟩ .z .z) (.e (.n ⟨[], [], none, false, [(5, ⟨[], M3, [], [], none⟩), (6, ⟨[], M3, [], [], none⟩)]⟩ .z .z) (.e (.e (.n ⟨[], [], (some ⟨[.snp 35 (.bool) [], .box 2 true (T2) (.ro), .box 5 true (T4) (.ro)], [(2, ⟨5, []⟩), (5, ⟨11, []⟩)], []⟩), false, []⟩ .z .z) .z) (.e (.e .z (.n ⟨[], [], (some ⟨[.box 2 true (T2) (.ro), .box 5 true (T4) (.ro)], [(2, ⟨5, []⟩), (5, ⟨11, []⟩)], []⟩), true, []⟩ (.n ⟨[], [], (some ⟨[.snp 6 (.int .i64) [], .box 2 true (T2) (.ro), .box 5 true (T4) (.ro)], [(2, ⟨5, []⟩), (5, ⟨11, []⟩)], []⟩), false, []⟩ (.e .z (.e (.e (.e (.n ⟨[], [], (some ⟨[.snp 6 (.int .i64) [], .snp 60 (.bool) [], .box 2 true (T2) (.ro), .box 5 true (T4) (.ro)], [(2, ⟨5, []⟩), (5, ⟨11, []⟩)], []⟩), false, []⟩ .z .z) .z) .z) .z)) .z) .z)) (.e (.e (.n ⟨[], [], (some ⟨[.snp 78 (.bool) [], .box 2 true (T2) (.ro), .box 5 true (T4) (.ro)], [(2, ⟨5, []⟩), (5, ⟨11, []⟩)], []⟩), false, []⟩ .z .z) .z) (.e .z (.e (.n ⟨[], [], (some ⟨[.snp 4 (.bool) []], [], []⟩), false, []⟩ .z .z) .z)))))))
noncomputable def E91 : Env := ⟨tab, [C109, C94, C36, C110], 2, 102⟩
theorem d91 : (fun (x : HL (pts C91.ps)) => den E91 (Tryz.f91.body.getD .skip) H91 (initS 102 C91.ps x) (retK tab [] C91.ps C91.rs [.tmp 4]) (fun _ _ => none) (retK tab [] C91.ps C91.rs [.tmp 4])) = C91.F := by kernel_rfl
theorem c91 : Cok Tryz.prog C91 := by
  have h109 := c109
  have h94 := c94
  have h36 := c36
  have h110 := c110
  exact cok_of_den (E := E91) (fn := Tryz.f91) (code := Tryz.f91.body.getD .skip) (hn := H91) (gr := []) (is := [.tmp 4]) ⟨tabOk, (fun c hc => by simp only [E91, List.mem_cons, List.not_mem_nil, or_false] at hc; rcases hc with rfl | rfl | rfl | rfl <;> assumption), mixOk⟩ ⟨by kernel_rfl, by kernel_rfl, by kernel_rfl, by kernel_rfl, by kernel_rfl, by decide, by kernel_rfl⟩ (fun x y h => (congrFun d91 x).trans h)
noncomputable def C64 : Cal := ⟨64, [⟨.ro, T2⟩], [⟨.bool, .ro⟩], fun x => spec_ProgramOk x.1⟩
def H64 : Hn := (.e (.n ⟨[], [], none, false, [(0, ⟨[], M1, [], [], none⟩)]⟩ .z .z) (.e (.e (.n ⟨[], [], (some ⟨[.snp 18 (.bool) [], .box 1 true (T2) (.ro)], [(1, ⟨3, []⟩)], []⟩), false, []⟩ .z .z) .z) (.e (.n ⟨[], [.g 3], none, false, []⟩ .z .z) (.e .z (.e (.n ⟨[], [.g 4], none, false, []⟩ .z .z) (.e (.e .z (.n ⟨[], [], (some ⟨[.dat 4 (.list 3 (.int .i64)) (.own (.ro))], [], []⟩), true, []⟩ (.n ⟨[], [], (some ⟨[.dat 4 (.list 3 (.int .i64)) (.own (.ro)), .snp 5 (.int .i64) [], .box 1 true (T2) (.ro)], [(1, ⟨3, []⟩)], []⟩), false, []⟩ (.e .z (.e (.e (.e .z (.e (.n ⟨[], [], none, false, [(0, .t 47), (1, .t 48), (2, .t 49), (3, .t 50), (4, .t 51), (5, .t 52), (6, .t 53), (7, .t 54), (8, .t 55), (9, .t 56), (10, .t 57), (11, .t 58), (12, .t 59), (13, .t 60), (14, .t 61), (15, .t 62), (16, .t 63), (17, .t 64), (18, ⟨[], .ro, [4, 47, 54, 61, 64], [], some 8⟩)]⟩ .z .z) (.e .z (.n ⟨[], [], (some ⟨[.dat 4 (.list 3 (.int .i64)) (.own (.ro)), .snp 5 (.int .i64) [], .box 1 true (T2) (.ro)], [(1, ⟨3, []⟩)], []⟩), false, []⟩ (.n ⟨[], [], none, false, [(0, .t 72), (1, .t 73), (2, .t 74), (3, .t 75), (4, .t 76), (5, .t 77), (6, .t 78), (7, .t 79), (8, .t 80), (9, .t 81), (10, .t 82), (11, .t 83), (12, .t 84), (13, .t 85), (14, .t 86), (15, .t 87), (16, .t 88), (17, .t 89), (18, ⟨[], .ro, [4, 72, 79, 86, 89], [], some 8⟩)]⟩ .z .z) .z)))) .z) .z)) .z) .z)) (.e (.e .z (.n ⟨[], [], (some ⟨[], [], []⟩), true, []⟩ (.n ⟨[], [], (some ⟨[.dat 4 (.list 3 (.int .i64)) (.own (.ro)), .snp 6 (.int .i64) []], [], []⟩), false, []⟩ (.e .z (.e (.e (.e (.n ⟨[], [], (some ⟨[.dat 4 (.list 3 (.int .i64)) (.own (.ro)), .snp 6 (.int .i64) [], .snp 107 (.bool) []], [], []⟩), false, []⟩ .z .z) .z) .z) .z)) .z) .z)) .z)))))))
noncomputable def E64 : Env := ⟨tab, [C36, C89, C90, C91], 1, 108⟩
theorem d64 : (fun (x : HL (pts C64.ps)) => den E64 (Tryz.f64.body.getD .skip) H64 (initS 108 C64.ps x) (retK tab [] C64.ps C64.rs [.tmp 2]) (fun _ _ => none) (retK tab [] C64.ps C64.rs [.tmp 2])) = C64.F := by kernel_rfl
theorem c64 : Cok Tryz.prog C64 := by
  have h36 := c36
  have h89 := c89
  have h90 := c90
  have h91 := c91
  exact cok_of_den (E := E64) (fn := Tryz.f64) (code := Tryz.f64.body.getD .skip) (hn := H64) (gr := []) (is := [.tmp 2]) ⟨tabOk, (fun c hc => by simp only [E64, List.mem_cons, List.not_mem_nil, or_false] at hc; rcases hc with rfl | rfl | rfl | rfl <;> assumption), mixOk⟩ ⟨by kernel_rfl, by kernel_rfl, by kernel_rfl, by kernel_rfl, by kernel_rfl, by decide, by kernel_rfl⟩ (fun x y h => (congrFun d64 x).trans h)
noncomputable def C68 : Cal := ⟨68, [⟨.ro, .list 54 (T5)⟩, ⟨.ro, .int .i64⟩], [⟨.int .i64, .ro⟩], fun x => spec_DeepOf x.1 x.2.1⟩
def H68 : Hn := .z
noncomputable def E68 : Env := ⟨tab, [C36, C89], 2, 17⟩
theorem d68 : (fun (x : HL (pts C68.ps)) => den E68 (Tryz.f68.body.getD .skip) H68 (initS 17 C68.ps x) (retK tab [] C68.ps C68.rs [.tmp 4]) (fun _ _ => none) (retK tab [] C68.ps C68.rs [.tmp 4])) = C68.F := by kernel_rfl
theorem c68 : Cok Tryz.prog C68 := by
  have h36 := c36
  have h89 := c89
  exact cok_of_den (E := E68) (fn := Tryz.f68) (code := Tryz.f68.body.getD .skip) (hn := H68) (gr := []) (is := [.tmp 4]) ⟨tabOk, (fun c hc => by simp only [E68, List.mem_cons, List.not_mem_nil, or_false] at hc; rcases hc with rfl | rfl <;> assumption), mixOk⟩ ⟨by kernel_rfl, by kernel_rfl, by kernel_rfl, by kernel_rfl, by kernel_rfl, by decide, by kernel_rfl⟩ (fun x y h => (congrFun d68 x).trans h)
def P69 : List Prm := [⟨.ro, .list 54 (T5)⟩, ⟨.ro, .int .i64⟩, ⟨.inp (.own (.ro)), .list 4 (.bool)⟩]
def Q69 : List Ret := []
noncomputable def N69 (n : Nat) : Cal := ⟨69, P69, Q69, fun x => (R_spec_l04Mark n).1 x.1 x.2.1 x.2.2.1⟩
def H69 : Hn := (.e .z (.e (.n ⟨[], [], none, false, [(3, ⟨[], .ro, [], [], some 5⟩)]⟩ .z .z) (.e .z (.n ⟨[], [], (some ⟨[.box 2 false (.list 4 (.bool)) (.own (.ro))], [], []⟩), false, []⟩ (.n ⟨[], [], (some ⟨[.snp 0 (.list 54 (T5)) [], .snp 1 (.int .i64) [], .snp 6 (.int .i64) [], .box 2 false (.list 4 (.bool)) (.own (.ro))], [], [(2, 2)]⟩), false, []⟩ .z .z) .z))))
noncomputable def E69 (n : Nat) : Env := ⟨tab, [N69 n], 3, 35⟩
theorem d69 : (fun (n : Nat) (x : HL (pts P69)) => den (E69 n) (Tryz.f69.body.getD .skip) H69 (initS 35 P69 x) (retK tab [] P69 Q69 []) (fun _ _ => none) (retK tab [] P69 Q69 [])) = fun n => (N69 (n + 1)).F := by kernel_rfl
theorem cN69 : ∀ n, Cok Tryz.prog (N69 n) := by
  intro n
  induction n with
  | zero => exact cok_none (fn := Tryz.f69) (by kernel_rfl) (by kernel_rfl) (by kernel_rfl) (fun _ => rfl)
  | succ n ih =>
    have h69 := ih
    refine ?_
    · exact cok_of_den (E := E69 n) (c := N69 (n + 1)) (fn := Tryz.f69) (code := Tryz.f69.body.getD .skip) (hn := H69) (gr := []) (is := []) ⟨tabOk, (fun c hc => by simp only [E69, List.mem_cons, List.not_mem_nil, or_false] at hc; rcases hc with rfl <;> assumption), mixOk⟩ ⟨by kernel_rfl, by kernel_rfl, by kernel_rfl, by kernel_rfl, by kernel_rfl, Nat.le_of_ble_eq_true rfl, by kernel_rfl⟩ (fun x y h => (congrFun (congrFun d69 n) x).trans h)
noncomputable def C69 : Cal := ⟨69, P69, Q69, fun x => spec_l04Mark x.1 x.2.1 x.2.2.1⟩
theorem c69 : Cok Tryz.prog C69 := cok_lim (F := fun n => (N69 n).F) (fun n => (cN69 n))
noncomputable def C37 : Cal := ⟨37, [⟨.ro, T2⟩, ⟨.ro, .int .i64⟩], [⟨.list 3 (.int .i64), .own (.ro)⟩], fun x => spec_Under x.1 x.2.1⟩
def H37 : Hn := (.e (.n ⟨[], [], none, false, [(0, ⟨[], M1, [], [], none⟩)]⟩ .z .z) (.e (.n ⟨[], [.g 5], none, false, []⟩ .z .z) (.e (.e .z (.e (.e (.n ⟨[], [.g 4], none, false, []⟩ .z .z) .z) .z)) (.e (.n ⟨[], [.g 6], none, false, []⟩ .z .z) (.e .z (.e (.e .z (.n ⟨[], [], (some ⟨[.dat 5 (.list 3 (.int .i64)) (.own (.ro))], [], []⟩), false, []⟩ (.n ⟨[], [], (some ⟨[.dat 5 (.list 3 (.int .i64)) (.own (.ro)), .dat 6 (.list 4 (.bool)) (.own (.ro)), .snp 7 (.int .i64) []], [], []⟩), false, []⟩ (.e .z (.e (.e (.e .z (.n ⟨[], [], (some ⟨[.dat 5 (.list 3 (.int .i64)) (.own (.ro)), .dat 6 (.list 4 (.bool)) (.own (.ro)), .snp 7 (.int .i64) []], [], []⟩), false, []⟩ (.n ⟨[], [.g 5], none, false, [(3, ⟨[.g 34], .ro, [], [], none⟩)]⟩ .z .z) .z)) .z) .z)) .z) .z)) (.e (.n ⟨[], [.g 4], none, false, []⟩ .z .z) .z)))))))
noncomputable def E37 : Env := ⟨tab, [C68, C69], 2, 39⟩
theorem d37 : (fun (x : HL (pts C37.ps)) => den E37 (Tryz.f37.body.getD .skip) H37 (initS 39 C37.ps x) (retK tab [] C37.ps C37.rs [.tmp 4]) (fun _ _ => none) (retK tab [] C37.ps C37.rs [.tmp 4])) = C37.F := by kernel_rfl
theorem c37 : Cok Tryz.prog C37 := by
  have h68 := c68
  have h69 := c69
  exact cok_of_den (E := E37) (fn := Tryz.f37) (code := Tryz.f37.body.getD .skip) (hn := H37) (gr := []) (is := [.tmp 4]) ⟨tabOk, (fun c hc => by simp only [E37, List.mem_cons, List.not_mem_nil, or_false] at hc; rcases hc with rfl | rfl <;> assumption), mixOk⟩ ⟨by kernel_rfl, by kernel_rfl, by kernel_rfl, by kernel_rfl, by kernel_rfl, by decide, by kernel_rfl⟩ (fun x y h => (congrFun d37 x).trans h)
noncomputable def C24 : Cal := ⟨24, [⟨.ro, T2⟩, ⟨.ro, .int .i64⟩], [⟨.list 52 (T7), .own (.ro)⟩], fun x => spec_VarsOf x.1 x.2.1⟩
def H24 : Hn := (.e (.n ⟨[], [], none, false, [(0, ⟨[], M1, [], [], none⟩)]⟩ .z .z) (.e (.n ⟨[], [.g 5], none, false, []⟩ .z .z) (.e (.e .z (.e (.e (.n ⟨[], [.g 4], none, false, []⟩ .z .z) .z) .z)) (.e (.n ⟨[], [], none, false, [(5, ⟨[], M3, [], [], none⟩), (6, ⟨[], M3, [], [], none⟩)]⟩ .z .z) (.e (.e .z (.n ⟨[], [], (some ⟨[.dat 5 (.list 52 (T7)) (.own (.ro)), .box 2 true (T2) (.ro), .box 6 true (T4) (.ro)], [(2, ⟨5, []⟩), (6, ⟨13, []⟩)], []⟩), false, []⟩ (.n ⟨[], [], (some ⟨[.dat 5 (.list 52 (T7)) (.own (.ro)), .snp 7 (.int .i64) [], .box 2 true (T2) (.ro), .box 6 true (T4) (.ro)], [(2, ⟨5, []⟩), (6, ⟨13, []⟩)], []⟩), false, []⟩ (.e .z (.e (.e (.n ⟨[], [.g 5], none, false, [(0, .t 31), (1, .t 32), (2, .t 33), (3, .t 34), (4, .t 35), (5, .t 36), (6, .t 37), (7, .t 38), (8, .t 39), (9, .t 40), (10, .t 41), (11, .t 42), (12, .t 43), (13, .t 44), (14, .t 45), (15, ⟨[.g 31], .ro, [5, 31, 46], [], none⟩), (16, .t 5)]⟩ .z .z) .z) .z)) .z) .z)) (.e (.n ⟨[], [.g 8], none, false, []⟩ .z .z) (.e (.e .z (.n ⟨[], [], (some ⟨[.dat 5 (.list 52 (T7)) (.own (.ro))], [], []⟩), false, []⟩ (.n ⟨[], [], (some ⟨[.dat 5 (.list 52 (T7)) (.own (.ro)), .dat 8 (.list 3 (.int .i64)) (.own (.ro)), .snp 9 (.int .i64) [], .box 2 true (T2) (.ro)], [(2, ⟨5, []⟩)], []⟩), false, []⟩ (.e .z (.e (.e (.e (.n ⟨[], [], none, false, [(0, .t 57), (1, .t 58), (2, .t 59), (3, .t 60), (4, .t 61), (5, .t 62), (6, .t 63), (7, .t 64), (8, .t 65), (9, .t 66)]⟩ .z .z) (.n ⟨[], [], (some ⟨[.dat 5 (.list 52 (T7)) (.own (.ro)), .dat 8 (.list 3 (.int .i64)) (.own (.ro)), .snp 9 (.int .i64) [], .box 2 true (T2) (.ro)], [(2, ⟨5, []⟩)], []⟩), false, []⟩ (.n ⟨[], [.g 5], none, false, [(0, .t 67), (1, .t 68), (2, .t 69), (3, .t 70), (4, .t 71), (5, .t 72), (6, .t 73), (7, .t 74), (8, .t 75), (9, .t 76), (10, .t 77), (11, .t 78), (12, .t 79), (13, .t 80), (14, .t 81), (15, .t 82), (16, ⟨[.g 67], .ro, [5, 67, 83], [], none⟩), (17, .t 5)]⟩ .z .z) .z)) .z) .z)) .z) .z)) (.e (.n ⟨[], [.g 4], none, false, []⟩ .z .z) .z))))))))
noncomputable def E24 : Env := ⟨tab, [C36, C37], 2, 85⟩
theorem d24 : (fun (x : HL (pts C24.ps)) => den E24 (Tryz.f24.body.getD .skip) H24 (initS 85 C24.ps x) (retK tab [] C24.ps C24.rs [.tmp 4]) (fun _ _ => none) (retK tab [] C24.ps C24.rs [.tmp 4])) = C24.F := by kernel_rfl
theorem c24 : Cok Tryz.prog C24 := by
  have h36 := c36
  have h37 := c37
  exact cok_of_den (E := E24) (fn := Tryz.f24) (code := Tryz.f24.body.getD .skip) (hn := H24) (gr := []) (is := [.tmp 4]) ⟨tabOk, (fun c hc => by simp only [E24, List.mem_cons, List.not_mem_nil, or_false] at hc; rcases hc with rfl | rfl <;> assumption), mixOk⟩ ⟨by kernel_rfl, by kernel_rfl, by kernel_rfl, by kernel_rfl, by kernel_rfl, by decide, by kernel_rfl⟩ (fun x y h => (congrFun d24 x).trans h)
noncomputable def C65 : Cal := ⟨65, [⟨.ro, .list 52 (T7)⟩, ⟨.ro, .str⟩], [⟨.int .i64, .ro⟩], fun x => spec_VarAt x.1 x.2.1⟩
def H65 : Hn := (.e .z (.e (.e .z (.n ⟨[], [], (some ⟨[], [], []⟩), true, []⟩ (.n ⟨[], [], (some ⟨[.snp 0 (.list 52 (T7)) [], .snp 1 (.str) [], .snp 5 (.int .i64) []], [], []⟩), false, []⟩ .z .z) .z)) .z))
noncomputable def E65 : Env := ⟨tab, [], 2, 20⟩
theorem d65 : (fun (x : HL (pts C65.ps)) => den E65 (Tryz.f65.body.getD .skip) H65 (initS 20 C65.ps x) (retK tab [] C65.ps C65.rs [.tmp 4]) (fun _ _ => none) (retK tab [] C65.ps C65.rs [.tmp 4])) = C65.F := by kernel_rfl
theorem c65 : Cok Tryz.prog C65 := by
  exact cok_of_den (E := E65) (fn := Tryz.f65) (code := Tryz.f65.body.getD .skip) (hn := H65) (gr := []) (is := [.tmp 4]) ⟨tabOk, (fun c hc => by cases hc), mixOk⟩ ⟨by kernel_rfl, by kernel_rfl, by kernel_rfl, by kernel_rfl, by kernel_rfl, by decide, by kernel_rfl⟩ (fun x y h => (congrFun d65 x).trans h)
noncomputable def C93 : Cal := ⟨93, [⟨.ro, .list 9 (.str)⟩, ⟨.ro, .str⟩], [⟨.bool, .ro⟩], fun x => spec_l07Has x.1 x.2.1⟩
def H93 : Hn := (.e .z (.e (.e .z (.n ⟨[], [], (some ⟨[], [], []⟩), true, []⟩ (.n ⟨[], [], (some ⟨[.snp 0 (.list 9 (.str)) [], .snp 1 (.str) [], .snp 5 (.int .i64) []], [], []⟩), false, []⟩ .z .z) .z)) .z))
noncomputable def E93 : Env := ⟨tab, [], 2, 18⟩
theorem d93 : (fun (x : HL (pts C93.ps)) => den E93 (Tryz.f93.body.getD .skip) H93 (initS 18 C93.ps x) (retK tab [] C93.ps C93.rs [.tmp 4]) (fun _ _ => none) (retK tab [] C93.ps C93.rs [.tmp 4])) = C93.F := by kernel_rfl
theorem c93 : Cok Tryz.prog C93 := by
  exact cok_of_den (E := E93) (fn := Tryz.f93) (code := Tryz.f93.body.getD .skip) (hn := H93) (gr := []) (is := [.tmp 4]) ⟨tabOk, (fun c hc => by cases hc), mixOk⟩ ⟨by kernel_rfl, by kernel_rfl, by kernel_rfl, by kernel_rfl, by kernel_rfl, by decide, by kernel_rfl⟩ (fun x y h => (congrFun d93 x).trans h)
def P67 : List Prm := [⟨.ptr (.ro), T0⟩, ⟨.ro, .int .i64⟩]
def Q67 : List Ret := []
noncomputable def N67 (n : Nat) : Cal := ⟨67, P67, Q67, fun x => (R_spec_l07Seen_value n).1 x.1 x.2.1⟩
def H67 : Hn := (.e (.n ⟨[], [], none, false, [(8, ⟨[], M5, [], [], none⟩), (9, ⟨[], M5, [], [], none⟩)]⟩ .z .z) (.e (.e .z (.n ⟨[], [], (some ⟨[.box 0 true (T0) (.ro), .box 4 true (T5) (.ro)], [(0, ⟨1, []⟩), (4, ⟨9, []⟩)], []⟩), false, []⟩ (.n ⟨[], [], (some ⟨[.snp 5 (.int .i64) [], .box 0 true (T0) (.ro), .box 4 true (T5) (.ro)], [(0, ⟨1, []⟩), (4, ⟨9, []⟩)], []⟩), false, []⟩ .z .z) .z)) (.e .z (.e (.e (.e .z (.n ⟨[], [], (some ⟨[.snp 30 (.int .i64) [], .snp 31 (.bool) [], .box 0 true (T0) (.ro), .box 4 true (T5) (.ro)], [(0, ⟨1, []⟩), (4, ⟨9, []⟩)], []⟩), false, []⟩ .z (.e .z (.n ⟨[], [], (some ⟨[.snp 30 (.int .i64) [], .snp 31 (.bool) [], .box 0 true (T0) (.ro), .box 4 true (T5) (.ro)], [(0, ⟨1, []⟩), (4, ⟨9, []⟩)], []⟩), false, []⟩ .z (.e .z (.n ⟨[], [], (some ⟨[.snp 30 (.int .i64) [], .snp 31 (.bool) [], .box 0 true (T0) (.ro), .box 4 true (T5) (.ro)], [(0, ⟨1, []⟩), (4, ⟨9, []⟩)], []⟩), false, []⟩ .z (.e .z (.n ⟨[], [], (some ⟨[.snp 30 (.int .i64) [], .snp 31 (.bool) [], .box 0 true (T0) (.ro), .box 4 true (T5) (.ro)], [(0, ⟨1, []⟩), (4, ⟨9, []⟩)], []⟩), false, []⟩ .z .z)))))))) (.n ⟨[], [], (some ⟨[.box 0 true (T0) (.ro)], [], []⟩), false, []⟩ (.n ⟨[], [], (some ⟨[.box 0 true (T0) (.ro)], [], []⟩), false, [(0, .t 37), (1, .t 38), (2, .t 39), (3, .t 40), (4, .t 41), (5, .t 42), (6, .t 43), (7, .t 44), (8, .t 45), (9, .t 46), (10, .t 47), (11, .t 48), (12, .t 49), (13, .t 50), (14, .t 51), (15, .t 52), (16, .t 53), (17, ⟨[], .ro, [0, 37, 38, 39, 40, 43, 44, 45, 52, 53], [0], none⟩)]⟩ .z .z) (.e .z (.n ⟨[], [], (some ⟨[.box 0 true (T0) (.ro)], [], []⟩), false, []⟩ (.e (.n ⟨[], [], none, false, [(0, .t 56), (1, .t 57), (2, .t 58), (3, .t 59), (4, .t 60), (5, .t 61), (6, .t 62), (7, .t 6)]⟩ .z .z) (.n ⟨[], [], (some ⟨[.box 0 true (T0) (.ro)], [], []⟩), false, [(0, .t 63), (1, .t 64), (2, .t 65), (3, .t 66), (4, .t 67), (5, .t 68), (6, .t 69), (7, .t 70), (8, .t 71), (9, .t 72), (10, .t 73), (11, .t 74), (12, .t 75), (13, .t 76), (14, .t 77), (15, .t 78), (16, .t 79), (17, .t 80), (18, .t 81), (19, .t 82), (20, .t 83), (21, .t 84), (22, .t 85), (23, .t 86), (24, .t 87), (25, .t 88), (26, .t 89), (27, .t 90), (28, .t 91), (29, .t 92), (30, .t 93), (31, .t 94), (32, .t 95), (33, .t 96), (34, .t 97), (35, ⟨[], .ro, [0, 56, 57, 58, 63, 64, 65, 66, 74, 75, 76, 81, 82, 83, 84, 96, 97], [0], none⟩)]⟩ .z .z)) .z)))) .z))))
noncomputable def E67 (n : Nat) : Env := ⟨tab, [N67 n, C93, C94], 2, 98⟩
theorem d67 : (fun (n : Nat) (x : HL (pts P67)) => den (E67 n) (Tryz.f67.body.getD .skip) H67 (initS 98 P67 x) (retK tab [] P67 Q67 []) (fun _ _ => none) (retK tab [] P67 Q67 [])) = fun n => (N67 (n + 1)).F := by kernel_rfl
theorem cN67 : ∀ n, Cok Tryz.prog (N67 n) := by
  intro n
  have h93 := c93
  have h94 := c94
  induction n with
  | zero => exact cok_none (fn := Tryz.f67) (by kernel_rfl) (by kernel_rfl) (by kernel_rfl) (fun _ => rfl)
  | succ n ih =>
    have h67 := ih
    refine ?_
    · exact cok_of_den (E := E67 n) (c := N67 (n + 1)) (fn := Tryz.f67) (code := Tryz.f67.body.getD .skip) (hn := H67) (gr := []) (is := []) ⟨tabOk, (fun c hc => by simp only [E67, List.mem_cons, List.not_mem_nil, or_false] at hc; rcases hc with rfl | rfl | rfl <;> assumption), mixOk⟩ ⟨by kernel_rfl, by kernel_rfl, by kernel_rfl, by kernel_rfl, by kernel_rfl, Nat.le_of_ble_eq_true rfl, by kernel_rfl⟩ (fun x y h => (congrFun (congrFun d67 n) x).trans h)
noncomputable def C67 : Cal := ⟨67, P67, Q67, fun x => spec_l07Seen_value x.1 x.2.1⟩
theorem c67 : Cok Tryz.prog C67 := cok_lim (F := fun n => (N67 n).F) (fun n => (cN67 n))
def P66 : List Prm := [⟨.ptr (.ro), T0⟩, ⟨.ro, .int .i64⟩]
def Q66 : List Ret := []
noncomputable def N66 (n : Nat) : Cal := ⟨66, P66, Q66, fun x => (R_spec_l07Seen_block n).1 x.1 x.2.1⟩
def P92 : List Prm := [⟨.ptr (.ro), T0⟩, ⟨.ro, .int .i64⟩]
def Q92 : List Ret := []
noncomputable def N92 (n : Nat) : Cal := ⟨92, P92, Q92, fun x => (R_spec_l07Seen_block n).2.1 x.1 x.2.1⟩
def H66 : Hn := (.e .z (.n ⟨[], [], (some ⟨[.box 0 true (T0) (.ro)], [], []⟩), false, []⟩ (.n ⟨[], [], (some ⟨[.snp 1 (.int .i64) [], .snp 4 (.int .i64) [], .box 0 true (T0) (.ro)], [(0, ⟨1, []⟩)], []⟩), false, []⟩ .z .z) .z))
noncomputable def E66 (n : Nat) : Env := ⟨tab, [N92 n], 2, 33⟩
theorem d66 : (fun (n : Nat) (x : HL (pts P66)) => den (E66 n) (Tryz.f66.body.getD .skip) H66 (initS 33 P66 x) (retK tab [] P66 Q66 []) (fun _ _ => none) (retK tab [] P66 Q66 [])) = fun n => (N66 (n + 1)).F := by kernel_rfl
def H92 : Hn := (.e (.n ⟨[], [], none, false, [(8, ⟨[], M5, [], [], none⟩), (9, ⟨[], M5, [], [], none⟩)]⟩ .z .z) (.e .z (.e .z (.n ⟨[], [], (some ⟨[.box 0 true (T0) (.ro)], [], []⟩), false, []⟩ (.e .z (.n ⟨[], [], (some ⟨[.box 0 true (T0) (.ro)], [], []⟩), false, []⟩ (.n ⟨[], [], none, false, [(0, .t 25), (1, .t 26), (2, .t 27), (3, .t 28), (4, .t 29), (5, .t 30), (6, ⟨[], .ro, [26, 31], [], none⟩), (7, .t 32), (8, .t 33), (9, .t 34), (10, ⟨[], .ro, [31, 35], [], none⟩), (11, .t 36), (12, .t 37), (13, ⟨[.z 35], .own (.ro), [0, 7, 8, 9, 10, 15, 25, 27, 28, 29, 35, 36, 37], [0], none⟩)]⟩ .z .z) (.e (.e .z (.n ⟨[], [], (some ⟨[.snp 22 (.int .i64) [], .snp 38 (.bool) [], .box 0 true (T0) (.ro), .box 4 true (T5) (.ro)], [(0, ⟨1, []⟩), (4, ⟨9, []⟩)], []⟩), false, []⟩ .z .z)) (.n ⟨[], [], (some ⟨[.box 0 true (T0) (.ro)], [], []⟩), false, []⟩ (.n ⟨[], [], (some ⟨[.box 0 true (T0) (.ro)], [], []⟩), false, [(0, .t 41), (1, .t 42), (2, .t 43), (3, .t 44), (4, .t 45), (5, .t 46), (6, .t 47), (7, .t 48), (8, .t 49), (9, .t 50), (10, .t 51), (11, .t 52), (12, .t 53), (13, .t 54), (14, .t 55), (15, .t 56), (16, .t 57), (17, ⟨[], .ro, [0, 41, 42, 43, 44, 47, 48, 49, 56, 57], [0], none⟩)]⟩ .z .z) (.e (.e .z (.n ⟨[], [], (some ⟨[.snp 58 (.bool) [], .box 0 true (T0) (.ro), .box 4 true (T5) (.ro)], [(0, ⟨1, []⟩), (4, ⟨9, []⟩)], []⟩), false, []⟩ .z .z)) (.n ⟨[], [], (some ⟨[.box 0 true (T0) (.ro)], [], []⟩), false, []⟩ (.e .z (.n ⟨[], [], (some ⟨[.box 0 true (T0) (.ro)], [], []⟩), false, []⟩ (.n ⟨[], [], (some ⟨[.snp 5 (.int .i64) [], .box 0 true (T0) (.ro), .box 4 true (T5) (.ro)], [(0, ⟨1, []⟩), (4, ⟨9, []⟩)], []⟩), false, []⟩ (.e .z (.e (.e (.e .z (.e .z (.n ⟨[], [], none, false, [(4, ⟨[], .own (.ro), [], [], none⟩)]⟩ .z .z))) .z) .z)) .z) .z)) .z)))))) .z))))
noncomputable def E92 (n : Nat) : Env := ⟨tab, [C67, C93, N66 n], 2, 83⟩
theorem d92 : (fun (n : Nat) (x : HL (pts P92)) => den (E92 n) (Tryz.f92.body.getD .skip) H92 (initS 83 P92 x) (retK tab [] P92 Q92 []) (fun _ _ => none) (retK tab [] P92 Q92 [])) = fun n => (N92 (n + 1)).F := by kernel_rfl
theorem cN66 : ∀ n, Cok Tryz.prog (N66 n) ∧ Cok Tryz.prog (N92 n) := by
  intro n
  have h67 := c67
  have h93 := c93
  induction n with
  | zero => exact ⟨cok_none (fn := Tryz.f66) (by kernel_rfl) (by kernel_rfl) (by kernel_rfl) (fun _ => rfl), cok_none (fn := Tryz.f92) (by kernel_rfl) (by kernel_rfl) (by kernel_rfl) (fun _ => rfl)⟩
  | succ n ih =>
    obtain ⟨h66, h92⟩ := ih
    refine ⟨?_, ?_⟩
    · exact cok_of_den (E := E66 n) (c := N66 (n + 1)) (fn := Tryz.f66) (code := Tryz.f66.body.getD .skip) (hn := H66) (gr := []) (is := []) ⟨tabOk, (fun c hc => by simp only [E66, List.mem_cons, List.not_mem_nil, or_false] at hc; rcases hc with rfl <;> assumption), mixOk⟩ ⟨by kernel_rfl, by kernel_rfl, by kernel_rfl, by kernel_rfl, by kernel_rfl, Nat.le_of_ble_eq_true rfl, by kernel_rfl⟩ (fun x y h => (congrFun (congrFun d66 n) x).trans h)
    · exact cok_of_den (E := E92 n) (c := N92 (n + 1)) (fn := Tryz.f92) (code := Tryz.f92.body.getD .skip) (hn := H92) (gr := []) (is := []) ⟨tabOk, (fun c hc => by simp only [E92, List.mem_cons, List.not_mem_nil, or_false] at hc; rcases hc with rfl | rfl | rfl <;> assumption), mixOk⟩ ⟨by kernel_rfl, by kernel_rfl, by kernel_rfl, by kernel_rfl, by kernel_rfl, Nat.le_of_ble_eq_true rfl, by kernel_rfl⟩ (fun x y h => (congrFun (congrFun d92 n) x).trans h)
noncomputable def C66 : Cal := ⟨66, P66, Q66, fun x => spec_l07Seen_block x.1 x.2.1⟩
theorem c66 : Cok Tryz.prog C66 := cok_lim (F := fun n => (N66 n).F) (fun n => (cN66 n).1)
noncomputable def C92 : Cal := ⟨92, P92, Q92, fun x => spec_l07Seen_step x.1 x.2.1⟩
theorem c92 : Cok Tryz.prog C92 := cok_lim (F := fun n => (N92 n).F) (fun n => (cN66 n).2)
noncomputable def C35 : Cal := ⟨35, [⟨.ro, T2⟩], [⟨.bool, .ro⟩], fun x => spec_NamesRight x.1⟩
def H35 : Hn := (.e (.n ⟨[], [], none, false, [(0, ⟨[], M1, [], [], none⟩)]⟩ .z .z) (.e .z (.e (.e .z (.n ⟨[], [], (some ⟨[], [], []⟩), true, []⟩ (.n ⟨[], [], (some ⟨[.snp 3 (.int .i64) [], .box 1 true (T2) (.ro)], [(1, ⟨3, []⟩)], []⟩), false, []⟩ (.e .z (.e (.n ⟨[], [], (some ⟨[.snp 3 (.int .i64) [], .box 1 true (T2) (.ro)], [(1, ⟨3, []⟩)], []⟩), true, []⟩ (.e (.n ⟨[], [.g 4], none, false, []⟩ .z .z) (.e (.e .z (.n ⟨[], [], (some ⟨[.snp 3 (.int .i64) [], .box 1 true (T2) (.ro)], [(1, ⟨3, []⟩)], []⟩), true, []⟩ (.n ⟨[], [], (some ⟨[.snp 3 (.int .i64) [], .dat 4 (.list 52 (T7)) (.own (.ro)), .snp 5 (.int .i64) [], .box 1 true (T2) (.ro)], [(1, ⟨3, []⟩)], []⟩), false, []⟩ .z .z) .z)) (.e (.n ⟨[], [], none, false, [(2, ⟨[], M0, [], [], none⟩), (3, ⟨[], M0, [], [], none⟩)]⟩ .z .z) (.e (.e .z (.n ⟨[], [], (some ⟨[.snp 3 (.int .i64) [], .box 1 true (T2) (.ro), .box 39 true (T0) (.pr (.ro) (M3))], [(1, ⟨3, []⟩), (6, ⟨79, []⟩)], []⟩), false, []⟩ (.n ⟨[], [], (some ⟨[.snp 3 (.int .i64) [], .snp 7 (.int .i64) [], .box 1 true (T2) (.ro), .box 39 true (T0) (.pr (.ro) (M3))], [(1, ⟨3, []⟩), (6, ⟨79, []⟩)], []⟩), false, []⟩ (.e .z (.e (.e (.n ⟨[], [], none, false, [(0, .t 51), (1, .t 52), (2, .t 53), (3, .t 54), (4, .t 55), (5, .t 56), (6, .t 57), (7, .t 58), (8, .t 59), (9, .t 60), (10, .t 61), (11, .t 62), (12, .t 63), (13, .t 64), (14, .t 65), (15, .t 66), (16, ⟨[.g 55], .ro, [6, 52, 53, 54, 55, 67], [39], none⟩), (17, .t 68), (18, .t 69), (19, ⟨[], .own (.ro), [6, 52, 53, 54, 67, 68, 69], [39], none⟩)]⟩ .z .z) .z) .z)) .z) .z)) (.e (.n ⟨[], [], none, false, [(7, ⟨[.w 79 (.ro)], .ro, [], [], none⟩)]⟩ .z .z) (.e (.e .z (.n ⟨[], [], (some ⟨[.snp 3 (.int .i64) [], .box 1 true (T2) (.ro), .box 39 true (T0) (.ro)], [(1, ⟨3, []⟩), (6, ⟨79, []⟩)], []⟩), false, []⟩ .z .z)) .z)))))) .z) .z)) .z) .z)) .z)))
noncomputable def E35 : Env := ⟨tab, [C64, C24, C65, C66, C67], 1, 97⟩
theorem d35 : (fun (x : HL (pts C35.ps)) => den E35 (Tryz.f35.body.getD .skip) H35 (initS 97 C35.ps x) (retK tab [] C35.ps C35.rs [.tmp 2]) (fun _ _ => none) (retK tab [] C35.ps C35.rs [.tmp 2])) = C35.F := by kernel_rfl
theorem c35 : Cok Tryz.prog C35 := by
  have h64 := c64
  have h24 := c24
  have h65 := c65
  have h66 := c66
  have h67 := c67
  exact cok_of_den (E := E35) (fn := Tryz.f35) (code := Tryz.f35.body.getD .skip) (hn := H35) (gr := []) (is := [.tmp 2]) ⟨tabOk, (fun c hc => by simp only [E35, List.mem_cons, List.not_mem_nil, or_false] at hc; rcases hc with rfl | rfl | rfl | rfl | rfl <;> assumption), mixOk⟩ ⟨by kernel_rfl, by kernel_rfl, by kernel_rfl, by kernel_rfl, by kernel_rfl, by decide, by kernel_rfl⟩ (fun x y h => (congrFun d35 x).trans h)
noncomputable def C53 : Cal := ⟨53, [⟨.ro, T2⟩, ⟨.ro, .int .i64⟩], [⟨.list 3 (.int .i64), .own (.ro)⟩], fun x => spec_l07All x.1 x.2.1⟩
def H53 : Hn := (.e (.n ⟨[], [], none, false, [(0, ⟨[], M1, [], [], none⟩)]⟩ .z .z) (.e (.n ⟨[], [.g 5], none, false, []⟩ .z .z) (.e (.e .z (.e (.e (.n ⟨[], [.g 4], none, false, []⟩ .z .z) .z) .z)) (.e (.n ⟨[], [.g 6], none, false, [(0, .t 19), (1, .t 20), (2, .t 21), (3, .t 22), (4, .t 23), (5, .t 24), (6, .t 25), (7, .t 26), (8, .t 6)]⟩ .z .z) (.e (.n ⟨[], [.g 7], none, false, [(0, .t 27), (1, .t 28), (2, .t 29), (3, .t 30), (4, .t 31), (5, .t 32), (6, .t 33), (7, .t 34), (8, .t 7)]⟩ .z .z) (.e .z (.e .z (.e (.n ⟨[], [], (some ⟨[.dat 5 (.list 3 (.int .i64)) (.own (.ro))], [], []⟩), false, []⟩ (.n ⟨[], [], (some ⟨[.dat 5 (.list 3 (.int .i64)) (.own (.ro)), .dat 6 (.list 3 (.int .i64)) (.own (.ro)), .dat 7 (.list 3 (.int .i64)) (.own (.ro)), .snp 8 (.int .i64) [], .snp 9 (.int .i64) []], [], []⟩), false, []⟩ (.e (.e (.n ⟨[], [], (some ⟨[.dat 5 (.list 3 (.int .i64)) (.own (.ro)), .dat 6 (.list 3 (.int .i64)) (.own (.ro)), .dat 7 (.list 3 (.int .i64)) (.own (.ro)), .snp 8 (.int .i64) [], .snp 9 (.int .i64) [], .snp 44 (.bool) []], [], []⟩), false, []⟩ .z .z) .z) (.n ⟨[], [], (some ⟨[.dat 5 (.list 3 (.int .i64)) (.own (.ro)), .dat 6 (.list 3 (.int .i64)) (.own (.ro)), .dat 7 (.list 3 (.int .i64)) (.own (.ro)), .snp 8 (.int .i64) [], .snp 9 (.int .i64) []], [], []⟩), false, []⟩ (.e (.e (.n ⟨[], [], (some ⟨[.dat 5 (.list 3 (.int .i64)) (.own (.ro)), .dat 6 (.list 3 (.int .i64)) (.own (.ro)), .dat 7 (.list 3 (.int .i64)) (.own (.ro)), .snp 8 (.int .i64) [], .snp 9 (.int .i64) [], .snp 65 (.bool) []], [], []⟩), false, [(0, .t 45), (1, .t 46), (2, .t 47), (3, .t 48), (4, .t 49), (5, .t 50), (6, .t 51), (7, .t 52), (8, .t 53), (9, .t 54), (10, .t 55), (11, .t 56), (12, .t 57), (13, .t 58), (14, .t 59), (15, .t 60), (16, .t 61), (17, .t 62), (18, .t 63), (19, .t 64), (20, .t 65)]⟩ .z .z) (.e (.e (.n ⟨[], [.g 5], none, false, [(6, ⟨[.g 66], .ro, [], [], none⟩)]⟩ .z .z) .z) .z)) (.e (.e (.n ⟨[], [], (some ⟨[.dat 5 (.list 3 (.int .i64)) (.own (.ro)), .dat 6 (.list 3 (.int .i64)) (.own (.ro)), .dat 7 (.list 3 (.int .i64)) (.own (.ro)), .snp 8 (.int .i64) [], .snp 9 (.int .i64) [], .snp 89 (.bool) []], [], []⟩), false, [(0, .t 75), (1, .t 76), (2, .t 77), (3, .t 78), (4, .t 79), (5, .t 80), (6, .t 81), (7, .t 82), (8, .t 83), (9, .t 84), (10, .t 85), (11, .t 86), (12, .t 87), (13, .t 88), (14, .t 89)]⟩ .z .z) (.n ⟨[], [], (some ⟨[.dat 5 (.list 3 (.int .i64)) (.own (.ro)), .dat 6 (.list 3 (.int .i64)) (.own (.ro)), .dat 7 (.list 3 (.int .i64)) (.own (.ro)), .snp 8 (.int .i64) [], .snp 9 (.int .i64) []], [], []⟩), false, []⟩ .z .z)) (.e (.n ⟨[], [.g 5], none, false, [(6, ⟨[.g 92], .ro, [], [], none⟩)]⟩ .z .z) .z))) .z)) .z) .z) (.e (.n ⟨[], [.g 4], none, false, []⟩ .z .z) .z)))))))))
noncomputable def E53 : Env := ⟨tab, [C36, C37], 2, 102⟩
theorem d53 : (fun (x : HL (pts C53.ps)) => den E53 (Tryz.f53.body.getD .skip) H53 (initS 102 C53.ps x) (retK tab [] C53.ps C53.rs [.tmp 4]) (fun _ _ => none) (retK tab [] C53.ps C53.rs [.tmp 4])) = C53.F := by kernel_rfl
theorem c53 : Cok Tryz.prog C53 := by
  have h36 := c36
  have h37 := c37
  exact cok_of_den (E := E53) (fn := Tryz.f53) (code := Tryz.f53.body.getD .skip) (hn := H53) (gr := []) (is := [.tmp 4]) ⟨tabOk, (fun c hc => by simp only [E53, List.mem_cons, List.not_mem_nil, or_false] at hc; rcases hc with rfl | rfl <;> assumption), mixOk⟩ ⟨by kernel_rfl, by kernel_rfl, by kernel_rfl, by kernel_rfl, by kernel_rfl, by decide, by kernel_rfl⟩ (fun x y h => (congrFun d53 x).trans h)
noncomputable def C117 : Cal := ⟨117, [⟨.mov (.own (.ro)), .list 3 (.int .i64)⟩, ⟨.ro, .int .i64⟩], [⟨.list 3 (.int .i64), .own (.ro)⟩], fun x => spec_l11Add x.1 x.2.1⟩
def H117 : Hn := (.e .z (.e (.e .z (.n ⟨[], [], (some ⟨[.dat 0 (.list 3 (.int .i64)) (.own (.ro)), .snp 1 (.int .i64) []], [], []⟩), true, []⟩ (.n ⟨[], [], (some ⟨[.dat 0 (.list 3 (.int .i64)) (.own (.ro)), .snp 1 (.int .i64) [], .snp 5 (.int .i64) []], [], []⟩), false, []⟩ (.e .z (.e (.e (.e .z (.e (.e (.n ⟨[], [.g 4], none, false, []⟩ .z .z) .z) .z)) .z) .z)) .z) .z)) (.e (.n ⟨[], [.g 4], none, false, [(3, ⟨[.g 19], .ro, [], [], none⟩)]⟩ .z .z) .z)))
noncomputable def E117 : Env := ⟨tab, [], 2, 23⟩
theorem d117 : (fun (x : HL (pts C117.ps)) => den E117 (Tryz.f117.body.getD .skip) H117 (initS 23 C117.ps x) (retK tab [] C117.ps C117.rs [.tmp 4]) (fun _ _ => none) (retK tab [] C117.ps C117.rs [.tmp 4])) = C117.F := by kernel_rfl
theorem c117 : Cok Tryz.prog C117 := by
  exact cok_of_den (E := E117) (fn := Tryz.f117) (code := Tryz.f117.body.getD .skip) (hn := H117) (gr := []) (is := [.tmp 4]) ⟨tabOk, (fun c hc => by cases hc), mixOk⟩ ⟨by kernel_rfl, by kernel_rfl, by kernel_rfl, by kernel_rfl, by kernel_rfl, by decide, by kernel_rfl⟩ (fun x y h => (congrFun d117 x).trans h)
noncomputable def C103 : Cal := ⟨103, [⟨.ro, T2⟩, ⟨.ro, .int .i64⟩], [⟨.list 3 (.int .i64), .own (.ro)⟩], fun x => spec_CallsOf x.1 x.2.1⟩
def H103 : Hn := (.e (.n ⟨[], [], none, false, [(0, ⟨[], M1, [], [], none⟩)]⟩ .z .z) (.e (.n ⟨[], [.g 5], none, false, []⟩ .z .z) (.e (.n ⟨[], [.g 6], none, false, []⟩ .z .z) (.e (.e .z (.n ⟨[], [], (some ⟨[.dat 5 (.list 3 (.int .i64)) (.own (.ro))], [], []⟩), false, []⟩ (.n ⟨[], [], (some ⟨[.dat 5 (.list 3 (.int .i64)) (.own (.ro)), .dat 6 (.list 3 (.int .i64)) (.own (.ro)), .snp 7 (.int .i64) [], .box 2 true (T2) (.ro)], [(2, ⟨5, []⟩)], []⟩), false, []⟩ (.e .z (.e (.n ⟨[], [], (some ⟨[.dat 5 (.list 3 (.int .i64)) (.own (.ro)), .dat 6 (.list 3 (.int .i64)) (.own (.ro)), .snp 7 (.int .i64) [], .box 2 true (T2) (.ro)], [(2, ⟨5, []⟩)], []⟩), false, []⟩ (.e (.e (.n ⟨[], [], none, false, [(0, .t 19), (1, .t 20), (2, .t 21), (3, .t 22), (4, .t 23), (5, .t 24), (6, .t 25), (7, .t 26), (8, .t 27), (9, .t 28)]⟩ .z .z) .z) (.e (.n ⟨[], [], none, false, [(0, .t 29), (1, .t 30), (2, .t 31), (3, .t 32), (4, .t 33), (5, .t 34), (6, .t 35), (7, .t 36), (8, .t 37), (9, .t 38), (10, .t 39), (11, .t 8)]⟩ .z .z) (.e .z (.n ⟨[], [], (some ⟨[.dat 5 (.list 3 (.int .i64)) (.own (.ro)), .dat 6 (.list 3 (.int .i64)) (.own (.ro)), .snp 7 (.int .i64) [], .box 2 true (T2) (.ro)], [(2, ⟨5, []⟩)], []⟩), false, []⟩ (.n ⟨[], [.g 5], none, false, [(2, ⟨[.g 42], .ro, [], [], none⟩)]⟩ .z .z) .z)))) .z) .z)) .z) .z)) (.e (.n ⟨[], [.g 4], none, false, []⟩ .z .z) .z)))))
noncomputable def E103 : Env := ⟨tab, [C53, C94, C117], 2, 46⟩
theorem d103 : (fun (x : HL (pts C103.ps)) => den E103 (Tryz.f103.body.getD .skip) H103 (initS 46 C103.ps x) (retK tab [] C103.ps C103.rs [.tmp 4]) (fun _ _ => none) (retK tab [] C103.ps C103.rs [.tmp 4])) = C103.F := by kernel_rfl
theorem c103 : Cok Tryz.prog C103 := by
  have h53 := c53
  have h94 := c94
  have h117 := c117
  exact cok_of_den (E := E103) (fn := Tryz.f103) (code := Tryz.f103.body.getD .skip) (hn := H103) (gr := []) (is := [.tmp 4]) ⟨tabOk, (fun c hc => by simp only [E103, List.mem_cons, List.not_mem_nil, or_false] at hc; rcases hc with rfl | rfl | rfl <;> assumption), mixOk⟩ ⟨by kernel_rfl, by kernel_rfl, by kernel_rfl, by kernel_rfl, by kernel_rfl, by decide, by kernel_rfl⟩ (fun x y h => (congrFun d103 x).trans h)
noncomputable def C80 : Cal := ⟨80, [⟨.ro, T2⟩, ⟨.ro, .int .i64⟩], [⟨.list 3 (.int .i64), .own (.ro)⟩], fun x => spec_ReachedFns x.1 x.2.1⟩
def H80 : Hn := (.e (.n ⟨[], [], none, false, [(0, ⟨[], M1, [], [], none⟩)]⟩ .z .z) (.e (.n ⟨[], [.g 5], none, false, []⟩ .z .z) (.e (.e .z (.e (.e (.n ⟨[], [.g 4], none, false, []⟩ .z .z) .z) .z)) (.e (.n ⟨[], [.g 6], none, false, []⟩ .z .z) (.e (.n ⟨[], [], none, false, [(3, ⟨[], .ro, [], [], some 12⟩)]⟩ .z .z) (.e (.n ⟨[], [.g 7], none, false, []⟩ .z .z) (.e (.e .z (.n ⟨[], [], (some ⟨[.dat 5 (.list 3 (.int .i64)) (.own (.ro)), .dat 6 (.list 4 (.bool)) (.own (.ro))], [], []⟩), false, []⟩ (.n ⟨[], [], (some ⟨[.dat 5 (.list 3 (.int .i64)) (.own (.ro)), .dat 6 (.list 4 (.bool)) (.own (.ro)), .dat 7 (.list 3 (.int .i64)) (.own (.ro)), .snp 8 (.int .i64) [], .box 2 true (T2) (.ro)], [(2, ⟨5, []⟩)], []⟩), false, []⟩ (.e .z (.e (.n ⟨[], [], (some ⟨[.dat 5 (.list 3 (.int .i64)) (.own (.ro)), .dat 6 (.list 4 (.bool)) (.own (.ro)), .dat 7 (.list 3 (.int .i64)) (.own (.ro)), .snp 8 (.int .i64) [], .box 2 true (T2) (.ro)], [(2, ⟨5, []⟩)], []⟩), false, []⟩ (.e (.n ⟨[], [.g 9], none, false, [(0, .t 36), (1, .t 37), (2, .t 38), (3, .t 39), (4, .t 40), (5, .t 41), (6, .t 9)]⟩ .z .z) (.e .z (.n ⟨[], [], (some ⟨[.dat 5 (.list 3 (.int .i64)) (.own (.ro)), .dat 6 (.list 4 (.bool)) (.own (.ro)), .dat 7 (.list 3 (.int .i64)) (.own (.ro)), .snp 8 (.int .i64) [], .box 2 true (T2) (.ro)], [(2, ⟨5, []⟩)], []⟩), false, []⟩ (.n ⟨[], [], (some ⟨[.dat 5 (.list 3 (.int .i64)) (.own (.ro)), .dat 6 (.list 4 (.bool)) (.own (.ro)), .dat 7 (.list 3 (.int .i64)) (.own (.ro)), .snp 8 (.int .i64) [], .dat 9 (.list 3 (.int .i64)) (.own (.ro)), .snp 10 (.int .i64) [], .box 2 true (T2) (.ro)], [(2, ⟨5, []⟩)], []⟩), false, []⟩ (.e .z (.e (.e (.e .z (.n ⟨[], [], (some ⟨[.dat 5 (.list 3 (.int .i64)) (.own (.ro)), .dat 6 (.list 4 (.bool)) (.own (.ro)), .dat 7 (.list 3 (.int .i64)) (.own (.ro)), .snp 8 (.int .i64) [], .dat 9 (.list 3 (.int .i64)) (.own (.ro)), .snp 10 (.int .i64) [], .box 2 true (T2) (.ro)], [(2, ⟨5, []⟩)], []⟩), false, []⟩ (.e (.n ⟨[], [], none, false, [(6, ⟨[], .ro, [], [], some 12⟩)]⟩ .z .z) (.n ⟨[], [.g 7], none, false, [(6, ⟨[.g 62], .ro, [], [], none⟩)]⟩ .z .z)) .z)) .z) .z)) .z) .z))) .z) .z)) .z) .z)) (.e (.e .z (.n ⟨[], [], (some ⟨[.dat 5 (.list 3 (.int .i64)) (.own (.ro))], [], []⟩), false, []⟩ (.n ⟨[], [], (some ⟨[.dat 5 (.list 3 (.int .i64)) (.own (.ro)), .dat 6 (.list 4 (.bool)) (.own (.ro)), .snp 11 (.int .i64) []], [], []⟩), false, []⟩ (.e .z (.e (.e (.e .z (.n ⟨[], [], (some ⟨[.dat 5 (.list 3 (.int .i64)) (.own (.ro)), .dat 6 (.list 4 (.bool)) (.own (.ro)), .snp 11 (.int .i64) []], [], []⟩), false, []⟩ (.n ⟨[], [.g 5], none, false, [(3, ⟨[.g 79], .ro, [], [], none⟩)]⟩ .z .z) .z)) .z) .z)) .z) .z)) (.e (.n ⟨[], [.g 4], none, false, []⟩ .z .z) .z)))))))))
noncomputable def E80 : Env := ⟨tab, [C36, C103], 2, 84⟩
theorem d80 : (fun (x : HL (pts C80.ps)) => den E80 (Tryz.f80.body.getD .skip) H80 (initS 84 C80.ps x) (retK tab [] C80.ps C80.rs [.tmp 4]) (fun _ _ => none) (retK tab [] C80.ps C80.rs [.tmp 4])) = C80.F := by kernel_rfl
theorem c80 : Cok Tryz.prog C80 := by
  have h36 := c36
  have h103 := c103
  exact cok_of_den (E := E80) (fn := Tryz.f80) (code := Tryz.f80.body.getD .skip) (hn := H80) (gr := []) (is := [.tmp 4]) ⟨tabOk, (fun c hc => by simp only [E80, List.mem_cons, List.not_mem_nil, or_false] at hc; rcases hc with rfl | rfl <;> assumption), mixOk⟩ ⟨by kernel_rfl, by kernel_rfl, by kernel_rfl, by kernel_rfl, by kernel_rfl, by decide, by kernel_rfl⟩ (fun x y h => (congrFun d80 x).trans h)
noncomputable def C48 : Cal := ⟨48, [⟨.ro, T2⟩], [⟨.list 3 (.int .i64), .own (.ro)⟩], fun x => spec_DeadFns x.1⟩
def H48 : Hn := (.e (.n ⟨[], [], none, false, [(0, ⟨[], M1, [], [], none⟩)]⟩ .z .z) (.e (.n ⟨[], [.g 3], none, false, []⟩ .z .z) (.e (.n ⟨[], [.g 4], none, false, []⟩ .z .z) (.e .z (.e (.e .z (.n ⟨[], [], (some ⟨[.dat 3 (.list 3 (.int .i64)) (.own (.ro))], [], []⟩), false, []⟩ (.n ⟨[], [], (some ⟨[.dat 3 (.list 3 (.int .i64)) (.own (.ro)), .dat 4 (.list 3 (.int .i64)) (.own (.ro)), .snp 5 (.int .i64) [], .snp 6 (.int .i64) [], .box 1 true (T2) (.ro)], [(1, ⟨3, []⟩)], []⟩), false, []⟩ (.e .z (.e (.e (.e (.n ⟨[], [], (some ⟨[.dat 3 (.list 3 (.int .i64)) (.own (.ro)), .dat 4 (.list 3 (.int .i64)) (.own (.ro)), .snp 5 (.int .i64) [], .snp 6 (.int .i64) [], .snp 32 (.bool) [], .box 1 true (T2) (.ro)], [(1, ⟨3, []⟩)], []⟩), false, []⟩ .z .z) (.n ⟨[], [], (some ⟨[.dat 3 (.list 3 (.int .i64)) (.own (.ro)), .dat 4 (.list 3 (.int .i64)) (.own (.ro)), .snp 5 (.int .i64) [], .snp 6 (.int .i64) [], .box 1 true (T2) (.ro)], [(1, ⟨3, []⟩)], []⟩), false, []⟩ .z (.n ⟨[], [.g 3], none, false, [(3, ⟨[.g 35], .ro, [], [], none⟩)]⟩ .z .z))) .z) .z)) .z) .z)) (.e (.n ⟨[], [.g 2], none, false, []⟩ .z .z) .z))))))
noncomputable def E48 : Env := ⟨tab, [C80], 1, 40⟩
theorem d48 : (fun (x : HL (pts C48.ps)) => den E48 (Tryz.f48.body.getD .skip) H48 (initS 40 C48.ps x) (retK tab [] C48.ps C48.rs [.tmp 2]) (fun _ _ => none) (retK tab [] C48.ps C48.rs [.tmp 2])) = C48.F := by kernel_rfl
theorem c48 : Cok Tryz.prog C48 := by
  have h80 := c80
  exact cok_of_den (E := E48) (fn := Tryz.f48) (code := Tryz.f48.body.getD .skip) (hn := H48) (gr := []) (is := [.tmp 2]) ⟨tabOk, (fun c hc => by simp only [E48, List.mem_cons, List.not_mem_nil, or_false] at hc; rcases hc with rfl <;> assumption), mixOk⟩ ⟨by kernel_rfl, by kernel_rfl, by kernel_rfl, by kernel_rfl, by kernel_rfl, by decide, by kernel_rfl⟩ (fun x y h => (congrFun d48 x).trans h)
noncomputable def C54 : Cal := ⟨54, [⟨.ro, .int .i64⟩], [⟨.bool, .ro⟩], fun x => spec_l07Uses x.1⟩
def H54 : Hn := (.e .z (.e (.e .z (.e (.e (.e .z (.n ⟨[], [], (some ⟨[.snp 4 (.bool) []], [], []⟩), false, []⟩ .z (.e .z (.n ⟨[], [], (some ⟨[.snp 4 (.bool) []], [], []⟩), false, []⟩ .z (.e .z (.n ⟨[], [], (some ⟨[.snp 4 (.bool) []], [], []⟩), false, []⟩ .z (.e .z (.n ⟨[], [], (some ⟨[.snp 4 (.bool) []], [], []⟩), false, []⟩ .z (.e .z (.n ⟨[], [], (some ⟨[.snp 4 (.bool) []], [], []⟩), false, []⟩ .z (.e .z (.n ⟨[], [], (some ⟨[.snp 4 (.bool) []], [], []⟩), false, []⟩ .z .z)))))))))))) .z) .z)) .z))
noncomputable def E54 : Env := ⟨tab, [], 1, 12⟩
theorem d54 : (fun (x : HL (pts C54.ps)) => den E54 (Tryz.f54.body.getD .skip) H54 (initS 12 C54.ps x) (retK tab [] C54.ps C54.rs [.tmp 2]) (fun _ _ => none) (retK tab [] C54.ps C54.rs [.tmp 2])) = C54.F := by kernel_rfl
theorem c54 : Cok Tryz.prog C54 := by
  exact cok_of_den (E := E54) (fn := Tryz.f54) (code := Tryz.f54.body.getD .skip) (hn := H54) (gr := []) (is := [.tmp 2]) ⟨tabOk, (fun c hc => by cases hc), mixOk⟩ ⟨by kernel_rfl, by kernel_rfl, by kernel_rfl, by kernel_rfl, by kernel_rfl, by decide, by kernel_rfl⟩ (fun x y h => (congrFun d54 x).trans h)
noncomputable def C25 : Cal := ⟨25, [⟨.ro, T2⟩, ⟨.ro, .int .i64⟩, ⟨.ro, .str⟩], [⟨.list 3 (.int .i64), .own (.ro)⟩], fun x => spec_UsesOf x.1 x.2.1 x.2.2.1⟩
def H25 : Hn := (.e (.n ⟨[], [], none, false, [(0, ⟨[], M1, [], [], none⟩)]⟩ .z .z) (.e (.n ⟨[], [.g 7], none, false, []⟩ .z .z) (.e (.n ⟨[], [.g 8], none, false, []⟩ .z .z) (.e (.e .z (.n ⟨[], [], (some ⟨[.dat 7 (.list 3 (.int .i64)) (.own (.ro))], [], []⟩), false, []⟩ (.n ⟨[], [], (some ⟨[.snp 2 (.str) [], .dat 7 (.list 3 (.int .i64)) (.own (.ro)), .dat 8 (.list 3 (.int .i64)) (.own (.ro)), .snp 9 (.int .i64) [], .box 3 true (T2) (.ro)], [(3, ⟨7, []⟩)], []⟩), false, []⟩ (.e .z (.e (.e (.e (.n ⟨[], [], (some ⟨[.snp 2 (.str) [], .dat 7 (.list 3 (.int .i64)) (.own (.ro)), .dat 8 (.list 3 (.int .i64)) (.own (.ro)), .snp 9 (.int .i64) [], .snp 42 (.bool) [], .box 3 true (T2) (.ro)], [(3, ⟨7, []⟩)], []⟩), false, [(0, .t 20), (1, .t 21), (2, .t 22), (3, .t 23), (4, .t 24), (5, .t 25), (6, .t 26), (7, .t 27), (8, .t 28), (9, .t 29), (10, .t 30), (11, .t 31), (12, .t 32), (13, .t 33), (14, .t 34), (15, .t 35), (16, .t 36), (17, .t 37), (18, .t 38), (19, .t 39), (20, .t 40), (21, .t 41), (22, .t 42)]⟩ .z .z) (.n ⟨[], [], (some ⟨[.snp 2 (.str) [], .dat 7 (.list 3 (.int .i64)) (.own (.ro)), .dat 8 (.list 3 (.int .i64)) (.own (.ro)), .snp 9 (.int .i64) [], .box 3 true (T2) (.ro)], [(3, ⟨7, []⟩)], []⟩), false, []⟩ (.n ⟨[], [.g 7], none, false, [(6, ⟨[.g 43], .ro, [], [], none⟩)]⟩ .z .z) .z)) .z) .z)) .z) .z)) (.e (.n ⟨[], [.g 6], none, false, []⟩ .z .z) .z)))))
noncomputable def E25 : Env := ⟨tab, [C53, C54], 3, 51⟩
theorem d25 : (fun (x : HL (pts C25.ps)) => den E25 (Tryz.f25.body.getD .skip) H25 (initS 51 C25.ps x) (retK tab [] C25.ps C25.rs [.tmp 6]) (fun _ _ => none) (retK tab [] C25.ps C25.rs [.tmp 6])) = C25.F := by kernel_rfl
theorem c25 : Cok Tryz.prog C25 := by
  have h53 := c53
  have h54 := c54
  exact cok_of_den (E := E25) (fn := Tryz.f25) (code := Tryz.f25.body.getD .skip) (hn := H25) (gr := []) (is := [.tmp 6]) ⟨tabOk, (fun c hc => by simp only [E25, List.mem_cons, List.not_mem_nil, or_false] at hc; rcases hc with rfl | rfl <;> assumption), mixOk⟩ ⟨by kernel_rfl, by kernel_rfl, by kernel_rfl, by kernel_rfl, by kernel_rfl, by decide, by kernel_rfl⟩ (fun x y h => (congrFun d25 x).trans h)
noncomputable def C7 : Cal := ⟨7, [⟨.ro, T2⟩, ⟨.ro, .int .i64⟩], [⟨.list 9 (.str), .own (.ro)⟩], fun x => spec_UnusedVars x.1 x.2.1⟩
def H7 : Hn := (.e (.n ⟨[], [], none, false, [(0, ⟨[], M1, [], [], none⟩)]⟩ .z .z) (.e (.n ⟨[], [.g 5], none, false, []⟩ .z .z) (.e (.n ⟨[], [.g 6], none, false, []⟩ .z .z) (.e (.e .z (.n ⟨[], [], (some ⟨[.dat 5 (.list 9 (.str)) (.own (.ro))], [], []⟩), false, []⟩ (.n ⟨[], [], (some ⟨[.snp 1 (.int .i64) [], .dat 5 (.list 9 (.str)) (.own (.ro)), .dat 6 (.list 52 (T7)) (.own (.ro)), .snp 7 (.int .i64) [], .box 2 true (T2) (.ro)], [(2, ⟨5, []⟩)], []⟩), false, []⟩ (.e .z (.e (.n ⟨[], [], (some ⟨[.snp 1 (.int .i64) [], .dat 5 (.list 9 (.str)) (.own (.ro)), .dat 6 (.list 52 (T7)) (.own (.ro)), .snp 7 (.int .i64) [], .box 2 true (T2) (.ro)], [(2, ⟨5, []⟩)], []⟩), false, []⟩ (.e .z (.e (.n ⟨[], [.g 9], none, false, [(0, .t 21), (1, .t 22), (2, .t 23), (3, .t 24), (4, .t 25), (5, .t 26), (6, .t 27), (7, .t 28), (8, .t 9)]⟩ .z .z) (.e (.e .z (.n ⟨[], [], (some ⟨[.snp 1 (.int .i64) [], .dat 5 (.list 9 (.str)) (.own (.ro)), .dat 6 (.list 52 (T7)) (.own (.ro)), .snp 7 (.int .i64) [], .snp 8 (.bool) [], .box 2 true (T2) (.ro)], [(2, ⟨5, []⟩)], []⟩), false, []⟩ (.n ⟨[], [], (some ⟨[.snp 1 (.int .i64) [], .dat 5 (.list 9 (.str)) (.own (.ro)), .dat 6 (.list 52 (T7)) (.own (.ro)), .snp 7 (.int .i64) [], .snp 8 (.bool) [], .dat 9 (.list 3 (.int .i64)) (.own (.ro)), .snp 10 (.int .i64) [], .box 2 true (T2) (.ro)], [(2, ⟨5, []⟩)], []⟩), false, []⟩ (.e .z (.e (.e (.n ⟨[], [], (some ⟨[.snp 1 (.int .i64) [], .dat 5 (.list 9 (.str)) (.own (.ro)), .dat 6 (.list 52 (T7)) (.own (.ro)), .snp 7 (.int .i64) [], .snp 8 (.bool) [], .dat 9 (.list 3 (.int .i64)) (.own (.ro)), .snp 10 (.int .i64) [], .box 2 true (T2) (.ro)], [(2, ⟨5, []⟩)], []⟩), false, [(0, .t 35), (1, .t 36), (2, .t 37), (3, .t 38), (4, .t 39), (5, .t 40), (6, .t 41), (7, .t 42), (8, .t 43), (9, .t 44), (10, .t 45), (11, .t 46), (12, .t 47), (13, .t 8)]⟩ .z .z) .z) .z)) .z) .z)) (.e .z (.n ⟨[], [], (some ⟨[.snp 1 (.int .i64) [], .dat 5 (.list 9 (.str)) (.own (.ro)), .dat 6 (.list 52 (T7)) (.own (.ro)), .snp 7 (.int .i64) [], .box 2 true (T2) (.ro)], [(2, ⟨5, []⟩)], []⟩), false, []⟩ (.n ⟨[], [.g 5], none, false, [(7, ⟨[.g 50], .ro, [], [], none⟩)]⟩ .z .z) .z))))) .z) .z)) .z) .z)) (.e (.n ⟨[], [.g 4], none, false, []⟩ .z .z) .z)))))
noncomputable def E7 : Env := ⟨tab, [C24, C25], 2, 59⟩
theorem d7 : (fun (x : HL (pts C7.ps)) => den E7 (Tryz.f7.body.getD .skip) H7 (initS 59 C7.ps x) (retK tab [] C7.ps C7.rs [.tmp 4]) (fun _ _ => none) (retK tab [] C7.ps C7.rs [.tmp 4])) = C7.F := by kernel_rfl
theorem c7 : Cok Tryz.prog C7 := by
  have h24 := c24
  have h25 := c25
  exact cok_of_den (E := E7) (fn := Tryz.f7) (code := Tryz.f7.body.getD .skip) (hn := H7) (gr := []) (is := [.tmp 4]) ⟨tabOk, (fun c hc => by simp only [E7, List.mem_cons, List.not_mem_nil, or_false] at hc; rcases hc with rfl | rfl <;> assumption), mixOk⟩ ⟨by kernel_rfl, by kernel_rfl, by kernel_rfl, by kernel_rfl, by kernel_rfl, by decide, by kernel_rfl⟩ (fun x y h => (congrFun d7 x).trans h)
end Go.Proofs.YtgkgfpbdodafaaaGreatDoorE

/- The functions of X reckon so (1). No condition. -/
import Derived.Test.YtgkgfpbdodafaaaGreatDoorLawLBX
import Derived.Test.YtgkgfpbdodafaaaGreatDoorPackR
import Derived.Test.YtgkgfpbdodafaaaGreatDoorLawFX
import Derived.Test.YtgkgfpbdodafaaaGreatDoorProg
set_option linter.all false
namespace Go.Proofs.YtgkgfpbdodafaaaGreatDoorE
set_option maxRecDepth 100000
set_option linter.all false
def Hn.e (a b : Hn) : Hn := .n ⟨[], [], none, false, []⟩ a b
def OH.t (n : Nat) : OH := ⟨[], .ro, [n], [], none⟩
def OH.b (n : Nat) : OH := ⟨[], .ro, [], [n], none⟩
def OH.r : OH := ⟨[], .ro, [], [], none⟩
abbrev T11 : Ty := .pair (.str) (.int .i64)
abbrev T7 : Ty := .pair (.str) (.pair (.int .i64) (.int .i64))
abbrev M5 : Md := .pr (.ro) (.pr (.ro) (.pr (.ro) (.own (.ro))))
abbrev T5 : Ty := .pair (.int .i64) (.pair (.int .i64) (.pair (.str) (.list 3 (.int .i64))))
abbrev T4 : Ty := .pair (.str) (.pair (.list 85 (T11)) (.pair (.int .i64) (.pair (.int .i64) (.int .i64))))
abbrev M3 : Md := .pr (.ro) (.pr (.own (.ro)) (.ro))
abbrev T3 : Ty := .pair (.str) (.pair (.list 119 (T11)) (.pair (.int .i64) (.pair (.int .i64) (.int .i64))))
abbrev T2 : Ty := .pair (.list 54 (T5)) (.list 69 (T4))
abbrev M1 : Md := .pr (.own (M5)) (.own (M3))
abbrev T1 : Ty := .pair (.list 79 (T5)) (.list 83 (T3))
def tab : List TE := [⟨3, .int .i64, 0, 8⟩, ⟨4, .bool, 0, 1⟩, ⟨5, .int .u8, 0, 1⟩, ⟨9, .str, 0, 16⟩, ⟨22, .list 79 (T5), 0, 24⟩, ⟨23, .list 83 (T3), 0, 24⟩, ⟨25, T1, 2, 48⟩, ⟨27, .list 9 (.str), 0, 24⟩, ⟨29, .list 54 (T5), 0, 24⟩, ⟨30, .list 69 (T4), 0, 24⟩, ⟨32, T2, 2, 48⟩, ⟨47, .list 52 (T7), 0, 24⟩, ⟨49, .list 3 (.int .i64), 0, 24⟩, ⟨52, T7, 3, 32⟩, ⟨54, T5, 4, 56⟩, ⟨67, .list 85 (T11), 0, 24⟩, ⟨69, T4, 5, 64⟩, ⟨79, T5, 4, 56⟩, ⟨81, .list 119 (T11), 0, 24⟩, ⟨83, T3, 5, 64⟩, ⟨85, T11, 2, 24⟩, ⟨93, .list 5 (.int .u8), 0, 24⟩, ⟨99, .list 4 (.bool), 0, 24⟩, ⟨119, T11, 2, 24⟩]
theorem tabOk : TabOk Tryz.prog tab := tab_ok (by kernel_rfl)
theorem kOk : kpos tab = true := by kernel_rfl
theorem mixOk : Tryz.prog.follows .mixedOrders = true := by kernel_rfl

/-- laws.szIntS -/
noncomputable def C82 : Cal := ⟨82, [⟨.ro, .list 3 (.int .i64)⟩, ⟨.ro, .int .i64⟩], [⟨.int .i64, .ro⟩], fun x => laws_szIntS x.1 x.2.1⟩
def H82 : Hn := .z
noncomputable def E82 : Env := ⟨tab, [], 2, 12⟩
theorem d82 : (fun (x : HL (pts C82.ps)) => den E82 (Tryz.f82.body.getD .skip) H82 (initS 12 C82.ps x) (retK tab [] C82.ps C82.rs [.tmp 4]) (fun _ _ => none) (retK tab [] C82.ps C82.rs [.tmp 4])) = C82.F := by kernel_rfl
theorem c82 : Cok Tryz.prog C82 := by
  exact cok_of_den (E := E82) (fn := Tryz.f82) (code := Tryz.f82.body.getD .skip) (hn := H82) (gr := []) (is := [.tmp 4]) ⟨tabOk, (fun c hc => by cases hc), mixOk⟩ ⟨by kernel_rfl, by kernel_rfl, by kernel_rfl, by kernel_rfl, by kernel_rfl, by decide, by kernel_rfl⟩ (fun x y h => (congrFun d82 x).trans h)

/-- laws.szNode -/
noncomputable def C51 : Cal := ⟨51, [⟨.ro, T5⟩, ⟨.ro, .int .i64⟩], [⟨.int .i64, .ro⟩], fun x => laws_szNode x.1 x.2.1⟩
def H51 : Hn := (.e (.n ⟨[], [], none, false, [(0, ⟨[], M5, [], [], none⟩)]⟩ .z .z) .z)
noncomputable def E51 : Env := ⟨tab, [C82], 2, 19⟩
theorem d51 : (fun (x : HL (pts C51.ps)) => den E51 (Tryz.f51.body.getD .skip) H51 (initS 19 C51.ps x) (retK tab [] C51.ps C51.rs [.tmp 4]) (fun _ _ => none) (retK tab [] C51.ps C51.rs [.tmp 4])) = C51.F := by kernel_rfl
theorem c51 : Cok Tryz.prog C51 := by
  have h82 := c82
  exact cok_of_den (E := E51) (fn := Tryz.f51) (code := Tryz.f51.body.getD .skip) (hn := H51) (gr := []) (is := [.tmp 4]) ⟨tabOk, (fun c hc => by simp only [E51, List.mem_cons, List.not_mem_nil, or_false] at hc; rcases hc with rfl <;> assumption), mixOk⟩ ⟨by kernel_rfl, by kernel_rfl, by kernel_rfl, by kernel_rfl, by kernel_rfl, by decide, by kernel_rfl⟩ (fun x y h => (congrFun d51 x).trans h)

/-- laws.szNodeS -/
noncomputable def C22 : Cal := ⟨22, [⟨.ro, .list 79 (T5)⟩, ⟨.ro, .int .i64⟩], [⟨.int .i64, .ro⟩], fun x => laws_szNodeS x.1 x.2.1⟩
def H22 : Hn := (.e .z (.e .z (.e .z (.e (.e .z (.n ⟨[], [], (some ⟨[.snp 1 (.int .i64) []], [], []⟩), true, []⟩ (.n ⟨[], [], (some ⟨[.snp 0 (.list 79 (T5)) [], .snp 1 (.int .i64) [], .snp 5 (.int .i64) []], [], []⟩), false, []⟩ .z .z) .z)) .z))))
noncomputable def E22 : Env := ⟨tab, [C51], 2, 27⟩
theorem d22 : (fun (x : HL (pts C22.ps)) => den E22 (Tryz.f22.body.getD .skip) H22 (initS 27 C22.ps x) (retK tab [] C22.ps C22.rs [.tmp 4]) (fun _ _ => none) (retK tab [] C22.ps C22.rs [.tmp 4])) = C22.F := by kernel_rfl
theorem c22 : Cok Tryz.prog C22 := by
  have h51 := c51
  exact cok_of_den (E := E22) (fn := Tryz.f22) (code := Tryz.f22.body.getD .skip) (hn := H22) (gr := []) (is := [.tmp 4]) ⟨tabOk, (fun c hc => by simp only [E22, List.mem_cons, List.not_mem_nil, or_false] at hc; rcases hc with rfl <;> assumption), mixOk⟩ ⟨by kernel_rfl, by kernel_rfl, by kernel_rfl, by kernel_rfl, by kernel_rfl, by decide, by kernel_rfl⟩ (fun x y h => (congrFun d22 x).trans h)

/-- laws.szParam -/
noncomputable def C105 : Cal := ⟨105, [⟨.ro, T11⟩, ⟨.ro, .int .i64⟩], [⟨.int .i64, .ro⟩], fun x => laws_szParam x.1 x.2.1⟩
def H105 : Hn := .z
noncomputable def E105 : Env := ⟨tab, [], 2, 13⟩
theorem d105 : (fun (x : HL (pts C105.ps)) => den E105 (Tryz.f105.body.getD .skip) H105 (initS 13 C105.ps x) (retK tab [] C105.ps C105.rs [.tmp 4]) (fun _ _ => none) (retK tab [] C105.ps C105.rs [.tmp 4])) = C105.F := by kernel_rfl
theorem c105 : Cok Tryz.prog C105 := by
  exact cok_of_den (E := E105) (fn := Tryz.f105) (code := Tryz.f105.body.getD .skip) (hn := H105) (gr := []) (is := [.tmp 4]) ⟨tabOk, (fun c hc => by cases hc), mixOk⟩ ⟨by kernel_rfl, by kernel_rfl, by kernel_rfl, by kernel_rfl, by kernel_rfl, by decide, by kernel_rfl⟩ (fun x y h => (congrFun d105 x).trans h)

/-- laws.szParamS -/
noncomputable def C83 : Cal := ⟨83, [⟨.ro, .list 119 (T11)⟩, ⟨.ro, .int .i64⟩], [⟨.int .i64, .ro⟩], fun x => laws_szParamS x.1 x.2.1⟩
def H83 : Hn := (.e .z (.e .z (.e .z (.e (.e .z (.n ⟨[], [], (some ⟨[.snp 1 (.int .i64) []], [], []⟩), true, []⟩ (.n ⟨[], [], (some ⟨[.snp 0 (.list 119 (T11)) [], .snp 1 (.int .i64) [], .snp 5 (.int .i64) []], [], []⟩), false, []⟩ .z .z) .z)) .z))))
noncomputable def E83 : Env := ⟨tab, [C105], 2, 27⟩
theorem d83 : (fun (x : HL (pts C83.ps)) => den E83 (Tryz.f83.body.getD .skip) H83 (initS 27 C83.ps x) (retK tab [] C83.ps C83.rs [.tmp 4]) (fun _ _ => none) (retK tab [] C83.ps C83.rs [.tmp 4])) = C83.F := by kernel_rfl
theorem c83 : Cok Tryz.prog C83 := by
  have h105 := c105
  exact cok_of_den (E := E83) (fn := Tryz.f83) (code := Tryz.f83.body.getD .skip) (hn := H83) (gr := []) (is := [.tmp 4]) ⟨tabOk, (fun c hc => by simp only [E83, List.mem_cons, List.not_mem_nil, or_false] at hc; rcases hc with rfl <;> assumption), mixOk⟩ ⟨by kernel_rfl, by kernel_rfl, by kernel_rfl, by kernel_rfl, by kernel_rfl, by decide, by kernel_rfl⟩ (fun x y h => (congrFun d83 x).trans h)

/-- laws.szFn -/
noncomputable def C52 : Cal := ⟨52, [⟨.ro, T3⟩, ⟨.ro, .int .i64⟩], [⟨.int .i64, .ro⟩], fun x => laws_szFn x.1 x.2.1⟩
def H52 : Hn := (.e (.n ⟨[], [], none, false, [(0, ⟨[], M3, [], [], none⟩)]⟩ .z .z) .z)
noncomputable def E52 : Env := ⟨tab, [C83], 2, 19⟩
theorem d52 : (fun (x : HL (pts C52.ps)) => den E52 (Tryz.f52.body.getD .skip) H52 (initS 19 C52.ps x) (retK tab [] C52.ps C52.rs [.tmp 4]) (fun _ _ => none) (retK tab [] C52.ps C52.rs [.tmp 4])) = C52.F := by kernel_rfl
theorem c52 : Cok Tryz.prog C52 := by
  have h83 := c83
  exact cok_of_den (E := E52) (fn := Tryz.f52) (code := Tryz.f52.body.getD .skip) (hn := H52) (gr := []) (is := [.tmp 4]) ⟨tabOk, (fun c hc => by simp only [E52, List.mem_cons, List.not_mem_nil, or_false] at hc; rcases hc with rfl <;> assumption), mixOk⟩ ⟨by kernel_rfl, by kernel_rfl, by kernel_rfl, by kernel_rfl, by kernel_rfl, by decide, by kernel_rfl⟩ (fun x y h => (congrFun d52 x).trans h)

/-- laws.szFnS -/
noncomputable def C23 : Cal := ⟨23, [⟨.ro, .list 83 (T3)⟩, ⟨.ro, .int .i64⟩], [⟨.int .i64, .ro⟩], fun x => laws_szFnS x.1 x.2.1⟩
def H23 : Hn := (.e .z (.e .z (.e .z (.e (.e .z (.n ⟨[], [], (some ⟨[.snp 1 (.int .i64) []], [], []⟩), true, []⟩ (.n ⟨[], [], (some ⟨[.snp 0 (.list 83 (T3)) [], .snp 1 (.int .i64) [], .snp 5 (.int .i64) []], [], []⟩), false, []⟩ .z .z) .z)) .z))))
noncomputable def E23 : Env := ⟨tab, [C52], 2, 27⟩
theorem d23 : (fun (x : HL (pts C23.ps)) => den E23 (Tryz.f23.body.getD .skip) H23 (initS 27 C23.ps x) (retK tab [] C23.ps C23.rs [.tmp 4]) (fun _ _ => none) (retK tab [] C23.ps C23.rs [.tmp 4])) = C23.F := by kernel_rfl
theorem c23 : Cok Tryz.prog C23 := by
  have h52 := c52
  exact cok_of_den (E := E23) (fn := Tryz.f23) (code := Tryz.f23.body.getD .skip) (hn := H23) (gr := []) (is := [.tmp 4]) ⟨tabOk, (fun c hc => by simp only [E23, List.mem_cons, List.not_mem_nil, or_false] at hc; rcases hc with rfl <;> assumption), mixOk⟩ ⟨by kernel_rfl, by kernel_rfl, by kernel_rfl, by kernel_rfl, by kernel_rfl, by decide, by kernel_rfl⟩ (fun x y h => (congrFun d23 x).trans h)

/-- laws.szProgram -/
noncomputable def C6 : Cal := ⟨6, [⟨.ro, T1⟩, ⟨.ro, .int .i64⟩], [⟨.int .i64, .ro⟩], fun x => laws_szProgram x.1 x.2.1⟩
def H6 : Hn := (.e (.n ⟨[], [], none, false, [(0, ⟨[], M1, [], [], none⟩)]⟩ .z .z) .z)
noncomputable def E6 : Env := ⟨tab, [C22, C23], 2, 18⟩
theorem d6 : (fun (x : HL (pts C6.ps)) => den E6 (Tryz.f6.body.getD .skip) H6 (initS 18 C6.ps x) (retK tab [] C6.ps C6.rs [.tmp 4]) (fun _ _ => none) (retK tab [] C6.ps C6.rs [.tmp 4])) = C6.F := by kernel_rfl
theorem c6 : Cok Tryz.prog C6 := by
  have h22 := c22
  have h23 := c23
  exact cok_of_den (E := E6) (fn := Tryz.f6) (code := Tryz.f6.body.getD .skip) (hn := H6) (gr := []) (is := [.tmp 4]) ⟨tabOk, (fun c hc => by simp only [E6, List.mem_cons, List.not_mem_nil, or_false] at hc; rcases hc with rfl | rfl <;> assumption), mixOk⟩ ⟨by kernel_rfl, by kernel_rfl, by kernel_rfl, by kernel_rfl, by kernel_rfl, by decide, by kernel_rfl⟩ (fun x y h => (congrFun d6 x).trans h)

/-- laws.toIntS -/
noncomputable def C84 : Cal := ⟨84, [⟨.ro, .list 3 (.int .i64)⟩], [⟨.list 3 (.int .i64), .own (.ro)⟩], fun x => laws_toIntS x.1⟩
def H84 : Hn := (.e .z (.e (.n ⟨[], [.g 3], none, false, []⟩ .z .z) (.e (.e .z (.n ⟨[], [], (some ⟨[.dat 3 (.list 3 (.int .i64)) (.own (.ro))], [], []⟩), false, []⟩ (.n ⟨[], [], (some ⟨[.snp 0 (.list 3 (.int .i64)) [], .dat 3 (.list 3 (.int .i64)) (.own (.ro)), .snp 4 (.int .i64) []], [], []⟩), false, []⟩ (.e .z (.e (.e (.n ⟨[], [], none, false, [(7, ⟨[], .ro, [], [], some 6⟩)]⟩ .z .z) .z) .z)) .z) .z)) (.e (.n ⟨[], [.g 2], none, false, []⟩ .z .z) .z))))
noncomputable def E84 : Env := ⟨tab, [], 1, 22⟩
theorem d84 : (fun (x : HL (pts C84.ps)) => den E84 (Tryz.f84.body.getD .skip) H84 (initS 22 C84.ps x) (retK tab [] C84.ps C84.rs [.tmp 2]) (fun _ _ => none) (retK tab [] C84.ps C84.rs [.tmp 2])) = C84.F := by kernel_rfl
theorem c84 : Cok Tryz.prog C84 := by
  exact cok_of_den (E := E84) (fn := Tryz.f84) (code := Tryz.f84.body.getD .skip) (hn := H84) (gr := []) (is := [.tmp 2]) ⟨tabOk, (fun c hc => by cases hc), mixOk⟩ ⟨by kernel_rfl, by kernel_rfl, by kernel_rfl, by kernel_rfl, by kernel_rfl, by decide, by kernel_rfl⟩ (fun x y h => (congrFun d84 x).trans h)

/-- laws.toNode -/
noncomputable def C55 : Cal := ⟨55, [⟨.ro, T5⟩], [⟨T5, M5⟩], fun x => laws_toNode x.1⟩
def H55 : Hn := (.e (.n ⟨[], [], none, false, [(0, ⟨[], M5, [], [], none⟩), (1, ⟨[], M5, [], [], none⟩)]⟩ .z .z) (.e (.n ⟨[], [], none, false, [(0, ⟨[], M5, [], [], none⟩)]⟩ .z .z) (.e .z (.e .z (.e .z (.e (.n ⟨[], [], none, false, [(4, ⟨[], .own (.ro), [], [], none⟩)]⟩ .z .z) (.e (.n ⟨[], [], none, false, [(1, ⟨[.g 17], M5, [], [], none⟩)]⟩ .z .z) .z)))))))
noncomputable def E55 : Env := ⟨tab, [C84], 1, 18⟩
theorem d55 : (fun (x : HL (pts C55.ps)) => den E55 (Tryz.f55.body.getD .skip) H55 (initS 18 C55.ps x) (retK tab [] C55.ps C55.rs [.cell 2 54]) (fun _ _ => none) (retK tab [] C55.ps C55.rs [.cell 2 54])) = C55.F := by kernel_rfl
theorem c55 : Cok Tryz.prog C55 := by
  have h84 := c84
  exact cok_of_den (E := E55) (fn := Tryz.f55) (code := Tryz.f55.body.getD .skip) (hn := H55) (gr := []) (is := [.cell 2 54]) ⟨tabOk, (fun c hc => by simp only [E55, List.mem_cons, List.not_mem_nil, or_false] at hc; rcases hc with rfl <;> assumption), mixOk⟩ ⟨by kernel_rfl, by kernel_rfl, by kernel_rfl, by kernel_rfl, by kernel_rfl, by decide, by kernel_rfl⟩ (fun x y h => (congrFun d55 x).trans h)

/-- laws.toNodeS -/
noncomputable def C26 : Cal := ⟨26, [⟨.ro, .list 79 (T5)⟩], [⟨.list 54 (T5), .own (M5)⟩], fun x => laws_toNodeS x.1⟩
def H26 : Hn := (.e .z (.e (.n ⟨[], [.g 3], none, false, [(2, ⟨[], M5, [], [], none⟩)]⟩ .z .z) (.e (.e .z (.n ⟨[], [], (some ⟨[.dat 3 (.list 54 (T5)) (.own (M5))], [], []⟩), false, []⟩ (.n ⟨[], [], (some ⟨[.snp 0 (.list 79 (T5)) [], .dat 3 (.list 54 (T5)) (.own (M5)), .snp 4 (.int .i64) []], [], []⟩), false, []⟩ (.e .z (.e (.e (.n ⟨[], [], none, false, [(8, ⟨[], M5, [], [], some 6⟩)]⟩ .z .z) .z) .z)) .z) .z)) (.e (.n ⟨[], [.g 2], none, false, []⟩ .z .z) .z))))
noncomputable def E26 : Env := ⟨tab, [C55], 1, 23⟩
theorem d26 : (fun (x : HL (pts C26.ps)) => den E26 (Tryz.f26.body.getD .skip) H26 (initS 23 C26.ps x) (retK tab [] C26.ps C26.rs [.tmp 2]) (fun _ _ => none) (retK tab [] C26.ps C26.rs [.tmp 2])) = C26.F := by kernel_rfl
theorem c26 : Cok Tryz.prog C26 := by
  have h55 := c55
  exact cok_of_den (E := E26) (fn := Tryz.f26) (code := Tryz.f26.body.getD .skip) (hn := H26) (gr := []) (is := [.tmp 2]) ⟨tabOk, (fun c hc => by simp only [E26, List.mem_cons, List.not_mem_nil, or_false] at hc; rcases hc with rfl <;> assumption), mixOk⟩ ⟨by kernel_rfl, by kernel_rfl, by kernel_rfl, by kernel_rfl, by kernel_rfl, by decide, by kernel_rfl⟩ (fun x y h => (congrFun d26 x).trans h)

/-- laws.toParam -/
noncomputable def C106 : Cal := ⟨106, [⟨.ro, T11⟩], [⟨T11, .ro⟩], fun x => laws_toParam x.1⟩
def H106 : Hn := .z
noncomputable def E106 : Env := ⟨tab, [], 1, 11⟩
theorem d106 : (fun (x : HL (pts C106.ps)) => den E106 (Tryz.f106.body.getD .skip) H106 (initS 11 C106.ps x) (retK tab [] C106.ps C106.rs [.cell 2 85]) (fun _ _ => none) (retK tab [] C106.ps C106.rs [.cell 2 85])) = C106.F := by kernel_rfl
theorem c106 : Cok Tryz.prog C106 := by
  exact cok_of_den (E := E106) (fn := Tryz.f106) (code := Tryz.f106.body.getD .skip) (hn := H106) (gr := []) (is := [.cell 2 85]) ⟨tabOk, (fun c hc => by cases hc), mixOk⟩ ⟨by kernel_rfl, by kernel_rfl, by kernel_rfl, by kernel_rfl, by kernel_rfl, by decide, by kernel_rfl⟩ (fun x y h => (congrFun d106 x).trans h)

/-- laws.toParamS -/
noncomputable def C85 : Cal := ⟨85, [⟨.ro, .list 119 (T11)⟩], [⟨.list 85 (T11), .own (.ro)⟩], fun x => laws_toParamS x.1⟩
def H85 : Hn := (.e .z (.e (.n ⟨[], [.g 3], none, false, []⟩ .z .z) (.e (.e .z (.n ⟨[], [], (some ⟨[.dat 3 (.list 85 (T11)) (.own (.ro))], [], []⟩), false, []⟩ (.n ⟨[], [], (some ⟨[.snp 0 (.list 119 (T11)) [], .dat 3 (.list 85 (T11)) (.own (.ro)), .snp 4 (.int .i64) []], [], []⟩), false, []⟩ (.e .z (.e (.e (.n ⟨[], [], none, false, [(8, ⟨[], .ro, [], [], some 6⟩)]⟩ .z .z) .z) .z)) .z) .z)) (.e (.n ⟨[], [.g 2], none, false, []⟩ .z .z) .z))))
noncomputable def E85 : Env := ⟨tab, [C106], 1, 23⟩
theorem d85 : (fun (x : HL (pts C85.ps)) => den E85 (Tryz.f85.body.getD .skip) H85 (initS 23 C85.ps x) (retK tab [] C85.ps C85.rs [.tmp 2]) (fun _ _ => none) (retK tab [] C85.ps C85.rs [.tmp 2])) = C85.F := by kernel_rfl
theorem c85 : Cok Tryz.prog C85 := by
  have h106 := c106
  exact cok_of_den (E := E85) (fn := Tryz.f85) (code := Tryz.f85.body.getD .skip) (hn := H85) (gr := []) (is := [.tmp 2]) ⟨tabOk, (fun c hc => by simp only [E85, List.mem_cons, List.not_mem_nil, or_false] at hc; rcases hc with rfl <;> assumption), mixOk⟩ ⟨by kernel_rfl, by kernel_rfl, by kernel_rfl, by kernel_rfl, by kernel_rfl, by decide, by kernel_rfl⟩ (fun x y h => (congrFun d85 x).trans h)

/-- laws.toFn -/
noncomputable def C56 : Cal := ⟨56, [⟨.ro, T3⟩], [⟨T4, M3⟩], fun x => laws_toFn x.1⟩
def H56 : Hn := (.e (.n ⟨[], [], none, false, [(0, ⟨[], M3, [], [], none⟩), (1, ⟨[], M3, [], [], none⟩)]⟩ .z .z) (.e (.n ⟨[], [], none, false, [(0, ⟨[], M3, [], [], none⟩)]⟩ .z .z) (.e .z (.e (.n ⟨[], [], none, false, [(4, ⟨[], .own (.ro), [], [], none⟩)]⟩ .z .z) (.e .z (.e .z (.e .z (.e (.n ⟨[], [], none, false, [(1, ⟨[.g 20], M3, [], [], none⟩)]⟩ .z .z) .z))))))))
noncomputable def E56 : Env := ⟨tab, [C85], 1, 21⟩
theorem d56 : (fun (x : HL (pts C56.ps)) => den E56 (Tryz.f56.body.getD .skip) H56 (initS 21 C56.ps x) (retK tab [] C56.ps C56.rs [.cell 2 69]) (fun _ _ => none) (retK tab [] C56.ps C56.rs [.cell 2 69])) = C56.F := by kernel_rfl
theorem c56 : Cok Tryz.prog C56 := by
  have h85 := c85
  exact cok_of_den (E := E56) (fn := Tryz.f56) (code := Tryz.f56.body.getD .skip) (hn := H56) (gr := []) (is := [.cell 2 69]) ⟨tabOk, (fun c hc => by simp only [E56, List.mem_cons, List.not_mem_nil, or_false] at hc; rcases hc with rfl <;> assumption), mixOk⟩ ⟨by kernel_rfl, by kernel_rfl, by kernel_rfl, by kernel_rfl, by kernel_rfl, by decide, by kernel_rfl⟩ (fun x y h => (congrFun d56 x).trans h)

/-- laws.toFnS -/
noncomputable def C27 : Cal := ⟨27, [⟨.ro, .list 83 (T3)⟩], [⟨.list 69 (T4), .own (M3)⟩], fun x => laws_toFnS x.1⟩
def H27 : Hn := (.e .z (.e (.n ⟨[], [.g 3], none, false, [(2, ⟨[], M3, [], [], none⟩)]⟩ .z .z) (.e (.e .z (.n ⟨[], [], (some ⟨[.dat 3 (.list 69 (T4)) (.own (M3))], [], []⟩), false, []⟩ (.n ⟨[], [], (some ⟨[.snp 0 (.list 83 (T3)) [], .dat 3 (.list 69 (T4)) (.own (M3)), .snp 4 (.int .i64) []], [], []⟩), false, []⟩ (.e .z (.e (.e (.n ⟨[], [], none, false, [(8, ⟨[], M3, [], [], some 6⟩)]⟩ .z .z) .z) .z)) .z) .z)) (.e (.n ⟨[], [.g 2], none, false, []⟩ .z .z) .z))))
noncomputable def E27 : Env := ⟨tab, [C56], 1, 23⟩
theorem d27 : (fun (x : HL (pts C27.ps)) => den E27 (Tryz.f27.body.getD .skip) H27 (initS 23 C27.ps x) (retK tab [] C27.ps C27.rs [.tmp 2]) (fun _ _ => none) (retK tab [] C27.ps C27.rs [.tmp 2])) = C27.F := by kernel_rfl
theorem c27 : Cok Tryz.prog C27 := by
  have h56 := c56
  exact cok_of_den (E := E27) (fn := Tryz.f27) (code := Tryz.f27.body.getD .skip) (hn := H27) (gr := []) (is := [.tmp 2]) ⟨tabOk, (fun c hc => by simp only [E27, List.mem_cons, List.not_mem_nil, or_false] at hc; rcases hc with rfl <;> assumption), mixOk⟩ ⟨by kernel_rfl, by kernel_rfl, by kernel_rfl, by kernel_rfl, by kernel_rfl, by decide, by kernel_rfl⟩ (fun x y h => (congrFun d27 x).trans h)

/-- laws.toProgram -/
noncomputable def C8 : Cal := ⟨8, [⟨.ro, T1⟩], [⟨T2, M1⟩], fun x => laws_toProgram x.1⟩
def H8 : Hn := (.e (.n ⟨[], [], none, false, [(0, ⟨[], M1, [], [], none⟩), (1, ⟨[], M1, [], [], none⟩)]⟩ .z .z) (.e (.n ⟨[], [], none, false, [(0, ⟨[], M1, [], [], none⟩)]⟩ .z .z) (.e (.n ⟨[], [], none, false, [(4, ⟨[], .own (M5), [], [], none⟩)]⟩ .z .z) (.e (.n ⟨[], [], none, false, [(4, ⟨[], .own (M3), [], [], none⟩)]⟩ .z .z) (.e (.n ⟨[], [], none, false, [(1, ⟨[.g 12], M1, [], [], none⟩)]⟩ .z .z) .z)))))
noncomputable def E8 : Env := ⟨tab, [C26, C27], 1, 13⟩
theorem d8 : (fun (x : HL (pts C8.ps)) => den E8 (Tryz.f8.body.getD .skip) H8 (initS 13 C8.ps x) (retK tab [] C8.ps C8.rs [.cell 2 32]) (fun _ _ => none) (retK tab [] C8.ps C8.rs [.cell 2 32])) = C8.F := by kernel_rfl
theorem c8 : Cok Tryz.prog C8 := by
  have h26 := c26
  have h27 := c27
  exact cok_of_den (E := E8) (fn := Tryz.f8) (code := Tryz.f8.body.getD .skip) (hn := H8) (gr := []) (is := [.cell 2 32]) ⟨tabOk, (fun c hc => by simp only [E8, List.mem_cons, List.not_mem_nil, or_false] at hc; rcases hc with rfl | rfl <;> assumption), mixOk⟩ ⟨by kernel_rfl, by kernel_rfl, by kernel_rfl, by kernel_rfl, by kernel_rfl, by decide, by kernel_rfl⟩ (fun x y h => (congrFun d8 x).trans h)

/-- spec.l01In -/
noncomputable def C36 : Cal := ⟨36, [⟨.ro, .int .i64⟩, ⟨.ro, .int .i64⟩, ⟨.ro, .int .i64⟩], [⟨.bool, .ro⟩], fun x => spec_l01In x.1 x.2.1 x.2.2.1⟩
def H36 : Hn := (.e .z (.e (.n ⟨[], [], (some ⟨[.snp 6 (.bool) []], [], []⟩), false, []⟩ .z .z) .z))
noncomputable def E36 : Env := ⟨tab, [], 3, 15⟩
theorem d36 : (fun (x : HL (pts C36.ps)) => den E36 (Tryz.f36.body.getD .skip) H36 (initS 15 C36.ps x) (retK tab [] C36.ps C36.rs [.tmp 6]) (fun _ _ => none) (retK tab [] C36.ps C36.rs [.tmp 6])) = C36.F := by kernel_rfl
theorem c36 : Cok Tryz.prog C36 := by
  exact cok_of_den (E := E36) (fn := Tryz.f36) (code := Tryz.f36.body.getD .skip) (hn := H36) (gr := []) (is := [.tmp 6]) ⟨tabOk, (fun c hc => by cases hc), mixOk⟩ ⟨by kernel_rfl, by kernel_rfl, by kernel_rfl, by kernel_rfl, by kernel_rfl, by decide, by kernel_rfl⟩ (fun x y h => (congrFun d36 x).trans h)

/-- spec.l04Kids -/
noncomputable def C118 : Cal := ⟨118, [⟨.ro, .int .i64⟩], [⟨.int .i64, .ro⟩, ⟨.int .i64, .ro⟩], fun x => spec_l04Kids x.1⟩
def H118 : Hn := (.e .z (.e (.e .z (.e (.e (.e .z (.n ⟨[], [], (some ⟨[.snp 4 (.int .i64) [], .snp 5 (.bool) []], [], []⟩), false, []⟩ .z (.e .z (.n ⟨[], [], (some ⟨[.snp 4 (.int .i64) [], .snp 5 (.bool) []], [], []⟩), false, []⟩ .z (.e .z (.n ⟨[], [], (some ⟨[.snp 4 (.int .i64) [], .snp 5 (.bool) []], [], []⟩), false, []⟩ .z (.e .z (.n ⟨[], [], (some ⟨[.snp 4 (.int .i64) [], .snp 5 (.bool) []], [], []⟩), false, []⟩ .z (.e .z (.n ⟨[], [], (some ⟨[.snp 4 (.int .i64) [], .snp 5 (.bool) []], [], []⟩), false, []⟩ .z .z)))))))))) (.e .z (.e (.e .z (.n ⟨[], [], (some ⟨[.snp 4 (.int .i64) [], .snp 12 (.bool) []], [], []⟩), false, []⟩ .z (.e .z (.n ⟨[], [], (some ⟨[.snp 4 (.int .i64) [], .snp 12 (.bool) []], [], []⟩), false, []⟩ .z (.e .z (.n ⟨[], [], (some ⟨[.snp 4 (.int .i64) [], .snp 12 (.bool) []], [], []⟩), false, []⟩ .z .z)))))) .z))) .z)) .z))
noncomputable def E118 : Env := ⟨tab, [], 1, 23⟩
theorem d118 : (fun (x : HL (pts C118.ps)) => den E118 (Tryz.f118.body.getD .skip) H118 (initS 23 C118.ps x) (retK tab [] C118.ps C118.rs [.tmp 2, .tmp 3]) (fun _ _ => none) (retK tab [] C118.ps C118.rs [.tmp 2, .tmp 3])) = C118.F := by kernel_rfl
theorem c118 : Cok Tryz.prog C118 := by
  exact cok_of_den (E := E118) (fn := Tryz.f118) (code := Tryz.f118.body.getD .skip) (hn := H118) (gr := []) (is := [.tmp 2, .tmp 3]) ⟨tabOk, (fun c hc => by cases hc), mixOk⟩ ⟨by kernel_rfl, by kernel_rfl, by kernel_rfl, by kernel_rfl, by kernel_rfl, by decide, by kernel_rfl⟩ (fun x y h => (congrFun d118 x).trans h)

/-- spec.l04Named -/
noncomputable def C119 : Cal := ⟨119, [⟨.ro, .int .i64⟩], [⟨.bool, .ro⟩], fun x => spec_l04Named x.1⟩
def H119 : Hn := (.e .z (.e (.e .z (.e (.e (.e .z (.n ⟨[], [], (some ⟨[.snp 4 (.bool) []], [], []⟩), false, []⟩ .z (.e .z (.n ⟨[], [], (some ⟨[.snp 4 (.bool) []], [], []⟩), false, []⟩ .z (.e .z (.n ⟨[], [], (some ⟨[.snp 4 (.bool) []], [], []⟩), false, []⟩ .z (.e .z (.n ⟨[], [], (some ⟨[.snp 4 (.bool) []], [], []⟩), false, []⟩ .z (.e .z (.n ⟨[], [], (some ⟨[.snp 4 (.bool) []], [], []⟩), false, []⟩ .z (.e .z (.n ⟨[], [], (some ⟨[.snp 4 (.bool) []], [], []⟩), false, []⟩ .z (.e .z (.n ⟨[], [], (some ⟨[.snp 4 (.bool) []], [], []⟩), false, []⟩ .z (.e .z (.n ⟨[], [], (some ⟨[.snp 4 (.bool) []], [], []⟩), false, []⟩ .z .z)))))))))))))))) .z) .z)) .z))
noncomputable def E119 : Env := ⟨tab, [], 1, 14⟩
theorem d119 : (fun (x : HL (pts C119.ps)) => den E119 (Tryz.f119.body.getD .skip) H119 (initS 14 C119.ps x) (retK tab [] C119.ps C119.rs [.tmp 2]) (fun _ _ => none) (retK tab [] C119.ps C119.rs [.tmp 2])) = C119.F := by kernel_rfl
theorem c119 : Cok Tryz.prog C119 := by
  exact cok_of_den (E := E119) (fn := Tryz.f119) (code := Tryz.f119.body.getD .skip) (hn := H119) (gr := []) (is := [.tmp 2]) ⟨tabOk, (fun c hc => by cases hc), mixOk⟩ ⟨by kernel_rfl, by kernel_rfl, by kernel_rfl, by kernel_rfl, by kernel_rfl, by decide, by kernel_rfl⟩ (fun x y h => (congrFun d119 x).trans h)

/-- spec.l03Letter -/
noncomputable def C121 : Cal := ⟨121, [⟨.ro, .int .u8⟩], [⟨.bool, .ro⟩], fun x => spec_l03Letter x.1⟩
def H121 : Hn := (.e .z (.e (.n ⟨[], [], (some ⟨[.snp 2 (.bool) []], [], []⟩), false, []⟩ .z .z) .z))
noncomputable def E121 : Env := ⟨tab, [], 1, 9⟩
theorem d121 : (fun (x : HL (pts C121.ps)) => den E121 (Tryz.f121.body.getD .skip) H121 (initS 9 C121.ps x) (retK tab [] C121.ps C121.rs [.tmp 2]) (fun _ _ => none) (retK tab [] C121.ps C121.rs [.tmp 2])) = C121.F := by kernel_rfl
theorem c121 : Cok Tryz.prog C121 := by
  exact cok_of_den (E := E121) (fn := Tryz.f121) (code := Tryz.f121.body.getD .skip) (hn := H121) (gr := []) (is := [.tmp 2]) ⟨tabOk, (fun c hc => by cases hc), mixOk⟩ ⟨by kernel_rfl, by kernel_rfl, by kernel_rfl, by kernel_rfl, by kernel_rfl, by decide, by kernel_rfl⟩ (fun x y h => (congrFun d121 x).trans h)

/-- spec.l03Keys -/
noncomputable def C146 : Cal := ⟨146, [], [⟨.list 9 (.str), .own (.ro)⟩], fun x => spec_l03Keys ⟩
def H146 : Hn := (.e .z (.e (.n ⟨[], [.g 0], none, false, []⟩ .z .z) .z))
noncomputable def E146 : Env := ⟨tab, [], 0, 2⟩
theorem d146 : (fun (x : HL (pts C146.ps)) => den E146 (Tryz.f146.body.getD .skip) H146 (initS 2 C146.ps x) (retK tab [] C146.ps C146.rs [.tmp 0]) (fun _ _ => none) (retK tab [] C146.ps C146.rs [.tmp 0])) = C146.F := by kernel_rfl
theorem c146 : Cok Tryz.prog C146 := by
  exact cok_of_den (E := E146) (fn := Tryz.f146) (code := Tryz.f146.body.getD .skip) (hn := H146) (gr := []) (is := [.tmp 0]) ⟨tabOk, (fun c hc => by cases hc), mixOk⟩ ⟨by kernel_rfl, by kernel_rfl, by kernel_rfl, by kernel_rfl, by kernel_rfl, by decide, by kernel_rfl⟩ (fun x y h => (congrFun d146 x).trans h)

/-- spec.KeyWord -/
noncomputable def C122 : Cal := ⟨122, [⟨.ro, .str⟩], [⟨.bool, .ro⟩], fun x => spec_KeyWord x.1⟩
def H122 : Hn := (.e .z (.e (.n ⟨[], [.g 3], none, false, []⟩ .z .z) (.e (.e .z (.n ⟨[], [], (some ⟨[], [], []⟩), true, []⟩ (.n ⟨[], [], (some ⟨[.snp 0 (.str) [], .dat 3 (.list 9 (.str)) (.own (.ro)), .snp 4 (.int .i64) []], [], []⟩), false, []⟩ .z .z) .z)) .z)))
noncomputable def E122 : Env := ⟨tab, [C146], 1, 18⟩
theorem d122 : (fun (x : HL (pts C122.ps)) => den E122 (Tryz.f122.body.getD .skip) H122 (initS 18 C122.ps x) (retK tab [] C122.ps C122.rs [.tmp 2]) (fun _ _ => none) (retK tab [] C122.ps C122.rs [.tmp 2])) = C122.F := by kernel_rfl
theorem c122 : Cok Tryz.prog C122 := by
  have h146 := c146
  exact cok_of_den (E := E122) (fn := Tryz.f122) (code := Tryz.f122.body.getD .skip) (hn := H122) (gr := []) (is := [.tmp 2]) ⟨tabOk, (fun c hc => by simp only [E122, List.mem_cons, List.not_mem_nil, or_false] at hc; rcases hc with rfl <;> assumption), mixOk⟩ ⟨by kernel_rfl, by kernel_rfl, by kernel_rfl, by kernel_rfl, by kernel_rfl, by decide, by kernel_rfl⟩ (fun x y h => (congrFun d122 x).trans h)

/-- spec.l03Figure -/
noncomputable def C123 : Cal := ⟨123, [⟨.ro, .int .u8⟩], [⟨.bool, .ro⟩], fun x => spec_l03Figure x.1⟩
def H123 : Hn := (.e .z (.e (.n ⟨[], [], (some ⟨[.snp 2 (.bool) []], [], []⟩), false, []⟩ .z .z) .z))
noncomputable def E123 : Env := ⟨tab, [], 1, 9⟩
theorem d123 : (fun (x : HL (pts C123.ps)) => den E123 (Tryz.f123.body.getD .skip) H123 (initS 9 C123.ps x) (retK tab [] C123.ps C123.rs [.tmp 2]) (fun _ _ => none) (retK tab [] C123.ps C123.rs [.tmp 2])) = C123.F := by kernel_rfl
theorem c123 : Cok Tryz.prog C123 := by
  exact cok_of_den (E := E123) (fn := Tryz.f123) (code := Tryz.f123.body.getD .skip) (hn := H123) (gr := []) (is := [.tmp 2]) ⟨tabOk, (fun c hc => by cases hc), mixOk⟩ ⟨by kernel_rfl, by kernel_rfl, by kernel_rfl, by kernel_rfl, by kernel_rfl, by decide, by kernel_rfl⟩ (fun x y h => (congrFun d123 x).trans h)

/-- spec.NameOk -/
noncomputable def C109 : Cal := ⟨109, [⟨.ro, .str⟩], [⟨.bool, .ro⟩], fun x => spec_NameOk x.1⟩
def H109 : Hn := (.e .z (.e (.e (.n ⟨[], [], (some ⟨[.snp 0 (.str) [], .snp 17 (.bool) []], [], []⟩), false, []⟩ .z .z) .z) (.e (.e .z (.n ⟨[], [], (some ⟨[], [], []⟩), true, []⟩ (.n ⟨[], [], (some ⟨[.snp 0 (.str) [], .snp 3 (.int .i64) []], [], []⟩), false, []⟩ (.e .z (.e (.e (.e (.n ⟨[], [], (some ⟨[.snp 0 (.str) [], .snp 3 (.int .i64) [], .snp 35 (.bool) []], [], []⟩), false, []⟩ .z .z) .z) .z) .z)) .z) .z)) .z)))
noncomputable def E109 : Env := ⟨tab, [C36, C121, C122, C123], 1, 36⟩
theorem d109 : (fun (x : HL (pts C109.ps)) => den E109 (Tryz.f109.body.getD .skip) H109 (initS 36 C109.ps x) (retK tab [] C109.ps C109.rs [.tmp 2]) (fun _ _ => none) (retK tab [] C109.ps C109.rs [.tmp 2])) = C109.F := by kernel_rfl
theorem c109 : Cok Tryz.prog C109 := by
  have h36 := c36
  have h121 := c121
  have h122 := c122
  have h123 := c123
  exact cok_of_den (E := E109) (fn := Tryz.f109) (code := Tryz.f109.body.getD .skip) (hn := H109) (gr := []) (is := [.tmp 2]) ⟨tabOk, (fun c hc => by simp only [E109, List.mem_cons, List.not_mem_nil, or_false] at hc; rcases hc with rfl | rfl | rfl | rfl <;> assumption), mixOk⟩ ⟨by kernel_rfl, by kernel_rfl, by kernel_rfl, by kernel_rfl, by kernel_rfl, by decide, by kernel_rfl⟩ (fun x y h => (congrFun d109 x).trans h)

/-- spec.l04Statement -/
noncomputable def C145 : Cal := ⟨145, [⟨.ro, .int .i64⟩], [⟨.bool, .ro⟩], fun x => spec_l04Statement x.1⟩
def H145 : Hn := .z
noncomputable def E145 : Env := ⟨tab, [C36], 1, 5⟩
theorem d145 : (fun (x : HL (pts C145.ps)) => den E145 (Tryz.f145.body.getD .skip) H145 (initS 5 C145.ps x) (retK tab [] C145.ps C145.rs [.tmp 2]) (fun _ _ => none) (retK tab [] C145.ps C145.rs [.tmp 2])) = C145.F := by kernel_rfl
theorem c145 : Cok Tryz.prog C145 := by
  have h36 := c36
  exact cok_of_den (E := E145) (fn := Tryz.f145) (code := Tryz.f145.body.getD .skip) (hn := H145) (gr := []) (is := [.tmp 2]) ⟨tabOk, (fun c hc => by simp only [E145, List.mem_cons, List.not_mem_nil, or_false] at hc; rcases hc with rfl <;> assumption), mixOk⟩ ⟨by kernel_rfl, by kernel_rfl, by kernel_rfl, by kernel_rfl, by kernel_rfl, by decide, by kernel_rfl⟩ (fun x y h => (congrFun d145 x).trans h)

/-- spec.l04Value -/
noncomputable def C110 : Cal := ⟨110, [⟨.ro, .int .i64⟩], [⟨.bool, .ro⟩], fun x => spec_l04Value x.1⟩
def H110 : Hn := .z
noncomputable def E110 : Env := ⟨tab, [C36], 1, 5⟩
theorem d110 : (fun (x : HL (pts C110.ps)) => den E110 (Tryz.f110.body.getD .skip) H110 (initS 5 C110.ps x) (retK tab [] C110.ps C110.rs [.tmp 2]) (fun _ _ => none) (retK tab [] C110.ps C110.rs [.tmp 2])) = C110.F := by kernel_rfl
theorem c110 : Cok Tryz.prog C110 := by
  have h36 := c36
  exact cok_of_den (E := E110) (fn := Tryz.f110) (code := Tryz.f110.body.getD .skip) (hn := H110) (gr := []) (is := [.tmp 2]) ⟨tabOk, (fun c hc => by simp only [E110, List.mem_cons, List.not_mem_nil, or_false] at hc; rcases hc with rfl <;> assumption), mixOk⟩ ⟨by kernel_rfl, by kernel_rfl, by kernel_rfl, by kernel_rfl, by kernel_rfl, by decide, by kernel_rfl⟩ (fun x y h => (congrFun d110 x).trans h)

/-- spec.l04Fits -/
noncomputable def C120 : Cal := ⟨120, [⟨.ro, .int .i64⟩, ⟨.ro, .int .i64⟩, ⟨.ro, .int .i64⟩], [⟨.bool, .ro⟩], fun x => spec_l04Fits x.1 x.2.1 x.2.2.1⟩
def H120 : Hn := (.e .z (.e (.e .z (.e (.e .z (.e .z (.e (.e .z (.n ⟨[], [], (some ⟨[.snp 1 (.int .i64) [], .snp 2 (.int .i64) [], .snp 7 (.int .i64) [], .snp 12 (.bool) []], [], []⟩), false, []⟩ .z .z)) (.n ⟨[], [], (some ⟨[.snp 2 (.int .i64) []], [], []⟩), true, []⟩ .z .z)))) .z)) .z))
noncomputable def E120 : Env := ⟨tab, [C145, C110], 3, 25⟩
theorem d120 : (fun (x : HL (pts C120.ps)) => den E120 (Tryz.f120.body.getD .skip) H120 (initS 25 C120.ps x) (retK tab [] C120.ps C120.rs [.tmp 6]) (fun _ _ => none) (retK tab [] C120.ps C120.rs [.tmp 6])) = C120.F := by kernel_rfl
theorem c120 : Cok Tryz.prog C120 := by
  have h145 := c145
  have h110 := c110
  exact cok_of_den (E := E120) (fn := Tryz.f120) (code := Tryz.f120.body.getD .skip) (hn := H120) (gr := []) (is := [.tmp 6]) ⟨tabOk, (fun c hc => by simp only [E120, List.mem_cons, List.not_mem_nil, or_false] at hc; rcases hc with rfl | rfl <;> assumption), mixOk⟩ ⟨by kernel_rfl, by kernel_rfl, by kernel_rfl, by kernel_rfl, by kernel_rfl, by decide, by kernel_rfl⟩ (fun x y h => (congrFun d120 x).trans h)

/-- spec.NodeOk -/
noncomputable def C108 : Cal := ⟨108, [⟨.ro, .list 54 (T5)⟩, ⟨.ro, .int .i64⟩], [⟨.bool, .ro⟩], fun x => spec_NodeOk x.1 x.2.1⟩
def H108 : Hn := (.e .z (.e (.e (.n ⟨[], [], (some ⟨[.snp 0 (.list 54 (T5)) [], .snp 1 (.int .i64) [], .snp 24 (.bool) []], [], []⟩), false, []⟩ .z .z) .z) (.e (.n ⟨[], [], none, false, [(4, ⟨[], M5, [], [], none⟩), (5, ⟨[], M5, [], [], none⟩)]⟩ .z .z) (.e .z (.e (.e (.n ⟨[], [], (some ⟨[.snp 0 (.list 54 (T5)) [], .snp 1 (.int .i64) [], .snp 57 (.bool) [], .box 5 true (T5) (.ro)], [(5, ⟨11, []⟩)], []⟩), false, []⟩ .z .z) .z) (.e (.e (.n ⟨[], [], (some ⟨[.snp 0 (.list 54 (T5)) [], .snp 1 (.int .i64) [], .snp 75 (.bool) [], .box 5 true (T5) (.ro)], [(5, ⟨11, []⟩)], []⟩), false, [(0, .t 58), (1, .t 59), (2, .t 60), (3, .t 61), (4, .t 62), (5, .t 63), (6, .t 64), (7, .t 65), (8, .t 66), (9, .t 67), (10, .t 68), (11, .t 69), (12, .t 70), (13, .t 71), (14, .t 72), (15, .t 73), (16, .t 74), (17, .t 75)]⟩ .z .z) .z) (.e (.e .z (.n ⟨[], [], (some ⟨[], [], []⟩), true, []⟩ (.n ⟨[], [], (some ⟨[.snp 0 (.list 54 (T5)) [], .snp 1 (.int .i64) [], .snp 8 (.int .i64) [], .box 5 true (T5) (.ro)], [(5, ⟨11, []⟩)], []⟩), false, []⟩ (.e .z (.e (.n ⟨[], [], (some ⟨[.snp 0 (.list 54 (T5)) [], .snp 1 (.int .i64) [], .snp 8 (.int .i64) [], .box 5 true (T5) (.ro)], [(5, ⟨11, []⟩)], []⟩), true, []⟩ (.e (.e (.n ⟨[], [], (some ⟨[.snp 0 (.list 54 (T5)) [], .snp 1 (.int .i64) [], .snp 8 (.int .i64) [], .snp 107 (.bool) [], .box 5 true (T5) (.ro)], [(5, ⟨11, []⟩)], []⟩), false, [(0, .t 83), (1, .t 84), (2, .t 85), (3, .t 86), (4, .t 87), (5, .t 88), (6, .t 89), (7, .t 90), (8, .t 91), (9, .t 92), (10, .t 93), (11, .t 94), (12, .t 95), (13, .t 96), (14, .t 97), (15, .t 98), (16, .t 99), (17, .t 100), (18, .t 101), (19, .t 102), (20, .t 103), (21, .t 104), (22, .t 105), (23, .t 106), (24, .t 107)]⟩ .z .z) .z) (.e .z (.n ⟨[], [], (some ⟨[.snp 0 (.list 54 (T5)) [], .snp 1 (.int .i64) [], .snp 8 (.int .i64) [], .box 5 true (T5) (.ro)], [(5, ⟨11, []⟩)], []⟩), true, []⟩ (.n ⟨[], [], (some ⟨[.snp 0 (.list 54 (T5)) [], .snp 1 (.int .i64) [], .snp 8 (.int .i64) [], .snp 9 (.int .i64) [], .box 5 true (T5) (.ro)], [(5, ⟨11, []⟩)], []⟩), false, []⟩ (.e .z (.e (.e (.e (.n ⟨[], [], none, false, [(0, .t 113), (1, .t 114), (2, .t 115), (3, .t 116), (4, .t 117), (5, .t 118), (6, .t 119), (7, .t 120), (8, .t 121), (9, .t 122), (10, .t 123)]⟩ .z .z) .z) .z) .z)) .z) .z))) .z) .z)) .z) .z)) .z)))))))
noncomputable def E108 : Env := ⟨tab, [C36, C118, C119, C109, C120], 2, 124⟩
theorem d108 : (fun (x : HL (pts C108.ps)) => den E108 (Tryz.f108.body.getD .skip) H108 (initS 124 C108.ps x) (retK tab [] C108.ps C108.rs [.tmp 4]) (fun _ _ => none) (retK tab [] C108.ps C108.rs [.tmp 4])) = C108.F := by kernel_rfl
theorem c108 : Cok Tryz.prog C108 := by
  have h36 := c36
  have h118 := c118
  have h119 := c119
  have h109 := c109
  have h120 := c120
  exact cok_of_den (E := E108) (fn := Tryz.f108) (code := Tryz.f108.body.getD .skip) (hn := H108) (gr := []) (is := [.tmp 4]) ⟨tabOk, (fun c hc => by simp only [E108, List.mem_cons, List.not_mem_nil, or_false] at hc; rcases hc with rfl | rfl | rfl | rfl | rfl <;> assumption), mixOk⟩ ⟨by kernel_rfl, by kernel_rfl, by kernel_rfl, by kernel_rfl, by kernel_rfl, by decide, by kernel_rfl⟩ (fun x y h => (congrFun d108 x).trans h)

/-- spec.l04Deeps -/
noncomputable def C89 : Cal := ⟨89, [⟨.ro, .list 54 (T5)⟩, ⟨.ro, .int .i64⟩], [⟨.list 3 (.int .i64), .own (.ro)⟩], fun x => spec_l04Deeps x.1 x.2.1⟩
def H89 : Hn := (.e .z (.e (.n ⟨[], [.g 5], none, false, []⟩ .z .z) (.e (.e .z (.n ⟨[], [], (some ⟨[.dat 5 (.list 3 (.int .i64)) (.own (.ro))], [], []⟩), false, []⟩ (.n ⟨[], [], (some ⟨[.snp 0 (.list 54 (T5)) [], .snp 1 (.int .i64) [], .dat 5 (.list 3 (.int .i64)) (.own (.ro)), .snp 6 (.int .i64) []], [], []⟩), false, []⟩ (.e (.e (.n ⟨[], [], (some ⟨[.snp 0 (.list 54 (T5)) [], .snp 1 (.int .i64) [], .dat 5 (.list 3 (.int .i64)) (.own (.ro)), .snp 6 (.int .i64) [], .snp 18 (.bool) []], [], []⟩), false, []⟩ .z .z) .z) (.e (.n ⟨[], [], (some ⟨[.snp 0 (.list 54 (T5)) [], .snp 1 (.int .i64) [], .dat 5 (.list 3 (.int .i64)) (.own (.ro)), .snp 6 (.int .i64) []], [], []⟩), false, []⟩ (.e .z (.e (.e (.n ⟨[], [], (some ⟨[.snp 0 (.list 54 (T5)) [], .snp 1 (.int .i64) [], .dat 5 (.list 3 (.int .i64)) (.own (.ro)), .snp 6 (.int .i64) [], .snp 7 (.int .i64) [], .snp 36 (.bool) []], [], []⟩), false, []⟩ .z .z) (.n ⟨[], [], (some ⟨[.snp 0 (.list 54 (T5)) [], .snp 1 (.int .i64) [], .dat 5 (.list 3 (.int .i64)) (.own (.ro)), .snp 6 (.int .i64) [], .snp 7 (.int .i64) []], [], []⟩), false, []⟩ .z .z)) (.e (.e .z (.n ⟨[], [], (some ⟨[.snp 0 (.list 54 (T5)) [], .snp 1 (.int .i64) [], .dat 5 (.list 3 (.int .i64)) (.own (.ro)), .snp 6 (.int .i64) [], .snp 7 (.int .i64) []], [], []⟩), false, []⟩ (.n ⟨[], [], (some ⟨[.snp 0 (.list 54 (T5)) [], .snp 1 (.int .i64) [], .dat 5 (.list 3 (.int .i64)) (.own (.ro)), .snp 6 (.int .i64) [], .snp 7 (.int .i64) [], .snp 8 (.int .i64) []], [], []⟩), false, []⟩ (.e (.e (.n ⟨[], [], (some ⟨[.snp 0 (.list 54 (T5)) [], .snp 1 (.int .i64) [], .dat 5 (.list 3 (.int .i64)) (.own (.ro)), .snp 6 (.int .i64) [], .snp 7 (.int .i64) [], .snp 8 (.int .i64) [], .snp 48 (.bool) []], [], []⟩), false, []⟩ .z .z) .z) (.e (.e (.e .z (.n ⟨[], [], (some ⟨[.snp 0 (.list 54 (T5)) [], .snp 1 (.int .i64) [], .dat 5 (.list 3 (.int .i64)) (.own (.ro)), .snp 6 (.int .i64) [], .snp 7 (.int .i64) [], .snp 8 (.int .i64) []], [], []⟩), false, []⟩ .z .z)) .z) .z)) .z) .z)) (.e (.e .z (.n ⟨[], [], (some ⟨[.snp 0 (.list 54 (T5)) [], .snp 1 (.int .i64) [], .dat 5 (.list 3 (.int .i64)) (.own (.ro)), .snp 6 (.int .i64) [], .snp 7 (.int .i64) []], [], []⟩), false, []⟩ .z .z)) (.n ⟨[], [.g 5], none, false, [(3, ⟨[.g 79], .ro, [], [], none⟩)]⟩ .z .z))))) .z) .z)) .z) .z)) (.e (.n ⟨[], [.g 4], none, false, []⟩ .z .z) .z))))
noncomputable def E89 : Env := ⟨tab, [C108], 2, 84⟩
theorem d89 : (fun (x : HL (pts C89.ps)) => den E89 (Tryz.f89.body.getD .skip) H89 (initS 84 C89.ps x) (retK tab [] C89.ps C89.rs [.tmp 4]) (fun _ _ => none) (retK tab [] C89.ps C89.rs [.tmp 4])) = C89.F := by kernel_rfl
theorem c89 : Cok Tryz.prog C89 := by
  have h108 := c108
  exact cok_of_den (E := E89) (fn := Tryz.f89) (code := Tryz.f89.body.getD .skip) (hn := H89) (gr := []) (is := [.tmp 4]) ⟨tabOk, (fun c hc => by simp only [E89, List.mem_cons, List.not_mem_nil, or_false] at hc; rcases hc with rfl <;> assumption), mixOk⟩ ⟨by kernel_rfl, by kernel_rfl, by kernel_rfl, by kernel_rfl, by kernel_rfl, by decide, by kernel_rfl⟩ (fun x y h => (congrFun d89 x).trans h)

/-- spec.DeepOf -/
noncomputable def C68 : Cal := ⟨68, [⟨.ro, .list 54 (T5)⟩, ⟨.ro, .int .i64⟩], [⟨.int .i64, .ro⟩], fun x => spec_DeepOf x.1 x.2.1⟩
def H68 : Hn := .z
noncomputable def E68 : Env := ⟨tab, [C36, C89], 2, 17⟩
theorem d68 : (fun (x : HL (pts C68.ps)) => den E68 (Tryz.f68.body.getD .skip) H68 (initS 17 C68.ps x) (retK tab [] C68.ps C68.rs [.tmp 4]) (fun _ _ => none) (retK tab [] C68.ps C68.rs [.tmp 4])) = C68.F := by kernel_rfl
theorem c68 : Cok Tryz.prog C68 := by
  have h36 := c36
  have h89 := c89
  exact cok_of_den (E := E68) (fn := Tryz.f68) (code := Tryz.f68.body.getD .skip) (hn := H68) (gr := []) (is := [.tmp 4]) ⟨tabOk, (fun c hc => by simp only [E68, List.mem_cons, List.not_mem_nil, or_false] at hc; rcases hc with rfl | rfl <;> assumption), mixOk⟩ ⟨by kernel_rfl, by kernel_rfl, by kernel_rfl, by kernel_rfl, by kernel_rfl, by decide, by kernel_rfl⟩ (fun x y h => (congrFun d68 x).trans h)

/-- spec.l04Mark -/
def P69 : List Prm := [⟨.ro, .list 54 (T5)⟩, ⟨.ro, .int .i64⟩, ⟨.inp (.own (.ro)), .list 4 (.bool)⟩]
def Q69 : List Ret := []
noncomputable def N69 (n : Nat) : Cal := ⟨69, P69, Q69, fun x => (R_spec_l04Mark n).1 x.1 x.2.1 x.2.2.1⟩
def H69 : Hn := (.e .z (.e (.n ⟨[], [], none, false, [(3, ⟨[], .ro, [], [], some 5⟩)]⟩ .z .z) (.e .z (.n ⟨[], [], (some ⟨[.box 2 false (.list 4 (.bool)) (.own (.ro))], [], []⟩), false, []⟩ (.n ⟨[], [], (some ⟨[.snp 0 (.list 54 (T5)) [], .snp 1 (.int .i64) [], .snp 6 (.int .i64) [], .box 2 false (.list 4 (.bool)) (.own (.ro))], [], [(2, 2)]⟩), false, []⟩ .z .z) .z))))
noncomputable def E69 (n : Nat) : Env := ⟨tab, [N69 n], 3, 35⟩
theorem d69 : (fun (n : Nat) (x : HL (pts P69)) => den (E69 n) (Tryz.f69.body.getD .skip) H69 (initS 35 P69 x) (retK tab [] P69 Q69 []) (fun _ _ => none) (retK tab [] P69 Q69 [])) = fun n => (N69 (n + 1)).F := by kernel_rfl
theorem cN69 : ∀ n, Cok Tryz.prog (N69 n) := by
  intro n
  induction n with
  | zero => exact cok_none (fn := Tryz.f69) (by kernel_rfl) (by kernel_rfl) (by kernel_rfl) (fun _ => rfl)
  | succ n ih =>
    have h69 := ih
    refine ?_
    · exact cok_of_den (E := E69 n) (c := N69 (n + 1)) (fn := Tryz.f69) (code := Tryz.f69.body.getD .skip) (hn := H69) (gr := []) (is := []) ⟨tabOk, (fun c hc => by simp only [E69, List.mem_cons, List.not_mem_nil, or_false] at hc; rcases hc with rfl <;> assumption), mixOk⟩ ⟨by kernel_rfl, by kernel_rfl, by kernel_rfl, by kernel_rfl, by kernel_rfl, Nat.le_of_ble_eq_true rfl, by kernel_rfl⟩ (fun x y h => (congrFun (congrFun d69 n) x).trans h)
noncomputable def C69 : Cal := ⟨69, P69, Q69, fun x => spec_l04Mark x.1 x.2.1 x.2.2.1⟩
theorem c69 : Cok Tryz.prog C69 := cok_lim (F := fun n => (N69 n).F) (fun n => (cN69 n))

/-- spec.Under -/
noncomputable def C37 : Cal := ⟨37, [⟨.ro, T2⟩, ⟨.ro, .int .i64⟩], [⟨.list 3 (.int .i64), .own (.ro)⟩], fun x => spec_Under x.1 x.2.1⟩
def H37 : Hn := (.e (.n ⟨[], [], none, false, [(0, ⟨[], M1, [], [], none⟩)]⟩ .z .z) (.e (.n ⟨[], [.g 5], none, false, []⟩ .z .z) (.e (.e .z (.e (.e (.n ⟨[], [.g 4], none, false, []⟩ .z .z) .z) .z)) (.e (.n ⟨[], [.g 6], none, false, []⟩ .z .z) (.e .z (.e (.e .z (.n ⟨[], [], (some ⟨[.dat 5 (.list 3 (.int .i64)) (.own (.ro))], [], []⟩), false, []⟩ (.n ⟨[], [], (some ⟨[.dat 5 (.list 3 (.int .i64)) (.own (.ro)), .dat 6 (.list 4 (.bool)) (.own (.ro)), .snp 7 (.int .i64) []], [], []⟩), false, []⟩ (.e .z (.e (.e (.e .z (.n ⟨[], [], (some ⟨[.dat 5 (.list 3 (.int .i64)) (.own (.ro)), .dat 6 (.list 4 (.bool)) (.own (.ro)), .snp 7 (.int .i64) []], [], []⟩), false, []⟩ (.n ⟨[], [.g 5], none, false, [(3, ⟨[.g 34], .ro, [], [], none⟩)]⟩ .z .z) .z)) .z) .z)) .z) .z)) (.e (.n ⟨[], [.g 4], none, false, []⟩ .z .z) .z)))))))
noncomputable def E37 : Env := ⟨tab, [C68, C69], 2, 39⟩
theorem d37 : (fun (x : HL (pts C37.ps)) => den E37 (Tryz.f37.body.getD .skip) H37 (initS 39 C37.ps x) (retK tab [] C37.ps C37.rs [.tmp 4]) (fun _ _ => none) (retK tab [] C37.ps C37.rs [.tmp 4])) = C37.F := by kernel_rfl
theorem c37 : Cok Tryz.prog C37 := by
  have h68 := c68
  have h69 := c69
  exact cok_of_den (E := E37) (fn := Tryz.f37) (code := Tryz.f37.body.getD .skip) (hn := H37) (gr := []) (is := [.tmp 4]) ⟨tabOk, (fun c hc => by simp only [E37, List.mem_cons, List.not_mem_nil, or_false] at hc; rcases hc with rfl | rfl <;> assumption), mixOk⟩ ⟨by kernel_rfl, by kernel_rfl, by kernel_rfl, by kernel_rfl, by kernel_rfl, by decide, by kernel_rfl⟩ (fun x y h => (congrFun d37 x).trans h)

/-- spec.VarsOf -/
noncomputable def C24 : Cal := ⟨24, [⟨.ro, T2⟩, ⟨.ro, .int .i64⟩], [⟨.list 52 (T7), .own (.ro)⟩], fun x => spec_VarsOf x.1 x.2.1⟩
def H24 : Hn := (.e (.n ⟨[], [], none, false, [(0, ⟨[], M1, [], [], none⟩)]⟩ .z .z) (.e (.n ⟨[], [.g 5], none, false, []⟩ .z .z) (.e (.e .z (.e (.e (.n ⟨[], [.g 4], none, false, []⟩ .z .z) .z) .z)) (.e (.n ⟨[], [], none, false, [(5, ⟨[], M3, [], [], none⟩), (6, ⟨[], M3, [], [], none⟩)]⟩ .z .z) (.e (.e .z (.n ⟨[], [], (some ⟨[.dat 5 (.list 52 (T7)) (.own (.ro)), .box 2 true (T2) (.ro), .box 6 true (T4) (.ro)], [(2, ⟨5, []⟩), (6, ⟨13, []⟩)], []⟩), false, []⟩ (.n ⟨[], [], (some ⟨[.dat 5 (.list 52 (T7)) (.own (.ro)), .snp 7 (.int .i64) [], .box 2 true (T2) (.ro), .box 6 true (T4) (.ro)], [(2, ⟨5, []⟩), (6, ⟨13, []⟩)], []⟩), false, []⟩ (.e .z (.e (.e (.n ⟨[], [.g 5], none, false, [(0, .t 31), (1, .t 32), (2, .t 33), (3, .t 34), (4, .t 35), (5, .t 36), (6, .t 37), (7, .t 38), (8, .t 39), (9, .t 40), (10, .t 41), (11, .t 42), (12, .t 43), (13, .t 44), (14, .t 45), (15, ⟨[.g 31], .ro, [5, 31, 46], [], none⟩), (16, .t 5)]⟩ .z .z) .z) .z)) .z) .z)) (.e (.n ⟨[], [.g 8], none, false, []⟩ .z .z) (.e (.e .z (.n ⟨[], [], (some ⟨[.dat 5 (.list 52 (T7)) (.own (.ro))], [], []⟩), false, []⟩ (.n ⟨[], [], (some ⟨[.dat 5 (.list 52 (T7)) (.own (.ro)), .dat 8 (.list 3 (.int .i64)) (.own (.ro)), .snp 9 (.int .i64) [], .box 2 true (T2) (.ro)], [(2, ⟨5, []⟩)], []⟩), false, []⟩ (.e .z (.e (.e (.e (.n ⟨[], [], none, false, [(0, .t 57), (1, .t 58), (2, .t 59), (3, .t 60), (4, .t 61), (5, .t 62), (6, .t 63), (7, .t 64), (8, .t 65), (9, .t 66)]⟩ .z .z) (.n ⟨[], [], (some ⟨[.dat 5 (.list 52 (T7)) (.own (.ro)), .dat 8 (.list 3 (.int .i64)) (.own (.ro)), .snp 9 (.int .i64) [], .box 2 true (T2) (.ro)], [(2, ⟨5, []⟩)], []⟩), false, []⟩ (.n ⟨[], [.g 5], none, false, [(0, .t 67), (1, .t 68), (2, .t 69), (3, .t 70), (4, .t 71), (5, .t 72), (6, .t 73), (7, .t 74), (8, .t 75), (9, .t 76), (10, .t 77), (11, .t 78), (12, .t 79), (13, .t 80), (14, .t 81), (15, .t 82), (16, ⟨[.g 67], .ro, [5, 67, 83], [], none⟩), (17, .t 5)]⟩ .z .z) .z)) .z) .z)) .z) .z)) (.e (.n ⟨[], [.g 4], none, false, []⟩ .z .z) .z))))))))
noncomputable def E24 : Env := ⟨tab, [C36, C37], 2, 85⟩
theorem d24 : (fun (x : HL (pts C24.ps)) => den E24 (Tryz.f24.body.getD .skip) H24 (initS 85 C24.ps x) (retK tab [] C24.ps C24.rs [.tmp 4]) (fun _ _ => none) (retK tab [] C24.ps C24.rs [.tmp 4])) = C24.F := by kernel_rfl
theorem c24 : Cok Tryz.prog C24 := by
  have h36 := c36
  have h37 := c37
  exact cok_of_den (E := E24) (fn := Tryz.f24) (code := Tryz.f24.body.getD .skip) (hn := H24) (gr := []) (is := [.tmp 4]) ⟨tabOk, (fun c hc => by simp only [E24, List.mem_cons, List.not_mem_nil, or_false] at hc; rcases hc with rfl | rfl <;> assumption), mixOk⟩ ⟨by kernel_rfl, by kernel_rfl, by kernel_rfl, by kernel_rfl, by kernel_rfl, by decide, by kernel_rfl⟩ (fun x y h => (congrFun d24 x).trans h)

/-- spec.l07All -/
noncomputable def C53 : Cal := ⟨53, [⟨.ro, T2⟩, ⟨.ro, .int .i64⟩], [⟨.list 3 (.int .i64), .own (.ro)⟩], fun x => spec_l07All x.1 x.2.1⟩
def H53 : Hn := (.e (.n ⟨[], [], none, false, [(0, ⟨[], M1, [], [], none⟩)]⟩ .z .z) (.e (.n ⟨[], [.g 5], none, false, []⟩ .z .z) (.e (.e .z (.e (.e (.n ⟨[], [.g 4], none, false, []⟩ .z .z) .z) .z)) (.e (.n ⟨[], [.g 6], none, false, [(0, .t 19), (1, .t 20), (2, .t 21), (3, .t 22), (4, .t 23), (5, .t 24), (6, .t 25), (7, .t 26), (8, .t 6)]⟩ .z .z) (.e (.n ⟨[], [.g 7], none, false, [(0, .t 27), (1, .t 28), (2, .t 29), (3, .t 30), (4, .t 31), (5, .t 32), (6, .t 33), (7, .t 34), (8, .t 7)]⟩ .z .z) (.e .z (.e .z (.e (.n ⟨[], [], (some ⟨[.dat 5 (.list 3 (.int .i64)) (.own (.ro))], [], []⟩), false, []⟩ (.n ⟨[], [], (some ⟨[.dat 5 (.list 3 (.int .i64)) (.own (.ro)), .dat 6 (.list 3 (.int .i64)) (.own (.ro)), .dat 7 (.list 3 (.int .i64)) (.own (.ro)), .snp 8 (.int .i64) [], .snp 9 (.int .i64) []], [], []⟩), false, []⟩ (.e (.e (.n ⟨[], [], (some ⟨[.dat 5 (.list 3 (.int .i64)) (.own (.ro)), .dat 6 (.list 3 (.int .i64)) (.own (.ro)), .dat 7 (.list 3 (.int .i64)) (.own (.ro)), .snp 8 (.int .i64) [], .snp 9 (.int .i64) [], .snp 44 (.bool) []], [], []⟩), false, []⟩ .z .z) .z) (.n ⟨[], [], (some ⟨[.dat 5 (.list 3 (.int .i64)) (.own (.ro)), .dat 6 (.list 3 (.int .i64)) (.own (.ro)), .dat 7 (.list 3 (.int .i64)) (.own (.ro)), .snp 8 (.int .i64) [], .snp 9 (.int .i64) []], [], []⟩), false, []⟩ (.e (.e (.n ⟨[], [], (some ⟨[.dat 5 (.list 3 (.int .i64)) (.own (.ro)), .dat 6 (.list 3 (.int .i64)) (.own (.ro)), .dat 7 (.list 3 (.int .i64)) (.own (.ro)), .snp 8 (.int .i64) [], .snp 9 (.int .i64) [], .snp 65 (.bool) []], [], []⟩), false, [(0, .t 45), (1, .t 46), (2, .t 47), (3, .t 48), (4, .t 49), (5, .t 50), (6, .t 51), (7, .t 52), (8, .t 53), (9, .t 54), (10, .t 55), (11, .t 56), (12, .t 57), (13, .t 58), (14, .t 59), (15, .t 60), (16, .t 61), (17, .t 62), (18, .t 63), (19, .t 64), (20, .t 65)]⟩ .z .z) (.e (.e (.n ⟨[], [.g 5], none, false, [(6, ⟨[.g 66], .ro, [], [], none⟩)]⟩ .z .z) .z) .z)) (.e (.e (.n ⟨[], [], (some ⟨[.dat 5 (.list 3 (.int .i64)) (.own (.ro)), .dat 6 (.list 3 (.int .i64)) (.own (.ro)), .dat 7 (.list 3 (.int .i64)) (.own (.ro)), .snp 8 (.int .i64) [], .snp 9 (.int .i64) [], .snp 89 (.bool) []], [], []⟩), false, [(0, .t 75), (1, .t 76), (2, .t 77), (3, .t 78), (4, .t 79), (5, .t 80), (6, .t 81), (7, .t 82), (8, .t 83), (9, .t 84), (10, .t 85), (11, .t 86), (12, .t 87), (13, .t 88), (14, .t 89)]⟩ .z .z) (.n ⟨[], [], (some ⟨[.dat 5 (.list 3 (.int .i64)) (.own (.ro)), .dat 6 (.list 3 (.int .i64)) (.own (.ro)), .dat 7 (.list 3 (.int .i64)) (.own (.ro)), .snp 8 (.int .i64) [], .snp 9 (.int .i64) []], [], []⟩), false, []⟩ .z .z)) (.e (.n ⟨[], [.g 5], none, false, [(6, ⟨[.g 92], .ro, [], [], none⟩)]⟩ .z .z) .z))) .z)) .z) .z) (.e (.n ⟨[], [.g 4], none, false, []⟩ .z .z) .z)))))))))
noncomputable def E53 : Env := ⟨tab, [C36, C37], 2, 102⟩
theorem d53 : (fun (x : HL (pts C53.ps)) => den E53 (Tryz.f53.body.getD .skip) H53 (initS 102 C53.ps x) (retK tab [] C53.ps C53.rs [.tmp 4]) (fun _ _ => none) (retK tab [] C53.ps C53.rs [.tmp 4])) = C53.F := by kernel_rfl
theorem c53 : Cok Tryz.prog C53 := by
  have h36 := c36
  have h37 := c37
  exact cok_of_den (E := E53) (fn := Tryz.f53) (code := Tryz.f53.body.getD .skip) (hn := H53) (gr := []) (is := [.tmp 4]) ⟨tabOk, (fun c hc => by simp only [E53, List.mem_cons, List.not_mem_nil, or_false] at hc; rcases hc with rfl | rfl <;> assumption), mixOk⟩ ⟨by kernel_rfl, by kernel_rfl, by kernel_rfl, by kernel_rfl, by kernel_rfl, by decide, by kernel_rfl⟩ (fun x y h => (congrFun d53 x).trans h)

/-- spec.l07Uses -/
noncomputable def C54 : Cal := ⟨54, [⟨.ro, .int .i64⟩], [⟨.bool, .ro⟩], fun x => spec_l07Uses x.1⟩
def H54 : Hn := (.e .z (.e (.e .z (.e (.e (.e .z (.n ⟨[], [], (some ⟨[.snp 4 (.bool) []], [], []⟩), false, []⟩ .z (.e .z (.n ⟨[], [], (some ⟨[.snp 4 (.bool) []], [], []⟩), false, []⟩ .z (.e .z (.n ⟨[], [], (some ⟨[.snp 4 (.bool) []], [], []⟩), false, []⟩ .z (.e .z (.n ⟨[], [], (some ⟨[.snp 4 (.bool) []], [], []⟩), false, []⟩ .z (.e .z (.n ⟨[], [], (some ⟨[.snp 4 (.bool) []], [], []⟩), false, []⟩ .z (.e .z (.n ⟨[], [], (some ⟨[.snp 4 (.bool) []], [], []⟩), false, []⟩ .z .z)))))))))))) .z) .z)) .z))
noncomputable def E54 : Env := ⟨tab, [], 1, 12⟩
theorem d54 : (fun (x : HL (pts C54.ps)) => den E54 (Tryz.f54.body.getD .skip) H54 (initS 12 C54.ps x) (retK tab [] C54.ps C54.rs [.tmp 2]) (fun _ _ => none) (retK tab [] C54.ps C54.rs [.tmp 2])) = C54.F := by kernel_rfl
theorem c54 : Cok Tryz.prog C54 := by
  exact cok_of_den (E := E54) (fn := Tryz.f54) (code := Tryz.f54.body.getD .skip) (hn := H54) (gr := []) (is := [.tmp 2]) ⟨tabOk, (fun c hc => by cases hc), mixOk⟩ ⟨by kernel_rfl, by kernel_rfl, by kernel_rfl, by kernel_rfl, by kernel_rfl, by decide, by kernel_rfl⟩ (fun x y h => (congrFun d54 x).trans h)

/-- spec.UsesOf -/
noncomputable def C25 : Cal := ⟨25, [⟨.ro, T2⟩, ⟨.ro, .int .i64⟩, ⟨.ro, .str⟩], [⟨.list 3 (.int .i64), .own (.ro)⟩], fun x => spec_UsesOf x.1 x.2.1 x.2.2.1⟩
def H25 : Hn := (.e (.n ⟨[], [], none, false, [(0, ⟨[], M1, [], [], none⟩)]⟩ .z .z) (.e (.n ⟨[], [.g 7], none, false, []⟩ .z .z) (.e (.n ⟨[], [.g 8], none, false, []⟩ .z .z) (.e (.e .z (.n ⟨[], [], (some ⟨[.dat 7 (.list 3 (.int .i64)) (.own (.ro))], [], []⟩), false, []⟩ (.n ⟨[], [], (some ⟨[.snp 2 (.str) [], .dat 7 (.list 3 (.int .i64)) (.own (.ro)), .dat 8 (.list 3 (.int .i64)) (.own (.ro)), .snp 9 (.int .i64) [], .box 3 true (T2) (.ro)], [(3, ⟨7, []⟩)], []⟩), false, []⟩ (.e .z (.e (.e (.e (.n ⟨[], [], (some ⟨[.snp 2 (.str) [], .dat 7 (.list 3 (.int .i64)) (.own (.ro)), .dat 8 (.list 3 (.int .i64)) (.own (.ro)), .snp 9 (.int .i64) [], .snp 42 (.bool) [], .box 3 true (T2) (.ro)], [(3, ⟨7, []⟩)], []⟩), false, [(0, .t 20), (1, .t 21), (2, .t 22), (3, .t 23), (4, .t 24), (5, .t 25), (6, .t 26), (7, .t 27), (8, .t 28), (9, .t 29), (10, .t 30), (11, .t 31), (12, .t 32), (13, .t 33), (14, .t 34), (15, .t 35), (16, .t 36), (17, .t 37), (18, .t 38), (19, .t 39), (20, .t 40), (21, .t 41), (22, .t 42)]⟩ .z .z) (.n ⟨[], [], (some ⟨[.snp 2 (.str) [], .dat 7 (.list 3 (.int .i64)) (.own (.ro)), .dat 8 (.list 3 (.int .i64)) (.own (.ro)), .snp 9 (.int .i64) [], .box 3 true (T2) (.ro)], [(3, ⟨7, []⟩)], []⟩), false, []⟩ (.n ⟨[], [.g 7], none, false, [(6, ⟨[.g 43], .ro, [], [], none⟩)]⟩ .z .z) .z)) .z) .z)) .z) .z)) (.e (.n ⟨[], [.g 6], none, false, []⟩ .z .z) .z)))))
noncomputable def E25 : Env := ⟨tab, [C53, C54], 3, 51⟩
theorem d25 : (fun (x : HL (pts C25.ps)) => den E25 (Tryz.f25.body.getD .skip) H25 (initS 51 C25.ps x) (retK tab [] C25.ps C25.rs [.tmp 6]) (fun _ _ => none) (retK tab [] C25.ps C25.rs [.tmp 6])) = C25.F := by kernel_rfl
theorem c25 : Cok Tryz.prog C25 := by
  have h53 := c53
  have h54 := c54
  exact cok_of_den (E := E25) (fn := Tryz.f25) (code := Tryz.f25.body.getD .skip) (hn := H25) (gr := []) (is := [.tmp 6]) ⟨tabOk, (fun c hc => by simp only [E25, List.mem_cons, List.not_mem_nil, or_false] at hc; rcases hc with rfl | rfl <;> assumption), mixOk⟩ ⟨by kernel_rfl, by kernel_rfl, by kernel_rfl, by kernel_rfl, by kernel_rfl, by decide, by kernel_rfl⟩ (fun x y h => (congrFun d25 x).trans h)

/-- spec.UnusedVars -/
noncomputable def C7 : Cal := ⟨7, [⟨.ro, T2⟩, ⟨.ro, .int .i64⟩], [⟨.list 9 (.str), .own (.ro)⟩], fun x => spec_UnusedVars x.1 x.2.1⟩
def H7 : Hn := (.e (.n ⟨[], [], none, false, [(0, ⟨[], M1, [], [], none⟩)]⟩ .z .z) (.e (.n ⟨[], [.g 5], none, false, []⟩ .z .z) (.e (.n ⟨[], [.g 6], none, false, []⟩ .z .z) (.e (.e .z (.n ⟨[], [], (some ⟨[.dat 5 (.list 9 (.str)) (.own (.ro))], [], []⟩), false, []⟩ (.n ⟨[], [], (some ⟨[.snp 1 (.int .i64) [], .dat 5 (.list 9 (.str)) (.own (.ro)), .dat 6 (.list 52 (T7)) (.own (.ro)), .snp 7 (.int .i64) [], .box 2 true (T2) (.ro)], [(2, ⟨5, []⟩)], []⟩), false, []⟩ (.e .z (.e (.n ⟨[], [], (some ⟨[.snp 1 (.int .i64) [], .dat 5 (.list 9 (.str)) (.own (.ro)), .dat 6 (.list 52 (T7)) (.own (.ro)), .snp 7 (.int .i64) [], .box 2 true (T2) (.ro)], [(2, ⟨5, []⟩)], []⟩), false, []⟩ (.e .z (.e (.n ⟨[], [.g 9], none, false, [(0, .t 21), (1, .t 22), (2, .t 23), (3, .t 24), (4, .t 25), (5, .t 26), (6, .t 27), (7, .t 28), (8, .t 9)]⟩ .z .z) (.e (.e .z (.n ⟨[], [], (some ⟨[.snp 1 (.int .i64) [], .dat 5 (.list 9 (.str)) (.own (.ro)), .dat 6 (.list 52 (T7)) (.own (.ro)), .snp 7 (.int .i64) [], .snp 8 (.bool) [], .box 2 true (T2) (.ro)], [(2, ⟨5, []⟩)], []⟩), false, []⟩ (.n ⟨[], [], (some ⟨[.snp 1 (.int .i64) [], .dat 5 (.list 9 (.str)) (.own (.ro)), .dat 6 (.list 52 (T7)) (.own (.ro)), .snp 7 (.int .i64) [], .snp 8 (.bool) [], .dat 9 (.list 3 (.int .i64)) (.own (.ro)), .snp 10 (.int .i64) [], .box 2 true (T2) (.ro)], [(2, ⟨5, []⟩)], []⟩), false, []⟩ (.e .z (.e (.e (.n ⟨[], [], (some ⟨[.snp 1 (.int .i64) [], .dat 5 (.list 9 (.str)) (.own (.ro)), .dat 6 (.list 52 (T7)) (.own (.ro)), .snp 7 (.int .i64) [], .snp 8 (.bool) [], .dat 9 (.list 3 (.int .i64)) (.own (.ro)), .snp 10 (.int .i64) [], .box 2 true (T2) (.ro)], [(2, ⟨5, []⟩)], []⟩), false, [(0, .t 35), (1, .t 36), (2, .t 37), (3, .t 38), (4, .t 39), (5, .t 40), (6, .t 41), (7, .t 42), (8, .t 43), (9, .t 44), (10, .t 45), (11, .t 46), (12, .t 47), (13, .t 8)]⟩ .z .z) .z) .z)) .z) .z)) (.e .z (.n ⟨[], [], (some ⟨[.snp 1 (.int .i64) [], .dat 5 (.list 9 (.str)) (.own (.ro)), .dat 6 (.list 52 (T7)) (.own (.ro)), .snp 7 (.int .i64) [], .box 2 true (T2) (.ro)], [(2, ⟨5, []⟩)], []⟩), false, []⟩ (.n ⟨[], [.g 5], none, false, [(7, ⟨[.g 50], .ro, [], [], none⟩)]⟩ .z .z) .z))))) .z) .z)) .z) .z)) (.e (.n ⟨[], [.g 4], none, false, []⟩ .z .z) .z)))))
noncomputable def E7 : Env := ⟨tab, [C24, C25], 2, 59⟩
theorem d7 : (fun (x : HL (pts C7.ps)) => den E7 (Tryz.f7.body.getD .skip) H7 (initS 59 C7.ps x) (retK tab [] C7.ps C7.rs [.tmp 4]) (fun _ _ => none) (retK tab [] C7.ps C7.rs [.tmp 4])) = C7.F := by kernel_rfl
theorem c7 : Cok Tryz.prog C7 := by
  have h24 := c24
  have h25 := c25
  exact cok_of_den (E := E7) (fn := Tryz.f7) (code := Tryz.f7.body.getD .skip) (hn := H7) (gr := []) (is := [.tmp 4]) ⟨tabOk, (fun c hc => by simp only [E7, List.mem_cons, List.not_mem_nil, or_false] at hc; rcases hc with rfl | rfl <;> assumption), mixOk⟩ ⟨by kernel_rfl, by kernel_rfl, by kernel_rfl, by kernel_rfl, by kernel_rfl, by decide, by kernel_rfl⟩ (fun x y h => (congrFun d7 x).trans h)

/-- impl.in -/
noncomputable def C42 : Cal := ⟨42, [⟨.ro, .int .i64⟩, ⟨.ro, .int .i64⟩, ⟨.ro, .int .i64⟩], [⟨.bool, .ro⟩], fun x => impl_in x.1 x.2.1 x.2.2.1⟩
def H42 : Hn := (.e .z (.e (.n ⟨[], [], (some ⟨[.snp 6 (.bool) []], [], []⟩), false, []⟩ .z .z) .z))
noncomputable def E42 : Env := ⟨tab, [], 3, 15⟩
theorem d42 : (fun (x : HL (pts C42.ps)) => den E42 (Tryz.f42.body.getD .skip) H42 (initS 15 C42.ps x) (retK tab [] C42.ps C42.rs [.tmp 6]) (fun _ _ => none) (retK tab [] C42.ps C42.rs [.tmp 6])) = C42.F := by kernel_rfl
theorem c42 : Cok Tryz.prog C42 := by
  exact cok_of_den (E := E42) (fn := Tryz.f42) (code := Tryz.f42.body.getD .skip) (hn := H42) (gr := []) (is := [.tmp 6]) ⟨tabOk, (fun c hc => by cases hc), mixOk⟩ ⟨by kernel_rfl, by kernel_rfl, by kernel_rfl, by kernel_rfl, by kernel_rfl, by decide, by kernel_rfl⟩ (fun x y h => (congrFun d42 x).trans h)

/-- impl.shape -/
noncomputable def C138 : Cal := ⟨138, [⟨.ro, .int .i64⟩], [⟨.int .i64, .ro⟩, ⟨.int .i64, .ro⟩], fun x => impl_shape x.1⟩
def H138 : Hn := (.e .z (.e (.e .z (.e (.e (.e .z (.n ⟨[], [], (some ⟨[.snp 4 (.int .i64) [], .snp 5 (.bool) []], [], []⟩), false, []⟩ .z (.e .z (.n ⟨[], [], (some ⟨[.snp 4 (.int .i64) [], .snp 5 (.bool) []], [], []⟩), false, []⟩ .z (.e .z (.n ⟨[], [], (some ⟨[.snp 4 (.int .i64) [], .snp 5 (.bool) []], [], []⟩), false, []⟩ .z (.e .z (.n ⟨[], [], (some ⟨[.snp 4 (.int .i64) [], .snp 5 (.bool) []], [], []⟩), false, []⟩ .z (.e .z (.n ⟨[], [], (some ⟨[.snp 4 (.int .i64) [], .snp 5 (.bool) []], [], []⟩), false, []⟩ .z .z)))))))))) (.e .z (.e (.e .z (.n ⟨[], [], (some ⟨[.snp 4 (.int .i64) [], .snp 12 (.bool) []], [], []⟩), false, []⟩ .z (.e .z (.n ⟨[], [], (some ⟨[.snp 4 (.int .i64) [], .snp 12 (.bool) []], [], []⟩), false, []⟩ .z (.e .z (.n ⟨[], [], (some ⟨[.snp 4 (.int .i64) [], .snp 12 (.bool) []], [], []⟩), false, []⟩ .z .z)))))) .z))) .z)) .z))
noncomputable def E138 : Env := ⟨tab, [], 1, 23⟩
theorem d138 : (fun (x : HL (pts C138.ps)) => den E138 (Tryz.f138.body.getD .skip) H138 (initS 23 C138.ps x) (retK tab [] C138.ps C138.rs [.tmp 2, .tmp 3]) (fun _ _ => none) (retK tab [] C138.ps C138.rs [.tmp 2, .tmp 3])) = C138.F := by kernel_rfl
theorem c138 : Cok Tryz.prog C138 := by
  exact cok_of_den (E := E138) (fn := Tryz.f138) (code := Tryz.f138.body.getD .skip) (hn := H138) (gr := []) (is := [.tmp 2, .tmp 3]) ⟨tabOk, (fun c hc => by cases hc), mixOk⟩ ⟨by kernel_rfl, by kernel_rfl, by kernel_rfl, by kernel_rfl, by kernel_rfl, by decide, by kernel_rfl⟩ (fun x y h => (congrFun d138 x).trans h)

/-- impl.hasInt -/
noncomputable def C50 : Cal := ⟨50, [⟨.ro, .list 3 (.int .i64)⟩, ⟨.ro, .int .i64⟩], [⟨.bool, .ro⟩], fun x => impl_hasInt x.1 x.2.1⟩
def H50 : Hn := (.e .z (.e (.e .z (.n ⟨[], [], (some ⟨[], [], []⟩), true, []⟩ (.n ⟨[], [], (some ⟨[.snp 1 (.int .i64) [], .snp 7 (.list 3 (.int .i64)) [], .snp 8 (.int .i64) [], .snp 9 (.int .i64) []], [], []⟩), false, []⟩ .z .z) .z)) .z))
noncomputable def E50 : Env := ⟨tab, [], 2, 17⟩
theorem d50 : (fun (x : HL (pts C50.ps)) => den E50 (Tryz.f50.body.getD .skip) H50 (initS 17 C50.ps x) (retK tab [] C50.ps C50.rs [.tmp 4]) (fun _ _ => none) (retK tab [] C50.ps C50.rs [.tmp 4])) = C50.F := by kernel_rfl
theorem c50 : Cok Tryz.prog C50 := by
  exact cok_of_den (E := E50) (fn := Tryz.f50) (code := Tryz.f50.body.getD .skip) (hn := H50) (gr := []) (is := [.tmp 4]) ⟨tabOk, (fun c hc => by cases hc), mixOk⟩ ⟨by kernel_rfl, by kernel_rfl, by kernel_rfl, by kernel_rfl, by kernel_rfl, by decide, by kernel_rfl⟩ (fun x y h => (congrFun d50 x).trans h)

/-- impl.isStep -/
noncomputable def C154 : Cal := ⟨154, [⟨.ro, .int .i64⟩], [⟨.bool, .ro⟩], fun x => impl_isStep x.1⟩
def H154 : Hn := .z
noncomputable def E154 : Env := ⟨tab, [C42], 1, 5⟩
theorem d154 : (fun (x : HL (pts C154.ps)) => den E154 (Tryz.f154.body.getD .skip) H154 (initS 5 C154.ps x) (retK tab [] C154.ps C154.rs [.tmp 2]) (fun _ _ => none) (retK tab [] C154.ps C154.rs [.tmp 2])) = C154.F := by kernel_rfl
theorem c154 : Cok Tryz.prog C154 := by
  have h42 := c42
  exact cok_of_den (E := E154) (fn := Tryz.f154) (code := Tryz.f154.body.getD .skip) (hn := H154) (gr := []) (is := [.tmp 2]) ⟨tabOk, (fun c hc => by simp only [E154, List.mem_cons, List.not_mem_nil, or_false] at hc; rcases hc with rfl <;> assumption), mixOk⟩ ⟨by kernel_rfl, by kernel_rfl, by kernel_rfl, by kernel_rfl, by kernel_rfl, by decide, by kernel_rfl⟩ (fun x y h => (congrFun d154 x).trans h)

/-- impl.isValue -/
noncomputable def C112 : Cal := ⟨112, [⟨.ro, .int .i64⟩], [⟨.bool, .ro⟩], fun x => impl_isValue x.1⟩
def H112 : Hn := .z
noncomputable def E112 : Env := ⟨tab, [C42], 1, 5⟩
theorem d112 : (fun (x : HL (pts C112.ps)) => den E112 (Tryz.f112.body.getD .skip) H112 (initS 5 C112.ps x) (retK tab [] C112.ps C112.rs [.tmp 2]) (fun _ _ => none) (retK tab [] C112.ps C112.rs [.tmp 2])) = C112.F := by kernel_rfl
theorem c112 : Cok Tryz.prog C112 := by
  have h42 := c42
  exact cok_of_den (E := E112) (fn := Tryz.f112) (code := Tryz.f112.body.getD .skip) (hn := H112) (gr := []) (is := [.tmp 2]) ⟨tabOk, (fun c hc => by simp only [E112, List.mem_cons, List.not_mem_nil, or_false] at hc; rcases hc with rfl <;> assumption), mixOk⟩ ⟨by kernel_rfl, by kernel_rfl, by kernel_rfl, by kernel_rfl, by kernel_rfl, by decide, by kernel_rfl⟩ (fun x y h => (congrFun d112 x).trans h)

/-- impl.kidFits -/
noncomputable def C139 : Cal := ⟨139, [⟨.ro, .int .i64⟩, ⟨.ro, .int .i64⟩, ⟨.ro, .int .i64⟩], [⟨.bool, .ro⟩], fun x => impl_kidFits x.1 x.2.1 x.2.2.1⟩
def H139 : Hn := (.e .z (.e (.e (.e .z (.e .z (.e (.n ⟨[], [], (some ⟨[.snp 0 (.int .i64) [], .snp 2 (.int .i64) [], .snp 12 (.bool) []], [], []⟩), false, []⟩ .z .z) .z))) .z) .z))
noncomputable def E139 : Env := ⟨tab, [C154, C112], 3, 32⟩
theorem d139 : (fun (x : HL (pts C139.ps)) => den E139 (Tryz.f139.body.getD .skip) H139 (initS 32 C139.ps x) (retK tab [] C139.ps C139.rs [.tmp 6]) (fun _ _ => none) (retK tab [] C139.ps C139.rs [.tmp 6])) = C139.F := by kernel_rfl
theorem c139 : Cok Tryz.prog C139 := by
  have h154 := c154
  have h112 := c112
  exact cok_of_den (E := E139) (fn := Tryz.f139) (code := Tryz.f139.body.getD .skip) (hn := H139) (gr := []) (is := [.tmp 6]) ⟨tabOk, (fun c hc => by simp only [E139, List.mem_cons, List.not_mem_nil, or_false] at hc; rcases hc with rfl | rfl <;> assumption), mixOk⟩ ⟨by kernel_rfl, by kernel_rfl, by kernel_rfl, by kernel_rfl, by kernel_rfl, by decide, by kernel_rfl⟩ (fun x y h => (congrFun d139 x).trans h)

/-- impl.hasName -/
noncomputable def C140 : Cal := ⟨140, [⟨.ro, .int .i64⟩], [⟨.bool, .ro⟩], fun x => impl_hasName x.1⟩
def H140 : Hn := (.e .z (.e (.n ⟨[], [], (some ⟨[.snp 2 (.bool) []], [], []⟩), false, []⟩ .z .z) .z))
noncomputable def E140 : Env := ⟨tab, [C42], 1, 9⟩
theorem d140 : (fun (x : HL (pts C140.ps)) => den E140 (Tryz.f140.body.getD .skip) H140 (initS 9 C140.ps x) (retK tab [] C140.ps C140.rs [.tmp 2]) (fun _ _ => none) (retK tab [] C140.ps C140.rs [.tmp 2])) = C140.F := by kernel_rfl
theorem c140 : Cok Tryz.prog C140 := by
  have h42 := c42
  exact cok_of_den (E := E140) (fn := Tryz.f140) (code := Tryz.f140.body.getD .skip) (hn := H140) (gr := []) (is := [.tmp 2]) ⟨tabOk, (fun c hc => by simp only [E140, List.mem_cons, List.not_mem_nil, or_false] at hc; rcases hc with rfl <;> assumption), mixOk⟩ ⟨by kernel_rfl, by kernel_rfl, by kernel_rfl, by kernel_rfl, by kernel_rfl, by decide, by kernel_rfl⟩ (fun x y h => (congrFun d140 x).trans h)

/-- impl.isLetter -/
noncomputable def C124 : Cal := ⟨124, [⟨.ro, .int .u8⟩], [⟨.bool, .ro⟩], fun x => impl_isLetter x.1⟩
def H124 : Hn := (.e .z (.e (.n ⟨[], [], (some ⟨[.snp 2 (.bool) []], [], []⟩), false, []⟩ .z .z) .z))
noncomputable def E124 : Env := ⟨tab, [], 1, 9⟩
theorem d124 : (fun (x : HL (pts C124.ps)) => den E124 (Tryz.f124.body.getD .skip) H124 (initS 9 C124.ps x) (retK tab [] C124.ps C124.rs [.tmp 2]) (fun _ _ => none) (retK tab [] C124.ps C124.rs [.tmp 2])) = C124.F := by kernel_rfl
theorem c124 : Cok Tryz.prog C124 := by
  exact cok_of_den (E := E124) (fn := Tryz.f124) (code := Tryz.f124.body.getD .skip) (hn := H124) (gr := []) (is := [.tmp 2]) ⟨tabOk, (fun c hc => by cases hc), mixOk⟩ ⟨by kernel_rfl, by kernel_rfl, by kernel_rfl, by kernel_rfl, by kernel_rfl, by decide, by kernel_rfl⟩ (fun x y h => (congrFun d124 x).trans h)

/-- impl.isFigure -/
noncomputable def C125 : Cal := ⟨125, [⟨.ro, .int .u8⟩], [⟨.bool, .ro⟩], fun x => impl_isFigure x.1⟩
def H125 : Hn := (.e .z (.e (.n ⟨[], [], (some ⟨[.snp 2 (.bool) []], [], []⟩), false, []⟩ .z .z) .z))
noncomputable def E125 : Env := ⟨tab, [], 1, 9⟩
theorem d125 : (fun (x : HL (pts C125.ps)) => den E125 (Tryz.f125.body.getD .skip) H125 (initS 9 C125.ps x) (retK tab [] C125.ps C125.rs [.tmp 2]) (fun _ _ => none) (retK tab [] C125.ps C125.rs [.tmp 2])) = C125.F := by kernel_rfl
theorem c125 : Cok Tryz.prog C125 := by
  exact cok_of_den (E := E125) (fn := Tryz.f125) (code := Tryz.f125.body.getD .skip) (hn := H125) (gr := []) (is := [.tmp 2]) ⟨tabOk, (fun c hc => by cases hc), mixOk⟩ ⟨by kernel_rfl, by kernel_rfl, by kernel_rfl, by kernel_rfl, by kernel_rfl, by decide, by kernel_rfl⟩ (fun x y h => (congrFun d125 x).trans h)

/-- impl.oneOf -/
noncomputable def C147 : Cal := ⟨147, [⟨.ro, .str⟩, ⟨.ro, .str⟩], [⟨.bool, .ro⟩], fun x => impl_oneOf x.1 x.2.1⟩
def H147 : Hn := (.e .z (.e (.e .z (.n ⟨[], [], (some ⟨[], [], []⟩), true, []⟩ (.n ⟨[], [], (some ⟨[.snp 0 (.str) [], .dat 8 (.list 9 (.str)) (.own (.ro)), .snp 9 (.int .i64) [], .snp 10 (.int .i64) []], [], []⟩), false, []⟩ .z .z) .z)) .z))
noncomputable def E147 : Env := ⟨tab, [C159], 2, 18⟩
theorem d147 : (fun (x : HL (pts C147.ps)) => den E147 (Tryz.f147.body.getD .skip) H147 (initS 18 C147.ps x) (retK tab [] C147.ps C147.rs [.tmp 4]) (fun _ _ => none) (retK tab [] C147.ps C147.rs [.tmp 4])) = C147.F := by kernel_rfl
theorem c147 : Cok Tryz.prog C147 := by
  have h159 := c159
  exact cok_of_den (E := E147) (fn := Tryz.f147) (code := Tryz.f147.body.getD .skip) (hn := H147) (gr := []) (is := [.tmp 4]) ⟨tabOk, (fun c hc => by simp only [E147, List.mem_cons, List.not_mem_nil, or_false] at hc; rcases hc with rfl <;> assumption), mixOk⟩ ⟨by kernel_rfl, by kernel_rfl, by kernel_rfl, by kernel_rfl, by kernel_rfl, by decide, by kernel_rfl⟩ (fun x y h => (congrFun d147 x).trans h)

/-- impl.KeyWord -/
noncomputable def C126 : Cal := ⟨126, [⟨.ro, .str⟩], [⟨.bool, .ro⟩], fun x => impl_KeyWord x.1⟩
def H126 : Hn := .z
noncomputable def E126 : Env := ⟨tab, [C147], 1, 5⟩
theorem d126 : (fun (x : HL (pts C126.ps)) => den E126 (Tryz.f126.body.getD .skip) H126 (initS 5 C126.ps x) (retK tab [] C126.ps C126.rs [.tmp 2]) (fun _ _ => none) (retK tab [] C126.ps C126.rs [.tmp 2])) = C126.F := by kernel_rfl
theorem c126 : Cok Tryz.prog C126 := by
  have h147 := c147
  exact cok_of_den (E := E126) (fn := Tryz.f126) (code := Tryz.f126.body.getD .skip) (hn := H126) (gr := []) (is := [.tmp 2]) ⟨tabOk, (fun c hc => by simp only [E126, List.mem_cons, List.not_mem_nil, or_false] at hc; rcases hc with rfl <;> assumption), mixOk⟩ ⟨by kernel_rfl, by kernel_rfl, by kernel_rfl, by kernel_rfl, by kernel_rfl, by decide, by kernel_rfl⟩ (fun x y h => (congrFun d126 x).trans h)

/-- impl.NameOk -/
noncomputable def C111 : Cal := ⟨111, [⟨.ro, .str⟩], [⟨.bool, .ro⟩], fun x => impl_NameOk x.1⟩
def H111 : Hn := (.e .z (.e (.e (.n ⟨[], [], (some ⟨[.snp 0 (.str) [], .snp 13 (.bool) []], [], []⟩), false, []⟩ .z .z) .z) (.e (.e .z (.n ⟨[], [], (some ⟨[.snp 0 (.str) []], [], []⟩), true, []⟩ (.n ⟨[], [], (some ⟨[.snp 0 (.str) [], .snp 3 (.int .i64) []], [], []⟩), false, []⟩ (.e .z (.e (.e (.e (.n ⟨[], [], (some ⟨[.snp 0 (.str) [], .snp 3 (.int .i64) [], .snp 31 (.bool) []], [], []⟩), false, []⟩ .z .z) .z) .z) .z)) .z) .z)) .z)))
noncomputable def E111 : Env := ⟨tab, [C42, C124, C125, C126], 1, 35⟩
theorem d111 : (fun (x : HL (pts C111.ps)) => den E111 (Tryz.f111.body.getD .skip) H111 (initS 35 C111.ps x) (retK tab [] C111.ps C111.rs [.tmp 2]) (fun _ _ => none) (retK tab [] C111.ps C111.rs [.tmp 2])) = C111.F := by kernel_rfl
theorem c111 : Cok Tryz.prog C111 := by
  have h42 := c42
  have h124 := c124
  have h125 := c125
  have h126 := c126
  exact cok_of_den (E := E111) (fn := Tryz.f111) (code := Tryz.f111.body.getD .skip) (hn := H111) (gr := []) (is := [.tmp 2]) ⟨tabOk, (fun c hc => by simp only [E111, List.mem_cons, List.not_mem_nil, or_false] at hc; rcases hc with rfl | rfl | rfl | rfl <;> assumption), mixOk⟩ ⟨by kernel_rfl, by kernel_rfl, by kernel_rfl, by kernel_rfl, by kernel_rfl, by decide, by kernel_rfl⟩ (fun x y h => (congrFun d111 x).trans h)

/-- impl.NodeOk -/
noncomputable def C115 : Cal := ⟨115, [⟨.ro, .list 54 (T5)⟩, ⟨.ro, .int .i64⟩], [⟨.bool, .ro⟩], fun x => impl_NodeOk x.1 x.2.1⟩
def H115 : Hn := (.e .z (.e .z (.e (.n ⟨[], [], none, false, [(4, ⟨[], M5, [], [], none⟩), (5, ⟨[], M5, [], [], none⟩)]⟩ .z .z) (.e .z (.e (.e (.n ⟨[], [], (some ⟨[.snp 0 (.list 54 (T5)) [], .snp 1 (.int .i64) [], .snp 38 (.bool) [], .box 5 true (T5) (.ro)], [(5, ⟨11, []⟩)], []⟩), false, []⟩ .z .z) .z) (.e (.e .z (.n ⟨[], [], (some ⟨[.box 5 true (T5) (.ro)], [(5, ⟨11, []⟩)], []⟩), true, []⟩ (.n ⟨[], [], (some ⟨[.snp 0 (.list 54 (T5)) [], .snp 1 (.int .i64) [], .snp 40 (.list 3 (.int .i64)) [], .snp 41 (.int .i64) [], .snp 42 (.int .i64) [], .box 5 true (T5) (.ro)], [(5, ⟨11, []⟩)], []⟩), false, []⟩ (.e .z (.e .z (.e (.e (.e .z (.e (.n ⟨[], [], (some ⟨[.snp 0 (.list 54 (T5)) [], .snp 1 (.int .i64) [], .snp 40 (.list 3 (.int .i64)) [], .snp 41 (.int .i64) [], .snp 42 (.int .i64) [], .snp 71 (.bool) [], .box 5 true (T5) (.ro)], [(5, ⟨11, []⟩)], []⟩), false, [(0, .t 47), (1, .t 48), (2, .t 49), (3, .t 50), (4, .t 51), (5, .t 52), (6, .t 53), (7, .t 54), (8, .t 55), (9, .t 56), (10, .t 57), (11, .t 58), (12, .t 59), (13, .t 60), (14, .t 61), (15, .t 62), (16, .t 63), (17, .t 64), (18, .t 65), (19, .t 66), (20, .t 67), (21, .t 68), (22, .t 69), (23, .t 70), (24, .t 71)]⟩ .z .z) .z)) .z) .z))) .z) .z)) (.e (.e (.n ⟨[], [], (some ⟨[.snp 91 (.bool) [], .box 5 true (T5) (.ro)], [(5, ⟨11, []⟩)], []⟩), false, []⟩ .z .z) .z) .z)))))))
noncomputable def E115 : Env := ⟨tab, [C42, C138, C50, C139, C140, C111], 2, 101⟩
theorem d115 : (fun (x : HL (pts C115.ps)) => den E115 (Tryz.f115.body.getD .skip) H115 (initS 101 C115.ps x) (retK tab [] C115.ps C115.rs [.tmp 4]) (fun _ _ => none) (retK tab [] C115.ps C115.rs [.tmp 4])) = C115.F := by kernel_rfl
theorem c115 : Cok Tryz.prog C115 := by
  have h42 := c42
  have h138 := c138
  have h50 := c50
  have h139 := c139
  have h140 := c140
  have h111 := c111
  exact cok_of_den (E := E115) (fn := Tryz.f115) (code := Tryz.f115.body.getD .skip) (hn := H115) (gr := []) (is := [.tmp 4]) ⟨tabOk, (fun c hc => by simp only [E115, List.mem_cons, List.not_mem_nil, or_false] at hc; rcases hc with rfl | rfl | rfl | rfl | rfl | rfl <;> assumption), mixOk⟩ ⟨by kernel_rfl, by kernel_rfl, by kernel_rfl, by kernel_rfl, by kernel_rfl, by decide, by kernel_rfl⟩ (fun x y h => (congrFun d115 x).trans h)

/-- impl.depths -/
noncomputable def C101 : Cal := ⟨101, [⟨.ro, .list 54 (T5)⟩, ⟨.ro, .int .i64⟩], [⟨.list 3 (.int .i64), .own (.ro)⟩, ⟨.bool, .ro⟩], fun x => impl_depths x.1 x.2.1⟩
def H101 : Hn := (.e .z (.e .z (.e .z (.e (.e .z (.n ⟨[], [], (some ⟨[.dat 6 (.list 3 (.int .i64)) (.own (.ro))], [], []⟩), true, []⟩ (.n ⟨[], [], (some ⟨[.snp 0 (.list 54 (T5)) [], .snp 1 (.int .i64) [], .dat 6 (.list 3 (.int .i64)) (.own (.ro)), .snp 7 (.int .i64) []], [], []⟩), false, []⟩ (.e .z (.e (.n ⟨[], [], (some ⟨[.snp 0 (.list 54 (T5)) [], .snp 1 (.int .i64) [], .dat 6 (.list 3 (.int .i64)) (.own (.ro)), .snp 7 (.int .i64) []], [], []⟩), true, []⟩ (.e .z (.e .z (.e (.e .z (.n ⟨[], [], (some ⟨[.snp 0 (.list 54 (T5)) [], .snp 1 (.int .i64) [], .dat 6 (.list 3 (.int .i64)) (.own (.ro)), .snp 7 (.int .i64) [], .snp 8 (.int .i64) []], [], []⟩), false, []⟩ (.n ⟨[], [], (some ⟨[.snp 0 (.list 54 (T5)) [], .snp 1 (.int .i64) [], .dat 6 (.list 3 (.int .i64)) (.own (.ro)), .snp 7 (.int .i64) [], .snp 8 (.int .i64) [], .snp 30 (.list 3 (.int .i64)) [], .snp 31 (.int .i64) [], .snp 32 (.int .i64) []], [], []⟩), false, []⟩ .z .z) .z)) (.e .z (.n ⟨[], [.g 6], none, false, [(3, ⟨[.g 46], .ro, [], [], none⟩)]⟩ .z .z))))) .z) .z)) .z) .z)) (.e (.n ⟨[], [.g 4], none, false, []⟩ .z .z) .z)))))
noncomputable def E101 : Env := ⟨tab, [C42, C115], 2, 51⟩
theorem d101 : (fun (x : HL (pts C101.ps)) => den E101 (Tryz.f101.body.getD .skip) H101 (initS 51 C101.ps x) (retK tab [] C101.ps C101.rs [.tmp 4, .tmp 5]) (fun _ _ => none) (retK tab [] C101.ps C101.rs [.tmp 4, .tmp 5])) = C101.F := by kernel_rfl
theorem c101 : Cok Tryz.prog C101 := by
  have h42 := c42
  have h115 := c115
  exact cok_of_den (E := E101) (fn := Tryz.f101) (code := Tryz.f101.body.getD .skip) (hn := H101) (gr := []) (is := [.tmp 4, .tmp 5]) ⟨tabOk, (fun c hc => by simp only [E101, List.mem_cons, List.not_mem_nil, or_false] at hc; rcases hc with rfl | rfl <;> assumption), mixOk⟩ ⟨by kernel_rfl, by kernel_rfl, by kernel_rfl, by kernel_rfl, by kernel_rfl, by decide, by kernel_rfl⟩ (fun x y h => (congrFun d101 x).trans h)

/-- impl.DeepOf -/
noncomputable def C76 : Cal := ⟨76, [⟨.ro, .list 54 (T5)⟩, ⟨.ro, .int .i64⟩], [⟨.int .i64, .ro⟩], fun x => impl_DeepOf x.1 x.2.1⟩
def H76 : Hn := (.e .z (.e (.n ⟨[], [.g 5], none, false, []⟩ .z .z) .z))
noncomputable def E76 : Env := ⟨tab, [C101], 2, 19⟩
theorem d76 : (fun (x : HL (pts C76.ps)) => den E76 (Tryz.f76.body.getD .skip) H76 (initS 19 C76.ps x) (retK tab [] C76.ps C76.rs [.tmp 4]) (fun _ _ => none) (retK tab [] C76.ps C76.rs [.tmp 4])) = C76.F := by kernel_rfl
theorem c76 : Cok Tryz.prog C76 := by
  have h101 := c101
  exact cok_of_den (E := E76) (fn := Tryz.f76) (code := Tryz.f76.body.getD .skip) (hn := H76) (gr := []) (is := [.tmp 4]) ⟨tabOk, (fun c hc => by simp only [E76, List.mem_cons, List.not_mem_nil, or_false] at hc; rcases hc with rfl <;> assumption), mixOk⟩ ⟨by kernel_rfl, by kernel_rfl, by kernel_rfl, by kernel_rfl, by kernel_rfl, by decide, by kernel_rfl⟩ (fun x y h => (congrFun d76 x).trans h)

/-- impl.under -/
noncomputable def C43 : Cal := ⟨43, [⟨.ro, .list 54 (T5)⟩, ⟨.ro, .int .i64⟩], [⟨.list 3 (.int .i64), .own (.ro)⟩], fun x => impl_under x.1 x.2.1⟩
def H43 : Hn := (.e .z (.e (.n ⟨[], [.g 5], none, false, []⟩ .z .z) (.e (.e .z (.n ⟨[], [], (some ⟨[.dat 5 (.list 3 (.int .i64)) (.own (.ro))], [], []⟩), false, []⟩ (.n ⟨[], [], (some ⟨[.snp 0 (.list 54 (T5)) [], .dat 5 (.list 3 (.int .i64)) (.own (.ro)), .snp 6 (.int .i64) []], [], []⟩), false, []⟩ (.e .z (.e (.n ⟨[], [], (some ⟨[.snp 0 (.list 54 (T5)) [], .dat 5 (.list 3 (.int .i64)) (.own (.ro)), .snp 6 (.int .i64) []], [], []⟩), false, []⟩ (.e .z (.n ⟨[], [], (some ⟨[.snp 0 (.list 54 (T5)) [], .dat 5 (.list 3 (.int .i64)) (.own (.ro)), .snp 6 (.int .i64) []], [], []⟩), false, []⟩ (.n ⟨[], [], (some ⟨[.snp 0 (.list 54 (T5)) [], .dat 5 (.list 3 (.int .i64)) (.own (.ro)), .snp 6 (.int .i64) [], .snp 24 (.list 3 (.int .i64)) [], .snp 25 (.int .i64) [], .snp 26 (.int .i64) []], [], []⟩), false, []⟩ (.e .z (.e .z (.e (.e (.e .z (.e .z (.n ⟨[], [], (some ⟨[.snp 0 (.list 54 (T5)) [], .dat 5 (.list 3 (.int .i64)) (.own (.ro)), .snp 6 (.int .i64) [], .snp 24 (.list 3 (.int .i64)) [], .snp 25 (.int .i64) [], .snp 26 (.int .i64) []], [], []⟩), false, []⟩ (.n ⟨[], [.g 5], none, false, [(3, ⟨[.g 34], .ro, [], [], none⟩)]⟩ .z .z) .z))) .z) .z))) .z) .z)) .z) .z)) .z) .z)) (.e .z (.e (.n ⟨[], [.g 4], none, false, []⟩ .z .z) .z)))))
noncomputable def E43 : Env := ⟨tab, [C50, C75], 2, 42⟩
theorem d43 : (fun (x : HL (pts C43.ps)) => den E43 (Tryz.f43.body.getD .skip) H43 (initS 42 C43.ps x) (retK tab [] C43.ps C43.rs [.tmp 4]) (fun _ _ => none) (retK tab [] C43.ps C43.rs [.tmp 4])) = C43.F := by kernel_rfl
theorem c43 : Cok Tryz.prog C43 := by
  have h50 := c50
  have h75 := c75
  exact cok_of_den (E := E43) (fn := Tryz.f43) (code := Tryz.f43.body.getD .skip) (hn := H43) (gr := []) (is := [.tmp 4]) ⟨tabOk, (fun c hc => by simp only [E43, List.mem_cons, List.not_mem_nil, or_false] at hc; rcases hc with rfl | rfl <;> assumption), mixOk⟩ ⟨by kernel_rfl, by kernel_rfl, by kernel_rfl, by kernel_rfl, by kernel_rfl, by decide, by kernel_rfl⟩ (fun x y h => (congrFun d43 x).trans h)

/-- impl.Under -/
noncomputable def C57 : Cal := ⟨57, [⟨.ro, T2⟩, ⟨.ro, .int .i64⟩], [⟨.list 3 (.int .i64), .own (.ro)⟩], fun x => impl_Under x.1 x.2.1⟩
def H57 : Hn := (.e (.n ⟨[], [], none, false, [(0, ⟨[], M1, [], [], none⟩)]⟩ .z .z) (.e .z (.e (.n ⟨[], [.g 4], none, false, []⟩ .z .z) .z)))
noncomputable def E57 : Env := ⟨tab, [C76, C43], 2, 14⟩
theorem d57 : (fun (x : HL (pts C57.ps)) => den E57 (Tryz.f57.body.getD .skip) H57 (initS 14 C57.ps x) (retK tab [] C57.ps C57.rs [.tmp 4]) (fun _ _ => none) (retK tab [] C57.ps C57.rs [.tmp 4])) = C57.F := by kernel_rfl
theorem c57 : Cok Tryz.prog C57 := by
  have h76 := c76
  have h43 := c43
  exact cok_of_den (E := E57) (fn := Tryz.f57) (code := Tryz.f57.body.getD .skip) (hn := H57) (gr := []) (is := [.tmp 4]) ⟨tabOk, (fun c hc => by simp only [E57, List.mem_cons, List.not_mem_nil, or_false] at hc; rcases hc with rfl | rfl <;> assumption), mixOk⟩ ⟨by kernel_rfl, by kernel_rfl, by kernel_rfl, by kernel_rfl, by kernel_rfl, by decide, by kernel_rfl⟩ (fun x y h => (congrFun d57 x).trans h)

/-- impl.VarsOf -/
noncomputable def C28 : Cal := ⟨28, [⟨.ro, T2⟩, ⟨.ro, .int .i64⟩], [⟨.list 52 (T7), .own (.ro)⟩], fun x => impl_VarsOf x.1 x.2.1⟩
def H28 : Hn := (.e (.n ⟨[], [], none, false, [(0, ⟨[], M1, [], [], none⟩)]⟩ .z .z) (.e .z (.e .z (.e (.e .z (.n ⟨[], [], (some ⟨[.snp 1 (.int .i64) [], .dat 5 (.list 52 (T7)) (.own (.ro)), .box 2 true (T2) (.ro)], [(2, ⟨5, []⟩)], []⟩), false, []⟩ (.n ⟨[], [], (some ⟨[.snp 1 (.int .i64) [], .dat 5 (.list 52 (T7)) (.own (.ro)), .snp 23 (.list 85 (T11)) [], .snp 24 (.int .i64) [], .snp 25 (.int .i64) [], .box 2 true (T2) (.ro)], [(2, ⟨5, []⟩)], []⟩), false, []⟩ (.e .z (.e .z (.e (.e (.e .z (.n ⟨[], [.g 5], none, false, [(7, ⟨[.g 29], .ro, [], [], none⟩)]⟩ .z .z)) .z) .z))) .z) .z)) (.e (.e (.n ⟨[], [], none, false, [(0, .t 38), (1, .t 39), (2, .t 40), (3, .t 41), (4, .t 42), (5, .t 43), (6, .t 44), (7, .t 45), (8, .t 46), (9, .t 47)]⟩ .z .z) (.n ⟨[], [], (some ⟨[.dat 5 (.list 52 (T7)) (.own (.ro))], [], []⟩), false, []⟩ (.n ⟨[], [], (some ⟨[.dat 5 (.list 52 (T7)) (.own (.ro)), .dat 45 (.list 3 (.int .i64)) (.own (.ro)), .snp 46 (.int .i64) [], .snp 47 (.int .i64) [], .box 2 true (T2) (.ro)], [(2, ⟨5, []⟩)], []⟩), false, []⟩ (.e .z (.e .z (.e (.e (.e .z (.e (.n ⟨[], [], none, false, [(5, ⟨[], M5, [], [], none⟩), (6, ⟨[], M5, [], [], none⟩)]⟩ .z .z) (.e .z (.n ⟨[], [], (some ⟨[.dat 5 (.list 52 (T7)) (.own (.ro)), .dat 45 (.list 3 (.int .i64)) (.own (.ro)), .snp 46 (.int .i64) [], .snp 47 (.int .i64) [], .box 2 true (T2) (.ro)], [(2, ⟨5, []⟩)], []⟩), false, []⟩ (.n ⟨[], [.g 5], none, false, [(6, ⟨[.g 59], .ro, [], [], none⟩)]⟩ .z .z) .z)))) .z) .z))) .z) .z)) (.e (.n ⟨[], [.g 4], none, false, []⟩ .z .z) .z))))))
noncomputable def E28 : Env := ⟨tab, [C42, C57], 2, 68⟩
theorem d28 : (fun (x : HL (pts C28.ps)) => den E28 (Tryz.f28.body.getD .skip) H28 (initS 68 C28.ps x) (retK tab [] C28.ps C28.rs [.tmp 4]) (fun _ _ => none) (retK tab [] C28.ps C28.rs [.tmp 4])) = C28.F := by kernel_rfl
theorem c28 : Cok Tryz.prog C28 := by
  have h42 := c42
  have h57 := c57
  exact cok_of_den (E := E28) (fn := Tryz.f28) (code := Tryz.f28.body.getD .skip) (hn := H28) (gr := []) (is := [.tmp 4]) ⟨tabOk, (fun c hc => by simp only [E28, List.mem_cons, List.not_mem_nil, or_false] at hc; rcases hc with rfl | rfl <;> assumption), mixOk⟩ ⟨by kernel_rfl, by kernel_rfl, by kernel_rfl, by kernel_rfl, by kernel_rfl, by decide, by kernel_rfl⟩ (fun x y h => (congrFun d28 x).trans h)

/-- impl.roots -/
noncomputable def C86 : Cal := ⟨86, [⟨.ro, T2⟩, ⟨.ro, .int .i64⟩], [⟨.list 3 (.int .i64), .own (.ro)⟩], fun x => impl_roots x.1 x.2.1⟩
def H86 : Hn := (.e (.n ⟨[], [], none, false, [(0, ⟨[], M1, [], [], none⟩)]⟩ .z .z) (.e .z (.e (.n ⟨[], [.g 5], none, false, []⟩ .z .z) (.e (.e .z (.n ⟨[], [], (some ⟨[.dat 5 (.list 3 (.int .i64)) (.own (.ro))], [], []⟩), false, []⟩ (.n ⟨[], [.g 5], none, false, [(8, ⟨[.g 27], .ro, [], [], none⟩)]⟩ .z .z) .z)) (.e (.n ⟨[], [.g 4], none, false, []⟩ .z .z) .z)))))
noncomputable def E86 : Env := ⟨tab, [C42], 2, 37⟩
theorem d86 : (fun (x : HL (pts C86.ps)) => den E86 (Tryz.f86.body.getD .skip) H86 (initS 37 C86.ps x) (retK tab [] C86.ps C86.rs [.tmp 4]) (fun _ _ => none) (retK tab [] C86.ps C86.rs [.tmp 4])) = C86.F := by kernel_rfl
theorem c86 : Cok Tryz.prog C86 := by
  have h42 := c42
  exact cok_of_den (E := E86) (fn := Tryz.f86) (code := Tryz.f86.body.getD .skip) (hn := H86) (gr := []) (is := [.tmp 4]) ⟨tabOk, (fun c hc => by simp only [E86, List.mem_cons, List.not_mem_nil, or_false] at hc; rcases hc with rfl <;> assumption), mixOk⟩ ⟨by kernel_rfl, by kernel_rfl, by kernel_rfl, by kernel_rfl, by kernel_rfl, by decide, by kernel_rfl⟩ (fun x y h => (congrFun d86 x).trans h)

/-- impl.fnNodes -/
noncomputable def C58 : Cal := ⟨58, [⟨.ro, T2⟩, ⟨.ro, .int .i64⟩], [⟨.list 3 (.int .i64), .own (.ro)⟩], fun x => impl_fnNodes x.1 x.2.1⟩
def H58 : Hn := (.e (.n ⟨[], [], none, false, [(0, ⟨[], M1, [], [], none⟩)]⟩ .z .z) (.e .z (.e (.e .z (.n ⟨[], [], (some ⟨[.dat 5 (.list 3 (.int .i64)) (.own (.ro))], [], []⟩), false, []⟩ (.n ⟨[], [], (some ⟨[.dat 5 (.list 3 (.int .i64)) (.own (.ro)), .dat 12 (.list 3 (.int .i64)) (.own (.ro)), .snp 13 (.int .i64) [], .snp 14 (.int .i64) [], .box 2 true (T2) (.ro)], [(2, ⟨5, []⟩)], []⟩), false, []⟩ (.e .z (.e .z (.e (.n ⟨[], [], (some ⟨[.dat 5 (.list 3 (.int .i64)) (.own (.ro)), .dat 12 (.list 3 (.int .i64)) (.own (.ro)), .snp 13 (.int .i64) [], .snp 14 (.int .i64) [], .box 2 true (T2) (.ro)], [(2, ⟨5, []⟩)], []⟩), false, []⟩ (.e .z (.e .z (.n ⟨[], [], (some ⟨[.dat 5 (.list 3 (.int .i64)) (.own (.ro)), .dat 12 (.list 3 (.int .i64)) (.own (.ro)), .snp 13 (.int .i64) [], .snp 14 (.int .i64) [], .box 2 true (T2) (.ro)], [(2, ⟨5, []⟩)], []⟩), false, []⟩ (.n ⟨[], [], (some ⟨[.dat 5 (.list 3 (.int .i64)) (.own (.ro)), .dat 12 (.list 3 (.int .i64)) (.own (.ro)), .snp 13 (.int .i64) [], .snp 14 (.int .i64) [], .dat 20 (.list 3 (.int .i64)) (.own (.ro)), .snp 21 (.int .i64) [], .snp 22 (.int .i64) [], .box 2 true (T2) (.ro)], [(2, ⟨5, []⟩)], []⟩), false, []⟩ (.e .z (.e .z (.e (.e (.e .z (.e .z (.n ⟨[], [], (some ⟨[.dat 5 (.list 3 (.int .i64)) (.own (.ro)), .dat 12 (.list 3 (.int .i64)) (.own (.ro)), .snp 13 (.int .i64) [], .snp 14 (.int .i64) [], .dat 20 (.list 3 (.int .i64)) (.own (.ro)), .snp 21 (.int .i64) [], .snp 22 (.int .i64) [], .box 2 true (T2) (.ro)], [(2, ⟨5, []⟩)], []⟩), false, []⟩ (.n ⟨[], [.g 5], none, false, [(3, ⟨[.g 30], .ro, [], [], none⟩)]⟩ .z .z) .z))) .z) .z))) .z) .z))) .z) .z))) .z) .z)) (.e .z (.e (.n ⟨[], [.g 4], none, false, []⟩ .z .z) .z)))))
noncomputable def E58 : Env := ⟨tab, [C86, C57, C50, C75], 2, 39⟩
theorem d58 : (fun (x : HL (pts C58.ps)) => den E58 (Tryz.f58.body.getD .skip) H58 (initS 39 C58.ps x) (retK tab [] C58.ps C58.rs [.tmp 4]) (fun _ _ => none) (retK tab [] C58.ps C58.rs [.tmp 4])) = C58.F := by kernel_rfl
theorem c58 : Cok Tryz.prog C58 := by
  have h86 := c86
  have h57 := c57
  have h50 := c50
  have h75 := c75
  exact cok_of_den (E := E58) (fn := Tryz.f58) (code := Tryz.f58.body.getD .skip) (hn := H58) (gr := []) (is := [.tmp 4]) ⟨tabOk, (fun c hc => by simp only [E58, List.mem_cons, List.not_mem_nil, or_false] at hc; rcases hc with rfl | rfl | rfl | rfl <;> assumption), mixOk⟩ ⟨by kernel_rfl, by kernel_rfl, by kernel_rfl, by kernel_rfl, by kernel_rfl, by decide, by kernel_rfl⟩ (fun x y h => (congrFun d58 x).trans h)

/-- impl.uses -/
noncomputable def C59 : Cal := ⟨59, [⟨.ro, .int .i64⟩], [⟨.bool, .ro⟩], fun x => impl_uses x.1⟩
def H59 : Hn := (.e .z (.e (.n ⟨[], [], (some ⟨[.snp 2 (.bool) []], [], []⟩), false, []⟩ .z .z) .z))
noncomputable def E59 : Env := ⟨tab, [C42], 1, 13⟩
theorem d59 : (fun (x : HL (pts C59.ps)) => den E59 (Tryz.f59.body.getD .skip) H59 (initS 13 C59.ps x) (retK tab [] C59.ps C59.rs [.tmp 2]) (fun _ _ => none) (retK tab [] C59.ps C59.rs [.tmp 2])) = C59.F := by kernel_rfl
theorem c59 : Cok Tryz.prog C59 := by
  have h42 := c42
  exact cok_of_den (E := E59) (fn := Tryz.f59) (code := Tryz.f59.body.getD .skip) (hn := H59) (gr := []) (is := [.tmp 2]) ⟨tabOk, (fun c hc => by simp only [E59, List.mem_cons, List.not_mem_nil, or_false] at hc; rcases hc with rfl <;> assumption), mixOk⟩ ⟨by kernel_rfl, by kernel_rfl, by kernel_rfl, by kernel_rfl, by kernel_rfl, by decide, by kernel_rfl⟩ (fun x y h => (congrFun d59 x).trans h)

/-- impl.UsesOf -/
noncomputable def C29 : Cal := ⟨29, [⟨.ro, T2⟩, ⟨.ro, .int .i64⟩, ⟨.ro, .str⟩], [⟨.list 3 (.int .i64), .own (.ro)⟩], fun x => impl_UsesOf x.1 x.2.1 x.2.2.1⟩
def H29 : Hn := (.e (.n ⟨[], [], none, false, [(0, ⟨[], M1, [], [], none⟩)]⟩ .z .z) (.e .z (.e (.e .z (.n ⟨[], [], (some ⟨[.dat 7 (.list 3 (.int .i64)) (.own (.ro))], [], []⟩), false, []⟩ (.n ⟨[], [], (some ⟨[.snp 2 (.str) [], .dat 7 (.list 3 (.int .i64)) (.own (.ro)), .dat 13 (.list 3 (.int .i64)) (.own (.ro)), .snp 14 (.int .i64) [], .snp 15 (.int .i64) [], .box 3 true (T2) (.ro)], [(3, ⟨7, []⟩)], []⟩), false, []⟩ (.e .z (.e .z (.e (.e (.e .z (.e (.n ⟨[], [], none, false, [(5, ⟨[], M5, [], [], none⟩), (6, ⟨[], M5, [], [], none⟩)]⟩ .z .z) (.e (.n ⟨[], [], (some ⟨[.snp 2 (.str) [], .dat 7 (.list 3 (.int .i64)) (.own (.ro)), .snp 9 (.int .i64) [], .dat 13 (.list 3 (.int .i64)) (.own (.ro)), .snp 14 (.int .i64) [], .snp 15 (.int .i64) [], .snp 32 (.bool) [], .box 3 true (T2) (.ro)], [(3, ⟨7, []⟩)], []⟩), false, []⟩ .z .z) (.n ⟨[], [], (some ⟨[.snp 2 (.str) [], .dat 7 (.list 3 (.int .i64)) (.own (.ro)), .dat 13 (.list 3 (.int .i64)) (.own (.ro)), .snp 14 (.int .i64) [], .snp 15 (.int .i64) [], .box 3 true (T2) (.ro)], [(3, ⟨7, []⟩)], []⟩), false, []⟩ (.n ⟨[], [.g 7], none, false, [(3, ⟨[.g 33], .ro, [], [], none⟩)]⟩ .z .z) .z)))) .z) .z))) .z) .z)) (.e (.n ⟨[], [.g 6], none, false, []⟩ .z .z) .z))))
noncomputable def E29 : Env := ⟨tab, [C58, C59], 3, 39⟩
theorem d29 : (fun (x : HL (pts C29.ps)) => den E29 (Tryz.f29.body.getD .skip) H29 (initS 39 C29.ps x) (retK tab [] C29.ps C29.rs [.tmp 6]) (fun _ _ => none) (retK tab [] C29.ps C29.rs [.tmp 6])) = C29.F := by kernel_rfl
theorem c29 : Cok Tryz.prog C29 := by
  have h58 := c58
  have h59 := c59
  exact cok_of_den (E := E29) (fn := Tryz.f29) (code := Tryz.f29.body.getD .skip) (hn := H29) (gr := []) (is := [.tmp 6]) ⟨tabOk, (fun c hc => by simp only [E29, List.mem_cons, List.not_mem_nil, or_false] at hc; rcases hc with rfl | rfl <;> assumption), mixOk⟩ ⟨by kernel_rfl, by kernel_rfl, by kernel_rfl, by kernel_rfl, by kernel_rfl, by decide, by kernel_rfl⟩ (fun x y h => (congrFun d29 x).trans h)

/-- impl.UnusedVars -/
noncomputable def C9 : Cal := ⟨9, [⟨.ro, T2⟩, ⟨.ro, .int .i64⟩], [⟨.list 9 (.str), .own (.ro)⟩], fun x => impl_UnusedVars x.1 x.2.1⟩
def H9 : Hn := (.e (.n ⟨[], [], none, false, [(0, ⟨[], M1, [], [], none⟩)]⟩ .z .z) (.e .z (.e (.e .z (.n ⟨[], [], (some ⟨[.dat 5 (.list 9 (.str)) (.own (.ro))], [], []⟩), false, []⟩ (.n ⟨[], [], (some ⟨[.snp 1 (.int .i64) [], .dat 5 (.list 9 (.str)) (.own (.ro)), .dat 13 (.list 52 (T7)) (.own (.ro)), .snp 14 (.int .i64) [], .snp 15 (.int .i64) [], .box 2 true (T2) (.ro)], [(2, ⟨5, []⟩)], []⟩), false, []⟩ (.e .z (.e .z (.e (.n ⟨[], [], (some ⟨[.snp 1 (.int .i64) [], .dat 5 (.list 9 (.str)) (.own (.ro)), .dat 13 (.list 52 (T7)) (.own (.ro)), .snp 14 (.int .i64) [], .snp 15 (.int .i64) [], .box 2 true (T2) (.ro)], [(2, ⟨5, []⟩)], []⟩), false, []⟩ (.e .z (.e .z (.e (.e .z (.n ⟨[], [], (some ⟨[.snp 1 (.int .i64) [], .dat 5 (.list 9 (.str)) (.own (.ro)), .snp 8 (.bool) [], .dat 13 (.list 52 (T7)) (.own (.ro)), .snp 14 (.int .i64) [], .snp 15 (.int .i64) [], .box 2 true (T2) (.ro), .box 7 true (T7) (.ro)], [(2, ⟨5, []⟩), (7, ⟨15, []⟩)], []⟩), false, []⟩ (.n ⟨[], [], (some ⟨[.snp 1 (.int .i64) [], .dat 5 (.list 9 (.str)) (.own (.ro)), .snp 8 (.bool) [], .dat 13 (.list 52 (T7)) (.own (.ro)), .snp 14 (.int .i64) [], .snp 15 (.int .i64) [], .dat 23 (.list 3 (.int .i64)) (.own (.ro)), .snp 24 (.int .i64) [], .snp 25 (.int .i64) [], .box 2 true (T2) (.ro), .box 7 true (T7) (.ro)], [(2, ⟨5, []⟩), (7, ⟨15, []⟩)], []⟩), false, []⟩ (.e .z (.e .z (.e (.e (.e .z (.n ⟨[], [], (some ⟨[.snp 1 (.int .i64) [], .dat 5 (.list 9 (.str)) (.own (.ro)), .snp 8 (.bool) [], .dat 13 (.list 52 (T7)) (.own (.ro)), .snp 14 (.int .i64) [], .snp 15 (.int .i64) [], .dat 23 (.list 3 (.int .i64)) (.own (.ro)), .snp 24 (.int .i64) [], .snp 25 (.int .i64) [], .box 2 true (T2) (.ro), .box 7 true (T7) (.ro)], [(2, ⟨5, []⟩), (7, ⟨15, []⟩)], []⟩), false, []⟩ .z .z)) .z) .z))) .z) .z)) (.e .z (.n ⟨[], [], (some ⟨[.snp 1 (.int .i64) [], .dat 5 (.list 9 (.str)) (.own (.ro)), .dat 13 (.list 52 (T7)) (.own (.ro)), .snp 14 (.int .i64) [], .snp 15 (.int .i64) [], .box 2 true (T2) (.ro)], [(2, ⟨5, []⟩)], []⟩), false, []⟩ (.n ⟨[], [.g 5], none, false, [(4, ⟨[.g 42], .ro, [], [], none⟩)]⟩ .z .z) .z))))) .z) .z))) .z) .z)) (.e (.n ⟨[], [.g 4], none, false, []⟩ .z .z) .z))))
noncomputable def E9 : Env := ⟨tab, [C28, C29], 2, 49⟩
theorem d9 : (fun (x : HL (pts C9.ps)) => den E9 (Tryz.f9.body.getD .skip) H9 (initS 49 C9.ps x) (retK tab [] C9.ps C9.rs [.tmp 4]) (fun _ _ => none) (retK tab [] C9.ps C9.rs [.tmp 4])) = C9.F := by kernel_rfl
theorem c9 : Cok Tryz.prog C9 := by
  have h28 := c28
  have h29 := c29
  exact cok_of_den (E := E9) (fn := Tryz.f9) (code := Tryz.f9.body.getD .skip) (hn := H9) (gr := []) (is := [.tmp 4]) ⟨tabOk, (fun c hc => by simp only [E9, List.mem_cons, List.not_mem_nil, or_false] at hc; rcases hc with rfl | rfl <;> assumption), mixOk⟩ ⟨by kernel_rfl, by kernel_rfl, by kernel_rfl, by kernel_rfl, by kernel_rfl, by decide, by kernel_rfl⟩ (fun x y h => (congrFun d9 x).trans h)

/-- laws.eqStringS -/
noncomputable def C10 : Cal := ⟨10, [⟨.ro, .list 9 (.str)⟩, ⟨.ro, .list 9 (.str)⟩], [⟨.bool, .ro⟩], fun x => laws_eqStringS x.1 x.2.1⟩
def H10 : Hn := (.e .z (.e .z (.e (.e .z (.n ⟨[], [], (some ⟨[], [], []⟩), true, []⟩ (.n ⟨[], [], (some ⟨[.snp 0 (.list 9 (.str)) [], .snp 1 (.list 9 (.str)) [], .snp 5 (.int .i64) []], [], []⟩), false, []⟩ (.e .z (.e (.e (.e (.n ⟨[], [], none, false, [(0, .t 17), (1, .t 18), (2, .t 19), (3, .t 20), (4, .t 21), (5, .t 22), (6, .t 23), (7, .t 24), (8, .t 25)]⟩ .z .z) .z) .z) .z)) .z) .z)) .z)))
noncomputable def E10 : Env := ⟨tab, [], 2, 26⟩
theorem d10 : (fun (x : HL (pts C10.ps)) => den E10 (Tryz.f10.body.getD .skip) H10 (initS 26 C10.ps x) (retK tab [] C10.ps C10.rs [.tmp 4]) (fun _ _ => none) (retK tab [] C10.ps C10.rs [.tmp 4])) = C10.F := by kernel_rfl
theorem c10 : Cok Tryz.prog C10 := by
  exact cok_of_den (E := E10) (fn := Tryz.f10) (code := Tryz.f10.body.getD .skip) (hn := H10) (gr := []) (is := [.tmp 4]) ⟨tabOk, (fun c hc => by cases hc), mixOk⟩ ⟨by kernel_rfl, by kernel_rfl, by kernel_rfl, by kernel_rfl, by kernel_rfl, by decide, by kernel_rfl⟩ (fun x y h => (congrFun d10 x).trans h)

/-- laws.eqIntS -/
noncomputable def C87 : Cal := ⟨87, [⟨.ro, .list 3 (.int .i64)⟩, ⟨.ro, .list 3 (.int .i64)⟩], [⟨.bool, .ro⟩], fun x => laws_eqIntS x.1 x.2.1⟩
def H87 : Hn := (.e .z (.e .z (.e (.e .z (.n ⟨[], [], (some ⟨[], [], []⟩), true, []⟩ (.n ⟨[], [], (some ⟨[.snp 0 (.list 3 (.int .i64)) [], .snp 1 (.list 3 (.int .i64)) [], .snp 5 (.int .i64) []], [], []⟩), false, []⟩ (.e .z (.e (.e (.e (.n ⟨[], [], none, false, [(0, .t 17), (1, .t 18), (2, .t 19), (3, .t 20), (4, .t 21), (5, .t 22), (6, .t 23), (7, .t 24), (8, .t 25)]⟩ .z .z) .z) .z) .z)) .z) .z)) .z)))
noncomputable def E87 : Env := ⟨tab, [], 2, 26⟩
theorem d87 : (fun (x : HL (pts C87.ps)) => den E87 (Tryz.f87.body.getD .skip) H87 (initS 26 C87.ps x) (retK tab [] C87.ps C87.rs [.tmp 4]) (fun _ _ => none) (retK tab [] C87.ps C87.rs [.tmp 4])) = C87.F := by kernel_rfl
theorem c87 : Cok Tryz.prog C87 := by
  exact cok_of_den (E := E87) (fn := Tryz.f87) (code := Tryz.f87.body.getD .skip) (hn := H87) (gr := []) (is := [.tmp 4]) ⟨tabOk, (fun c hc => by cases hc), mixOk⟩ ⟨by kernel_rfl, by kernel_rfl, by kernel_rfl, by kernel_rfl, by kernel_rfl, by decide, by kernel_rfl⟩ (fun x y h => (congrFun d87 x).trans h)

/-- laws.eqNode -/
noncomputable def C60 : Cal := ⟨60, [⟨.ro, T5⟩, ⟨.ro, T5⟩], [⟨.bool, .ro⟩], fun x => laws_eqNode x.1 x.2.1⟩
def H60 : Hn := (.e (.n ⟨[], [], none, false, [(0, ⟨[], M5, [], [], none⟩), (1, ⟨[], M5, [], [], none⟩)]⟩ .z .z) .z)
noncomputable def E60 : Env := ⟨tab, [C87], 2, 26⟩
theorem d60 : (fun (x : HL (pts C60.ps)) => den E60 (Tryz.f60.body.getD .skip) H60 (initS 26 C60.ps x) (retK tab [] C60.ps C60.rs [.tmp 4]) (fun _ _ => none) (retK tab [] C60.ps C60.rs [.tmp 4])) = C60.F := by kernel_rfl
theorem c60 : Cok Tryz.prog C60 := by
  have h87 := c87
  exact cok_of_den (E := E60) (fn := Tryz.f60) (code := Tryz.f60.body.getD .skip) (hn := H60) (gr := []) (is := [.tmp 4]) ⟨tabOk, (fun c hc => by simp only [E60, List.mem_cons, List.not_mem_nil, or_false] at hc; rcases hc with rfl <;> assumption), mixOk⟩ ⟨by kernel_rfl, by kernel_rfl, by kernel_rfl, by kernel_rfl, by kernel_rfl, by decide, by kernel_rfl⟩ (fun x y h => (congrFun d60 x).trans h)

/-- laws.eqNodeS -/
noncomputable def C30 : Cal := ⟨30, [⟨.ro, .list 54 (T5)⟩, ⟨.ro, .list 54 (T5)⟩], [⟨.bool, .ro⟩], fun x => laws_eqNodeS x.1 x.2.1⟩
def H30 : Hn := (.e .z (.e .z (.e (.e .z (.n ⟨[], [], (some ⟨[], [], []⟩), true, []⟩ (.n ⟨[], [], (some ⟨[.snp 0 (.list 54 (T5)) [], .snp 1 (.list 54 (T5)) [], .snp 5 (.int .i64) []], [], []⟩), false, []⟩ (.e .z (.e (.e (.e (.n ⟨[], [], none, false, [(0, .t 17), (1, .t 18), (2, .t 19), (3, .t 20), (4, .t 21), (5, .t 22), (6, .t 23), (7, .t 24), (8, .t 25), (9, .t 26)]⟩ .z .z) .z) .z) .z)) .z) .z)) .z)))
noncomputable def E30 : Env := ⟨tab, [C60], 2, 27⟩
theorem d30 : (fun (x : HL (pts C30.ps)) => den E30 (Tryz.f30.body.getD .skip) H30 (initS 27 C30.ps x) (retK tab [] C30.ps C30.rs [.tmp 4]) (fun _ _ => none) (retK tab [] C30.ps C30.rs [.tmp 4])) = C30.F := by kernel_rfl
theorem c30 : Cok Tryz.prog C30 := by
  have h60 := c60
  exact cok_of_den (E := E30) (fn := Tryz.f30) (code := Tryz.f30.body.getD .skip) (hn := H30) (gr := []) (is := [.tmp 4]) ⟨tabOk, (fun c hc => by simp only [E30, List.mem_cons, List.not_mem_nil, or_false] at hc; rcases hc with rfl <;> assumption), mixOk⟩ ⟨by kernel_rfl, by kernel_rfl, by kernel_rfl, by kernel_rfl, by kernel_rfl, by decide, by kernel_rfl⟩ (fun x y h => (congrFun d30 x).trans h)

/-- laws.eqParam -/
noncomputable def C107 : Cal := ⟨107, [⟨.ro, T11⟩, ⟨.ro, T11⟩], [⟨.bool, .ro⟩], fun x => laws_eqParam x.1 x.2.1⟩
def H107 : Hn := .z
noncomputable def E107 : Env := ⟨tab, [], 2, 15⟩
theorem d107 : (fun (x : HL (pts C107.ps)) => den E107 (Tryz.f107.body.getD .skip) H107 (initS 15 C107.ps x) (retK tab [] C107.ps C107.rs [.tmp 4]) (fun _ _ => none) (retK tab [] C107.ps C107.rs [.tmp 4])) = C107.F := by kernel_rfl
theorem c107 : Cok Tryz.prog C107 := by
  exact cok_of_den (E := E107) (fn := Tryz.f107) (code := Tryz.f107.body.getD .skip) (hn := H107) (gr := []) (is := [.tmp 4]) ⟨tabOk, (fun c hc => by cases hc), mixOk⟩ ⟨by kernel_rfl, by kernel_rfl, by kernel_rfl, by kernel_rfl, by kernel_rfl, by decide, by kernel_rfl⟩ (fun x y h => (congrFun d107 x).trans h)

/-- laws.eqParamS -/
noncomputable def C88 : Cal := ⟨88, [⟨.ro, .list 85 (T11)⟩, ⟨.ro, .list 85 (T11)⟩], [⟨.bool, .ro⟩], fun x => laws_eqParamS x.1 x.2.1⟩
def H88 : Hn := (.e .z (.e .z (.e (.e .z (.n ⟨[], [], (some ⟨[], [], []⟩), true, []⟩ (.n ⟨[], [], (some ⟨[.snp 0 (.list 85 (T11)) [], .snp 1 (.list 85 (T11)) [], .snp 5 (.int .i64) []], [], []⟩), false, []⟩ (.e .z (.e (.e (.e (.n ⟨[], [], none, false, [(0, .t 17), (1, .t 18), (2, .t 19), (3, .t 20), (4, .t 21), (5, .t 22), (6, .t 23), (7, .t 24), (8, .t 25), (9, .t 26)]⟩ .z .z) .z) .z) .z)) .z) .z)) .z)))
noncomputable def E88 : Env := ⟨tab, [C107], 2, 27⟩
theorem d88 : (fun (x : HL (pts C88.ps)) => den E88 (Tryz.f88.body.getD .skip) H88 (initS 27 C88.ps x) (retK tab [] C88.ps C88.rs [.tmp 4]) (fun _ _ => none) (retK tab [] C88.ps C88.rs [.tmp 4])) = C88.F := by kernel_rfl
theorem c88 : Cok Tryz.prog C88 := by
  have h107 := c107
  exact cok_of_den (E := E88) (fn := Tryz.f88) (code := Tryz.f88.body.getD .skip) (hn := H88) (gr := []) (is := [.tmp 4]) ⟨tabOk, (fun c hc => by simp only [E88, List.mem_cons, List.not_mem_nil, or_false] at hc; rcases hc with rfl <;> assumption), mixOk⟩ ⟨by kernel_rfl, by kernel_rfl, by kernel_rfl, by kernel_rfl, by kernel_rfl, by decide, by kernel_rfl⟩ (fun x y h => (congrFun d88 x).trans h)

/-- laws.eqFn -/
noncomputable def C61 : Cal := ⟨61, [⟨.ro, T4⟩, ⟨.ro, T4⟩], [⟨.bool, .ro⟩], fun x => laws_eqFn x.1 x.2.1⟩
def H61 : Hn := (.e (.n ⟨[], [], none, false, [(0, ⟨[], M3, [], [], none⟩), (1, ⟨[], M3, [], [], none⟩)]⟩ .z .z) .z)
noncomputable def E61 : Env := ⟨tab, [C88], 2, 31⟩
theorem d61 : (fun (x : HL (pts C61.ps)) => den E61 (Tryz.f61.body.getD .skip) H61 (initS 31 C61.ps x) (retK tab [] C61.ps C61.rs [.tmp 4]) (fun _ _ => none) (retK tab [] C61.ps C61.rs [.tmp 4])) = C61.F := by kernel_rfl
theorem c61 : Cok Tryz.prog C61 := by
  have h88 := c88
  exact cok_of_den (E := E61) (fn := Tryz.f61) (code := Tryz.f61.body.getD .skip) (hn := H61) (gr := []) (is := [.tmp 4]) ⟨tabOk, (fun c hc => by simp only [E61, List.mem_cons, List.not_mem_nil, or_false] at hc; rcases hc with rfl <;> assumption), mixOk⟩ ⟨by kernel_rfl, by kernel_rfl, by kernel_rfl, by kernel_rfl, by kernel_rfl, by decide, by kernel_rfl⟩ (fun x y h => (congrFun d61 x).trans h)

/-- laws.eqFnS -/
noncomputable def C31 : Cal := ⟨31, [⟨.ro, .list 69 (T4)⟩, ⟨.ro, .list 69 (T4)⟩], [⟨.bool, .ro⟩], fun x => laws_eqFnS x.1 x.2.1⟩
def H31 : Hn := (.e .z (.e .z (.e (.e .z (.n ⟨[], [], (some ⟨[], [], []⟩), true, []⟩ (.n ⟨[], [], (some ⟨[.snp 0 (.list 69 (T4)) [], .snp 1 (.list 69 (T4)) [], .snp 5 (.int .i64) []], [], []⟩), false, []⟩ (.e .z (.e (.e (.e (.n ⟨[], [], none, false, [(0, .t 17), (1, .t 18), (2, .t 19), (3, .t 20), (4, .t 21), (5, .t 22), (6, .t 23), (7, .t 24), (8, .t 25), (9, .t 26)]⟩ .z .z) .z) .z) .z)) .z) .z)) .z)))
noncomputable def E31 : Env := ⟨tab, [C61], 2, 27⟩
theorem d31 : (fun (x : HL (pts C31.ps)) => den E31 (Tryz.f31.body.getD .skip) H31 (initS 27 C31.ps x) (retK tab [] C31.ps C31.rs [.tmp 4]) (fun _ _ => none) (retK tab [] C31.ps C31.rs [.tmp 4])) = C31.F := by kernel_rfl
theorem c31 : Cok Tryz.prog C31 := by
  have h61 := c61
  exact cok_of_den (E := E31) (fn := Tryz.f31) (code := Tryz.f31.body.getD .skip) (hn := H31) (gr := []) (is := [.tmp 4]) ⟨tabOk, (fun c hc => by simp only [E31, List.mem_cons, List.not_mem_nil, or_false] at hc; rcases hc with rfl <;> assumption), mixOk⟩ ⟨by kernel_rfl, by kernel_rfl, by kernel_rfl, by kernel_rfl, by kernel_rfl, by decide, by kernel_rfl⟩ (fun x y h => (congrFun d31 x).trans h)

/-- laws.eqProgram -/
noncomputable def C11 : Cal := ⟨11, [⟨.ro, T2⟩, ⟨.ro, T2⟩], [⟨.bool, .ro⟩], fun x => laws_eqProgram x.1 x.2.1⟩
def H11 : Hn := (.e (.n ⟨[], [], none, false, [(0, ⟨[], M1, [], [], none⟩), (1, ⟨[], M1, [], [], none⟩)]⟩ .z .z) .z)
noncomputable def E11 : Env := ⟨tab, [C30, C31], 2, 17⟩
theorem d11 : (fun (x : HL (pts C11.ps)) => den E11 (Tryz.f11.body.getD .skip) H11 (initS 17 C11.ps x) (retK tab [] C11.ps C11.rs [.tmp 4]) (fun _ _ => none) (retK tab [] C11.ps C11.rs [.tmp 4])) = C11.F := by kernel_rfl
theorem c11 : Cok Tryz.prog C11 := by
  have h30 := c30
  have h31 := c31
  exact cok_of_den (E := E11) (fn := Tryz.f11) (code := Tryz.f11.body.getD .skip) (hn := H11) (gr := []) (is := [.tmp 4]) ⟨tabOk, (fun c hc => by simp only [E11, List.mem_cons, List.not_mem_nil, or_false] at hc; rcases hc with rfl | rfl <;> assumption), mixOk⟩ ⟨by kernel_rfl, by kernel_rfl, by kernel_rfl, by kernel_rfl, by kernel_rfl, by decide, by kernel_rfl⟩ (fun x y h => (congrFun d11 x).trans h)

/-- laws.markText -/
noncomputable def C34 : Cal := ⟨34, [⟨.ro, .int .i64⟩], [⟨.str, .ro⟩], fun x => laws_markText x.1⟩
def H34 : Hn := (.e .z (.e .z (.e .z (.e (.n ⟨[], [], (some ⟨[.snp 3 (.str) []], [], []⟩), false, []⟩ (.n ⟨[], [], (some ⟨[.snp 0 (.int .i64) [], .snp 3 (.str) []], [], []⟩), false, []⟩ .z .z) .z) .z))))
noncomputable def E34 : Env := ⟨tab, [], 1, 20⟩
theorem d34 : (fun (x : HL (pts C34.ps)) => den E34 (Tryz.f34.body.getD .skip) H34 (initS 20 C34.ps x) (retK tab [] C34.ps C34.rs [.tmp 2]) (fun _ _ => none) (retK tab [] C34.ps C34.rs [.tmp 2])) = C34.F := by kernel_rfl
theorem c34 : Cok Tryz.prog C34 := by
  exact cok_of_den (E := E34) (fn := Tryz.f34) (code := Tryz.f34.body.getD .skip) (hn := H34) (gr := []) (is := [.tmp 2]) ⟨tabOk, (fun c hc => by cases hc), mixOk⟩ ⟨by kernel_rfl, by kernel_rfl, by kernel_rfl, by kernel_rfl, by kernel_rfl, by decide, by kernel_rfl⟩ (fun x y h => (congrFun d34 x).trans h)

/-- laws.markIntS -/
noncomputable def C62 : Cal := ⟨62, [⟨.inp (.own (.ro)), .list 3 (.int .i64)⟩, ⟨.ro, .int .i64⟩], [⟨.int .i64, .ro⟩], fun x => laws_markIntS x.1 x.2.1⟩
def H62 : Hn := (.e .z (.e (.e .z (.n ⟨[], [], (some ⟨[.snp 1 (.int .i64) [], .box 0 false (.list 3 (.int .i64)) (.own (.ro))], [], []⟩), false, []⟩ (.n ⟨[], [], (some ⟨[.snp 1 (.int .i64) [], .snp 5 (.int .i64) [], .box 0 false (.list 3 (.int .i64)) (.own (.ro))], [], [(0, 0)]⟩), false, []⟩ (.e .z (.e (.e (.e (.n ⟨[], [], none, false, [(4, ⟨[], .ro, [], [], some 1⟩)]⟩ .z .z) .z) .z) .z)) .z) .z)) .z))
noncomputable def E62 : Env := ⟨tab, [], 2, 19⟩
theorem d62 : (fun (x : HL (pts C62.ps)) => den E62 (Tryz.f62.body.getD .skip) H62 (initS 19 C62.ps x) (retK tab [] C62.ps C62.rs [.tmp 4]) (fun _ _ => none) (retK tab [] C62.ps C62.rs [.tmp 4])) = C62.F := by kernel_rfl
theorem c62 : Cok Tryz.prog C62 := by
  exact cok_of_den (E := E62) (fn := Tryz.f62) (code := Tryz.f62.body.getD .skip) (hn := H62) (gr := []) (is := [.tmp 4]) ⟨tabOk, (fun c hc => by cases hc), mixOk⟩ ⟨by kernel_rfl, by kernel_rfl, by kernel_rfl, by kernel_rfl, by kernel_rfl, by decide, by kernel_rfl⟩ (fun x y h => (congrFun d62 x).trans h)

/-- laws.markNodeS -/
noncomputable def C32 : Cal := ⟨32, [⟨.inp (.own (M5)), .list 54 (T5)⟩, ⟨.ro, .int .i64⟩], [⟨.int .i64, .ro⟩], fun x => laws_markNodeS x.1 x.2.1⟩
def H32 : Hn := (.e .z (.e (.e .z (.n ⟨[], [], (some ⟨[.snp 1 (.int .i64) [], .box 0 false (.list 54 (T5)) (.own (M5))], [], []⟩), false, []⟩ (.n ⟨[], [], (some ⟨[.snp 1 (.int .i64) [], .snp 5 (.int .i64) [], .box 0 false (.list 54 (T5)) (.own (M5))], [], [(0, 0)]⟩), false, []⟩ (.e .z (.e (.e (.e (.n ⟨[], [], none, false, [(5, ⟨[], .ro, [], [], some 1⟩)]⟩ .z .z) (.e .z (.e (.n ⟨[], [], none, false, [(5, ⟨[], .ro, [], [], some 1⟩)]⟩ .z .z) (.e .z (.e (.n ⟨[], [], none, false, [(6, ⟨[], .ro, [], [], some 1⟩)]⟩ .z .z) .z))))) .z) .z)) .z) .z)) .z))
noncomputable def E32 : Env := ⟨tab, [C34, C62], 2, 42⟩
theorem d32 : (fun (x : HL (pts C32.ps)) => den E32 (Tryz.f32.body.getD .skip) H32 (initS 42 C32.ps x) (retK tab [] C32.ps C32.rs [.tmp 4]) (fun _ _ => none) (retK tab [] C32.ps C32.rs [.tmp 4])) = C32.F := by kernel_rfl
theorem c32 : Cok Tryz.prog C32 := by
  have h34 := c34
  have h62 := c62
  exact cok_of_den (E := E32) (fn := Tryz.f32) (code := Tryz.f32.body.getD .skip) (hn := H32) (gr := []) (is := [.tmp 4]) ⟨tabOk, (fun c hc => by simp only [E32, List.mem_cons, List.not_mem_nil, or_false] at hc; rcases hc with rfl | rfl <;> assumption), mixOk⟩ ⟨by kernel_rfl, by kernel_rfl, by kernel_rfl, by kernel_rfl, by kernel_rfl, by decide, by kernel_rfl⟩ (fun x y h => (congrFun d32 x).trans h)

/-- laws.markParamS -/
noncomputable def C63 : Cal := ⟨63, [⟨.inp (.own (.ro)), .list 85 (T11)⟩, ⟨.ro, .int .i64⟩], [⟨.int .i64, .ro⟩], fun x => laws_markParamS x.1 x.2.1⟩
def H63 : Hn := (.e .z (.e (.e .z (.n ⟨[], [], (some ⟨[.snp 1 (.int .i64) [], .box 0 false (.list 85 (T11)) (.own (.ro))], [], []⟩), false, []⟩ (.n ⟨[], [], (some ⟨[.snp 1 (.int .i64) [], .snp 5 (.int .i64) [], .box 0 false (.list 85 (T11)) (.own (.ro))], [], [(0, 0)]⟩), false, []⟩ (.e .z (.e (.e (.e (.n ⟨[], [], none, false, [(6, ⟨[], .ro, [], [], some 1⟩)]⟩ .z .z) (.e .z (.e (.n ⟨[], [], none, false, [(5, ⟨[], .ro, [], [], some 1⟩)]⟩ .z .z) .z))) .z) .z)) .z) .z)) .z))
noncomputable def E63 : Env := ⟨tab, [C34], 2, 28⟩
theorem d63 : (fun (x : HL (pts C63.ps)) => den E63 (Tryz.f63.body.getD .skip) H63 (initS 28 C63.ps x) (retK tab [] C63.ps C63.rs [.tmp 4]) (fun _ _ => none) (retK tab [] C63.ps C63.rs [.tmp 4])) = C63.F := by kernel_rfl
theorem c63 : Cok Tryz.prog C63 := by
  have h34 := c34
  exact cok_of_den (E := E63) (fn := Tryz.f63) (code := Tryz.f63.body.getD .skip) (hn := H63) (gr := []) (is := [.tmp 4]) ⟨tabOk, (fun c hc => by simp only [E63, List.mem_cons, List.not_mem_nil, or_false] at hc; rcases hc with rfl <;> assumption), mixOk⟩ ⟨by kernel_rfl, by kernel_rfl, by kernel_rfl, by kernel_rfl, by kernel_rfl, by decide, by kernel_rfl⟩ (fun x y h => (congrFun d63 x).trans h)

/-- laws.markFnS -/
noncomputable def C33 : Cal := ⟨33, [⟨.inp (.own (M3)), .list 69 (T4)⟩, ⟨.ro, .int .i64⟩], [⟨.int .i64, .ro⟩], fun x => laws_markFnS x.1 x.2.1⟩
def H33 : Hn := (.e .z (.e (.e .z (.n ⟨[], [], (some ⟨[.snp 1 (.int .i64) [], .box 0 false (.list 69 (T4)) (.own (M3))], [], []⟩), false, []⟩ (.n ⟨[], [], (some ⟨[.snp 1 (.int .i64) [], .snp 5 (.int .i64) [], .box 0 false (.list 69 (T4)) (.own (M3))], [], [(0, 0)]⟩), false, []⟩ (.e .z (.e (.e (.e (.n ⟨[], [], none, false, [(6, ⟨[], .ro, [], [], some 1⟩)]⟩ .z .z) (.e .z (.e .z (.e (.n ⟨[], [], none, false, [(5, ⟨[], .ro, [], [], some 1⟩)]⟩ .z .z) (.e .z (.e (.n ⟨[], [], none, false, [(5, ⟨[], .ro, [], [], some 1⟩)]⟩ .z .z) (.e .z (.e (.n ⟨[], [], none, false, [(5, ⟨[], .ro, [], [], some 1⟩)]⟩ .z .z) .z)))))))) .z) .z)) .z) .z)) .z))
noncomputable def E33 : Env := ⟨tab, [C34, C63], 2, 49⟩
theorem d33 : (fun (x : HL (pts C33.ps)) => den E33 (Tryz.f33.body.getD .skip) H33 (initS 49 C33.ps x) (retK tab [] C33.ps C33.rs [.tmp 4]) (fun _ _ => none) (retK tab [] C33.ps C33.rs [.tmp 4])) = C33.F := by kernel_rfl
theorem c33 : Cok Tryz.prog C33 := by
  have h34 := c34
  have h63 := c63
  exact cok_of_den (E := E33) (fn := Tryz.f33) (code := Tryz.f33.body.getD .skip) (hn := H33) (gr := []) (is := [.tmp 4]) ⟨tabOk, (fun c hc => by simp only [E33, List.mem_cons, List.not_mem_nil, or_false] at hc; rcases hc with rfl | rfl <;> assumption), mixOk⟩ ⟨by kernel_rfl, by kernel_rfl, by kernel_rfl, by kernel_rfl, by kernel_rfl, by decide, by kernel_rfl⟩ (fun x y h => (congrFun d33 x).trans h)

/-- laws.markProgram -/
noncomputable def C12 : Cal := ⟨12, [⟨.inp (M1), T2⟩, ⟨.ro, .int .i64⟩], [⟨.int .i64, .ro⟩], fun x => laws_markProgram x.1 x.2.1⟩
def H12 : Hn := (.e (.n ⟨[], [], none, false, [(0, ⟨[], M1, [], [], none⟩)]⟩ .z .z) .z)
noncomputable def E12 : Env := ⟨tab, [C32, C33], 2, 14⟩
theorem d12 : (fun (x : HL (pts C12.ps)) => den E12 (Tryz.f12.body.getD .skip) H12 (initS 14 C12.ps x) (retK tab [] C12.ps C12.rs [.tmp 4]) (fun _ _ => none) (retK tab [] C12.ps C12.rs [.tmp 4])) = C12.F := by kernel_rfl
theorem c12 : Cok Tryz.prog C12 := by
  have h32 := c32
  have h33 := c33
  exact cok_of_den (E := E12) (fn := Tryz.f12) (code := Tryz.f12.body.getD .skip) (hn := H12) (gr := []) (is := [.tmp 4]) ⟨tabOk, (fun c hc => by simp only [E12, List.mem_cons, List.not_mem_nil, or_false] at hc; rcases hc with rfl | rfl <;> assumption), mixOk⟩ ⟨by kernel_rfl, by kernel_rfl, by kernel_rfl, by kernel_rfl, by kernel_rfl, by decide, by kernel_rfl⟩ (fun x y h => (congrFun d12 x).trans h)

/-- laws.markStringS -/
noncomputable def C13 : Cal := ⟨13, [⟨.inp (.own (.ro)), .list 9 (.str)⟩, ⟨.ro, .int .i64⟩], [⟨.int .i64, .ro⟩], fun x => laws_markStringS x.1 x.2.1⟩
def H13 : Hn := (.e .z (.e (.e .z (.n ⟨[], [], (some ⟨[.snp 1 (.int .i64) [], .box 0 false (.list 9 (.str)) (.own (.ro))], [], []⟩), false, []⟩ (.n ⟨[], [], (some ⟨[.snp 1 (.int .i64) [], .snp 5 (.int .i64) [], .box 0 false (.list 9 (.str)) (.own (.ro))], [], [(0, 0)]⟩), false, []⟩ (.e .z (.e (.e (.e (.n ⟨[], [], none, false, [(5, ⟨[], .ro, [], [], some 1⟩)]⟩ .z .z) .z) .z) .z)) .z) .z)) .z))
noncomputable def E13 : Env := ⟨tab, [C34], 2, 20⟩
theorem d13 : (fun (x : HL (pts C13.ps)) => den E13 (Tryz.f13.body.getD .skip) H13 (initS 20 C13.ps x) (retK tab [] C13.ps C13.rs [.tmp 4]) (fun _ _ => none) (retK tab [] C13.ps C13.rs [.tmp 4])) = C13.F := by kernel_rfl
theorem c13 : Cok Tryz.prog C13 := by
  have h34 := c34
  exact cok_of_den (E := E13) (fn := Tryz.f13) (code := Tryz.f13.body.getD .skip) (hn := H13) (gr := []) (is := [.tmp 4]) ⟨tabOk, (fun c hc => by simp only [E13, List.mem_cons, List.not_mem_nil, or_false] at hc; rcases hc with rfl <;> assumption), mixOk⟩ ⟨by kernel_rfl, by kernel_rfl, by kernel_rfl, by kernel_rfl, by kernel_rfl, by decide, by kernel_rfl⟩ (fun x y h => (congrFun d13 x).trans h)

/-- laws.heldStringS -/
noncomputable def C14 : Cal := ⟨14, [⟨.ro, .list 9 (.str)⟩, ⟨.ro, .int .i64⟩], [⟨.int .i64, .ro⟩], fun x => laws_heldStringS x.1 x.2.1⟩
def H14 : Hn := (.e .z (.e (.e .z (.n ⟨[], [], (some ⟨[.snp 1 (.int .i64) []], [], []⟩), true, []⟩ (.n ⟨[], [], (some ⟨[.snp 0 (.list 9 (.str)) [], .snp 1 (.int .i64) [], .snp 5 (.int .i64) []], [], []⟩), false, []⟩ (.e .z (.e (.e (.e (.e (.n ⟨[], [], none, false, [(0, .t 12), (1, .t 13), (2, .t 14), (3, .t 15), (4, .t 16), (5, .t 17), (6, .t 18)]⟩ .z .z) .z) .z) .z) .z)) .z) .z)) .z))
noncomputable def E14 : Env := ⟨tab, [C34], 2, 22⟩
theorem d14 : (fun (x : HL (pts C14.ps)) => den E14 (Tryz.f14.body.getD .skip) H14 (initS 22 C14.ps x) (retK tab [] C14.ps C14.rs [.tmp 4]) (fun _ _ => none) (retK tab [] C14.ps C14.rs [.tmp 4])) = C14.F := by kernel_rfl
theorem c14 : Cok Tryz.prog C14 := by
  have h34 := c34
  exact cok_of_den (E := E14) (fn := Tryz.f14) (code := Tryz.f14.body.getD .skip) (hn := H14) (gr := []) (is := [.tmp 4]) ⟨tabOk, (fun c hc => by simp only [E14, List.mem_cons, List.not_mem_nil, or_false] at hc; rcases hc with rfl <;> assumption), mixOk⟩ ⟨by kernel_rfl, by kernel_rfl, by kernel_rfl, by kernel_rfl, by kernel_rfl, by decide, by kernel_rfl⟩ (fun x y h => (congrFun d14 x).trans h)

/-- laws.FnExactUnusedVars -/
noncomputable def C3 : Cal := ⟨3, [⟨.ro, T1⟩, ⟨.ro, .int .i64⟩], [⟨.bool, .ro⟩], fun x => laws_FnExactUnusedVars x.1 x.2.1⟩
def H3 : Hn := (.e (.n ⟨[], [], none, false, [(0, ⟨[], M1, [], [], none⟩)]⟩ .z .z) (.e .z (.e .z (.e .z (.e (.n ⟨[], [.g 6], none, false, []⟩ .z .z) (.e (.n ⟨[], [], none, false, [(2, ⟨[], M1, [], [], none⟩), (3, ⟨[], M1, [], [], none⟩)]⟩ .z .z) (.e (.n ⟨[], [.g 8], none, false, []⟩ .z .z) (.e .z (.e (.e (.n ⟨[], [], none, false, [(0, .t 31), (1, .t 32), (2, .t 33), (3, .t 34), (4, .t 35)]⟩ .z .z) .z) (.e .z (.e .z (.e (.e (.n ⟨[], [], (some ⟨[.snp 1 (.int .i64) [], .dat 6 (.list 9 (.str)) (.own (.ro)), .dat 8 (.list 9 (.str)) (.own (.ro)), .snp 46 (.bool) [], .box 2 true (T1) (.ro)], [(2, ⟨5, []⟩)], []⟩), false, []⟩ .z .z) .z) (.e .z (.e .z (.e .z (.e .z (.e .z (.e .z (.e (.n ⟨[], [.g 12], none, false, []⟩ .z .z) .z)))))))))))))))))))
noncomputable def E3 : Env := ⟨tab, [C6, C8, C7, C9, C10, C11, C12, C13, C14], 2, 74⟩
theorem d3 : (fun (x : HL (pts C3.ps)) => den E3 (Tryz.f3.body.getD .skip) H3 (initS 74 C3.ps x) (retK tab [] C3.ps C3.rs [.tmp 4]) (fun _ _ => none) (retK tab [] C3.ps C3.rs [.tmp 4])) = C3.F := by kernel_rfl
theorem c3 : Cok Tryz.prog C3 := by
  have h6 := c6
  have h8 := c8
  have h7 := c7
  have h9 := c9
  have h10 := c10
  have h11 := c11
  have h12 := c12
  have h13 := c13
  have h14 := c14
  exact cok_of_den (E := E3) (fn := Tryz.f3) (code := Tryz.f3.body.getD .skip) (hn := H3) (gr := []) (is := [.tmp 4]) ⟨tabOk, (fun c hc => by simp only [E3, List.mem_cons, List.not_mem_nil, or_false] at hc; rcases hc with rfl | rfl | rfl | rfl | rfl | rfl | rfl | rfl | rfl <;> assumption), mixOk⟩ ⟨by kernel_rfl, by kernel_rfl, by kernel_rfl, by kernel_rfl, by kernel_rfl, by decide, by kernel_rfl⟩ (fun x y h => (congrFun d3 x).trans h)

end Go.Proofs.YtgkgfpbdodafaaaGreatDoorE

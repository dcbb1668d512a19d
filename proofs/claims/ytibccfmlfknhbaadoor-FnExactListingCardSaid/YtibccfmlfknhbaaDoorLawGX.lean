/- The functions of X reckon so (1). No condition. -/
import Derived.Test.YtibccfmlfknhbaaDoorLawLBX
import Derived.Test.YtibccfmlfknhbaaDoorPackR
import Derived.Test.YtibccfmlfknhbaaDoorLawFX
import Derived.Test.YtibccfmlfknhbaaDoorProg
set_option linter.all false
namespace Go.Proofs.YtibccfmlfknhbaaDoorE
set_option maxRecDepth 100000
set_option linter.all false
def tab : List TE := [⟨3, .int .i64, 0, 8⟩, ⟨5, .int .u8, 0, 1⟩, ⟨9, .str, 0, 16⟩, ⟨22, .list 3 (.int .i64), 0, 24⟩, ⟨24, .pair (.int .i64) (.pair (.int .i64) (.pair (.int .i64) (.pair (.int .i64) (.pair (.int .i64) (.pair (.str) (.list 3 (.int .i64))))))), 7, 80⟩, ⟨27, .pair (.int .i64) (.pair (.int .i64) (.pair (.int .i64) (.pair (.int .i64) (.pair (.int .i64) (.pair (.str) (.list 3 (.int .i64))))))), 7, 80⟩, ⟨31, .list 24 (.pair (.int .i64) (.pair (.int .i64) (.pair (.int .i64) (.pair (.int .i64) (.pair (.int .i64) (.pair (.str) (.list 3 (.int .i64)))))))), 0, 24⟩, ⟨33, .pair (.str) (.pair (.int .i64) (.pair (.list 3 (.int .i64)) (.list 24 (.pair (.int .i64) (.pair (.int .i64) (.pair (.int .i64) (.pair (.int .i64) (.pair (.int .i64) (.pair (.str) (.list 3 (.int .i64))))))))))), 4, 72⟩, ⟨36, .list 27 (.pair (.int .i64) (.pair (.int .i64) (.pair (.int .i64) (.pair (.int .i64) (.pair (.int .i64) (.pair (.str) (.list 3 (.int .i64)))))))), 0, 24⟩, ⟨38, .pair (.str) (.pair (.int .i64) (.pair (.list 3 (.int .i64)) (.list 27 (.pair (.int .i64) (.pair (.int .i64) (.pair (.int .i64) (.pair (.int .i64) (.pair (.int .i64) (.pair (.str) (.list 3 (.int .i64))))))))))), 4, 72⟩, ⟨63, .list 9 (.str), 0, 24⟩, ⟨96, .list 5 (.int .u8), 0, 24⟩]
theorem tabOk : TabOk Tryd.prog tab := tab_ok (by kernel_rfl)
theorem kOk : kpos tab = true := by kernel_rfl
theorem mixOk : Tryd.prog.follows .mixedOrders = true := by kernel_rfl

/-- laws.szIntS -/
noncomputable def C32 : Cal := ⟨32, [⟨.ro, .list 3 (.int .i64)⟩, ⟨.ro, .int .i64⟩], [⟨.int .i64, .ro⟩], fun x => laws_szIntS x.1 x.2.1⟩
def H32 : Hn := .z
noncomputable def E32 : Env := ⟨tab, [], 2, 12⟩
theorem d32 : (fun (x : HL (pts C32.ps)) => den E32 (Tryd.f32.body.getD .skip) H32 (initS 12 C32.ps x) (retK tab [] C32.ps C32.rs [.tmp 4]) (fun _ _ => none) (retK tab [] C32.ps C32.rs [.tmp 4])) = C32.F := by kernel_rfl
theorem c32 : Cok Tryd.prog C32 := by
  exact cok_of_den (E := E32) (fn := Tryd.f32) (code := Tryd.f32.body.getD .skip) (hn := H32) (gr := []) (is := [.tmp 4]) ⟨tabOk, (fun c hc => by cases hc), mixOk⟩ ⟨by kernel_rfl, by kernel_rfl, by kernel_rfl, by kernel_rfl, by kernel_rfl, by decide, by kernel_rfl⟩ (fun x y h => (congrFun d32 x).trans h)

/-- laws.szIns -/
noncomputable def C9 : Cal := ⟨9, [⟨.ro, .pair (.int .i64) (.pair (.int .i64) (.pair (.int .i64) (.pair (.int .i64) (.pair (.int .i64) (.pair (.str) (.list 3 (.int .i64)))))))⟩, ⟨.ro, .int .i64⟩], [⟨.int .i64, .ro⟩], fun x => laws_szIns x.1 x.2.1⟩
def H9 : Hn := (.n ⟨[], [], none, false, []⟩ (.n ⟨[], [], none, false, [(0, ⟨[], .pr (.ro) (.pr (.ro) (.pr (.ro) (.pr (.ro) (.pr (.ro) (.pr (.ro) (.own (.ro))))))), [], [], none⟩)]⟩ .z .z) .z)
noncomputable def E9 : Env := ⟨tab, [C32], 2, 19⟩
theorem d9 : (fun (x : HL (pts C9.ps)) => den E9 (Tryd.f9.body.getD .skip) H9 (initS 19 C9.ps x) (retK tab [] C9.ps C9.rs [.tmp 4]) (fun _ _ => none) (retK tab [] C9.ps C9.rs [.tmp 4])) = C9.F := by kernel_rfl
theorem c9 : Cok Tryd.prog C9 := by
  have h32 := c32
  exact cok_of_den (E := E9) (fn := Tryd.f9) (code := Tryd.f9.body.getD .skip) (hn := H9) (gr := []) (is := [.tmp 4]) ⟨tabOk, (fun c hc => by simp only [E9, List.mem_cons, List.not_mem_nil, or_false] at hc; rcases hc with rfl <;> assumption), mixOk⟩ ⟨by kernel_rfl, by kernel_rfl, by kernel_rfl, by kernel_rfl, by kernel_rfl, by decide, by kernel_rfl⟩ (fun x y h => (congrFun d9 x).trans h)

/-- laws.toIntS -/
noncomputable def C38 : Cal := ⟨38, [⟨.ro, .list 3 (.int .i64)⟩], [⟨.list 3 (.int .i64), .own (.ro)⟩], fun x => laws_toIntS x.1⟩
def H38 : Hn := (.n ⟨[], [], none, false, []⟩ .z (.n ⟨[], [], none, false, []⟩ .z (.n ⟨[], [], none, false, []⟩ (.n ⟨[], [], none, false, []⟩ .z (.n ⟨[], [], (some ⟨[.dat 3 (.list 3 (.int .i64)) (.own (.ro))], [], []⟩), false, []⟩ (.n ⟨[.g 3], [], (some ⟨[.snp 0 (.list 3 (.int .i64)) [], .dat 3 (.list 3 (.int .i64)) (.own (.ro)), .snp 4 (.int .i64) []], [], []⟩), false, []⟩ (.n ⟨[], [], none, false, []⟩ .z (.n ⟨[], [], none, false, []⟩ (.n ⟨[], [], none, false, []⟩ (.n ⟨[], [], none, false, [(7, ⟨[], .ro, [], [], some 6⟩)]⟩ .z .z) .z) .z)) .z) .z)) .z)))
noncomputable def E38 : Env := ⟨tab, [], 1, 22⟩
theorem d38 : (fun (x : HL (pts C38.ps)) => den E38 (Tryd.f38.body.getD .skip) H38 (initS 22 C38.ps x) (retK tab [.g 2] C38.ps C38.rs [.tmp 2]) (fun _ _ => none) (retK tab [.g 2] C38.ps C38.rs [.tmp 2])) = C38.F := by kernel_rfl
theorem c38 : Cok Tryd.prog C38 := by
  exact cok_of_den (E := E38) (fn := Tryd.f38) (code := Tryd.f38.body.getD .skip) (hn := H38) (gr := [.g 2]) (is := [.tmp 2]) ⟨tabOk, (fun c hc => by cases hc), mixOk⟩ ⟨by kernel_rfl, by kernel_rfl, by kernel_rfl, by kernel_rfl, by kernel_rfl, by decide, by kernel_rfl⟩ (fun x y h => (congrFun d38 x).trans h)

/-- laws.toIns -/
noncomputable def C11 : Cal := ⟨11, [⟨.ro, .pair (.int .i64) (.pair (.int .i64) (.pair (.int .i64) (.pair (.int .i64) (.pair (.int .i64) (.pair (.str) (.list 3 (.int .i64)))))))⟩], [⟨.pair (.int .i64) (.pair (.int .i64) (.pair (.int .i64) (.pair (.int .i64) (.pair (.int .i64) (.pair (.str) (.list 3 (.int .i64))))))), .pr (.ro) (.pr (.ro) (.pr (.ro) (.pr (.ro) (.pr (.ro) (.pr (.ro) (.own (.ro)))))))⟩], fun x => laws_toIns x.1⟩
def H11 : Hn := (.n ⟨[], [], none, false, []⟩ (.n ⟨[], [], none, false, [(0, ⟨[], .pr (.ro) (.pr (.ro) (.pr (.ro) (.pr (.ro) (.pr (.ro) (.pr (.ro) (.own (.ro))))))), [], [], none⟩), (1, ⟨[], .pr (.ro) (.pr (.ro) (.pr (.ro) (.pr (.ro) (.pr (.ro) (.pr (.ro) (.own (.ro))))))), [], [], none⟩)]⟩ .z .z) (.n ⟨[], [], none, false, []⟩ (.n ⟨[], [], none, false, [(0, ⟨[], .pr (.ro) (.pr (.ro) (.pr (.ro) (.pr (.ro) (.pr (.ro) (.pr (.ro) (.own (.ro))))))), [], [], none⟩)]⟩ .z .z) (.n ⟨[], [], none, false, []⟩ .z (.n ⟨[], [], none, false, []⟩ .z (.n ⟨[], [], none, false, []⟩ .z (.n ⟨[], [], none, false, []⟩ .z (.n ⟨[], [], none, false, []⟩ .z (.n ⟨[], [], none, false, []⟩ .z (.n ⟨[], [], none, false, []⟩ (.n ⟨[], [], none, false, [(4, ⟨[], .own (.ro), [], [], none⟩)]⟩ .z .z) (.n ⟨[], [], none, false, []⟩ (.n ⟨[], [], none, false, [(1, ⟨[.g 26], .pr (.ro) (.pr (.ro) (.pr (.ro) (.pr (.ro) (.pr (.ro) (.pr (.ro) (.own (.ro))))))), [], [], none⟩)]⟩ .z .z) .z))))))))))
noncomputable def E11 : Env := ⟨tab, [C38], 1, 27⟩
theorem d11 : (fun (x : HL (pts C11.ps)) => den E11 (Tryd.f11.body.getD .skip) H11 (initS 27 C11.ps x) (retK tab [] C11.ps C11.rs [.cell 2 27]) (fun _ _ => none) (retK tab [] C11.ps C11.rs [.cell 2 27])) = C11.F := by kernel_rfl
theorem c11 : Cok Tryd.prog C11 := by
  have h38 := c38
  exact cok_of_den (E := E11) (fn := Tryd.f11) (code := Tryd.f11.body.getD .skip) (hn := H11) (gr := []) (is := [.cell 2 27]) ⟨tabOk, (fun c hc => by simp only [E11, List.mem_cons, List.not_mem_nil, or_false] at hc; rcases hc with rfl <;> assumption), mixOk⟩ ⟨by kernel_rfl, by kernel_rfl, by kernel_rfl, by kernel_rfl, by kernel_rfl, by decide, by kernel_rfl⟩ (fun x y h => (congrFun d11 x).trans h)

/-- spec.l01In -/
noncomputable def C33 : Cal := ⟨33, [⟨.ro, .int .i64⟩, ⟨.ro, .int .i64⟩, ⟨.ro, .int .i64⟩], [⟨.bool, .ro⟩], fun x => spec_l01In x.1 x.2.1 x.2.2.1⟩
def H33 : Hn := (.n ⟨[], [], none, false, []⟩ .z (.n ⟨[], [], none, false, []⟩ (.n ⟨[], [], (some ⟨[.snp 6 (.bool) []], [], []⟩), false, []⟩ .z .z) .z))
noncomputable def E33 : Env := ⟨tab, [], 3, 15⟩
theorem d33 : (fun (x : HL (pts C33.ps)) => den E33 (Tryd.f33.body.getD .skip) H33 (initS 15 C33.ps x) (retK tab [] C33.ps C33.rs [.tmp 6]) (fun _ _ => none) (retK tab [] C33.ps C33.rs [.tmp 6])) = C33.F := by kernel_rfl
theorem c33 : Cok Tryd.prog C33 := by
  exact cok_of_den (E := E33) (fn := Tryd.f33) (code := Tryd.f33.body.getD .skip) (hn := H33) (gr := []) (is := [.tmp 6]) ⟨tabOk, (fun c hc => by cases hc), mixOk⟩ ⟨by kernel_rfl, by kernel_rfl, by kernel_rfl, by kernel_rfl, by kernel_rfl, by decide, by kernel_rfl⟩ (fun x y h => (congrFun d33 x).trans h)

/-- spec.l34Names -/
noncomputable def C34 : Cal := ⟨34, [], [⟨.list 9 (.str), .own (.ro)⟩], fun x => spec_l34Names ⟩
def H34 : Hn := .z
noncomputable def E34 : Env := ⟨tab, [], 0, 2⟩
theorem d34 : (fun (x : HL (pts C34.ps)) => den E34 (Tryd.f34.body.getD .skip) H34 (initS 2 C34.ps x) (retK tab [.g 0] C34.ps C34.rs [.tmp 0]) (fun _ _ => none) (retK tab [.g 0] C34.ps C34.rs [.tmp 0])) = C34.F := by kernel_rfl
theorem c34 : Cok Tryd.prog C34 := by
  exact cok_of_den (E := E34) (fn := Tryd.f34) (code := Tryd.f34.body.getD .skip) (hn := H34) (gr := [.g 0]) (is := [.tmp 0]) ⟨tabOk, (fun c hc => by cases hc), mixOk⟩ ⟨by kernel_rfl, by kernel_rfl, by kernel_rfl, by kernel_rfl, by kernel_rfl, by decide, by kernel_rfl⟩ (fun x y h => (congrFun d34 x).trans h)

/-- spec.l01Figure -/
noncomputable def C80 : Cal := ⟨80, [⟨.ro, .int .i64⟩], [⟨.int .u8, .ro⟩], fun x => spec_l01Figure x.1⟩
def H80 : Hn := .z
noncomputable def E80 : Env := ⟨tab, [], 1, 12⟩
theorem d80 : (fun (x : HL (pts C80.ps)) => den E80 (Tryd.f80.body.getD .skip) H80 (initS 12 C80.ps x) (retK tab [] C80.ps C80.rs [.tmp 2]) (fun _ _ => none) (retK tab [] C80.ps C80.rs [.tmp 2])) = C80.F := by kernel_rfl
theorem c80 : Cok Tryd.prog C80 := by
  exact cok_of_den (E := E80) (fn := Tryd.f80) (code := Tryd.f80.body.getD .skip) (hn := H80) (gr := []) (is := [.tmp 2]) ⟨tabOk, (fun c hc => by cases hc), mixOk⟩ ⟨by kernel_rfl, by kernel_rfl, by kernel_rfl, by kernel_rfl, by kernel_rfl, by decide, by kernel_rfl⟩ (fun x y h => (congrFun d80 x).trans h)

/-- spec.Decimal -/
noncomputable def C49 : Cal := ⟨49, [⟨.ro, .int .i64⟩], [⟨.str, .ro⟩], fun x => spec_Decimal x.1⟩
def H49 : Hn := (.n ⟨[], [], none, false, []⟩ .z (.n ⟨[], [], none, false, []⟩ .z (.n ⟨[], [], none, false, []⟩ .z (.n ⟨[], [], none, false, []⟩ .z (.n ⟨[], [], none, false, []⟩ (.n ⟨[], [], (some ⟨[.snp 3 (.bool) [], .snp 4 (.str) []], [], []⟩), false, []⟩ (.n ⟨[], [], (some ⟨[.snp 0 (.int .i64) [], .snp 3 (.bool) [], .snp 4 (.str) []], [], []⟩), false, []⟩ (.n ⟨[], [], none, false, []⟩ .z (.n ⟨[], [], none, false, []⟩ (.n ⟨[], [], none, false, []⟩ .z (.n ⟨[], [], none, false, []⟩ (.n ⟨[], [], none, false, []⟩ .z (.n ⟨[], [], (some ⟨[.snp 0 (.int .i64) [], .snp 3 (.bool) [], .snp 4 (.str) [], .snp 5 (.int .i64) []], [], []⟩), false, []⟩ .z .z)) .z)) .z)) .z) .z) .z)))))
noncomputable def E49 : Env := ⟨tab, [C80], 1, 30⟩
theorem d49 : (fun (x : HL (pts C49.ps)) => den E49 (Tryd.f49.body.getD .skip) H49 (initS 30 C49.ps x) (retK tab [] C49.ps C49.rs [.tmp 2]) (fun _ _ => none) (retK tab [] C49.ps C49.rs [.tmp 2])) = C49.F := by kernel_rfl
theorem c49 : Cok Tryd.prog C49 := by
  have h80 := c80
  exact cok_of_den (E := E49) (fn := Tryd.f49) (code := Tryd.f49.body.getD .skip) (hn := H49) (gr := []) (is := [.tmp 2]) ⟨tabOk, (fun c hc => by simp only [E49, List.mem_cons, List.not_mem_nil, or_false] at hc; rcases hc with rfl <;> assumption), mixOk⟩ ⟨by kernel_rfl, by kernel_rfl, by kernel_rfl, by kernel_rfl, by kernel_rfl, by decide, by kernel_rfl⟩ (fun x y h => (congrFun d49 x).trans h)

/-- spec.l34Num -/
noncomputable def C35 : Cal := ⟨35, [⟨.ro, .int .i64⟩], [⟨.str, .ro⟩], fun x => spec_l34Num x.1⟩
def H35 : Hn := .z
noncomputable def E35 : Env := ⟨tab, [C49], 1, 7⟩
theorem d35 : (fun (x : HL (pts C35.ps)) => den E35 (Tryd.f35.body.getD .skip) H35 (initS 7 C35.ps x) (retK tab [] C35.ps C35.rs [.tmp 2]) (fun _ _ => none) (retK tab [] C35.ps C35.rs [.tmp 2])) = C35.F := by kernel_rfl
theorem c35 : Cok Tryd.prog C35 := by
  have h49 := c49
  exact cok_of_den (E := E35) (fn := Tryd.f35) (code := Tryd.f35.body.getD .skip) (hn := H35) (gr := []) (is := [.tmp 2]) ⟨tabOk, (fun c hc => by simp only [E35, List.mem_cons, List.not_mem_nil, or_false] at hc; rcases hc with rfl <;> assumption), mixOk⟩ ⟨by kernel_rfl, by kernel_rfl, by kernel_rfl, by kernel_rfl, by kernel_rfl, by decide, by kernel_rfl⟩ (fun x y h => (congrFun d35 x).trans h)

/-- spec.l11HasB -/
noncomputable def C36 : Cal := ⟨36, [⟨.ro, .int .i64⟩], [⟨.bool, .ro⟩], fun x => spec_l11HasB x.1⟩
def H36 : Hn := (.n ⟨[], [], none, false, []⟩ .z (.n ⟨[], [], none, false, []⟩ (.n ⟨[], [], (some ⟨[.snp 2 (.bool) []], [], []⟩), false, []⟩ .z .z) .z))
noncomputable def E36 : Env := ⟨tab, [C33], 1, 17⟩
theorem d36 : (fun (x : HL (pts C36.ps)) => den E36 (Tryd.f36.body.getD .skip) H36 (initS 17 C36.ps x) (retK tab [] C36.ps C36.rs [.tmp 2]) (fun _ _ => none) (retK tab [] C36.ps C36.rs [.tmp 2])) = C36.F := by kernel_rfl
theorem c36 : Cok Tryd.prog C36 := by
  have h33 := c33
  exact cok_of_den (E := E36) (fn := Tryd.f36) (code := Tryd.f36.body.getD .skip) (hn := H36) (gr := []) (is := [.tmp 2]) ⟨tabOk, (fun c hc => by simp only [E36, List.mem_cons, List.not_mem_nil, or_false] at hc; rcases hc with rfl <;> assumption), mixOk⟩ ⟨by kernel_rfl, by kernel_rfl, by kernel_rfl, by kernel_rfl, by kernel_rfl, by decide, by kernel_rfl⟩ (fun x y h => (congrFun d36 x).trans h)

/-- spec.l11HasC -/
noncomputable def C37 : Cal := ⟨37, [⟨.ro, .int .i64⟩], [⟨.bool, .ro⟩], fun x => spec_l11HasC x.1⟩
def H37 : Hn := .z
noncomputable def E37 : Env := ⟨tab, [C33], 1, 5⟩
theorem d37 : (fun (x : HL (pts C37.ps)) => den E37 (Tryd.f37.body.getD .skip) H37 (initS 5 C37.ps x) (retK tab [] C37.ps C37.rs [.tmp 2]) (fun _ _ => none) (retK tab [] C37.ps C37.rs [.tmp 2])) = C37.F := by kernel_rfl
theorem c37 : Cok Tryd.prog C37 := by
  have h33 := c33
  exact cok_of_den (E := E37) (fn := Tryd.f37) (code := Tryd.f37.body.getD .skip) (hn := H37) (gr := []) (is := [.tmp 2]) ⟨tabOk, (fun c hc => by simp only [E37, List.mem_cons, List.not_mem_nil, or_false] at hc; rcases hc with rfl <;> assumption), mixOk⟩ ⟨by kernel_rfl, by kernel_rfl, by kernel_rfl, by kernel_rfl, by kernel_rfl, by decide, by kernel_rfl⟩ (fun x y h => (congrFun d37 x).trans h)

/-- spec.ShowWord -/
noncomputable def C10 : Cal := ⟨10, [⟨.ro, .pair (.int .i64) (.pair (.int .i64) (.pair (.int .i64) (.pair (.int .i64) (.pair (.int .i64) (.pair (.str) (.list 3 (.int .i64)))))))⟩], [⟨.str, .ro⟩], fun x => spec_ShowWord x.1⟩
def H10 : Hn := (.n ⟨[], [], none, false, []⟩ (.n ⟨[], [], none, false, [(0, ⟨[], .pr (.ro) (.pr (.ro) (.pr (.ro) (.pr (.ro) (.pr (.ro) (.pr (.ro) (.own (.ro))))))), [], [], none⟩)]⟩ .z .z) (.n ⟨[], [], none, false, []⟩ .z (.n ⟨[], [], none, false, []⟩ (.n ⟨[], [], none, false, [(0, ⟨[], .ro, [9], [], none⟩), (1, ⟨[], .ro, [10], [], none⟩), (2, ⟨[], .ro, [11], [], none⟩), (3, ⟨[], .ro, [12], [], none⟩), (4, ⟨[], .ro, [13], [], none⟩), (5, ⟨[], .ro, [3], [], none⟩)]⟩ .z .z) (.n ⟨[], [], none, false, []⟩ (.n ⟨[], [], none, false, []⟩ .z (.n ⟨[], [], (some ⟨[.snp 3 (.str) [], .box 1 true (.pair (.int .i64) (.pair (.int .i64) (.pair (.int .i64) (.pair (.int .i64) (.pair (.int .i64) (.pair (.str) (.list 3 (.int .i64)))))))) (.ro)], [(1, ⟨3, []⟩)], []⟩), false, []⟩ .z .z)) (.n ⟨[], [], none, false, []⟩ (.n ⟨[], [], none, false, []⟩ .z (.n ⟨[], [], (some ⟨[.snp 3 (.str) [], .box 1 true (.pair (.int .i64) (.pair (.int .i64) (.pair (.int .i64) (.pair (.int .i64) (.pair (.int .i64) (.pair (.str) (.list 3 (.int .i64)))))))) (.ro)], [(1, ⟨3, []⟩)], []⟩), false, []⟩ .z .z)) (.n ⟨[], [], none, false, []⟩ (.n ⟨[], [], none, false, []⟩ .z (.n ⟨[], [], (some ⟨[.snp 3 (.str) [], .box 1 true (.pair (.int .i64) (.pair (.int .i64) (.pair (.int .i64) (.pair (.int .i64) (.pair (.int .i64) (.pair (.str) (.list 3 (.int .i64)))))))) (.ro)], [(1, ⟨3, []⟩)], []⟩), false, []⟩ .z .z)) (.n ⟨[], [], none, false, []⟩ (.n ⟨[], [], none, false, []⟩ .z (.n ⟨[], [], (some ⟨[.snp 3 (.str) []], [], []⟩), false, []⟩ (.n ⟨[], [], none, false, []⟩ (.n ⟨[], [], none, false, []⟩ .z (.n ⟨[], [], (some ⟨[.snp 3 (.str) [], .snp 42 (.int .i64) [], .snp 43 (.bool) [], .box 1 true (.pair (.int .i64) (.pair (.int .i64) (.pair (.int .i64) (.pair (.int .i64) (.pair (.int .i64) (.pair (.str) (.list 3 (.int .i64)))))))) (.ro)], [(1, ⟨3, []⟩)], []⟩), false, []⟩ .z (.n ⟨[], [], none, false, []⟩ .z (.n ⟨[], [], (some ⟨[.snp 3 (.str) [], .snp 42 (.int .i64) [], .snp 43 (.bool) [], .box 1 true (.pair (.int .i64) (.pair (.int .i64) (.pair (.int .i64) (.pair (.int .i64) (.pair (.int .i64) (.pair (.str) (.list 3 (.int .i64)))))))) (.ro)], [(1, ⟨3, []⟩)], []⟩), false, []⟩ .z .z)))) (.n ⟨[], [], (some ⟨[.snp 3 (.str) []], [], []⟩), false, []⟩ .z (.n ⟨[], [], none, false, []⟩ .z (.n ⟨[], [], (some ⟨[.snp 3 (.str) []], [], []⟩), false, []⟩ (.n ⟨[], [], none, false, []⟩ .z (.n ⟨[], [], none, false, []⟩ .z (.n ⟨[], [], (some ⟨[.snp 3 (.str) []], [], []⟩), false, []⟩ (.n ⟨[], [], (some ⟨[.snp 3 (.str) [], .snp 4 (.int .i64) [], .box 1 true (.pair (.int .i64) (.pair (.int .i64) (.pair (.int .i64) (.pair (.int .i64) (.pair (.int .i64) (.pair (.str) (.list 3 (.int .i64)))))))) (.ro)], [(1, ⟨3, []⟩)], []⟩), false, []⟩ .z .z) .z))) .z)))) .z)) .z)))))))
noncomputable def E10 : Env := ⟨tab, [C33, C34, C35, C36, C37], 1, 77⟩
theorem d10 : (fun (x : HL (pts C10.ps)) => den E10 (Tryd.f10.body.getD .skip) H10 (initS 77 C10.ps x) (retK tab [] C10.ps C10.rs [.tmp 2]) (fun _ _ => none) (retK tab [] C10.ps C10.rs [.tmp 2])) = C10.F := by kernel_rfl
theorem c10 : Cok Tryd.prog C10 := by
  have h33 := c33
  have h34 := c34
  have h35 := c35
  have h36 := c36
  have h37 := c37
  exact cok_of_den (E := E10) (fn := Tryd.f10) (code := Tryd.f10.body.getD .skip) (hn := H10) (gr := []) (is := [.tmp 2]) ⟨tabOk, (fun c hc => by simp only [E10, List.mem_cons, List.not_mem_nil, or_false] at hc; rcases hc with rfl | rfl | rfl | rfl | rfl <;> assumption), mixOk⟩ ⟨by kernel_rfl, by kernel_rfl, by kernel_rfl, by kernel_rfl, by kernel_rfl, by decide, by kernel_rfl⟩ (fun x y h => (congrFun d10 x).trans h)

/-- impl.in -/
noncomputable def C39 : Cal := ⟨39, [⟨.ro, .int .i64⟩, ⟨.ro, .int .i64⟩, ⟨.ro, .int .i64⟩], [⟨.bool, .ro⟩], fun x => impl_in x.1 x.2.1 x.2.2.1⟩
def H39 : Hn := (.n ⟨[], [], none, false, []⟩ .z (.n ⟨[], [], none, false, []⟩ (.n ⟨[], [], (some ⟨[.snp 6 (.bool) []], [], []⟩), false, []⟩ .z .z) .z))
noncomputable def E39 : Env := ⟨tab, [], 3, 15⟩
theorem d39 : (fun (x : HL (pts C39.ps)) => den E39 (Tryd.f39.body.getD .skip) H39 (initS 15 C39.ps x) (retK tab [] C39.ps C39.rs [.tmp 6]) (fun _ _ => none) (retK tab [] C39.ps C39.rs [.tmp 6])) = C39.F := by kernel_rfl
theorem c39 : Cok Tryd.prog C39 := by
  exact cok_of_den (E := E39) (fn := Tryd.f39) (code := Tryd.f39.body.getD .skip) (hn := H39) (gr := []) (is := [.tmp 6]) ⟨tabOk, (fun c hc => by cases hc), mixOk⟩ ⟨by kernel_rfl, by kernel_rfl, by kernel_rfl, by kernel_rfl, by kernel_rfl, by decide, by kernel_rfl⟩ (fun x y h => (congrFun d39 x).trans h)

/-- impl.hasA -/
noncomputable def C41 : Cal := ⟨41, [⟨.ro, .int .i64⟩], [⟨.bool, .ro⟩], fun x => impl_hasA x.1⟩
def H41 : Hn := (.n ⟨[], [], none, false, []⟩ .z (.n ⟨[], [], none, false, []⟩ (.n ⟨[], [], (some ⟨[.snp 2 (.bool) []], [], []⟩), false, []⟩ .z .z) .z))
noncomputable def E41 : Env := ⟨tab, [C39], 1, 13⟩
theorem d41 : (fun (x : HL (pts C41.ps)) => den E41 (Tryd.f41.body.getD .skip) H41 (initS 13 C41.ps x) (retK tab [] C41.ps C41.rs [.tmp 2]) (fun _ _ => none) (retK tab [] C41.ps C41.rs [.tmp 2])) = C41.F := by kernel_rfl
theorem c41 : Cok Tryd.prog C41 := by
  have h39 := c39
  exact cok_of_den (E := E41) (fn := Tryd.f41) (code := Tryd.f41.body.getD .skip) (hn := H41) (gr := []) (is := [.tmp 2]) ⟨tabOk, (fun c hc => by simp only [E41, List.mem_cons, List.not_mem_nil, or_false] at hc; rcases hc with rfl <;> assumption), mixOk⟩ ⟨by kernel_rfl, by kernel_rfl, by kernel_rfl, by kernel_rfl, by kernel_rfl, by decide, by kernel_rfl⟩ (fun x y h => (congrFun d41 x).trans h)

/-- impl.Decimal -/
noncomputable def C51 : Cal := ⟨51, [⟨.ro, .int .i64⟩], [⟨.str, .ro⟩], fun x => impl_Decimal x.1⟩
def H51 : Hn := .z
noncomputable def E51 : Env := ⟨tab, [C81], 1, 5⟩
theorem d51 : (fun (x : HL (pts C51.ps)) => den E51 (Tryd.f51.body.getD .skip) H51 (initS 5 C51.ps x) (retK tab [] C51.ps C51.rs [.tmp 2]) (fun _ _ => none) (retK tab [] C51.ps C51.rs [.tmp 2])) = C51.F := by kernel_rfl
theorem c51 : Cok Tryd.prog C51 := by
  have h81 := c81
  exact cok_of_den (E := E51) (fn := Tryd.f51) (code := Tryd.f51.body.getD .skip) (hn := H51) (gr := []) (is := [.tmp 2]) ⟨tabOk, (fun c hc => by simp only [E51, List.mem_cons, List.not_mem_nil, or_false] at hc; rcases hc with rfl <;> assumption), mixOk⟩ ⟨by kernel_rfl, by kernel_rfl, by kernel_rfl, by kernel_rfl, by kernel_rfl, by decide, by kernel_rfl⟩ (fun x y h => (congrFun d51 x).trans h)

/-- impl.figures -/
noncomputable def C42 : Cal := ⟨42, [⟨.ro, .int .i64⟩], [⟨.str, .ro⟩], fun x => impl_figures x.1⟩
def H42 : Hn := .z
noncomputable def E42 : Env := ⟨tab, [C51], 1, 7⟩
theorem d42 : (fun (x : HL (pts C42.ps)) => den E42 (Tryd.f42.body.getD .skip) H42 (initS 7 C42.ps x) (retK tab [] C42.ps C42.rs [.tmp 2]) (fun _ _ => none) (retK tab [] C42.ps C42.rs [.tmp 2])) = C42.F := by kernel_rfl
theorem c42 : Cok Tryd.prog C42 := by
  have h51 := c51
  exact cok_of_den (E := E42) (fn := Tryd.f42) (code := Tryd.f42.body.getD .skip) (hn := H42) (gr := []) (is := [.tmp 2]) ⟨tabOk, (fun c hc => by simp only [E42, List.mem_cons, List.not_mem_nil, or_false] at hc; rcases hc with rfl <;> assumption), mixOk⟩ ⟨by kernel_rfl, by kernel_rfl, by kernel_rfl, by kernel_rfl, by kernel_rfl, by decide, by kernel_rfl⟩ (fun x y h => (congrFun d42 x).trans h)

/-- impl.hasB -/
noncomputable def C43 : Cal := ⟨43, [⟨.ro, .int .i64⟩], [⟨.bool, .ro⟩], fun x => impl_hasB x.1⟩
def H43 : Hn := (.n ⟨[], [], none, false, []⟩ .z (.n ⟨[], [], none, false, []⟩ (.n ⟨[], [], (some ⟨[.snp 2 (.bool) []], [], []⟩), false, []⟩ .z .z) .z))
noncomputable def E43 : Env := ⟨tab, [C39], 1, 17⟩
theorem d43 : (fun (x : HL (pts C43.ps)) => den E43 (Tryd.f43.body.getD .skip) H43 (initS 17 C43.ps x) (retK tab [] C43.ps C43.rs [.tmp 2]) (fun _ _ => none) (retK tab [] C43.ps C43.rs [.tmp 2])) = C43.F := by kernel_rfl
theorem c43 : Cok Tryd.prog C43 := by
  have h39 := c39
  exact cok_of_den (E := E43) (fn := Tryd.f43) (code := Tryd.f43.body.getD .skip) (hn := H43) (gr := []) (is := [.tmp 2]) ⟨tabOk, (fun c hc => by simp only [E43, List.mem_cons, List.not_mem_nil, or_false] at hc; rcases hc with rfl <;> assumption), mixOk⟩ ⟨by kernel_rfl, by kernel_rfl, by kernel_rfl, by kernel_rfl, by kernel_rfl, by decide, by kernel_rfl⟩ (fun x y h => (congrFun d43 x).trans h)

/-- impl.hasC -/
noncomputable def C44 : Cal := ⟨44, [⟨.ro, .int .i64⟩], [⟨.bool, .ro⟩], fun x => impl_hasC x.1⟩
def H44 : Hn := .z
noncomputable def E44 : Env := ⟨tab, [C39], 1, 5⟩
theorem d44 : (fun (x : HL (pts C44.ps)) => den E44 (Tryd.f44.body.getD .skip) H44 (initS 5 C44.ps x) (retK tab [] C44.ps C44.rs [.tmp 2]) (fun _ _ => none) (retK tab [] C44.ps C44.rs [.tmp 2])) = C44.F := by kernel_rfl
theorem c44 : Cok Tryd.prog C44 := by
  have h39 := c39
  exact cok_of_den (E := E44) (fn := Tryd.f44) (code := Tryd.f44.body.getD .skip) (hn := H44) (gr := []) (is := [.tmp 2]) ⟨tabOk, (fun c hc => by simp only [E44, List.mem_cons, List.not_mem_nil, or_false] at hc; rcases hc with rfl <;> assumption), mixOk⟩ ⟨by kernel_rfl, by kernel_rfl, by kernel_rfl, by kernel_rfl, by kernel_rfl, by decide, by kernel_rfl⟩ (fun x y h => (congrFun d44 x).trans h)

/-- impl.hasNum -/
noncomputable def C45 : Cal := ⟨45, [⟨.ro, .int .i64⟩], [⟨.bool, .ro⟩], fun x => impl_hasNum x.1⟩
def H45 : Hn := (.n ⟨[], [], none, false, []⟩ .z (.n ⟨[], [], none, false, []⟩ (.n ⟨[], [], (some ⟨[.snp 2 (.bool) []], [], []⟩), false, []⟩ .z .z) .z))
noncomputable def E45 : Env := ⟨tab, [], 1, 13⟩
theorem d45 : (fun (x : HL (pts C45.ps)) => den E45 (Tryd.f45.body.getD .skip) H45 (initS 13 C45.ps x) (retK tab [] C45.ps C45.rs [.tmp 2]) (fun _ _ => none) (retK tab [] C45.ps C45.rs [.tmp 2])) = C45.F := by kernel_rfl
theorem c45 : Cok Tryd.prog C45 := by
  exact cok_of_den (E := E45) (fn := Tryd.f45) (code := Tryd.f45.body.getD .skip) (hn := H45) (gr := []) (is := [.tmp 2]) ⟨tabOk, (fun c hc => by cases hc), mixOk⟩ ⟨by kernel_rfl, by kernel_rfl, by kernel_rfl, by kernel_rfl, by kernel_rfl, by decide, by kernel_rfl⟩ (fun x y h => (congrFun d45 x).trans h)

/-- impl.ShowWord -/
noncomputable def C12 : Cal := ⟨12, [⟨.ro, .pair (.int .i64) (.pair (.int .i64) (.pair (.int .i64) (.pair (.int .i64) (.pair (.int .i64) (.pair (.str) (.list 3 (.int .i64)))))))⟩], [⟨.str, .ro⟩], fun x => impl_ShowWord x.1⟩
def H12 : Hn := (.n ⟨[], [], none, false, []⟩ (.n ⟨[], [], none, false, [(0, ⟨[], .pr (.ro) (.pr (.ro) (.pr (.ro) (.pr (.ro) (.pr (.ro) (.pr (.ro) (.own (.ro))))))), [], [], none⟩)]⟩ .z .z) (.n ⟨[], [], none, false, []⟩ .z (.n ⟨[], [], none, false, []⟩ (.n ⟨[], [], none, false, [(0, ⟨[], .ro, [10], [], none⟩), (1, ⟨[], .ro, [11], [], none⟩), (2, ⟨[], .ro, [12], [], none⟩), (3, ⟨[], .ro, [13], [], none⟩), (4, ⟨[], .ro, [14], [], none⟩), (5, ⟨[], .ro, [15], [], none⟩), (6, ⟨[], .ro, [16], [], none⟩), (7, ⟨[], .ro, [3], [], none⟩)]⟩ .z .z) (.n ⟨[], [], none, false, []⟩ (.n ⟨[], [], none, false, []⟩ .z (.n ⟨[], [], (some ⟨[.dat 3 (.list 9 (.str)) (.own (.ro)), .box 1 true (.pair (.int .i64) (.pair (.int .i64) (.pair (.int .i64) (.pair (.int .i64) (.pair (.int .i64) (.pair (.str) (.list 3 (.int .i64)))))))) (.ro)], [(1, ⟨3, []⟩)], []⟩), false, []⟩ (.n ⟨[], [.g 3], none, false, [(5, ⟨[.g 20], .ro, [], [], none⟩)]⟩ .z .z) (.n ⟨[], [.g 3], none, false, []⟩ .z .z))) (.n ⟨[], [], none, false, []⟩ (.n ⟨[], [], none, false, []⟩ .z (.n ⟨[], [], (some ⟨[.dat 3 (.list 9 (.str)) (.own (.ro)), .box 1 true (.pair (.int .i64) (.pair (.int .i64) (.pair (.int .i64) (.pair (.int .i64) (.pair (.int .i64) (.pair (.str) (.list 3 (.int .i64)))))))) (.ro)], [(1, ⟨3, []⟩)], []⟩), false, []⟩ (.n ⟨[], [.g 3], none, false, [(5, ⟨[.g 29], .ro, [], [], none⟩)]⟩ .z .z) .z)) (.n ⟨[], [], none, false, []⟩ (.n ⟨[], [], none, false, []⟩ .z (.n ⟨[], [], (some ⟨[.dat 3 (.list 9 (.str)) (.own (.ro)), .box 1 true (.pair (.int .i64) (.pair (.int .i64) (.pair (.int .i64) (.pair (.int .i64) (.pair (.int .i64) (.pair (.str) (.list 3 (.int .i64)))))))) (.ro)], [(1, ⟨3, []⟩)], []⟩), false, []⟩ (.n ⟨[], [.g 3], none, false, [(5, ⟨[.g 38], .ro, [], [], none⟩)]⟩ .z .z) .z)) (.n ⟨[], [], none, false, []⟩ (.n ⟨[], [], none, false, []⟩ .z (.n ⟨[], [], (some ⟨[.dat 3 (.list 9 (.str)) (.own (.ro)), .box 1 true (.pair (.int .i64) (.pair (.int .i64) (.pair (.int .i64) (.pair (.int .i64) (.pair (.int .i64) (.pair (.str) (.list 3 (.int .i64)))))))) (.ro)], [(1, ⟨3, []⟩)], []⟩), false, []⟩ (.n ⟨[], [.g 3], none, false, [(5, ⟨[.g 47], .ro, [], [], none⟩)]⟩ .z .z) .z)) (.n ⟨[], [], none, false, []⟩ (.n ⟨[], [], none, false, []⟩ .z (.n ⟨[], [], (some ⟨[.dat 3 (.list 9 (.str)) (.own (.ro))], [], []⟩), false, []⟩ (.n ⟨[], [], none, false, []⟩ (.n ⟨[], [], none, false, [(4, ⟨[.g 56], .ro, [], [], none⟩)]⟩ .z .z) (.n ⟨[], [], none, false, []⟩ .z (.n ⟨[], [], (some ⟨[.dat 3 (.list 9 (.str)) (.own (.ro))], [], []⟩), false, []⟩ (.n ⟨[.g 3], [], (some ⟨[.dat 3 (.list 9 (.str)) (.own (.ro)), .snp 62 (.list 3 (.int .i64)) [], .snp 63 (.int .i64) [], .snp 64 (.int .i64) []], [], []⟩), false, []⟩ (.n ⟨[], [], none, false, []⟩ .z (.n ⟨[], [], none, false, []⟩ .z (.n ⟨[], [], none, false, []⟩ (.n ⟨[], [], none, false, []⟩ (.n ⟨[], [], none, false, []⟩ .z (.n ⟨[], [], none, false, [(4, ⟨[.g 68], .ro, [], [], none⟩)]⟩ .z .z)) .z) (.n ⟨[], [.g 3], none, false, []⟩ .z .z)))) .z) .z))) .z)) (.n ⟨[], [], none, false, []⟩ (.n ⟨[], [], none, false, [(1, ⟨[.g 74], .ro, [], [], none⟩)]⟩ .z .z) .z)))))))))
noncomputable def E12 : Env := ⟨tab, [C39, C40, C41, C42, C43, C44, C45, C46], 1, 76⟩
theorem d12 : (fun (x : HL (pts C12.ps)) => den E12 (Tryd.f12.body.getD .skip) H12 (initS 76 C12.ps x) (retK tab [] C12.ps C12.rs [.tmp 2]) (fun _ _ => none) (retK tab [] C12.ps C12.rs [.tmp 2])) = C12.F := by kernel_rfl
theorem c12 : Cok Tryd.prog C12 := by
  have h39 := c39
  have h40 := c40
  have h41 := c41
  have h42 := c42
  have h43 := c43
  have h44 := c44
  have h45 := c45
  have h46 := c46
  exact cok_of_den (E := E12) (fn := Tryd.f12) (code := Tryd.f12.body.getD .skip) (hn := H12) (gr := []) (is := [.tmp 2]) ⟨tabOk, (fun c hc => by simp only [E12, List.mem_cons, List.not_mem_nil, or_false] at hc; rcases hc with rfl | rfl | rfl | rfl | rfl | rfl | rfl | rfl <;> assumption), mixOk⟩ ⟨by kernel_rfl, by kernel_rfl, by kernel_rfl, by kernel_rfl, by kernel_rfl, by decide, by kernel_rfl⟩ (fun x y h => (congrFun d12 x).trans h)

/-- laws.eqIntS -/
noncomputable def C47 : Cal := ⟨47, [⟨.ro, .list 3 (.int .i64)⟩, ⟨.ro, .list 3 (.int .i64)⟩], [⟨.bool, .ro⟩], fun x => laws_eqIntS x.1 x.2.1⟩
def H47 : Hn := (.n ⟨[], [], none, false, []⟩ .z (.n ⟨[], [], none, false, []⟩ .z (.n ⟨[], [], none, false, []⟩ (.n ⟨[], [], none, false, []⟩ .z (.n ⟨[], [], (some ⟨[], [], []⟩), true, []⟩ (.n ⟨[], [], (some ⟨[.snp 0 (.list 3 (.int .i64)) [], .snp 1 (.list 3 (.int .i64)) [], .snp 5 (.int .i64) []], [], []⟩), false, []⟩ (.n ⟨[], [], none, false, []⟩ .z (.n ⟨[], [], none, false, []⟩ (.n ⟨[], [], none, false, []⟩ (.n ⟨[], [], none, false, []⟩ (.n ⟨[], [], none, false, [(0, ⟨[], .ro, [17], [], none⟩), (1, ⟨[], .ro, [18], [], none⟩), (2, ⟨[], .ro, [19], [], none⟩), (3, ⟨[], .ro, [20], [], none⟩), (4, ⟨[], .ro, [21], [], none⟩), (5, ⟨[], .ro, [22], [], none⟩), (6, ⟨[], .ro, [23], [], none⟩), (7, ⟨[], .ro, [24], [], none⟩), (8, ⟨[], .ro, [25], [], none⟩)]⟩ .z .z) .z) .z) .z)) .z) .z)) .z)))
noncomputable def E47 : Env := ⟨tab, [], 2, 26⟩
theorem d47 : (fun (x : HL (pts C47.ps)) => den E47 (Tryd.f47.body.getD .skip) H47 (initS 26 C47.ps x) (retK tab [] C47.ps C47.rs [.tmp 4]) (fun _ _ => none) (retK tab [] C47.ps C47.rs [.tmp 4])) = C47.F := by kernel_rfl
theorem c47 : Cok Tryd.prog C47 := by
  exact cok_of_den (E := E47) (fn := Tryd.f47) (code := Tryd.f47.body.getD .skip) (hn := H47) (gr := []) (is := [.tmp 4]) ⟨tabOk, (fun c hc => by cases hc), mixOk⟩ ⟨by kernel_rfl, by kernel_rfl, by kernel_rfl, by kernel_rfl, by kernel_rfl, by decide, by kernel_rfl⟩ (fun x y h => (congrFun d47 x).trans h)

/-- laws.eqIns -/
noncomputable def C13 : Cal := ⟨13, [⟨.ro, .pair (.int .i64) (.pair (.int .i64) (.pair (.int .i64) (.pair (.int .i64) (.pair (.int .i64) (.pair (.str) (.list 3 (.int .i64)))))))⟩, ⟨.ro, .pair (.int .i64) (.pair (.int .i64) (.pair (.int .i64) (.pair (.int .i64) (.pair (.int .i64) (.pair (.str) (.list 3 (.int .i64)))))))⟩], [⟨.bool, .ro⟩], fun x => laws_eqIns x.1 x.2.1⟩
def H13 : Hn := (.n ⟨[], [], none, false, []⟩ (.n ⟨[], [], none, false, [(0, ⟨[], .pr (.ro) (.pr (.ro) (.pr (.ro) (.pr (.ro) (.pr (.ro) (.pr (.ro) (.own (.ro))))))), [], [], none⟩), (1, ⟨[], .pr (.ro) (.pr (.ro) (.pr (.ro) (.pr (.ro) (.pr (.ro) (.pr (.ro) (.own (.ro))))))), [], [], none⟩)]⟩ .z .z) .z)
noncomputable def E13 : Env := ⟨tab, [C47], 2, 41⟩
theorem d13 : (fun (x : HL (pts C13.ps)) => den E13 (Tryd.f13.body.getD .skip) H13 (initS 41 C13.ps x) (retK tab [] C13.ps C13.rs [.tmp 4]) (fun _ _ => none) (retK tab [] C13.ps C13.rs [.tmp 4])) = C13.F := by kernel_rfl
theorem c13 : Cok Tryd.prog C13 := by
  have h47 := c47
  exact cok_of_den (E := E13) (fn := Tryd.f13) (code := Tryd.f13.body.getD .skip) (hn := H13) (gr := []) (is := [.tmp 4]) ⟨tabOk, (fun c hc => by simp only [E13, List.mem_cons, List.not_mem_nil, or_false] at hc; rcases hc with rfl <;> assumption), mixOk⟩ ⟨by kernel_rfl, by kernel_rfl, by kernel_rfl, by kernel_rfl, by kernel_rfl, by decide, by kernel_rfl⟩ (fun x y h => (congrFun d13 x).trans h)

/-- laws.FnExactShowWord -/
noncomputable def C3 : Cal := ⟨3, [⟨.ro, .pair (.int .i64) (.pair (.int .i64) (.pair (.int .i64) (.pair (.int .i64) (.pair (.int .i64) (.pair (.str) (.list 3 (.int .i64)))))))⟩], [⟨.bool, .ro⟩], fun x => laws_FnExactShowWord x.1⟩
def H3 : Hn := (.n ⟨[], [], none, false, []⟩ (.n ⟨[], [], none, false, [(0, ⟨[], .pr (.ro) (.pr (.ro) (.pr (.ro) (.pr (.ro) (.pr (.ro) (.pr (.ro) (.own (.ro))))))), [], [], none⟩)]⟩ .z .z) (.n ⟨[], [], none, false, []⟩ .z (.n ⟨[], [], none, false, []⟩ .z (.n ⟨[], [], none, false, []⟩ .z (.n ⟨[], [], none, false, []⟩ .z (.n ⟨[], [], none, false, []⟩ (.n ⟨[], [], none, false, [(2, ⟨[], .pr (.ro) (.pr (.ro) (.pr (.ro) (.pr (.ro) (.pr (.ro) (.pr (.ro) (.own (.ro))))))), [], [], none⟩), (3, ⟨[], .pr (.ro) (.pr (.ro) (.pr (.ro) (.pr (.ro) (.pr (.ro) (.pr (.ro) (.own (.ro))))))), [], [], none⟩)]⟩ .z .z) (.n ⟨[], [], none, false, []⟩ .z (.n ⟨[], [], none, false, []⟩ .z (.n ⟨[], [], none, false, []⟩ (.n ⟨[], [], none, false, []⟩ (.n ⟨[], [], none, false, [(0, ⟨[], .ro, [22], [], none⟩), (1, ⟨[], .ro, [23], [], none⟩), (2, ⟨[], .ro, [24], [], none⟩), (3, ⟨[], .ro, [25], [], none⟩), (4, ⟨[], .ro, [26], [], none⟩)]⟩ .z .z) .z) .z)))))))))
noncomputable def E3 : Env := ⟨tab, [C9, C11, C10, C12, C13], 1, 27⟩
theorem d3 : (fun (x : HL (pts C3.ps)) => den E3 (Tryd.f3.body.getD .skip) H3 (initS 27 C3.ps x) (retK tab [] C3.ps C3.rs [.tmp 2]) (fun _ _ => none) (retK tab [] C3.ps C3.rs [.tmp 2])) = C3.F := by kernel_rfl
theorem c3 : Cok Tryd.prog C3 := by
  have h9 := c9
  have h11 := c11
  have h10 := c10
  have h12 := c12
  have h13 := c13
  exact cok_of_den (E := E3) (fn := Tryd.f3) (code := Tryd.f3.body.getD .skip) (hn := H3) (gr := []) (is := [.tmp 2]) ⟨tabOk, (fun c hc => by simp only [E3, List.mem_cons, List.not_mem_nil, or_false] at hc; rcases hc with rfl | rfl | rfl | rfl | rfl <;> assumption), mixOk⟩ ⟨by kernel_rfl, by kernel_rfl, by kernel_rfl, by kernel_rfl, by kernel_rfl, by decide, by kernel_rfl⟩ (fun x y h => (congrFun d3 x).trans h)

/-- laws.szInsS -/
noncomputable def C48 : Cal := ⟨48, [⟨.ro, .list 24 (.pair (.int .i64) (.pair (.int .i64) (.pair (.int .i64) (.pair (.int .i64) (.pair (.int .i64) (.pair (.str) (.list 3 (.int .i64))))))))⟩, ⟨.ro, .int .i64⟩], [⟨.int .i64, .ro⟩], fun x => laws_szInsS x.1 x.2.1⟩
def H48 : Hn := (.n ⟨[], [], none, false, []⟩ .z (.n ⟨[], [], none, false, []⟩ .z (.n ⟨[], [], none, false, []⟩ .z (.n ⟨[], [], none, false, []⟩ (.n ⟨[], [], none, false, []⟩ .z (.n ⟨[], [], (some ⟨[.snp 1 (.int .i64) []], [], []⟩), true, []⟩ (.n ⟨[], [], (some ⟨[.snp 0 (.list 24 (.pair (.int .i64) (.pair (.int .i64) (.pair (.int .i64) (.pair (.int .i64) (.pair (.int .i64) (.pair (.str) (.list 3 (.int .i64))))))))) [], .snp 1 (.int .i64) [], .snp 5 (.int .i64) []], [], []⟩), false, []⟩ .z .z) .z)) .z))))
noncomputable def E48 : Env := ⟨tab, [C9], 2, 27⟩
theorem d48 : (fun (x : HL (pts C48.ps)) => den E48 (Tryd.f48.body.getD .skip) H48 (initS 27 C48.ps x) (retK tab [] C48.ps C48.rs [.tmp 4]) (fun _ _ => none) (retK tab [] C48.ps C48.rs [.tmp 4])) = C48.F := by kernel_rfl
theorem c48 : Cok Tryd.prog C48 := by
  have h9 := c9
  exact cok_of_den (E := E48) (fn := Tryd.f48) (code := Tryd.f48.body.getD .skip) (hn := H48) (gr := []) (is := [.tmp 4]) ⟨tabOk, (fun c hc => by simp only [E48, List.mem_cons, List.not_mem_nil, or_false] at hc; rcases hc with rfl <;> assumption), mixOk⟩ ⟨by kernel_rfl, by kernel_rfl, by kernel_rfl, by kernel_rfl, by kernel_rfl, by decide, by kernel_rfl⟩ (fun x y h => (congrFun d48 x).trans h)

/-- laws.szCode -/
noncomputable def C14 : Cal := ⟨14, [⟨.ro, .pair (.str) (.pair (.int .i64) (.pair (.list 3 (.int .i64)) (.list 24 (.pair (.int .i64) (.pair (.int .i64) (.pair (.int .i64) (.pair (.int .i64) (.pair (.int .i64) (.pair (.str) (.list 3 (.int .i64)))))))))))⟩, ⟨.ro, .int .i64⟩], [⟨.int .i64, .ro⟩], fun x => laws_szCode x.1 x.2.1⟩
def H14 : Hn := (.n ⟨[], [], none, false, []⟩ (.n ⟨[], [], none, false, [(0, ⟨[], .pr (.ro) (.pr (.ro) (.pr (.own (.ro)) (.own (.pr (.ro) (.pr (.ro) (.pr (.ro) (.pr (.ro) (.pr (.ro) (.pr (.ro) (.own (.ro))))))))))), [], [], none⟩)]⟩ .z .z) .z)
noncomputable def E14 : Env := ⟨tab, [C32, C48], 2, 25⟩
theorem d14 : (fun (x : HL (pts C14.ps)) => den E14 (Tryd.f14.body.getD .skip) H14 (initS 25 C14.ps x) (retK tab [] C14.ps C14.rs [.tmp 4]) (fun _ _ => none) (retK tab [] C14.ps C14.rs [.tmp 4])) = C14.F := by kernel_rfl
theorem c14 : Cok Tryd.prog C14 := by
  have h32 := c32
  have h48 := c48
  exact cok_of_den (E := E14) (fn := Tryd.f14) (code := Tryd.f14.body.getD .skip) (hn := H14) (gr := []) (is := [.tmp 4]) ⟨tabOk, (fun c hc => by simp only [E14, List.mem_cons, List.not_mem_nil, or_false] at hc; rcases hc with rfl | rfl <;> assumption), mixOk⟩ ⟨by kernel_rfl, by kernel_rfl, by kernel_rfl, by kernel_rfl, by kernel_rfl, by decide, by kernel_rfl⟩ (fun x y h => (congrFun d14 x).trans h)

/-- laws.toInsS -/
noncomputable def C50 : Cal := ⟨50, [⟨.ro, .list 24 (.pair (.int .i64) (.pair (.int .i64) (.pair (.int .i64) (.pair (.int .i64) (.pair (.int .i64) (.pair (.str) (.list 3 (.int .i64))))))))⟩], [⟨.list 27 (.pair (.int .i64) (.pair (.int .i64) (.pair (.int .i64) (.pair (.int .i64) (.pair (.int .i64) (.pair (.str) (.list 3 (.int .i64)))))))), .own (.pr (.ro) (.pr (.ro) (.pr (.ro) (.pr (.ro) (.pr (.ro) (.pr (.ro) (.own (.ro))))))))⟩], fun x => laws_toInsS x.1⟩
def H50 : Hn := (.n ⟨[], [], none, false, []⟩ .z (.n ⟨[], [], none, false, []⟩ (.n ⟨[], [], none, false, [(2, ⟨[], .pr (.ro) (.pr (.ro) (.pr (.ro) (.pr (.ro) (.pr (.ro) (.pr (.ro) (.own (.ro))))))), [], [], none⟩)]⟩ .z .z) (.n ⟨[], [], none, false, []⟩ (.n ⟨[], [], none, false, []⟩ .z (.n ⟨[], [], (some ⟨[.dat 3 (.list 27 (.pair (.int .i64) (.pair (.int .i64) (.pair (.int .i64) (.pair (.int .i64) (.pair (.int .i64) (.pair (.str) (.list 3 (.int .i64))))))))) (.own (.pr (.ro) (.pr (.ro) (.pr (.ro) (.pr (.ro) (.pr (.ro) (.pr (.ro) (.own (.ro)))))))))], [], []⟩), false, []⟩ (.n ⟨[.g 3], [], (some ⟨[.snp 0 (.list 24 (.pair (.int .i64) (.pair (.int .i64) (.pair (.int .i64) (.pair (.int .i64) (.pair (.int .i64) (.pair (.str) (.list 3 (.int .i64))))))))) [], .dat 3 (.list 27 (.pair (.int .i64) (.pair (.int .i64) (.pair (.int .i64) (.pair (.int .i64) (.pair (.int .i64) (.pair (.str) (.list 3 (.int .i64))))))))) (.own (.pr (.ro) (.pr (.ro) (.pr (.ro) (.pr (.ro) (.pr (.ro) (.pr (.ro) (.own (.ro))))))))), .snp 4 (.int .i64) []], [], []⟩), false, []⟩ (.n ⟨[], [], none, false, []⟩ .z (.n ⟨[], [], none, false, []⟩ (.n ⟨[], [], none, false, []⟩ (.n ⟨[], [], none, false, [(8, ⟨[], .pr (.ro) (.pr (.ro) (.pr (.ro) (.pr (.ro) (.pr (.ro) (.pr (.ro) (.own (.ro))))))), [], [], some 6⟩)]⟩ .z .z) .z) .z)) .z) .z)) .z)))
noncomputable def E50 : Env := ⟨tab, [C11], 1, 23⟩
theorem d50 : (fun (x : HL (pts C50.ps)) => den E50 (Tryd.f50.body.getD .skip) H50 (initS 23 C50.ps x) (retK tab [.g 2] C50.ps C50.rs [.tmp 2]) (fun _ _ => none) (retK tab [.g 2] C50.ps C50.rs [.tmp 2])) = C50.F := by kernel_rfl
theorem c50 : Cok Tryd.prog C50 := by
  have h11 := c11
  exact cok_of_den (E := E50) (fn := Tryd.f50) (code := Tryd.f50.body.getD .skip) (hn := H50) (gr := [.g 2]) (is := [.tmp 2]) ⟨tabOk, (fun c hc => by simp only [E50, List.mem_cons, List.not_mem_nil, or_false] at hc; rcases hc with rfl <;> assumption), mixOk⟩ ⟨by kernel_rfl, by kernel_rfl, by kernel_rfl, by kernel_rfl, by kernel_rfl, by decide, by kernel_rfl⟩ (fun x y h => (congrFun d50 x).trans h)

/-- laws.toCode -/
noncomputable def C16 : Cal := ⟨16, [⟨.ro, .pair (.str) (.pair (.int .i64) (.pair (.list 3 (.int .i64)) (.list 24 (.pair (.int .i64) (.pair (.int .i64) (.pair (.int .i64) (.pair (.int .i64) (.pair (.int .i64) (.pair (.str) (.list 3 (.int .i64)))))))))))⟩], [⟨.pair (.str) (.pair (.int .i64) (.pair (.list 3 (.int .i64)) (.list 27 (.pair (.int .i64) (.pair (.int .i64) (.pair (.int .i64) (.pair (.int .i64) (.pair (.int .i64) (.pair (.str) (.list 3 (.int .i64))))))))))), .pr (.ro) (.pr (.ro) (.pr (.own (.ro)) (.own (.pr (.ro) (.pr (.ro) (.pr (.ro) (.pr (.ro) (.pr (.ro) (.pr (.ro) (.own (.ro)))))))))))⟩], fun x => laws_toCode x.1⟩
def H16 : Hn := (.n ⟨[], [], none, false, []⟩ (.n ⟨[], [], none, false, [(0, ⟨[], .pr (.ro) (.pr (.ro) (.pr (.own (.ro)) (.own (.pr (.ro) (.pr (.ro) (.pr (.ro) (.pr (.ro) (.pr (.ro) (.pr (.ro) (.own (.ro))))))))))), [], [], none⟩), (1, ⟨[], .pr (.ro) (.pr (.ro) (.pr (.own (.ro)) (.own (.pr (.ro) (.pr (.ro) (.pr (.ro) (.pr (.ro) (.pr (.ro) (.pr (.ro) (.own (.ro))))))))))), [], [], none⟩)]⟩ .z .z) (.n ⟨[], [], none, false, []⟩ (.n ⟨[], [], none, false, [(0, ⟨[], .pr (.ro) (.pr (.ro) (.pr (.own (.ro)) (.own (.pr (.ro) (.pr (.ro) (.pr (.ro) (.pr (.ro) (.pr (.ro) (.pr (.ro) (.own (.ro))))))))))), [], [], none⟩)]⟩ .z .z) (.n ⟨[], [], none, false, []⟩ .z (.n ⟨[], [], none, false, []⟩ .z (.n ⟨[], [], none, false, []⟩ (.n ⟨[], [], none, false, [(4, ⟨[], .own (.ro), [], [], none⟩)]⟩ .z .z) (.n ⟨[], [], none, false, []⟩ (.n ⟨[], [], none, false, [(4, ⟨[], .own (.pr (.ro) (.pr (.ro) (.pr (.ro) (.pr (.ro) (.pr (.ro) (.pr (.ro) (.own (.ro)))))))), [], [], none⟩)]⟩ .z .z) (.n ⟨[], [], none, false, []⟩ (.n ⟨[], [], none, false, [(1, ⟨[.g 18], .pr (.ro) (.pr (.ro) (.pr (.own (.ro)) (.own (.pr (.ro) (.pr (.ro) (.pr (.ro) (.pr (.ro) (.pr (.ro) (.pr (.ro) (.own (.ro))))))))))), [], [], none⟩)]⟩ .z .z) .z)))))))
noncomputable def E16 : Env := ⟨tab, [C38, C50], 1, 19⟩
theorem d16 : (fun (x : HL (pts C16.ps)) => den E16 (Tryd.f16.body.getD .skip) H16 (initS 19 C16.ps x) (retK tab [] C16.ps C16.rs [.cell 2 38]) (fun _ _ => none) (retK tab [] C16.ps C16.rs [.cell 2 38])) = C16.F := by kernel_rfl
theorem c16 : Cok Tryd.prog C16 := by
  have h38 := c38
  have h50 := c50
  exact cok_of_den (E := E16) (fn := Tryd.f16) (code := Tryd.f16.body.getD .skip) (hn := H16) (gr := []) (is := [.cell 2 38]) ⟨tabOk, (fun c hc => by simp only [E16, List.mem_cons, List.not_mem_nil, or_false] at hc; rcases hc with rfl | rfl <;> assumption), mixOk⟩ ⟨by kernel_rfl, by kernel_rfl, by kernel_rfl, by kernel_rfl, by kernel_rfl, by decide, by kernel_rfl⟩ (fun x y h => (congrFun d16 x).trans h)

/-- spec.Listing -/
noncomputable def C15 : Cal := ⟨15, [⟨.ro, .pair (.str) (.pair (.int .i64) (.pair (.list 3 (.int .i64)) (.list 27 (.pair (.int .i64) (.pair (.int .i64) (.pair (.int .i64) (.pair (.int .i64) (.pair (.int .i64) (.pair (.str) (.list 3 (.int .i64)))))))))))⟩], [⟨.str, .ro⟩], fun x => spec_Listing x.1⟩
def H15 : Hn := (.n ⟨[], [], none, false, []⟩ (.n ⟨[], [], none, false, [(0, ⟨[], .pr (.ro) (.pr (.ro) (.pr (.own (.ro)) (.own (.pr (.ro) (.pr (.ro) (.pr (.ro) (.pr (.ro) (.pr (.ro) (.pr (.ro) (.own (.ro))))))))))), [], [], none⟩)]⟩ .z .z) (.n ⟨[], [], none, false, []⟩ .z (.n ⟨[], [], none, false, []⟩ (.n ⟨[], [], none, false, []⟩ .z (.n ⟨[], [], (some ⟨[.snp 3 (.str) []], [], []⟩), false, []⟩ (.n ⟨[], [], (some ⟨[.snp 3 (.str) [], .snp 4 (.int .i64) [], .box 1 true (.pair (.str) (.pair (.int .i64) (.pair (.list 3 (.int .i64)) (.list 27 (.pair (.int .i64) (.pair (.int .i64) (.pair (.int .i64) (.pair (.int .i64) (.pair (.int .i64) (.pair (.str) (.list 3 (.int .i64)))))))))))) (.ro)], [(1, ⟨3, []⟩)], []⟩), false, []⟩ (.n ⟨[], [], none, false, []⟩ .z (.n ⟨[], [], none, false, []⟩ (.n ⟨[], [], none, false, []⟩ (.n ⟨[], [], none, false, [(0, ⟨[], .ro, [16], [], none⟩), (1, ⟨[], .ro, [17], [], none⟩), (2, ⟨[], .ro, [18], [], none⟩), (3, ⟨[], .ro, [19], [], none⟩), (4, ⟨[], .ro, [20], [], none⟩), (5, ⟨[], .ro, [21], [], none⟩), (6, ⟨[], .ro, [22], [], none⟩), (7, ⟨[], .ro, [23], [], none⟩), (8, ⟨[], .ro, [24], [], none⟩), (9, ⟨[], .ro, [25], [], none⟩), (10, ⟨[], .ro, [26], [], none⟩), (11, ⟨[], .ro, [27], [], none⟩), (12, ⟨[], .ro, [28], [], none⟩), (13, ⟨[], .ro, [3], [], none⟩)]⟩ .z .z) .z) .z)) .z) .z)) .z)))
noncomputable def E15 : Env := ⟨tab, [C49, C10], 1, 30⟩
theorem d15 : (fun (x : HL (pts C15.ps)) => den E15 (Tryd.f15.body.getD .skip) H15 (initS 30 C15.ps x) (retK tab [] C15.ps C15.rs [.tmp 2]) (fun _ _ => none) (retK tab [] C15.ps C15.rs [.tmp 2])) = C15.F := by kernel_rfl
theorem c15 : Cok Tryd.prog C15 := by
  have h49 := c49
  have h10 := c10
  exact cok_of_den (E := E15) (fn := Tryd.f15) (code := Tryd.f15.body.getD .skip) (hn := H15) (gr := []) (is := [.tmp 2]) ⟨tabOk, (fun c hc => by simp only [E15, List.mem_cons, List.not_mem_nil, or_false] at hc; rcases hc with rfl | rfl <;> assumption), mixOk⟩ ⟨by kernel_rfl, by kernel_rfl, by kernel_rfl, by kernel_rfl, by kernel_rfl, by decide, by kernel_rfl⟩ (fun x y h => (congrFun d15 x).trans h)

/-- impl.Listing -/
noncomputable def C17 : Cal := ⟨17, [⟨.ro, .pair (.str) (.pair (.int .i64) (.pair (.list 3 (.int .i64)) (.list 27 (.pair (.int .i64) (.pair (.int .i64) (.pair (.int .i64) (.pair (.int .i64) (.pair (.int .i64) (.pair (.str) (.list 3 (.int .i64)))))))))))⟩], [⟨.str, .ro⟩], fun x => impl_Listing x.1⟩
def H17 : Hn := (.n ⟨[], [], none, false, []⟩ (.n ⟨[], [], none, false, [(0, ⟨[], .pr (.ro) (.pr (.ro) (.pr (.own (.ro)) (.own (.pr (.ro) (.pr (.ro) (.pr (.ro) (.pr (.ro) (.pr (.ro) (.pr (.ro) (.own (.ro))))))))))), [], [], none⟩)]⟩ .z .z) (.n ⟨[], [], none, false, []⟩ .z (.n ⟨[], [], none, false, []⟩ (.n ⟨[], [], none, false, []⟩ .z (.n ⟨[], [], (some ⟨[.snp 3 (.str) []], [], []⟩), false, []⟩ (.n ⟨[], [], (some ⟨[.snp 3 (.str) [], .snp 11 (.list 27 (.pair (.int .i64) (.pair (.int .i64) (.pair (.int .i64) (.pair (.int .i64) (.pair (.int .i64) (.pair (.str) (.list 3 (.int .i64))))))))) [], .snp 12 (.int .i64) [], .snp 13 (.int .i64) []], [], []⟩), false, []⟩ (.n ⟨[], [], none, false, []⟩ .z (.n ⟨[], [], none, false, []⟩ .z (.n ⟨[], [], none, false, []⟩ (.n ⟨[], [], none, false, []⟩ (.n ⟨[], [], none, false, []⟩ (.n ⟨[], [], none, false, [(3, ⟨[], .pr (.ro) (.pr (.ro) (.pr (.ro) (.pr (.ro) (.pr (.ro) (.pr (.ro) (.own (.ro))))))), [], [], none⟩), (5, ⟨[], .pr (.ro) (.pr (.ro) (.pr (.ro) (.pr (.ro) (.pr (.ro) (.pr (.ro) (.own (.ro))))))), [], [], none⟩)]⟩ .z .z) (.n ⟨[], [], none, false, [(0, ⟨[], .ro, [18], [], none⟩), (1, ⟨[], .ro, [19], [], none⟩), (2, ⟨[], .ro, [20], [], none⟩), (3, ⟨[], .ro, [21], [], none⟩), (4, ⟨[], .ro, [22], [], none⟩), (5, ⟨[], .ro, [23], [], none⟩), (6, ⟨[], .ro, [24], [], none⟩), (7, ⟨[], .ro, [25], [], none⟩), (8, ⟨[], .ro, [26], [], none⟩), (9, ⟨[], .ro, [3], [], none⟩)]⟩ .z .z)) .z) .z))) .z) .z)) .z)))
noncomputable def E17 : Env := ⟨tab, [C51, C12], 1, 29⟩
theorem d17 : (fun (x : HL (pts C17.ps)) => den E17 (Tryd.f17.body.getD .skip) H17 (initS 29 C17.ps x) (retK tab [] C17.ps C17.rs [.tmp 2]) (fun _ _ => none) (retK tab [] C17.ps C17.rs [.tmp 2])) = C17.F := by kernel_rfl
theorem c17 : Cok Tryd.prog C17 := by
  have h51 := c51
  have h12 := c12
  exact cok_of_den (E := E17) (fn := Tryd.f17) (code := Tryd.f17.body.getD .skip) (hn := H17) (gr := []) (is := [.tmp 2]) ⟨tabOk, (fun c hc => by simp only [E17, List.mem_cons, List.not_mem_nil, or_false] at hc; rcases hc with rfl | rfl <;> assumption), mixOk⟩ ⟨by kernel_rfl, by kernel_rfl, by kernel_rfl, by kernel_rfl, by kernel_rfl, by decide, by kernel_rfl⟩ (fun x y h => (congrFun d17 x).trans h)

/-- laws.eqInsS -/
noncomputable def C52 : Cal := ⟨52, [⟨.ro, .list 27 (.pair (.int .i64) (.pair (.int .i64) (.pair (.int .i64) (.pair (.int .i64) (.pair (.int .i64) (.pair (.str) (.list 3 (.int .i64))))))))⟩, ⟨.ro, .list 27 (.pair (.int .i64) (.pair (.int .i64) (.pair (.int .i64) (.pair (.int .i64) (.pair (.int .i64) (.pair (.str) (.list 3 (.int .i64))))))))⟩], [⟨.bool, .ro⟩], fun x => laws_eqInsS x.1 x.2.1⟩
def H52 : Hn := (.n ⟨[], [], none, false, []⟩ .z (.n ⟨[], [], none, false, []⟩ .z (.n ⟨[], [], none, false, []⟩ (.n ⟨[], [], none, false, []⟩ .z (.n ⟨[], [], (some ⟨[], [], []⟩), true, []⟩ (.n ⟨[], [], (some ⟨[.snp 0 (.list 27 (.pair (.int .i64) (.pair (.int .i64) (.pair (.int .i64) (.pair (.int .i64) (.pair (.int .i64) (.pair (.str) (.list 3 (.int .i64))))))))) [], .snp 1 (.list 27 (.pair (.int .i64) (.pair (.int .i64) (.pair (.int .i64) (.pair (.int .i64) (.pair (.int .i64) (.pair (.str) (.list 3 (.int .i64))))))))) [], .snp 5 (.int .i64) []], [], []⟩), false, []⟩ (.n ⟨[], [], none, false, []⟩ .z (.n ⟨[], [], none, false, []⟩ (.n ⟨[], [], none, false, []⟩ (.n ⟨[], [], none, false, []⟩ (.n ⟨[], [], none, false, [(0, ⟨[], .ro, [17], [], none⟩), (1, ⟨[], .ro, [18], [], none⟩), (2, ⟨[], .ro, [19], [], none⟩), (3, ⟨[], .ro, [20], [], none⟩), (4, ⟨[], .ro, [21], [], none⟩), (5, ⟨[], .ro, [22], [], none⟩), (6, ⟨[], .ro, [23], [], none⟩), (7, ⟨[], .ro, [24], [], none⟩), (8, ⟨[], .ro, [25], [], none⟩), (9, ⟨[], .ro, [26], [], none⟩)]⟩ .z .z) .z) .z) .z)) .z) .z)) .z)))
noncomputable def E52 : Env := ⟨tab, [C13], 2, 27⟩
theorem d52 : (fun (x : HL (pts C52.ps)) => den E52 (Tryd.f52.body.getD .skip) H52 (initS 27 C52.ps x) (retK tab [] C52.ps C52.rs [.tmp 4]) (fun _ _ => none) (retK tab [] C52.ps C52.rs [.tmp 4])) = C52.F := by kernel_rfl
theorem c52 : Cok Tryd.prog C52 := by
  have h13 := c13
  exact cok_of_den (E := E52) (fn := Tryd.f52) (code := Tryd.f52.body.getD .skip) (hn := H52) (gr := []) (is := [.tmp 4]) ⟨tabOk, (fun c hc => by simp only [E52, List.mem_cons, List.not_mem_nil, or_false] at hc; rcases hc with rfl <;> assumption), mixOk⟩ ⟨by kernel_rfl, by kernel_rfl, by kernel_rfl, by kernel_rfl, by kernel_rfl, by decide, by kernel_rfl⟩ (fun x y h => (congrFun d52 x).trans h)

/-- laws.eqCode -/
noncomputable def C18 : Cal := ⟨18, [⟨.ro, .pair (.str) (.pair (.int .i64) (.pair (.list 3 (.int .i64)) (.list 27 (.pair (.int .i64) (.pair (.int .i64) (.pair (.int .i64) (.pair (.int .i64) (.pair (.int .i64) (.pair (.str) (.list 3 (.int .i64)))))))))))⟩, ⟨.ro, .pair (.str) (.pair (.int .i64) (.pair (.list 3 (.int .i64)) (.list 27 (.pair (.int .i64) (.pair (.int .i64) (.pair (.int .i64) (.pair (.int .i64) (.pair (.int .i64) (.pair (.str) (.list 3 (.int .i64)))))))))))⟩], [⟨.bool, .ro⟩], fun x => laws_eqCode x.1 x.2.1⟩
def H18 : Hn := (.n ⟨[], [], none, false, []⟩ (.n ⟨[], [], none, false, [(0, ⟨[], .pr (.ro) (.pr (.ro) (.pr (.own (.ro)) (.own (.pr (.ro) (.pr (.ro) (.pr (.ro) (.pr (.ro) (.pr (.ro) (.pr (.ro) (.own (.ro))))))))))), [], [], none⟩), (1, ⟨[], .pr (.ro) (.pr (.ro) (.pr (.own (.ro)) (.own (.pr (.ro) (.pr (.ro) (.pr (.ro) (.pr (.ro) (.pr (.ro) (.pr (.ro) (.own (.ro))))))))))), [], [], none⟩)]⟩ .z .z) .z)
noncomputable def E18 : Env := ⟨tab, [C47, C52], 2, 27⟩
theorem d18 : (fun (x : HL (pts C18.ps)) => den E18 (Tryd.f18.body.getD .skip) H18 (initS 27 C18.ps x) (retK tab [] C18.ps C18.rs [.tmp 4]) (fun _ _ => none) (retK tab [] C18.ps C18.rs [.tmp 4])) = C18.F := by kernel_rfl
theorem c18 : Cok Tryd.prog C18 := by
  have h47 := c47
  have h52 := c52
  exact cok_of_den (E := E18) (fn := Tryd.f18) (code := Tryd.f18.body.getD .skip) (hn := H18) (gr := []) (is := [.tmp 4]) ⟨tabOk, (fun c hc => by simp only [E18, List.mem_cons, List.not_mem_nil, or_false] at hc; rcases hc with rfl | rfl <;> assumption), mixOk⟩ ⟨by kernel_rfl, by kernel_rfl, by kernel_rfl, by kernel_rfl, by kernel_rfl, by decide, by kernel_rfl⟩ (fun x y h => (congrFun d18 x).trans h)

/-- laws.FnExactListing -/
noncomputable def C4 : Cal := ⟨4, [⟨.ro, .pair (.str) (.pair (.int .i64) (.pair (.list 3 (.int .i64)) (.list 24 (.pair (.int .i64) (.pair (.int .i64) (.pair (.int .i64) (.pair (.int .i64) (.pair (.int .i64) (.pair (.str) (.list 3 (.int .i64)))))))))))⟩], [⟨.bool, .ro⟩], fun x => laws_FnExactListing x.1⟩
def H4 : Hn := (.n ⟨[], [], none, false, []⟩ (.n ⟨[], [], none, false, [(0, ⟨[], .pr (.ro) (.pr (.ro) (.pr (.own (.ro)) (.own (.pr (.ro) (.pr (.ro) (.pr (.ro) (.pr (.ro) (.pr (.ro) (.pr (.ro) (.own (.ro))))))))))), [], [], none⟩)]⟩ .z .z) (.n ⟨[], [], none, false, []⟩ .z (.n ⟨[], [], none, false, []⟩ .z (.n ⟨[], [], none, false, []⟩ .z (.n ⟨[], [], none, false, []⟩ .z (.n ⟨[], [], none, false, []⟩ (.n ⟨[], [], none, false, [(2, ⟨[], .pr (.ro) (.pr (.ro) (.pr (.own (.ro)) (.own (.pr (.ro) (.pr (.ro) (.pr (.ro) (.pr (.ro) (.pr (.ro) (.pr (.ro) (.own (.ro))))))))))), [], [], none⟩), (3, ⟨[], .pr (.ro) (.pr (.ro) (.pr (.own (.ro)) (.own (.pr (.ro) (.pr (.ro) (.pr (.ro) (.pr (.ro) (.pr (.ro) (.pr (.ro) (.own (.ro))))))))))), [], [], none⟩)]⟩ .z .z) (.n ⟨[], [], none, false, []⟩ .z (.n ⟨[], [], none, false, []⟩ .z (.n ⟨[], [], none, false, []⟩ (.n ⟨[], [], none, false, []⟩ (.n ⟨[], [], none, false, [(0, ⟨[], .ro, [22], [], none⟩), (1, ⟨[], .ro, [23], [], none⟩), (2, ⟨[], .ro, [24], [], none⟩), (3, ⟨[], .ro, [25], [], none⟩), (4, ⟨[], .ro, [26], [], none⟩)]⟩ .z .z) .z) .z)))))))))
noncomputable def E4 : Env := ⟨tab, [C14, C16, C15, C17, C18], 1, 27⟩
theorem d4 : (fun (x : HL (pts C4.ps)) => den E4 (Tryd.f4.body.getD .skip) H4 (initS 27 C4.ps x) (retK tab [] C4.ps C4.rs [.tmp 2]) (fun _ _ => none) (retK tab [] C4.ps C4.rs [.tmp 2])) = C4.F := by kernel_rfl
theorem c4 : Cok Tryd.prog C4 := by
  have h14 := c14
  have h16 := c16
  have h15 := c15
  have h17 := c17
  have h18 := c18
  exact cok_of_den (E := E4) (fn := Tryd.f4) (code := Tryd.f4.body.getD .skip) (hn := H4) (gr := []) (is := [.tmp 2]) ⟨tabOk, (fun c hc => by simp only [E4, List.mem_cons, List.not_mem_nil, or_false] at hc; rcases hc with rfl | rfl | rfl | rfl | rfl <;> assumption), mixOk⟩ ⟨by kernel_rfl, by kernel_rfl, by kernel_rfl, by kernel_rfl, by kernel_rfl, by decide, by kernel_rfl⟩ (fun x y h => (congrFun d4 x).trans h)

end Go.Proofs.YtibccfmlfknhbaaDoorE

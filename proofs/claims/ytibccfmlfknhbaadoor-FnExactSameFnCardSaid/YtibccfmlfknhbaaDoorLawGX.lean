/- The functions of X reckon so (1). No condition. -/
import Derived.Test.YtibccfmlfknhbaaDoorLawLBX
import Derived.Test.YtibccfmlfknhbaaDoorPackR
import Derived.Test.YtibccfmlfknhbaaDoorLawFX
import Derived.Test.YtibccfmlfknhbaaDoorProg
set_option linter.all false
namespace Go.Proofs.YtibccfmlfknhbaaDoorE
set_option maxRecDepth 100000
set_option linter.all false
def tab : List TE := [⟨3, .int .i64, 0, 8⟩, ⟨4, .bool, 0, 1⟩, ⟨9, .str, 0, 16⟩, ⟨22, .list 3 (.int .i64), 0, 24⟩, ⟨44, .list 110 (.pair (.int .i64) (.pair (.int .i64) (.pair (.str) (.list 3 (.int .i64))))), 0, 24⟩, ⟨45, .list 114 (.pair (.str) (.pair (.list 147 (.pair (.str) (.int .i64))) (.pair (.int .i64) (.pair (.int .i64) (.int .i64))))), 0, 24⟩, ⟨47, .pair (.list 110 (.pair (.int .i64) (.pair (.int .i64) (.pair (.str) (.list 3 (.int .i64)))))) (.list 114 (.pair (.str) (.pair (.list 147 (.pair (.str) (.int .i64))) (.pair (.int .i64) (.pair (.int .i64) (.int .i64)))))), 2, 48⟩, ⟨50, .list 83 (.pair (.int .i64) (.pair (.int .i64) (.pair (.str) (.list 3 (.int .i64))))), 0, 24⟩, ⟨51, .list 90 (.pair (.str) (.pair (.list 124 (.pair (.str) (.int .i64))) (.pair (.int .i64) (.pair (.int .i64) (.int .i64))))), 0, 24⟩, ⟨53, .pair (.list 83 (.pair (.int .i64) (.pair (.int .i64) (.pair (.str) (.list 3 (.int .i64)))))) (.list 90 (.pair (.str) (.pair (.list 124 (.pair (.str) (.int .i64))) (.pair (.int .i64) (.pair (.int .i64) (.int .i64)))))), 2, 48⟩, ⟨63, .list 9 (.str), 0, 24⟩, ⟨83, .pair (.int .i64) (.pair (.int .i64) (.pair (.str) (.list 3 (.int .i64)))), 4, 56⟩, ⟨88, .list 124 (.pair (.str) (.int .i64)), 0, 24⟩, ⟨90, .pair (.str) (.pair (.list 124 (.pair (.str) (.int .i64))) (.pair (.int .i64) (.pair (.int .i64) (.int .i64)))), 5, 64⟩, ⟨110, .pair (.int .i64) (.pair (.int .i64) (.pair (.str) (.list 3 (.int .i64)))), 4, 56⟩, ⟨112, .list 147 (.pair (.str) (.int .i64)), 0, 24⟩, ⟨114, .pair (.str) (.pair (.list 147 (.pair (.str) (.int .i64))) (.pair (.int .i64) (.pair (.int .i64) (.int .i64)))), 5, 64⟩, ⟨124, .pair (.str) (.int .i64), 2, 24⟩, ⟨147, .pair (.str) (.int .i64), 2, 24⟩]
theorem tabOk : TabOk Tryd.prog tab := tab_ok (by kernel_rfl)
theorem kOk : kpos tab = true := by kernel_rfl
theorem mixOk : Tryd.prog.follows .mixedOrders = true := by kernel_rfl

/-- laws.szIntS -/
noncomputable def C32 : Cal := ⟨32, [⟨.ro, .list 3 (.int .i64)⟩, ⟨.ro, .int .i64⟩], [⟨.int .i64, .ro⟩], fun x => laws_szIntS x.1 x.2.1⟩
def H32 : Hn := .z
noncomputable def E32 : Env := ⟨tab, [], 2, 12⟩
theorem d32 : (fun (x : HL (pts C32.ps)) => den E32 (Tryd.f32.body.getD .skip) H32 (initS 12 C32.ps x) (retK tab [] C32.ps C32.rs [.tmp 4]) (fun _ _ => none) (retK tab [] C32.ps C32.rs [.tmp 4])) = C32.F := by kernel_rfl
theorem c32 : Cok Tryd.prog C32 := by
  exact cok_of_den (E := E32) (fn := Tryd.f32) (code := Tryd.f32.body.getD .skip) (hn := H32) (gr := []) (is := [.tmp 4]) ⟨tabOk, (fun c hc => by cases hc), mixOk⟩ ⟨by kernel_rfl, by kernel_rfl, by kernel_rfl, by kernel_rfl, by kernel_rfl, by decide, by kernel_rfl⟩ (fun x y h => (congrFun d32 x).trans h)

/-- laws.szNode -/
noncomputable def C89 : Cal := ⟨89, [⟨.ro, .pair (.int .i64) (.pair (.int .i64) (.pair (.str) (.list 3 (.int .i64))))⟩, ⟨.ro, .int .i64⟩], [⟨.int .i64, .ro⟩], fun x => laws_szNode x.1 x.2.1⟩
def H89 : Hn := (.n ⟨[], [], none, false, []⟩ (.n ⟨[], [], none, false, [(0, ⟨[], .pr (.ro) (.pr (.ro) (.pr (.ro) (.own (.ro)))), [], [], none⟩)]⟩ .z .z) .z)
noncomputable def E89 : Env := ⟨tab, [C32], 2, 19⟩
theorem d89 : (fun (x : HL (pts C89.ps)) => den E89 (Tryd.f89.body.getD .skip) H89 (initS 19 C89.ps x) (retK tab [] C89.ps C89.rs [.tmp 4]) (fun _ _ => none) (retK tab [] C89.ps C89.rs [.tmp 4])) = C89.F := by kernel_rfl
theorem c89 : Cok Tryd.prog C89 := by
  have h32 := c32
  exact cok_of_den (E := E89) (fn := Tryd.f89) (code := Tryd.f89.body.getD .skip) (hn := H89) (gr := []) (is := [.tmp 4]) ⟨tabOk, (fun c hc => by simp only [E89, List.mem_cons, List.not_mem_nil, or_false] at hc; rcases hc with rfl <;> assumption), mixOk⟩ ⟨by kernel_rfl, by kernel_rfl, by kernel_rfl, by kernel_rfl, by kernel_rfl, by decide, by kernel_rfl⟩ (fun x y h => (congrFun d89 x).trans h)

/-- laws.szNodeS -/
noncomputable def C62 : Cal := ⟨62, [⟨.ro, .list 110 (.pair (.int .i64) (.pair (.int .i64) (.pair (.str) (.list 3 (.int .i64)))))⟩, ⟨.ro, .int .i64⟩], [⟨.int .i64, .ro⟩], fun x => laws_szNodeS x.1 x.2.1⟩
def H62 : Hn := (.n ⟨[], [], none, false, []⟩ .z (.n ⟨[], [], none, false, []⟩ .z (.n ⟨[], [], none, false, []⟩ .z (.n ⟨[], [], none, false, []⟩ (.n ⟨[], [], none, false, []⟩ .z (.n ⟨[], [], (some ⟨[.snp 1 (.int .i64) []], [], []⟩), true, []⟩ (.n ⟨[], [], (some ⟨[.snp 0 (.list 110 (.pair (.int .i64) (.pair (.int .i64) (.pair (.str) (.list 3 (.int .i64)))))) [], .snp 1 (.int .i64) [], .snp 5 (.int .i64) []], [], []⟩), false, []⟩ .z .z) .z)) .z))))
noncomputable def E62 : Env := ⟨tab, [C89], 2, 27⟩
theorem d62 : (fun (x : HL (pts C62.ps)) => den E62 (Tryd.f62.body.getD .skip) H62 (initS 27 C62.ps x) (retK tab [] C62.ps C62.rs [.tmp 4]) (fun _ _ => none) (retK tab [] C62.ps C62.rs [.tmp 4])) = C62.F := by kernel_rfl
theorem c62 : Cok Tryd.prog C62 := by
  have h89 := c89
  exact cok_of_den (E := E62) (fn := Tryd.f62) (code := Tryd.f62.body.getD .skip) (hn := H62) (gr := []) (is := [.tmp 4]) ⟨tabOk, (fun c hc => by simp only [E62, List.mem_cons, List.not_mem_nil, or_false] at hc; rcases hc with rfl <;> assumption), mixOk⟩ ⟨by kernel_rfl, by kernel_rfl, by kernel_rfl, by kernel_rfl, by kernel_rfl, by decide, by kernel_rfl⟩ (fun x y h => (congrFun d62 x).trans h)

/-- laws.szParam -/
noncomputable def C132 : Cal := ⟨132, [⟨.ro, .pair (.str) (.int .i64)⟩, ⟨.ro, .int .i64⟩], [⟨.int .i64, .ro⟩], fun x => laws_szParam x.1 x.2.1⟩
def H132 : Hn := .z
noncomputable def E132 : Env := ⟨tab, [], 2, 13⟩
theorem d132 : (fun (x : HL (pts C132.ps)) => den E132 (Tryd.f132.body.getD .skip) H132 (initS 13 C132.ps x) (retK tab [] C132.ps C132.rs [.tmp 4]) (fun _ _ => none) (retK tab [] C132.ps C132.rs [.tmp 4])) = C132.F := by kernel_rfl
theorem c132 : Cok Tryd.prog C132 := by
  exact cok_of_den (E := E132) (fn := Tryd.f132) (code := Tryd.f132.body.getD .skip) (hn := H132) (gr := []) (is := [.tmp 4]) ⟨tabOk, (fun c hc => by cases hc), mixOk⟩ ⟨by kernel_rfl, by kernel_rfl, by kernel_rfl, by kernel_rfl, by kernel_rfl, by decide, by kernel_rfl⟩ (fun x y h => (congrFun d132 x).trans h)

/-- laws.szParamS -/
noncomputable def C117 : Cal := ⟨117, [⟨.ro, .list 147 (.pair (.str) (.int .i64))⟩, ⟨.ro, .int .i64⟩], [⟨.int .i64, .ro⟩], fun x => laws_szParamS x.1 x.2.1⟩
def H117 : Hn := (.n ⟨[], [], none, false, []⟩ .z (.n ⟨[], [], none, false, []⟩ .z (.n ⟨[], [], none, false, []⟩ .z (.n ⟨[], [], none, false, []⟩ (.n ⟨[], [], none, false, []⟩ .z (.n ⟨[], [], (some ⟨[.snp 1 (.int .i64) []], [], []⟩), true, []⟩ (.n ⟨[], [], (some ⟨[.snp 0 (.list 147 (.pair (.str) (.int .i64))) [], .snp 1 (.int .i64) [], .snp 5 (.int .i64) []], [], []⟩), false, []⟩ .z .z) .z)) .z))))
noncomputable def E117 : Env := ⟨tab, [C132], 2, 27⟩
theorem d117 : (fun (x : HL (pts C117.ps)) => den E117 (Tryd.f117.body.getD .skip) H117 (initS 27 C117.ps x) (retK tab [] C117.ps C117.rs [.tmp 4]) (fun _ _ => none) (retK tab [] C117.ps C117.rs [.tmp 4])) = C117.F := by kernel_rfl
theorem c117 : Cok Tryd.prog C117 := by
  have h132 := c132
  exact cok_of_den (E := E117) (fn := Tryd.f117) (code := Tryd.f117.body.getD .skip) (hn := H117) (gr := []) (is := [.tmp 4]) ⟨tabOk, (fun c hc => by simp only [E117, List.mem_cons, List.not_mem_nil, or_false] at hc; rcases hc with rfl <;> assumption), mixOk⟩ ⟨by kernel_rfl, by kernel_rfl, by kernel_rfl, by kernel_rfl, by kernel_rfl, by decide, by kernel_rfl⟩ (fun x y h => (congrFun d117 x).trans h)

/-- laws.szFn -/
noncomputable def C90 : Cal := ⟨90, [⟨.ro, .pair (.str) (.pair (.list 147 (.pair (.str) (.int .i64))) (.pair (.int .i64) (.pair (.int .i64) (.int .i64))))⟩, ⟨.ro, .int .i64⟩], [⟨.int .i64, .ro⟩], fun x => laws_szFn x.1 x.2.1⟩
def H90 : Hn := (.n ⟨[], [], none, false, []⟩ (.n ⟨[], [], none, false, [(0, ⟨[], .pr (.ro) (.pr (.own (.ro)) (.ro)), [], [], none⟩)]⟩ .z .z) .z)
noncomputable def E90 : Env := ⟨tab, [C117], 2, 19⟩
theorem d90 : (fun (x : HL (pts C90.ps)) => den E90 (Tryd.f90.body.getD .skip) H90 (initS 19 C90.ps x) (retK tab [] C90.ps C90.rs [.tmp 4]) (fun _ _ => none) (retK tab [] C90.ps C90.rs [.tmp 4])) = C90.F := by kernel_rfl
theorem c90 : Cok Tryd.prog C90 := by
  have h117 := c117
  exact cok_of_den (E := E90) (fn := Tryd.f90) (code := Tryd.f90.body.getD .skip) (hn := H90) (gr := []) (is := [.tmp 4]) ⟨tabOk, (fun c hc => by simp only [E90, List.mem_cons, List.not_mem_nil, or_false] at hc; rcases hc with rfl <;> assumption), mixOk⟩ ⟨by kernel_rfl, by kernel_rfl, by kernel_rfl, by kernel_rfl, by kernel_rfl, by decide, by kernel_rfl⟩ (fun x y h => (congrFun d90 x).trans h)

/-- laws.szFnS -/
noncomputable def C63 : Cal := ⟨63, [⟨.ro, .list 114 (.pair (.str) (.pair (.list 147 (.pair (.str) (.int .i64))) (.pair (.int .i64) (.pair (.int .i64) (.int .i64)))))⟩, ⟨.ro, .int .i64⟩], [⟨.int .i64, .ro⟩], fun x => laws_szFnS x.1 x.2.1⟩
def H63 : Hn := (.n ⟨[], [], none, false, []⟩ .z (.n ⟨[], [], none, false, []⟩ .z (.n ⟨[], [], none, false, []⟩ .z (.n ⟨[], [], none, false, []⟩ (.n ⟨[], [], none, false, []⟩ .z (.n ⟨[], [], (some ⟨[.snp 1 (.int .i64) []], [], []⟩), true, []⟩ (.n ⟨[], [], (some ⟨[.snp 0 (.list 114 (.pair (.str) (.pair (.list 147 (.pair (.str) (.int .i64))) (.pair (.int .i64) (.pair (.int .i64) (.int .i64)))))) [], .snp 1 (.int .i64) [], .snp 5 (.int .i64) []], [], []⟩), false, []⟩ .z .z) .z)) .z))))
noncomputable def E63 : Env := ⟨tab, [C90], 2, 27⟩
theorem d63 : (fun (x : HL (pts C63.ps)) => den E63 (Tryd.f63.body.getD .skip) H63 (initS 27 C63.ps x) (retK tab [] C63.ps C63.rs [.tmp 4]) (fun _ _ => none) (retK tab [] C63.ps C63.rs [.tmp 4])) = C63.F := by kernel_rfl
theorem c63 : Cok Tryd.prog C63 := by
  have h90 := c90
  exact cok_of_den (E := E63) (fn := Tryd.f63) (code := Tryd.f63.body.getD .skip) (hn := H63) (gr := []) (is := [.tmp 4]) ⟨tabOk, (fun c hc => by simp only [E63, List.mem_cons, List.not_mem_nil, or_false] at hc; rcases hc with rfl <;> assumption), mixOk⟩ ⟨by kernel_rfl, by kernel_rfl, by kernel_rfl, by kernel_rfl, by kernel_rfl, by decide, by kernel_rfl⟩ (fun x y h => (congrFun d63 x).trans h)

/-- laws.szProgram -/
noncomputable def C23 : Cal := ⟨23, [⟨.ro, .pair (.list 110 (.pair (.int .i64) (.pair (.int .i64) (.pair (.str) (.list 3 (.int .i64)))))) (.list 114 (.pair (.str) (.pair (.list 147 (.pair (.str) (.int .i64))) (.pair (.int .i64) (.pair (.int .i64) (.int .i64))))))⟩, ⟨.ro, .int .i64⟩], [⟨.int .i64, .ro⟩], fun x => laws_szProgram x.1 x.2.1⟩
def H23 : Hn := (.n ⟨[], [], none, false, []⟩ (.n ⟨[], [], none, false, [(0, ⟨[], .pr (.own (.pr (.ro) (.pr (.ro) (.pr (.ro) (.own (.ro)))))) (.own (.pr (.ro) (.pr (.own (.ro)) (.ro)))), [], [], none⟩)]⟩ .z .z) .z)
noncomputable def E23 : Env := ⟨tab, [C62, C63], 2, 18⟩
theorem d23 : (fun (x : HL (pts C23.ps)) => den E23 (Tryd.f23.body.getD .skip) H23 (initS 18 C23.ps x) (retK tab [] C23.ps C23.rs [.tmp 4]) (fun _ _ => none) (retK tab [] C23.ps C23.rs [.tmp 4])) = C23.F := by kernel_rfl
theorem c23 : Cok Tryd.prog C23 := by
  have h62 := c62
  have h63 := c63
  exact cok_of_den (E := E23) (fn := Tryd.f23) (code := Tryd.f23.body.getD .skip) (hn := H23) (gr := []) (is := [.tmp 4]) ⟨tabOk, (fun c hc => by simp only [E23, List.mem_cons, List.not_mem_nil, or_false] at hc; rcases hc with rfl | rfl <;> assumption), mixOk⟩ ⟨by kernel_rfl, by kernel_rfl, by kernel_rfl, by kernel_rfl, by kernel_rfl, by decide, by kernel_rfl⟩ (fun x y h => (congrFun d23 x).trans h)

/-- laws.toIntS -/
noncomputable def C38 : Cal := ⟨38, [⟨.ro, .list 3 (.int .i64)⟩], [⟨.list 3 (.int .i64), .own (.ro)⟩], fun x => laws_toIntS x.1⟩
def H38 : Hn := (.n ⟨[], [], none, false, []⟩ .z (.n ⟨[], [], none, false, []⟩ (.n ⟨[], [.g 3], none, false, []⟩ .z .z) (.n ⟨[], [], none, false, []⟩ (.n ⟨[], [], none, false, []⟩ .z (.n ⟨[], [], (some ⟨[.dat 3 (.list 3 (.int .i64)) (.own (.ro))], [], []⟩), false, []⟩ (.n ⟨[], [], (some ⟨[.snp 0 (.list 3 (.int .i64)) [], .dat 3 (.list 3 (.int .i64)) (.own (.ro)), .snp 4 (.int .i64) []], [], []⟩), false, []⟩ (.n ⟨[], [], none, false, []⟩ .z (.n ⟨[], [], none, false, []⟩ (.n ⟨[], [], none, false, []⟩ (.n ⟨[], [], none, false, [(7, ⟨[], .ro, [], [], some 6⟩)]⟩ .z .z) .z) .z)) .z) .z)) (.n ⟨[], [], none, false, []⟩ (.n ⟨[], [.g 2], none, false, []⟩ .z .z) .z))))
noncomputable def E38 : Env := ⟨tab, [], 1, 22⟩
theorem d38 : (fun (x : HL (pts C38.ps)) => den E38 (Tryd.f38.body.getD .skip) H38 (initS 22 C38.ps x) (retK tab [] C38.ps C38.rs [.tmp 2]) (fun _ _ => none) (retK tab [] C38.ps C38.rs [.tmp 2])) = C38.F := by kernel_rfl
theorem c38 : Cok Tryd.prog C38 := by
  exact cok_of_den (E := E38) (fn := Tryd.f38) (code := Tryd.f38.body.getD .skip) (hn := H38) (gr := []) (is := [.tmp 2]) ⟨tabOk, (fun c hc => by cases hc), mixOk⟩ ⟨by kernel_rfl, by kernel_rfl, by kernel_rfl, by kernel_rfl, by kernel_rfl, by decide, by kernel_rfl⟩ (fun x y h => (congrFun d38 x).trans h)

/-- laws.toNode -/
noncomputable def C93 : Cal := ⟨93, [⟨.ro, .pair (.int .i64) (.pair (.int .i64) (.pair (.str) (.list 3 (.int .i64))))⟩], [⟨.pair (.int .i64) (.pair (.int .i64) (.pair (.str) (.list 3 (.int .i64)))), .pr (.ro) (.pr (.ro) (.pr (.ro) (.own (.ro))))⟩], fun x => laws_toNode x.1⟩
def H93 : Hn := (.n ⟨[], [], none, false, []⟩ (.n ⟨[], [], none, false, [(0, ⟨[], .pr (.ro) (.pr (.ro) (.pr (.ro) (.own (.ro)))), [], [], none⟩), (1, ⟨[], .pr (.ro) (.pr (.ro) (.pr (.ro) (.own (.ro)))), [], [], none⟩)]⟩ .z .z) (.n ⟨[], [], none, false, []⟩ (.n ⟨[], [], none, false, [(0, ⟨[], .pr (.ro) (.pr (.ro) (.pr (.ro) (.own (.ro)))), [], [], none⟩)]⟩ .z .z) (.n ⟨[], [], none, false, []⟩ .z (.n ⟨[], [], none, false, []⟩ .z (.n ⟨[], [], none, false, []⟩ .z (.n ⟨[], [], none, false, []⟩ (.n ⟨[], [], none, false, [(4, ⟨[], .own (.ro), [], [], none⟩)]⟩ .z .z) (.n ⟨[], [], none, false, []⟩ (.n ⟨[], [], none, false, [(1, ⟨[.g 17], .pr (.ro) (.pr (.ro) (.pr (.ro) (.own (.ro)))), [], [], none⟩)]⟩ .z .z) .z)))))))
noncomputable def E93 : Env := ⟨tab, [C38], 1, 18⟩
theorem d93 : (fun (x : HL (pts C93.ps)) => den E93 (Tryd.f93.body.getD .skip) H93 (initS 18 C93.ps x) (retK tab [] C93.ps C93.rs [.cell 2 83]) (fun _ _ => none) (retK tab [] C93.ps C93.rs [.cell 2 83])) = C93.F := by kernel_rfl
theorem c93 : Cok Tryd.prog C93 := by
  have h38 := c38
  exact cok_of_den (E := E93) (fn := Tryd.f93) (code := Tryd.f93.body.getD .skip) (hn := H93) (gr := []) (is := [.cell 2 83]) ⟨tabOk, (fun c hc => by simp only [E93, List.mem_cons, List.not_mem_nil, or_false] at hc; rcases hc with rfl <;> assumption), mixOk⟩ ⟨by kernel_rfl, by kernel_rfl, by kernel_rfl, by kernel_rfl, by kernel_rfl, by decide, by kernel_rfl⟩ (fun x y h => (congrFun d93 x).trans h)

/-- laws.toNodeS -/
noncomputable def C66 : Cal := ⟨66, [⟨.ro, .list 110 (.pair (.int .i64) (.pair (.int .i64) (.pair (.str) (.list 3 (.int .i64)))))⟩], [⟨.list 83 (.pair (.int .i64) (.pair (.int .i64) (.pair (.str) (.list 3 (.int .i64))))), .own (.pr (.ro) (.pr (.ro) (.pr (.ro) (.own (.ro)))))⟩], fun x => laws_toNodeS x.1⟩
def H66 : Hn := (.n ⟨[], [], none, false, []⟩ .z (.n ⟨[], [], none, false, []⟩ (.n ⟨[], [.g 3], none, false, [(2, ⟨[], .pr (.ro) (.pr (.ro) (.pr (.ro) (.own (.ro)))), [], [], none⟩)]⟩ .z .z) (.n ⟨[], [], none, false, []⟩ (.n ⟨[], [], none, false, []⟩ .z (.n ⟨[], [], (some ⟨[.dat 3 (.list 83 (.pair (.int .i64) (.pair (.int .i64) (.pair (.str) (.list 3 (.int .i64)))))) (.own (.pr (.ro) (.pr (.ro) (.pr (.ro) (.own (.ro))))))], [], []⟩), false, []⟩ (.n ⟨[], [], (some ⟨[.snp 0 (.list 110 (.pair (.int .i64) (.pair (.int .i64) (.pair (.str) (.list 3 (.int .i64)))))) [], .dat 3 (.list 83 (.pair (.int .i64) (.pair (.int .i64) (.pair (.str) (.list 3 (.int .i64)))))) (.own (.pr (.ro) (.pr (.ro) (.pr (.ro) (.own (.ro)))))), .snp 4 (.int .i64) []], [], []⟩), false, []⟩ (.n ⟨[], [], none, false, []⟩ .z (.n ⟨[], [], none, false, []⟩ (.n ⟨[], [], none, false, []⟩ (.n ⟨[], [], none, false, [(8, ⟨[], .pr (.ro) (.pr (.ro) (.pr (.ro) (.own (.ro)))), [], [], some 6⟩)]⟩ .z .z) .z) .z)) .z) .z)) (.n ⟨[], [], none, false, []⟩ (.n ⟨[], [.g 2], none, false, []⟩ .z .z) .z))))
noncomputable def E66 : Env := ⟨tab, [C93], 1, 23⟩
theorem d66 : (fun (x : HL (pts C66.ps)) => den E66 (Tryd.f66.body.getD .skip) H66 (initS 23 C66.ps x) (retK tab [] C66.ps C66.rs [.tmp 2]) (fun _ _ => none) (retK tab [] C66.ps C66.rs [.tmp 2])) = C66.F := by kernel_rfl
theorem c66 : Cok Tryd.prog C66 := by
  have h93 := c93
  exact cok_of_den (E := E66) (fn := Tryd.f66) (code := Tryd.f66.body.getD .skip) (hn := H66) (gr := []) (is := [.tmp 2]) ⟨tabOk, (fun c hc => by simp only [E66, List.mem_cons, List.not_mem_nil, or_false] at hc; rcases hc with rfl <;> assumption), mixOk⟩ ⟨by kernel_rfl, by kernel_rfl, by kernel_rfl, by kernel_rfl, by kernel_rfl, by decide, by kernel_rfl⟩ (fun x y h => (congrFun d66 x).trans h)

/-- laws.toParam -/
noncomputable def C136 : Cal := ⟨136, [⟨.ro, .pair (.str) (.int .i64)⟩], [⟨.pair (.str) (.int .i64), .ro⟩], fun x => laws_toParam x.1⟩
def H136 : Hn := .z
noncomputable def E136 : Env := ⟨tab, [], 1, 11⟩
theorem d136 : (fun (x : HL (pts C136.ps)) => den E136 (Tryd.f136.body.getD .skip) H136 (initS 11 C136.ps x) (retK tab [] C136.ps C136.rs [.cell 2 124]) (fun _ _ => none) (retK tab [] C136.ps C136.rs [.cell 2 124])) = C136.F := by kernel_rfl
theorem c136 : Cok Tryd.prog C136 := by
  exact cok_of_den (E := E136) (fn := Tryd.f136) (code := Tryd.f136.body.getD .skip) (hn := H136) (gr := []) (is := [.cell 2 124]) ⟨tabOk, (fun c hc => by cases hc), mixOk⟩ ⟨by kernel_rfl, by kernel_rfl, by kernel_rfl, by kernel_rfl, by kernel_rfl, by decide, by kernel_rfl⟩ (fun x y h => (congrFun d136 x).trans h)

/-- laws.toParamS -/
noncomputable def C119 : Cal := ⟨119, [⟨.ro, .list 147 (.pair (.str) (.int .i64))⟩], [⟨.list 124 (.pair (.str) (.int .i64)), .own (.ro)⟩], fun x => laws_toParamS x.1⟩
def H119 : Hn := (.n ⟨[], [], none, false, []⟩ .z (.n ⟨[], [], none, false, []⟩ (.n ⟨[], [.g 3], none, false, []⟩ .z .z) (.n ⟨[], [], none, false, []⟩ (.n ⟨[], [], none, false, []⟩ .z (.n ⟨[], [], (some ⟨[.dat 3 (.list 124 (.pair (.str) (.int .i64))) (.own (.ro))], [], []⟩), false, []⟩ (.n ⟨[], [], (some ⟨[.snp 0 (.list 147 (.pair (.str) (.int .i64))) [], .dat 3 (.list 124 (.pair (.str) (.int .i64))) (.own (.ro)), .snp 4 (.int .i64) []], [], []⟩), false, []⟩ (.n ⟨[], [], none, false, []⟩ .z (.n ⟨[], [], none, false, []⟩ (.n ⟨[], [], none, false, []⟩ (.n ⟨[], [], none, false, [(8, ⟨[], .ro, [], [], some 6⟩)]⟩ .z .z) .z) .z)) .z) .z)) (.n ⟨[], [], none, false, []⟩ (.n ⟨[], [.g 2], none, false, []⟩ .z .z) .z))))
noncomputable def E119 : Env := ⟨tab, [C136], 1, 23⟩
theorem d119 : (fun (x : HL (pts C119.ps)) => den E119 (Tryd.f119.body.getD .skip) H119 (initS 23 C119.ps x) (retK tab [] C119.ps C119.rs [.tmp 2]) (fun _ _ => none) (retK tab [] C119.ps C119.rs [.tmp 2])) = C119.F := by kernel_rfl
theorem c119 : Cok Tryd.prog C119 := by
  have h136 := c136
  exact cok_of_den (E := E119) (fn := Tryd.f119) (code := Tryd.f119.body.getD .skip) (hn := H119) (gr := []) (is := [.tmp 2]) ⟨tabOk, (fun c hc => by simp only [E119, List.mem_cons, List.not_mem_nil, or_false] at hc; rcases hc with rfl <;> assumption), mixOk⟩ ⟨by kernel_rfl, by kernel_rfl, by kernel_rfl, by kernel_rfl, by kernel_rfl, by decide, by kernel_rfl⟩ (fun x y h => (congrFun d119 x).trans h)

/-- laws.toFn -/
noncomputable def C94 : Cal := ⟨94, [⟨.ro, .pair (.str) (.pair (.list 147 (.pair (.str) (.int .i64))) (.pair (.int .i64) (.pair (.int .i64) (.int .i64))))⟩], [⟨.pair (.str) (.pair (.list 124 (.pair (.str) (.int .i64))) (.pair (.int .i64) (.pair (.int .i64) (.int .i64)))), .pr (.ro) (.pr (.own (.ro)) (.ro))⟩], fun x => laws_toFn x.1⟩
def H94 : Hn := (.n ⟨[], [], none, false, []⟩ (.n ⟨[], [], none, false, [(0, ⟨[], .pr (.ro) (.pr (.own (.ro)) (.ro)), [], [], none⟩), (1, ⟨[], .pr (.ro) (.pr (.own (.ro)) (.ro)), [], [], none⟩)]⟩ .z .z) (.n ⟨[], [], none, false, []⟩ (.n ⟨[], [], none, false, [(0, ⟨[], .pr (.ro) (.pr (.own (.ro)) (.ro)), [], [], none⟩)]⟩ .z .z) (.n ⟨[], [], none, false, []⟩ .z (.n ⟨[], [], none, false, []⟩ (.n ⟨[], [], none, false, [(4, ⟨[], .own (.ro), [], [], none⟩)]⟩ .z .z) (.n ⟨[], [], none, false, []⟩ .z (.n ⟨[], [], none, false, []⟩ .z (.n ⟨[], [], none, false, []⟩ .z (.n ⟨[], [], none, false, []⟩ (.n ⟨[], [], none, false, [(1, ⟨[.g 20], .pr (.ro) (.pr (.own (.ro)) (.ro)), [], [], none⟩)]⟩ .z .z) .z))))))))
noncomputable def E94 : Env := ⟨tab, [C119], 1, 21⟩
theorem d94 : (fun (x : HL (pts C94.ps)) => den E94 (Tryd.f94.body.getD .skip) H94 (initS 21 C94.ps x) (retK tab [] C94.ps C94.rs [.cell 2 90]) (fun _ _ => none) (retK tab [] C94.ps C94.rs [.cell 2 90])) = C94.F := by kernel_rfl
theorem c94 : Cok Tryd.prog C94 := by
  have h119 := c119
  exact cok_of_den (E := E94) (fn := Tryd.f94) (code := Tryd.f94.body.getD .skip) (hn := H94) (gr := []) (is := [.cell 2 90]) ⟨tabOk, (fun c hc => by simp only [E94, List.mem_cons, List.not_mem_nil, or_false] at hc; rcases hc with rfl <;> assumption), mixOk⟩ ⟨by kernel_rfl, by kernel_rfl, by kernel_rfl, by kernel_rfl, by kernel_rfl, by decide, by kernel_rfl⟩ (fun x y h => (congrFun d94 x).trans h)

/-- laws.toFnS -/
noncomputable def C67 : Cal := ⟨67, [⟨.ro, .list 114 (.pair (.str) (.pair (.list 147 (.pair (.str) (.int .i64))) (.pair (.int .i64) (.pair (.int .i64) (.int .i64)))))⟩], [⟨.list 90 (.pair (.str) (.pair (.list 124 (.pair (.str) (.int .i64))) (.pair (.int .i64) (.pair (.int .i64) (.int .i64))))), .own (.pr (.ro) (.pr (.own (.ro)) (.ro)))⟩], fun x => laws_toFnS x.1⟩
def H67 : Hn := (.n ⟨[], [], none, false, []⟩ .z (.n ⟨[], [], none, false, []⟩ (.n ⟨[], [.g 3], none, false, [(2, ⟨[], .pr (.ro) (.pr (.own (.ro)) (.ro)), [], [], none⟩)]⟩ .z .z) (.n ⟨[], [], none, false, []⟩ (.n ⟨[], [], none, false, []⟩ .z (.n ⟨[], [], (some ⟨[.dat 3 (.list 90 (.pair (.str) (.pair (.list 124 (.pair (.str) (.int .i64))) (.pair (.int .i64) (.pair (.int .i64) (.int .i64)))))) (.own (.pr (.ro) (.pr (.own (.ro)) (.ro))))], [], []⟩), false, []⟩ (.n ⟨[], [], (some ⟨[.snp 0 (.list 114 (.pair (.str) (.pair (.list 147 (.pair (.str) (.int .i64))) (.pair (.int .i64) (.pair (.int .i64) (.int .i64)))))) [], .dat 3 (.list 90 (.pair (.str) (.pair (.list 124 (.pair (.str) (.int .i64))) (.pair (.int .i64) (.pair (.int .i64) (.int .i64)))))) (.own (.pr (.ro) (.pr (.own (.ro)) (.ro)))), .snp 4 (.int .i64) []], [], []⟩), false, []⟩ (.n ⟨[], [], none, false, []⟩ .z (.n ⟨[], [], none, false, []⟩ (.n ⟨[], [], none, false, []⟩ (.n ⟨[], [], none, false, [(8, ⟨[], .pr (.ro) (.pr (.own (.ro)) (.ro)), [], [], some 6⟩)]⟩ .z .z) .z) .z)) .z) .z)) (.n ⟨[], [], none, false, []⟩ (.n ⟨[], [.g 2], none, false, []⟩ .z .z) .z))))
noncomputable def E67 : Env := ⟨tab, [C94], 1, 23⟩
theorem d67 : (fun (x : HL (pts C67.ps)) => den E67 (Tryd.f67.body.getD .skip) H67 (initS 23 C67.ps x) (retK tab [] C67.ps C67.rs [.tmp 2]) (fun _ _ => none) (retK tab [] C67.ps C67.rs [.tmp 2])) = C67.F := by kernel_rfl
theorem c67 : Cok Tryd.prog C67 := by
  have h94 := c94
  exact cok_of_den (E := E67) (fn := Tryd.f67) (code := Tryd.f67.body.getD .skip) (hn := H67) (gr := []) (is := [.tmp 2]) ⟨tabOk, (fun c hc => by simp only [E67, List.mem_cons, List.not_mem_nil, or_false] at hc; rcases hc with rfl <;> assumption), mixOk⟩ ⟨by kernel_rfl, by kernel_rfl, by kernel_rfl, by kernel_rfl, by kernel_rfl, by decide, by kernel_rfl⟩ (fun x y h => (congrFun d67 x).trans h)

/-- laws.toProgram -/
noncomputable def C25 : Cal := ⟨25, [⟨.ro, .pair (.list 110 (.pair (.int .i64) (.pair (.int .i64) (.pair (.str) (.list 3 (.int .i64)))))) (.list 114 (.pair (.str) (.pair (.list 147 (.pair (.str) (.int .i64))) (.pair (.int .i64) (.pair (.int .i64) (.int .i64))))))⟩], [⟨.pair (.list 83 (.pair (.int .i64) (.pair (.int .i64) (.pair (.str) (.list 3 (.int .i64)))))) (.list 90 (.pair (.str) (.pair (.list 124 (.pair (.str) (.int .i64))) (.pair (.int .i64) (.pair (.int .i64) (.int .i64)))))), .pr (.own (.pr (.ro) (.pr (.ro) (.pr (.ro) (.own (.ro)))))) (.own (.pr (.ro) (.pr (.own (.ro)) (.ro))))⟩], fun x => laws_toProgram x.1⟩
def H25 : Hn := (.n ⟨[], [], none, false, []⟩ (.n ⟨[], [], none, false, [(0, ⟨[], .pr (.own (.pr (.ro) (.pr (.ro) (.pr (.ro) (.own (.ro)))))) (.own (.pr (.ro) (.pr (.own (.ro)) (.ro)))), [], [], none⟩), (1, ⟨[], .pr (.own (.pr (.ro) (.pr (.ro) (.pr (.ro) (.own (.ro)))))) (.own (.pr (.ro) (.pr (.own (.ro)) (.ro)))), [], [], none⟩)]⟩ .z .z) (.n ⟨[], [], none, false, []⟩ (.n ⟨[], [], none, false, [(0, ⟨[], .pr (.own (.pr (.ro) (.pr (.ro) (.pr (.ro) (.own (.ro)))))) (.own (.pr (.ro) (.pr (.own (.ro)) (.ro)))), [], [], none⟩)]⟩ .z .z) (.n ⟨[], [], none, false, []⟩ (.n ⟨[], [], none, false, [(4, ⟨[], .own (.pr (.ro) (.pr (.ro) (.pr (.ro) (.own (.ro))))), [], [], none⟩)]⟩ .z .z) (.n ⟨[], [], none, false, []⟩ (.n ⟨[], [], none, false, [(4, ⟨[], .own (.pr (.ro) (.pr (.own (.ro)) (.ro))), [], [], none⟩)]⟩ .z .z) (.n ⟨[], [], none, false, []⟩ (.n ⟨[], [], none, false, [(1, ⟨[.g 12], .pr (.own (.pr (.ro) (.pr (.ro) (.pr (.ro) (.own (.ro)))))) (.own (.pr (.ro) (.pr (.own (.ro)) (.ro)))), [], [], none⟩)]⟩ .z .z) .z)))))
noncomputable def E25 : Env := ⟨tab, [C66, C67], 1, 13⟩
theorem d25 : (fun (x : HL (pts C25.ps)) => den E25 (Tryd.f25.body.getD .skip) H25 (initS 13 C25.ps x) (retK tab [] C25.ps C25.rs [.cell 2 53]) (fun _ _ => none) (retK tab [] C25.ps C25.rs [.cell 2 53])) = C25.F := by kernel_rfl
theorem c25 : Cok Tryd.prog C25 := by
  have h66 := c66
  have h67 := c67
  exact cok_of_den (E := E25) (fn := Tryd.f25) (code := Tryd.f25.body.getD .skip) (hn := H25) (gr := []) (is := [.cell 2 53]) ⟨tabOk, (fun c hc => by simp only [E25, List.mem_cons, List.not_mem_nil, or_false] at hc; rcases hc with rfl | rfl <;> assumption), mixOk⟩ ⟨by kernel_rfl, by kernel_rfl, by kernel_rfl, by kernel_rfl, by kernel_rfl, by decide, by kernel_rfl⟩ (fun x y h => (congrFun d25 x).trans h)

/-- spec.l01In -/
noncomputable def C33 : Cal := ⟨33, [⟨.ro, .int .i64⟩, ⟨.ro, .int .i64⟩, ⟨.ro, .int .i64⟩], [⟨.bool, .ro⟩], fun x => spec_l01In x.1 x.2.1 x.2.2.1⟩
def H33 : Hn := (.n ⟨[], [], none, false, []⟩ .z (.n ⟨[], [], none, false, []⟩ (.n ⟨[], [], (some ⟨[.snp 6 (.bool) []], [], []⟩), false, []⟩ .z .z) .z))
noncomputable def E33 : Env := ⟨tab, [], 3, 15⟩
theorem d33 : (fun (x : HL (pts C33.ps)) => den E33 (Tryd.f33.body.getD .skip) H33 (initS 15 C33.ps x) (retK tab [] C33.ps C33.rs [.tmp 6]) (fun _ _ => none) (retK tab [] C33.ps C33.rs [.tmp 6])) = C33.F := by kernel_rfl
theorem c33 : Cok Tryd.prog C33 := by
  exact cok_of_den (E := E33) (fn := Tryd.f33) (code := Tryd.f33.body.getD .skip) (hn := H33) (gr := []) (is := [.tmp 6]) ⟨tabOk, (fun c hc => by cases hc), mixOk⟩ ⟨by kernel_rfl, by kernel_rfl, by kernel_rfl, by kernel_rfl, by kernel_rfl, by decide, by kernel_rfl⟩ (fun x y h => (congrFun d33 x).trans h)

/-- spec.l04Kids -/
noncomputable def C133 : Cal := ⟨133, [⟨.ro, .int .i64⟩], [⟨.int .i64, .ro⟩, ⟨.int .i64, .ro⟩], fun x => spec_l04Kids x.1⟩
def H133 : Hn := (.n ⟨[], [], none, false, []⟩ .z (.n ⟨[], [], none, false, []⟩ (.n ⟨[], [], none, false, []⟩ .z (.n ⟨[], [], none, false, []⟩ (.n ⟨[], [], none, false, []⟩ (.n ⟨[], [], none, false, []⟩ .z (.n ⟨[], [], (some ⟨[.snp 4 (.int .i64) [], .snp 5 (.bool) []], [], []⟩), false, []⟩ .z (.n ⟨[], [], none, false, []⟩ .z (.n ⟨[], [], (some ⟨[.snp 4 (.int .i64) [], .snp 5 (.bool) []], [], []⟩), false, []⟩ .z (.n ⟨[], [], none, false, []⟩ .z (.n ⟨[], [], (some ⟨[.snp 4 (.int .i64) [], .snp 5 (.bool) []], [], []⟩), false, []⟩ .z (.n ⟨[], [], none, false, []⟩ .z (.n ⟨[], [], (some ⟨[.snp 4 (.int .i64) [], .snp 5 (.bool) []], [], []⟩), false, []⟩ .z (.n ⟨[], [], none, false, []⟩ .z (.n ⟨[], [], (some ⟨[.snp 4 (.int .i64) [], .snp 5 (.bool) []], [], []⟩), false, []⟩ .z .z)))))))))) (.n ⟨[], [], none, false, []⟩ .z (.n ⟨[], [], none, false, []⟩ (.n ⟨[], [], none, false, []⟩ .z (.n ⟨[], [], (some ⟨[.snp 4 (.int .i64) [], .snp 12 (.bool) []], [], []⟩), false, []⟩ .z (.n ⟨[], [], none, false, []⟩ .z (.n ⟨[], [], (some ⟨[.snp 4 (.int .i64) [], .snp 12 (.bool) []], [], []⟩), false, []⟩ .z (.n ⟨[], [], none, false, []⟩ .z (.n ⟨[], [], (some ⟨[.snp 4 (.int .i64) [], .snp 12 (.bool) []], [], []⟩), false, []⟩ .z .z)))))) .z))) .z)) .z))
noncomputable def E133 : Env := ⟨tab, [], 1, 23⟩
theorem d133 : (fun (x : HL (pts C133.ps)) => den E133 (Tryd.f133.body.getD .skip) H133 (initS 23 C133.ps x) (retK tab [] C133.ps C133.rs [.tmp 2, .tmp 3]) (fun _ _ => none) (retK tab [] C133.ps C133.rs [.tmp 2, .tmp 3])) = C133.F := by kernel_rfl
theorem c133 : Cok Tryd.prog C133 := by
  exact cok_of_den (E := E133) (fn := Tryd.f133) (code := Tryd.f133.body.getD .skip) (hn := H133) (gr := []) (is := [.tmp 2, .tmp 3]) ⟨tabOk, (fun c hc => by cases hc), mixOk⟩ ⟨by kernel_rfl, by kernel_rfl, by kernel_rfl, by kernel_rfl, by kernel_rfl, by decide, by kernel_rfl⟩ (fun x y h => (congrFun d133 x).trans h)

/-- spec.l04Named -/
noncomputable def C134 : Cal := ⟨134, [⟨.ro, .int .i64⟩], [⟨.bool, .ro⟩], fun x => spec_l04Named x.1⟩
def H134 : Hn := (.n ⟨[], [], none, false, []⟩ .z (.n ⟨[], [], none, false, []⟩ (.n ⟨[], [], none, false, []⟩ .z (.n ⟨[], [], none, false, []⟩ (.n ⟨[], [], none, false, []⟩ (.n ⟨[], [], none, false, []⟩ .z (.n ⟨[], [], (some ⟨[.snp 4 (.bool) []], [], []⟩), false, []⟩ .z (.n ⟨[], [], none, false, []⟩ .z (.n ⟨[], [], (some ⟨[.snp 4 (.bool) []], [], []⟩), false, []⟩ .z (.n ⟨[], [], none, false, []⟩ .z (.n ⟨[], [], (some ⟨[.snp 4 (.bool) []], [], []⟩), false, []⟩ .z (.n ⟨[], [], none, false, []⟩ .z (.n ⟨[], [], (some ⟨[.snp 4 (.bool) []], [], []⟩), false, []⟩ .z (.n ⟨[], [], none, false, []⟩ .z (.n ⟨[], [], (some ⟨[.snp 4 (.bool) []], [], []⟩), false, []⟩ .z (.n ⟨[], [], none, false, []⟩ .z (.n ⟨[], [], (some ⟨[.snp 4 (.bool) []], [], []⟩), false, []⟩ .z (.n ⟨[], [], none, false, []⟩ .z (.n ⟨[], [], (some ⟨[.snp 4 (.bool) []], [], []⟩), false, []⟩ .z (.n ⟨[], [], none, false, []⟩ .z (.n ⟨[], [], (some ⟨[.snp 4 (.bool) []], [], []⟩), false, []⟩ .z .z)))))))))))))))) .z) .z)) .z))
noncomputable def E134 : Env := ⟨tab, [], 1, 14⟩
theorem d134 : (fun (x : HL (pts C134.ps)) => den E134 (Tryd.f134.body.getD .skip) H134 (initS 14 C134.ps x) (retK tab [] C134.ps C134.rs [.tmp 2]) (fun _ _ => none) (retK tab [] C134.ps C134.rs [.tmp 2])) = C134.F := by kernel_rfl
theorem c134 : Cok Tryd.prog C134 := by
  exact cok_of_den (E := E134) (fn := Tryd.f134) (code := Tryd.f134.body.getD .skip) (hn := H134) (gr := []) (is := [.tmp 2]) ⟨tabOk, (fun c hc => by cases hc), mixOk⟩ ⟨by kernel_rfl, by kernel_rfl, by kernel_rfl, by kernel_rfl, by kernel_rfl, by decide, by kernel_rfl⟩ (fun x y h => (congrFun d134 x).trans h)

/-- spec.l03Letter -/
noncomputable def C108 : Cal := ⟨108, [⟨.ro, .int .u8⟩], [⟨.bool, .ro⟩], fun x => spec_l03Letter x.1⟩
def H108 : Hn := (.n ⟨[], [], none, false, []⟩ .z (.n ⟨[], [], none, false, []⟩ (.n ⟨[], [], (some ⟨[.snp 2 (.bool) []], [], []⟩), false, []⟩ .z .z) .z))
noncomputable def E108 : Env := ⟨tab, [], 1, 9⟩
theorem d108 : (fun (x : HL (pts C108.ps)) => den E108 (Tryd.f108.body.getD .skip) H108 (initS 9 C108.ps x) (retK tab [] C108.ps C108.rs [.tmp 2]) (fun _ _ => none) (retK tab [] C108.ps C108.rs [.tmp 2])) = C108.F := by kernel_rfl
theorem c108 : Cok Tryd.prog C108 := by
  exact cok_of_den (E := E108) (fn := Tryd.f108) (code := Tryd.f108.body.getD .skip) (hn := H108) (gr := []) (is := [.tmp 2]) ⟨tabOk, (fun c hc => by cases hc), mixOk⟩ ⟨by kernel_rfl, by kernel_rfl, by kernel_rfl, by kernel_rfl, by kernel_rfl, by decide, by kernel_rfl⟩ (fun x y h => (congrFun d108 x).trans h)

/-- spec.l03Keys -/
noncomputable def C130 : Cal := ⟨130, [], [⟨.list 9 (.str), .own (.ro)⟩], fun x => spec_l03Keys ⟩
def H130 : Hn := (.n ⟨[], [], none, false, []⟩ .z (.n ⟨[], [], none, false, []⟩ (.n ⟨[], [.g 0], none, false, []⟩ .z .z) .z))
noncomputable def E130 : Env := ⟨tab, [], 0, 2⟩
theorem d130 : (fun (x : HL (pts C130.ps)) => den E130 (Tryd.f130.body.getD .skip) H130 (initS 2 C130.ps x) (retK tab [] C130.ps C130.rs [.tmp 0]) (fun _ _ => none) (retK tab [] C130.ps C130.rs [.tmp 0])) = C130.F := by kernel_rfl
theorem c130 : Cok Tryd.prog C130 := by
  exact cok_of_den (E := E130) (fn := Tryd.f130) (code := Tryd.f130.body.getD .skip) (hn := H130) (gr := []) (is := [.tmp 0]) ⟨tabOk, (fun c hc => by cases hc), mixOk⟩ ⟨by kernel_rfl, by kernel_rfl, by kernel_rfl, by kernel_rfl, by kernel_rfl, by decide, by kernel_rfl⟩ (fun x y h => (congrFun d130 x).trans h)

/-- spec.KeyWord -/
noncomputable def C109 : Cal := ⟨109, [⟨.ro, .str⟩], [⟨.bool, .ro⟩], fun x => spec_KeyWord x.1⟩
def H109 : Hn := (.n ⟨[], [], none, false, []⟩ .z (.n ⟨[], [], none, false, []⟩ (.n ⟨[], [.g 3], none, false, []⟩ .z .z) (.n ⟨[], [], none, false, []⟩ (.n ⟨[], [], none, false, []⟩ .z (.n ⟨[], [], (some ⟨[], [], []⟩), true, []⟩ (.n ⟨[], [], (some ⟨[.snp 0 (.str) [], .dat 3 (.list 9 (.str)) (.own (.ro)), .snp 4 (.int .i64) []], [], []⟩), false, []⟩ .z .z) .z)) .z)))
noncomputable def E109 : Env := ⟨tab, [C130], 1, 18⟩
theorem d109 : (fun (x : HL (pts C109.ps)) => den E109 (Tryd.f109.body.getD .skip) H109 (initS 18 C109.ps x) (retK tab [] C109.ps C109.rs [.tmp 2]) (fun _ _ => none) (retK tab [] C109.ps C109.rs [.tmp 2])) = C109.F := by kernel_rfl
theorem c109 : Cok Tryd.prog C109 := by
  have h130 := c130
  exact cok_of_den (E := E109) (fn := Tryd.f109) (code := Tryd.f109.body.getD .skip) (hn := H109) (gr := []) (is := [.tmp 2]) ⟨tabOk, (fun c hc => by simp only [E109, List.mem_cons, List.not_mem_nil, or_false] at hc; rcases hc with rfl <;> assumption), mixOk⟩ ⟨by kernel_rfl, by kernel_rfl, by kernel_rfl, by kernel_rfl, by kernel_rfl, by decide, by kernel_rfl⟩ (fun x y h => (congrFun d109 x).trans h)

/-- spec.l03Figure -/
noncomputable def C110 : Cal := ⟨110, [⟨.ro, .int .u8⟩], [⟨.bool, .ro⟩], fun x => spec_l03Figure x.1⟩
def H110 : Hn := (.n ⟨[], [], none, false, []⟩ .z (.n ⟨[], [], none, false, []⟩ (.n ⟨[], [], (some ⟨[.snp 2 (.bool) []], [], []⟩), false, []⟩ .z .z) .z))
noncomputable def E110 : Env := ⟨tab, [], 1, 9⟩
theorem d110 : (fun (x : HL (pts C110.ps)) => den E110 (Tryd.f110.body.getD .skip) H110 (initS 9 C110.ps x) (retK tab [] C110.ps C110.rs [.tmp 2]) (fun _ _ => none) (retK tab [] C110.ps C110.rs [.tmp 2])) = C110.F := by kernel_rfl
theorem c110 : Cok Tryd.prog C110 := by
  exact cok_of_den (E := E110) (fn := Tryd.f110) (code := Tryd.f110.body.getD .skip) (hn := H110) (gr := []) (is := [.tmp 2]) ⟨tabOk, (fun c hc => by cases hc), mixOk⟩ ⟨by kernel_rfl, by kernel_rfl, by kernel_rfl, by kernel_rfl, by kernel_rfl, by decide, by kernel_rfl⟩ (fun x y h => (congrFun d110 x).trans h)

/-- spec.NameOk -/
noncomputable def C83 : Cal := ⟨83, [⟨.ro, .str⟩], [⟨.bool, .ro⟩], fun x => spec_NameOk x.1⟩
def H83 : Hn := (.n ⟨[], [], none, false, []⟩ .z (.n ⟨[], [], none, false, []⟩ (.n ⟨[], [], none, false, []⟩ (.n ⟨[], [], (some ⟨[.snp 0 (.str) [], .snp 17 (.bool) []], [], []⟩), false, []⟩ .z .z) .z) (.n ⟨[], [], none, false, []⟩ (.n ⟨[], [], none, false, []⟩ .z (.n ⟨[], [], (some ⟨[], [], []⟩), true, []⟩ (.n ⟨[], [], (some ⟨[.snp 0 (.str) [], .snp 3 (.int .i64) []], [], []⟩), false, []⟩ (.n ⟨[], [], none, false, []⟩ .z (.n ⟨[], [], none, false, []⟩ (.n ⟨[], [], none, false, []⟩ (.n ⟨[], [], none, false, []⟩ (.n ⟨[], [], (some ⟨[.snp 0 (.str) [], .snp 3 (.int .i64) [], .snp 35 (.bool) []], [], []⟩), false, []⟩ .z .z) .z) .z) .z)) .z) .z)) .z)))
noncomputable def E83 : Env := ⟨tab, [C33, C108, C109, C110], 1, 36⟩
theorem d83 : (fun (x : HL (pts C83.ps)) => den E83 (Tryd.f83.body.getD .skip) H83 (initS 36 C83.ps x) (retK tab [] C83.ps C83.rs [.tmp 2]) (fun _ _ => none) (retK tab [] C83.ps C83.rs [.tmp 2])) = C83.F := by kernel_rfl
theorem c83 : Cok Tryd.prog C83 := by
  have h33 := c33
  have h108 := c108
  have h109 := c109
  have h110 := c110
  exact cok_of_den (E := E83) (fn := Tryd.f83) (code := Tryd.f83.body.getD .skip) (hn := H83) (gr := []) (is := [.tmp 2]) ⟨tabOk, (fun c hc => by simp only [E83, List.mem_cons, List.not_mem_nil, or_false] at hc; rcases hc with rfl | rfl | rfl | rfl <;> assumption), mixOk⟩ ⟨by kernel_rfl, by kernel_rfl, by kernel_rfl, by kernel_rfl, by kernel_rfl, by decide, by kernel_rfl⟩ (fun x y h => (congrFun d83 x).trans h)

/-- spec.l04Statement -/
noncomputable def C151 : Cal := ⟨151, [⟨.ro, .int .i64⟩], [⟨.bool, .ro⟩], fun x => spec_l04Statement x.1⟩
def H151 : Hn := .z
noncomputable def E151 : Env := ⟨tab, [C33], 1, 5⟩
theorem d151 : (fun (x : HL (pts C151.ps)) => den E151 (Tryd.f151.body.getD .skip) H151 (initS 5 C151.ps x) (retK tab [] C151.ps C151.rs [.tmp 2]) (fun _ _ => none) (retK tab [] C151.ps C151.rs [.tmp 2])) = C151.F := by kernel_rfl
theorem c151 : Cok Tryd.prog C151 := by
  have h33 := c33
  exact cok_of_den (E := E151) (fn := Tryd.f151) (code := Tryd.f151.body.getD .skip) (hn := H151) (gr := []) (is := [.tmp 2]) ⟨tabOk, (fun c hc => by simp only [E151, List.mem_cons, List.not_mem_nil, or_false] at hc; rcases hc with rfl <;> assumption), mixOk⟩ ⟨by kernel_rfl, by kernel_rfl, by kernel_rfl, by kernel_rfl, by kernel_rfl, by decide, by kernel_rfl⟩ (fun x y h => (congrFun d151 x).trans h)

/-- spec.l04Value -/
noncomputable def C152 : Cal := ⟨152, [⟨.ro, .int .i64⟩], [⟨.bool, .ro⟩], fun x => spec_l04Value x.1⟩
def H152 : Hn := .z
noncomputable def E152 : Env := ⟨tab, [C33], 1, 5⟩
theorem d152 : (fun (x : HL (pts C152.ps)) => den E152 (Tryd.f152.body.getD .skip) H152 (initS 5 C152.ps x) (retK tab [] C152.ps C152.rs [.tmp 2]) (fun _ _ => none) (retK tab [] C152.ps C152.rs [.tmp 2])) = C152.F := by kernel_rfl
theorem c152 : Cok Tryd.prog C152 := by
  have h33 := c33
  exact cok_of_den (E := E152) (fn := Tryd.f152) (code := Tryd.f152.body.getD .skip) (hn := H152) (gr := []) (is := [.tmp 2]) ⟨tabOk, (fun c hc => by simp only [E152, List.mem_cons, List.not_mem_nil, or_false] at hc; rcases hc with rfl <;> assumption), mixOk⟩ ⟨by kernel_rfl, by kernel_rfl, by kernel_rfl, by kernel_rfl, by kernel_rfl, by decide, by kernel_rfl⟩ (fun x y h => (congrFun d152 x).trans h)

/-- spec.l04Fits -/
noncomputable def C135 : Cal := ⟨135, [⟨.ro, .int .i64⟩, ⟨.ro, .int .i64⟩, ⟨.ro, .int .i64⟩], [⟨.bool, .ro⟩], fun x => spec_l04Fits x.1 x.2.1 x.2.2.1⟩
def H135 : Hn := (.n ⟨[], [], none, false, []⟩ .z (.n ⟨[], [], none, false, []⟩ (.n ⟨[], [], none, false, []⟩ .z (.n ⟨[], [], none, false, []⟩ (.n ⟨[], [], none, false, []⟩ .z (.n ⟨[], [], none, false, []⟩ .z (.n ⟨[], [], none, false, []⟩ (.n ⟨[], [], none, false, []⟩ .z (.n ⟨[], [], (some ⟨[.snp 1 (.int .i64) [], .snp 2 (.int .i64) [], .snp 7 (.int .i64) [], .snp 12 (.bool) []], [], []⟩), false, []⟩ .z .z)) (.n ⟨[], [], (some ⟨[.snp 2 (.int .i64) []], [], []⟩), true, []⟩ .z .z)))) .z)) .z))
noncomputable def E135 : Env := ⟨tab, [C151, C152], 3, 25⟩
theorem d135 : (fun (x : HL (pts C135.ps)) => den E135 (Tryd.f135.body.getD .skip) H135 (initS 25 C135.ps x) (retK tab [] C135.ps C135.rs [.tmp 6]) (fun _ _ => none) (retK tab [] C135.ps C135.rs [.tmp 6])) = C135.F := by kernel_rfl
theorem c135 : Cok Tryd.prog C135 := by
  have h151 := c151
  have h152 := c152
  exact cok_of_den (E := E135) (fn := Tryd.f135) (code := Tryd.f135.body.getD .skip) (hn := H135) (gr := []) (is := [.tmp 6]) ⟨tabOk, (fun c hc => by simp only [E135, List.mem_cons, List.not_mem_nil, or_false] at hc; rcases hc with rfl | rfl <;> assumption), mixOk⟩ ⟨by kernel_rfl, by kernel_rfl, by kernel_rfl, by kernel_rfl, by kernel_rfl, by decide, by kernel_rfl⟩ (fun x y h => (congrFun d135 x).trans h)

/-- spec.NodeOk -/
noncomputable def C118 : Cal := ⟨118, [⟨.ro, .list 83 (.pair (.int .i64) (.pair (.int .i64) (.pair (.str) (.list 3 (.int .i64)))))⟩, ⟨.ro, .int .i64⟩], [⟨.bool, .ro⟩], fun x => spec_NodeOk x.1 x.2.1⟩
def H118 : Hn := (.n ⟨[], [], none, false, []⟩ .z (.n ⟨[], [], none, false, []⟩ (.n ⟨[], [], none, false, []⟩ (.n ⟨[], [], (some ⟨[.snp 0 (.list 83 (.pair (.int .i64) (.pair (.int .i64) (.pair (.str) (.list 3 (.int .i64)))))) [], .snp 1 (.int .i64) [], .snp 24 (.bool) []], [], []⟩), false, []⟩ .z .z) .z) (.n ⟨[], [], none, false, []⟩ (.n ⟨[], [], none, false, [(4, ⟨[], .pr (.ro) (.pr (.ro) (.pr (.ro) (.own (.ro)))), [], [], none⟩), (5, ⟨[], .pr (.ro) (.pr (.ro) (.pr (.ro) (.own (.ro)))), [], [], none⟩)]⟩ .z .z) (.n ⟨[], [], none, false, []⟩ .z (.n ⟨[], [], none, false, []⟩ (.n ⟨[], [], none, false, []⟩ (.n ⟨[], [], (some ⟨[.snp 0 (.list 83 (.pair (.int .i64) (.pair (.int .i64) (.pair (.str) (.list 3 (.int .i64)))))) [], .snp 1 (.int .i64) [], .snp 57 (.bool) [], .box 5 true (.pair (.int .i64) (.pair (.int .i64) (.pair (.str) (.list 3 (.int .i64))))) (.ro)], [(5, ⟨11, []⟩)], []⟩), false, []⟩ .z .z) .z) (.n ⟨[], [], none, false, []⟩ (.n ⟨[], [], none, false, []⟩ (.n ⟨[], [], (some ⟨[.snp 0 (.list 83 (.pair (.int .i64) (.pair (.int .i64) (.pair (.str) (.list 3 (.int .i64)))))) [], .snp 1 (.int .i64) [], .snp 75 (.bool) [], .box 5 true (.pair (.int .i64) (.pair (.int .i64) (.pair (.str) (.list 3 (.int .i64))))) (.ro)], [(5, ⟨11, []⟩)], []⟩), false, [(0, ⟨[], .ro, [58], [], none⟩), (1, ⟨[], .ro, [59], [], none⟩), (2, ⟨[], .ro, [60], [], none⟩), (3, ⟨[], .ro, [61], [], none⟩), (4, ⟨[], .ro, [62], [], none⟩), (5, ⟨[], .ro, [63], [], none⟩), (6, ⟨[], .ro, [64], [], none⟩), (7, ⟨[], .ro, [65], [], none⟩), (8, ⟨[], .ro, [66], [], none⟩), (9, ⟨[], .ro, [67], [], none⟩), (10, ⟨[], .ro, [68], [], none⟩), (11, ⟨[], .ro, [69], [], none⟩), (12, ⟨[], .ro, [70], [], none⟩), (13, ⟨[], .ro, [71], [], none⟩), (14, ⟨[], .ro, [72], [], none⟩), (15, ⟨[], .ro, [73], [], none⟩), (16, ⟨[], .ro, [74], [], none⟩), (17, ⟨[], .ro, [75], [], none⟩)]⟩ .z .z) .z) (.n ⟨[], [], none, false, []⟩ (.n ⟨[], [], none, false, []⟩ .z (.n ⟨[], [], (some ⟨[], [], []⟩), true, []⟩ (.n ⟨[], [], (some ⟨[.snp 0 (.list 83 (.pair (.int .i64) (.pair (.int .i64) (.pair (.str) (.list 3 (.int .i64)))))) [], .snp 1 (.int .i64) [], .snp 8 (.int .i64) [], .box 5 true (.pair (.int .i64) (.pair (.int .i64) (.pair (.str) (.list 3 (.int .i64))))) (.ro)], [(5, ⟨11, []⟩)], []⟩), false, []⟩ (.n ⟨[], [], none, false, []⟩ .z (.n ⟨[], [], none, false, []⟩ (.n ⟨[], [], (some ⟨[.snp 0 (.list 83 (.pair (.int .i64) (.pair (.int .i64) (.pair (.str) (.list 3 (.int .i64)))))) [], .snp 1 (.int .i64) [], .snp 8 (.int .i64) [], .box 5 true (.pair (.int .i64) (.pair (.int .i64) (.pair (.str) (.list 3 (.int .i64))))) (.ro)], [(5, ⟨11, []⟩)], []⟩), true, []⟩ (.n ⟨[], [], none, false, []⟩ (.n ⟨[], [], none, false, []⟩ (.n ⟨[], [], (some ⟨[.snp 0 (.list 83 (.pair (.int .i64) (.pair (.int .i64) (.pair (.str) (.list 3 (.int .i64)))))) [], .snp 1 (.int .i64) [], .snp 8 (.int .i64) [], .snp 107 (.bool) [], .box 5 true (.pair (.int .i64) (.pair (.int .i64) (.pair (.str) (.list 3 (.int .i64))))) (.ro)], [(5, ⟨11, []⟩)], []⟩), false, [(0, ⟨[], .ro, [83], [], none⟩), (1, ⟨[], .ro, [84], [], none⟩), (2, ⟨[], .ro, [85], [], none⟩), (3, ⟨[], .ro, [86], [], none⟩), (4, ⟨[], .ro, [87], [], none⟩), (5, ⟨[], .ro, [88], [], none⟩), (6, ⟨[], .ro, [89], [], none⟩), (7, ⟨[], .ro, [90], [], none⟩), (8, ⟨[], .ro, [91], [], none⟩), (9, ⟨[], .ro, [92], [], none⟩), (10, ⟨[], .ro, [93], [], none⟩), (11, ⟨[], .ro, [94], [], none⟩), (12, ⟨[], .ro, [95], [], none⟩), (13, ⟨[], .ro, [96], [], none⟩), (14, ⟨[], .ro, [97], [], none⟩), (15, ⟨[], .ro, [98], [], none⟩), (16, ⟨[], .ro, [99], [], none⟩), (17, ⟨[], .ro, [100], [], none⟩), (18, ⟨[], .ro, [101], [], none⟩), (19, ⟨[], .ro, [102], [], none⟩), (20, ⟨[], .ro, [103], [], none⟩), (21, ⟨[], .ro, [104], [], none⟩), (22, ⟨[], .ro, [105], [], none⟩), (23, ⟨[], .ro, [106], [], none⟩), (24, ⟨[], .ro, [107], [], none⟩)]⟩ .z .z) .z) (.n ⟨[], [], none, false, []⟩ .z (.n ⟨[], [], (some ⟨[.snp 0 (.list 83 (.pair (.int .i64) (.pair (.int .i64) (.pair (.str) (.list 3 (.int .i64)))))) [], .snp 1 (.int .i64) [], .snp 8 (.int .i64) [], .box 5 true (.pair (.int .i64) (.pair (.int .i64) (.pair (.str) (.list 3 (.int .i64))))) (.ro)], [(5, ⟨11, []⟩)], []⟩), true, []⟩ (.n ⟨[], [], (some ⟨[.snp 0 (.list 83 (.pair (.int .i64) (.pair (.int .i64) (.pair (.str) (.list 3 (.int .i64)))))) [], .snp 1 (.int .i64) [], .snp 8 (.int .i64) [], .snp 9 (.int .i64) [], .box 5 true (.pair (.int .i64) (.pair (.int .i64) (.pair (.str) (.list 3 (.int .i64))))) (.ro)], [(5, ⟨11, []⟩)], []⟩), false, []⟩ (.n ⟨[], [], none, false, []⟩ .z (.n ⟨[], [], none, false, []⟩ (.n ⟨[], [], none, false, []⟩ (.n ⟨[], [], none, false, []⟩ (.n ⟨[], [], none, false, [(0, ⟨[], .ro, [113], [], none⟩), (1, ⟨[], .ro, [114], [], none⟩), (2, ⟨[], .ro, [115], [], none⟩), (3, ⟨[], .ro, [116], [], none⟩), (4, ⟨[], .ro, [117], [], none⟩), (5, ⟨[], .ro, [118], [], none⟩), (6, ⟨[], .ro, [119], [], none⟩), (7, ⟨[], .ro, [120], [], none⟩), (8, ⟨[], .ro, [121], [], none⟩), (9, ⟨[], .ro, [122], [], none⟩), (10, ⟨[], .ro, [123], [], none⟩)]⟩ .z .z) .z) .z) .z)) .z) .z))) .z) .z)) .z) .z)) .z)))))))
noncomputable def E118 : Env := ⟨tab, [C33, C133, C134, C83, C135], 2, 124⟩
theorem d118 : (fun (x : HL (pts C118.ps)) => den E118 (Tryd.f118.body.getD .skip) H118 (initS 124 C118.ps x) (retK tab [] C118.ps C118.rs [.tmp 4]) (fun _ _ => none) (retK tab [] C118.ps C118.rs [.tmp 4])) = C118.F := by kernel_rfl
theorem c118 : Cok Tryd.prog C118 := by
  have h33 := c33
  have h133 := c133
  have h134 := c134
  have h83 := c83
  have h135 := c135
  exact cok_of_den (E := E118) (fn := Tryd.f118) (code := Tryd.f118.body.getD .skip) (hn := H118) (gr := []) (is := [.tmp 4]) ⟨tabOk, (fun c hc => by simp only [E118, List.mem_cons, List.not_mem_nil, or_false] at hc; rcases hc with rfl | rfl | rfl | rfl | rfl <;> assumption), mixOk⟩ ⟨by kernel_rfl, by kernel_rfl, by kernel_rfl, by kernel_rfl, by kernel_rfl, by decide, by kernel_rfl⟩ (fun x y h => (congrFun d118 x).trans h)

/-- spec.l04Deeps -/
noncomputable def C91 : Cal := ⟨91, [⟨.ro, .list 83 (.pair (.int .i64) (.pair (.int .i64) (.pair (.str) (.list 3 (.int .i64)))))⟩, ⟨.ro, .int .i64⟩], [⟨.list 3 (.int .i64), .own (.ro)⟩], fun x => spec_l04Deeps x.1 x.2.1⟩
def H91 : Hn := (.n ⟨[], [], none, false, []⟩ .z (.n ⟨[], [], none, false, []⟩ (.n ⟨[], [.g 5], none, false, []⟩ .z .z) (.n ⟨[], [], none, false, []⟩ (.n ⟨[], [], none, false, []⟩ .z (.n ⟨[], [], (some ⟨[.dat 5 (.list 3 (.int .i64)) (.own (.ro))], [], []⟩), false, []⟩ (.n ⟨[], [], (some ⟨[.snp 0 (.list 83 (.pair (.int .i64) (.pair (.int .i64) (.pair (.str) (.list 3 (.int .i64)))))) [], .snp 1 (.int .i64) [], .dat 5 (.list 3 (.int .i64)) (.own (.ro)), .snp 6 (.int .i64) []], [], []⟩), false, []⟩ (.n ⟨[], [], none, false, []⟩ (.n ⟨[], [], none, false, []⟩ (.n ⟨[], [], (some ⟨[.snp 0 (.list 83 (.pair (.int .i64) (.pair (.int .i64) (.pair (.str) (.list 3 (.int .i64)))))) [], .snp 1 (.int .i64) [], .dat 5 (.list 3 (.int .i64)) (.own (.ro)), .snp 6 (.int .i64) [], .snp 18 (.bool) []], [], []⟩), false, []⟩ .z .z) .z) (.n ⟨[], [], none, false, []⟩ (.n ⟨[], [], (some ⟨[.snp 0 (.list 83 (.pair (.int .i64) (.pair (.int .i64) (.pair (.str) (.list 3 (.int .i64)))))) [], .snp 1 (.int .i64) [], .dat 5 (.list 3 (.int .i64)) (.own (.ro)), .snp 6 (.int .i64) []], [], []⟩), false, []⟩ (.n ⟨[], [], none, false, []⟩ .z (.n ⟨[], [], none, false, []⟩ (.n ⟨[], [], none, false, []⟩ (.n ⟨[], [], (some ⟨[.snp 0 (.list 83 (.pair (.int .i64) (.pair (.int .i64) (.pair (.str) (.list 3 (.int .i64)))))) [], .snp 1 (.int .i64) [], .dat 5 (.list 3 (.int .i64)) (.own (.ro)), .snp 6 (.int .i64) [], .snp 7 (.int .i64) [], .snp 36 (.bool) []], [], []⟩), false, []⟩ .z .z) (.n ⟨[], [], (some ⟨[.snp 0 (.list 83 (.pair (.int .i64) (.pair (.int .i64) (.pair (.str) (.list 3 (.int .i64)))))) [], .snp 1 (.int .i64) [], .dat 5 (.list 3 (.int .i64)) (.own (.ro)), .snp 6 (.int .i64) [], .snp 7 (.int .i64) []], [], []⟩), false, []⟩ .z .z)) (.n ⟨[], [], none, false, []⟩ (.n ⟨[], [], none, false, []⟩ .z (.n ⟨[], [], (some ⟨[.snp 0 (.list 83 (.pair (.int .i64) (.pair (.int .i64) (.pair (.str) (.list 3 (.int .i64)))))) [], .snp 1 (.int .i64) [], .dat 5 (.list 3 (.int .i64)) (.own (.ro)), .snp 6 (.int .i64) [], .snp 7 (.int .i64) []], [], []⟩), false, []⟩ (.n ⟨[], [], (some ⟨[.snp 0 (.list 83 (.pair (.int .i64) (.pair (.int .i64) (.pair (.str) (.list 3 (.int .i64)))))) [], .snp 1 (.int .i64) [], .dat 5 (.list 3 (.int .i64)) (.own (.ro)), .snp 6 (.int .i64) [], .snp 7 (.int .i64) [], .snp 8 (.int .i64) []], [], []⟩), false, []⟩ (.n ⟨[], [], none, false, []⟩ (.n ⟨[], [], none, false, []⟩ (.n ⟨[], [], (some ⟨[.snp 0 (.list 83 (.pair (.int .i64) (.pair (.int .i64) (.pair (.str) (.list 3 (.int .i64)))))) [], .snp 1 (.int .i64) [], .dat 5 (.list 3 (.int .i64)) (.own (.ro)), .snp 6 (.int .i64) [], .snp 7 (.int .i64) [], .snp 8 (.int .i64) [], .snp 48 (.bool) []], [], []⟩), false, []⟩ .z .z) .z) (.n ⟨[], [], none, false, []⟩ (.n ⟨[], [], none, false, []⟩ (.n ⟨[], [], none, false, []⟩ .z (.n ⟨[], [], (some ⟨[.snp 0 (.list 83 (.pair (.int .i64) (.pair (.int .i64) (.pair (.str) (.list 3 (.int .i64)))))) [], .snp 1 (.int .i64) [], .dat 5 (.list 3 (.int .i64)) (.own (.ro)), .snp 6 (.int .i64) [], .snp 7 (.int .i64) [], .snp 8 (.int .i64) []], [], []⟩), false, []⟩ .z .z)) .z) .z)) .z) .z)) (.n ⟨[], [], none, false, []⟩ (.n ⟨[], [], none, false, []⟩ .z (.n ⟨[], [], (some ⟨[.snp 0 (.list 83 (.pair (.int .i64) (.pair (.int .i64) (.pair (.str) (.list 3 (.int .i64)))))) [], .snp 1 (.int .i64) [], .dat 5 (.list 3 (.int .i64)) (.own (.ro)), .snp 6 (.int .i64) [], .snp 7 (.int .i64) []], [], []⟩), false, []⟩ .z .z)) (.n ⟨[], [.g 5], none, false, [(3, ⟨[.g 79], .ro, [], [], none⟩)]⟩ .z .z))))) .z) .z)) .z) .z)) (.n ⟨[], [], none, false, []⟩ (.n ⟨[], [.g 4], none, false, []⟩ .z .z) .z))))
noncomputable def E91 : Env := ⟨tab, [C118], 2, 84⟩
theorem d91 : (fun (x : HL (pts C91.ps)) => den E91 (Tryd.f91.body.getD .skip) H91 (initS 84 C91.ps x) (retK tab [] C91.ps C91.rs [.tmp 4]) (fun _ _ => none) (retK tab [] C91.ps C91.rs [.tmp 4])) = C91.F := by kernel_rfl
theorem c91 : Cok Tryd.prog C91 := by
  have h118 := c118
  exact cok_of_den (E := E91) (fn := Tryd.f91) (code := Tryd.f91.body.getD .skip) (hn := H91) (gr := []) (is := [.tmp 4]) ⟨tabOk, (fun c hc => by simp only [E91, List.mem_cons, List.not_mem_nil, or_false] at hc; rcases hc with rfl <;> assumption), mixOk⟩ ⟨by kernel_rfl, by kernel_rfl, by kernel_rfl, by kernel_rfl, by kernel_rfl, by decide, by kernel_rfl⟩ (fun x y h => (congrFun d91 x).trans h)

/-- spec.DeepOf -/
noncomputable def C64 : Cal := ⟨64, [⟨.ro, .list 83 (.pair (.int .i64) (.pair (.int .i64) (.pair (.str) (.list 3 (.int .i64)))))⟩, ⟨.ro, .int .i64⟩], [⟨.int .i64, .ro⟩], fun x => spec_DeepOf x.1 x.2.1⟩
def H64 : Hn := .z
noncomputable def E64 : Env := ⟨tab, [C33, C91], 2, 17⟩
theorem d64 : (fun (x : HL (pts C64.ps)) => den E64 (Tryd.f64.body.getD .skip) H64 (initS 17 C64.ps x) (retK tab [] C64.ps C64.rs [.tmp 4]) (fun _ _ => none) (retK tab [] C64.ps C64.rs [.tmp 4])) = C64.F := by kernel_rfl
theorem c64 : Cok Tryd.prog C64 := by
  have h33 := c33
  have h91 := c91
  exact cok_of_den (E := E64) (fn := Tryd.f64) (code := Tryd.f64.body.getD .skip) (hn := H64) (gr := []) (is := [.tmp 4]) ⟨tabOk, (fun c hc => by simp only [E64, List.mem_cons, List.not_mem_nil, or_false] at hc; rcases hc with rfl | rfl <;> assumption), mixOk⟩ ⟨by kernel_rfl, by kernel_rfl, by kernel_rfl, by kernel_rfl, by kernel_rfl, by decide, by kernel_rfl⟩ (fun x y h => (congrFun d64 x).trans h)

/-- spec.l05Same -/
def P92 : List Prm := [⟨.ro, .list 83 (.pair (.int .i64) (.pair (.int .i64) (.pair (.str) (.list 3 (.int .i64)))))⟩, ⟨.ro, .int .i64⟩, ⟨.ro, .list 83 (.pair (.int .i64) (.pair (.int .i64) (.pair (.str) (.list 3 (.int .i64)))))⟩, ⟨.ro, .int .i64⟩]
def Q92 : List Ret := [⟨.bool, .ro⟩]
noncomputable def N92 (n : Nat) : Cal := ⟨92, P92, Q92, fun x => (R_spec_l05Same n).1 x.1 x.2.1 x.2.2.1 x.2.2.2.1⟩
def H92 : Hn := (.n ⟨[], [], none, false, []⟩ .z (.n ⟨[], [], none, false, []⟩ (.n ⟨[], [], none, false, [(4, ⟨[], .pr (.ro) (.pr (.ro) (.pr (.ro) (.own (.ro)))), [], [], none⟩), (5, ⟨[], .pr (.ro) (.pr (.ro) (.pr (.ro) (.own (.ro)))), [], [], none⟩)]⟩ .z .z) (.n ⟨[], [], none, false, []⟩ (.n ⟨[], [], none, false, [(4, ⟨[], .pr (.ro) (.pr (.ro) (.pr (.ro) (.own (.ro)))), [], [], none⟩), (5, ⟨[], .pr (.ro) (.pr (.ro) (.pr (.ro) (.own (.ro)))), [], [], none⟩)]⟩ .z .z) (.n ⟨[], [], none, false, []⟩ (.n ⟨[], [], none, false, []⟩ (.n ⟨[], [], (some ⟨[.snp 0 (.list 83 (.pair (.int .i64) (.pair (.int .i64) (.pair (.str) (.list 3 (.int .i64)))))) [], .snp 2 (.list 83 (.pair (.int .i64) (.pair (.int .i64) (.pair (.str) (.list 3 (.int .i64)))))) [], .snp 47 (.bool) [], .box 9 true (.pair (.int .i64) (.pair (.int .i64) (.pair (.str) (.list 3 (.int .i64))))) (.ro), .box 10 true (.pair (.int .i64) (.pair (.int .i64) (.pair (.str) (.list 3 (.int .i64))))) (.ro)], [(9, ⟨19, []⟩), (10, ⟨21, []⟩)], []⟩), false, []⟩ .z .z) .z) (.n ⟨[], [], none, false, []⟩ (.n ⟨[], [], none, false, []⟩ .z (.n ⟨[], [], (some ⟨[], [], []⟩), true, []⟩ (.n ⟨[], [], (some ⟨[.snp 0 (.list 83 (.pair (.int .i64) (.pair (.int .i64) (.pair (.str) (.list 3 (.int .i64)))))) [], .snp 2 (.list 83 (.pair (.int .i64) (.pair (.int .i64) (.pair (.str) (.list 3 (.int .i64)))))) [], .snp 11 (.int .i64) [], .box 9 true (.pair (.int .i64) (.pair (.int .i64) (.pair (.str) (.list 3 (.int .i64))))) (.ro), .box 10 true (.pair (.int .i64) (.pair (.int .i64) (.pair (.str) (.list 3 (.int .i64))))) (.ro)], [(9, ⟨19, []⟩), (10, ⟨21, []⟩)], []⟩), false, []⟩ (.n ⟨[], [], none, false, []⟩ .z (.n ⟨[], [], none, false, []⟩ (.n ⟨[], [], none, false, []⟩ (.n ⟨[], [], none, false, []⟩ (.n ⟨[], [], none, false, [(0, ⟨[], .ro, [55], [], none⟩), (1, ⟨[], .ro, [56], [], none⟩), (2, ⟨[], .ro, [57], [], none⟩), (3, ⟨[], .ro, [58], [], none⟩), (4, ⟨[], .ro, [59], [], none⟩), (5, ⟨[], .ro, [60], [], none⟩), (6, ⟨[], .ro, [61], [], none⟩), (7, ⟨[], .ro, [62], [], none⟩), (8, ⟨[], .ro, [63], [], none⟩), (9, ⟨[], .ro, [64], [], none⟩), (10, ⟨[], .ro, [65], [], none⟩), (11, ⟨[], .ro, [66], [], none⟩), (12, ⟨[], .ro, [67], [], none⟩), (13, ⟨[], .ro, [68], [], none⟩)]⟩ .z .z) .z) .z) .z)) .z) .z)) .z)))))
noncomputable def E92 (n : Nat) : Env := ⟨tab, [N92 n], 4, 69⟩
theorem d92 : (fun (n : Nat) (x : HL (pts P92)) => den (E92 n) (Tryd.f92.body.getD .skip) H92 (initS 69 P92 x) (retK tab [] P92 Q92 [.tmp 8]) (fun _ _ => none) (retK tab [] P92 Q92 [.tmp 8])) = fun n => (N92 (n + 1)).F := by kernel_rfl
theorem cN92 : ∀ n, Cok Tryd.prog (N92 n) := by
  intro n
  induction n with
  | zero => exact cok_none (fn := Tryd.f92) (by kernel_rfl) (by kernel_rfl) (by kernel_rfl) (fun _ => rfl)
  | succ n ih =>
    have h92 := ih
    refine ?_
    · exact cok_of_den (E := E92 n) (c := N92 (n + 1)) (fn := Tryd.f92) (code := Tryd.f92.body.getD .skip) (hn := H92) (gr := []) (is := [.tmp 8]) ⟨tabOk, (fun c hc => by simp only [E92, List.mem_cons, List.not_mem_nil, or_false] at hc; rcases hc with rfl <;> assumption), mixOk⟩ ⟨by kernel_rfl, by kernel_rfl, by kernel_rfl, by kernel_rfl, by kernel_rfl, Nat.le_of_ble_eq_true rfl, by kernel_rfl⟩ (fun x y h => (congrFun (congrFun d92 n) x).trans h)
noncomputable def C92 : Cal := ⟨92, P92, Q92, fun x => spec_l05Same x.1 x.2.1 x.2.2.1 x.2.2.2.1⟩
theorem c92 : Cok Tryd.prog C92 := cok_lim (F := fun n => (N92 n).F) (fun n => (cN92 n))

/-- spec.SameTree -/
noncomputable def C65 : Cal := ⟨65, [⟨.ro, .pair (.list 83 (.pair (.int .i64) (.pair (.int .i64) (.pair (.str) (.list 3 (.int .i64)))))) (.list 90 (.pair (.str) (.pair (.list 124 (.pair (.str) (.int .i64))) (.pair (.int .i64) (.pair (.int .i64) (.int .i64))))))⟩, ⟨.ro, .int .i64⟩, ⟨.ro, .pair (.list 83 (.pair (.int .i64) (.pair (.int .i64) (.pair (.str) (.list 3 (.int .i64)))))) (.list 90 (.pair (.str) (.pair (.list 124 (.pair (.str) (.int .i64))) (.pair (.int .i64) (.pair (.int .i64) (.int .i64))))))⟩, ⟨.ro, .int .i64⟩], [⟨.bool, .ro⟩], fun x => spec_SameTree x.1 x.2.1 x.2.2.1 x.2.2.2.1⟩
def H65 : Hn := (.n ⟨[], [], none, false, []⟩ (.n ⟨[], [], none, false, [(0, ⟨[], .pr (.own (.pr (.ro) (.pr (.ro) (.pr (.ro) (.own (.ro)))))) (.own (.pr (.ro) (.pr (.own (.ro)) (.ro)))), [], [], none⟩), (1, ⟨[], .pr (.own (.pr (.ro) (.pr (.ro) (.pr (.ro) (.own (.ro)))))) (.own (.pr (.ro) (.pr (.own (.ro)) (.ro)))), [], [], none⟩)]⟩ .z .z) (.n ⟨[], [], none, false, []⟩ (.n ⟨[], [], (some ⟨[.snp 8 (.bool) []], [], []⟩), false, []⟩ .z .z) .z))
noncomputable def E65 : Env := ⟨tab, [C64, C92], 4, 30⟩
theorem d65 : (fun (x : HL (pts C65.ps)) => den E65 (Tryd.f65.body.getD .skip) H65 (initS 30 C65.ps x) (retK tab [] C65.ps C65.rs [.tmp 8]) (fun _ _ => none) (retK tab [] C65.ps C65.rs [.tmp 8])) = C65.F := by kernel_rfl
theorem c65 : Cok Tryd.prog C65 := by
  have h64 := c64
  have h92 := c92
  exact cok_of_den (E := E65) (fn := Tryd.f65) (code := Tryd.f65.body.getD .skip) (hn := H65) (gr := []) (is := [.tmp 8]) ⟨tabOk, (fun c hc => by simp only [E65, List.mem_cons, List.not_mem_nil, or_false] at hc; rcases hc with rfl | rfl <;> assumption), mixOk⟩ ⟨by kernel_rfl, by kernel_rfl, by kernel_rfl, by kernel_rfl, by kernel_rfl, by decide, by kernel_rfl⟩ (fun x y h => (congrFun d65 x).trans h)

/-- spec.SameBlocks -/
noncomputable def C24 : Cal := ⟨24, [⟨.ro, .pair (.list 83 (.pair (.int .i64) (.pair (.int .i64) (.pair (.str) (.list 3 (.int .i64)))))) (.list 90 (.pair (.str) (.pair (.list 124 (.pair (.str) (.int .i64))) (.pair (.int .i64) (.pair (.int .i64) (.int .i64))))))⟩, ⟨.ro, .int .i64⟩], [⟨.bool, .ro⟩], fun x => spec_SameBlocks x.1 x.2.1⟩
def H24 : Hn := (.n ⟨[], [], none, false, []⟩ (.n ⟨[], [], none, false, [(0, ⟨[], .pr (.own (.pr (.ro) (.pr (.ro) (.pr (.ro) (.own (.ro)))))) (.own (.pr (.ro) (.pr (.own (.ro)) (.ro)))), [], [], none⟩)]⟩ .z .z) (.n ⟨[], [], none, false, []⟩ (.n ⟨[], [], none, false, []⟩ (.n ⟨[], [], (some ⟨[.snp 1 (.int .i64) [], .snp 18 (.bool) [], .box 2 true (.pair (.list 83 (.pair (.int .i64) (.pair (.int .i64) (.pair (.str) (.list 3 (.int .i64)))))) (.list 90 (.pair (.str) (.pair (.list 124 (.pair (.str) (.int .i64))) (.pair (.int .i64) (.pair (.int .i64) (.int .i64))))))) (.ro)], [(2, ⟨5, []⟩)], []⟩), false, []⟩ .z .z) .z) (.n ⟨[], [], none, false, []⟩ (.n ⟨[], [], none, false, [(0, ⟨[], .ro, [19], [], none⟩), (1, ⟨[], .ro, [20], [], none⟩), (2, ⟨[], .ro, [21], [], none⟩), (3, ⟨[], .ro, [22], [], none⟩), (4, ⟨[], .ro, [23], [], none⟩), (5, ⟨[], .ro, [24], [], none⟩), (6, ⟨[], .ro, [25], [], none⟩), (7, ⟨[], .ro, [26], [], none⟩), (8, ⟨[], .ro, [27], [], none⟩), (9, ⟨[], .ro, [28], [], none⟩), (10, ⟨[], .ro, [29], [], none⟩), (11, ⟨[], .ro, [30], [], none⟩), (12, ⟨[], .ro, [31], [], none⟩), (13, ⟨[], .ro, [32], [], none⟩), (14, ⟨[], .ro, [33], [], none⟩), (15, ⟨[], .ro, [34], [], none⟩), (16, ⟨[], .ro, [35], [], none⟩), (17, ⟨[], .ro, [36], [], none⟩), (18, ⟨[], .ro, [37], [], none⟩), (19, ⟨[], .ro, [4], [], none⟩)]⟩ .z .z) .z)))
noncomputable def E24 : Env := ⟨tab, [C64, C65], 2, 38⟩
theorem d24 : (fun (x : HL (pts C24.ps)) => den E24 (Tryd.f24.body.getD .skip) H24 (initS 38 C24.ps x) (retK tab [] C24.ps C24.rs [.tmp 4]) (fun _ _ => none) (retK tab [] C24.ps C24.rs [.tmp 4])) = C24.F := by kernel_rfl
theorem c24 : Cok Tryd.prog C24 := by
  have h64 := c64
  have h65 := c65
  exact cok_of_den (E := E24) (fn := Tryd.f24) (code := Tryd.f24.body.getD .skip) (hn := H24) (gr := []) (is := [.tmp 4]) ⟨tabOk, (fun c hc => by simp only [E24, List.mem_cons, List.not_mem_nil, or_false] at hc; rcases hc with rfl | rfl <;> assumption), mixOk⟩ ⟨by kernel_rfl, by kernel_rfl, by kernel_rfl, by kernel_rfl, by kernel_rfl, by decide, by kernel_rfl⟩ (fun x y h => (congrFun d24 x).trans h)

/-- impl.in -/
noncomputable def C39 : Cal := ⟨39, [⟨.ro, .int .i64⟩, ⟨.ro, .int .i64⟩, ⟨.ro, .int .i64⟩], [⟨.bool, .ro⟩], fun x => impl_in x.1 x.2.1 x.2.2.1⟩
def H39 : Hn := (.n ⟨[], [], none, false, []⟩ .z (.n ⟨[], [], none, false, []⟩ (.n ⟨[], [], (some ⟨[.snp 6 (.bool) []], [], []⟩), false, []⟩ .z .z) .z))
noncomputable def E39 : Env := ⟨tab, [], 3, 15⟩
theorem d39 : (fun (x : HL (pts C39.ps)) => den E39 (Tryd.f39.body.getD .skip) H39 (initS 15 C39.ps x) (retK tab [] C39.ps C39.rs [.tmp 6]) (fun _ _ => none) (retK tab [] C39.ps C39.rs [.tmp 6])) = C39.F := by kernel_rfl
theorem c39 : Cok Tryd.prog C39 := by
  exact cok_of_den (E := E39) (fn := Tryd.f39) (code := Tryd.f39.body.getD .skip) (hn := H39) (gr := []) (is := [.tmp 6]) ⟨tabOk, (fun c hc => by cases hc), mixOk⟩ ⟨by kernel_rfl, by kernel_rfl, by kernel_rfl, by kernel_rfl, by kernel_rfl, by decide, by kernel_rfl⟩ (fun x y h => (congrFun d39 x).trans h)

/-- impl.shape -/
noncomputable def C137 : Cal := ⟨137, [⟨.ro, .int .i64⟩], [⟨.int .i64, .ro⟩, ⟨.int .i64, .ro⟩], fun x => impl_shape x.1⟩
def H137 : Hn := (.n ⟨[], [], none, false, []⟩ .z (.n ⟨[], [], none, false, []⟩ (.n ⟨[], [], none, false, []⟩ .z (.n ⟨[], [], none, false, []⟩ (.n ⟨[], [], none, false, []⟩ (.n ⟨[], [], none, false, []⟩ .z (.n ⟨[], [], (some ⟨[.snp 4 (.int .i64) [], .snp 5 (.bool) []], [], []⟩), false, []⟩ .z (.n ⟨[], [], none, false, []⟩ .z (.n ⟨[], [], (some ⟨[.snp 4 (.int .i64) [], .snp 5 (.bool) []], [], []⟩), false, []⟩ .z (.n ⟨[], [], none, false, []⟩ .z (.n ⟨[], [], (some ⟨[.snp 4 (.int .i64) [], .snp 5 (.bool) []], [], []⟩), false, []⟩ .z (.n ⟨[], [], none, false, []⟩ .z (.n ⟨[], [], (some ⟨[.snp 4 (.int .i64) [], .snp 5 (.bool) []], [], []⟩), false, []⟩ .z (.n ⟨[], [], none, false, []⟩ .z (.n ⟨[], [], (some ⟨[.snp 4 (.int .i64) [], .snp 5 (.bool) []], [], []⟩), false, []⟩ .z .z)))))))))) (.n ⟨[], [], none, false, []⟩ .z (.n ⟨[], [], none, false, []⟩ (.n ⟨[], [], none, false, []⟩ .z (.n ⟨[], [], (some ⟨[.snp 4 (.int .i64) [], .snp 12 (.bool) []], [], []⟩), false, []⟩ .z (.n ⟨[], [], none, false, []⟩ .z (.n ⟨[], [], (some ⟨[.snp 4 (.int .i64) [], .snp 12 (.bool) []], [], []⟩), false, []⟩ .z (.n ⟨[], [], none, false, []⟩ .z (.n ⟨[], [], (some ⟨[.snp 4 (.int .i64) [], .snp 12 (.bool) []], [], []⟩), false, []⟩ .z .z)))))) .z))) .z)) .z))
noncomputable def E137 : Env := ⟨tab, [], 1, 23⟩
theorem d137 : (fun (x : HL (pts C137.ps)) => den E137 (Tryd.f137.body.getD .skip) H137 (initS 23 C137.ps x) (retK tab [] C137.ps C137.rs [.tmp 2, .tmp 3]) (fun _ _ => none) (retK tab [] C137.ps C137.rs [.tmp 2, .tmp 3])) = C137.F := by kernel_rfl
theorem c137 : Cok Tryd.prog C137 := by
  exact cok_of_den (E := E137) (fn := Tryd.f137) (code := Tryd.f137.body.getD .skip) (hn := H137) (gr := []) (is := [.tmp 2, .tmp 3]) ⟨tabOk, (fun c hc => by cases hc), mixOk⟩ ⟨by kernel_rfl, by kernel_rfl, by kernel_rfl, by kernel_rfl, by kernel_rfl, by decide, by kernel_rfl⟩ (fun x y h => (congrFun d137 x).trans h)

/-- impl.hasInt -/
noncomputable def C138 : Cal := ⟨138, [⟨.ro, .list 3 (.int .i64)⟩, ⟨.ro, .int .i64⟩], [⟨.bool, .ro⟩], fun x => impl_hasInt x.1 x.2.1⟩
def H138 : Hn := (.n ⟨[], [], none, false, []⟩ .z (.n ⟨[], [], none, false, []⟩ (.n ⟨[], [], none, false, []⟩ .z (.n ⟨[], [], (some ⟨[], [], []⟩), true, []⟩ (.n ⟨[], [], (some ⟨[.snp 1 (.int .i64) [], .snp 7 (.list 3 (.int .i64)) [], .snp 8 (.int .i64) [], .snp 9 (.int .i64) []], [], []⟩), false, []⟩ .z .z) .z)) .z))
noncomputable def E138 : Env := ⟨tab, [], 2, 17⟩
theorem d138 : (fun (x : HL (pts C138.ps)) => den E138 (Tryd.f138.body.getD .skip) H138 (initS 17 C138.ps x) (retK tab [] C138.ps C138.rs [.tmp 4]) (fun _ _ => none) (retK tab [] C138.ps C138.rs [.tmp 4])) = C138.F := by kernel_rfl
theorem c138 : Cok Tryd.prog C138 := by
  exact cok_of_den (E := E138) (fn := Tryd.f138) (code := Tryd.f138.body.getD .skip) (hn := H138) (gr := []) (is := [.tmp 4]) ⟨tabOk, (fun c hc => by cases hc), mixOk⟩ ⟨by kernel_rfl, by kernel_rfl, by kernel_rfl, by kernel_rfl, by kernel_rfl, by decide, by kernel_rfl⟩ (fun x y h => (congrFun d138 x).trans h)

/-- impl.isStep -/
noncomputable def C153 : Cal := ⟨153, [⟨.ro, .int .i64⟩], [⟨.bool, .ro⟩], fun x => impl_isStep x.1⟩
def H153 : Hn := .z
noncomputable def E153 : Env := ⟨tab, [C39], 1, 5⟩
theorem d153 : (fun (x : HL (pts C153.ps)) => den E153 (Tryd.f153.body.getD .skip) H153 (initS 5 C153.ps x) (retK tab [] C153.ps C153.rs [.tmp 2]) (fun _ _ => none) (retK tab [] C153.ps C153.rs [.tmp 2])) = C153.F := by kernel_rfl
theorem c153 : Cok Tryd.prog C153 := by
  have h39 := c39
  exact cok_of_den (E := E153) (fn := Tryd.f153) (code := Tryd.f153.body.getD .skip) (hn := H153) (gr := []) (is := [.tmp 2]) ⟨tabOk, (fun c hc => by simp only [E153, List.mem_cons, List.not_mem_nil, or_false] at hc; rcases hc with rfl <;> assumption), mixOk⟩ ⟨by kernel_rfl, by kernel_rfl, by kernel_rfl, by kernel_rfl, by kernel_rfl, by decide, by kernel_rfl⟩ (fun x y h => (congrFun d153 x).trans h)

/-- impl.isValue -/
noncomputable def C154 : Cal := ⟨154, [⟨.ro, .int .i64⟩], [⟨.bool, .ro⟩], fun x => impl_isValue x.1⟩
def H154 : Hn := .z
noncomputable def E154 : Env := ⟨tab, [C39], 1, 5⟩
theorem d154 : (fun (x : HL (pts C154.ps)) => den E154 (Tryd.f154.body.getD .skip) H154 (initS 5 C154.ps x) (retK tab [] C154.ps C154.rs [.tmp 2]) (fun _ _ => none) (retK tab [] C154.ps C154.rs [.tmp 2])) = C154.F := by kernel_rfl
theorem c154 : Cok Tryd.prog C154 := by
  have h39 := c39
  exact cok_of_den (E := E154) (fn := Tryd.f154) (code := Tryd.f154.body.getD .skip) (hn := H154) (gr := []) (is := [.tmp 2]) ⟨tabOk, (fun c hc => by simp only [E154, List.mem_cons, List.not_mem_nil, or_false] at hc; rcases hc with rfl <;> assumption), mixOk⟩ ⟨by kernel_rfl, by kernel_rfl, by kernel_rfl, by kernel_rfl, by kernel_rfl, by decide, by kernel_rfl⟩ (fun x y h => (congrFun d154 x).trans h)

/-- impl.kidFits -/
noncomputable def C139 : Cal := ⟨139, [⟨.ro, .int .i64⟩, ⟨.ro, .int .i64⟩, ⟨.ro, .int .i64⟩], [⟨.bool, .ro⟩], fun x => impl_kidFits x.1 x.2.1 x.2.2.1⟩
def H139 : Hn := (.n ⟨[], [], none, false, []⟩ .z (.n ⟨[], [], none, false, []⟩ (.n ⟨[], [], none, false, []⟩ (.n ⟨[], [], none, false, []⟩ .z (.n ⟨[], [], none, false, []⟩ .z (.n ⟨[], [], none, false, []⟩ (.n ⟨[], [], (some ⟨[.snp 0 (.int .i64) [], .snp 2 (.int .i64) [], .snp 12 (.bool) []], [], []⟩), false, []⟩ .z .z) .z))) .z) .z))
noncomputable def E139 : Env := ⟨tab, [C153, C154], 3, 32⟩
theorem d139 : (fun (x : HL (pts C139.ps)) => den E139 (Tryd.f139.body.getD .skip) H139 (initS 32 C139.ps x) (retK tab [] C139.ps C139.rs [.tmp 6]) (fun _ _ => none) (retK tab [] C139.ps C139.rs [.tmp 6])) = C139.F := by kernel_rfl
theorem c139 : Cok Tryd.prog C139 := by
  have h153 := c153
  have h154 := c154
  exact cok_of_den (E := E139) (fn := Tryd.f139) (code := Tryd.f139.body.getD .skip) (hn := H139) (gr := []) (is := [.tmp 6]) ⟨tabOk, (fun c hc => by simp only [E139, List.mem_cons, List.not_mem_nil, or_false] at hc; rcases hc with rfl | rfl <;> assumption), mixOk⟩ ⟨by kernel_rfl, by kernel_rfl, by kernel_rfl, by kernel_rfl, by kernel_rfl, by decide, by kernel_rfl⟩ (fun x y h => (congrFun d139 x).trans h)

/-- impl.hasName -/
noncomputable def C140 : Cal := ⟨140, [⟨.ro, .int .i64⟩], [⟨.bool, .ro⟩], fun x => impl_hasName x.1⟩
def H140 : Hn := (.n ⟨[], [], none, false, []⟩ .z (.n ⟨[], [], none, false, []⟩ (.n ⟨[], [], (some ⟨[.snp 2 (.bool) []], [], []⟩), false, []⟩ .z .z) .z))
noncomputable def E140 : Env := ⟨tab, [C39], 1, 9⟩
theorem d140 : (fun (x : HL (pts C140.ps)) => den E140 (Tryd.f140.body.getD .skip) H140 (initS 9 C140.ps x) (retK tab [] C140.ps C140.rs [.tmp 2]) (fun _ _ => none) (retK tab [] C140.ps C140.rs [.tmp 2])) = C140.F := by kernel_rfl
theorem c140 : Cok Tryd.prog C140 := by
  have h39 := c39
  exact cok_of_den (E := E140) (fn := Tryd.f140) (code := Tryd.f140.body.getD .skip) (hn := H140) (gr := []) (is := [.tmp 2]) ⟨tabOk, (fun c hc => by simp only [E140, List.mem_cons, List.not_mem_nil, or_false] at hc; rcases hc with rfl <;> assumption), mixOk⟩ ⟨by kernel_rfl, by kernel_rfl, by kernel_rfl, by kernel_rfl, by kernel_rfl, by decide, by kernel_rfl⟩ (fun x y h => (congrFun d140 x).trans h)

/-- impl.isLetter -/
noncomputable def C113 : Cal := ⟨113, [⟨.ro, .int .u8⟩], [⟨.bool, .ro⟩], fun x => impl_isLetter x.1⟩
def H113 : Hn := (.n ⟨[], [], none, false, []⟩ .z (.n ⟨[], [], none, false, []⟩ (.n ⟨[], [], (some ⟨[.snp 2 (.bool) []], [], []⟩), false, []⟩ .z .z) .z))
noncomputable def E113 : Env := ⟨tab, [], 1, 9⟩
theorem d113 : (fun (x : HL (pts C113.ps)) => den E113 (Tryd.f113.body.getD .skip) H113 (initS 9 C113.ps x) (retK tab [] C113.ps C113.rs [.tmp 2]) (fun _ _ => none) (retK tab [] C113.ps C113.rs [.tmp 2])) = C113.F := by kernel_rfl
theorem c113 : Cok Tryd.prog C113 := by
  exact cok_of_den (E := E113) (fn := Tryd.f113) (code := Tryd.f113.body.getD .skip) (hn := H113) (gr := []) (is := [.tmp 2]) ⟨tabOk, (fun c hc => by cases hc), mixOk⟩ ⟨by kernel_rfl, by kernel_rfl, by kernel_rfl, by kernel_rfl, by kernel_rfl, by decide, by kernel_rfl⟩ (fun x y h => (congrFun d113 x).trans h)

/-- impl.isFigure -/
noncomputable def C114 : Cal := ⟨114, [⟨.ro, .int .u8⟩], [⟨.bool, .ro⟩], fun x => impl_isFigure x.1⟩
def H114 : Hn := (.n ⟨[], [], none, false, []⟩ .z (.n ⟨[], [], none, false, []⟩ (.n ⟨[], [], (some ⟨[.snp 2 (.bool) []], [], []⟩), false, []⟩ .z .z) .z))
noncomputable def E114 : Env := ⟨tab, [], 1, 9⟩
theorem d114 : (fun (x : HL (pts C114.ps)) => den E114 (Tryd.f114.body.getD .skip) H114 (initS 9 C114.ps x) (retK tab [] C114.ps C114.rs [.tmp 2]) (fun _ _ => none) (retK tab [] C114.ps C114.rs [.tmp 2])) = C114.F := by kernel_rfl
theorem c114 : Cok Tryd.prog C114 := by
  exact cok_of_den (E := E114) (fn := Tryd.f114) (code := Tryd.f114.body.getD .skip) (hn := H114) (gr := []) (is := [.tmp 2]) ⟨tabOk, (fun c hc => by cases hc), mixOk⟩ ⟨by kernel_rfl, by kernel_rfl, by kernel_rfl, by kernel_rfl, by kernel_rfl, by decide, by kernel_rfl⟩ (fun x y h => (congrFun d114 x).trans h)

/-- impl.oneOf -/
noncomputable def C131 : Cal := ⟨131, [⟨.ro, .str⟩, ⟨.ro, .str⟩], [⟨.bool, .ro⟩], fun x => impl_oneOf x.1 x.2.1⟩
def H131 : Hn := (.n ⟨[], [], none, false, []⟩ .z (.n ⟨[], [], none, false, []⟩ (.n ⟨[], [], none, false, []⟩ .z (.n ⟨[], [], (some ⟨[], [], []⟩), true, []⟩ (.n ⟨[], [], (some ⟨[.snp 0 (.str) [], .dat 8 (.list 9 (.str)) (.own (.ro)), .snp 9 (.int .i64) [], .snp 10 (.int .i64) []], [], []⟩), false, []⟩ .z .z) .z)) .z))
noncomputable def E131 : Env := ⟨tab, [C40], 2, 18⟩
theorem d131 : (fun (x : HL (pts C131.ps)) => den E131 (Tryd.f131.body.getD .skip) H131 (initS 18 C131.ps x) (retK tab [] C131.ps C131.rs [.tmp 4]) (fun _ _ => none) (retK tab [] C131.ps C131.rs [.tmp 4])) = C131.F := by kernel_rfl
theorem c131 : Cok Tryd.prog C131 := by
  have h40 := c40
  exact cok_of_den (E := E131) (fn := Tryd.f131) (code := Tryd.f131.body.getD .skip) (hn := H131) (gr := []) (is := [.tmp 4]) ⟨tabOk, (fun c hc => by simp only [E131, List.mem_cons, List.not_mem_nil, or_false] at hc; rcases hc with rfl <;> assumption), mixOk⟩ ⟨by kernel_rfl, by kernel_rfl, by kernel_rfl, by kernel_rfl, by kernel_rfl, by decide, by kernel_rfl⟩ (fun x y h => (congrFun d131 x).trans h)

/-- impl.KeyWord -/
noncomputable def C115 : Cal := ⟨115, [⟨.ro, .str⟩], [⟨.bool, .ro⟩], fun x => impl_KeyWord x.1⟩
def H115 : Hn := .z
noncomputable def E115 : Env := ⟨tab, [C131], 1, 5⟩
theorem d115 : (fun (x : HL (pts C115.ps)) => den E115 (Tryd.f115.body.getD .skip) H115 (initS 5 C115.ps x) (retK tab [] C115.ps C115.rs [.tmp 2]) (fun _ _ => none) (retK tab [] C115.ps C115.rs [.tmp 2])) = C115.F := by kernel_rfl
theorem c115 : Cok Tryd.prog C115 := by
  have h131 := c131
  exact cok_of_den (E := E115) (fn := Tryd.f115) (code := Tryd.f115.body.getD .skip) (hn := H115) (gr := []) (is := [.tmp 2]) ⟨tabOk, (fun c hc => by simp only [E115, List.mem_cons, List.not_mem_nil, or_false] at hc; rcases hc with rfl <;> assumption), mixOk⟩ ⟨by kernel_rfl, by kernel_rfl, by kernel_rfl, by kernel_rfl, by kernel_rfl, by decide, by kernel_rfl⟩ (fun x y h => (congrFun d115 x).trans h)

/-- impl.NameOk -/
noncomputable def C86 : Cal := ⟨86, [⟨.ro, .str⟩], [⟨.bool, .ro⟩], fun x => impl_NameOk x.1⟩
def H86 : Hn := (.n ⟨[], [], none, false, []⟩ .z (.n ⟨[], [], none, false, []⟩ (.n ⟨[], [], none, false, []⟩ (.n ⟨[], [], (some ⟨[.snp 0 (.str) [], .snp 13 (.bool) []], [], []⟩), false, []⟩ .z .z) .z) (.n ⟨[], [], none, false, []⟩ (.n ⟨[], [], none, false, []⟩ .z (.n ⟨[], [], (some ⟨[.snp 0 (.str) []], [], []⟩), true, []⟩ (.n ⟨[], [], (some ⟨[.snp 0 (.str) [], .snp 3 (.int .i64) []], [], []⟩), false, []⟩ (.n ⟨[], [], none, false, []⟩ .z (.n ⟨[], [], none, false, []⟩ (.n ⟨[], [], none, false, []⟩ (.n ⟨[], [], none, false, []⟩ (.n ⟨[], [], (some ⟨[.snp 0 (.str) [], .snp 3 (.int .i64) [], .snp 31 (.bool) []], [], []⟩), false, []⟩ .z .z) .z) .z) .z)) .z) .z)) .z)))
noncomputable def E86 : Env := ⟨tab, [C39, C113, C114, C115], 1, 35⟩
theorem d86 : (fun (x : HL (pts C86.ps)) => den E86 (Tryd.f86.body.getD .skip) H86 (initS 35 C86.ps x) (retK tab [] C86.ps C86.rs [.tmp 2]) (fun _ _ => none) (retK tab [] C86.ps C86.rs [.tmp 2])) = C86.F := by kernel_rfl
theorem c86 : Cok Tryd.prog C86 := by
  have h39 := c39
  have h113 := c113
  have h114 := c114
  have h115 := c115
  exact cok_of_den (E := E86) (fn := Tryd.f86) (code := Tryd.f86.body.getD .skip) (hn := H86) (gr := []) (is := [.tmp 2]) ⟨tabOk, (fun c hc => by simp only [E86, List.mem_cons, List.not_mem_nil, or_false] at hc; rcases hc with rfl | rfl | rfl | rfl <;> assumption), mixOk⟩ ⟨by kernel_rfl, by kernel_rfl, by kernel_rfl, by kernel_rfl, by kernel_rfl, by decide, by kernel_rfl⟩ (fun x y h => (congrFun d86 x).trans h)

/-- impl.NodeOk -/
noncomputable def C120 : Cal := ⟨120, [⟨.ro, .list 83 (.pair (.int .i64) (.pair (.int .i64) (.pair (.str) (.list 3 (.int .i64)))))⟩, ⟨.ro, .int .i64⟩], [⟨.bool, .ro⟩], fun x => impl_NodeOk x.1 x.2.1⟩
def H120 : Hn := (.n ⟨[], [], none, false, []⟩ .z (.n ⟨[], [], none, false, []⟩ .z (.n ⟨[], [], none, false, []⟩ (.n ⟨[], [], none, false, [(4, ⟨[], .pr (.ro) (.pr (.ro) (.pr (.ro) (.own (.ro)))), [], [], none⟩), (5, ⟨[], .pr (.ro) (.pr (.ro) (.pr (.ro) (.own (.ro)))), [], [], none⟩)]⟩ .z .z) (.n ⟨[], [], none, false, []⟩ .z (.n ⟨[], [], none, false, []⟩ (.n ⟨[], [], none, false, []⟩ (.n ⟨[], [], (some ⟨[.snp 0 (.list 83 (.pair (.int .i64) (.pair (.int .i64) (.pair (.str) (.list 3 (.int .i64)))))) [], .snp 1 (.int .i64) [], .snp 38 (.bool) [], .box 5 true (.pair (.int .i64) (.pair (.int .i64) (.pair (.str) (.list 3 (.int .i64))))) (.ro)], [(5, ⟨11, []⟩)], []⟩), false, []⟩ .z .z) .z) (.n ⟨[], [], none, false, []⟩ (.n ⟨[], [], none, false, []⟩ .z (.n ⟨[], [], (some ⟨[.box 5 true (.pair (.int .i64) (.pair (.int .i64) (.pair (.str) (.list 3 (.int .i64))))) (.ro)], [(5, ⟨11, []⟩)], []⟩), true, []⟩ (.n ⟨[], [], (some ⟨[.snp 0 (.list 83 (.pair (.int .i64) (.pair (.int .i64) (.pair (.str) (.list 3 (.int .i64)))))) [], .snp 1 (.int .i64) [], .snp 40 (.list 3 (.int .i64)) [], .snp 41 (.int .i64) [], .snp 42 (.int .i64) [], .box 5 true (.pair (.int .i64) (.pair (.int .i64) (.pair (.str) (.list 3 (.int .i64))))) (.ro)], [(5, ⟨11, []⟩)], []⟩), false, []⟩ (.n ⟨[], [], none, false, []⟩ .z (.n ⟨[], [], none, false, []⟩ .z (.n ⟨[], [], none, false, []⟩ (.n ⟨[], [], none, false, []⟩ (.n ⟨[], [], none, false, []⟩ .z (.n ⟨[], [], none, false, []⟩ (.n ⟨[], [], (some ⟨[.snp 0 (.list 83 (.pair (.int .i64) (.pair (.int .i64) (.pair (.str) (.list 3 (.int .i64)))))) [], .snp 1 (.int .i64) [], .snp 40 (.list 3 (.int .i64)) [], .snp 41 (.int .i64) [], .snp 42 (.int .i64) [], .snp 71 (.bool) [], .box 5 true (.pair (.int .i64) (.pair (.int .i64) (.pair (.str) (.list 3 (.int .i64))))) (.ro)], [(5, ⟨11, []⟩)], []⟩), false, [(0, ⟨[], .ro, [47], [], none⟩), (1, ⟨[], .ro, [48], [], none⟩), (2, ⟨[], .ro, [49], [], none⟩), (3, ⟨[], .ro, [50], [], none⟩), (4, ⟨[], .ro, [51], [], none⟩), (5, ⟨[], .ro, [52], [], none⟩), (6, ⟨[], .ro, [53], [], none⟩), (7, ⟨[], .ro, [54], [], none⟩), (8, ⟨[], .ro, [55], [], none⟩), (9, ⟨[], .ro, [56], [], none⟩), (10, ⟨[], .ro, [57], [], none⟩), (11, ⟨[], .ro, [58], [], none⟩), (12, ⟨[], .ro, [59], [], none⟩), (13, ⟨[], .ro, [60], [], none⟩), (14, ⟨[], .ro, [61], [], none⟩), (15, ⟨[], .ro, [62], [], none⟩), (16, ⟨[], .ro, [63], [], none⟩), (17, ⟨[], .ro, [64], [], none⟩), (18, ⟨[], .ro, [65], [], none⟩), (19, ⟨[], .ro, [66], [], none⟩), (20, ⟨[], .ro, [67], [], none⟩), (21, ⟨[], .ro, [68], [], none⟩), (22, ⟨[], .ro, [69], [], none⟩), (23, ⟨[], .ro, [70], [], none⟩), (24, ⟨[], .ro, [71], [], none⟩)]⟩ .z .z) .z)) .z) .z))) .z) .z)) (.n ⟨[], [], none, false, []⟩ (.n ⟨[], [], none, false, []⟩ (.n ⟨[], [], (some ⟨[.snp 91 (.bool) [], .box 5 true (.pair (.int .i64) (.pair (.int .i64) (.pair (.str) (.list 3 (.int .i64))))) (.ro)], [(5, ⟨11, []⟩)], []⟩), false, []⟩ .z .z) .z) .z)))))))
noncomputable def E120 : Env := ⟨tab, [C39, C137, C138, C139, C140, C86], 2, 101⟩
theorem d120 : (fun (x : HL (pts C120.ps)) => den E120 (Tryd.f120.body.getD .skip) H120 (initS 101 C120.ps x) (retK tab [] C120.ps C120.rs [.tmp 4]) (fun _ _ => none) (retK tab [] C120.ps C120.rs [.tmp 4])) = C120.F := by kernel_rfl
theorem c120 : Cok Tryd.prog C120 := by
  have h39 := c39
  have h137 := c137
  have h138 := c138
  have h139 := c139
  have h140 := c140
  have h86 := c86
  exact cok_of_den (E := E120) (fn := Tryd.f120) (code := Tryd.f120.body.getD .skip) (hn := H120) (gr := []) (is := [.tmp 4]) ⟨tabOk, (fun c hc => by simp only [E120, List.mem_cons, List.not_mem_nil, or_false] at hc; rcases hc with rfl | rfl | rfl | rfl | rfl | rfl <;> assumption), mixOk⟩ ⟨by kernel_rfl, by kernel_rfl, by kernel_rfl, by kernel_rfl, by kernel_rfl, by decide, by kernel_rfl⟩ (fun x y h => (congrFun d120 x).trans h)

/-- impl.depths -/
noncomputable def C95 : Cal := ⟨95, [⟨.ro, .list 83 (.pair (.int .i64) (.pair (.int .i64) (.pair (.str) (.list 3 (.int .i64)))))⟩, ⟨.ro, .int .i64⟩], [⟨.list 3 (.int .i64), .own (.ro)⟩, ⟨.bool, .ro⟩], fun x => impl_depths x.1 x.2.1⟩
def H95 : Hn := (.n ⟨[], [], none, false, []⟩ .z (.n ⟨[], [], none, false, []⟩ .z (.n ⟨[], [], none, false, []⟩ .z (.n ⟨[], [], none, false, []⟩ (.n ⟨[], [], none, false, []⟩ .z (.n ⟨[], [], (some ⟨[.dat 6 (.list 3 (.int .i64)) (.own (.ro))], [], []⟩), true, []⟩ (.n ⟨[], [], (some ⟨[.snp 0 (.list 83 (.pair (.int .i64) (.pair (.int .i64) (.pair (.str) (.list 3 (.int .i64)))))) [], .snp 1 (.int .i64) [], .dat 6 (.list 3 (.int .i64)) (.own (.ro)), .snp 7 (.int .i64) []], [], []⟩), false, []⟩ (.n ⟨[], [], none, false, []⟩ .z (.n ⟨[], [], none, false, []⟩ (.n ⟨[], [], (some ⟨[.snp 0 (.list 83 (.pair (.int .i64) (.pair (.int .i64) (.pair (.str) (.list 3 (.int .i64)))))) [], .snp 1 (.int .i64) [], .dat 6 (.list 3 (.int .i64)) (.own (.ro)), .snp 7 (.int .i64) []], [], []⟩), true, []⟩ (.n ⟨[], [], none, false, []⟩ .z (.n ⟨[], [], none, false, []⟩ .z (.n ⟨[], [], none, false, []⟩ (.n ⟨[], [], none, false, []⟩ .z (.n ⟨[], [], (some ⟨[.snp 0 (.list 83 (.pair (.int .i64) (.pair (.int .i64) (.pair (.str) (.list 3 (.int .i64)))))) [], .snp 1 (.int .i64) [], .dat 6 (.list 3 (.int .i64)) (.own (.ro)), .snp 7 (.int .i64) [], .snp 8 (.int .i64) []], [], []⟩), false, []⟩ (.n ⟨[], [], (some ⟨[.snp 0 (.list 83 (.pair (.int .i64) (.pair (.int .i64) (.pair (.str) (.list 3 (.int .i64)))))) [], .snp 1 (.int .i64) [], .dat 6 (.list 3 (.int .i64)) (.own (.ro)), .snp 7 (.int .i64) [], .snp 8 (.int .i64) [], .snp 30 (.list 3 (.int .i64)) [], .snp 31 (.int .i64) [], .snp 32 (.int .i64) []], [], []⟩), false, []⟩ .z .z) .z)) (.n ⟨[], [], none, false, []⟩ .z (.n ⟨[], [.g 6], none, false, [(3, ⟨[.g 46], .ro, [], [], none⟩)]⟩ .z .z))))) .z) .z)) .z) .z)) (.n ⟨[], [], none, false, []⟩ (.n ⟨[], [.g 4], none, false, []⟩ .z .z) .z)))))
noncomputable def E95 : Env := ⟨tab, [C39, C120], 2, 51⟩
theorem d95 : (fun (x : HL (pts C95.ps)) => den E95 (Tryd.f95.body.getD .skip) H95 (initS 51 C95.ps x) (retK tab [] C95.ps C95.rs [.tmp 4, .tmp 5]) (fun _ _ => none) (retK tab [] C95.ps C95.rs [.tmp 4, .tmp 5])) = C95.F := by kernel_rfl
theorem c95 : Cok Tryd.prog C95 := by
  have h39 := c39
  have h120 := c120
  exact cok_of_den (E := E95) (fn := Tryd.f95) (code := Tryd.f95.body.getD .skip) (hn := H95) (gr := []) (is := [.tmp 4, .tmp 5]) ⟨tabOk, (fun c hc => by simp only [E95, List.mem_cons, List.not_mem_nil, or_false] at hc; rcases hc with rfl | rfl <;> assumption), mixOk⟩ ⟨by kernel_rfl, by kernel_rfl, by kernel_rfl, by kernel_rfl, by kernel_rfl, by decide, by kernel_rfl⟩ (fun x y h => (congrFun d95 x).trans h)

/-- impl.DeepOf -/
noncomputable def C68 : Cal := ⟨68, [⟨.ro, .list 83 (.pair (.int .i64) (.pair (.int .i64) (.pair (.str) (.list 3 (.int .i64)))))⟩, ⟨.ro, .int .i64⟩], [⟨.int .i64, .ro⟩], fun x => impl_DeepOf x.1 x.2.1⟩
def H68 : Hn := (.n ⟨[], [], none, false, []⟩ .z (.n ⟨[], [], none, false, []⟩ (.n ⟨[], [.g 5], none, false, []⟩ .z .z) .z))
noncomputable def E68 : Env := ⟨tab, [C95], 2, 19⟩
theorem d68 : (fun (x : HL (pts C68.ps)) => den E68 (Tryd.f68.body.getD .skip) H68 (initS 19 C68.ps x) (retK tab [] C68.ps C68.rs [.tmp 4]) (fun _ _ => none) (retK tab [] C68.ps C68.rs [.tmp 4])) = C68.F := by kernel_rfl
theorem c68 : Cok Tryd.prog C68 := by
  have h95 := c95
  exact cok_of_den (E := E68) (fn := Tryd.f68) (code := Tryd.f68.body.getD .skip) (hn := H68) (gr := []) (is := [.tmp 4]) ⟨tabOk, (fun c hc => by simp only [E68, List.mem_cons, List.not_mem_nil, or_false] at hc; rcases hc with rfl <;> assumption), mixOk⟩ ⟨by kernel_rfl, by kernel_rfl, by kernel_rfl, by kernel_rfl, by kernel_rfl, by decide, by kernel_rfl⟩ (fun x y h => (congrFun d68 x).trans h)

/-- impl.sameTree -/
def P69 : List Prm := [⟨.ro, .pair (.list 83 (.pair (.int .i64) (.pair (.int .i64) (.pair (.str) (.list 3 (.int .i64)))))) (.list 90 (.pair (.str) (.pair (.list 124 (.pair (.str) (.int .i64))) (.pair (.int .i64) (.pair (.int .i64) (.int .i64))))))⟩, ⟨.ro, .int .i64⟩, ⟨.ro, .pair (.list 83 (.pair (.int .i64) (.pair (.int .i64) (.pair (.str) (.list 3 (.int .i64)))))) (.list 90 (.pair (.str) (.pair (.list 124 (.pair (.str) (.int .i64))) (.pair (.int .i64) (.pair (.int .i64) (.int .i64))))))⟩, ⟨.ro, .int .i64⟩]
def Q69 : List Ret := [⟨.bool, .ro⟩]
noncomputable def N69 (n : Nat) : Cal := ⟨69, P69, Q69, fun x => (R_impl_sameTree n).1 x.1 x.2.1 x.2.2.1 x.2.2.2.1⟩
def H69 : Hn := (.n ⟨[], [], none, false, []⟩ (.n ⟨[], [], none, false, [(0, ⟨[], .pr (.own (.pr (.ro) (.pr (.ro) (.pr (.ro) (.own (.ro)))))) (.own (.pr (.ro) (.pr (.own (.ro)) (.ro)))), [], [], none⟩), (1, ⟨[], .pr (.own (.pr (.ro) (.pr (.ro) (.pr (.ro) (.own (.ro)))))) (.own (.pr (.ro) (.pr (.own (.ro)) (.ro)))), [], [], none⟩)]⟩ .z .z) (.n ⟨[], [], none, false, []⟩ (.n ⟨[], [], none, false, [(0, ⟨[], .ro, [12], [], none⟩), (1, ⟨[], .ro, [13], [], none⟩), (2, ⟨[], .ro, [14], [], none⟩), (3, ⟨[], .ro, [15], [], none⟩), (4, ⟨[], .ro, [16], [], none⟩), (5, ⟨[], .ro, [17], [], none⟩), (6, ⟨[], .ro, [18], [], none⟩), (7, ⟨[], .ro, [19], [], none⟩), (8, ⟨[], .ro, [20], [], none⟩), (9, ⟨[], .ro, [21], [], none⟩), (10, ⟨[], .pr (.ro) (.pr (.ro) (.pr (.ro) (.own (.ro)))), [9], [9], none⟩), (11, ⟨[], .pr (.ro) (.pr (.ro) (.pr (.ro) (.own (.ro)))), [10], [10], none⟩), (12, ⟨[], .pr (.ro) (.pr (.ro) (.pr (.ro) (.own (.ro)))), [9], [9], none⟩), (13, ⟨[], .pr (.ro) (.pr (.ro) (.pr (.ro) (.own (.ro)))), [10], [10], none⟩)]⟩ .z .z) (.n ⟨[], [], none, false, []⟩ (.n ⟨[], [], none, false, []⟩ (.n ⟨[], [], (some ⟨[.snp 49 (.bool) [], .box 4 true (.pair (.list 83 (.pair (.int .i64) (.pair (.int .i64) (.pair (.str) (.list 3 (.int .i64)))))) (.list 90 (.pair (.str) (.pair (.list 124 (.pair (.str) (.int .i64))) (.pair (.int .i64) (.pair (.int .i64) (.int .i64))))))) (.ro), .box 6 true (.pair (.list 83 (.pair (.int .i64) (.pair (.int .i64) (.pair (.str) (.list 3 (.int .i64)))))) (.list 90 (.pair (.str) (.pair (.list 124 (.pair (.str) (.int .i64))) (.pair (.int .i64) (.pair (.int .i64) (.int .i64))))))) (.ro), .box 9 true (.pair (.int .i64) (.pair (.int .i64) (.pair (.str) (.list 3 (.int .i64))))) (.ro), .box 10 true (.pair (.int .i64) (.pair (.int .i64) (.pair (.str) (.list 3 (.int .i64))))) (.ro)], [(4, ⟨9, []⟩), (6, ⟨13, []⟩), (9, ⟨19, []⟩), (10, ⟨21, []⟩)], []⟩), false, []⟩ .z .z) .z) (.n ⟨[], [], none, false, []⟩ (.n ⟨[], [], none, false, []⟩ .z (.n ⟨[], [], (some ⟨[], [], []⟩), true, []⟩ (.n ⟨[], [], (some ⟨[.snp 52 (.int .i64) [], .snp 53 (.int .i64) [], .box 4 true (.pair (.list 83 (.pair (.int .i64) (.pair (.int .i64) (.pair (.str) (.list 3 (.int .i64)))))) (.list 90 (.pair (.str) (.pair (.list 124 (.pair (.str) (.int .i64))) (.pair (.int .i64) (.pair (.int .i64) (.int .i64))))))) (.ro), .box 6 true (.pair (.list 83 (.pair (.int .i64) (.pair (.int .i64) (.pair (.str) (.list 3 (.int .i64)))))) (.list 90 (.pair (.str) (.pair (.list 124 (.pair (.str) (.int .i64))) (.pair (.int .i64) (.pair (.int .i64) (.int .i64))))))) (.ro), .box 9 true (.pair (.int .i64) (.pair (.int .i64) (.pair (.str) (.list 3 (.int .i64))))) (.ro), .box 10 true (.pair (.int .i64) (.pair (.int .i64) (.pair (.str) (.list 3 (.int .i64))))) (.ro)], [(4, ⟨9, []⟩), (6, ⟨13, []⟩), (9, ⟨19, []⟩), (10, ⟨21, []⟩)], []⟩), false, []⟩ (.n ⟨[], [], none, false, []⟩ .z (.n ⟨[], [], none, false, []⟩ .z (.n ⟨[], [], none, false, []⟩ (.n ⟨[], [], none, false, []⟩ (.n ⟨[], [], none, false, []⟩ .z (.n ⟨[], [], none, false, []⟩ (.n ⟨[], [], none, false, [(0, ⟨[], .ro, [56], [], none⟩), (1, ⟨[], .ro, [57], [], none⟩), (2, ⟨[], .ro, [58], [], none⟩), (3, ⟨[], .ro, [59], [], none⟩), (4, ⟨[], .ro, [60], [], none⟩), (5, ⟨[], .ro, [61], [], none⟩), (6, ⟨[], .ro, [62], [], none⟩), (7, ⟨[], .ro, [63], [], none⟩), (8, ⟨[], .ro, [64], [], none⟩), (9, ⟨[], .ro, [65], [], none⟩), (10, ⟨[], .ro, [66], [], none⟩), (11, ⟨[], .ro, [67], [], none⟩), (12, ⟨[], .ro, [68], [], none⟩), (13, ⟨[], .ro, [69], [], none⟩)]⟩ .z .z) .z)) .z) .z))) .z) .z)) .z))))
noncomputable def E69 (n : Nat) : Env := ⟨tab, [N69 n], 4, 71⟩
theorem d69 : (fun (n : Nat) (x : HL (pts P69)) => den (E69 n) (Tryd.f69.body.getD .skip) H69 (initS 71 P69 x) (retK tab [] P69 Q69 [.tmp 8]) (fun _ _ => none) (retK tab [] P69 Q69 [.tmp 8])) = fun n => (N69 (n + 1)).F := by kernel_rfl
theorem cN69 : ∀ n, Cok Tryd.prog (N69 n) := by
  intro n
  induction n with
  | zero => exact cok_none (fn := Tryd.f69) (by kernel_rfl) (by kernel_rfl) (by kernel_rfl) (fun _ => rfl)
  | succ n ih =>
    have h69 := ih
    refine ?_
    · exact cok_of_den (E := E69 n) (c := N69 (n + 1)) (fn := Tryd.f69) (code := Tryd.f69.body.getD .skip) (hn := H69) (gr := []) (is := [.tmp 8]) ⟨tabOk, (fun c hc => by simp only [E69, List.mem_cons, List.not_mem_nil, or_false] at hc; rcases hc with rfl <;> assumption), mixOk⟩ ⟨by kernel_rfl, by kernel_rfl, by kernel_rfl, by kernel_rfl, by kernel_rfl, Nat.le_of_ble_eq_true rfl, by kernel_rfl⟩ (fun x y h => (congrFun (congrFun d69 n) x).trans h)
noncomputable def C69 : Cal := ⟨69, P69, Q69, fun x => impl_sameTree x.1 x.2.1 x.2.2.1 x.2.2.2.1⟩
theorem c69 : Cok Tryd.prog C69 := cok_lim (F := fun n => (N69 n).F) (fun n => (cN69 n))

/-- impl.SameBlocks -/
noncomputable def C26 : Cal := ⟨26, [⟨.ro, .pair (.list 83 (.pair (.int .i64) (.pair (.int .i64) (.pair (.str) (.list 3 (.int .i64)))))) (.list 90 (.pair (.str) (.pair (.list 124 (.pair (.str) (.int .i64))) (.pair (.int .i64) (.pair (.int .i64) (.int .i64))))))⟩, ⟨.ro, .int .i64⟩], [⟨.bool, .ro⟩], fun x => impl_SameBlocks x.1 x.2.1⟩
def H26 : Hn := (.n ⟨[], [], none, false, []⟩ (.n ⟨[], [], none, false, [(0, ⟨[], .pr (.own (.pr (.ro) (.pr (.ro) (.pr (.ro) (.own (.ro)))))) (.own (.pr (.ro) (.pr (.own (.ro)) (.ro)))), [], [], none⟩)]⟩ .z .z) (.n ⟨[], [], none, false, []⟩ (.n ⟨[], [], none, false, []⟩ (.n ⟨[], [], (some ⟨[.snp 1 (.int .i64) [], .snp 19 (.bool) [], .box 2 true (.pair (.list 83 (.pair (.int .i64) (.pair (.int .i64) (.pair (.str) (.list 3 (.int .i64)))))) (.list 90 (.pair (.str) (.pair (.list 124 (.pair (.str) (.int .i64))) (.pair (.int .i64) (.pair (.int .i64) (.int .i64))))))) (.ro)], [(2, ⟨5, []⟩)], []⟩), false, []⟩ .z .z) .z) (.n ⟨[], [], none, false, []⟩ (.n ⟨[], [], none, false, [(5, ⟨[], .pr (.ro) (.pr (.ro) (.pr (.ro) (.own (.ro)))), [], [], none⟩), (6, ⟨[], .pr (.ro) (.pr (.ro) (.pr (.ro) (.own (.ro)))), [], [], none⟩)]⟩ .z .z) (.n ⟨[], [], none, false, []⟩ (.n ⟨[], [], none, false, [(0, ⟨[], .ro, [25], [], none⟩), (1, ⟨[], .ro, [26], [], none⟩), (2, ⟨[], .ro, [27], [], none⟩), (3, ⟨[], .ro, [28], [], none⟩), (4, ⟨[], .ro, [29], [], none⟩), (5, ⟨[], .ro, [30], [], none⟩), (6, ⟨[], .ro, [31], [], none⟩), (7, ⟨[], .ro, [32], [], none⟩), (8, ⟨[], .ro, [33], [], none⟩), (9, ⟨[], .ro, [34], [], none⟩), (10, ⟨[], .ro, [35], [], none⟩), (11, ⟨[], .ro, [4], [], none⟩)]⟩ .z .z) .z))))
noncomputable def E26 : Env := ⟨tab, [C68, C69], 2, 36⟩
theorem d26 : (fun (x : HL (pts C26.ps)) => den E26 (Tryd.f26.body.getD .skip) H26 (initS 36 C26.ps x) (retK tab [] C26.ps C26.rs [.tmp 4]) (fun _ _ => none) (retK tab [] C26.ps C26.rs [.tmp 4])) = C26.F := by kernel_rfl
theorem c26 : Cok Tryd.prog C26 := by
  have h68 := c68
  have h69 := c69
  exact cok_of_den (E := E26) (fn := Tryd.f26) (code := Tryd.f26.body.getD .skip) (hn := H26) (gr := []) (is := [.tmp 4]) ⟨tabOk, (fun c hc => by simp only [E26, List.mem_cons, List.not_mem_nil, or_false] at hc; rcases hc with rfl | rfl <;> assumption), mixOk⟩ ⟨by kernel_rfl, by kernel_rfl, by kernel_rfl, by kernel_rfl, by kernel_rfl, by decide, by kernel_rfl⟩ (fun x y h => (congrFun d26 x).trans h)

/-- laws.eqIntS -/
noncomputable def C47 : Cal := ⟨47, [⟨.ro, .list 3 (.int .i64)⟩, ⟨.ro, .list 3 (.int .i64)⟩], [⟨.bool, .ro⟩], fun x => laws_eqIntS x.1 x.2.1⟩
def H47 : Hn := (.n ⟨[], [], none, false, []⟩ .z (.n ⟨[], [], none, false, []⟩ .z (.n ⟨[], [], none, false, []⟩ (.n ⟨[], [], none, false, []⟩ .z (.n ⟨[], [], (some ⟨[], [], []⟩), true, []⟩ (.n ⟨[], [], (some ⟨[.snp 0 (.list 3 (.int .i64)) [], .snp 1 (.list 3 (.int .i64)) [], .snp 5 (.int .i64) []], [], []⟩), false, []⟩ (.n ⟨[], [], none, false, []⟩ .z (.n ⟨[], [], none, false, []⟩ (.n ⟨[], [], none, false, []⟩ (.n ⟨[], [], none, false, []⟩ (.n ⟨[], [], none, false, [(0, ⟨[], .ro, [17], [], none⟩), (1, ⟨[], .ro, [18], [], none⟩), (2, ⟨[], .ro, [19], [], none⟩), (3, ⟨[], .ro, [20], [], none⟩), (4, ⟨[], .ro, [21], [], none⟩), (5, ⟨[], .ro, [22], [], none⟩), (6, ⟨[], .ro, [23], [], none⟩), (7, ⟨[], .ro, [24], [], none⟩), (8, ⟨[], .ro, [25], [], none⟩)]⟩ .z .z) .z) .z) .z)) .z) .z)) .z)))
noncomputable def E47 : Env := ⟨tab, [], 2, 26⟩
theorem d47 : (fun (x : HL (pts C47.ps)) => den E47 (Tryd.f47.body.getD .skip) H47 (initS 26 C47.ps x) (retK tab [] C47.ps C47.rs [.tmp 4]) (fun _ _ => none) (retK tab [] C47.ps C47.rs [.tmp 4])) = C47.F := by kernel_rfl
theorem c47 : Cok Tryd.prog C47 := by
  exact cok_of_den (E := E47) (fn := Tryd.f47) (code := Tryd.f47.body.getD .skip) (hn := H47) (gr := []) (is := [.tmp 4]) ⟨tabOk, (fun c hc => by cases hc), mixOk⟩ ⟨by kernel_rfl, by kernel_rfl, by kernel_rfl, by kernel_rfl, by kernel_rfl, by decide, by kernel_rfl⟩ (fun x y h => (congrFun d47 x).trans h)

/-- laws.eqNode -/
noncomputable def C96 : Cal := ⟨96, [⟨.ro, .pair (.int .i64) (.pair (.int .i64) (.pair (.str) (.list 3 (.int .i64))))⟩, ⟨.ro, .pair (.int .i64) (.pair (.int .i64) (.pair (.str) (.list 3 (.int .i64))))⟩], [⟨.bool, .ro⟩], fun x => laws_eqNode x.1 x.2.1⟩
def H96 : Hn := (.n ⟨[], [], none, false, []⟩ (.n ⟨[], [], none, false, [(0, ⟨[], .pr (.ro) (.pr (.ro) (.pr (.ro) (.own (.ro)))), [], [], none⟩), (1, ⟨[], .pr (.ro) (.pr (.ro) (.pr (.ro) (.own (.ro)))), [], [], none⟩)]⟩ .z .z) .z)
noncomputable def E96 : Env := ⟨tab, [C47], 2, 26⟩
theorem d96 : (fun (x : HL (pts C96.ps)) => den E96 (Tryd.f96.body.getD .skip) H96 (initS 26 C96.ps x) (retK tab [] C96.ps C96.rs [.tmp 4]) (fun _ _ => none) (retK tab [] C96.ps C96.rs [.tmp 4])) = C96.F := by kernel_rfl
theorem c96 : Cok Tryd.prog C96 := by
  have h47 := c47
  exact cok_of_den (E := E96) (fn := Tryd.f96) (code := Tryd.f96.body.getD .skip) (hn := H96) (gr := []) (is := [.tmp 4]) ⟨tabOk, (fun c hc => by simp only [E96, List.mem_cons, List.not_mem_nil, or_false] at hc; rcases hc with rfl <;> assumption), mixOk⟩ ⟨by kernel_rfl, by kernel_rfl, by kernel_rfl, by kernel_rfl, by kernel_rfl, by decide, by kernel_rfl⟩ (fun x y h => (congrFun d96 x).trans h)

/-- laws.eqNodeS -/
noncomputable def C70 : Cal := ⟨70, [⟨.ro, .list 83 (.pair (.int .i64) (.pair (.int .i64) (.pair (.str) (.list 3 (.int .i64)))))⟩, ⟨.ro, .list 83 (.pair (.int .i64) (.pair (.int .i64) (.pair (.str) (.list 3 (.int .i64)))))⟩], [⟨.bool, .ro⟩], fun x => laws_eqNodeS x.1 x.2.1⟩
def H70 : Hn := (.n ⟨[], [], none, false, []⟩ .z (.n ⟨[], [], none, false, []⟩ .z (.n ⟨[], [], none, false, []⟩ (.n ⟨[], [], none, false, []⟩ .z (.n ⟨[], [], (some ⟨[], [], []⟩), true, []⟩ (.n ⟨[], [], (some ⟨[.snp 0 (.list 83 (.pair (.int .i64) (.pair (.int .i64) (.pair (.str) (.list 3 (.int .i64)))))) [], .snp 1 (.list 83 (.pair (.int .i64) (.pair (.int .i64) (.pair (.str) (.list 3 (.int .i64)))))) [], .snp 5 (.int .i64) []], [], []⟩), false, []⟩ (.n ⟨[], [], none, false, []⟩ .z (.n ⟨[], [], none, false, []⟩ (.n ⟨[], [], none, false, []⟩ (.n ⟨[], [], none, false, []⟩ (.n ⟨[], [], none, false, [(0, ⟨[], .ro, [17], [], none⟩), (1, ⟨[], .ro, [18], [], none⟩), (2, ⟨[], .ro, [19], [], none⟩), (3, ⟨[], .ro, [20], [], none⟩), (4, ⟨[], .ro, [21], [], none⟩), (5, ⟨[], .ro, [22], [], none⟩), (6, ⟨[], .ro, [23], [], none⟩), (7, ⟨[], .ro, [24], [], none⟩), (8, ⟨[], .ro, [25], [], none⟩), (9, ⟨[], .ro, [26], [], none⟩)]⟩ .z .z) .z) .z) .z)) .z) .z)) .z)))
noncomputable def E70 : Env := ⟨tab, [C96], 2, 27⟩
theorem d70 : (fun (x : HL (pts C70.ps)) => den E70 (Tryd.f70.body.getD .skip) H70 (initS 27 C70.ps x) (retK tab [] C70.ps C70.rs [.tmp 4]) (fun _ _ => none) (retK tab [] C70.ps C70.rs [.tmp 4])) = C70.F := by kernel_rfl
theorem c70 : Cok Tryd.prog C70 := by
  have h96 := c96
  exact cok_of_den (E := E70) (fn := Tryd.f70) (code := Tryd.f70.body.getD .skip) (hn := H70) (gr := []) (is := [.tmp 4]) ⟨tabOk, (fun c hc => by simp only [E70, List.mem_cons, List.not_mem_nil, or_false] at hc; rcases hc with rfl <;> assumption), mixOk⟩ ⟨by kernel_rfl, by kernel_rfl, by kernel_rfl, by kernel_rfl, by kernel_rfl, by decide, by kernel_rfl⟩ (fun x y h => (congrFun d70 x).trans h)

/-- laws.eqParam -/
noncomputable def C141 : Cal := ⟨141, [⟨.ro, .pair (.str) (.int .i64)⟩, ⟨.ro, .pair (.str) (.int .i64)⟩], [⟨.bool, .ro⟩], fun x => laws_eqParam x.1 x.2.1⟩
def H141 : Hn := .z
noncomputable def E141 : Env := ⟨tab, [], 2, 15⟩
theorem d141 : (fun (x : HL (pts C141.ps)) => den E141 (Tryd.f141.body.getD .skip) H141 (initS 15 C141.ps x) (retK tab [] C141.ps C141.rs [.tmp 4]) (fun _ _ => none) (retK tab [] C141.ps C141.rs [.tmp 4])) = C141.F := by kernel_rfl
theorem c141 : Cok Tryd.prog C141 := by
  exact cok_of_den (E := E141) (fn := Tryd.f141) (code := Tryd.f141.body.getD .skip) (hn := H141) (gr := []) (is := [.tmp 4]) ⟨tabOk, (fun c hc => by cases hc), mixOk⟩ ⟨by kernel_rfl, by kernel_rfl, by kernel_rfl, by kernel_rfl, by kernel_rfl, by decide, by kernel_rfl⟩ (fun x y h => (congrFun d141 x).trans h)

/-- laws.eqParamS -/
noncomputable def C121 : Cal := ⟨121, [⟨.ro, .list 124 (.pair (.str) (.int .i64))⟩, ⟨.ro, .list 124 (.pair (.str) (.int .i64))⟩], [⟨.bool, .ro⟩], fun x => laws_eqParamS x.1 x.2.1⟩
def H121 : Hn := (.n ⟨[], [], none, false, []⟩ .z (.n ⟨[], [], none, false, []⟩ .z (.n ⟨[], [], none, false, []⟩ (.n ⟨[], [], none, false, []⟩ .z (.n ⟨[], [], (some ⟨[], [], []⟩), true, []⟩ (.n ⟨[], [], (some ⟨[.snp 0 (.list 124 (.pair (.str) (.int .i64))) [], .snp 1 (.list 124 (.pair (.str) (.int .i64))) [], .snp 5 (.int .i64) []], [], []⟩), false, []⟩ (.n ⟨[], [], none, false, []⟩ .z (.n ⟨[], [], none, false, []⟩ (.n ⟨[], [], none, false, []⟩ (.n ⟨[], [], none, false, []⟩ (.n ⟨[], [], none, false, [(0, ⟨[], .ro, [17], [], none⟩), (1, ⟨[], .ro, [18], [], none⟩), (2, ⟨[], .ro, [19], [], none⟩), (3, ⟨[], .ro, [20], [], none⟩), (4, ⟨[], .ro, [21], [], none⟩), (5, ⟨[], .ro, [22], [], none⟩), (6, ⟨[], .ro, [23], [], none⟩), (7, ⟨[], .ro, [24], [], none⟩), (8, ⟨[], .ro, [25], [], none⟩), (9, ⟨[], .ro, [26], [], none⟩)]⟩ .z .z) .z) .z) .z)) .z) .z)) .z)))
noncomputable def E121 : Env := ⟨tab, [C141], 2, 27⟩
theorem d121 : (fun (x : HL (pts C121.ps)) => den E121 (Tryd.f121.body.getD .skip) H121 (initS 27 C121.ps x) (retK tab [] C121.ps C121.rs [.tmp 4]) (fun _ _ => none) (retK tab [] C121.ps C121.rs [.tmp 4])) = C121.F := by kernel_rfl
theorem c121 : Cok Tryd.prog C121 := by
  have h141 := c141
  exact cok_of_den (E := E121) (fn := Tryd.f121) (code := Tryd.f121.body.getD .skip) (hn := H121) (gr := []) (is := [.tmp 4]) ⟨tabOk, (fun c hc => by simp only [E121, List.mem_cons, List.not_mem_nil, or_false] at hc; rcases hc with rfl <;> assumption), mixOk⟩ ⟨by kernel_rfl, by kernel_rfl, by kernel_rfl, by kernel_rfl, by kernel_rfl, by decide, by kernel_rfl⟩ (fun x y h => (congrFun d121 x).trans h)

/-- laws.eqFn -/
noncomputable def C97 : Cal := ⟨97, [⟨.ro, .pair (.str) (.pair (.list 124 (.pair (.str) (.int .i64))) (.pair (.int .i64) (.pair (.int .i64) (.int .i64))))⟩, ⟨.ro, .pair (.str) (.pair (.list 124 (.pair (.str) (.int .i64))) (.pair (.int .i64) (.pair (.int .i64) (.int .i64))))⟩], [⟨.bool, .ro⟩], fun x => laws_eqFn x.1 x.2.1⟩
def H97 : Hn := (.n ⟨[], [], none, false, []⟩ (.n ⟨[], [], none, false, [(0, ⟨[], .pr (.ro) (.pr (.own (.ro)) (.ro)), [], [], none⟩), (1, ⟨[], .pr (.ro) (.pr (.own (.ro)) (.ro)), [], [], none⟩)]⟩ .z .z) .z)
noncomputable def E97 : Env := ⟨tab, [C121], 2, 31⟩
theorem d97 : (fun (x : HL (pts C97.ps)) => den E97 (Tryd.f97.body.getD .skip) H97 (initS 31 C97.ps x) (retK tab [] C97.ps C97.rs [.tmp 4]) (fun _ _ => none) (retK tab [] C97.ps C97.rs [.tmp 4])) = C97.F := by kernel_rfl
theorem c97 : Cok Tryd.prog C97 := by
  have h121 := c121
  exact cok_of_den (E := E97) (fn := Tryd.f97) (code := Tryd.f97.body.getD .skip) (hn := H97) (gr := []) (is := [.tmp 4]) ⟨tabOk, (fun c hc => by simp only [E97, List.mem_cons, List.not_mem_nil, or_false] at hc; rcases hc with rfl <;> assumption), mixOk⟩ ⟨by kernel_rfl, by kernel_rfl, by kernel_rfl, by kernel_rfl, by kernel_rfl, by decide, by kernel_rfl⟩ (fun x y h => (congrFun d97 x).trans h)

/-- laws.eqFnS -/
noncomputable def C71 : Cal := ⟨71, [⟨.ro, .list 90 (.pair (.str) (.pair (.list 124 (.pair (.str) (.int .i64))) (.pair (.int .i64) (.pair (.int .i64) (.int .i64)))))⟩, ⟨.ro, .list 90 (.pair (.str) (.pair (.list 124 (.pair (.str) (.int .i64))) (.pair (.int .i64) (.pair (.int .i64) (.int .i64)))))⟩], [⟨.bool, .ro⟩], fun x => laws_eqFnS x.1 x.2.1⟩
def H71 : Hn := (.n ⟨[], [], none, false, []⟩ .z (.n ⟨[], [], none, false, []⟩ .z (.n ⟨[], [], none, false, []⟩ (.n ⟨[], [], none, false, []⟩ .z (.n ⟨[], [], (some ⟨[], [], []⟩), true, []⟩ (.n ⟨[], [], (some ⟨[.snp 0 (.list 90 (.pair (.str) (.pair (.list 124 (.pair (.str) (.int .i64))) (.pair (.int .i64) (.pair (.int .i64) (.int .i64)))))) [], .snp 1 (.list 90 (.pair (.str) (.pair (.list 124 (.pair (.str) (.int .i64))) (.pair (.int .i64) (.pair (.int .i64) (.int .i64)))))) [], .snp 5 (.int .i64) []], [], []⟩), false, []⟩ (.n ⟨[], [], none, false, []⟩ .z (.n ⟨[], [], none, false, []⟩ (.n ⟨[], [], none, false, []⟩ (.n ⟨[], [], none, false, []⟩ (.n ⟨[], [], none, false, [(0, ⟨[], .ro, [17], [], none⟩), (1, ⟨[], .ro, [18], [], none⟩), (2, ⟨[], .ro, [19], [], none⟩), (3, ⟨[], .ro, [20], [], none⟩), (4, ⟨[], .ro, [21], [], none⟩), (5, ⟨[], .ro, [22], [], none⟩), (6, ⟨[], .ro, [23], [], none⟩), (7, ⟨[], .ro, [24], [], none⟩), (8, ⟨[], .ro, [25], [], none⟩), (9, ⟨[], .ro, [26], [], none⟩)]⟩ .z .z) .z) .z) .z)) .z) .z)) .z)))
noncomputable def E71 : Env := ⟨tab, [C97], 2, 27⟩
theorem d71 : (fun (x : HL (pts C71.ps)) => den E71 (Tryd.f71.body.getD .skip) H71 (initS 27 C71.ps x) (retK tab [] C71.ps C71.rs [.tmp 4]) (fun _ _ => none) (retK tab [] C71.ps C71.rs [.tmp 4])) = C71.F := by kernel_rfl
theorem c71 : Cok Tryd.prog C71 := by
  have h97 := c97
  exact cok_of_den (E := E71) (fn := Tryd.f71) (code := Tryd.f71.body.getD .skip) (hn := H71) (gr := []) (is := [.tmp 4]) ⟨tabOk, (fun c hc => by simp only [E71, List.mem_cons, List.not_mem_nil, or_false] at hc; rcases hc with rfl <;> assumption), mixOk⟩ ⟨by kernel_rfl, by kernel_rfl, by kernel_rfl, by kernel_rfl, by kernel_rfl, by decide, by kernel_rfl⟩ (fun x y h => (congrFun d71 x).trans h)

/-- laws.eqProgram -/
noncomputable def C27 : Cal := ⟨27, [⟨.ro, .pair (.list 83 (.pair (.int .i64) (.pair (.int .i64) (.pair (.str) (.list 3 (.int .i64)))))) (.list 90 (.pair (.str) (.pair (.list 124 (.pair (.str) (.int .i64))) (.pair (.int .i64) (.pair (.int .i64) (.int .i64))))))⟩, ⟨.ro, .pair (.list 83 (.pair (.int .i64) (.pair (.int .i64) (.pair (.str) (.list 3 (.int .i64)))))) (.list 90 (.pair (.str) (.pair (.list 124 (.pair (.str) (.int .i64))) (.pair (.int .i64) (.pair (.int .i64) (.int .i64))))))⟩], [⟨.bool, .ro⟩], fun x => laws_eqProgram x.1 x.2.1⟩
def H27 : Hn := (.n ⟨[], [], none, false, []⟩ (.n ⟨[], [], none, false, [(0, ⟨[], .pr (.own (.pr (.ro) (.pr (.ro) (.pr (.ro) (.own (.ro)))))) (.own (.pr (.ro) (.pr (.own (.ro)) (.ro)))), [], [], none⟩), (1, ⟨[], .pr (.own (.pr (.ro) (.pr (.ro) (.pr (.ro) (.own (.ro)))))) (.own (.pr (.ro) (.pr (.own (.ro)) (.ro)))), [], [], none⟩)]⟩ .z .z) .z)
noncomputable def E27 : Env := ⟨tab, [C70, C71], 2, 17⟩
theorem d27 : (fun (x : HL (pts C27.ps)) => den E27 (Tryd.f27.body.getD .skip) H27 (initS 17 C27.ps x) (retK tab [] C27.ps C27.rs [.tmp 4]) (fun _ _ => none) (retK tab [] C27.ps C27.rs [.tmp 4])) = C27.F := by kernel_rfl
theorem c27 : Cok Tryd.prog C27 := by
  have h70 := c70
  have h71 := c71
  exact cok_of_den (E := E27) (fn := Tryd.f27) (code := Tryd.f27.body.getD .skip) (hn := H27) (gr := []) (is := [.tmp 4]) ⟨tabOk, (fun c hc => by simp only [E27, List.mem_cons, List.not_mem_nil, or_false] at hc; rcases hc with rfl | rfl <;> assumption), mixOk⟩ ⟨by kernel_rfl, by kernel_rfl, by kernel_rfl, by kernel_rfl, by kernel_rfl, by decide, by kernel_rfl⟩ (fun x y h => (congrFun d27 x).trans h)

/-- laws.FnExactSameBlocks -/
noncomputable def C6 : Cal := ⟨6, [⟨.ro, .pair (.list 110 (.pair (.int .i64) (.pair (.int .i64) (.pair (.str) (.list 3 (.int .i64)))))) (.list 114 (.pair (.str) (.pair (.list 147 (.pair (.str) (.int .i64))) (.pair (.int .i64) (.pair (.int .i64) (.int .i64))))))⟩, ⟨.ro, .int .i64⟩], [⟨.bool, .ro⟩], fun x => laws_FnExactSameBlocks x.1 x.2.1⟩
def H6 : Hn := (.n ⟨[], [], none, false, []⟩ (.n ⟨[], [], none, false, [(0, ⟨[], .pr (.own (.pr (.ro) (.pr (.ro) (.pr (.ro) (.own (.ro)))))) (.own (.pr (.ro) (.pr (.own (.ro)) (.ro)))), [], [], none⟩)]⟩ .z .z) (.n ⟨[], [], none, false, []⟩ .z (.n ⟨[], [], none, false, []⟩ .z (.n ⟨[], [], none, false, []⟩ .z (.n ⟨[], [], none, false, []⟩ .z (.n ⟨[], [], none, false, []⟩ (.n ⟨[], [], none, false, [(2, ⟨[], .pr (.own (.pr (.ro) (.pr (.ro) (.pr (.ro) (.own (.ro)))))) (.own (.pr (.ro) (.pr (.own (.ro)) (.ro)))), [], [], none⟩), (3, ⟨[], .pr (.own (.pr (.ro) (.pr (.ro) (.pr (.ro) (.own (.ro)))))) (.own (.pr (.ro) (.pr (.own (.ro)) (.ro)))), [], [], none⟩)]⟩ .z .z) (.n ⟨[], [], none, false, []⟩ .z (.n ⟨[], [], none, false, []⟩ .z (.n ⟨[], [], none, false, []⟩ (.n ⟨[], [], none, false, []⟩ (.n ⟨[], [], none, false, [(0, ⟨[], .ro, [26], [], none⟩), (1, ⟨[], .ro, [27], [], none⟩), (2, ⟨[], .ro, [28], [], none⟩), (3, ⟨[], .ro, [29], [], none⟩), (4, ⟨[], .ro, [30], [], none⟩)]⟩ .z .z) .z) .z)))))))))
noncomputable def E6 : Env := ⟨tab, [C23, C25, C24, C26, C27], 2, 31⟩
theorem d6 : (fun (x : HL (pts C6.ps)) => den E6 (Tryd.f6.body.getD .skip) H6 (initS 31 C6.ps x) (retK tab [] C6.ps C6.rs [.tmp 4]) (fun _ _ => none) (retK tab [] C6.ps C6.rs [.tmp 4])) = C6.F := by kernel_rfl
theorem c6 : Cok Tryd.prog C6 := by
  have h23 := c23
  have h25 := c25
  have h24 := c24
  have h26 := c26
  have h27 := c27
  exact cok_of_den (E := E6) (fn := Tryd.f6) (code := Tryd.f6.body.getD .skip) (hn := H6) (gr := []) (is := [.tmp 4]) ⟨tabOk, (fun c hc => by simp only [E6, List.mem_cons, List.not_mem_nil, or_false] at hc; rcases hc with rfl | rfl | rfl | rfl | rfl <;> assumption), mixOk⟩ ⟨by kernel_rfl, by kernel_rfl, by kernel_rfl, by kernel_rfl, by kernel_rfl, by decide, by kernel_rfl⟩ (fun x y h => (congrFun d6 x).trans h)

/-- spec.SameProgram -/
noncomputable def C72 : Cal := ⟨72, [⟨.ro, .pair (.list 83 (.pair (.int .i64) (.pair (.int .i64) (.pair (.str) (.list 3 (.int .i64)))))) (.list 90 (.pair (.str) (.pair (.list 124 (.pair (.str) (.int .i64))) (.pair (.int .i64) (.pair (.int .i64) (.int .i64))))))⟩, ⟨.ro, .pair (.list 83 (.pair (.int .i64) (.pair (.int .i64) (.pair (.str) (.list 3 (.int .i64)))))) (.list 90 (.pair (.str) (.pair (.list 124 (.pair (.str) (.int .i64))) (.pair (.int .i64) (.pair (.int .i64) (.int .i64))))))⟩], [⟨.bool, .ro⟩], fun x => spec_SameProgram x.1 x.2.1⟩
def H72 : Hn := (.n ⟨[], [], none, false, []⟩ (.n ⟨[], [], none, false, [(0, ⟨[], .pr (.own (.pr (.ro) (.pr (.ro) (.pr (.ro) (.own (.ro)))))) (.own (.pr (.ro) (.pr (.own (.ro)) (.ro)))), [], [], none⟩), (1, ⟨[], .pr (.own (.pr (.ro) (.pr (.ro) (.pr (.ro) (.own (.ro)))))) (.own (.pr (.ro) (.pr (.own (.ro)) (.ro)))), [], [], none⟩)]⟩ .z .z) (.n ⟨[], [], none, false, []⟩ .z (.n ⟨[], [], none, false, []⟩ (.n ⟨[], [], none, false, []⟩ .z (.n ⟨[], [], (some ⟨[], [], []⟩), true, []⟩ (.n ⟨[], [], (some ⟨[.snp 5 (.int .i64) [], .box 2 true (.pair (.list 83 (.pair (.int .i64) (.pair (.int .i64) (.pair (.str) (.list 3 (.int .i64)))))) (.list 90 (.pair (.str) (.pair (.list 124 (.pair (.str) (.int .i64))) (.pair (.int .i64) (.pair (.int .i64) (.int .i64))))))) (.ro), .box 3 true (.pair (.list 83 (.pair (.int .i64) (.pair (.int .i64) (.pair (.str) (.list 3 (.int .i64)))))) (.list 90 (.pair (.str) (.pair (.list 124 (.pair (.str) (.int .i64))) (.pair (.int .i64) (.pair (.int .i64) (.int .i64))))))) (.ro)], [(2, ⟨5, []⟩), (3, ⟨7, []⟩)], []⟩), false, []⟩ (.n ⟨[], [], none, false, []⟩ .z (.n ⟨[], [], none, false, []⟩ (.n ⟨[], [], (some ⟨[.snp 5 (.int .i64) [], .box 2 true (.pair (.list 83 (.pair (.int .i64) (.pair (.int .i64) (.pair (.str) (.list 3 (.int .i64)))))) (.list 90 (.pair (.str) (.pair (.list 124 (.pair (.str) (.int .i64))) (.pair (.int .i64) (.pair (.int .i64) (.int .i64))))))) (.ro), .box 3 true (.pair (.list 83 (.pair (.int .i64) (.pair (.int .i64) (.pair (.str) (.list 3 (.int .i64)))))) (.list 90 (.pair (.str) (.pair (.list 124 (.pair (.str) (.int .i64))) (.pair (.int .i64) (.pair (.int .i64) (.int .i64))))))) (.ro)], [(2, ⟨5, []⟩), (3, ⟨7, []⟩)], []⟩), true, []⟩ (.n ⟨[], [], none, false, []⟩ (.n ⟨[], [], none, false, [(5, ⟨[], .pr (.ro) (.pr (.own (.ro)) (.ro)), [], [], none⟩), (6, ⟨[], .pr (.ro) (.pr (.own (.ro)) (.ro)), [], [], none⟩)]⟩ .z .z) (.n ⟨[], [], none, false, []⟩ (.n ⟨[], [], none, false, [(5, ⟨[], .pr (.ro) (.pr (.own (.ro)) (.ro)), [], [], none⟩), (6, ⟨[], .pr (.ro) (.pr (.own (.ro)) (.ro)), [], [], none⟩)]⟩ .z .z) (.n ⟨[], [], none, false, []⟩ (.n ⟨[], [], none, false, []⟩ (.n ⟨[], [], (some ⟨[.snp 5 (.int .i64) [], .snp 62 (.bool) [], .box 2 true (.pair (.list 83 (.pair (.int .i64) (.pair (.int .i64) (.pair (.str) (.list 3 (.int .i64)))))) (.list 90 (.pair (.str) (.pair (.list 124 (.pair (.str) (.int .i64))) (.pair (.int .i64) (.pair (.int .i64) (.int .i64))))))) (.ro), .box 3 true (.pair (.list 83 (.pair (.int .i64) (.pair (.int .i64) (.pair (.str) (.list 3 (.int .i64)))))) (.list 90 (.pair (.str) (.pair (.list 124 (.pair (.str) (.int .i64))) (.pair (.int .i64) (.pair (.int .i64) (.int .i64))))))) (.ro), .box 6 true (.pair (.str) (.pair (.list 124 (.pair (.str) (.int .i64))) (.pair (.int .i64) (.pair (.int .i64) (.int .i64))))) (.ro), .box 7 true (.pair (.str) (.pair (.list 124 (.pair (.str) (.int .i64))) (.pair (.int .i64) (.pair (.int .i64) (.int .i64))))) (.ro)], [(2, ⟨5, []⟩), (3, ⟨7, []⟩), (6, ⟨13, []⟩), (7, ⟨15, []⟩)], []⟩), false, []⟩ .z .z) .z) (.n ⟨[], [], none, false, []⟩ (.n ⟨[], [], none, false, []⟩ .z (.n ⟨[], [], (some ⟨[.snp 5 (.int .i64) [], .box 2 true (.pair (.list 83 (.pair (.int .i64) (.pair (.int .i64) (.pair (.str) (.list 3 (.int .i64)))))) (.list 90 (.pair (.str) (.pair (.list 124 (.pair (.str) (.int .i64))) (.pair (.int .i64) (.pair (.int .i64) (.int .i64))))))) (.ro), .box 3 true (.pair (.list 83 (.pair (.int .i64) (.pair (.int .i64) (.pair (.str) (.list 3 (.int .i64)))))) (.list 90 (.pair (.str) (.pair (.list 124 (.pair (.str) (.int .i64))) (.pair (.int .i64) (.pair (.int .i64) (.int .i64))))))) (.ro), .box 6 true (.pair (.str) (.pair (.list 124 (.pair (.str) (.int .i64))) (.pair (.int .i64) (.pair (.int .i64) (.int .i64))))) (.ro), .box 7 true (.pair (.str) (.pair (.list 124 (.pair (.str) (.int .i64))) (.pair (.int .i64) (.pair (.int .i64) (.int .i64))))) (.ro)], [(2, ⟨5, []⟩), (3, ⟨7, []⟩), (6, ⟨13, []⟩), (7, ⟨15, []⟩)], []⟩), true, []⟩ (.n ⟨[], [], (some ⟨[.snp 5 (.int .i64) [], .snp 8 (.int .i64) [], .box 2 true (.pair (.list 83 (.pair (.int .i64) (.pair (.int .i64) (.pair (.str) (.list 3 (.int .i64)))))) (.list 90 (.pair (.str) (.pair (.list 124 (.pair (.str) (.int .i64))) (.pair (.int .i64) (.pair (.int .i64) (.int .i64))))))) (.ro), .box 3 true (.pair (.list 83 (.pair (.int .i64) (.pair (.int .i64) (.pair (.str) (.list 3 (.int .i64)))))) (.list 90 (.pair (.str) (.pair (.list 124 (.pair (.str) (.int .i64))) (.pair (.int .i64) (.pair (.int .i64) (.int .i64))))))) (.ro), .box 6 true (.pair (.str) (.pair (.list 124 (.pair (.str) (.int .i64))) (.pair (.int .i64) (.pair (.int .i64) (.int .i64))))) (.ro), .box 7 true (.pair (.str) (.pair (.list 124 (.pair (.str) (.int .i64))) (.pair (.int .i64) (.pair (.int .i64) (.int .i64))))) (.ro)], [(2, ⟨5, []⟩), (3, ⟨7, []⟩), (6, ⟨13, []⟩), (7, ⟨15, []⟩)], []⟩), false, []⟩ (.n ⟨[], [], none, false, []⟩ .z (.n ⟨[], [], none, false, []⟩ (.n ⟨[], [], none, false, []⟩ (.n ⟨[], [], none, false, []⟩ (.n ⟨[], [], none, false, [(0, ⟨[], .ro, [70], [], none⟩), (1, ⟨[], .ro, [71], [], none⟩), (2, ⟨[], .ro, [72], [], none⟩), (3, ⟨[], .ro, [73], [], none⟩), (4, ⟨[], .ro, [74], [], none⟩), (5, ⟨[], .ro, [75], [], none⟩), (6, ⟨[], .ro, [76], [], none⟩), (7, ⟨[], .ro, [77], [], none⟩), (8, ⟨[], .ro, [78], [], none⟩), (9, ⟨[], .ro, [79], [], none⟩), (10, ⟨[], .ro, [80], [], none⟩)]⟩ .z .z) .z) .z) .z)) .z) .z)) (.n ⟨[], [], none, false, []⟩ (.n ⟨[], [], (some ⟨[.snp 5 (.int .i64) [], .snp 103 (.bool) [], .box 2 true (.pair (.list 83 (.pair (.int .i64) (.pair (.int .i64) (.pair (.str) (.list 3 (.int .i64)))))) (.list 90 (.pair (.str) (.pair (.list 124 (.pair (.str) (.int .i64))) (.pair (.int .i64) (.pair (.int .i64) (.int .i64))))))) (.ro), .box 3 true (.pair (.list 83 (.pair (.int .i64) (.pair (.int .i64) (.pair (.str) (.list 3 (.int .i64)))))) (.list 90 (.pair (.str) (.pair (.list 124 (.pair (.str) (.int .i64))) (.pair (.int .i64) (.pair (.int .i64) (.int .i64))))))) (.ro)], [(2, ⟨5, []⟩), (3, ⟨7, []⟩)], []⟩), false, []⟩ .z .z) .z))))) .z) .z)) .z) .z)) .z)))
noncomputable def E72 : Env := ⟨tab, [C65], 2, 104⟩
theorem d72 : (fun (x : HL (pts C72.ps)) => den E72 (Tryd.f72.body.getD .skip) H72 (initS 104 C72.ps x) (retK tab [] C72.ps C72.rs [.tmp 4]) (fun _ _ => none) (retK tab [] C72.ps C72.rs [.tmp 4])) = C72.F := by kernel_rfl
theorem c72 : Cok Tryd.prog C72 := by
  have h65 := c65
  exact cok_of_den (E := E72) (fn := Tryd.f72) (code := Tryd.f72.body.getD .skip) (hn := H72) (gr := []) (is := [.tmp 4]) ⟨tabOk, (fun c hc => by simp only [E72, List.mem_cons, List.not_mem_nil, or_false] at hc; rcases hc with rfl <;> assumption), mixOk⟩ ⟨by kernel_rfl, by kernel_rfl, by kernel_rfl, by kernel_rfl, by kernel_rfl, by decide, by kernel_rfl⟩ (fun x y h => (congrFun d72 x).trans h)

/-- spec.SameFn -/
noncomputable def C28 : Cal := ⟨28, [⟨.ro, .pair (.list 83 (.pair (.int .i64) (.pair (.int .i64) (.pair (.str) (.list 3 (.int .i64)))))) (.list 90 (.pair (.str) (.pair (.list 124 (.pair (.str) (.int .i64))) (.pair (.int .i64) (.pair (.int .i64) (.int .i64))))))⟩, ⟨.ro, .int .i64⟩, ⟨.ro, .pair (.list 83 (.pair (.int .i64) (.pair (.int .i64) (.pair (.str) (.list 3 (.int .i64)))))) (.list 90 (.pair (.str) (.pair (.list 124 (.pair (.str) (.int .i64))) (.pair (.int .i64) (.pair (.int .i64) (.int .i64))))))⟩, ⟨.ro, .int .i64⟩], [⟨.bool, .ro⟩], fun x => spec_SameFn x.1 x.2.1 x.2.2.1 x.2.2.2.1⟩
def H28 : Hn := (.n ⟨[], [], none, false, []⟩ (.n ⟨[], [], none, false, [(0, ⟨[], .pr (.own (.pr (.ro) (.pr (.ro) (.pr (.ro) (.own (.ro)))))) (.own (.pr (.ro) (.pr (.own (.ro)) (.ro)))), [], [], none⟩), (1, ⟨[], .pr (.own (.pr (.ro) (.pr (.ro) (.pr (.ro) (.own (.ro)))))) (.own (.pr (.ro) (.pr (.own (.ro)) (.ro)))), [], [], none⟩)]⟩ .z .z) (.n ⟨[], [], none, false, []⟩ (.n ⟨[], [], none, false, []⟩ (.n ⟨[], [], (some ⟨[.snp 1 (.int .i64) [], .snp 3 (.int .i64) [], .snp 26 (.bool) [], .box 4 true (.pair (.list 83 (.pair (.int .i64) (.pair (.int .i64) (.pair (.str) (.list 3 (.int .i64)))))) (.list 90 (.pair (.str) (.pair (.list 124 (.pair (.str) (.int .i64))) (.pair (.int .i64) (.pair (.int .i64) (.int .i64))))))) (.ro), .box 6 true (.pair (.list 83 (.pair (.int .i64) (.pair (.int .i64) (.pair (.str) (.list 3 (.int .i64)))))) (.list 90 (.pair (.str) (.pair (.list 124 (.pair (.str) (.int .i64))) (.pair (.int .i64) (.pair (.int .i64) (.int .i64))))))) (.ro)], [(4, ⟨9, []⟩), (6, ⟨13, []⟩)], []⟩), false, []⟩ .z .z) .z) (.n ⟨[], [], none, false, []⟩ (.n ⟨[], [], none, false, [(5, ⟨[], .pr (.ro) (.pr (.own (.ro)) (.ro)), [], [], none⟩), (6, ⟨[], .pr (.ro) (.pr (.own (.ro)) (.ro)), [], [], none⟩)]⟩ .z .z) (.n ⟨[], [], none, false, []⟩ (.n ⟨[], [], none, false, [(5, ⟨[], .pr (.ro) (.pr (.own (.ro)) (.ro)), [], [], none⟩), (6, ⟨[], .pr (.ro) (.pr (.own (.ro)) (.ro)), [], [], none⟩)]⟩ .z .z) (.n ⟨[], [], none, false, []⟩ (.n ⟨[], [], none, false, [(4, ⟨[], .pr (.own (.pr (.ro) (.pr (.ro) (.pr (.ro) (.own (.ro)))))) (.own (.pr (.ro) (.pr (.own (.ro)) (.ro)))), [], [], none⟩), (9, ⟨[], .pr (.own (.pr (.ro) (.pr (.ro) (.pr (.ro) (.own (.ro)))))) (.own (.pr (.ro) (.pr (.own (.ro)) (.ro)))), [], [], none⟩)]⟩ .z .z) .z)))))
noncomputable def E28 : Env := ⟨tab, [C33, C72], 4, 48⟩
theorem d28 : (fun (x : HL (pts C28.ps)) => den E28 (Tryd.f28.body.getD .skip) H28 (initS 48 C28.ps x) (retK tab [] C28.ps C28.rs [.tmp 8]) (fun _ _ => none) (retK tab [] C28.ps C28.rs [.tmp 8])) = C28.F := by kernel_rfl
theorem c28 : Cok Tryd.prog C28 := by
  have h33 := c33
  have h72 := c72
  exact cok_of_den (E := E28) (fn := Tryd.f28) (code := Tryd.f28.body.getD .skip) (hn := H28) (gr := []) (is := [.tmp 8]) ⟨tabOk, (fun c hc => by simp only [E28, List.mem_cons, List.not_mem_nil, or_false] at hc; rcases hc with rfl | rfl <;> assumption), mixOk⟩ ⟨by kernel_rfl, by kernel_rfl, by kernel_rfl, by kernel_rfl, by kernel_rfl, by decide, by kernel_rfl⟩ (fun x y h => (congrFun d28 x).trans h)

/-- impl.sameHead -/
noncomputable def C98 : Cal := ⟨98, [⟨.ro, .pair (.str) (.pair (.list 124 (.pair (.str) (.int .i64))) (.pair (.int .i64) (.pair (.int .i64) (.int .i64))))⟩, ⟨.ro, .pair (.str) (.pair (.list 124 (.pair (.str) (.int .i64))) (.pair (.int .i64) (.pair (.int .i64) (.int .i64))))⟩], [⟨.bool, .ro⟩], fun x => impl_sameHead x.1 x.2.1⟩
def H98 : Hn := (.n ⟨[], [], none, false, []⟩ (.n ⟨[], [], none, false, [(0, ⟨[], .pr (.ro) (.pr (.own (.ro)) (.ro)), [], [], none⟩), (1, ⟨[], .pr (.ro) (.pr (.own (.ro)) (.ro)), [], [], none⟩)]⟩ .z .z) (.n ⟨[], [], none, false, []⟩ (.n ⟨[], [], none, false, []⟩ (.n ⟨[], [], (some ⟨[.snp 26 (.bool) [], .box 2 true (.pair (.str) (.pair (.list 124 (.pair (.str) (.int .i64))) (.pair (.int .i64) (.pair (.int .i64) (.int .i64))))) (.ro), .box 3 true (.pair (.str) (.pair (.list 124 (.pair (.str) (.int .i64))) (.pair (.int .i64) (.pair (.int .i64) (.int .i64))))) (.ro)], [(2, ⟨5, []⟩), (3, ⟨7, []⟩)], []⟩), false, []⟩ .z .z) .z) (.n ⟨[], [], none, false, []⟩ (.n ⟨[], [], none, false, []⟩ .z (.n ⟨[], [], (some ⟨[], [], []⟩), true, []⟩ (.n ⟨[], [], (some ⟨[.snp 29 (.int .i64) [], .snp 30 (.int .i64) [], .box 2 true (.pair (.str) (.pair (.list 124 (.pair (.str) (.int .i64))) (.pair (.int .i64) (.pair (.int .i64) (.int .i64))))) (.ro), .box 3 true (.pair (.str) (.pair (.list 124 (.pair (.str) (.int .i64))) (.pair (.int .i64) (.pair (.int .i64) (.int .i64))))) (.ro)], [(2, ⟨5, []⟩), (3, ⟨7, []⟩)], []⟩), false, []⟩ (.n ⟨[], [], none, false, []⟩ .z (.n ⟨[], [], none, false, []⟩ .z (.n ⟨[], [], none, false, []⟩ (.n ⟨[], [], none, false, []⟩ (.n ⟨[], [], none, false, []⟩ .z (.n ⟨[], [], none, false, []⟩ (.n ⟨[], [], none, false, [(0, ⟨[], .ro, [33], [], none⟩), (1, ⟨[], .ro, [34], [], none⟩), (2, ⟨[], .ro, [35], [], none⟩), (3, ⟨[], .ro, [36], [], none⟩), (4, ⟨[], .ro, [37], [], none⟩), (5, ⟨[], .ro, [38], [], none⟩), (6, ⟨[], .ro, [39], [], none⟩), (7, ⟨[], .ro, [40], [], none⟩), (8, ⟨[], .ro, [41], [], none⟩), (9, ⟨[], .ro, [42], [], none⟩), (10, ⟨[], .ro, [43], [], none⟩)]⟩ .z .z) .z)) .z) .z))) .z) .z)) .z)))
noncomputable def E98 : Env := ⟨tab, [], 2, 45⟩
theorem d98 : (fun (x : HL (pts C98.ps)) => den E98 (Tryd.f98.body.getD .skip) H98 (initS 45 C98.ps x) (retK tab [] C98.ps C98.rs [.tmp 4]) (fun _ _ => none) (retK tab [] C98.ps C98.rs [.tmp 4])) = C98.F := by kernel_rfl
theorem c98 : Cok Tryd.prog C98 := by
  exact cok_of_den (E := E98) (fn := Tryd.f98) (code := Tryd.f98.body.getD .skip) (hn := H98) (gr := []) (is := [.tmp 4]) ⟨tabOk, (fun c hc => by cases hc), mixOk⟩ ⟨by kernel_rfl, by kernel_rfl, by kernel_rfl, by kernel_rfl, by kernel_rfl, by decide, by kernel_rfl⟩ (fun x y h => (congrFun d98 x).trans h)

/-- impl.SameTree -/
noncomputable def C99 : Cal := ⟨99, [⟨.ro, .pair (.list 83 (.pair (.int .i64) (.pair (.int .i64) (.pair (.str) (.list 3 (.int .i64)))))) (.list 90 (.pair (.str) (.pair (.list 124 (.pair (.str) (.int .i64))) (.pair (.int .i64) (.pair (.int .i64) (.int .i64))))))⟩, ⟨.ro, .int .i64⟩, ⟨.ro, .pair (.list 83 (.pair (.int .i64) (.pair (.int .i64) (.pair (.str) (.list 3 (.int .i64)))))) (.list 90 (.pair (.str) (.pair (.list 124 (.pair (.str) (.int .i64))) (.pair (.int .i64) (.pair (.int .i64) (.int .i64))))))⟩, ⟨.ro, .int .i64⟩], [⟨.bool, .ro⟩], fun x => impl_SameTree x.1 x.2.1 x.2.2.1 x.2.2.2.1⟩
def H99 : Hn := (.n ⟨[], [], none, false, []⟩ (.n ⟨[], [], none, false, [(0, ⟨[], .pr (.own (.pr (.ro) (.pr (.ro) (.pr (.ro) (.own (.ro)))))) (.own (.pr (.ro) (.pr (.own (.ro)) (.ro)))), [], [], none⟩), (1, ⟨[], .pr (.own (.pr (.ro) (.pr (.ro) (.pr (.ro) (.own (.ro)))))) (.own (.pr (.ro) (.pr (.own (.ro)) (.ro)))), [], [], none⟩)]⟩ .z .z) (.n ⟨[], [], none, false, []⟩ (.n ⟨[], [], (some ⟨[.snp 8 (.bool) []], [], []⟩), false, []⟩ .z .z) .z))
noncomputable def E99 : Env := ⟨tab, [C68, C69], 4, 28⟩
theorem d99 : (fun (x : HL (pts C99.ps)) => den E99 (Tryd.f99.body.getD .skip) H99 (initS 28 C99.ps x) (retK tab [] C99.ps C99.rs [.tmp 8]) (fun _ _ => none) (retK tab [] C99.ps C99.rs [.tmp 8])) = C99.F := by kernel_rfl
theorem c99 : Cok Tryd.prog C99 := by
  have h68 := c68
  have h69 := c69
  exact cok_of_den (E := E99) (fn := Tryd.f99) (code := Tryd.f99.body.getD .skip) (hn := H99) (gr := []) (is := [.tmp 8]) ⟨tabOk, (fun c hc => by simp only [E99, List.mem_cons, List.not_mem_nil, or_false] at hc; rcases hc with rfl | rfl <;> assumption), mixOk⟩ ⟨by kernel_rfl, by kernel_rfl, by kernel_rfl, by kernel_rfl, by kernel_rfl, by decide, by kernel_rfl⟩ (fun x y h => (congrFun d99 x).trans h)

/-- impl.sameFns -/
noncomputable def C73 : Cal := ⟨73, [⟨.ro, .pair (.list 83 (.pair (.int .i64) (.pair (.int .i64) (.pair (.str) (.list 3 (.int .i64)))))) (.list 90 (.pair (.str) (.pair (.list 124 (.pair (.str) (.int .i64))) (.pair (.int .i64) (.pair (.int .i64) (.int .i64))))))⟩, ⟨.ro, .pair (.str) (.pair (.list 124 (.pair (.str) (.int .i64))) (.pair (.int .i64) (.pair (.int .i64) (.int .i64))))⟩, ⟨.ro, .pair (.list 83 (.pair (.int .i64) (.pair (.int .i64) (.pair (.str) (.list 3 (.int .i64)))))) (.list 90 (.pair (.str) (.pair (.list 124 (.pair (.str) (.int .i64))) (.pair (.int .i64) (.pair (.int .i64) (.int .i64))))))⟩, ⟨.ro, .pair (.str) (.pair (.list 124 (.pair (.str) (.int .i64))) (.pair (.int .i64) (.pair (.int .i64) (.int .i64))))⟩], [⟨.bool, .ro⟩], fun x => impl_sameFns x.1 x.2.1 x.2.2.1 x.2.2.2.1⟩
def H73 : Hn := (.n ⟨[], [], none, false, []⟩ (.n ⟨[], [], none, false, [(0, ⟨[], .pr (.own (.pr (.ro) (.pr (.ro) (.pr (.ro) (.own (.ro)))))) (.own (.pr (.ro) (.pr (.own (.ro)) (.ro)))), [], [], none⟩), (1, ⟨[], .pr (.ro) (.pr (.own (.ro)) (.ro)), [], [], none⟩), (2, ⟨[], .pr (.own (.pr (.ro) (.pr (.ro) (.pr (.ro) (.own (.ro)))))) (.own (.pr (.ro) (.pr (.own (.ro)) (.ro)))), [], [], none⟩), (3, ⟨[], .pr (.ro) (.pr (.own (.ro)) (.ro)), [], [], none⟩)]⟩ .z .z) (.n ⟨[], [], none, false, []⟩ (.n ⟨[], [], none, false, []⟩ (.n ⟨[], [], (some ⟨[.snp 31 (.bool) [], .box 4 true (.pair (.list 83 (.pair (.int .i64) (.pair (.int .i64) (.pair (.str) (.list 3 (.int .i64)))))) (.list 90 (.pair (.str) (.pair (.list 124 (.pair (.str) (.int .i64))) (.pair (.int .i64) (.pair (.int .i64) (.int .i64))))))) (.ro), .box 5 true (.pair (.str) (.pair (.list 124 (.pair (.str) (.int .i64))) (.pair (.int .i64) (.pair (.int .i64) (.int .i64))))) (.ro), .box 6 true (.pair (.list 83 (.pair (.int .i64) (.pair (.int .i64) (.pair (.str) (.list 3 (.int .i64)))))) (.list 90 (.pair (.str) (.pair (.list 124 (.pair (.str) (.int .i64))) (.pair (.int .i64) (.pair (.int .i64) (.int .i64))))))) (.ro), .box 7 true (.pair (.str) (.pair (.list 124 (.pair (.str) (.int .i64))) (.pair (.int .i64) (.pair (.int .i64) (.int .i64))))) (.ro)], [(4, ⟨9, []⟩), (5, ⟨11, []⟩), (6, ⟨13, []⟩), (7, ⟨15, []⟩)], []⟩), false, []⟩ .z .z) .z) (.n ⟨[], [], none, false, []⟩ (.n ⟨[], [], (some ⟨[.snp 8 (.bool) []], [], []⟩), false, []⟩ .z .z) .z)))
noncomputable def E73 : Env := ⟨tab, [C98, C99], 4, 44⟩
theorem d73 : (fun (x : HL (pts C73.ps)) => den E73 (Tryd.f73.body.getD .skip) H73 (initS 44 C73.ps x) (retK tab [] C73.ps C73.rs [.tmp 8]) (fun _ _ => none) (retK tab [] C73.ps C73.rs [.tmp 8])) = C73.F := by kernel_rfl
theorem c73 : Cok Tryd.prog C73 := by
  have h98 := c98
  have h99 := c99
  exact cok_of_den (E := E73) (fn := Tryd.f73) (code := Tryd.f73.body.getD .skip) (hn := H73) (gr := []) (is := [.tmp 8]) ⟨tabOk, (fun c hc => by simp only [E73, List.mem_cons, List.not_mem_nil, or_false] at hc; rcases hc with rfl | rfl <;> assumption), mixOk⟩ ⟨by kernel_rfl, by kernel_rfl, by kernel_rfl, by kernel_rfl, by kernel_rfl, by decide, by kernel_rfl⟩ (fun x y h => (congrFun d73 x).trans h)

/-- impl.SameFn -/
noncomputable def C29 : Cal := ⟨29, [⟨.ro, .pair (.list 83 (.pair (.int .i64) (.pair (.int .i64) (.pair (.str) (.list 3 (.int .i64)))))) (.list 90 (.pair (.str) (.pair (.list 124 (.pair (.str) (.int .i64))) (.pair (.int .i64) (.pair (.int .i64) (.int .i64))))))⟩, ⟨.ro, .int .i64⟩, ⟨.ro, .pair (.list 83 (.pair (.int .i64) (.pair (.int .i64) (.pair (.str) (.list 3 (.int .i64)))))) (.list 90 (.pair (.str) (.pair (.list 124 (.pair (.str) (.int .i64))) (.pair (.int .i64) (.pair (.int .i64) (.int .i64))))))⟩, ⟨.ro, .int .i64⟩], [⟨.bool, .ro⟩], fun x => impl_SameFn x.1 x.2.1 x.2.2.1 x.2.2.2.1⟩
def H29 : Hn := (.n ⟨[], [], none, false, []⟩ (.n ⟨[], [], none, false, [(0, ⟨[], .pr (.own (.pr (.ro) (.pr (.ro) (.pr (.ro) (.own (.ro)))))) (.own (.pr (.ro) (.pr (.own (.ro)) (.ro)))), [], [], none⟩), (1, ⟨[], .pr (.own (.pr (.ro) (.pr (.ro) (.pr (.ro) (.own (.ro)))))) (.own (.pr (.ro) (.pr (.own (.ro)) (.ro)))), [], [], none⟩)]⟩ .z .z) (.n ⟨[], [], none, false, []⟩ (.n ⟨[], [], (some ⟨[.snp 8 (.bool) []], [], []⟩), false, [(0, ⟨[], .ro, [9], [], none⟩), (1, ⟨[], .ro, [10], [], none⟩), (2, ⟨[], .ro, [11], [], none⟩), (3, ⟨[], .ro, [12], [], none⟩), (4, ⟨[], .ro, [13], [], none⟩), (5, ⟨[], .ro, [14], [], none⟩), (6, ⟨[], .ro, [15], [], none⟩), (7, ⟨[], .ro, [16], [], none⟩), (8, ⟨[], .ro, [17], [], none⟩), (9, ⟨[], .ro, [18], [], none⟩), (10, ⟨[], .ro, [19], [], none⟩), (11, ⟨[], .ro, [20], [], none⟩), (12, ⟨[], .ro, [21], [], none⟩), (13, ⟨[], .ro, [22], [], none⟩), (14, ⟨[], .ro, [23], [], none⟩), (15, ⟨[], .ro, [24], [], none⟩), (16, ⟨[], .ro, [25], [], none⟩), (17, ⟨[], .ro, [26], [], none⟩), (18, ⟨[], .ro, [27], [], none⟩), (19, ⟨[], .ro, [28], [], none⟩), (20, ⟨[], .ro, [29], [], none⟩), (21, ⟨[], .ro, [30], [], none⟩), (22, ⟨[], .ro, [31], [], none⟩), (23, ⟨[], .ro, [32], [], none⟩), (24, ⟨[], .ro, [33], [], none⟩), (25, ⟨[], .ro, [34], [], none⟩), (26, ⟨[], .ro, [35], [], none⟩), (27, ⟨[], .ro, [36], [], none⟩), (28, ⟨[], .ro, [37], [], none⟩), (29, ⟨[], .ro, [8], [], none⟩)]⟩ .z .z) .z))
noncomputable def E29 : Env := ⟨tab, [C39, C73], 4, 38⟩
theorem d29 : (fun (x : HL (pts C29.ps)) => den E29 (Tryd.f29.body.getD .skip) H29 (initS 38 C29.ps x) (retK tab [] C29.ps C29.rs [.tmp 8]) (fun _ _ => none) (retK tab [] C29.ps C29.rs [.tmp 8])) = C29.F := by kernel_rfl
theorem c29 : Cok Tryd.prog C29 := by
  have h39 := c39
  have h73 := c73
  exact cok_of_den (E := E29) (fn := Tryd.f29) (code := Tryd.f29.body.getD .skip) (hn := H29) (gr := []) (is := [.tmp 8]) ⟨tabOk, (fun c hc => by simp only [E29, List.mem_cons, List.not_mem_nil, or_false] at hc; rcases hc with rfl | rfl <;> assumption), mixOk⟩ ⟨by kernel_rfl, by kernel_rfl, by kernel_rfl, by kernel_rfl, by kernel_rfl, by decide, by kernel_rfl⟩ (fun x y h => (congrFun d29 x).trans h)

/-- laws.FnExactSameFn -/
noncomputable def C7 : Cal := ⟨7, [⟨.ro, .pair (.list 110 (.pair (.int .i64) (.pair (.int .i64) (.pair (.str) (.list 3 (.int .i64)))))) (.list 114 (.pair (.str) (.pair (.list 147 (.pair (.str) (.int .i64))) (.pair (.int .i64) (.pair (.int .i64) (.int .i64))))))⟩, ⟨.ro, .int .i64⟩, ⟨.ro, .pair (.list 110 (.pair (.int .i64) (.pair (.int .i64) (.pair (.str) (.list 3 (.int .i64)))))) (.list 114 (.pair (.str) (.pair (.list 147 (.pair (.str) (.int .i64))) (.pair (.int .i64) (.pair (.int .i64) (.int .i64))))))⟩, ⟨.ro, .int .i64⟩], [⟨.bool, .ro⟩], fun x => laws_FnExactSameFn x.1 x.2.1 x.2.2.1 x.2.2.2.1⟩
def H7 : Hn := (.n ⟨[], [], none, false, []⟩ (.n ⟨[], [], none, false, [(0, ⟨[], .pr (.own (.pr (.ro) (.pr (.ro) (.pr (.ro) (.own (.ro)))))) (.own (.pr (.ro) (.pr (.own (.ro)) (.ro)))), [], [], none⟩), (1, ⟨[], .pr (.own (.pr (.ro) (.pr (.ro) (.pr (.ro) (.own (.ro)))))) (.own (.pr (.ro) (.pr (.own (.ro)) (.ro)))), [], [], none⟩)]⟩ .z .z) (.n ⟨[], [], none, false, []⟩ .z (.n ⟨[], [], none, false, []⟩ .z (.n ⟨[], [], none, false, []⟩ .z (.n ⟨[], [], none, false, []⟩ .z (.n ⟨[], [], none, false, []⟩ .z (.n ⟨[], [], none, false, []⟩ (.n ⟨[], [], none, false, [(0, ⟨[], .ro, [24], [], none⟩), (1, ⟨[], .ro, [25], [], none⟩), (2, ⟨[], .ro, [26], [], none⟩), (3, ⟨[], .ro, [27], [], none⟩), (4, ⟨[], .ro, [28], [], none⟩), (5, ⟨[], .ro, [29], [], none⟩), (6, ⟨[], .ro, [30], [], none⟩), (7, ⟨[], .ro, [10], [], none⟩)]⟩ .z .z) (.n ⟨[], [], none, false, []⟩ (.n ⟨[], [], none, false, [(2, ⟨[], .pr (.own (.pr (.ro) (.pr (.ro) (.pr (.ro) (.own (.ro)))))) (.own (.pr (.ro) (.pr (.own (.ro)) (.ro)))), [], [], none⟩), (3, ⟨[], .pr (.own (.pr (.ro) (.pr (.ro) (.pr (.ro) (.own (.ro)))))) (.own (.pr (.ro) (.pr (.own (.ro)) (.ro)))), [], [], none⟩)]⟩ .z .z) (.n ⟨[], [], none, false, []⟩ (.n ⟨[], [], none, false, [(2, ⟨[], .pr (.own (.pr (.ro) (.pr (.ro) (.pr (.ro) (.own (.ro)))))) (.own (.pr (.ro) (.pr (.own (.ro)) (.ro)))), [], [], none⟩), (3, ⟨[], .pr (.own (.pr (.ro) (.pr (.ro) (.pr (.ro) (.own (.ro)))))) (.own (.pr (.ro) (.pr (.own (.ro)) (.ro)))), [], [], none⟩)]⟩ .z .z) (.n ⟨[], [], none, false, []⟩ .z (.n ⟨[], [], none, false, []⟩ .z (.n ⟨[], [], none, false, []⟩ (.n ⟨[], [], none, false, []⟩ (.n ⟨[], [], none, false, [(0, ⟨[], .ro, [43], [], none⟩), (1, ⟨[], .ro, [44], [], none⟩), (2, ⟨[], .ro, [45], [], none⟩), (3, ⟨[], .ro, [46], [], none⟩), (4, ⟨[], .ro, [47], [], none⟩)]⟩ .z .z) .z) (.n ⟨[], [], none, false, []⟩ (.n ⟨[], [], none, false, []⟩ (.n ⟨[], [], none, false, [(0, ⟨[], .ro, [48], [], none⟩), (1, ⟨[], .ro, [49], [], none⟩), (2, ⟨[], .ro, [50], [], none⟩), (3, ⟨[], .ro, [51], [], none⟩), (4, ⟨[], .ro, [52], [], none⟩)]⟩ .z .z) .z) .z)))))))))))))
noncomputable def E7 : Env := ⟨tab, [C23, C25, C28, C29, C27], 4, 53⟩
theorem d7 : (fun (x : HL (pts C7.ps)) => den E7 (Tryd.f7.body.getD .skip) H7 (initS 53 C7.ps x) (retK tab [] C7.ps C7.rs [.tmp 8]) (fun _ _ => none) (retK tab [] C7.ps C7.rs [.tmp 8])) = C7.F := by kernel_rfl
theorem c7 : Cok Tryd.prog C7 := by
  have h23 := c23
  have h25 := c25
  have h28 := c28
  have h29 := c29
  have h27 := c27
  exact cok_of_den (E := E7) (fn := Tryd.f7) (code := Tryd.f7.body.getD .skip) (hn := H7) (gr := []) (is := [.tmp 8]) ⟨tabOk, (fun c hc => by simp only [E7, List.mem_cons, List.not_mem_nil, or_false] at hc; rcases hc with rfl | rfl | rfl | rfl | rfl <;> assumption), mixOk⟩ ⟨by kernel_rfl, by kernel_rfl, by kernel_rfl, by kernel_rfl, by kernel_rfl, by decide, by kernel_rfl⟩ (fun x y h => (congrFun d7 x).trans h)

end Go.Proofs.YtibccfmlfknhbaaDoorE

/- The functions of JumpsIn reckon so. No condition. -/
import Derived.Test.YtmpfjlolcmokbaaPackR
import Derived.Test.YtmpfjlolcmokbaaLawFJumpsIn
import Derived.Test.YtmpfjlolcmokbaaProg
set_option linter.all false
namespace Go.Proofs.YtmpfjlolcmokbaaE
set_option maxRecDepth 100000
set_option linter.all false

def tab : List TE := [⟨3, .int .i64, 0, 8⟩, ⟨9, .str, 0, 16⟩, ⟨36, .list 3 (.int .i64), 0, 24⟩, ⟨37, .list 80 (.pair (.int .i64) (.pair (.int .i64) (.pair (.int .i64) (.pair (.int .i64) (.pair (.int .i64) (.pair (.str) (.list 3 (.int .i64)))))))), 0, 24⟩, ⟨39, .pair (.str) (.pair (.int .i64) (.pair (.list 3 (.int .i64)) (.list 80 (.pair (.int .i64) (.pair (.int .i64) (.pair (.int .i64) (.pair (.int .i64) (.pair (.int .i64) (.pair (.str) (.list 3 (.int .i64))))))))))), 4, 72⟩, ⟨42, .list 64 (.pair (.int .i64) (.pair (.int .i64) (.pair (.int .i64) (.pair (.int .i64) (.pair (.int .i64) (.pair (.str) (.list 3 (.int .i64)))))))), 0, 24⟩, ⟨44, .pair (.str) (.pair (.int .i64) (.pair (.list 3 (.int .i64)) (.list 64 (.pair (.int .i64) (.pair (.int .i64) (.pair (.int .i64) (.pair (.int .i64) (.pair (.int .i64) (.pair (.str) (.list 3 (.int .i64))))))))))), 4, 72⟩, ⟨64, .pair (.int .i64) (.pair (.int .i64) (.pair (.int .i64) (.pair (.int .i64) (.pair (.int .i64) (.pair (.str) (.list 3 (.int .i64))))))), 7, 80⟩, ⟨80, .pair (.int .i64) (.pair (.int .i64) (.pair (.int .i64) (.pair (.int .i64) (.pair (.int .i64) (.pair (.str) (.list 3 (.int .i64))))))), 7, 80⟩]
theorem tabOk : TabOk Try.prog tab := tab_ok (by kernel_rfl)
theorem kOk : kpos tab = true := by kernel_rfl
theorem mixOk : Try.prog.follows .mixedOrders = true := by kernel_rfl

/-- laws.szIntS -/
noncomputable def C33 : Cal := ⟨33, [⟨.ro, .list 3 (.int .i64)⟩, ⟨.ro, .int .i64⟩], [⟨.int .i64, .ro⟩], fun x => laws_szIntS x.1 x.2.1⟩
def H33 : Hn := .z
noncomputable def E33 : Env := ⟨tab, [], 0, 12⟩
theorem d33 : (fun (x : HL (pts C33.ps)) => den E33 (Try.f33.body.getD .skip) H33 (initS 12 C33.ps x) (retK tab [] C33.rs [.tmp 4]) (fun _ _ => none) (retK tab [] C33.rs [.tmp 4])) = C33.F := by kernel_rfl
theorem c33 : Cok Try.prog C33 := by
  exact cok_of_den (E := E33) (fn := Try.f33) (code := Try.f33.body.getD .skip) (hn := H33) (gr := []) (is := [.tmp 4]) ⟨tabOk, (fun c hc => by cases hc), mixOk⟩ ⟨by kernel_rfl, by kernel_rfl, by kernel_rfl, by kernel_rfl, by kernel_rfl, by decide, by kernel_rfl⟩ (fun x y h => (congrFun d33 x).trans h)

/-- laws.szIns -/
noncomputable def C46 : Cal := ⟨46, [⟨.ro, .pair (.int .i64) (.pair (.int .i64) (.pair (.int .i64) (.pair (.int .i64) (.pair (.int .i64) (.pair (.str) (.list 3 (.int .i64)))))))⟩, ⟨.ro, .int .i64⟩], [⟨.int .i64, .ro⟩], fun x => laws_szIns x.1 x.2.1⟩
def H46 : Hn := (.n ⟨[], [], none, false, 0, []⟩ (.n ⟨[], [], none, false, 0, [(0, ⟨[], .pr (.ro) (.pr (.ro) (.pr (.ro) (.pr (.ro) (.pr (.ro) (.pr (.ro) (.own (.ro)))))))⟩)]⟩ .z .z) .z)
noncomputable def E46 : Env := ⟨tab, [C33], 0, 19⟩
theorem d46 : (fun (x : HL (pts C46.ps)) => den E46 (Try.f46.body.getD .skip) H46 (initS 19 C46.ps x) (retK tab [] C46.rs [.tmp 4]) (fun _ _ => none) (retK tab [] C46.rs [.tmp 4])) = C46.F := by kernel_rfl
theorem c46 : Cok Try.prog C46 := by
  have h33 := c33
  exact cok_of_den (E := E46) (fn := Try.f46) (code := Try.f46.body.getD .skip) (hn := H46) (gr := []) (is := [.tmp 4]) ⟨tabOk, (fun c hc => by simp only [E46, List.mem_cons, List.not_mem_nil, or_false] at hc; rcases hc with rfl <;> assumption), mixOk⟩ ⟨by kernel_rfl, by kernel_rfl, by kernel_rfl, by kernel_rfl, by kernel_rfl, by decide, by kernel_rfl⟩ (fun x y h => (congrFun d46 x).trans h)

/-- laws.szInsS -/
noncomputable def C34 : Cal := ⟨34, [⟨.ro, .list 80 (.pair (.int .i64) (.pair (.int .i64) (.pair (.int .i64) (.pair (.int .i64) (.pair (.int .i64) (.pair (.str) (.list 3 (.int .i64))))))))⟩, ⟨.ro, .int .i64⟩], [⟨.int .i64, .ro⟩], fun x => laws_szInsS x.1 x.2.1⟩
def H34 : Hn := (.n ⟨[], [], none, false, 0, []⟩ .z (.n ⟨[], [], none, false, 0, []⟩ .z (.n ⟨[], [], none, false, 0, []⟩ .z (.n ⟨[], [], none, false, 0, []⟩ (.n ⟨[], [], none, false, 0, []⟩ .z (.n ⟨[], [], (some ⟨[.snp 1 (.int .i64) []], [], []⟩), true, 0, []⟩ (.n ⟨[], [], (some ⟨[.snp 0 (.list 80 (.pair (.int .i64) (.pair (.int .i64) (.pair (.int .i64) (.pair (.int .i64) (.pair (.int .i64) (.pair (.str) (.list 3 (.int .i64))))))))) [], .snp 1 (.int .i64) [], .snp 5 (.int .i64) []], [], []⟩), false, 0, []⟩ .z .z) .z)) .z))))
noncomputable def E34 : Env := ⟨tab, [C46], 0, 27⟩
theorem d34 : (fun (x : HL (pts C34.ps)) => den E34 (Try.f34.body.getD .skip) H34 (initS 27 C34.ps x) (retK tab [] C34.rs [.tmp 4]) (fun _ _ => none) (retK tab [] C34.rs [.tmp 4])) = C34.F := by kernel_rfl
theorem c34 : Cok Try.prog C34 := by
  have h46 := c46
  exact cok_of_den (E := E34) (fn := Try.f34) (code := Try.f34.body.getD .skip) (hn := H34) (gr := []) (is := [.tmp 4]) ⟨tabOk, (fun c hc => by simp only [E34, List.mem_cons, List.not_mem_nil, or_false] at hc; rcases hc with rfl <;> assumption), mixOk⟩ ⟨by kernel_rfl, by kernel_rfl, by kernel_rfl, by kernel_rfl, by kernel_rfl, by decide, by kernel_rfl⟩ (fun x y h => (congrFun d34 x).trans h)

/-- laws.szCode -/
noncomputable def C17 : Cal := ⟨17, [⟨.ro, .pair (.str) (.pair (.int .i64) (.pair (.list 3 (.int .i64)) (.list 80 (.pair (.int .i64) (.pair (.int .i64) (.pair (.int .i64) (.pair (.int .i64) (.pair (.int .i64) (.pair (.str) (.list 3 (.int .i64)))))))))))⟩, ⟨.ro, .int .i64⟩], [⟨.int .i64, .ro⟩], fun x => laws_szCode x.1 x.2.1⟩
def H17 : Hn := (.n ⟨[], [], none, false, 0, []⟩ (.n ⟨[], [], none, false, 0, [(0, ⟨[], .pr (.ro) (.pr (.ro) (.pr (.own (.ro)) (.own (.pr (.ro) (.pr (.ro) (.pr (.ro) (.pr (.ro) (.pr (.ro) (.pr (.ro) (.own (.ro)))))))))))⟩)]⟩ .z .z) .z)
noncomputable def E17 : Env := ⟨tab, [C33, C34], 0, 25⟩
theorem d17 : (fun (x : HL (pts C17.ps)) => den E17 (Try.f17.body.getD .skip) H17 (initS 25 C17.ps x) (retK tab [] C17.rs [.tmp 4]) (fun _ _ => none) (retK tab [] C17.rs [.tmp 4])) = C17.F := by kernel_rfl
theorem c17 : Cok Try.prog C17 := by
  have h33 := c33
  have h34 := c34
  exact cok_of_den (E := E17) (fn := Try.f17) (code := Try.f17.body.getD .skip) (hn := H17) (gr := []) (is := [.tmp 4]) ⟨tabOk, (fun c hc => by simp only [E17, List.mem_cons, List.not_mem_nil, or_false] at hc; rcases hc with rfl | rfl <;> assumption), mixOk⟩ ⟨by kernel_rfl, by kernel_rfl, by kernel_rfl, by kernel_rfl, by kernel_rfl, by decide, by kernel_rfl⟩ (fun x y h => (congrFun d17 x).trans h)

/-- laws.toIntS -/
noncomputable def C35 : Cal := ⟨35, [⟨.ro, .list 3 (.int .i64)⟩], [⟨.list 3 (.int .i64), .own (.ro)⟩], fun x => laws_toIntS x.1⟩
def H35 : Hn := (.n ⟨[], [], none, false, 0, []⟩ .z (.n ⟨[], [], none, false, 0, []⟩ .z (.n ⟨[], [], none, false, 0, []⟩ (.n ⟨[], [], none, false, 0, []⟩ .z (.n ⟨[], [], (some ⟨[.dat 3 (.list 3 (.int .i64)) (.own (.ro))], [], []⟩), false, 0, []⟩ (.n ⟨[3], [], (some ⟨[.snp 0 (.list 3 (.int .i64)) [], .dat 3 (.list 3 (.int .i64)) (.own (.ro)), .snp 4 (.int .i64) []], [], []⟩), false, 0, []⟩ .z .z) .z)) .z)))
noncomputable def E35 : Env := ⟨tab, [], 0, 22⟩
theorem d35 : (fun (x : HL (pts C35.ps)) => den E35 (Try.f35.body.getD .skip) H35 (initS 22 C35.ps x) (retK tab [2] C35.rs [.tmp 2]) (fun _ _ => none) (retK tab [2] C35.rs [.tmp 2])) = C35.F := by kernel_rfl
theorem c35 : Cok Try.prog C35 := by
  exact cok_of_den (E := E35) (fn := Try.f35) (code := Try.f35.body.getD .skip) (hn := H35) (gr := [2]) (is := [.tmp 2]) ⟨tabOk, (fun c hc => by cases hc), mixOk⟩ ⟨by kernel_rfl, by kernel_rfl, by kernel_rfl, by kernel_rfl, by kernel_rfl, by decide, by kernel_rfl⟩ (fun x y h => (congrFun d35 x).trans h)

/-- laws.toIns -/
noncomputable def C47 : Cal := ⟨47, [⟨.ro, .pair (.int .i64) (.pair (.int .i64) (.pair (.int .i64) (.pair (.int .i64) (.pair (.int .i64) (.pair (.str) (.list 3 (.int .i64)))))))⟩], [⟨.pair (.int .i64) (.pair (.int .i64) (.pair (.int .i64) (.pair (.int .i64) (.pair (.int .i64) (.pair (.str) (.list 3 (.int .i64))))))), .pr (.ro) (.pr (.ro) (.pr (.ro) (.pr (.ro) (.pr (.ro) (.pr (.ro) (.own (.ro)))))))⟩], fun x => laws_toIns x.1⟩
def H47 : Hn := (.n ⟨[], [], none, false, 0, []⟩ (.n ⟨[], [], none, false, 0, [(0, ⟨[], .pr (.ro) (.pr (.ro) (.pr (.ro) (.pr (.ro) (.pr (.ro) (.pr (.ro) (.own (.ro)))))))⟩), (1, ⟨[], .pr (.ro) (.pr (.ro) (.pr (.ro) (.pr (.ro) (.pr (.ro) (.pr (.ro) (.own (.ro)))))))⟩)]⟩ .z .z) (.n ⟨[], [], none, false, 0, []⟩ (.n ⟨[], [], none, false, 0, [(0, ⟨[], .pr (.ro) (.pr (.ro) (.pr (.ro) (.pr (.ro) (.pr (.ro) (.pr (.ro) (.own (.ro)))))))⟩)]⟩ .z .z) (.n ⟨[], [], none, false, 0, []⟩ .z (.n ⟨[], [], none, false, 0, []⟩ .z (.n ⟨[], [], none, false, 0, []⟩ .z (.n ⟨[], [], none, false, 0, []⟩ .z (.n ⟨[], [], none, false, 0, []⟩ .z (.n ⟨[], [], none, false, 0, []⟩ .z (.n ⟨[], [], none, false, 0, []⟩ (.n ⟨[], [], none, false, 0, [(4, ⟨[], .own (.ro)⟩)]⟩ .z .z) (.n ⟨[], [], none, false, 0, []⟩ (.n ⟨[], [], none, false, 0, [(1, ⟨[26], .pr (.ro) (.pr (.ro) (.pr (.ro) (.pr (.ro) (.pr (.ro) (.pr (.ro) (.own (.ro)))))))⟩)]⟩ .z .z) .z))))))))))
noncomputable def E47 : Env := ⟨tab, [C35], 0, 27⟩
theorem d47 : (fun (x : HL (pts C47.ps)) => den E47 (Try.f47.body.getD .skip) H47 (initS 27 C47.ps x) (retK tab [] C47.rs [.cell 2 64]) (fun _ _ => none) (retK tab [] C47.rs [.cell 2 64])) = C47.F := by kernel_rfl
theorem c47 : Cok Try.prog C47 := by
  have h35 := c35
  exact cok_of_den (E := E47) (fn := Try.f47) (code := Try.f47.body.getD .skip) (hn := H47) (gr := []) (is := [.cell 2 64]) ⟨tabOk, (fun c hc => by simp only [E47, List.mem_cons, List.not_mem_nil, or_false] at hc; rcases hc with rfl <;> assumption), mixOk⟩ ⟨by kernel_rfl, by kernel_rfl, by kernel_rfl, by kernel_rfl, by kernel_rfl, by decide, by kernel_rfl⟩ (fun x y h => (congrFun d47 x).trans h)

/-- laws.toInsS -/
noncomputable def C36 : Cal := ⟨36, [⟨.ro, .list 80 (.pair (.int .i64) (.pair (.int .i64) (.pair (.int .i64) (.pair (.int .i64) (.pair (.int .i64) (.pair (.str) (.list 3 (.int .i64))))))))⟩], [⟨.list 64 (.pair (.int .i64) (.pair (.int .i64) (.pair (.int .i64) (.pair (.int .i64) (.pair (.int .i64) (.pair (.str) (.list 3 (.int .i64)))))))), .own (.pr (.ro) (.pr (.ro) (.pr (.ro) (.pr (.ro) (.pr (.ro) (.pr (.ro) (.own (.ro))))))))⟩], fun x => laws_toInsS x.1⟩
def H36 : Hn := (.n ⟨[], [], none, false, 0, []⟩ .z (.n ⟨[], [], none, false, 0, []⟩ (.n ⟨[], [], none, false, 0, [(2, ⟨[], .pr (.ro) (.pr (.ro) (.pr (.ro) (.pr (.ro) (.pr (.ro) (.pr (.ro) (.own (.ro)))))))⟩)]⟩ .z .z) (.n ⟨[], [], none, false, 0, []⟩ (.n ⟨[], [], none, false, 0, []⟩ .z (.n ⟨[], [], (some ⟨[.dat 3 (.list 64 (.pair (.int .i64) (.pair (.int .i64) (.pair (.int .i64) (.pair (.int .i64) (.pair (.int .i64) (.pair (.str) (.list 3 (.int .i64))))))))) (.own (.pr (.ro) (.pr (.ro) (.pr (.ro) (.pr (.ro) (.pr (.ro) (.pr (.ro) (.own (.ro)))))))))], [], []⟩), false, 0, []⟩ (.n ⟨[3], [], (some ⟨[.snp 0 (.list 80 (.pair (.int .i64) (.pair (.int .i64) (.pair (.int .i64) (.pair (.int .i64) (.pair (.int .i64) (.pair (.str) (.list 3 (.int .i64))))))))) [], .dat 3 (.list 64 (.pair (.int .i64) (.pair (.int .i64) (.pair (.int .i64) (.pair (.int .i64) (.pair (.int .i64) (.pair (.str) (.list 3 (.int .i64))))))))) (.own (.pr (.ro) (.pr (.ro) (.pr (.ro) (.pr (.ro) (.pr (.ro) (.pr (.ro) (.own (.ro))))))))), .snp 4 (.int .i64) []], [], []⟩), false, 0, []⟩ (.n ⟨[], [], none, false, 0, []⟩ .z (.n ⟨[], [], none, false, 0, []⟩ (.n ⟨[], [], none, false, 0, []⟩ (.n ⟨[], [], none, false, 0, [(8, ⟨[], .pr (.ro) (.pr (.ro) (.pr (.ro) (.pr (.ro) (.pr (.ro) (.pr (.ro) (.own (.ro)))))))⟩)]⟩ .z .z) .z) .z)) .z) .z)) .z)))
noncomputable def E36 : Env := ⟨tab, [C47], 0, 23⟩
theorem d36 : (fun (x : HL (pts C36.ps)) => den E36 (Try.f36.body.getD .skip) H36 (initS 23 C36.ps x) (retK tab [2] C36.rs [.tmp 2]) (fun _ _ => none) (retK tab [2] C36.rs [.tmp 2])) = C36.F := by kernel_rfl
theorem c36 : Cok Try.prog C36 := by
  have h47 := c47
  exact cok_of_den (E := E36) (fn := Try.f36) (code := Try.f36.body.getD .skip) (hn := H36) (gr := [2]) (is := [.tmp 2]) ⟨tabOk, (fun c hc => by simp only [E36, List.mem_cons, List.not_mem_nil, or_false] at hc; rcases hc with rfl <;> assumption), mixOk⟩ ⟨by kernel_rfl, by kernel_rfl, by kernel_rfl, by kernel_rfl, by kernel_rfl, by decide, by kernel_rfl⟩ (fun x y h => (congrFun d36 x).trans h)

/-- laws.toCode -/
noncomputable def C19 : Cal := ⟨19, [⟨.ro, .pair (.str) (.pair (.int .i64) (.pair (.list 3 (.int .i64)) (.list 80 (.pair (.int .i64) (.pair (.int .i64) (.pair (.int .i64) (.pair (.int .i64) (.pair (.int .i64) (.pair (.str) (.list 3 (.int .i64)))))))))))⟩], [⟨.pair (.str) (.pair (.int .i64) (.pair (.list 3 (.int .i64)) (.list 64 (.pair (.int .i64) (.pair (.int .i64) (.pair (.int .i64) (.pair (.int .i64) (.pair (.int .i64) (.pair (.str) (.list 3 (.int .i64))))))))))), .pr (.ro) (.pr (.ro) (.pr (.own (.ro)) (.own (.pr (.ro) (.pr (.ro) (.pr (.ro) (.pr (.ro) (.pr (.ro) (.pr (.ro) (.own (.ro)))))))))))⟩], fun x => laws_toCode x.1⟩
def H19 : Hn := (.n ⟨[], [], none, false, 0, []⟩ (.n ⟨[], [], none, false, 0, [(0, ⟨[], .pr (.ro) (.pr (.ro) (.pr (.own (.ro)) (.own (.pr (.ro) (.pr (.ro) (.pr (.ro) (.pr (.ro) (.pr (.ro) (.pr (.ro) (.own (.ro)))))))))))⟩), (1, ⟨[], .pr (.ro) (.pr (.ro) (.pr (.own (.ro)) (.own (.pr (.ro) (.pr (.ro) (.pr (.ro) (.pr (.ro) (.pr (.ro) (.pr (.ro) (.own (.ro)))))))))))⟩)]⟩ .z .z) (.n ⟨[], [], none, false, 0, []⟩ (.n ⟨[], [], none, false, 0, [(0, ⟨[], .pr (.ro) (.pr (.ro) (.pr (.own (.ro)) (.own (.pr (.ro) (.pr (.ro) (.pr (.ro) (.pr (.ro) (.pr (.ro) (.pr (.ro) (.own (.ro)))))))))))⟩)]⟩ .z .z) (.n ⟨[], [], none, false, 0, []⟩ .z (.n ⟨[], [], none, false, 0, []⟩ .z (.n ⟨[], [], none, false, 0, []⟩ (.n ⟨[], [], none, false, 0, [(4, ⟨[], .own (.ro)⟩)]⟩ .z .z) (.n ⟨[], [], none, false, 0, []⟩ (.n ⟨[], [], none, false, 0, [(4, ⟨[], .own (.pr (.ro) (.pr (.ro) (.pr (.ro) (.pr (.ro) (.pr (.ro) (.pr (.ro) (.own (.ro))))))))⟩)]⟩ .z .z) (.n ⟨[], [], none, false, 0, []⟩ (.n ⟨[], [], none, false, 0, [(1, ⟨[18], .pr (.ro) (.pr (.ro) (.pr (.own (.ro)) (.own (.pr (.ro) (.pr (.ro) (.pr (.ro) (.pr (.ro) (.pr (.ro) (.pr (.ro) (.own (.ro)))))))))))⟩)]⟩ .z .z) .z)))))))
noncomputable def E19 : Env := ⟨tab, [C35, C36], 0, 19⟩
theorem d19 : (fun (x : HL (pts C19.ps)) => den E19 (Try.f19.body.getD .skip) H19 (initS 19 C19.ps x) (retK tab [] C19.rs [.cell 2 44]) (fun _ _ => none) (retK tab [] C19.rs [.cell 2 44])) = C19.F := by kernel_rfl
theorem c19 : Cok Try.prog C19 := by
  have h35 := c35
  have h36 := c36
  exact cok_of_den (E := E19) (fn := Try.f19) (code := Try.f19.body.getD .skip) (hn := H19) (gr := []) (is := [.cell 2 44]) ⟨tabOk, (fun c hc => by simp only [E19, List.mem_cons, List.not_mem_nil, or_false] at hc; rcases hc with rfl | rfl <;> assumption), mixOk⟩ ⟨by kernel_rfl, by kernel_rfl, by kernel_rfl, by kernel_rfl, by kernel_rfl, by decide, by kernel_rfl⟩ (fun x y h => (congrFun d19 x).trans h)

/-- spec.JumpsIn -/
noncomputable def C18 : Cal := ⟨18, [⟨.ro, .pair (.str) (.pair (.int .i64) (.pair (.list 3 (.int .i64)) (.list 64 (.pair (.int .i64) (.pair (.int .i64) (.pair (.int .i64) (.pair (.int .i64) (.pair (.int .i64) (.pair (.str) (.list 3 (.int .i64)))))))))))⟩], [⟨.int .i64, .ro⟩], fun x => spec_JumpsIn x.1⟩
def H18 : Hn := (.n ⟨[], [], none, false, 0, []⟩ (.n ⟨[], [], none, false, 0, [(0, ⟨[], .pr (.ro) (.pr (.ro) (.pr (.own (.ro)) (.own (.pr (.ro) (.pr (.ro) (.pr (.ro) (.pr (.ro) (.pr (.ro) (.pr (.ro) (.own (.ro)))))))))))⟩)]⟩ .z .z) (.n ⟨[], [], none, false, 0, []⟩ .z (.n ⟨[], [], none, false, 0, []⟩ (.n ⟨[], [], none, false, 0, []⟩ .z (.n ⟨[], [], (some ⟨[.snp 3 (.int .i64) []], [], []⟩), false, 0, []⟩ (.n ⟨[], [], (some ⟨[.snp 3 (.int .i64) [], .snp 4 (.int .i64) [], .box 1 true (.pair (.str) (.pair (.int .i64) (.pair (.list 3 (.int .i64)) (.list 64 (.pair (.int .i64) (.pair (.int .i64) (.pair (.int .i64) (.pair (.int .i64) (.pair (.int .i64) (.pair (.str) (.list 3 (.int .i64)))))))))))) (.ro)], [(1, ⟨3, []⟩)], []⟩), false, 0, []⟩ (.n ⟨[], [], none, false, 0, []⟩ .z (.n ⟨[], [], none, false, 0, []⟩ (.n ⟨[], [], none, false, 0, []⟩ (.n ⟨[], [], none, false, 0, []⟩ .z (.n ⟨[], [], (some ⟨[.snp 3 (.int .i64) [], .snp 4 (.int .i64) [], .box 1 true (.pair (.str) (.pair (.int .i64) (.pair (.list 3 (.int .i64)) (.list 64 (.pair (.int .i64) (.pair (.int .i64) (.pair (.int .i64) (.pair (.int .i64) (.pair (.int .i64) (.pair (.str) (.list 3 (.int .i64)))))))))))) (.ro)], [(1, ⟨3, []⟩)], []⟩), false, 0, []⟩ .z .z)) .z) .z)) .z) .z)) .z)))
noncomputable def E18 : Env := ⟨tab, [], 0, 22⟩
theorem d18 : (fun (x : HL (pts C18.ps)) => den E18 (Try.f18.body.getD .skip) H18 (initS 22 C18.ps x) (retK tab [] C18.rs [.tmp 2]) (fun _ _ => none) (retK tab [] C18.rs [.tmp 2])) = C18.F := by kernel_rfl
theorem c18 : Cok Try.prog C18 := by
  exact cok_of_den (E := E18) (fn := Try.f18) (code := Try.f18.body.getD .skip) (hn := H18) (gr := []) (is := [.tmp 2]) ⟨tabOk, (fun c hc => by cases hc), mixOk⟩ ⟨by kernel_rfl, by kernel_rfl, by kernel_rfl, by kernel_rfl, by kernel_rfl, by decide, by kernel_rfl⟩ (fun x y h => (congrFun d18 x).trans h)

/-- impl.JumpsIn -/
noncomputable def C20 : Cal := ⟨20, [⟨.ro, .pair (.str) (.pair (.int .i64) (.pair (.list 3 (.int .i64)) (.list 64 (.pair (.int .i64) (.pair (.int .i64) (.pair (.int .i64) (.pair (.int .i64) (.pair (.int .i64) (.pair (.str) (.list 3 (.int .i64)))))))))))⟩], [⟨.int .i64, .ro⟩], fun x => impl_JumpsIn x.1⟩
def H20 : Hn := (.n ⟨[], [], none, false, 0, []⟩ (.n ⟨[], [], none, false, 0, [(0, ⟨[], .pr (.ro) (.pr (.ro) (.pr (.own (.ro)) (.own (.pr (.ro) (.pr (.ro) (.pr (.ro) (.pr (.ro) (.pr (.ro) (.pr (.ro) (.own (.ro)))))))))))⟩)]⟩ .z .z) (.n ⟨[], [], none, false, 0, []⟩ .z (.n ⟨[], [], none, false, 0, []⟩ (.n ⟨[], [], none, false, 0, []⟩ .z (.n ⟨[], [], (some ⟨[.snp 3 (.int .i64) []], [], []⟩), false, 0, []⟩ (.n ⟨[], [], (some ⟨[.snp 3 (.int .i64) [], .snp 7 (.list 64 (.pair (.int .i64) (.pair (.int .i64) (.pair (.int .i64) (.pair (.int .i64) (.pair (.int .i64) (.pair (.str) (.list 3 (.int .i64))))))))) [], .snp 8 (.int .i64) [], .snp 9 (.int .i64) []], [], []⟩), false, 0, []⟩ (.n ⟨[], [], none, false, 0, []⟩ .z (.n ⟨[], [], none, false, 0, []⟩ .z (.n ⟨[], [], none, false, 0, []⟩ (.n ⟨[], [], none, false, 0, []⟩ (.n ⟨[], [], none, false, 0, []⟩ (.n ⟨[], [], none, false, 0, [(2, ⟨[], .pr (.ro) (.pr (.ro) (.pr (.ro) (.pr (.ro) (.pr (.ro) (.pr (.ro) (.own (.ro)))))))⟩), (3, ⟨[], .pr (.ro) (.pr (.ro) (.pr (.ro) (.pr (.ro) (.pr (.ro) (.pr (.ro) (.own (.ro)))))))⟩)]⟩ .z .z) (.n ⟨[], [], none, false, 0, []⟩ .z (.n ⟨[], [], (some ⟨[.snp 3 (.int .i64) [], .snp 7 (.list 64 (.pair (.int .i64) (.pair (.int .i64) (.pair (.int .i64) (.pair (.int .i64) (.pair (.int .i64) (.pair (.str) (.list 3 (.int .i64))))))))) [], .snp 8 (.int .i64) [], .snp 9 (.int .i64) []], [], []⟩), false, 0, []⟩ .z .z))) .z) .z))) .z) .z)) .z)))
noncomputable def E20 : Env := ⟨tab, [], 0, 20⟩
theorem d20 : (fun (x : HL (pts C20.ps)) => den E20 (Try.f20.body.getD .skip) H20 (initS 20 C20.ps x) (retK tab [] C20.rs [.tmp 2]) (fun _ _ => none) (retK tab [] C20.rs [.tmp 2])) = C20.F := by kernel_rfl
theorem c20 : Cok Try.prog C20 := by
  exact cok_of_den (E := E20) (fn := Try.f20) (code := Try.f20.body.getD .skip) (hn := H20) (gr := []) (is := [.tmp 2]) ⟨tabOk, (fun c hc => by cases hc), mixOk⟩ ⟨by kernel_rfl, by kernel_rfl, by kernel_rfl, by kernel_rfl, by kernel_rfl, by decide, by kernel_rfl⟩ (fun x y h => (congrFun d20 x).trans h)

/-- laws.eqIntS -/
noncomputable def C37 : Cal := ⟨37, [⟨.ro, .list 3 (.int .i64)⟩, ⟨.ro, .list 3 (.int .i64)⟩], [⟨.bool, .ro⟩], fun x => laws_eqIntS x.1 x.2.1⟩
def H37 : Hn := (.n ⟨[], [], none, false, 0, []⟩ .z (.n ⟨[], [], none, false, 0, []⟩ .z (.n ⟨[], [], none, false, 0, []⟩ (.n ⟨[], [], none, false, 0, []⟩ .z (.n ⟨[], [], (some ⟨[], [], []⟩), true, 0, []⟩ (.n ⟨[], [], (some ⟨[.snp 0 (.list 3 (.int .i64)) [], .snp 1 (.list 3 (.int .i64)) [], .snp 5 (.int .i64) []], [], []⟩), false, 0, []⟩ (.n ⟨[], [], none, false, 0, []⟩ .z (.n ⟨[], [], none, false, 0, []⟩ (.n ⟨[], [], none, false, 0, []⟩ (.n ⟨[], [], none, false, 0, []⟩ (.n ⟨[], [], none, false, 8, []⟩ .z .z) .z) .z) .z)) .z) .z)) .z)))
noncomputable def E37 : Env := ⟨tab, [], 0, 26⟩
theorem d37 : (fun (x : HL (pts C37.ps)) => den E37 (Try.f37.body.getD .skip) H37 (initS 26 C37.ps x) (retK tab [] C37.rs [.tmp 4]) (fun _ _ => none) (retK tab [] C37.rs [.tmp 4])) = C37.F := by kernel_rfl
theorem c37 : Cok Try.prog C37 := by
  exact cok_of_den (E := E37) (fn := Try.f37) (code := Try.f37.body.getD .skip) (hn := H37) (gr := []) (is := [.tmp 4]) ⟨tabOk, (fun c hc => by cases hc), mixOk⟩ ⟨by kernel_rfl, by kernel_rfl, by kernel_rfl, by kernel_rfl, by kernel_rfl, by decide, by kernel_rfl⟩ (fun x y h => (congrFun d37 x).trans h)

/-- laws.eqIns -/
noncomputable def C48 : Cal := ⟨48, [⟨.ro, .pair (.int .i64) (.pair (.int .i64) (.pair (.int .i64) (.pair (.int .i64) (.pair (.int .i64) (.pair (.str) (.list 3 (.int .i64)))))))⟩, ⟨.ro, .pair (.int .i64) (.pair (.int .i64) (.pair (.int .i64) (.pair (.int .i64) (.pair (.int .i64) (.pair (.str) (.list 3 (.int .i64)))))))⟩], [⟨.bool, .ro⟩], fun x => laws_eqIns x.1 x.2.1⟩
def H48 : Hn := (.n ⟨[], [], none, false, 0, []⟩ (.n ⟨[], [], none, false, 0, [(0, ⟨[], .pr (.ro) (.pr (.ro) (.pr (.ro) (.pr (.ro) (.pr (.ro) (.pr (.ro) (.own (.ro)))))))⟩), (1, ⟨[], .pr (.ro) (.pr (.ro) (.pr (.ro) (.pr (.ro) (.pr (.ro) (.pr (.ro) (.own (.ro)))))))⟩)]⟩ .z .z) .z)
noncomputable def E48 : Env := ⟨tab, [C37], 0, 41⟩
theorem d48 : (fun (x : HL (pts C48.ps)) => den E48 (Try.f48.body.getD .skip) H48 (initS 41 C48.ps x) (retK tab [] C48.rs [.tmp 4]) (fun _ _ => none) (retK tab [] C48.rs [.tmp 4])) = C48.F := by kernel_rfl
theorem c48 : Cok Try.prog C48 := by
  have h37 := c37
  exact cok_of_den (E := E48) (fn := Try.f48) (code := Try.f48.body.getD .skip) (hn := H48) (gr := []) (is := [.tmp 4]) ⟨tabOk, (fun c hc => by simp only [E48, List.mem_cons, List.not_mem_nil, or_false] at hc; rcases hc with rfl <;> assumption), mixOk⟩ ⟨by kernel_rfl, by kernel_rfl, by kernel_rfl, by kernel_rfl, by kernel_rfl, by decide, by kernel_rfl⟩ (fun x y h => (congrFun d48 x).trans h)

/-- laws.eqInsS -/
noncomputable def C38 : Cal := ⟨38, [⟨.ro, .list 64 (.pair (.int .i64) (.pair (.int .i64) (.pair (.int .i64) (.pair (.int .i64) (.pair (.int .i64) (.pair (.str) (.list 3 (.int .i64))))))))⟩, ⟨.ro, .list 64 (.pair (.int .i64) (.pair (.int .i64) (.pair (.int .i64) (.pair (.int .i64) (.pair (.int .i64) (.pair (.str) (.list 3 (.int .i64))))))))⟩], [⟨.bool, .ro⟩], fun x => laws_eqInsS x.1 x.2.1⟩
def H38 : Hn := (.n ⟨[], [], none, false, 0, []⟩ .z (.n ⟨[], [], none, false, 0, []⟩ .z (.n ⟨[], [], none, false, 0, []⟩ (.n ⟨[], [], none, false, 0, []⟩ .z (.n ⟨[], [], (some ⟨[], [], []⟩), true, 0, []⟩ (.n ⟨[], [], (some ⟨[.snp 0 (.list 64 (.pair (.int .i64) (.pair (.int .i64) (.pair (.int .i64) (.pair (.int .i64) (.pair (.int .i64) (.pair (.str) (.list 3 (.int .i64))))))))) [], .snp 1 (.list 64 (.pair (.int .i64) (.pair (.int .i64) (.pair (.int .i64) (.pair (.int .i64) (.pair (.int .i64) (.pair (.str) (.list 3 (.int .i64))))))))) [], .snp 5 (.int .i64) []], [], []⟩), false, 0, []⟩ (.n ⟨[], [], none, false, 0, []⟩ .z (.n ⟨[], [], none, false, 0, []⟩ (.n ⟨[], [], none, false, 0, []⟩ (.n ⟨[], [], none, false, 0, []⟩ (.n ⟨[], [], none, false, 8, []⟩ .z .z) .z) .z) .z)) .z) .z)) .z)))
noncomputable def E38 : Env := ⟨tab, [C48], 0, 27⟩
theorem d38 : (fun (x : HL (pts C38.ps)) => den E38 (Try.f38.body.getD .skip) H38 (initS 27 C38.ps x) (retK tab [] C38.rs [.tmp 4]) (fun _ _ => none) (retK tab [] C38.rs [.tmp 4])) = C38.F := by kernel_rfl
theorem c38 : Cok Try.prog C38 := by
  have h48 := c48
  exact cok_of_den (E := E38) (fn := Try.f38) (code := Try.f38.body.getD .skip) (hn := H38) (gr := []) (is := [.tmp 4]) ⟨tabOk, (fun c hc => by simp only [E38, List.mem_cons, List.not_mem_nil, or_false] at hc; rcases hc with rfl <;> assumption), mixOk⟩ ⟨by kernel_rfl, by kernel_rfl, by kernel_rfl, by kernel_rfl, by kernel_rfl, by decide, by kernel_rfl⟩ (fun x y h => (congrFun d38 x).trans h)

/-- laws.eqCode -/
noncomputable def C21 : Cal := ⟨21, [⟨.ro, .pair (.str) (.pair (.int .i64) (.pair (.list 3 (.int .i64)) (.list 64 (.pair (.int .i64) (.pair (.int .i64) (.pair (.int .i64) (.pair (.int .i64) (.pair (.int .i64) (.pair (.str) (.list 3 (.int .i64)))))))))))⟩, ⟨.ro, .pair (.str) (.pair (.int .i64) (.pair (.list 3 (.int .i64)) (.list 64 (.pair (.int .i64) (.pair (.int .i64) (.pair (.int .i64) (.pair (.int .i64) (.pair (.int .i64) (.pair (.str) (.list 3 (.int .i64)))))))))))⟩], [⟨.bool, .ro⟩], fun x => laws_eqCode x.1 x.2.1⟩
def H21 : Hn := (.n ⟨[], [], none, false, 0, []⟩ (.n ⟨[], [], none, false, 0, [(0, ⟨[], .pr (.ro) (.pr (.ro) (.pr (.own (.ro)) (.own (.pr (.ro) (.pr (.ro) (.pr (.ro) (.pr (.ro) (.pr (.ro) (.pr (.ro) (.own (.ro)))))))))))⟩), (1, ⟨[], .pr (.ro) (.pr (.ro) (.pr (.own (.ro)) (.own (.pr (.ro) (.pr (.ro) (.pr (.ro) (.pr (.ro) (.pr (.ro) (.pr (.ro) (.own (.ro)))))))))))⟩)]⟩ .z .z) .z)
noncomputable def E21 : Env := ⟨tab, [C37, C38], 0, 27⟩
theorem d21 : (fun (x : HL (pts C21.ps)) => den E21 (Try.f21.body.getD .skip) H21 (initS 27 C21.ps x) (retK tab [] C21.rs [.tmp 4]) (fun _ _ => none) (retK tab [] C21.rs [.tmp 4])) = C21.F := by kernel_rfl
theorem c21 : Cok Try.prog C21 := by
  have h37 := c37
  have h38 := c38
  exact cok_of_den (E := E21) (fn := Try.f21) (code := Try.f21.body.getD .skip) (hn := H21) (gr := []) (is := [.tmp 4]) ⟨tabOk, (fun c hc => by simp only [E21, List.mem_cons, List.not_mem_nil, or_false] at hc; rcases hc with rfl | rfl <;> assumption), mixOk⟩ ⟨by kernel_rfl, by kernel_rfl, by kernel_rfl, by kernel_rfl, by kernel_rfl, by decide, by kernel_rfl⟩ (fun x y h => (congrFun d21 x).trans h)

/-- laws.FnExactJumpsIn -/
noncomputable def C5 : Cal := ⟨5, [⟨.ro, .pair (.str) (.pair (.int .i64) (.pair (.list 3 (.int .i64)) (.list 80 (.pair (.int .i64) (.pair (.int .i64) (.pair (.int .i64) (.pair (.int .i64) (.pair (.int .i64) (.pair (.str) (.list 3 (.int .i64)))))))))))⟩], [⟨.bool, .ro⟩], fun x => laws_FnExactJumpsIn x.1⟩
def H5 : Hn := (.n ⟨[], [], none, false, 0, []⟩ (.n ⟨[], [], none, false, 0, [(0, ⟨[], .pr (.ro) (.pr (.ro) (.pr (.own (.ro)) (.own (.pr (.ro) (.pr (.ro) (.pr (.ro) (.pr (.ro) (.pr (.ro) (.pr (.ro) (.own (.ro)))))))))))⟩)]⟩ .z .z) (.n ⟨[], [], none, false, 0, []⟩ .z (.n ⟨[], [], none, false, 0, []⟩ .z (.n ⟨[], [], none, false, 0, []⟩ .z (.n ⟨[], [], none, false, 0, []⟩ .z (.n ⟨[], [], none, false, 0, []⟩ (.n ⟨[], [], none, false, 0, [(2, ⟨[], .pr (.ro) (.pr (.ro) (.pr (.own (.ro)) (.own (.pr (.ro) (.pr (.ro) (.pr (.ro) (.pr (.ro) (.pr (.ro) (.pr (.ro) (.own (.ro)))))))))))⟩), (3, ⟨[], .pr (.ro) (.pr (.ro) (.pr (.own (.ro)) (.own (.pr (.ro) (.pr (.ro) (.pr (.ro) (.pr (.ro) (.pr (.ro) (.pr (.ro) (.own (.ro)))))))))))⟩)]⟩ .z .z) (.n ⟨[], [], none, false, 0, []⟩ .z (.n ⟨[], [], none, false, 0, []⟩ .z (.n ⟨[], [], none, false, 0, []⟩ (.n ⟨[], [], none, false, 0, []⟩ (.n ⟨[], [], none, false, 3, []⟩ .z .z) .z) .z)))))))))
noncomputable def E5 : Env := ⟨tab, [C17, C19, C18, C20, C21], 0, 27⟩
theorem d5 : (fun (x : HL (pts C5.ps)) => den E5 (Try.f5.body.getD .skip) H5 (initS 27 C5.ps x) (retK tab [] C5.rs [.tmp 2]) (fun _ _ => none) (retK tab [] C5.rs [.tmp 2])) = C5.F := by kernel_rfl
theorem c5 : Cok Try.prog C5 := by
  have h17 := c17
  have h19 := c19
  have h18 := c18
  have h20 := c20
  have h21 := c21
  exact cok_of_den (E := E5) (fn := Try.f5) (code := Try.f5.body.getD .skip) (hn := H5) (gr := []) (is := [.tmp 2]) ⟨tabOk, (fun c hc => by simp only [E5, List.mem_cons, List.not_mem_nil, or_false] at hc; rcases hc with rfl | rfl | rfl | rfl | rfl <;> assumption), mixOk⟩ ⟨by kernel_rfl, by kernel_rfl, by kernel_rfl, by kernel_rfl, by kernel_rfl, by decide, by kernel_rfl⟩ (fun x y h => (congrFun d5 x).trans h)
end Go.Proofs.YtmpfjlolcmokbaaE

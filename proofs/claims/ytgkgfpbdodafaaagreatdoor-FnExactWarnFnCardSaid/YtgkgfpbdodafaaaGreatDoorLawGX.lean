/- The functions of X reckon so (3). No condition. -/
import Derived.Test.YtgkgfpbdodafaaaGreatDoorLawGX2
set_option linter.all false
namespace Go.Proofs.YtgkgfpbdodafaaaGreatDoorE
set_option maxRecDepth 100000
set_option linter.all false


/-- laws.markFnS -/
noncomputable def C33 : Cal := ⟨33, [⟨.inp (.own (M3)), .list 69 (T4)⟩, ⟨.ro, .int .i64⟩], [⟨.int .i64, .ro⟩], fun x => laws_markFnS x.1 x.2.1⟩
def H33 : Hn := (.e .z (.e (.e .z (.n ⟨[], [], (some ⟨[.snp 1 (.int .i64) [], .box 0 false (.list 69 (T4)) (.own (M3))], [], []⟩), false, []⟩ (.n ⟨[], [], (some ⟨[.snp 1 (.int .i64) [], .snp 5 (.int .i64) [], .box 0 false (.list 69 (T4)) (.own (M3))], [], [(0, 0)]⟩), false, []⟩ (.e .z (.e (.e (.e (.n ⟨[], [], none, false, [(6, ⟨[], .ro, [], [], some 1⟩)]⟩ .z .z) (.e .z (.e .z (.e (.n ⟨[], [], none, false, [(5, ⟨[], .ro, [], [], some 1⟩)]⟩ .z .z) (.e .z (.e (.n ⟨[], [], none, false, [(5, ⟨[], .ro, [], [], some 1⟩)]⟩ .z .z) (.e .z (.e (.n ⟨[], [], none, false, [(5, ⟨[], .ro, [], [], some 1⟩)]⟩ .z .z) .z)))))))) .z) .z)) .z) .z)) .z))
noncomputable def E33 : Env := ⟨tab, [C34, C63], 2, 49⟩
theorem d33 : (fun (x : HL (pts C33.ps)) => den E33 (Tryz.f33.body.getD .skip) H33 (initS 49 C33.ps x) (retK tab [] C33.ps C33.rs [.tmp 4]) (fun _ _ => none) (retK tab [] C33.ps C33.rs [.tmp 4])) = C33.F := by kernel_rfl
theorem c33 : Cok Tryz.prog C33 := by
  have h34 := c34
  have h63 := c63
  exact cok_of_den (E := E33) (fn := Tryz.f33) (code := Tryz.f33.body.getD .skip) (hn := H33) (gr := []) (is := [.tmp 4]) ⟨tabOk, (fun c hc => by simp only [E33, List.mem_cons, List.not_mem_nil, or_false] at hc; rcases hc with rfl | rfl <;> assumption), mixOk⟩ ⟨by kernel_rfl, by kernel_rfl, by kernel_rfl, by kernel_rfl, by kernel_rfl, by decide, by kernel_rfl⟩ (fun x y h => (congrFun d33 x).trans h)

/-- laws.markProgram -/
noncomputable def C12 : Cal := ⟨12, [⟨.inp (M1), T2⟩, ⟨.ro, .int .i64⟩], [⟨.int .i64, .ro⟩], fun x => laws_markProgram x.1 x.2.1⟩
def H12 : Hn := (.e (.n ⟨[], [], none, false, [(0, ⟨[], M1, [], [], none⟩)]⟩ .z .z) .z)
noncomputable def E12 : Env := ⟨tab, [C32, C33], 2, 14⟩
theorem d12 : (fun (x : HL (pts C12.ps)) => den E12 (Tryz.f12.body.getD .skip) H12 (initS 14 C12.ps x) (retK tab [] C12.ps C12.rs [.tmp 4]) (fun _ _ => none) (retK tab [] C12.ps C12.rs [.tmp 4])) = C12.F := by kernel_rfl
theorem c12 : Cok Tryz.prog C12 := by
  have h32 := c32
  have h33 := c33
  exact cok_of_den (E := E12) (fn := Tryz.f12) (code := Tryz.f12.body.getD .skip) (hn := H12) (gr := []) (is := [.tmp 4]) ⟨tabOk, (fun c hc => by simp only [E12, List.mem_cons, List.not_mem_nil, or_false] at hc; rcases hc with rfl | rfl <;> assumption), mixOk⟩ ⟨by kernel_rfl, by kernel_rfl, by kernel_rfl, by kernel_rfl, by kernel_rfl, by decide, by kernel_rfl⟩ (fun x y h => (congrFun d12 x).trans h)

/-- laws.markWarnS -/
noncomputable def C18 : Cal := ⟨18, [⟨.inp (.own (.ro)), .list 65 (T8)⟩, ⟨.ro, .int .i64⟩], [⟨.int .i64, .ro⟩], fun x => laws_markWarnS x.1 x.2.1⟩
def H18 : Hn := (.e .z (.e (.e .z (.n ⟨[], [], (some ⟨[.snp 1 (.int .i64) [], .box 0 false (.list 65 (T8)) (.own (.ro))], [], []⟩), false, []⟩ (.n ⟨[], [], (some ⟨[.snp 1 (.int .i64) [], .snp 5 (.int .i64) [], .box 0 false (.list 65 (T8)) (.own (.ro))], [], [(0, 0)]⟩), false, []⟩ (.e .z (.e (.e (.e (.n ⟨[], [], none, false, [(5, ⟨[], .ro, [], [], some 1⟩)]⟩ .z .z) (.e .z (.e (.n ⟨[], [], none, false, [(5, ⟨[], .ro, [], [], some 1⟩)]⟩ .z .z) (.e .z (.e (.n ⟨[], [], none, false, [(6, ⟨[], .ro, [], [], some 1⟩)]⟩ .z .z) .z))))) .z) .z)) .z) .z)) .z))
noncomputable def E18 : Env := ⟨tab, [C34], 2, 35⟩
theorem d18 : (fun (x : HL (pts C18.ps)) => den E18 (Tryz.f18.body.getD .skip) H18 (initS 35 C18.ps x) (retK tab [] C18.ps C18.rs [.tmp 4]) (fun _ _ => none) (retK tab [] C18.ps C18.rs [.tmp 4])) = C18.F := by kernel_rfl
theorem c18 : Cok Tryz.prog C18 := by
  have h34 := c34
  exact cok_of_den (E := E18) (fn := Tryz.f18) (code := Tryz.f18.body.getD .skip) (hn := H18) (gr := []) (is := [.tmp 4]) ⟨tabOk, (fun c hc => by simp only [E18, List.mem_cons, List.not_mem_nil, or_false] at hc; rcases hc with rfl <;> assumption), mixOk⟩ ⟨by kernel_rfl, by kernel_rfl, by kernel_rfl, by kernel_rfl, by kernel_rfl, by decide, by kernel_rfl⟩ (fun x y h => (congrFun d18 x).trans h)

/-- laws.heldWarnS -/
noncomputable def C19 : Cal := ⟨19, [⟨.ro, .list 65 (T8)⟩, ⟨.ro, .int .i64⟩], [⟨.int .i64, .ro⟩], fun x => laws_heldWarnS x.1 x.2.1⟩
def H19 : Hn := (.e .z (.e (.e .z (.n ⟨[], [], (some ⟨[.snp 1 (.int .i64) []], [], []⟩), true, []⟩ (.n ⟨[], [], (some ⟨[.snp 0 (.list 65 (T8)) [], .snp 1 (.int .i64) [], .snp 5 (.int .i64) []], [], []⟩), false, []⟩ (.e .z (.e (.e (.e .z (.e .z (.e .z (.e .z (.e (.e (.n ⟨[], [], none, false, [(0, .t 30), (1, .t 31), (2, .t 32), (3, .t 33), (4, .t 34), (5, .t 35), (6, .t 36), (7, .t 37)]⟩ .z .z) .z) .z))))) .z) .z)) .z) .z)) .z))
noncomputable def E19 : Env := ⟨tab, [C34], 2, 41⟩
theorem d19 : (fun (x : HL (pts C19.ps)) => den E19 (Tryz.f19.body.getD .skip) H19 (initS 41 C19.ps x) (retK tab [] C19.ps C19.rs [.tmp 4]) (fun _ _ => none) (retK tab [] C19.ps C19.rs [.tmp 4])) = C19.F := by kernel_rfl
theorem c19 : Cok Tryz.prog C19 := by
  have h34 := c34
  exact cok_of_den (E := E19) (fn := Tryz.f19) (code := Tryz.f19.body.getD .skip) (hn := H19) (gr := []) (is := [.tmp 4]) ⟨tabOk, (fun c hc => by simp only [E19, List.mem_cons, List.not_mem_nil, or_false] at hc; rcases hc with rfl <;> assumption), mixOk⟩ ⟨by kernel_rfl, by kernel_rfl, by kernel_rfl, by kernel_rfl, by kernel_rfl, by decide, by kernel_rfl⟩ (fun x y h => (congrFun d19 x).trans h)

/-- laws.FnExactWarnFn -/
noncomputable def C4 : Cal := ⟨4, [⟨.ro, T1⟩, ⟨.ro, .int .i64⟩], [⟨.bool, .ro⟩], fun x => laws_FnExactWarnFn x.1 x.2.1⟩
def H4 : Hn := (.e (.n ⟨[], [], none, false, [(0, ⟨[], M1, [], [], none⟩)]⟩ .z .z) (.e .z (.e .z (.e .z (.e (.n ⟨[], [.g 6], none, false, []⟩ .z .z) (.e (.n ⟨[], [], none, false, [(2, ⟨[], M1, [], [], none⟩), (3, ⟨[], M1, [], [], none⟩)]⟩ .z .z) (.e (.n ⟨[], [.g 8], none, false, []⟩ .z .z) (.e .z (.e (.e (.n ⟨[], [], none, false, [(0, .t 31), (1, .t 32), (2, .t 33), (3, .t 34), (4, .t 35)]⟩ .z .z) .z) (.e .z (.e .z (.e (.e (.n ⟨[], [], (some ⟨[.snp 1 (.int .i64) [], .dat 6 (.list 65 (T8)) (.own (.ro)), .dat 8 (.list 65 (T8)) (.own (.ro)), .snp 46 (.bool) [], .box 2 true (T1) (.ro)], [(2, ⟨5, []⟩)], []⟩), false, []⟩ .z .z) .z) (.e .z (.e .z (.e .z (.e .z (.e .z (.e .z (.e (.n ⟨[], [.g 12], none, false, []⟩ .z .z) .z)))))))))))))))))))
noncomputable def E4 : Env := ⟨tab, [C6, C8, C15, C16, C17, C11, C12, C18, C19], 2, 74⟩
theorem d4 : (fun (x : HL (pts C4.ps)) => den E4 (Tryz.f4.body.getD .skip) H4 (initS 74 C4.ps x) (retK tab [] C4.ps C4.rs [.tmp 4]) (fun _ _ => none) (retK tab [] C4.ps C4.rs [.tmp 4])) = C4.F := by kernel_rfl
theorem c4 : Cok Tryz.prog C4 := by
  have h6 := c6
  have h8 := c8
  have h15 := c15
  have h16 := c16
  have h17 := c17
  have h11 := c11
  have h12 := c12
  have h18 := c18
  have h19 := c19
  exact cok_of_den (E := E4) (fn := Tryz.f4) (code := Tryz.f4.body.getD .skip) (hn := H4) (gr := []) (is := [.tmp 4]) ⟨tabOk, (fun c hc => by simp only [E4, List.mem_cons, List.not_mem_nil, or_false] at hc; rcases hc with rfl | rfl | rfl | rfl | rfl | rfl | rfl | rfl | rfl <;> assumption), mixOk⟩ ⟨by kernel_rfl, by kernel_rfl, by kernel_rfl, by kernel_rfl, by kernel_rfl, by decide, by kernel_rfl⟩ (fun x y h => (congrFun d4 x).trans h)

end Go.Proofs.YtgkgfpbdodafaaaGreatDoorE

/- The functions of X reckon so (1). No condition. -/
import Derived.Test.YtmpfjlolcmokbaaDoorLawLBX
import Derived.Test.YtmpfjlolcmokbaaDoorPackR
import Derived.Test.YtmpfjlolcmokbaaDoorLawFX
import Derived.Test.YtmpfjlolcmokbaaDoorProg
set_option linter.all false
namespace Go.Proofs.YtmpfjlolcmokbaaDoorE
set_option maxRecDepth 100000
set_option linter.all false
def tab : List TE := [⟨3, .int .i64, 0, 8⟩, ⟨5, .int .u8, 0, 1⟩, ⟨9, .str, 0, 16⟩, ⟨23, .pair (.int .i64) (.pair (.int .i64) (.str)), 3, 32⟩, ⟨26, .pair (.int .i64) (.pair (.int .i64) (.str)), 3, 32⟩, ⟨29, .list 9 (.str), 0, 24⟩, ⟨33, .list 5 (.int .u8), 0, 24⟩]
theorem tabOk : TabOk Tryd.prog tab := tab_ok (by kernel_rfl)
theorem kOk : kpos tab = true := by kernel_rfl
theorem mixOk : Tryd.prog.follows .mixedOrders = true := by kernel_rfl

/-- laws.szWarn -/
noncomputable def C4 : Cal := ⟨4, [⟨.ro, .pair (.int .i64) (.pair (.int .i64) (.str))⟩, ⟨.ro, .int .i64⟩], [⟨.int .i64, .ro⟩], fun x => laws_szWarn x.1 x.2.1⟩
def H4 : Hn := .z
noncomputable def E4 : Env := ⟨tab, [], 2, 13⟩
theorem d4 : (fun (x : HL (pts C4.ps)) => den E4 (Tryd.f4.body.getD .skip) H4 (initS 13 C4.ps x) (retK tab [] C4.ps C4.rs [.tmp 4]) (fun _ _ => none) (retK tab [] C4.ps C4.rs [.tmp 4])) = C4.F := by kernel_rfl
theorem c4 : Cok Tryd.prog C4 := by
  exact cok_of_den (E := E4) (fn := Tryd.f4) (code := Tryd.f4.body.getD .skip) (hn := H4) (gr := []) (is := [.tmp 4]) ⟨tabOk, (fun c hc => by cases hc), mixOk⟩ ⟨by kernel_rfl, by kernel_rfl, by kernel_rfl, by kernel_rfl, by kernel_rfl, by decide, by kernel_rfl⟩ (fun x y h => (congrFun d4 x).trans h)

/-- laws.toWarn -/
noncomputable def C6 : Cal := ⟨6, [⟨.ro, .pair (.int .i64) (.pair (.int .i64) (.str))⟩], [⟨.pair (.int .i64) (.pair (.int .i64) (.str)), .ro⟩], fun x => laws_toWarn x.1⟩
def H6 : Hn := .z
noncomputable def E6 : Env := ⟨tab, [], 1, 14⟩
theorem d6 : (fun (x : HL (pts C6.ps)) => den E6 (Tryd.f6.body.getD .skip) H6 (initS 14 C6.ps x) (retK tab [] C6.ps C6.rs [.cell 2 26]) (fun _ _ => none) (retK tab [] C6.ps C6.rs [.cell 2 26])) = C6.F := by kernel_rfl
theorem c6 : Cok Tryd.prog C6 := by
  exact cok_of_den (E := E6) (fn := Tryd.f6) (code := Tryd.f6.body.getD .skip) (hn := H6) (gr := []) (is := [.cell 2 26]) ⟨tabOk, (fun c hc => by cases hc), mixOk⟩ ⟨by kernel_rfl, by kernel_rfl, by kernel_rfl, by kernel_rfl, by kernel_rfl, by decide, by kernel_rfl⟩ (fun x y h => (congrFun d6 x).trans h)

/-- spec.l01In -/
noncomputable def C8 : Cal := ⟨8, [⟨.ro, .int .i64⟩, ⟨.ro, .int .i64⟩, ⟨.ro, .int .i64⟩], [⟨.bool, .ro⟩], fun x => spec_l01In x.1 x.2.1 x.2.2.1⟩
def H8 : Hn := (.n ⟨[], [], none, false, []⟩ .z (.n ⟨[], [], none, false, []⟩ (.n ⟨[], [], (some ⟨[.snp 6 (.bool) []], [], []⟩), false, []⟩ .z .z) .z))
noncomputable def E8 : Env := ⟨tab, [], 3, 15⟩
theorem d8 : (fun (x : HL (pts C8.ps)) => den E8 (Tryd.f8.body.getD .skip) H8 (initS 15 C8.ps x) (retK tab [] C8.ps C8.rs [.tmp 6]) (fun _ _ => none) (retK tab [] C8.ps C8.rs [.tmp 6])) = C8.F := by kernel_rfl
theorem c8 : Cok Tryd.prog C8 := by
  exact cok_of_den (E := E8) (fn := Tryd.f8) (code := Tryd.f8.body.getD .skip) (hn := H8) (gr := []) (is := [.tmp 6]) ⟨tabOk, (fun c hc => by cases hc), mixOk⟩ ⟨by kernel_rfl, by kernel_rfl, by kernel_rfl, by kernel_rfl, by kernel_rfl, by decide, by kernel_rfl⟩ (fun x y h => (congrFun d8 x).trans h)

/-- spec.l01Figure -/
noncomputable def C14 : Cal := ⟨14, [⟨.ro, .int .i64⟩], [⟨.int .u8, .ro⟩], fun x => spec_l01Figure x.1⟩
def H14 : Hn := .z
noncomputable def E14 : Env := ⟨tab, [], 1, 12⟩
theorem d14 : (fun (x : HL (pts C14.ps)) => den E14 (Tryd.f14.body.getD .skip) H14 (initS 12 C14.ps x) (retK tab [] C14.ps C14.rs [.tmp 2]) (fun _ _ => none) (retK tab [] C14.ps C14.rs [.tmp 2])) = C14.F := by kernel_rfl
theorem c14 : Cok Tryd.prog C14 := by
  exact cok_of_den (E := E14) (fn := Tryd.f14) (code := Tryd.f14.body.getD .skip) (hn := H14) (gr := []) (is := [.tmp 2]) ⟨tabOk, (fun c hc => by cases hc), mixOk⟩ ⟨by kernel_rfl, by kernel_rfl, by kernel_rfl, by kernel_rfl, by kernel_rfl, by decide, by kernel_rfl⟩ (fun x y h => (congrFun d14 x).trans h)

/-- spec.Decimal -/
noncomputable def C12 : Cal := ⟨12, [⟨.ro, .int .i64⟩], [⟨.str, .ro⟩], fun x => spec_Decimal x.1⟩
def H12 : Hn := (.n ⟨[], [], none, false, []⟩ .z (.n ⟨[], [], none, false, []⟩ .z (.n ⟨[], [], none, false, []⟩ .z (.n ⟨[], [], none, false, []⟩ .z (.n ⟨[], [], none, false, []⟩ (.n ⟨[], [], (some ⟨[.snp 3 (.bool) [], .snp 4 (.str) []], [], []⟩), false, []⟩ (.n ⟨[], [], (some ⟨[.snp 0 (.int .i64) [], .snp 3 (.bool) [], .snp 4 (.str) []], [], []⟩), false, []⟩ (.n ⟨[], [], none, false, []⟩ .z (.n ⟨[], [], none, false, []⟩ (.n ⟨[], [], none, false, []⟩ .z (.n ⟨[], [], none, false, []⟩ (.n ⟨[], [], none, false, []⟩ .z (.n ⟨[], [], (some ⟨[.snp 0 (.int .i64) [], .snp 3 (.bool) [], .snp 4 (.str) [], .snp 5 (.int .i64) []], [], []⟩), false, []⟩ .z .z)) .z)) .z)) .z) .z) .z)))))
noncomputable def E12 : Env := ⟨tab, [C14], 1, 30⟩
theorem d12 : (fun (x : HL (pts C12.ps)) => den E12 (Tryd.f12.body.getD .skip) H12 (initS 30 C12.ps x) (retK tab [] C12.ps C12.rs [.tmp 2]) (fun _ _ => none) (retK tab [] C12.ps C12.rs [.tmp 2])) = C12.F := by kernel_rfl
theorem c12 : Cok Tryd.prog C12 := by
  have h14 := c14
  exact cok_of_den (E := E12) (fn := Tryd.f12) (code := Tryd.f12.body.getD .skip) (hn := H12) (gr := []) (is := [.tmp 2]) ⟨tabOk, (fun c hc => by simp only [E12, List.mem_cons, List.not_mem_nil, or_false] at hc; rcases hc with rfl <;> assumption), mixOk⟩ ⟨by kernel_rfl, by kernel_rfl, by kernel_rfl, by kernel_rfl, by kernel_rfl, by decide, by kernel_rfl⟩ (fun x y h => (congrFun d12 x).trans h)

/-- spec.l25Num -/
noncomputable def C9 : Cal := ⟨9, [⟨.ro, .int .i64⟩], [⟨.str, .ro⟩], fun x => spec_l25Num x.1⟩
def H9 : Hn := .z
noncomputable def E9 : Env := ⟨tab, [C12], 1, 7⟩
theorem d9 : (fun (x : HL (pts C9.ps)) => den E9 (Tryd.f9.body.getD .skip) H9 (initS 7 C9.ps x) (retK tab [] C9.ps C9.rs [.tmp 2]) (fun _ _ => none) (retK tab [] C9.ps C9.rs [.tmp 2])) = C9.F := by kernel_rfl
theorem c9 : Cok Tryd.prog C9 := by
  have h12 := c12
  exact cok_of_den (E := E9) (fn := Tryd.f9) (code := Tryd.f9.body.getD .skip) (hn := H9) (gr := []) (is := [.tmp 2]) ⟨tabOk, (fun c hc => by simp only [E9, List.mem_cons, List.not_mem_nil, or_false] at hc; rcases hc with rfl <;> assumption), mixOk⟩ ⟨by kernel_rfl, by kernel_rfl, by kernel_rfl, by kernel_rfl, by kernel_rfl, by decide, by kernel_rfl⟩ (fun x y h => (congrFun d9 x).trans h)

/-- spec.ShowWarn -/
noncomputable def C5 : Cal := ⟨5, [⟨.ro, .pair (.int .i64) (.pair (.int .i64) (.str))⟩], [⟨.str, .ro⟩], fun x => spec_ShowWarn x.1⟩
def H5 : Hn := (.n ⟨[], [], none, false, []⟩ .z (.n ⟨[], [], none, false, []⟩ .z (.n ⟨[], [], none, false, []⟩ .z (.n ⟨[], [], none, false, []⟩ (.n ⟨[], [], none, false, []⟩ .z (.n ⟨[], [], (some ⟨[.dat 3 (.list 9 (.str)) (.own (.ro)), .snp 4 (.int .i64) [], .box 1 true (.pair (.int .i64) (.pair (.int .i64) (.str))) (.ro)], [(1, ⟨3, []⟩)], []⟩), false, []⟩ (.n ⟨[], [3], none, false, []⟩ .z .z) (.n ⟨[], [3], none, false, []⟩ .z .z))) (.n ⟨[], [], none, false, []⟩ (.n ⟨[], [], none, false, [(0, ⟨[], .ro, [12], [], none⟩), (1, ⟨[], .ro, [13], [], none⟩), (2, ⟨[], .ro, [14], [], none⟩), (3, ⟨[], .ro, [15], [], none⟩), (4, ⟨[], .ro, [16], [], none⟩), (5, ⟨[], .ro, [17], [], none⟩), (6, ⟨[], .ro, [18], [], none⟩), (7, ⟨[], .ro, [19], [], none⟩), (8, ⟨[], .ro, [20], [], none⟩), (9, ⟨[], .ro, [5], [], none⟩)]⟩ .z .z) (.n ⟨[], [], none, false, []⟩ (.n ⟨[], [], none, false, []⟩ .z (.n ⟨[], [], (some ⟨[.snp 5 (.str) []], [], []⟩), false, []⟩ .z .z)) .z))))))
noncomputable def E5 : Env := ⟨tab, [C8, C9], 1, 30⟩
theorem d5 : (fun (x : HL (pts C5.ps)) => den E5 (Tryd.f5.body.getD .skip) H5 (initS 30 C5.ps x) (retK tab [] C5.ps C5.rs [.tmp 2]) (fun _ _ => none) (retK tab [] C5.ps C5.rs [.tmp 2])) = C5.F := by kernel_rfl
theorem c5 : Cok Tryd.prog C5 := by
  have h8 := c8
  have h9 := c9
  exact cok_of_den (E := E5) (fn := Tryd.f5) (code := Tryd.f5.body.getD .skip) (hn := H5) (gr := []) (is := [.tmp 2]) ⟨tabOk, (fun c hc => by simp only [E5, List.mem_cons, List.not_mem_nil, or_false] at hc; rcases hc with rfl | rfl <;> assumption), mixOk⟩ ⟨by kernel_rfl, by kernel_rfl, by kernel_rfl, by kernel_rfl, by kernel_rfl, by decide, by kernel_rfl⟩ (fun x y h => (congrFun d5 x).trans h)

/-- impl.in -/
noncomputable def C10 : Cal := ⟨10, [⟨.ro, .int .i64⟩, ⟨.ro, .int .i64⟩, ⟨.ro, .int .i64⟩], [⟨.bool, .ro⟩], fun x => impl_in x.1 x.2.1 x.2.2.1⟩
def H10 : Hn := (.n ⟨[], [], none, false, []⟩ .z (.n ⟨[], [], none, false, []⟩ (.n ⟨[], [], (some ⟨[.snp 6 (.bool) []], [], []⟩), false, []⟩ .z .z) .z))
noncomputable def E10 : Env := ⟨tab, [], 3, 15⟩
theorem d10 : (fun (x : HL (pts C10.ps)) => den E10 (Tryd.f10.body.getD .skip) H10 (initS 15 C10.ps x) (retK tab [] C10.ps C10.rs [.tmp 6]) (fun _ _ => none) (retK tab [] C10.ps C10.rs [.tmp 6])) = C10.F := by kernel_rfl
theorem c10 : Cok Tryd.prog C10 := by
  exact cok_of_den (E := E10) (fn := Tryd.f10) (code := Tryd.f10.body.getD .skip) (hn := H10) (gr := []) (is := [.tmp 6]) ⟨tabOk, (fun c hc => by cases hc), mixOk⟩ ⟨by kernel_rfl, by kernel_rfl, by kernel_rfl, by kernel_rfl, by kernel_rfl, by decide, by kernel_rfl⟩ (fun x y h => (congrFun d10 x).trans h)

/-- impl.Decimal -/
noncomputable def C11 : Cal := ⟨11, [⟨.ro, .int .i64⟩], [⟨.str, .ro⟩], fun x => impl_Decimal x.1⟩
def H11 : Hn := .z
noncomputable def E11 : Env := ⟨tab, [C13], 1, 5⟩
theorem d11 : (fun (x : HL (pts C11.ps)) => den E11 (Tryd.f11.body.getD .skip) H11 (initS 5 C11.ps x) (retK tab [] C11.ps C11.rs [.tmp 2]) (fun _ _ => none) (retK tab [] C11.ps C11.rs [.tmp 2])) = C11.F := by kernel_rfl
theorem c11 : Cok Tryd.prog C11 := by
  have h13 := c13
  exact cok_of_den (E := E11) (fn := Tryd.f11) (code := Tryd.f11.body.getD .skip) (hn := H11) (gr := []) (is := [.tmp 2]) ⟨tabOk, (fun c hc => by simp only [E11, List.mem_cons, List.not_mem_nil, or_false] at hc; rcases hc with rfl <;> assumption), mixOk⟩ ⟨by kernel_rfl, by kernel_rfl, by kernel_rfl, by kernel_rfl, by kernel_rfl, by decide, by kernel_rfl⟩ (fun x y h => (congrFun d11 x).trans h)

/-- impl.ShowWarn -/
noncomputable def C7 : Cal := ⟨7, [⟨.ro, .pair (.int .i64) (.pair (.int .i64) (.str))⟩], [⟨.str, .ro⟩], fun x => impl_ShowWarn x.1⟩
def H7 : Hn := (.n ⟨[], [], none, false, []⟩ .z (.n ⟨[], [], none, false, []⟩ .z (.n ⟨[], [], none, false, []⟩ (.n ⟨[], [], none, false, []⟩ .z (.n ⟨[], [], (some ⟨[.snp 3 (.str) [], .box 1 true (.pair (.int .i64) (.pair (.int .i64) (.str))) (.ro)], [(1, ⟨3, []⟩)], []⟩), false, []⟩ .z .z)) (.n ⟨[], [], none, false, []⟩ .z (.n ⟨[], [], none, false, []⟩ (.n ⟨[], [], none, false, []⟩ .z (.n ⟨[], [], (some ⟨[.snp 4 (.str) []], [], []⟩), false, []⟩ .z .z)) .z)))))
noncomputable def E7 : Env := ⟨tab, [C10, C11], 1, 30⟩
theorem d7 : (fun (x : HL (pts C7.ps)) => den E7 (Tryd.f7.body.getD .skip) H7 (initS 30 C7.ps x) (retK tab [] C7.ps C7.rs [.tmp 2]) (fun _ _ => none) (retK tab [] C7.ps C7.rs [.tmp 2])) = C7.F := by kernel_rfl
theorem c7 : Cok Tryd.prog C7 := by
  have h10 := c10
  have h11 := c11
  exact cok_of_den (E := E7) (fn := Tryd.f7) (code := Tryd.f7.body.getD .skip) (hn := H7) (gr := []) (is := [.tmp 2]) ⟨tabOk, (fun c hc => by simp only [E7, List.mem_cons, List.not_mem_nil, or_false] at hc; rcases hc with rfl | rfl <;> assumption), mixOk⟩ ⟨by kernel_rfl, by kernel_rfl, by kernel_rfl, by kernel_rfl, by kernel_rfl, by decide, by kernel_rfl⟩ (fun x y h => (congrFun d7 x).trans h)

/-- laws.FnExactShowWarn -/
noncomputable def C3 : Cal := ⟨3, [⟨.ro, .pair (.int .i64) (.pair (.int .i64) (.str))⟩], [⟨.bool, .ro⟩], fun x => laws_FnExactShowWarn x.1⟩
def H3 : Hn := .z
noncomputable def E3 : Env := ⟨tab, [C4, C6, C5, C7], 1, 20⟩
theorem d3 : (fun (x : HL (pts C3.ps)) => den E3 (Tryd.f3.body.getD .skip) H3 (initS 20 C3.ps x) (retK tab [] C3.ps C3.rs [.tmp 2]) (fun _ _ => none) (retK tab [] C3.ps C3.rs [.tmp 2])) = C3.F := by kernel_rfl
theorem c3 : Cok Tryd.prog C3 := by
  have h4 := c4
  have h6 := c6
  have h5 := c5
  have h7 := c7
  exact cok_of_den (E := E3) (fn := Tryd.f3) (code := Tryd.f3.body.getD .skip) (hn := H3) (gr := []) (is := [.tmp 2]) ⟨tabOk, (fun c hc => by simp only [E3, List.mem_cons, List.not_mem_nil, or_false] at hc; rcases hc with rfl | rfl | rfl | rfl <;> assumption), mixOk⟩ ⟨by kernel_rfl, by kernel_rfl, by kernel_rfl, by kernel_rfl, by kernel_rfl, by decide, by kernel_rfl⟩ (fun x y h => (congrFun d3 x).trans h)

end Go.Proofs.YtmpfjlolcmokbaaDoorE

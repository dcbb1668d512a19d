/- The functions of X reckon so (1). No condition. -/
import Derived.Test.YtmpfjlolcmokbaaPackR
import Derived.Test.YtmpfjlolcmokbaaLawFX
import Derived.Test.YtmpfjlolcmokbaaProg
set_option linter.all false
namespace Go.Proofs.YtmpfjlolcmokbaaE
set_option maxRecDepth 100000
set_option linter.all false
def tab : List TE := [⟨3, .int .i64, 0, 8⟩, ⟨5, .int .u8, 0, 1⟩, ⟨9, .str, 0, 16⟩, ⟨23, .pair (.int .i64) (.pair (.int .i64) (.pair (.int .i64) (.pair (.int .i64) (.pair (.int .i64) (.pair (.str) (.str)))))), 7, 72⟩, ⟨26, .pair (.int .i64) (.pair (.int .i64) (.pair (.int .i64) (.pair (.int .i64) (.pair (.int .i64) (.pair (.str) (.str)))))), 7, 72⟩, ⟨29, .list 23 (.pair (.int .i64) (.pair (.int .i64) (.pair (.int .i64) (.pair (.int .i64) (.pair (.int .i64) (.pair (.str) (.str))))))), 0, 24⟩, ⟨32, .list 26 (.pair (.int .i64) (.pair (.int .i64) (.pair (.int .i64) (.pair (.int .i64) (.pair (.int .i64) (.pair (.str) (.str))))))), 0, 24⟩, ⟨36, .list 3 (.int .i64), 0, 24⟩, ⟨37, .list 80 (.pair (.int .i64) (.pair (.int .i64) (.pair (.int .i64) (.pair (.int .i64) (.pair (.int .i64) (.pair (.str) (.list 3 (.int .i64)))))))), 0, 24⟩, ⟨39, .pair (.str) (.pair (.int .i64) (.pair (.list 3 (.int .i64)) (.list 80 (.pair (.int .i64) (.pair (.int .i64) (.pair (.int .i64) (.pair (.int .i64) (.pair (.int .i64) (.pair (.str) (.list 3 (.int .i64))))))))))), 4, 72⟩, ⟨42, .list 64 (.pair (.int .i64) (.pair (.int .i64) (.pair (.int .i64) (.pair (.int .i64) (.pair (.int .i64) (.pair (.str) (.list 3 (.int .i64)))))))), 0, 24⟩, ⟨44, .pair (.str) (.pair (.int .i64) (.pair (.list 3 (.int .i64)) (.list 64 (.pair (.int .i64) (.pair (.int .i64) (.pair (.int .i64) (.pair (.int .i64) (.pair (.int .i64) (.pair (.str) (.list 3 (.int .i64))))))))))), 4, 72⟩, ⟨64, .pair (.int .i64) (.pair (.int .i64) (.pair (.int .i64) (.pair (.int .i64) (.pair (.int .i64) (.pair (.str) (.list 3 (.int .i64))))))), 7, 80⟩, ⟨78, .list 5 (.int .u8), 0, 24⟩, ⟨80, .pair (.int .i64) (.pair (.int .i64) (.pair (.int .i64) (.pair (.int .i64) (.pair (.int .i64) (.pair (.str) (.list 3 (.int .i64))))))), 7, 80⟩]
theorem tabOk : TabOk Try.prog tab := tab_ok (by kernel_rfl)
theorem kOk : kpos tab = true := by kernel_rfl
theorem mixOk : Try.prog.follows .mixedOrders = true := by kernel_rfl

/-- laws.szWish -/
noncomputable def C8 : Cal := ⟨8, [⟨.ro, .pair (.int .i64) (.pair (.int .i64) (.pair (.int .i64) (.pair (.int .i64) (.pair (.int .i64) (.pair (.str) (.str))))))⟩, ⟨.ro, .int .i64⟩], [⟨.int .i64, .ro⟩], fun x => laws_szWish x.1 x.2.1⟩
def H8 : Hn := .z
noncomputable def E8 : Env := ⟨tab, [], 0, 20⟩
theorem d8 : (fun (x : HL (pts C8.ps)) => den E8 (Try.f8.body.getD .skip) H8 (initS 20 C8.ps x) (retK tab [] C8.rs [.tmp 4]) (fun _ _ => none) (retK tab [] C8.rs [.tmp 4])) = C8.F := by kernel_rfl
theorem c8 : Cok Try.prog C8 := by
  exact cok_of_den (E := E8) (fn := Try.f8) (code := Try.f8.body.getD .skip) (hn := H8) (gr := []) (is := [.tmp 4]) ⟨tabOk, (fun c hc => by cases hc), mixOk⟩ ⟨by kernel_rfl, by kernel_rfl, by kernel_rfl, by kernel_rfl, by kernel_rfl, by decide, by kernel_rfl⟩ (fun x y h => (congrFun d8 x).trans h)

/-- laws.toWish -/
noncomputable def C10 : Cal := ⟨10, [⟨.ro, .pair (.int .i64) (.pair (.int .i64) (.pair (.int .i64) (.pair (.int .i64) (.pair (.int .i64) (.pair (.str) (.str))))))⟩], [⟨.pair (.int .i64) (.pair (.int .i64) (.pair (.int .i64) (.pair (.int .i64) (.pair (.int .i64) (.pair (.str) (.str)))))), .ro⟩], fun x => laws_toWish x.1⟩
def H10 : Hn := .z
noncomputable def E10 : Env := ⟨tab, [], 0, 26⟩
theorem d10 : (fun (x : HL (pts C10.ps)) => den E10 (Try.f10.body.getD .skip) H10 (initS 26 C10.ps x) (retK tab [] C10.rs [.cell 2 26]) (fun _ _ => none) (retK tab [] C10.rs [.cell 2 26])) = C10.F := by kernel_rfl
theorem c10 : Cok Try.prog C10 := by
  exact cok_of_den (E := E10) (fn := Try.f10) (code := Try.f10.body.getD .skip) (hn := H10) (gr := []) (is := [.cell 2 26]) ⟨tabOk, (fun c hc => by cases hc), mixOk⟩ ⟨by kernel_rfl, by kernel_rfl, by kernel_rfl, by kernel_rfl, by kernel_rfl, by decide, by kernel_rfl⟩ (fun x y h => (congrFun d10 x).trans h)

/-- spec.l01In -/
noncomputable def C29 : Cal := ⟨29, [⟨.ro, .int .i64⟩, ⟨.ro, .int .i64⟩, ⟨.ro, .int .i64⟩], [⟨.bool, .ro⟩], fun x => spec_l01In x.1 x.2.1 x.2.2.1⟩
def H29 : Hn := (.n ⟨[], [], none, false, []⟩ .z (.n ⟨[], [], none, false, []⟩ (.n ⟨[], [], (some ⟨[.snp 6 (.bool) []], [], []⟩), false, []⟩ .z .z) .z))
noncomputable def E29 : Env := ⟨tab, [], 0, 15⟩
theorem d29 : (fun (x : HL (pts C29.ps)) => den E29 (Try.f29.body.getD .skip) H29 (initS 15 C29.ps x) (retK tab [] C29.rs [.tmp 6]) (fun _ _ => none) (retK tab [] C29.rs [.tmp 6])) = C29.F := by kernel_rfl
theorem c29 : Cok Try.prog C29 := by
  exact cok_of_den (E := E29) (fn := Try.f29) (code := Try.f29.body.getD .skip) (hn := H29) (gr := []) (is := [.tmp 6]) ⟨tabOk, (fun c hc => by cases hc), mixOk⟩ ⟨by kernel_rfl, by kernel_rfl, by kernel_rfl, by kernel_rfl, by kernel_rfl, by decide, by kernel_rfl⟩ (fun x y h => (congrFun d29 x).trans h)

/-- spec.l01Var -/
noncomputable def C30 : Cal := ⟨30, [⟨.ro, .int .i64⟩], [⟨.str, .ro⟩], fun x => spec_l01Var x.1⟩
def H30 : Hn := (.n ⟨[], [], none, false, []⟩ .z (.n ⟨[], [], none, false, []⟩ .z (.n ⟨[], [], none, false, []⟩ (.n ⟨[], [], (some ⟨[.snp 0 (.int .i64) [], .dat 3 (.list 5 (.int .u8)) (.own (.ro))], [], []⟩), false, []⟩ (.n ⟨[3], [], (some ⟨[.snp 0 (.int .i64) [], .dat 3 (.list 5 (.int .u8)) (.own (.ro))], [], []⟩), false, []⟩ (.n ⟨[], [], none, false, []⟩ .z (.n ⟨[], [], none, false, []⟩ (.n ⟨[], [], none, false, []⟩ (.n ⟨[], [], none, false, [(6, ⟨[7], .ro, [], []⟩)]⟩ .z .z) (.n ⟨[], [3], none, false, []⟩ .z .z)) .z)) .z) .z) (.n ⟨[], [], none, false, []⟩ (.n ⟨[], [], none, false, [(4, ⟨[16], .ro, [], []⟩)]⟩ .z .z) .z))))
noncomputable def E30 : Env := ⟨tab, [], 0, 22⟩
theorem d30 : (fun (x : HL (pts C30.ps)) => den E30 (Try.f30.body.getD .skip) H30 (initS 22 C30.ps x) (retK tab [] C30.rs [.tmp 2]) (fun _ _ => none) (retK tab [] C30.rs [.tmp 2])) = C30.F := by kernel_rfl
theorem c30 : Cok Try.prog C30 := by
  exact cok_of_den (E := E30) (fn := Try.f30) (code := Try.f30.body.getD .skip) (hn := H30) (gr := []) (is := [.tmp 2]) ⟨tabOk, (fun c hc => by cases hc), mixOk⟩ ⟨by kernel_rfl, by kernel_rfl, by kernel_rfl, by kernel_rfl, by kernel_rfl, by decide, by kernel_rfl⟩ (fun x y h => (congrFun d30 x).trans h)

/-- spec.WishText -/
noncomputable def C9 : Cal := ⟨9, [⟨.ro, .pair (.int .i64) (.pair (.int .i64) (.pair (.int .i64) (.pair (.int .i64) (.pair (.int .i64) (.pair (.str) (.str))))))⟩], [⟨.str, .ro⟩], fun x => spec_WishText x.1⟩
def H9 : Hn := (.n ⟨[], [], none, false, []⟩ .z (.n ⟨[], [], none, false, []⟩ .z (.n ⟨[], [], none, false, []⟩ .z (.n ⟨[], [], none, false, []⟩ (.n ⟨[], [], none, false, []⟩ .z (.n ⟨[], [], (some ⟨[.snp 4 (.str) [], .box 1 true (.pair (.int .i64) (.pair (.int .i64) (.pair (.int .i64) (.pair (.int .i64) (.pair (.int .i64) (.pair (.str) (.str))))))) (.ro)], [(1, ⟨3, []⟩)], []⟩), true, []⟩ (.n ⟨[3], [], (some ⟨[.dat 3 (.list 3 (.int .i64)) (.own (.ro)), .snp 4 (.str) [], .snp 5 (.int .i64) [], .box 1 true (.pair (.int .i64) (.pair (.int .i64) (.pair (.int .i64) (.pair (.int .i64) (.pair (.int .i64) (.pair (.str) (.str))))))) (.ro)], [(1, ⟨3, []⟩)], []⟩), false, []⟩ .z .z) .z)) (.n ⟨[], [], none, false, []⟩ (.n ⟨[], [], none, false, []⟩ (.n ⟨[], [], (some ⟨[.snp 4 (.str) [], .snp 45 (.bool) [], .box 1 true (.pair (.int .i64) (.pair (.int .i64) (.pair (.int .i64) (.pair (.int .i64) (.pair (.int .i64) (.pair (.str) (.str))))))) (.ro)], [(1, ⟨3, []⟩)], []⟩), false, []⟩ .z .z) .z) (.n ⟨[], [], none, false, []⟩ (.n ⟨[], [], none, false, [(0, ⟨[], .ro, [46], []⟩), (1, ⟨[], .ro, [47], []⟩), (2, ⟨[], .ro, [48], []⟩), (3, ⟨[], .ro, [49], []⟩), (4, ⟨[], .ro, [50], []⟩), (5, ⟨[], .ro, [51], []⟩), (6, ⟨[], .ro, [52], []⟩), (7, ⟨[], .ro, [53], []⟩), (8, ⟨[], .ro, [54], []⟩), (9, ⟨[], .ro, [55], []⟩), (10, ⟨[], .ro, [56], []⟩), (11, ⟨[], .ro, [57], []⟩), (12, ⟨[], .ro, [58], []⟩), (13, ⟨[], .ro, [59], []⟩), (14, ⟨[], .ro, [60], []⟩), (15, ⟨[], .ro, [61], []⟩), (16, ⟨[], .ro, [62], []⟩), (17, ⟨[], .ro, [2], []⟩)]⟩ .z .z) .z))))))
noncomputable def E9 : Env := ⟨tab, [C29, C30], 0, 63⟩
theorem d9 : (fun (x : HL (pts C9.ps)) => den E9 (Try.f9.body.getD .skip) H9 (initS 63 C9.ps x) (retK tab [] C9.rs [.tmp 2]) (fun _ _ => none) (retK tab [] C9.rs [.tmp 2])) = C9.F := by kernel_rfl
theorem c9 : Cok Try.prog C9 := by
  have h29 := c29
  have h30 := c30
  exact cok_of_den (E := E9) (fn := Try.f9) (code := Try.f9.body.getD .skip) (hn := H9) (gr := []) (is := [.tmp 2]) ⟨tabOk, (fun c hc => by simp only [E9, List.mem_cons, List.not_mem_nil, or_false] at hc; rcases hc with rfl | rfl <;> assumption), mixOk⟩ ⟨by kernel_rfl, by kernel_rfl, by kernel_rfl, by kernel_rfl, by kernel_rfl, by decide, by kernel_rfl⟩ (fun x y h => (congrFun d9 x).trans h)

/-- impl.in -/
noncomputable def C41 : Cal := ⟨41, [⟨.ro, .int .i64⟩, ⟨.ro, .int .i64⟩, ⟨.ro, .int .i64⟩], [⟨.bool, .ro⟩], fun x => impl_in x.1 x.2.1 x.2.2.1⟩
def H41 : Hn := (.n ⟨[], [], none, false, []⟩ .z (.n ⟨[], [], none, false, []⟩ (.n ⟨[], [], (some ⟨[.snp 6 (.bool) []], [], []⟩), false, []⟩ .z .z) .z))
noncomputable def E41 : Env := ⟨tab, [], 0, 15⟩
theorem d41 : (fun (x : HL (pts C41.ps)) => den E41 (Try.f41.body.getD .skip) H41 (initS 15 C41.ps x) (retK tab [] C41.rs [.tmp 6]) (fun _ _ => none) (retK tab [] C41.rs [.tmp 6])) = C41.F := by kernel_rfl
theorem c41 : Cok Try.prog C41 := by
  exact cok_of_den (E := E41) (fn := Try.f41) (code := Try.f41.body.getD .skip) (hn := H41) (gr := []) (is := [.tmp 6]) ⟨tabOk, (fun c hc => by cases hc), mixOk⟩ ⟨by kernel_rfl, by kernel_rfl, by kernel_rfl, by kernel_rfl, by kernel_rfl, by decide, by kernel_rfl⟩ (fun x y h => (congrFun d41 x).trans h)

/-- impl.varText -/
noncomputable def C45 : Cal := ⟨45, [⟨.ro, .int .i64⟩], [⟨.str, .ro⟩], fun x => impl_varText x.1⟩
def H45 : Hn := (.n ⟨[], [], none, false, []⟩ .z (.n ⟨[], [], none, false, []⟩ .z (.n ⟨[], [], none, false, []⟩ (.n ⟨[], [], (some ⟨[.snp 0 (.int .i64) [], .dat 3 (.list 5 (.int .u8)) (.own (.ro))], [], []⟩), false, []⟩ (.n ⟨[], [], (some ⟨[.snp 0 (.int .i64) [], .dat 3 (.list 5 (.int .u8)) (.own (.ro))], [], []⟩), false, []⟩ (.n ⟨[], [], none, false, []⟩ .z (.n ⟨[], [], none, false, []⟩ (.n ⟨[], [], none, false, []⟩ (.n ⟨[], [], none, false, [(6, ⟨[6], .ro, [], []⟩)]⟩ .z .z) (.n ⟨[], [3], none, false, []⟩ .z .z)) .z)) .z) .z) (.n ⟨[], [], none, false, []⟩ (.n ⟨[], [], none, false, [(4, ⟨[15], .ro, [], []⟩)]⟩ .z .z) .z))))
noncomputable def E45 : Env := ⟨tab, [], 0, 21⟩
theorem d45 : (fun (x : HL (pts C45.ps)) => den E45 (Try.f45.body.getD .skip) H45 (initS 21 C45.ps x) (retK tab [] C45.rs [.tmp 2]) (fun _ _ => none) (retK tab [] C45.rs [.tmp 2])) = C45.F := by kernel_rfl
theorem c45 : Cok Try.prog C45 := by
  exact cok_of_den (E := E45) (fn := Try.f45) (code := Try.f45.body.getD .skip) (hn := H45) (gr := []) (is := [.tmp 2]) ⟨tabOk, (fun c hc => by cases hc), mixOk⟩ ⟨by kernel_rfl, by kernel_rfl, by kernel_rfl, by kernel_rfl, by kernel_rfl, by decide, by kernel_rfl⟩ (fun x y h => (congrFun d45 x).trans h)

/-- impl.VarText -/
noncomputable def C31 : Cal := ⟨31, [⟨.ro, .int .i64⟩], [⟨.str, .ro⟩, ⟨.bool, .ro⟩], fun x => impl_VarText x.1⟩
def H31 : Hn := .z
noncomputable def E31 : Env := ⟨tab, [C41, C45], 0, 9⟩
theorem d31 : (fun (x : HL (pts C31.ps)) => den E31 (Try.f31.body.getD .skip) H31 (initS 9 C31.ps x) (retK tab [] C31.rs [.tmp 2, .tmp 3]) (fun _ _ => none) (retK tab [] C31.rs [.tmp 2, .tmp 3])) = C31.F := by kernel_rfl
theorem c31 : Cok Try.prog C31 := by
  have h41 := c41
  have h45 := c45
  exact cok_of_den (E := E31) (fn := Try.f31) (code := Try.f31.body.getD .skip) (hn := H31) (gr := []) (is := [.tmp 2, .tmp 3]) ⟨tabOk, (fun c hc => by simp only [E31, List.mem_cons, List.not_mem_nil, or_false] at hc; rcases hc with rfl | rfl <;> assumption), mixOk⟩ ⟨by kernel_rfl, by kernel_rfl, by kernel_rfl, by kernel_rfl, by kernel_rfl, by decide, by kernel_rfl⟩ (fun x y h => (congrFun d31 x).trans h)

/-- impl.shortText -/
noncomputable def C32 : Cal := ⟨32, [⟨.ro, .str⟩], [⟨.str, .ro⟩], fun x => impl_shortText x.1⟩
def H32 : Hn := .z
noncomputable def E32 : Env := ⟨tab, [C45], 0, 8⟩
theorem d32 : (fun (x : HL (pts C32.ps)) => den E32 (Try.f32.body.getD .skip) H32 (initS 8 C32.ps x) (retK tab [] C32.rs [.tmp 2]) (fun _ _ => none) (retK tab [] C32.rs [.tmp 2])) = C32.F := by kernel_rfl
theorem c32 : Cok Try.prog C32 := by
  have h45 := c45
  exact cok_of_den (E := E32) (fn := Try.f32) (code := Try.f32.body.getD .skip) (hn := H32) (gr := []) (is := [.tmp 2]) ⟨tabOk, (fun c hc => by simp only [E32, List.mem_cons, List.not_mem_nil, or_false] at hc; rcases hc with rfl <;> assumption), mixOk⟩ ⟨by kernel_rfl, by kernel_rfl, by kernel_rfl, by kernel_rfl, by kernel_rfl, by decide, by kernel_rfl⟩ (fun x y h => (congrFun d32 x).trans h)

/-- impl.WishText -/
noncomputable def C11 : Cal := ⟨11, [⟨.ro, .pair (.int .i64) (.pair (.int .i64) (.pair (.int .i64) (.pair (.int .i64) (.pair (.int .i64) (.pair (.str) (.str))))))⟩], [⟨.str, .ro⟩], fun x => impl_WishText x.1⟩
def H11 : Hn := (.n ⟨[], [], none, false, []⟩ .z (.n ⟨[], [], none, false, []⟩ (.n ⟨[], [], none, false, []⟩ (.n ⟨[], [], (some ⟨[.snp 17 (.bool) [], .box 1 true (.pair (.int .i64) (.pair (.int .i64) (.pair (.int .i64) (.pair (.int .i64) (.pair (.int .i64) (.pair (.str) (.str))))))) (.ro)], [(1, ⟨3, []⟩)], []⟩), false, []⟩ .z .z) .z) (.n ⟨[], [], none, false, []⟩ .z (.n ⟨[], [], none, false, []⟩ (.n ⟨[], [], none, false, []⟩ .z (.n ⟨[], [], (some ⟨[.snp 3 (.str) [], .box 1 true (.pair (.int .i64) (.pair (.int .i64) (.pair (.int .i64) (.pair (.int .i64) (.pair (.int .i64) (.pair (.str) (.str))))))) (.ro)], [(1, ⟨3, []⟩)], []⟩), true, []⟩ (.n ⟨[], [], (some ⟨[.snp 3 (.str) [], .dat 28 (.list 3 (.int .i64)) (.own (.ro)), .snp 29 (.int .i64) [], .snp 30 (.int .i64) [], .box 1 true (.pair (.int .i64) (.pair (.int .i64) (.pair (.int .i64) (.pair (.int .i64) (.pair (.int .i64) (.pair (.str) (.str))))))) (.ro)], [(1, ⟨3, []⟩)], []⟩), false, []⟩ .z .z) .z)) (.n ⟨[], [], none, false, []⟩ (.n ⟨[], [], none, false, [(0, ⟨[], .ro, [45], []⟩), (1, ⟨[], .ro, [46], []⟩), (2, ⟨[], .ro, [47], []⟩), (3, ⟨[], .ro, [48], []⟩), (4, ⟨[], .ro, [49], []⟩), (5, ⟨[], .ro, [50], []⟩), (6, ⟨[], .ro, [51], []⟩), (7, ⟨[], .ro, [52], []⟩), (8, ⟨[], .ro, [53], []⟩), (9, ⟨[], .ro, [2], []⟩)]⟩ .z .z) .z)))))
noncomputable def E11 : Env := ⟨tab, [C31, C32], 0, 54⟩
theorem d11 : (fun (x : HL (pts C11.ps)) => den E11 (Try.f11.body.getD .skip) H11 (initS 54 C11.ps x) (retK tab [] C11.rs [.tmp 2]) (fun _ _ => none) (retK tab [] C11.rs [.tmp 2])) = C11.F := by kernel_rfl
theorem c11 : Cok Try.prog C11 := by
  have h31 := c31
  have h32 := c32
  exact cok_of_den (E := E11) (fn := Try.f11) (code := Try.f11.body.getD .skip) (hn := H11) (gr := []) (is := [.tmp 2]) ⟨tabOk, (fun c hc => by simp only [E11, List.mem_cons, List.not_mem_nil, or_false] at hc; rcases hc with rfl | rfl <;> assumption), mixOk⟩ ⟨by kernel_rfl, by kernel_rfl, by kernel_rfl, by kernel_rfl, by kernel_rfl, by decide, by kernel_rfl⟩ (fun x y h => (congrFun d11 x).trans h)

/-- laws.FnExactWishText -/
noncomputable def C3 : Cal := ⟨3, [⟨.ro, .pair (.int .i64) (.pair (.int .i64) (.pair (.int .i64) (.pair (.int .i64) (.pair (.int .i64) (.pair (.str) (.str))))))⟩], [⟨.bool, .ro⟩], fun x => laws_FnExactWishText x.1⟩
def H3 : Hn := .z
noncomputable def E3 : Env := ⟨tab, [C8, C10, C9, C11], 0, 20⟩
theorem d3 : (fun (x : HL (pts C3.ps)) => den E3 (Try.f3.body.getD .skip) H3 (initS 20 C3.ps x) (retK tab [] C3.rs [.tmp 2]) (fun _ _ => none) (retK tab [] C3.rs [.tmp 2])) = C3.F := by kernel_rfl
theorem c3 : Cok Try.prog C3 := by
  have h8 := c8
  have h10 := c10
  have h9 := c9
  have h11 := c11
  exact cok_of_den (E := E3) (fn := Try.f3) (code := Try.f3.body.getD .skip) (hn := H3) (gr := []) (is := [.tmp 2]) ⟨tabOk, (fun c hc => by simp only [E3, List.mem_cons, List.not_mem_nil, or_false] at hc; rcases hc with rfl | rfl | rfl | rfl <;> assumption), mixOk⟩ ⟨by kernel_rfl, by kernel_rfl, by kernel_rfl, by kernel_rfl, by kernel_rfl, by decide, by kernel_rfl⟩ (fun x y h => (congrFun d3 x).trans h)

/-- laws.szWishS -/
noncomputable def C12 : Cal := ⟨12, [⟨.ro, .list 23 (.pair (.int .i64) (.pair (.int .i64) (.pair (.int .i64) (.pair (.int .i64) (.pair (.int .i64) (.pair (.str) (.str)))))))⟩, ⟨.ro, .int .i64⟩], [⟨.int .i64, .ro⟩], fun x => laws_szWishS x.1 x.2.1⟩
def H12 : Hn := (.n ⟨[], [], none, false, []⟩ .z (.n ⟨[], [], none, false, []⟩ .z (.n ⟨[], [], none, false, []⟩ .z (.n ⟨[], [], none, false, []⟩ (.n ⟨[], [], none, false, []⟩ .z (.n ⟨[], [], (some ⟨[.snp 1 (.int .i64) []], [], []⟩), true, []⟩ (.n ⟨[], [], (some ⟨[.snp 0 (.list 23 (.pair (.int .i64) (.pair (.int .i64) (.pair (.int .i64) (.pair (.int .i64) (.pair (.int .i64) (.pair (.str) (.str)))))))) [], .snp 1 (.int .i64) [], .snp 5 (.int .i64) []], [], []⟩), false, []⟩ .z .z) .z)) .z))))
noncomputable def E12 : Env := ⟨tab, [C8], 0, 27⟩
theorem d12 : (fun (x : HL (pts C12.ps)) => den E12 (Try.f12.body.getD .skip) H12 (initS 27 C12.ps x) (retK tab [] C12.rs [.tmp 4]) (fun _ _ => none) (retK tab [] C12.rs [.tmp 4])) = C12.F := by kernel_rfl
theorem c12 : Cok Try.prog C12 := by
  have h8 := c8
  exact cok_of_den (E := E12) (fn := Try.f12) (code := Try.f12.body.getD .skip) (hn := H12) (gr := []) (is := [.tmp 4]) ⟨tabOk, (fun c hc => by simp only [E12, List.mem_cons, List.not_mem_nil, or_false] at hc; rcases hc with rfl <;> assumption), mixOk⟩ ⟨by kernel_rfl, by kernel_rfl, by kernel_rfl, by kernel_rfl, by kernel_rfl, by decide, by kernel_rfl⟩ (fun x y h => (congrFun d12 x).trans h)

/-- laws.toWishS -/
noncomputable def C14 : Cal := ⟨14, [⟨.ro, .list 23 (.pair (.int .i64) (.pair (.int .i64) (.pair (.int .i64) (.pair (.int .i64) (.pair (.int .i64) (.pair (.str) (.str)))))))⟩], [⟨.list 26 (.pair (.int .i64) (.pair (.int .i64) (.pair (.int .i64) (.pair (.int .i64) (.pair (.int .i64) (.pair (.str) (.str))))))), .own (.ro)⟩], fun x => laws_toWishS x.1⟩
def H14 : Hn := (.n ⟨[], [], none, false, []⟩ .z (.n ⟨[], [], none, false, []⟩ .z (.n ⟨[], [], none, false, []⟩ (.n ⟨[], [], none, false, []⟩ .z (.n ⟨[], [], (some ⟨[.dat 3 (.list 26 (.pair (.int .i64) (.pair (.int .i64) (.pair (.int .i64) (.pair (.int .i64) (.pair (.int .i64) (.pair (.str) (.str)))))))) (.own (.ro))], [], []⟩), false, []⟩ (.n ⟨[3], [], (some ⟨[.snp 0 (.list 23 (.pair (.int .i64) (.pair (.int .i64) (.pair (.int .i64) (.pair (.int .i64) (.pair (.int .i64) (.pair (.str) (.str)))))))) [], .dat 3 (.list 26 (.pair (.int .i64) (.pair (.int .i64) (.pair (.int .i64) (.pair (.int .i64) (.pair (.int .i64) (.pair (.str) (.str)))))))) (.own (.ro)), .snp 4 (.int .i64) []], [], []⟩), false, []⟩ .z .z) .z)) .z)))
noncomputable def E14 : Env := ⟨tab, [C10], 0, 23⟩
theorem d14 : (fun (x : HL (pts C14.ps)) => den E14 (Try.f14.body.getD .skip) H14 (initS 23 C14.ps x) (retK tab [2] C14.rs [.tmp 2]) (fun _ _ => none) (retK tab [2] C14.rs [.tmp 2])) = C14.F := by kernel_rfl
theorem c14 : Cok Try.prog C14 := by
  have h10 := c10
  exact cok_of_den (E := E14) (fn := Try.f14) (code := Try.f14.body.getD .skip) (hn := H14) (gr := [2]) (is := [.tmp 2]) ⟨tabOk, (fun c hc => by simp only [E14, List.mem_cons, List.not_mem_nil, or_false] at hc; rcases hc with rfl <;> assumption), mixOk⟩ ⟨by kernel_rfl, by kernel_rfl, by kernel_rfl, by kernel_rfl, by kernel_rfl, by decide, by kernel_rfl⟩ (fun x y h => (congrFun d14 x).trans h)

/-- spec.PlanText -/
noncomputable def C13 : Cal := ⟨13, [⟨.ro, .list 26 (.pair (.int .i64) (.pair (.int .i64) (.pair (.int .i64) (.pair (.int .i64) (.pair (.int .i64) (.pair (.str) (.str)))))))⟩], [⟨.str, .ro⟩], fun x => spec_PlanText x.1⟩
def H13 : Hn := (.n ⟨[], [], none, false, []⟩ .z (.n ⟨[], [], none, false, []⟩ .z (.n ⟨[], [], none, false, []⟩ (.n ⟨[], [], none, false, []⟩ .z (.n ⟨[], [], (some ⟨[.snp 3 (.str) []], [], []⟩), true, []⟩ (.n ⟨[], [], (some ⟨[.snp 0 (.list 26 (.pair (.int .i64) (.pair (.int .i64) (.pair (.int .i64) (.pair (.int .i64) (.pair (.int .i64) (.pair (.str) (.str)))))))) [], .snp 3 (.str) [], .snp 4 (.int .i64) []], [], []⟩), false, []⟩ .z .z) .z)) .z)))
noncomputable def E13 : Env := ⟨tab, [C9], 0, 23⟩
theorem d13 : (fun (x : HL (pts C13.ps)) => den E13 (Try.f13.body.getD .skip) H13 (initS 23 C13.ps x) (retK tab [] C13.rs [.tmp 2]) (fun _ _ => none) (retK tab [] C13.rs [.tmp 2])) = C13.F := by kernel_rfl
theorem c13 : Cok Try.prog C13 := by
  have h9 := c9
  exact cok_of_den (E := E13) (fn := Try.f13) (code := Try.f13.body.getD .skip) (hn := H13) (gr := []) (is := [.tmp 2]) ⟨tabOk, (fun c hc => by simp only [E13, List.mem_cons, List.not_mem_nil, or_false] at hc; rcases hc with rfl <;> assumption), mixOk⟩ ⟨by kernel_rfl, by kernel_rfl, by kernel_rfl, by kernel_rfl, by kernel_rfl, by decide, by kernel_rfl⟩ (fun x y h => (congrFun d13 x).trans h)

/-- impl.PlanText -/
noncomputable def C15 : Cal := ⟨15, [⟨.ro, .list 26 (.pair (.int .i64) (.pair (.int .i64) (.pair (.int .i64) (.pair (.int .i64) (.pair (.int .i64) (.pair (.str) (.str)))))))⟩], [⟨.str, .ro⟩], fun x => impl_PlanText x.1⟩
def H15 : Hn := (.n ⟨[], [], none, false, []⟩ .z (.n ⟨[], [], none, false, []⟩ .z (.n ⟨[], [], none, false, []⟩ (.n ⟨[], [], none, false, []⟩ .z (.n ⟨[], [], (some ⟨[.snp 3 (.str) []], [], []⟩), true, []⟩ (.n ⟨[], [], (some ⟨[.snp 3 (.str) [], .snp 7 (.list 26 (.pair (.int .i64) (.pair (.int .i64) (.pair (.int .i64) (.pair (.int .i64) (.pair (.int .i64) (.pair (.str) (.str)))))))) [], .snp 8 (.int .i64) [], .snp 9 (.int .i64) []], [], []⟩), false, []⟩ .z .z) .z)) .z)))
noncomputable def E15 : Env := ⟨tab, [C11], 0, 22⟩
theorem d15 : (fun (x : HL (pts C15.ps)) => den E15 (Try.f15.body.getD .skip) H15 (initS 22 C15.ps x) (retK tab [] C15.rs [.tmp 2]) (fun _ _ => none) (retK tab [] C15.rs [.tmp 2])) = C15.F := by kernel_rfl
theorem c15 : Cok Try.prog C15 := by
  have h11 := c11
  exact cok_of_den (E := E15) (fn := Try.f15) (code := Try.f15.body.getD .skip) (hn := H15) (gr := []) (is := [.tmp 2]) ⟨tabOk, (fun c hc => by simp only [E15, List.mem_cons, List.not_mem_nil, or_false] at hc; rcases hc with rfl <;> assumption), mixOk⟩ ⟨by kernel_rfl, by kernel_rfl, by kernel_rfl, by kernel_rfl, by kernel_rfl, by decide, by kernel_rfl⟩ (fun x y h => (congrFun d15 x).trans h)

/-- laws.eqWish -/
noncomputable def C24 : Cal := ⟨24, [⟨.ro, .pair (.int .i64) (.pair (.int .i64) (.pair (.int .i64) (.pair (.int .i64) (.pair (.int .i64) (.pair (.str) (.str))))))⟩, ⟨.ro, .pair (.int .i64) (.pair (.int .i64) (.pair (.int .i64) (.pair (.int .i64) (.pair (.int .i64) (.pair (.str) (.str))))))⟩], [⟨.bool, .ro⟩], fun x => laws_eqWish x.1 x.2.1⟩
def H24 : Hn := .z
noncomputable def E24 : Env := ⟨tab, [], 0, 40⟩
theorem d24 : (fun (x : HL (pts C24.ps)) => den E24 (Try.f24.body.getD .skip) H24 (initS 40 C24.ps x) (retK tab [] C24.rs [.tmp 4]) (fun _ _ => none) (retK tab [] C24.rs [.tmp 4])) = C24.F := by kernel_rfl
theorem c24 : Cok Try.prog C24 := by
  exact cok_of_den (E := E24) (fn := Try.f24) (code := Try.f24.body.getD .skip) (hn := H24) (gr := []) (is := [.tmp 4]) ⟨tabOk, (fun c hc => by cases hc), mixOk⟩ ⟨by kernel_rfl, by kernel_rfl, by kernel_rfl, by kernel_rfl, by kernel_rfl, by decide, by kernel_rfl⟩ (fun x y h => (congrFun d24 x).trans h)

/-- laws.eqWishS -/
noncomputable def C16 : Cal := ⟨16, [⟨.ro, .list 26 (.pair (.int .i64) (.pair (.int .i64) (.pair (.int .i64) (.pair (.int .i64) (.pair (.int .i64) (.pair (.str) (.str)))))))⟩, ⟨.ro, .list 26 (.pair (.int .i64) (.pair (.int .i64) (.pair (.int .i64) (.pair (.int .i64) (.pair (.int .i64) (.pair (.str) (.str)))))))⟩], [⟨.bool, .ro⟩], fun x => laws_eqWishS x.1 x.2.1⟩
def H16 : Hn := (.n ⟨[], [], none, false, []⟩ .z (.n ⟨[], [], none, false, []⟩ .z (.n ⟨[], [], none, false, []⟩ (.n ⟨[], [], none, false, []⟩ .z (.n ⟨[], [], (some ⟨[], [], []⟩), true, []⟩ (.n ⟨[], [], (some ⟨[.snp 0 (.list 26 (.pair (.int .i64) (.pair (.int .i64) (.pair (.int .i64) (.pair (.int .i64) (.pair (.int .i64) (.pair (.str) (.str)))))))) [], .snp 1 (.list 26 (.pair (.int .i64) (.pair (.int .i64) (.pair (.int .i64) (.pair (.int .i64) (.pair (.int .i64) (.pair (.str) (.str)))))))) [], .snp 5 (.int .i64) []], [], []⟩), false, []⟩ (.n ⟨[], [], none, false, []⟩ .z (.n ⟨[], [], none, false, []⟩ (.n ⟨[], [], none, false, []⟩ (.n ⟨[], [], none, false, []⟩ (.n ⟨[], [], none, false, [(0, ⟨[], .ro, [17], []⟩), (1, ⟨[], .ro, [18], []⟩), (2, ⟨[], .ro, [19], []⟩), (3, ⟨[], .ro, [20], []⟩), (4, ⟨[], .ro, [21], []⟩), (5, ⟨[], .ro, [22], []⟩), (6, ⟨[], .ro, [23], []⟩), (7, ⟨[], .ro, [24], []⟩), (8, ⟨[], .ro, [25], []⟩), (9, ⟨[], .ro, [26], []⟩)]⟩ .z .z) .z) .z) .z)) .z) .z)) .z)))
noncomputable def E16 : Env := ⟨tab, [C24], 0, 27⟩
theorem d16 : (fun (x : HL (pts C16.ps)) => den E16 (Try.f16.body.getD .skip) H16 (initS 27 C16.ps x) (retK tab [] C16.rs [.tmp 4]) (fun _ _ => none) (retK tab [] C16.rs [.tmp 4])) = C16.F := by kernel_rfl
theorem c16 : Cok Try.prog C16 := by
  have h24 := c24
  exact cok_of_den (E := E16) (fn := Try.f16) (code := Try.f16.body.getD .skip) (hn := H16) (gr := []) (is := [.tmp 4]) ⟨tabOk, (fun c hc => by simp only [E16, List.mem_cons, List.not_mem_nil, or_false] at hc; rcases hc with rfl <;> assumption), mixOk⟩ ⟨by kernel_rfl, by kernel_rfl, by kernel_rfl, by kernel_rfl, by kernel_rfl, by decide, by kernel_rfl⟩ (fun x y h => (congrFun d16 x).trans h)

/-- laws.FnExactPlanText -/
noncomputable def C4 : Cal := ⟨4, [⟨.ro, .list 23 (.pair (.int .i64) (.pair (.int .i64) (.pair (.int .i64) (.pair (.int .i64) (.pair (.int .i64) (.pair (.str) (.str)))))))⟩], [⟨.bool, .ro⟩], fun x => laws_FnExactPlanText x.1⟩
def H4 : Hn := .z
noncomputable def E4 : Env := ⟨tab, [C12, C14, C13, C15, C16], 0, 27⟩
theorem d4 : (fun (x : HL (pts C4.ps)) => den E4 (Try.f4.body.getD .skip) H4 (initS 27 C4.ps x) (retK tab [] C4.rs [.tmp 2]) (fun _ _ => none) (retK tab [] C4.rs [.tmp 2])) = C4.F := by kernel_rfl
theorem c4 : Cok Try.prog C4 := by
  have h12 := c12
  have h14 := c14
  have h13 := c13
  have h15 := c15
  have h16 := c16
  exact cok_of_den (E := E4) (fn := Try.f4) (code := Try.f4.body.getD .skip) (hn := H4) (gr := []) (is := [.tmp 2]) ⟨tabOk, (fun c hc => by simp only [E4, List.mem_cons, List.not_mem_nil, or_false] at hc; rcases hc with rfl | rfl | rfl | rfl | rfl <;> assumption), mixOk⟩ ⟨by kernel_rfl, by kernel_rfl, by kernel_rfl, by kernel_rfl, by kernel_rfl, by decide, by kernel_rfl⟩ (fun x y h => (congrFun d4 x).trans h)

/-- laws.szIntS -/
noncomputable def C33 : Cal := ⟨33, [⟨.ro, .list 3 (.int .i64)⟩, ⟨.ro, .int .i64⟩], [⟨.int .i64, .ro⟩], fun x => laws_szIntS x.1 x.2.1⟩
def H33 : Hn := .z
noncomputable def E33 : Env := ⟨tab, [], 0, 12⟩
theorem d33 : (fun (x : HL (pts C33.ps)) => den E33 (Try.f33.body.getD .skip) H33 (initS 12 C33.ps x) (retK tab [] C33.rs [.tmp 4]) (fun _ _ => none) (retK tab [] C33.rs [.tmp 4])) = C33.F := by kernel_rfl
theorem c33 : Cok Try.prog C33 := by
  exact cok_of_den (E := E33) (fn := Try.f33) (code := Try.f33.body.getD .skip) (hn := H33) (gr := []) (is := [.tmp 4]) ⟨tabOk, (fun c hc => by cases hc), mixOk⟩ ⟨by kernel_rfl, by kernel_rfl, by kernel_rfl, by kernel_rfl, by kernel_rfl, by decide, by kernel_rfl⟩ (fun x y h => (congrFun d33 x).trans h)

/-- laws.szIns -/
noncomputable def C46 : Cal := ⟨46, [⟨.ro, .pair (.int .i64) (.pair (.int .i64) (.pair (.int .i64) (.pair (.int .i64) (.pair (.int .i64) (.pair (.str) (.list 3 (.int .i64)))))))⟩, ⟨.ro, .int .i64⟩], [⟨.int .i64, .ro⟩], fun x => laws_szIns x.1 x.2.1⟩
def H46 : Hn := (.n ⟨[], [], none, false, []⟩ (.n ⟨[], [], none, false, [(0, ⟨[], .pr (.ro) (.pr (.ro) (.pr (.ro) (.pr (.ro) (.pr (.ro) (.pr (.ro) (.own (.ro))))))), [], []⟩)]⟩ .z .z) .z)
noncomputable def E46 : Env := ⟨tab, [C33], 0, 19⟩
theorem d46 : (fun (x : HL (pts C46.ps)) => den E46 (Try.f46.body.getD .skip) H46 (initS 19 C46.ps x) (retK tab [] C46.rs [.tmp 4]) (fun _ _ => none) (retK tab [] C46.rs [.tmp 4])) = C46.F := by kernel_rfl
theorem c46 : Cok Try.prog C46 := by
  have h33 := c33
  exact cok_of_den (E := E46) (fn := Try.f46) (code := Try.f46.body.getD .skip) (hn := H46) (gr := []) (is := [.tmp 4]) ⟨tabOk, (fun c hc => by simp only [E46, List.mem_cons, List.not_mem_nil, or_false] at hc; rcases hc with rfl <;> assumption), mixOk⟩ ⟨by kernel_rfl, by kernel_rfl, by kernel_rfl, by kernel_rfl, by kernel_rfl, by decide, by kernel_rfl⟩ (fun x y h => (congrFun d46 x).trans h)

/-- laws.szInsS -/
noncomputable def C34 : Cal := ⟨34, [⟨.ro, .list 80 (.pair (.int .i64) (.pair (.int .i64) (.pair (.int .i64) (.pair (.int .i64) (.pair (.int .i64) (.pair (.str) (.list 3 (.int .i64))))))))⟩, ⟨.ro, .int .i64⟩], [⟨.int .i64, .ro⟩], fun x => laws_szInsS x.1 x.2.1⟩
def H34 : Hn := (.n ⟨[], [], none, false, []⟩ .z (.n ⟨[], [], none, false, []⟩ .z (.n ⟨[], [], none, false, []⟩ .z (.n ⟨[], [], none, false, []⟩ (.n ⟨[], [], none, false, []⟩ .z (.n ⟨[], [], (some ⟨[.snp 1 (.int .i64) []], [], []⟩), true, []⟩ (.n ⟨[], [], (some ⟨[.snp 0 (.list 80 (.pair (.int .i64) (.pair (.int .i64) (.pair (.int .i64) (.pair (.int .i64) (.pair (.int .i64) (.pair (.str) (.list 3 (.int .i64))))))))) [], .snp 1 (.int .i64) [], .snp 5 (.int .i64) []], [], []⟩), false, []⟩ .z .z) .z)) .z))))
noncomputable def E34 : Env := ⟨tab, [C46], 0, 27⟩
theorem d34 : (fun (x : HL (pts C34.ps)) => den E34 (Try.f34.body.getD .skip) H34 (initS 27 C34.ps x) (retK tab [] C34.rs [.tmp 4]) (fun _ _ => none) (retK tab [] C34.rs [.tmp 4])) = C34.F := by kernel_rfl
theorem c34 : Cok Try.prog C34 := by
  have h46 := c46
  exact cok_of_den (E := E34) (fn := Try.f34) (code := Try.f34.body.getD .skip) (hn := H34) (gr := []) (is := [.tmp 4]) ⟨tabOk, (fun c hc => by simp only [E34, List.mem_cons, List.not_mem_nil, or_false] at hc; rcases hc with rfl <;> assumption), mixOk⟩ ⟨by kernel_rfl, by kernel_rfl, by kernel_rfl, by kernel_rfl, by kernel_rfl, by decide, by kernel_rfl⟩ (fun x y h => (congrFun d34 x).trans h)

/-- laws.szCode -/
noncomputable def C17 : Cal := ⟨17, [⟨.ro, .pair (.str) (.pair (.int .i64) (.pair (.list 3 (.int .i64)) (.list 80 (.pair (.int .i64) (.pair (.int .i64) (.pair (.int .i64) (.pair (.int .i64) (.pair (.int .i64) (.pair (.str) (.list 3 (.int .i64)))))))))))⟩, ⟨.ro, .int .i64⟩], [⟨.int .i64, .ro⟩], fun x => laws_szCode x.1 x.2.1⟩
def H17 : Hn := (.n ⟨[], [], none, false, []⟩ (.n ⟨[], [], none, false, [(0, ⟨[], .pr (.ro) (.pr (.ro) (.pr (.own (.ro)) (.own (.pr (.ro) (.pr (.ro) (.pr (.ro) (.pr (.ro) (.pr (.ro) (.pr (.ro) (.own (.ro))))))))))), [], []⟩)]⟩ .z .z) .z)
noncomputable def E17 : Env := ⟨tab, [C33, C34], 0, 25⟩
theorem d17 : (fun (x : HL (pts C17.ps)) => den E17 (Try.f17.body.getD .skip) H17 (initS 25 C17.ps x) (retK tab [] C17.rs [.tmp 4]) (fun _ _ => none) (retK tab [] C17.rs [.tmp 4])) = C17.F := by kernel_rfl
theorem c17 : Cok Try.prog C17 := by
  have h33 := c33
  have h34 := c34
  exact cok_of_den (E := E17) (fn := Try.f17) (code := Try.f17.body.getD .skip) (hn := H17) (gr := []) (is := [.tmp 4]) ⟨tabOk, (fun c hc => by simp only [E17, List.mem_cons, List.not_mem_nil, or_false] at hc; rcases hc with rfl | rfl <;> assumption), mixOk⟩ ⟨by kernel_rfl, by kernel_rfl, by kernel_rfl, by kernel_rfl, by kernel_rfl, by decide, by kernel_rfl⟩ (fun x y h => (congrFun d17 x).trans h)

/-- laws.toIntS -/
noncomputable def C35 : Cal := ⟨35, [⟨.ro, .list 3 (.int .i64)⟩], [⟨.list 3 (.int .i64), .own (.ro)⟩], fun x => laws_toIntS x.1⟩
def H35 : Hn := (.n ⟨[], [], none, false, []⟩ .z (.n ⟨[], [], none, false, []⟩ .z (.n ⟨[], [], none, false, []⟩ (.n ⟨[], [], none, false, []⟩ .z (.n ⟨[], [], (some ⟨[.dat 3 (.list 3 (.int .i64)) (.own (.ro))], [], []⟩), false, []⟩ (.n ⟨[3], [], (some ⟨[.snp 0 (.list 3 (.int .i64)) [], .dat 3 (.list 3 (.int .i64)) (.own (.ro)), .snp 4 (.int .i64) []], [], []⟩), false, []⟩ .z .z) .z)) .z)))
noncomputable def E35 : Env := ⟨tab, [], 0, 22⟩
theorem d35 : (fun (x : HL (pts C35.ps)) => den E35 (Try.f35.body.getD .skip) H35 (initS 22 C35.ps x) (retK tab [2] C35.rs [.tmp 2]) (fun _ _ => none) (retK tab [2] C35.rs [.tmp 2])) = C35.F := by kernel_rfl
theorem c35 : Cok Try.prog C35 := by
  exact cok_of_den (E := E35) (fn := Try.f35) (code := Try.f35.body.getD .skip) (hn := H35) (gr := [2]) (is := [.tmp 2]) ⟨tabOk, (fun c hc => by cases hc), mixOk⟩ ⟨by kernel_rfl, by kernel_rfl, by kernel_rfl, by kernel_rfl, by kernel_rfl, by decide, by kernel_rfl⟩ (fun x y h => (congrFun d35 x).trans h)

/-- laws.toIns -/
noncomputable def C47 : Cal := ⟨47, [⟨.ro, .pair (.int .i64) (.pair (.int .i64) (.pair (.int .i64) (.pair (.int .i64) (.pair (.int .i64) (.pair (.str) (.list 3 (.int .i64)))))))⟩], [⟨.pair (.int .i64) (.pair (.int .i64) (.pair (.int .i64) (.pair (.int .i64) (.pair (.int .i64) (.pair (.str) (.list 3 (.int .i64))))))), .pr (.ro) (.pr (.ro) (.pr (.ro) (.pr (.ro) (.pr (.ro) (.pr (.ro) (.own (.ro)))))))⟩], fun x => laws_toIns x.1⟩
def H47 : Hn := (.n ⟨[], [], none, false, []⟩ (.n ⟨[], [], none, false, [(0, ⟨[], .pr (.ro) (.pr (.ro) (.pr (.ro) (.pr (.ro) (.pr (.ro) (.pr (.ro) (.own (.ro))))))), [], []⟩), (1, ⟨[], .pr (.ro) (.pr (.ro) (.pr (.ro) (.pr (.ro) (.pr (.ro) (.pr (.ro) (.own (.ro))))))), [], []⟩)]⟩ .z .z) (.n ⟨[], [], none, false, []⟩ (.n ⟨[], [], none, false, [(0, ⟨[], .pr (.ro) (.pr (.ro) (.pr (.ro) (.pr (.ro) (.pr (.ro) (.pr (.ro) (.own (.ro))))))), [], []⟩)]⟩ .z .z) (.n ⟨[], [], none, false, []⟩ .z (.n ⟨[], [], none, false, []⟩ .z (.n ⟨[], [], none, false, []⟩ .z (.n ⟨[], [], none, false, []⟩ .z (.n ⟨[], [], none, false, []⟩ .z (.n ⟨[], [], none, false, []⟩ .z (.n ⟨[], [], none, false, []⟩ (.n ⟨[], [], none, false, [(4, ⟨[], .own (.ro), [], []⟩)]⟩ .z .z) (.n ⟨[], [], none, false, []⟩ (.n ⟨[], [], none, false, [(1, ⟨[26], .pr (.ro) (.pr (.ro) (.pr (.ro) (.pr (.ro) (.pr (.ro) (.pr (.ro) (.own (.ro))))))), [], []⟩)]⟩ .z .z) .z))))))))))
noncomputable def E47 : Env := ⟨tab, [C35], 0, 27⟩
theorem d47 : (fun (x : HL (pts C47.ps)) => den E47 (Try.f47.body.getD .skip) H47 (initS 27 C47.ps x) (retK tab [] C47.rs [.cell 2 64]) (fun _ _ => none) (retK tab [] C47.rs [.cell 2 64])) = C47.F := by kernel_rfl
theorem c47 : Cok Try.prog C47 := by
  have h35 := c35
  exact cok_of_den (E := E47) (fn := Try.f47) (code := Try.f47.body.getD .skip) (hn := H47) (gr := []) (is := [.cell 2 64]) ⟨tabOk, (fun c hc => by simp only [E47, List.mem_cons, List.not_mem_nil, or_false] at hc; rcases hc with rfl <;> assumption), mixOk⟩ ⟨by kernel_rfl, by kernel_rfl, by kernel_rfl, by kernel_rfl, by kernel_rfl, by decide, by kernel_rfl⟩ (fun x y h => (congrFun d47 x).trans h)

/-- laws.toInsS -/
noncomputable def C36 : Cal := ⟨36, [⟨.ro, .list 80 (.pair (.int .i64) (.pair (.int .i64) (.pair (.int .i64) (.pair (.int .i64) (.pair (.int .i64) (.pair (.str) (.list 3 (.int .i64))))))))⟩], [⟨.list 64 (.pair (.int .i64) (.pair (.int .i64) (.pair (.int .i64) (.pair (.int .i64) (.pair (.int .i64) (.pair (.str) (.list 3 (.int .i64)))))))), .own (.pr (.ro) (.pr (.ro) (.pr (.ro) (.pr (.ro) (.pr (.ro) (.pr (.ro) (.own (.ro))))))))⟩], fun x => laws_toInsS x.1⟩
def H36 : Hn := (.n ⟨[], [], none, false, []⟩ .z (.n ⟨[], [], none, false, []⟩ (.n ⟨[], [], none, false, [(2, ⟨[], .pr (.ro) (.pr (.ro) (.pr (.ro) (.pr (.ro) (.pr (.ro) (.pr (.ro) (.own (.ro))))))), [], []⟩)]⟩ .z .z) (.n ⟨[], [], none, false, []⟩ (.n ⟨[], [], none, false, []⟩ .z (.n ⟨[], [], (some ⟨[.dat 3 (.list 64 (.pair (.int .i64) (.pair (.int .i64) (.pair (.int .i64) (.pair (.int .i64) (.pair (.int .i64) (.pair (.str) (.list 3 (.int .i64))))))))) (.own (.pr (.ro) (.pr (.ro) (.pr (.ro) (.pr (.ro) (.pr (.ro) (.pr (.ro) (.own (.ro)))))))))], [], []⟩), false, []⟩ (.n ⟨[3], [], (some ⟨[.snp 0 (.list 80 (.pair (.int .i64) (.pair (.int .i64) (.pair (.int .i64) (.pair (.int .i64) (.pair (.int .i64) (.pair (.str) (.list 3 (.int .i64))))))))) [], .dat 3 (.list 64 (.pair (.int .i64) (.pair (.int .i64) (.pair (.int .i64) (.pair (.int .i64) (.pair (.int .i64) (.pair (.str) (.list 3 (.int .i64))))))))) (.own (.pr (.ro) (.pr (.ro) (.pr (.ro) (.pr (.ro) (.pr (.ro) (.pr (.ro) (.own (.ro))))))))), .snp 4 (.int .i64) []], [], []⟩), false, []⟩ (.n ⟨[], [], none, false, []⟩ .z (.n ⟨[], [], none, false, []⟩ (.n ⟨[], [], none, false, []⟩ (.n ⟨[], [], none, false, [(8, ⟨[], .pr (.ro) (.pr (.ro) (.pr (.ro) (.pr (.ro) (.pr (.ro) (.pr (.ro) (.own (.ro))))))), [], []⟩)]⟩ .z .z) .z) .z)) .z) .z)) .z)))
noncomputable def E36 : Env := ⟨tab, [C47], 0, 23⟩
theorem d36 : (fun (x : HL (pts C36.ps)) => den E36 (Try.f36.body.getD .skip) H36 (initS 23 C36.ps x) (retK tab [2] C36.rs [.tmp 2]) (fun _ _ => none) (retK tab [2] C36.rs [.tmp 2])) = C36.F := by kernel_rfl
theorem c36 : Cok Try.prog C36 := by
  have h47 := c47
  exact cok_of_den (E := E36) (fn := Try.f36) (code := Try.f36.body.getD .skip) (hn := H36) (gr := [2]) (is := [.tmp 2]) ⟨tabOk, (fun c hc => by simp only [E36, List.mem_cons, List.not_mem_nil, or_false] at hc; rcases hc with rfl <;> assumption), mixOk⟩ ⟨by kernel_rfl, by kernel_rfl, by kernel_rfl, by kernel_rfl, by kernel_rfl, by decide, by kernel_rfl⟩ (fun x y h => (congrFun d36 x).trans h)

/-- laws.toCode -/
noncomputable def C19 : Cal := ⟨19, [⟨.ro, .pair (.str) (.pair (.int .i64) (.pair (.list 3 (.int .i64)) (.list 80 (.pair (.int .i64) (.pair (.int .i64) (.pair (.int .i64) (.pair (.int .i64) (.pair (.int .i64) (.pair (.str) (.list 3 (.int .i64)))))))))))⟩], [⟨.pair (.str) (.pair (.int .i64) (.pair (.list 3 (.int .i64)) (.list 64 (.pair (.int .i64) (.pair (.int .i64) (.pair (.int .i64) (.pair (.int .i64) (.pair (.int .i64) (.pair (.str) (.list 3 (.int .i64))))))))))), .pr (.ro) (.pr (.ro) (.pr (.own (.ro)) (.own (.pr (.ro) (.pr (.ro) (.pr (.ro) (.pr (.ro) (.pr (.ro) (.pr (.ro) (.own (.ro)))))))))))⟩], fun x => laws_toCode x.1⟩
def H19 : Hn := (.n ⟨[], [], none, false, []⟩ (.n ⟨[], [], none, false, [(0, ⟨[], .pr (.ro) (.pr (.ro) (.pr (.own (.ro)) (.own (.pr (.ro) (.pr (.ro) (.pr (.ro) (.pr (.ro) (.pr (.ro) (.pr (.ro) (.own (.ro))))))))))), [], []⟩), (1, ⟨[], .pr (.ro) (.pr (.ro) (.pr (.own (.ro)) (.own (.pr (.ro) (.pr (.ro) (.pr (.ro) (.pr (.ro) (.pr (.ro) (.pr (.ro) (.own (.ro))))))))))), [], []⟩)]⟩ .z .z) (.n ⟨[], [], none, false, []⟩ (.n ⟨[], [], none, false, [(0, ⟨[], .pr (.ro) (.pr (.ro) (.pr (.own (.ro)) (.own (.pr (.ro) (.pr (.ro) (.pr (.ro) (.pr (.ro) (.pr (.ro) (.pr (.ro) (.own (.ro))))))))))), [], []⟩)]⟩ .z .z) (.n ⟨[], [], none, false, []⟩ .z (.n ⟨[], [], none, false, []⟩ .z (.n ⟨[], [], none, false, []⟩ (.n ⟨[], [], none, false, [(4, ⟨[], .own (.ro), [], []⟩)]⟩ .z .z) (.n ⟨[], [], none, false, []⟩ (.n ⟨[], [], none, false, [(4, ⟨[], .own (.pr (.ro) (.pr (.ro) (.pr (.ro) (.pr (.ro) (.pr (.ro) (.pr (.ro) (.own (.ro)))))))), [], []⟩)]⟩ .z .z) (.n ⟨[], [], none, false, []⟩ (.n ⟨[], [], none, false, [(1, ⟨[18], .pr (.ro) (.pr (.ro) (.pr (.own (.ro)) (.own (.pr (.ro) (.pr (.ro) (.pr (.ro) (.pr (.ro) (.pr (.ro) (.pr (.ro) (.own (.ro))))))))))), [], []⟩)]⟩ .z .z) .z)))))))
noncomputable def E19 : Env := ⟨tab, [C35, C36], 0, 19⟩
theorem d19 : (fun (x : HL (pts C19.ps)) => den E19 (Try.f19.body.getD .skip) H19 (initS 19 C19.ps x) (retK tab [] C19.rs [.cell 2 44]) (fun _ _ => none) (retK tab [] C19.rs [.cell 2 44])) = C19.F := by kernel_rfl
theorem c19 : Cok Try.prog C19 := by
  have h35 := c35
  have h36 := c36
  exact cok_of_den (E := E19) (fn := Try.f19) (code := Try.f19.body.getD .skip) (hn := H19) (gr := []) (is := [.cell 2 44]) ⟨tabOk, (fun c hc => by simp only [E19, List.mem_cons, List.not_mem_nil, or_false] at hc; rcases hc with rfl | rfl <;> assumption), mixOk⟩ ⟨by kernel_rfl, by kernel_rfl, by kernel_rfl, by kernel_rfl, by kernel_rfl, by decide, by kernel_rfl⟩ (fun x y h => (congrFun d19 x).trans h)

/-- spec.JumpsIn -/
noncomputable def C18 : Cal := ⟨18, [⟨.ro, .pair (.str) (.pair (.int .i64) (.pair (.list 3 (.int .i64)) (.list 64 (.pair (.int .i64) (.pair (.int .i64) (.pair (.int .i64) (.pair (.int .i64) (.pair (.int .i64) (.pair (.str) (.list 3 (.int .i64)))))))))))⟩], [⟨.int .i64, .ro⟩], fun x => spec_JumpsIn x.1⟩
def H18 : Hn := (.n ⟨[], [], none, false, []⟩ (.n ⟨[], [], none, false, [(0, ⟨[], .pr (.ro) (.pr (.ro) (.pr (.own (.ro)) (.own (.pr (.ro) (.pr (.ro) (.pr (.ro) (.pr (.ro) (.pr (.ro) (.pr (.ro) (.own (.ro))))))))))), [], []⟩)]⟩ .z .z) (.n ⟨[], [], none, false, []⟩ .z (.n ⟨[], [], none, false, []⟩ (.n ⟨[], [], none, false, []⟩ .z (.n ⟨[], [], (some ⟨[.snp 3 (.int .i64) []], [], []⟩), false, []⟩ (.n ⟨[], [], (some ⟨[.snp 3 (.int .i64) [], .snp 4 (.int .i64) [], .box 1 true (.pair (.str) (.pair (.int .i64) (.pair (.list 3 (.int .i64)) (.list 64 (.pair (.int .i64) (.pair (.int .i64) (.pair (.int .i64) (.pair (.int .i64) (.pair (.int .i64) (.pair (.str) (.list 3 (.int .i64)))))))))))) (.ro)], [(1, ⟨3, []⟩)], []⟩), false, []⟩ (.n ⟨[], [], none, false, []⟩ .z (.n ⟨[], [], none, false, []⟩ (.n ⟨[], [], none, false, []⟩ (.n ⟨[], [], none, false, []⟩ .z (.n ⟨[], [], (some ⟨[.snp 3 (.int .i64) [], .snp 4 (.int .i64) [], .box 1 true (.pair (.str) (.pair (.int .i64) (.pair (.list 3 (.int .i64)) (.list 64 (.pair (.int .i64) (.pair (.int .i64) (.pair (.int .i64) (.pair (.int .i64) (.pair (.int .i64) (.pair (.str) (.list 3 (.int .i64)))))))))))) (.ro)], [(1, ⟨3, []⟩)], []⟩), false, []⟩ .z .z)) .z) .z)) .z) .z)) .z)))
noncomputable def E18 : Env := ⟨tab, [], 0, 22⟩
theorem d18 : (fun (x : HL (pts C18.ps)) => den E18 (Try.f18.body.getD .skip) H18 (initS 22 C18.ps x) (retK tab [] C18.rs [.tmp 2]) (fun _ _ => none) (retK tab [] C18.rs [.tmp 2])) = C18.F := by kernel_rfl
theorem c18 : Cok Try.prog C18 := by
  exact cok_of_den (E := E18) (fn := Try.f18) (code := Try.f18.body.getD .skip) (hn := H18) (gr := []) (is := [.tmp 2]) ⟨tabOk, (fun c hc => by cases hc), mixOk⟩ ⟨by kernel_rfl, by kernel_rfl, by kernel_rfl, by kernel_rfl, by kernel_rfl, by decide, by kernel_rfl⟩ (fun x y h => (congrFun d18 x).trans h)

/-- impl.JumpsIn -/
noncomputable def C20 : Cal := ⟨20, [⟨.ro, .pair (.str) (.pair (.int .i64) (.pair (.list 3 (.int .i64)) (.list 64 (.pair (.int .i64) (.pair (.int .i64) (.pair (.int .i64) (.pair (.int .i64) (.pair (.int .i64) (.pair (.str) (.list 3 (.int .i64)))))))))))⟩], [⟨.int .i64, .ro⟩], fun x => impl_JumpsIn x.1⟩
def H20 : Hn := (.n ⟨[], [], none, false, []⟩ (.n ⟨[], [], none, false, [(0, ⟨[], .pr (.ro) (.pr (.ro) (.pr (.own (.ro)) (.own (.pr (.ro) (.pr (.ro) (.pr (.ro) (.pr (.ro) (.pr (.ro) (.pr (.ro) (.own (.ro))))))))))), [], []⟩)]⟩ .z .z) (.n ⟨[], [], none, false, []⟩ .z (.n ⟨[], [], none, false, []⟩ (.n ⟨[], [], none, false, []⟩ .z (.n ⟨[], [], (some ⟨[.snp 3 (.int .i64) []], [], []⟩), false, []⟩ (.n ⟨[], [], (some ⟨[.snp 3 (.int .i64) [], .snp 7 (.list 64 (.pair (.int .i64) (.pair (.int .i64) (.pair (.int .i64) (.pair (.int .i64) (.pair (.int .i64) (.pair (.str) (.list 3 (.int .i64))))))))) [], .snp 8 (.int .i64) [], .snp 9 (.int .i64) []], [], []⟩), false, []⟩ (.n ⟨[], [], none, false, []⟩ .z (.n ⟨[], [], none, false, []⟩ .z (.n ⟨[], [], none, false, []⟩ (.n ⟨[], [], none, false, []⟩ (.n ⟨[], [], none, false, []⟩ (.n ⟨[], [], none, false, [(2, ⟨[], .pr (.ro) (.pr (.ro) (.pr (.ro) (.pr (.ro) (.pr (.ro) (.pr (.ro) (.own (.ro))))))), [], []⟩), (3, ⟨[], .pr (.ro) (.pr (.ro) (.pr (.ro) (.pr (.ro) (.pr (.ro) (.pr (.ro) (.own (.ro))))))), [], []⟩)]⟩ .z .z) (.n ⟨[], [], none, false, []⟩ .z (.n ⟨[], [], (some ⟨[.snp 3 (.int .i64) [], .snp 7 (.list 64 (.pair (.int .i64) (.pair (.int .i64) (.pair (.int .i64) (.pair (.int .i64) (.pair (.int .i64) (.pair (.str) (.list 3 (.int .i64))))))))) [], .snp 8 (.int .i64) [], .snp 9 (.int .i64) []], [], []⟩), false, []⟩ .z .z))) .z) .z))) .z) .z)) .z)))
noncomputable def E20 : Env := ⟨tab, [], 0, 20⟩
theorem d20 : (fun (x : HL (pts C20.ps)) => den E20 (Try.f20.body.getD .skip) H20 (initS 20 C20.ps x) (retK tab [] C20.rs [.tmp 2]) (fun _ _ => none) (retK tab [] C20.rs [.tmp 2])) = C20.F := by kernel_rfl
theorem c20 : Cok Try.prog C20 := by
  exact cok_of_den (E := E20) (fn := Try.f20) (code := Try.f20.body.getD .skip) (hn := H20) (gr := []) (is := [.tmp 2]) ⟨tabOk, (fun c hc => by cases hc), mixOk⟩ ⟨by kernel_rfl, by kernel_rfl, by kernel_rfl, by kernel_rfl, by kernel_rfl, by decide, by kernel_rfl⟩ (fun x y h => (congrFun d20 x).trans h)

/-- laws.eqIntS -/
noncomputable def C37 : Cal := ⟨37, [⟨.ro, .list 3 (.int .i64)⟩, ⟨.ro, .list 3 (.int .i64)⟩], [⟨.bool, .ro⟩], fun x => laws_eqIntS x.1 x.2.1⟩
def H37 : Hn := (.n ⟨[], [], none, false, []⟩ .z (.n ⟨[], [], none, false, []⟩ .z (.n ⟨[], [], none, false, []⟩ (.n ⟨[], [], none, false, []⟩ .z (.n ⟨[], [], (some ⟨[], [], []⟩), true, []⟩ (.n ⟨[], [], (some ⟨[.snp 0 (.list 3 (.int .i64)) [], .snp 1 (.list 3 (.int .i64)) [], .snp 5 (.int .i64) []], [], []⟩), false, []⟩ (.n ⟨[], [], none, false, []⟩ .z (.n ⟨[], [], none, false, []⟩ (.n ⟨[], [], none, false, []⟩ (.n ⟨[], [], none, false, []⟩ (.n ⟨[], [], none, false, [(0, ⟨[], .ro, [17], []⟩), (1, ⟨[], .ro, [18], []⟩), (2, ⟨[], .ro, [19], []⟩), (3, ⟨[], .ro, [20], []⟩), (4, ⟨[], .ro, [21], []⟩), (5, ⟨[], .ro, [22], []⟩), (6, ⟨[], .ro, [23], []⟩), (7, ⟨[], .ro, [24], []⟩), (8, ⟨[], .ro, [25], []⟩)]⟩ .z .z) .z) .z) .z)) .z) .z)) .z)))
noncomputable def E37 : Env := ⟨tab, [], 0, 26⟩
theorem d37 : (fun (x : HL (pts C37.ps)) => den E37 (Try.f37.body.getD .skip) H37 (initS 26 C37.ps x) (retK tab [] C37.rs [.tmp 4]) (fun _ _ => none) (retK tab [] C37.rs [.tmp 4])) = C37.F := by kernel_rfl
theorem c37 : Cok Try.prog C37 := by
  exact cok_of_den (E := E37) (fn := Try.f37) (code := Try.f37.body.getD .skip) (hn := H37) (gr := []) (is := [.tmp 4]) ⟨tabOk, (fun c hc => by cases hc), mixOk⟩ ⟨by kernel_rfl, by kernel_rfl, by kernel_rfl, by kernel_rfl, by kernel_rfl, by decide, by kernel_rfl⟩ (fun x y h => (congrFun d37 x).trans h)

/-- laws.eqIns -/
noncomputable def C48 : Cal := ⟨48, [⟨.ro, .pair (.int .i64) (.pair (.int .i64) (.pair (.int .i64) (.pair (.int .i64) (.pair (.int .i64) (.pair (.str) (.list 3 (.int .i64)))))))⟩, ⟨.ro, .pair (.int .i64) (.pair (.int .i64) (.pair (.int .i64) (.pair (.int .i64) (.pair (.int .i64) (.pair (.str) (.list 3 (.int .i64)))))))⟩], [⟨.bool, .ro⟩], fun x => laws_eqIns x.1 x.2.1⟩
def H48 : Hn := (.n ⟨[], [], none, false, []⟩ (.n ⟨[], [], none, false, [(0, ⟨[], .pr (.ro) (.pr (.ro) (.pr (.ro) (.pr (.ro) (.pr (.ro) (.pr (.ro) (.own (.ro))))))), [], []⟩), (1, ⟨[], .pr (.ro) (.pr (.ro) (.pr (.ro) (.pr (.ro) (.pr (.ro) (.pr (.ro) (.own (.ro))))))), [], []⟩)]⟩ .z .z) .z)
noncomputable def E48 : Env := ⟨tab, [C37], 0, 41⟩
theorem d48 : (fun (x : HL (pts C48.ps)) => den E48 (Try.f48.body.getD .skip) H48 (initS 41 C48.ps x) (retK tab [] C48.rs [.tmp 4]) (fun _ _ => none) (retK tab [] C48.rs [.tmp 4])) = C48.F := by kernel_rfl
theorem c48 : Cok Try.prog C48 := by
  have h37 := c37
  exact cok_of_den (E := E48) (fn := Try.f48) (code := Try.f48.body.getD .skip) (hn := H48) (gr := []) (is := [.tmp 4]) ⟨tabOk, (fun c hc => by simp only [E48, List.mem_cons, List.not_mem_nil, or_false] at hc; rcases hc with rfl <;> assumption), mixOk⟩ ⟨by kernel_rfl, by kernel_rfl, by kernel_rfl, by kernel_rfl, by kernel_rfl, by decide, by kernel_rfl⟩ (fun x y h => (congrFun d48 x).trans h)

/-- laws.eqInsS -/
noncomputable def C38 : Cal := ⟨38, [⟨.ro, .list 64 (.pair (.int .i64) (.pair (.int .i64) (.pair (.int .i64) (.pair (.int .i64) (.pair (.int .i64) (.pair (.str) (.list 3 (.int .i64))))))))⟩, ⟨.ro, .list 64 (.pair (.int .i64) (.pair (.int .i64) (.pair (.int .i64) (.pair (.int .i64) (.pair (.int .i64) (.pair (.str) (.list 3 (.int .i64))))))))⟩], [⟨.bool, .ro⟩], fun x => laws_eqInsS x.1 x.2.1⟩
def H38 : Hn := (.n ⟨[], [], none, false, []⟩ .z (.n ⟨[], [], none, false, []⟩ .z (.n ⟨[], [], none, false, []⟩ (.n ⟨[], [], none, false, []⟩ .z (.n ⟨[], [], (some ⟨[], [], []⟩), true, []⟩ (.n ⟨[], [], (some ⟨[.snp 0 (.list 64 (.pair (.int .i64) (.pair (.int .i64) (.pair (.int .i64) (.pair (.int .i64) (.pair (.int .i64) (.pair (.str) (.list 3 (.int .i64))))))))) [], .snp 1 (.list 64 (.pair (.int .i64) (.pair (.int .i64) (.pair (.int .i64) (.pair (.int .i64) (.pair (.int .i64) (.pair (.str) (.list 3 (.int .i64))))))))) [], .snp 5 (.int .i64) []], [], []⟩), false, []⟩ (.n ⟨[], [], none, false, []⟩ .z (.n ⟨[], [], none, false, []⟩ (.n ⟨[], [], none, false, []⟩ (.n ⟨[], [], none, false, []⟩ (.n ⟨[], [], none, false, [(0, ⟨[], .ro, [17], []⟩), (1, ⟨[], .ro, [18], []⟩), (2, ⟨[], .ro, [19], []⟩), (3, ⟨[], .ro, [20], []⟩), (4, ⟨[], .ro, [21], []⟩), (5, ⟨[], .ro, [22], []⟩), (6, ⟨[], .ro, [23], []⟩), (7, ⟨[], .ro, [24], []⟩), (8, ⟨[], .ro, [25], []⟩), (9, ⟨[], .ro, [26], []⟩)]⟩ .z .z) .z) .z) .z)) .z) .z)) .z)))
noncomputable def E38 : Env := ⟨tab, [C48], 0, 27⟩
theorem d38 : (fun (x : HL (pts C38.ps)) => den E38 (Try.f38.body.getD .skip) H38 (initS 27 C38.ps x) (retK tab [] C38.rs [.tmp 4]) (fun _ _ => none) (retK tab [] C38.rs [.tmp 4])) = C38.F := by kernel_rfl
theorem c38 : Cok Try.prog C38 := by
  have h48 := c48
  exact cok_of_den (E := E38) (fn := Try.f38) (code := Try.f38.body.getD .skip) (hn := H38) (gr := []) (is := [.tmp 4]) ⟨tabOk, (fun c hc => by simp only [E38, List.mem_cons, List.not_mem_nil, or_false] at hc; rcases hc with rfl <;> assumption), mixOk⟩ ⟨by kernel_rfl, by kernel_rfl, by kernel_rfl, by kernel_rfl, by kernel_rfl, by decide, by kernel_rfl⟩ (fun x y h => (congrFun d38 x).trans h)

/-- laws.eqCode -/
noncomputable def C21 : Cal := ⟨21, [⟨.ro, .pair (.str) (.pair (.int .i64) (.pair (.list 3 (.int .i64)) (.list 64 (.pair (.int .i64) (.pair (.int .i64) (.pair (.int .i64) (.pair (.int .i64) (.pair (.int .i64) (.pair (.str) (.list 3 (.int .i64)))))))))))⟩, ⟨.ro, .pair (.str) (.pair (.int .i64) (.pair (.list 3 (.int .i64)) (.list 64 (.pair (.int .i64) (.pair (.int .i64) (.pair (.int .i64) (.pair (.int .i64) (.pair (.int .i64) (.pair (.str) (.list 3 (.int .i64)))))))))))⟩], [⟨.bool, .ro⟩], fun x => laws_eqCode x.1 x.2.1⟩
def H21 : Hn := (.n ⟨[], [], none, false, []⟩ (.n ⟨[], [], none, false, [(0, ⟨[], .pr (.ro) (.pr (.ro) (.pr (.own (.ro)) (.own (.pr (.ro) (.pr (.ro) (.pr (.ro) (.pr (.ro) (.pr (.ro) (.pr (.ro) (.own (.ro))))))))))), [], []⟩), (1, ⟨[], .pr (.ro) (.pr (.ro) (.pr (.own (.ro)) (.own (.pr (.ro) (.pr (.ro) (.pr (.ro) (.pr (.ro) (.pr (.ro) (.pr (.ro) (.own (.ro))))))))))), [], []⟩)]⟩ .z .z) .z)
noncomputable def E21 : Env := ⟨tab, [C37, C38], 0, 27⟩
theorem d21 : (fun (x : HL (pts C21.ps)) => den E21 (Try.f21.body.getD .skip) H21 (initS 27 C21.ps x) (retK tab [] C21.rs [.tmp 4]) (fun _ _ => none) (retK tab [] C21.rs [.tmp 4])) = C21.F := by kernel_rfl
theorem c21 : Cok Try.prog C21 := by
  have h37 := c37
  have h38 := c38
  exact cok_of_den (E := E21) (fn := Try.f21) (code := Try.f21.body.getD .skip) (hn := H21) (gr := []) (is := [.tmp 4]) ⟨tabOk, (fun c hc => by simp only [E21, List.mem_cons, List.not_mem_nil, or_false] at hc; rcases hc with rfl | rfl <;> assumption), mixOk⟩ ⟨by kernel_rfl, by kernel_rfl, by kernel_rfl, by kernel_rfl, by kernel_rfl, by decide, by kernel_rfl⟩ (fun x y h => (congrFun d21 x).trans h)

/-- laws.FnExactJumpsIn -/
noncomputable def C5 : Cal := ⟨5, [⟨.ro, .pair (.str) (.pair (.int .i64) (.pair (.list 3 (.int .i64)) (.list 80 (.pair (.int .i64) (.pair (.int .i64) (.pair (.int .i64) (.pair (.int .i64) (.pair (.int .i64) (.pair (.str) (.list 3 (.int .i64)))))))))))⟩], [⟨.bool, .ro⟩], fun x => laws_FnExactJumpsIn x.1⟩
def H5 : Hn := (.n ⟨[], [], none, false, []⟩ (.n ⟨[], [], none, false, [(0, ⟨[], .pr (.ro) (.pr (.ro) (.pr (.own (.ro)) (.own (.pr (.ro) (.pr (.ro) (.pr (.ro) (.pr (.ro) (.pr (.ro) (.pr (.ro) (.own (.ro))))))))))), [], []⟩)]⟩ .z .z) (.n ⟨[], [], none, false, []⟩ .z (.n ⟨[], [], none, false, []⟩ .z (.n ⟨[], [], none, false, []⟩ .z (.n ⟨[], [], none, false, []⟩ .z (.n ⟨[], [], none, false, []⟩ (.n ⟨[], [], none, false, [(2, ⟨[], .pr (.ro) (.pr (.ro) (.pr (.own (.ro)) (.own (.pr (.ro) (.pr (.ro) (.pr (.ro) (.pr (.ro) (.pr (.ro) (.pr (.ro) (.own (.ro))))))))))), [], []⟩), (3, ⟨[], .pr (.ro) (.pr (.ro) (.pr (.own (.ro)) (.own (.pr (.ro) (.pr (.ro) (.pr (.ro) (.pr (.ro) (.pr (.ro) (.pr (.ro) (.own (.ro))))))))))), [], []⟩)]⟩ .z .z) (.n ⟨[], [], none, false, []⟩ .z (.n ⟨[], [], none, false, []⟩ .z (.n ⟨[], [], none, false, []⟩ (.n ⟨[], [], none, false, []⟩ (.n ⟨[], [], none, false, [(0, ⟨[], .ro, [22], []⟩), (1, ⟨[], .ro, [23], []⟩), (2, ⟨[], .ro, [24], []⟩), (3, ⟨[], .ro, [25], []⟩), (4, ⟨[], .ro, [26], []⟩)]⟩ .z .z) .z) .z)))))))))
noncomputable def E5 : Env := ⟨tab, [C17, C19, C18, C20, C21], 0, 27⟩
theorem d5 : (fun (x : HL (pts C5.ps)) => den E5 (Try.f5.body.getD .skip) H5 (initS 27 C5.ps x) (retK tab [] C5.rs [.tmp 2]) (fun _ _ => none) (retK tab [] C5.rs [.tmp 2])) = C5.F := by kernel_rfl
theorem c5 : Cok Try.prog C5 := by
  have h17 := c17
  have h19 := c19
  have h18 := c18
  have h20 := c20
  have h21 := c21
  exact cok_of_den (E := E5) (fn := Try.f5) (code := Try.f5.body.getD .skip) (hn := H5) (gr := []) (is := [.tmp 2]) ⟨tabOk, (fun c hc => by simp only [E5, List.mem_cons, List.not_mem_nil, or_false] at hc; rcases hc with rfl | rfl | rfl | rfl | rfl <;> assumption), mixOk⟩ ⟨by kernel_rfl, by kernel_rfl, by kernel_rfl, by kernel_rfl, by kernel_rfl, by decide, by kernel_rfl⟩ (fun x y h => (congrFun d5 x).trans h)

end Go.Proofs.YtmpfjlolcmokbaaE

/- The functions of X reckon so (1). No condition. -/
import Derived.Test.YtmpfjlolcmokbaaPackR
import Derived.Test.YtmpfjlolcmokbaaLawFX
import Derived.Test.YtmpfjlolcmokbaaProg
set_option linter.all false
namespace Go.Proofs.YtmpfjlolcmokbaaE
set_option maxRecDepth 100000
set_option linter.all false
def tab : List TE := [⟨3, .int .i64, 0, 8⟩, ⟨4, .bool, 0, 1⟩, ⟨5, .int .u8, 0, 1⟩, ⟨9, .str, 0, 16⟩, ⟨23, .pair (.int .i64) (.pair (.int .i64) (.pair (.int .i64) (.pair (.int .i64) (.pair (.int .i64) (.pair (.str) (.str)))))), 7, 72⟩, ⟨26, .pair (.int .i64) (.pair (.int .i64) (.pair (.int .i64) (.pair (.int .i64) (.pair (.int .i64) (.pair (.str) (.str)))))), 7, 72⟩, ⟨29, .list 23 (.pair (.int .i64) (.pair (.int .i64) (.pair (.int .i64) (.pair (.int .i64) (.pair (.int .i64) (.pair (.str) (.str))))))), 0, 24⟩, ⟨32, .list 26 (.pair (.int .i64) (.pair (.int .i64) (.pair (.int .i64) (.pair (.int .i64) (.pair (.int .i64) (.pair (.str) (.str))))))), 0, 24⟩, ⟨36, .list 3 (.int .i64), 0, 24⟩, ⟨37, .list 80 (.pair (.int .i64) (.pair (.int .i64) (.pair (.int .i64) (.pair (.int .i64) (.pair (.int .i64) (.pair (.str) (.list 3 (.int .i64)))))))), 0, 24⟩, ⟨39, .pair (.str) (.pair (.int .i64) (.pair (.list 3 (.int .i64)) (.list 80 (.pair (.int .i64) (.pair (.int .i64) (.pair (.int .i64) (.pair (.int .i64) (.pair (.int .i64) (.pair (.str) (.list 3 (.int .i64))))))))))), 4, 72⟩, ⟨42, .list 64 (.pair (.int .i64) (.pair (.int .i64) (.pair (.int .i64) (.pair (.int .i64) (.pair (.int .i64) (.pair (.str) (.list 3 (.int .i64)))))))), 0, 24⟩, ⟨44, .pair (.str) (.pair (.int .i64) (.pair (.list 3 (.int .i64)) (.list 64 (.pair (.int .i64) (.pair (.int .i64) (.pair (.int .i64) (.pair (.int .i64) (.pair (.int .i64) (.pair (.str) (.list 3 (.int .i64))))))))))), 4, 72⟩, ⟨64, .pair (.int .i64) (.pair (.int .i64) (.pair (.int .i64) (.pair (.int .i64) (.pair (.int .i64) (.pair (.str) (.list 3 (.int .i64))))))), 7, 80⟩, ⟨75, .pair (.str) (.pair (.int .i64) (.bool)), 3, 32⟩, ⟨78, .list 5 (.int .u8), 0, 24⟩, ⟨80, .pair (.int .i64) (.pair (.int .i64) (.pair (.int .i64) (.pair (.int .i64) (.pair (.int .i64) (.pair (.str) (.list 3 (.int .i64))))))), 7, 80⟩]
theorem tabOk : TabOk Try.prog tab := tab_ok (by kernel_rfl)
theorem kOk : kpos tab = true := by kernel_rfl
theorem mixOk : Try.prog.follows .mixedOrders = true := by kernel_rfl

/-- laws.szWish -/
noncomputable def C8 : Cal := ⟨8, [⟨.ro, .pair (.int .i64) (.pair (.int .i64) (.pair (.int .i64) (.pair (.int .i64) (.pair (.int .i64) (.pair (.str) (.str))))))⟩, ⟨.ro, .int .i64⟩], [⟨.int .i64, .ro⟩], fun x => laws_szWish x.1 x.2.1⟩
def H8 : Hn := .z
noncomputable def E8 : Env := ⟨tab, [], 2, 20⟩
theorem d8 : (fun (x : HL (pts C8.ps)) => den E8 (Try.f8.body.getD .skip) H8 (initS 20 C8.ps x) (retK tab [] C8.ps C8.rs [.tmp 4]) (fun _ _ => none) (retK tab [] C8.ps C8.rs [.tmp 4])) = C8.F := by kernel_rfl
theorem c8 : Cok Try.prog C8 := by
  exact cok_of_den (E := E8) (fn := Try.f8) (code := Try.f8.body.getD .skip) (hn := H8) (gr := []) (is := [.tmp 4]) ⟨tabOk, (fun c hc => by cases hc), mixOk⟩ ⟨by kernel_rfl, by kernel_rfl, by kernel_rfl, by kernel_rfl, by kernel_rfl, by decide, by kernel_rfl⟩ (fun x y h => (congrFun d8 x).trans h)

/-- laws.toWish -/
noncomputable def C10 : Cal := ⟨10, [⟨.ro, .pair (.int .i64) (.pair (.int .i64) (.pair (.int .i64) (.pair (.int .i64) (.pair (.int .i64) (.pair (.str) (.str))))))⟩], [⟨.pair (.int .i64) (.pair (.int .i64) (.pair (.int .i64) (.pair (.int .i64) (.pair (.int .i64) (.pair (.str) (.str)))))), .ro⟩], fun x => laws_toWish x.1⟩
def H10 : Hn := .z
noncomputable def E10 : Env := ⟨tab, [], 1, 26⟩
theorem d10 : (fun (x : HL (pts C10.ps)) => den E10 (Try.f10.body.getD .skip) H10 (initS 26 C10.ps x) (retK tab [] C10.ps C10.rs [.cell 2 26]) (fun _ _ => none) (retK tab [] C10.ps C10.rs [.cell 2 26])) = C10.F := by kernel_rfl
theorem c10 : Cok Try.prog C10 := by
  exact cok_of_den (E := E10) (fn := Try.f10) (code := Try.f10.body.getD .skip) (hn := H10) (gr := []) (is := [.cell 2 26]) ⟨tabOk, (fun c hc => by cases hc), mixOk⟩ ⟨by kernel_rfl, by kernel_rfl, by kernel_rfl, by kernel_rfl, by kernel_rfl, by decide, by kernel_rfl⟩ (fun x y h => (congrFun d10 x).trans h)

/-- spec.l01In -/
noncomputable def C29 : Cal := ⟨29, [⟨.ro, .int .i64⟩, ⟨.ro, .int .i64⟩, ⟨.ro, .int .i64⟩], [⟨.bool, .ro⟩], fun x => spec_l01In x.1 x.2.1 x.2.2.1⟩
def H29 : Hn := (.n ⟨[], [], none, false, []⟩ .z (.n ⟨[], [], none, false, []⟩ (.n ⟨[], [], (some ⟨[.snp 6 (.bool) []], [], []⟩), false, []⟩ .z .z) .z))
noncomputable def E29 : Env := ⟨tab, [], 3, 15⟩
theorem d29 : (fun (x : HL (pts C29.ps)) => den E29 (Try.f29.body.getD .skip) H29 (initS 15 C29.ps x) (retK tab [] C29.ps C29.rs [.tmp 6]) (fun _ _ => none) (retK tab [] C29.ps C29.rs [.tmp 6])) = C29.F := by kernel_rfl
theorem c29 : Cok Try.prog C29 := by
  exact cok_of_den (E := E29) (fn := Try.f29) (code := Try.f29.body.getD .skip) (hn := H29) (gr := []) (is := [.tmp 6]) ⟨tabOk, (fun c hc => by cases hc), mixOk⟩ ⟨by kernel_rfl, by kernel_rfl, by kernel_rfl, by kernel_rfl, by kernel_rfl, by decide, by kernel_rfl⟩ (fun x y h => (congrFun d29 x).trans h)

/-- spec.l01Var -/
noncomputable def C30 : Cal := ⟨30, [⟨.ro, .int .i64⟩], [⟨.str, .ro⟩], fun x => spec_l01Var x.1⟩
def H30 : Hn := (.n ⟨[], [], none, false, []⟩ .z (.n ⟨[], [], none, false, []⟩ .z (.n ⟨[], [], none, false, []⟩ (.n ⟨[], [], (some ⟨[.snp 0 (.int .i64) [], .dat 3 (.list 5 (.int .u8)) (.own (.ro))], [], []⟩), false, []⟩ (.n ⟨[3], [], (some ⟨[.snp 0 (.int .i64) [], .dat 3 (.list 5 (.int .u8)) (.own (.ro))], [], []⟩), false, []⟩ (.n ⟨[], [], none, false, []⟩ .z (.n ⟨[], [], none, false, []⟩ (.n ⟨[], [], none, false, []⟩ (.n ⟨[], [], none, false, [(6, ⟨[7], .ro, [], [], none⟩)]⟩ .z .z) (.n ⟨[], [3], none, false, []⟩ .z .z)) .z)) .z) .z) (.n ⟨[], [], none, false, []⟩ (.n ⟨[], [], none, false, [(4, ⟨[16], .ro, [], [], none⟩)]⟩ .z .z) .z))))
noncomputable def E30 : Env := ⟨tab, [], 1, 22⟩
theorem d30 : (fun (x : HL (pts C30.ps)) => den E30 (Try.f30.body.getD .skip) H30 (initS 22 C30.ps x) (retK tab [] C30.ps C30.rs [.tmp 2]) (fun _ _ => none) (retK tab [] C30.ps C30.rs [.tmp 2])) = C30.F := by kernel_rfl
theorem c30 : Cok Try.prog C30 := by
  exact cok_of_den (E := E30) (fn := Try.f30) (code := Try.f30.body.getD .skip) (hn := H30) (gr := []) (is := [.tmp 2]) ⟨tabOk, (fun c hc => by cases hc), mixOk⟩ ⟨by kernel_rfl, by kernel_rfl, by kernel_rfl, by kernel_rfl, by kernel_rfl, by decide, by kernel_rfl⟩ (fun x y h => (congrFun d30 x).trans h)

/-- spec.WishText -/
noncomputable def C9 : Cal := ⟨9, [⟨.ro, .pair (.int .i64) (.pair (.int .i64) (.pair (.int .i64) (.pair (.int .i64) (.pair (.int .i64) (.pair (.str) (.str))))))⟩], [⟨.str, .ro⟩], fun x => spec_WishText x.1⟩
def H9 : Hn := (.n ⟨[], [], none, false, []⟩ .z (.n ⟨[], [], none, false, []⟩ .z (.n ⟨[], [], none, false, []⟩ .z (.n ⟨[], [], none, false, []⟩ (.n ⟨[], [], none, false, []⟩ .z (.n ⟨[], [], (some ⟨[.snp 4 (.str) [], .box 1 true (.pair (.int .i64) (.pair (.int .i64) (.pair (.int .i64) (.pair (.int .i64) (.pair (.int .i64) (.pair (.str) (.str))))))) (.ro)], [(1, ⟨3, []⟩)], []⟩), true, []⟩ (.n ⟨[3], [], (some ⟨[.dat 3 (.list 3 (.int .i64)) (.own (.ro)), .snp 4 (.str) [], .snp 5 (.int .i64) [], .box 1 true (.pair (.int .i64) (.pair (.int .i64) (.pair (.int .i64) (.pair (.int .i64) (.pair (.int .i64) (.pair (.str) (.str))))))) (.ro)], [(1, ⟨3, []⟩)], []⟩), false, []⟩ .z .z) .z)) (.n ⟨[], [], none, false, []⟩ (.n ⟨[], [], none, false, []⟩ (.n ⟨[], [], (some ⟨[.snp 4 (.str) [], .snp 45 (.bool) [], .box 1 true (.pair (.int .i64) (.pair (.int .i64) (.pair (.int .i64) (.pair (.int .i64) (.pair (.int .i64) (.pair (.str) (.str))))))) (.ro)], [(1, ⟨3, []⟩)], []⟩), false, []⟩ .z .z) .z) (.n ⟨[], [], none, false, []⟩ (.n ⟨[], [], none, false, [(0, ⟨[], .ro, [46], [], none⟩), (1, ⟨[], .ro, [47], [], none⟩), (2, ⟨[], .ro, [48], [], none⟩), (3, ⟨[], .ro, [49], [], none⟩), (4, ⟨[], .ro, [50], [], none⟩), (5, ⟨[], .ro, [51], [], none⟩), (6, ⟨[], .ro, [52], [], none⟩), (7, ⟨[], .ro, [53], [], none⟩), (8, ⟨[], .ro, [54], [], none⟩), (9, ⟨[], .ro, [55], [], none⟩), (10, ⟨[], .ro, [56], [], none⟩), (11, ⟨[], .ro, [57], [], none⟩), (12, ⟨[], .ro, [58], [], none⟩), (13, ⟨[], .ro, [59], [], none⟩), (14, ⟨[], .ro, [60], [], none⟩), (15, ⟨[], .ro, [61], [], none⟩), (16, ⟨[], .ro, [62], [], none⟩), (17, ⟨[], .ro, [2], [], none⟩)]⟩ .z .z) .z))))))
noncomputable def E9 : Env := ⟨tab, [C29, C30], 1, 63⟩
theorem d9 : (fun (x : HL (pts C9.ps)) => den E9 (Try.f9.body.getD .skip) H9 (initS 63 C9.ps x) (retK tab [] C9.ps C9.rs [.tmp 2]) (fun _ _ => none) (retK tab [] C9.ps C9.rs [.tmp 2])) = C9.F := by kernel_rfl
theorem c9 : Cok Try.prog C9 := by
  have h29 := c29
  have h30 := c30
  exact cok_of_den (E := E9) (fn := Try.f9) (code := Try.f9.body.getD .skip) (hn := H9) (gr := []) (is := [.tmp 2]) ⟨tabOk, (fun c hc => by simp only [E9, List.mem_cons, List.not_mem_nil, or_false] at hc; rcases hc with rfl | rfl <;> assumption), mixOk⟩ ⟨by kernel_rfl, by kernel_rfl, by kernel_rfl, by kernel_rfl, by kernel_rfl, by decide, by kernel_rfl⟩ (fun x y h => (congrFun d9 x).trans h)

/-- impl.in -/
noncomputable def C41 : Cal := ⟨41, [⟨.ro, .int .i64⟩, ⟨.ro, .int .i64⟩, ⟨.ro, .int .i64⟩], [⟨.bool, .ro⟩], fun x => impl_in x.1 x.2.1 x.2.2.1⟩
def H41 : Hn := (.n ⟨[], [], none, false, []⟩ .z (.n ⟨[], [], none, false, []⟩ (.n ⟨[], [], (some ⟨[.snp 6 (.bool) []], [], []⟩), false, []⟩ .z .z) .z))
noncomputable def E41 : Env := ⟨tab, [], 3, 15⟩
theorem d41 : (fun (x : HL (pts C41.ps)) => den E41 (Try.f41.body.getD .skip) H41 (initS 15 C41.ps x) (retK tab [] C41.ps C41.rs [.tmp 6]) (fun _ _ => none) (retK tab [] C41.ps C41.rs [.tmp 6])) = C41.F := by kernel_rfl
theorem c41 : Cok Try.prog C41 := by
  exact cok_of_den (E := E41) (fn := Try.f41) (code := Try.f41.body.getD .skip) (hn := H41) (gr := []) (is := [.tmp 6]) ⟨tabOk, (fun c hc => by cases hc), mixOk⟩ ⟨by kernel_rfl, by kernel_rfl, by kernel_rfl, by kernel_rfl, by kernel_rfl, by decide, by kernel_rfl⟩ (fun x y h => (congrFun d41 x).trans h)

/-- impl.varText -/
noncomputable def C45 : Cal := ⟨45, [⟨.ro, .int .i64⟩], [⟨.str, .ro⟩], fun x => impl_varText x.1⟩
def H45 : Hn := (.n ⟨[], [], none, false, []⟩ .z (.n ⟨[], [], none, false, []⟩ .z (.n ⟨[], [], none, false, []⟩ (.n ⟨[], [], (some ⟨[.snp 0 (.int .i64) [], .dat 3 (.list 5 (.int .u8)) (.own (.ro))], [], []⟩), false, []⟩ (.n ⟨[], [], (some ⟨[.snp 0 (.int .i64) [], .dat 3 (.list 5 (.int .u8)) (.own (.ro))], [], []⟩), false, []⟩ (.n ⟨[], [], none, false, []⟩ .z (.n ⟨[], [], none, false, []⟩ (.n ⟨[], [], none, false, []⟩ (.n ⟨[], [], none, false, [(6, ⟨[6], .ro, [], [], none⟩)]⟩ .z .z) (.n ⟨[], [3], none, false, []⟩ .z .z)) .z)) .z) .z) (.n ⟨[], [], none, false, []⟩ (.n ⟨[], [], none, false, [(4, ⟨[15], .ro, [], [], none⟩)]⟩ .z .z) .z))))
noncomputable def E45 : Env := ⟨tab, [], 1, 21⟩
theorem d45 : (fun (x : HL (pts C45.ps)) => den E45 (Try.f45.body.getD .skip) H45 (initS 21 C45.ps x) (retK tab [] C45.ps C45.rs [.tmp 2]) (fun _ _ => none) (retK tab [] C45.ps C45.rs [.tmp 2])) = C45.F := by kernel_rfl
theorem c45 : Cok Try.prog C45 := by
  exact cok_of_den (E := E45) (fn := Try.f45) (code := Try.f45.body.getD .skip) (hn := H45) (gr := []) (is := [.tmp 2]) ⟨tabOk, (fun c hc => by cases hc), mixOk⟩ ⟨by kernel_rfl, by kernel_rfl, by kernel_rfl, by kernel_rfl, by kernel_rfl, by decide, by kernel_rfl⟩ (fun x y h => (congrFun d45 x).trans h)

/-- impl.VarText -/
noncomputable def C31 : Cal := ⟨31, [⟨.ro, .int .i64⟩], [⟨.str, .ro⟩, ⟨.bool, .ro⟩], fun x => impl_VarText x.1⟩
def H31 : Hn := .z
noncomputable def E31 : Env := ⟨tab, [C41, C45], 1, 9⟩
theorem d31 : (fun (x : HL (pts C31.ps)) => den E31 (Try.f31.body.getD .skip) H31 (initS 9 C31.ps x) (retK tab [] C31.ps C31.rs [.tmp 2, .tmp 3]) (fun _ _ => none) (retK tab [] C31.ps C31.rs [.tmp 2, .tmp 3])) = C31.F := by kernel_rfl
theorem c31 : Cok Try.prog C31 := by
  have h41 := c41
  have h45 := c45
  exact cok_of_den (E := E31) (fn := Try.f31) (code := Try.f31.body.getD .skip) (hn := H31) (gr := []) (is := [.tmp 2, .tmp 3]) ⟨tabOk, (fun c hc => by simp only [E31, List.mem_cons, List.not_mem_nil, or_false] at hc; rcases hc with rfl | rfl <;> assumption), mixOk⟩ ⟨by kernel_rfl, by kernel_rfl, by kernel_rfl, by kernel_rfl, by kernel_rfl, by decide, by kernel_rfl⟩ (fun x y h => (congrFun d31 x).trans h)

/-- impl.shortText -/
noncomputable def C32 : Cal := ⟨32, [⟨.ro, .str⟩], [⟨.str, .ro⟩], fun x => impl_shortText x.1⟩
def H32 : Hn := .z
noncomputable def E32 : Env := ⟨tab, [C45], 1, 8⟩
theorem d32 : (fun (x : HL (pts C32.ps)) => den E32 (Try.f32.body.getD .skip) H32 (initS 8 C32.ps x) (retK tab [] C32.ps C32.rs [.tmp 2]) (fun _ _ => none) (retK tab [] C32.ps C32.rs [.tmp 2])) = C32.F := by kernel_rfl
theorem c32 : Cok Try.prog C32 := by
  have h45 := c45
  exact cok_of_den (E := E32) (fn := Try.f32) (code := Try.f32.body.getD .skip) (hn := H32) (gr := []) (is := [.tmp 2]) ⟨tabOk, (fun c hc => by simp only [E32, List.mem_cons, List.not_mem_nil, or_false] at hc; rcases hc with rfl <;> assumption), mixOk⟩ ⟨by kernel_rfl, by kernel_rfl, by kernel_rfl, by kernel_rfl, by kernel_rfl, by decide, by kernel_rfl⟩ (fun x y h => (congrFun d32 x).trans h)

/-- impl.WishText -/
noncomputable def C11 : Cal := ⟨11, [⟨.ro, .pair (.int .i64) (.pair (.int .i64) (.pair (.int .i64) (.pair (.int .i64) (.pair (.int .i64) (.pair (.str) (.str))))))⟩], [⟨.str, .ro⟩], fun x => impl_WishText x.1⟩
def H11 : Hn := (.n ⟨[], [], none, false, []⟩ .z (.n ⟨[], [], none, false, []⟩ (.n ⟨[], [], none, false, []⟩ (.n ⟨[], [], (some ⟨[.snp 17 (.bool) [], .box 1 true (.pair (.int .i64) (.pair (.int .i64) (.pair (.int .i64) (.pair (.int .i64) (.pair (.int .i64) (.pair (.str) (.str))))))) (.ro)], [(1, ⟨3, []⟩)], []⟩), false, []⟩ .z .z) .z) (.n ⟨[], [], none, false, []⟩ .z (.n ⟨[], [], none, false, []⟩ (.n ⟨[], [], none, false, []⟩ .z (.n ⟨[], [], (some ⟨[.snp 3 (.str) [], .box 1 true (.pair (.int .i64) (.pair (.int .i64) (.pair (.int .i64) (.pair (.int .i64) (.pair (.int .i64) (.pair (.str) (.str))))))) (.ro)], [(1, ⟨3, []⟩)], []⟩), true, []⟩ (.n ⟨[], [], (some ⟨[.snp 3 (.str) [], .dat 28 (.list 3 (.int .i64)) (.own (.ro)), .snp 29 (.int .i64) [], .snp 30 (.int .i64) [], .box 1 true (.pair (.int .i64) (.pair (.int .i64) (.pair (.int .i64) (.pair (.int .i64) (.pair (.int .i64) (.pair (.str) (.str))))))) (.ro)], [(1, ⟨3, []⟩)], []⟩), false, []⟩ .z .z) .z)) (.n ⟨[], [], none, false, []⟩ (.n ⟨[], [], none, false, [(0, ⟨[], .ro, [45], [], none⟩), (1, ⟨[], .ro, [46], [], none⟩), (2, ⟨[], .ro, [47], [], none⟩), (3, ⟨[], .ro, [48], [], none⟩), (4, ⟨[], .ro, [49], [], none⟩), (5, ⟨[], .ro, [50], [], none⟩), (6, ⟨[], .ro, [51], [], none⟩), (7, ⟨[], .ro, [52], [], none⟩), (8, ⟨[], .ro, [53], [], none⟩), (9, ⟨[], .ro, [2], [], none⟩)]⟩ .z .z) .z)))))
noncomputable def E11 : Env := ⟨tab, [C31, C32], 1, 54⟩
theorem d11 : (fun (x : HL (pts C11.ps)) => den E11 (Try.f11.body.getD .skip) H11 (initS 54 C11.ps x) (retK tab [] C11.ps C11.rs [.tmp 2]) (fun _ _ => none) (retK tab [] C11.ps C11.rs [.tmp 2])) = C11.F := by kernel_rfl
theorem c11 : Cok Try.prog C11 := by
  have h31 := c31
  have h32 := c32
  exact cok_of_den (E := E11) (fn := Try.f11) (code := Try.f11.body.getD .skip) (hn := H11) (gr := []) (is := [.tmp 2]) ⟨tabOk, (fun c hc => by simp only [E11, List.mem_cons, List.not_mem_nil, or_false] at hc; rcases hc with rfl | rfl <;> assumption), mixOk⟩ ⟨by kernel_rfl, by kernel_rfl, by kernel_rfl, by kernel_rfl, by kernel_rfl, by decide, by kernel_rfl⟩ (fun x y h => (congrFun d11 x).trans h)

/-- laws.FnExactWishText -/
noncomputable def C3 : Cal := ⟨3, [⟨.ro, .pair (.int .i64) (.pair (.int .i64) (.pair (.int .i64) (.pair (.int .i64) (.pair (.int .i64) (.pair (.str) (.str))))))⟩], [⟨.bool, .ro⟩], fun x => laws_FnExactWishText x.1⟩
def H3 : Hn := .z
noncomputable def E3 : Env := ⟨tab, [C8, C10, C9, C11], 1, 20⟩
theorem d3 : (fun (x : HL (pts C3.ps)) => den E3 (Try.f3.body.getD .skip) H3 (initS 20 C3.ps x) (retK tab [] C3.ps C3.rs [.tmp 2]) (fun _ _ => none) (retK tab [] C3.ps C3.rs [.tmp 2])) = C3.F := by kernel_rfl
theorem c3 : Cok Try.prog C3 := by
  have h8 := c8
  have h10 := c10
  have h9 := c9
  have h11 := c11
  exact cok_of_den (E := E3) (fn := Try.f3) (code := Try.f3.body.getD .skip) (hn := H3) (gr := []) (is := [.tmp 2]) ⟨tabOk, (fun c hc => by simp only [E3, List.mem_cons, List.not_mem_nil, or_false] at hc; rcases hc with rfl | rfl | rfl | rfl <;> assumption), mixOk⟩ ⟨by kernel_rfl, by kernel_rfl, by kernel_rfl, by kernel_rfl, by kernel_rfl, by decide, by kernel_rfl⟩ (fun x y h => (congrFun d3 x).trans h)

/-- laws.szWishS -/
noncomputable def C12 : Cal := ⟨12, [⟨.ro, .list 23 (.pair (.int .i64) (.pair (.int .i64) (.pair (.int .i64) (.pair (.int .i64) (.pair (.int .i64) (.pair (.str) (.str)))))))⟩, ⟨.ro, .int .i64⟩], [⟨.int .i64, .ro⟩], fun x => laws_szWishS x.1 x.2.1⟩
def H12 : Hn := (.n ⟨[], [], none, false, []⟩ .z (.n ⟨[], [], none, false, []⟩ .z (.n ⟨[], [], none, false, []⟩ .z (.n ⟨[], [], none, false, []⟩ (.n ⟨[], [], none, false, []⟩ .z (.n ⟨[], [], (some ⟨[.snp 1 (.int .i64) []], [], []⟩), true, []⟩ (.n ⟨[], [], (some ⟨[.snp 0 (.list 23 (.pair (.int .i64) (.pair (.int .i64) (.pair (.int .i64) (.pair (.int .i64) (.pair (.int .i64) (.pair (.str) (.str)))))))) [], .snp 1 (.int .i64) [], .snp 5 (.int .i64) []], [], []⟩), false, []⟩ .z .z) .z)) .z))))
noncomputable def E12 : Env := ⟨tab, [C8], 2, 27⟩
theorem d12 : (fun (x : HL (pts C12.ps)) => den E12 (Try.f12.body.getD .skip) H12 (initS 27 C12.ps x) (retK tab [] C12.ps C12.rs [.tmp 4]) (fun _ _ => none) (retK tab [] C12.ps C12.rs [.tmp 4])) = C12.F := by kernel_rfl
theorem c12 : Cok Try.prog C12 := by
  have h8 := c8
  exact cok_of_den (E := E12) (fn := Try.f12) (code := Try.f12.body.getD .skip) (hn := H12) (gr := []) (is := [.tmp 4]) ⟨tabOk, (fun c hc => by simp only [E12, List.mem_cons, List.not_mem_nil, or_false] at hc; rcases hc with rfl <;> assumption), mixOk⟩ ⟨by kernel_rfl, by kernel_rfl, by kernel_rfl, by kernel_rfl, by kernel_rfl, by decide, by kernel_rfl⟩ (fun x y h => (congrFun d12 x).trans h)

/-- laws.toWishS -/
noncomputable def C14 : Cal := ⟨14, [⟨.ro, .list 23 (.pair (.int .i64) (.pair (.int .i64) (.pair (.int .i64) (.pair (.int .i64) (.pair (.int .i64) (.pair (.str) (.str)))))))⟩], [⟨.list 26 (.pair (.int .i64) (.pair (.int .i64) (.pair (.int .i64) (.pair (.int .i64) (.pair (.int .i64) (.pair (.str) (.str))))))), .own (.ro)⟩], fun x => laws_toWishS x.1⟩
def H14 : Hn := (.n ⟨[], [], none, false, []⟩ .z (.n ⟨[], [], none, false, []⟩ .z (.n ⟨[], [], none, false, []⟩ (.n ⟨[], [], none, false, []⟩ .z (.n ⟨[], [], (some ⟨[.dat 3 (.list 26 (.pair (.int .i64) (.pair (.int .i64) (.pair (.int .i64) (.pair (.int .i64) (.pair (.int .i64) (.pair (.str) (.str)))))))) (.own (.ro))], [], []⟩), false, []⟩ (.n ⟨[3], [], (some ⟨[.snp 0 (.list 23 (.pair (.int .i64) (.pair (.int .i64) (.pair (.int .i64) (.pair (.int .i64) (.pair (.int .i64) (.pair (.str) (.str)))))))) [], .dat 3 (.list 26 (.pair (.int .i64) (.pair (.int .i64) (.pair (.int .i64) (.pair (.int .i64) (.pair (.int .i64) (.pair (.str) (.str)))))))) (.own (.ro)), .snp 4 (.int .i64) []], [], []⟩), false, []⟩ (.n ⟨[], [], none, false, []⟩ .z (.n ⟨[], [], none, false, []⟩ (.n ⟨[], [], none, false, []⟩ (.n ⟨[], [], none, false, [(8, ⟨[], .ro, [], [], some 6⟩)]⟩ .z .z) .z) .z)) .z) .z)) .z)))
noncomputable def E14 : Env := ⟨tab, [C10], 1, 23⟩
theorem d14 : (fun (x : HL (pts C14.ps)) => den E14 (Try.f14.body.getD .skip) H14 (initS 23 C14.ps x) (retK tab [2] C14.ps C14.rs [.tmp 2]) (fun _ _ => none) (retK tab [2] C14.ps C14.rs [.tmp 2])) = C14.F := by kernel_rfl
theorem c14 : Cok Try.prog C14 := by
  have h10 := c10
  exact cok_of_den (E := E14) (fn := Try.f14) (code := Try.f14.body.getD .skip) (hn := H14) (gr := [2]) (is := [.tmp 2]) ⟨tabOk, (fun c hc => by simp only [E14, List.mem_cons, List.not_mem_nil, or_false] at hc; rcases hc with rfl <;> assumption), mixOk⟩ ⟨by kernel_rfl, by kernel_rfl, by kernel_rfl, by kernel_rfl, by kernel_rfl, by decide, by kernel_rfl⟩ (fun x y h => (congrFun d14 x).trans h)

/-- spec.PlanText -/
noncomputable def C13 : Cal := ⟨13, [⟨.ro, .list 26 (.pair (.int .i64) (.pair (.int .i64) (.pair (.int .i64) (.pair (.int .i64) (.pair (.int .i64) (.pair (.str) (.str)))))))⟩], [⟨.str, .ro⟩], fun x => spec_PlanText x.1⟩
def H13 : Hn := (.n ⟨[], [], none, false, []⟩ .z (.n ⟨[], [], none, false, []⟩ .z (.n ⟨[], [], none, false, []⟩ (.n ⟨[], [], none, false, []⟩ .z (.n ⟨[], [], (some ⟨[.snp 3 (.str) []], [], []⟩), true, []⟩ (.n ⟨[], [], (some ⟨[.snp 0 (.list 26 (.pair (.int .i64) (.pair (.int .i64) (.pair (.int .i64) (.pair (.int .i64) (.pair (.int .i64) (.pair (.str) (.str)))))))) [], .snp 3 (.str) [], .snp 4 (.int .i64) []], [], []⟩), false, []⟩ .z .z) .z)) .z)))
noncomputable def E13 : Env := ⟨tab, [C9], 1, 23⟩
theorem d13 : (fun (x : HL (pts C13.ps)) => den E13 (Try.f13.body.getD .skip) H13 (initS 23 C13.ps x) (retK tab [] C13.ps C13.rs [.tmp 2]) (fun _ _ => none) (retK tab [] C13.ps C13.rs [.tmp 2])) = C13.F := by kernel_rfl
theorem c13 : Cok Try.prog C13 := by
  have h9 := c9
  exact cok_of_den (E := E13) (fn := Try.f13) (code := Try.f13.body.getD .skip) (hn := H13) (gr := []) (is := [.tmp 2]) ⟨tabOk, (fun c hc => by simp only [E13, List.mem_cons, List.not_mem_nil, or_false] at hc; rcases hc with rfl <;> assumption), mixOk⟩ ⟨by kernel_rfl, by kernel_rfl, by kernel_rfl, by kernel_rfl, by kernel_rfl, by decide, by kernel_rfl⟩ (fun x y h => (congrFun d13 x).trans h)

/-- impl.PlanText -/
noncomputable def C15 : Cal := ⟨15, [⟨.ro, .list 26 (.pair (.int .i64) (.pair (.int .i64) (.pair (.int .i64) (.pair (.int .i64) (.pair (.int .i64) (.pair (.str) (.str)))))))⟩], [⟨.str, .ro⟩], fun x => impl_PlanText x.1⟩
def H15 : Hn := (.n ⟨[], [], none, false, []⟩ .z (.n ⟨[], [], none, false, []⟩ .z (.n ⟨[], [], none, false, []⟩ (.n ⟨[], [], none, false, []⟩ .z (.n ⟨[], [], (some ⟨[.snp 3 (.str) []], [], []⟩), true, []⟩ (.n ⟨[], [], (some ⟨[.snp 3 (.str) [], .snp 7 (.list 26 (.pair (.int .i64) (.pair (.int .i64) (.pair (.int .i64) (.pair (.int .i64) (.pair (.int .i64) (.pair (.str) (.str)))))))) [], .snp 8 (.int .i64) [], .snp 9 (.int .i64) []], [], []⟩), false, []⟩ .z .z) .z)) .z)))
noncomputable def E15 : Env := ⟨tab, [C11], 1, 22⟩
theorem d15 : (fun (x : HL (pts C15.ps)) => den E15 (Try.f15.body.getD .skip) H15 (initS 22 C15.ps x) (retK tab [] C15.ps C15.rs [.tmp 2]) (fun _ _ => none) (retK tab [] C15.ps C15.rs [.tmp 2])) = C15.F := by kernel_rfl
theorem c15 : Cok Try.prog C15 := by
  have h11 := c11
  exact cok_of_den (E := E15) (fn := Try.f15) (code := Try.f15.body.getD .skip) (hn := H15) (gr := []) (is := [.tmp 2]) ⟨tabOk, (fun c hc => by simp only [E15, List.mem_cons, List.not_mem_nil, or_false] at hc; rcases hc with rfl <;> assumption), mixOk⟩ ⟨by kernel_rfl, by kernel_rfl, by kernel_rfl, by kernel_rfl, by kernel_rfl, by decide, by kernel_rfl⟩ (fun x y h => (congrFun d15 x).trans h)

/-- laws.eqWish -/
noncomputable def C24 : Cal := ⟨24, [⟨.ro, .pair (.int .i64) (.pair (.int .i64) (.pair (.int .i64) (.pair (.int .i64) (.pair (.int .i64) (.pair (.str) (.str))))))⟩, ⟨.ro, .pair (.int .i64) (.pair (.int .i64) (.pair (.int .i64) (.pair (.int .i64) (.pair (.int .i64) (.pair (.str) (.str))))))⟩], [⟨.bool, .ro⟩], fun x => laws_eqWish x.1 x.2.1⟩
def H24 : Hn := .z
noncomputable def E24 : Env := ⟨tab, [], 2, 40⟩
theorem d24 : (fun (x : HL (pts C24.ps)) => den E24 (Try.f24.body.getD .skip) H24 (initS 40 C24.ps x) (retK tab [] C24.ps C24.rs [.tmp 4]) (fun _ _ => none) (retK tab [] C24.ps C24.rs [.tmp 4])) = C24.F := by kernel_rfl
theorem c24 : Cok Try.prog C24 := by
  exact cok_of_den (E := E24) (fn := Try.f24) (code := Try.f24.body.getD .skip) (hn := H24) (gr := []) (is := [.tmp 4]) ⟨tabOk, (fun c hc => by cases hc), mixOk⟩ ⟨by kernel_rfl, by kernel_rfl, by kernel_rfl, by kernel_rfl, by kernel_rfl, by decide, by kernel_rfl⟩ (fun x y h => (congrFun d24 x).trans h)

/-- laws.eqWishS -/
noncomputable def C16 : Cal := ⟨16, [⟨.ro, .list 26 (.pair (.int .i64) (.pair (.int .i64) (.pair (.int .i64) (.pair (.int .i64) (.pair (.int .i64) (.pair (.str) (.str)))))))⟩, ⟨.ro, .list 26 (.pair (.int .i64) (.pair (.int .i64) (.pair (.int .i64) (.pair (.int .i64) (.pair (.int .i64) (.pair (.str) (.str)))))))⟩], [⟨.bool, .ro⟩], fun x => laws_eqWishS x.1 x.2.1⟩
def H16 : Hn := (.n ⟨[], [], none, false, []⟩ .z (.n ⟨[], [], none, false, []⟩ .z (.n ⟨[], [], none, false, []⟩ (.n ⟨[], [], none, false, []⟩ .z (.n ⟨[], [], (some ⟨[], [], []⟩), true, []⟩ (.n ⟨[], [], (some ⟨[.snp 0 (.list 26 (.pair (.int .i64) (.pair (.int .i64) (.pair (.int .i64) (.pair (.int .i64) (.pair (.int .i64) (.pair (.str) (.str)))))))) [], .snp 1 (.list 26 (.pair (.int .i64) (.pair (.int .i64) (.pair (.int .i64) (.pair (.int .i64) (.pair (.int .i64) (.pair (.str) (.str)))))))) [], .snp 5 (.int .i64) []], [], []⟩), false, []⟩ (.n ⟨[], [], none, false, []⟩ .z (.n ⟨[], [], none, false, []⟩ (.n ⟨[], [], none, false, []⟩ (.n ⟨[], [], none, false, []⟩ (.n ⟨[], [], none, false, [(0, ⟨[], .ro, [17], [], none⟩), (1, ⟨[], .ro, [18], [], none⟩), (2, ⟨[], .ro, [19], [], none⟩), (3, ⟨[], .ro, [20], [], none⟩), (4, ⟨[], .ro, [21], [], none⟩), (5, ⟨[], .ro, [22], [], none⟩), (6, ⟨[], .ro, [23], [], none⟩), (7, ⟨[], .ro, [24], [], none⟩), (8, ⟨[], .ro, [25], [], none⟩), (9, ⟨[], .ro, [26], [], none⟩)]⟩ .z .z) .z) .z) .z)) .z) .z)) .z)))
noncomputable def E16 : Env := ⟨tab, [C24], 2, 27⟩
theorem d16 : (fun (x : HL (pts C16.ps)) => den E16 (Try.f16.body.getD .skip) H16 (initS 27 C16.ps x) (retK tab [] C16.ps C16.rs [.tmp 4]) (fun _ _ => none) (retK tab [] C16.ps C16.rs [.tmp 4])) = C16.F := by kernel_rfl
theorem c16 : Cok Try.prog C16 := by
  have h24 := c24
  exact cok_of_den (E := E16) (fn := Try.f16) (code := Try.f16.body.getD .skip) (hn := H16) (gr := []) (is := [.tmp 4]) ⟨tabOk, (fun c hc => by simp only [E16, List.mem_cons, List.not_mem_nil, or_false] at hc; rcases hc with rfl <;> assumption), mixOk⟩ ⟨by kernel_rfl, by kernel_rfl, by kernel_rfl, by kernel_rfl, by kernel_rfl, by decide, by kernel_rfl⟩ (fun x y h => (congrFun d16 x).trans h)

/-- laws.FnExactPlanText -/
noncomputable def C4 : Cal := ⟨4, [⟨.ro, .list 23 (.pair (.int .i64) (.pair (.int .i64) (.pair (.int .i64) (.pair (.int .i64) (.pair (.int .i64) (.pair (.str) (.str)))))))⟩], [⟨.bool, .ro⟩], fun x => laws_FnExactPlanText x.1⟩
def H4 : Hn := .z
noncomputable def E4 : Env := ⟨tab, [C12, C14, C13, C15, C16], 1, 27⟩
theorem d4 : (fun (x : HL (pts C4.ps)) => den E4 (Try.f4.body.getD .skip) H4 (initS 27 C4.ps x) (retK tab [] C4.ps C4.rs [.tmp 2]) (fun _ _ => none) (retK tab [] C4.ps C4.rs [.tmp 2])) = C4.F := by kernel_rfl
theorem c4 : Cok Try.prog C4 := by
  have h12 := c12
  have h14 := c14
  have h13 := c13
  have h15 := c15
  have h16 := c16
  exact cok_of_den (E := E4) (fn := Try.f4) (code := Try.f4.body.getD .skip) (hn := H4) (gr := []) (is := [.tmp 2]) ⟨tabOk, (fun c hc => by simp only [E4, List.mem_cons, List.not_mem_nil, or_false] at hc; rcases hc with rfl | rfl | rfl | rfl | rfl <;> assumption), mixOk⟩ ⟨by kernel_rfl, by kernel_rfl, by kernel_rfl, by kernel_rfl, by kernel_rfl, by decide, by kernel_rfl⟩ (fun x y h => (congrFun d4 x).trans h)

/-- laws.szIntS -/
noncomputable def C33 : Cal := ⟨33, [⟨.ro, .list 3 (.int .i64)⟩, ⟨.ro, .int .i64⟩], [⟨.int .i64, .ro⟩], fun x => laws_szIntS x.1 x.2.1⟩
def H33 : Hn := .z
noncomputable def E33 : Env := ⟨tab, [], 2, 12⟩
theorem d33 : (fun (x : HL (pts C33.ps)) => den E33 (Try.f33.body.getD .skip) H33 (initS 12 C33.ps x) (retK tab [] C33.ps C33.rs [.tmp 4]) (fun _ _ => none) (retK tab [] C33.ps C33.rs [.tmp 4])) = C33.F := by kernel_rfl
theorem c33 : Cok Try.prog C33 := by
  exact cok_of_den (E := E33) (fn := Try.f33) (code := Try.f33.body.getD .skip) (hn := H33) (gr := []) (is := [.tmp 4]) ⟨tabOk, (fun c hc => by cases hc), mixOk⟩ ⟨by kernel_rfl, by kernel_rfl, by kernel_rfl, by kernel_rfl, by kernel_rfl, by decide, by kernel_rfl⟩ (fun x y h => (congrFun d33 x).trans h)

/-- laws.szIns -/
noncomputable def C46 : Cal := ⟨46, [⟨.ro, .pair (.int .i64) (.pair (.int .i64) (.pair (.int .i64) (.pair (.int .i64) (.pair (.int .i64) (.pair (.str) (.list 3 (.int .i64)))))))⟩, ⟨.ro, .int .i64⟩], [⟨.int .i64, .ro⟩], fun x => laws_szIns x.1 x.2.1⟩
def H46 : Hn := (.n ⟨[], [], none, false, []⟩ (.n ⟨[], [], none, false, [(0, ⟨[], .pr (.ro) (.pr (.ro) (.pr (.ro) (.pr (.ro) (.pr (.ro) (.pr (.ro) (.own (.ro))))))), [], [], none⟩)]⟩ .z .z) .z)
noncomputable def E46 : Env := ⟨tab, [C33], 2, 19⟩
theorem d46 : (fun (x : HL (pts C46.ps)) => den E46 (Try.f46.body.getD .skip) H46 (initS 19 C46.ps x) (retK tab [] C46.ps C46.rs [.tmp 4]) (fun _ _ => none) (retK tab [] C46.ps C46.rs [.tmp 4])) = C46.F := by kernel_rfl
theorem c46 : Cok Try.prog C46 := by
  have h33 := c33
  exact cok_of_den (E := E46) (fn := Try.f46) (code := Try.f46.body.getD .skip) (hn := H46) (gr := []) (is := [.tmp 4]) ⟨tabOk, (fun c hc => by simp only [E46, List.mem_cons, List.not_mem_nil, or_false] at hc; rcases hc with rfl <;> assumption), mixOk⟩ ⟨by kernel_rfl, by kernel_rfl, by kernel_rfl, by kernel_rfl, by kernel_rfl, by decide, by kernel_rfl⟩ (fun x y h => (congrFun d46 x).trans h)

/-- laws.szInsS -/
noncomputable def C34 : Cal := ⟨34, [⟨.ro, .list 80 (.pair (.int .i64) (.pair (.int .i64) (.pair (.int .i64) (.pair (.int .i64) (.pair (.int .i64) (.pair (.str) (.list 3 (.int .i64))))))))⟩, ⟨.ro, .int .i64⟩], [⟨.int .i64, .ro⟩], fun x => laws_szInsS x.1 x.2.1⟩
def H34 : Hn := (.n ⟨[], [], none, false, []⟩ .z (.n ⟨[], [], none, false, []⟩ .z (.n ⟨[], [], none, false, []⟩ .z (.n ⟨[], [], none, false, []⟩ (.n ⟨[], [], none, false, []⟩ .z (.n ⟨[], [], (some ⟨[.snp 1 (.int .i64) []], [], []⟩), true, []⟩ (.n ⟨[], [], (some ⟨[.snp 0 (.list 80 (.pair (.int .i64) (.pair (.int .i64) (.pair (.int .i64) (.pair (.int .i64) (.pair (.int .i64) (.pair (.str) (.list 3 (.int .i64))))))))) [], .snp 1 (.int .i64) [], .snp 5 (.int .i64) []], [], []⟩), false, []⟩ .z .z) .z)) .z))))
noncomputable def E34 : Env := ⟨tab, [C46], 2, 27⟩
theorem d34 : (fun (x : HL (pts C34.ps)) => den E34 (Try.f34.body.getD .skip) H34 (initS 27 C34.ps x) (retK tab [] C34.ps C34.rs [.tmp 4]) (fun _ _ => none) (retK tab [] C34.ps C34.rs [.tmp 4])) = C34.F := by kernel_rfl
theorem c34 : Cok Try.prog C34 := by
  have h46 := c46
  exact cok_of_den (E := E34) (fn := Try.f34) (code := Try.f34.body.getD .skip) (hn := H34) (gr := []) (is := [.tmp 4]) ⟨tabOk, (fun c hc => by simp only [E34, List.mem_cons, List.not_mem_nil, or_false] at hc; rcases hc with rfl <;> assumption), mixOk⟩ ⟨by kernel_rfl, by kernel_rfl, by kernel_rfl, by kernel_rfl, by kernel_rfl, by decide, by kernel_rfl⟩ (fun x y h => (congrFun d34 x).trans h)

/-- laws.szCode -/
noncomputable def C17 : Cal := ⟨17, [⟨.ro, .pair (.str) (.pair (.int .i64) (.pair (.list 3 (.int .i64)) (.list 80 (.pair (.int .i64) (.pair (.int .i64) (.pair (.int .i64) (.pair (.int .i64) (.pair (.int .i64) (.pair (.str) (.list 3 (.int .i64)))))))))))⟩, ⟨.ro, .int .i64⟩], [⟨.int .i64, .ro⟩], fun x => laws_szCode x.1 x.2.1⟩
def H17 : Hn := (.n ⟨[], [], none, false, []⟩ (.n ⟨[], [], none, false, [(0, ⟨[], .pr (.ro) (.pr (.ro) (.pr (.own (.ro)) (.own (.pr (.ro) (.pr (.ro) (.pr (.ro) (.pr (.ro) (.pr (.ro) (.pr (.ro) (.own (.ro))))))))))), [], [], none⟩)]⟩ .z .z) .z)
noncomputable def E17 : Env := ⟨tab, [C33, C34], 2, 25⟩
theorem d17 : (fun (x : HL (pts C17.ps)) => den E17 (Try.f17.body.getD .skip) H17 (initS 25 C17.ps x) (retK tab [] C17.ps C17.rs [.tmp 4]) (fun _ _ => none) (retK tab [] C17.ps C17.rs [.tmp 4])) = C17.F := by kernel_rfl
theorem c17 : Cok Try.prog C17 := by
  have h33 := c33
  have h34 := c34
  exact cok_of_den (E := E17) (fn := Try.f17) (code := Try.f17.body.getD .skip) (hn := H17) (gr := []) (is := [.tmp 4]) ⟨tabOk, (fun c hc => by simp only [E17, List.mem_cons, List.not_mem_nil, or_false] at hc; rcases hc with rfl | rfl <;> assumption), mixOk⟩ ⟨by kernel_rfl, by kernel_rfl, by kernel_rfl, by kernel_rfl, by kernel_rfl, by decide, by kernel_rfl⟩ (fun x y h => (congrFun d17 x).trans h)

/-- laws.toIntS -/
noncomputable def C35 : Cal := ⟨35, [⟨.ro, .list 3 (.int .i64)⟩], [⟨.list 3 (.int .i64), .own (.ro)⟩], fun x => laws_toIntS x.1⟩
def H35 : Hn := (.n ⟨[], [], none, false, []⟩ .z (.n ⟨[], [], none, false, []⟩ .z (.n ⟨[], [], none, false, []⟩ (.n ⟨[], [], none, false, []⟩ .z (.n ⟨[], [], (some ⟨[.dat 3 (.list 3 (.int .i64)) (.own (.ro))], [], []⟩), false, []⟩ (.n ⟨[3], [], (some ⟨[.snp 0 (.list 3 (.int .i64)) [], .dat 3 (.list 3 (.int .i64)) (.own (.ro)), .snp 4 (.int .i64) []], [], []⟩), false, []⟩ (.n ⟨[], [], none, false, []⟩ .z (.n ⟨[], [], none, false, []⟩ (.n ⟨[], [], none, false, []⟩ (.n ⟨[], [], none, false, [(7, ⟨[], .ro, [], [], some 6⟩)]⟩ .z .z) .z) .z)) .z) .z)) .z)))
noncomputable def E35 : Env := ⟨tab, [], 1, 22⟩
theorem d35 : (fun (x : HL (pts C35.ps)) => den E35 (Try.f35.body.getD .skip) H35 (initS 22 C35.ps x) (retK tab [2] C35.ps C35.rs [.tmp 2]) (fun _ _ => none) (retK tab [2] C35.ps C35.rs [.tmp 2])) = C35.F := by kernel_rfl
theorem c35 : Cok Try.prog C35 := by
  exact cok_of_den (E := E35) (fn := Try.f35) (code := Try.f35.body.getD .skip) (hn := H35) (gr := [2]) (is := [.tmp 2]) ⟨tabOk, (fun c hc => by cases hc), mixOk⟩ ⟨by kernel_rfl, by kernel_rfl, by kernel_rfl, by kernel_rfl, by kernel_rfl, by decide, by kernel_rfl⟩ (fun x y h => (congrFun d35 x).trans h)

/-- laws.toIns -/
noncomputable def C47 : Cal := ⟨47, [⟨.ro, .pair (.int .i64) (.pair (.int .i64) (.pair (.int .i64) (.pair (.int .i64) (.pair (.int .i64) (.pair (.str) (.list 3 (.int .i64)))))))⟩], [⟨.pair (.int .i64) (.pair (.int .i64) (.pair (.int .i64) (.pair (.int .i64) (.pair (.int .i64) (.pair (.str) (.list 3 (.int .i64))))))), .pr (.ro) (.pr (.ro) (.pr (.ro) (.pr (.ro) (.pr (.ro) (.pr (.ro) (.own (.ro)))))))⟩], fun x => laws_toIns x.1⟩
def H47 : Hn := (.n ⟨[], [], none, false, []⟩ (.n ⟨[], [], none, false, [(0, ⟨[], .pr (.ro) (.pr (.ro) (.pr (.ro) (.pr (.ro) (.pr (.ro) (.pr (.ro) (.own (.ro))))))), [], [], none⟩), (1, ⟨[], .pr (.ro) (.pr (.ro) (.pr (.ro) (.pr (.ro) (.pr (.ro) (.pr (.ro) (.own (.ro))))))), [], [], none⟩)]⟩ .z .z) (.n ⟨[], [], none, false, []⟩ (.n ⟨[], [], none, false, [(0, ⟨[], .pr (.ro) (.pr (.ro) (.pr (.ro) (.pr (.ro) (.pr (.ro) (.pr (.ro) (.own (.ro))))))), [], [], none⟩)]⟩ .z .z) (.n ⟨[], [], none, false, []⟩ .z (.n ⟨[], [], none, false, []⟩ .z (.n ⟨[], [], none, false, []⟩ .z (.n ⟨[], [], none, false, []⟩ .z (.n ⟨[], [], none, false, []⟩ .z (.n ⟨[], [], none, false, []⟩ .z (.n ⟨[], [], none, false, []⟩ (.n ⟨[], [], none, false, [(4, ⟨[], .own (.ro), [], [], none⟩)]⟩ .z .z) (.n ⟨[], [], none, false, []⟩ (.n ⟨[], [], none, false, [(1, ⟨[26], .pr (.ro) (.pr (.ro) (.pr (.ro) (.pr (.ro) (.pr (.ro) (.pr (.ro) (.own (.ro))))))), [], [], none⟩)]⟩ .z .z) .z))))))))))
noncomputable def E47 : Env := ⟨tab, [C35], 1, 27⟩
theorem d47 : (fun (x : HL (pts C47.ps)) => den E47 (Try.f47.body.getD .skip) H47 (initS 27 C47.ps x) (retK tab [] C47.ps C47.rs [.cell 2 64]) (fun _ _ => none) (retK tab [] C47.ps C47.rs [.cell 2 64])) = C47.F := by kernel_rfl
theorem c47 : Cok Try.prog C47 := by
  have h35 := c35
  exact cok_of_den (E := E47) (fn := Try.f47) (code := Try.f47.body.getD .skip) (hn := H47) (gr := []) (is := [.cell 2 64]) ⟨tabOk, (fun c hc => by simp only [E47, List.mem_cons, List.not_mem_nil, or_false] at hc; rcases hc with rfl <;> assumption), mixOk⟩ ⟨by kernel_rfl, by kernel_rfl, by kernel_rfl, by kernel_rfl, by kernel_rfl, by decide, by kernel_rfl⟩ (fun x y h => (congrFun d47 x).trans h)

/-- laws.toInsS -/
noncomputable def C36 : Cal := ⟨36, [⟨.ro, .list 80 (.pair (.int .i64) (.pair (.int .i64) (.pair (.int .i64) (.pair (.int .i64) (.pair (.int .i64) (.pair (.str) (.list 3 (.int .i64))))))))⟩], [⟨.list 64 (.pair (.int .i64) (.pair (.int .i64) (.pair (.int .i64) (.pair (.int .i64) (.pair (.int .i64) (.pair (.str) (.list 3 (.int .i64)))))))), .own (.pr (.ro) (.pr (.ro) (.pr (.ro) (.pr (.ro) (.pr (.ro) (.pr (.ro) (.own (.ro))))))))⟩], fun x => laws_toInsS x.1⟩
def H36 : Hn := (.n ⟨[], [], none, false, []⟩ .z (.n ⟨[], [], none, false, []⟩ (.n ⟨[], [], none, false, [(2, ⟨[], .pr (.ro) (.pr (.ro) (.pr (.ro) (.pr (.ro) (.pr (.ro) (.pr (.ro) (.own (.ro))))))), [], [], none⟩)]⟩ .z .z) (.n ⟨[], [], none, false, []⟩ (.n ⟨[], [], none, false, []⟩ .z (.n ⟨[], [], (some ⟨[.dat 3 (.list 64 (.pair (.int .i64) (.pair (.int .i64) (.pair (.int .i64) (.pair (.int .i64) (.pair (.int .i64) (.pair (.str) (.list 3 (.int .i64))))))))) (.own (.pr (.ro) (.pr (.ro) (.pr (.ro) (.pr (.ro) (.pr (.ro) (.pr (.ro) (.own (.ro)))))))))], [], []⟩), false, []⟩ (.n ⟨[3], [], (some ⟨[.snp 0 (.list 80 (.pair (.int .i64) (.pair (.int .i64) (.pair (.int .i64) (.pair (.int .i64) (.pair (.int .i64) (.pair (.str) (.list 3 (.int .i64))))))))) [], .dat 3 (.list 64 (.pair (.int .i64) (.pair (.int .i64) (.pair (.int .i64) (.pair (.int .i64) (.pair (.int .i64) (.pair (.str) (.list 3 (.int .i64))))))))) (.own (.pr (.ro) (.pr (.ro) (.pr (.ro) (.pr (.ro) (.pr (.ro) (.pr (.ro) (.own (.ro))))))))), .snp 4 (.int .i64) []], [], []⟩), false, []⟩ (.n ⟨[], [], none, false, []⟩ .z (.n ⟨[], [], none, false, []⟩ (.n ⟨[], [], none, false, []⟩ (.n ⟨[], [], none, false, [(8, ⟨[], .pr (.ro) (.pr (.ro) (.pr (.ro) (.pr (.ro) (.pr (.ro) (.pr (.ro) (.own (.ro))))))), [], [], some 6⟩)]⟩ .z .z) .z) .z)) .z) .z)) .z)))
noncomputable def E36 : Env := ⟨tab, [C47], 1, 23⟩
theorem d36 : (fun (x : HL (pts C36.ps)) => den E36 (Try.f36.body.getD .skip) H36 (initS 23 C36.ps x) (retK tab [2] C36.ps C36.rs [.tmp 2]) (fun _ _ => none) (retK tab [2] C36.ps C36.rs [.tmp 2])) = C36.F := by kernel_rfl
theorem c36 : Cok Try.prog C36 := by
  have h47 := c47
  exact cok_of_den (E := E36) (fn := Try.f36) (code := Try.f36.body.getD .skip) (hn := H36) (gr := [2]) (is := [.tmp 2]) ⟨tabOk, (fun c hc => by simp only [E36, List.mem_cons, List.not_mem_nil, or_false] at hc; rcases hc with rfl <;> assumption), mixOk⟩ ⟨by kernel_rfl, by kernel_rfl, by kernel_rfl, by kernel_rfl, by kernel_rfl, by decide, by kernel_rfl⟩ (fun x y h => (congrFun d36 x).trans h)

/-- laws.toCode -/
noncomputable def C19 : Cal := ⟨19, [⟨.ro, .pair (.str) (.pair (.int .i64) (.pair (.list 3 (.int .i64)) (.list 80 (.pair (.int .i64) (.pair (.int .i64) (.pair (.int .i64) (.pair (.int .i64) (.pair (.int .i64) (.pair (.str) (.list 3 (.int .i64)))))))))))⟩], [⟨.pair (.str) (.pair (.int .i64) (.pair (.list 3 (.int .i64)) (.list 64 (.pair (.int .i64) (.pair (.int .i64) (.pair (.int .i64) (.pair (.int .i64) (.pair (.int .i64) (.pair (.str) (.list 3 (.int .i64))))))))))), .pr (.ro) (.pr (.ro) (.pr (.own (.ro)) (.own (.pr (.ro) (.pr (.ro) (.pr (.ro) (.pr (.ro) (.pr (.ro) (.pr (.ro) (.own (.ro)))))))))))⟩], fun x => laws_toCode x.1⟩
def H19 : Hn := (.n ⟨[], [], none, false, []⟩ (.n ⟨[], [], none, false, [(0, ⟨[], .pr (.ro) (.pr (.ro) (.pr (.own (.ro)) (.own (.pr (.ro) (.pr (.ro) (.pr (.ro) (.pr (.ro) (.pr (.ro) (.pr (.ro) (.own (.ro))))))))))), [], [], none⟩), (1, ⟨[], .pr (.ro) (.pr (.ro) (.pr (.own (.ro)) (.own (.pr (.ro) (.pr (.ro) (.pr (.ro) (.pr (.ro) (.pr (.ro) (.pr (.ro) (.own (.ro))))))))))), [], [], none⟩)]⟩ .z .z) (.n ⟨[], [], none, false, []⟩ (.n ⟨[], [], none, false, [(0, ⟨[], .pr (.ro) (.pr (.ro) (.pr (.own (.ro)) (.own (.pr (.ro) (.pr (.ro) (.pr (.ro) (.pr (.ro) (.pr (.ro) (.pr (.ro) (.own (.ro))))))))))), [], [], none⟩)]⟩ .z .z) (.n ⟨[], [], none, false, []⟩ .z (.n ⟨[], [], none, false, []⟩ .z (.n ⟨[], [], none, false, []⟩ (.n ⟨[], [], none, false, [(4, ⟨[], .own (.ro), [], [], none⟩)]⟩ .z .z) (.n ⟨[], [], none, false, []⟩ (.n ⟨[], [], none, false, [(4, ⟨[], .own (.pr (.ro) (.pr (.ro) (.pr (.ro) (.pr (.ro) (.pr (.ro) (.pr (.ro) (.own (.ro)))))))), [], [], none⟩)]⟩ .z .z) (.n ⟨[], [], none, false, []⟩ (.n ⟨[], [], none, false, [(1, ⟨[18], .pr (.ro) (.pr (.ro) (.pr (.own (.ro)) (.own (.pr (.ro) (.pr (.ro) (.pr (.ro) (.pr (.ro) (.pr (.ro) (.pr (.ro) (.own (.ro))))))))))), [], [], none⟩)]⟩ .z .z) .z)))))))
noncomputable def E19 : Env := ⟨tab, [C35, C36], 1, 19⟩
theorem d19 : (fun (x : HL (pts C19.ps)) => den E19 (Try.f19.body.getD .skip) H19 (initS 19 C19.ps x) (retK tab [] C19.ps C19.rs [.cell 2 44]) (fun _ _ => none) (retK tab [] C19.ps C19.rs [.cell 2 44])) = C19.F := by kernel_rfl
theorem c19 : Cok Try.prog C19 := by
  have h35 := c35
  have h36 := c36
  exact cok_of_den (E := E19) (fn := Try.f19) (code := Try.f19.body.getD .skip) (hn := H19) (gr := []) (is := [.cell 2 44]) ⟨tabOk, (fun c hc => by simp only [E19, List.mem_cons, List.not_mem_nil, or_false] at hc; rcases hc with rfl | rfl <;> assumption), mixOk⟩ ⟨by kernel_rfl, by kernel_rfl, by kernel_rfl, by kernel_rfl, by kernel_rfl, by decide, by kernel_rfl⟩ (fun x y h => (congrFun d19 x).trans h)

/-- spec.JumpsIn -/
noncomputable def C18 : Cal := ⟨18, [⟨.ro, .pair (.str) (.pair (.int .i64) (.pair (.list 3 (.int .i64)) (.list 64 (.pair (.int .i64) (.pair (.int .i64) (.pair (.int .i64) (.pair (.int .i64) (.pair (.int .i64) (.pair (.str) (.list 3 (.int .i64)))))))))))⟩], [⟨.int .i64, .ro⟩], fun x => spec_JumpsIn x.1⟩
def H18 : Hn := (.n ⟨[], [], none, false, []⟩ (.n ⟨[], [], none, false, [(0, ⟨[], .pr (.ro) (.pr (.ro) (.pr (.own (.ro)) (.own (.pr (.ro) (.pr (.ro) (.pr (.ro) (.pr (.ro) (.pr (.ro) (.pr (.ro) (.own (.ro))))))))))), [], [], none⟩)]⟩ .z .z) (.n ⟨[], [], none, false, []⟩ .z (.n ⟨[], [], none, false, []⟩ (.n ⟨[], [], none, false, []⟩ .z (.n ⟨[], [], (some ⟨[.snp 3 (.int .i64) []], [], []⟩), false, []⟩ (.n ⟨[], [], (some ⟨[.snp 3 (.int .i64) [], .snp 4 (.int .i64) [], .box 1 true (.pair (.str) (.pair (.int .i64) (.pair (.list 3 (.int .i64)) (.list 64 (.pair (.int .i64) (.pair (.int .i64) (.pair (.int .i64) (.pair (.int .i64) (.pair (.int .i64) (.pair (.str) (.list 3 (.int .i64)))))))))))) (.ro)], [(1, ⟨3, []⟩)], []⟩), false, []⟩ (.n ⟨[], [], none, false, []⟩ .z (.n ⟨[], [], none, false, []⟩ (.n ⟨[], [], none, false, []⟩ (.n ⟨[], [], none, false, []⟩ .z (.n ⟨[], [], (some ⟨[.snp 3 (.int .i64) [], .snp 4 (.int .i64) [], .box 1 true (.pair (.str) (.pair (.int .i64) (.pair (.list 3 (.int .i64)) (.list 64 (.pair (.int .i64) (.pair (.int .i64) (.pair (.int .i64) (.pair (.int .i64) (.pair (.int .i64) (.pair (.str) (.list 3 (.int .i64)))))))))))) (.ro)], [(1, ⟨3, []⟩)], []⟩), false, []⟩ .z .z)) .z) .z)) .z) .z)) .z)))
noncomputable def E18 : Env := ⟨tab, [], 1, 22⟩
theorem d18 : (fun (x : HL (pts C18.ps)) => den E18 (Try.f18.body.getD .skip) H18 (initS 22 C18.ps x) (retK tab [] C18.ps C18.rs [.tmp 2]) (fun _ _ => none) (retK tab [] C18.ps C18.rs [.tmp 2])) = C18.F := by kernel_rfl
theorem c18 : Cok Try.prog C18 := by
  exact cok_of_den (E := E18) (fn := Try.f18) (code := Try.f18.body.getD .skip) (hn := H18) (gr := []) (is := [.tmp 2]) ⟨tabOk, (fun c hc => by cases hc), mixOk⟩ ⟨by kernel_rfl, by kernel_rfl, by kernel_rfl, by kernel_rfl, by kernel_rfl, by decide, by kernel_rfl⟩ (fun x y h => (congrFun d18 x).trans h)

/-- impl.JumpsIn -/
noncomputable def C20 : Cal := ⟨20, [⟨.ro, .pair (.str) (.pair (.int .i64) (.pair (.list 3 (.int .i64)) (.list 64 (.pair (.int .i64) (.pair (.int .i64) (.pair (.int .i64) (.pair (.int .i64) (.pair (.int .i64) (.pair (.str) (.list 3 (.int .i64)))))))))))⟩], [⟨.int .i64, .ro⟩], fun x => impl_JumpsIn x.1⟩
def H20 : Hn := (.n ⟨[], [], none, false, []⟩ (.n ⟨[], [], none, false, [(0, ⟨[], .pr (.ro) (.pr (.ro) (.pr (.own (.ro)) (.own (.pr (.ro) (.pr (.ro) (.pr (.ro) (.pr (.ro) (.pr (.ro) (.pr (.ro) (.own (.ro))))))))))), [], [], none⟩)]⟩ .z .z) (.n ⟨[], [], none, false, []⟩ .z (.n ⟨[], [], none, false, []⟩ (.n ⟨[], [], none, false, []⟩ .z (.n ⟨[], [], (some ⟨[.snp 3 (.int .i64) []], [], []⟩), false, []⟩ (.n ⟨[], [], (some ⟨[.snp 3 (.int .i64) [], .snp 7 (.list 64 (.pair (.int .i64) (.pair (.int .i64) (.pair (.int .i64) (.pair (.int .i64) (.pair (.int .i64) (.pair (.str) (.list 3 (.int .i64))))))))) [], .snp 8 (.int .i64) [], .snp 9 (.int .i64) []], [], []⟩), false, []⟩ (.n ⟨[], [], none, false, []⟩ .z (.n ⟨[], [], none, false, []⟩ .z (.n ⟨[], [], none, false, []⟩ (.n ⟨[], [], none, false, []⟩ (.n ⟨[], [], none, false, []⟩ (.n ⟨[], [], none, false, [(2, ⟨[], .pr (.ro) (.pr (.ro) (.pr (.ro) (.pr (.ro) (.pr (.ro) (.pr (.ro) (.own (.ro))))))), [], [], none⟩), (3, ⟨[], .pr (.ro) (.pr (.ro) (.pr (.ro) (.pr (.ro) (.pr (.ro) (.pr (.ro) (.own (.ro))))))), [], [], none⟩)]⟩ .z .z) (.n ⟨[], [], none, false, []⟩ .z (.n ⟨[], [], (some ⟨[.snp 3 (.int .i64) [], .snp 7 (.list 64 (.pair (.int .i64) (.pair (.int .i64) (.pair (.int .i64) (.pair (.int .i64) (.pair (.int .i64) (.pair (.str) (.list 3 (.int .i64))))))))) [], .snp 8 (.int .i64) [], .snp 9 (.int .i64) []], [], []⟩), false, []⟩ .z .z))) .z) .z))) .z) .z)) .z)))
noncomputable def E20 : Env := ⟨tab, [], 1, 20⟩
theorem d20 : (fun (x : HL (pts C20.ps)) => den E20 (Try.f20.body.getD .skip) H20 (initS 20 C20.ps x) (retK tab [] C20.ps C20.rs [.tmp 2]) (fun _ _ => none) (retK tab [] C20.ps C20.rs [.tmp 2])) = C20.F := by kernel_rfl
theorem c20 : Cok Try.prog C20 := by
  exact cok_of_den (E := E20) (fn := Try.f20) (code := Try.f20.body.getD .skip) (hn := H20) (gr := []) (is := [.tmp 2]) ⟨tabOk, (fun c hc => by cases hc), mixOk⟩ ⟨by kernel_rfl, by kernel_rfl, by kernel_rfl, by kernel_rfl, by kernel_rfl, by decide, by kernel_rfl⟩ (fun x y h => (congrFun d20 x).trans h)

/-- laws.eqIntS -/
noncomputable def C37 : Cal := ⟨37, [⟨.ro, .list 3 (.int .i64)⟩, ⟨.ro, .list 3 (.int .i64)⟩], [⟨.bool, .ro⟩], fun x => laws_eqIntS x.1 x.2.1⟩
def H37 : Hn := (.n ⟨[], [], none, false, []⟩ .z (.n ⟨[], [], none, false, []⟩ .z (.n ⟨[], [], none, false, []⟩ (.n ⟨[], [], none, false, []⟩ .z (.n ⟨[], [], (some ⟨[], [], []⟩), true, []⟩ (.n ⟨[], [], (some ⟨[.snp 0 (.list 3 (.int .i64)) [], .snp 1 (.list 3 (.int .i64)) [], .snp 5 (.int .i64) []], [], []⟩), false, []⟩ (.n ⟨[], [], none, false, []⟩ .z (.n ⟨[], [], none, false, []⟩ (.n ⟨[], [], none, false, []⟩ (.n ⟨[], [], none, false, []⟩ (.n ⟨[], [], none, false, [(0, ⟨[], .ro, [17], [], none⟩), (1, ⟨[], .ro, [18], [], none⟩), (2, ⟨[], .ro, [19], [], none⟩), (3, ⟨[], .ro, [20], [], none⟩), (4, ⟨[], .ro, [21], [], none⟩), (5, ⟨[], .ro, [22], [], none⟩), (6, ⟨[], .ro, [23], [], none⟩), (7, ⟨[], .ro, [24], [], none⟩), (8, ⟨[], .ro, [25], [], none⟩)]⟩ .z .z) .z) .z) .z)) .z) .z)) .z)))
noncomputable def E37 : Env := ⟨tab, [], 2, 26⟩
theorem d37 : (fun (x : HL (pts C37.ps)) => den E37 (Try.f37.body.getD .skip) H37 (initS 26 C37.ps x) (retK tab [] C37.ps C37.rs [.tmp 4]) (fun _ _ => none) (retK tab [] C37.ps C37.rs [.tmp 4])) = C37.F := by kernel_rfl
theorem c37 : Cok Try.prog C37 := by
  exact cok_of_den (E := E37) (fn := Try.f37) (code := Try.f37.body.getD .skip) (hn := H37) (gr := []) (is := [.tmp 4]) ⟨tabOk, (fun c hc => by cases hc), mixOk⟩ ⟨by kernel_rfl, by kernel_rfl, by kernel_rfl, by kernel_rfl, by kernel_rfl, by decide, by kernel_rfl⟩ (fun x y h => (congrFun d37 x).trans h)

/-- laws.eqIns -/
noncomputable def C48 : Cal := ⟨48, [⟨.ro, .pair (.int .i64) (.pair (.int .i64) (.pair (.int .i64) (.pair (.int .i64) (.pair (.int .i64) (.pair (.str) (.list 3 (.int .i64)))))))⟩, ⟨.ro, .pair (.int .i64) (.pair (.int .i64) (.pair (.int .i64) (.pair (.int .i64) (.pair (.int .i64) (.pair (.str) (.list 3 (.int .i64)))))))⟩], [⟨.bool, .ro⟩], fun x => laws_eqIns x.1 x.2.1⟩
def H48 : Hn := (.n ⟨[], [], none, false, []⟩ (.n ⟨[], [], none, false, [(0, ⟨[], .pr (.ro) (.pr (.ro) (.pr (.ro) (.pr (.ro) (.pr (.ro) (.pr (.ro) (.own (.ro))))))), [], [], none⟩), (1, ⟨[], .pr (.ro) (.pr (.ro) (.pr (.ro) (.pr (.ro) (.pr (.ro) (.pr (.ro) (.own (.ro))))))), [], [], none⟩)]⟩ .z .z) .z)
noncomputable def E48 : Env := ⟨tab, [C37], 2, 41⟩
theorem d48 : (fun (x : HL (pts C48.ps)) => den E48 (Try.f48.body.getD .skip) H48 (initS 41 C48.ps x) (retK tab [] C48.ps C48.rs [.tmp 4]) (fun _ _ => none) (retK tab [] C48.ps C48.rs [.tmp 4])) = C48.F := by kernel_rfl
theorem c48 : Cok Try.prog C48 := by
  have h37 := c37
  exact cok_of_den (E := E48) (fn := Try.f48) (code := Try.f48.body.getD .skip) (hn := H48) (gr := []) (is := [.tmp 4]) ⟨tabOk, (fun c hc => by simp only [E48, List.mem_cons, List.not_mem_nil, or_false] at hc; rcases hc with rfl <;> assumption), mixOk⟩ ⟨by kernel_rfl, by kernel_rfl, by kernel_rfl, by kernel_rfl, by kernel_rfl, by decide, by kernel_rfl⟩ (fun x y h => (congrFun d48 x).trans h)

/-- laws.eqInsS -/
noncomputable def C38 : Cal := ⟨38, [⟨.ro, .list 64 (.pair (.int .i64) (.pair (.int .i64) (.pair (.int .i64) (.pair (.int .i64) (.pair (.int .i64) (.pair (.str) (.list 3 (.int .i64))))))))⟩, ⟨.ro, .list 64 (.pair (.int .i64) (.pair (.int .i64) (.pair (.int .i64) (.pair (.int .i64) (.pair (.int .i64) (.pair (.str) (.list 3 (.int .i64))))))))⟩], [⟨.bool, .ro⟩], fun x => laws_eqInsS x.1 x.2.1⟩
def H38 : Hn := (.n ⟨[], [], none, false, []⟩ .z (.n ⟨[], [], none, false, []⟩ .z (.n ⟨[], [], none, false, []⟩ (.n ⟨[], [], none, false, []⟩ .z (.n ⟨[], [], (some ⟨[], [], []⟩), true, []⟩ (.n ⟨[], [], (some ⟨[.snp 0 (.list 64 (.pair (.int .i64) (.pair (.int .i64) (.pair (.int .i64) (.pair (.int .i64) (.pair (.int .i64) (.pair (.str) (.list 3 (.int .i64))))))))) [], .snp 1 (.list 64 (.pair (.int .i64) (.pair (.int .i64) (.pair (.int .i64) (.pair (.int .i64) (.pair (.int .i64) (.pair (.str) (.list 3 (.int .i64))))))))) [], .snp 5 (.int .i64) []], [], []⟩), false, []⟩ (.n ⟨[], [], none, false, []⟩ .z (.n ⟨[], [], none, false, []⟩ (.n ⟨[], [], none, false, []⟩ (.n ⟨[], [], none, false, []⟩ (.n ⟨[], [], none, false, [(0, ⟨[], .ro, [17], [], none⟩), (1, ⟨[], .ro, [18], [], none⟩), (2, ⟨[], .ro, [19], [], none⟩), (3, ⟨[], .ro, [20], [], none⟩), (4, ⟨[], .ro, [21], [], none⟩), (5, ⟨[], .ro, [22], [], none⟩), (6, ⟨[], .ro, [23], [], none⟩), (7, ⟨[], .ro, [24], [], none⟩), (8, ⟨[], .ro, [25], [], none⟩), (9, ⟨[], .ro, [26], [], none⟩)]⟩ .z .z) .z) .z) .z)) .z) .z)) .z)))
noncomputable def E38 : Env := ⟨tab, [C48], 2, 27⟩
theorem d38 : (fun (x : HL (pts C38.ps)) => den E38 (Try.f38.body.getD .skip) H38 (initS 27 C38.ps x) (retK tab [] C38.ps C38.rs [.tmp 4]) (fun _ _ => none) (retK tab [] C38.ps C38.rs [.tmp 4])) = C38.F := by kernel_rfl
theorem c38 : Cok Try.prog C38 := by
  have h48 := c48
  exact cok_of_den (E := E38) (fn := Try.f38) (code := Try.f38.body.getD .skip) (hn := H38) (gr := []) (is := [.tmp 4]) ⟨tabOk, (fun c hc => by simp only [E38, List.mem_cons, List.not_mem_nil, or_false] at hc; rcases hc with rfl <;> assumption), mixOk⟩ ⟨by kernel_rfl, by kernel_rfl, by kernel_rfl, by kernel_rfl, by kernel_rfl, by decide, by kernel_rfl⟩ (fun x y h => (congrFun d38 x).trans h)

/-- laws.eqCode -/
noncomputable def C21 : Cal := ⟨21, [⟨.ro, .pair (.str) (.pair (.int .i64) (.pair (.list 3 (.int .i64)) (.list 64 (.pair (.int .i64) (.pair (.int .i64) (.pair (.int .i64) (.pair (.int .i64) (.pair (.int .i64) (.pair (.str) (.list 3 (.int .i64)))))))))))⟩, ⟨.ro, .pair (.str) (.pair (.int .i64) (.pair (.list 3 (.int .i64)) (.list 64 (.pair (.int .i64) (.pair (.int .i64) (.pair (.int .i64) (.pair (.int .i64) (.pair (.int .i64) (.pair (.str) (.list 3 (.int .i64)))))))))))⟩], [⟨.bool, .ro⟩], fun x => laws_eqCode x.1 x.2.1⟩
def H21 : Hn := (.n ⟨[], [], none, false, []⟩ (.n ⟨[], [], none, false, [(0, ⟨[], .pr (.ro) (.pr (.ro) (.pr (.own (.ro)) (.own (.pr (.ro) (.pr (.ro) (.pr (.ro) (.pr (.ro) (.pr (.ro) (.pr (.ro) (.own (.ro))))))))))), [], [], none⟩), (1, ⟨[], .pr (.ro) (.pr (.ro) (.pr (.own (.ro)) (.own (.pr (.ro) (.pr (.ro) (.pr (.ro) (.pr (.ro) (.pr (.ro) (.pr (.ro) (.own (.ro))))))))))), [], [], none⟩)]⟩ .z .z) .z)
noncomputable def E21 : Env := ⟨tab, [C37, C38], 2, 27⟩
theorem d21 : (fun (x : HL (pts C21.ps)) => den E21 (Try.f21.body.getD .skip) H21 (initS 27 C21.ps x) (retK tab [] C21.ps C21.rs [.tmp 4]) (fun _ _ => none) (retK tab [] C21.ps C21.rs [.tmp 4])) = C21.F := by kernel_rfl
theorem c21 : Cok Try.prog C21 := by
  have h37 := c37
  have h38 := c38
  exact cok_of_den (E := E21) (fn := Try.f21) (code := Try.f21.body.getD .skip) (hn := H21) (gr := []) (is := [.tmp 4]) ⟨tabOk, (fun c hc => by simp only [E21, List.mem_cons, List.not_mem_nil, or_false] at hc; rcases hc with rfl | rfl <;> assumption), mixOk⟩ ⟨by kernel_rfl, by kernel_rfl, by kernel_rfl, by kernel_rfl, by kernel_rfl, by decide, by kernel_rfl⟩ (fun x y h => (congrFun d21 x).trans h)

/-- laws.FnExactJumpsIn -/
noncomputable def C5 : Cal := ⟨5, [⟨.ro, .pair (.str) (.pair (.int .i64) (.pair (.list 3 (.int .i64)) (.list 80 (.pair (.int .i64) (.pair (.int .i64) (.pair (.int .i64) (.pair (.int .i64) (.pair (.int .i64) (.pair (.str) (.list 3 (.int .i64)))))))))))⟩], [⟨.bool, .ro⟩], fun x => laws_FnExactJumpsIn x.1⟩
def H5 : Hn := (.n ⟨[], [], none, false, []⟩ (.n ⟨[], [], none, false, [(0, ⟨[], .pr (.ro) (.pr (.ro) (.pr (.own (.ro)) (.own (.pr (.ro) (.pr (.ro) (.pr (.ro) (.pr (.ro) (.pr (.ro) (.pr (.ro) (.own (.ro))))))))))), [], [], none⟩)]⟩ .z .z) (.n ⟨[], [], none, false, []⟩ .z (.n ⟨[], [], none, false, []⟩ .z (.n ⟨[], [], none, false, []⟩ .z (.n ⟨[], [], none, false, []⟩ .z (.n ⟨[], [], none, false, []⟩ (.n ⟨[], [], none, false, [(2, ⟨[], .pr (.ro) (.pr (.ro) (.pr (.own (.ro)) (.own (.pr (.ro) (.pr (.ro) (.pr (.ro) (.pr (.ro) (.pr (.ro) (.pr (.ro) (.own (.ro))))))))))), [], [], none⟩), (3, ⟨[], .pr (.ro) (.pr (.ro) (.pr (.own (.ro)) (.own (.pr (.ro) (.pr (.ro) (.pr (.ro) (.pr (.ro) (.pr (.ro) (.pr (.ro) (.own (.ro))))))))))), [], [], none⟩)]⟩ .z .z) (.n ⟨[], [], none, false, []⟩ .z (.n ⟨[], [], none, false, []⟩ .z (.n ⟨[], [], none, false, []⟩ (.n ⟨[], [], none, false, []⟩ (.n ⟨[], [], none, false, [(0, ⟨[], .ro, [22], [], none⟩), (1, ⟨[], .ro, [23], [], none⟩), (2, ⟨[], .ro, [24], [], none⟩), (3, ⟨[], .ro, [25], [], none⟩), (4, ⟨[], .ro, [26], [], none⟩)]⟩ .z .z) .z) .z)))))))))
noncomputable def E5 : Env := ⟨tab, [C17, C19, C18, C20, C21], 1, 27⟩
theorem d5 : (fun (x : HL (pts C5.ps)) => den E5 (Try.f5.body.getD .skip) H5 (initS 27 C5.ps x) (retK tab [] C5.ps C5.rs [.tmp 2]) (fun _ _ => none) (retK tab [] C5.ps C5.rs [.tmp 2])) = C5.F := by kernel_rfl
theorem c5 : Cok Try.prog C5 := by
  have h17 := c17
  have h19 := c19
  have h18 := c18
  have h20 := c20
  have h21 := c21
  exact cok_of_den (E := E5) (fn := Try.f5) (code := Try.f5.body.getD .skip) (hn := H5) (gr := []) (is := [.tmp 2]) ⟨tabOk, (fun c hc => by simp only [E5, List.mem_cons, List.not_mem_nil, or_false] at hc; rcases hc with rfl | rfl | rfl | rfl | rfl <;> assumption), mixOk⟩ ⟨by kernel_rfl, by kernel_rfl, by kernel_rfl, by kernel_rfl, by kernel_rfl, by decide, by kernel_rfl⟩ (fun x y h => (congrFun d5 x).trans h)

/-- spec.ReadVar -/
noncomputable def C39 : Cal := ⟨39, [⟨.ro, .str⟩, ⟨.ro, .int .i64⟩], [⟨.int .i64, .ro⟩, ⟨.int .i64, .ro⟩, ⟨.bool, .ro⟩], fun x => spec_ReadVar x.1 x.2.1⟩
def H39 : Hn := (.n ⟨[], [], none, false, []⟩ .z (.n ⟨[], [], none, false, []⟩ .z (.n ⟨[], [], none, false, []⟩ .z (.n ⟨[], [], none, false, []⟩ .z (.n ⟨[], [], none, false, []⟩ (.n ⟨[], [], none, false, []⟩ .z (.n ⟨[], [], (some ⟨[], [], []⟩), true, []⟩ (.n ⟨[], [], (some ⟨[.snp 0 (.str) [], .snp 1 (.int .i64) [], .snp 7 (.int .i64) [], .snp 8 (.int .i64) [], .snp 9 (.int .i64) []], [], []⟩), false, []⟩ (.n ⟨[], [], none, false, []⟩ (.n ⟨[], [], none, false, []⟩ (.n ⟨[], [], (some ⟨[.snp 0 (.str) [], .snp 1 (.int .i64) [], .snp 7 (.int .i64) [], .snp 8 (.int .i64) [], .snp 9 (.int .i64) [], .snp 25 (.bool) []], [], []⟩), false, []⟩ .z .z) .z) (.n ⟨[], [], none, false, []⟩ (.n ⟨[], [], none, false, []⟩ (.n ⟨[], [], none, false, []⟩ .z (.n ⟨[], [], none, false, []⟩ .z (.n ⟨[], [], none, false, []⟩ .z (.n ⟨[], [], none, false, []⟩ (.n ⟨[], [], none, false, []⟩ (.n ⟨[], [], none, false, []⟩ (.n ⟨[], [], (some ⟨[.snp 7 (.int .i64) [], .snp 9 (.int .i64) [], .snp 54 (.bool) []], [], []⟩), false, [(0, ⟨[], .ro, [43], [], none⟩), (1, ⟨[], .ro, [44], [], none⟩), (2, ⟨[], .ro, [45], [], none⟩), (3, ⟨[], .ro, [46], [], none⟩), (4, ⟨[], .ro, [47], [], none⟩), (5, ⟨[], .ro, [48], [], none⟩), (6, ⟨[], .ro, [49], [], none⟩), (7, ⟨[], .ro, [50], [], none⟩), (8, ⟨[], .ro, [51], [], none⟩), (9, ⟨[], .ro, [52], [], none⟩), (10, ⟨[], .ro, [53], [], none⟩), (11, ⟨[], .ro, [54], [], none⟩)]⟩ .z .z) .z) .z) .z)))) .z) .z)) .z) .z)) .z)))))
noncomputable def E39 : Env := ⟨tab, [C29, C30], 2, 58⟩
theorem d39 : (fun (x : HL (pts C39.ps)) => den E39 (Try.f39.body.getD .skip) H39 (initS 58 C39.ps x) (retK tab [] C39.ps C39.rs [.tmp 4, .tmp 5, .tmp 6]) (fun _ _ => none) (retK tab [] C39.ps C39.rs [.tmp 4, .tmp 5, .tmp 6])) = C39.F := by kernel_rfl
theorem c39 : Cok Try.prog C39 := by
  have h29 := c29
  have h30 := c30
  exact cok_of_den (E := E39) (fn := Try.f39) (code := Try.f39.body.getD .skip) (hn := H39) (gr := []) (is := [.tmp 4, .tmp 5, .tmp 6]) ⟨tabOk, (fun c hc => by simp only [E39, List.mem_cons, List.not_mem_nil, or_false] at hc; rcases hc with rfl | rfl <;> assumption), mixOk⟩ ⟨by kernel_rfl, by kernel_rfl, by kernel_rfl, by kernel_rfl, by kernel_rfl, by decide, by kernel_rfl⟩ (fun x y h => (congrFun d39 x).trans h)

/-- spec.ReadShort -/
noncomputable def C40 : Cal := ⟨40, [⟨.ro, .str⟩, ⟨.ro, .int .i64⟩], [⟨.str, .ro⟩, ⟨.int .i64, .ro⟩, ⟨.bool, .ro⟩], fun x => spec_ReadShort x.1 x.2.1⟩
def H40 : Hn := (.n ⟨[], [], none, false, []⟩ .z (.n ⟨[], [], none, false, []⟩ .z (.n ⟨[], [], none, false, []⟩ (.n ⟨[], [], none, false, []⟩ (.n ⟨[], [], (some ⟨[.snp 0 (.str) [], .snp 7 (.int .i64) [], .snp 8 (.int .i64) [], .snp 30 (.bool) []], [], []⟩), false, []⟩ .z .z) .z) .z)))
noncomputable def E40 : Env := ⟨tab, [C39], 2, 40⟩
theorem d40 : (fun (x : HL (pts C40.ps)) => den E40 (Try.f40.body.getD .skip) H40 (initS 40 C40.ps x) (retK tab [] C40.ps C40.rs [.tmp 4, .tmp 5, .tmp 6]) (fun _ _ => none) (retK tab [] C40.ps C40.rs [.tmp 4, .tmp 5, .tmp 6])) = C40.F := by kernel_rfl
theorem c40 : Cok Try.prog C40 := by
  have h39 := c39
  exact cok_of_den (E := E40) (fn := Try.f40) (code := Try.f40.body.getD .skip) (hn := H40) (gr := []) (is := [.tmp 4, .tmp 5, .tmp 6]) ⟨tabOk, (fun c hc => by simp only [E40, List.mem_cons, List.not_mem_nil, or_false] at hc; rcases hc with rfl <;> assumption), mixOk⟩ ⟨by kernel_rfl, by kernel_rfl, by kernel_rfl, by kernel_rfl, by kernel_rfl, by decide, by kernel_rfl⟩ (fun x y h => (congrFun d40 x).trans h)

/-- spec.ReadWish -/
noncomputable def C22 : Cal := ⟨22, [⟨.ro, .str⟩, ⟨.ro, .int .i64⟩], [⟨.pair (.int .i64) (.pair (.int .i64) (.pair (.int .i64) (.pair (.int .i64) (.pair (.int .i64) (.pair (.str) (.str)))))), .ro⟩, ⟨.int .i64, .ro⟩, ⟨.bool, .ro⟩], fun x => spec_ReadWish x.1 x.2.1⟩
def H22 : Hn := (.n ⟨[], [], none, false, []⟩ .z (.n ⟨[], [], none, false, []⟩ .z (.n ⟨[], [], none, false, []⟩ .z (.n ⟨[], [], none, false, []⟩ (.n ⟨[], [], none, false, []⟩ .z (.n ⟨[], [], (some ⟨[.snp 0 (.str) [], .snp 1 (.int .i64) [], .dat 7 (.list 3 (.int .i64)) (.own (.ro)), .snp 8 (.int .i64) [], .box 4 true (.pair (.int .i64) (.pair (.int .i64) (.pair (.int .i64) (.pair (.int .i64) (.pair (.int .i64) (.pair (.str) (.str))))))) (.ro)], [(4, ⟨9, []⟩)], []⟩), true, []⟩ (.n ⟨[7], [], (some ⟨[.snp 0 (.str) [], .snp 1 (.int .i64) [], .dat 7 (.list 3 (.int .i64)) (.own (.ro)), .snp 8 (.int .i64) [], .snp 9 (.int .i64) [], .box 4 true (.pair (.int .i64) (.pair (.int .i64) (.pair (.int .i64) (.pair (.int .i64) (.pair (.int .i64) (.pair (.str) (.str))))))) (.ro)], [(4, ⟨9, []⟩)], []⟩), false, []⟩ (.n ⟨[], [], none, false, []⟩ .z (.n ⟨[], [], none, false, []⟩ (.n ⟨[], [], none, false, []⟩ (.n ⟨[], [], none, false, []⟩ .z (.n ⟨[], [], none, false, []⟩ .z (.n ⟨[], [], none, false, []⟩ (.n ⟨[], [], none, false, [(3, ⟨[37], .ro, [], [], none⟩)]⟩ .z .z) .z))) .z) (.n ⟨[], [7], none, false, []⟩ .z .z))) .z) .z)) (.n ⟨[], [], none, false, []⟩ .z (.n ⟨[], [], none, false, []⟩ .z (.n ⟨[], [], none, false, []⟩ .z (.n ⟨[], [], none, false, []⟩ (.n ⟨[], [], none, false, [(0, ⟨[], .ro, [59], [], none⟩), (1, ⟨[], .ro, [60], [], none⟩), (2, ⟨[], .ro, [61], [], none⟩), (3, ⟨[], .ro, [62], [], none⟩), (4, ⟨[], .ro, [63], [], none⟩), (5, ⟨[], .ro, [64], [], none⟩), (6, ⟨[], .ro, [65], [], none⟩), (7, ⟨[], .ro, [66], [], none⟩), (8, ⟨[], .ro, [67], [], none⟩), (9, ⟨[], .ro, [68], [], none⟩), (10, ⟨[], .ro, [69], [], none⟩), (11, ⟨[], .ro, [70], [], none⟩), (12, ⟨[], .ro, [71], [], none⟩), (13, ⟨[], .ro, [72], [], none⟩), (14, ⟨[], .ro, [73], [], none⟩), (15, ⟨[], .ro, [74], [], none⟩), (16, ⟨[], .ro, [75], [], none⟩), (17, ⟨[], .ro, [76], [], none⟩), (18, ⟨[], .ro, [19], [19], none⟩), (19, ⟨[], .ro, [19], [19], none⟩)]⟩ .z .z) (.n ⟨[], [], none, false, []⟩ .z (.n ⟨[], [], none, false, []⟩ (.n ⟨[], [], none, false, []⟩ (.n ⟨[], [], (some ⟨[.snp 17 (.int .i64) [], .snp 92 (.bool) [], .box 4 true (.pair (.int .i64) (.pair (.int .i64) (.pair (.int .i64) (.pair (.int .i64) (.pair (.int .i64) (.pair (.str) (.str))))))) (.ro), .box 19 true (.pair (.int .i64) (.pair (.int .i64) (.pair (.int .i64) (.pair (.int .i64) (.pair (.int .i64) (.pair (.str) (.str))))))) (.ro)], [(4, ⟨9, []⟩), (19, ⟨39, []⟩)], []⟩), false, []⟩ .z .z) .z) .z))))))))))
noncomputable def E22 : Env := ⟨tab, [C39, C40, C9], 2, 96⟩
theorem d22 : (fun (x : HL (pts C22.ps)) => den E22 (Try.f22.body.getD .skip) H22 (initS 96 C22.ps x) (retK tab [] C22.ps C22.rs [.cell 4 26, .tmp 5, .tmp 6]) (fun _ _ => none) (retK tab [] C22.ps C22.rs [.cell 4 26, .tmp 5, .tmp 6])) = C22.F := by kernel_rfl
theorem c22 : Cok Try.prog C22 := by
  have h39 := c39
  have h40 := c40
  have h9 := c9
  exact cok_of_den (E := E22) (fn := Try.f22) (code := Try.f22.body.getD .skip) (hn := H22) (gr := []) (is := [.cell 4 26, .tmp 5, .tmp 6]) ⟨tabOk, (fun c hc => by simp only [E22, List.mem_cons, List.not_mem_nil, or_false] at hc; rcases hc with rfl | rfl | rfl <;> assumption), mixOk⟩ ⟨by kernel_rfl, by kernel_rfl, by kernel_rfl, by kernel_rfl, by kernel_rfl, by decide, by kernel_rfl⟩ (fun x y h => (congrFun d22 x).trans h)

/-- impl.ReadVar -/
noncomputable def C49 : Cal := ⟨49, [⟨.ro, .str⟩, ⟨.ro, .int .i64⟩], [⟨.int .i64, .ro⟩, ⟨.int .i64, .ro⟩, ⟨.bool, .ro⟩], fun x => impl_ReadVar x.1 x.2.1⟩
def H49 : Hn := (.n ⟨[], [], none, false, []⟩ .z (.n ⟨[], [], none, false, []⟩ .z (.n ⟨[], [], none, false, []⟩ .z (.n ⟨[], [], none, false, []⟩ (.n ⟨[], [], none, false, []⟩ .z (.n ⟨[], [], (some ⟨[], [], []⟩), true, []⟩ (.n ⟨[], [], (some ⟨[.snp 0 (.str) [], .snp 1 (.int .i64) [], .snp 7 (.int .i64) [], .snp 8 (.int .i64) []], [], []⟩), false, []⟩ (.n ⟨[], [], none, false, []⟩ (.n ⟨[], [], none, false, []⟩ (.n ⟨[], [], (some ⟨[.snp 0 (.str) [], .snp 1 (.int .i64) [], .snp 7 (.int .i64) [], .snp 8 (.int .i64) [], .snp 24 (.bool) []], [], []⟩), false, []⟩ .z .z) .z) (.n ⟨[], [], none, false, []⟩ (.n ⟨[], [], none, false, []⟩ (.n ⟨[], [], none, false, []⟩ .z (.n ⟨[], [], none, false, []⟩ .z (.n ⟨[], [], none, false, []⟩ .z (.n ⟨[], [], none, false, []⟩ (.n ⟨[], [], none, false, []⟩ (.n ⟨[], [], none, false, []⟩ (.n ⟨[], [], (some ⟨[.snp 1 (.int .i64) [], .snp 7 (.int .i64) [], .snp 8 (.int .i64) [], .snp 51 (.bool) []], [], []⟩), false, []⟩ .z .z) .z) .z) .z)))) .z) .z)) .z) .z)) .z))))
noncomputable def E49 : Env := ⟨tab, [C41], 2, 57⟩
theorem d49 : (fun (x : HL (pts C49.ps)) => den E49 (Try.f49.body.getD .skip) H49 (initS 57 C49.ps x) (retK tab [] C49.ps C49.rs [.tmp 4, .tmp 5, .tmp 6]) (fun _ _ => none) (retK tab [] C49.ps C49.rs [.tmp 4, .tmp 5, .tmp 6])) = C49.F := by kernel_rfl
theorem c49 : Cok Try.prog C49 := by
  have h41 := c41
  exact cok_of_den (E := E49) (fn := Try.f49) (code := Try.f49.body.getD .skip) (hn := H49) (gr := []) (is := [.tmp 4, .tmp 5, .tmp 6]) ⟨tabOk, (fun c hc => by simp only [E49, List.mem_cons, List.not_mem_nil, or_false] at hc; rcases hc with rfl <;> assumption), mixOk⟩ ⟨by kernel_rfl, by kernel_rfl, by kernel_rfl, by kernel_rfl, by kernel_rfl, by decide, by kernel_rfl⟩ (fun x y h => (congrFun d49 x).trans h)

/-- (*impl.fields).num -/
noncomputable def C42 : Cal := ⟨42, [⟨.ptr (.ro), .pair (.str) (.pair (.int .i64) (.bool))⟩], [⟨.int .i64, .ro⟩], fun x => impl_fields_num x.1⟩
def H42 : Hn := (.n ⟨[], [], none, false, []⟩ .z (.n ⟨[], [], none, false, []⟩ (.n ⟨[], [], none, false, [(0, ⟨[], .ro, [7], [], none⟩), (1, ⟨[], .ro, [8], [], none⟩), (2, ⟨[], .ro, [9], [], none⟩), (3, ⟨[], .ro, [10], [], none⟩), (4, ⟨[], .ro, [11], [], none⟩), (5, ⟨[], .ro, [12], [], none⟩), (6, ⟨[], .ro, [13], [], none⟩), (7, ⟨[], .ro, [14], [], none⟩), (8, ⟨[], .ro, [15], [], none⟩), (9, ⟨[], .ro, [6, 15], [], none⟩), (10, ⟨[], .ro, [16], [], none⟩), (11, ⟨[], .ro, [17], [], none⟩), (12, ⟨[], .ro, [18], [], none⟩), (13, ⟨[], .ro, [3], [], none⟩), (14, ⟨[], .ro, [4], [], none⟩), (15, ⟨[], .ro, [5], [], none⟩)]⟩ .z .z) .z))
noncomputable def E42 : Env := ⟨tab, [C49], 1, 29⟩
theorem d42 : (fun (x : HL (pts C42.ps)) => den E42 (Try.f42.body.getD .skip) H42 (initS 29 C42.ps x) (retK tab [] C42.ps C42.rs [.tmp 2]) (fun _ _ => none) (retK tab [] C42.ps C42.rs [.tmp 2])) = C42.F := by kernel_rfl
theorem c42 : Cok Try.prog C42 := by
  have h49 := c49
  exact cok_of_den (E := E42) (fn := Try.f42) (code := Try.f42.body.getD .skip) (hn := H42) (gr := []) (is := [.tmp 2]) ⟨tabOk, (fun c hc => by simp only [E42, List.mem_cons, List.not_mem_nil, or_false] at hc; rcases hc with rfl <;> assumption), mixOk⟩ ⟨by kernel_rfl, by kernel_rfl, by kernel_rfl, by kernel_rfl, by kernel_rfl, by decide, by kernel_rfl⟩ (fun x y h => (congrFun d42 x).trans h)

/-- impl.ReadShort -/
noncomputable def C50 : Cal := ⟨50, [⟨.ro, .str⟩, ⟨.ro, .int .i64⟩], [⟨.str, .ro⟩, ⟨.int .i64, .ro⟩, ⟨.bool, .ro⟩], fun x => impl_ReadShort x.1 x.2.1⟩
def H50 : Hn := (.n ⟨[], [], none, false, []⟩ .z (.n ⟨[], [], none, false, []⟩ .z (.n ⟨[], [], none, false, []⟩ (.n ⟨[], [], none, false, []⟩ (.n ⟨[], [], (some ⟨[.snp 0 (.str) [], .snp 7 (.int .i64) [], .snp 8 (.int .i64) [], .snp 30 (.bool) []], [], []⟩), false, []⟩ .z .z) .z) .z)))
noncomputable def E50 : Env := ⟨tab, [C49], 2, 40⟩
theorem d50 : (fun (x : HL (pts C50.ps)) => den E50 (Try.f50.body.getD .skip) H50 (initS 40 C50.ps x) (retK tab [] C50.ps C50.rs [.tmp 4, .tmp 5, .tmp 6]) (fun _ _ => none) (retK tab [] C50.ps C50.rs [.tmp 4, .tmp 5, .tmp 6])) = C50.F := by kernel_rfl
theorem c50 : Cok Try.prog C50 := by
  have h49 := c49
  exact cok_of_den (E := E50) (fn := Try.f50) (code := Try.f50.body.getD .skip) (hn := H50) (gr := []) (is := [.tmp 4, .tmp 5, .tmp 6]) ⟨tabOk, (fun c hc => by simp only [E50, List.mem_cons, List.not_mem_nil, or_false] at hc; rcases hc with rfl <;> assumption), mixOk⟩ ⟨by kernel_rfl, by kernel_rfl, by kernel_rfl, by kernel_rfl, by kernel_rfl, by decide, by kernel_rfl⟩ (fun x y h => (congrFun d50 x).trans h)

/-- (*impl.fields).short -/
noncomputable def C43 : Cal := ⟨43, [⟨.ptr (.ro), .pair (.str) (.pair (.int .i64) (.bool))⟩], [⟨.str, .ro⟩], fun x => impl_fields_short x.1⟩
def H43 : Hn := (.n ⟨[], [], none, false, []⟩ .z (.n ⟨[], [], none, false, []⟩ (.n ⟨[], [], none, false, [(0, ⟨[], .ro, [7], [], none⟩), (1, ⟨[], .ro, [8], [], none⟩), (2, ⟨[], .ro, [9], [], none⟩), (3, ⟨[], .ro, [10], [], none⟩), (4, ⟨[], .ro, [11], [], none⟩), (5, ⟨[], .ro, [12], [], none⟩), (6, ⟨[], .ro, [13], [], none⟩), (7, ⟨[], .ro, [14], [], none⟩), (8, ⟨[], .ro, [15], [], none⟩), (9, ⟨[], .ro, [6, 15], [], none⟩), (10, ⟨[], .ro, [16], [], none⟩), (11, ⟨[], .ro, [17], [], none⟩), (12, ⟨[], .ro, [18], [], none⟩), (13, ⟨[], .ro, [3], [], none⟩), (14, ⟨[], .ro, [4], [], none⟩), (15, ⟨[], .ro, [5], [], none⟩)]⟩ .z .z) .z))
noncomputable def E43 : Env := ⟨tab, [C50], 1, 29⟩
theorem d43 : (fun (x : HL (pts C43.ps)) => den E43 (Try.f43.body.getD .skip) H43 (initS 29 C43.ps x) (retK tab [] C43.ps C43.rs [.tmp 2]) (fun _ _ => none) (retK tab [] C43.ps C43.rs [.tmp 2])) = C43.F := by kernel_rfl
theorem c43 : Cok Try.prog C43 := by
  have h50 := c50
  exact cok_of_den (E := E43) (fn := Try.f43) (code := Try.f43.body.getD .skip) (hn := H43) (gr := []) (is := [.tmp 2]) ⟨tabOk, (fun c hc => by simp only [E43, List.mem_cons, List.not_mem_nil, or_false] at hc; rcases hc with rfl <;> assumption), mixOk⟩ ⟨by kernel_rfl, by kernel_rfl, by kernel_rfl, by kernel_rfl, by kernel_rfl, by decide, by kernel_rfl⟩ (fun x y h => (congrFun d43 x).trans h)

/-- impl.ReadWish -/
noncomputable def C23 : Cal := ⟨23, [⟨.ro, .str⟩, ⟨.ro, .int .i64⟩], [⟨.pair (.int .i64) (.pair (.int .i64) (.pair (.int .i64) (.pair (.int .i64) (.pair (.int .i64) (.pair (.str) (.str)))))), .ro⟩, ⟨.int .i64, .ro⟩, ⟨.bool, .ro⟩], fun x => impl_ReadWish x.1 x.2.1⟩
def H23 : Hn := (.n ⟨[], [], none, false, []⟩ .z (.n ⟨[], [], none, false, []⟩ .z (.n ⟨[], [], none, false, []⟩ .z (.n ⟨[], [], none, false, []⟩ .z (.n ⟨[], [], none, false, []⟩ .z (.n ⟨[], [], none, false, []⟩ .z (.n ⟨[], [], none, false, []⟩ .z (.n ⟨[], [], none, false, []⟩ .z (.n ⟨[], [], none, false, []⟩ .z (.n ⟨[], [], none, false, []⟩ .z (.n ⟨[], [], none, false, []⟩ .z (.n ⟨[], [], none, false, []⟩ (.n ⟨[], [], none, false, []⟩ (.n ⟨[], [], (some ⟨[.snp 48 (.bool) [], .box 4 true (.pair (.int .i64) (.pair (.int .i64) (.pair (.int .i64) (.pair (.int .i64) (.pair (.int .i64) (.pair (.str) (.str))))))) (.ro), .box 8 true (.pair (.int .i64) (.pair (.int .i64) (.pair (.int .i64) (.pair (.int .i64) (.pair (.int .i64) (.pair (.str) (.str))))))) (.ro), .box 18 true (.pair (.str) (.pair (.int .i64) (.bool))) (.ro)], [(4, ⟨9, []⟩), (7, ⟨37, []⟩), (8, ⟨17, []⟩)], []⟩), false, []⟩ .z .z) .z) (.n ⟨[], [], none, false, []⟩ (.n ⟨[], [], none, false, [(0, ⟨[], .ro, [50], [], none⟩), (1, ⟨[], .ro, [51], [], none⟩), (2, ⟨[], .ro, [52], [], none⟩), (3, ⟨[], .ro, [53], [], none⟩), (4, ⟨[], .ro, [54], [], none⟩), (5, ⟨[], .ro, [4], [4], none⟩), (6, ⟨[], .ro, [5], [], none⟩), (7, ⟨[], .ro, [6], [], none⟩)]⟩ .z .z) .z)))))))))))))
noncomputable def E23 : Env := ⟨tab, [C41, C42, C43, C11], 2, 55⟩
theorem d23 : (fun (x : HL (pts C23.ps)) => den E23 (Try.f23.body.getD .skip) H23 (initS 55 C23.ps x) (retK tab [] C23.ps C23.rs [.cell 4 26, .tmp 5, .tmp 6]) (fun _ _ => none) (retK tab [] C23.ps C23.rs [.cell 4 26, .tmp 5, .tmp 6])) = C23.F := by kernel_rfl
theorem c23 : Cok Try.prog C23 := by
  have h41 := c41
  have h42 := c42
  have h43 := c43
  have h11 := c11
  exact cok_of_den (E := E23) (fn := Try.f23) (code := Try.f23.body.getD .skip) (hn := H23) (gr := []) (is := [.cell 4 26, .tmp 5, .tmp 6]) ⟨tabOk, (fun c hc => by simp only [E23, List.mem_cons, List.not_mem_nil, or_false] at hc; rcases hc with rfl | rfl | rfl | rfl <;> assumption), mixOk⟩ ⟨by kernel_rfl, by kernel_rfl, by kernel_rfl, by kernel_rfl, by kernel_rfl, by decide, by kernel_rfl⟩ (fun x y h => (congrFun d23 x).trans h)

/-- laws.FnExactReadWish -/
noncomputable def C6 : Cal := ⟨6, [⟨.ro, .str⟩, ⟨.ro, .int .i64⟩], [⟨.bool, .ro⟩], fun x => laws_FnExactReadWish x.1 x.2.1⟩
def H6 : Hn := (.n ⟨[], [], none, false, []⟩ .z (.n ⟨[], [], none, false, []⟩ .z (.n ⟨[], [], none, false, []⟩ .z (.n ⟨[], [], none, false, []⟩ .z (.n ⟨[], [], none, false, []⟩ (.n ⟨[], [], none, false, []⟩ (.n ⟨[], [], (some ⟨[.snp 41 (.bool) []], [], []⟩), false, []⟩ .z .z) .z) .z)))))
noncomputable def E6 : Env := ⟨tab, [C22, C23, C24], 2, 42⟩
theorem d6 : (fun (x : HL (pts C6.ps)) => den E6 (Try.f6.body.getD .skip) H6 (initS 42 C6.ps x) (retK tab [] C6.ps C6.rs [.tmp 4]) (fun _ _ => none) (retK tab [] C6.ps C6.rs [.tmp 4])) = C6.F := by kernel_rfl
theorem c6 : Cok Try.prog C6 := by
  have h22 := c22
  have h23 := c23
  have h24 := c24
  exact cok_of_den (E := E6) (fn := Try.f6) (code := Try.f6.body.getD .skip) (hn := H6) (gr := []) (is := [.tmp 4]) ⟨tabOk, (fun c hc => by simp only [E6, List.mem_cons, List.not_mem_nil, or_false] at hc; rcases hc with rfl | rfl | rfl <;> assumption), mixOk⟩ ⟨by kernel_rfl, by kernel_rfl, by kernel_rfl, by kernel_rfl, by kernel_rfl, by decide, by kernel_rfl⟩ (fun x y h => (congrFun d6 x).trans h)

/-- spec.ReadPlan -/
noncomputable def C25 : Cal := ⟨25, [⟨.ro, .str⟩], [⟨.list 26 (.pair (.int .i64) (.pair (.int .i64) (.pair (.int .i64) (.pair (.int .i64) (.pair (.int .i64) (.pair (.str) (.str))))))), .own (.ro)⟩, ⟨.bool, .ro⟩], fun x => spec_ReadPlan x.1⟩
def H25 : Hn := (.n ⟨[], [], none, false, []⟩ .z (.n ⟨[], [], none, false, []⟩ .z (.n ⟨[], [], none, false, []⟩ .z (.n ⟨[], [], none, false, []⟩ (.n ⟨[], [], (some ⟨[.dat 4 (.list 26 (.pair (.int .i64) (.pair (.int .i64) (.pair (.int .i64) (.pair (.int .i64) (.pair (.int .i64) (.pair (.str) (.str)))))))) (.own (.ro))], [], []⟩), true, []⟩ (.n ⟨[4], [], (some ⟨[.snp 0 (.str) [], .dat 4 (.list 26 (.pair (.int .i64) (.pair (.int .i64) (.pair (.int .i64) (.pair (.int .i64) (.pair (.int .i64) (.pair (.str) (.str)))))))) (.own (.ro)), .snp 5 (.int .i64) []], [], []⟩), false, []⟩ (.n ⟨[], [], none, false, []⟩ .z (.n ⟨[], [], none, false, []⟩ (.n ⟨[], [], none, false, []⟩ .z (.n ⟨[], [], none, false, []⟩ (.n ⟨[], [], none, false, []⟩ (.n ⟨[], [], (some ⟨[.snp 0 (.str) [], .dat 4 (.list 26 (.pair (.int .i64) (.pair (.int .i64) (.pair (.int .i64) (.pair (.int .i64) (.pair (.int .i64) (.pair (.str) (.str)))))))) (.own (.ro)), .snp 7 (.int .i64) [], .snp 27 (.bool) [], .box 6 true (.pair (.int .i64) (.pair (.int .i64) (.pair (.int .i64) (.pair (.int .i64) (.pair (.int .i64) (.pair (.str) (.str))))))) (.ro)], [(6, ⟨13, []⟩)], []⟩), false, []⟩ .z .z) .z) (.n ⟨[], [], none, false, []⟩ (.n ⟨[], [], none, false, [(3, ⟨[29], .ro, [], [], none⟩)]⟩ .z .z) (.n ⟨[], [4], none, false, []⟩ .z .z)))) .z)) .z) .z) .z))))
noncomputable def E25 : Env := ⟨tab, [C22], 1, 35⟩
theorem d25 : (fun (x : HL (pts C25.ps)) => den E25 (Try.f25.body.getD .skip) H25 (initS 35 C25.ps x) (retK tab [2] C25.ps C25.rs [.tmp 2, .tmp 3]) (fun _ _ => none) (retK tab [2] C25.ps C25.rs [.tmp 2, .tmp 3])) = C25.F := by kernel_rfl
theorem c25 : Cok Try.prog C25 := by
  have h22 := c22
  exact cok_of_den (E := E25) (fn := Try.f25) (code := Try.f25.body.getD .skip) (hn := H25) (gr := [2]) (is := [.tmp 2, .tmp 3]) ⟨tabOk, (fun c hc => by simp only [E25, List.mem_cons, List.not_mem_nil, or_false] at hc; rcases hc with rfl <;> assumption), mixOk⟩ ⟨by kernel_rfl, by kernel_rfl, by kernel_rfl, by kernel_rfl, by kernel_rfl, by decide, by kernel_rfl⟩ (fun x y h => (congrFun d25 x).trans h)

/-- impl.ReadPlan -/
noncomputable def C26 : Cal := ⟨26, [⟨.ro, .str⟩], [⟨.list 26 (.pair (.int .i64) (.pair (.int .i64) (.pair (.int .i64) (.pair (.int .i64) (.pair (.int .i64) (.pair (.str) (.str))))))), .own (.ro)⟩, ⟨.bool, .ro⟩], fun x => impl_ReadPlan x.1⟩
def H26 : Hn := (.n ⟨[], [], none, false, []⟩ .z (.n ⟨[], [], none, false, []⟩ .z (.n ⟨[], [], none, false, []⟩ (.n ⟨[], [], none, false, []⟩ .z (.n ⟨[], [], (some ⟨[.dat 4 (.list 26 (.pair (.int .i64) (.pair (.int .i64) (.pair (.int .i64) (.pair (.int .i64) (.pair (.int .i64) (.pair (.str) (.str)))))))) (.own (.ro))], [], []⟩), true, []⟩ (.n ⟨[], [], (some ⟨[.snp 0 (.str) [], .dat 4 (.list 26 (.pair (.int .i64) (.pair (.int .i64) (.pair (.int .i64) (.pair (.int .i64) (.pair (.int .i64) (.pair (.str) (.str)))))))) (.own (.ro)), .snp 5 (.int .i64) []], [], []⟩), false, []⟩ (.n ⟨[], [], none, false, []⟩ .z (.n ⟨[], [], none, false, []⟩ (.n ⟨[], [], none, false, []⟩ .z (.n ⟨[], [], none, false, []⟩ (.n ⟨[], [], none, false, []⟩ (.n ⟨[], [], (some ⟨[.snp 0 (.str) [], .dat 4 (.list 26 (.pair (.int .i64) (.pair (.int .i64) (.pair (.int .i64) (.pair (.int .i64) (.pair (.int .i64) (.pair (.str) (.str)))))))) (.own (.ro)), .snp 7 (.int .i64) [], .snp 26 (.bool) [], .box 6 true (.pair (.int .i64) (.pair (.int .i64) (.pair (.int .i64) (.pair (.int .i64) (.pair (.int .i64) (.pair (.str) (.str))))))) (.ro)], [(6, ⟨13, []⟩)], []⟩), false, []⟩ .z .z) .z) (.n ⟨[], [], none, false, []⟩ (.n ⟨[], [], none, false, [(3, ⟨[27], .ro, [], [], none⟩)]⟩ .z .z) (.n ⟨[], [4], none, false, []⟩ .z .z)))) .z)) .z) .z)) .z)))
noncomputable def E26 : Env := ⟨tab, [C23], 1, 33⟩
theorem d26 : (fun (x : HL (pts C26.ps)) => den E26 (Try.f26.body.getD .skip) H26 (initS 33 C26.ps x) (retK tab [2] C26.ps C26.rs [.tmp 2, .tmp 3]) (fun _ _ => none) (retK tab [2] C26.ps C26.rs [.tmp 2, .tmp 3])) = C26.F := by kernel_rfl
theorem c26 : Cok Try.prog C26 := by
  have h23 := c23
  exact cok_of_den (E := E26) (fn := Try.f26) (code := Try.f26.body.getD .skip) (hn := H26) (gr := [2]) (is := [.tmp 2, .tmp 3]) ⟨tabOk, (fun c hc => by simp only [E26, List.mem_cons, List.not_mem_nil, or_false] at hc; rcases hc with rfl <;> assumption), mixOk⟩ ⟨by kernel_rfl, by kernel_rfl, by kernel_rfl, by kernel_rfl, by kernel_rfl, by decide, by kernel_rfl⟩ (fun x y h => (congrFun d26 x).trans h)

/-- laws.markText -/
noncomputable def C44 : Cal := ⟨44, [⟨.ro, .int .i64⟩], [⟨.str, .ro⟩], fun x => laws_markText x.1⟩
def H44 : Hn := (.n ⟨[], [], none, false, []⟩ .z (.n ⟨[], [], none, false, []⟩ .z (.n ⟨[], [], none, false, []⟩ .z (.n ⟨[], [], none, false, []⟩ (.n ⟨[], [], (some ⟨[.snp 3 (.str) []], [], []⟩), false, []⟩ (.n ⟨[], [], (some ⟨[.snp 0 (.int .i64) [], .snp 3 (.str) []], [], []⟩), false, []⟩ .z .z) .z) .z))))
noncomputable def E44 : Env := ⟨tab, [], 1, 20⟩
theorem d44 : (fun (x : HL (pts C44.ps)) => den E44 (Try.f44.body.getD .skip) H44 (initS 20 C44.ps x) (retK tab [] C44.ps C44.rs [.tmp 2]) (fun _ _ => none) (retK tab [] C44.ps C44.rs [.tmp 2])) = C44.F := by kernel_rfl
theorem c44 : Cok Try.prog C44 := by
  exact cok_of_den (E := E44) (fn := Try.f44) (code := Try.f44.body.getD .skip) (hn := H44) (gr := []) (is := [.tmp 2]) ⟨tabOk, (fun c hc => by cases hc), mixOk⟩ ⟨by kernel_rfl, by kernel_rfl, by kernel_rfl, by kernel_rfl, by kernel_rfl, by decide, by kernel_rfl⟩ (fun x y h => (congrFun d44 x).trans h)

/-- laws.markWishS -/
noncomputable def C27 : Cal := ⟨27, [⟨.inp (.own (.ro)), .list 26 (.pair (.int .i64) (.pair (.int .i64) (.pair (.int .i64) (.pair (.int .i64) (.pair (.int .i64) (.pair (.str) (.str)))))))⟩, ⟨.ro, .int .i64⟩], [⟨.int .i64, .ro⟩], fun x => laws_markWishS x.1 x.2.1⟩
def H27 : Hn := (.n ⟨[], [], none, false, []⟩ .z (.n ⟨[], [], none, false, []⟩ (.n ⟨[], [], none, false, []⟩ .z (.n ⟨[], [], (some ⟨[.snp 1 (.int .i64) [], .box 0 false (.list 26 (.pair (.int .i64) (.pair (.int .i64) (.pair (.int .i64) (.pair (.int .i64) (.pair (.int .i64) (.pair (.str) (.str)))))))) (.own (.ro))], [], []⟩), false, []⟩ (.n ⟨[], [], (some ⟨[.snp 1 (.int .i64) [], .snp 5 (.int .i64) [], .box 0 false (.list 26 (.pair (.int .i64) (.pair (.int .i64) (.pair (.int .i64) (.pair (.int .i64) (.pair (.int .i64) (.pair (.str) (.str)))))))) (.own (.ro))], [], [(0, 0)]⟩), false, []⟩ (.n ⟨[], [], none, false, []⟩ .z (.n ⟨[], [], none, false, []⟩ (.n ⟨[], [], none, false, []⟩ (.n ⟨[], [], none, false, []⟩ (.n ⟨[], [], none, false, [(5, ⟨[], .ro, [], [], some 1⟩)]⟩ .z .z) (.n ⟨[], [], none, false, []⟩ .z (.n ⟨[], [], none, false, []⟩ (.n ⟨[], [], none, false, [(5, ⟨[], .ro, [], [], some 1⟩)]⟩ .z .z) (.n ⟨[], [], none, false, []⟩ .z (.n ⟨[], [], none, false, []⟩ (.n ⟨[], [], none, false, [(5, ⟨[], .ro, [], [], some 1⟩)]⟩ .z .z) (.n ⟨[], [], none, false, []⟩ .z (.n ⟨[], [], none, false, []⟩ (.n ⟨[], [], none, false, [(5, ⟨[], .ro, [], [], some 1⟩)]⟩ .z .z) (.n ⟨[], [], none, false, []⟩ .z (.n ⟨[], [], none, false, []⟩ (.n ⟨[], [], none, false, [(5, ⟨[], .ro, [], [], some 1⟩)]⟩ .z .z) (.n ⟨[], [], none, false, []⟩ .z (.n ⟨[], [], none, false, []⟩ (.n ⟨[], [], none, false, [(6, ⟨[], .ro, [], [], some 1⟩)]⟩ .z .z) (.n ⟨[], [], none, false, []⟩ .z (.n ⟨[], [], none, false, []⟩ (.n ⟨[], [], none, false, [(6, ⟨[], .ro, [], [], some 1⟩)]⟩ .z .z) .z))))))))))))) .z) .z)) .z) .z)) .z))
noncomputable def E27 : Env := ⟨tab, [C44], 2, 64⟩
theorem d27 : (fun (x : HL (pts C27.ps)) => den E27 (Try.f27.body.getD .skip) H27 (initS 64 C27.ps x) (retK tab [] C27.ps C27.rs [.tmp 4]) (fun _ _ => none) (retK tab [] C27.ps C27.rs [.tmp 4])) = C27.F := by kernel_rfl
theorem c27 : Cok Try.prog C27 := by
  have h44 := c44
  exact cok_of_den (E := E27) (fn := Try.f27) (code := Try.f27.body.getD .skip) (hn := H27) (gr := []) (is := [.tmp 4]) ⟨tabOk, (fun c hc => by simp only [E27, List.mem_cons, List.not_mem_nil, or_false] at hc; rcases hc with rfl <;> assumption), mixOk⟩ ⟨by kernel_rfl, by kernel_rfl, by kernel_rfl, by kernel_rfl, by kernel_rfl, by decide, by kernel_rfl⟩ (fun x y h => (congrFun d27 x).trans h)

/-- laws.heldWishS -/
noncomputable def C28 : Cal := ⟨28, [⟨.ro, .list 26 (.pair (.int .i64) (.pair (.int .i64) (.pair (.int .i64) (.pair (.int .i64) (.pair (.int .i64) (.pair (.str) (.str)))))))⟩, ⟨.ro, .int .i64⟩], [⟨.int .i64, .ro⟩], fun x => laws_heldWishS x.1 x.2.1⟩
def H28 : Hn := (.n ⟨[], [], none, false, []⟩ .z (.n ⟨[], [], none, false, []⟩ (.n ⟨[], [], none, false, []⟩ .z (.n ⟨[], [], (some ⟨[.snp 1 (.int .i64) []], [], []⟩), true, []⟩ (.n ⟨[], [], (some ⟨[.snp 0 (.list 26 (.pair (.int .i64) (.pair (.int .i64) (.pair (.int .i64) (.pair (.int .i64) (.pair (.int .i64) (.pair (.str) (.str)))))))) [], .snp 1 (.int .i64) [], .snp 5 (.int .i64) []], [], []⟩), false, []⟩ (.n ⟨[], [], none, false, []⟩ .z (.n ⟨[], [], none, false, []⟩ (.n ⟨[], [], none, false, []⟩ (.n ⟨[], [], none, false, []⟩ .z (.n ⟨[], [], none, false, []⟩ .z (.n ⟨[], [], none, false, []⟩ .z (.n ⟨[], [], none, false, []⟩ .z (.n ⟨[], [], none, false, []⟩ .z (.n ⟨[], [], none, false, []⟩ .z (.n ⟨[], [], none, false, []⟩ .z (.n ⟨[], [], none, false, []⟩ .z (.n ⟨[], [], none, false, []⟩ .z (.n ⟨[], [], none, false, []⟩ .z (.n ⟨[], [], none, false, []⟩ (.n ⟨[], [], none, false, []⟩ (.n ⟨[], [], none, false, [(0, ⟨[], .ro, [57], [], none⟩), (1, ⟨[], .ro, [58], [], none⟩), (2, ⟨[], .ro, [59], [], none⟩), (3, ⟨[], .ro, [60], [], none⟩), (4, ⟨[], .ro, [61], [], none⟩), (5, ⟨[], .ro, [62], [], none⟩), (6, ⟨[], .ro, [63], [], none⟩), (7, ⟨[], .ro, [64], [], none⟩)]⟩ .z .z) .z) (.n ⟨[], [], none, false, []⟩ .z (.n ⟨[], [], none, false, []⟩ (.n ⟨[], [], none, false, []⟩ (.n ⟨[], [], none, false, [(0, ⟨[], .ro, [67], [], none⟩), (1, ⟨[], .ro, [68], [], none⟩), (2, ⟨[], .ro, [69], [], none⟩), (3, ⟨[], .ro, [70], [], none⟩), (4, ⟨[], .ro, [71], [], none⟩), (5, ⟨[], .ro, [72], [], none⟩), (6, ⟨[], .ro, [73], [], none⟩), (7, ⟨[], .ro, [74], [], none⟩)]⟩ .z .z) .z) .z))))))))))))) .z) .z)) .z) .z)) .z))
noncomputable def E28 : Env := ⟨tab, [C44], 2, 78⟩
theorem d28 : (fun (x : HL (pts C28.ps)) => den E28 (Try.f28.body.getD .skip) H28 (initS 78 C28.ps x) (retK tab [] C28.ps C28.rs [.tmp 4]) (fun _ _ => none) (retK tab [] C28.ps C28.rs [.tmp 4])) = C28.F := by kernel_rfl
theorem c28 : Cok Try.prog C28 := by
  have h44 := c44
  exact cok_of_den (E := E28) (fn := Try.f28) (code := Try.f28.body.getD .skip) (hn := H28) (gr := []) (is := [.tmp 4]) ⟨tabOk, (fun c hc => by simp only [E28, List.mem_cons, List.not_mem_nil, or_false] at hc; rcases hc with rfl <;> assumption), mixOk⟩ ⟨by kernel_rfl, by kernel_rfl, by kernel_rfl, by kernel_rfl, by kernel_rfl, by decide, by kernel_rfl⟩ (fun x y h => (congrFun d28 x).trans h)

/-- laws.FnExactReadPlan -/
noncomputable def C7 : Cal := ⟨7, [⟨.ro, .str⟩], [⟨.bool, .ro⟩], fun x => laws_FnExactReadPlan x.1⟩
def H7 : Hn := (.n ⟨[], [], none, false, []⟩ .z (.n ⟨[], [], none, false, []⟩ .z (.n ⟨[], [], none, false, []⟩ .z (.n ⟨[], [], none, false, []⟩ .z (.n ⟨[], [], none, false, []⟩ (.n ⟨[], [], none, false, []⟩ (.n ⟨[], [3, 5], (some ⟨[.snp 0 (.str) [], .dat 3 (.list 26 (.pair (.int .i64) (.pair (.int .i64) (.pair (.int .i64) (.pair (.int .i64) (.pair (.int .i64) (.pair (.str) (.str)))))))) (.own (.ro)), .snp 4 (.bool) [], .dat 5 (.list 26 (.pair (.int .i64) (.pair (.int .i64) (.pair (.int .i64) (.pair (.int .i64) (.pair (.int .i64) (.pair (.str) (.str)))))))) (.own (.ro)), .snp 32 (.bool) []], [], []⟩), false, []⟩ .z .z) .z) (.n ⟨[], [], none, false, []⟩ .z (.n ⟨[], [], none, false, []⟩ .z (.n ⟨[], [], none, false, []⟩ .z (.n ⟨[], [], none, false, []⟩ .z (.n ⟨[], [], none, false, []⟩ .z (.n ⟨[], [], none, false, []⟩ .z (.n ⟨[], [], none, false, []⟩ .z (.n ⟨[], [], none, false, []⟩ (.n ⟨[], [], none, false, []⟩ (.n ⟨[], [], (some ⟨[.dat 5 (.list 26 (.pair (.int .i64) (.pair (.int .i64) (.pair (.int .i64) (.pair (.int .i64) (.pair (.int .i64) (.pair (.str) (.str)))))))) (.own (.ro)), .snp 7 (.int .i64) [], .snp 57 (.bool) []], [], []⟩), false, []⟩ .z .z) .z) .z)))))))))))))
noncomputable def E7 : Env := ⟨tab, [C25, C26, C16, C27, C28], 1, 66⟩
theorem d7 : (fun (x : HL (pts C7.ps)) => den E7 (Try.f7.body.getD .skip) H7 (initS 66 C7.ps x) (retK tab [] C7.ps C7.rs [.tmp 2]) (fun _ _ => none) (retK tab [] C7.ps C7.rs [.tmp 2])) = C7.F := by kernel_rfl
theorem c7 : Cok Try.prog C7 := by
  have h25 := c25
  have h26 := c26
  have h16 := c16
  have h27 := c27
  have h28 := c28
  exact cok_of_den (E := E7) (fn := Try.f7) (code := Try.f7.body.getD .skip) (hn := H7) (gr := []) (is := [.tmp 2]) ⟨tabOk, (fun c hc => by simp only [E7, List.mem_cons, List.not_mem_nil, or_false] at hc; rcases hc with rfl | rfl | rfl | rfl | rfl <;> assumption), mixOk⟩ ⟨by kernel_rfl, by kernel_rfl, by kernel_rfl, by kernel_rfl, by kernel_rfl, by decide, by kernel_rfl⟩ (fun x y h => (congrFun d7 x).trans h)

end Go.Proofs.YtmpfjlolcmokbaaE

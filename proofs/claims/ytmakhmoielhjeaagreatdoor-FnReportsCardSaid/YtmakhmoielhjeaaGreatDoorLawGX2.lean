/- The functions of X reckon so (2). No condition. -/
import Derived.Test.YtmakhmoielhjeaaGreatDoorLawGX1
set_option linter.all false
namespace Go.Proofs.YtmakhmoielhjeaaGreatDoorE
set_option maxRecDepth 100000
set_option linter.all false
def P244:List Prm:=[⟨.ptr (.pr (.ro) (.pr (.ro) (.pr (.ro) (.pr (.ro) (.own (M7)))))),T4⟩]
def Q244:List Ret:=[⟨.int .i64,.ro⟩]
noncomputable def N244 (n:Nat):Cal:=⟨244,P244,Q244,fun x=>(R_spec_l05Read_value n).1 x.1,0⟩
def P283:List Prm:=[⟨.ptr (.pr (.ro) (.pr (.ro) (.pr (.ro) (.pr (.ro) (.own (M7)))))),T4⟩]
def Q283:List Ret:=[⟨.int .i64,.ro⟩]
noncomputable def N283 (n:Nat):Cal:=⟨283,P283,Q283,fun x=>(R_spec_l05Read_value n).2.1 x.1,0⟩
def P301:List Prm:=[⟨.ptr (.pr (.ro) (.pr (.ro) (.pr (.ro) (.pr (.ro) (.own (M7)))))),T4⟩]
def Q301:List Ret:=[⟨.int .i64,.ro⟩]
noncomputable def N301 (n:Nat):Cal:=⟨301,P301,Q301,fun x=>(R_spec_l05Read_value n).2.2.1 x.1,0⟩
def P306:List Prm:=[⟨.ptr (.pr (.ro) (.pr (.ro) (.pr (.ro) (.pr (.ro) (.own (M7)))))),T4⟩,⟨.ro,.str⟩]
def Q306:List Ret:=[⟨.int .i64,.ro⟩]
noncomputable def N306 (n:Nat):Cal:=⟨306,P306,Q306,fun x=>(R_spec_l05Read_value n).2.2.2.1 x.1 x.2.1,0⟩
def H244:Hn:=(.e .z (.e .z (.e .z (.e (.e .z (.j [.i 3,.i 4,.box 0 true (T4) (.pr (.ro) (.pr (.ro) (.pr (.ro) (.pr (.ro) (.own (M7))))))] [(0,⟨1,[]⟩)] .z (.e .z (.j [.i 3,.i 4,.box 0 true (T4) (.pr (.ro) (.pr (.ro) (.pr (.ro) (.pr (.ro) (.own (M7))))))] [(0,⟨1,[]⟩)] .z .z)))) (.e (.e .z (.j [.i 3,.box 0 true (T4) (.pr (.ro) (.pr (.ro) (.pr (.ro) (.pr (.ro) (.own (M7))))))] [] (.e .z (.o [(5,.m' M7)])) .z)) .z)))))
noncomputable def E244 (n:Nat):Env:=⟨tab,[N283 n,C238,C243],1,24⟩
theorem d244:(fun(n:Nat) (x:HL (pts P244))=>den (E244 n) (Tryz.f244.body.getD .skip) H244 (initM 0 24 P244 x) (retK tab [] P244 Q244 [.tmp 2]) (fun _ _=>none) (retK tab [] P244 Q244 [.tmp 2]))=fun n=>(N244 (n+1)).F:=by kernel_rfl
def H283:Hn:=(.e .z (.e .z (.e (.j [.i 3,.box 0 true (T4) (.pr (.ro) (.pr (.ro) (.pr (.ro) (.pr (.ro) (.own (M7))))))] [] (.j [.i 3,.box 0 true (T4) (.pr (.ro) (.pr (.ro) (.pr (.ro) (.pr (.ro) (.own (M7))))))] [(0,⟨1,[]⟩)] (.e .z (.e (.e .z (.o [(4,.m' M7)])) .z)) .z) .z) .z)))
noncomputable def E283 (n:Nat):Env:=⟨tab,[N301 n,C238,C243],1,18⟩
theorem d283:(fun(n:Nat) (x:HL (pts P283))=>den (E283 n) (Tryz.f283.body.getD .skip) H283 (initM 0 18 P283 x) (retK tab [] P283 Q283 [.tmp 2]) (fun _ _=>none) (retK tab [] P283 Q283 [.tmp 2]))=fun n=>(N283 (n+1)).F:=by kernel_rfl
def H301:Hn:=(.e .z (.e (.e (.n ⟨[],[],(some ⟨[.l 28,.box 0 true (T4) (.pr (.ro) (.pr (.ro) (.pr (.ro) (.pr (.ro) (.own (M7))))))],[(0,⟨1,[]⟩)],[]⟩),false,(tr 0 6 23 [])⟩ .z .z) .z) (.e .z (.e .z (.e (.e (.e (.o (tr 0 52 12 [(12,.t 51)])) (.j [.i 3,.box 0 true (T4) (.pr (.ro) (.pr (.ro) (.pr (.ro) (.pr (.ro) (.own (M7))))))] [(0,⟨1,[]⟩)] (.e .z (.o (tr 0 72 13 [(13,⟨[],M7,[85],[],none⟩),(14,⟨[],.ro,[0,32,33,34,35,38,39,52,53,54,56,57,58,64,65,66,67,70,71,72,73,74,75,77,78,79,85,86],[0],none⟩),(15,.t 3)]))) (.e .z (.j [.i 3,.box 0 true (T4) (.pr (.ro) (.pr (.ro) (.pr (.ro) (.pr (.ro) (.own (M7))))))] [(0,⟨1,[]⟩)] (.o [(3,.m' M7)]) (.e .z (.j [.i 3,.box 0 true (T4) (.pr (.ro) (.pr (.ro) (.pr (.ro) (.pr (.ro) (.own (M7))))))] [(0,⟨1,[]⟩)] .z (.e .z (.j [.i 3,.box 0 true (T4) (.pr (.ro) (.pr (.ro) (.pr (.ro) (.pr (.ro) (.own (M7))))))] [(0,⟨1,[]⟩)] .z (.e .z (.j [.i 3,.box 0 true (T4) (.pr (.ro) (.pr (.ro) (.pr (.ro) (.pr (.ro) (.own (M7))))))] [(0,⟨1,[]⟩)] (.o [(3,.m' M7)]) (.e .z (.j [.i 3,.box 0 true (T4) (.pr (.ro) (.pr (.ro) (.pr (.ro) (.pr (.ro) (.own (M7))))))] [(0,⟨1,[]⟩)] (.o [(1,.m' M7)]) (.e .z (.j [.i 3,.box 0 true (T4) (.pr (.ro) (.pr (.ro) (.pr (.ro) (.pr (.ro) (.own (M7))))))] [(0,⟨1,[]⟩)] (.e .z (.o [(3,.m' M7)])) (.e .z (.e .z (.j [.i 3,.box 0 true (T4) (.pr (.ro) (.pr (.ro) (.pr (.ro) (.pr (.ro) (.own (M7))))))] [(0,⟨1,[]⟩)] .z (.o [(2,.m' M7)])))))))))))))))))) .z) .z)))))
noncomputable def E301 (n:Nat):Env:=⟨tab,[C243,C238,C239,C305,N244 n,C240,N301 n,N306 n],1,140⟩
theorem d301:(fun(n:Nat) (x:HL (pts P301))=>den (E301 n) (Tryz.f301.body.getD .skip) H301 (initM 0 140 P301 x) (retK tab [] P301 Q301 [.tmp 2]) (fun _ _=>none) (retK tab [] P301 Q301 [.tmp 2]))=fun n=>(N301 (n+1)).F:=by kernel_rfl
def H306:Hn:=(.e .z (.e (.k [.g 5]) (.e (.e .z (.j [.snp 1 (.str) [],.d 5,.box 0 true (T4) (.pr (.ro) (.pr (.ro) (.pr (.ro) (.pr (.ro) (.own (M7))))))] [(0,⟨1,[]⟩)] (.j [.snp 1 (.str) [],.d 5,.box 0 true (T4) (.pr (.ro) (.pr (.ro) (.pr (.ro) (.pr (.ro) (.own (M7))))))] [(0,⟨1,[]⟩)] (.j [.snp 1 (.str) [],.d 5,.box 0 true (T4) (.pr (.ro) (.pr (.ro) (.pr (.ro) (.pr (.ro) (.own (M7))))))] [(0,⟨1,[]⟩)] (.e .z (.e (.e (.n ⟨[],[.g 5],none,false,[(4,.g [.g 15] .ro)]⟩ .z .z) .z) .z)) .z) .z) .z)) (.e (.o [(3,.g [.g 26] M7)]) .z))))
noncomputable def E306 (n:Nat):Env:=⟨tab,[C238,N244 n,C240,C243],2,29⟩
theorem d306:(fun(n:Nat) (x:HL (pts P306))=>den (E306 n) (Tryz.f306.body.getD .skip) H306 (initM 0 29 P306 x) (retK tab [] P306 Q306 [.tmp 4]) (fun _ _=>none) (retK tab [] P306 Q306 [.tmp 4]))=fun n=>(N306 (n+1)).F:=by kernel_rfl
theorem cN244:∀ n,Cok Tryz.prog (N244 n)∧Cok Tryz.prog (N283 n)∧Cok Tryz.prog (N301 n)∧Cok Tryz.prog (N306 n):=by
 intro n
 have h238:=c238
 have h243:=c243
 have h239:=c239
 have h305:=c305
 have h240:=c240
 induction n with
 | zero=>exact⟨cok_none (fn:=Tryz.f244) (by kernel_rfl) (by kernel_rfl) (by kernel_rfl) (fun _=>rfl),cok_none (fn:=Tryz.f283) (by kernel_rfl) (by kernel_rfl) (by kernel_rfl) (fun _=>rfl),cok_none (fn:=Tryz.f301) (by kernel_rfl) (by kernel_rfl) (by kernel_rfl) (fun _=>rfl),cok_none (fn:=Tryz.f306) (by kernel_rfl) (by kernel_rfl) (by kernel_rfl) (fun _=>rfl)⟩
 | succ n ih=>
  obtain⟨h244,h283,h301,h306⟩:=ih
  refine⟨?_,?_,?_,?_⟩
  ·exact cok_of_den (E:=E244 n) (c:=N244 (n+1)) (fn:=Tryz.f244) (code:=Tryz.f244.body.getD .skip) (hn:=H244) (gr:=[]) (is:=[.tmp 2]) ⟨tabOk,(fun c hc=>by simp only [E244,List.mem_cons,List.not_mem_nil,or_false] at hc;rcases hc with rfl | rfl | rfl<;>assumption),mixOk⟩ ⟨by kernel_rfl,by kernel_rfl,by kernel_rfl,by kernel_rfl,by kernel_rfl,Nat.le_of_ble_eq_true rfl,by kernel_rfl⟩ (by kernel_rfl) (fun x y h=>(congrFun (congrFun d244 n) x).trans h)
  ·exact cok_of_den (E:=E283 n) (c:=N283 (n+1)) (fn:=Tryz.f283) (code:=Tryz.f283.body.getD .skip) (hn:=H283) (gr:=[]) (is:=[.tmp 2]) ⟨tabOk,(fun c hc=>by simp only [E283,List.mem_cons,List.not_mem_nil,or_false] at hc;rcases hc with rfl | rfl | rfl<;>assumption),mixOk⟩ ⟨by kernel_rfl,by kernel_rfl,by kernel_rfl,by kernel_rfl,by kernel_rfl,Nat.le_of_ble_eq_true rfl,by kernel_rfl⟩ (by kernel_rfl) (fun x y h=>(congrFun (congrFun d283 n) x).trans h)
  ·exact cok_of_den (E:=E301 n) (c:=N301 (n+1)) (fn:=Tryz.f301) (code:=Tryz.f301.body.getD .skip) (hn:=H301) (gr:=[]) (is:=[.tmp 2]) ⟨tabOk,(fun c hc=>by simp only [E301,List.mem_cons,List.not_mem_nil,or_false] at hc;rcases hc with rfl | rfl | rfl | rfl | rfl | rfl | rfl | rfl<;>assumption),mixOk⟩ ⟨by kernel_rfl,by kernel_rfl,by kernel_rfl,by kernel_rfl,by kernel_rfl,Nat.le_of_ble_eq_true rfl,by kernel_rfl⟩ (by kernel_rfl) (fun x y h=>(congrFun (congrFun d301 n) x).trans h)
  ·exact cok_of_den (E:=E306 n) (c:=N306 (n+1)) (fn:=Tryz.f306) (code:=Tryz.f306.body.getD .skip) (hn:=H306) (gr:=[]) (is:=[.tmp 4]) ⟨tabOk,(fun c hc=>by simp only [E306,List.mem_cons,List.not_mem_nil,or_false] at hc;rcases hc with rfl | rfl | rfl | rfl<;>assumption),mixOk⟩ ⟨by kernel_rfl,by kernel_rfl,by kernel_rfl,by kernel_rfl,by kernel_rfl,Nat.le_of_ble_eq_true rfl,by kernel_rfl⟩ (by kernel_rfl) (fun x y h=>(congrFun (congrFun d306 n) x).trans h)
noncomputable def C244:Cal:=⟨244,P244,Q244,fun x=>spec_l05Read_value x.1,0⟩
theorem c244:Cok Tryz.prog C244:=cok_lim (F:=fun n=>(N244 n).F) (fun n=>(cN244 n).1)
noncomputable def C283:Cal:=⟨283,P283,Q283,fun x=>spec_l05Read_sum x.1,0⟩
theorem c283:Cok Tryz.prog C283:=cok_lim (F:=fun n=>(N283 n).F) (fun n=>(cN244 n).2.1)
noncomputable def C301:Cal:=⟨301,P301,Q301,fun x=>spec_l05Read_term x.1,0⟩
theorem c301:Cok Tryz.prog C301:=cok_lim (F:=fun n=>(N301 n).F) (fun n=>(cN244 n).2.2.1)
noncomputable def C306:Cal:=⟨306,P306,Q306,fun x=>spec_l05Read_args x.1 x.2.1,0⟩
theorem c306:Cok Tryz.prog C306:=cok_lim (F:=fun n=>(N306 n).F) (fun n=>(cN244 n).2.2.2)
noncomputable def C299:Cal:=⟨299,[⟨.ptr (.pr (.ro) (.pr (.ro) (.pr (.ro) (.pr (.ro) (.own (M7)))))),T4⟩,⟨.ro,.int .i64⟩,⟨.ro,.str⟩],[⟨.int .i64,.ro⟩],fun x=>spec_l05Read_ended x.1 x.2.1 x.2.2.1,0⟩
def H299:Hn:=(.e .z (.e .z (.e .z (.e (.o [(5,.m' M7)]) .z))))
theorem c299:CK C299:=ck C299 Tryz.f299 H299 [] [.tmp 6] (cc c244 (cc c240 (cc c243 cn)))
def P242:List Prm:=[⟨.ptr (.pr (.ro) (.pr (.ro) (.pr (.ro) (.pr (.ro) (.own (M7)))))),T4⟩]
def Q242:List Ret:=[⟨.list 3 (.int .i64),.own (.ro)⟩]
noncomputable def N242 (n:Nat):Cal:=⟨242,P242,Q242,fun x=>(R_spec_l05Read_steps n).1 x.1,0⟩
def P282:List Prm:=[⟨.ptr (.pr (.ro) (.pr (.ro) (.pr (.ro) (.pr (.ro) (.own (M7)))))),T4⟩]
def Q282:List Ret:=[⟨.int .i64,.ro⟩]
noncomputable def N282 (n:Nat):Cal:=⟨282,P282,Q282,fun x=>(R_spec_l05Read_steps n).2.1 x.1,0⟩
def P300:List Prm:=[⟨.ptr (.pr (.ro) (.pr (.ro) (.pr (.ro) (.pr (.ro) (.own (M7)))))),T4⟩]
def Q300:List Ret:=[⟨.int .i64,.ro⟩]
noncomputable def N300 (n:Nat):Cal:=⟨300,P300,Q300,fun x=>(R_spec_l05Read_steps n).2.2.1 x.1,0⟩
def H242:Hn:=(.e .z (.e (.k [.g 3]) (.e (.j [.d 3,.box 0 true (T4) (.pr (.ro) (.pr (.ro) (.pr (.ro) (.pr (.ro) (.own (M7))))))] [] (.j [.d 3,.box 0 true (T4) (.pr (.ro) (.pr (.ro) (.pr (.ro) (.pr (.ro) (.own (M7))))))] [(0,⟨1,[]⟩)] (.e (.e (.j [.d 3,.l 20,.box 0 true (T4) (.pr (.ro) (.pr (.ro) (.pr (.ro) (.pr (.ro) (.own (M7))))))] [(0,⟨1,[]⟩)] .z .z) .z) (.e (.e .z (.n ⟨[],[.g 3],none,false,[(3,.g [.g 23] .ro)]⟩ .z .z)) .z)) .z) .z) (.e (.k [.g 2]) .z))))
noncomputable def E242 (n:Nat):Env:=⟨tab,[C281,N282 n],1,28⟩
theorem d242:(fun(n:Nat) (x:HL (pts P242))=>den (E242 n) (Tryz.f242.body.getD .skip) H242 (initM 0 28 P242 x) (retK tab [] P242 Q242 [.tmp 2]) (fun _ _=>none) (retK tab [] P242 Q242 [.tmp 2]))=fun n=>(N242 (n+1)).F:=by kernel_rfl
def H282:Hn:=(.e .z (.e (.e (.e .z (.e .z (.e .z (.e .z (.e .z (.e (.e .z (.e .z (.e (.e .z (.j [.i 5,.i 6,.box 0 true (T4) (.pr (.ro) (.pr (.ro) (.pr (.ro) (.pr (.ro) (.own (M7))))))] [(0,⟨1,[]⟩)] .z .z)) (.e .z (.e (.o [(5,.m' M7)]) .z))))) (.e .z (.e (.e .z (.e .z (.e (.o [(4,.m' M7)]) .z))) .z)))))))) .z) .z))
noncomputable def E282 (n:Nat):Env:=⟨tab,[C238,C239,C240,C299,C244,N300 n,C243],1,83⟩
theorem d282:(fun(n:Nat) (x:HL (pts P282))=>den (E282 n) (Tryz.f282.body.getD .skip) H282 (initM 0 83 P282 x) (retK tab [] P282 Q282 [.tmp 2]) (fun _ _=>none) (retK tab [] P282 Q282 [.tmp 2]))=fun n=>(N282 (n+1)).F:=by kernel_rfl
def H300:Hn:=(.e .z (.e .z (.e (.e .z (.j [.box 0 true (T4) (.pr (.ro) (.pr (.ro) (.pr (.ro) (.pr (.ro) (.own (M7))))))] [(0,⟨1,[]⟩)] .z .z)) (.e .z (.e (.k [.g 3]) (.e .z (.e .z (.e (.o [(2,.g [.g 35] M7)]) .z))))))))
noncomputable def E300 (n:Nat):Env:=⟨tab,[C240,N242 n,C243],1,38⟩
theorem d300:(fun(n:Nat) (x:HL (pts P300))=>den (E300 n) (Tryz.f300.body.getD .skip) H300 (initM 0 38 P300 x) (retK tab [] P300 Q300 [.tmp 2]) (fun _ _=>none) (retK tab [] P300 Q300 [.tmp 2]))=fun n=>(N300 (n+1)).F:=by kernel_rfl
theorem cN242:∀ n,Cok Tryz.prog (N242 n)∧Cok Tryz.prog (N282 n)∧Cok Tryz.prog (N300 n):=by
 intro n
 have h281:=c281
 have h238:=c238
 have h239:=c239
 have h240:=c240
 have h299:=c299
 have h244:=c244
 have h243:=c243
 induction n with
 | zero=>exact⟨cok_none (fn:=Tryz.f242) (by kernel_rfl) (by kernel_rfl) (by kernel_rfl) (fun _=>rfl),cok_none (fn:=Tryz.f282) (by kernel_rfl) (by kernel_rfl) (by kernel_rfl) (fun _=>rfl),cok_none (fn:=Tryz.f300) (by kernel_rfl) (by kernel_rfl) (by kernel_rfl) (fun _=>rfl)⟩
 | succ n ih=>
  obtain⟨h242,h282,h300⟩:=ih
  refine⟨?_,?_,?_⟩
  ·exact cok_of_den (E:=E242 n) (c:=N242 (n+1)) (fn:=Tryz.f242) (code:=Tryz.f242.body.getD .skip) (hn:=H242) (gr:=[]) (is:=[.tmp 2]) ⟨tabOk,(fun c hc=>by simp only [E242,List.mem_cons,List.not_mem_nil,or_false] at hc;rcases hc with rfl | rfl<;>assumption),mixOk⟩ ⟨by kernel_rfl,by kernel_rfl,by kernel_rfl,by kernel_rfl,by kernel_rfl,Nat.le_of_ble_eq_true rfl,by kernel_rfl⟩ (by kernel_rfl) (fun x y h=>(congrFun (congrFun d242 n) x).trans h)
  ·exact cok_of_den (E:=E282 n) (c:=N282 (n+1)) (fn:=Tryz.f282) (code:=Tryz.f282.body.getD .skip) (hn:=H282) (gr:=[]) (is:=[.tmp 2]) ⟨tabOk,(fun c hc=>by simp only [E282,List.mem_cons,List.not_mem_nil,or_false] at hc;rcases hc with rfl | rfl | rfl | rfl | rfl | rfl | rfl<;>assumption),mixOk⟩ ⟨by kernel_rfl,by kernel_rfl,by kernel_rfl,by kernel_rfl,by kernel_rfl,Nat.le_of_ble_eq_true rfl,by kernel_rfl⟩ (by kernel_rfl) (fun x y h=>(congrFun (congrFun d282 n) x).trans h)
  ·exact cok_of_den (E:=E300 n) (c:=N300 (n+1)) (fn:=Tryz.f300) (code:=Tryz.f300.body.getD .skip) (hn:=H300) (gr:=[]) (is:=[.tmp 2]) ⟨tabOk,(fun c hc=>by simp only [E300,List.mem_cons,List.not_mem_nil,or_false] at hc;rcases hc with rfl | rfl | rfl<;>assumption),mixOk⟩ ⟨by kernel_rfl,by kernel_rfl,by kernel_rfl,by kernel_rfl,by kernel_rfl,Nat.le_of_ble_eq_true rfl,by kernel_rfl⟩ (by kernel_rfl) (fun x y h=>(congrFun (congrFun d300 n) x).trans h)
noncomputable def C242:Cal:=⟨242,P242,Q242,fun x=>spec_l05Read_steps x.1,0⟩
theorem c242:Cok Tryz.prog C242:=cok_lim (F:=fun n=>(N242 n).F) (fun n=>(cN242 n).1)
noncomputable def C282:Cal:=⟨282,P282,Q282,fun x=>spec_l05Read_step x.1,0⟩
theorem c282:Cok Tryz.prog C282:=cok_lim (F:=fun n=>(N282 n).F) (fun n=>(cN242 n).2.1)
noncomputable def C300:Cal:=⟨300,P300,Q300,fun x=>spec_l05Read_block x.1,0⟩
theorem c300:Cok Tryz.prog C300:=cok_lim (F:=fun n=>(N300 n).F) (fun n=>(cN242 n).2.2)
noncomputable def C208:Cal:=⟨208,[⟨.ptr (.pr (.ro) (.pr (.ro) (.pr (.ro) (.pr (.ro) (.own (M7)))))),T4⟩],[⟨T6,M6⟩],fun x=>spec_l05Read_fn x.1,0⟩
def H208:Hn:=(.e (.o [(0,.m' M6)]) (.e (.e .z (.j [.box 0 true (T4) (.pr (.ro) (.pr (.ro) (.pr (.ro) (.pr (.ro) (.own (M7)))))),.box 2 true (T6) (M6)] [(0,⟨1,[]⟩),(2,⟨5,[]⟩)] .z .z)) (.e (.o [(2,.m' M6),(3,.m' M6),(4,.m' M6)]) (.e .z (.e (.e .z (.j [.box 0 true (T4) (.pr (.ro) (.pr (.ro) (.pr (.ro) (.pr (.ro) (.own (M7)))))),.box 2 true (T6) (M6),.box 3 true (T6) (M6)] [(0,⟨1,[]⟩),(2,⟨5,[]⟩),(3,⟨7,[]⟩)] (.j [.box 0 true (T4) (.pr (.ro) (.pr (.ro) (.pr (.ro) (.pr (.ro) (.own (M7)))))),.box 2 true (T6) (M6),.box 3 true (T6) (M6)] [(0,⟨1,[]⟩),(2,⟨5,[]⟩),(3,⟨7,[]⟩)] (.j [.box 0 true (T4) (.pr (.ro) (.pr (.ro) (.pr (.ro) (.pr (.ro) (.own (M7)))))),.box 2 true (T6) (M6),.box 3 true (T6) (M6)] [(0,⟨1,[]⟩),(2,⟨5,[]⟩),(3,⟨7,[]⟩)] (.e .z (.e (.e .z (.e .z (.e .z (.e (.o [(4,.g [.g 34] .ro),(6,.m' (.own (.ro)))]) .z)))) .z)) .z) .z) .z)) (.e (.e .z (.j [.box 0 true (T4) (.pr (.ro) (.pr (.ro) (.pr (.ro) (.pr (.ro) (.own (M7)))))),.box 2 true (T6) (M6),.box 3 true (T6) (M6)] [(0,⟨1,[]⟩),(2,⟨5,[]⟩),(3,⟨7,[]⟩)] .z .z)) (.e .z (.e (.k [.g 5]) (.e (.o [(2,.g [.g 53] M7)]) (.e (.e .z (.j [.box 0 true (T4) (.pr (.ro) (.pr (.ro) (.pr (.ro) (.pr (.ro) (.own (M7)))))),.box 2 true (T6) (M6),.box 3 true (T6) (M6)] [(0,⟨1,[]⟩),(2,⟨5,[]⟩),(3,⟨7,[]⟩)] .z .z)) (.e .z (.e (.o [(1,.g [.g 66] M6)]) .z))))))))))))
theorem c208:CK C208:=ck C208 Tryz.f208 H208 [] [.cell 2 125] (cc c238 (cc c239 (cc c240 (cc c241 (cc c242 (cc c243 (cc c244 cn)))))))
noncomputable def C234:Cal:=⟨234,[⟨.ro,.int .i64⟩],[⟨.int .i64,.ro⟩,⟨.int .i64,.ro⟩],fun x=>spec_l04Kids x.1,0⟩
def H234:Hn:=(.e .z (.e (.e .z (.e (.e (.e .z (.j [.i 4,.l 5] [] .z (.e .z (.j [.i 4,.l 5] [] .z (.e .z (.j [.i 4,.l 5] [] .z (.e .z (.j [.i 4,.l 5] [] .z (.e .z (.j [.i 4,.l 5] [] .z .z)))))))))) (.e .z (.e (.e .z (.j [.i 4,.l 12] [] .z (.e .z (.j [.i 4,.l 12] [] .z (.e .z (.j [.i 4,.l 12] [] .z .z)))))) .z))) .z)) .z))
theorem c234:CK C234:=ck C234 Tryz.f234 H234 [] [.tmp 2,.tmp 3] cn
noncomputable def C235:Cal:=⟨235,[⟨.ro,.int .i64⟩],[⟨.bool,.ro⟩],fun x=>spec_l04Named x.1,0⟩
def H235:Hn:=(.e .z (.e (.e .z (.e (.e (.e .z (.j [.l 4] [] .z (.e .z (.j [.l 4] [] .z (.e .z (.j [.l 4] [] .z (.e .z (.j [.l 4] [] .z (.e .z (.j [.l 4] [] .z (.e .z (.j [.l 4] [] .z (.e .z (.j [.l 4] [] .z (.e .z (.j [.l 4] [] .z .z)))))))))))))))) .z) .z)) .z))
theorem c235:CK C235:=ck C235 Tryz.f235 H235 [] [.tmp 2] cn
noncomputable def C279:Cal:=⟨279,[⟨.ro,.int .i64⟩],[⟨.bool,.ro⟩],fun x=>spec_l04Statement x.1,0⟩
def H279:Hn:=.z
theorem c279:CK C279:=ck C279 Tryz.f279 H279 [] [.tmp 2] (cc c82 cn)
noncomputable def C230:Cal:=⟨230,[⟨.ro,.int .i64⟩],[⟨.bool,.ro⟩],fun x=>spec_l04Value x.1,0⟩
def H230:Hn:=.z
theorem c230:CK C230:=ck C230 Tryz.f230 H230 [] [.tmp 2] (cc c82 cn)
noncomputable def C236:Cal:=⟨236,[⟨.ro,.int .i64⟩,⟨.ro,.int .i64⟩,⟨.ro,.int .i64⟩],[⟨.bool,.ro⟩],fun x=>spec_l04Fits x.1 x.2.1 x.2.2.1,0⟩
def H236:Hn:=(.e .z (.e (.e .z (.e (.e .z (.e .z (.e (.e .z (.j [.i 1,.i 2,.i 7,.l 12] [] .z .z)) (.n ⟨[],[],(some ⟨[.i 2],[],[]⟩),true,[]⟩ .z .z)))) .z)) .z))
theorem c236:CK C236:=ck C236 Tryz.f236 H236 [] [.tmp 6] (cc c279 (cc c230 cn))
noncomputable def C204:Cal:=⟨204,[⟨.ro,.list 114 (T7)⟩,⟨.ro,.int .i64⟩],[⟨.bool,.ro⟩],fun x=>spec_NodeOk x.1 x.2.1,0⟩
def H204:Hn:=(.e .z (.e (.e (.j [.snp 0 (.list 114 (T7)) [],.i 1,.l 24] [] .z .z) .z) (.e (.o [(4,.m' M7),(5,.m' M7)]) (.e .z (.e (.e (.j [.snp 0 (.list 114 (T7)) [],.i 1,.l 57,.box 5 true (T7) (.ro)] [(5,⟨11,[]⟩)] .z .z) .z) (.e (.e (.n ⟨[],[],(some ⟨[.snp 0 (.list 114 (T7)) [],.i 1,.l 75,.box 5 true (T7) (.ro)],[(5,⟨11,[]⟩)],[]⟩),false,(tr 0 58 18 [])⟩ .z .z) .z) (.e (.e .z (.n ⟨[],[],(some ⟨[],[],[]⟩),true,[]⟩ (.j [.snp 0 (.list 114 (T7)) [],.i 1,.i 8,.box 5 true (T7) (.ro)] [(5,⟨11,[]⟩)] (.e .z (.e (.n ⟨[],[],(some ⟨[.snp 0 (.list 114 (T7)) [],.i 1,.i 8,.box 5 true (T7) (.ro)],[(5,⟨11,[]⟩)],[]⟩),true,[]⟩ (.e (.e (.n ⟨[],[],(some ⟨[.snp 0 (.list 114 (T7)) [],.i 1,.i 8,.l 107,.box 5 true (T7) (.ro)],[(5,⟨11,[]⟩)],[]⟩),false,(tr 0 83 25 [])⟩ .z .z) .z) (.e .z (.n ⟨[],[],(some ⟨[.snp 0 (.list 114 (T7)) [],.i 1,.i 8,.box 5 true (T7) (.ro)],[(5,⟨11,[]⟩)],[]⟩),true,[]⟩ (.j [.snp 0 (.list 114 (T7)) [],.i 1,.i 8,.i 9,.box 5 true (T7) (.ro)] [(5,⟨11,[]⟩)] (.e .z (.e (.e (.e (.o (tr 0 113 11 [])) .z) .z) .z)) .z) .z))) .z) .z)) .z) .z)) .z)))))))
theorem c204:CK C204:=ck C204 Tryz.f204 H204 [] [.tmp 4] (cc c82 (cc c234 (cc c235 (cc c81 (cc c236 cn)))))
noncomputable def C171:Cal:=⟨171,[⟨.ro,.list 114 (T7)⟩,⟨.ro,.int .i64⟩],[⟨.list 3 (.int .i64),.own (.ro)⟩],fun x=>spec_l04Deeps x.1 x.2.1,0⟩
def H171:Hn:=(.e .z (.e (.k [.g 5]) (.e (.e .z (.j [.d 5] [] (.j [.snp 0 (.list 114 (T7)) [],.i 1,.d 5,.i 6] [] (.e (.e (.j [.snp 0 (.list 114 (T7)) [],.i 1,.d 5,.i 6,.l 18] [] .z .z) .z) (.e (.j [.snp 0 (.list 114 (T7)) [],.i 1,.d 5,.i 6] [] (.e .z (.e (.e (.j [.snp 0 (.list 114 (T7)) [],.i 1,.d 5,.i 6,.i 7,.l 36] [] .z .z) (.j [.snp 0 (.list 114 (T7)) [],.i 1,.d 5,.i 6,.i 7] [] .z .z)) (.e (.e .z (.j [.snp 0 (.list 114 (T7)) [],.i 1,.d 5,.i 6,.i 7] [] (.j [.snp 0 (.list 114 (T7)) [],.i 1,.d 5,.i 6,.i 7,.i 8] [] (.e (.e (.j [.snp 0 (.list 114 (T7)) [],.i 1,.d 5,.i 6,.i 7,.i 8,.l 48] [] .z .z) .z) (.e (.e (.e .z (.j [.snp 0 (.list 114 (T7)) [],.i 1,.d 5,.i 6,.i 7,.i 8] [] .z .z)) .z) .z)) .z) .z)) (.e (.e .z (.j [.snp 0 (.list 114 (T7)) [],.i 1,.d 5,.i 6,.i 7] [] .z .z)) (.n ⟨[],[.g 5],none,false,[(3,.g [.g 79] .ro)]⟩ .z .z))))) .z) .z)) .z) .z)) (.e (.k [.g 4]) .z))))
theorem c171:CK C171:=ck C171 Tryz.f171 H171 [] [.tmp 4] (cc c204 cn)
noncomputable def C198:Cal:=⟨198,[⟨.ro,.list 114 (T7)⟩],[⟨.list 3 (.int .i64),.own (.ro)⟩],fun x=>spec_l04Used x.1,0⟩
def H198:Hn:=(.e .z (.e (.k [.g 3]) (.e (.e .z (.j [.d 3] [] (.j [.snp 0 (.list 114 (T7)) [],.d 3,.i 4] [] (.e .z (.e (.j [.snp 0 (.list 114 (T7)) [],.d 3,.i 4] [] (.e .z (.j [.snp 0 (.list 114 (T7)) [],.d 3,.i 4] [] (.j [.snp 0 (.list 114 (T7)) [],.d 3,.i 4,.i 5] [] (.e .z (.e (.e (.o [(13,⟨[],.ro,[],[],some 6⟩)]) .z) .z)) .z) .z)) .z) .z)) .z) .z)) (.e (.k [.g 2]) .z))))
theorem c198:CK C198:=ck C198 Tryz.f198 H198 [] [.tmp 2] cn
noncomputable def C202:Cal:=⟨202,[⟨.ro,T2⟩,⟨.ro,.str⟩],[⟨.int .i64,.ro⟩],fun x=>spec_FnAt x.1 x.2.1,0⟩
def H202:Hn:=(.e (.o [(0,.m' M2)]) (.e (.e .z (.n ⟨[],[],(some ⟨[],[],[]⟩),true,[]⟩ (.j [.snp 1 (.str) [],.i 5,.box 2 true (T2) (.ro)] [(2,⟨5,[]⟩)] .z .z) .z)) .z))
theorem c202:CK C202:=ck C202 Tryz.f202 H202 [] [.tmp 4] cn
noncomputable def C199:Cal:=⟨199,[⟨.ro,T2⟩,⟨.ro,.int .i64⟩],[⟨.bool,.ro⟩],fun x=>spec_l04Fn x.1 x.2.1,0⟩
def H199:Hn:=(.e (.o [(0,.m' M2)]) (.e (.o [(5,.m' M6),(6,.m' M6)]) (.e (.e (.j [.l 35,.box 2 true (T2) (.ro),.box 5 true (T6) (.ro)] [(2,⟨5,[]⟩),(5,⟨11,[]⟩)] .z .z) .z) (.e (.e .z (.n ⟨[],[],(some ⟨[.box 2 true (T2) (.ro),.box 5 true (T6) (.ro)],[(2,⟨5,[]⟩),(5,⟨11,[]⟩)],[]⟩),true,[]⟩ (.j [.i 6,.box 2 true (T2) (.ro),.box 5 true (T6) (.ro)] [(2,⟨5,[]⟩),(5,⟨11,[]⟩)] (.e .z (.e (.e (.e (.j [.i 6,.l 60,.box 2 true (T2) (.ro),.box 5 true (T6) (.ro)] [(2,⟨5,[]⟩),(5,⟨11,[]⟩)] .z .z) .z) .z) .z)) .z) .z)) (.e (.e (.j [.l 78,.box 2 true (T2) (.ro),.box 5 true (T6) (.ro)] [(2,⟨5,[]⟩),(5,⟨11,[]⟩)] .z .z) .z) (.e .z (.e (.j [.l 4] [] .z .z) .z)))))))
theorem c199:CK C199:=ck C199 Tryz.f199 H199 [] [.tmp 4] (cc c81 (cc c202 (cc c82 (cc c230 cn))))
noncomputable def C165:Cal:=⟨165,[⟨.ro,T2⟩],[⟨.bool,.ro⟩],fun x=>spec_ProgramOk x.1,0⟩
def H165:Hn:=(.e (.o [(0,.m' M2)]) (.e (.e (.j [.l 18,.box 1 true (T2) (.ro)] [(1,⟨3,[]⟩)] .z .z) .z) (.e (.k [.g 3]) (.e .z (.e (.k [.g 4]) (.e (.e .z (.n ⟨[],[],(some ⟨[.d 4],[],[]⟩),true,[]⟩ (.j [.d 4,.i 5,.box 1 true (T2) (.ro)] [(1,⟨3,[]⟩)] (.e .z (.e (.e (.e .z (.e (.o (tr 0 47 18 [(18,⟨[],.ro,[4,47,54,61,64],[],some 8⟩)])) (.e .z (.j [.d 4,.i 5,.box 1 true (T2) (.ro)] [(1,⟨3,[]⟩)] (.o (tr 0 72 18 [(18,⟨[],.ro,[4,72,79,86,89],[],some 8⟩)])) .z)))) .z) .z)) .z) .z)) (.e (.e .z (.n ⟨[],[],(some ⟨[],[],[]⟩),true,[]⟩ (.j [.d 4,.i 6] [] (.e .z (.e (.e (.e (.j [.d 4,.i 6,.l 107] [] .z .z) .z) .z) .z)) .z) .z)) .z)))))))
theorem c165:CK C165:=ck C165 Tryz.f165 H165 [] [.tmp 2] (cc c82 (cc c171 (cc c198 (cc c199 cn))))
noncomputable def C175:Cal:=⟨175,[⟨.ro,.str⟩],[⟨T2,M2⟩,⟨.bool,.ro⟩],fun x=>spec_ReadProgram x.1,0⟩
def H175:Hn:=(.e (.o [(0,.m' M2)]) (.e (.k [.g 4]) (.e (.e .z (.e (.e (.o [(0,.m' M2),(1,.m' M2)]) .z) .z)) (.e (.o [(1,.g [.g 16] M4),(2,.m' M4)]) (.e (.o [(0,.m' M2),(1,.m' M2),(2,.m' M2)]) (.e (.j [.box 2 true (T2) (M2),.box 7 true (T2) (M2),.box 18 true (T4) (.pr (.ro) (.pr (.ro) (.pr (.ro) (.pr (.ro) (.own (M7))))))] [(2,⟨5,[]⟩),(6,⟨37,[]⟩),(7,⟨15,[]⟩)] (.n ⟨[.w 37 (.pr (.ro) (.pr (.ro) (.pr (.ro) (.pr (.ro) (.own (M7))))))],[],(some ⟨[.box 2 true (T2) (M2),.box 7 true (T2) (M2),.box 18 true (T4) (.pr (.ro) (.pr (.ro) (.pr (.ro) (.pr (.ro) (.own (M7))))))],[(2,⟨5,[]⟩),(6,⟨37,[]⟩),(7,⟨15,[]⟩)],[]⟩),false,[]⟩ (.e (.e (.n ⟨[],[.w 37 (M4)],(some ⟨[.l 42,.box 2 true (T2) (M2),.box 7 true (T2) (M2),.box 18 true (T4) (.pr (.ro) (.pr (.ro) (.pr (.ro) (.pr (.ro) (.own (M7))))))],[(2,⟨5,[]⟩),(6,⟨37,[]⟩),(7,⟨15,[]⟩)],[]⟩),false,(tr 0 20 23 [])⟩ .z .z) (.e .z (.n ⟨[.w 37 (M4)],[],none,false,[]⟩ .z .z))) (.e (.n ⟨[.w 37 (.pr (.ro) (.pr (.ro) (.pr (.ro) (.pr (.ro) (.own (M7))))))],[.w 37 (M4)],none,false,(tr 0 43 3 [(3,⟨[],.ro,[6,45,46],[18],none⟩),(4,⟨[],M6,[46,47],[],none⟩),(5,⟨[.g 44],M6,[7,43,44,47,48],[7],none⟩),(6,.t 49),(7,⟨[],.own (M6),[7,43,48,49],[7],none⟩)])⟩ .z .z) .z)) .z) .z) (.e (.o [(5,.g [.g 53] (.own (M7)))]) (.e (.e (.j [.l 63,.box 2 true (T2) (M2),.box 7 true (T2) (M2)] [(2,⟨5,[]⟩),(7,⟨15,[]⟩)] .z .z) (.e (.e (.o [(0,.m' M2),(1,.m' M2)]) .z) .z)) (.e (.o [(1,.g [.g 65] M2)]) .z)))))))))
theorem c175:CK C175:=ck C175 Tryz.f175 H175 [] [.cell 2 69,.tmp 3] (cc c207 (cc c208 (cc c165 cn)))
noncomputable def C134:Cal:=⟨134,[⟨.ptr (.ro),T10⟩],[⟨T2,M2⟩],fun x=>spec_l05Program x.1,0⟩
def H134:Hn:=(.e (.o [(0,.m' M2)]) (.e (.o [(6,.m' M2),(7,.m' M2)]) (.e (.e .z (.j [.box 0 true (T10) (.ro),.box 2 true (T2) (M2),.box 3 true (T2) (M2)] [(2,⟨5,[]⟩),(3,⟨7,[]⟩)] (.e (.o [(4,.m' M2)]) (.e .z (.j [.box 0 true (T10) (.ro),.box 2 true (T2) (M2),.box 3 true (T2) (M2)] [(2,⟨5,[]⟩),(3,⟨7,[]⟩)] (.o [(4,.m' M2)]) .z))) .z)) (.e (.o [(1,.g [.g 25] M2)]) .z))))
theorem c134:CK C134:=ck C134 Tryz.f134 H134 [] [.cell 2 69] (cc c176 (cc c175 cn))
noncomputable def C128:Cal:=⟨128,[⟨.ro,.list 114 (T7)⟩,⟨.ro,.int .i64⟩],[⟨.int .i64,.ro⟩],fun x=>spec_DeepOf x.1 x.2.1,0⟩
def H128:Hn:=.z
theorem c128:CK C128:=ck C128 Tryz.f128 H128 [] [.tmp 4] (cc c82 (cc c171 cn))
def P169:List Prm:=[⟨.ro,.list 114 (T7)⟩,⟨.ro,.int .i64⟩,⟨.inp (.own (.ro)),.list 4 (.bool)⟩]
def Q169:List Ret:=[]
noncomputable def N169 (n:Nat):Cal:=⟨169,P169,Q169,fun x=>(R_spec_l04Mark n).1 x.1 x.2.1 x.2.2.1,0⟩
def H169:Hn:=(.e .z (.e (.o [(3,⟨[],.ro,[],[],some 5⟩)]) (.e .z (.j [.box 2 false (.list 4 (.bool)) (.own (.ro))] [] (.n ⟨[],[],(some ⟨[.snp 0 (.list 114 (T7)) [],.i 1,.i 6,.box 2 false (.list 4 (.bool)) (.own (.ro))],[],[(2,2)]⟩),false,[]⟩ .z .z) .z))))
noncomputable def E169 (n:Nat):Env:=⟨tab,[N169 n],3,35⟩
theorem d169:(fun(n:Nat) (x:HL (pts P169))=>den (E169 n) (Tryz.f169.body.getD .skip) H169 (initM 0 35 P169 x) (retK tab [] P169 Q169 []) (fun _ _=>none) (retK tab [] P169 Q169 []))=fun n=>(N169 (n+1)).F:=by kernel_rfl
theorem cN169:∀ n,Cok Tryz.prog (N169 n):=by
 intro n
 induction n with
 | zero=>exact cok_none (fn:=Tryz.f169) (by kernel_rfl) (by kernel_rfl) (by kernel_rfl) (fun _=>rfl)
 | succ n ih=>
  have h169:=ih
  refine ?_
  ·exact cok_of_den (E:=E169 n) (c:=N169 (n+1)) (fn:=Tryz.f169) (code:=Tryz.f169.body.getD .skip) (hn:=H169) (gr:=[]) (is:=[]) ⟨tabOk,(fun c hc=>by simp only [E169,List.mem_cons,List.not_mem_nil,or_false] at hc;rcases hc with rfl<;>assumption),mixOk⟩ ⟨by kernel_rfl,by kernel_rfl,by kernel_rfl,by kernel_rfl,by kernel_rfl,Nat.le_of_ble_eq_true rfl,by kernel_rfl⟩ (by kernel_rfl) (fun x y h=>(congrFun (congrFun d169 n) x).trans h)
noncomputable def C169:Cal:=⟨169,P169,Q169,fun x=>spec_l04Mark x.1 x.2.1 x.2.2.1,0⟩
theorem c169:Cok Tryz.prog C169:=cok_lim (F:=fun n=>(N169 n).F) (fun n=>(cN169 n))
noncomputable def C124:Cal:=⟨124,[⟨.ro,T2⟩,⟨.ro,.int .i64⟩],[⟨.list 3 (.int .i64),.own (.ro)⟩],fun x=>spec_Under x.1 x.2.1,0⟩
def H124:Hn:=(.e (.o [(0,.m' M2)]) (.e (.k [.g 5]) (.e (.e .z (.e (.e (.k [.g 4]) .z) .z)) (.e (.k [.g 6]) (.e .z (.e (.e .z (.j [.d 5] [] (.j [.d 5,.dat 6 (.list 4 (.bool)) (.own (.ro)),.i 7] [] (.e .z (.e (.e (.e .z (.j [.d 5,.dat 6 (.list 4 (.bool)) (.own (.ro)),.i 7] [] (.n ⟨[],[.g 5],none,false,[(3,.g [.g 34] .ro)]⟩ .z .z) .z)) .z) .z)) .z) .z)) (.e (.k [.g 4]) .z)))))))
theorem c124:CK C124:=ck C124 Tryz.f124 H124 [] [.tmp 4] (cc c128 (cc c169 cn))
noncomputable def C118:Cal:=⟨118,[⟨.ro,T2⟩,⟨.ro,.int .i64⟩],[⟨.list 119 (T12),.own (.ro)⟩],fun x=>spec_VarsOf x.1 x.2.1,0⟩
def H118:Hn:=(.e (.o [(0,.m' M2)]) (.e (.k [.g 5]) (.e (.e .z (.e (.e (.k [.g 4]) .z) .z)) (.e (.o [(5,.m' M6),(6,.m' M6)]) (.e (.e .z (.j [.dat 5 (.list 119 (T12)) (.own (.ro)),.box 2 true (T2) (.ro),.box 6 true (T6) (.ro)] [(2,⟨5,[]⟩),(6,⟨13,[]⟩)] (.j [.dat 5 (.list 119 (T12)) (.own (.ro)),.i 7,.box 2 true (T2) (.ro),.box 6 true (T6) (.ro)] [(2,⟨5,[]⟩),(6,⟨13,[]⟩)] (.e .z (.e (.e (.n ⟨[],[.g 5],none,false,(tr 0 31 15 [(15,⟨[.g 31],.ro,[5,31,46],[],none⟩),(16,.t 5)])⟩ .z .z) .z) .z)) .z) .z)) (.e (.k [.g 8]) (.e (.e .z (.j [.dat 5 (.list 119 (T12)) (.own (.ro))] [] (.j [.dat 5 (.list 119 (T12)) (.own (.ro)),.d 8,.i 9,.box 2 true (T2) (.ro)] [(2,⟨5,[]⟩)] (.e .z (.e (.e (.e (.o (tr 0 57 10 [])) (.j [.dat 5 (.list 119 (T12)) (.own (.ro)),.d 8,.i 9,.box 2 true (T2) (.ro)] [(2,⟨5,[]⟩)] (.n ⟨[],[.g 5],none,false,(tr 0 67 16 [(16,⟨[.g 67],.ro,[5,67,83],[],none⟩),(17,.t 5)])⟩ .z .z) .z)) .z) .z)) .z) .z)) (.e (.k [.g 4]) .z))))))))
theorem c118:CK C118:=ck C118 Tryz.f118 H118 [] [.tmp 4] (cc c82 (cc c124 cn))
noncomputable def C166:Cal:=⟨166,[⟨.ro,.list 119 (T12)⟩,⟨.ro,.str⟩],[⟨.int .i64,.ro⟩],fun x=>spec_VarAt x.1 x.2.1,0⟩
def H166:Hn:=(.e .z (.e (.e .z (.n ⟨[],[],(some ⟨[],[],[]⟩),true,[]⟩ (.j [.snp 0 (.list 119 (T12)) [],.snp 1 (.str) [],.i 5] [] .z .z) .z)) .z))
theorem c166:CK C166:=ck C166 Tryz.f166 H166 [] [.tmp 4] cn
noncomputable def C201:Cal:=⟨201,[⟨.ro,.list 9 (.str)⟩,⟨.ro,.str⟩],[⟨.bool,.ro⟩],fun x=>spec_l07Has x.1 x.2.1,0⟩
def H201:Hn:=(.e .z (.e (.e .z (.n ⟨[],[],(some ⟨[],[],[]⟩),true,[]⟩ (.j [.snp 0 (.list 9 (.str)) [],.snp 1 (.str) [],.i 5] [] .z .z) .z)) .z))
theorem c201:CK C201:=ck C201 Tryz.f201 H201 [] [.tmp 4] cn
end Go.Proofs.YtmakhmoielhjeaaGreatDoorE

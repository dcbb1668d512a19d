/- The functions of X reckon so (3). No condition. -/
import Derived.Test.YtmakhmoielhjeaaGreatDoorLawGX2
set_option linter.all false
namespace Go.Proofs.YtmakhmoielhjeaaGreatDoorE
set_option maxRecDepth 100000
set_option linter.all false
def P168:List Prm:=[⟨.ptr (.ro),T1⟩,⟨.ro,.int .i64⟩]
def Q168:List Ret:=[]
noncomputable def N168 (n:Nat):Cal:=⟨168,P168,Q168,fun x=>(R_spec_l07Seen_value n).1 x.1 x.2.1,0⟩
def H168:Hn:=(.e (.o [(8,.m' M7),(9,.m' M7)]) (.e (.e .z (.j [.box 0 true (T1) (.ro),.box 4 true (T7) (.ro)] [(0,⟨1,[]⟩),(4,⟨9,[]⟩)] (.j [.i 5,.box 0 true (T1) (.ro),.box 4 true (T7) (.ro)] [(0,⟨1,[]⟩),(4,⟨9,[]⟩)] .z .z) .z)) (.e .z (.e (.e (.e .z (.j [.i 30,.l 31,.box 0 true (T1) (.ro),.box 4 true (T7) (.ro)] [(0,⟨1,[]⟩),(4,⟨9,[]⟩)] .z (.e .z (.j [.i 30,.l 31,.box 0 true (T1) (.ro),.box 4 true (T7) (.ro)] [(0,⟨1,[]⟩),(4,⟨9,[]⟩)] .z (.e .z (.j [.i 30,.l 31,.box 0 true (T1) (.ro),.box 4 true (T7) (.ro)] [(0,⟨1,[]⟩),(4,⟨9,[]⟩)] .z (.e .z (.j [.i 30,.l 31,.box 0 true (T1) (.ro),.box 4 true (T7) (.ro)] [(0,⟨1,[]⟩),(4,⟨9,[]⟩)] .z .z)))))))) (.j [.box 0 true (T1) (.ro)] [] (.n ⟨[],[],(some ⟨[.box 0 true (T1) (.ro)],[],[]⟩),false,(tr 0 37 17 [(17,⟨[],.ro,[0,37,38,39,40,43,44,45,52,53],[0],none⟩)])⟩ .z .z) (.e .z (.j [.box 0 true (T1) (.ro)] [] (.e (.o (tr 0 56 7 [(7,.t 6)])) (.n ⟨[],[],(some ⟨[.box 0 true (T1) (.ro)],[],[]⟩),false,(tr 0 63 35 [(35,⟨[],.ro,[0,56,57,58,63,64,65,66,74,75,76,81,82,83,84,96,97],[0],none⟩)])⟩ .z .z)) .z)))) .z))))
noncomputable def E168 (n:Nat):Env:=⟨tab,[N168 n,C201,C202],2,98⟩
theorem d168:(fun(n:Nat) (x:HL (pts P168))=>den (E168 n) (Tryz.f168.body.getD .skip) H168 (initM 0 98 P168 x) (retK tab [] P168 Q168 []) (fun _ _=>none) (retK tab [] P168 Q168 []))=fun n=>(N168 (n+1)).F:=by kernel_rfl
theorem cN168:∀ n,Cok Tryz.prog (N168 n):=by
 intro n
 have h201:=c201
 have h202:=c202
 induction n with
 | zero=>exact cok_none (fn:=Tryz.f168) (by kernel_rfl) (by kernel_rfl) (by kernel_rfl) (fun _=>rfl)
 | succ n ih=>
  have h168:=ih
  refine ?_
  ·exact cok_of_den (E:=E168 n) (c:=N168 (n+1)) (fn:=Tryz.f168) (code:=Tryz.f168.body.getD .skip) (hn:=H168) (gr:=[]) (is:=[]) ⟨tabOk,(fun c hc=>by simp only [E168,List.mem_cons,List.not_mem_nil,or_false] at hc;rcases hc with rfl | rfl | rfl<;>assumption),mixOk⟩ ⟨by kernel_rfl,by kernel_rfl,by kernel_rfl,by kernel_rfl,by kernel_rfl,Nat.le_of_ble_eq_true rfl,by kernel_rfl⟩ (by kernel_rfl) (fun x y h=>(congrFun (congrFun d168 n) x).trans h)
noncomputable def C168:Cal:=⟨168,P168,Q168,fun x=>spec_l07Seen_value x.1 x.2.1,0⟩
theorem c168:Cok Tryz.prog C168:=cok_lim (F:=fun n=>(N168 n).F) (fun n=>(cN168 n))
def P167:List Prm:=[⟨.ptr (.ro),T1⟩,⟨.ro,.int .i64⟩]
def Q167:List Ret:=[]
noncomputable def N167 (n:Nat):Cal:=⟨167,P167,Q167,fun x=>(R_spec_l07Seen_block n).1 x.1 x.2.1,0⟩
def P200:List Prm:=[⟨.ptr (.ro),T1⟩,⟨.ro,.int .i64⟩]
def Q200:List Ret:=[]
noncomputable def N200 (n:Nat):Cal:=⟨200,P200,Q200,fun x=>(R_spec_l07Seen_block n).2.1 x.1 x.2.1,0⟩
def H167:Hn:=(.e .z (.j [.box 0 true (T1) (.ro)] [] (.j [.i 1,.i 4,.box 0 true (T1) (.ro)] [(0,⟨1,[]⟩)] .z .z) .z))
noncomputable def E167 (n:Nat):Env:=⟨tab,[N200 n],2,33⟩
theorem d167:(fun(n:Nat) (x:HL (pts P167))=>den (E167 n) (Tryz.f167.body.getD .skip) H167 (initM 0 33 P167 x) (retK tab [] P167 Q167 []) (fun _ _=>none) (retK tab [] P167 Q167 []))=fun n=>(N167 (n+1)).F:=by kernel_rfl
def H200:Hn:=(.e (.o [(8,.m' M7),(9,.m' M7)]) (.e .z (.e .z (.j [.box 0 true (T1) (.ro)] [] (.e .z (.j [.box 0 true (T1) (.ro)] [] (.o (tr 0 25 6 [(6,⟨[],.ro,[26,31],[],none⟩),(7,.t 32),(8,.t 33),(9,.t 34),(10,⟨[],.ro,[31,35],[],none⟩),(11,.t 36),(12,.t 37),(13,⟨[.z 35],.own (.ro),[0,7,8,9,10,15,25,27,28,29,35,36,37],[0],none⟩)])) (.e (.e .z (.j [.i 22,.l 38,.box 0 true (T1) (.ro),.box 4 true (T7) (.ro)] [(0,⟨1,[]⟩),(4,⟨9,[]⟩)] .z .z)) (.j [.box 0 true (T1) (.ro)] [] (.n ⟨[],[],(some ⟨[.box 0 true (T1) (.ro)],[],[]⟩),false,(tr 0 41 17 [(17,⟨[],.ro,[0,41,42,43,44,47,48,49,56,57],[0],none⟩)])⟩ .z .z) (.e (.e .z (.j [.l 58,.box 0 true (T1) (.ro),.box 4 true (T7) (.ro)] [(0,⟨1,[]⟩),(4,⟨9,[]⟩)] .z .z)) (.j [.box 0 true (T1) (.ro)] [] (.e .z (.j [.box 0 true (T1) (.ro)] [] (.j [.i 5,.box 0 true (T1) (.ro),.box 4 true (T7) (.ro)] [(0,⟨1,[]⟩),(4,⟨9,[]⟩)] (.e .z (.e (.e (.e .z (.e .z (.o [(4,.m' (.own (.ro)))]))) .z) .z)) .z) .z)) .z)))))) .z))))
noncomputable def E200 (n:Nat):Env:=⟨tab,[C168,C201,N167 n],2,83⟩
theorem d200:(fun(n:Nat) (x:HL (pts P200))=>den (E200 n) (Tryz.f200.body.getD .skip) H200 (initM 0 83 P200 x) (retK tab [] P200 Q200 []) (fun _ _=>none) (retK tab [] P200 Q200 []))=fun n=>(N200 (n+1)).F:=by kernel_rfl
theorem cN167:∀ n,Cok Tryz.prog (N167 n)∧Cok Tryz.prog (N200 n):=by
 intro n
 have h168:=c168
 have h201:=c201
 induction n with
 | zero=>exact⟨cok_none (fn:=Tryz.f167) (by kernel_rfl) (by kernel_rfl) (by kernel_rfl) (fun _=>rfl),cok_none (fn:=Tryz.f200) (by kernel_rfl) (by kernel_rfl) (by kernel_rfl) (fun _=>rfl)⟩
 | succ n ih=>
  obtain⟨h167,h200⟩:=ih
  refine⟨?_,?_⟩
  ·exact cok_of_den (E:=E167 n) (c:=N167 (n+1)) (fn:=Tryz.f167) (code:=Tryz.f167.body.getD .skip) (hn:=H167) (gr:=[]) (is:=[]) ⟨tabOk,(fun c hc=>by simp only [E167,List.mem_cons,List.not_mem_nil,or_false] at hc;rcases hc with rfl<;>assumption),mixOk⟩ ⟨by kernel_rfl,by kernel_rfl,by kernel_rfl,by kernel_rfl,by kernel_rfl,Nat.le_of_ble_eq_true rfl,by kernel_rfl⟩ (by kernel_rfl) (fun x y h=>(congrFun (congrFun d167 n) x).trans h)
  ·exact cok_of_den (E:=E200 n) (c:=N200 (n+1)) (fn:=Tryz.f200) (code:=Tryz.f200.body.getD .skip) (hn:=H200) (gr:=[]) (is:=[]) ⟨tabOk,(fun c hc=>by simp only [E200,List.mem_cons,List.not_mem_nil,or_false] at hc;rcases hc with rfl | rfl | rfl<;>assumption),mixOk⟩ ⟨by kernel_rfl,by kernel_rfl,by kernel_rfl,by kernel_rfl,by kernel_rfl,Nat.le_of_ble_eq_true rfl,by kernel_rfl⟩ (by kernel_rfl) (fun x y h=>(congrFun (congrFun d200 n) x).trans h)
noncomputable def C167:Cal:=⟨167,P167,Q167,fun x=>spec_l07Seen_block x.1 x.2.1,0⟩
theorem c167:Cok Tryz.prog C167:=cok_lim (F:=fun n=>(N167 n).F) (fun n=>(cN167 n).1)
noncomputable def C200:Cal:=⟨200,P200,Q200,fun x=>spec_l07Seen_step x.1 x.2.1,0⟩
theorem c200:Cok Tryz.prog C200:=cok_lim (F:=fun n=>(N200 n).F) (fun n=>(cN167 n).2)
noncomputable def C123:Cal:=⟨123,[⟨.ro,T2⟩],[⟨.bool,.ro⟩],fun x=>spec_NamesRight x.1,0⟩
def H123:Hn:=(.e (.o [(0,.m' M2)]) (.e .z (.e (.e .z (.n ⟨[],[],(some ⟨[],[],[]⟩),true,[]⟩ (.j [.i 3,.box 1 true (T2) (.ro)] [(1,⟨3,[]⟩)] (.e .z (.e (.n ⟨[],[],(some ⟨[.i 3,.box 1 true (T2) (.ro)],[(1,⟨3,[]⟩)],[]⟩),true,[]⟩ (.e (.k [.g 4]) (.e (.e .z (.n ⟨[],[],(some ⟨[.i 3,.box 1 true (T2) (.ro)],[(1,⟨3,[]⟩)],[]⟩),true,[]⟩ (.j [.i 3,.dat 4 (.list 119 (T12)) (.own (.ro)),.i 5,.box 1 true (T2) (.ro)] [(1,⟨3,[]⟩)] .z .z) .z)) (.e (.o [(2,.m' M1),(3,.m' M1)]) (.e (.e .z (.j [.i 3,.box 1 true (T2) (.ro),.box 39 true (T1) (.pr (.ro) (M6))] [(1,⟨3,[]⟩),(6,⟨79,[]⟩)] (.j [.i 3,.i 7,.box 1 true (T2) (.ro),.box 39 true (T1) (.pr (.ro) (M6))] [(1,⟨3,[]⟩),(6,⟨79,[]⟩)] (.e .z (.e (.e (.o (tr 0 51 16 [(16,⟨[.g 55],.ro,[6,52,53,54,55,67],[39],none⟩),(17,.t 68),(18,.t 69),(19,⟨[],.own (.ro),[6,52,53,54,67,68,69],[39],none⟩)])) .z) .z)) .z) .z)) (.e (.o [(7,.g [.w 79 (.ro)] .ro)]) (.e (.e .z (.j [.i 3,.box 1 true (T2) (.ro),.box 39 true (T1) (.ro)] [(1,⟨3,[]⟩),(6,⟨79,[]⟩)] .z .z)) .z)))))) .z) .z)) .z) .z)) .z)))
theorem c123:CK C123:=ck C123 Tryz.f123 H123 [] [.tmp 2] (cc c165 (cc c118 (cc c166 (cc c167 (cc c168 cn)))))
noncomputable def C252:Cal:=⟨252,[⟨.ro,.list 119 (T12)⟩,⟨.ro,.str⟩],[⟨.int .i64,.ro⟩],fun x=>spec_l08Var x.1 x.2.1,0⟩
def H252:Hn:=.z
theorem c252:CK C252:=ck C252 Tryz.f252 H252 [] [.tmp 4] (cc c166 cn)
def P212:List Prm:=[⟨.ro,T2⟩,⟨.ro,.list 119 (T12)⟩,⟨.ro,.int .i64⟩]
def Q212:List Ret:=[⟨.int .i64,.ro⟩]
noncomputable def N212 (n:Nat):Cal:=⟨212,P212,Q212,fun x=>(R_spec_l08Type n).1 x.1 x.2.1 x.2.2.1,0⟩
def P253:List Prm:=[⟨.ro,T2⟩,⟨.ro,.list 119 (T12)⟩,⟨.ro,.int .i64⟩]
def Q253:List Ret:=[⟨.bool,.ro⟩]
noncomputable def N253 (n:Nat):Cal:=⟨253,P253,Q253,fun x=>(R_spec_l08Type n).2.1 x.1 x.2.1 x.2.2.1,0⟩
def P254:List Prm:=[⟨.ro,T2⟩,⟨.ro,.list 119 (T12)⟩,⟨.ro,.int .i64⟩]
def Q254:List Ret:=[⟨T6,.ro⟩,⟨.bool,.ro⟩]
noncomputable def N254 (n:Nat):Cal:=⟨254,P254,Q254,fun x=>(R_spec_l08Type n).2.2.1 x.1 x.2.1 x.2.2.1,0⟩
def H212:Hn:=(.e (.o [(0,.m' M2)]) (.e (.o [(5,.m' M7),(6,.m' M7)]) (.e .z (.e (.j [.snp 1 (.list 119 (T12)) [],.i 2,.i 8,.l 9,.box 3 true (T2) (.ro),.box 7 true (T7) (.ro)] [(3,⟨7,[]⟩),(7,⟨15,[]⟩)] .z .z) (.e (.e .z (.e (.e (.e .z (.j [.snp 1 (.list 119 (T12)) [],.i 2,.i 8,.l 9,.i 32,.l 33,.box 3 true (T2) (.ro),.box 7 true (T7) (.ro)] [(3,⟨7,[]⟩),(7,⟨15,[]⟩)] .z .z)) (.e .z (.e .z (.e .z (.e .z (.n ⟨[],[],(some ⟨[],[],[]⟩),true,[]⟩ .z (.e .z (.n ⟨[],[],(some ⟨[],[],[]⟩),true,[]⟩ .z (.e .z (.n ⟨[],[],(some ⟨[],[],[]⟩),true,[]⟩ .z (.e .z (.n ⟨[],[],(some ⟨[],[],[]⟩),true,[]⟩ .z (.e .z (.n ⟨[],[],(some ⟨[],[],[]⟩),true,[]⟩ (.e (.o (tr 0 55 8 [])) .z) (.e (.e .z (.j [.snp 1 (.list 119 (T12)) [],.i 2,.i 32,.l 63,.box 3 true (T2) (.ro)] [(3,⟨7,[]⟩)] .z (.e .z (.j [.snp 1 (.list 119 (T12)) [],.i 2,.i 32,.l 63,.box 3 true (T2) (.ro)] [(3,⟨7,[]⟩)] .z .z)))) (.n ⟨[],[],(some ⟨[],[],[]⟩),true,[]⟩ .z (.e .z (.n ⟨[],[],(some ⟨[],[],[]⟩),true,[]⟩ (.e (.o [(7,.m' M6),(8,.m' M6)]) .z) .z)))))))))))))))))) .z)) .z)))))
noncomputable def E212 (n:Nat):Env:=⟨tab,[C252,N212 n,N253 n,N254 n],3,83⟩
theorem d212:(fun(n:Nat) (x:HL (pts P212))=>den (E212 n) (Tryz.f212.body.getD .skip) H212 (initM 0 83 P212 x) (retK tab [] P212 Q212 [.tmp 6]) (fun _ _=>none) (retK tab [] P212 Q212 [.tmp 6]))=fun n=>(N212 (n+1)).F:=by kernel_rfl
def H253:Hn:=(.e (.o [(0,.m' M2)]) (.e (.o [(5,.m' M7),(6,.m' M7)]) (.e (.n ⟨[],[],(some ⟨[.l 6],[],[]⟩),false,(tr 0 13 18 [(18,.t 6)])⟩ .z .z) .z)))
noncomputable def E253 (n:Nat):Env:=⟨tab,[N212 n],3,31⟩
theorem d253:(fun(n:Nat) (x:HL (pts P253))=>den (E253 n) (Tryz.f253.body.getD .skip) H253 (initM 0 31 P253 x) (retK tab [] P253 Q253 [.tmp 6]) (fun _ _=>none) (retK tab [] P253 Q253 [.tmp 6]))=fun n=>(N253 (n+1)).F:=by kernel_rfl
def H254:Hn:=(.e (.o [(0,.m' M2),(1,.m' M6)]) (.e (.o [(5,.m' M7),(6,.m' M7)]) (.e .z (.e (.e (.n ⟨[],[],(some ⟨[.snp 1 (.list 119 (T12)) [],.i 9,.l 34,.box 3 true (T2) (.ro),.box 6 true (T6) (M6),.box 8 true (T7) (.ro)],[(3,⟨7,[]⟩),(6,⟨13,[]⟩),(8,⟨17,[]⟩)],[]⟩),false,(tr 0 20 15 [])⟩ .z .z) (.e (.e (.o [(0,.m' M6),(1,.m' M6)]) .z) .z)) (.e (.e .z (.n ⟨[],[],(some ⟨[.i 9,.box 3 true (T2) (.ro),.box 6 true (T6) (M6)],[(3,⟨7,[]⟩),(6,⟨13,[]⟩)],[]⟩),true,[]⟩ (.j [.snp 1 (.list 119 (T12)) [],.i 9,.i 10,.box 3 true (T2) (.ro),.box 6 true (T6) (M6),.box 8 true (T7) (.ro)] [(3,⟨7,[]⟩),(6,⟨13,[]⟩),(8,⟨17,[]⟩)] (.e .z (.e (.e (.e (.o (tr 0 43 19 [])) (.e (.e (.o [(0,.m' M6),(1,.m' M6)]) .z) .z)) .z) .z)) .z) .z)) (.e (.o [(5,.m' M6)]) .z))))))
noncomputable def E254 (n:Nat):Env:=⟨tab,[C202,N212 n],3,68⟩
theorem d254:(fun(n:Nat) (x:HL (pts P254))=>den (E254 n) (Tryz.f254.body.getD .skip) H254 (initM 0 68 P254 x) (retK tab [.w 13 (.ro)] P254 Q254 [.cell 6 125,.tmp 7]) (fun _ _=>none) (retK tab [.w 13 (.ro)] P254 Q254 [.cell 6 125,.tmp 7]))=fun n=>(N254 (n+1)).F:=by kernel_rfl
theorem cN212:∀ n,Cok Tryz.prog (N212 n)∧Cok Tryz.prog (N253 n)∧Cok Tryz.prog (N254 n):=by
 intro n
 have h252:=c252
 have h202:=c202
 induction n with
 | zero=>exact⟨cok_none (fn:=Tryz.f212) (by kernel_rfl) (by kernel_rfl) (by kernel_rfl) (fun _=>rfl),cok_none (fn:=Tryz.f253) (by kernel_rfl) (by kernel_rfl) (by kernel_rfl) (fun _=>rfl),cok_none (fn:=Tryz.f254) (by kernel_rfl) (by kernel_rfl) (by kernel_rfl) (fun _=>rfl)⟩
 | succ n ih=>
  obtain⟨h212,h253,h254⟩:=ih
  refine⟨?_,?_,?_⟩
  ·exact cok_of_den (E:=E212 n) (c:=N212 (n+1)) (fn:=Tryz.f212) (code:=Tryz.f212.body.getD .skip) (hn:=H212) (gr:=[]) (is:=[.tmp 6]) ⟨tabOk,(fun c hc=>by simp only [E212,List.mem_cons,List.not_mem_nil,or_false] at hc;rcases hc with rfl | rfl | rfl | rfl<;>assumption),mixOk⟩ ⟨by kernel_rfl,by kernel_rfl,by kernel_rfl,by kernel_rfl,by kernel_rfl,Nat.le_of_ble_eq_true rfl,by kernel_rfl⟩ (by kernel_rfl) (fun x y h=>(congrFun (congrFun d212 n) x).trans h)
  ·exact cok_of_den (E:=E253 n) (c:=N253 (n+1)) (fn:=Tryz.f253) (code:=Tryz.f253.body.getD .skip) (hn:=H253) (gr:=[]) (is:=[.tmp 6]) ⟨tabOk,(fun c hc=>by simp only [E253,List.mem_cons,List.not_mem_nil,or_false] at hc;rcases hc with rfl<;>assumption),mixOk⟩ ⟨by kernel_rfl,by kernel_rfl,by kernel_rfl,by kernel_rfl,by kernel_rfl,Nat.le_of_ble_eq_true rfl,by kernel_rfl⟩ (by kernel_rfl) (fun x y h=>(congrFun (congrFun d253 n) x).trans h)
  ·exact cok_of_den (E:=E254 n) (c:=N254 (n+1)) (fn:=Tryz.f254) (code:=Tryz.f254.body.getD .skip) (hn:=H254) (gr:=[.w 13 (.ro)]) (is:=[.cell 6 125,.tmp 7]) ⟨tabOk,(fun c hc=>by simp only [E254,List.mem_cons,List.not_mem_nil,or_false] at hc;rcases hc with rfl | rfl<;>assumption),mixOk⟩ ⟨by kernel_rfl,by kernel_rfl,by kernel_rfl,by kernel_rfl,by kernel_rfl,Nat.le_of_ble_eq_true rfl,by kernel_rfl⟩ (by kernel_rfl) (fun x y h=>(congrFun (congrFun d254 n) x).trans h)
noncomputable def C212:Cal:=⟨212,P212,Q212,fun x=>spec_l08Type x.1 x.2.1 x.2.2.1,0⟩
theorem c212:Cok Tryz.prog C212:=cok_lim (F:=fun n=>(N212 n).F) (fun n=>(cN212 n).1)
noncomputable def C253:Cal:=⟨253,P253,Q253,fun x=>spec_l08Two x.1 x.2.1 x.2.2.1,0⟩
theorem c253:Cok Tryz.prog C253:=cok_lim (F:=fun n=>(N253 n).F) (fun n=>(cN212 n).2.1)
noncomputable def C254:Cal:=⟨254,P254,Q254,fun x=>spec_l08Sig x.1 x.2.1 x.2.2.1,0⟩
theorem c254:Cok Tryz.prog C254:=cok_lim (F:=fun n=>(N254 n).F) (fun n=>(cN212 n).2.2)
noncomputable def C210:Cal:=⟨210,[⟨.ro,T2⟩,⟨.ro,.int .i64⟩],[⟨.list 119 (T12),.own (.ro)⟩,⟨.bool,.ro⟩],fun x=>spec_l08Vars x.1 x.2.1,0⟩
def H210:Hn:=(.e (.o [(0,.m' M2)]) (.e (.k [.g 6]) (.e (.e .z (.n ⟨[],[],(some ⟨[.dat 6 (.list 119 (T12)) (.own (.ro))],[],[]⟩),true,[]⟩ (.j [.dat 6 (.list 119 (T12)) (.own (.ro)),.i 7,.box 2 true (T2) (.ro)] [(2,⟨5,[]⟩)] (.e .z (.e (.e (.e (.e .z (.j [.dat 6 (.list 119 (T12)) (.own (.ro)),.i 7,.box 2 true (T2) (.ro)] [(2,⟨5,[]⟩)] (.o (tr 0 23 19 [(19,⟨[],.ro,[6,12,17,19,20,23,26,29,31,32,40,41],[],some 12⟩)])) .z)) (.e .z (.e (.e (.k [.g 4]) .z) .z))) .z) .z)) .z) .z)) (.e (.k [.g 4]) .z))))
theorem c210:CK C210:=ck C210 Tryz.f210 H210 [] [.tmp 4,.tmp 5] (cc c118 (cc c212 cn))
def P211:List Prm:=[⟨.ro,T2⟩,⟨.ro,.list 119 (T12)⟩,⟨.ro,.int .i64⟩]
def Q211:List Ret:=[⟨.bool,.ro⟩]
noncomputable def N211 (n:Nat):Cal:=⟨211,P211,Q211,fun x=>(R_spec_l08Block n).1 x.1 x.2.1 x.2.2.1,0⟩
def P251:List Prm:=[⟨.ro,T2⟩,⟨.ro,.list 119 (T12)⟩,⟨.ro,.int .i64⟩]
def Q251:List Ret:=[⟨.bool,.ro⟩]
noncomputable def N251 (n:Nat):Cal:=⟨251,P251,Q251,fun x=>(R_spec_l08Block n).2.1 x.1 x.2.1 x.2.2.1,0⟩
def H211:Hn:=(.e (.o [(0,.m' M2)]) (.e (.e .z (.n ⟨[],[],(some ⟨[],[],[]⟩),true,[]⟩ (.j [.snp 1 (.list 119 (T12)) [],.i 2,.i 7,.box 3 true (T2) (.ro)] [(3,⟨7,[]⟩)] (.e .z (.e (.e (.e (.o (tr 0 19 13 [])) .z) .z) .z)) .z) .z)) .z))
noncomputable def E211 (n:Nat):Env:=⟨tab,[N251 n],3,32⟩
theorem d211:(fun(n:Nat) (x:HL (pts P211))=>den (E211 n) (Tryz.f211.body.getD .skip) H211 (initM 0 32 P211 x) (retK tab [] P211 Q211 [.tmp 6]) (fun _ _=>none) (retK tab [] P211 Q211 [.tmp 6]))=fun n=>(N211 (n+1)).F:=by kernel_rfl
def H251:Hn:=(.e (.o [(0,.m' M2)]) (.e (.o [(5,.m' M7),(6,.m' M7)]) (.e .z (.e (.e .z (.e (.e (.o (tr 0 21 7 [(7,⟨[],.ro,[20,27],[],none⟩),(8,.t 28),(9,.t 29),(10,⟨[],M6,[9],[9],none⟩),(11,⟨[],M6,[9],[9],none⟩),(12,.t 10)])) .z) .z)) (.e (.o (tr 0 31 7 [(7,.t 8)])) (.e .z (.e (.e .z (.e (.e .z (.e .z (.e .z (.e (.e (.j [.l 6] [] .z .z) .z) (.e .z (.e (.e (.j [.l 6] [] .z .z) .z) (.e .z (.e (.e (.n ⟨[],[],(some ⟨[.l 6],[],[]⟩),false,(tr 0 75 20 [(20,.t 6)])⟩ .z .z) .z) (.e .z (.e (.e (.n ⟨[],[],(some ⟨[.l 6],[],[]⟩),false,(tr 0 97 11 [(11,.t 6)])⟩ .z .z) .z) .z)))))))))) .z)) .z)))))))
noncomputable def E251 (n:Nat):Env:=⟨tab,[C254,C212,C252,N211 n],3,110⟩
theorem d251:(fun(n:Nat) (x:HL (pts P251))=>den (E251 n) (Tryz.f251.body.getD .skip) H251 (initM 0 110 P251 x) (retK tab [] P251 Q251 [.tmp 6]) (fun _ _=>none) (retK tab [] P251 Q251 [.tmp 6]))=fun n=>(N251 (n+1)).F:=by kernel_rfl
theorem cN211:∀ n,Cok Tryz.prog (N211 n)∧Cok Tryz.prog (N251 n):=by
 intro n
 have h254:=c254
 have h212:=c212
 have h252:=c252
 induction n with
 | zero=>exact⟨cok_none (fn:=Tryz.f211) (by kernel_rfl) (by kernel_rfl) (by kernel_rfl) (fun _=>rfl),cok_none (fn:=Tryz.f251) (by kernel_rfl) (by kernel_rfl) (by kernel_rfl) (fun _=>rfl)⟩
 | succ n ih=>
  obtain⟨h211,h251⟩:=ih
  refine⟨?_,?_⟩
  ·exact cok_of_den (E:=E211 n) (c:=N211 (n+1)) (fn:=Tryz.f211) (code:=Tryz.f211.body.getD .skip) (hn:=H211) (gr:=[]) (is:=[.tmp 6]) ⟨tabOk,(fun c hc=>by simp only [E211,List.mem_cons,List.not_mem_nil,or_false] at hc;rcases hc with rfl<;>assumption),mixOk⟩ ⟨by kernel_rfl,by kernel_rfl,by kernel_rfl,by kernel_rfl,by kernel_rfl,Nat.le_of_ble_eq_true rfl,by kernel_rfl⟩ (by kernel_rfl) (fun x y h=>(congrFun (congrFun d211 n) x).trans h)
  ·exact cok_of_den (E:=E251 n) (c:=N251 (n+1)) (fn:=Tryz.f251) (code:=Tryz.f251.body.getD .skip) (hn:=H251) (gr:=[]) (is:=[.tmp 6]) ⟨tabOk,(fun c hc=>by simp only [E251,List.mem_cons,List.not_mem_nil,or_false] at hc;rcases hc with rfl | rfl | rfl | rfl<;>assumption),mixOk⟩ ⟨by kernel_rfl,by kernel_rfl,by kernel_rfl,by kernel_rfl,by kernel_rfl,Nat.le_of_ble_eq_true rfl,by kernel_rfl⟩ (by kernel_rfl) (fun x y h=>(congrFun (congrFun d251 n) x).trans h)
noncomputable def C211:Cal:=⟨211,P211,Q211,fun x=>spec_l08Block x.1 x.2.1 x.2.2.1,0⟩
theorem c211:Cok Tryz.prog C211:=cok_lim (F:=fun n=>(N211 n).F) (fun n=>(cN211 n).1)
noncomputable def C251:Cal:=⟨251,P251,Q251,fun x=>spec_l08Step x.1 x.2.1 x.2.2.1,0⟩
theorem c251:Cok Tryz.prog C251:=cok_lim (F:=fun n=>(N251 n).F) (fun n=>(cN211 n).2)
noncomputable def C177:Cal:=⟨177,[⟨.ro,T2⟩],[⟨.bool,.ro⟩],fun x=>spec_TypesRight x.1,0⟩
def H177:Hn:=(.e (.o [(0,.m' M2)]) (.e .z (.e (.e .z (.n ⟨[],[],(some ⟨[],[],[]⟩),true,[]⟩ (.j [.i 3,.box 1 true (T2) (.ro)] [(1,⟨3,[]⟩)] (.e .z (.e (.e (.e (.k [.g 4]) (.e (.o [(5,.m' M6),(6,.m' M6)]) (.e (.n ⟨[],[.g 32],(some ⟨[.i 3,.l 52,.box 1 true (T2) (.ro)],[(1,⟨3,[]⟩)],[]⟩),false,(tr 0 28 25 [])⟩ .z .z) .z))) .z) .z)) .z) .z)) .z)))
theorem c177:CK C177:=ck C177 Tryz.f177 H177 [] [.tmp 2] (cc c123 (cc c210 (cc c211 (cc c212 cn))))
noncomputable def C213:Cal:=⟨213,[⟨.ptr (.pr (.ro) (.pr (.ro) (M3))),T0⟩,⟨.ro,.int .i64⟩],[⟨.int .i64,.ro⟩],fun x=>spec_l12Lower_temp x.1 x.2.1,0⟩
def H213:Hn:=(.e .z (.e (.o [(8,.g [.g 10] .ro),(12,.m' (.own (.ro)))]) .z))
theorem c213:CK C213:=ck C213 Tryz.f213 H213 [] [.tmp 4] cn
noncomputable def C217:Cal:=⟨217,[⟨.ptr (.pr (.ro) (.pr (.ro) (M3))),T0⟩,⟨.mov (M5),T5⟩],[⟨.int .i64,.ro⟩],fun x=>spec_l12Lower_add x.1 x.2.1,0⟩
def H217:Hn:=(.e (.o [(0,.m' M5)]) (.e (.o (tr 0 5 7 [(7,⟨[.g 11],M5,[3,11,12],[3],none⟩),(8,⟨[.g 10],M5,[0,6,7,8,9,10,12,13],[0],none⟩),(9,.t 14),(10,.t 15),(11,.t 16),(12,⟨[],.own (M5),[0,6,7,8,9,13,14,15,16],[0],none⟩)])) .z))
theorem c217:CK C217:=ck C217 Tryz.f217 H217 [] [.tmp 4] cn
noncomputable def C256:Cal:=⟨256,[⟨.ro,.int .i64⟩],[⟨.bool,.ro⟩],fun x=>spec_CopyType x.1,0⟩
def H256:Hn:=(.e .z (.e (.j [.l 2] [] .z .z) .z))
theorem c256:CK C256:=ck C256 Tryz.f256 H256 [] [.tmp 2] cn
noncomputable def C257:Cal:=⟨257,[⟨.ro,.int .i64⟩],[⟨.int .i64,.ro⟩],fun x=>spec_l12Op x.1,0⟩
def H257:Hn:=.z
theorem c257:CK C257:=ck C257 Tryz.f257 H257 [] [.tmp 2] cn
def P215:List Prm:=[⟨.ptr (.pr (.ro) (.pr (.ro) (M3))),T0⟩,⟨.ro,.int .i64⟩]
def Q215:List Ret:=[⟨.int .i64,.ro⟩]
noncomputable def N215 (n:Nat):Cal:=⟨215,P215,Q215,fun x=>(R_spec_l12Lower_value n).1 x.1 x.2.1,0⟩
def H215:Hn:=(.e .z (.e (.o [(8,.m' M7),(9,.m' M7)]) (.e (.k [.g 6]) (.e (.e .z (.j [.i 1,.d 6,.box 0 true (T0) (.pr (.ro) (.pr (.ro) (M3))),.box 5 true (T7) (.ro)] [(0,⟨1,[]⟩),(5,⟨11,[]⟩)] (.j [.i 1,.d 6,.i 7,.box 0 true (T0) (.pr (.ro) (.pr (.ro) (M3))),.box 5 true (T7) (.ro)] [(0,⟨1,[]⟩),(5,⟨11,[]⟩)] (.e .z (.e (.e (.n ⟨[],[.g 6],none,false,[(9,.g [.g 28] .ro)]⟩ .z .z) .z) .z)) .z) .z)) (.e (.o (tr 0 38 10 [(10,.t 8)])) (.e .z (.e (.e .z (.j [.d 6,.i 8,.i 9,.box 0 true (T0) (.pr (.ro) (.pr (.ro) (M3))),.box 5 true (T7) (.ro)] [(0,⟨1,[]⟩),(5,⟨11,[]⟩)] .z .z)) (.e (.e .z (.e (.e .z (.e (.e (.o [(5,.g [.g 61] M5)]) .z) (.e .z (.e (.e .z (.e (.e .z (.j [.i 9,.i 10,.box 0 true (T0) (.pr (.ro) (.pr (.ro) (M3))),.box 5 true (T7) (.ro)] [(0,⟨1,[]⟩),(5,⟨11,[]⟩)] .z .z)) (.e (.o (tr 0 69 10 [(10,⟨[],M5,[79],[],none⟩),(11,⟨[],.ro,[0,69,72,73,74,79,80],[0],none⟩)])) .z))) .z)))) .z)) (.e (.o (tr 0 82 6 [(6,⟨[],M5,[88],[],none⟩),(7,⟨[],M5,[11],[11],none⟩),(8,⟨[],M5,[11,88],[11],none⟩)])) (.e (.e .z (.j [.d 6,.i 9,.box 0 true (T0) (.pr (.ro) (.pr (.ro) (M3))),.box 11 true (T5) (M5)] [(0,⟨1,[]⟩),(11,⟨23,[]⟩)] (.o (tr 0 92 8 [(8,⟨[],.ro,[11,99],[11],none⟩)])) .z)) (.e (.e .z (.j [.d 6,.i 9,.box 0 true (T0) (.pr (.ro) (.pr (.ro) (M3))),.box 11 true (T5) (M5)] [(0,⟨1,[]⟩),(11,⟨23,[]⟩)] .z .z)) (.e (.e .z (.j [.i 9,.box 0 true (T0) (.pr (.ro) (.pr (.ro) (M3))),.box 11 true (T5) (M5)] [(0,⟨1,[]⟩),(11,⟨23,[]⟩)] .z .z)) (.e (.o [(2,.g [.g 115] .ro)]) .z)))))))))))))
noncomputable def E215 (n:Nat):Env:=⟨tab,[N215 n,C212,C213,C217,C256,C166,C257],2,118⟩
theorem d215:(fun(n:Nat) (x:HL (pts P215))=>den (E215 n) (Tryz.f215.body.getD .skip) H215 (initM 0 118 P215 x) (retK tab [] P215 Q215 [.tmp 4]) (fun _ _=>none) (retK tab [] P215 Q215 [.tmp 4]))=fun n=>(N215 (n+1)).F:=by kernel_rfl
theorem cN215:∀ n,Cok Tryz.prog (N215 n):=by
 intro n
 have h212:=c212
 have h213:=c213
 have h217:=c217
 have h256:=c256
 have h166:=c166
 have h257:=c257
 induction n with
 | zero=>exact cok_none (fn:=Tryz.f215) (by kernel_rfl) (by kernel_rfl) (by kernel_rfl) (fun _=>rfl)
 | succ n ih=>
  have h215:=ih
  refine ?_
  ·exact cok_of_den (E:=E215 n) (c:=N215 (n+1)) (fn:=Tryz.f215) (code:=Tryz.f215.body.getD .skip) (hn:=H215) (gr:=[]) (is:=[.tmp 4]) ⟨tabOk,(fun c hc=>by simp only [E215,List.mem_cons,List.not_mem_nil,or_false] at hc;rcases hc with rfl | rfl | rfl | rfl | rfl | rfl | rfl<;>assumption),mixOk⟩ ⟨by kernel_rfl,by kernel_rfl,by kernel_rfl,by kernel_rfl,by kernel_rfl,Nat.le_of_ble_eq_true rfl,by kernel_rfl⟩ (by kernel_rfl) (fun x y h=>(congrFun (congrFun d215 n) x).trans h)
noncomputable def C215:Cal:=⟨215,P215,Q215,fun x=>spec_l12Lower_value x.1 x.2.1,0⟩
theorem c215:Cok Tryz.prog C215:=cok_lim (F:=fun n=>(N215 n).F) (fun n=>(cN215 n))
noncomputable def C216:Cal:=⟨216,[⟨.ptr (.pr (.ro) (.pr (.ro) (M3))),T0⟩,⟨.ro,.int .i64⟩],[],fun x=>spec_l12Lower_drops x.1 x.2.1,0⟩
def H216:Hn:=(.e .z (.e .z (.j [.box 0 true (T0) (.pr (.ro) (.pr (.ro) (M3)))] [] (.j [.snp 4 (.list 3 (.int .i64)) [],.i 5,.box 0 true (T0) (.pr (.ro) (.pr (.ro) (M3)))] [(0,⟨1,[]⟩)] (.e .z (.e (.e (.e (.o (tr 0 23 11 [(11,⟨[],M7,[6],[6],none⟩),(12,⟨[],M7,[6],[6],none⟩)])) (.e (.n ⟨[],[],(some ⟨[.snp 4 (.list 3 (.int .i64)) [],.i 5,.l 53,.box 0 true (T0) (.pr (.ro) (.pr (.ro) (M3))),.box 6 true (T7) (.ro)],[(0,⟨1,[]⟩),(6,⟨13,[]⟩)],[]⟩),false,(tr 0 34 20 [])⟩ .z .z) (.j [.snp 4 (.list 3 (.int .i64)) [],.i 5,.box 0 true (T0) (.pr (.ro) (.pr (.ro) (M3)))] [(0,⟨1,[]⟩)] (.o (tr 0 54 8 [(8,⟨[],M5,[62],[],none⟩),(9,⟨[],.ro,[0,54,55,56,57,62,63],[0],none⟩)])) .z))) .z) .z)) .z) .z)))
theorem c216:CK C216:=ck C216 Tryz.f216 H216 [] [] (cc c166 (cc c217 cn))
def P214:List Prm:=[⟨.ptr (.pr (.ro) (.pr (.ro) (M3))),T0⟩,⟨.ro,.int .i64⟩]
def Q214:List Ret:=[]
noncomputable def N214 (n:Nat):Cal:=⟨214,P214,Q214,fun x=>(R_spec_l12Lower_steps n).1 x.1 x.2.1,0⟩
def P255:List Prm:=[⟨.ptr (.pr (.ro) (.pr (.ro) (M3))),T0⟩,⟨.ro,.int .i64⟩]
def Q255:List Ret:=[]
noncomputable def N255 (n:Nat):Cal:=⟨255,P255,Q255,fun x=>(R_spec_l12Lower_steps n).2.1 x.1 x.2.1,0⟩
def P286:List Prm:=[⟨.ptr (.pr (.ro) (.pr (.ro) (M3))),T0⟩,⟨.ro,.int .i64⟩]
def Q286:List Ret:=[]
noncomputable def N286 (n:Nat):Cal:=⟨286,P286,Q286,fun x=>(R_spec_l12Lower_steps n).2.2.1 x.1 x.2.1,0⟩
def H214:Hn:=(.e .z (.e .z (.j [.box 0 true (T0) (.pr (.ro) (.pr (.ro) (M3)))] [] (.j [.snp 4 (.list 3 (.int .i64)) [],.i 5,.box 0 true (T0) (.pr (.ro) (.pr (.ro) (M3)))] [(0,⟨1,[]⟩)] .z .z) .z)))
noncomputable def E214 (n:Nat):Env:=⟨tab,[N255 n],2,27⟩
theorem d214:(fun(n:Nat) (x:HL (pts P214))=>den (E214 n) (Tryz.f214.body.getD .skip) H214 (initM 0 27 P214 x) (retK tab [] P214 Q214 []) (fun _ _=>none) (retK tab [] P214 Q214 []))=fun n=>(N214 (n+1)).F:=by kernel_rfl
def H255:Hn:=(.e (.o [(8,.m' M7),(9,.m' M7)]) (.e .z (.e .z (.e .z (.e (.e (.e .z (.j [.i 5,.i 6,.i 31,.l 32,.box 0 true (T0) (.pr (.ro) (.pr (.ro) (M3))),.box 4 true (T7) (.ro)] [(0,⟨1,[]⟩),(4,⟨9,[]⟩)] .z .z)) (.j [.box 0 true (T0) (.pr (.ro) (.pr (.ro) (M3)))] [] (.o (tr 0 35 9 [(9,⟨[],M5,[44],[],none⟩),(10,⟨[],.ro,[0,35,36,37,38,44,45],[0],none⟩)])) (.e .z (.j [.box 0 true (T0) (.pr (.ro) (.pr (.ro) (M3)))] [] (.o (tr 0 48 9 [(9,⟨[],M5,[57],[],none⟩),(10,⟨[],.ro,[0,48,49,50,51,57,58],[0],none⟩)])) (.e .z (.j [.box 0 true (T0) (.pr (.ro) (.pr (.ro) (M3)))] [] (.o [(2,.m' M5)]) (.e .z (.j [.box 0 true (T0) (.pr (.ro) (.pr (.ro) (M3)))] [] (.e (.j [.i 6,.l 79,.box 0 true (T0) (.pr (.ro) (.pr (.ro) (M3)))] [(0,⟨1,[]⟩)] .z .z) (.j [.box 0 true (T0) (.pr (.ro) (.pr (.ro) (M3)))] [] (.o [(2,.m' M5)]) .z)) (.e .z (.j [.box 0 true (T0) (.pr (.ro) (.pr (.ro) (M3)))] [] (.e (.o [(2,.m' M5)]) (.e .z (.e (.o [(1,.m' M5)]) (.e (.o (tr 0 99 14 [(14,⟨[],.ro,[0,86,90,96,99,100,101,102,103,105,106,107,108,109,111,112],[0],some 1⟩)])) (.e .z (.o (tr 0 119 14 [(14,⟨[],.ro,[0,86,90,96,99,100,101,102,105,106,107,108,113,119,120,121,122,123,125,126,127,128,129,131,132],[0],some 1⟩)]))))))) (.e .z (.j [.box 0 true (T0) (.pr (.ro) (.pr (.ro) (M3)))] [] (.e (.o [(2,.m' M5)]) (.e .z (.e (.o [(2,.m' M5)]) (.o (tr 0 149 14 [(14,⟨[],.ro,[0,135,139,145,149,150,151,152,153,155,156,157,158,159,161,162],[0],some 1⟩)]))))) .z)))))))))))) .z)))))
noncomputable def E255 (n:Nat):Env:=⟨tab,[C215,C166,C217,N286 n],2,163⟩
theorem d255:(fun(n:Nat) (x:HL (pts P255))=>den (E255 n) (Tryz.f255.body.getD .skip) H255 (initM 0 163 P255 x) (retK tab [] P255 Q255 []) (fun _ _=>none) (retK tab [] P255 Q255 []))=fun n=>(N255 (n+1)).F:=by kernel_rfl
def H286:Hn:=.z
noncomputable def E286 (n:Nat):Env:=⟨tab,[N214 n,C216],2,10⟩
theorem d286:(fun(n:Nat) (x:HL (pts P286))=>den (E286 n) (Tryz.f286.body.getD .skip) H286 (initM 0 10 P286 x) (retK tab [] P286 Q286 []) (fun _ _=>none) (retK tab [] P286 Q286 []))=fun n=>(N286 (n+1)).F:=by kernel_rfl
theorem cN214:∀ n,Cok Tryz.prog (N214 n)∧Cok Tryz.prog (N255 n)∧Cok Tryz.prog (N286 n):=by
 intro n
 have h215:=c215
 have h166:=c166
 have h217:=c217
 have h216:=c216
 induction n with
 | zero=>exact⟨cok_none (fn:=Tryz.f214) (by kernel_rfl) (by kernel_rfl) (by kernel_rfl) (fun _=>rfl),cok_none (fn:=Tryz.f255) (by kernel_rfl) (by kernel_rfl) (by kernel_rfl) (fun _=>rfl),cok_none (fn:=Tryz.f286) (by kernel_rfl) (by kernel_rfl) (by kernel_rfl) (fun _=>rfl)⟩
 | succ n ih=>
  obtain⟨h214,h255,h286⟩:=ih
  refine⟨?_,?_,?_⟩
  ·exact cok_of_den (E:=E214 n) (c:=N214 (n+1)) (fn:=Tryz.f214) (code:=Tryz.f214.body.getD .skip) (hn:=H214) (gr:=[]) (is:=[]) ⟨tabOk,(fun c hc=>by simp only [E214,List.mem_cons,List.not_mem_nil,or_false] at hc;rcases hc with rfl<;>assumption),mixOk⟩ ⟨by kernel_rfl,by kernel_rfl,by kernel_rfl,by kernel_rfl,by kernel_rfl,Nat.le_of_ble_eq_true rfl,by kernel_rfl⟩ (by kernel_rfl) (fun x y h=>(congrFun (congrFun d214 n) x).trans h)
  ·exact cok_of_den (E:=E255 n) (c:=N255 (n+1)) (fn:=Tryz.f255) (code:=Tryz.f255.body.getD .skip) (hn:=H255) (gr:=[]) (is:=[]) ⟨tabOk,(fun c hc=>by simp only [E255,List.mem_cons,List.not_mem_nil,or_false] at hc;rcases hc with rfl | rfl | rfl | rfl<;>assumption),mixOk⟩ ⟨by kernel_rfl,by kernel_rfl,by kernel_rfl,by kernel_rfl,by kernel_rfl,Nat.le_of_ble_eq_true rfl,by kernel_rfl⟩ (by kernel_rfl) (fun x y h=>(congrFun (congrFun d255 n) x).trans h)
  ·exact cok_of_den (E:=E286 n) (c:=N286 (n+1)) (fn:=Tryz.f286) (code:=Tryz.f286.body.getD .skip) (hn:=H286) (gr:=[]) (is:=[]) ⟨tabOk,(fun c hc=>by simp only [E286,List.mem_cons,List.not_mem_nil,or_false] at hc;rcases hc with rfl | rfl<;>assumption),mixOk⟩ ⟨by kernel_rfl,by kernel_rfl,by kernel_rfl,by kernel_rfl,by kernel_rfl,Nat.le_of_ble_eq_true rfl,by kernel_rfl⟩ (by kernel_rfl) (fun x y h=>(congrFun (congrFun d286 n) x).trans h)
noncomputable def C214:Cal:=⟨214,P214,Q214,fun x=>spec_l12Lower_steps x.1 x.2.1,0⟩
theorem c214:Cok Tryz.prog C214:=cok_lim (F:=fun n=>(N214 n).F) (fun n=>(cN214 n).1)
noncomputable def C255:Cal:=⟨255,P255,Q255,fun x=>spec_l12Lower_step x.1 x.2.1,0⟩
theorem c255:Cok Tryz.prog C255:=cok_lim (F:=fun n=>(N255 n).F) (fun n=>(cN214 n).2.1)
noncomputable def C286:Cal:=⟨286,P286,Q286,fun x=>spec_l12Lower_block x.1 x.2.1,0⟩
theorem c286:Cok Tryz.prog C286:=cok_lim (F:=fun n=>(N286 n).F) (fun n=>(cN214 n).2.2)
noncomputable def C145:Cal:=⟨145,[⟨.ro,T3⟩,⟨.ro,.int .i64⟩],[⟨.bool,.ro⟩],fun x=>spec_l11Place x.1 x.2.1,0⟩
def H145:Hn:=(.e (.o [(0,.m' M3)]) .z)
theorem c145:CK C145:=ck C145 Tryz.f145 H145 [] [.tmp 4] (cc c82 cn)
noncomputable def C144:Cal:=⟨144,[⟨.ro,T3⟩,⟨.ro,T5⟩],[⟨.bool,.ro⟩],fun x=>spec_l11A x.1 x.2.1,0⟩
def H144:Hn:=(.e (.o [(0,.m' M3),(1,.m' M5)]) (.e (.e (.e (.j [.l 5,.box 2 true (T3) (.ro),.box 3 true (T5) (.ro)] [(2,⟨5,[]⟩),(3,⟨7,[]⟩)] .z .z) (.e (.e (.j [.l 4] [] .z .z) .z) .z)) .z) .z))
theorem c144:CK C144:=ck C144 Tryz.f144 H144 [] [.tmp 4] (cc c145 cn)
noncomputable def C101:Cal:=⟨101,[⟨.ro,.int .i64⟩],[⟨.bool,.ro⟩],fun x=>spec_l11HasB x.1,0⟩
def H101:Hn:=(.e .z (.e (.j [.l 2] [] .z .z) .z))
theorem c101:CK C101:=ck C101 Tryz.f101 H101 [] [.tmp 2] (cc c82 cn)
noncomputable def C102:Cal:=⟨102,[⟨.ro,.int .i64⟩],[⟨.bool,.ro⟩],fun x=>spec_l11HasC x.1,0⟩
def H102:Hn:=.z
theorem c102:CK C102:=ck C102 Tryz.f102 H102 [] [.tmp 2] (cc c82 cn)
noncomputable def C83:Cal:=⟨83,[⟨.ro,T3⟩,⟨.ro,T5⟩],[⟨.bool,.ro⟩],fun x=>spec_WordOk x.1 x.2.1,0⟩
def H83:Hn:=(.e (.o [(0,.m' M3),(1,.m' M5)]) (.e (.e (.j [.l 15,.box 2 true (T3) (.ro),.box 3 true (T5) (.ro)] [(2,⟨5,[]⟩),(3,⟨7,[]⟩)] .z .z) .z) (.e (.e (.j [.l 36,.box 2 true (T3) (.ro),.box 3 true (T5) (.ro)] [(2,⟨5,[]⟩),(3,⟨7,[]⟩)] .z .z) .z) (.e (.e (.j [.l 57,.box 2 true (T3) (.ro),.box 3 true (T5) (.ro)] [(2,⟨5,[]⟩),(3,⟨7,[]⟩)] .z .z) .z) (.e (.e .z (.e (.e .z (.n ⟨[],[],(some ⟨[.box 2 true (T3) (.ro),.box 3 true (T5) (.ro)],[(2,⟨5,[]⟩),(3,⟨7,[]⟩)],[]⟩),true,[]⟩ .z (.e (.e .z (.j [.l 69,.box 2 true (T3) (.ro),.box 3 true (T5) (.ro)] [(2,⟨5,[]⟩),(3,⟨7,[]⟩)] .z .z)) (.n ⟨[],[],(some ⟨[.box 2 true (T3) (.ro),.box 3 true (T5) (.ro)],[(2,⟨5,[]⟩),(3,⟨7,[]⟩)],[]⟩),true,[]⟩ .z .z)))) .z)) (.e (.e .z (.e (.e (.j [.l 4] [] .z .z) .z) .z)) (.e (.e .z (.n ⟨[],[],(some ⟨[.box 3 true (T5) (.ro)],[(3,⟨7,[]⟩)],[]⟩),true,[]⟩ (.j [.i 5,.box 2 true (T3) (.ro),.box 3 true (T5) (.ro)] [(2,⟨5,[]⟩),(3,⟨7,[]⟩)] (.e .z (.e (.e (.e (.o (tr 0 99 8 [])) .z) .z) .z)) .z) .z)) (.e (.j [.l 4] [] .z .z) .z))))))))
theorem c83:CK C83:=ck C83 Tryz.f83 H83 [] [.tmp 4] (cc c82 (cc c144 (cc c101 (cc c145 (cc c102 (cc c81 cn))))))
noncomputable def C15:Cal:=⟨15,[⟨.ro,T3⟩],[⟨.bool,.ro⟩],fun x=>spec_CodeOk x.1,0⟩
def H15:Hn:=(.e (.o [(0,.m' M3)]) (.e (.e (.j [.l 42,.box 1 true (T3) (.ro)] [(1,⟨3,[]⟩)] .z .z) .z) (.e (.e .z (.n ⟨[],[],(some ⟨[.box 1 true (T3) (.ro)],[(1,⟨3,[]⟩)],[]⟩),true,[]⟩ (.j [.i 3,.box 1 true (T3) (.ro)] [(1,⟨3,[]⟩)] .z .z) .z)) (.e (.e .z (.n ⟨[],[],(some ⟨[],[],[]⟩),true,[]⟩ (.j [.i 4,.box 1 true (T3) (.ro)] [(1,⟨3,[]⟩)] (.e .z (.e (.e (.e (.o (tr 0 64 8 [])) .z) .z) .z)) .z) .z)) .z))))
theorem c15:CK C15:=ck C15 Tryz.f15 H15 [] [.tmp 2] (cc c81 (cc c82 (cc c83 cn)))
end Go.Proofs.YtmakhmoielhjeaaGreatDoorE

/- The functions of X reckon so (3). No condition. -/
import Derived.Test.YtmakhmoielhjeaaGreatDoorLawGX2
set_option linter.all false
namespace Go.Proofs.YtmakhmoielhjeaaGreatDoorE
set_option maxRecDepth 100000
set_option linter.all false
def RO:List Prm:=[⟨.ptr (.ro),T1⟩,⟨.ro,.int .i64⟩]
def WY:List Ret:=[]
noncomputable def Ta (n:Nat):Cal:=⟨168,RO,WY,fun x=>(CD n).1 x.1 x.2.1,0⟩
def fd:Hn:=(.e (.o [(8,.m' M7),(9,.m' M7)]) (.e (.e .z (.j [.box 0 true (T1) (.ro),.box 4 true (T7) (.ro)] [(0,⟨1,[]⟩),(4,⟨9,[]⟩)] (.j [.i 5,.box 0 true (T1) (.ro),.box 4 true (T7) (.ro)] [(0,⟨1,[]⟩),(4,⟨9,[]⟩)] .z .z) .z)) (.e .z (.e (.e (.e .z (.j [.i 30,.l 31,.box 0 true (T1) (.ro),.box 4 true (T7) (.ro)] [(0,⟨1,[]⟩),(4,⟨9,[]⟩)] .z (.e .z (.j [.i 30,.l 31,.box 0 true (T1) (.ro),.box 4 true (T7) (.ro)] [(0,⟨1,[]⟩),(4,⟨9,[]⟩)] .z (.e .z (.j [.i 30,.l 31,.box 0 true (T1) (.ro),.box 4 true (T7) (.ro)] [(0,⟨1,[]⟩),(4,⟨9,[]⟩)] .z (.e .z (.j [.i 30,.l 31,.box 0 true (T1) (.ro),.box 4 true (T7) (.ro)] [(0,⟨1,[]⟩),(4,⟨9,[]⟩)] .z .z)))))))) (.j [.box 0 true (T1) (.ro)] [] (.n ⟨[],[],(some ⟨[.box 0 true (T1) (.ro)],[],[]⟩),false,(tr 0 37 17 [(17,⟨[],.ro,[0,37,38,39,40,43,44,45,52,53],[0],none⟩)])⟩ .z .z) (.e .z (.j [.box 0 true (T1) (.ro)] [] (.e (.o (tr 0 56 7 [(7,.t 6)])) (.n ⟨[],[],(some ⟨[.box 0 true (T1) (.ro)],[],[]⟩),false,(tr 0 63 35 [(35,⟨[],.ro,[0,56,57,58,63,64,65,66,74,75,76,81,82,83,84,96,97],[0],none⟩)])⟩ .z .z)) .z)))) .z))))
noncomputable def Zm (n:Nat):Env:=⟨tab,[Ta n,WQ,WR],2,98⟩
theorem nG:(fun(n:Nat) (x:HL (pts RO))=>den (Zm n) (Tryz.f168.body.getD .skip) fd (CL 0 98 RO x) (BV tab [] RO WY []) (fun _ _=>none) (BV tab [] RO WY []))=fun n=>(Ta (n+1)).F:=by kernel_rfl
theorem jN:∀ n,Cok Tryz.prog (Ta n):=by
 intro n
 have h201:=gj
 have h202:=aP
 induction n with
 | zero=>exact Be (fn:=Tryz.f168) (by kernel_rfl) (by kernel_rfl) (by kernel_rfl) (fun _=>rfl)
 | succ n ih=>
  have h168:=ih
  refine ?_
  ·exact BM (E:=Zm n) (c:=Ta (n+1)) (fn:=Tryz.f168) (code:=Tryz.f168.body.getD .skip) (hn:=fd) (gr:=[]) (is:=[]) ⟨CO,(fun c hc=>by simp only [Zm,List.mem_cons,List.not_mem_nil,or_false] at hc;rcases hc with rfl | rfl | rfl<;>assumption),CX⟩ ⟨by kernel_rfl,by kernel_rfl,by kernel_rfl,by kernel_rfl,by kernel_rfl,Nat.le_of_ble_eq_true rfl,by kernel_rfl⟩ (by kernel_rfl) (fun x y h=>(congrFun (congrFun nG n) x).trans h)
noncomputable def eu:Cal:=⟨168,RO,WY,fun x=>Eo x.1 x.2.1,0⟩
theorem gf:Cok Tryz.prog eu:=Bq (F:=fun n=>(Ta n).F) (fun n=>(jN n))
def RN:List Prm:=[⟨.ptr (.ro),T1⟩,⟨.ro,.int .i64⟩]
def WX:List Ret:=[]
noncomputable def TZ (n:Nat):Cal:=⟨167,RN,WX,fun x=>(An n).1 x.1 x.2.1,0⟩
def RQ:List Prm:=[⟨.ptr (.ro),T1⟩,⟨.ro,.int .i64⟩]
def Wa:List Ret:=[]
noncomputable def Td (n:Nat):Cal:=⟨200,RQ,Wa,fun x=>(An n).2.1 x.1 x.2.1,0⟩
def fb:Hn:=(.e .z (.j [.box 0 true (T1) (.ro)] [] (.j [.i 1,.i 4,.box 0 true (T1) (.ro)] [(0,⟨1,[]⟩)] .z .z) .z))
noncomputable def Zl (n:Nat):Env:=⟨tab,[Td n],2,33⟩
theorem nF:(fun(n:Nat) (x:HL (pts RN))=>den (Zl n) (Tryz.f167.body.getD .skip) fb (CL 0 33 RN x) (BV tab [] RN WX []) (fun _ _=>none) (BV tab [] RN WX []))=fun n=>(TZ (n+1)).F:=by kernel_rfl
def ff:Hn:=(.e (.o [(8,.m' M7),(9,.m' M7)]) (.e .z (.e .z (.j [.box 0 true (T1) (.ro)] [] (.e .z (.j [.box 0 true (T1) (.ro)] [] (.o (tr 0 25 6 [(6,⟨[],.ro,[26,31],[],none⟩),(7,.t 32),(8,.t 33),(9,.t 34),(10,⟨[],.ro,[31,35],[],none⟩),(11,.t 36),(12,.t 37),(13,⟨[.z 35],.own (.ro),[0,7,8,9,10,15,25,27,28,29,35,36,37],[0],none⟩)])) (.e (.e .z (.j [.i 22,.l 38,.box 0 true (T1) (.ro),.box 4 true (T7) (.ro)] [(0,⟨1,[]⟩),(4,⟨9,[]⟩)] .z .z)) (.j [.box 0 true (T1) (.ro)] [] (.n ⟨[],[],(some ⟨[.box 0 true (T1) (.ro)],[],[]⟩),false,(tr 0 41 17 [(17,⟨[],.ro,[0,41,42,43,44,47,48,49,56,57],[0],none⟩)])⟩ .z .z) (.e (.e .z (.j [.l 58,.box 0 true (T1) (.ro),.box 4 true (T7) (.ro)] [(0,⟨1,[]⟩),(4,⟨9,[]⟩)] .z .z)) (.j [.box 0 true (T1) (.ro)] [] (.e .z (.j [.box 0 true (T1) (.ro)] [] (.j [.i 5,.box 0 true (T1) (.ro),.box 4 true (T7) (.ro)] [(0,⟨1,[]⟩),(4,⟨9,[]⟩)] (.e .z (.e (.e (.e .z (.e .z (.o [(4,.m' (.own (.ro)))]))) .z) .z)) .z) .z)) .z)))))) .z))))
noncomputable def Zo (n:Nat):Env:=⟨tab,[eu,WQ,TZ n],2,83⟩
theorem nI:(fun(n:Nat) (x:HL (pts RQ))=>den (Zo n) (Tryz.f200.body.getD .skip) ff (CL 0 83 RQ x) (BV tab [] RQ Wa []) (fun _ _=>none) (BV tab [] RQ Wa []))=fun n=>(Td (n+1)).F:=by kernel_rfl
theorem cI:∀ n,Cok Tryz.prog (TZ n)∧Cok Tryz.prog (Td n):=by
 intro n
 have h168:=gf
 have h201:=gj
 induction n with
 | zero=>exact⟨Be (fn:=Tryz.f167) (by kernel_rfl) (by kernel_rfl) (by kernel_rfl) (fun _=>rfl),Be (fn:=Tryz.f200) (by kernel_rfl) (by kernel_rfl) (by kernel_rfl) (fun _=>rfl)⟩
 | succ n ih=>
  obtain⟨h167,h200⟩:=ih
  refine⟨?_,?_⟩
  ·exact BM (E:=Zl n) (c:=TZ (n+1)) (fn:=Tryz.f167) (code:=Tryz.f167.body.getD .skip) (hn:=fb) (gr:=[]) (is:=[]) ⟨CO,(fun c hc=>by simp only [Zl,List.mem_cons,List.not_mem_nil,or_false] at hc;rcases hc with rfl<;>assumption),CX⟩ ⟨by kernel_rfl,by kernel_rfl,by kernel_rfl,by kernel_rfl,by kernel_rfl,Nat.le_of_ble_eq_true rfl,by kernel_rfl⟩ (by kernel_rfl) (fun x y h=>(congrFun (congrFun nF n) x).trans h)
  ·exact BM (E:=Zo n) (c:=Td (n+1)) (fn:=Tryz.f200) (code:=Tryz.f200.body.getD .skip) (hn:=ff) (gr:=[]) (is:=[]) ⟨CO,(fun c hc=>by simp only [Zo,List.mem_cons,List.not_mem_nil,or_false] at hc;rcases hc with rfl | rfl | rfl<;>assumption),CX⟩ ⟨by kernel_rfl,by kernel_rfl,by kernel_rfl,by kernel_rfl,by kernel_rfl,Nat.le_of_ble_eq_true rfl,by kernel_rfl⟩ (by kernel_rfl) (fun x y h=>(congrFun (congrFun nI n) x).trans h)
noncomputable def jn:Cal:=⟨167,RN,WX,fun x=>HS x.1 x.2.1,0⟩
theorem mN:Cok Tryz.prog jn:=Bq (F:=fun n=>(TZ n).F) (fun n=>(cI n).1)
noncomputable def jp:Cal:=⟨200,RQ,Wa,fun x=>PL x.1 x.2.1,0⟩
theorem c200:Cok Tryz.prog jp:=Bq (F:=fun n=>(Td n).F) (fun n=>(cI n).2)
noncomputable def eR:Cal:=⟨123,[⟨.ro,T2⟩],[⟨.bool,.ro⟩],fun x=>Gq x.1,0⟩
def kS:Hn:=(.e (.o [(0,.m' M2)]) (.e .z (.e (.e .z (.n ⟨[],[],(some ⟨[],[],[]⟩),true,[]⟩ (.j [.i 3,.box 1 true (T2) (.ro)] [(1,⟨3,[]⟩)] (.e .z (.e (.n ⟨[],[],(some ⟨[.i 3,.box 1 true (T2) (.ro)],[(1,⟨3,[]⟩)],[]⟩),true,[]⟩ (.e (.k [.g 4]) (.e (.e .z (.n ⟨[],[],(some ⟨[.i 3,.box 1 true (T2) (.ro)],[(1,⟨3,[]⟩)],[]⟩),true,[]⟩ (.j [.i 3,.dat 4 (.list 119 (T12)) (.own (.ro)),.i 5,.box 1 true (T2) (.ro)] [(1,⟨3,[]⟩)] .z .z) .z)) (.e (.o [(2,.m' M1),(3,.m' M1)]) (.e (.e .z (.j [.i 3,.box 1 true (T2) (.ro),.box 39 true (T1) (.pr (.ro) (M6))] [(1,⟨3,[]⟩),(6,⟨79,[]⟩)] (.j [.i 3,.i 7,.box 1 true (T2) (.ro),.box 39 true (T1) (.pr (.ro) (M6))] [(1,⟨3,[]⟩),(6,⟨79,[]⟩)] (.e .z (.e (.e (.o (tr 0 51 16 [(16,⟨[.g 55],.ro,[6,52,53,54,55,67],[39],none⟩),(17,.t 68),(18,.t 69),(19,⟨[],.own (.ro),[6,52,53,54,67,68,69],[39],none⟩)])) .z) .z)) .z) .z)) (.e (.o [(7,.g [.w 79 (.ro)] .ro)]) (.e (.e .z (.j [.i 3,.box 1 true (T2) (.ro),.box 39 true (T1) (.ro)] [(1,⟨3,[]⟩),(6,⟨79,[]⟩)] .z .z)) .z)))))) .z) .z)) .z) .z)) .z)))
theorem mB:CK eR:=ck eR Tryz.f123 kS [] [.tmp 2] (cc ge (cc gW (cc UF (cc mN (cc gf cn)))))
noncomputable def WU:Cal:=⟨252,[⟨.ro,.list 119 (T12)⟩,⟨.ro,.str⟩],[⟨.int .i64,.ro⟩],fun x=>IJ x.1 x.2.1,0⟩
def lc:Hn:=.z
theorem gw:CK WU:=ck WU Tryz.f252 lc [] [.tmp 4] (cc UF cn)
def RU:List Prm:=[⟨.ro,T2⟩,⟨.ro,.list 119 (T12)⟩,⟨.ro,.int .i64⟩]
def Wd:List Ret:=[⟨.int .i64,.ro⟩]
noncomputable def Pa (n:Nat):Cal:=⟨212,RU,Wd,fun x=>(Aa n).1 x.1 x.2.1 x.2.2.1,0⟩
def Rb:List Prm:=[⟨.ro,T2⟩,⟨.ro,.list 119 (T12)⟩,⟨.ro,.int .i64⟩]
def Wk:List Ret:=[⟨.bool,.ro⟩]
noncomputable def Tl (n:Nat):Cal:=⟨253,Rb,Wk,fun x=>(Aa n).2.1 x.1 x.2.1 x.2.2.1,0⟩
def Rc:List Prm:=[⟨.ro,T2⟩,⟨.ro,.list 119 (T12)⟩,⟨.ro,.int .i64⟩]
def Wl:List Ret:=[⟨T6,.ro⟩,⟨.bool,.ro⟩]
noncomputable def Tm (n:Nat):Cal:=⟨254,Rc,Wl,fun x=>(Aa n).2.2.1 x.1 x.2.1 x.2.2.1,0⟩
def fi:Hn:=(.e (.o [(0,.m' M2)]) (.e (.o [(5,.m' M7),(6,.m' M7)]) (.e .z (.e (.j [.snp 1 (.list 119 (T12)) [],.i 2,.i 8,.l 9,.box 3 true (T2) (.ro),.box 7 true (T7) (.ro)] [(3,⟨7,[]⟩),(7,⟨15,[]⟩)] .z .z) (.e (.e .z (.e (.e (.e .z (.j [.snp 1 (.list 119 (T12)) [],.i 2,.i 8,.l 9,.i 32,.l 33,.box 3 true (T2) (.ro),.box 7 true (T7) (.ro)] [(3,⟨7,[]⟩),(7,⟨15,[]⟩)] .z .z)) (.e .z (.e .z (.e .z (.e .z (.n ⟨[],[],(some ⟨[],[],[]⟩),true,[]⟩ .z (.e .z (.n ⟨[],[],(some ⟨[],[],[]⟩),true,[]⟩ .z (.e .z (.n ⟨[],[],(some ⟨[],[],[]⟩),true,[]⟩ .z (.e .z (.n ⟨[],[],(some ⟨[],[],[]⟩),true,[]⟩ .z (.e .z (.n ⟨[],[],(some ⟨[],[],[]⟩),true,[]⟩ (.e (.o (tr 0 55 8 [])) .z) (.e (.e .z (.j [.snp 1 (.list 119 (T12)) [],.i 2,.i 32,.l 63,.box 3 true (T2) (.ro)] [(3,⟨7,[]⟩)] .z (.e .z (.j [.snp 1 (.list 119 (T12)) [],.i 2,.i 32,.l 63,.box 3 true (T2) (.ro)] [(3,⟨7,[]⟩)] .z .z)))) (.n ⟨[],[],(some ⟨[],[],[]⟩),true,[]⟩ .z (.e .z (.n ⟨[],[],(some ⟨[],[],[]⟩),true,[]⟩ (.e (.o [(7,.m' M6),(8,.m' M6)]) .z) .z)))))))))))))))))) .z)) .z)))))
noncomputable def Zr (n:Nat):Env:=⟨tab,[WU,Pa n,Tl n,Tm n],3,83⟩
theorem nL:(fun(n:Nat) (x:HL (pts RU))=>den (Zr n) (Tryz.f212.body.getD .skip) fi (CL 0 83 RU x) (BV tab [] RU Wd [.tmp 6]) (fun _ _=>none) (BV tab [] RU Wd [.tmp 6]))=fun n=>(Pa (n+1)).F:=by kernel_rfl
def fv:Hn:=(.e (.o [(0,.m' M2)]) (.e (.o [(5,.m' M7),(6,.m' M7)]) (.e (.n ⟨[],[],(some ⟨[.l 6],[],[]⟩),false,(tr 0 13 18 [(18,.t 6)])⟩ .z .z) .z)))
noncomputable def Zy (n:Nat):Env:=⟨tab,[Pa n],3,31⟩
theorem nS:(fun(n:Nat) (x:HL (pts Rb))=>den (Zy n) (Tryz.f253.body.getD .skip) fv (CL 0 31 Rb x) (BV tab [] Rb Wk [.tmp 6]) (fun _ _=>none) (BV tab [] Rb Wk [.tmp 6]))=fun n=>(Tl (n+1)).F:=by kernel_rfl
def fw:Hn:=(.e (.o [(0,.m' M2),(1,.m' M6)]) (.e (.o [(5,.m' M7),(6,.m' M7)]) (.e .z (.e (.e (.n ⟨[],[],(some ⟨[.snp 1 (.list 119 (T12)) [],.i 9,.l 34,.box 3 true (T2) (.ro),.box 6 true (T6) (M6),.box 8 true (T7) (.ro)],[(3,⟨7,[]⟩),(6,⟨13,[]⟩),(8,⟨17,[]⟩)],[]⟩),false,(tr 0 20 15 [])⟩ .z .z) (.e (.e (.o [(0,.m' M6),(1,.m' M6)]) .z) .z)) (.e (.e .z (.n ⟨[],[],(some ⟨[.i 9,.box 3 true (T2) (.ro),.box 6 true (T6) (M6)],[(3,⟨7,[]⟩),(6,⟨13,[]⟩)],[]⟩),true,[]⟩ (.j [.snp 1 (.list 119 (T12)) [],.i 9,.i 10,.box 3 true (T2) (.ro),.box 6 true (T6) (M6),.box 8 true (T7) (.ro)] [(3,⟨7,[]⟩),(6,⟨13,[]⟩),(8,⟨17,[]⟩)] (.e .z (.e (.e (.e (.o (tr 0 43 19 [])) (.e (.e (.o [(0,.m' M6),(1,.m' M6)]) .z) .z)) .z) .z)) .z) .z)) (.e (.o [(5,.m' M6)]) .z))))))
noncomputable def Zz (n:Nat):Env:=⟨tab,[WR,Pa n],3,68⟩
theorem nT:(fun(n:Nat) (x:HL (pts Rc))=>den (Zz n) (Tryz.f254.body.getD .skip) fw (CL 0 68 Rc x) (BV tab [.w 13 (.ro)] Rc Wl [.cell 6 125,.tmp 7]) (fun _ _=>none) (BV tab [.w 13 (.ro)] Rc Wl [.cell 6 125,.tmp 7]))=fun n=>(Tm (n+1)).F:=by kernel_rfl
theorem XE:∀ n,Cok Tryz.prog (Pa n)∧Cok Tryz.prog (Tl n)∧Cok Tryz.prog (Tm n):=by
 intro n
 have h252:=gw
 have h202:=aP
 induction n with
 | zero=>exact⟨Be (fn:=Tryz.f212) (by kernel_rfl) (by kernel_rfl) (by kernel_rfl) (fun _=>rfl),Be (fn:=Tryz.f253) (by kernel_rfl) (by kernel_rfl) (by kernel_rfl) (fun _=>rfl),Be (fn:=Tryz.f254) (by kernel_rfl) (by kernel_rfl) (by kernel_rfl) (fun _=>rfl)⟩
 | succ n ih=>
  obtain⟨h212,h253,h254⟩:=ih
  refine⟨?_,?_,?_⟩
  ·exact BM (E:=Zr n) (c:=Pa (n+1)) (fn:=Tryz.f212) (code:=Tryz.f212.body.getD .skip) (hn:=fi) (gr:=[]) (is:=[.tmp 6]) ⟨CO,(fun c hc=>by simp only [Zr,List.mem_cons,List.not_mem_nil,or_false] at hc;rcases hc with rfl | rfl | rfl | rfl<;>assumption),CX⟩ ⟨by kernel_rfl,by kernel_rfl,by kernel_rfl,by kernel_rfl,by kernel_rfl,Nat.le_of_ble_eq_true rfl,by kernel_rfl⟩ (by kernel_rfl) (fun x y h=>(congrFun (congrFun nL n) x).trans h)
  ·exact BM (E:=Zy n) (c:=Tl (n+1)) (fn:=Tryz.f253) (code:=Tryz.f253.body.getD .skip) (hn:=fv) (gr:=[]) (is:=[.tmp 6]) ⟨CO,(fun c hc=>by simp only [Zy,List.mem_cons,List.not_mem_nil,or_false] at hc;rcases hc with rfl<;>assumption),CX⟩ ⟨by kernel_rfl,by kernel_rfl,by kernel_rfl,by kernel_rfl,by kernel_rfl,Nat.le_of_ble_eq_true rfl,by kernel_rfl⟩ (by kernel_rfl) (fun x y h=>(congrFun (congrFun nS n) x).trans h)
  ·exact BM (E:=Zz n) (c:=Tm (n+1)) (fn:=Tryz.f254) (code:=Tryz.f254.body.getD .skip) (hn:=fw) (gr:=[.w 13 (.ro)]) (is:=[.cell 6 125,.tmp 7]) ⟨CO,(fun c hc=>by simp only [Zz,List.mem_cons,List.not_mem_nil,or_false] at hc;rcases hc with rfl | rfl<;>assumption),CX⟩ ⟨by kernel_rfl,by kernel_rfl,by kernel_rfl,by kernel_rfl,by kernel_rfl,Nat.le_of_ble_eq_true rfl,by kernel_rfl⟩ (by kernel_rfl) (fun x y h=>(congrFun (congrFun nT n) x).trans h)
noncomputable def ZY:Cal:=⟨212,RU,Wd,fun x=>EF x.1 x.2.1 x.2.2.1,0⟩
theorem XB:Cok Tryz.prog ZY:=Bq (F:=fun n=>(Pa n).F) (fun n=>(XE n).1)
noncomputable def jw:Cal:=⟨253,Rb,Wk,fun x=>Vc x.1 x.2.1 x.2.2.1,0⟩
theorem c253:Cok Tryz.prog jw:=Bq (F:=fun n=>(Tl n).F) (fun n=>(XE n).2.1)
noncomputable def fW:Cal:=⟨254,Rc,Wl,fun x=>KI x.1 x.2.1 x.2.2.1,0⟩
theorem mx:Cok Tryz.prog fW:=Bq (F:=fun n=>(Tm n).F) (fun n=>(XE n).2.2)
noncomputable def fM:Cal:=⟨210,[⟨.ro,T2⟩,⟨.ro,.int .i64⟩],[⟨.list 119 (T12),.own (.ro)⟩,⟨.bool,.ro⟩],fun x=>Fj x.1 x.2.1,0⟩
def lH:Hn:=(.e (.o [(0,.m' M2)]) (.e (.k [.g 6]) (.e (.e .z (.n ⟨[],[],(some ⟨[.dat 6 (.list 119 (T12)) (.own (.ro))],[],[]⟩),true,[]⟩ (.j [.dat 6 (.list 119 (T12)) (.own (.ro)),.i 7,.box 2 true (T2) (.ro)] [(2,⟨5,[]⟩)] (.e .z (.e (.e (.e (.e .z (.j [.dat 6 (.list 119 (T12)) (.own (.ro)),.i 7,.box 2 true (T2) (.ro)] [(2,⟨5,[]⟩)] (.o (tr 0 23 19 [(19,⟨[],.ro,[6,12,17,19,20,23,26,29,31,32,40,41],[],some 12⟩)])) .z)) (.e .z (.e (.e (.k [.g 4]) .z) .z))) .z) .z)) .z) .z)) (.e (.k [.g 4]) .z))))
theorem gk:CK fM:=ck fM Tryz.f210 lH [] [.tmp 4,.tmp 5] (cc gW (cc XB cn))
def RT:List Prm:=[⟨.ro,T2⟩,⟨.ro,.list 119 (T12)⟩,⟨.ro,.int .i64⟩]
def Wc:List Ret:=[⟨.bool,.ro⟩]
noncomputable def Tf (n:Nat):Cal:=⟨211,RT,Wc,fun x=>(BO n).1 x.1 x.2.1 x.2.2.1,0⟩
def Ra:List Prm:=[⟨.ro,T2⟩,⟨.ro,.list 119 (T12)⟩,⟨.ro,.int .i64⟩]
def Wj:List Ret:=[⟨.bool,.ro⟩]
noncomputable def Tk (n:Nat):Cal:=⟨251,Ra,Wj,fun x=>(BO n).2.1 x.1 x.2.1 x.2.2.1,0⟩
def fh:Hn:=(.e (.o [(0,.m' M2)]) (.e (.e .z (.n ⟨[],[],(some ⟨[],[],[]⟩),true,[]⟩ (.j [.snp 1 (.list 119 (T12)) [],.i 2,.i 7,.box 3 true (T2) (.ro)] [(3,⟨7,[]⟩)] (.e .z (.e (.e (.e (.o (tr 0 19 13 [])) .z) .z) .z)) .z) .z)) .z))
noncomputable def Zq (n:Nat):Env:=⟨tab,[Tk n],3,32⟩
theorem nK:(fun(n:Nat) (x:HL (pts RT))=>den (Zq n) (Tryz.f211.body.getD .skip) fh (CL 0 32 RT x) (BV tab [] RT Wc [.tmp 6]) (fun _ _=>none) (BV tab [] RT Wc [.tmp 6]))=fun n=>(Tf (n+1)).F:=by kernel_rfl
def fu:Hn:=(.e (.o [(0,.m' M2)]) (.e (.o [(5,.m' M7),(6,.m' M7)]) (.e .z (.e (.e .z (.e (.e (.o (tr 0 21 7 [(7,⟨[],.ro,[20,27],[],none⟩),(8,.t 28),(9,.t 29),(10,⟨[],M6,[9],[9],none⟩),(11,⟨[],M6,[9],[9],none⟩),(12,.t 10)])) .z) .z)) (.e (.o (tr 0 31 7 [(7,.t 8)])) (.e .z (.e (.e .z (.e (.e .z (.e .z (.e .z (.e (.e (.j [.l 6] [] .z .z) .z) (.e .z (.e (.e (.j [.l 6] [] .z .z) .z) (.e .z (.e (.e (.n ⟨[],[],(some ⟨[.l 6],[],[]⟩),false,(tr 0 75 20 [(20,.t 6)])⟩ .z .z) .z) (.e .z (.e (.e (.n ⟨[],[],(some ⟨[.l 6],[],[]⟩),false,(tr 0 97 11 [(11,.t 6)])⟩ .z .z) .z) .z)))))))))) .z)) .z)))))))
noncomputable def Zx (n:Nat):Env:=⟨tab,[fW,ZY,WU,Tf n],3,110⟩
theorem nR:(fun(n:Nat) (x:HL (pts Ra))=>den (Zx n) (Tryz.f251.body.getD .skip) fu (CL 0 110 Ra x) (BV tab [] Ra Wj [.tmp 6]) (fun _ _=>none) (BV tab [] Ra Wj [.tmp 6]))=fun n=>(Tk (n+1)).F:=by kernel_rfl
theorem cK:∀ n,Cok Tryz.prog (Tf n)∧Cok Tryz.prog (Tk n):=by
 intro n
 have h254:=mx
 have h212:=XB
 have h252:=gw
 induction n with
 | zero=>exact⟨Be (fn:=Tryz.f211) (by kernel_rfl) (by kernel_rfl) (by kernel_rfl) (fun _=>rfl),Be (fn:=Tryz.f251) (by kernel_rfl) (by kernel_rfl) (by kernel_rfl) (fun _=>rfl)⟩
 | succ n ih=>
  obtain⟨h211,h251⟩:=ih
  refine⟨?_,?_⟩
  ·exact BM (E:=Zq n) (c:=Tf (n+1)) (fn:=Tryz.f211) (code:=Tryz.f211.body.getD .skip) (hn:=fh) (gr:=[]) (is:=[.tmp 6]) ⟨CO,(fun c hc=>by simp only [Zq,List.mem_cons,List.not_mem_nil,or_false] at hc;rcases hc with rfl<;>assumption),CX⟩ ⟨by kernel_rfl,by kernel_rfl,by kernel_rfl,by kernel_rfl,by kernel_rfl,Nat.le_of_ble_eq_true rfl,by kernel_rfl⟩ (by kernel_rfl) (fun x y h=>(congrFun (congrFun nK n) x).trans h)
  ·exact BM (E:=Zx n) (c:=Tk (n+1)) (fn:=Tryz.f251) (code:=Tryz.f251.body.getD .skip) (hn:=fu) (gr:=[]) (is:=[.tmp 6]) ⟨CO,(fun c hc=>by simp only [Zx,List.mem_cons,List.not_mem_nil,or_false] at hc;rcases hc with rfl | rfl | rfl | rfl<;>assumption),CX⟩ ⟨by kernel_rfl,by kernel_rfl,by kernel_rfl,by kernel_rfl,by kernel_rfl,Nat.le_of_ble_eq_true rfl,by kernel_rfl⟩ (by kernel_rfl) (fun x y h=>(congrFun (congrFun nR n) x).trans h)
noncomputable def jr:Cal:=⟨211,RT,Wc,fun x=>IQ x.1 x.2.1 x.2.2.1,0⟩
theorem mh:Cok Tryz.prog jr:=Bq (F:=fun n=>(Tf n).F) (fun n=>(cK n).1)
noncomputable def jv:Cal:=⟨251,Ra,Wj,fun x=>Uy x.1 x.2.1 x.2.2.1,0⟩
theorem c251:Cok Tryz.prog jv:=Bq (F:=fun n=>(Tk n).F) (fun n=>(cK n).2)
noncomputable def fA:Cal:=⟨177,[⟨.ro,T2⟩],[⟨.bool,.ro⟩],fun x=>Gs x.1,0⟩
def kq:Hn:=(.e (.o [(0,.m' M2)]) (.e .z (.e (.e .z (.n ⟨[],[],(some ⟨[],[],[]⟩),true,[]⟩ (.j [.i 3,.box 1 true (T2) (.ro)] [(1,⟨3,[]⟩)] (.e .z (.e (.e (.e (.k [.g 4]) (.e (.o [(5,.m' M6),(6,.m' M6)]) (.e (.n ⟨[],[.g 32],(some ⟨[.i 3,.l 52,.box 1 true (T2) (.ro)],[(1,⟨3,[]⟩)],[]⟩),false,(tr 0 28 25 [])⟩ .z .z) .z))) .z) .z)) .z) .z)) .z)))
theorem mR:CK fA:=ck fA Tryz.f177 kq [] [.tmp 2] (cc mB (cc gk (cc mh (cc XB cn))))
noncomputable def ZZ:Cal:=⟨213,[⟨.ptr (.pr (.ro) (.pr (.ro) (M3))),T0⟩,⟨.ro,.int .i64⟩],[⟨.int .i64,.ro⟩],fun x=>CW x.1 x.2.1,0⟩
def lI:Hn:=(.e .z (.e (.o [(8,.g [.g 10] .ro),(12,.m' (.own (.ro)))]) .z))
theorem gm:CK ZZ:=ck ZZ Tryz.f213 lI [] [.tmp 4] cn
noncomputable def WS:Cal:=⟨217,[⟨.ptr (.pr (.ro) (.pr (.ro) (M3))),T0⟩,⟨.mov (M5),T5⟩],[⟨.int .i64,.ro⟩],fun x=>BB x.1 x.2.1,0⟩
def lK:Hn:=(.e (.o [(0,.m' M5)]) (.e (.o (tr 0 5 7 [(7,⟨[.g 11],M5,[3,11,12],[3],none⟩),(8,⟨[.g 10],M5,[0,6,7,8,9,10,12,13],[0],none⟩),(9,.t 14),(10,.t 15),(11,.t 16),(12,⟨[],.own (M5),[0,6,7,8,9,13,14,15,16],[0],none⟩)])) .z))
theorem XC:CK WS:=ck WS Tryz.f217 lK [] [.tmp 4] cn
noncomputable def Zg:Cal:=⟨256,[⟨.ro,.int .i64⟩],[⟨.bool,.ro⟩],fun x=>Kh x.1,0⟩
def ld:Hn:=(.e .z (.e (.j [.l 2] [] .z .z) .z))
theorem my:CK Zg:=ck Zg Tryz.f256 ld [] [.tmp 2] cn
noncomputable def Zh:Cal:=⟨257,[⟨.ro,.int .i64⟩],[⟨.int .i64,.ro⟩],fun x=>Nl x.1,0⟩
def lf:Hn:=.z
theorem mz:CK Zh:=ck Zh Tryz.f257 lf [] [.tmp 2] cn
def RW:List Prm:=[⟨.ptr (.pr (.ro) (.pr (.ro) (M3))),T0⟩,⟨.ro,.int .i64⟩]
def Wf:List Ret:=[⟨.int .i64,.ro⟩]
noncomputable def Th (n:Nat):Cal:=⟨215,RW,Wf,fun x=>(Bs n).1 x.1 x.2.1,0⟩
def fk:Hn:=(.e .z (.e (.o [(8,.m' M7),(9,.m' M7)]) (.e (.k [.g 6]) (.e (.e .z (.j [.i 1,.d 6,.box 0 true (T0) (.pr (.ro) (.pr (.ro) (M3))),.box 5 true (T7) (.ro)] [(0,⟨1,[]⟩),(5,⟨11,[]⟩)] (.j [.i 1,.d 6,.i 7,.box 0 true (T0) (.pr (.ro) (.pr (.ro) (M3))),.box 5 true (T7) (.ro)] [(0,⟨1,[]⟩),(5,⟨11,[]⟩)] (.e .z (.e (.e (.n ⟨[],[.g 6],none,false,[(9,.g [.g 28] .ro)]⟩ .z .z) .z) .z)) .z) .z)) (.e (.o (tr 0 38 10 [(10,.t 8)])) (.e .z (.e (.e .z (.j [.d 6,.i 8,.i 9,.box 0 true (T0) (.pr (.ro) (.pr (.ro) (M3))),.box 5 true (T7) (.ro)] [(0,⟨1,[]⟩),(5,⟨11,[]⟩)] .z .z)) (.e (.e .z (.e (.e .z (.e (.e (.o [(5,.g [.g 61] M5)]) .z) (.e .z (.e (.e .z (.e (.e .z (.j [.i 9,.i 10,.box 0 true (T0) (.pr (.ro) (.pr (.ro) (M3))),.box 5 true (T7) (.ro)] [(0,⟨1,[]⟩),(5,⟨11,[]⟩)] .z .z)) (.e (.o (tr 0 69 10 [(10,⟨[],M5,[79],[],none⟩),(11,⟨[],.ro,[0,69,72,73,74,79,80],[0],none⟩)])) .z))) .z)))) .z)) (.e (.o (tr 0 82 6 [(6,⟨[],M5,[88],[],none⟩),(7,⟨[],M5,[11],[11],none⟩),(8,⟨[],M5,[11,88],[11],none⟩)])) (.e (.e .z (.j [.d 6,.i 9,.box 0 true (T0) (.pr (.ro) (.pr (.ro) (M3))),.box 11 true (T5) (M5)] [(0,⟨1,[]⟩),(11,⟨23,[]⟩)] (.o (tr 0 92 8 [(8,⟨[],.ro,[11,99],[11],none⟩)])) .z)) (.e (.e .z (.j [.d 6,.i 9,.box 0 true (T0) (.pr (.ro) (.pr (.ro) (M3))),.box 11 true (T5) (M5)] [(0,⟨1,[]⟩),(11,⟨23,[]⟩)] .z .z)) (.e (.e .z (.j [.i 9,.box 0 true (T0) (.pr (.ro) (.pr (.ro) (M3))),.box 11 true (T5) (M5)] [(0,⟨1,[]⟩),(11,⟨23,[]⟩)] .z .z)) (.e (.o [(2,.g [.g 115] .ro)]) .z)))))))))))))
noncomputable def Zt (n:Nat):Env:=⟨tab,[Th n,ZY,ZZ,WS,Zg,WP,Zh],2,118⟩
theorem nN:(fun(n:Nat) (x:HL (pts RW))=>den (Zt n) (Tryz.f215.body.getD .skip) fk (CL 0 118 RW x) (BV tab [] RW Wf [.tmp 4]) (fun _ _=>none) (BV tab [] RW Wf [.tmp 4]))=fun n=>(Th (n+1)).F:=by kernel_rfl
theorem jP:∀ n,Cok Tryz.prog (Th n):=by
 intro n
 have h212:=XB
 have h213:=gm
 have h217:=XC
 have h256:=my
 have h166:=UF
 have h257:=mz
 induction n with
 | zero=>exact Be (fn:=Tryz.f215) (by kernel_rfl) (by kernel_rfl) (by kernel_rfl) (fun _=>rfl)
 | succ n ih=>
  have h215:=ih
  refine ?_
  ·exact BM (E:=Zt n) (c:=Th (n+1)) (fn:=Tryz.f215) (code:=Tryz.f215.body.getD .skip) (hn:=fk) (gr:=[]) (is:=[.tmp 4]) ⟨CO,(fun c hc=>by simp only [Zt,List.mem_cons,List.not_mem_nil,or_false] at hc;rcases hc with rfl | rfl | rfl | rfl | rfl | rfl | rfl<;>assumption),CX⟩ ⟨by kernel_rfl,by kernel_rfl,by kernel_rfl,by kernel_rfl,by kernel_rfl,Nat.le_of_ble_eq_true rfl,by kernel_rfl⟩ (by kernel_rfl) (fun x y h=>(congrFun (congrFun nN n) x).trans h)
noncomputable def fN:Cal:=⟨215,RW,Wf,fun x=>Cu x.1 x.2.1,0⟩
theorem gn:Cok Tryz.prog fN:=Bq (F:=fun n=>(Th n).F) (fun n=>(jP n))
noncomputable def Za:Cal:=⟨216,[⟨.ptr (.pr (.ro) (.pr (.ro) (M3))),T0⟩,⟨.ro,.int .i64⟩],[],fun x=>Ct x.1 x.2.1,0⟩
def lJ:Hn:=(.e .z (.e .z (.j [.box 0 true (T0) (.pr (.ro) (.pr (.ro) (M3)))] [] (.j [.snp 4 (.list 3 (.int .i64)) [],.i 5,.box 0 true (T0) (.pr (.ro) (.pr (.ro) (M3)))] [(0,⟨1,[]⟩)] (.e .z (.e (.e (.e (.o (tr 0 23 11 [(11,⟨[],M7,[6],[6],none⟩),(12,⟨[],M7,[6],[6],none⟩)])) (.e (.n ⟨[],[],(some ⟨[.snp 4 (.list 3 (.int .i64)) [],.i 5,.l 53,.box 0 true (T0) (.pr (.ro) (.pr (.ro) (M3))),.box 6 true (T7) (.ro)],[(0,⟨1,[]⟩),(6,⟨13,[]⟩)],[]⟩),false,(tr 0 34 20 [])⟩ .z .z) (.j [.snp 4 (.list 3 (.int .i64)) [],.i 5,.box 0 true (T0) (.pr (.ro) (.pr (.ro) (M3)))] [(0,⟨1,[]⟩)] (.o (tr 0 54 8 [(8,⟨[],M5,[62],[],none⟩),(9,⟨[],.ro,[0,54,55,56,57,62,63],[0],none⟩)])) .z))) .z) .z)) .z) .z)))
theorem go:CK Za:=ck Za Tryz.f216 lJ [] [] (cc UF (cc XC cn))
def RV:List Prm:=[⟨.ptr (.pr (.ro) (.pr (.ro) (M3))),T0⟩,⟨.ro,.int .i64⟩]
def We:List Ret:=[]
noncomputable def Tg (n:Nat):Cal:=⟨214,RV,We,fun x=>(AZ n).1 x.1 x.2.1,0⟩
def Rd:List Prm:=[⟨.ptr (.pr (.ro) (.pr (.ro) (M3))),T0⟩,⟨.ro,.int .i64⟩]
def Wm:List Ret:=[]
noncomputable def Tn (n:Nat):Cal:=⟨255,Rd,Wm,fun x=>(AZ n).2.1 x.1 x.2.1,0⟩
def Rg:List Prm:=[⟨.ptr (.pr (.ro) (.pr (.ro) (M3))),T0⟩,⟨.ro,.int .i64⟩]
def Wq:List Ret:=[]
noncomputable def Tr (n:Nat):Cal:=⟨286,Rg,Wq,fun x=>(AZ n).2.2.1 x.1 x.2.1,0⟩
def fj:Hn:=(.e .z (.e .z (.j [.box 0 true (T0) (.pr (.ro) (.pr (.ro) (M3)))] [] (.j [.snp 4 (.list 3 (.int .i64)) [],.i 5,.box 0 true (T0) (.pr (.ro) (.pr (.ro) (M3)))] [(0,⟨1,[]⟩)] .z .z) .z)))
noncomputable def Zs (n:Nat):Env:=⟨tab,[Tn n],2,27⟩
theorem nM:(fun(n:Nat) (x:HL (pts RV))=>den (Zs n) (Tryz.f214.body.getD .skip) fj (CL 0 27 RV x) (BV tab [] RV We []) (fun _ _=>none) (BV tab [] RV We []))=fun n=>(Tg (n+1)).F:=by kernel_rfl
def fx:Hn:=(.e (.o [(8,.m' M7),(9,.m' M7)]) (.e .z (.e .z (.e .z (.e (.e (.e .z (.j [.i 5,.i 6,.i 31,.l 32,.box 0 true (T0) (.pr (.ro) (.pr (.ro) (M3))),.box 4 true (T7) (.ro)] [(0,⟨1,[]⟩),(4,⟨9,[]⟩)] .z .z)) (.j [.box 0 true (T0) (.pr (.ro) (.pr (.ro) (M3)))] [] (.o (tr 0 35 9 [(9,⟨[],M5,[44],[],none⟩),(10,⟨[],.ro,[0,35,36,37,38,44,45],[0],none⟩)])) (.e .z (.j [.box 0 true (T0) (.pr (.ro) (.pr (.ro) (M3)))] [] (.o (tr 0 48 9 [(9,⟨[],M5,[57],[],none⟩),(10,⟨[],.ro,[0,48,49,50,51,57,58],[0],none⟩)])) (.e .z (.j [.box 0 true (T0) (.pr (.ro) (.pr (.ro) (M3)))] [] (.o [(2,.m' M5)]) (.e .z (.j [.box 0 true (T0) (.pr (.ro) (.pr (.ro) (M3)))] [] (.e (.j [.i 6,.l 79,.box 0 true (T0) (.pr (.ro) (.pr (.ro) (M3)))] [(0,⟨1,[]⟩)] .z .z) (.j [.box 0 true (T0) (.pr (.ro) (.pr (.ro) (M3)))] [] (.o [(2,.m' M5)]) .z)) (.e .z (.j [.box 0 true (T0) (.pr (.ro) (.pr (.ro) (M3)))] [] (.e (.o [(2,.m' M5)]) (.e .z (.e (.o [(1,.m' M5)]) (.e (.o (tr 0 99 14 [(14,⟨[],.ro,[0,86,90,96,99,100,101,102,103,105,106,107,108,109,111,112],[0],some 1⟩)])) (.e .z (.o (tr 0 119 14 [(14,⟨[],.ro,[0,86,90,96,99,100,101,102,105,106,107,108,113,119,120,121,122,123,125,126,127,128,129,131,132],[0],some 1⟩)]))))))) (.e .z (.j [.box 0 true (T0) (.pr (.ro) (.pr (.ro) (M3)))] [] (.e (.o [(2,.m' M5)]) (.e .z (.e (.o [(2,.m' M5)]) (.o (tr 0 149 14 [(14,⟨[],.ro,[0,135,139,145,149,150,151,152,153,155,156,157,158,159,161,162],[0],some 1⟩)]))))) .z)))))))))))) .z)))))
noncomputable def aA (n:Nat):Env:=⟨tab,[fN,WP,WS,Tr n],2,163⟩
theorem nU:(fun(n:Nat) (x:HL (pts Rd))=>den (aA n) (Tryz.f255.body.getD .skip) fx (CL 0 163 Rd x) (BV tab [] Rd Wm []) (fun _ _=>none) (BV tab [] Rd Wm []))=fun n=>(Tn (n+1)).F:=by kernel_rfl
def gB:Hn:=.z
noncomputable def aD (n:Nat):Env:=⟨tab,[Tg n,Za],2,10⟩
theorem nX:(fun(n:Nat) (x:HL (pts Rg))=>den (aD n) (Tryz.f286.body.getD .skip) gB (CL 0 10 Rg x) (BV tab [] Rg Wq []) (fun _ _=>none) (BV tab [] Rg Wq []))=fun n=>(Tr (n+1)).F:=by kernel_rfl
theorem XF:∀ n,Cok Tryz.prog (Tg n)∧Cok Tryz.prog (Tn n)∧Cok Tryz.prog (Tr n):=by
 intro n
 have h215:=gn
 have h166:=UF
 have h217:=XC
 have h216:=go
 induction n with
 | zero=>exact⟨Be (fn:=Tryz.f214) (by kernel_rfl) (by kernel_rfl) (by kernel_rfl) (fun _=>rfl),Be (fn:=Tryz.f255) (by kernel_rfl) (by kernel_rfl) (by kernel_rfl) (fun _=>rfl),Be (fn:=Tryz.f286) (by kernel_rfl) (by kernel_rfl) (by kernel_rfl) (fun _=>rfl)⟩
 | succ n ih=>
  obtain⟨h214,h255,h286⟩:=ih
  refine⟨?_,?_,?_⟩
  ·exact BM (E:=Zs n) (c:=Tg (n+1)) (fn:=Tryz.f214) (code:=Tryz.f214.body.getD .skip) (hn:=fj) (gr:=[]) (is:=[]) ⟨CO,(fun c hc=>by simp only [Zs,List.mem_cons,List.not_mem_nil,or_false] at hc;rcases hc with rfl<;>assumption),CX⟩ ⟨by kernel_rfl,by kernel_rfl,by kernel_rfl,by kernel_rfl,by kernel_rfl,Nat.le_of_ble_eq_true rfl,by kernel_rfl⟩ (by kernel_rfl) (fun x y h=>(congrFun (congrFun nM n) x).trans h)
  ·exact BM (E:=aA n) (c:=Tn (n+1)) (fn:=Tryz.f255) (code:=Tryz.f255.body.getD .skip) (hn:=fx) (gr:=[]) (is:=[]) ⟨CO,(fun c hc=>by simp only [aA,List.mem_cons,List.not_mem_nil,or_false] at hc;rcases hc with rfl | rfl | rfl | rfl<;>assumption),CX⟩ ⟨by kernel_rfl,by kernel_rfl,by kernel_rfl,by kernel_rfl,by kernel_rfl,Nat.le_of_ble_eq_true rfl,by kernel_rfl⟩ (by kernel_rfl) (fun x y h=>(congrFun (congrFun nU n) x).trans h)
  ·exact BM (E:=aD n) (c:=Tr (n+1)) (fn:=Tryz.f286) (code:=Tryz.f286.body.getD .skip) (hn:=gB) (gr:=[]) (is:=[]) ⟨CO,(fun c hc=>by simp only [aD,List.mem_cons,List.not_mem_nil,or_false] at hc;rcases hc with rfl | rfl<;>assumption),CX⟩ ⟨by kernel_rfl,by kernel_rfl,by kernel_rfl,by kernel_rfl,by kernel_rfl,Nat.le_of_ble_eq_true rfl,by kernel_rfl⟩ (by kernel_rfl) (fun x y h=>(congrFun (congrFun nX n) x).trans h)
noncomputable def js:Cal:=⟨214,RV,We,fun x=>EM x.1 x.2.1,0⟩
theorem mi:Cok Tryz.prog js:=Bq (F:=fun n=>(Tg n).F) (fun n=>(XF n).1)
noncomputable def jx:Cal:=⟨255,Rd,Wm,fun x=>Og x.1 x.2.1,0⟩
theorem c255:Cok Tryz.prog jx:=Bq (F:=fun n=>(Tn n).F) (fun n=>(XF n).2.1)
noncomputable def kA:Cal:=⟨286,Rg,Wq,fun x=>Nz x.1 x.2.1,0⟩
theorem c286:Cok Tryz.prog kA:=Bq (F:=fun n=>(Tr n).F) (fun n=>(XF n).2.2)
noncomputable def ei:Cal:=⟨145,[⟨.ro,T3⟩,⟨.ro,.int .i64⟩],[⟨.bool,.ro⟩],fun x=>Cp x.1 x.2.1,0⟩
def kg:Hn:=(.e (.o [(0,.m' M3)]) .z)
theorem gb:CK ei:=ck ei Tryz.f145 kg [] [.tmp 4] (cc c82 cn)
noncomputable def eh:Cal:=⟨144,[⟨.ro,T3⟩,⟨.ro,T5⟩],[⟨.bool,.ro⟩],fun x=>MZ x.1 x.2.1,0⟩
def kf:Hn:=(.e (.o [(0,.m' M3),(1,.m' M5)]) (.e (.e (.e (.j [.l 5,.box 2 true (T3) (.ro),.box 3 true (T5) (.ro)] [(2,⟨5,[]⟩),(3,⟨7,[]⟩)] .z .z) (.e (.e (.j [.l 4] [] .z .z) .z) .z)) .z) .z))
theorem mK:CK eh:=ck eh Tryz.f144 kf [] [.tmp 4] (cc gb cn)
noncomputable def dz:Cal:=⟨101,[⟨.ro,.int .i64⟩],[⟨.bool,.ro⟩],fun x=>Fk x.1,0⟩
def kF:Hn:=(.e .z (.e (.j [.l 2] [] .z .z) .z))
theorem lr:CK dz:=ck dz Tryz.f101 kF [] [.tmp 2] (cc c82 cn)
noncomputable def eD:Cal:=⟨102,[⟨.ro,.int .i64⟩],[⟨.bool,.ro⟩],fun x=>Fm x.1,0⟩
def kG:Hn:=.z
theorem lu:CK eD:=ck eD Tryz.f102 kG [] [.tmp 2] (cc c82 cn)
noncomputable def C83:Cal:=⟨83,[⟨.ro,T3⟩,⟨.ro,T5⟩],[⟨.bool,.ro⟩],fun x=>KH x.1 x.2.1,0⟩
def H83:Hn:=(.e (.o [(0,.m' M3),(1,.m' M5)]) (.e (.e (.j [.l 15,.box 2 true (T3) (.ro),.box 3 true (T5) (.ro)] [(2,⟨5,[]⟩),(3,⟨7,[]⟩)] .z .z) .z) (.e (.e (.j [.l 36,.box 2 true (T3) (.ro),.box 3 true (T5) (.ro)] [(2,⟨5,[]⟩),(3,⟨7,[]⟩)] .z .z) .z) (.e (.e (.j [.l 57,.box 2 true (T3) (.ro),.box 3 true (T5) (.ro)] [(2,⟨5,[]⟩),(3,⟨7,[]⟩)] .z .z) .z) (.e (.e .z (.e (.e .z (.n ⟨[],[],(some ⟨[.box 2 true (T3) (.ro),.box 3 true (T5) (.ro)],[(2,⟨5,[]⟩),(3,⟨7,[]⟩)],[]⟩),true,[]⟩ .z (.e (.e .z (.j [.l 69,.box 2 true (T3) (.ro),.box 3 true (T5) (.ro)] [(2,⟨5,[]⟩),(3,⟨7,[]⟩)] .z .z)) (.n ⟨[],[],(some ⟨[.box 2 true (T3) (.ro),.box 3 true (T5) (.ro)],[(2,⟨5,[]⟩),(3,⟨7,[]⟩)],[]⟩),true,[]⟩ .z .z)))) .z)) (.e (.e .z (.e (.e (.j [.l 4] [] .z .z) .z) .z)) (.e (.e .z (.n ⟨[],[],(some ⟨[.box 3 true (T5) (.ro)],[(3,⟨7,[]⟩)],[]⟩),true,[]⟩ (.j [.i 5,.box 2 true (T3) (.ro),.box 3 true (T5) (.ro)] [(2,⟨5,[]⟩),(3,⟨7,[]⟩)] (.e .z (.e (.e (.e (.o (tr 0 99 8 [])) .z) .z) .z)) .z) .z)) (.e (.j [.l 4] [] .z .z) .z))))))))
theorem c83:CK C83:=ck C83 Tryz.f83 H83 [] [.tmp 4] (cc c82 (cc mK (cc lr (cc gb (cc lu (cc c81 cn))))))
noncomputable def C15:Cal:=⟨15,[⟨.ro,T3⟩],[⟨.bool,.ro⟩],fun x=>Dq x.1,0⟩
def H15:Hn:=(.e (.o [(0,.m' M3)]) (.e (.e (.j [.l 42,.box 1 true (T3) (.ro)] [(1,⟨3,[]⟩)] .z .z) .z) (.e (.e .z (.n ⟨[],[],(some ⟨[.box 1 true (T3) (.ro)],[(1,⟨3,[]⟩)],[]⟩),true,[]⟩ (.j [.i 3,.box 1 true (T3) (.ro)] [(1,⟨3,[]⟩)] .z .z) .z)) (.e (.e .z (.n ⟨[],[],(some ⟨[],[],[]⟩),true,[]⟩ (.j [.i 4,.box 1 true (T3) (.ro)] [(1,⟨3,[]⟩)] (.e .z (.e (.e (.e (.o (tr 0 64 8 [])) .z) .z) .z)) .z) .z)) .z))))
theorem c15:CK C15:=ck C15 Tryz.f15 H15 [] [.tmp 2] (cc c81 (cc c82 (cc c83 cn)))
end Go.Proofs.YtmakhmoielhjeaaGreatDoorE

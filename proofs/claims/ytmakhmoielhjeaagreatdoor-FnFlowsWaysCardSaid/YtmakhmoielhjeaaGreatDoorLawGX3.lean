/- The functions of X reckon so (3). No condition. -/
import Derived.Test.YtmakhmoielhjeaaGreatDoorLawGX2
set_option linter.all false
namespace Go.Proofs.YtmakhmoielhjeaaGreatDoorE
noncomputable section
set_option maxRecDepth 100000
def RF:List Prm:=[⟨.ptr (.ro),T1⟩,⟨.ro,.int .i64⟩]
def WO:List Ret:=[]
def TN (n:Nat):Cal:=⟨168,RF,WO,fun x=>(CC n).1 x.1 x.2.1,0⟩
def fW:Hn:=(.e (.o [(8,.m' M7),(9,.m' M7)]) (.e (.e .z (.j [.box 0 true (T1) (.ro),.box 4 true (T7) (.ro)] [(0,⟨1,[]⟩),(4,⟨9,[]⟩)] (.j [.i 5,.box 0 true (T1) (.ro),.box 4 true (T7) (.ro)] [(0,⟨1,[]⟩),(4,⟨9,[]⟩)] .z .z) .z)) (.e .z (.e (.e (.e .z (.j [.i 30,.l 31,.box 0 true (T1) (.ro),.box 4 true (T7) (.ro)] [(0,⟨1,[]⟩),(4,⟨9,[]⟩)] .z (.e .z (.j [.i 30,.l 31,.box 0 true (T1) (.ro),.box 4 true (T7) (.ro)] [(0,⟨1,[]⟩),(4,⟨9,[]⟩)] .z (.e .z (.j [.i 30,.l 31,.box 0 true (T1) (.ro),.box 4 true (T7) (.ro)] [(0,⟨1,[]⟩),(4,⟨9,[]⟩)] .z (.e .z (.j [.i 30,.l 31,.box 0 true (T1) (.ro),.box 4 true (T7) (.ro)] [(0,⟨1,[]⟩),(4,⟨9,[]⟩)] .z .z)))))))) (.j [.box 0 true (T1) (.ro)] [] (.n ⟨[],[],(some ⟨[.box 0 true (T1) (.ro)],[],[]⟩),false,(tr 0 37 17 [(17,⟨[],.ro,[0,37,38,39,40,43,44,45,52,53],[0],none⟩)])⟩ .z .z) (.e .z (.j [.box 0 true (T1) (.ro)] [] (.e (.o (tr 0 56 7 [(7,.t 6)])) (.n ⟨[],[],(some ⟨[.box 0 true (T1) (.ro)],[],[]⟩),false,(tr 0 63 35 [(35,⟨[],.ro,[0,56,57,58,63,64,65,66,74,75,76,81,82,83,84,96,97],[0],none⟩)])⟩ .z .z)) .z)))) .z))))
def Zk (n:Nat):Env:=⟨tab,[TN n,WG,WH],2,98⟩
theorem nA:(fun(n:Nat) (x:HL (pts RF))=>den (Zk n) (Tryz.f168.body.getD .skip) fW (CL 0 98 RF x) (BX tab [] RF WO []) (fun _ _=>none) (BX tab [] RF WO []))=fun n=>(TN (n+1)).F:=by kernel_rfl
theorem jD:∀ n,Cok Tryz.prog (TN n):=by
 intro n;have h201:=gY
 have h202:=aO
 induction n with
 | zero=>exact Bf (fn:=Tryz.f168) (by kernel_rfl) (by kernel_rfl) (by kernel_rfl) (fun _=>rfl)
 | succ n ih=>
  have h168:=ih
  refine ?_
  ·exact BL (E:=Zk n) (c:=TN (n+1)) (fn:=Tryz.f168) (code:=Tryz.f168.body.getD .skip) (hn:=fW) (gr:=[]) (is:=[]) ⟨CN,(fun c hc=>by simp only [Zk,List.mem_cons,List.not_mem_nil,or_false] at hc;rcases hc with rfl | rfl | rfl<;>assumption),CX⟩ ⟨by kernel_rfl,by kernel_rfl,by kernel_rfl,by kernel_rfl,by kernel_rfl,Nat.le_of_ble_eq_true rfl,by kernel_rfl⟩ (by kernel_rfl) (fun x y h=>(congrFun (congrFun nA n) x).trans h)
def eg:Cal:=⟨168,RF,WO,fun x=>Eo x.1 x.2.1,0⟩
theorem gW:Cok Tryz.prog eg:=Bn (F:=fun n=>(TN n).F) (fun n=>(jD n))
def RE:List Prm:=[⟨.ptr (.ro),T1⟩,⟨.ro,.int .i64⟩]
def WN:List Ret:=[]
def TM (n:Nat):Cal:=⟨167,RE,WN,fun x=>(An n).1 x.1 x.2.1,0⟩
def RH:List Prm:=[⟨.ptr (.ro),T1⟩,⟨.ro,.int .i64⟩]
def WQ:List Ret:=[]
def TQ (n:Nat):Cal:=⟨200,RH,WQ,fun x=>(An n).2.1 x.1 x.2.1,0⟩
def fV:Hn:=(.e .z (.j [.box 0 true (T1) (.ro)] [] (.j [.i 1,.i 4,.box 0 true (T1) (.ro)] [(0,⟨1,[]⟩)] .z .z) .z))
def Zj (n:Nat):Env:=⟨tab,[TQ n],2,33⟩
theorem mz:(fun(n:Nat) (x:HL (pts RE))=>den (Zj n) (Tryz.f167.body.getD .skip) fV (CL 0 33 RE x) (BX tab [] RE WN []) (fun _ _=>none) (BX tab [] RE WN []))=fun n=>(TM (n+1)).F:=by kernel_rfl
def fY:Hn:=(.e (.o [(8,.m' M7),(9,.m' M7)]) (.e .z (.e .z (.j [.box 0 true (T1) (.ro)] [] (.e .z (.j [.box 0 true (T1) (.ro)] [] (.o (tr 0 25 6 [(6,⟨[],.ro,[26,31],[],none⟩),(7,.t 32),(8,.t 33),(9,.t 34),(10,⟨[],.ro,[31,35],[],none⟩),(11,.t 36),(12,.t 37),(13,⟨[.z 35],.own (.ro),[0,7,8,9,10,15,25,27,28,29,35,36,37],[0],none⟩)])) (.e (.e .z (.j [.i 22,.l 38,.box 0 true (T1) (.ro),.box 4 true (T7) (.ro)] [(0,⟨1,[]⟩),(4,⟨9,[]⟩)] .z .z)) (.j [.box 0 true (T1) (.ro)] [] (.n ⟨[],[],(some ⟨[.box 0 true (T1) (.ro)],[],[]⟩),false,(tr 0 41 17 [(17,⟨[],.ro,[0,41,42,43,44,47,48,49,56,57],[0],none⟩)])⟩ .z .z) (.e (.e .z (.j [.l 58,.box 0 true (T1) (.ro),.box 4 true (T7) (.ro)] [(0,⟨1,[]⟩),(4,⟨9,[]⟩)] .z .z)) (.j [.box 0 true (T1) (.ro)] [] (.e .z (.j [.box 0 true (T1) (.ro)] [] (.j [.i 5,.box 0 true (T1) (.ro),.box 4 true (T7) (.ro)] [(0,⟨1,[]⟩),(4,⟨9,[]⟩)] (.e .z (.e (.e (.e .z (.e .z (.o [(4,.m' (.own (.ro)))]))) .z) .z)) .z) .z)) .z)))))) .z))))
def Zm (n:Nat):Env:=⟨tab,[eg,WG,TM n],2,83⟩
theorem nC:(fun(n:Nat) (x:HL (pts RH))=>den (Zm n) (Tryz.f200.body.getD .skip) fY (CL 0 83 RH x) (BX tab [] RH WQ []) (fun _ _=>none) (BX tab [] RH WQ []))=fun n=>(TQ (n+1)).F:=by kernel_rfl
theorem cJ:∀ n,Cok Tryz.prog (TM n)∧Cok Tryz.prog (TQ n):=by
 intro n;have h168:=gW
 have h201:=gY
 induction n with
 | zero=>exact⟨Bf (fn:=Tryz.f167) (by kernel_rfl) (by kernel_rfl) (by kernel_rfl) (fun _=>rfl),Bf (fn:=Tryz.f200) (by kernel_rfl) (by kernel_rfl) (by kernel_rfl) (fun _=>rfl)⟩
 | succ n ih=>
  obtain⟨h167,h200⟩:=ih;refine⟨?_,?_⟩
  ·exact BL (E:=Zj n) (c:=TM (n+1)) (fn:=Tryz.f167) (code:=Tryz.f167.body.getD .skip) (hn:=fV) (gr:=[]) (is:=[]) ⟨CN,(fun c hc=>by simp only [Zj,List.mem_cons,List.not_mem_nil,or_false] at hc;rcases hc with rfl<;>assumption),CX⟩ ⟨by kernel_rfl,by kernel_rfl,by kernel_rfl,by kernel_rfl,by kernel_rfl,Nat.le_of_ble_eq_true rfl,by kernel_rfl⟩ (by kernel_rfl) (fun x y h=>(congrFun (congrFun mz n) x).trans h)
  ·exact BL (E:=Zm n) (c:=TQ (n+1)) (fn:=Tryz.f200) (code:=Tryz.f200.body.getD .skip) (hn:=fY) (gr:=[]) (is:=[]) ⟨CN,(fun c hc=>by simp only [Zm,List.mem_cons,List.not_mem_nil,or_false] at hc;rcases hc with rfl | rfl | rfl<;>assumption),CX⟩ ⟨by kernel_rfl,by kernel_rfl,by kernel_rfl,by kernel_rfl,by kernel_rfl,Nat.le_of_ble_eq_true rfl,by kernel_rfl⟩ (by kernel_rfl) (fun x y h=>(congrFun (congrFun nC n) x).trans h)
def jf:Cal:=⟨167,RE,WN,fun x=>HN x.1 x.2.1,0⟩
theorem mH:Cok Tryz.prog jf:=Bn (F:=fun n=>(TM n).F) (fun n=>(cJ n).1)
def jh:Cal:=⟨200,RH,WQ,fun x=>PG x.1 x.2.1,0⟩
theorem c200:Cok Tryz.prog jh:=Bn (F:=fun n=>(TQ n).F) (fun n=>(cJ n).2)
def eI:Cal:=⟨123,[⟨.ro,T2⟩],[⟨.bool,.ro⟩],fun x=>Gl x.1,0⟩
def kL:Hn:=(.e (.o [(0,.m' M2)]) (.e .z (.e (.e .z (.n ⟨[],[],(some ⟨[],[],[]⟩),true,[]⟩ (.j [.i 3,.box 1 true (T2) (.ro)] [(1,⟨3,[]⟩)] (.e .z (.e (.n ⟨[],[],(some ⟨[.i 3,.box 1 true (T2) (.ro)],[(1,⟨3,[]⟩)],[]⟩),true,[]⟩ (.e (.k [.g 4]) (.e (.e .z (.n ⟨[],[],(some ⟨[.i 3,.box 1 true (T2) (.ro)],[(1,⟨3,[]⟩)],[]⟩),true,[]⟩ (.j [.i 3,.dat 4 (.list 119 (T12)) (.own (.ro)),.i 5,.box 1 true (T2) (.ro)] [(1,⟨3,[]⟩)] .z .z) .z)) (.e (.o [(2,.m' M1),(3,.m' M1)]) (.e (.e .z (.j [.i 3,.box 1 true (T2) (.ro),.box 39 true (T1) (.pr (.ro) (M6))] [(1,⟨3,[]⟩),(6,⟨79,[]⟩)] (.j [.i 3,.i 7,.box 1 true (T2) (.ro),.box 39 true (T1) (.pr (.ro) (M6))] [(1,⟨3,[]⟩),(6,⟨79,[]⟩)] (.e .z (.e (.e (.o (tr 0 51 16 [(16,⟨[.g 55],.ro,[6,52,53,54,55,67],[39],none⟩),(17,.t 68),(18,.t 69),(19,⟨[],.own (.ro),[6,52,53,54,67,68,69],[39],none⟩)])) .z) .z)) .z) .z)) (.e (.o [(7,.g [.w 79 (.ro)] .ro)]) (.e (.e .z (.j [.i 3,.box 1 true (T2) (.ro),.box 39 true (T1) (.ro)] [(1,⟨3,[]⟩),(6,⟨79,[]⟩)] .z .z)) .z)))))) .z) .z)) .z) .z)) .z)))
theorem lq:CK eI:=ck eI Tryz.f123 kL [] [.tmp 2] (cc gU (cc gO (cc Tp (cc mH (cc gW cn)))))
def WK:Cal:=⟨252,[⟨.ro,.list 119 (T12)⟩,⟨.ro,.str⟩],[⟨.int .i64,.ro⟩],fun x=>IC x.1 x.2.1,0⟩
def lU:Hn:=.z
theorem gm:CK WK:=ck WK Tryz.f252 lU [] [.tmp 4] (cc Tp cn)
def RK:List Prm:=[⟨.ro,T2⟩,⟨.ro,.list 119 (T12)⟩,⟨.ro,.int .i64⟩]
def WT:List Ret:=[⟨.int .i64,.ro⟩]
def PX (n:Nat):Cal:=⟨212,RK,WT,fun x=>(AZ n).1 x.1 x.2.1 x.2.2.1,0⟩
def RT:List Prm:=[⟨.ro,T2⟩,⟨.ro,.list 119 (T12)⟩,⟨.ro,.int .i64⟩]
def Wa:List Ret:=[⟨.bool,.ro⟩]
def TY (n:Nat):Cal:=⟨253,RT,Wa,fun x=>(AZ n).2.1 x.1 x.2.1 x.2.2.1,0⟩
def RU:List Prm:=[⟨.ro,T2⟩,⟨.ro,.list 119 (T12)⟩,⟨.ro,.int .i64⟩]
def Wb:List Ret:=[⟨T6,.ro⟩,⟨.bool,.ro⟩]
def TZ (n:Nat):Cal:=⟨254,RU,Wb,fun x=>(AZ n).2.2.1 x.1 x.2.1 x.2.2.1,0⟩
def fb:Hn:=(.e (.o [(0,.m' M2)]) (.e (.o [(5,.m' M7),(6,.m' M7)]) (.e .z (.e (.j [.snp 1 (.list 119 (T12)) [],.i 2,.i 8,.l 9,.box 3 true (T2) (.ro),.box 7 true (T7) (.ro)] [(3,⟨7,[]⟩),(7,⟨15,[]⟩)] .z .z) (.e (.e .z (.e (.e (.e .z (.j [.snp 1 (.list 119 (T12)) [],.i 2,.i 8,.l 9,.i 32,.l 33,.box 3 true (T2) (.ro),.box 7 true (T7) (.ro)] [(3,⟨7,[]⟩),(7,⟨15,[]⟩)] .z .z)) (.e .z (.e .z (.e .z (.e .z (.n ⟨[],[],(some ⟨[],[],[]⟩),true,[]⟩ .z (.e .z (.n ⟨[],[],(some ⟨[],[],[]⟩),true,[]⟩ .z (.e .z (.n ⟨[],[],(some ⟨[],[],[]⟩),true,[]⟩ .z (.e .z (.n ⟨[],[],(some ⟨[],[],[]⟩),true,[]⟩ .z (.e .z (.n ⟨[],[],(some ⟨[],[],[]⟩),true,[]⟩ (.e (.o (tr 0 55 8 [])) .z) (.e (.e .z (.j [.snp 1 (.list 119 (T12)) [],.i 2,.i 32,.l 63,.box 3 true (T2) (.ro)] [(3,⟨7,[]⟩)] .z (.e .z (.j [.snp 1 (.list 119 (T12)) [],.i 2,.i 32,.l 63,.box 3 true (T2) (.ro)] [(3,⟨7,[]⟩)] .z .z)))) (.n ⟨[],[],(some ⟨[],[],[]⟩),true,[]⟩ .z (.e .z (.n ⟨[],[],(some ⟨[],[],[]⟩),true,[]⟩ (.e (.o [(7,.m' M6),(8,.m' M6)]) .z) .z)))))))))))))))))) .z)) .z)))))
def Zp (n:Nat):Env:=⟨tab,[WK,PX n,TY n,TZ n],3,83⟩
theorem nF:(fun(n:Nat) (x:HL (pts RK))=>den (Zp n) (Tryz.f212.body.getD .skip) fb (CL 0 83 RK x) (BX tab [] RK WT [.tmp 6]) (fun _ _=>none) (BX tab [] RK WT [.tmp 6]))=fun n=>(PX (n+1)).F:=by kernel_rfl
def fj:Hn:=(.e (.o [(0,.m' M2)]) (.e (.o [(5,.m' M7),(6,.m' M7)]) (.e (.n ⟨[],[],(some ⟨[.l 6],[],[]⟩),false,(tr 0 13 18 [(18,.t 6)])⟩ .z .z) .z)))
def Zw (n:Nat):Env:=⟨tab,[PX n],3,31⟩
theorem nM:(fun(n:Nat) (x:HL (pts RT))=>den (Zw n) (Tryz.f253.body.getD .skip) fj (CL 0 31 RT x) (BX tab [] RT Wa [.tmp 6]) (fun _ _=>none) (BX tab [] RT Wa [.tmp 6]))=fun n=>(TY (n+1)).F:=by kernel_rfl
def fk:Hn:=(.e (.o [(0,.m' M2),(1,.m' M6)]) (.e (.o [(5,.m' M7),(6,.m' M7)]) (.e .z (.e (.e (.n ⟨[],[],(some ⟨[.snp 1 (.list 119 (T12)) [],.i 9,.l 34,.box 3 true (T2) (.ro),.box 6 true (T6) (M6),.box 8 true (T7) (.ro)],[(3,⟨7,[]⟩),(6,⟨13,[]⟩),(8,⟨17,[]⟩)],[]⟩),false,(tr 0 20 15 [])⟩ .z .z) (.e (.e (.o [(0,.m' M6),(1,.m' M6)]) .z) .z)) (.e (.e .z (.n ⟨[],[],(some ⟨[.i 9,.box 3 true (T2) (.ro),.box 6 true (T6) (M6)],[(3,⟨7,[]⟩),(6,⟨13,[]⟩)],[]⟩),true,[]⟩ (.j [.snp 1 (.list 119 (T12)) [],.i 9,.i 10,.box 3 true (T2) (.ro),.box 6 true (T6) (M6),.box 8 true (T7) (.ro)] [(3,⟨7,[]⟩),(6,⟨13,[]⟩),(8,⟨17,[]⟩)] (.e .z (.e (.e (.e (.o (tr 0 43 19 [])) (.e (.e (.o [(0,.m' M6),(1,.m' M6)]) .z) .z)) .z) .z)) .z) .z)) (.e (.o [(5,.m' M6)]) .z))))))
def Zx (n:Nat):Env:=⟨tab,[WH,PX n],3,68⟩
theorem nN:(fun(n:Nat) (x:HL (pts RU))=>den (Zx n) (Tryz.f254.body.getD .skip) fk (CL 0 68 RU x) (BX tab [.w 13 (.ro)] RU Wb [.cell 6 125,.tmp 7]) (fun _ _=>none) (BX tab [.w 13 (.ro)] RU Wb [.cell 6 125,.tmp 7]))=fun n=>(TZ (n+1)).F:=by kernel_rfl
theorem Wu:∀ n,Cok Tryz.prog (PX n)∧Cok Tryz.prog (TY n)∧Cok Tryz.prog (TZ n):=by
 intro n;have h252:=gm
 have h202:=aO
 induction n with
 | zero=>exact⟨Bf (fn:=Tryz.f212) (by kernel_rfl) (by kernel_rfl) (by kernel_rfl) (fun _=>rfl),Bf (fn:=Tryz.f253) (by kernel_rfl) (by kernel_rfl) (by kernel_rfl) (fun _=>rfl),Bf (fn:=Tryz.f254) (by kernel_rfl) (by kernel_rfl) (by kernel_rfl) (fun _=>rfl)⟩
 | succ n ih=>
  obtain⟨h212,h253,h254⟩:=ih;refine⟨?_,?_,?_⟩
  ·exact BL (E:=Zp n) (c:=PX (n+1)) (fn:=Tryz.f212) (code:=Tryz.f212.body.getD .skip) (hn:=fb) (gr:=[]) (is:=[.tmp 6]) ⟨CN,(fun c hc=>by simp only [Zp,List.mem_cons,List.not_mem_nil,or_false] at hc;rcases hc with rfl | rfl | rfl | rfl<;>assumption),CX⟩ ⟨by kernel_rfl,by kernel_rfl,by kernel_rfl,by kernel_rfl,by kernel_rfl,Nat.le_of_ble_eq_true rfl,by kernel_rfl⟩ (by kernel_rfl) (fun x y h=>(congrFun (congrFun nF n) x).trans h)
  ·exact BL (E:=Zw n) (c:=TY (n+1)) (fn:=Tryz.f253) (code:=Tryz.f253.body.getD .skip) (hn:=fj) (gr:=[]) (is:=[.tmp 6]) ⟨CN,(fun c hc=>by simp only [Zw,List.mem_cons,List.not_mem_nil,or_false] at hc;rcases hc with rfl<;>assumption),CX⟩ ⟨by kernel_rfl,by kernel_rfl,by kernel_rfl,by kernel_rfl,by kernel_rfl,Nat.le_of_ble_eq_true rfl,by kernel_rfl⟩ (by kernel_rfl) (fun x y h=>(congrFun (congrFun nM n) x).trans h)
  ·exact BL (E:=Zx n) (c:=TZ (n+1)) (fn:=Tryz.f254) (code:=Tryz.f254.body.getD .skip) (hn:=fk) (gr:=[.w 13 (.ro)]) (is:=[.cell 6 125,.tmp 7]) ⟨CN,(fun c hc=>by simp only [Zx,List.mem_cons,List.not_mem_nil,or_false] at hc;rcases hc with rfl | rfl<;>assumption),CX⟩ ⟨by kernel_rfl,by kernel_rfl,by kernel_rfl,by kernel_rfl,by kernel_rfl,Nat.le_of_ble_eq_true rfl,by kernel_rfl⟩ (by kernel_rfl) (fun x y h=>(congrFun (congrFun nN n) x).trans h)
def ZW:Cal:=⟨212,RK,WT,fun x=>EE x.1 x.2.1 x.2.2.1,0⟩
theorem Wr:Cok Tryz.prog ZW:=Bn (F:=fun n=>(PX n).F) (fun n=>(Wu n).1)
def jp:Cal:=⟨253,RT,Wa,fun x=>VN x.1 x.2.1 x.2.2.1,0⟩
theorem c253:Cok Tryz.prog jp:=Bn (F:=fun n=>(TY n).F) (fun n=>(Wu n).2.1)
def fQ:Cal:=⟨254,RU,Wb,fun x=>KD x.1 x.2.1 x.2.2.1,0⟩
theorem mn:Cok Tryz.prog fQ:=Bn (F:=fun n=>(TZ n).F) (fun n=>(Wu n).2.2)
def fG:Cal:=⟨210,[⟨.ro,T2⟩,⟨.ro,.int .i64⟩],[⟨.list 119 (T12),.own (.ro)⟩,⟨.bool,.ro⟩],fun x=>Ff x.1 x.2.1,0⟩
def lA:Hn:=(.e (.o [(0,.m' M2)]) (.e (.k [.g 6]) (.e (.e .z (.n ⟨[],[],(some ⟨[.dat 6 (.list 119 (T12)) (.own (.ro))],[],[]⟩),true,[]⟩ (.j [.dat 6 (.list 119 (T12)) (.own (.ro)),.i 7,.box 2 true (T2) (.ro)] [(2,⟨5,[]⟩)] (.e .z (.e (.e (.e (.e .z (.j [.dat 6 (.list 119 (T12)) (.own (.ro)),.i 7,.box 2 true (T2) (.ro)] [(2,⟨5,[]⟩)] (.o (tr 0 23 19 [(19,⟨[],.ro,[6,12,17,19,20,23,26,29,31,32,40,41],[],some 12⟩)])) .z)) (.e .z (.e (.e (.k [.g 4]) .z) .z))) .z) .z)) .z) .z)) (.e (.k [.g 4]) .z))))
theorem gZ:CK fG:=ck fG Tryz.f210 lA [] [.tmp 4,.tmp 5] (cc gO (cc Wr cn))
def RJ:List Prm:=[⟨.ro,T2⟩,⟨.ro,.list 119 (T12)⟩,⟨.ro,.int .i64⟩]
def WS:List Ret:=[⟨.bool,.ro⟩]
def TS (n:Nat):Cal:=⟨211,RJ,WS,fun x=>(BP n).1 x.1 x.2.1 x.2.2.1,0⟩
def RS:List Prm:=[⟨.ro,T2⟩,⟨.ro,.list 119 (T12)⟩,⟨.ro,.int .i64⟩]
def WZ:List Ret:=[⟨.bool,.ro⟩]
def TX (n:Nat):Cal:=⟨251,RS,WZ,fun x=>(BP n).2.1 x.1 x.2.1 x.2.2.1,0⟩
def fa:Hn:=(.e (.o [(0,.m' M2)]) (.e (.e .z (.n ⟨[],[],(some ⟨[],[],[]⟩),true,[]⟩ (.j [.snp 1 (.list 119 (T12)) [],.i 2,.i 7,.box 3 true (T2) (.ro)] [(3,⟨7,[]⟩)] (.e .z (.e (.e (.e (.o (tr 0 19 13 [])) .z) .z) .z)) .z) .z)) .z))
def Zo (n:Nat):Env:=⟨tab,[TX n],3,32⟩
theorem nE:(fun(n:Nat) (x:HL (pts RJ))=>den (Zo n) (Tryz.f211.body.getD .skip) fa (CL 0 32 RJ x) (BX tab [] RJ WS [.tmp 6]) (fun _ _=>none) (BX tab [] RJ WS [.tmp 6]))=fun n=>(TS (n+1)).F:=by kernel_rfl
def fi:Hn:=(.e (.o [(0,.m' M2)]) (.e (.o [(5,.m' M7),(6,.m' M7)]) (.e .z (.e (.e .z (.e (.e (.o (tr 0 21 7 [(7,⟨[],.ro,[20,27],[],none⟩),(8,.t 28),(9,.t 29),(10,⟨[],M6,[9],[9],none⟩),(11,⟨[],M6,[9],[9],none⟩),(12,.t 10)])) .z) .z)) (.e (.o (tr 0 31 7 [(7,.t 8)])) (.e .z (.e (.e .z (.e (.e .z (.e .z (.e .z (.e (.e (.j [.l 6] [] .z .z) .z) (.e .z (.e (.e (.j [.l 6] [] .z .z) .z) (.e .z (.e (.e (.n ⟨[],[],(some ⟨[.l 6],[],[]⟩),false,(tr 0 75 20 [(20,.t 6)])⟩ .z .z) .z) (.e .z (.e (.e (.n ⟨[],[],(some ⟨[.l 6],[],[]⟩),false,(tr 0 97 11 [(11,.t 6)])⟩ .z .z) .z) .z)))))))))) .z)) .z)))))))
def Zv (n:Nat):Env:=⟨tab,[fQ,ZW,WK,TS n],3,110⟩
theorem nL:(fun(n:Nat) (x:HL (pts RS))=>den (Zv n) (Tryz.f251.body.getD .skip) fi (CL 0 110 RS x) (BX tab [] RS WZ [.tmp 6]) (fun _ _=>none) (BX tab [] RS WZ [.tmp 6]))=fun n=>(TX (n+1)).F:=by kernel_rfl
theorem cL:∀ n,Cok Tryz.prog (TS n)∧Cok Tryz.prog (TX n):=by
 intro n;have h254:=mn
 have h212:=Wr
 have h252:=gm
 induction n with
 | zero=>exact⟨Bf (fn:=Tryz.f211) (by kernel_rfl) (by kernel_rfl) (by kernel_rfl) (fun _=>rfl),Bf (fn:=Tryz.f251) (by kernel_rfl) (by kernel_rfl) (by kernel_rfl) (fun _=>rfl)⟩
 | succ n ih=>
  obtain⟨h211,h251⟩:=ih;refine⟨?_,?_⟩
  ·exact BL (E:=Zo n) (c:=TS (n+1)) (fn:=Tryz.f211) (code:=Tryz.f211.body.getD .skip) (hn:=fa) (gr:=[]) (is:=[.tmp 6]) ⟨CN,(fun c hc=>by simp only [Zo,List.mem_cons,List.not_mem_nil,or_false] at hc;rcases hc with rfl<;>assumption),CX⟩ ⟨by kernel_rfl,by kernel_rfl,by kernel_rfl,by kernel_rfl,by kernel_rfl,Nat.le_of_ble_eq_true rfl,by kernel_rfl⟩ (by kernel_rfl) (fun x y h=>(congrFun (congrFun nE n) x).trans h)
  ·exact BL (E:=Zv n) (c:=TX (n+1)) (fn:=Tryz.f251) (code:=Tryz.f251.body.getD .skip) (hn:=fi) (gr:=[]) (is:=[.tmp 6]) ⟨CN,(fun c hc=>by simp only [Zv,List.mem_cons,List.not_mem_nil,or_false] at hc;rcases hc with rfl | rfl | rfl | rfl<;>assumption),CX⟩ ⟨by kernel_rfl,by kernel_rfl,by kernel_rfl,by kernel_rfl,by kernel_rfl,Nat.le_of_ble_eq_true rfl,by kernel_rfl⟩ (by kernel_rfl) (fun x y h=>(congrFun (congrFun nL n) x).trans h)
def jj:Cal:=⟨211,RJ,WS,fun x=>IJ x.1 x.2.1 x.2.2.1,0⟩
theorem mY:Cok Tryz.prog jj:=Bn (F:=fun n=>(TS n).F) (fun n=>(cL n).1)
def jo:Cal:=⟨251,RS,WZ,fun x=>Uk x.1 x.2.1 x.2.2.1,0⟩
theorem c251:Cok Tryz.prog jo:=Bn (F:=fun n=>(TX n).F) (fun n=>(cL n).2)
def eo:Cal:=⟨177,[⟨.ro,T2⟩],[⟨.bool,.ro⟩],fun x=>Gm x.1,0⟩
def kh:Hn:=(.e (.o [(0,.m' M2)]) (.e .z (.e (.e .z (.n ⟨[],[],(some ⟨[],[],[]⟩),true,[]⟩ (.j [.i 3,.box 1 true (T2) (.ro)] [(1,⟨3,[]⟩)] (.e .z (.e (.e (.e (.k [.g 4]) (.e (.o [(5,.m' M6),(6,.m' M6)]) (.e (.n ⟨[],[.g 32],(some ⟨[.i 3,.l 52,.box 1 true (T2) (.ro)],[(1,⟨3,[]⟩)],[]⟩),false,(tr 0 28 25 [])⟩ .z .z) .z))) .z) .z)) .z) .z)) .z)))
theorem mL:CK eo:=ck eo Tryz.f177 kh [] [.tmp 2] (cc lq (cc gZ (cc mY (cc Wr cn))))
def ZX:Cal:=⟨213,[⟨.ptr (.pr (.ro) (.pr (.ro) (M3))),T0⟩,⟨.ro,.int .i64⟩],[⟨.int .i64,.ro⟩],fun x=>CW x.1 x.2.1,0⟩
def lB:Hn:=(.e .z (.e (.o [(8,.g [.g 10] .ro),(12,.m' (.own (.ro)))]) .z))
theorem gb:CK ZX:=ck ZX Tryz.f213 lB [] [.tmp 4] cn
def WI:Cal:=⟨217,[⟨.ptr (.pr (.ro) (.pr (.ro) (M3))),T0⟩,⟨.mov (M5),T5⟩],[⟨.int .i64,.ro⟩],fun x=>BA x.1 x.2.1,0⟩
def lD:Hn:=(.e (.o [(0,.m' M5)]) (.e (.o (tr 0 5 7 [(7,⟨[.g 11],M5,[3,11,12],[3],none⟩),(8,⟨[.g 10],M5,[0,6,7,8,9,10,12,13],[0],none⟩),(9,.t 14),(10,.t 15),(11,.t 16),(12,⟨[],.own (M5),[0,6,7,8,9,13,14,15,16],[0],none⟩)])) .z))
theorem Ws:CK WI:=ck WI Tryz.f217 lD [] [.tmp 4] cn
def Ze:Cal:=⟨256,[⟨.ro,.int .i64⟩],[⟨.bool,.ro⟩],fun x=>Kc x.1,0⟩
def lV:Hn:=(.e .z (.e (.j [.l 2] [] .z .z) .z))
theorem mo:CK Ze:=ck Ze Tryz.f256 lV [] [.tmp 2] cn
def Zf:Cal:=⟨257,[⟨.ro,.int .i64⟩],[⟨.int .i64,.ro⟩],fun x=>Nj x.1,0⟩
def lW:Hn:=.z
theorem mq:CK Zf:=ck Zf Tryz.f257 lW [] [.tmp 2] cn
def RN:List Prm:=[⟨.ptr (.pr (.ro) (.pr (.ro) (M3))),T0⟩,⟨.ro,.int .i64⟩]
def WV:List Ret:=[⟨.int .i64,.ro⟩]
def TU (n:Nat):Cal:=⟨215,RN,WV,fun x=>(Bt n).1 x.1 x.2.1,0⟩
def fe:Hn:=(.e .z (.e (.o [(8,.m' M7),(9,.m' M7)]) (.e (.k [.g 6]) (.e (.e .z (.j [.i 1,.d 6,.box 0 true (T0) (.pr (.ro) (.pr (.ro) (M3))),.box 5 true (T7) (.ro)] [(0,⟨1,[]⟩),(5,⟨11,[]⟩)] (.j [.i 1,.d 6,.i 7,.box 0 true (T0) (.pr (.ro) (.pr (.ro) (M3))),.box 5 true (T7) (.ro)] [(0,⟨1,[]⟩),(5,⟨11,[]⟩)] (.e .z (.e (.e (.n ⟨[],[.g 6],none,false,[(9,.g [.g 28] .ro)]⟩ .z .z) .z) .z)) .z) .z)) (.e (.o (tr 0 38 10 [(10,.t 8)])) (.e .z (.e (.e .z (.j [.d 6,.i 8,.i 9,.box 0 true (T0) (.pr (.ro) (.pr (.ro) (M3))),.box 5 true (T7) (.ro)] [(0,⟨1,[]⟩),(5,⟨11,[]⟩)] .z .z)) (.e (.e .z (.e (.e .z (.e (.e (.o [(5,.g [.g 61] M5)]) .z) (.e .z (.e (.e .z (.e (.e .z (.j [.i 9,.i 10,.box 0 true (T0) (.pr (.ro) (.pr (.ro) (M3))),.box 5 true (T7) (.ro)] [(0,⟨1,[]⟩),(5,⟨11,[]⟩)] .z .z)) (.e (.o (tr 0 69 10 [(10,⟨[],M5,[79],[],none⟩),(11,⟨[],.ro,[0,69,72,73,74,79,80],[0],none⟩)])) .z))) .z)))) .z)) (.e (.o (tr 0 82 6 [(6,⟨[],M5,[88],[],none⟩),(7,⟨[],M5,[11],[11],none⟩),(8,⟨[],M5,[11,88],[11],none⟩)])) (.e (.e .z (.j [.d 6,.i 9,.box 0 true (T0) (.pr (.ro) (.pr (.ro) (M3))),.box 11 true (T5) (M5)] [(0,⟨1,[]⟩),(11,⟨23,[]⟩)] (.o (tr 0 92 8 [(8,⟨[],.ro,[11,99],[11],none⟩)])) .z)) (.e (.e .z (.j [.d 6,.i 9,.box 0 true (T0) (.pr (.ro) (.pr (.ro) (M3))),.box 11 true (T5) (M5)] [(0,⟨1,[]⟩),(11,⟨23,[]⟩)] .z .z)) (.e (.e .z (.j [.i 9,.box 0 true (T0) (.pr (.ro) (.pr (.ro) (M3))),.box 11 true (T5) (M5)] [(0,⟨1,[]⟩),(11,⟨23,[]⟩)] .z .z)) (.e (.o [(2,.g [.g 115] .ro)]) .z)))))))))))))
def Zr (n:Nat):Env:=⟨tab,[TU n,ZW,ZX,WI,Ze,WF,Zf],2,118⟩
theorem nH:(fun(n:Nat) (x:HL (pts RN))=>den (Zr n) (Tryz.f215.body.getD .skip) fe (CL 0 118 RN x) (BX tab [] RN WV [.tmp 4]) (fun _ _=>none) (BX tab [] RN WV [.tmp 4]))=fun n=>(TU (n+1)).F:=by kernel_rfl
theorem jF:∀ n,Cok Tryz.prog (TU n):=by
 intro n;have h212:=Wr
 have h213:=gb
 have h217:=Ws
 have h256:=mo
 have h166:=Tp
 have h257:=mq
 induction n with
 | zero=>exact Bf (fn:=Tryz.f215) (by kernel_rfl) (by kernel_rfl) (by kernel_rfl) (fun _=>rfl)
 | succ n ih=>
  have h215:=ih
  refine ?_
  ·exact BL (E:=Zr n) (c:=TU (n+1)) (fn:=Tryz.f215) (code:=Tryz.f215.body.getD .skip) (hn:=fe) (gr:=[]) (is:=[.tmp 4]) ⟨CN,(fun c hc=>by simp only [Zr,List.mem_cons,List.not_mem_nil,or_false] at hc;rcases hc with rfl | rfl | rfl | rfl | rfl | rfl | rfl<;>assumption),CX⟩ ⟨by kernel_rfl,by kernel_rfl,by kernel_rfl,by kernel_rfl,by kernel_rfl,Nat.le_of_ble_eq_true rfl,by kernel_rfl⟩ (by kernel_rfl) (fun x y h=>(congrFun (congrFun nH n) x).trans h)
def fH:Cal:=⟨215,RN,WV,fun x=>Cv x.1 x.2.1,0⟩
theorem ge:Cok Tryz.prog fH:=Bn (F:=fun n=>(TU n).F) (fun n=>(jF n))
def ZY:Cal:=⟨216,[⟨.ptr (.pr (.ro) (.pr (.ro) (M3))),T0⟩,⟨.ro,.int .i64⟩],[],fun x=>Cu x.1 x.2.1,0⟩
def lC:Hn:=(.e .z (.e .z (.j [.box 0 true (T0) (.pr (.ro) (.pr (.ro) (M3)))] [] (.j [.snp 4 (.list 3 (.int .i64)) [],.i 5,.box 0 true (T0) (.pr (.ro) (.pr (.ro) (M3)))] [(0,⟨1,[]⟩)] (.e .z (.e (.e (.e (.o (tr 0 23 11 [(11,⟨[],M7,[6],[6],none⟩),(12,⟨[],M7,[6],[6],none⟩)])) (.e (.n ⟨[],[],(some ⟨[.snp 4 (.list 3 (.int .i64)) [],.i 5,.l 53,.box 0 true (T0) (.pr (.ro) (.pr (.ro) (M3))),.box 6 true (T7) (.ro)],[(0,⟨1,[]⟩),(6,⟨13,[]⟩)],[]⟩),false,(tr 0 34 20 [])⟩ .z .z) (.j [.snp 4 (.list 3 (.int .i64)) [],.i 5,.box 0 true (T0) (.pr (.ro) (.pr (.ro) (M3)))] [(0,⟨1,[]⟩)] (.o (tr 0 54 8 [(8,⟨[],M5,[62],[],none⟩),(9,⟨[],.ro,[0,54,55,56,57,62,63],[0],none⟩)])) .z))) .z) .z)) .z) .z)))
theorem gf:CK ZY:=ck ZY Tryz.f216 lC [] [] (cc Tp (cc Ws cn))
def RL:List Prm:=[⟨.ptr (.pr (.ro) (.pr (.ro) (M3))),T0⟩,⟨.ro,.int .i64⟩]
def WU:List Ret:=[]
def TT (n:Nat):Cal:=⟨214,RL,WU,fun x=>(AY n).1 x.1 x.2.1,0⟩
def RV:List Prm:=[⟨.ptr (.pr (.ro) (.pr (.ro) (M3))),T0⟩,⟨.ro,.int .i64⟩]
def Wc:List Ret:=[]
def Ta (n:Nat):Cal:=⟨255,RV,Wc,fun x=>(AY n).2.1 x.1 x.2.1,0⟩
def RY:List Prm:=[⟨.ptr (.pr (.ro) (.pr (.ro) (M3))),T0⟩,⟨.ro,.int .i64⟩]
def Wf:List Ret:=[]
def Te (n:Nat):Cal:=⟨286,RY,Wf,fun x=>(AY n).2.2.1 x.1 x.2.1,0⟩
def fd:Hn:=(.e .z (.e .z (.j [.box 0 true (T0) (.pr (.ro) (.pr (.ro) (M3)))] [] (.j [.snp 4 (.list 3 (.int .i64)) [],.i 5,.box 0 true (T0) (.pr (.ro) (.pr (.ro) (M3)))] [(0,⟨1,[]⟩)] .z .z) .z)))
def Zq (n:Nat):Env:=⟨tab,[Ta n],2,27⟩
theorem nG:(fun(n:Nat) (x:HL (pts RL))=>den (Zq n) (Tryz.f214.body.getD .skip) fd (CL 0 27 RL x) (BX tab [] RL WU []) (fun _ _=>none) (BX tab [] RL WU []))=fun n=>(TT (n+1)).F:=by kernel_rfl
def fo:Hn:=(.e (.o [(8,.m' M7),(9,.m' M7)]) (.e .z (.e .z (.e .z (.e (.e (.e .z (.j [.i 5,.i 6,.i 31,.l 32,.box 0 true (T0) (.pr (.ro) (.pr (.ro) (M3))),.box 4 true (T7) (.ro)] [(0,⟨1,[]⟩),(4,⟨9,[]⟩)] .z .z)) (.j [.box 0 true (T0) (.pr (.ro) (.pr (.ro) (M3)))] [] (.o (tr 0 35 9 [(9,⟨[],M5,[44],[],none⟩),(10,⟨[],.ro,[0,35,36,37,38,44,45],[0],none⟩)])) (.e .z (.j [.box 0 true (T0) (.pr (.ro) (.pr (.ro) (M3)))] [] (.o (tr 0 48 9 [(9,⟨[],M5,[57],[],none⟩),(10,⟨[],.ro,[0,48,49,50,51,57,58],[0],none⟩)])) (.e .z (.j [.box 0 true (T0) (.pr (.ro) (.pr (.ro) (M3)))] [] (.o [(2,.m' M5)]) (.e .z (.j [.box 0 true (T0) (.pr (.ro) (.pr (.ro) (M3)))] [] (.e (.j [.i 6,.l 79,.box 0 true (T0) (.pr (.ro) (.pr (.ro) (M3)))] [(0,⟨1,[]⟩)] .z .z) (.j [.box 0 true (T0) (.pr (.ro) (.pr (.ro) (M3)))] [] (.o [(2,.m' M5)]) .z)) (.e .z (.j [.box 0 true (T0) (.pr (.ro) (.pr (.ro) (M3)))] [] (.e (.o [(2,.m' M5)]) (.e .z (.e (.o [(1,.m' M5)]) (.e (.o (tr 0 99 14 [(14,⟨[],.ro,[0,86,90,96,99,100,101,102,103,105,106,107,108,109,111,112],[0],some 1⟩)])) (.e .z (.o (tr 0 119 14 [(14,⟨[],.ro,[0,86,90,96,99,100,101,102,105,106,107,108,113,119,120,121,122,123,125,126,127,128,129,131,132],[0],some 1⟩)]))))))) (.e .z (.j [.box 0 true (T0) (.pr (.ro) (.pr (.ro) (M3)))] [] (.e (.o [(2,.m' M5)]) (.e .z (.e (.o [(2,.m' M5)]) (.o (tr 0 149 14 [(14,⟨[],.ro,[0,135,139,145,149,150,151,152,153,155,156,157,158,159,161,162],[0],some 1⟩)]))))) .z)))))))))))) .z)))))
def Zy (n:Nat):Env:=⟨tab,[fH,WF,WI,Te n],2,163⟩
theorem nO:(fun(n:Nat) (x:HL (pts RV))=>den (Zy n) (Tryz.f255.body.getD .skip) fo (CL 0 163 RV x) (BX tab [] RV Wc []) (fun _ _=>none) (BX tab [] RV Wc []))=fun n=>(Ta (n+1)).F:=by kernel_rfl
def fu:Hn:=.z
def aB (n:Nat):Env:=⟨tab,[TT n,ZY],2,10⟩
theorem nR:(fun(n:Nat) (x:HL (pts RY))=>den (aB n) (Tryz.f286.body.getD .skip) fu (CL 0 10 RY x) (BX tab [] RY Wf []) (fun _ _=>none) (BX tab [] RY Wf []))=fun n=>(Te (n+1)).F:=by kernel_rfl
theorem Wv:∀ n,Cok Tryz.prog (TT n)∧Cok Tryz.prog (Ta n)∧Cok Tryz.prog (Te n):=by
 intro n;have h215:=ge
 have h166:=Tp
 have h217:=Ws
 have h216:=gf
 induction n with
 | zero=>exact⟨Bf (fn:=Tryz.f214) (by kernel_rfl) (by kernel_rfl) (by kernel_rfl) (fun _=>rfl),Bf (fn:=Tryz.f255) (by kernel_rfl) (by kernel_rfl) (by kernel_rfl) (fun _=>rfl),Bf (fn:=Tryz.f286) (by kernel_rfl) (by kernel_rfl) (by kernel_rfl) (fun _=>rfl)⟩
 | succ n ih=>
  obtain⟨h214,h255,h286⟩:=ih;refine⟨?_,?_,?_⟩
  ·exact BL (E:=Zq n) (c:=TT (n+1)) (fn:=Tryz.f214) (code:=Tryz.f214.body.getD .skip) (hn:=fd) (gr:=[]) (is:=[]) ⟨CN,(fun c hc=>by simp only [Zq,List.mem_cons,List.not_mem_nil,or_false] at hc;rcases hc with rfl<;>assumption),CX⟩ ⟨by kernel_rfl,by kernel_rfl,by kernel_rfl,by kernel_rfl,by kernel_rfl,Nat.le_of_ble_eq_true rfl,by kernel_rfl⟩ (by kernel_rfl) (fun x y h=>(congrFun (congrFun nG n) x).trans h)
  ·exact BL (E:=Zy n) (c:=Ta (n+1)) (fn:=Tryz.f255) (code:=Tryz.f255.body.getD .skip) (hn:=fo) (gr:=[]) (is:=[]) ⟨CN,(fun c hc=>by simp only [Zy,List.mem_cons,List.not_mem_nil,or_false] at hc;rcases hc with rfl | rfl | rfl | rfl<;>assumption),CX⟩ ⟨by kernel_rfl,by kernel_rfl,by kernel_rfl,by kernel_rfl,by kernel_rfl,Nat.le_of_ble_eq_true rfl,by kernel_rfl⟩ (by kernel_rfl) (fun x y h=>(congrFun (congrFun nO n) x).trans h)
  ·exact BL (E:=aB n) (c:=Te (n+1)) (fn:=Tryz.f286) (code:=Tryz.f286.body.getD .skip) (hn:=fu) (gr:=[]) (is:=[]) ⟨CN,(fun c hc=>by simp only [aB,List.mem_cons,List.not_mem_nil,or_false] at hc;rcases hc with rfl | rfl<;>assumption),CX⟩ ⟨by kernel_rfl,by kernel_rfl,by kernel_rfl,by kernel_rfl,by kernel_rfl,Nat.le_of_ble_eq_true rfl,by kernel_rfl⟩ (by kernel_rfl) (fun x y h=>(congrFun (congrFun nR n) x).trans h)
def jl:Cal:=⟨214,RL,WU,fun x=>EL x.1 x.2.1,0⟩
theorem mZ:Cok Tryz.prog jl:=Bn (F:=fun n=>(TT n).F) (fun n=>(Wv n).1)
def jq:Cal:=⟨255,RV,Wc,fun x=>Od x.1 x.2.1,0⟩
theorem c255:Cok Tryz.prog jq:=Bn (F:=fun n=>(Ta n).F) (fun n=>(Wv n).2.1)
def jt:Cal:=⟨286,RY,Wf,fun x=>Ny x.1 x.2.1,0⟩
theorem c286:Cok Tryz.prog jt:=Bn (F:=fun n=>(Te n).F) (fun n=>(Wv n).2.2)
def eY:Cal:=⟨145,[⟨.ro,T3⟩,⟨.ro,.int .i64⟩],[⟨.bool,.ro⟩],fun x=>Cm x.1 x.2.1,0⟩
def kY:Hn:=(.e (.o [(0,.m' M3)]) .z)
theorem gT:CK eY:=ck eY Tryz.f145 kY [] [.tmp 4] (cc c82 cn)
def eX:Cal:=⟨144,[⟨.ro,T3⟩,⟨.ro,T5⟩],[⟨.bool,.ro⟩],fun x=>MX x.1 x.2.1,0⟩
def kX:Hn:=(.e (.o [(0,.m' M3),(1,.m' M5)]) (.e (.e (.e (.j [.l 5,.box 2 true (T3) (.ro),.box 3 true (T5) (.ro)] [(2,⟨5,[]⟩),(3,⟨7,[]⟩)] .z .z) (.e (.e (.j [.l 4] [] .z .z) .z) .z)) .z) .z))
theorem mE:CK eX:=ck eX Tryz.f144 kX [] [.tmp 4] (cc gT cn)
def dl:Cal:=⟨101,[⟨.ro,.int .i64⟩],[⟨.bool,.ro⟩],fun x=>Fg x.1,0⟩
def jy:Hn:=(.e .z (.e (.j [.l 2] [] .z .z) .z))
theorem li:CK dl:=ck dl Tryz.f101 jy [] [.tmp 2] (cc c82 cn)
def dn:Cal:=⟨102,[⟨.ro,.int .i64⟩],[⟨.bool,.ro⟩],fun x=>Fh x.1,0⟩
def jz:Hn:=.z
theorem lj:CK dn:=ck dn Tryz.f102 jz [] [.tmp 2] (cc c82 cn)
def C83:Cal:=⟨83,[⟨.ro,T3⟩,⟨.ro,T5⟩],[⟨.bool,.ro⟩],fun x=>KC x.1 x.2.1,0⟩
def H83:Hn:=(.e (.o [(0,.m' M3),(1,.m' M5)]) (.e (.e (.j [.l 15,.box 2 true (T3) (.ro),.box 3 true (T5) (.ro)] [(2,⟨5,[]⟩),(3,⟨7,[]⟩)] .z .z) .z) (.e (.e (.j [.l 36,.box 2 true (T3) (.ro),.box 3 true (T5) (.ro)] [(2,⟨5,[]⟩),(3,⟨7,[]⟩)] .z .z) .z) (.e (.e (.j [.l 57,.box 2 true (T3) (.ro),.box 3 true (T5) (.ro)] [(2,⟨5,[]⟩),(3,⟨7,[]⟩)] .z .z) .z) (.e (.e .z (.e (.e .z (.n ⟨[],[],(some ⟨[.box 2 true (T3) (.ro),.box 3 true (T5) (.ro)],[(2,⟨5,[]⟩),(3,⟨7,[]⟩)],[]⟩),true,[]⟩ .z (.e (.e .z (.j [.l 69,.box 2 true (T3) (.ro),.box 3 true (T5) (.ro)] [(2,⟨5,[]⟩),(3,⟨7,[]⟩)] .z .z)) (.n ⟨[],[],(some ⟨[.box 2 true (T3) (.ro),.box 3 true (T5) (.ro)],[(2,⟨5,[]⟩),(3,⟨7,[]⟩)],[]⟩),true,[]⟩ .z .z)))) .z)) (.e (.e .z (.e (.e (.j [.l 4] [] .z .z) .z) .z)) (.e (.e .z (.n ⟨[],[],(some ⟨[.box 3 true (T5) (.ro)],[(3,⟨7,[]⟩)],[]⟩),true,[]⟩ (.j [.i 5,.box 2 true (T3) (.ro),.box 3 true (T5) (.ro)] [(2,⟨5,[]⟩),(3,⟨7,[]⟩)] (.e .z (.e (.e (.e (.o (tr 0 99 8 [])) .z) .z) .z)) .z) .z)) (.e (.j [.l 4] [] .z .z) .z))))))))
theorem c83:CK C83:=ck C83 Tryz.f83 H83 [] [.tmp 4] (cc c82 (cc mE (cc li (cc gT (cc lj (cc c81 cn))))))
def C15:Cal:=⟨15,[⟨.ro,T3⟩],[⟨.bool,.ro⟩],fun x=>DC x.1,0⟩
def H15:Hn:=(.e (.o [(0,.m' M3)]) (.e (.e (.j [.l 42,.box 1 true (T3) (.ro)] [(1,⟨3,[]⟩)] .z .z) .z) (.e (.e .z (.n ⟨[],[],(some ⟨[.box 1 true (T3) (.ro)],[(1,⟨3,[]⟩)],[]⟩),true,[]⟩ (.j [.i 3,.box 1 true (T3) (.ro)] [(1,⟨3,[]⟩)] .z .z) .z)) (.e (.e .z (.n ⟨[],[],(some ⟨[],[],[]⟩),true,[]⟩ (.j [.i 4,.box 1 true (T3) (.ro)] [(1,⟨3,[]⟩)] (.e .z (.e (.e (.e (.o (tr 0 64 8 [])) .z) .z) .z)) .z) .z)) .z))))
theorem c15:CK C15:=ck C15 Tryz.f15 H15 [] [.tmp 2] (cc c81 (cc c82 (cc c83 cn)))
end
end Go.Proofs.YtmakhmoielhjeaaGreatDoorE

/- The functions of X reckon so (3). No condition. -/
import Derived.Test.YtmakhmoielhjeaaGreatDoorLawGX2
set_option linter.all false
namespace Go.Proofs.YtmakhmoielhjeaaGreatDoorE
noncomputable section
set_option maxRecDepth 100000
def Pu:List Prm:=[⟨.ptr (.ro),T1⟩,⟨.ro,.int .i64⟩]
def Ux:List Ret:=[]
def SA (n:Nat):Cal:=⟨168,Pu,Ux,fun x=>(Bz n).1 x.1 x.2.1,0⟩
def dL:Hn:=(.e (.o [(8,.m' M7),(9,.m' M7)]) (.e (.e .z (.j [.box 0 true (T1) (.ro),.box 4 true (T7) (.ro)] [(0,⟨1,[]⟩),(4,⟨9,[]⟩)] (.j [.i 5,.box 0 true (T1) (.ro),.box 4 true (T7) (.ro)] [(0,⟨1,[]⟩),(4,⟨9,[]⟩)] .z .z) .z)) (.e .z (.e (.e (.e .z (.j [.i 30,.l 31,.box 0 true (T1) (.ro),.box 4 true (T7) (.ro)] [(0,⟨1,[]⟩),(4,⟨9,[]⟩)] .z (.e .z (.j [.i 30,.l 31,.box 0 true (T1) (.ro),.box 4 true (T7) (.ro)] [(0,⟨1,[]⟩),(4,⟨9,[]⟩)] .z (.e .z (.j [.i 30,.l 31,.box 0 true (T1) (.ro),.box 4 true (T7) (.ro)] [(0,⟨1,[]⟩),(4,⟨9,[]⟩)] .z (.e .z (.j [.i 30,.l 31,.box 0 true (T1) (.ro),.box 4 true (T7) (.ro)] [(0,⟨1,[]⟩),(4,⟨9,[]⟩)] .z .z)))))))) (.j [.box 0 true (T1) (.ro)] [] (.n ⟨[],[],(some ⟨[.box 0 true (T1) (.ro)],[],[]⟩),false,(tr 0 37 17 [(17,⟨[],.ro,[0,37,38,39,40,43,44,45,52,53],[0],none⟩)])⟩ .z .z) (.e .z (.j [.box 0 true (T1) (.ro)] [] (.e (.o (tr 0 56 7 [(7,.t 6)])) (.n ⟨[],[],(some ⟨[.box 0 true (T1) (.ro)],[],[]⟩),false,(tr 0 63 35 [(35,⟨[],.ro,[0,56,57,58,63,64,65,66,74,75,76,81,82,83,84,96,97],[0],none⟩)])⟩ .z .z)) .z)))) .z))))
def YS (n:Nat):Env:=⟨tab,[SA n,Uo,Up],2,98⟩
theorem kz:(fun(n:Nat) (x:HL (pts Pu))=>den (YS n) (Tryz.f168.body.getD .skip) dL (CI 0 98 Pu x) (BS tab [] Pu Ux []) (fun _ _=>none) (BS tab [] Pu Ux []))=fun n=>(SA (n+1)).F:=by kernel_rfl
theorem fy:∀ n,Cok Tryz.prog (SA n):=by
 intro n;have h201:=eV
 have h202:=Yx
 induction n with
 | zero=>exact Bd (fn:=Tryz.f168) (by kernel_rfl) (by kernel_rfl) (by kernel_rfl) (fun _=>rfl)
 | succ n ih=>
  have h168:=ih
  refine ?_
  ·exact BH (E:=YS n) (c:=SA (n+1)) (fn:=Tryz.f168) (code:=Tryz.f168.body.getD .skip) (hn:=dL) (gr:=[]) (is:=[]) ⟨CL,(fun c hc=>by simp only [YS,List.mem_cons,List.not_mem_nil,or_false] at hc;rcases hc with rfl | rfl | rfl<;>assumption),CU⟩ ⟨by kernel_rfl,by kernel_rfl,by kernel_rfl,by kernel_rfl,by kernel_rfl,Nat.le_of_ble_eq_true rfl,by kernel_rfl⟩ (by kernel_rfl) (fun x y h=>(congrFun (congrFun kz n) x).trans h)
def cR:Cal:=⟨168,Pu,Ux,fun x=>Ec x.1 x.2.1,0⟩
theorem eT:Cok Tryz.prog cR:=Bm (F:=fun n=>(SA n).F) (fun n=>(fy n))
def Pt:List Prm:=[⟨.ptr (.ro),T1⟩,⟨.ro,.int .i64⟩]
def Uw:List Ret:=[]
def Rz (n:Nat):Cal:=⟨167,Pt,Uw,fun x=>(Ak n).1 x.1 x.2.1,0⟩
def Pw:List Prm:=[⟨.ptr (.ro),T1⟩,⟨.ro,.int .i64⟩]
def Uz:List Ret:=[]
def SC (n:Nat):Cal:=⟨200,Pw,Uz,fun x=>(Ak n).2.1 x.1 x.2.1,0⟩
def dK:Hn:=(.e .z (.j [.box 0 true (T1) (.ro)] [] (.j [.i 1,.i 4,.box 0 true (T1) (.ro)] [(0,⟨1,[]⟩)] .z .z) .z))
def YR (n:Nat):Env:=⟨tab,[SC n],2,33⟩
theorem ky:(fun(n:Nat) (x:HL (pts Pt))=>den (YR n) (Tryz.f167.body.getD .skip) dK (CI 0 33 Pt x) (BS tab [] Pt Uw []) (fun _ _=>none) (BS tab [] Pt Uw []))=fun n=>(Rz (n+1)).F:=by kernel_rfl
def dP:Hn:=(.e (.o [(8,.m' M7),(9,.m' M7)]) (.e .z (.e .z (.j [.box 0 true (T1) (.ro)] [] (.e .z (.j [.box 0 true (T1) (.ro)] [] (.o (tr 0 25 6 [(6,⟨[],.ro,[26,31],[],none⟩),(7,.t 32),(8,.t 33),(9,.t 34),(10,⟨[],.ro,[31,35],[],none⟩),(11,.t 36),(12,.t 37),(13,⟨[.z 35],.own (.ro),[0,7,8,9,10,15,25,27,28,29,35,36,37],[0],none⟩)])) (.e (.e .z (.j [.i 22,.l 38,.box 0 true (T1) (.ro),.box 4 true (T7) (.ro)] [(0,⟨1,[]⟩),(4,⟨9,[]⟩)] .z .z)) (.j [.box 0 true (T1) (.ro)] [] (.n ⟨[],[],(some ⟨[.box 0 true (T1) (.ro)],[],[]⟩),false,(tr 0 41 17 [(17,⟨[],.ro,[0,41,42,43,44,47,48,49,56,57],[0],none⟩)])⟩ .z .z) (.e (.e .z (.j [.l 58,.box 0 true (T1) (.ro),.box 4 true (T7) (.ro)] [(0,⟨1,[]⟩),(4,⟨9,[]⟩)] .z .z)) (.j [.box 0 true (T1) (.ro)] [] (.e .z (.j [.box 0 true (T1) (.ro)] [] (.j [.i 5,.box 0 true (T1) (.ro),.box 4 true (T7) (.ro)] [(0,⟨1,[]⟩),(4,⟨9,[]⟩)] (.e .z (.e (.e (.e .z (.e .z (.o [(4,.m' (.own (.ro)))]))) .z) .z)) .z) .z)) .z)))))) .z))))
def YU (n:Nat):Env:=⟨tab,[cR,Uo,Rz n],2,83⟩
theorem lB:(fun(n:Nat) (x:HL (pts Pw))=>den (YU n) (Tryz.f200.body.getD .skip) dP (CI 0 83 Pw x) (BS tab [] Pw Uz []) (fun _ _=>none) (BS tab [] Pw Uz []))=fun n=>(SC (n+1)).F:=by kernel_rfl
theorem aY:∀ n,Cok Tryz.prog (Rz n)∧Cok Tryz.prog (SC n):=by
 intro n;have h168:=eT
 have h201:=eV
 induction n with
 | zero=>exact⟨Bd (fn:=Tryz.f167) (by kernel_rfl) (by kernel_rfl) (by kernel_rfl) (fun _=>rfl),Bd (fn:=Tryz.f200) (by kernel_rfl) (by kernel_rfl) (by kernel_rfl) (fun _=>rfl)⟩
 | succ n ih=>
  obtain⟨h167,h200⟩:=ih;refine⟨?_,?_⟩
  ·exact BH (E:=YR n) (c:=Rz (n+1)) (fn:=Tryz.f167) (code:=Tryz.f167.body.getD .skip) (hn:=dK) (gr:=[]) (is:=[]) ⟨CL,(fun c hc=>by simp only [YR,List.mem_cons,List.not_mem_nil,or_false] at hc;rcases hc with rfl<;>assumption),CU⟩ ⟨by kernel_rfl,by kernel_rfl,by kernel_rfl,by kernel_rfl,by kernel_rfl,Nat.le_of_ble_eq_true rfl,by kernel_rfl⟩ (by kernel_rfl) (fun x y h=>(congrFun (congrFun ky n) x).trans h)
  ·exact BH (E:=YU n) (c:=SC (n+1)) (fn:=Tryz.f200) (code:=Tryz.f200.body.getD .skip) (hn:=dP) (gr:=[]) (is:=[]) ⟨CL,(fun c hc=>by simp only [YU,List.mem_cons,List.not_mem_nil,or_false] at hc;rcases hc with rfl | rfl | rfl<;>assumption),CU⟩ ⟨by kernel_rfl,by kernel_rfl,by kernel_rfl,by kernel_rfl,by kernel_rfl,Nat.le_of_ble_eq_true rfl,by kernel_rfl⟩ (by kernel_rfl) (fun x y h=>(congrFun (congrFun lB n) x).trans h)
def ge:Cal:=⟨167,Pt,Uw,fun x=>Gb x.1 x.2.1,0⟩
theorem kI:Cok Tryz.prog ge:=Bm (F:=fun n=>(Rz n).F) (fun n=>(aY n).1)
def gi:Cal:=⟨200,Pw,Uz,fun x=>Nm x.1 x.2.1,0⟩
theorem c200:Cok Tryz.prog gi:=Bm (F:=fun n=>(SC n).F) (fun n=>(aY n).2)
def bw:Cal:=⟨123,[⟨.ro,T2⟩],[⟨.bool,.ro⟩],fun x=>GF x.1,0⟩
def iK:Hn:=(.e (.o [(0,.m' M2)]) (.e .z (.e (.e .z (.n ⟨[],[],(some ⟨[],[],[]⟩),true,[]⟩ (.j [.i 3,.box 1 true (T2) (.ro)] [(1,⟨3,[]⟩)] (.e .z (.e (.n ⟨[],[],(some ⟨[.i 3,.box 1 true (T2) (.ro)],[(1,⟨3,[]⟩)],[]⟩),true,[]⟩ (.e (.k [.g 4]) (.e (.e .z (.n ⟨[],[],(some ⟨[.i 3,.box 1 true (T2) (.ro)],[(1,⟨3,[]⟩)],[]⟩),true,[]⟩ (.j [.i 3,.dat 4 (.list 119 (T12)) (.own (.ro)),.i 5,.box 1 true (T2) (.ro)] [(1,⟨3,[]⟩)] .z .z) .z)) (.e (.o [(2,.m' M1),(3,.m' M1)]) (.e (.e .z (.j [.i 3,.box 1 true (T2) (.ro),.box 39 true (T1) (.pr (.ro) (M6))] [(1,⟨3,[]⟩),(6,⟨79,[]⟩)] (.j [.i 3,.i 7,.box 1 true (T2) (.ro),.box 39 true (T1) (.pr (.ro) (M6))] [(1,⟨3,[]⟩),(6,⟨79,[]⟩)] (.e .z (.e (.e (.o (tr 0 51 16 [(16,⟨[.g 55],.ro,[6,52,53,54,55,67],[39],none⟩),(17,.t 68),(18,.t 69),(19,⟨[],.own (.ro),[6,52,53,54,67,68,69],[39],none⟩)])) .z) .z)) .z) .z)) (.e (.o [(7,.g [.w 79 (.ro)] .ro)]) (.e (.e .z (.j [.i 3,.box 1 true (T2) (.ro),.box 39 true (T1) (.ro)] [(1,⟨3,[]⟩),(6,⟨79,[]⟩)] .z .z)) .z)))))) .z) .z)) .z) .z)) .z)))
theorem ju:CK bw:=ck bw Tryz.f123 iK [] [.tmp 2] (cc eS (cc eL (cc SY (cc kI (cc eT cn)))))
def Ut:Cal:=⟨252,[⟨.ro,.list 119 (T12)⟩,⟨.ro,.str⟩],[⟨.int .i64,.ro⟩],fun x=>HJ x.1 x.2.1,0⟩
def je:Hn:=.z
theorem eh:CK Ut:=ck Ut Tryz.f252 je [] [.tmp 4] (cc SY cn)
def Pz:List Prm:=[⟨.ro,T2⟩,⟨.ro,.list 119 (T12)⟩,⟨.ro,.int .i64⟩]
def VC:List Ret:=[⟨.int .i64,.ro⟩]
def OC (n:Nat):Cal:=⟨212,Pz,VC,fun x=>(AY n).1 x.1 x.2.1 x.2.2.1,0⟩
def QG:List Prm:=[⟨.ro,T2⟩,⟨.ro,.list 119 (T12)⟩,⟨.ro,.int .i64⟩]
def VK:List Ret:=[⟨.bool,.ro⟩]
def SK (n:Nat):Cal:=⟨253,QG,VK,fun x=>(AY n).2.1 x.1 x.2.1 x.2.2.1,0⟩
def QH:List Prm:=[⟨.ro,T2⟩,⟨.ro,.list 119 (T12)⟩,⟨.ro,.int .i64⟩]
def VL:List Ret:=[⟨T6,.ro⟩,⟨.bool,.ro⟩]
def SL (n:Nat):Cal:=⟨254,QH,VL,fun x=>(AY n).2.2.1 x.1 x.2.1 x.2.2.1,0⟩
def dS:Hn:=(.e (.o [(0,.m' M2)]) (.e (.o [(5,.m' M7),(6,.m' M7)]) (.e .z (.e (.j [.snp 1 (.list 119 (T12)) [],.i 2,.i 8,.l 9,.box 3 true (T2) (.ro),.box 7 true (T7) (.ro)] [(3,⟨7,[]⟩),(7,⟨15,[]⟩)] .z .z) (.e (.e .z (.e (.e (.e .z (.j [.snp 1 (.list 119 (T12)) [],.i 2,.i 8,.l 9,.i 32,.l 33,.box 3 true (T2) (.ro),.box 7 true (T7) (.ro)] [(3,⟨7,[]⟩),(7,⟨15,[]⟩)] .z .z)) (.e .z (.e .z (.e .z (.e .z (.n ⟨[],[],(some ⟨[],[],[]⟩),true,[]⟩ .z (.e .z (.n ⟨[],[],(some ⟨[],[],[]⟩),true,[]⟩ .z (.e .z (.n ⟨[],[],(some ⟨[],[],[]⟩),true,[]⟩ .z (.e .z (.n ⟨[],[],(some ⟨[],[],[]⟩),true,[]⟩ .z (.e .z (.n ⟨[],[],(some ⟨[],[],[]⟩),true,[]⟩ (.e (.o (tr 0 55 8 [])) .z) (.e (.e .z (.j [.snp 1 (.list 119 (T12)) [],.i 2,.i 32,.l 63,.box 3 true (T2) (.ro)] [(3,⟨7,[]⟩)] .z (.e .z (.j [.snp 1 (.list 119 (T12)) [],.i 2,.i 32,.l 63,.box 3 true (T2) (.ro)] [(3,⟨7,[]⟩)] .z .z)))) (.n ⟨[],[],(some ⟨[],[],[]⟩),true,[]⟩ .z (.e .z (.n ⟨[],[],(some ⟨[],[],[]⟩),true,[]⟩ (.e (.o [(7,.m' M6),(8,.m' M6)]) .z) .z)))))))))))))))))) .z)) .z)))))
def YX (n:Nat):Env:=⟨tab,[Ut,OC n,SK n,SL n],3,83⟩
theorem lE:(fun(n:Nat) (x:HL (pts Pz))=>den (YX n) (Tryz.f212.body.getD .skip) dS (CI 0 83 Pz x) (BS tab [] Pz VC [.tmp 6]) (fun _ _=>none) (BS tab [] Pz VC [.tmp 6]))=fun n=>(OC (n+1)).F:=by kernel_rfl
def dZ:Hn:=(.e (.o [(0,.m' M2)]) (.e (.o [(5,.m' M7),(6,.m' M7)]) (.e (.n ⟨[],[],(some ⟨[.l 6],[],[]⟩),false,(tr 0 13 18 [(18,.t 6)])⟩ .z .z) .z)))
def Yf (n:Nat):Env:=⟨tab,[OC n],3,31⟩
theorem lL:(fun(n:Nat) (x:HL (pts QG))=>den (Yf n) (Tryz.f253.body.getD .skip) dZ (CI 0 31 QG x) (BS tab [] QG VK [.tmp 6]) (fun _ _=>none) (BS tab [] QG VK [.tmp 6]))=fun n=>(SK (n+1)).F:=by kernel_rfl
def dc:Hn:=(.e (.o [(0,.m' M2),(1,.m' M6)]) (.e (.o [(5,.m' M7),(6,.m' M7)]) (.e .z (.e (.e (.n ⟨[],[],(some ⟨[.snp 1 (.list 119 (T12)) [],.i 9,.l 34,.box 3 true (T2) (.ro),.box 6 true (T6) (M6),.box 8 true (T7) (.ro)],[(3,⟨7,[]⟩),(6,⟨13,[]⟩),(8,⟨17,[]⟩)],[]⟩),false,(tr 0 20 15 [])⟩ .z .z) (.e (.e (.o [(0,.m' M6),(1,.m' M6)]) .z) .z)) (.e (.e .z (.n ⟨[],[],(some ⟨[.i 9,.box 3 true (T2) (.ro),.box 6 true (T6) (M6)],[(3,⟨7,[]⟩),(6,⟨13,[]⟩)],[]⟩),true,[]⟩ (.j [.snp 1 (.list 119 (T12)) [],.i 9,.i 10,.box 3 true (T2) (.ro),.box 6 true (T6) (M6),.box 8 true (T7) (.ro)] [(3,⟨7,[]⟩),(6,⟨13,[]⟩),(8,⟨17,[]⟩)] (.e .z (.e (.e (.e (.o (tr 0 43 19 [])) (.e (.e (.o [(0,.m' M6),(1,.m' M6)]) .z) .z)) .z) .z)) .z) .z)) (.e (.o [(5,.m' M6)]) .z))))))
def Yg (n:Nat):Env:=⟨tab,[Up,OC n],3,68⟩
theorem lM:(fun(n:Nat) (x:HL (pts QH))=>den (Yg n) (Tryz.f254.body.getD .skip) dc (CI 0 68 QH x) (BS tab [.w 13 (.ro)] QH VL [.cell 6 125,.tmp 7]) (fun _ _=>none) (BS tab [.w 13 (.ro)] QH VL [.cell 6 125,.tmp 7]))=fun n=>(SL (n+1)).F:=by kernel_rfl
theorem Ve:∀ n,Cok Tryz.prog (OC n)∧Cok Tryz.prog (SK n)∧Cok Tryz.prog (SL n):=by
 intro n;have h252:=eh
 have h202:=Yx
 induction n with
 | zero=>exact⟨Bd (fn:=Tryz.f212) (by kernel_rfl) (by kernel_rfl) (by kernel_rfl) (fun _=>rfl),Bd (fn:=Tryz.f253) (by kernel_rfl) (by kernel_rfl) (by kernel_rfl) (fun _=>rfl),Bd (fn:=Tryz.f254) (by kernel_rfl) (by kernel_rfl) (by kernel_rfl) (fun _=>rfl)⟩
 | succ n ih=>
  obtain⟨h212,h253,h254⟩:=ih;refine⟨?_,?_,?_⟩
  ·exact BH (E:=YX n) (c:=OC (n+1)) (fn:=Tryz.f212) (code:=Tryz.f212.body.getD .skip) (hn:=dS) (gr:=[]) (is:=[.tmp 6]) ⟨CL,(fun c hc=>by simp only [YX,List.mem_cons,List.not_mem_nil,or_false] at hc;rcases hc with rfl | rfl | rfl | rfl<;>assumption),CU⟩ ⟨by kernel_rfl,by kernel_rfl,by kernel_rfl,by kernel_rfl,by kernel_rfl,Nat.le_of_ble_eq_true rfl,by kernel_rfl⟩ (by kernel_rfl) (fun x y h=>(congrFun (congrFun lE n) x).trans h)
  ·exact BH (E:=Yf n) (c:=SK (n+1)) (fn:=Tryz.f253) (code:=Tryz.f253.body.getD .skip) (hn:=dZ) (gr:=[]) (is:=[.tmp 6]) ⟨CL,(fun c hc=>by simp only [Yf,List.mem_cons,List.not_mem_nil,or_false] at hc;rcases hc with rfl<;>assumption),CU⟩ ⟨by kernel_rfl,by kernel_rfl,by kernel_rfl,by kernel_rfl,by kernel_rfl,Nat.le_of_ble_eq_true rfl,by kernel_rfl⟩ (by kernel_rfl) (fun x y h=>(congrFun (congrFun lL n) x).trans h)
  ·exact BH (E:=Yg n) (c:=SL (n+1)) (fn:=Tryz.f254) (code:=Tryz.f254.body.getD .skip) (hn:=dc) (gr:=[.w 13 (.ro)]) (is:=[.cell 6 125,.tmp 7]) ⟨CL,(fun c hc=>by simp only [Yg,List.mem_cons,List.not_mem_nil,or_false] at hc;rcases hc with rfl | rfl<;>assumption),CU⟩ ⟨by kernel_rfl,by kernel_rfl,by kernel_rfl,by kernel_rfl,by kernel_rfl,Nat.le_of_ble_eq_true rfl,by kernel_rfl⟩ (by kernel_rfl) (fun x y h=>(congrFun (congrFun lM n) x).trans h)
def YE:Cal:=⟨212,Pz,VC,fun x=>Dw x.1 x.2.1 x.2.2.1,0⟩
theorem Vb:Cok Tryz.prog YE:=Bm (F:=fun n=>(OC n).F) (fun n=>(Ve n).1)
def gu:Cal:=⟨253,QG,VK,fun x=>UB x.1 x.2.1 x.2.2.1,0⟩
theorem c253:Cok Tryz.prog gu:=Bm (F:=fun n=>(SK n).F) (fun n=>(Ve n).2.1)
def dF:Cal:=⟨254,QH,VL,fun x=>JD x.1 x.2.1 x.2.2.1,0⟩
theorem km:Cok Tryz.prog dF:=Bm (F:=fun n=>(SL n).F) (fun n=>(Ve n).2.2)
def ct:Cal:=⟨210,[⟨.ro,T2⟩,⟨.ro,.int .i64⟩],[⟨.list 119 (T12),.own (.ro)⟩,⟨.bool,.ro⟩],fun x=>FH x.1 x.2.1,0⟩
def jK:Hn:=(.e (.o [(0,.m' M2)]) (.e (.k [.g 6]) (.e (.e .z (.n ⟨[],[],(some ⟨[.dat 6 (.list 119 (T12)) (.own (.ro))],[],[]⟩),true,[]⟩ (.j [.dat 6 (.list 119 (T12)) (.own (.ro)),.i 7,.box 2 true (T2) (.ro)] [(2,⟨5,[]⟩)] (.e .z (.e (.e (.e (.e .z (.j [.dat 6 (.list 119 (T12)) (.own (.ro)),.i 7,.box 2 true (T2) (.ro)] [(2,⟨5,[]⟩)] (.o (tr 0 23 19 [(19,⟨[],.ro,[6,12,17,19,20,23,26,29,31,32,40,41],[],some 12⟩)])) .z)) (.e .z (.e (.e (.k [.g 4]) .z) .z))) .z) .z)) .z) .z)) (.e (.k [.g 4]) .z))))
theorem eW:CK ct:=ck ct Tryz.f210 jK [] [.tmp 4,.tmp 5] (cc eL (cc Vb cn))
def Py:List Prm:=[⟨.ro,T2⟩,⟨.ro,.list 119 (T12)⟩,⟨.ro,.int .i64⟩]
def VB:List Ret:=[⟨.bool,.ro⟩]
def SE (n:Nat):Cal:=⟨211,Py,VB,fun x=>(BM n).1 x.1 x.2.1 x.2.2.1,0⟩
def QF:List Prm:=[⟨.ro,T2⟩,⟨.ro,.list 119 (T12)⟩,⟨.ro,.int .i64⟩]
def VJ:List Ret:=[⟨.bool,.ro⟩]
def SJ (n:Nat):Cal:=⟨251,QF,VJ,fun x=>(BM n).2.1 x.1 x.2.1 x.2.2.1,0⟩
def dR:Hn:=(.e (.o [(0,.m' M2)]) (.e (.e .z (.n ⟨[],[],(some ⟨[],[],[]⟩),true,[]⟩ (.j [.snp 1 (.list 119 (T12)) [],.i 2,.i 7,.box 3 true (T2) (.ro)] [(3,⟨7,[]⟩)] (.e .z (.e (.e (.e (.o (tr 0 19 13 [])) .z) .z) .z)) .z) .z)) .z))
def YW (n:Nat):Env:=⟨tab,[SJ n],3,32⟩
theorem lD:(fun(n:Nat) (x:HL (pts Py))=>den (YW n) (Tryz.f211.body.getD .skip) dR (CI 0 32 Py x) (BS tab [] Py VB [.tmp 6]) (fun _ _=>none) (BS tab [] Py VB [.tmp 6]))=fun n=>(SE (n+1)).F:=by kernel_rfl
def dY:Hn:=(.e (.o [(0,.m' M2)]) (.e (.o [(5,.m' M7),(6,.m' M7)]) (.e .z (.e (.e .z (.e (.e (.o (tr 0 21 7 [(7,⟨[],.ro,[20,27],[],none⟩),(8,.t 28),(9,.t 29),(10,⟨[],M6,[9],[9],none⟩),(11,⟨[],M6,[9],[9],none⟩),(12,.t 10)])) .z) .z)) (.e (.o (tr 0 31 7 [(7,.t 8)])) (.e .z (.e (.e .z (.e (.e .z (.e .z (.e .z (.e (.e (.j [.l 6] [] .z .z) .z) (.e .z (.e (.e (.j [.l 6] [] .z .z) .z) (.e .z (.e (.e (.n ⟨[],[],(some ⟨[.l 6],[],[]⟩),false,(tr 0 75 20 [(20,.t 6)])⟩ .z .z) .z) (.e .z (.e (.e (.n ⟨[],[],(some ⟨[.l 6],[],[]⟩),false,(tr 0 97 11 [(11,.t 6)])⟩ .z .z) .z) .z)))))))))) .z)) .z)))))))
def Ye (n:Nat):Env:=⟨tab,[dF,YE,Ut,SE n],3,110⟩
theorem lK:(fun(n:Nat) (x:HL (pts QF))=>den (Ye n) (Tryz.f251.body.getD .skip) dY (CI 0 110 QF x) (BS tab [] QF VJ [.tmp 6]) (fun _ _=>none) (BS tab [] QF VJ [.tmp 6]))=fun n=>(SJ (n+1)).F:=by kernel_rfl
theorem aa:∀ n,Cok Tryz.prog (SE n)∧Cok Tryz.prog (SJ n):=by
 intro n;have h254:=km
 have h212:=Vb
 have h252:=eh
 induction n with
 | zero=>exact⟨Bd (fn:=Tryz.f211) (by kernel_rfl) (by kernel_rfl) (by kernel_rfl) (fun _=>rfl),Bd (fn:=Tryz.f251) (by kernel_rfl) (by kernel_rfl) (by kernel_rfl) (fun _=>rfl)⟩
 | succ n ih=>
  obtain⟨h211,h251⟩:=ih;refine⟨?_,?_⟩
  ·exact BH (E:=YW n) (c:=SE (n+1)) (fn:=Tryz.f211) (code:=Tryz.f211.body.getD .skip) (hn:=dR) (gr:=[]) (is:=[.tmp 6]) ⟨CL,(fun c hc=>by simp only [YW,List.mem_cons,List.not_mem_nil,or_false] at hc;rcases hc with rfl<;>assumption),CU⟩ ⟨by kernel_rfl,by kernel_rfl,by kernel_rfl,by kernel_rfl,by kernel_rfl,Nat.le_of_ble_eq_true rfl,by kernel_rfl⟩ (by kernel_rfl) (fun x y h=>(congrFun (congrFun lD n) x).trans h)
  ·exact BH (E:=Ye n) (c:=SJ (n+1)) (fn:=Tryz.f251) (code:=Tryz.f251.body.getD .skip) (hn:=dY) (gr:=[]) (is:=[.tmp 6]) ⟨CL,(fun c hc=>by simp only [Ye,List.mem_cons,List.not_mem_nil,or_false] at hc;rcases hc with rfl | rfl | rfl | rfl<;>assumption),CU⟩ ⟨by kernel_rfl,by kernel_rfl,by kernel_rfl,by kernel_rfl,by kernel_rfl,Nat.le_of_ble_eq_true rfl,by kernel_rfl⟩ (by kernel_rfl) (fun x y h=>(congrFun (congrFun lK n) x).trans h)
def gk:Cal:=⟨211,Py,VB,fun x=>HS x.1 x.2.1 x.2.2.1,0⟩
theorem ka:Cok Tryz.prog gk:=Bm (F:=fun n=>(SE n).F) (fun n=>(aa n).1)
def gq:Cal:=⟨251,QF,VJ,fun x=>TV x.1 x.2.1 x.2.2.1,0⟩
theorem c251:Cok Tryz.prog gq:=Bm (F:=fun n=>(SJ n).F) (fun n=>(aa n).2)
def cV:Cal:=⟨177,[⟨.ro,T2⟩],[⟨.bool,.ro⟩],fun x=>GG x.1,0⟩
def iu:Hn:=(.e (.o [(0,.m' M2)]) (.e .z (.e (.e .z (.n ⟨[],[],(some ⟨[],[],[]⟩),true,[]⟩ (.j [.i 3,.box 1 true (T2) (.ro)] [(1,⟨3,[]⟩)] (.e .z (.e (.e (.e (.k [.g 4]) (.e (.o [(5,.m' M6),(6,.m' M6)]) (.e (.n ⟨[],[.g 32],(some ⟨[.i 3,.l 52,.box 1 true (T2) (.ro)],[(1,⟨3,[]⟩)],[]⟩),false,(tr 0 28 25 [])⟩ .z .z) .z))) .z) .z)) .z) .z)) .z)))
theorem kM:CK cV:=ck cV Tryz.f177 iu [] [.tmp 2] (cc ju (cc eW (cc ka (cc Vb cn))))
def YF:Cal:=⟨213,[⟨.ptr (.pr (.ro) (.pr (.ro) (M3))),T0⟩,⟨.ro,.int .i64⟩],[⟨.int .i64,.ro⟩],fun x=>CT x.1 x.2.1,0⟩
def jL:Hn:=(.e .z (.e (.o [(8,.g [.g 10] .ro),(12,.m' (.own (.ro)))]) .z))
theorem eX:CK YF:=ck YF Tryz.f213 jL [] [.tmp 4] cn
def Uq:Cal:=⟨217,[⟨.ptr (.pr (.ro) (.pr (.ro) (M3))),T0⟩,⟨.mov (M5),T5⟩],[⟨.int .i64,.ro⟩],fun x=>Ay x.1 x.2.1,0⟩
def jN:Hn:=(.e (.o [(0,.m' M5)]) (.e (.o (tr 0 5 7 [(7,⟨[.g 11],M5,[3,11,12],[3],none⟩),(8,⟨[.g 10],M5,[0,6,7,8,9,10,12,13],[0],none⟩),(9,.t 14),(10,.t 15),(11,.t 16),(12,⟨[],.own (M5),[0,6,7,8,9,13,14,15,16],[0],none⟩)])) .z))
theorem Vc:CK Uq:=ck Uq Tryz.f217 jN [] [.tmp 4] cn
def YM:Cal:=⟨256,[⟨.ro,.int .i64⟩],[⟨.bool,.ro⟩],fun x=>Jc x.1,0⟩
def jf:Hn:=(.e .z (.e (.j [.l 2] [] .z .z) .z))
theorem ko:CK YM:=ck YM Tryz.f256 jf [] [.tmp 2] cn
def YN:Cal:=⟨257,[⟨.ro,.int .i64⟩],[⟨.int .i64,.ro⟩],fun x=>MY x.1,0⟩
def jg:Hn:=.z
theorem kp:CK YN:=ck YN Tryz.f257 jg [] [.tmp 2] cn
def QB:List Prm:=[⟨.ptr (.pr (.ro) (.pr (.ro) (M3))),T0⟩,⟨.ro,.int .i64⟩]
def VE:List Ret:=[⟨.int .i64,.ro⟩]
def SG (n:Nat):Cal:=⟨215,QB,VE,fun x=>(Bo n).1 x.1 x.2.1,0⟩
def dU:Hn:=(.e .z (.e (.o [(8,.m' M7),(9,.m' M7)]) (.e (.k [.g 6]) (.e (.e .z (.j [.i 1,.d 6,.box 0 true (T0) (.pr (.ro) (.pr (.ro) (M3))),.box 5 true (T7) (.ro)] [(0,⟨1,[]⟩),(5,⟨11,[]⟩)] (.j [.i 1,.d 6,.i 7,.box 0 true (T0) (.pr (.ro) (.pr (.ro) (M3))),.box 5 true (T7) (.ro)] [(0,⟨1,[]⟩),(5,⟨11,[]⟩)] (.e .z (.e (.e (.n ⟨[],[.g 6],none,false,[(9,.g [.g 28] .ro)]⟩ .z .z) .z) .z)) .z) .z)) (.e (.o (tr 0 38 10 [(10,.t 8)])) (.e .z (.e (.e .z (.j [.d 6,.i 8,.i 9,.box 0 true (T0) (.pr (.ro) (.pr (.ro) (M3))),.box 5 true (T7) (.ro)] [(0,⟨1,[]⟩),(5,⟨11,[]⟩)] .z .z)) (.e (.e .z (.e (.e .z (.e (.e (.o [(5,.g [.g 61] M5)]) .z) (.e .z (.e (.e .z (.e (.e .z (.j [.i 9,.i 10,.box 0 true (T0) (.pr (.ro) (.pr (.ro) (M3))),.box 5 true (T7) (.ro)] [(0,⟨1,[]⟩),(5,⟨11,[]⟩)] .z .z)) (.e (.o (tr 0 69 10 [(10,⟨[],M5,[79],[],none⟩),(11,⟨[],.ro,[0,69,72,73,74,79,80],[0],none⟩)])) .z))) .z)))) .z)) (.e (.o (tr 0 82 6 [(6,⟨[],M5,[88],[],none⟩),(7,⟨[],M5,[11],[11],none⟩),(8,⟨[],M5,[11,88],[11],none⟩)])) (.e (.e .z (.j [.d 6,.i 9,.box 0 true (T0) (.pr (.ro) (.pr (.ro) (M3))),.box 11 true (T5) (M5)] [(0,⟨1,[]⟩),(11,⟨23,[]⟩)] (.o (tr 0 92 8 [(8,⟨[],.ro,[11,99],[11],none⟩)])) .z)) (.e (.e .z (.j [.d 6,.i 9,.box 0 true (T0) (.pr (.ro) (.pr (.ro) (M3))),.box 11 true (T5) (M5)] [(0,⟨1,[]⟩),(11,⟨23,[]⟩)] .z .z)) (.e (.e .z (.j [.i 9,.box 0 true (T0) (.pr (.ro) (.pr (.ro) (M3))),.box 11 true (T5) (M5)] [(0,⟨1,[]⟩),(11,⟨23,[]⟩)] .z .z)) (.e (.o [(2,.g [.g 115] .ro)]) .z)))))))))))))
def YZ (n:Nat):Env:=⟨tab,[SG n,YE,YF,Uq,YM,Un,YN],2,118⟩
theorem lG:(fun(n:Nat) (x:HL (pts QB))=>den (YZ n) (Tryz.f215.body.getD .skip) dU (CI 0 118 QB x) (BS tab [] QB VE [.tmp 4]) (fun _ _=>none) (BS tab [] QB VE [.tmp 4]))=fun n=>(SG (n+1)).F:=by kernel_rfl
theorem gB:∀ n,Cok Tryz.prog (SG n):=by
 intro n;have h212:=Vb
 have h213:=eX
 have h217:=Vc
 have h256:=ko
 have h166:=SY
 have h257:=kp
 induction n with
 | zero=>exact Bd (fn:=Tryz.f215) (by kernel_rfl) (by kernel_rfl) (by kernel_rfl) (fun _=>rfl)
 | succ n ih=>
  have h215:=ih
  refine ?_
  ·exact BH (E:=YZ n) (c:=SG (n+1)) (fn:=Tryz.f215) (code:=Tryz.f215.body.getD .skip) (hn:=dU) (gr:=[]) (is:=[.tmp 4]) ⟨CL,(fun c hc=>by simp only [YZ,List.mem_cons,List.not_mem_nil,or_false] at hc;rcases hc with rfl | rfl | rfl | rfl | rfl | rfl | rfl<;>assumption),CU⟩ ⟨by kernel_rfl,by kernel_rfl,by kernel_rfl,by kernel_rfl,by kernel_rfl,Nat.le_of_ble_eq_true rfl,by kernel_rfl⟩ (by kernel_rfl) (fun x y h=>(congrFun (congrFun lG n) x).trans h)
def cu:Cal:=⟨215,QB,VE,fun x=>Cp x.1 x.2.1,0⟩
theorem eY:Cok Tryz.prog cu:=Bm (F:=fun n=>(SG n).F) (fun n=>(gB n))
def YG:Cal:=⟨216,[⟨.ptr (.pr (.ro) (.pr (.ro) (M3))),T0⟩,⟨.ro,.int .i64⟩],[],fun x=>Co x.1 x.2.1,0⟩
def jM:Hn:=(.e .z (.e .z (.j [.box 0 true (T0) (.pr (.ro) (.pr (.ro) (M3)))] [] (.j [.snp 4 (.list 3 (.int .i64)) [],.i 5,.box 0 true (T0) (.pr (.ro) (.pr (.ro) (M3)))] [(0,⟨1,[]⟩)] (.e .z (.e (.e (.e (.o (tr 0 23 11 [(11,⟨[],M7,[6],[6],none⟩),(12,⟨[],M7,[6],[6],none⟩)])) (.e (.n ⟨[],[],(some ⟨[.snp 4 (.list 3 (.int .i64)) [],.i 5,.l 53,.box 0 true (T0) (.pr (.ro) (.pr (.ro) (M3))),.box 6 true (T7) (.ro)],[(0,⟨1,[]⟩),(6,⟨13,[]⟩)],[]⟩),false,(tr 0 34 20 [])⟩ .z .z) (.j [.snp 4 (.list 3 (.int .i64)) [],.i 5,.box 0 true (T0) (.pr (.ro) (.pr (.ro) (M3)))] [(0,⟨1,[]⟩)] (.o (tr 0 54 8 [(8,⟨[],M5,[62],[],none⟩),(9,⟨[],.ro,[0,54,55,56,57,62,63],[0],none⟩)])) .z))) .z) .z)) .z) .z)))
theorem eZ:CK YG:=ck YG Tryz.f216 jM [] [] (cc SY (cc Vc cn))
def QA:List Prm:=[⟨.ptr (.pr (.ro) (.pr (.ro) (M3))),T0⟩,⟨.ro,.int .i64⟩]
def VD:List Ret:=[]
def SF (n:Nat):Cal:=⟨214,QA,VD,fun x=>(AW n).1 x.1 x.2.1,0⟩
def QI:List Prm:=[⟨.ptr (.pr (.ro) (.pr (.ro) (M3))),T0⟩,⟨.ro,.int .i64⟩]
def VM:List Ret:=[]
def SM (n:Nat):Cal:=⟨255,QI,VM,fun x=>(AW n).2.1 x.1 x.2.1,0⟩
def QL:List Prm:=[⟨.ptr (.pr (.ro) (.pr (.ro) (M3))),T0⟩,⟨.ro,.int .i64⟩]
def VP:List Ret:=[]
def SP (n:Nat):Cal:=⟨286,QL,VP,fun x=>(AW n).2.2.1 x.1 x.2.1,0⟩
def dT:Hn:=(.e .z (.e .z (.j [.box 0 true (T0) (.pr (.ro) (.pr (.ro) (M3)))] [] (.j [.snp 4 (.list 3 (.int .i64)) [],.i 5,.box 0 true (T0) (.pr (.ro) (.pr (.ro) (M3)))] [(0,⟨1,[]⟩)] .z .z) .z)))
def YY (n:Nat):Env:=⟨tab,[SM n],2,27⟩
theorem lF:(fun(n:Nat) (x:HL (pts QA))=>den (YY n) (Tryz.f214.body.getD .skip) dT (CI 0 27 QA x) (BS tab [] QA VD []) (fun _ _=>none) (BS tab [] QA VD []))=fun n=>(SF (n+1)).F:=by kernel_rfl
def de:Hn:=(.e (.o [(8,.m' M7),(9,.m' M7)]) (.e .z (.e .z (.e .z (.e (.e (.e .z (.j [.i 5,.i 6,.i 31,.l 32,.box 0 true (T0) (.pr (.ro) (.pr (.ro) (M3))),.box 4 true (T7) (.ro)] [(0,⟨1,[]⟩),(4,⟨9,[]⟩)] .z .z)) (.j [.box 0 true (T0) (.pr (.ro) (.pr (.ro) (M3)))] [] (.o (tr 0 35 9 [(9,⟨[],M5,[44],[],none⟩),(10,⟨[],.ro,[0,35,36,37,38,44,45],[0],none⟩)])) (.e .z (.j [.box 0 true (T0) (.pr (.ro) (.pr (.ro) (M3)))] [] (.o (tr 0 48 9 [(9,⟨[],M5,[57],[],none⟩),(10,⟨[],.ro,[0,48,49,50,51,57,58],[0],none⟩)])) (.e .z (.j [.box 0 true (T0) (.pr (.ro) (.pr (.ro) (M3)))] [] (.o [(2,.m' M5)]) (.e .z (.j [.box 0 true (T0) (.pr (.ro) (.pr (.ro) (M3)))] [] (.e (.j [.i 6,.l 79,.box 0 true (T0) (.pr (.ro) (.pr (.ro) (M3)))] [(0,⟨1,[]⟩)] .z .z) (.j [.box 0 true (T0) (.pr (.ro) (.pr (.ro) (M3)))] [] (.o [(2,.m' M5)]) .z)) (.e .z (.j [.box 0 true (T0) (.pr (.ro) (.pr (.ro) (M3)))] [] (.e (.o [(2,.m' M5)]) (.e .z (.e (.o [(1,.m' M5)]) (.e (.o (tr 0 99 14 [(14,⟨[],.ro,[0,86,90,96,99,100,101,102,103,105,106,107,108,109,111,112],[0],some 1⟩)])) (.e .z (.o (tr 0 119 14 [(14,⟨[],.ro,[0,86,90,96,99,100,101,102,105,106,107,108,113,119,120,121,122,123,125,126,127,128,129,131,132],[0],some 1⟩)]))))))) (.e .z (.j [.box 0 true (T0) (.pr (.ro) (.pr (.ro) (M3)))] [] (.e (.o [(2,.m' M5)]) (.e .z (.e (.o [(2,.m' M5)]) (.o (tr 0 149 14 [(14,⟨[],.ro,[0,135,139,145,149,150,151,152,153,155,156,157,158,159,161,162],[0],some 1⟩)]))))) .z)))))))))))) .z)))))
def Yh (n:Nat):Env:=⟨tab,[cu,Un,Uq,SP n],2,163⟩
theorem lN:(fun(n:Nat) (x:HL (pts QI))=>den (Yh n) (Tryz.f255.body.getD .skip) de (CI 0 163 QI x) (BS tab [] QI VM []) (fun _ _=>none) (BS tab [] QI VM []))=fun n=>(SM (n+1)).F:=by kernel_rfl
def dh:Hn:=.z
def Yk (n:Nat):Env:=⟨tab,[SF n,YG],2,10⟩
theorem lQ:(fun(n:Nat) (x:HL (pts QL))=>den (Yk n) (Tryz.f286.body.getD .skip) dh (CI 0 10 QL x) (BS tab [] QL VP []) (fun _ _=>none) (BS tab [] QL VP []))=fun n=>(SP (n+1)).F:=by kernel_rfl
theorem Vf:∀ n,Cok Tryz.prog (SF n)∧Cok Tryz.prog (SM n)∧Cok Tryz.prog (SP n):=by
 intro n;have h215:=eY
 have h166:=SY
 have h217:=Vc
 have h216:=eZ
 induction n with
 | zero=>exact⟨Bd (fn:=Tryz.f214) (by kernel_rfl) (by kernel_rfl) (by kernel_rfl) (fun _=>rfl),Bd (fn:=Tryz.f255) (by kernel_rfl) (by kernel_rfl) (by kernel_rfl) (fun _=>rfl),Bd (fn:=Tryz.f286) (by kernel_rfl) (by kernel_rfl) (by kernel_rfl) (fun _=>rfl)⟩
 | succ n ih=>
  obtain⟨h214,h255,h286⟩:=ih;refine⟨?_,?_,?_⟩
  ·exact BH (E:=YY n) (c:=SF (n+1)) (fn:=Tryz.f214) (code:=Tryz.f214.body.getD .skip) (hn:=dT) (gr:=[]) (is:=[]) ⟨CL,(fun c hc=>by simp only [YY,List.mem_cons,List.not_mem_nil,or_false] at hc;rcases hc with rfl<;>assumption),CU⟩ ⟨by kernel_rfl,by kernel_rfl,by kernel_rfl,by kernel_rfl,by kernel_rfl,Nat.le_of_ble_eq_true rfl,by kernel_rfl⟩ (by kernel_rfl) (fun x y h=>(congrFun (congrFun lF n) x).trans h)
  ·exact BH (E:=Yh n) (c:=SM (n+1)) (fn:=Tryz.f255) (code:=Tryz.f255.body.getD .skip) (hn:=de) (gr:=[]) (is:=[]) ⟨CL,(fun c hc=>by simp only [Yh,List.mem_cons,List.not_mem_nil,or_false] at hc;rcases hc with rfl | rfl | rfl | rfl<;>assumption),CU⟩ ⟨by kernel_rfl,by kernel_rfl,by kernel_rfl,by kernel_rfl,by kernel_rfl,Nat.le_of_ble_eq_true rfl,by kernel_rfl⟩ (by kernel_rfl) (fun x y h=>(congrFun (congrFun lN n) x).trans h)
  ·exact BH (E:=Yk n) (c:=SP (n+1)) (fn:=Tryz.f286) (code:=Tryz.f286.body.getD .skip) (hn:=dh) (gr:=[]) (is:=[]) ⟨CL,(fun c hc=>by simp only [Yk,List.mem_cons,List.not_mem_nil,or_false] at hc;rcases hc with rfl | rfl<;>assumption),CU⟩ ⟨by kernel_rfl,by kernel_rfl,by kernel_rfl,by kernel_rfl,by kernel_rfl,Nat.le_of_ble_eq_true rfl,by kernel_rfl⟩ (by kernel_rfl) (fun x y h=>(congrFun (congrFun lQ n) x).trans h)
def gm:Cal:=⟨214,QA,VD,fun x=>ED x.1 x.2.1,0⟩
theorem kb:Cok Tryz.prog gm:=Bm (F:=fun n=>(SF n).F) (fun n=>(Vf n).1)
def gw:Cal:=⟨255,QI,VM,fun x=>NL x.1 x.2.1,0⟩
theorem c255:Cok Tryz.prog gw:=Bm (F:=fun n=>(SM n).F) (fun n=>(Vf n).2.1)
def gz:Cal:=⟨286,QL,VP,fun x=>Mk x.1 x.2.1,0⟩
theorem c286:Cok Tryz.prog gz:=Bm (F:=fun n=>(SP n).F) (fun n=>(Vf n).2.2)
def cN:Cal:=⟨145,[⟨.ro,T3⟩,⟨.ro,.int .i64⟩],[⟨.bool,.ro⟩],fun x=>Ci x.1 x.2.1,0⟩
def ig:Hn:=(.e (.o [(0,.m' M3)]) .z)
theorem eR:CK cN:=ck cN Tryz.f145 ig [] [.tmp 4] (cc c82 cn)
def cM:Cal:=⟨144,[⟨.ro,T3⟩,⟨.ro,T5⟩],[⟨.bool,.ro⟩],fun x=>LV x.1 x.2.1,0⟩
def ie:Hn:=(.e (.o [(0,.m' M3),(1,.m' M5)]) (.e (.e (.e (.j [.l 5,.box 2 true (T3) (.ro),.box 3 true (T5) (.ro)] [(2,⟨5,[]⟩),(3,⟨7,[]⟩)] .z .z) (.e (.e (.j [.l 4] [] .z .z) .z) .z)) .z) .z))
theorem kF:CK cM:=ck cM Tryz.f144 ie [] [.tmp 4] (cc eR cn)
def bp:Cal:=⟨101,[⟨.ro,.int .i64⟩],[⟨.bool,.ro⟩],fun x=>FI x.1,0⟩
def iC:Hn:=(.e .z (.e (.j [.l 2] [] .z .z) .z))
theorem jq:CK bp:=ck bp Tryz.f101 iC [] [.tmp 2] (cc c82 cn)
def bq:Cal:=⟨102,[⟨.ro,.int .i64⟩],[⟨.bool,.ro⟩],fun x=>FJ x.1,0⟩
def iD:Hn:=.z
theorem jr:CK bq:=ck bq Tryz.f102 iD [] [.tmp 2] (cc c82 cn)
def C83:Cal:=⟨83,[⟨.ro,T3⟩,⟨.ro,T5⟩],[⟨.bool,.ro⟩],fun x=>JB x.1 x.2.1,0⟩
def H83:Hn:=(.e (.o [(0,.m' M3),(1,.m' M5)]) (.e (.e (.j [.l 15,.box 2 true (T3) (.ro),.box 3 true (T5) (.ro)] [(2,⟨5,[]⟩),(3,⟨7,[]⟩)] .z .z) .z) (.e (.e (.j [.l 36,.box 2 true (T3) (.ro),.box 3 true (T5) (.ro)] [(2,⟨5,[]⟩),(3,⟨7,[]⟩)] .z .z) .z) (.e (.e (.j [.l 57,.box 2 true (T3) (.ro),.box 3 true (T5) (.ro)] [(2,⟨5,[]⟩),(3,⟨7,[]⟩)] .z .z) .z) (.e (.e .z (.e (.e .z (.n ⟨[],[],(some ⟨[.box 2 true (T3) (.ro),.box 3 true (T5) (.ro)],[(2,⟨5,[]⟩),(3,⟨7,[]⟩)],[]⟩),true,[]⟩ .z (.e (.e .z (.j [.l 69,.box 2 true (T3) (.ro),.box 3 true (T5) (.ro)] [(2,⟨5,[]⟩),(3,⟨7,[]⟩)] .z .z)) (.n ⟨[],[],(some ⟨[.box 2 true (T3) (.ro),.box 3 true (T5) (.ro)],[(2,⟨5,[]⟩),(3,⟨7,[]⟩)],[]⟩),true,[]⟩ .z .z)))) .z)) (.e (.e .z (.e (.e (.j [.l 4] [] .z .z) .z) .z)) (.e (.e .z (.n ⟨[],[],(some ⟨[.box 3 true (T5) (.ro)],[(3,⟨7,[]⟩)],[]⟩),true,[]⟩ (.j [.i 5,.box 2 true (T3) (.ro),.box 3 true (T5) (.ro)] [(2,⟨5,[]⟩),(3,⟨7,[]⟩)] (.e .z (.e (.e (.e (.o (tr 0 99 8 [])) .z) .z) .z)) .z) .z)) (.e (.j [.l 4] [] .z .z) .z))))))))
theorem c83:CK C83:=ck C83 Tryz.f83 H83 [] [.tmp 4] (cc c82 (cc kF (cc jq (cc eR (cc jr (cc c81 cn))))))
def C15:Cal:=⟨15,[⟨.ro,T3⟩],[⟨.bool,.ro⟩],fun x=>CG x.1,0⟩
def H15:Hn:=(.e (.o [(0,.m' M3)]) (.e (.e (.j [.l 42,.box 1 true (T3) (.ro)] [(1,⟨3,[]⟩)] .z .z) .z) (.e (.e .z (.n ⟨[],[],(some ⟨[.box 1 true (T3) (.ro)],[(1,⟨3,[]⟩)],[]⟩),true,[]⟩ (.j [.i 3,.box 1 true (T3) (.ro)] [(1,⟨3,[]⟩)] .z .z) .z)) (.e (.e .z (.n ⟨[],[],(some ⟨[],[],[]⟩),true,[]⟩ (.j [.i 4,.box 1 true (T3) (.ro)] [(1,⟨3,[]⟩)] (.e .z (.e (.e (.e (.o (tr 0 64 8 [])) .z) .z) .z)) .z) .z)) .z))))
theorem c15:CK C15:=ck C15 Tryz.f15 H15 [] [.tmp 2] (cc c81 (cc c82 (cc c83 cn)))
end
end Go.Proofs.YtmakhmoielhjeaaGreatDoorE

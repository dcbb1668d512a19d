/- The functions of X reckon so (2). No condition. -/
import Derived.Test.YtmakhmoielhjeaaGreatDoorLawGX1
set_option linter.all false
namespace Go.Proofs.YtmakhmoielhjeaaGreatDoorE
noncomputable section
set_option maxRecDepth 100000
def TM:List Prm:=[⟨.ptr (.pr (.ro) (.pr (.ro) (.pr (.ro) (.pr (.ro) (.own (M7)))))),T4⟩]
def YE:List Ret:=[⟨.int .i64,.ro⟩]
def Sy (n:Nat):Cal:=⟨244,TM,YE,fun x=>(AB n).1 x.1,0⟩
def TQ:List Prm:=[⟨.ptr (.pr (.ro) (.pr (.ro) (.pr (.ro) (.pr (.ro) (.own (M7)))))),T4⟩]
def YH:List Ret:=[⟨.int .i64,.ro⟩]
def VQ (n:Nat):Cal:=⟨283,TQ,YH,fun x=>(AB n).2.1 x.1,0⟩
def TS:List Prm:=[⟨.ptr (.pr (.ro) (.pr (.ro) (.pr (.ro) (.pr (.ro) (.own (M7)))))),T4⟩]
def YJ:List Ret:=[⟨.int .i64,.ro⟩]
def Sz (n:Nat):Cal:=⟨301,TS,YJ,fun x=>(AB n).2.2.1 x.1,0⟩
def TT:List Prm:=[⟨.ptr (.pr (.ro) (.pr (.ro) (.pr (.ro) (.pr (.ro) (.own (M7)))))),T4⟩,⟨.ro,.str⟩]
def YK:List Ret:=[⟨.int .i64,.ro⟩]
def VS (n:Nat):Cal:=⟨306,TT,YK,fun x=>(AB n).2.2.2.1 x.1 x.2.1,0⟩
def iW:Hn:=(.e .z (.e .z (.e .z (.e (.e .z (.j [.i 3,.i 4,.box 0 true (T4) (.pr (.ro) (.pr (.ro) (.pr (.ro) (.pr (.ro) (.own (M7))))))] [(0,⟨1,[]⟩)] .z (.e .z (.j [.i 3,.i 4,.box 0 true (T4) (.pr (.ro) (.pr (.ro) (.pr (.ro) (.pr (.ro) (.own (M7))))))] [(0,⟨1,[]⟩)] .z .z)))) (.e (.e .z (.j [.i 3,.box 0 true (T4) (.pr (.ro) (.pr (.ro) (.pr (.ro) (.pr (.ro) (.own (M7))))))] [] (.e .z (.o [(5,.m' M7)])) .z)) .z)))))
def bg (n:Nat):Env:=⟨tab,[VQ n,RQ,Pm],1,24⟩
theorem pE:(fun(n:Nat) (x:HL (pts TM))=>den (bg n) (Tryz.f244.body.getD .skip) iW (DL 0 24 TM x) (Be tab [] TM YE [.tmp 2]) (fun _ _=>none) (Be tab [] TM YE [.tmp 2]))=fun n=>(Sy (n+1)).F:=by kernel_rfl
def iZ:Hn:=(.e .z (.e .z (.e (.j [.i 3,.box 0 true (T4) (.pr (.ro) (.pr (.ro) (.pr (.ro) (.pr (.ro) (.own (M7))))))] [] (.j [.i 3,.box 0 true (T4) (.pr (.ro) (.pr (.ro) (.pr (.ro) (.pr (.ro) (.own (M7))))))] [(0,⟨1,[]⟩)] (.e .z (.e (.e .z (.o [(4,.m' M7)])) .z)) .z) .z) .z)))
def bj (n:Nat):Env:=⟨tab,[Sz n,RQ,Pm],1,18⟩
theorem pH:(fun(n:Nat) (x:HL (pts TQ))=>den (bj n) (Tryz.f283.body.getD .skip) iZ (DL 0 18 TQ x) (Be tab [] TQ YH [.tmp 2]) (fun _ _=>none) (Be tab [] TQ YH [.tmp 2]))=fun n=>(VQ (n+1)).F:=by kernel_rfl
def ib:Hn:=(.e .z (.e (.e (.n ⟨[],[],(some ⟨[.l 28,.box 0 true (T4) (.pr (.ro) (.pr (.ro) (.pr (.ro) (.pr (.ro) (.own (M7))))))],[(0,⟨1,[]⟩)],[]⟩),false,(tr 0 6 23 [])⟩ .z .z) .z) (.e .z (.e .z (.e (.e (.e (.o (tr 0 52 12 [(12,.t 51)])) (.j [.i 3,.box 0 true (T4) (.pr (.ro) (.pr (.ro) (.pr (.ro) (.pr (.ro) (.own (M7))))))] [(0,⟨1,[]⟩)] (.e .z (.o (tr 0 72 13 [(13,⟨[],M7,[85],[],none⟩),(14,⟨[],.ro,[0,32,33,34,35,38,39,52,53,54,56,57,58,64,65,66,67,70,71,72,73,74,75,77,78,79,85,86],[0],none⟩),(15,.t 3)]))) (.e .z (.j [.i 3,.box 0 true (T4) (.pr (.ro) (.pr (.ro) (.pr (.ro) (.pr (.ro) (.own (M7))))))] [(0,⟨1,[]⟩)] (.o [(3,.m' M7)]) (.e .z (.j [.i 3,.box 0 true (T4) (.pr (.ro) (.pr (.ro) (.pr (.ro) (.pr (.ro) (.own (M7))))))] [(0,⟨1,[]⟩)] .z (.e .z (.j [.i 3,.box 0 true (T4) (.pr (.ro) (.pr (.ro) (.pr (.ro) (.pr (.ro) (.own (M7))))))] [(0,⟨1,[]⟩)] .z (.e .z (.j [.i 3,.box 0 true (T4) (.pr (.ro) (.pr (.ro) (.pr (.ro) (.pr (.ro) (.own (M7))))))] [(0,⟨1,[]⟩)] (.o [(3,.m' M7)]) (.e .z (.j [.i 3,.box 0 true (T4) (.pr (.ro) (.pr (.ro) (.pr (.ro) (.pr (.ro) (.own (M7))))))] [(0,⟨1,[]⟩)] (.o [(1,.m' M7)]) (.e .z (.j [.i 3,.box 0 true (T4) (.pr (.ro) (.pr (.ro) (.pr (.ro) (.pr (.ro) (.own (M7))))))] [(0,⟨1,[]⟩)] (.e .z (.o [(3,.m' M7)])) (.e .z (.e .z (.j [.i 3,.box 0 true (T4) (.pr (.ro) (.pr (.ro) (.pr (.ro) (.pr (.ro) (.own (M7))))))] [(0,⟨1,[]⟩)] .z (.o [(2,.m' M7)])))))))))))))))))) .z) .z)))))
def bn (n:Nat):Env:=⟨tab,[Pm,RQ,Xq,bR,Sy n,Sx,Sz n,VS n],1,140⟩
theorem pJ:(fun(n:Nat) (x:HL (pts TS))=>den (bn n) (Tryz.f301.body.getD .skip) ib (DL 0 140 TS x) (Be tab [] TS YJ [.tmp 2]) (fun _ _=>none) (Be tab [] TS YJ [.tmp 2]))=fun n=>(Sz (n+1)).F:=by kernel_rfl
def ic:Hn:=(.e .z (.e (.k [.g 5]) (.e (.e .z (.j [.snp 1 (.str) [],.d 5,.box 0 true (T4) (.pr (.ro) (.pr (.ro) (.pr (.ro) (.pr (.ro) (.own (M7))))))] [(0,⟨1,[]⟩)] (.j [.snp 1 (.str) [],.d 5,.box 0 true (T4) (.pr (.ro) (.pr (.ro) (.pr (.ro) (.pr (.ro) (.own (M7))))))] [(0,⟨1,[]⟩)] (.j [.snp 1 (.str) [],.d 5,.box 0 true (T4) (.pr (.ro) (.pr (.ro) (.pr (.ro) (.pr (.ro) (.own (M7))))))] [(0,⟨1,[]⟩)] (.e .z (.e (.e (.n ⟨[],[.g 5],none,false,[(4,.g [.g 15] .ro)]⟩ .z .z) .z) .z)) .z) .z) .z)) (.e (.o [(3,.g [.g 26] M7)]) .z))))
def bo (n:Nat):Env:=⟨tab,[RQ,Sy n,Sx,Pm],2,29⟩
theorem pK:(fun(n:Nat) (x:HL (pts TT))=>den (bo n) (Tryz.f306.body.getD .skip) ic (DL 0 29 TT x) (Be tab [] TT YK [.tmp 4]) (fun _ _=>none) (Be tab [] TT YK [.tmp 4]))=fun n=>(VS (n+1)).F:=by kernel_rfl
theorem Uu:∀ n,Cok Tryz.prog (Sy n)∧Cok Tryz.prog (VQ n)∧Cok Tryz.prog (Sz n)∧Cok Tryz.prog (VS n):=by
 intro n;have h238:=TX
 have h243:=Va
 have h239:=YT
 have h305:=oq
 have h240:=VZ
 induction n with
 | zero=>exact⟨Bs (fn:=Tryz.f244) (by kernel_rfl) (by kernel_rfl) (by kernel_rfl) (fun _=>rfl),Bs (fn:=Tryz.f283) (by kernel_rfl) (by kernel_rfl) (by kernel_rfl) (fun _=>rfl),Bs (fn:=Tryz.f301) (by kernel_rfl) (by kernel_rfl) (by kernel_rfl) (fun _=>rfl),Bs (fn:=Tryz.f306) (by kernel_rfl) (by kernel_rfl) (by kernel_rfl) (fun _=>rfl)⟩
 | succ n ih=>
  obtain⟨h244,h283,h301,h306⟩:=ih;refine⟨?_,?_,?_,?_⟩
  ·exact BN (E:=bg n) (c:=Sy (n+1)) (fn:=Tryz.f244) (code:=Tryz.f244.body.getD .skip) (hn:=iW) (gr:=[]) (is:=[.tmp 2]) ⟨DR,(fun c hc=>by simp only [bg,List.mem_cons,List.not_mem_nil,or_false] at hc;rcases hc with rfl | rfl | rfl<;>assumption),Dp⟩ ⟨by kernel_rfl,by kernel_rfl,by kernel_rfl,by kernel_rfl,by kernel_rfl,Nat.le_of_ble_eq_true rfl,by kernel_rfl⟩ (by kernel_rfl) (fun x y h=>(congrFun (congrFun pE n) x).trans h)
  ·exact BN (E:=bj n) (c:=VQ (n+1)) (fn:=Tryz.f283) (code:=Tryz.f283.body.getD .skip) (hn:=iZ) (gr:=[]) (is:=[.tmp 2]) ⟨DR,(fun c hc=>by simp only [bj,List.mem_cons,List.not_mem_nil,or_false] at hc;rcases hc with rfl | rfl | rfl<;>assumption),Dp⟩ ⟨by kernel_rfl,by kernel_rfl,by kernel_rfl,by kernel_rfl,by kernel_rfl,Nat.le_of_ble_eq_true rfl,by kernel_rfl⟩ (by kernel_rfl) (fun x y h=>(congrFun (congrFun pH n) x).trans h)
  ·exact BN (E:=bn n) (c:=Sz (n+1)) (fn:=Tryz.f301) (code:=Tryz.f301.body.getD .skip) (hn:=ib) (gr:=[]) (is:=[.tmp 2]) ⟨DR,(fun c hc=>by simp only [bn,List.mem_cons,List.not_mem_nil,or_false] at hc;rcases hc with rfl | rfl | rfl | rfl | rfl | rfl | rfl | rfl<;>assumption),Dp⟩ ⟨by kernel_rfl,by kernel_rfl,by kernel_rfl,by kernel_rfl,by kernel_rfl,Nat.le_of_ble_eq_true rfl,by kernel_rfl⟩ (by kernel_rfl) (fun x y h=>(congrFun (congrFun pJ n) x).trans h)
  ·exact BN (E:=bo n) (c:=VS (n+1)) (fn:=Tryz.f306) (code:=Tryz.f306.body.getD .skip) (hn:=ic) (gr:=[]) (is:=[.tmp 4]) ⟨DR,(fun c hc=>by simp only [bo,List.mem_cons,List.not_mem_nil,or_false] at hc;rcases hc with rfl | rfl | rfl | rfl<;>assumption),Dp⟩ ⟨by kernel_rfl,by kernel_rfl,by kernel_rfl,by kernel_rfl,by kernel_rfl,Nat.le_of_ble_eq_true rfl,by kernel_rfl⟩ (by kernel_rfl) (fun x y h=>(congrFun (congrFun pK n) x).trans h)
def gz:Cal:=⟨244,TM,YE,fun x=>Bj x.1,0⟩
theorem cK:Cok Tryz.prog gz:=CP (F:=fun n=>(Sy n).F) (fun n=>(Uu n).1)
def lB:Cal:=⟨283,TQ,YH,fun x=>SB x.1,0⟩
theorem c283:Cok Tryz.prog lB:=CP (F:=fun n=>(VQ n).F) (fun n=>(Uu n).2.1)
def lD:Cal:=⟨301,TS,YJ,fun x=>Qw x.1,0⟩
theorem c301:Cok Tryz.prog lD:=CP (F:=fun n=>(Sz n).F) (fun n=>(Uu n).2.2.1)
def lE:Cal:=⟨306,TT,YK,fun x=>Qu x.1 x.2.1,0⟩
theorem c306:Cok Tryz.prog lE:=CP (F:=fun n=>(VS n).F) (fun n=>(Uu n).2.2.2)
def bQ:Cal:=⟨299,[⟨.ptr (.pr (.ro) (.pr (.ro) (.pr (.ro) (.pr (.ro) (.own (M7)))))),T4⟩,⟨.ro,.int .i64⟩,⟨.ro,.str⟩],[⟨.int .i64,.ro⟩],fun x=>BQ x.1 x.2.1 x.2.2.1,0⟩
def nL:Hn:=(.e .z (.e .z (.e .z (.e (.o [(5,.m' M7)]) .z))))
theorem oo:CK bQ:=ck bQ Tryz.f299 nL [] [.tmp 6] (cc cK (cc VZ (cc Va cn)))
def TL:List Prm:=[⟨.ptr (.pr (.ro) (.pr (.ro) (.pr (.ro) (.pr (.ro) (.own (M7)))))),T4⟩]
def YD:List Ret:=[⟨.list 3 (.int .i64),.own (.ro)⟩]
def VN (n:Nat):Cal:=⟨242,TL,YD,fun x=>(AL n).1 x.1,0⟩
def TP:List Prm:=[⟨.ptr (.pr (.ro) (.pr (.ro) (.pr (.ro) (.pr (.ro) (.own (M7)))))),T4⟩]
def YG:List Ret:=[⟨.int .i64,.ro⟩]
def VP (n:Nat):Cal:=⟨282,TP,YG,fun x=>(AL n).2.1 x.1,0⟩
def TR:List Prm:=[⟨.ptr (.pr (.ro) (.pr (.ro) (.pr (.ro) (.pr (.ro) (.own (M7)))))),T4⟩]
def YI:List Ret:=[⟨.int .i64,.ro⟩]
def VR (n:Nat):Cal:=⟨300,TR,YI,fun x=>(AL n).2.2.1 x.1,0⟩
def iU:Hn:=(.e .z (.e (.k [.g 3]) (.e (.j [.d 3,.box 0 true (T4) (.pr (.ro) (.pr (.ro) (.pr (.ro) (.pr (.ro) (.own (M7))))))] [] (.j [.d 3,.box 0 true (T4) (.pr (.ro) (.pr (.ro) (.pr (.ro) (.pr (.ro) (.own (M7))))))] [(0,⟨1,[]⟩)] (.e (.e (.j [.d 3,.l 20,.box 0 true (T4) (.pr (.ro) (.pr (.ro) (.pr (.ro) (.pr (.ro) (.own (M7))))))] [(0,⟨1,[]⟩)] .z .z) .z) (.e (.e .z (.n ⟨[],[.g 3],none,false,[(3,.g [.g 23] .ro)]⟩ .z .z)) .z)) .z) .z) (.e (.k [.g 2]) .z))))
def bf (n:Nat):Env:=⟨tab,[bP,VP n],1,28⟩
theorem pD:(fun(n:Nat) (x:HL (pts TL))=>den (bf n) (Tryz.f242.body.getD .skip) iU (DL 0 28 TL x) (Be tab [] TL YD [.tmp 2]) (fun _ _=>none) (Be tab [] TL YD [.tmp 2]))=fun n=>(VN (n+1)).F:=by kernel_rfl
def iY:Hn:=(.e .z (.e (.e (.e .z (.e .z (.e .z (.e .z (.e .z (.e (.e .z (.e .z (.e (.e .z (.j [.i 5,.i 6,.box 0 true (T4) (.pr (.ro) (.pr (.ro) (.pr (.ro) (.pr (.ro) (.own (M7))))))] [(0,⟨1,[]⟩)] .z .z)) (.e .z (.e (.o [(5,.m' M7)]) .z))))) (.e .z (.e (.e .z (.e .z (.e (.o [(4,.m' M7)]) .z))) .z)))))))) .z) .z))
def bi (n:Nat):Env:=⟨tab,[RQ,Xq,Sx,bQ,gz,VR n,Pm],1,83⟩
theorem pG:(fun(n:Nat) (x:HL (pts TP))=>den (bi n) (Tryz.f282.body.getD .skip) iY (DL 0 83 TP x) (Be tab [] TP YG [.tmp 2]) (fun _ _=>none) (Be tab [] TP YG [.tmp 2]))=fun n=>(VP (n+1)).F:=by kernel_rfl
def ia:Hn:=(.e .z (.e .z (.e (.e .z (.j [.box 0 true (T4) (.pr (.ro) (.pr (.ro) (.pr (.ro) (.pr (.ro) (.own (M7))))))] [(0,⟨1,[]⟩)] .z .z)) (.e .z (.e (.k [.g 3]) (.e .z (.e .z (.e (.o [(2,.g [.g 35] M7)]) .z))))))))
def bm (n:Nat):Env:=⟨tab,[Sx,VN n,Pm],1,38⟩
theorem pI:(fun(n:Nat) (x:HL (pts TR))=>den (bm n) (Tryz.f300.body.getD .skip) ia (DL 0 38 TR x) (Be tab [] TR YI [.tmp 2]) (fun _ _=>none) (Be tab [] TR YI [.tmp 2]))=fun n=>(VR (n+1)).F:=by kernel_rfl
theorem YU:∀ n,Cok Tryz.prog (VN n)∧Cok Tryz.prog (VP n)∧Cok Tryz.prog (VR n):=by
 intro n;have h281:=jP
 have h238:=TX
 have h239:=YT
 have h240:=VZ
 have h299:=oo
 have h244:=cK
 have h243:=Va
 induction n with
 | zero=>exact⟨Bs (fn:=Tryz.f242) (by kernel_rfl) (by kernel_rfl) (by kernel_rfl) (fun _=>rfl),Bs (fn:=Tryz.f282) (by kernel_rfl) (by kernel_rfl) (by kernel_rfl) (fun _=>rfl),Bs (fn:=Tryz.f300) (by kernel_rfl) (by kernel_rfl) (by kernel_rfl) (fun _=>rfl)⟩
 | succ n ih=>
  obtain⟨h242,h282,h300⟩:=ih;refine⟨?_,?_,?_⟩
  ·exact BN (E:=bf n) (c:=VN (n+1)) (fn:=Tryz.f242) (code:=Tryz.f242.body.getD .skip) (hn:=iU) (gr:=[]) (is:=[.tmp 2]) ⟨DR,(fun c hc=>by simp only [bf,List.mem_cons,List.not_mem_nil,or_false] at hc;rcases hc with rfl | rfl<;>assumption),Dp⟩ ⟨by kernel_rfl,by kernel_rfl,by kernel_rfl,by kernel_rfl,by kernel_rfl,Nat.le_of_ble_eq_true rfl,by kernel_rfl⟩ (by kernel_rfl) (fun x y h=>(congrFun (congrFun pD n) x).trans h)
  ·exact BN (E:=bi n) (c:=VP (n+1)) (fn:=Tryz.f282) (code:=Tryz.f282.body.getD .skip) (hn:=iY) (gr:=[]) (is:=[.tmp 2]) ⟨DR,(fun c hc=>by simp only [bi,List.mem_cons,List.not_mem_nil,or_false] at hc;rcases hc with rfl | rfl | rfl | rfl | rfl | rfl | rfl<;>assumption),Dp⟩ ⟨by kernel_rfl,by kernel_rfl,by kernel_rfl,by kernel_rfl,by kernel_rfl,Nat.le_of_ble_eq_true rfl,by kernel_rfl⟩ (by kernel_rfl) (fun x y h=>(congrFun (congrFun pG n) x).trans h)
  ·exact BN (E:=bm n) (c:=VR (n+1)) (fn:=Tryz.f300) (code:=Tryz.f300.body.getD .skip) (hn:=ia) (gr:=[]) (is:=[.tmp 2]) ⟨DR,(fun c hc=>by simp only [bm,List.mem_cons,List.not_mem_nil,or_false] at hc;rcases hc with rfl | rfl | rfl<;>assumption),Dp⟩ ⟨by kernel_rfl,by kernel_rfl,by kernel_rfl,by kernel_rfl,by kernel_rfl,Nat.le_of_ble_eq_true rfl,by kernel_rfl⟩ (by kernel_rfl) (fun x y h=>(congrFun (congrFun pI n) x).trans h)
def ky:Cal:=⟨242,TL,YD,fun x=>Di x.1,0⟩
theorem oe:Cok Tryz.prog ky:=CP (F:=fun n=>(VN n).F) (fun n=>(YU n).1)
def lA:Cal:=⟨282,TP,YG,fun x=>Qv x.1,0⟩
theorem c282:Cok Tryz.prog lA:=CP (F:=fun n=>(VP n).F) (fun n=>(YU n).2.1)
def lC:Cal:=⟨300,TR,YI,fun x=>QV x.1,0⟩
theorem c300:Cok Tryz.prog lC:=CP (F:=fun n=>(VR n).F) (fun n=>(YU n).2.2)
def gi:Cal:=⟨208,[⟨.ptr (.pr (.ro) (.pr (.ro) (.pr (.ro) (.pr (.ro) (.own (M7)))))),T4⟩],[⟨T6,M6⟩],fun x=>Dr x.1,0⟩
def mZ:Hn:=(.e (.o [(0,.m' M6)]) (.e (.e .z (.j [.box 0 true (T4) (.pr (.ro) (.pr (.ro) (.pr (.ro) (.pr (.ro) (.own (M7)))))),.box 2 true (T6) (M6)] [(0,⟨1,[]⟩),(2,⟨5,[]⟩)] .z .z)) (.e (.o [(2,.m' M6),(3,.m' M6),(4,.m' M6)]) (.e .z (.e (.e .z (.j [.box 0 true (T4) (.pr (.ro) (.pr (.ro) (.pr (.ro) (.pr (.ro) (.own (M7)))))),.box 2 true (T6) (M6),.box 3 true (T6) (M6)] [(0,⟨1,[]⟩),(2,⟨5,[]⟩),(3,⟨7,[]⟩)] (.j [.box 0 true (T4) (.pr (.ro) (.pr (.ro) (.pr (.ro) (.pr (.ro) (.own (M7)))))),.box 2 true (T6) (M6),.box 3 true (T6) (M6)] [(0,⟨1,[]⟩),(2,⟨5,[]⟩),(3,⟨7,[]⟩)] (.j [.box 0 true (T4) (.pr (.ro) (.pr (.ro) (.pr (.ro) (.pr (.ro) (.own (M7)))))),.box 2 true (T6) (M6),.box 3 true (T6) (M6)] [(0,⟨1,[]⟩),(2,⟨5,[]⟩),(3,⟨7,[]⟩)] (.e .z (.e (.e .z (.e .z (.e .z (.e (.o [(4,.g [.g 34] .ro),(6,.m' (.own (.ro)))]) .z)))) .z)) .z) .z) .z)) (.e (.e .z (.j [.box 0 true (T4) (.pr (.ro) (.pr (.ro) (.pr (.ro) (.pr (.ro) (.own (M7)))))),.box 2 true (T6) (M6),.box 3 true (T6) (M6)] [(0,⟨1,[]⟩),(2,⟨5,[]⟩),(3,⟨7,[]⟩)] .z .z)) (.e .z (.e (.k [.g 5]) (.e (.o [(2,.g [.g 53] M7)]) (.e (.e .z (.j [.box 0 true (T4) (.pr (.ro) (.pr (.ro) (.pr (.ro) (.pr (.ro) (.own (M7)))))),.box 2 true (T6) (M6),.box 3 true (T6) (M6)] [(0,⟨1,[]⟩),(2,⟨5,[]⟩),(3,⟨7,[]⟩)] .z .z)) (.e .z (.e (.o [(1,.g [.g 66] M6)]) .z))))))))))))
theorem oQ:CK gi:=ck gi Tryz.f208 mZ [] [.cell 2 125] (cc TX (cc YT (cc VZ (cc od (cc oe (cc Va (cc cK cn)))))))
def gu:Cal:=⟨234,[⟨.ro,.int .i64⟩],[⟨.int .i64,.ro⟩,⟨.int .i64,.ro⟩],fun x=>Jw x.1,0⟩
def mn:Hn:=(.e .z (.e (.e .z (.e (.e (.e .z (.j [.i 4,.l 5] [] .z (.e .z (.j [.i 4,.l 5] [] .z (.e .z (.j [.i 4,.l 5] [] .z (.e .z (.j [.i 4,.l 5] [] .z (.e .z (.j [.i 4,.l 5] [] .z .z)))))))))) (.e .z (.e (.e .z (.j [.i 4,.l 12] [] .z (.e .z (.j [.i 4,.l 12] [] .z (.e .z (.j [.i 4,.l 12] [] .z .z)))))) .z))) .z)) .z))
theorem oY:CK gu:=ck gu Tryz.f234 mn [] [.tmp 2,.tmp 3] cn
def gv:Cal:=⟨235,[⟨.ro,.int .i64⟩],[⟨.bool,.ro⟩],fun x=>Iz x.1,0⟩
def mo:Hn:=(.e .z (.e (.e .z (.e (.e (.e .z (.j [.l 4] [] .z (.e .z (.j [.l 4] [] .z (.e .z (.j [.l 4] [] .z (.e .z (.j [.l 4] [] .z (.e .z (.j [.l 4] [] .z (.e .z (.j [.l 4] [] .z (.e .z (.j [.l 4] [] .z (.e .z (.j [.l 4] [] .z .z)))))))))))))))) .z) .z)) .z))
theorem oZ:CK gv:=ck gv Tryz.f235 mo [] [.tmp 2] cn
def hZ:Cal:=⟨279,[⟨.ro,.int .i64⟩],[⟨.bool,.ro⟩],fun x=>IX x.1,0⟩
def nG:Hn:=.z
theorem oj:CK hZ:=ck hZ Tryz.f279 nG [] [.tmp 2] (cc c82 cn)
def gn:Cal:=⟨230,[⟨.ro,.int .i64⟩],[⟨.bool,.ro⟩],fun x=>Gx x.1,0⟩
def mh:Hn:=.z
theorem jM:CK gn:=ck gn Tryz.f230 mh [] [.tmp 2] (cc c82 cn)
def gw:Cal:=⟨236,[⟨.ro,.int .i64⟩,⟨.ro,.int .i64⟩,⟨.ro,.int .i64⟩],[⟨.bool,.ro⟩],fun x=>Jv x.1 x.2.1 x.2.2.1,0⟩
def mq:Hn:=(.e .z (.e (.e .z (.e (.e .z (.e .z (.e (.e .z (.j [.i 1,.i 2,.i 7,.l 12] [] .z .z)) (.n ⟨[],[],(some ⟨[.i 2],[],[]⟩),true,[]⟩ .z .z)))) .z)) .z))
theorem oa:CK gw:=ck gw Tryz.f236 mq [] [.tmp 6] (cc oj (cc jM cn))
def gb:Cal:=⟨204,[⟨.ro,.list 114 (T7)⟩,⟨.ro,.int .i64⟩],[⟨.bool,.ro⟩],fun x=>Km x.1 x.2.1,0⟩
def mV:Hn:=(.e .z (.e (.e (.j [.snp 0 (.list 114 (T7)) [],.i 1,.l 24] [] .z .z) .z) (.e (.o [(4,.m' M7),(5,.m' M7)]) (.e .z (.e (.e (.j [.snp 0 (.list 114 (T7)) [],.i 1,.l 57,.box 5 true (T7) (.ro)] [(5,⟨11,[]⟩)] .z .z) .z) (.e (.e (.n ⟨[],[],(some ⟨[.snp 0 (.list 114 (T7)) [],.i 1,.l 75,.box 5 true (T7) (.ro)],[(5,⟨11,[]⟩)],[]⟩),false,(tr 0 58 18 [])⟩ .z .z) .z) (.e (.e .z (.n ⟨[],[],(some ⟨[],[],[]⟩),true,[]⟩ (.j [.snp 0 (.list 114 (T7)) [],.i 1,.i 8,.box 5 true (T7) (.ro)] [(5,⟨11,[]⟩)] (.e .z (.e (.n ⟨[],[],(some ⟨[.snp 0 (.list 114 (T7)) [],.i 1,.i 8,.box 5 true (T7) (.ro)],[(5,⟨11,[]⟩)],[]⟩),true,[]⟩ (.e (.e (.n ⟨[],[],(some ⟨[.snp 0 (.list 114 (T7)) [],.i 1,.i 8,.l 107,.box 5 true (T7) (.ro)],[(5,⟨11,[]⟩)],[]⟩),false,(tr 0 83 25 [])⟩ .z .z) .z) (.e .z (.n ⟨[],[],(some ⟨[.snp 0 (.list 114 (T7)) [],.i 1,.i 8,.box 5 true (T7) (.ro)],[(5,⟨11,[]⟩)],[]⟩),true,[]⟩ (.j [.snp 0 (.list 114 (T7)) [],.i 1,.i 8,.i 9,.box 5 true (T7) (.ro)] [(5,⟨11,[]⟩)] (.e .z (.e (.e (.e (.o (tr 0 113 11 [])) .z) .z) .z)) .z) .z))) .z) .z)) .z) .z)) .z)))))))
theorem oM:CK gb:=ck gb Tryz.f204 mV [] [.tmp 4] (cc c82 (cc oY (cc oZ (cc c81 (cc oa cn)))))
def gH:Cal:=⟨171,[⟨.ro,.list 114 (T7)⟩,⟨.ro,.int .i64⟩],[⟨.list 3 (.int .i64),.own (.ro)⟩],fun x=>Gw x.1 x.2.1,0⟩
def mB:Hn:=(.e .z (.e (.k [.g 5]) (.e (.e .z (.j [.d 5] [] (.j [.snp 0 (.list 114 (T7)) [],.i 1,.d 5,.i 6] [] (.e (.e (.j [.snp 0 (.list 114 (T7)) [],.i 1,.d 5,.i 6,.l 18] [] .z .z) .z) (.e (.j [.snp 0 (.list 114 (T7)) [],.i 1,.d 5,.i 6] [] (.e .z (.e (.e (.j [.snp 0 (.list 114 (T7)) [],.i 1,.d 5,.i 6,.i 7,.l 36] [] .z .z) (.j [.snp 0 (.list 114 (T7)) [],.i 1,.d 5,.i 6,.i 7] [] .z .z)) (.e (.e .z (.j [.snp 0 (.list 114 (T7)) [],.i 1,.d 5,.i 6,.i 7] [] (.j [.snp 0 (.list 114 (T7)) [],.i 1,.d 5,.i 6,.i 7,.i 8] [] (.e (.e (.j [.snp 0 (.list 114 (T7)) [],.i 1,.d 5,.i 6,.i 7,.i 8,.l 48] [] .z .z) .z) (.e (.e (.e .z (.j [.snp 0 (.list 114 (T7)) [],.i 1,.d 5,.i 6,.i 7,.i 8] [] .z .z)) .z) .z)) .z) .z)) (.e (.e .z (.j [.snp 0 (.list 114 (T7)) [],.i 1,.d 5,.i 6,.i 7] [] .z .z)) (.n ⟨[],[.g 5],none,false,[(3,.g [.g 79] .ro)]⟩ .z .z))))) .z) .z)) .z) .z)) (.e (.k [.g 4]) .z))))
theorem jI:CK gH:=ck gH Tryz.f171 mB [] [.tmp 4] (cc oM cn)
def gX:Cal:=⟨198,[⟨.ro,.list 114 (T7)⟩],[⟨.list 3 (.int .i64),.own (.ro)⟩],fun x=>Jx x.1,0⟩
def mQ:Hn:=(.e .z (.e (.k [.g 3]) (.e (.e .z (.j [.d 3] [] (.j [.snp 0 (.list 114 (T7)) [],.d 3,.i 4] [] (.e .z (.e (.j [.snp 0 (.list 114 (T7)) [],.d 3,.i 4] [] (.e .z (.j [.snp 0 (.list 114 (T7)) [],.d 3,.i 4] [] (.j [.snp 0 (.list 114 (T7)) [],.d 3,.i 4,.i 5] [] (.e .z (.e (.e (.o [(13,⟨[],.ro,[],[],some 6⟩)]) .z) .z)) .z) .z)) .z) .z)) .z) .z)) (.e (.k [.g 2]) .z))))
theorem oJ:CK gX:=ck gX Tryz.f198 mQ [] [.tmp 2] cn
def bJ:Cal:=⟨202,[⟨.ro,T2⟩,⟨.ro,.str⟩],[⟨.int .i64,.ro⟩],fun x=>Hv x.1 x.2.1,0⟩
def mT:Hn:=(.e (.o [(0,.m' M2)]) (.e (.e .z (.n ⟨[],[],(some ⟨[],[],[]⟩),true,[]⟩ (.j [.snp 1 (.str) [],.i 5,.box 2 true (T2) (.ro)] [(2,⟨5,[]⟩)] .z .z) .z)) .z))
theorem cJ:CK bJ:=ck bJ Tryz.f202 mT [] [.tmp 4] cn
def gY:Cal:=⟨199,[⟨.ro,T2⟩,⟨.ro,.int .i64⟩],[⟨.bool,.ro⟩],fun x=>Ll x.1 x.2.1,0⟩
def mR:Hn:=(.e (.o [(0,.m' M2)]) (.e (.o [(5,.m' M6),(6,.m' M6)]) (.e (.e (.j [.l 35,.box 2 true (T2) (.ro),.box 5 true (T6) (.ro)] [(2,⟨5,[]⟩),(5,⟨11,[]⟩)] .z .z) .z) (.e (.e .z (.n ⟨[],[],(some ⟨[.box 2 true (T2) (.ro),.box 5 true (T6) (.ro)],[(2,⟨5,[]⟩),(5,⟨11,[]⟩)],[]⟩),true,[]⟩ (.j [.i 6,.box 2 true (T2) (.ro),.box 5 true (T6) (.ro)] [(2,⟨5,[]⟩),(5,⟨11,[]⟩)] (.e .z (.e (.e (.e (.j [.i 6,.l 60,.box 2 true (T2) (.ro),.box 5 true (T6) (.ro)] [(2,⟨5,[]⟩),(5,⟨11,[]⟩)] .z .z) .z) .z) .z)) .z) .z)) (.e (.e (.j [.l 78,.box 2 true (T2) (.ro),.box 5 true (T6) (.ro)] [(2,⟨5,[]⟩),(5,⟨11,[]⟩)] .z .z) .z) (.e .z (.e (.j [.l 4] [] .z .z) .z)))))))
theorem oK:CK gY:=ck gY Tryz.f199 mR [] [.tmp 4] (cc c81 (cc cJ (cc c82 (cc jM cn))))
def gD:Cal:=⟨165,[⟨.ro,T2⟩],[⟨.bool,.ro⟩],fun x=>EV x.1,0⟩
def lw:Hn:=(.e (.o [(0,.m' M2)]) (.e (.e (.j [.l 18,.box 1 true (T2) (.ro)] [(1,⟨3,[]⟩)] .z .z) .z) (.e (.k [.g 3]) (.e .z (.e (.k [.g 4]) (.e (.e .z (.n ⟨[],[],(some ⟨[.d 4],[],[]⟩),true,[]⟩ (.j [.d 4,.i 5,.box 1 true (T2) (.ro)] [(1,⟨3,[]⟩)] (.e .z (.e (.e (.e .z (.e (.o (tr 0 47 18 [(18,⟨[],.ro,[4,47,54,61,64],[],some 8⟩)])) (.e .z (.j [.d 4,.i 5,.box 1 true (T2) (.ro)] [(1,⟨3,[]⟩)] (.o (tr 0 72 18 [(18,⟨[],.ro,[4,72,79,86,89],[],some 8⟩)])) .z)))) .z) .z)) .z) .z)) (.e (.e .z (.n ⟨[],[],(some ⟨[],[],[]⟩),true,[]⟩ (.j [.d 4,.i 6] [] (.e .z (.e (.e (.e (.j [.d 4,.i 6,.l 107] [] .z .z) .z) .z) .z)) .z) .z)) .z)))))))
theorem jG:CK gD:=ck gD Tryz.f165 lw [] [.tmp 2] (cc c82 (cc jI (cc oJ (cc oK cn))))
def gL:Cal:=⟨175,[⟨.ro,.str⟩],[⟨T2,M2⟩,⟨.bool,.ro⟩],fun x=>Bc x.1,0⟩
def mE:Hn:=(.e (.o [(0,.m' M2)]) (.e (.k [.g 4]) (.e (.e .z (.e (.e (.o [(0,.m' M2),(1,.m' M2)]) .z) .z)) (.e (.o [(1,.g [.g 16] M4),(2,.m' M4)]) (.e (.o [(0,.m' M2),(1,.m' M2),(2,.m' M2)]) (.e (.j [.box 2 true (T2) (M2),.box 7 true (T2) (M2),.box 18 true (T4) (.pr (.ro) (.pr (.ro) (.pr (.ro) (.pr (.ro) (.own (M7))))))] [(2,⟨5,[]⟩),(6,⟨37,[]⟩),(7,⟨15,[]⟩)] (.n ⟨[.w 37 (.pr (.ro) (.pr (.ro) (.pr (.ro) (.pr (.ro) (.own (M7))))))],[],(some ⟨[.box 2 true (T2) (M2),.box 7 true (T2) (M2),.box 18 true (T4) (.pr (.ro) (.pr (.ro) (.pr (.ro) (.pr (.ro) (.own (M7))))))],[(2,⟨5,[]⟩),(6,⟨37,[]⟩),(7,⟨15,[]⟩)],[]⟩),false,[]⟩ (.e (.e (.n ⟨[],[.w 37 (M4)],(some ⟨[.l 42,.box 2 true (T2) (M2),.box 7 true (T2) (M2),.box 18 true (T4) (.pr (.ro) (.pr (.ro) (.pr (.ro) (.pr (.ro) (.own (M7))))))],[(2,⟨5,[]⟩),(6,⟨37,[]⟩),(7,⟨15,[]⟩)],[]⟩),false,(tr 0 20 23 [])⟩ .z .z) (.e .z (.n ⟨[.w 37 (M4)],[],none,false,[]⟩ .z .z))) (.e (.n ⟨[.w 37 (.pr (.ro) (.pr (.ro) (.pr (.ro) (.pr (.ro) (.own (M7))))))],[.w 37 (M4)],none,false,(tr 0 43 3 [(3,⟨[],.ro,[6,45,46],[18],none⟩),(4,⟨[],M6,[46,47],[],none⟩),(5,⟨[.g 44],M6,[7,43,44,47,48],[7],none⟩),(6,.t 49),(7,⟨[],.own (M6),[7,43,48,49],[7],none⟩)])⟩ .z .z) .z)) .z) .z) (.e (.o [(5,.g [.g 53] (.own (M7)))]) (.e (.e (.j [.l 63,.box 2 true (T2) (M2),.box 7 true (T2) (M2)] [(2,⟨5,[]⟩),(7,⟨15,[]⟩)] .z .z) (.e (.e (.o [(0,.m' M2),(1,.m' M2)]) .z) .z)) (.e (.o [(1,.g [.g 65] M2)]) .z)))))))))
theorem jJ:CK gL:=ck gL Tryz.f175 mE [] [.cell 2 69,.tmp 3] (cc oP (cc oQ (cc jG cn)))
def fi:Cal:=⟨134,[⟨.ptr (.ro),T10⟩],[⟨T2,M2⟩],fun x=>Cx x.1,0⟩
def lZ:Hn:=(.e (.o [(0,.m' M2)]) (.e (.o [(6,.m' M2),(7,.m' M2)]) (.e (.e .z (.j [.box 0 true (T10) (.ro),.box 2 true (T2) (M2),.box 3 true (T2) (M2)] [(2,⟨5,[]⟩),(3,⟨7,[]⟩)] (.e (.o [(4,.m' M2)]) (.e .z (.j [.box 0 true (T10) (.ro),.box 2 true (T2) (M2),.box 3 true (T2) (M2)] [(2,⟨5,[]⟩),(3,⟨7,[]⟩)] (.o [(4,.m' M2)]) .z))) .z)) (.e (.o [(1,.g [.g 25] M2)]) .z))))
theorem iy:CK fi:=ck fi Tryz.f134 lZ [] [.cell 2 69] (cc nw (cc jJ cn))
def gk:Cal:=⟨226,[⟨.ro,.list 114 (T7)⟩],[⟨.list 114 (T7),.own (M7)⟩],fun x=>JA x.1,0⟩
def me:Hn:=(.e .z (.e (.n ⟨[],[.g 3],none,false,[(0,.m' M7)]⟩ .z .z) (.e (.e .z (.j [.dat 3 (.list 114 (T7)) (.own (M7))] [] (.j [.snp 0 (.list 114 (T7)) [],.dat 3 (.list 114 (T7)) (.own (M7)),.i 4] [] (.e .z (.e (.e (.e (.o [(4,.m' M7),(5,.m' M7)]) (.e (.o [(5,.m' (.own (.ro)))]) (.n ⟨[],[.g 3],none,false,[(2,.g [.g 23] M7),(3,.g [.g 22] M7)]⟩ .z .z))) .z) .z)) .z) .z)) (.e (.k [.g 2]) .z))))
theorem oU:CK gk:=ck gk Tryz.f226 me [] [.tmp 2] cn
def gR:Cal:=⟨191,[⟨.ro,T2⟩],[⟨T2,M2⟩],fun x=>Ju x.1,0⟩
def mK:Hn:=(.e (.o [(0,.m' M2),(1,.m' M2)]) (.e (.o [(3,.m' M2),(4,.m' M2),(5,.m' M2)]) (.e (.e .z (.j [.box 2 true (T2) (M2),.box 3 true (T2) (M2)] [(2,⟨5,[]⟩),(3,⟨7,[]⟩)] (.j [.i 4,.box 1 true (T2) (.ro),.box 2 true (T2) (M2),.box 3 true (T2) (M2)] [(1,⟨3,[]⟩),(2,⟨5,[]⟩),(3,⟨7,[]⟩)] (.e .z (.e (.e (.e (.o [(5,.m' M6),(6,.m' M6)]) (.e (.o [(5,.m' (.own (.ro)))]) (.o [(3,.g [.g 29] M6),(4,.g [.g 28] M6),(6,.m' (.own (M6)))]))) .z) .z)) .z) .z)) (.e (.o [(1,.g [.g 33] M2)]) .z))))
theorem oD:CK gR:=ck gR Tryz.f191 mK [] [.cell 2 69] (cc oU cn)
def fu:Cal:=⟨153,[⟨.ptr (.ro),T10⟩],[⟨T2,M2⟩],fun x=>Ko x.1,0⟩
def li:Hn:=(.e (.o [(0,.m' M2)]) (.e .z (.e .z (.e (.o [(3,.m' M2),(4,.m' M2)]) (.e .z (.e (.e .z (.e (.e .z (.j [.box 0 true (T10) (.ro),.box 2 true (T2) (M2),.box 5 true (T2) (M2)] [(2,⟨5,[]⟩),(5,⟨11,[]⟩)] (.o [(7,⟨[],.ro,[],[],some 11⟩)]) (.e .z (.j [.box 0 true (T10) (.ro),.box 2 true (T2) (M2),.box 5 true (T2) (M2)] [(2,⟨5,[]⟩),(5,⟨11,[]⟩)] (.o (tr 0 31 10 [(10,⟨[],.ro,[5,15,16,31,32,39,40],[5],some 11⟩)])) (.e .z (.j [.box 0 true (T10) (.ro),.box 2 true (T2) (M2),.box 5 true (T2) (M2)] [(2,⟨5,[]⟩),(5,⟨11,[]⟩)] (.o (tr 0 43 10 [(10,⟨[],.ro,[5,15,16,43,44,51,52],[5],some 11⟩)])) (.e .z (.j [.box 0 true (T10) (.ro),.box 2 true (T2) (M2),.box 5 true (T2) (M2)] [(2,⟨5,[]⟩),(5,⟨11,[]⟩)] (.n ⟨[.s 1 5 [.f]],[.u 1 [.f]],none,false,[(0,.t 55),(1,⟨[],.hole,[56],[],none⟩),(2,.t 57),(3,.t 58),(4,⟨[],.hole,[59],[],none⟩),(5,.t 60),(6,.t 61),(7,.t 62),(8,.t 63),(9,.t 64),(10,.t 65),(11,.t 66),(12,⟨[],.hole,[61,62,63,67],[1],none⟩),(13,.t 68),(14,.t 69),(15,⟨[],.hole,[67,68,69],[1],some 3⟩)]⟩ .z .z) (.e .z (.j [.box 0 true (T10) (.ro),.box 2 true (T2) (M2),.box 5 true (T2) (M2)] [(2,⟨5,[]⟩),(5,⟨11,[]⟩)] (.o (tr 0 72 10 [(10,⟨[],.ro,[5,15,16,72,73,75,76,80,81],[5],some 11⟩)])) (.e .z (.j [.box 0 true (T10) (.ro),.box 2 true (T2) (M2),.box 5 true (T2) (M2)] [(2,⟨5,[]⟩),(5,⟨11,[]⟩)] (.o (tr 0 84 10 [(10,⟨[],.ro,[5,15,16,84,85,87,88,92,93],[5],some 11⟩)])) (.e .z (.j [.box 0 true (T10) (.ro),.box 2 true (T2) (M2),.box 5 true (T2) (M2)] [(2,⟨5,[]⟩),(5,⟨11,[]⟩)] (.o (tr 0 96 9 [(9,⟨[],.ro,[5,15,16,96,97,99,100,103,104],[5],some 11⟩)])) (.e .z (.j [.box 0 true (T10) (.ro),.box 2 true (T2) (M2),.box 5 true (T2) (M2)] [(2,⟨5,[]⟩),(5,⟨11,[]⟩)] (.n ⟨[.s 1 5 [.s]],[.u 1 [.s]],none,false,[(0,.t 107),(1,⟨[],.hole,[108],[],none⟩),(2,.t 109),(3,.t 110),(4,⟨[],.hole,[111],[],none⟩),(5,⟨[],.hole,[112],[],none⟩),(6,.t 113),(7,.t 114),(8,⟨[],.hole,[115],[],none⟩),(9,.t 116),(10,.t 117),(11,⟨[],.hole,[118],[],none⟩),(12,.t 119),(13,.t 120),(14,.t 121),(15,.t 122),(16,.t 123),(17,.t 124),(18,.t 125),(19,.t 126),(20,.t 127),(21,⟨[],.hole,[121,122,123,128],[1],none⟩),(22,.t 129),(23,.t 130),(24,⟨[],.hole,[128,129,130],[1],some 3⟩)]⟩ .z .z) .z)))))))))))))))) .z)) (.e (.o [(1,.g [.g 131] M2)]) .z)))))))
theorem nc:CK fu:=ck fu Tryz.f153 li [] [.cell 2 69] (cc c88 (cc iy (cc oD cn)))
def fv:Cal:=⟨154,[⟨.ptr (.ro),T10⟩],[⟨T2,M2⟩],fun x=>HW x.1,0⟩
def lj:Hn:=(.e (.o [(0,.m' M2)]) (.e .z (.e (.e .z (.j [.snp 3 (.str) [],.box 0 true (T10) (.ro),.box 2 true (T2) (M2)] [(0,⟨1,[]⟩),(2,⟨5,[]⟩)] (.j [.snp 3 (.str) [],.i 4,.box 0 true (T10) (.ro),.box 2 true (T2) (M2)] [(0,⟨1,[]⟩),(2,⟨5,[]⟩)] .z .z) .z)) (.e (.o [(6,.m' M2),(7,.m' M2)]) (.e (.e .z (.e (.e (.o [(2,.m' M2)]) .z) .z)) (.e (.o [(1,.g [.g 29] M2)]) .z))))))
theorem ne:CK fv:=ck fv Tryz.f154 lj [] [.cell 2 69] (cc c88 (cc YS (cc jJ (cc iy cn))))
def fS:Cal:=⟨114,[⟨.ptr (.ro),T10⟩],[⟨T2,M2⟩],fun x=>HF x.1,0⟩
def lJ:Hn:=(.e (.o [(0,.m' M2)]) (.e (.e .z (.e (.e (.o [(2,.m' M2)]) .z) .z)) (.e (.o [(2,.m' M2)]) .z)))
theorem cD:CK fS:=ck fS Tryz.f114 lJ [] [.cell 2 69] (cc c89 (cc nc (cc ne cn)))
end
end Go.Proofs.YtmakhmoielhjeaaGreatDoorE

/- The functions of X reckon so (2). No condition. -/
import Derived.Test.YtmakhmoielhjeaaGreatDoorLawGX1
set_option linter.all false
namespace Go.Proofs.YtmakhmoielhjeaaGreatDoorE
noncomputable section
set_option maxRecDepth 100000
def RP:List Prm:=[⟨.ptr (.pr (.ro) (.pr (.ro) (.pr (.ro) (.pr (.ro) (.own (M7)))))),T4⟩]
def WX:List Ret:=[⟨.int .i64,.ro⟩]
def RA (n:Nat):Cal:=⟨244,RP,WX,fun x=>(AE n).1 x.1,0⟩
def RX:List Prm:=[⟨.ptr (.pr (.ro) (.pr (.ro) (.pr (.ro) (.pr (.ro) (.own (M7)))))),T4⟩]
def We:List Ret:=[⟨.int .i64,.ro⟩]
def Td (n:Nat):Cal:=⟨283,RX,We,fun x=>(AE n).2.1 x.1,0⟩
def Ra:List Prm:=[⟨.ptr (.pr (.ro) (.pr (.ro) (.pr (.ro) (.pr (.ro) (.own (M7)))))),T4⟩]
def Wh:List Ret:=[⟨.int .i64,.ro⟩]
def RC (n:Nat):Cal:=⟨301,Ra,Wh,fun x=>(AE n).2.2.1 x.1,0⟩
def Rb:List Prm:=[⟨.ptr (.pr (.ro) (.pr (.ro) (.pr (.ro) (.pr (.ro) (.own (M7)))))),T4⟩,⟨.ro,.str⟩]
def Wi:List Ret:=[⟨.int .i64,.ro⟩]
def Tg (n:Nat):Cal:=⟨306,Rb,Wi,fun x=>(AE n).2.2.2.1 x.1 x.2.1,0⟩
def fg:Hn:=(.e .z (.e .z (.e .z (.e (.e .z (.j [.i 3,.i 4,.box 0 true (T4) (.pr (.ro) (.pr (.ro) (.pr (.ro) (.pr (.ro) (.own (M7))))))] [(0,⟨1,[]⟩)] .z (.e .z (.j [.i 3,.i 4,.box 0 true (T4) (.pr (.ro) (.pr (.ro) (.pr (.ro) (.pr (.ro) (.own (M7))))))] [(0,⟨1,[]⟩)] .z .z)))) (.e (.e .z (.j [.i 3,.box 0 true (T4) (.pr (.ro) (.pr (.ro) (.pr (.ro) (.pr (.ro) (.own (M7))))))] [] (.e .z (.o [(5,.m' M7)])) .z)) .z)))))
def Zt (n:Nat):Env:=⟨tab,[Td n,PU,OA],1,24⟩
theorem nJ:(fun(n:Nat) (x:HL (pts RP))=>den (Zt n) (Tryz.f244.body.getD .skip) fg (CL 0 24 RP x) (BX tab [] RP WX [.tmp 2]) (fun _ _=>none) (BX tab [] RP WX [.tmp 2]))=fun n=>(RA (n+1)).F:=by kernel_rfl
def fq:Hn:=(.e .z (.e .z (.e (.j [.i 3,.box 0 true (T4) (.pr (.ro) (.pr (.ro) (.pr (.ro) (.pr (.ro) (.own (M7))))))] [] (.j [.i 3,.box 0 true (T4) (.pr (.ro) (.pr (.ro) (.pr (.ro) (.pr (.ro) (.own (M7))))))] [(0,⟨1,[]⟩)] (.e .z (.e (.e .z (.o [(4,.m' M7)])) .z)) .z) .z) .z)))
def aA (n:Nat):Env:=⟨tab,[RC n,PU,OA],1,18⟩
theorem nQ:(fun(n:Nat) (x:HL (pts RX))=>den (aA n) (Tryz.f283.body.getD .skip) fq (CL 0 18 RX x) (BX tab [] RX We [.tmp 2]) (fun _ _=>none) (BX tab [] RX We [.tmp 2]))=fun n=>(Td (n+1)).F:=by kernel_rfl
def fw:Hn:=(.e .z (.e (.e (.n ⟨[],[],(some ⟨[.l 28,.box 0 true (T4) (.pr (.ro) (.pr (.ro) (.pr (.ro) (.pr (.ro) (.own (M7))))))],[(0,⟨1,[]⟩)],[]⟩),false,(tr 0 6 23 [])⟩ .z .z) .z) (.e .z (.e .z (.e (.e (.e (.o (tr 0 52 12 [(12,.t 51)])) (.j [.i 3,.box 0 true (T4) (.pr (.ro) (.pr (.ro) (.pr (.ro) (.pr (.ro) (.own (M7))))))] [(0,⟨1,[]⟩)] (.e .z (.o (tr 0 72 13 [(13,⟨[],M7,[85],[],none⟩),(14,⟨[],.ro,[0,32,33,34,35,38,39,52,53,54,56,57,58,64,65,66,67,70,71,72,73,74,75,77,78,79,85,86],[0],none⟩),(15,.t 3)]))) (.e .z (.j [.i 3,.box 0 true (T4) (.pr (.ro) (.pr (.ro) (.pr (.ro) (.pr (.ro) (.own (M7))))))] [(0,⟨1,[]⟩)] (.o [(3,.m' M7)]) (.e .z (.j [.i 3,.box 0 true (T4) (.pr (.ro) (.pr (.ro) (.pr (.ro) (.pr (.ro) (.own (M7))))))] [(0,⟨1,[]⟩)] .z (.e .z (.j [.i 3,.box 0 true (T4) (.pr (.ro) (.pr (.ro) (.pr (.ro) (.pr (.ro) (.own (M7))))))] [(0,⟨1,[]⟩)] .z (.e .z (.j [.i 3,.box 0 true (T4) (.pr (.ro) (.pr (.ro) (.pr (.ro) (.pr (.ro) (.own (M7))))))] [(0,⟨1,[]⟩)] (.o [(3,.m' M7)]) (.e .z (.j [.i 3,.box 0 true (T4) (.pr (.ro) (.pr (.ro) (.pr (.ro) (.pr (.ro) (.own (M7))))))] [(0,⟨1,[]⟩)] (.o [(1,.m' M7)]) (.e .z (.j [.i 3,.box 0 true (T4) (.pr (.ro) (.pr (.ro) (.pr (.ro) (.pr (.ro) (.own (M7))))))] [(0,⟨1,[]⟩)] (.e .z (.o [(3,.m' M7)])) (.e .z (.e .z (.j [.i 3,.box 0 true (T4) (.pr (.ro) (.pr (.ro) (.pr (.ro) (.pr (.ro) (.own (M7))))))] [(0,⟨1,[]⟩)] .z (.o [(2,.m' M7)])))))))))))))))))) .z) .z)))))
def aD (n:Nat):Env:=⟨tab,[OA,PU,WJ,Zi,RA n,Qz,RC n,Tg n],1,140⟩
theorem nT:(fun(n:Nat) (x:HL (pts Ra))=>den (aD n) (Tryz.f301.body.getD .skip) fw (CL 0 140 Ra x) (BX tab [] Ra Wh [.tmp 2]) (fun _ _=>none) (BX tab [] Ra Wh [.tmp 2]))=fun n=>(RC (n+1)).F:=by kernel_rfl
def fx:Hn:=(.e .z (.e (.k [.g 5]) (.e (.e .z (.j [.snp 1 (.str) [],.d 5,.box 0 true (T4) (.pr (.ro) (.pr (.ro) (.pr (.ro) (.pr (.ro) (.own (M7))))))] [(0,⟨1,[]⟩)] (.j [.snp 1 (.str) [],.d 5,.box 0 true (T4) (.pr (.ro) (.pr (.ro) (.pr (.ro) (.pr (.ro) (.own (M7))))))] [(0,⟨1,[]⟩)] (.j [.snp 1 (.str) [],.d 5,.box 0 true (T4) (.pr (.ro) (.pr (.ro) (.pr (.ro) (.pr (.ro) (.own (M7))))))] [(0,⟨1,[]⟩)] (.e .z (.e (.e (.n ⟨[],[.g 5],none,false,[(4,.g [.g 15] .ro)]⟩ .z .z) .z) .z)) .z) .z) .z)) (.e (.o [(3,.g [.g 26] M7)]) .z))))
def aE (n:Nat):Env:=⟨tab,[PU,RA n,Qz,OA],2,29⟩
theorem nU:(fun(n:Nat) (x:HL (pts Rb))=>den (aE n) (Tryz.f306.body.getD .skip) fx (CL 0 29 Rb x) (BX tab [] Rb Wi [.tmp 4]) (fun _ _=>none) (BX tab [] Rb Wi [.tmp 4]))=fun n=>(Tg (n+1)).F:=by kernel_rfl
theorem TC:∀ n,Cok Tryz.prog (RA n)∧Cok Tryz.prog (Td n)∧Cok Tryz.prog (RC n)∧Cok Tryz.prog (Tg n):=by
 intro n;have h238:=Rf
 have h243:=Tr
 have h239:=Wt
 have h305:=my
 have h240:=Tq
 induction n with
 | zero=>exact⟨Bf (fn:=Tryz.f244) (by kernel_rfl) (by kernel_rfl) (by kernel_rfl) (fun _=>rfl),Bf (fn:=Tryz.f283) (by kernel_rfl) (by kernel_rfl) (by kernel_rfl) (fun _=>rfl),Bf (fn:=Tryz.f301) (by kernel_rfl) (by kernel_rfl) (by kernel_rfl) (fun _=>rfl),Bf (fn:=Tryz.f306) (by kernel_rfl) (by kernel_rfl) (by kernel_rfl) (fun _=>rfl)⟩
 | succ n ih=>
  obtain⟨h244,h283,h301,h306⟩:=ih;refine⟨?_,?_,?_,?_⟩
  ·exact BL (E:=Zt n) (c:=RA (n+1)) (fn:=Tryz.f244) (code:=Tryz.f244.body.getD .skip) (hn:=fg) (gr:=[]) (is:=[.tmp 2]) ⟨CN,(fun c hc=>by simp only [Zt,List.mem_cons,List.not_mem_nil,or_false] at hc;rcases hc with rfl | rfl | rfl<;>assumption),CX⟩ ⟨by kernel_rfl,by kernel_rfl,by kernel_rfl,by kernel_rfl,by kernel_rfl,Nat.le_of_ble_eq_true rfl,by kernel_rfl⟩ (by kernel_rfl) (fun x y h=>(congrFun (congrFun nJ n) x).trans h)
  ·exact BL (E:=aA n) (c:=Td (n+1)) (fn:=Tryz.f283) (code:=Tryz.f283.body.getD .skip) (hn:=fq) (gr:=[]) (is:=[.tmp 2]) ⟨CN,(fun c hc=>by simp only [aA,List.mem_cons,List.not_mem_nil,or_false] at hc;rcases hc with rfl | rfl | rfl<;>assumption),CX⟩ ⟨by kernel_rfl,by kernel_rfl,by kernel_rfl,by kernel_rfl,by kernel_rfl,Nat.le_of_ble_eq_true rfl,by kernel_rfl⟩ (by kernel_rfl) (fun x y h=>(congrFun (congrFun nQ n) x).trans h)
  ·exact BL (E:=aD n) (c:=RC (n+1)) (fn:=Tryz.f301) (code:=Tryz.f301.body.getD .skip) (hn:=fw) (gr:=[]) (is:=[.tmp 2]) ⟨CN,(fun c hc=>by simp only [aD,List.mem_cons,List.not_mem_nil,or_false] at hc;rcases hc with rfl | rfl | rfl | rfl | rfl | rfl | rfl | rfl<;>assumption),CX⟩ ⟨by kernel_rfl,by kernel_rfl,by kernel_rfl,by kernel_rfl,by kernel_rfl,Nat.le_of_ble_eq_true rfl,by kernel_rfl⟩ (by kernel_rfl) (fun x y h=>(congrFun (congrFun nT n) x).trans h)
  ·exact BL (E:=aE n) (c:=Tg (n+1)) (fn:=Tryz.f306) (code:=Tryz.f306.body.getD .skip) (hn:=fx) (gr:=[]) (is:=[.tmp 4]) ⟨CN,(fun c hc=>by simp only [aE,List.mem_cons,List.not_mem_nil,or_false] at hc;rcases hc with rfl | rfl | rfl | rfl<;>assumption),CX⟩ ⟨by kernel_rfl,by kernel_rfl,by kernel_rfl,by kernel_rfl,by kernel_rfl,Nat.le_of_ble_eq_true rfl,by kernel_rfl⟩ (by kernel_rfl) (fun x y h=>(congrFun (congrFun nU n) x).trans h)
def fP:Cal:=⟨244,RP,WX,fun x=>Bz x.1,0⟩
theorem aP:Cok Tryz.prog fP:=Bn (F:=fun n=>(RA n).F) (fun n=>(TC n).1)
def js:Cal:=⟨283,RX,We,fun x=>QE x.1,0⟩
theorem c283:Cok Tryz.prog js:=Bn (F:=fun n=>(Td n).F) (fun n=>(TC n).2.1)
def jv:Cal:=⟨301,Ra,Wh,fun x=>PF x.1,0⟩
theorem c301:Cok Tryz.prog jv:=Bn (F:=fun n=>(RC n).F) (fun n=>(TC n).2.2.1)
def jw:Cal:=⟨306,Rb,Wi,fun x=>PD x.1 x.2.1,0⟩
theorem c306:Cok Tryz.prog jw:=Bn (F:=fun n=>(Tg n).F) (fun n=>(TC n).2.2.2)
def Zh:Cal:=⟨299,[⟨.ptr (.pr (.ro) (.pr (.ro) (.pr (.ro) (.pr (.ro) (.own (M7)))))),T4⟩,⟨.ro,.int .i64⟩,⟨.ro,.str⟩],[⟨.int .i64,.ro⟩],fun x=>Bm x.1 x.2.1 x.2.2.1,0⟩
def ld:Hn:=(.e .z (.e .z (.e .z (.e (.o [(5,.m' M7)]) .z))))
theorem mx:CK Zh:=ck Zh Tryz.f299 ld [] [.tmp 6] (cc aP (cc Tq (cc Tr cn)))
def RO:List Prm:=[⟨.ptr (.pr (.ro) (.pr (.ro) (.pr (.ro) (.pr (.ro) (.own (M7)))))),T4⟩]
def WW:List Ret:=[⟨.list 3 (.int .i64),.own (.ro)⟩]
def TV (n:Nat):Cal:=⟨242,RO,WW,fun x=>(AP n).1 x.1,0⟩
def RW:List Prm:=[⟨.ptr (.pr (.ro) (.pr (.ro) (.pr (.ro) (.pr (.ro) (.own (M7)))))),T4⟩]
def Wd:List Ret:=[⟨.int .i64,.ro⟩]
def Tc (n:Nat):Cal:=⟨282,RW,Wd,fun x=>(AP n).2.1 x.1,0⟩
def RZ:List Prm:=[⟨.ptr (.pr (.ro) (.pr (.ro) (.pr (.ro) (.pr (.ro) (.own (M7)))))),T4⟩]
def Wg:List Ret:=[⟨.int .i64,.ro⟩]
def Tf (n:Nat):Cal:=⟨300,RZ,Wg,fun x=>(AP n).2.2.1 x.1,0⟩
def ff:Hn:=(.e .z (.e (.k [.g 3]) (.e (.j [.d 3,.box 0 true (T4) (.pr (.ro) (.pr (.ro) (.pr (.ro) (.pr (.ro) (.own (M7))))))] [] (.j [.d 3,.box 0 true (T4) (.pr (.ro) (.pr (.ro) (.pr (.ro) (.pr (.ro) (.own (M7))))))] [(0,⟨1,[]⟩)] (.e (.e (.j [.d 3,.l 20,.box 0 true (T4) (.pr (.ro) (.pr (.ro) (.pr (.ro) (.pr (.ro) (.own (M7))))))] [(0,⟨1,[]⟩)] .z .z) .z) (.e (.e .z (.n ⟨[],[.g 3],none,false,[(3,.g [.g 23] .ro)]⟩ .z .z)) .z)) .z) .z) (.e (.k [.g 2]) .z))))
def Zs (n:Nat):Env:=⟨tab,[Zg,Tc n],1,28⟩
theorem nI:(fun(n:Nat) (x:HL (pts RO))=>den (Zs n) (Tryz.f242.body.getD .skip) ff (CL 0 28 RO x) (BX tab [] RO WW [.tmp 2]) (fun _ _=>none) (BX tab [] RO WW [.tmp 2]))=fun n=>(TV (n+1)).F:=by kernel_rfl
def fp:Hn:=(.e .z (.e (.e (.e .z (.e .z (.e .z (.e .z (.e .z (.e (.e .z (.e .z (.e (.e .z (.j [.i 5,.i 6,.box 0 true (T4) (.pr (.ro) (.pr (.ro) (.pr (.ro) (.pr (.ro) (.own (M7))))))] [(0,⟨1,[]⟩)] .z .z)) (.e .z (.e (.o [(5,.m' M7)]) .z))))) (.e .z (.e (.e .z (.e .z (.e (.o [(4,.m' M7)]) .z))) .z)))))))) .z) .z))
def Zz (n:Nat):Env:=⟨tab,[PU,WJ,Qz,Zh,fP,Tf n,OA],1,83⟩
theorem nP:(fun(n:Nat) (x:HL (pts RW))=>den (Zz n) (Tryz.f282.body.getD .skip) fp (CL 0 83 RW x) (BX tab [] RW Wd [.tmp 2]) (fun _ _=>none) (BX tab [] RW Wd [.tmp 2]))=fun n=>(Tc (n+1)).F:=by kernel_rfl
def fv:Hn:=(.e .z (.e .z (.e (.e .z (.j [.box 0 true (T4) (.pr (.ro) (.pr (.ro) (.pr (.ro) (.pr (.ro) (.own (M7))))))] [(0,⟨1,[]⟩)] .z .z)) (.e .z (.e (.k [.g 3]) (.e .z (.e .z (.e (.o [(2,.g [.g 35] M7)]) .z))))))))
def aC (n:Nat):Env:=⟨tab,[Qz,TV n,OA],1,38⟩
theorem nS:(fun(n:Nat) (x:HL (pts RZ))=>den (aC n) (Tryz.f300.body.getD .skip) fv (CL 0 38 RZ x) (BX tab [] RZ Wg [.tmp 2]) (fun _ _=>none) (BX tab [] RZ Wg [.tmp 2]))=fun n=>(Tf (n+1)).F:=by kernel_rfl
theorem Ww:∀ n,Cok Tryz.prog (TV n)∧Cok Tryz.prog (Tc n)∧Cok Tryz.prog (Tf n):=by
 intro n;have h281:=gn
 have h238:=Rf
 have h239:=Wt
 have h240:=Tq
 have h299:=mx
 have h244:=aP
 have h243:=Tr
 induction n with
 | zero=>exact⟨Bf (fn:=Tryz.f242) (by kernel_rfl) (by kernel_rfl) (by kernel_rfl) (fun _=>rfl),Bf (fn:=Tryz.f282) (by kernel_rfl) (by kernel_rfl) (by kernel_rfl) (fun _=>rfl),Bf (fn:=Tryz.f300) (by kernel_rfl) (by kernel_rfl) (by kernel_rfl) (fun _=>rfl)⟩
 | succ n ih=>
  obtain⟨h242,h282,h300⟩:=ih;refine⟨?_,?_,?_⟩
  ·exact BL (E:=Zs n) (c:=TV (n+1)) (fn:=Tryz.f242) (code:=Tryz.f242.body.getD .skip) (hn:=ff) (gr:=[]) (is:=[.tmp 2]) ⟨CN,(fun c hc=>by simp only [Zs,List.mem_cons,List.not_mem_nil,or_false] at hc;rcases hc with rfl | rfl<;>assumption),CX⟩ ⟨by kernel_rfl,by kernel_rfl,by kernel_rfl,by kernel_rfl,by kernel_rfl,Nat.le_of_ble_eq_true rfl,by kernel_rfl⟩ (by kernel_rfl) (fun x y h=>(congrFun (congrFun nI n) x).trans h)
  ·exact BL (E:=Zz n) (c:=Tc (n+1)) (fn:=Tryz.f282) (code:=Tryz.f282.body.getD .skip) (hn:=fp) (gr:=[]) (is:=[.tmp 2]) ⟨CN,(fun c hc=>by simp only [Zz,List.mem_cons,List.not_mem_nil,or_false] at hc;rcases hc with rfl | rfl | rfl | rfl | rfl | rfl | rfl<;>assumption),CX⟩ ⟨by kernel_rfl,by kernel_rfl,by kernel_rfl,by kernel_rfl,by kernel_rfl,Nat.le_of_ble_eq_true rfl,by kernel_rfl⟩ (by kernel_rfl) (fun x y h=>(congrFun (congrFun nP n) x).trans h)
  ·exact BL (E:=aC n) (c:=Tf (n+1)) (fn:=Tryz.f300) (code:=Tryz.f300.body.getD .skip) (hn:=fv) (gr:=[]) (is:=[.tmp 2]) ⟨CN,(fun c hc=>by simp only [aC,List.mem_cons,List.not_mem_nil,or_false] at hc;rcases hc with rfl | rfl | rfl<;>assumption),CX⟩ ⟨by kernel_rfl,by kernel_rfl,by kernel_rfl,by kernel_rfl,by kernel_rfl,Nat.le_of_ble_eq_true rfl,by kernel_rfl⟩ (by kernel_rfl) (fun x y h=>(congrFun (congrFun nS n) x).trans h)
def jm:Cal:=⟨242,RO,WW,fun x=>El x.1,0⟩
theorem mj:Cok Tryz.prog jm:=Bn (F:=fun n=>(TV n).F) (fun n=>(Ww n).1)
def jr:Cal:=⟨282,RW,Wd,fun x=>PE x.1,0⟩
theorem c282:Cok Tryz.prog jr:=Bn (F:=fun n=>(Tc n).F) (fun n=>(Ww n).2.1)
def ju:Cal:=⟨300,RZ,Wg,fun x=>Oc x.1,0⟩
theorem c300:Cok Tryz.prog ju:=Bn (F:=fun n=>(Tf n).F) (fun n=>(Ww n).2.2)
def fF:Cal:=⟨208,[⟨.ptr (.pr (.ro) (.pr (.ro) (.pr (.ro) (.pr (.ro) (.own (M7)))))),T4⟩],[⟨T6,M6⟩],fun x=>Gq x.1,0⟩
def kz:Hn:=(.e (.o [(0,.m' M6)]) (.e (.e .z (.j [.box 0 true (T4) (.pr (.ro) (.pr (.ro) (.pr (.ro) (.pr (.ro) (.own (M7)))))),.box 2 true (T6) (M6)] [(0,⟨1,[]⟩),(2,⟨5,[]⟩)] .z .z)) (.e (.o [(2,.m' M6),(3,.m' M6),(4,.m' M6)]) (.e .z (.e (.e .z (.j [.box 0 true (T4) (.pr (.ro) (.pr (.ro) (.pr (.ro) (.pr (.ro) (.own (M7)))))),.box 2 true (T6) (M6),.box 3 true (T6) (M6)] [(0,⟨1,[]⟩),(2,⟨5,[]⟩),(3,⟨7,[]⟩)] (.j [.box 0 true (T4) (.pr (.ro) (.pr (.ro) (.pr (.ro) (.pr (.ro) (.own (M7)))))),.box 2 true (T6) (M6),.box 3 true (T6) (M6)] [(0,⟨1,[]⟩),(2,⟨5,[]⟩),(3,⟨7,[]⟩)] (.j [.box 0 true (T4) (.pr (.ro) (.pr (.ro) (.pr (.ro) (.pr (.ro) (.own (M7)))))),.box 2 true (T6) (M6),.box 3 true (T6) (M6)] [(0,⟨1,[]⟩),(2,⟨5,[]⟩),(3,⟨7,[]⟩)] (.e .z (.e (.e .z (.e .z (.e .z (.e (.o [(4,.g [.g 34] .ro),(6,.m' (.own (.ro)))]) .z)))) .z)) .z) .z) .z)) (.e (.e .z (.j [.box 0 true (T4) (.pr (.ro) (.pr (.ro) (.pr (.ro) (.pr (.ro) (.own (M7)))))),.box 2 true (T6) (M6),.box 3 true (T6) (M6)] [(0,⟨1,[]⟩),(2,⟨5,[]⟩),(3,⟨7,[]⟩)] .z .z)) (.e .z (.e (.k [.g 5]) (.e (.o [(2,.g [.g 53] M7)]) (.e (.e .z (.j [.box 0 true (T4) (.pr (.ro) (.pr (.ro) (.pr (.ro) (.pr (.ro) (.own (M7)))))),.box 2 true (T6) (M6),.box 3 true (T6) (M6)] [(0,⟨1,[]⟩),(2,⟨5,[]⟩),(3,⟨7,[]⟩)] .z .z)) (.e .z (.e (.o [(1,.g [.g 66] M6)]) .z))))))))))))
theorem mW:CK fF:=ck fF Tryz.f208 kz [] [.cell 2 125] (cc Rf (cc Wt (cc Tq (cc mi (cc mj (cc Tr (cc aP cn)))))))
def fK:Cal:=⟨234,[⟨.ro,.int .i64⟩],[⟨.int .i64,.ro⟩,⟨.int .i64,.ro⟩],fun x=>JY x.1,0⟩
def lG:Hn:=(.e .z (.e (.e .z (.e (.e (.e .z (.j [.i 4,.l 5] [] .z (.e .z (.j [.i 4,.l 5] [] .z (.e .z (.j [.i 4,.l 5] [] .z (.e .z (.j [.i 4,.l 5] [] .z (.e .z (.j [.i 4,.l 5] [] .z .z)))))))))) (.e .z (.e (.e .z (.j [.i 4,.l 12] [] .z (.e .z (.j [.i 4,.l 12] [] .z (.e .z (.j [.i 4,.l 12] [] .z .z)))))) .z))) .z)) .z))
theorem me:CK fK:=ck fK Tryz.f234 lG [] [.tmp 2,.tmp 3] cn
def fL:Cal:=⟨235,[⟨.ro,.int .i64⟩],[⟨.bool,.ro⟩],fun x=>II x.1,0⟩
def lH:Hn:=(.e .z (.e (.e .z (.e (.e (.e .z (.j [.l 4] [] .z (.e .z (.j [.l 4] [] .z (.e .z (.j [.l 4] [] .z (.e .z (.j [.l 4] [] .z (.e .z (.j [.l 4] [] .z (.e .z (.j [.l 4] [] .z (.e .z (.j [.l 4] [] .z (.e .z (.j [.l 4] [] .z .z)))))))))))))))) .z) .z)) .z))
theorem mf:CK fL:=ck fL Tryz.f235 lH [] [.tmp 2] cn
def fR:Cal:=⟨279,[⟨.ro,.int .i64⟩],[⟨.bool,.ro⟩],fun x=>Hp x.1,0⟩
def lX:Hn:=.z
theorem mt:CK fR:=ck fR Tryz.f279 lX [] [.tmp 2] (cc c82 cn)
def fJ:Cal:=⟨230,[⟨.ro,.int .i64⟩],[⟨.bool,.ro⟩],fun x=>GP x.1,0⟩
def lF:Hn:=.z
theorem gi:CK fJ:=ck fJ Tryz.f230 lF [] [.tmp 2] (cc c82 cn)
def fM:Cal:=⟨236,[⟨.ro,.int .i64⟩,⟨.ro,.int .i64⟩,⟨.ro,.int .i64⟩],[⟨.bool,.ro⟩],fun x=>JX x.1 x.2.1 x.2.2.1,0⟩
def lI:Hn:=(.e .z (.e (.e .z (.e (.e .z (.e .z (.e (.e .z (.j [.i 1,.i 2,.i 7,.l 12] [] .z .z)) (.n ⟨[],[],(some ⟨[.i 2],[],[]⟩),true,[]⟩ .z .z)))) .z)) .z))
theorem mg:CK fM:=ck fM Tryz.f236 lI [] [.tmp 6] (cc mt (cc gi cn))
def fD:Cal:=⟨204,[⟨.ro,.list 114 (T7)⟩,⟨.ro,.int .i64⟩],[⟨.bool,.ro⟩],fun x=>KB x.1 x.2.1,0⟩
def kw:Hn:=(.e .z (.e (.e (.j [.snp 0 (.list 114 (T7)) [],.i 1,.l 24] [] .z .z) .z) (.e (.o [(4,.m' M7),(5,.m' M7)]) (.e .z (.e (.e (.j [.snp 0 (.list 114 (T7)) [],.i 1,.l 57,.box 5 true (T7) (.ro)] [(5,⟨11,[]⟩)] .z .z) .z) (.e (.e (.n ⟨[],[],(some ⟨[.snp 0 (.list 114 (T7)) [],.i 1,.l 75,.box 5 true (T7) (.ro)],[(5,⟨11,[]⟩)],[]⟩),false,(tr 0 58 18 [])⟩ .z .z) .z) (.e (.e .z (.n ⟨[],[],(some ⟨[],[],[]⟩),true,[]⟩ (.j [.snp 0 (.list 114 (T7)) [],.i 1,.i 8,.box 5 true (T7) (.ro)] [(5,⟨11,[]⟩)] (.e .z (.e (.n ⟨[],[],(some ⟨[.snp 0 (.list 114 (T7)) [],.i 1,.i 8,.box 5 true (T7) (.ro)],[(5,⟨11,[]⟩)],[]⟩),true,[]⟩ (.e (.e (.n ⟨[],[],(some ⟨[.snp 0 (.list 114 (T7)) [],.i 1,.i 8,.l 107,.box 5 true (T7) (.ro)],[(5,⟨11,[]⟩)],[]⟩),false,(tr 0 83 25 [])⟩ .z .z) .z) (.e .z (.n ⟨[],[],(some ⟨[.snp 0 (.list 114 (T7)) [],.i 1,.i 8,.box 5 true (T7) (.ro)],[(5,⟨11,[]⟩)],[]⟩),true,[]⟩ (.j [.snp 0 (.list 114 (T7)) [],.i 1,.i 8,.i 9,.box 5 true (T7) (.ro)] [(5,⟨11,[]⟩)] (.e .z (.e (.e (.e (.o (tr 0 113 11 [])) .z) .z) .z)) .z) .z))) .z) .z)) .z) .z)) .z)))))))
theorem mU:CK fD:=ck fD Tryz.f204 kw [] [.tmp 4] (cc c82 (cc me (cc mf (cc c81 (cc mg cn)))))
def eh:Cal:=⟨171,[⟨.ro,.list 114 (T7)⟩,⟨.ro,.int .i64⟩],[⟨.list 3 (.int .i64),.own (.ro)⟩],fun x=>GO x.1 x.2.1,0⟩
def ke:Hn:=(.e .z (.e (.k [.g 5]) (.e (.e .z (.j [.d 5] [] (.j [.snp 0 (.list 114 (T7)) [],.i 1,.d 5,.i 6] [] (.e (.e (.j [.snp 0 (.list 114 (T7)) [],.i 1,.d 5,.i 6,.l 18] [] .z .z) .z) (.e (.j [.snp 0 (.list 114 (T7)) [],.i 1,.d 5,.i 6] [] (.e .z (.e (.e (.j [.snp 0 (.list 114 (T7)) [],.i 1,.d 5,.i 6,.i 7,.l 36] [] .z .z) (.j [.snp 0 (.list 114 (T7)) [],.i 1,.d 5,.i 6,.i 7] [] .z .z)) (.e (.e .z (.j [.snp 0 (.list 114 (T7)) [],.i 1,.d 5,.i 6,.i 7] [] (.j [.snp 0 (.list 114 (T7)) [],.i 1,.d 5,.i 6,.i 7,.i 8] [] (.e (.e (.j [.snp 0 (.list 114 (T7)) [],.i 1,.d 5,.i 6,.i 7,.i 8,.l 48] [] .z .z) .z) (.e (.e (.e .z (.j [.snp 0 (.list 114 (T7)) [],.i 1,.d 5,.i 6,.i 7,.i 8] [] .z .z)) .z) .z)) .z) .z)) (.e (.e .z (.j [.snp 0 (.list 114 (T7)) [],.i 1,.d 5,.i 6,.i 7] [] .z .z)) (.n ⟨[],[.g 5],none,false,[(3,.g [.g 79] .ro)]⟩ .z .z))))) .z) .z)) .z) .z)) (.e (.k [.g 4]) .z))))
theorem gX:CK eh:=ck eh Tryz.f171 ke [] [.tmp 4] (cc mU cn)
def fB:Cal:=⟨198,[⟨.ro,.list 114 (T7)⟩],[⟨.list 3 (.int .i64),.own (.ro)⟩],fun x=>JZ x.1,0⟩
def kq:Hn:=(.e .z (.e (.k [.g 3]) (.e (.e .z (.j [.d 3] [] (.j [.snp 0 (.list 114 (T7)) [],.d 3,.i 4] [] (.e .z (.e (.j [.snp 0 (.list 114 (T7)) [],.d 3,.i 4] [] (.e .z (.j [.snp 0 (.list 114 (T7)) [],.d 3,.i 4] [] (.j [.snp 0 (.list 114 (T7)) [],.d 3,.i 4,.i 5] [] (.e .z (.e (.e (.o [(13,⟨[],.ro,[],[],some 6⟩)]) .z) .z)) .z) .z)) .z) .z)) .z) .z)) (.e (.k [.g 2]) .z))))
theorem mS:CK fB:=ck fB Tryz.f198 kq [] [.tmp 2] cn
def WH:Cal:=⟨202,[⟨.ro,T2⟩,⟨.ro,.str⟩],[⟨.int .i64,.ro⟩],fun x=>HJ x.1 x.2.1,0⟩
def kv:Hn:=(.e (.o [(0,.m' M2)]) (.e (.e .z (.n ⟨[],[],(some ⟨[],[],[]⟩),true,[]⟩ (.j [.snp 1 (.str) [],.i 5,.box 2 true (T2) (.ro)] [(2,⟨5,[]⟩)] .z .z) .z)) .z))
theorem aO:CK WH:=ck WH Tryz.f202 kv [] [.tmp 4] cn
def fC:Cal:=⟨199,[⟨.ro,T2⟩,⟨.ro,.int .i64⟩],[⟨.bool,.ro⟩],fun x=>LD x.1 x.2.1,0⟩
def kt:Hn:=(.e (.o [(0,.m' M2)]) (.e (.o [(5,.m' M6),(6,.m' M6)]) (.e (.e (.j [.l 35,.box 2 true (T2) (.ro),.box 5 true (T6) (.ro)] [(2,⟨5,[]⟩),(5,⟨11,[]⟩)] .z .z) .z) (.e (.e .z (.n ⟨[],[],(some ⟨[.box 2 true (T2) (.ro),.box 5 true (T6) (.ro)],[(2,⟨5,[]⟩),(5,⟨11,[]⟩)],[]⟩),true,[]⟩ (.j [.i 6,.box 2 true (T2) (.ro),.box 5 true (T6) (.ro)] [(2,⟨5,[]⟩),(5,⟨11,[]⟩)] (.e .z (.e (.e (.e (.j [.i 6,.l 60,.box 2 true (T2) (.ro),.box 5 true (T6) (.ro)] [(2,⟨5,[]⟩),(5,⟨11,[]⟩)] .z .z) .z) .z) .z)) .z) .z)) (.e (.e (.j [.l 78,.box 2 true (T2) (.ro),.box 5 true (T6) (.ro)] [(2,⟨5,[]⟩),(5,⟨11,[]⟩)] .z .z) .z) (.e .z (.e (.j [.l 4] [] .z .z) .z)))))))
theorem mT:CK fC:=ck fC Tryz.f199 kt [] [.tmp 4] (cc c81 (cc aO (cc c82 (cc gi cn))))
def ee:Cal:=⟨165,[⟨.ro,T2⟩],[⟨.bool,.ro⟩],fun x=>Fe x.1,0⟩
def kb:Hn:=(.e (.o [(0,.m' M2)]) (.e (.e (.j [.l 18,.box 1 true (T2) (.ro)] [(1,⟨3,[]⟩)] .z .z) .z) (.e (.k [.g 3]) (.e .z (.e (.k [.g 4]) (.e (.e .z (.n ⟨[],[],(some ⟨[.d 4],[],[]⟩),true,[]⟩ (.j [.d 4,.i 5,.box 1 true (T2) (.ro)] [(1,⟨3,[]⟩)] (.e .z (.e (.e (.e .z (.e (.o (tr 0 47 18 [(18,⟨[],.ro,[4,47,54,61,64],[],some 8⟩)])) (.e .z (.j [.d 4,.i 5,.box 1 true (T2) (.ro)] [(1,⟨3,[]⟩)] (.o (tr 0 72 18 [(18,⟨[],.ro,[4,72,79,86,89],[],some 8⟩)])) .z)))) .z) .z)) .z) .z)) (.e (.e .z (.n ⟨[],[],(some ⟨[],[],[]⟩),true,[]⟩ (.j [.d 4,.i 6] [] (.e .z (.e (.e (.e (.j [.d 4,.i 6,.l 107] [] .z .z) .z) .z) .z)) .z) .z)) .z)))))))
theorem gU:CK ee:=ck ee Tryz.f165 kb [] [.tmp 2] (cc c82 (cc gX (cc mS (cc mT cn))))
def ei:Cal:=⟨175,[⟨.ro,.str⟩],[⟨T2,M2⟩,⟨.bool,.ro⟩],fun x=>Cx x.1,0⟩
def kf:Hn:=(.e (.o [(0,.m' M2)]) (.e (.k [.g 4]) (.e (.e .z (.e (.e (.o [(0,.m' M2),(1,.m' M2)]) .z) .z)) (.e (.o [(1,.g [.g 16] M4),(2,.m' M4)]) (.e (.o [(0,.m' M2),(1,.m' M2),(2,.m' M2)]) (.e (.j [.box 2 true (T2) (M2),.box 7 true (T2) (M2),.box 18 true (T4) (.pr (.ro) (.pr (.ro) (.pr (.ro) (.pr (.ro) (.own (M7))))))] [(2,⟨5,[]⟩),(6,⟨37,[]⟩),(7,⟨15,[]⟩)] (.n ⟨[.w 37 (.pr (.ro) (.pr (.ro) (.pr (.ro) (.pr (.ro) (.own (M7))))))],[],(some ⟨[.box 2 true (T2) (M2),.box 7 true (T2) (M2),.box 18 true (T4) (.pr (.ro) (.pr (.ro) (.pr (.ro) (.pr (.ro) (.own (M7))))))],[(2,⟨5,[]⟩),(6,⟨37,[]⟩),(7,⟨15,[]⟩)],[]⟩),false,[]⟩ (.e (.e (.n ⟨[],[.w 37 (M4)],(some ⟨[.l 42,.box 2 true (T2) (M2),.box 7 true (T2) (M2),.box 18 true (T4) (.pr (.ro) (.pr (.ro) (.pr (.ro) (.pr (.ro) (.own (M7))))))],[(2,⟨5,[]⟩),(6,⟨37,[]⟩),(7,⟨15,[]⟩)],[]⟩),false,(tr 0 20 23 [])⟩ .z .z) (.e .z (.n ⟨[.w 37 (M4)],[],none,false,[]⟩ .z .z))) (.e (.n ⟨[.w 37 (.pr (.ro) (.pr (.ro) (.pr (.ro) (.pr (.ro) (.own (M7))))))],[.w 37 (M4)],none,false,(tr 0 43 3 [(3,⟨[],.ro,[6,45,46],[18],none⟩),(4,⟨[],M6,[46,47],[],none⟩),(5,⟨[.g 44],M6,[7,43,44,47,48],[7],none⟩),(6,.t 49),(7,⟨[],.own (M6),[7,43,48,49],[7],none⟩)])⟩ .z .z) .z)) .z) .z) (.e (.o [(5,.g [.g 53] (.own (M7)))]) (.e (.e (.j [.l 63,.box 2 true (T2) (M2),.box 7 true (T2) (M2)] [(2,⟨5,[]⟩),(7,⟨15,[]⟩)] .z .z) (.e (.e (.o [(0,.m' M2),(1,.m' M2)]) .z) .z)) (.e (.o [(1,.g [.g 65] M2)]) .z)))))))))
theorem mJ:CK ei:=ck ei Tryz.f175 kf [] [.cell 2 69,.tmp 3] (cc mV (cc mW (cc gU cn)))
def eP:Cal:=⟨134,[⟨.ptr (.ro),T10⟩],[⟨T2,M2⟩],fun x=>Gp x.1,0⟩
def kP:Hn:=(.e (.o [(0,.m' M2)]) (.e (.o [(6,.m' M2),(7,.m' M2)]) (.e (.e .z (.j [.box 0 true (T10) (.ro),.box 2 true (T2) (M2),.box 3 true (T2) (M2)] [(2,⟨5,[]⟩),(3,⟨7,[]⟩)] (.e (.o [(4,.m' M2)]) (.e .z (.j [.box 0 true (T10) (.ro),.box 2 true (T2) (M2),.box 3 true (T2) (M2)] [(2,⟨5,[]⟩),(3,⟨7,[]⟩)] (.o [(4,.m' M2)]) .z))) .z)) (.e (.o [(1,.g [.g 25] M2)]) .z))))
theorem lz:CK eP:=ck eP Tryz.f134 kP [] [.cell 2 69] (cc mK (cc mJ cn))
def eL:Cal:=⟨128,[⟨.ro,.list 114 (T7)⟩,⟨.ro,.int .i64⟩],[⟨.int .i64,.ro⟩],fun x=>KA x.1 x.2.1,0⟩
def kN:Hn:=.z
theorem lu:CK eL:=ck eL Tryz.f128 kN [] [.tmp 4] (cc c82 (cc gX cn))
def RG:List Prm:=[⟨.ro,.list 114 (T7)⟩,⟨.ro,.int .i64⟩,⟨.inp (.own (.ro)),.list 4 (.bool)⟩]
def WP:List Ret:=[]
def TP (n:Nat):Cal:=⟨169,RG,WP,fun x=>(Dt n).1 x.1 x.2.1 x.2.2.1,0⟩
def fX:Hn:=(.e .z (.e (.o [(3,⟨[],.ro,[],[],some 5⟩)]) (.e .z (.j [.box 2 false (.list 4 (.bool)) (.own (.ro))] [] (.n ⟨[],[],(some ⟨[.snp 0 (.list 114 (T7)) [],.i 1,.i 6,.box 2 false (.list 4 (.bool)) (.own (.ro))],[],[(2,2)]⟩),false,[]⟩ .z .z) .z))))
def Zl (n:Nat):Env:=⟨tab,[TP n],3,35⟩
theorem nB:(fun(n:Nat) (x:HL (pts RG))=>den (Zl n) (Tryz.f169.body.getD .skip) fX (CL 0 35 RG x) (BX tab [] RG WP []) (fun _ _=>none) (BX tab [] RG WP []))=fun n=>(TP (n+1)).F:=by kernel_rfl
theorem jE:∀ n,Cok Tryz.prog (TP n):=by
 intro n
 induction n with
 | zero=>exact Bf (fn:=Tryz.f169) (by kernel_rfl) (by kernel_rfl) (by kernel_rfl) (fun _=>rfl)
 | succ n ih=>
  have h169:=ih
  refine ?_
  ·exact BL (E:=Zl n) (c:=TP (n+1)) (fn:=Tryz.f169) (code:=Tryz.f169.body.getD .skip) (hn:=fX) (gr:=[]) (is:=[]) ⟨CN,(fun c hc=>by simp only [Zl,List.mem_cons,List.not_mem_nil,or_false] at hc;rcases hc with rfl<;>assumption),CX⟩ ⟨by kernel_rfl,by kernel_rfl,by kernel_rfl,by kernel_rfl,by kernel_rfl,Nat.le_of_ble_eq_true rfl,by kernel_rfl⟩ (by kernel_rfl) (fun x y h=>(congrFun (congrFun nB n) x).trans h)
def jg:Cal:=⟨169,RG,WP,fun x=>Lh x.1 x.2.1 x.2.2.1,0⟩
theorem mI:Cok Tryz.prog jg:=Bn (F:=fun n=>(TP n).F) (fun n=>(jE n))
def eJ:Cal:=⟨124,[⟨.ro,T2⟩,⟨.ro,.int .i64⟩],[⟨.list 3 (.int .i64),.own (.ro)⟩],fun x=>LC x.1 x.2.1,0⟩
def kM:Hn:=(.e (.o [(0,.m' M2)]) (.e (.k [.g 5]) (.e (.e .z (.e (.e (.k [.g 4]) .z) .z)) (.e (.k [.g 6]) (.e .z (.e (.e .z (.j [.d 5] [] (.j [.d 5,.dat 6 (.list 4 (.bool)) (.own (.ro)),.i 7] [] (.e .z (.e (.e (.e .z (.j [.d 5,.dat 6 (.list 4 (.bool)) (.own (.ro)),.i 7] [] (.n ⟨[],[.g 5],none,false,[(3,.g [.g 34] .ro)]⟩ .z .z) .z)) .z) .z)) .z) .z)) (.e (.k [.g 4]) .z)))))))
theorem lr:CK eJ:=ck eJ Tryz.f124 kM [] [.tmp 4] (cc lu (cc mI cn))
def eH:Cal:=⟨118,[⟨.ro,T2⟩,⟨.ro,.int .i64⟩],[⟨.list 119 (T12),.own (.ro)⟩],fun x=>IA x.1 x.2.1,0⟩
def kK:Hn:=(.e (.o [(0,.m' M2)]) (.e (.k [.g 5]) (.e (.e .z (.e (.e (.k [.g 4]) .z) .z)) (.e (.o [(5,.m' M6),(6,.m' M6)]) (.e (.e .z (.j [.dat 5 (.list 119 (T12)) (.own (.ro)),.box 2 true (T2) (.ro),.box 6 true (T6) (.ro)] [(2,⟨5,[]⟩),(6,⟨13,[]⟩)] (.j [.dat 5 (.list 119 (T12)) (.own (.ro)),.i 7,.box 2 true (T2) (.ro),.box 6 true (T6) (.ro)] [(2,⟨5,[]⟩),(6,⟨13,[]⟩)] (.e .z (.e (.e (.n ⟨[],[.g 5],none,false,(tr 0 31 15 [(15,⟨[.g 31],.ro,[5,31,46],[],none⟩),(16,.t 5)])⟩ .z .z) .z) .z)) .z) .z)) (.e (.k [.g 8]) (.e (.e .z (.j [.dat 5 (.list 119 (T12)) (.own (.ro))] [] (.j [.dat 5 (.list 119 (T12)) (.own (.ro)),.d 8,.i 9,.box 2 true (T2) (.ro)] [(2,⟨5,[]⟩)] (.e .z (.e (.e (.e (.o (tr 0 57 10 [])) (.j [.dat 5 (.list 119 (T12)) (.own (.ro)),.d 8,.i 9,.box 2 true (T2) (.ro)] [(2,⟨5,[]⟩)] (.n ⟨[],[.g 5],none,false,(tr 0 67 16 [(16,⟨[.g 67],.ro,[5,67,83],[],none⟩),(17,.t 5)])⟩ .z .z) .z)) .z) .z)) .z) .z)) (.e (.k [.g 4]) .z))))))))
theorem gO:CK eH:=ck eH Tryz.f118 kK [] [.tmp 4] (cc c82 (cc lr cn))
def WF:Cal:=⟨166,[⟨.ro,.list 119 (T12)⟩,⟨.ro,.str⟩],[⟨.int .i64,.ro⟩],fun x=>Cc x.1 x.2.1,0⟩
def kc:Hn:=(.e .z (.e (.e .z (.n ⟨[],[],(some ⟨[],[],[]⟩),true,[]⟩ (.j [.snp 0 (.list 119 (T12)) [],.snp 1 (.str) [],.i 5] [] .z .z) .z)) .z))
theorem Tp:CK WF:=ck WF Tryz.f166 kc [] [.tmp 4] cn
def WG:Cal:=⟨201,[⟨.ro,.list 9 (.str)⟩,⟨.ro,.str⟩],[⟨.bool,.ro⟩],fun x=>GT x.1 x.2.1,0⟩
def ku:Hn:=(.e .z (.e (.e .z (.n ⟨[],[],(some ⟨[],[],[]⟩),true,[]⟩ (.j [.snp 0 (.list 9 (.str)) [],.snp 1 (.str) [],.i 5] [] .z .z) .z)) .z))
theorem gY:CK WG:=ck WG Tryz.f201 ku [] [.tmp 4] cn
end
end Go.Proofs.YtmakhmoielhjeaaGreatDoorE

/- The functions of X reckon so (2). No condition. -/
import Derived.Test.YtmakhmoielhjeaaGreatDoorLawGX1
set_option linter.all false
namespace Go.Proofs.YtmakhmoielhjeaaGreatDoorE
set_option maxRecDepth 100000
set_option linter.all false
def RY:List Prm:=[⟨.ptr (.pr (.ro) (.pr (.ro) (.pr (.ro) (.pr (.ro) (.own (M7)))))),T4⟩]
def Wh:List Ret:=[⟨.int .i64,.ro⟩]
noncomputable def RK (n:Nat):Cal:=⟨244,RY,Wh,fun x=>(AE n).1 x.1,0⟩
def Rf:List Prm:=[⟨.ptr (.pr (.ro) (.pr (.ro) (.pr (.ro) (.pr (.ro) (.own (M7)))))),T4⟩]
def Wo:List Ret:=[⟨.int .i64,.ro⟩]
noncomputable def Tq (n:Nat):Cal:=⟨283,Rf,Wo,fun x=>(AE n).2.1 x.1,0⟩
def Ri:List Prm:=[⟨.ptr (.pr (.ro) (.pr (.ro) (.pr (.ro) (.pr (.ro) (.own (M7)))))),T4⟩]
def Ws:List Ret:=[⟨.int .i64,.ro⟩]
noncomputable def RL (n:Nat):Cal:=⟨301,Ri,Ws,fun x=>(AE n).2.2.1 x.1,0⟩
def Rj:List Prm:=[⟨.ptr (.pr (.ro) (.pr (.ro) (.pr (.ro) (.pr (.ro) (.own (M7)))))),T4⟩,⟨.ro,.str⟩]
def Wt:List Ret:=[⟨.int .i64,.ro⟩]
noncomputable def Tu (n:Nat):Cal:=⟨306,Rj,Wt,fun x=>(AE n).2.2.2.1 x.1 x.2.1,0⟩
def fp:Hn:=(.e .z (.e .z (.e .z (.e (.e .z (.j [.i 3,.i 4,.box 0 true (T4) (.pr (.ro) (.pr (.ro) (.pr (.ro) (.pr (.ro) (.own (M7))))))] [(0,⟨1,[]⟩)] .z (.e .z (.j [.i 3,.i 4,.box 0 true (T4) (.pr (.ro) (.pr (.ro) (.pr (.ro) (.pr (.ro) (.own (M7))))))] [(0,⟨1,[]⟩)] .z .z)))) (.e (.e .z (.j [.i 3,.box 0 true (T4) (.pr (.ro) (.pr (.ro) (.pr (.ro) (.pr (.ro) (.own (M7))))))] [] (.e .z (.o [(5,.m' M7)])) .z)) .z)))))
noncomputable def Zv (n:Nat):Env:=⟨tab,[Tq n,PY,OB],1,24⟩
theorem nP:(fun(n:Nat) (x:HL (pts RY))=>den (Zv n) (Tryz.f244.body.getD .skip) fp (CL 0 24 RY x) (BV tab [] RY Wh [.tmp 2]) (fun _ _=>none) (BV tab [] RY Wh [.tmp 2]))=fun n=>(RK (n+1)).F:=by kernel_rfl
def gA:Hn:=(.e .z (.e .z (.e (.j [.i 3,.box 0 true (T4) (.pr (.ro) (.pr (.ro) (.pr (.ro) (.pr (.ro) (.own (M7))))))] [] (.j [.i 3,.box 0 true (T4) (.pr (.ro) (.pr (.ro) (.pr (.ro) (.pr (.ro) (.own (M7))))))] [(0,⟨1,[]⟩)] (.e .z (.e (.e .z (.o [(4,.m' M7)])) .z)) .z) .z) .z)))
noncomputable def aC (n:Nat):Env:=⟨tab,[RL n,PY,OB],1,18⟩
theorem nW:(fun(n:Nat) (x:HL (pts Rf))=>den (aC n) (Tryz.f283.body.getD .skip) gA (CL 0 18 Rf x) (BV tab [] Rf Wo [.tmp 2]) (fun _ _=>none) (BV tab [] Rf Wo [.tmp 2]))=fun n=>(Tq (n+1)).F:=by kernel_rfl
def gD:Hn:=(.e .z (.e (.e (.n ⟨[],[],(some ⟨[.l 28,.box 0 true (T4) (.pr (.ro) (.pr (.ro) (.pr (.ro) (.pr (.ro) (.own (M7))))))],[(0,⟨1,[]⟩)],[]⟩),false,(tr 0 6 23 [])⟩ .z .z) .z) (.e .z (.e .z (.e (.e (.e (.o (tr 0 52 12 [(12,.t 51)])) (.j [.i 3,.box 0 true (T4) (.pr (.ro) (.pr (.ro) (.pr (.ro) (.pr (.ro) (.own (M7))))))] [(0,⟨1,[]⟩)] (.e .z (.o (tr 0 72 13 [(13,⟨[],M7,[85],[],none⟩),(14,⟨[],.ro,[0,32,33,34,35,38,39,52,53,54,56,57,58,64,65,66,67,70,71,72,73,74,75,77,78,79,85,86],[0],none⟩),(15,.t 3)]))) (.e .z (.j [.i 3,.box 0 true (T4) (.pr (.ro) (.pr (.ro) (.pr (.ro) (.pr (.ro) (.own (M7))))))] [(0,⟨1,[]⟩)] (.o [(3,.m' M7)]) (.e .z (.j [.i 3,.box 0 true (T4) (.pr (.ro) (.pr (.ro) (.pr (.ro) (.pr (.ro) (.own (M7))))))] [(0,⟨1,[]⟩)] .z (.e .z (.j [.i 3,.box 0 true (T4) (.pr (.ro) (.pr (.ro) (.pr (.ro) (.pr (.ro) (.own (M7))))))] [(0,⟨1,[]⟩)] .z (.e .z (.j [.i 3,.box 0 true (T4) (.pr (.ro) (.pr (.ro) (.pr (.ro) (.pr (.ro) (.own (M7))))))] [(0,⟨1,[]⟩)] (.o [(3,.m' M7)]) (.e .z (.j [.i 3,.box 0 true (T4) (.pr (.ro) (.pr (.ro) (.pr (.ro) (.pr (.ro) (.own (M7))))))] [(0,⟨1,[]⟩)] (.o [(1,.m' M7)]) (.e .z (.j [.i 3,.box 0 true (T4) (.pr (.ro) (.pr (.ro) (.pr (.ro) (.pr (.ro) (.own (M7))))))] [(0,⟨1,[]⟩)] (.e .z (.o [(3,.m' M7)])) (.e .z (.e .z (.j [.i 3,.box 0 true (T4) (.pr (.ro) (.pr (.ro) (.pr (.ro) (.pr (.ro) (.own (M7))))))] [(0,⟨1,[]⟩)] .z (.o [(2,.m' M7)])))))))))))))))))) .z) .z)))))
noncomputable def aF (n:Nat):Env:=⟨tab,[OB,PY,WT,Zk,RK n,RJ,RL n,Tu n],1,140⟩
theorem nZ:(fun(n:Nat) (x:HL (pts Ri))=>den (aF n) (Tryz.f301.body.getD .skip) gD (CL 0 140 Ri x) (BV tab [] Ri Ws [.tmp 2]) (fun _ _=>none) (BV tab [] Ri Ws [.tmp 2]))=fun n=>(RL (n+1)).F:=by kernel_rfl
def gE:Hn:=(.e .z (.e (.k [.g 5]) (.e (.e .z (.j [.snp 1 (.str) [],.d 5,.box 0 true (T4) (.pr (.ro) (.pr (.ro) (.pr (.ro) (.pr (.ro) (.own (M7))))))] [(0,⟨1,[]⟩)] (.j [.snp 1 (.str) [],.d 5,.box 0 true (T4) (.pr (.ro) (.pr (.ro) (.pr (.ro) (.pr (.ro) (.own (M7))))))] [(0,⟨1,[]⟩)] (.j [.snp 1 (.str) [],.d 5,.box 0 true (T4) (.pr (.ro) (.pr (.ro) (.pr (.ro) (.pr (.ro) (.own (M7))))))] [(0,⟨1,[]⟩)] (.e .z (.e (.e (.n ⟨[],[.g 5],none,false,[(4,.g [.g 15] .ro)]⟩ .z .z) .z) .z)) .z) .z) .z)) (.e (.o [(3,.g [.g 26] M7)]) .z))))
noncomputable def aG (n:Nat):Env:=⟨tab,[PY,RK n,RJ,OB],2,29⟩
theorem na:(fun(n:Nat) (x:HL (pts Rj))=>den (aG n) (Tryz.f306.body.getD .skip) gE (CL 0 29 Rj x) (BV tab [] Rj Wt [.tmp 4]) (fun _ _=>none) (BV tab [] Rj Wt [.tmp 4]))=fun n=>(Tu (n+1)).F:=by kernel_rfl
theorem TQ:∀ n,Cok Tryz.prog (RK n)∧Cok Tryz.prog (Tq n)∧Cok Tryz.prog (RL n)∧Cok Tryz.prog (Tu n):=by
 intro n
 have h238:=Rn
 have h243:=UH
 have h239:=XD
 have h305:=nE
 have h240:=UG
 induction n with
 | zero=>exact⟨Be (fn:=Tryz.f244) (by kernel_rfl) (by kernel_rfl) (by kernel_rfl) (fun _=>rfl),Be (fn:=Tryz.f283) (by kernel_rfl) (by kernel_rfl) (by kernel_rfl) (fun _=>rfl),Be (fn:=Tryz.f301) (by kernel_rfl) (by kernel_rfl) (by kernel_rfl) (fun _=>rfl),Be (fn:=Tryz.f306) (by kernel_rfl) (by kernel_rfl) (by kernel_rfl) (fun _=>rfl)⟩
 | succ n ih=>
  obtain⟨h244,h283,h301,h306⟩:=ih
  refine⟨?_,?_,?_,?_⟩
  ·exact BM (E:=Zv n) (c:=RK (n+1)) (fn:=Tryz.f244) (code:=Tryz.f244.body.getD .skip) (hn:=fp) (gr:=[]) (is:=[.tmp 2]) ⟨CO,(fun c hc=>by simp only [Zv,List.mem_cons,List.not_mem_nil,or_false] at hc;rcases hc with rfl | rfl | rfl<;>assumption),CX⟩ ⟨by kernel_rfl,by kernel_rfl,by kernel_rfl,by kernel_rfl,by kernel_rfl,Nat.le_of_ble_eq_true rfl,by kernel_rfl⟩ (by kernel_rfl) (fun x y h=>(congrFun (congrFun nP n) x).trans h)
  ·exact BM (E:=aC n) (c:=Tq (n+1)) (fn:=Tryz.f283) (code:=Tryz.f283.body.getD .skip) (hn:=gA) (gr:=[]) (is:=[.tmp 2]) ⟨CO,(fun c hc=>by simp only [aC,List.mem_cons,List.not_mem_nil,or_false] at hc;rcases hc with rfl | rfl | rfl<;>assumption),CX⟩ ⟨by kernel_rfl,by kernel_rfl,by kernel_rfl,by kernel_rfl,by kernel_rfl,Nat.le_of_ble_eq_true rfl,by kernel_rfl⟩ (by kernel_rfl) (fun x y h=>(congrFun (congrFun nW n) x).trans h)
  ·exact BM (E:=aF n) (c:=RL (n+1)) (fn:=Tryz.f301) (code:=Tryz.f301.body.getD .skip) (hn:=gD) (gr:=[]) (is:=[.tmp 2]) ⟨CO,(fun c hc=>by simp only [aF,List.mem_cons,List.not_mem_nil,or_false] at hc;rcases hc with rfl | rfl | rfl | rfl | rfl | rfl | rfl | rfl<;>assumption),CX⟩ ⟨by kernel_rfl,by kernel_rfl,by kernel_rfl,by kernel_rfl,by kernel_rfl,Nat.le_of_ble_eq_true rfl,by kernel_rfl⟩ (by kernel_rfl) (fun x y h=>(congrFun (congrFun nZ n) x).trans h)
  ·exact BM (E:=aG n) (c:=Tu (n+1)) (fn:=Tryz.f306) (code:=Tryz.f306.body.getD .skip) (hn:=gE) (gr:=[]) (is:=[.tmp 4]) ⟨CO,(fun c hc=>by simp only [aG,List.mem_cons,List.not_mem_nil,or_false] at hc;rcases hc with rfl | rfl | rfl | rfl<;>assumption),CX⟩ ⟨by kernel_rfl,by kernel_rfl,by kernel_rfl,by kernel_rfl,by kernel_rfl,Nat.le_of_ble_eq_true rfl,by kernel_rfl⟩ (by kernel_rfl) (fun x y h=>(congrFun (congrFun na n) x).trans h)
noncomputable def fV:Cal:=⟨244,RY,Wh,fun x=>CA x.1,0⟩
theorem aQ:Cok Tryz.prog fV:=Bq (F:=fun n=>(RK n).F) (fun n=>(TQ n).1)
noncomputable def jz:Cal:=⟨283,Rf,Wo,fun x=>QK x.1,0⟩
theorem c283:Cok Tryz.prog jz:=Bq (F:=fun n=>(Tq n).F) (fun n=>(TQ n).2.1)
noncomputable def kC:Cal:=⟨301,Ri,Ws,fun x=>PJ x.1,0⟩
theorem c301:Cok Tryz.prog kC:=Bq (F:=fun n=>(RL n).F) (fun n=>(TQ n).2.2.1)
noncomputable def kD:Cal:=⟨306,Rj,Wt,fun x=>PG x.1 x.2.1,0⟩
theorem c306:Cok Tryz.prog kD:=Bq (F:=fun n=>(Tu n).F) (fun n=>(TQ n).2.2.2)
noncomputable def Zj:Cal:=⟨299,[⟨.ptr (.pr (.ro) (.pr (.ro) (.pr (.ro) (.pr (.ro) (.own (M7)))))),T4⟩,⟨.ro,.int .i64⟩,⟨.ro,.str⟩],[⟨.int .i64,.ro⟩],fun x=>Bp x.1 x.2.1 x.2.2.1,0⟩
def lm:Hn:=(.e .z (.e .z (.e .z (.e (.o [(5,.m' M7)]) .z))))
theorem nD:CK Zj:=ck Zj Tryz.f299 lm [] [.tmp 6] (cc aQ (cc UG (cc UH cn)))
def RX:List Prm:=[⟨.ptr (.pr (.ro) (.pr (.ro) (.pr (.ro) (.pr (.ro) (.own (M7)))))),T4⟩]
def Wg:List Ret:=[⟨.list 3 (.int .i64),.own (.ro)⟩]
noncomputable def Ti (n:Nat):Cal:=⟨242,RX,Wg,fun x=>(AP n).1 x.1,0⟩
def Re:List Prm:=[⟨.ptr (.pr (.ro) (.pr (.ro) (.pr (.ro) (.pr (.ro) (.own (M7)))))),T4⟩]
def Wn:List Ret:=[⟨.int .i64,.ro⟩]
noncomputable def Tp (n:Nat):Cal:=⟨282,Re,Wn,fun x=>(AP n).2.1 x.1,0⟩
def Rh:List Prm:=[⟨.ptr (.pr (.ro) (.pr (.ro) (.pr (.ro) (.pr (.ro) (.own (M7)))))),T4⟩]
def Wr:List Ret:=[⟨.int .i64,.ro⟩]
noncomputable def Tt (n:Nat):Cal:=⟨300,Rh,Wr,fun x=>(AP n).2.2.1 x.1,0⟩
def fo:Hn:=(.e .z (.e (.k [.g 3]) (.e (.j [.d 3,.box 0 true (T4) (.pr (.ro) (.pr (.ro) (.pr (.ro) (.pr (.ro) (.own (M7))))))] [] (.j [.d 3,.box 0 true (T4) (.pr (.ro) (.pr (.ro) (.pr (.ro) (.pr (.ro) (.own (M7))))))] [(0,⟨1,[]⟩)] (.e (.e (.j [.d 3,.l 20,.box 0 true (T4) (.pr (.ro) (.pr (.ro) (.pr (.ro) (.pr (.ro) (.own (M7))))))] [(0,⟨1,[]⟩)] .z .z) .z) (.e (.e .z (.n ⟨[],[.g 3],none,false,[(3,.g [.g 23] .ro)]⟩ .z .z)) .z)) .z) .z) (.e (.k [.g 2]) .z))))
noncomputable def Zu (n:Nat):Env:=⟨tab,[Zi,Tp n],1,28⟩
theorem nO:(fun(n:Nat) (x:HL (pts RX))=>den (Zu n) (Tryz.f242.body.getD .skip) fo (CL 0 28 RX x) (BV tab [] RX Wg [.tmp 2]) (fun _ _=>none) (BV tab [] RX Wg [.tmp 2]))=fun n=>(Ti (n+1)).F:=by kernel_rfl
def fy:Hn:=(.e .z (.e (.e (.e .z (.e .z (.e .z (.e .z (.e .z (.e (.e .z (.e .z (.e (.e .z (.j [.i 5,.i 6,.box 0 true (T4) (.pr (.ro) (.pr (.ro) (.pr (.ro) (.pr (.ro) (.own (M7))))))] [(0,⟨1,[]⟩)] .z .z)) (.e .z (.e (.o [(5,.m' M7)]) .z))))) (.e .z (.e (.e .z (.e .z (.e (.o [(4,.m' M7)]) .z))) .z)))))))) .z) .z))
noncomputable def aB (n:Nat):Env:=⟨tab,[PY,WT,RJ,Zj,fV,Tt n,OB],1,83⟩
theorem nV:(fun(n:Nat) (x:HL (pts Re))=>den (aB n) (Tryz.f282.body.getD .skip) fy (CL 0 83 Re x) (BV tab [] Re Wn [.tmp 2]) (fun _ _=>none) (BV tab [] Re Wn [.tmp 2]))=fun n=>(Tp (n+1)).F:=by kernel_rfl
def gC:Hn:=(.e .z (.e .z (.e (.e .z (.j [.box 0 true (T4) (.pr (.ro) (.pr (.ro) (.pr (.ro) (.pr (.ro) (.own (M7))))))] [(0,⟨1,[]⟩)] .z .z)) (.e .z (.e (.k [.g 3]) (.e .z (.e .z (.e (.o [(2,.g [.g 35] M7)]) .z))))))))
noncomputable def aE (n:Nat):Env:=⟨tab,[RJ,Ti n,OB],1,38⟩
theorem nY:(fun(n:Nat) (x:HL (pts Rh))=>den (aE n) (Tryz.f300.body.getD .skip) gC (CL 0 38 Rh x) (BV tab [] Rh Wr [.tmp 2]) (fun _ _=>none) (BV tab [] Rh Wr [.tmp 2]))=fun n=>(Tt (n+1)).F:=by kernel_rfl
theorem XG:∀ n,Cok Tryz.prog (Ti n)∧Cok Tryz.prog (Tp n)∧Cok Tryz.prog (Tt n):=by
 intro n
 have h281:=gx
 have h238:=Rn
 have h239:=XD
 have h240:=UG
 have h299:=nD
 have h244:=aQ
 have h243:=UH
 induction n with
 | zero=>exact⟨Be (fn:=Tryz.f242) (by kernel_rfl) (by kernel_rfl) (by kernel_rfl) (fun _=>rfl),Be (fn:=Tryz.f282) (by kernel_rfl) (by kernel_rfl) (by kernel_rfl) (fun _=>rfl),Be (fn:=Tryz.f300) (by kernel_rfl) (by kernel_rfl) (by kernel_rfl) (fun _=>rfl)⟩
 | succ n ih=>
  obtain⟨h242,h282,h300⟩:=ih
  refine⟨?_,?_,?_⟩
  ·exact BM (E:=Zu n) (c:=Ti (n+1)) (fn:=Tryz.f242) (code:=Tryz.f242.body.getD .skip) (hn:=fo) (gr:=[]) (is:=[.tmp 2]) ⟨CO,(fun c hc=>by simp only [Zu,List.mem_cons,List.not_mem_nil,or_false] at hc;rcases hc with rfl | rfl<;>assumption),CX⟩ ⟨by kernel_rfl,by kernel_rfl,by kernel_rfl,by kernel_rfl,by kernel_rfl,Nat.le_of_ble_eq_true rfl,by kernel_rfl⟩ (by kernel_rfl) (fun x y h=>(congrFun (congrFun nO n) x).trans h)
  ·exact BM (E:=aB n) (c:=Tp (n+1)) (fn:=Tryz.f282) (code:=Tryz.f282.body.getD .skip) (hn:=fy) (gr:=[]) (is:=[.tmp 2]) ⟨CO,(fun c hc=>by simp only [aB,List.mem_cons,List.not_mem_nil,or_false] at hc;rcases hc with rfl | rfl | rfl | rfl | rfl | rfl | rfl<;>assumption),CX⟩ ⟨by kernel_rfl,by kernel_rfl,by kernel_rfl,by kernel_rfl,by kernel_rfl,Nat.le_of_ble_eq_true rfl,by kernel_rfl⟩ (by kernel_rfl) (fun x y h=>(congrFun (congrFun nV n) x).trans h)
  ·exact BM (E:=aE n) (c:=Tt (n+1)) (fn:=Tryz.f300) (code:=Tryz.f300.body.getD .skip) (hn:=gC) (gr:=[]) (is:=[.tmp 2]) ⟨CO,(fun c hc=>by simp only [aE,List.mem_cons,List.not_mem_nil,or_false] at hc;rcases hc with rfl | rfl | rfl<;>assumption),CX⟩ ⟨by kernel_rfl,by kernel_rfl,by kernel_rfl,by kernel_rfl,by kernel_rfl,Nat.le_of_ble_eq_true rfl,by kernel_rfl⟩ (by kernel_rfl) (fun x y h=>(congrFun (congrFun nY n) x).trans h)
noncomputable def jt:Cal:=⟨242,RX,Wg,fun x=>El x.1,0⟩
theorem mu:Cok Tryz.prog jt:=Bq (F:=fun n=>(Ti n).F) (fun n=>(XG n).1)
noncomputable def jy:Cal:=⟨282,Re,Wn,fun x=>PH x.1,0⟩
theorem c282:Cok Tryz.prog jy:=Bq (F:=fun n=>(Tp n).F) (fun n=>(XG n).2.1)
noncomputable def kB:Cal:=⟨300,Rh,Wr,fun x=>Oe x.1,0⟩
theorem c300:Cok Tryz.prog kB:=Bq (F:=fun n=>(Tt n).F) (fun n=>(XG n).2.2)
noncomputable def fL:Cal:=⟨208,[⟨.ptr (.pr (.ro) (.pr (.ro) (.pr (.ro) (.pr (.ro) (.own (M7)))))),T4⟩],[⟨T6,M6⟩],fun x=>Gv x.1,0⟩
def lG:Hn:=(.e (.o [(0,.m' M6)]) (.e (.e .z (.j [.box 0 true (T4) (.pr (.ro) (.pr (.ro) (.pr (.ro) (.pr (.ro) (.own (M7)))))),.box 2 true (T6) (M6)] [(0,⟨1,[]⟩),(2,⟨5,[]⟩)] .z .z)) (.e (.o [(2,.m' M6),(3,.m' M6),(4,.m' M6)]) (.e .z (.e (.e .z (.j [.box 0 true (T4) (.pr (.ro) (.pr (.ro) (.pr (.ro) (.pr (.ro) (.own (M7)))))),.box 2 true (T6) (M6),.box 3 true (T6) (M6)] [(0,⟨1,[]⟩),(2,⟨5,[]⟩),(3,⟨7,[]⟩)] (.j [.box 0 true (T4) (.pr (.ro) (.pr (.ro) (.pr (.ro) (.pr (.ro) (.own (M7)))))),.box 2 true (T6) (M6),.box 3 true (T6) (M6)] [(0,⟨1,[]⟩),(2,⟨5,[]⟩),(3,⟨7,[]⟩)] (.j [.box 0 true (T4) (.pr (.ro) (.pr (.ro) (.pr (.ro) (.pr (.ro) (.own (M7)))))),.box 2 true (T6) (M6),.box 3 true (T6) (M6)] [(0,⟨1,[]⟩),(2,⟨5,[]⟩),(3,⟨7,[]⟩)] (.e .z (.e (.e .z (.e .z (.e .z (.e (.o [(4,.g [.g 34] .ro),(6,.m' (.own (.ro)))]) .z)))) .z)) .z) .z) .z)) (.e (.e .z (.j [.box 0 true (T4) (.pr (.ro) (.pr (.ro) (.pr (.ro) (.pr (.ro) (.own (M7)))))),.box 2 true (T6) (M6),.box 3 true (T6) (M6)] [(0,⟨1,[]⟩),(2,⟨5,[]⟩),(3,⟨7,[]⟩)] .z .z)) (.e .z (.e (.k [.g 5]) (.e (.o [(2,.g [.g 53] M7)]) (.e (.e .z (.j [.box 0 true (T4) (.pr (.ro) (.pr (.ro) (.pr (.ro) (.pr (.ro) (.own (M7)))))),.box 2 true (T6) (M6),.box 3 true (T6) (M6)] [(0,⟨1,[]⟩),(2,⟨5,[]⟩),(3,⟨7,[]⟩)] .z .z)) (.e .z (.e (.o [(1,.g [.g 66] M6)]) .z))))))))))))
theorem mf:CK fL:=ck fL Tryz.f208 lG [] [.cell 2 125] (cc Rn (cc XD (cc UG (cc mt (cc mu (cc UH (cc aQ cn)))))))
noncomputable def fQ:Cal:=⟨234,[⟨.ro,.int .i64⟩],[⟨.int .i64,.ro⟩,⟨.int .i64,.ro⟩],fun x=>Jf x.1,0⟩
def lN:Hn:=(.e .z (.e (.e .z (.e (.e (.e .z (.j [.i 4,.l 5] [] .z (.e .z (.j [.i 4,.l 5] [] .z (.e .z (.j [.i 4,.l 5] [] .z (.e .z (.j [.i 4,.l 5] [] .z (.e .z (.j [.i 4,.l 5] [] .z .z)))))))))) (.e .z (.e (.e .z (.j [.i 4,.l 12] [] .z (.e .z (.j [.i 4,.l 12] [] .z (.e .z (.j [.i 4,.l 12] [] .z .z)))))) .z))) .z)) .z))
theorem ml:CK fQ:=ck fQ Tryz.f234 lN [] [.tmp 2,.tmp 3] cn
noncomputable def fR:Cal:=⟨235,[⟨.ro,.int .i64⟩],[⟨.bool,.ro⟩],fun x=>IP x.1,0⟩
def lO:Hn:=(.e .z (.e (.e .z (.e (.e (.e .z (.j [.l 4] [] .z (.e .z (.j [.l 4] [] .z (.e .z (.j [.l 4] [] .z (.e .z (.j [.l 4] [] .z (.e .z (.j [.l 4] [] .z (.e .z (.j [.l 4] [] .z (.e .z (.j [.l 4] [] .z (.e .z (.j [.l 4] [] .z .z)))))))))))))))) .z) .z)) .z))
theorem mn:CK fR:=ck fR Tryz.f235 lO [] [.tmp 2] cn
noncomputable def fX:Cal:=⟨279,[⟨.ro,.int .i64⟩],[⟨.bool,.ro⟩],fun x=>Hv x.1,0⟩
def lg:Hn:=.z
theorem nA:CK fX:=ck fX Tryz.f279 lg [] [.tmp 2] (cc c82 cn)
noncomputable def fP:Cal:=⟨230,[⟨.ro,.int .i64⟩],[⟨.bool,.ro⟩],fun x=>GT x.1,0⟩
def lM:Hn:=.z
theorem gp:CK fP:=ck fP Tryz.f230 lM [] [.tmp 2] (cc c82 cn)
noncomputable def fS:Cal:=⟨236,[⟨.ro,.int .i64⟩,⟨.ro,.int .i64⟩,⟨.ro,.int .i64⟩],[⟨.bool,.ro⟩],fun x=>Je x.1 x.2.1 x.2.2.1,0⟩
def lP:Hn:=(.e .z (.e (.e .z (.e (.e .z (.e .z (.e (.e .z (.j [.i 1,.i 2,.i 7,.l 12] [] .z .z)) (.n ⟨[],[],(some ⟨[.i 2],[],[]⟩),true,[]⟩ .z .z)))) .z)) .z))
theorem mo:CK fS:=ck fS Tryz.f236 lP [] [.tmp 6] (cc nA (cc gp cn))
noncomputable def fJ:Cal:=⟨204,[⟨.ro,.list 114 (T7)⟩,⟨.ro,.int .i64⟩],[⟨.bool,.ro⟩],fun x=>KG x.1 x.2.1,0⟩
def lE:Hn:=(.e .z (.e (.e (.j [.snp 0 (.list 114 (T7)) [],.i 1,.l 24] [] .z .z) .z) (.e (.o [(4,.m' M7),(5,.m' M7)]) (.e .z (.e (.e (.j [.snp 0 (.list 114 (T7)) [],.i 1,.l 57,.box 5 true (T7) (.ro)] [(5,⟨11,[]⟩)] .z .z) .z) (.e (.e (.n ⟨[],[],(some ⟨[.snp 0 (.list 114 (T7)) [],.i 1,.l 75,.box 5 true (T7) (.ro)],[(5,⟨11,[]⟩)],[]⟩),false,(tr 0 58 18 [])⟩ .z .z) .z) (.e (.e .z (.n ⟨[],[],(some ⟨[],[],[]⟩),true,[]⟩ (.j [.snp 0 (.list 114 (T7)) [],.i 1,.i 8,.box 5 true (T7) (.ro)] [(5,⟨11,[]⟩)] (.e .z (.e (.n ⟨[],[],(some ⟨[.snp 0 (.list 114 (T7)) [],.i 1,.i 8,.box 5 true (T7) (.ro)],[(5,⟨11,[]⟩)],[]⟩),true,[]⟩ (.e (.e (.n ⟨[],[],(some ⟨[.snp 0 (.list 114 (T7)) [],.i 1,.i 8,.l 107,.box 5 true (T7) (.ro)],[(5,⟨11,[]⟩)],[]⟩),false,(tr 0 83 25 [])⟩ .z .z) .z) (.e .z (.n ⟨[],[],(some ⟨[.snp 0 (.list 114 (T7)) [],.i 1,.i 8,.box 5 true (T7) (.ro)],[(5,⟨11,[]⟩)],[]⟩),true,[]⟩ (.j [.snp 0 (.list 114 (T7)) [],.i 1,.i 8,.i 9,.box 5 true (T7) (.ro)] [(5,⟨11,[]⟩)] (.e .z (.e (.e (.e (.o (tr 0 113 11 [])) .z) .z) .z)) .z) .z))) .z) .z)) .z) .z)) .z)))))))
theorem mc:CK fJ:=ck fJ Tryz.f204 lE [] [.tmp 4] (cc c82 (cc ml (cc mn (cc c81 (cc mo cn)))))
noncomputable def ew:Cal:=⟨171,[⟨.ro,.list 114 (T7)⟩,⟨.ro,.int .i64⟩],[⟨.list 3 (.int .i64),.own (.ro)⟩],fun x=>GS x.1 x.2.1,0⟩
def km:Hn:=(.e .z (.e (.k [.g 5]) (.e (.e .z (.j [.d 5] [] (.j [.snp 0 (.list 114 (T7)) [],.i 1,.d 5,.i 6] [] (.e (.e (.j [.snp 0 (.list 114 (T7)) [],.i 1,.d 5,.i 6,.l 18] [] .z .z) .z) (.e (.j [.snp 0 (.list 114 (T7)) [],.i 1,.d 5,.i 6] [] (.e .z (.e (.e (.j [.snp 0 (.list 114 (T7)) [],.i 1,.d 5,.i 6,.i 7,.l 36] [] .z .z) (.j [.snp 0 (.list 114 (T7)) [],.i 1,.d 5,.i 6,.i 7] [] .z .z)) (.e (.e .z (.j [.snp 0 (.list 114 (T7)) [],.i 1,.d 5,.i 6,.i 7] [] (.j [.snp 0 (.list 114 (T7)) [],.i 1,.d 5,.i 6,.i 7,.i 8] [] (.e (.e (.j [.snp 0 (.list 114 (T7)) [],.i 1,.d 5,.i 6,.i 7,.i 8,.l 48] [] .z .z) .z) (.e (.e (.e .z (.j [.snp 0 (.list 114 (T7)) [],.i 1,.d 5,.i 6,.i 7,.i 8] [] .z .z)) .z) .z)) .z) .z)) (.e (.e .z (.j [.snp 0 (.list 114 (T7)) [],.i 1,.d 5,.i 6,.i 7] [] .z .z)) (.n ⟨[],[.g 5],none,false,[(3,.g [.g 79] .ro)]⟩ .z .z))))) .z) .z)) .z) .z)) (.e (.k [.g 4]) .z))))
theorem gi:CK ew:=ck ew Tryz.f171 km [] [.tmp 4] (cc mc cn)
noncomputable def fH:Cal:=⟨198,[⟨.ro,.list 114 (T7)⟩],[⟨.list 3 (.int .i64),.own (.ro)⟩],fun x=>Jg x.1,0⟩
def lA:Hn:=(.e .z (.e (.k [.g 3]) (.e (.e .z (.j [.d 3] [] (.j [.snp 0 (.list 114 (T7)) [],.d 3,.i 4] [] (.e .z (.e (.j [.snp 0 (.list 114 (T7)) [],.d 3,.i 4] [] (.e .z (.j [.snp 0 (.list 114 (T7)) [],.d 3,.i 4] [] (.j [.snp 0 (.list 114 (T7)) [],.d 3,.i 4,.i 5] [] (.e .z (.e (.e (.o [(13,⟨[],.ro,[],[],some 6⟩)]) .z) .z)) .z) .z)) .z) .z)) .z) .z)) (.e (.k [.g 2]) .z))))
theorem mY:CK fH:=ck fH Tryz.f198 lA [] [.tmp 2] cn
noncomputable def WR:Cal:=⟨202,[⟨.ro,T2⟩,⟨.ro,.str⟩],[⟨.int .i64,.ro⟩],fun x=>HQ x.1 x.2.1,0⟩
def lD:Hn:=(.e (.o [(0,.m' M2)]) (.e (.e .z (.n ⟨[],[],(some ⟨[],[],[]⟩),true,[]⟩ (.j [.snp 1 (.str) [],.i 5,.box 2 true (T2) (.ro)] [(2,⟨5,[]⟩)] .z .z) .z)) .z))
theorem aP:CK WR:=ck WR Tryz.f202 lD [] [.tmp 4] cn
noncomputable def fI:Cal:=⟨199,[⟨.ro,T2⟩,⟨.ro,.int .i64⟩],[⟨.bool,.ro⟩],fun x=>LH x.1 x.2.1,0⟩
def lB:Hn:=(.e (.o [(0,.m' M2)]) (.e (.o [(5,.m' M6),(6,.m' M6)]) (.e (.e (.j [.l 35,.box 2 true (T2) (.ro),.box 5 true (T6) (.ro)] [(2,⟨5,[]⟩),(5,⟨11,[]⟩)] .z .z) .z) (.e (.e .z (.n ⟨[],[],(some ⟨[.box 2 true (T2) (.ro),.box 5 true (T6) (.ro)],[(2,⟨5,[]⟩),(5,⟨11,[]⟩)],[]⟩),true,[]⟩ (.j [.i 6,.box 2 true (T2) (.ro),.box 5 true (T6) (.ro)] [(2,⟨5,[]⟩),(5,⟨11,[]⟩)] (.e .z (.e (.e (.e (.j [.i 6,.l 60,.box 2 true (T2) (.ro),.box 5 true (T6) (.ro)] [(2,⟨5,[]⟩),(5,⟨11,[]⟩)] .z .z) .z) .z) .z)) .z) .z)) (.e (.e (.j [.l 78,.box 2 true (T2) (.ro),.box 5 true (T6) (.ro)] [(2,⟨5,[]⟩),(5,⟨11,[]⟩)] .z .z) .z) (.e .z (.e (.j [.l 4] [] .z .z) .z)))))))
theorem mZ:CK fI:=ck fI Tryz.f199 lB [] [.tmp 4] (cc c81 (cc aP (cc c82 (cc gp cn))))
noncomputable def eq:Cal:=⟨165,[⟨.ro,T2⟩],[⟨.bool,.ro⟩],fun x=>Fi x.1,0⟩
def kj:Hn:=(.e (.o [(0,.m' M2)]) (.e (.e (.j [.l 18,.box 1 true (T2) (.ro)] [(1,⟨3,[]⟩)] .z .z) .z) (.e (.k [.g 3]) (.e .z (.e (.k [.g 4]) (.e (.e .z (.n ⟨[],[],(some ⟨[.d 4],[],[]⟩),true,[]⟩ (.j [.d 4,.i 5,.box 1 true (T2) (.ro)] [(1,⟨3,[]⟩)] (.e .z (.e (.e (.e .z (.e (.o (tr 0 47 18 [(18,⟨[],.ro,[4,47,54,61,64],[],some 8⟩)])) (.e .z (.j [.d 4,.i 5,.box 1 true (T2) (.ro)] [(1,⟨3,[]⟩)] (.o (tr 0 72 18 [(18,⟨[],.ro,[4,72,79,86,89],[],some 8⟩)])) .z)))) .z) .z)) .z) .z)) (.e (.e .z (.n ⟨[],[],(some ⟨[],[],[]⟩),true,[]⟩ (.j [.d 4,.i 6] [] (.e .z (.e (.e (.e (.j [.d 4,.i 6,.l 107] [] .z .z) .z) .z) .z)) .z) .z)) .z)))))))
theorem ge:CK eq:=ck eq Tryz.f165 kj [] [.tmp 2] (cc c82 (cc gi (cc mY (cc mZ cn))))
noncomputable def ey:Cal:=⟨175,[⟨.ro,.str⟩],[⟨T2,M2⟩,⟨.bool,.ro⟩],fun x=>Cw x.1,0⟩
def ko:Hn:=(.e (.o [(0,.m' M2)]) (.e (.k [.g 4]) (.e (.e .z (.e (.e (.o [(0,.m' M2),(1,.m' M2)]) .z) .z)) (.e (.o [(1,.g [.g 16] M4),(2,.m' M4)]) (.e (.o [(0,.m' M2),(1,.m' M2),(2,.m' M2)]) (.e (.j [.box 2 true (T2) (M2),.box 7 true (T2) (M2),.box 18 true (T4) (.pr (.ro) (.pr (.ro) (.pr (.ro) (.pr (.ro) (.own (M7))))))] [(2,⟨5,[]⟩),(6,⟨37,[]⟩),(7,⟨15,[]⟩)] (.n ⟨[.w 37 (.pr (.ro) (.pr (.ro) (.pr (.ro) (.pr (.ro) (.own (M7))))))],[],(some ⟨[.box 2 true (T2) (M2),.box 7 true (T2) (M2),.box 18 true (T4) (.pr (.ro) (.pr (.ro) (.pr (.ro) (.pr (.ro) (.own (M7))))))],[(2,⟨5,[]⟩),(6,⟨37,[]⟩),(7,⟨15,[]⟩)],[]⟩),false,[]⟩ (.e (.e (.n ⟨[],[.w 37 (M4)],(some ⟨[.l 42,.box 2 true (T2) (M2),.box 7 true (T2) (M2),.box 18 true (T4) (.pr (.ro) (.pr (.ro) (.pr (.ro) (.pr (.ro) (.own (M7))))))],[(2,⟨5,[]⟩),(6,⟨37,[]⟩),(7,⟨15,[]⟩)],[]⟩),false,(tr 0 20 23 [])⟩ .z .z) (.e .z (.n ⟨[.w 37 (M4)],[],none,false,[]⟩ .z .z))) (.e (.n ⟨[.w 37 (.pr (.ro) (.pr (.ro) (.pr (.ro) (.pr (.ro) (.own (M7))))))],[.w 37 (M4)],none,false,(tr 0 43 3 [(3,⟨[],.ro,[6,45,46],[18],none⟩),(4,⟨[],M6,[46,47],[],none⟩),(5,⟨[.g 44],M6,[7,43,44,47,48],[7],none⟩),(6,.t 49),(7,⟨[],.own (M6),[7,43,48,49],[7],none⟩)])⟩ .z .z) .z)) .z) .z) (.e (.o [(5,.g [.g 53] (.own (M7)))]) (.e (.e (.j [.l 63,.box 2 true (T2) (M2),.box 7 true (T2) (M2)] [(2,⟨5,[]⟩),(7,⟨15,[]⟩)] .z .z) (.e (.e (.o [(0,.m' M2),(1,.m' M2)]) .z) .z)) (.e (.o [(1,.g [.g 65] M2)]) .z)))))))))
theorem mP:CK ey:=ck ey Tryz.f175 ko [] [.cell 2 69,.tmp 3] (cc me (cc mf (cc ge cn)))
noncomputable def eV:Cal:=⟨134,[⟨.ptr (.ro),T10⟩],[⟨T2,M2⟩],fun x=>Gu x.1,0⟩
def kW:Hn:=(.e (.o [(0,.m' M2)]) (.e (.o [(6,.m' M2),(7,.m' M2)]) (.e (.e .z (.j [.box 0 true (T10) (.ro),.box 2 true (T2) (M2),.box 3 true (T2) (M2)] [(2,⟨5,[]⟩),(3,⟨7,[]⟩)] (.e (.o [(4,.m' M2)]) (.e .z (.j [.box 0 true (T10) (.ro),.box 2 true (T2) (M2),.box 3 true (T2) (M2)] [(2,⟨5,[]⟩),(3,⟨7,[]⟩)] (.o [(4,.m' M2)]) .z))) .z)) (.e (.o [(1,.g [.g 25] M2)]) .z))))
theorem mF:CK eV:=ck eV Tryz.f134 kW [] [.cell 2 69] (cc mQ (cc mP cn))
noncomputable def eT:Cal:=⟨128,[⟨.ro,.list 114 (T7)⟩,⟨.ro,.int .i64⟩],[⟨.int .i64,.ro⟩],fun x=>KF x.1 x.2.1,0⟩
def kU:Hn:=.z
theorem mD:CK eT:=ck eT Tryz.f128 kU [] [.tmp 4] (cc c82 (cc gi cn))
def RP:List Prm:=[⟨.ro,.list 114 (T7)⟩,⟨.ro,.int .i64⟩,⟨.inp (.own (.ro)),.list 4 (.bool)⟩]
def WZ:List Ret:=[]
noncomputable def Tc (n:Nat):Cal:=⟨169,RP,WZ,fun x=>(Du n).1 x.1 x.2.1 x.2.2.1,0⟩
def fe:Hn:=(.e .z (.e (.o [(3,⟨[],.ro,[],[],some 5⟩)]) (.e .z (.j [.box 2 false (.list 4 (.bool)) (.own (.ro))] [] (.n ⟨[],[],(some ⟨[.snp 0 (.list 114 (T7)) [],.i 1,.i 6,.box 2 false (.list 4 (.bool)) (.own (.ro))],[],[(2,2)]⟩),false,[]⟩ .z .z) .z))))
noncomputable def Zn (n:Nat):Env:=⟨tab,[Tc n],3,35⟩
theorem nH:(fun(n:Nat) (x:HL (pts RP))=>den (Zn n) (Tryz.f169.body.getD .skip) fe (CL 0 35 RP x) (BV tab [] RP WZ []) (fun _ _=>none) (BV tab [] RP WZ []))=fun n=>(Tc (n+1)).F:=by kernel_rfl
theorem jO:∀ n,Cok Tryz.prog (Tc n):=by
 intro n
 induction n with
 | zero=>exact Be (fn:=Tryz.f169) (by kernel_rfl) (by kernel_rfl) (by kernel_rfl) (fun _=>rfl)
 | succ n ih=>
  have h169:=ih
  refine ?_
  ·exact BM (E:=Zn n) (c:=Tc (n+1)) (fn:=Tryz.f169) (code:=Tryz.f169.body.getD .skip) (hn:=fe) (gr:=[]) (is:=[]) ⟨CO,(fun c hc=>by simp only [Zn,List.mem_cons,List.not_mem_nil,or_false] at hc;rcases hc with rfl<;>assumption),CX⟩ ⟨by kernel_rfl,by kernel_rfl,by kernel_rfl,by kernel_rfl,by kernel_rfl,Nat.le_of_ble_eq_true rfl,by kernel_rfl⟩ (by kernel_rfl) (fun x y h=>(congrFun (congrFun nH n) x).trans h)
noncomputable def jo:Cal:=⟨169,RP,WZ,fun x=>Lk x.1 x.2.1 x.2.2.1,0⟩
theorem mO:Cok Tryz.prog jo:=Bq (F:=fun n=>(Tc n).F) (fun n=>(jO n))
noncomputable def eS:Cal:=⟨124,[⟨.ro,T2⟩,⟨.ro,.int .i64⟩],[⟨.list 3 (.int .i64),.own (.ro)⟩],fun x=>LG x.1 x.2.1,0⟩
def kT:Hn:=(.e (.o [(0,.m' M2)]) (.e (.k [.g 5]) (.e (.e .z (.e (.e (.k [.g 4]) .z) .z)) (.e (.k [.g 6]) (.e .z (.e (.e .z (.j [.d 5] [] (.j [.d 5,.dat 6 (.list 4 (.bool)) (.own (.ro)),.i 7] [] (.e .z (.e (.e (.e .z (.j [.d 5,.dat 6 (.list 4 (.bool)) (.own (.ro)),.i 7] [] (.n ⟨[],[.g 5],none,false,[(3,.g [.g 34] .ro)]⟩ .z .z) .z)) .z) .z)) .z) .z)) (.e (.k [.g 4]) .z)))))))
theorem mC:CK eS:=ck eS Tryz.f124 kT [] [.tmp 4] (cc mD (cc mO cn))
noncomputable def eQ:Cal:=⟨118,[⟨.ro,T2⟩,⟨.ro,.int .i64⟩],[⟨.list 119 (T12),.own (.ro)⟩],fun x=>II x.1 x.2.1,0⟩
def kR:Hn:=(.e (.o [(0,.m' M2)]) (.e (.k [.g 5]) (.e (.e .z (.e (.e (.k [.g 4]) .z) .z)) (.e (.o [(5,.m' M6),(6,.m' M6)]) (.e (.e .z (.j [.dat 5 (.list 119 (T12)) (.own (.ro)),.box 2 true (T2) (.ro),.box 6 true (T6) (.ro)] [(2,⟨5,[]⟩),(6,⟨13,[]⟩)] (.j [.dat 5 (.list 119 (T12)) (.own (.ro)),.i 7,.box 2 true (T2) (.ro),.box 6 true (T6) (.ro)] [(2,⟨5,[]⟩),(6,⟨13,[]⟩)] (.e .z (.e (.e (.n ⟨[],[.g 5],none,false,(tr 0 31 15 [(15,⟨[.g 31],.ro,[5,31,46],[],none⟩),(16,.t 5)])⟩ .z .z) .z) .z)) .z) .z)) (.e (.k [.g 8]) (.e (.e .z (.j [.dat 5 (.list 119 (T12)) (.own (.ro))] [] (.j [.dat 5 (.list 119 (T12)) (.own (.ro)),.d 8,.i 9,.box 2 true (T2) (.ro)] [(2,⟨5,[]⟩)] (.e .z (.e (.e (.e (.o (tr 0 57 10 [])) (.j [.dat 5 (.list 119 (T12)) (.own (.ro)),.d 8,.i 9,.box 2 true (T2) (.ro)] [(2,⟨5,[]⟩)] (.n ⟨[],[.g 5],none,false,(tr 0 67 16 [(16,⟨[.g 67],.ro,[5,67,83],[],none⟩),(17,.t 5)])⟩ .z .z) .z)) .z) .z)) .z) .z)) (.e (.k [.g 4]) .z))))))))
theorem gW:CK eQ:=ck eQ Tryz.f118 kR [] [.tmp 4] (cc c82 (cc mC cn))
noncomputable def WP:Cal:=⟨166,[⟨.ro,.list 119 (T12)⟩,⟨.ro,.str⟩],[⟨.int .i64,.ro⟩],fun x=>Cd x.1 x.2.1,0⟩
def kl:Hn:=(.e .z (.e (.e .z (.n ⟨[],[],(some ⟨[],[],[]⟩),true,[]⟩ (.j [.snp 0 (.list 119 (T12)) [],.snp 1 (.str) [],.i 5] [] .z .z) .z)) .z))
theorem UF:CK WP:=ck WP Tryz.f166 kl [] [.tmp 4] cn
noncomputable def WQ:Cal:=⟨201,[⟨.ro,.list 9 (.str)⟩,⟨.ro,.str⟩],[⟨.bool,.ro⟩],fun x=>GX x.1 x.2.1,0⟩
def lC:Hn:=(.e .z (.e (.e .z (.n ⟨[],[],(some ⟨[],[],[]⟩),true,[]⟩ (.j [.snp 0 (.list 9 (.str)) [],.snp 1 (.str) [],.i 5] [] .z .z) .z)) .z))
theorem gj:CK WQ:=ck WQ Tryz.f201 lC [] [.tmp 4] cn
end Go.Proofs.YtmakhmoielhjeaaGreatDoorE

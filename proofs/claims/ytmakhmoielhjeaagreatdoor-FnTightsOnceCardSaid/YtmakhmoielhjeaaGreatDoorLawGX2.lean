/- The functions of X reckon so (2). No condition. -/
import Derived.Test.YtmakhmoielhjeaaGreatDoorLawGX1
set_option linter.all false
namespace Go.Proofs.YtmakhmoielhjeaaGreatDoorE
noncomputable section
set_option maxRecDepth 100000
def QD:List Prm:=[⟨.ptr (.pr (.ro) (.pr (.ro) (.pr (.ro) (.pr (.ro) (.own (M7)))))),T4⟩]
def VG:List Ret:=[⟨.int .i64,.ro⟩]
def Pr (n:Nat):Cal:=⟨244,QD,VG,fun x=>(AC n).1 x.1,0⟩
def QK:List Prm:=[⟨.ptr (.pr (.ro) (.pr (.ro) (.pr (.ro) (.pr (.ro) (.own (M7)))))),T4⟩]
def VO:List Ret:=[⟨.int .i64,.ro⟩]
def SO (n:Nat):Cal:=⟨283,QK,VO,fun x=>(AC n).2.1 x.1,0⟩
def QN:List Prm:=[⟨.ptr (.pr (.ro) (.pr (.ro) (.pr (.ro) (.pr (.ro) (.own (M7)))))),T4⟩]
def VR:List Ret:=[⟨.int .i64,.ro⟩]
def Ps (n:Nat):Cal:=⟨301,QN,VR,fun x=>(AC n).2.2.1 x.1,0⟩
def QO:List Prm:=[⟨.ptr (.pr (.ro) (.pr (.ro) (.pr (.ro) (.pr (.ro) (.own (M7)))))),T4⟩,⟨.ro,.str⟩]
def VT:List Ret:=[⟨.int .i64,.ro⟩]
def SR (n:Nat):Cal:=⟨306,QO,VT,fun x=>(AC n).2.2.2.1 x.1 x.2.1,0⟩
def dW:Hn:=(.e .z (.e .z (.e .z (.e (.e .z (.j [.i 3,.i 4,.box 0 true (T4) (.pr (.ro) (.pr (.ro) (.pr (.ro) (.pr (.ro) (.own (M7))))))] [(0,⟨1,[]⟩)] .z (.e .z (.j [.i 3,.i 4,.box 0 true (T4) (.pr (.ro) (.pr (.ro) (.pr (.ro) (.pr (.ro) (.own (M7))))))] [(0,⟨1,[]⟩)] .z .z)))) (.e (.e .z (.j [.i 3,.box 0 true (T4) (.pr (.ro) (.pr (.ro) (.pr (.ro) (.pr (.ro) (.own (M7))))))] [] (.e .z (.o [(5,.m' M7)])) .z)) .z)))))
def Yb (n:Nat):Env:=⟨tab,[SO n,OA,Mm],1,24⟩
theorem lI:(fun(n:Nat) (x:HL (pts QD))=>den (Yb n) (Tryz.f244.body.getD .skip) dW (CI 0 24 QD x) (BS tab [] QD VG [.tmp 2]) (fun _ _=>none) (BS tab [] QD VG [.tmp 2]))=fun n=>(Pr (n+1)).F:=by kernel_rfl
def dg:Hn:=(.e .z (.e .z (.e (.j [.i 3,.box 0 true (T4) (.pr (.ro) (.pr (.ro) (.pr (.ro) (.pr (.ro) (.own (M7))))))] [] (.j [.i 3,.box 0 true (T4) (.pr (.ro) (.pr (.ro) (.pr (.ro) (.pr (.ro) (.own (M7))))))] [(0,⟨1,[]⟩)] (.e .z (.e (.e .z (.o [(4,.m' M7)])) .z)) .z) .z) .z)))
def Yj (n:Nat):Env:=⟨tab,[Ps n,OA,Mm],1,18⟩
theorem lP:(fun(n:Nat) (x:HL (pts QK))=>den (Yj n) (Tryz.f283.body.getD .skip) dg (CI 0 18 QK x) (BS tab [] QK VO [.tmp 2]) (fun _ _=>none) (BS tab [] QK VO [.tmp 2]))=fun n=>(SO (n+1)).F:=by kernel_rfl
def dl:Hn:=(.e .z (.e (.e (.n ⟨[],[],(some ⟨[.l 28,.box 0 true (T4) (.pr (.ro) (.pr (.ro) (.pr (.ro) (.pr (.ro) (.own (M7))))))],[(0,⟨1,[]⟩)],[]⟩),false,(tr 0 6 23 [])⟩ .z .z) .z) (.e .z (.e .z (.e (.e (.e (.o (tr 0 52 12 [(12,.t 51)])) (.j [.i 3,.box 0 true (T4) (.pr (.ro) (.pr (.ro) (.pr (.ro) (.pr (.ro) (.own (M7))))))] [(0,⟨1,[]⟩)] (.e .z (.o (tr 0 72 13 [(13,⟨[],M7,[85],[],none⟩),(14,⟨[],.ro,[0,32,33,34,35,38,39,52,53,54,56,57,58,64,65,66,67,70,71,72,73,74,75,77,78,79,85,86],[0],none⟩),(15,.t 3)]))) (.e .z (.j [.i 3,.box 0 true (T4) (.pr (.ro) (.pr (.ro) (.pr (.ro) (.pr (.ro) (.own (M7))))))] [(0,⟨1,[]⟩)] (.o [(3,.m' M7)]) (.e .z (.j [.i 3,.box 0 true (T4) (.pr (.ro) (.pr (.ro) (.pr (.ro) (.pr (.ro) (.own (M7))))))] [(0,⟨1,[]⟩)] .z (.e .z (.j [.i 3,.box 0 true (T4) (.pr (.ro) (.pr (.ro) (.pr (.ro) (.pr (.ro) (.own (M7))))))] [(0,⟨1,[]⟩)] .z (.e .z (.j [.i 3,.box 0 true (T4) (.pr (.ro) (.pr (.ro) (.pr (.ro) (.pr (.ro) (.own (M7))))))] [(0,⟨1,[]⟩)] (.o [(3,.m' M7)]) (.e .z (.j [.i 3,.box 0 true (T4) (.pr (.ro) (.pr (.ro) (.pr (.ro) (.pr (.ro) (.own (M7))))))] [(0,⟨1,[]⟩)] (.o [(1,.m' M7)]) (.e .z (.j [.i 3,.box 0 true (T4) (.pr (.ro) (.pr (.ro) (.pr (.ro) (.pr (.ro) (.own (M7))))))] [(0,⟨1,[]⟩)] (.e .z (.o [(3,.m' M7)])) (.e .z (.e .z (.j [.i 3,.box 0 true (T4) (.pr (.ro) (.pr (.ro) (.pr (.ro) (.pr (.ro) (.own (M7))))))] [(0,⟨1,[]⟩)] .z (.o [(2,.m' M7)])))))))))))))))))) .z) .z)))))
def Ym (n:Nat):Env:=⟨tab,[Mm,OA,Ur,YQ,Pr n,Pq,Ps n,SR n],1,140⟩
theorem lS:(fun(n:Nat) (x:HL (pts QN))=>den (Ym n) (Tryz.f301.body.getD .skip) dl (CI 0 140 QN x) (BS tab [] QN VR [.tmp 2]) (fun _ _=>none) (BS tab [] QN VR [.tmp 2]))=fun n=>(Ps (n+1)).F:=by kernel_rfl
def dn:Hn:=(.e .z (.e (.k [.g 5]) (.e (.e .z (.j [.snp 1 (.str) [],.d 5,.box 0 true (T4) (.pr (.ro) (.pr (.ro) (.pr (.ro) (.pr (.ro) (.own (M7))))))] [(0,⟨1,[]⟩)] (.j [.snp 1 (.str) [],.d 5,.box 0 true (T4) (.pr (.ro) (.pr (.ro) (.pr (.ro) (.pr (.ro) (.own (M7))))))] [(0,⟨1,[]⟩)] (.j [.snp 1 (.str) [],.d 5,.box 0 true (T4) (.pr (.ro) (.pr (.ro) (.pr (.ro) (.pr (.ro) (.own (M7))))))] [(0,⟨1,[]⟩)] (.e .z (.e (.e (.n ⟨[],[.g 5],none,false,[(4,.g [.g 15] .ro)]⟩ .z .z) .z) .z)) .z) .z) .z)) (.e (.o [(3,.g [.g 26] M7)]) .z))))
def Yn (n:Nat):Env:=⟨tab,[OA,Pr n,Pq,Mm],2,29⟩
theorem lT:(fun(n:Nat) (x:HL (pts QO))=>den (Yn n) (Tryz.f306.body.getD .skip) dn (CI 0 29 QO x) (BS tab [] QO VT [.tmp 4]) (fun _ _=>none) (BS tab [] QO VT [.tmp 4]))=fun n=>(SR (n+1)).F:=by kernel_rfl
theorem Rp:∀ n,Cok Tryz.prog (Pr n)∧Cok Tryz.prog (SO n)∧Cok Tryz.prog (Ps n)∧Cok Tryz.prog (SR n):=by
 intro n;have h238:=QS
 have h243:=Sa
 have h239:=Vd
 have h305:=kw
 have h240:=SZ
 induction n with
 | zero=>exact⟨Bd (fn:=Tryz.f244) (by kernel_rfl) (by kernel_rfl) (by kernel_rfl) (fun _=>rfl),Bd (fn:=Tryz.f283) (by kernel_rfl) (by kernel_rfl) (by kernel_rfl) (fun _=>rfl),Bd (fn:=Tryz.f301) (by kernel_rfl) (by kernel_rfl) (by kernel_rfl) (fun _=>rfl),Bd (fn:=Tryz.f306) (by kernel_rfl) (by kernel_rfl) (by kernel_rfl) (fun _=>rfl)⟩
 | succ n ih=>
  obtain⟨h244,h283,h301,h306⟩:=ih;refine⟨?_,?_,?_,?_⟩
  ·exact BH (E:=Yb n) (c:=Pr (n+1)) (fn:=Tryz.f244) (code:=Tryz.f244.body.getD .skip) (hn:=dW) (gr:=[]) (is:=[.tmp 2]) ⟨CL,(fun c hc=>by simp only [Yb,List.mem_cons,List.not_mem_nil,or_false] at hc;rcases hc with rfl | rfl | rfl<;>assumption),CU⟩ ⟨by kernel_rfl,by kernel_rfl,by kernel_rfl,by kernel_rfl,by kernel_rfl,Nat.le_of_ble_eq_true rfl,by kernel_rfl⟩ (by kernel_rfl) (fun x y h=>(congrFun (congrFun lI n) x).trans h)
  ·exact BH (E:=Yj n) (c:=SO (n+1)) (fn:=Tryz.f283) (code:=Tryz.f283.body.getD .skip) (hn:=dg) (gr:=[]) (is:=[.tmp 2]) ⟨CL,(fun c hc=>by simp only [Yj,List.mem_cons,List.not_mem_nil,or_false] at hc;rcases hc with rfl | rfl | rfl<;>assumption),CU⟩ ⟨by kernel_rfl,by kernel_rfl,by kernel_rfl,by kernel_rfl,by kernel_rfl,Nat.le_of_ble_eq_true rfl,by kernel_rfl⟩ (by kernel_rfl) (fun x y h=>(congrFun (congrFun lP n) x).trans h)
  ·exact BH (E:=Ym n) (c:=Ps (n+1)) (fn:=Tryz.f301) (code:=Tryz.f301.body.getD .skip) (hn:=dl) (gr:=[]) (is:=[.tmp 2]) ⟨CL,(fun c hc=>by simp only [Ym,List.mem_cons,List.not_mem_nil,or_false] at hc;rcases hc with rfl | rfl | rfl | rfl | rfl | rfl | rfl | rfl<;>assumption),CU⟩ ⟨by kernel_rfl,by kernel_rfl,by kernel_rfl,by kernel_rfl,by kernel_rfl,Nat.le_of_ble_eq_true rfl,by kernel_rfl⟩ (by kernel_rfl) (fun x y h=>(congrFun (congrFun lS n) x).trans h)
  ·exact BH (E:=Yn n) (c:=SR (n+1)) (fn:=Tryz.f306) (code:=Tryz.f306.body.getD .skip) (hn:=dn) (gr:=[]) (is:=[.tmp 4]) ⟨CL,(fun c hc=>by simp only [Yn,List.mem_cons,List.not_mem_nil,or_false] at hc;rcases hc with rfl | rfl | rfl | rfl<;>assumption),CU⟩ ⟨by kernel_rfl,by kernel_rfl,by kernel_rfl,by kernel_rfl,by kernel_rfl,Nat.le_of_ble_eq_true rfl,by kernel_rfl⟩ (by kernel_rfl) (fun x y h=>(congrFun (congrFun lT n) x).trans h)
def dE:Cal:=⟨244,QD,VG,fun x=>Bt x.1,0⟩
theorem Yy:Cok Tryz.prog dE:=Bm (F:=fun n=>(Pr n).F) (fun n=>(Rp n).1)
def gy:Cal:=⟨283,QK,VO,fun x=>Oo x.1,0⟩
theorem c283:Cok Tryz.prog gy:=Bm (F:=fun n=>(SO n).F) (fun n=>(Rp n).2.1)
def hO:Cal:=⟨301,QN,VR,fun x=>Nl x.1,0⟩
theorem c301:Cok Tryz.prog hO:=Bm (F:=fun n=>(Ps n).F) (fun n=>(Rp n).2.2.1)
def hY:Cal:=⟨306,QO,VT,fun x=>Nj x.1 x.2.1,0⟩
theorem c306:Cok Tryz.prog hY:=Bm (F:=fun n=>(SR n).F) (fun n=>(Rp n).2.2.2)
def YP:Cal:=⟨299,[⟨.ptr (.pr (.ro) (.pr (.ro) (.pr (.ro) (.pr (.ro) (.own (M7)))))),T4⟩,⟨.ro,.int .i64⟩,⟨.ro,.str⟩],[⟨.int .i64,.ro⟩],fun x=>Bl x.1 x.2.1 x.2.2.1,0⟩
def jm:Hn:=(.e .z (.e .z (.e .z (.e (.o [(5,.m' M7)]) .z))))
theorem kv:CK YP:=ck YP Tryz.f299 jm [] [.tmp 6] (cc Yy (cc SZ (cc Sa cn)))
def QC:List Prm:=[⟨.ptr (.pr (.ro) (.pr (.ro) (.pr (.ro) (.pr (.ro) (.own (M7)))))),T4⟩]
def VF:List Ret:=[⟨.list 3 (.int .i64),.own (.ro)⟩]
def SH (n:Nat):Cal:=⟨242,QC,VF,fun x=>(AL n).1 x.1,0⟩
def QJ:List Prm:=[⟨.ptr (.pr (.ro) (.pr (.ro) (.pr (.ro) (.pr (.ro) (.own (M7)))))),T4⟩]
def VN:List Ret:=[⟨.int .i64,.ro⟩]
def SN (n:Nat):Cal:=⟨282,QJ,VN,fun x=>(AL n).2.1 x.1,0⟩
def QM:List Prm:=[⟨.ptr (.pr (.ro) (.pr (.ro) (.pr (.ro) (.pr (.ro) (.own (M7)))))),T4⟩]
def VQ:List Ret:=[⟨.int .i64,.ro⟩]
def SQ (n:Nat):Cal:=⟨300,QM,VQ,fun x=>(AL n).2.2.1 x.1,0⟩
def dV:Hn:=(.e .z (.e (.k [.g 3]) (.e (.j [.d 3,.box 0 true (T4) (.pr (.ro) (.pr (.ro) (.pr (.ro) (.pr (.ro) (.own (M7))))))] [] (.j [.d 3,.box 0 true (T4) (.pr (.ro) (.pr (.ro) (.pr (.ro) (.pr (.ro) (.own (M7))))))] [(0,⟨1,[]⟩)] (.e (.e (.j [.d 3,.l 20,.box 0 true (T4) (.pr (.ro) (.pr (.ro) (.pr (.ro) (.pr (.ro) (.own (M7))))))] [(0,⟨1,[]⟩)] .z .z) .z) (.e (.e .z (.n ⟨[],[.g 3],none,false,[(3,.g [.g 23] .ro)]⟩ .z .z)) .z)) .z) .z) (.e (.k [.g 2]) .z))))
def Ya (n:Nat):Env:=⟨tab,[YO,SN n],1,28⟩
theorem lH:(fun(n:Nat) (x:HL (pts QC))=>den (Ya n) (Tryz.f242.body.getD .skip) dV (CI 0 28 QC x) (BS tab [] QC VF [.tmp 2]) (fun _ _=>none) (BS tab [] QC VF [.tmp 2]))=fun n=>(SH (n+1)).F:=by kernel_rfl
def df:Hn:=(.e .z (.e (.e (.e .z (.e .z (.e .z (.e .z (.e .z (.e (.e .z (.e .z (.e (.e .z (.j [.i 5,.i 6,.box 0 true (T4) (.pr (.ro) (.pr (.ro) (.pr (.ro) (.pr (.ro) (.own (M7))))))] [(0,⟨1,[]⟩)] .z .z)) (.e .z (.e (.o [(5,.m' M7)]) .z))))) (.e .z (.e (.e .z (.e .z (.e (.o [(4,.m' M7)]) .z))) .z)))))))) .z) .z))
def Yi (n:Nat):Env:=⟨tab,[OA,Ur,Pq,YP,dE,SQ n,Mm],1,83⟩
theorem lO:(fun(n:Nat) (x:HL (pts QJ))=>den (Yi n) (Tryz.f282.body.getD .skip) df (CI 0 83 QJ x) (BS tab [] QJ VN [.tmp 2]) (fun _ _=>none) (BS tab [] QJ VN [.tmp 2]))=fun n=>(SN (n+1)).F:=by kernel_rfl
def dj:Hn:=(.e .z (.e .z (.e (.e .z (.j [.box 0 true (T4) (.pr (.ro) (.pr (.ro) (.pr (.ro) (.pr (.ro) (.own (M7))))))] [(0,⟨1,[]⟩)] .z .z)) (.e .z (.e (.k [.g 3]) (.e .z (.e .z (.e (.o [(2,.g [.g 35] M7)]) .z))))))))
def Yl (n:Nat):Env:=⟨tab,[Pq,SH n,Mm],1,38⟩
theorem lR:(fun(n:Nat) (x:HL (pts QM))=>den (Yl n) (Tryz.f300.body.getD .skip) dj (CI 0 38 QM x) (BS tab [] QM VQ [.tmp 2]) (fun _ _=>none) (BS tab [] QM VQ [.tmp 2]))=fun n=>(SQ (n+1)).F:=by kernel_rfl
theorem Vg:∀ n,Cok Tryz.prog (SH n)∧Cok Tryz.prog (SN n)∧Cok Tryz.prog (SQ n):=by
 intro n;have h281:=ei
 have h238:=QS
 have h239:=Vd
 have h240:=SZ
 have h299:=kv
 have h244:=Yy
 have h243:=Sa
 induction n with
 | zero=>exact⟨Bd (fn:=Tryz.f242) (by kernel_rfl) (by kernel_rfl) (by kernel_rfl) (fun _=>rfl),Bd (fn:=Tryz.f282) (by kernel_rfl) (by kernel_rfl) (by kernel_rfl) (fun _=>rfl),Bd (fn:=Tryz.f300) (by kernel_rfl) (by kernel_rfl) (by kernel_rfl) (fun _=>rfl)⟩
 | succ n ih=>
  obtain⟨h242,h282,h300⟩:=ih;refine⟨?_,?_,?_⟩
  ·exact BH (E:=Ya n) (c:=SH (n+1)) (fn:=Tryz.f242) (code:=Tryz.f242.body.getD .skip) (hn:=dV) (gr:=[]) (is:=[.tmp 2]) ⟨CL,(fun c hc=>by simp only [Ya,List.mem_cons,List.not_mem_nil,or_false] at hc;rcases hc with rfl | rfl<;>assumption),CU⟩ ⟨by kernel_rfl,by kernel_rfl,by kernel_rfl,by kernel_rfl,by kernel_rfl,Nat.le_of_ble_eq_true rfl,by kernel_rfl⟩ (by kernel_rfl) (fun x y h=>(congrFun (congrFun lH n) x).trans h)
  ·exact BH (E:=Yi n) (c:=SN (n+1)) (fn:=Tryz.f282) (code:=Tryz.f282.body.getD .skip) (hn:=df) (gr:=[]) (is:=[.tmp 2]) ⟨CL,(fun c hc=>by simp only [Yi,List.mem_cons,List.not_mem_nil,or_false] at hc;rcases hc with rfl | rfl | rfl | rfl | rfl | rfl | rfl<;>assumption),CU⟩ ⟨by kernel_rfl,by kernel_rfl,by kernel_rfl,by kernel_rfl,by kernel_rfl,Nat.le_of_ble_eq_true rfl,by kernel_rfl⟩ (by kernel_rfl) (fun x y h=>(congrFun (congrFun lO n) x).trans h)
  ·exact BH (E:=Yl n) (c:=SQ (n+1)) (fn:=Tryz.f300) (code:=Tryz.f300.body.getD .skip) (hn:=dj) (gr:=[]) (is:=[.tmp 2]) ⟨CL,(fun c hc=>by simp only [Yl,List.mem_cons,List.not_mem_nil,or_false] at hc;rcases hc with rfl | rfl | rfl<;>assumption),CU⟩ ⟨by kernel_rfl,by kernel_rfl,by kernel_rfl,by kernel_rfl,by kernel_rfl,Nat.le_of_ble_eq_true rfl,by kernel_rfl⟩ (by kernel_rfl) (fun x y h=>(congrFun (congrFun lR n) x).trans h)
def gn:Cal:=⟨242,QC,VF,fun x=>Ea x.1,0⟩
theorem kj:Cok Tryz.prog gn:=Bm (F:=fun n=>(SH n).F) (fun n=>(Vg n).1)
def gx:Cal:=⟨282,QJ,VN,fun x=>Nk x.1,0⟩
theorem c282:Cok Tryz.prog gx:=Bm (F:=fun n=>(SN n).F) (fun n=>(Vg n).2.1)
def hH:Cal:=⟨300,QM,VQ,fun x=>NK x.1,0⟩
theorem c300:Cok Tryz.prog hH:=Bm (F:=fun n=>(SQ n).F) (fun n=>(Vg n).2.2)
def cq:Cal:=⟨208,[⟨.ptr (.pr (.ro) (.pr (.ro) (.pr (.ro) (.pr (.ro) (.own (M7)))))),T4⟩],[⟨T6,M6⟩],fun x=>GJ x.1,0⟩
def jJ:Hn:=(.e (.o [(0,.m' M6)]) (.e (.e .z (.j [.box 0 true (T4) (.pr (.ro) (.pr (.ro) (.pr (.ro) (.pr (.ro) (.own (M7)))))),.box 2 true (T6) (M6)] [(0,⟨1,[]⟩),(2,⟨5,[]⟩)] .z .z)) (.e (.o [(2,.m' M6),(3,.m' M6),(4,.m' M6)]) (.e .z (.e (.e .z (.j [.box 0 true (T4) (.pr (.ro) (.pr (.ro) (.pr (.ro) (.pr (.ro) (.own (M7)))))),.box 2 true (T6) (M6),.box 3 true (T6) (M6)] [(0,⟨1,[]⟩),(2,⟨5,[]⟩),(3,⟨7,[]⟩)] (.j [.box 0 true (T4) (.pr (.ro) (.pr (.ro) (.pr (.ro) (.pr (.ro) (.own (M7)))))),.box 2 true (T6) (M6),.box 3 true (T6) (M6)] [(0,⟨1,[]⟩),(2,⟨5,[]⟩),(3,⟨7,[]⟩)] (.j [.box 0 true (T4) (.pr (.ro) (.pr (.ro) (.pr (.ro) (.pr (.ro) (.own (M7)))))),.box 2 true (T6) (M6),.box 3 true (T6) (M6)] [(0,⟨1,[]⟩),(2,⟨5,[]⟩),(3,⟨7,[]⟩)] (.e .z (.e (.e .z (.e .z (.e .z (.e (.o [(4,.g [.g 34] .ro),(6,.m' (.own (.ro)))]) .z)))) .z)) .z) .z) .z)) (.e (.e .z (.j [.box 0 true (T4) (.pr (.ro) (.pr (.ro) (.pr (.ro) (.pr (.ro) (.own (M7)))))),.box 2 true (T6) (M6),.box 3 true (T6) (M6)] [(0,⟨1,[]⟩),(2,⟨5,[]⟩),(3,⟨7,[]⟩)] .z .z)) (.e .z (.e (.k [.g 5]) (.e (.o [(2,.g [.g 53] M7)]) (.e (.e .z (.j [.box 0 true (T4) (.pr (.ro) (.pr (.ro) (.pr (.ro) (.pr (.ro) (.own (M7)))))),.box 2 true (T6) (M6),.box 3 true (T6) (M6)] [(0,⟨1,[]⟩),(2,⟨5,[]⟩),(3,⟨7,[]⟩)] .z .z)) (.e .z (.e (.o [(1,.g [.g 66] M6)]) .z))))))))))))
theorem kY:CK cq:=ck cq Tryz.f208 jJ [] [.cell 2 125] (cc QS (cc Vd (cc SZ (cc ki (cc kj (cc Sa (cc Yy cn)))))))
def cz:Cal:=⟨234,[⟨.ro,.int .i64⟩],[⟨.int .i64,.ro⟩,⟨.int .i64,.ro⟩],fun x=>IY x.1,0⟩
def jQ:Hn:=(.e .z (.e (.e .z (.e (.e (.e .z (.j [.i 4,.l 5] [] .z (.e .z (.j [.i 4,.l 5] [] .z (.e .z (.j [.i 4,.l 5] [] .z (.e .z (.j [.i 4,.l 5] [] .z (.e .z (.j [.i 4,.l 5] [] .z .z)))))))))) (.e .z (.e (.e .z (.j [.i 4,.l 12] [] .z (.e .z (.j [.i 4,.l 12] [] .z (.e .z (.j [.i 4,.l 12] [] .z .z)))))) .z))) .z)) .z))
theorem ke:CK cz:=ck cz Tryz.f234 jQ [] [.tmp 2,.tmp 3] cn
def dA:Cal:=⟨235,[⟨.ro,.int .i64⟩],[⟨.bool,.ro⟩],fun x=>HR x.1,0⟩
def jR:Hn:=(.e .z (.e (.e .z (.e (.e (.e .z (.j [.l 4] [] .z (.e .z (.j [.l 4] [] .z (.e .z (.j [.l 4] [] .z (.e .z (.j [.l 4] [] .z (.e .z (.j [.l 4] [] .z (.e .z (.j [.l 4] [] .z (.e .z (.j [.l 4] [] .z (.e .z (.j [.l 4] [] .z .z)))))))))))))))) .z) .z)) .z))
theorem kf:CK dA:=ck dA Tryz.f235 jR [] [.tmp 2] cn
def dG:Cal:=⟨279,[⟨.ro,.int .i64⟩],[⟨.bool,.ro⟩],fun x=>Gy x.1,0⟩
def jh:Hn:=.z
theorem kq:CK dG:=ck dG Tryz.f279 jh [] [.tmp 2] (cc c82 cn)
def cw:Cal:=⟨230,[⟨.ro,.int .i64⟩],[⟨.bool,.ro⟩],fun x=>Fq x.1,0⟩
def jP:Hn:=.z
theorem eb:CK cw:=ck cw Tryz.f230 jP [] [.tmp 2] (cc c82 cn)
def dB:Cal:=⟨236,[⟨.ro,.int .i64⟩,⟨.ro,.int .i64⟩,⟨.ro,.int .i64⟩],[⟨.bool,.ro⟩],fun x=>IX x.1 x.2.1 x.2.2.1,0⟩
def jS:Hn:=(.e .z (.e (.e .z (.e (.e .z (.e .z (.e (.e .z (.j [.i 1,.i 2,.i 7,.l 12] [] .z .z)) (.n ⟨[],[],(some ⟨[.i 2],[],[]⟩),true,[]⟩ .z .z)))) .z)) .z))
theorem kg:CK dB:=ck dB Tryz.f236 jS [] [.tmp 6] (cc kq (cc eb cn))
def cm:Cal:=⟨204,[⟨.ro,.list 114 (T7)⟩,⟨.ro,.int .i64⟩],[⟨.bool,.ro⟩],fun x=>JA x.1 x.2.1,0⟩
def jH:Hn:=(.e .z (.e (.e (.j [.snp 0 (.list 114 (T7)) [],.i 1,.l 24] [] .z .z) .z) (.e (.o [(4,.m' M7),(5,.m' M7)]) (.e .z (.e (.e (.j [.snp 0 (.list 114 (T7)) [],.i 1,.l 57,.box 5 true (T7) (.ro)] [(5,⟨11,[]⟩)] .z .z) .z) (.e (.e (.n ⟨[],[],(some ⟨[.snp 0 (.list 114 (T7)) [],.i 1,.l 75,.box 5 true (T7) (.ro)],[(5,⟨11,[]⟩)],[]⟩),false,(tr 0 58 18 [])⟩ .z .z) .z) (.e (.e .z (.n ⟨[],[],(some ⟨[],[],[]⟩),true,[]⟩ (.j [.snp 0 (.list 114 (T7)) [],.i 1,.i 8,.box 5 true (T7) (.ro)] [(5,⟨11,[]⟩)] (.e .z (.e (.n ⟨[],[],(some ⟨[.snp 0 (.list 114 (T7)) [],.i 1,.i 8,.box 5 true (T7) (.ro)],[(5,⟨11,[]⟩)],[]⟩),true,[]⟩ (.e (.e (.n ⟨[],[],(some ⟨[.snp 0 (.list 114 (T7)) [],.i 1,.i 8,.l 107,.box 5 true (T7) (.ro)],[(5,⟨11,[]⟩)],[]⟩),false,(tr 0 83 25 [])⟩ .z .z) .z) (.e .z (.n ⟨[],[],(some ⟨[.snp 0 (.list 114 (T7)) [],.i 1,.i 8,.box 5 true (T7) (.ro)],[(5,⟨11,[]⟩)],[]⟩),true,[]⟩ (.j [.snp 0 (.list 114 (T7)) [],.i 1,.i 8,.i 9,.box 5 true (T7) (.ro)] [(5,⟨11,[]⟩)] (.e .z (.e (.e (.e (.o (tr 0 113 11 [])) .z) .z) .z)) .z) .z))) .z) .z)) .z) .z)) .z)))))))
theorem kW:CK cm:=ck cm Tryz.f204 jH [] [.tmp 4] (cc c82 (cc ke (cc kf (cc c81 (cc kg cn)))))
def cS:Cal:=⟨171,[⟨.ro,.list 114 (T7)⟩,⟨.ro,.int .i64⟩],[⟨.list 3 (.int .i64),.own (.ro)⟩],fun x=>Fp x.1 x.2.1,0⟩
def ip:Hn:=(.e .z (.e (.k [.g 5]) (.e (.e .z (.j [.d 5] [] (.j [.snp 0 (.list 114 (T7)) [],.i 1,.d 5,.i 6] [] (.e (.e (.j [.snp 0 (.list 114 (T7)) [],.i 1,.d 5,.i 6,.l 18] [] .z .z) .z) (.e (.j [.snp 0 (.list 114 (T7)) [],.i 1,.d 5,.i 6] [] (.e .z (.e (.e (.j [.snp 0 (.list 114 (T7)) [],.i 1,.d 5,.i 6,.i 7,.l 36] [] .z .z) (.j [.snp 0 (.list 114 (T7)) [],.i 1,.d 5,.i 6,.i 7] [] .z .z)) (.e (.e .z (.j [.snp 0 (.list 114 (T7)) [],.i 1,.d 5,.i 6,.i 7] [] (.j [.snp 0 (.list 114 (T7)) [],.i 1,.d 5,.i 6,.i 7,.i 8] [] (.e (.e (.j [.snp 0 (.list 114 (T7)) [],.i 1,.d 5,.i 6,.i 7,.i 8,.l 48] [] .z .z) .z) (.e (.e (.e .z (.j [.snp 0 (.list 114 (T7)) [],.i 1,.d 5,.i 6,.i 7,.i 8] [] .z .z)) .z) .z)) .z) .z)) (.e (.e .z (.j [.snp 0 (.list 114 (T7)) [],.i 1,.d 5,.i 6,.i 7] [] .z .z)) (.n ⟨[],[.g 5],none,false,[(3,.g [.g 79] .ro)]⟩ .z .z))))) .z) .z)) .z) .z)) (.e (.k [.g 4]) .z))))
theorem eU:CK cS:=ck cS Tryz.f171 ip [] [.tmp 4] (cc kW cn)
def cg:Cal:=⟨198,[⟨.ro,.list 114 (T7)⟩],[⟨.list 3 (.int .i64),.own (.ro)⟩],fun x=>IZ x.1,0⟩
def jD:Hn:=(.e .z (.e (.k [.g 3]) (.e (.e .z (.j [.d 3] [] (.j [.snp 0 (.list 114 (T7)) [],.d 3,.i 4] [] (.e .z (.e (.j [.snp 0 (.list 114 (T7)) [],.d 3,.i 4] [] (.e .z (.j [.snp 0 (.list 114 (T7)) [],.d 3,.i 4] [] (.j [.snp 0 (.list 114 (T7)) [],.d 3,.i 4,.i 5] [] (.e .z (.e (.e (.o [(13,⟨[],.ro,[],[],some 6⟩)]) .z) .z)) .z) .z)) .z) .z)) .z) .z)) (.e (.k [.g 2]) .z))))
theorem kU:CK cg:=ck cg Tryz.f198 jD [] [.tmp 2] cn
def Up:Cal:=⟨202,[⟨.ro,T2⟩,⟨.ro,.str⟩],[⟨.int .i64,.ro⟩],fun x=>GZ x.1 x.2.1,0⟩
def jG:Hn:=(.e (.o [(0,.m' M2)]) (.e (.e .z (.n ⟨[],[],(some ⟨[],[],[]⟩),true,[]⟩ (.j [.snp 1 (.str) [],.i 5,.box 2 true (T2) (.ro)] [(2,⟨5,[]⟩)] .z .z) .z)) .z))
theorem Yx:CK Up:=ck Up Tryz.f202 jG [] [.tmp 4] cn
def ch:Cal:=⟨199,[⟨.ro,T2⟩,⟨.ro,.int .i64⟩],[⟨.bool,.ro⟩],fun x=>KB x.1 x.2.1,0⟩
def jE:Hn:=(.e (.o [(0,.m' M2)]) (.e (.o [(5,.m' M6),(6,.m' M6)]) (.e (.e (.j [.l 35,.box 2 true (T2) (.ro),.box 5 true (T6) (.ro)] [(2,⟨5,[]⟩),(5,⟨11,[]⟩)] .z .z) .z) (.e (.e .z (.n ⟨[],[],(some ⟨[.box 2 true (T2) (.ro),.box 5 true (T6) (.ro)],[(2,⟨5,[]⟩),(5,⟨11,[]⟩)],[]⟩),true,[]⟩ (.j [.i 6,.box 2 true (T2) (.ro),.box 5 true (T6) (.ro)] [(2,⟨5,[]⟩),(5,⟨11,[]⟩)] (.e .z (.e (.e (.e (.j [.i 6,.l 60,.box 2 true (T2) (.ro),.box 5 true (T6) (.ro)] [(2,⟨5,[]⟩),(5,⟨11,[]⟩)] .z .z) .z) .z) .z)) .z) .z)) (.e (.e (.j [.l 78,.box 2 true (T2) (.ro),.box 5 true (T6) (.ro)] [(2,⟨5,[]⟩),(5,⟨11,[]⟩)] .z .z) .z) (.e .z (.e (.j [.l 4] [] .z .z) .z)))))))
theorem kV:CK ch:=ck ch Tryz.f199 jE [] [.tmp 4] (cc c81 (cc Yx (cc c82 (cc eb cn))))
def cQ:Cal:=⟨165,[⟨.ro,T2⟩],[⟨.bool,.ro⟩],fun x=>FF x.1,0⟩
def ik:Hn:=(.e (.o [(0,.m' M2)]) (.e (.e (.j [.l 18,.box 1 true (T2) (.ro)] [(1,⟨3,[]⟩)] .z .z) .z) (.e (.k [.g 3]) (.e .z (.e (.k [.g 4]) (.e (.e .z (.n ⟨[],[],(some ⟨[.d 4],[],[]⟩),true,[]⟩ (.j [.d 4,.i 5,.box 1 true (T2) (.ro)] [(1,⟨3,[]⟩)] (.e .z (.e (.e (.e .z (.e (.o (tr 0 47 18 [(18,⟨[],.ro,[4,47,54,61,64],[],some 8⟩)])) (.e .z (.j [.d 4,.i 5,.box 1 true (T2) (.ro)] [(1,⟨3,[]⟩)] (.o (tr 0 72 18 [(18,⟨[],.ro,[4,72,79,86,89],[],some 8⟩)])) .z)))) .z) .z)) .z) .z)) (.e (.e .z (.n ⟨[],[],(some ⟨[],[],[]⟩),true,[]⟩ (.j [.d 4,.i 6] [] (.e .z (.e (.e (.e (.j [.d 4,.i 6,.l 107] [] .z .z) .z) .z) .z)) .z) .z)) .z)))))))
theorem eS:CK cQ:=ck cQ Tryz.f165 ik [] [.tmp 2] (cc c82 (cc eU (cc kU (cc kV cn))))
def cT:Cal:=⟨175,[⟨.ro,.str⟩],[⟨T2,M2⟩,⟨.bool,.ro⟩],fun x=>Ct x.1,0⟩
def iq:Hn:=(.e (.o [(0,.m' M2)]) (.e (.k [.g 4]) (.e (.e .z (.e (.e (.o [(0,.m' M2),(1,.m' M2)]) .z) .z)) (.e (.o [(1,.g [.g 16] M4),(2,.m' M4)]) (.e (.o [(0,.m' M2),(1,.m' M2),(2,.m' M2)]) (.e (.j [.box 2 true (T2) (M2),.box 7 true (T2) (M2),.box 18 true (T4) (.pr (.ro) (.pr (.ro) (.pr (.ro) (.pr (.ro) (.own (M7))))))] [(2,⟨5,[]⟩),(6,⟨37,[]⟩),(7,⟨15,[]⟩)] (.n ⟨[.w 37 (.pr (.ro) (.pr (.ro) (.pr (.ro) (.pr (.ro) (.own (M7))))))],[],(some ⟨[.box 2 true (T2) (M2),.box 7 true (T2) (M2),.box 18 true (T4) (.pr (.ro) (.pr (.ro) (.pr (.ro) (.pr (.ro) (.own (M7))))))],[(2,⟨5,[]⟩),(6,⟨37,[]⟩),(7,⟨15,[]⟩)],[]⟩),false,[]⟩ (.e (.e (.n ⟨[],[.w 37 (M4)],(some ⟨[.l 42,.box 2 true (T2) (M2),.box 7 true (T2) (M2),.box 18 true (T4) (.pr (.ro) (.pr (.ro) (.pr (.ro) (.pr (.ro) (.own (M7))))))],[(2,⟨5,[]⟩),(6,⟨37,[]⟩),(7,⟨15,[]⟩)],[]⟩),false,(tr 0 20 23 [])⟩ .z .z) (.e .z (.n ⟨[.w 37 (M4)],[],none,false,[]⟩ .z .z))) (.e (.n ⟨[.w 37 (.pr (.ro) (.pr (.ro) (.pr (.ro) (.pr (.ro) (.own (M7))))))],[.w 37 (M4)],none,false,(tr 0 43 3 [(3,⟨[],.ro,[6,45,46],[18],none⟩),(4,⟨[],M6,[46,47],[],none⟩),(5,⟨[.g 44],M6,[7,43,44,47,48],[7],none⟩),(6,.t 49),(7,⟨[],.own (M6),[7,43,48,49],[7],none⟩)])⟩ .z .z) .z)) .z) .z) (.e (.o [(5,.g [.g 53] (.own (M7)))]) (.e (.e (.j [.l 63,.box 2 true (T2) (M2),.box 7 true (T2) (M2)] [(2,⟨5,[]⟩),(7,⟨15,[]⟩)] .z .z) (.e (.e (.o [(0,.m' M2),(1,.m' M2)]) .z) .z)) (.e (.o [(1,.g [.g 65] M2)]) .z)))))))))
theorem kK:CK cT:=ck cT Tryz.f175 iq [] [.cell 2 69,.tmp 3] (cc kX (cc kY (cc eS cn)))
def cC:Cal:=⟨134,[⟨.ptr (.ro),T10⟩],[⟨T2,M2⟩],fun x=>GI x.1,0⟩
def iQ:Hn:=(.e (.o [(0,.m' M2)]) (.e (.o [(6,.m' M2),(7,.m' M2)]) (.e (.e .z (.j [.box 0 true (T10) (.ro),.box 2 true (T2) (M2),.box 3 true (T2) (M2)] [(2,⟨5,[]⟩),(3,⟨7,[]⟩)] (.e (.o [(4,.m' M2)]) (.e .z (.j [.box 0 true (T10) (.ro),.box 2 true (T2) (M2),.box 3 true (T2) (M2)] [(2,⟨5,[]⟩),(3,⟨7,[]⟩)] (.o [(4,.m' M2)]) .z))) .z)) (.e (.o [(1,.g [.g 25] M2)]) .z))))
theorem jy:CK cC:=ck cC Tryz.f134 iQ [] [.cell 2 69] (cc kL (cc kK cn))
def cA:Cal:=⟨128,[⟨.ro,.list 114 (T7)⟩,⟨.ro,.int .i64⟩],[⟨.int .i64,.ro⟩],fun x=>Iz x.1 x.2.1,0⟩
def iM:Hn:=.z
theorem jw:CK cA:=ck cA Tryz.f128 iM [] [.tmp 4] (cc c82 (cc eU cn))
def Pv:List Prm:=[⟨.ro,.list 114 (T7)⟩,⟨.ro,.int .i64⟩,⟨.inp (.own (.ro)),.list 4 (.bool)⟩]
def Uy:List Ret:=[]
def SB (n:Nat):Cal:=⟨169,Pv,Uy,fun x=>(Dl n).1 x.1 x.2.1 x.2.2.1,0⟩
def dM:Hn:=(.e .z (.e (.o [(3,⟨[],.ro,[],[],some 5⟩)]) (.e .z (.j [.box 2 false (.list 4 (.bool)) (.own (.ro))] [] (.n ⟨[],[],(some ⟨[.snp 0 (.list 114 (T7)) [],.i 1,.i 6,.box 2 false (.list 4 (.bool)) (.own (.ro))],[],[(2,2)]⟩),false,[]⟩ .z .z) .z))))
def YT (n:Nat):Env:=⟨tab,[SB n],3,35⟩
theorem lA:(fun(n:Nat) (x:HL (pts Pv))=>den (YT n) (Tryz.f169.body.getD .skip) dM (CI 0 35 Pv x) (BS tab [] Pv Uy []) (fun _ _=>none) (BS tab [] Pv Uy []))=fun n=>(SB (n+1)).F:=by kernel_rfl
theorem gA:∀ n,Cok Tryz.prog (SB n):=by
 intro n
 induction n with
 | zero=>exact Bd (fn:=Tryz.f169) (by kernel_rfl) (by kernel_rfl) (by kernel_rfl) (fun _=>rfl)
 | succ n ih=>
  have h169:=ih
  refine ?_
  ·exact BH (E:=YT n) (c:=SB (n+1)) (fn:=Tryz.f169) (code:=Tryz.f169.body.getD .skip) (hn:=dM) (gr:=[]) (is:=[]) ⟨CL,(fun c hc=>by simp only [YT,List.mem_cons,List.not_mem_nil,or_false] at hc;rcases hc with rfl<;>assumption),CU⟩ ⟨by kernel_rfl,by kernel_rfl,by kernel_rfl,by kernel_rfl,by kernel_rfl,Nat.le_of_ble_eq_true rfl,by kernel_rfl⟩ (by kernel_rfl) (fun x y h=>(congrFun (congrFun lA n) x).trans h)
def gf:Cal:=⟨169,Pv,Uy,fun x=>Kf x.1 x.2.1 x.2.2.1,0⟩
theorem kJ:Cok Tryz.prog gf:=Bm (F:=fun n=>(SB n).F) (fun n=>(gA n))
def bz:Cal:=⟨124,[⟨.ro,T2⟩,⟨.ro,.int .i64⟩],[⟨.list 3 (.int .i64),.own (.ro)⟩],fun x=>KA x.1 x.2.1,0⟩
def iL:Hn:=(.e (.o [(0,.m' M2)]) (.e (.k [.g 5]) (.e (.e .z (.e (.e (.k [.g 4]) .z) .z)) (.e (.k [.g 6]) (.e .z (.e (.e .z (.j [.d 5] [] (.j [.d 5,.dat 6 (.list 4 (.bool)) (.own (.ro)),.i 7] [] (.e .z (.e (.e (.e .z (.j [.d 5,.dat 6 (.list 4 (.bool)) (.own (.ro)),.i 7] [] (.n ⟨[],[.g 5],none,false,[(3,.g [.g 34] .ro)]⟩ .z .z) .z)) .z) .z)) .z) .z)) (.e (.k [.g 4]) .z)))))))
theorem jv:CK bz:=ck bz Tryz.f124 iL [] [.tmp 4] (cc jw (cc kJ cn))
def bv:Cal:=⟨118,[⟨.ro,T2⟩,⟨.ro,.int .i64⟩],[⟨.list 119 (T12),.own (.ro)⟩],fun x=>HI x.1 x.2.1,0⟩
def iJ:Hn:=(.e (.o [(0,.m' M2)]) (.e (.k [.g 5]) (.e (.e .z (.e (.e (.k [.g 4]) .z) .z)) (.e (.o [(5,.m' M6),(6,.m' M6)]) (.e (.e .z (.j [.dat 5 (.list 119 (T12)) (.own (.ro)),.box 2 true (T2) (.ro),.box 6 true (T6) (.ro)] [(2,⟨5,[]⟩),(6,⟨13,[]⟩)] (.j [.dat 5 (.list 119 (T12)) (.own (.ro)),.i 7,.box 2 true (T2) (.ro),.box 6 true (T6) (.ro)] [(2,⟨5,[]⟩),(6,⟨13,[]⟩)] (.e .z (.e (.e (.n ⟨[],[.g 5],none,false,(tr 0 31 15 [(15,⟨[.g 31],.ro,[5,31,46],[],none⟩),(16,.t 5)])⟩ .z .z) .z) .z)) .z) .z)) (.e (.k [.g 8]) (.e (.e .z (.j [.dat 5 (.list 119 (T12)) (.own (.ro))] [] (.j [.dat 5 (.list 119 (T12)) (.own (.ro)),.d 8,.i 9,.box 2 true (T2) (.ro)] [(2,⟨5,[]⟩)] (.e .z (.e (.e (.e (.o (tr 0 57 10 [])) (.j [.dat 5 (.list 119 (T12)) (.own (.ro)),.d 8,.i 9,.box 2 true (T2) (.ro)] [(2,⟨5,[]⟩)] (.n ⟨[],[.g 5],none,false,(tr 0 67 16 [(16,⟨[.g 67],.ro,[5,67,83],[],none⟩),(17,.t 5)])⟩ .z .z) .z)) .z) .z)) .z) .z)) (.e (.k [.g 4]) .z))))))))
theorem eL:CK bv:=ck bv Tryz.f118 iJ [] [.tmp 4] (cc c82 (cc jv cn))
def Un:Cal:=⟨166,[⟨.ro,.list 119 (T12)⟩,⟨.ro,.str⟩],[⟨.int .i64,.ro⟩],fun x=>Ca x.1 x.2.1,0⟩
def im:Hn:=(.e .z (.e (.e .z (.n ⟨[],[],(some ⟨[],[],[]⟩),true,[]⟩ (.j [.snp 0 (.list 119 (T12)) [],.snp 1 (.str) [],.i 5] [] .z .z) .z)) .z))
theorem SY:CK Un:=ck Un Tryz.f166 im [] [.tmp 4] cn
def Uo:Cal:=⟨201,[⟨.ro,.list 9 (.str)⟩,⟨.ro,.str⟩],[⟨.bool,.ro⟩],fun x=>Fw x.1 x.2.1,0⟩
def jF:Hn:=(.e .z (.e (.e .z (.n ⟨[],[],(some ⟨[],[],[]⟩),true,[]⟩ (.j [.snp 0 (.list 9 (.str)) [],.snp 1 (.str) [],.i 5] [] .z .z) .z)) .z))
theorem eV:CK Uo:=ck Uo Tryz.f201 jF [] [.tmp 4] cn
end
end Go.Proofs.YtmakhmoielhjeaaGreatDoorE

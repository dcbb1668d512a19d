/- The functions of X reckon so (4). No condition. -/
import Derived.Test.YtmakhmoielhjeaaGreatDoorLawGX3
set_option linter.all false
namespace Go.Proofs.YtmakhmoielhjeaaGreatDoorE
noncomputable section
set_option maxRecDepth 100000
def C63:Cal:=⟨63,[⟨.ro,T2⟩,⟨.ro,.int .i64⟩],[⟨.list 9 (.str),.own (.ro)⟩],fun x=>FU x.1 x.2.1,0⟩
def H63:Hn:=(.e (.o [(0,.m' M2)]) (.e (.k [.g 5]) (.e (.k [.g 6]) (.e (.e .z (.j [.dat 5 (.list 9 (.str)) (.own (.ro))] [] (.j [.i 1,.dat 5 (.list 9 (.str)) (.own (.ro)),.dat 6 (.list 119 (T12)) (.own (.ro)),.i 7,.box 2 true (T2) (.ro)] [(2,⟨5,[]⟩)] (.e .z (.e (.j [.i 1,.dat 5 (.list 9 (.str)) (.own (.ro)),.dat 6 (.list 119 (T12)) (.own (.ro)),.i 7,.box 2 true (T2) (.ro)] [(2,⟨5,[]⟩)] (.e .z (.e (.n ⟨[],[.g 9],none,false,(tr 0 21 8 [(8,.t 9)])⟩ .z .z) (.e (.e .z (.j [.i 1,.dat 5 (.list 9 (.str)) (.own (.ro)),.dat 6 (.list 119 (T12)) (.own (.ro)),.i 7,.l 8,.box 2 true (T2) (.ro)] [(2,⟨5,[]⟩)] (.j [.i 1,.dat 5 (.list 9 (.str)) (.own (.ro)),.dat 6 (.list 119 (T12)) (.own (.ro)),.i 7,.l 8,.d 9,.i 10,.box 2 true (T2) (.ro)] [(2,⟨5,[]⟩)] (.e .z (.e (.e (.n ⟨[],[],(some ⟨[.i 1,.dat 5 (.list 9 (.str)) (.own (.ro)),.dat 6 (.list 119 (T12)) (.own (.ro)),.i 7,.l 8,.d 9,.i 10,.box 2 true (T2) (.ro)],[(2,⟨5,[]⟩)],[]⟩),false,(tr 0 35 13 [(13,.t 8)])⟩ .z .z) .z) .z)) .z) .z)) (.e .z (.j [.i 1,.dat 5 (.list 9 (.str)) (.own (.ro)),.dat 6 (.list 119 (T12)) (.own (.ro)),.i 7,.box 2 true (T2) (.ro)] [(2,⟨5,[]⟩)] (.n ⟨[],[.g 5],none,false,[(7,.g [.g 50] .ro)]⟩ .z .z) .z))))) .z) .z)) .z) .z)) (.e (.k [.g 4]) .z)))))
theorem c63:CK C63:=ck C63 Tryz.f63 H63 [] [.tmp 4] (cc ir (cc nQ cn))
def C61:Cal:=⟨61,[⟨.ro,.list 9 (.str)⟩,⟨.ro,.list 9 (.str)⟩],[⟨.bool,.ro⟩],fun x=>IE x.1 x.2.1,0⟩
def H61:Hn:=(.e .z (.e .z (.e (.e .z (.n ⟨[],[],(some ⟨[],[],[]⟩),true,[]⟩ (.j [.snp 0 (.list 9 (.str)) [],.snp 1 (.list 9 (.str)) [],.i 5] [] (.e .z (.e (.e (.e (.o (tr 0 17 9 [])) .z) .z) .z)) .z) .z)) .z)))
theorem c61:CK C61:=ck C61 Tryz.f61 H61 [] [.tmp 4] cn
def gU:Cal:=⟨193,[⟨.ro,T2⟩,⟨.ro,T6⟩],[⟨.bool,.ro⟩],fun x=>NT x.1 x.2.1,0⟩
def mM:Hn:=(.e (.o [(0,.m' M2),(1,.m' M6)]) (.e (.e (.j [.l 31,.box 2 true (T2) (.ro),.box 3 true (T6) (.ro)] [(2,⟨5,[]⟩),(3,⟨7,[]⟩)] .z .z) .z) (.e (.e .z (.n ⟨[],[],(some ⟨[.box 2 true (T2) (.ro),.box 3 true (T6) (.ro)],[(2,⟨5,[]⟩),(3,⟨7,[]⟩)],[]⟩),true,[]⟩ (.j [.snp 33 (.list 156 (T17)) [],.i 34,.i 35,.box 2 true (T2) (.ro),.box 3 true (T6) (.ro)] [(2,⟨5,[]⟩),(3,⟨7,[]⟩)] (.e .z (.e .z (.e (.e (.e .z (.e (.j [.snp 33 (.list 156 (T17)) [],.i 34,.i 35,.l 48,.box 2 true (T2) (.ro),.box 3 true (T6) (.ro)] [(2,⟨5,[]⟩),(3,⟨7,[]⟩)] .z .z) .z)) .z) .z))) .z) .z)) (.e (.e (.j [.l 67,.box 2 true (T2) (.ro),.box 3 true (T6) (.ro)] [(2,⟨5,[]⟩),(3,⟨7,[]⟩)] .z .z) .z) (.e .z (.e (.j [.l 4] [] .z .z) .z))))))
theorem oG:CK gU:=ck gU Tryz.f193 mM [] [.tmp 4] (cc iz (cc c91 (cc jL cn)))
def bH:Cal:=⟨194,[⟨.ro,T2⟩,⟨.ro,.str⟩],[⟨.int .i64,.ro⟩],fun x=>Hh x.1 x.2.1,0⟩
def mN:Hn:=(.e (.o [(0,.m' M2)]) (.e (.e .z (.n ⟨[],[],(some ⟨[],[],[]⟩),true,[]⟩ (.j [.snp 1 (.str) [],.snp 8 (.list 125 (T6)) [],.i 9,.i 10] [] (.e .z (.e .z (.e (.e (.e (.o [(3,.m' M6),(5,.m' M6)]) .z) .z) .z))) .z) .z)) .z))
theorem cI:CK bH:=ck bH Tryz.f194 mN [] [.tmp 4] cn
def gB:Cal:=⟨160,[⟨.ro,T2⟩],[⟨.bool,.ro⟩],fun x=>ID x.1,0⟩
def lr:Hn:=(.e (.o [(0,.m' M2)]) (.e .z (.e (.e (.j [.i 3,.l 35,.box 1 true (T2) (.ro)] [(1,⟨3,[]⟩)] .z .z) .z) (.e (.k [.g 4]) (.e (.e .z (.j [.d 4,.box 1 true (T2) (.ro)] [(1,⟨3,[]⟩)] (.j [.d 4,.snp 39 (.list 114 (T7)) [],.i 40,.i 41,.box 1 true (T2) (.ro)] [(1,⟨3,[]⟩)] (.e .z (.e .z (.e (.j [.d 4,.snp 39 (.list 114 (T7)) [],.i 40,.i 41,.box 1 true (T2) (.ro)] [(1,⟨3,[]⟩)] (.e (.o [(2,.m' M7),(3,.m' M7)]) (.e .z (.j [.d 4,.snp 39 (.list 114 (T7)) [],.i 40,.i 41,.box 1 true (T2) (.ro)] [(1,⟨3,[]⟩)] (.j [.d 4,.snp 39 (.list 114 (T7)) [],.i 40,.i 41,.snp 46 (.list 3 (.int .i64)) [],.i 47,.i 48,.box 1 true (T2) (.ro)] [(1,⟨3,[]⟩)] (.e .z (.e .z (.e (.e (.e .z (.o [(6,⟨[],.ro,[],[],some 8⟩)])) .z) .z))) .z) .z))) .z) .z))) .z) .z)) (.e (.e .z (.n ⟨[],[],(some ⟨[.d 4],[],[]⟩),true,[]⟩ (.j [.d 4,.snp 61 (.list 125 (T6)) [],.i 62,.i 63,.box 1 true (T2) (.ro)] [(1,⟨3,[]⟩)] (.e .z (.e .z (.e (.n ⟨[],[],(some ⟨[.d 4,.snp 61 (.list 125 (T6)) [],.i 62,.i 63,.box 1 true (T2) (.ro)],[(1,⟨3,[]⟩)],[]⟩),true,[]⟩ (.e (.o [(3,.m' M6),(5,.m' M6)]) (.e (.e (.j [.d 4,.snp 61 (.list 125 (T6)) [],.i 62,.i 63,.l 79,.box 1 true (T2) (.ro),.box 10 true (T6) (.ro)] [(1,⟨3,[]⟩),(10,⟨21,[]⟩)] .z .z) .z) (.e .z (.n ⟨[],[],(some ⟨[.d 4,.snp 61 (.list 125 (T6)) [],.i 62,.i 63,.box 1 true (T2) (.ro)],[(1,⟨3,[]⟩)],[]⟩),true,[]⟩ (.j [.d 4,.snp 61 (.list 125 (T6)) [],.i 62,.i 63,.d 84,.i 85,.i 86,.box 1 true (T2) (.ro)] [(1,⟨3,[]⟩)] (.e .z (.e .z (.e (.n ⟨[],[],(some ⟨[.d 4,.snp 61 (.list 125 (T6)) [],.i 62,.i 63,.d 84,.i 85,.i 86,.box 1 true (T2) (.ro)],[(1,⟨3,[]⟩)],[]⟩),true,[]⟩ (.e .z (.e .z (.e .z (.o [(3,⟨[],.ro,[],[],some 8⟩)])))) .z) .z))) .z) .z)))) .z) .z))) .z) .z)) (.e (.e (.k [.g 102]) (.n ⟨[],[],(some ⟨[],[],[]⟩),true,[]⟩ (.j [.d 102,.i 103,.i 104] [] (.e .z (.e .z (.e (.e (.e .z (.e (.j [.d 102,.i 103,.i 104,.l 113] [] .z .z) .z)) .z) .z))) .z) .z)) .z)))))))
theorem ng:CK gB:=ck gB Tryz.f160 lr [] [.tmp 2] (cc c91 (cc cF (cc oG (cc cI cn))))
def gW:Cal:=⟨195,[⟨.ro,.list 119 (T12)⟩,⟨.ro,.str⟩],[⟨.int .i64,.ro⟩],fun x=>LX x.1 x.2.1,0⟩
def mO:Hn:=(.e .z (.e (.e .z (.n ⟨[],[],(some ⟨[],[],[]⟩),true,[]⟩ (.j [.snp 1 (.str) [],.snp 7 (.list 119 (T12)) [],.i 8,.i 9] [] .z .z) .z)) .z))
theorem oH:CK gW:=ck gW Tryz.f195 mO [] [.tmp 4] cn
def gC:Cal:=⟨161,[⟨.ro,T2⟩,⟨.ro,.int .i64⟩],[⟨.bool,.ro⟩],fun x=>Jf x.1 x.2.1,0⟩
def lu:Hn:=(.e (.o [(0,.m' M2)]) (.e (.k [.g 5]) (.e (.e .z (.n ⟨[],[],(some ⟨[],[],[]⟩),true,[]⟩ (.j [.dat 5 (.list 119 (T12)) (.own (.ro)),.snp 11 (.list 119 (T12)) [10],.i 12,.i 13] [] .z .z) .z)) .z)))
theorem nh:CK gC:=ck gC Tryz.f161 lu [] [.tmp 4] (cc iq (cc oH cn))
def bI:Cal:=⟨196,[⟨.ro,.list 9 (.str)⟩,⟨.ro,.str⟩],[⟨.bool,.ro⟩],fun x=>GG x.1 x.2.1,0⟩
def mP:Hn:=(.e .z (.e (.e .z (.n ⟨[],[],(some ⟨[],[],[]⟩),true,[]⟩ (.j [.snp 1 (.str) [],.snp 7 (.list 9 (.str)) [],.i 8,.i 9] [] .z .z) .z)) .z))
theorem oI:CK bI:=ck bI Tryz.f196 mP [] [.tmp 4] cn
def TD:List Prm:=[⟨.ro,T2⟩,⟨.ro,.int .i64⟩,⟨.ro,.int .i64⟩,⟨.ro,.list 9 (.str)⟩]
def Xw:List Ret:=[⟨.bool,.ro⟩]
def VG (n:Nat):Cal:=⟨162,TD,Xw,fun x=>(EK n).1 x.1 x.2.1 x.2.2.1 x.2.2.2.1,0⟩
def iJ:Hn:=(.e (.o [(0,.m' M2)]) (.e (.o [(5,.m' M7),(6,.m' M7)]) (.e (.e (.j [.i 1,.snp 3 (.list 9 (.str)) [],.l 28,.box 4 true (T2) (.ro),.box 9 true (T7) (.ro)] [(4,⟨9,[]⟩),(9,⟨19,[]⟩)] .z .z) .z) (.e (.e .z (.n ⟨[],[],(some ⟨[.i 1,.snp 3 (.list 9 (.str)) [],.box 4 true (T2) (.ro),.box 9 true (T7) (.ro)],[(4,⟨9,[]⟩),(9,⟨19,[]⟩)],[]⟩),true,[]⟩ (.e .z (.e (.n ⟨[],[],(some ⟨[.i 1,.snp 3 (.list 9 (.str)) [],.l 53,.box 4 true (T2) (.ro),.box 9 true (T7) (.ro)],[(4,⟨9,[]⟩),(9,⟨19,[]⟩)],[]⟩),false,(tr 0 36 18 [])⟩ .z .z) .z)) .z)) (.e (.k [.g 11]) (.e (.e .z (.n ⟨[],[],(some ⟨[],[],[]⟩),true,[]⟩ (.j [.i 1,.dat 11 (.list 9 (.str)) (.own (.ro)),.snp 57 (.list 3 (.int .i64)) [],.i 58,.i 59,.box 4 true (T2) (.ro),.box 9 true (T7) (.ro)] [(4,⟨9,[]⟩),(9,⟨19,[]⟩)] (.e .z (.e .z (.e (.e (.e .z (.e .z (.e (.j [.i 1,.dat 11 (.list 9 (.str)) (.own (.ro)),.i 13,.snp 57 (.list 3 (.int .i64)) [],.i 58,.i 59,.l 80,.box 4 true (T2) (.ro),.box 9 true (T7) (.ro)] [(4,⟨9,[]⟩),(9,⟨19,[]⟩)] .z .z) (.j [.i 1,.dat 11 (.list 9 (.str)) (.own (.ro)),.snp 57 (.list 3 (.int .i64)) [],.i 58,.i 59,.box 4 true (T2) (.ro),.box 9 true (T7) (.ro)] [(4,⟨9,[]⟩),(9,⟨19,[]⟩)] (.n ⟨[],[.g 11],none,false,[(8,.g [.g 81] .ro)]⟩ .z .z) .z)))) .z) .z))) .z) .z)) .z))))))
def bV (n:Nat):Env:=⟨tab,[bF,bI,bH,C91,VG n],4,91⟩
theorem ow:(fun(n:Nat) (x:HL (pts TD))=>den (bV n) (Tryz.f162.body.getD .skip) iJ (DL 0 91 TD x) (Be tab [] TD Xw [.tmp 8]) (fun _ _=>none) (Be tab [] TD Xw [.tmp 8]))=fun n=>(VG (n+1)).F:=by kernel_rfl
theorem kD:∀ n,Cok Tryz.prog (VG n):=by
 intro n;have h157:=jE
 have h196:=oI
 have h194:=cI
 have h91:=c91
 induction n with
 | zero=>exact Bs (fn:=Tryz.f162) (by kernel_rfl) (by kernel_rfl) (by kernel_rfl) (fun _=>rfl)
 | succ n ih=>
  have h162:=ih
  refine ?_
  ·exact BN (E:=bV n) (c:=VG (n+1)) (fn:=Tryz.f162) (code:=Tryz.f162.body.getD .skip) (hn:=iJ) (gr:=[]) (is:=[.tmp 8]) ⟨DR,(fun c hc=>by simp only [bV,List.mem_cons,List.not_mem_nil,or_false] at hc;rcases hc with rfl | rfl | rfl | rfl | rfl<;>assumption),Dp⟩ ⟨by kernel_rfl,by kernel_rfl,by kernel_rfl,by kernel_rfl,by kernel_rfl,Nat.le_of_ble_eq_true rfl,by kernel_rfl⟩ (by kernel_rfl) (fun x y h=>(congrFun (congrFun ow n) x).trans h)
def km:Cal:=⟨162,TD,Xw,fun x=>NU x.1 x.2.1 x.2.2.1 x.2.2.2.1,0⟩
theorem ni:Cok Tryz.prog km:=CP (F:=fun n=>(VG n).F) (fun n=>(kD n))
def fX:Cal:=⟨120,[⟨.ro,T2⟩],[⟨.bool,.ro⟩],fun x=>FK x.1,0⟩
def lP:Hn:=(.e (.o [(0,.m' M2)]) (.e .z (.e (.e .z (.n ⟨[],[],(some ⟨[],[],[]⟩),true,[]⟩ (.j [.snp 14 (.list 125 (T6)) [],.i 15,.i 16,.box 1 true (T2) (.ro)] [(1,⟨3,[]⟩)] (.e .z (.e .z (.e (.n ⟨[],[],(some ⟨[.snp 14 (.list 125 (T6)) [],.i 15,.i 16,.box 1 true (T2) (.ro)],[(1,⟨3,[]⟩)],[]⟩),true,[]⟩ (.e (.o [(3,.m' M6),(5,.m' M6)]) (.e .z (.e .z (.e (.e .z (.j [.i 3,.dat 5 (.list 9 (.str)) (.own (.ro)),.snp 14 (.list 125 (T6)) [],.i 15,.i 16,.box 1 true (T2) (.ro),.box 4 true (T6) (.ro)] [(1,⟨3,[]⟩),(4,⟨9,[]⟩)] (.j [.i 3,.dat 5 (.list 9 (.str)) (.own (.ro)),.snp 14 (.list 125 (T6)) [],.i 15,.i 16,.snp 26 (.list 156 (T17)) [],.i 27,.i 28,.box 1 true (T2) (.ro),.box 4 true (T6) (.ro)] [(1,⟨3,[]⟩),(4,⟨9,[]⟩)] (.e .z (.e .z (.e (.e (.e .z (.n ⟨[],[.g 5],none,false,[(4,.g [.g 32] .ro)]⟩ .z .z)) .z) .z))) .z) .z)) (.e .z (.e (.e .z (.j [.i 3,.dat 5 (.list 9 (.str)) (.own (.ro)),.snp 14 (.list 125 (T6)) [],.i 15,.i 16,.box 1 true (T2) (.ro),.box 4 true (T6) (.ro)] [(1,⟨3,[]⟩),(4,⟨9,[]⟩)] (.j [.i 3,.dat 5 (.list 9 (.str)) (.own (.ro)),.snp 14 (.list 125 (T6)) [],.i 15,.i 16,.snp 51 (.list 3 (.int .i64)) [],.i 52,.i 53,.box 1 true (T2) (.ro),.box 4 true (T6) (.ro)] [(1,⟨3,[]⟩),(4,⟨9,[]⟩)] (.e .z (.e .z (.e (.e (.e .z (.e .z (.j [.i 3,.dat 5 (.list 9 (.str)) (.own (.ro)),.snp 14 (.list 125 (T6)) [],.i 15,.i 16,.snp 51 (.list 3 (.int .i64)) [],.i 52,.i 53,.box 1 true (T2) (.ro),.box 4 true (T6) (.ro)] [(1,⟨3,[]⟩),(4,⟨9,[]⟩)] (.n ⟨[],[.g 5],none,false,[(8,.g [.g 64] .ro)]⟩ .z .z) .z))) .z) .z))) .z) .z)) (.e (.n ⟨[],[.g 82],(some ⟨[.snp 14 (.list 125 (T6)) [],.i 15,.i 16,.l 85,.box 1 true (T2) (.ro)],[(1,⟨3,[]⟩)],[]⟩),false,[]⟩ .z .z) .z))))))) .z) .z))) .z) .z)) .z)))
theorem iu:CK fX:=ck fX Tryz.f120 lP [] [.tmp 2] (cc ng (cc nh (cc ni cn)))
def TC:List Prm:=[⟨.ro,T2⟩,⟨.ro,.int .i64⟩,⟨.ro,T2⟩,⟨.ro,.int .i64⟩]
def Xv:List Ret:=[⟨.bool,.ro⟩]
def VF (n:Nat):Cal:=⟨127,TC,Xv,fun x=>(HP n).1 x.1 x.2.1 x.2.2.1 x.2.2.2.1,0⟩
def iI:Hn:=(.e (.o [(0,.m' M2),(1,.m' M2)]) (.e (.o (tr 0 12 10 [(10,⟨[],M7,[9],[9],none⟩),(11,⟨[],M7,[10],[10],none⟩),(12,⟨[],M7,[9],[9],none⟩),(13,⟨[],M7,[10],[10],none⟩)])) (.e (.e (.j [.l 49,.box 4 true (T2) (.ro),.box 6 true (T2) (.ro),.box 9 true (T7) (.ro),.box 10 true (T7) (.ro)] [(4,⟨9,[]⟩),(6,⟨13,[]⟩),(9,⟨19,[]⟩),(10,⟨21,[]⟩)] .z .z) .z) (.e (.e .z (.n ⟨[],[],(some ⟨[],[],[]⟩),true,[]⟩ (.j [.i 52,.i 53,.box 4 true (T2) (.ro),.box 6 true (T2) (.ro),.box 9 true (T7) (.ro),.box 10 true (T7) (.ro)] [(4,⟨9,[]⟩),(6,⟨13,[]⟩),(9,⟨19,[]⟩),(10,⟨21,[]⟩)] (.e .z (.e .z (.e (.e (.e .z (.e (.o (tr 0 56 14 [])) .z)) .z) .z))) .z) .z)) .z))))
def bU (n:Nat):Env:=⟨tab,[VF n],4,71⟩
theorem ov:(fun(n:Nat) (x:HL (pts TC))=>den (bU n) (Tryz.f127.body.getD .skip) iI (DL 0 71 TC x) (Be tab [] TC Xv [.tmp 8]) (fun _ _=>none) (Be tab [] TC Xv [.tmp 8]))=fun n=>(VF (n+1)).F:=by kernel_rfl
theorem kC:∀ n,Cok Tryz.prog (VF n):=by
 intro n
 induction n with
 | zero=>exact Bs (fn:=Tryz.f127) (by kernel_rfl) (by kernel_rfl) (by kernel_rfl) (fun _=>rfl)
 | succ n ih=>
  have h127:=ih
  refine ?_
  ·exact BN (E:=bU n) (c:=VF (n+1)) (fn:=Tryz.f127) (code:=Tryz.f127.body.getD .skip) (hn:=iI) (gr:=[]) (is:=[.tmp 8]) ⟨DR,(fun c hc=>by simp only [bU,List.mem_cons,List.not_mem_nil,or_false] at hc;rcases hc with rfl<;>assumption),Dp⟩ ⟨by kernel_rfl,by kernel_rfl,by kernel_rfl,by kernel_rfl,by kernel_rfl,Nat.le_of_ble_eq_true rfl,by kernel_rfl⟩ (by kernel_rfl) (fun x y h=>(congrFun (congrFun ov n) x).trans h)
def kj:Cal:=⟨127,TC,Xv,fun x=>LL x.1 x.2.1 x.2.2.1 x.2.2.2.1,0⟩
theorem nT:Cok Tryz.prog kj:=CP (F:=fun n=>(VF n).F) (fun n=>(kC n))
def C67:Cal:=⟨67,[⟨.ro,T2⟩,⟨.ro,.int .i64⟩],[⟨.bool,.ro⟩],fun x=>Cq x.1 x.2.1,0⟩
def H67:Hn:=(.e (.o [(0,.m' M2)]) (.e (.e (.j [.i 1,.l 19,.box 2 true (T2) (.ro)] [(2,⟨5,[]⟩)] .z .z) .z) (.e (.o [(5,.m' M7),(6,.m' M7)]) (.e (.o (tr 0 25 11 [(11,.t 4)])) .z))))
theorem c67:CK C67:=ck C67 Tryz.f67 H67 [] [.tmp 4] (cc cF (cc nT cn))
def bG:Cal:=⟨164,[⟨.ro,.bool⟩],[⟨.int .i64,.ro⟩],fun x=>Oy x.1,0⟩
def lv:Hn:=.z
theorem nj:CK bG:=ck bG Tryz.f164 lv [] [.tmp 2] cn
def TA:List Prm:=[⟨.ro,T2⟩,⟨.ro,.int .i64⟩]
def Xt:List Ret:=[⟨.int .i64,.ro⟩,⟨.bool,.ro⟩]
def VD (n:Nat):Cal:=⟨122,TA,Xt,fun x=>(Hy n).1 x.1 x.2.1,0⟩
def iG:Hn:=(.e (.o [(0,.m' M2)]) (.e (.o [(5,.m' M7),(6,.m' M7)]) (.e .z (.e .z (.e (.o (tr 0 26 6 [(6,⟨[],.ro,[25,31],[],none⟩),(7,.t 32),(8,.t 33),(9,.t 7),(10,.t 8)])) (.e (.o (tr 0 35 6 [(6,⟨[],.ro,[34,40],[],none⟩),(7,.t 41),(8,.t 42),(9,.t 9),(10,.t 10)])) (.e (.e (.j [.i 7,.i 9,.l 48,.box 6 true (T7) (.ro)] [(6,⟨13,[]⟩)] .z .z) .z) .z)))))))
def bS (n:Nat):Env:=⟨tab,[C91,VD n,bG],2,70⟩
theorem ot:(fun(n:Nat) (x:HL (pts TA))=>den (bS n) (Tryz.f122.body.getD .skip) iG (DL 0 70 TA x) (Be tab [] TA Xt [.tmp 4,.tmp 5]) (fun _ _=>none) (Be tab [] TA Xt [.tmp 4,.tmp 5]))=fun n=>(VD (n+1)).F:=by kernel_rfl
theorem kA:∀ n,Cok Tryz.prog (VD n):=by
 intro n;have h91:=c91
 have h164:=nj
 induction n with
 | zero=>exact Bs (fn:=Tryz.f122) (by kernel_rfl) (by kernel_rfl) (by kernel_rfl) (fun _=>rfl)
 | succ n ih=>
  have h122:=ih
  refine ?_
  ·exact BN (E:=bS n) (c:=VD (n+1)) (fn:=Tryz.f122) (code:=Tryz.f122.body.getD .skip) (hn:=iG) (gr:=[]) (is:=[.tmp 4,.tmp 5]) ⟨DR,(fun c hc=>by simp only [bS,List.mem_cons,List.not_mem_nil,or_false] at hc;rcases hc with rfl | rfl | rfl<;>assumption),Dp⟩ ⟨by kernel_rfl,by kernel_rfl,by kernel_rfl,by kernel_rfl,by kernel_rfl,Nat.le_of_ble_eq_true rfl,by kernel_rfl⟩ (by kernel_rfl) (fun x y h=>(congrFun (congrFun ot n) x).trans h)
def kh:Cal:=⟨122,TA,Xt,fun x=>MR x.1 x.2.1,0⟩
theorem nR:Cok Tryz.prog kh:=CP (F:=fun n=>(VD n).F) (fun n=>(kA n))
def C84:Cal:=⟨84,[⟨.ro,.int .i64⟩],[⟨.str,.ro⟩],fun x=>GF x.1,0⟩
def H84:Hn:=.z
theorem c84:CK C84:=ck C84 Tryz.f84 H84 [] [.tmp 2] (cc na cn)
def C65:Cal:=⟨65,[⟨.ro,T2⟩,⟨.ro,.int .i64⟩],[⟨.list 74 (T11),.own (.ro)⟩],fun x=>Ig x.1 x.2.1,0⟩
def H65:Hn:=(.e (.o [(0,.m' M2)]) (.e (.e (.j [.i 1,.l 24,.box 2 true (T2) (.ro)] [(2,⟨5,[]⟩)] .z .z) .z) (.e .z (.e (.e .z (.j [.i 1,.dat 5 (.list 74 (T11)) (.own (.ro)),.box 2 true (T2) (.ro)] [(2,⟨5,[]⟩)] (.j [.i 1,.dat 5 (.list 74 (T11)) (.own (.ro)),.dat 27 (.list 9 (.str)) (.own (.ro)),.i 28,.i 29,.box 2 true (T2) (.ro)] [(2,⟨5,[]⟩)] (.e .z (.e .z (.e (.e (.e .z (.n ⟨[],[.g 5],none,false,[(5,.g [.g 33] .ro)]⟩ .z .z)) .z) .z))) .z) .z)) (.e (.e (.o (tr 0 40 11 [])) (.j [.dat 5 (.list 74 (T11)) (.own (.ro))] [] (.j [.i 1,.dat 5 (.list 74 (T11)) (.own (.ro)),.d 48,.i 49,.i 50,.box 2 true (T2) (.ro)] [(2,⟨5,[]⟩)] (.e .z (.e .z (.e (.j [.i 1,.dat 5 (.list 74 (T11)) (.own (.ro)),.d 48,.i 49,.i 50,.box 2 true (T2) (.ro)] [(2,⟨5,[]⟩)] (.e .z (.e (.o [(5,.m' M7),(6,.m' M7)]) (.e (.e (.j [.i 1,.dat 5 (.list 74 (T11)) (.own (.ro)),.i 9,.d 48,.i 49,.i 50,.l 66,.box 2 true (T2) (.ro),.box 10 true (T7) (.ro)] [(2,⟨5,[]⟩),(10,⟨21,[]⟩)] .z .z) .z) (.e (.e .z (.j [.i 1,.dat 5 (.list 74 (T11)) (.own (.ro)),.d 48,.i 49,.i 50,.box 2 true (T2) (.ro),.box 10 true (T7) (.ro)] [(2,⟨5,[]⟩),(10,⟨21,[]⟩)] (.n ⟨[],[.g 5],none,false,[(4,.g [.g 70] .ro)]⟩ .z .z) .z)) (.e (.e (.n ⟨[],[],(some ⟨[.i 1,.dat 5 (.list 74 (T11)) (.own (.ro)),.d 48,.i 49,.i 50,.l 90,.box 2 true (T2) (.ro),.box 10 true (T7) (.ro)],[(2,⟨5,[]⟩),(10,⟨21,[]⟩)],[]⟩),false,(tr 0 75 16 [])⟩ .z .z) (.j [.i 1,.dat 5 (.list 74 (T11)) (.own (.ro)),.d 48,.i 49,.i 50,.box 2 true (T2) (.ro),.box 10 true (T7) (.ro)] [(2,⟨5,[]⟩),(10,⟨21,[]⟩)] (.n ⟨[],[.g 5],none,false,[(4,.g [.g 91] .ro)]⟩ .z .z) .z)) (.e (.o (tr 0 97 6 [(6,⟨[],.ro,[96,102],[],none⟩),(7,.t 103),(8,.t 104),(9,.t 11),(10,.t 12)])) (.e .z (.j [.i 1,.dat 5 (.list 74 (T11)) (.own (.ro)),.d 48,.i 49,.i 50,.box 2 true (T2) (.ro)] [(2,⟨5,[]⟩)] (.n ⟨[],[.g 5],none,false,[(6,.g [.g 106] .ro)]⟩ .z .z) .z)))))))) .z) .z))) .z) .z)) (.e (.k [.g 4]) .z))))))
theorem c65:CK C65:=ck C65 Tryz.f65 H65 [] [.tmp 4] (cc iu (cc c91 (cc c62 (cc iv (cc c67 (cc nR (cc c84 cn)))))))
def gE:Cal:=⟨166,[⟨.ro,.list 119 (T12)⟩,⟨.ro,.str⟩],[⟨.int .i64,.ro⟩],fun x=>Lk x.1 x.2.1,0⟩
def lz:Hn:=(.e .z (.e (.e .z (.n ⟨[],[],(some ⟨[],[],[]⟩),true,[]⟩ (.j [.snp 0 (.list 119 (T12)) [],.snp 1 (.str) [],.i 5] [] .z .z) .z)) .z))
theorem nk:CK gE:=ck gE Tryz.f166 lz [] [.tmp 4] cn
def Xp:Cal:=⟨201,[⟨.ro,.list 9 (.str)⟩,⟨.ro,.str⟩],[⟨.bool,.ro⟩],fun x=>HE x.1 x.2.1,0⟩
def mS:Hn:=(.e .z (.e (.e .z (.n ⟨[],[],(some ⟨[],[],[]⟩),true,[]⟩ (.j [.snp 0 (.list 9 (.str)) [],.snp 1 (.str) [],.i 5] [] .z .z) .z)) .z))
theorem jK:CK Xp:=ck Xp Tryz.f201 mS [] [.tmp 4] cn
def TG:List Prm:=[⟨.ptr (.ro),T1⟩,⟨.ro,.int .i64⟩]
def Xy:List Ret:=[]
def VI (n:Nat):Cal:=⟨168,TG,Xy,fun x=>(CC n).1 x.1 x.2.1,0⟩
def iL:Hn:=(.e (.o [(8,.m' M7),(9,.m' M7)]) (.e (.e .z (.j [.box 0 true (T1) (.ro),.box 4 true (T7) (.ro)] [(0,⟨1,[]⟩),(4,⟨9,[]⟩)] (.j [.i 5,.box 0 true (T1) (.ro),.box 4 true (T7) (.ro)] [(0,⟨1,[]⟩),(4,⟨9,[]⟩)] .z .z) .z)) (.e .z (.e (.e (.e .z (.j [.i 30,.l 31,.box 0 true (T1) (.ro),.box 4 true (T7) (.ro)] [(0,⟨1,[]⟩),(4,⟨9,[]⟩)] .z (.e .z (.j [.i 30,.l 31,.box 0 true (T1) (.ro),.box 4 true (T7) (.ro)] [(0,⟨1,[]⟩),(4,⟨9,[]⟩)] .z (.e .z (.j [.i 30,.l 31,.box 0 true (T1) (.ro),.box 4 true (T7) (.ro)] [(0,⟨1,[]⟩),(4,⟨9,[]⟩)] .z (.e .z (.j [.i 30,.l 31,.box 0 true (T1) (.ro),.box 4 true (T7) (.ro)] [(0,⟨1,[]⟩),(4,⟨9,[]⟩)] .z .z)))))))) (.j [.box 0 true (T1) (.ro)] [] (.n ⟨[],[],(some ⟨[.box 0 true (T1) (.ro)],[],[]⟩),false,(tr 0 37 17 [(17,⟨[],.ro,[0,37,38,39,40,43,44,45,52,53],[0],none⟩)])⟩ .z .z) (.e .z (.j [.box 0 true (T1) (.ro)] [] (.e (.o (tr 0 56 7 [(7,.t 6)])) (.n ⟨[],[],(some ⟨[.box 0 true (T1) (.ro)],[],[]⟩),false,(tr 0 63 35 [(35,⟨[],.ro,[0,56,57,58,63,64,65,66,74,75,76,81,82,83,84,96,97],[0],none⟩)])⟩ .z .z)) .z)))) .z))))
def bX (n:Nat):Env:=⟨tab,[VI n,Xp,bJ],2,98⟩
theorem oy:(fun(n:Nat) (x:HL (pts TG))=>den (bX n) (Tryz.f168.body.getD .skip) iL (DL 0 98 TG x) (Be tab [] TG Xy []) (fun _ _=>none) (Be tab [] TG Xy []))=fun n=>(VI (n+1)).F:=by kernel_rfl
theorem kE:∀ n,Cok Tryz.prog (VI n):=by
 intro n;have h201:=jK
 have h202:=cJ
 induction n with
 | zero=>exact Bs (fn:=Tryz.f168) (by kernel_rfl) (by kernel_rfl) (by kernel_rfl) (fun _=>rfl)
 | succ n ih=>
  have h168:=ih
  refine ?_
  ·exact BN (E:=bX n) (c:=VI (n+1)) (fn:=Tryz.f168) (code:=Tryz.f168.body.getD .skip) (hn:=iL) (gr:=[]) (is:=[]) ⟨DR,(fun c hc=>by simp only [bX,List.mem_cons,List.not_mem_nil,or_false] at hc;rcases hc with rfl | rfl | rfl<;>assumption),Dp⟩ ⟨by kernel_rfl,by kernel_rfl,by kernel_rfl,by kernel_rfl,by kernel_rfl,Nat.le_of_ble_eq_true rfl,by kernel_rfl⟩ (by kernel_rfl) (fun x y h=>(congrFun (congrFun oy n) x).trans h)
def gF:Cal:=⟨168,TG,Xy,fun x=>FX x.1 x.2.1,0⟩
theorem jH:Cok Tryz.prog gF:=CP (F:=fun n=>(VI n).F) (fun n=>(kE n))
def TF:List Prm:=[⟨.ptr (.ro),T1⟩,⟨.ro,.int .i64⟩]
def Xx:List Ret:=[]
def VH (n:Nat):Cal:=⟨167,TF,Xx,fun x=>(Ai n).1 x.1 x.2.1,0⟩
def TJ:List Prm:=[⟨.ptr (.ro),T1⟩,⟨.ro,.int .i64⟩]
def YB:List Ret:=[]
def VL (n:Nat):Cal:=⟨200,TJ,YB,fun x=>(Ai n).2.1 x.1 x.2.1,0⟩
def iK:Hn:=(.e .z (.j [.box 0 true (T1) (.ro)] [] (.j [.i 1,.i 4,.box 0 true (T1) (.ro)] [(0,⟨1,[]⟩)] .z .z) .z))
def bW (n:Nat):Env:=⟨tab,[VL n],2,33⟩
theorem ox:(fun(n:Nat) (x:HL (pts TF))=>den (bW n) (Tryz.f167.body.getD .skip) iK (DL 0 33 TF x) (Be tab [] TF Xx []) (fun _ _=>none) (Be tab [] TF Xx []))=fun n=>(VH (n+1)).F:=by kernel_rfl
def iQ:Hn:=(.e (.o [(8,.m' M7),(9,.m' M7)]) (.e .z (.e .z (.j [.box 0 true (T1) (.ro)] [] (.e .z (.j [.box 0 true (T1) (.ro)] [] (.o (tr 0 25 6 [(6,⟨[],.ro,[26,31],[],none⟩),(7,.t 32),(8,.t 33),(9,.t 34),(10,⟨[],.ro,[31,35],[],none⟩),(11,.t 36),(12,.t 37),(13,⟨[.z 35],.own (.ro),[0,7,8,9,10,15,25,27,28,29,35,36,37],[0],none⟩)])) (.e (.e .z (.j [.i 22,.l 38,.box 0 true (T1) (.ro),.box 4 true (T7) (.ro)] [(0,⟨1,[]⟩),(4,⟨9,[]⟩)] .z .z)) (.j [.box 0 true (T1) (.ro)] [] (.n ⟨[],[],(some ⟨[.box 0 true (T1) (.ro)],[],[]⟩),false,(tr 0 41 17 [(17,⟨[],.ro,[0,41,42,43,44,47,48,49,56,57],[0],none⟩)])⟩ .z .z) (.e (.e .z (.j [.l 58,.box 0 true (T1) (.ro),.box 4 true (T7) (.ro)] [(0,⟨1,[]⟩),(4,⟨9,[]⟩)] .z .z)) (.j [.box 0 true (T1) (.ro)] [] (.e .z (.j [.box 0 true (T1) (.ro)] [] (.j [.i 5,.box 0 true (T1) (.ro),.box 4 true (T7) (.ro)] [(0,⟨1,[]⟩),(4,⟨9,[]⟩)] (.e .z (.e (.e (.e .z (.e .z (.o [(4,.m' (.own (.ro)))]))) .z) .z)) .z) .z)) .z)))))) .z))))
def bc (n:Nat):Env:=⟨tab,[gF,Xp,VH n],2,83⟩
theorem pB:(fun(n:Nat) (x:HL (pts TJ))=>den (bc n) (Tryz.f200.body.getD .skip) iQ (DL 0 83 TJ x) (Be tab [] TJ YB []) (fun _ _=>none) (Be tab [] TJ YB []))=fun n=>(VL (n+1)).F:=by kernel_rfl
theorem dz:∀ n,Cok Tryz.prog (VH n)∧Cok Tryz.prog (VL n):=by
 intro n;have h168:=jH
 have h201:=jK
 induction n with
 | zero=>exact⟨Bs (fn:=Tryz.f167) (by kernel_rfl) (by kernel_rfl) (by kernel_rfl) (fun _=>rfl),Bs (fn:=Tryz.f200) (by kernel_rfl) (by kernel_rfl) (by kernel_rfl) (fun _=>rfl)⟩
 | succ n ih=>
  obtain⟨h167,h200⟩:=ih;refine⟨?_,?_⟩
  ·exact BN (E:=bW n) (c:=VH (n+1)) (fn:=Tryz.f167) (code:=Tryz.f167.body.getD .skip) (hn:=iK) (gr:=[]) (is:=[]) ⟨DR,(fun c hc=>by simp only [bW,List.mem_cons,List.not_mem_nil,or_false] at hc;rcases hc with rfl<;>assumption),Dp⟩ ⟨by kernel_rfl,by kernel_rfl,by kernel_rfl,by kernel_rfl,by kernel_rfl,Nat.le_of_ble_eq_true rfl,by kernel_rfl⟩ (by kernel_rfl) (fun x y h=>(congrFun (congrFun ox n) x).trans h)
  ·exact BN (E:=bc n) (c:=VL (n+1)) (fn:=Tryz.f200) (code:=Tryz.f200.body.getD .skip) (hn:=iQ) (gr:=[]) (is:=[]) ⟨DR,(fun c hc=>by simp only [bc,List.mem_cons,List.not_mem_nil,or_false] at hc;rcases hc with rfl | rfl | rfl<;>assumption),Dp⟩ ⟨by kernel_rfl,by kernel_rfl,by kernel_rfl,by kernel_rfl,by kernel_rfl,Nat.le_of_ble_eq_true rfl,by kernel_rfl⟩ (by kernel_rfl) (fun x y h=>(congrFun (congrFun pB n) x).trans h)
def kp:Cal:=⟨167,TF,Xx,fun x=>Hw x.1 x.2.1,0⟩
theorem nl:Cok Tryz.prog kp:=CP (F:=fun n=>(VH n).F) (fun n=>(dz n).1)
def kv:Cal:=⟨200,TJ,YB,fun x=>Qx x.1 x.2.1,0⟩
theorem c200:Cok Tryz.prog kv:=CP (F:=fun n=>(VL n).F) (fun n=>(dz n).2)
def fZ:Cal:=⟨123,[⟨.ro,T2⟩],[⟨.bool,.ro⟩],fun x=>FR x.1,0⟩
def lR:Hn:=(.e (.o [(0,.m' M2)]) (.e .z (.e (.e .z (.n ⟨[],[],(some ⟨[],[],[]⟩),true,[]⟩ (.j [.i 3,.box 1 true (T2) (.ro)] [(1,⟨3,[]⟩)] (.e .z (.e (.n ⟨[],[],(some ⟨[.i 3,.box 1 true (T2) (.ro)],[(1,⟨3,[]⟩)],[]⟩),true,[]⟩ (.e (.k [.g 4]) (.e (.e .z (.n ⟨[],[],(some ⟨[.i 3,.box 1 true (T2) (.ro)],[(1,⟨3,[]⟩)],[]⟩),true,[]⟩ (.j [.i 3,.dat 4 (.list 119 (T12)) (.own (.ro)),.i 5,.box 1 true (T2) (.ro)] [(1,⟨3,[]⟩)] .z .z) .z)) (.e (.o [(2,.m' M1),(3,.m' M1)]) (.e (.e .z (.j [.i 3,.box 1 true (T2) (.ro),.box 39 true (T1) (.pr (.ro) (M6))] [(1,⟨3,[]⟩),(6,⟨79,[]⟩)] (.j [.i 3,.i 7,.box 1 true (T2) (.ro),.box 39 true (T1) (.pr (.ro) (M6))] [(1,⟨3,[]⟩),(6,⟨79,[]⟩)] (.e .z (.e (.e (.o (tr 0 51 16 [(16,⟨[.g 55],.ro,[6,52,53,54,55,67],[39],none⟩),(17,.t 68),(18,.t 69),(19,⟨[],.own (.ro),[6,52,53,54,67,68,69],[39],none⟩)])) .z) .z)) .z) .z)) (.e (.o [(7,.g [.w 79 (.ro)] .ro)]) (.e (.e .z (.j [.i 3,.box 1 true (T2) (.ro),.box 39 true (T1) (.ro)] [(1,⟨3,[]⟩),(6,⟨79,[]⟩)] .z .z)) .z)))))) .z) .z)) .z) .z)) .z)))
theorem iw:CK fZ:=ck fZ Tryz.f123 lR [] [.tmp 2] (cc jG (cc ir (cc nk (cc nl (cc jH cn)))))
def TI:List Prm:=[⟨.ro,.list 114 (T7)⟩,⟨.ro,.int .i64⟩,⟨.ro,.list 114 (T7)⟩,⟨.ro,.int .i64⟩]
def YA:List Ret:=[⟨.bool,.ro⟩]
def VK (n:Nat):Cal:=⟨172,TI,YA,fun x=>(Hz n).1 x.1 x.2.1 x.2.2.1 x.2.2.2.1,0⟩
def iP:Hn:=(.e .z (.e (.o [(4,.m' M7),(5,.m' M7)]) (.e (.o [(4,.m' M7),(5,.m' M7)]) (.e (.e (.j [.snp 0 (.list 114 (T7)) [],.snp 2 (.list 114 (T7)) [],.l 47,.box 9 true (T7) (.ro),.box 10 true (T7) (.ro)] [(9,⟨19,[]⟩),(10,⟨21,[]⟩)] .z .z) .z) (.e (.e .z (.n ⟨[],[],(some ⟨[],[],[]⟩),true,[]⟩ (.j [.snp 0 (.list 114 (T7)) [],.snp 2 (.list 114 (T7)) [],.i 11,.box 9 true (T7) (.ro),.box 10 true (T7) (.ro)] [(9,⟨19,[]⟩),(10,⟨21,[]⟩)] (.e .z (.e (.e (.e (.o (tr 0 55 14 [])) .z) .z) .z)) .z) .z)) .z)))))
def ba (n:Nat):Env:=⟨tab,[VK n],4,69⟩
theorem pA:(fun(n:Nat) (x:HL (pts TI))=>den (ba n) (Tryz.f172.body.getD .skip) iP (DL 0 69 TI x) (Be tab [] TI YA [.tmp 8]) (fun _ _=>none) (Be tab [] TI YA [.tmp 8]))=fun n=>(VK (n+1)).F:=by kernel_rfl
theorem kG:∀ n,Cok Tryz.prog (VK n):=by
 intro n
 induction n with
 | zero=>exact Bs (fn:=Tryz.f172) (by kernel_rfl) (by kernel_rfl) (by kernel_rfl) (fun _=>rfl)
 | succ n ih=>
  have h172:=ih
  refine ?_
  ·exact BN (E:=ba n) (c:=VK (n+1)) (fn:=Tryz.f172) (code:=Tryz.f172.body.getD .skip) (hn:=iP) (gr:=[]) (is:=[.tmp 8]) ⟨DR,(fun c hc=>by simp only [ba,List.mem_cons,List.not_mem_nil,or_false] at hc;rcases hc with rfl<;>assumption),Dp⟩ ⟨by kernel_rfl,by kernel_rfl,by kernel_rfl,by kernel_rfl,by kernel_rfl,Nat.le_of_ble_eq_true rfl,by kernel_rfl⟩ (by kernel_rfl) (fun x y h=>(congrFun (congrFun pA n) x).trans h)
def ku:Cal:=⟨172,TI,YA,fun x=>Mj x.1 x.2.1 x.2.2.1 x.2.2.2.1,0⟩
theorem ns:Cok Tryz.prog ku:=CP (F:=fun n=>(VK n).F) (fun n=>(kG n))
def fe:Cal:=⟨129,[⟨.ro,T2⟩,⟨.ro,.int .i64⟩,⟨.ro,T2⟩,⟨.ro,.int .i64⟩],[⟨.bool,.ro⟩],fun x=>Iw x.1 x.2.1 x.2.2.1 x.2.2.2.1,0⟩
def lV:Hn:=(.e (.o [(0,.m' M2),(1,.m' M2)]) (.e (.j [.l 8] [] .z .z) .z))
theorem nU:CK fe:=ck fe Tryz.f129 lV [] [.tmp 8] (cc cG (cc ns cn))
def C68:Cal:=⟨68,[⟨.ro,T2⟩,⟨.ro,.int .i64⟩],[⟨.bool,.ro⟩],fun x=>Cv x.1 x.2.1,0⟩
def H68:Hn:=(.e (.o [(0,.m' M2)]) (.e (.e (.j [.i 1,.l 18,.box 2 true (T2) (.ro)] [(2,⟨5,[]⟩)] .z .z) .z) (.e (.o (tr 0 19 19 [(19,.t 4)])) .z)))
theorem c68:CK C68:=ck C68 Tryz.f68 H68 [] [.tmp 4] (cc cG (cc nU cn))
def TB:List Prm:=[⟨.ro,.list 114 (T7)⟩,⟨.ro,.int .i64⟩]
def Xu:List Ret:=[⟨.int .i64,.ro⟩,⟨.bool,.ro⟩]
def VE (n:Nat):Cal:=⟨125,TB,Xu,fun x=>(HQ n).1 x.1 x.2.1,0⟩
def iH:Hn:=(.e .z (.e (.o [(4,.m' M7),(5,.m' M7)]) (.e (.e .z (.e (.e .z (.e .z (.e (.e .z (.j [.snp 0 (.list 114 (T7)) [],.l 22,.box 6 true (T7) (.ro)] [(6,⟨13,[]⟩)] .z (.e .z (.j [.snp 0 (.list 114 (T7)) [],.l 22,.box 6 true (T7) (.ro)] [(6,⟨13,[]⟩)] .z .z)))) (.e (.e .z (.e .z (.e (.e (.j [.i 7,.i 9,.l 49,.box 6 true (T7) (.ro)] [(6,⟨13,[]⟩)] .z .z) .z) (.e .z (.e (.e (.e .z (.j [.i 11] [] .z (.e (.j [.i 11,.l 57] [] .z .z) (.j [.i 11] [] .z .z)))) .z) .z))))) .z)))) .z)) .z)))
def bT (n:Nat):Env:=⟨tab,[VE n],2,79⟩
theorem ou:(fun(n:Nat) (x:HL (pts TB))=>den (bT n) (Tryz.f125.body.getD .skip) iH (DL 0 79 TB x) (Be tab [] TB Xu [.tmp 4,.tmp 5]) (fun _ _=>none) (Be tab [] TB Xu [.tmp 4,.tmp 5]))=fun n=>(VE (n+1)).F:=by kernel_rfl
theorem kB:∀ n,Cok Tryz.prog (VE n):=by
 intro n
 induction n with
 | zero=>exact Bs (fn:=Tryz.f125) (by kernel_rfl) (by kernel_rfl) (by kernel_rfl) (fun _=>rfl)
 | succ n ih=>
  have h125:=ih
  refine ?_
  ·exact BN (E:=bT n) (c:=VE (n+1)) (fn:=Tryz.f125) (code:=Tryz.f125.body.getD .skip) (hn:=iH) (gr:=[]) (is:=[.tmp 4,.tmp 5]) ⟨DR,(fun c hc=>by simp only [bT,List.mem_cons,List.not_mem_nil,or_false] at hc;rcases hc with rfl<;>assumption),Dp⟩ ⟨by kernel_rfl,by kernel_rfl,by kernel_rfl,by kernel_rfl,by kernel_rfl,Nat.le_of_ble_eq_true rfl,by kernel_rfl⟩ (by kernel_rfl) (fun x y h=>(congrFun (congrFun ou n) x).trans h)
def ki:Cal:=⟨125,TB,Xu,fun x=>LN x.1 x.2.1,0⟩
theorem nS:Cok Tryz.prog ki:=CP (F:=fun n=>(VE n).F) (fun n=>(kB n))
end
end Go.Proofs.YtmakhmoielhjeaaGreatDoorE

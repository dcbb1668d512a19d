/- The functions of X reckon so (3). No condition. -/
import Derived.Test.YtmakhmoielhjeaaGreatDoorLawGX2
set_option linter.all false
namespace Go.Proofs.YtmakhmoielhjeaaGreatDoorE
noncomputable section
set_option maxRecDepth 100000
def fR:Cal:=⟨113,[⟨.ro,.list 5 (.int .u8)⟩],[⟨T2,M2⟩,⟨.int .i64,.ro⟩],fun x=>HJ x.1,0⟩
def lI:Hn:=(.e (.o [(0,.m' M2)]) (.e .z (.e .z (.e (.o [(3,.m' M2)]) .z))))
theorem nO:CK fR:=ck fR Tryz.f113 lI [] [.cell 2 69,.tmp 3] (cc c73 (cc c88 (cc cD cn)))
def C57:Cal:=⟨57,[⟨.ro,.list 5 (.int .u8)⟩],[⟨T2,M2⟩,⟨.int .i64,.ro⟩],fun x=>HV x.1,0⟩
def H57:Hn:=(.e (.o [(0,.m' M2)]) (.e (.o [(4,.m' M2)]) .z))
theorem c57:CK C57:=ck C57 Tryz.f57 H57 [] [.cell 2 69,.tmp 3] (cc nO cn)
def C58:Cal:=⟨58,[⟨.ro,.list 5 (.int .u8)⟩],[⟨T2,.ro⟩,⟨.int .i64,.ro⟩],fun x=>Eg x.1,0⟩
def H58:Hn:=(.e (.o [(0,.m' M2)]) (.e .z (.e .z (.e (.o [(2,.m' M2),(3,.m' M2)]) (.e (.e .z (.n ⟨[],[],(some ⟨[.i 5,.box 2 true (T2) (M2),.box 6 true (T2) (M2)],[(2,⟨5,[]⟩),(6,⟨13,[]⟩)],[]⟩),true,[]⟩ (.j [.i 5,.i 7,.box 2 true (T2) (M2),.box 6 true (T2) (M2),.box 9 true (T10) (.ro)] [(2,⟨5,[]⟩),(4,⟨19,[]⟩),(6,⟨13,[]⟩)] (.e .z (.e (.e (.e (.j [.i 5,.i 7,.l 31,.box 2 true (T2) (M2),.box 6 true (T2) (M2),.box 9 true (T10) (.ro)] [(2,⟨5,[]⟩),(4,⟨19,[]⟩),(6,⟨13,[]⟩)] .z .z) (.e (.e (.o [(2,.g [.g 32] M2)]) .z) .z)) .z) .z)) .z) .z)) (.e (.n ⟨[.w 13 (.ro)],[],none,false,(tr 0 34 8 [(8,⟨[],M2,[2],[2],none⟩),(9,.t 3)])⟩ .z .z) .z))))))
theorem c58:CK C58:=ck C58 Tryz.f58 H58 [.w 5 (.ro)] [.cell 2 69,.tmp 3] (cc c73 (cc c88 (cc cD (cc c89 cn))))
def C59:Cal:=⟨59,[⟨.ro,.list 5 (.int .u8)⟩],[⟨T2,M2⟩],fun x=>Gg x.1,0⟩
def H59:Hn:=(.e (.o [(0,.m' M2)]) (.e (.o [(3,.m' M2)]) .z))
theorem c59:CK C59:=ck C59 Tryz.f59 H59 [] [.cell 2 69] (cc c73 (cc cD cn))
def C60:Cal:=⟨60,[⟨.ro,.list 5 (.int .u8)⟩],[⟨T11,.ro⟩],fun x=>Ff x.1,0⟩
def H60:Hn:=.z
theorem c60:CK C60:=ck C60 Tryz.f60 H60 [] [.cell 2 74] (cc c73 (cc c88 (cc YS cn)))
def C91:Cal:=⟨91,[⟨.ro,.int .i64⟩,⟨.ro,.int .i64⟩,⟨.ro,.int .i64⟩],[⟨.bool,.ro⟩],fun x=>BJ x.1 x.2.1 x.2.2.1,0⟩
def H91:Hn:=(.e .z (.e (.j [.l 6] [] .z .z) .z))
theorem c91:CK C91:=ck C91 Tryz.f91 H91 [] [.tmp 6] cn
def go:Cal:=⟨231,[⟨.ro,.int .i64⟩],[⟨.int .i64,.ro⟩,⟨.int .i64,.ro⟩],fun x=>La x.1,0⟩
def mi:Hn:=(.e .z (.e (.e .z (.e (.e (.e .z (.j [.i 4,.l 5] [] .z (.e .z (.j [.i 4,.l 5] [] .z (.e .z (.j [.i 4,.l 5] [] .z (.e .z (.j [.i 4,.l 5] [] .z (.e .z (.j [.i 4,.l 5] [] .z .z)))))))))) (.e .z (.e (.e .z (.j [.i 4,.l 12] [] .z (.e .z (.j [.i 4,.l 12] [] .z (.e .z (.j [.i 4,.l 12] [] .z .z)))))) .z))) .z)) .z))
theorem oV:CK go:=ck go Tryz.f231 mi [] [.tmp 2,.tmp 3] cn
def fP:Cal:=⟨106,[⟨.ro,.list 3 (.int .i64)⟩,⟨.ro,.int .i64⟩],[⟨.bool,.ro⟩],fun x=>Co x.1 x.2.1,0⟩
def lG:Hn:=(.e .z (.e (.e .z (.n ⟨[],[],(some ⟨[],[],[]⟩),true,[]⟩ (.j [.i 1,.snp 7 (.list 3 (.int .i64)) [],.i 8,.i 9] [] .z .z) .z)) .z))
theorem RW:CK fP:=ck fP Tryz.f106 lG [] [.tmp 4] cn
def hY:Cal:=⟨278,[⟨.ro,.int .i64⟩],[⟨.bool,.ro⟩],fun x=>Nm x.1,0⟩
def nF:Hn:=.z
theorem oi:CK hY:=ck hY Tryz.f278 nF [] [.tmp 2] (cc c91 cn)
def gm:Cal:=⟨227,[⟨.ro,.int .i64⟩],[⟨.bool,.ro⟩],fun x=>Hj x.1,0⟩
def mf:Hn:=.z
theorem jL:CK gm:=ck gm Tryz.f227 mf [] [.tmp 2] (cc c91 cn)
def gp:Cal:=⟨232,[⟨.ro,.int .i64⟩,⟨.ro,.int .i64⟩,⟨.ro,.int .i64⟩],[⟨.bool,.ro⟩],fun x=>Je x.1 x.2.1 x.2.2.1,0⟩
def mj:Hn:=(.e .z (.e (.e (.e .z (.e .z (.e (.j [.i 0,.i 2,.l 12] [] .z .z) .z))) .z) .z))
theorem oW:CK gp:=ck gp Tryz.f232 mj [] [.tmp 6] (cc oi (cc jL cn))
def gq:Cal:=⟨233,[⟨.ro,.int .i64⟩],[⟨.bool,.ro⟩],fun x=>Jd x.1,0⟩
def ml:Hn:=(.e .z (.e (.j [.l 2] [] .z .z) .z))
theorem oX:CK gq:=ck gq Tryz.f233 ml [] [.tmp 2] (cc c91 cn)
def gN:Cal:=⟨179,[⟨.ro,.int .u8⟩],[⟨.bool,.ro⟩],fun x=>Gu x.1,0⟩
def mG:Hn:=(.e .z (.e (.j [.l 2] [] .z .z) .z))
theorem ny:CK gN:=ck gN Tryz.f179 mG [] [.tmp 2] cn
def gO:Cal:=⟨180,[⟨.ro,.int .u8⟩],[⟨.bool,.ro⟩],fun x=>Ir x.1,0⟩
def mH:Hn:=(.e .z (.e (.j [.l 2] [] .z .z) .z))
theorem oA:CK gO:=ck gO Tryz.f180 mH [] [.tmp 2] cn
def gj:Cal:=⟨218,[⟨.ro,.str⟩,⟨.ro,.str⟩],[⟨.bool,.ro⟩],fun x=>LY x.1 x.2.1,0⟩
def mc:Hn:=(.e .z (.e (.e .z (.n ⟨[],[],(some ⟨[],[],[]⟩),true,[]⟩ (.j [.snp 0 (.str) [],.dat 8 (.list 9 (.str)) (.own (.ro)),.i 9,.i 10] [] .z .z) .z)) .z))
theorem oT:CK gj:=ck gj Tryz.f218 mc [] [.tmp 4] (cc c92 cn)
def gP:Cal:=⟨181,[⟨.ro,.str⟩],[⟨.bool,.ro⟩],fun x=>Ja x.1,0⟩
def mI:Hn:=.z
theorem oB:CK gP:=ck gP Tryz.f181 mI [] [.tmp 2] (cc oT cn)
def fj:Cal:=⟨137,[⟨.ro,.str⟩],[⟨.bool,.ro⟩],fun x=>Fa x.1,0⟩
def la:Hn:=(.e .z (.e (.e (.j [.snp 0 (.str) [],.l 13] [] .z .z) .z) (.e (.e .z (.n ⟨[],[],(some ⟨[.snp 0 (.str) []],[],[]⟩),true,[]⟩ (.j [.snp 0 (.str) [],.i 3] [] (.e .z (.e (.e (.e (.j [.snp 0 (.str) [],.i 3,.l 31] [] .z .z) .z) .z) .z)) .z) .z)) .z)))
theorem iz:CK fj:=ck fj Tryz.f137 la [] [.tmp 2] (cc c91 (cc ny (cc oA (cc oB cn))))
def gZ:Cal:=⟨203,[⟨.ro,.list 114 (T7)⟩,⟨.ro,.int .i64⟩],[⟨.bool,.ro⟩],fun x=>Kj x.1 x.2.1,0⟩
def mU:Hn:=(.e .z (.e .z (.e (.o [(4,.m' M7),(5,.m' M7)]) (.e .z (.e (.e (.j [.snp 0 (.list 114 (T7)) [],.i 1,.l 38,.box 5 true (T7) (.ro)] [(5,⟨11,[]⟩)] .z .z) .z) (.e (.e .z (.n ⟨[],[],(some ⟨[.box 5 true (T7) (.ro)],[(5,⟨11,[]⟩)],[]⟩),true,[]⟩ (.j [.snp 0 (.list 114 (T7)) [],.i 1,.snp 40 (.list 3 (.int .i64)) [],.i 41,.i 42,.box 5 true (T7) (.ro)] [(5,⟨11,[]⟩)] (.e .z (.e .z (.e (.e (.e .z (.e (.n ⟨[],[],(some ⟨[.snp 0 (.list 114 (T7)) [],.i 1,.snp 40 (.list 3 (.int .i64)) [],.i 41,.i 42,.l 71,.box 5 true (T7) (.ro)],[(5,⟨11,[]⟩)],[]⟩),false,(tr 0 47 25 [])⟩ .z .z) .z)) .z) .z))) .z) .z)) (.e (.e (.j [.l 91,.box 5 true (T7) (.ro)] [(5,⟨11,[]⟩)] .z .z) .z) .z)))))))
theorem oL:CK gZ:=ck gZ Tryz.f203 mU [] [.tmp 4] (cc c91 (cc oV (cc RW (cc oW (cc oX (cc iz cn))))))
def gG:Cal:=⟨170,[⟨.ro,.list 114 (T7)⟩,⟨.ro,.int .i64⟩],[⟨.list 3 (.int .i64),.own (.ro)⟩,⟨.bool,.ro⟩],fun x=>Nl x.1 x.2.1,0⟩
def mA:Hn:=(.e .z (.e .z (.e .z (.e (.e .z (.n ⟨[],[],(some ⟨[.d 6],[],[]⟩),true,[]⟩ (.j [.snp 0 (.list 114 (T7)) [],.i 1,.d 6,.i 7] [] (.e .z (.e (.n ⟨[],[],(some ⟨[.snp 0 (.list 114 (T7)) [],.i 1,.d 6,.i 7],[],[]⟩),true,[]⟩ (.e .z (.e .z (.e (.e .z (.j [.snp 0 (.list 114 (T7)) [],.i 1,.d 6,.i 7,.i 8] [] (.j [.snp 0 (.list 114 (T7)) [],.i 1,.d 6,.i 7,.i 8,.snp 30 (.list 3 (.int .i64)) [],.i 31,.i 32] [] .z .z) .z)) (.e .z (.n ⟨[],[.g 6],none,false,[(3,.g [.g 46] .ro)]⟩ .z .z))))) .z) .z)) .z) .z)) (.e (.k [.g 4]) .z)))))
theorem nr:CK gG:=ck gG Tryz.f170 mA [] [.tmp 4,.tmp 5] (cc c91 (cc oL cn))
def fb:Cal:=⟨126,[⟨.ro,.list 114 (T7)⟩,⟨.ro,.int .i64⟩],[⟨.int .i64,.ro⟩],fun x=>HB x.1 x.2.1,0⟩
def lT:Hn:=(.e .z (.e (.k [.g 5]) .z))
theorem cF:CK fb:=ck fb Tryz.f126 lT [] [.tmp 4] (cc nr cn)
def fY:Cal:=⟨121,[⟨.ro,.list 114 (T7)⟩,⟨.ro,.int .i64⟩],[⟨.list 3 (.int .i64),.own (.ro)⟩],fun x=>Jh x.1 x.2.1,0⟩
def lQ:Hn:=(.e .z (.e (.k [.g 5]) (.e (.e .z (.j [.d 5] [] (.j [.snp 0 (.list 114 (T7)) [],.d 5,.i 6] [] (.e .z (.e (.j [.snp 0 (.list 114 (T7)) [],.d 5,.i 6] [] (.e .z (.j [.snp 0 (.list 114 (T7)) [],.d 5,.i 6] [] (.j [.snp 0 (.list 114 (T7)) [],.d 5,.i 6,.snp 24 (.list 3 (.int .i64)) [],.i 25,.i 26] [] (.e .z (.e .z (.e (.e (.e .z (.e .z (.j [.snp 0 (.list 114 (T7)) [],.d 5,.i 6,.snp 24 (.list 3 (.int .i64)) [],.i 25,.i 26] [] (.n ⟨[],[.g 5],none,false,[(3,.g [.g 34] .ro)]⟩ .z .z) .z))) .z) .z))) .z) .z)) .z) .z)) .z) .z)) (.e .z (.e (.k [.g 4]) .z)))))
theorem iv:CK fY:=ck fY Tryz.f121 lQ [] [.tmp 4] (cc RW (cc cH cn))
def fw:Cal:=⟨155,[⟨.ro,T2⟩,⟨.ro,.int .i64⟩],[⟨.list 3 (.int .i64),.own (.ro)⟩],fun x=>Jb x.1 x.2.1,0⟩
def ll:Hn:=(.e (.o [(0,.m' M2)]) (.e .z (.e (.k [.g 4]) .z)))
theorem jC:CK fw:=ck fw Tryz.f155 ll [] [.tmp 4] (cc cF (cc iv cn))
def fT:Cal:=⟨116,[⟨.ro,T2⟩,⟨.ro,.int .i64⟩],[⟨.list 119 (T12),.own (.ro)⟩],fun x=>Ie x.1 x.2.1,0⟩
def lL:Hn:=(.e (.o [(0,.m' M2)]) (.e .z (.e .z (.e (.e .z (.j [.i 1,.dat 5 (.list 119 (T12)) (.own (.ro)),.box 2 true (T2) (.ro)] [(2,⟨5,[]⟩)] (.j [.i 1,.dat 5 (.list 119 (T12)) (.own (.ro)),.snp 23 (.list 156 (T17)) [],.i 24,.i 25,.box 2 true (T2) (.ro)] [(2,⟨5,[]⟩)] (.e .z (.e .z (.e (.e (.e .z (.n ⟨[],[.g 5],none,false,[(7,.g [.g 29] .ro)]⟩ .z .z)) .z) .z))) .z) .z)) (.e (.e (.o (tr 0 38 10 [])) (.j [.dat 5 (.list 119 (T12)) (.own (.ro))] [] (.j [.dat 5 (.list 119 (T12)) (.own (.ro)),.d 45,.i 46,.i 47,.box 2 true (T2) (.ro)] [(2,⟨5,[]⟩)] (.e .z (.e .z (.e (.e (.e .z (.e (.o [(5,.m' M7),(6,.m' M7)]) (.e .z (.j [.dat 5 (.list 119 (T12)) (.own (.ro)),.d 45,.i 46,.i 47,.box 2 true (T2) (.ro)] [(2,⟨5,[]⟩)] (.n ⟨[],[.g 5],none,false,[(6,.g [.g 59] .ro)]⟩ .z .z) .z)))) .z) .z))) .z) .z)) (.e (.k [.g 4]) .z))))))
theorem iq:CK fT:=ck fT Tryz.f116 lL [] [.tmp 4] (cc c91 (cc jC cn))
def gT:Cal:=⟨192,[⟨.ro,T2⟩,⟨.ro,.int .i64⟩],[⟨.list 3 (.int .i64),.own (.ro)⟩],fun x=>LZ x.1 x.2.1,0⟩
def mL:Hn:=(.e (.o [(0,.m' M2)]) (.e .z (.e (.k [.g 5]) (.e (.e .z (.j [.d 5] [] (.n ⟨[],[.g 5],none,false,[(8,.g [.g 27] .ro)]⟩ .z .z) .z)) (.e (.k [.g 4]) .z)))))
theorem oE:CK gT:=ck gT Tryz.f192 mL [] [.tmp 4] (cc c91 cn)
def fx:Cal:=⟨156,[⟨.ro,T2⟩,⟨.ro,.int .i64⟩],[⟨.list 3 (.int .i64),.own (.ro)⟩],fun x=>Hi x.1 x.2.1,0⟩
def lm:Hn:=(.e (.o [(0,.m' M2)]) (.e .z (.e (.e .z (.j [.d 5] [] (.j [.d 5,.d 12,.i 13,.i 14,.box 2 true (T2) (.ro)] [(2,⟨5,[]⟩)] (.e .z (.e .z (.e (.j [.d 5,.d 12,.i 13,.i 14,.box 2 true (T2) (.ro)] [(2,⟨5,[]⟩)] (.e .z (.e .z (.j [.d 5,.d 12,.i 13,.i 14,.box 2 true (T2) (.ro)] [(2,⟨5,[]⟩)] (.j [.d 5,.d 12,.i 13,.i 14,.d 20,.i 21,.i 22,.box 2 true (T2) (.ro)] [(2,⟨5,[]⟩)] (.e .z (.e .z (.e (.e (.e .z (.e .z (.j [.d 5,.d 12,.i 13,.i 14,.d 20,.i 21,.i 22,.box 2 true (T2) (.ro)] [(2,⟨5,[]⟩)] (.n ⟨[],[.g 5],none,false,[(3,.g [.g 30] .ro)]⟩ .z .z) .z))) .z) .z))) .z) .z))) .z) .z))) .z) .z)) (.e .z (.e (.k [.g 4]) .z)))))
theorem jD:CK fx:=ck fx Tryz.f156 lm [] [.tmp 4] (cc oE (cc jC (cc RW (cc cH cn))))
def bF:Cal:=⟨157,[⟨.ro,.int .i64⟩],[⟨.bool,.ro⟩],fun x=>LB x.1,0⟩
def ln:Hn:=(.e .z (.e (.j [.l 2] [] .z .z) .z))
theorem jE:CK bF:=ck bF Tryz.f157 ln [] [.tmp 2] (cc c91 cn)
def fU:Cal:=⟨117,[⟨.ro,T2⟩,⟨.ro,.int .i64⟩,⟨.ro,.str⟩],[⟨.list 3 (.int .i64),.own (.ro)⟩],fun x=>Kk x.1 x.2.1 x.2.2.1,0⟩
def lM:Hn:=(.e (.o [(0,.m' M2)]) (.e .z (.e (.e .z (.j [.d 7] [] (.j [.snp 2 (.str) [],.d 7,.d 13,.i 14,.i 15,.box 3 true (T2) (.ro)] [(3,⟨7,[]⟩)] (.e .z (.e .z (.e (.e (.e .z (.e (.o [(5,.m' M7),(6,.m' M7)]) (.e (.j [.snp 2 (.str) [],.d 7,.i 9,.d 13,.i 14,.i 15,.l 32,.box 3 true (T2) (.ro)] [(3,⟨7,[]⟩)] .z .z) (.j [.snp 2 (.str) [],.d 7,.d 13,.i 14,.i 15,.box 3 true (T2) (.ro)] [(3,⟨7,[]⟩)] (.n ⟨[],[.g 7],none,false,[(3,.g [.g 33] .ro)]⟩ .z .z) .z)))) .z) .z))) .z) .z)) (.e (.k [.g 6]) .z))))
theorem nP:CK fU:=ck fU Tryz.f117 lM [] [.tmp 6] (cc jD (cc jE cn))
def C62:Cal:=⟨62,[⟨.ro,T2⟩,⟨.ro,.int .i64⟩],[⟨.list 9 (.str),.own (.ro)⟩],fun x=>FM x.1 x.2.1,0⟩
def H62:Hn:=(.e (.o [(0,.m' M2)]) (.e .z (.e (.e .z (.j [.dat 5 (.list 9 (.str)) (.own (.ro))] [] (.j [.i 1,.dat 5 (.list 9 (.str)) (.own (.ro)),.dat 13 (.list 119 (T12)) (.own (.ro)),.i 14,.i 15,.box 2 true (T2) (.ro)] [(2,⟨5,[]⟩)] (.e .z (.e .z (.e (.j [.i 1,.dat 5 (.list 9 (.str)) (.own (.ro)),.dat 13 (.list 119 (T12)) (.own (.ro)),.i 14,.i 15,.box 2 true (T2) (.ro)] [(2,⟨5,[]⟩)] (.e .z (.e .z (.e (.e .z (.j [.i 1,.dat 5 (.list 9 (.str)) (.own (.ro)),.l 8,.dat 13 (.list 119 (T12)) (.own (.ro)),.i 14,.i 15,.box 2 true (T2) (.ro),.box 7 true (T12) (.ro)] [(2,⟨5,[]⟩),(7,⟨15,[]⟩)] (.j [.i 1,.dat 5 (.list 9 (.str)) (.own (.ro)),.l 8,.dat 13 (.list 119 (T12)) (.own (.ro)),.i 14,.i 15,.d 23,.i 24,.i 25,.box 2 true (T2) (.ro),.box 7 true (T12) (.ro)] [(2,⟨5,[]⟩),(7,⟨15,[]⟩)] (.e .z (.e .z (.e (.e (.e .z (.j [.i 1,.dat 5 (.list 9 (.str)) (.own (.ro)),.l 8,.dat 13 (.list 119 (T12)) (.own (.ro)),.i 14,.i 15,.d 23,.i 24,.i 25,.box 2 true (T2) (.ro),.box 7 true (T12) (.ro)] [(2,⟨5,[]⟩),(7,⟨15,[]⟩)] .z .z)) .z) .z))) .z) .z)) (.e .z (.j [.i 1,.dat 5 (.list 9 (.str)) (.own (.ro)),.dat 13 (.list 119 (T12)) (.own (.ro)),.i 14,.i 15,.box 2 true (T2) (.ro)] [(2,⟨5,[]⟩)] (.n ⟨[],[.g 5],none,false,[(4,.g [.g 42] .ro)]⟩ .z .z) .z))))) .z) .z))) .z) .z)) (.e (.k [.g 4]) .z))))
theorem c62:CK C62:=ck C62 Tryz.f62 H62 [] [.tmp 4] (cc iq (cc nP cn))
def fd:Cal:=⟨128,[⟨.ro,.list 114 (T7)⟩,⟨.ro,.int .i64⟩],[⟨.int .i64,.ro⟩],fun x=>Fc x.1 x.2.1,0⟩
def lU:Hn:=.z
theorem cG:CK fd:=ck fd Tryz.f128 lU [] [.tmp 4] (cc c82 (cc jI cn))
def TH:List Prm:=[⟨.ro,.list 114 (T7)⟩,⟨.ro,.int .i64⟩,⟨.inp (.own (.ro)),.list 4 (.bool)⟩]
def Xz:List Ret:=[]
def VJ (n:Nat):Cal:=⟨169,TH,Xz,fun x=>(EU n).1 x.1 x.2.1 x.2.2.1,0⟩
def iM:Hn:=(.e .z (.e (.o [(3,⟨[],.ro,[],[],some 5⟩)]) (.e .z (.j [.box 2 false (.list 4 (.bool)) (.own (.ro))] [] (.n ⟨[],[],(some ⟨[.snp 0 (.list 114 (T7)) [],.i 1,.i 6,.box 2 false (.list 4 (.bool)) (.own (.ro))],[],[(2,2)]⟩),false,[]⟩ .z .z) .z))))
def bZ (n:Nat):Env:=⟨tab,[VJ n],3,35⟩
theorem oz:(fun(n:Nat) (x:HL (pts TH))=>den (bZ n) (Tryz.f169.body.getD .skip) iM (DL 0 35 TH x) (Be tab [] TH Xz []) (fun _ _=>none) (Be tab [] TH Xz []))=fun n=>(VJ (n+1)).F:=by kernel_rfl
theorem kF:∀ n,Cok Tryz.prog (VJ n):=by
 intro n
 induction n with
 | zero=>exact Bs (fn:=Tryz.f169) (by kernel_rfl) (by kernel_rfl) (by kernel_rfl) (fun _=>rfl)
 | succ n ih=>
  have h169:=ih
  refine ?_
  ·exact BN (E:=bZ n) (c:=VJ (n+1)) (fn:=Tryz.f169) (code:=Tryz.f169.body.getD .skip) (hn:=iM) (gr:=[]) (is:=[]) ⟨DR,(fun c hc=>by simp only [bZ,List.mem_cons,List.not_mem_nil,or_false] at hc;rcases hc with rfl<;>assumption),Dp⟩ ⟨by kernel_rfl,by kernel_rfl,by kernel_rfl,by kernel_rfl,by kernel_rfl,Nat.le_of_ble_eq_true rfl,by kernel_rfl⟩ (by kernel_rfl) (fun x y h=>(congrFun (congrFun oz n) x).trans h)
def kq:Cal:=⟨169,TH,Xz,fun x=>Mi x.1 x.2.1 x.2.2.1,0⟩
theorem no:Cok Tryz.prog kq:=CP (F:=fun n=>(VJ n).F) (fun n=>(kF n))
def fa:Cal:=⟨124,[⟨.ro,T2⟩,⟨.ro,.int .i64⟩],[⟨.list 3 (.int .i64),.own (.ro)⟩],fun x=>Gi x.1 x.2.1,0⟩
def lS:Hn:=(.e (.o [(0,.m' M2)]) (.e (.k [.g 5]) (.e (.e .z (.e (.e (.k [.g 4]) .z) .z)) (.e (.k [.g 6]) (.e .z (.e (.e .z (.j [.d 5] [] (.j [.d 5,.dat 6 (.list 4 (.bool)) (.own (.ro)),.i 7] [] (.e .z (.e (.e (.e .z (.j [.d 5,.dat 6 (.list 4 (.bool)) (.own (.ro)),.i 7] [] (.n ⟨[],[.g 5],none,false,[(3,.g [.g 34] .ro)]⟩ .z .z) .z)) .z) .z)) .z) .z)) (.e (.k [.g 4]) .z)))))))
theorem cE:CK fa:=ck fa Tryz.f124 lS [] [.tmp 4] (cc cG (cc no cn))
def fV:Cal:=⟨118,[⟨.ro,T2⟩,⟨.ro,.int .i64⟩],[⟨.list 119 (T12),.own (.ro)⟩],fun x=>Ii x.1 x.2.1,0⟩
def lN:Hn:=(.e (.o [(0,.m' M2)]) (.e (.k [.g 5]) (.e (.e .z (.e (.e (.k [.g 4]) .z) .z)) (.e (.o [(5,.m' M6),(6,.m' M6)]) (.e (.e .z (.j [.dat 5 (.list 119 (T12)) (.own (.ro)),.box 2 true (T2) (.ro),.box 6 true (T6) (.ro)] [(2,⟨5,[]⟩),(6,⟨13,[]⟩)] (.j [.dat 5 (.list 119 (T12)) (.own (.ro)),.i 7,.box 2 true (T2) (.ro),.box 6 true (T6) (.ro)] [(2,⟨5,[]⟩),(6,⟨13,[]⟩)] (.e .z (.e (.e (.n ⟨[],[.g 5],none,false,(tr 0 31 15 [(15,⟨[.g 31],.ro,[5,31,46],[],none⟩),(16,.t 5)])⟩ .z .z) .z) .z)) .z) .z)) (.e (.k [.g 8]) (.e (.e .z (.j [.dat 5 (.list 119 (T12)) (.own (.ro))] [] (.j [.dat 5 (.list 119 (T12)) (.own (.ro)),.d 8,.i 9,.box 2 true (T2) (.ro)] [(2,⟨5,[]⟩)] (.e .z (.e (.e (.e (.o (tr 0 57 10 [])) (.j [.dat 5 (.list 119 (T12)) (.own (.ro)),.d 8,.i 9,.box 2 true (T2) (.ro)] [(2,⟨5,[]⟩)] (.n ⟨[],[.g 5],none,false,(tr 0 67 16 [(16,⟨[.g 67],.ro,[5,67,83],[],none⟩),(17,.t 5)])⟩ .z .z) .z)) .z) .z)) .z) .z)) (.e (.k [.g 4]) .z))))))))
theorem ir:CK fV:=ck fV Tryz.f118 lN [] [.tmp 4] (cc c82 (cc cE cn))
def fy:Cal:=⟨158,[⟨.ro,T2⟩,⟨.ro,.int .i64⟩],[⟨.list 3 (.int .i64),.own (.ro)⟩],fun x=>Ik x.1 x.2.1,0⟩
def lp:Hn:=(.e (.o [(0,.m' M2)]) (.e (.k [.g 5]) (.e (.e .z (.e (.e (.k [.g 4]) .z) .z)) (.e (.n ⟨[],[.g 6],none,false,(tr 0 19 8 [(8,.t 6)])⟩ .z .z) (.e (.n ⟨[],[.g 7],none,false,(tr 0 27 8 [(8,.t 7)])⟩ .z .z) (.e .z (.e .z (.e (.j [.d 5] [] (.j [.d 5,.d 6,.d 7,.i 8,.i 9] [] (.e (.e (.j [.d 5,.d 6,.d 7,.i 8,.i 9,.l 44] [] .z .z) .z) (.j [.d 5,.d 6,.d 7,.i 8,.i 9] [] (.e (.e (.n ⟨[],[],(some ⟨[.d 5,.d 6,.d 7,.i 8,.i 9,.l 65],[],[]⟩),false,(tr 0 45 21 [])⟩ .z .z) (.e (.e (.n ⟨[],[.g 5],none,false,[(6,.g [.g 66] .ro)]⟩ .z .z) .z) .z)) (.e (.e (.n ⟨[],[],(some ⟨[.d 5,.d 6,.d 7,.i 8,.i 9,.l 89],[],[]⟩),false,(tr 0 75 15 [])⟩ .z .z) (.j [.d 5,.d 6,.d 7,.i 8,.i 9] [] .z .z)) (.e (.n ⟨[],[.g 5],none,false,[(6,.g [.g 92] .ro)]⟩ .z .z) .z))) .z)) .z) .z) (.e (.k [.g 4]) .z)))))))))
theorem jF:CK fy:=ck fy Tryz.f158 lp [] [.tmp 4] (cc c82 (cc cE cn))
def gA:Cal:=⟨159,[⟨.ro,.int .i64⟩],[⟨.bool,.ro⟩],fun x=>Jz x.1,0⟩
def lq:Hn:=(.e .z (.e (.e .z (.e (.e (.e .z (.j [.l 4] [] .z (.e .z (.j [.l 4] [] .z (.e .z (.j [.l 4] [] .z (.e .z (.j [.l 4] [] .z (.e .z (.j [.l 4] [] .z (.e .z (.j [.l 4] [] .z .z)))))))))))) .z) .z)) .z))
theorem nf:CK gA:=ck gA Tryz.f159 lq [] [.tmp 2] cn
def fW:Cal:=⟨119,[⟨.ro,T2⟩,⟨.ro,.int .i64⟩,⟨.ro,.str⟩],[⟨.list 3 (.int .i64),.own (.ro)⟩],fun x=>Kn x.1 x.2.1 x.2.2.1,0⟩
def lO:Hn:=(.e (.o [(0,.m' M2)]) (.e (.k [.g 7]) (.e (.k [.g 8]) (.e (.e .z (.j [.d 7] [] (.j [.snp 2 (.str) [],.d 7,.d 8,.i 9,.box 3 true (T2) (.ro)] [(3,⟨7,[]⟩)] (.e .z (.e (.e (.e (.n ⟨[],[],(some ⟨[.snp 2 (.str) [],.d 7,.d 8,.i 9,.l 42,.box 3 true (T2) (.ro)],[(3,⟨7,[]⟩)],[]⟩),false,(tr 0 20 23 [])⟩ .z .z) (.j [.snp 2 (.str) [],.d 7,.d 8,.i 9,.box 3 true (T2) (.ro)] [(3,⟨7,[]⟩)] (.n ⟨[],[.g 7],none,false,[(6,.g [.g 43] .ro)]⟩ .z .z) .z)) .z) .z)) .z) .z)) (.e (.k [.g 6]) .z)))))
theorem nQ:CK fW:=ck fW Tryz.f119 lO [] [.tmp 6] (cc jF (cc nf cn))
end
end Go.Proofs.YtmakhmoielhjeaaGreatDoorE

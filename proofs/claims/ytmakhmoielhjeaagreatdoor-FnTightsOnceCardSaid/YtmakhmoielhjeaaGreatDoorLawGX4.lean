/- The functions of X reckon so (4). No condition. -/
import Derived.Test.YtmakhmoielhjeaaGreatDoorLawGX3
set_option linter.all false
namespace Go.Proofs.YtmakhmoielhjeaaGreatDoorE
noncomputable section
set_option maxRecDepth 100000
def cW:Cal:=⟨178,[⟨.ro,T2⟩,⟨.ro,.int .i64⟩],[⟨T3,M3⟩,⟨.bool,.ro⟩],fun x=>KC x.1 x.2.1,0⟩
def iv:Hn:=(.e (.o [(0,.m' M2),(1,.m' M3)]) (.e (.o [(5,.m' M6),(6,.m' M6)]) (.e (.k [.g 7]) (.e (.n ⟨[.z 7],[],none,false,[(7,.m' M3),(8,.m' M0),(9,.m' M0)]⟩ .z .z) (.e (.e .z (.j [.box 4 true (T3) (M3),.box 6 true (T6) (.ro),.box 33 true (T0) (.pr (.ro) (.pr (.ro) (M3)))] [(4,⟨9,[]⟩),(6,⟨13,[]⟩),(9,⟨67,[]⟩)] (.j [.snp 7 (.list 119 (T12)) [],.i 10,.box 4 true (T3) (M3),.box 6 true (T6) (.ro),.box 33 true (T0) (.pr (.ro) (.pr (.ro) (M3)))] [(4,⟨9,[]⟩),(6,⟨13,[]⟩),(9,⟨67,[]⟩)] .z .z) .z)) (.e .z (.e .z (.e (.e .z (.j [.i 11,.box 4 true (T3) (M3),.box 6 true (T6) (.ro),.box 33 true (T0) (.pr (.ro) (.pr (.ro) (M3)))] [(4,⟨9,[]⟩),(6,⟨13,[]⟩),(9,⟨67,[]⟩)] .z .z)) (.e .z (.e (.e .z (.j [.i 11,.box 4 true (T3) (M3),.box 33 true (T0) (.pr (.ro) (.pr (.ro) (M3)))] [(4,⟨9,[]⟩),(9,⟨67,[]⟩)] (.j [.i 11,.i 12,.box 4 true (T3) (M3),.box 6 true (T6) (.ro),.box 33 true (T0) (.pr (.ro) (.pr (.ro) (M3)))] [(4,⟨9,[]⟩),(6,⟨13,[]⟩),(9,⟨67,[]⟩)] (.e .z (.e (.e (.e .z (.j [.i 11,.i 12,.box 4 true (T3) (M3),.box 6 true (T6) (.ro),.box 33 true (T0) (.pr (.ro) (.pr (.ro) (M3)))] [(4,⟨9,[]⟩),(6,⟨13,[]⟩),(9,⟨67,[]⟩)] (.o [(2,.m' M5)]) .z)) .z) .z)) .z) .z)) (.e (.o [(2,.m' M5)]) (.e (.e .z (.e (.e (.o [(0,.m' M3),(1,.m' M3)]) .z) .z)) (.e (.o [(4,.g [.g 95] M3)]) .z)))))))))))))
theorem kN:CK cW:=ck cW Tryz.f178 iv [] [.cell 4 27,.tmp 5] (cc eW (cc eX (cc kb (cc eY (cc eZ (cc Vc (cc c15 cn)))))))
def cD:Cal:=⟨135,[⟨.ro,T2⟩],[⟨.list 27 (T3),.own (M3)⟩,⟨.bool,.ro⟩],fun x=>HQ x.1,0⟩
def iR:Hn:=(.e (.o [(0,.m' M2)]) (.e (.n ⟨[],[.g 4],none,false,[(0,.m' M3)]⟩ .z .z) (.e (.e .z (.e (.e (.k [.g 2]) .z) .z)) (.e (.e .z (.n ⟨[],[],(some ⟨[.dat 4 (.list 27 (T3)) (.own (M3))],[],[]⟩),true,[]⟩ (.j [.dat 4 (.list 27 (T3)) (.own (M3)),.i 5,.box 1 true (T2) (.ro)] [(1,⟨3,[]⟩)] (.e .z (.e (.e (.e (.o [(6,.m' M3),(7,.m' M3)]) (.e (.e .z (.e (.e (.n ⟨[],[.g 2],none,false,[(0,.m' M3)]⟩ .z .z) .z) .z)) (.n ⟨[],[.g 4],none,false,[(2,.g [.g 30] M3),(3,.g [.g 29] M3)]⟩ .z .z))) .z) .z)) .z) .z)) (.e (.k [.g 2]) .z)))))
theorem jz:CK cD:=ck cD Tryz.f135 iR [] [.tmp 2,.tmp 3] (cc kM (cc kN cn))
def C75:Cal:=⟨75,[⟨.ptr (.ro),T10⟩],[⟨T3,.ro⟩],fun x=>DG x.1,0⟩
def H75:Hn:=(.e (.o [(0,.m' M3)]) (.e (.o [(2,.m' M2),(3,.m' M2)]) (.e (.k [.g 4]) (.e (.e .z (.e (.e (.o [(1,.m' M5),(2,.m' M5),(3,.m' M5),(4,.m' M5),(5,.m' M3),(6,.m' M3)]) .z) .z)) (.e (.e .z (.e (.e (.n ⟨[.w 8 (.ro)],[],none,false,[(7,.m' M3)]⟩ .z .z) .z) .z)) (.e (.n ⟨[.w 8 (.ro)],[],none,false,[(6,.m' M3)]⟩ .z .z) .z))))))
theorem c75:CK C75:=ck C75 Tryz.f75 H75 [.w 5 (.ro)] [.cell 2 27] (cc jy (cc jz (cc c89 (cc c88 cn))))
def cP:Cal:=⟨152,[⟨.ro,.list 38 (T5)⟩],[⟨.list 38 (T5),.own (M5)⟩],fun x=>HV x.1,0⟩
def ij:Hn:=(.e .z (.e (.n ⟨[],[.g 3],none,false,[(0,.m' M5)]⟩ .z .z) (.e (.e .z (.j [.dat 3 (.list 38 (T5)) (.own (M5))] [] (.j [.snp 0 (.list 38 (T5)) [],.dat 3 (.list 38 (T5)) (.own (M5)),.i 4] [] (.e .z (.e (.e (.e (.o [(4,.m' M5),(5,.m' M5)]) (.e (.o [(5,.m' (.own (.ro)))]) (.n ⟨[],[.g 3],none,false,[(2,.g [.g 23] M5),(3,.g [.g 22] M5)]⟩ .z .z))) .z) .z)) .z) .z)) (.e (.k [.g 2]) .z))))
theorem kH:CK cP:=ck cP Tryz.f152 ij [] [.tmp 2] cn
def bt:Cal:=⟨109,[⟨.ro,T3⟩],[⟨T3,M3⟩],fun x=>Gc x.1,0⟩
def iG:Hn:=(.e (.o [(0,.m' M3),(1,.m' M3)]) (.e (.o [(1,.m' M3),(2,.m' M3)]) (.e (.o [(5,.m' (.own (.ro)))]) (.e (.o [(4,.m' (.own (M5)))]) (.e (.o [(1,.g [.g 14] M3)]) .z)))))
theorem eI:CK bt:=ck bt Tryz.f109 iG [] [.cell 2 27] (cc kH cn)
def C85:Cal:=⟨85,[⟨.ptr (.ro),T10⟩],[⟨T3,M3⟩],fun x=>JF x.1,0⟩
def H85:Hn:=(.e (.o [(0,.m' M3)]) (.e .z (.e .z (.e (.o [(3,.m' M3),(4,.m' M3)]) (.e .z (.e (.e .z (.e (.e .z (.j [.box 0 true (T10) (.ro),.box 2 true (T3) (M3),.box 5 true (T3) (M3)] [(2,⟨5,[]⟩),(5,⟨11,[]⟩)] (.o [(7,⟨[],.ro,[],[],some 11⟩)]) (.e .z (.j [.box 0 true (T10) (.ro),.box 2 true (T3) (M3),.box 5 true (T3) (M3)] [(2,⟨5,[]⟩),(5,⟨11,[]⟩)] (.o [(8,⟨[],.ro,[],[],some 11⟩)]) (.e .z (.j [.box 0 true (T10) (.ro),.box 2 true (T3) (M3),.box 5 true (T3) (M3)] [(2,⟨5,[]⟩),(5,⟨11,[]⟩)] (.o [(7,⟨[],.ro,[],[],some 11⟩)]) (.e .z (.j [.box 0 true (T10) (.ro),.box 2 true (T3) (M3),.box 5 true (T3) (M3)] [(2,⟨5,[]⟩),(5,⟨11,[]⟩)] (.o [(6,⟨[],.ro,[],[],some 11⟩)]) (.e .z (.j [.box 0 true (T10) (.ro),.box 2 true (T3) (M3),.box 5 true (T3) (M3)] [(2,⟨5,[]⟩),(5,⟨11,[]⟩)] (.n ⟨[.s 1 5 [.s,.s,.s]],[.u 1 [.s,.s,.s]],none,false,[(0,.t 58),(1,⟨[],.hole,[59],[],none⟩),(2,.t 60),(3,.t 61),(4,⟨[],.hole,[62],[],none⟩),(5,.t 63),(6,.t 64),(7,.t 65),(8,.t 66),(9,.t 67),(10,.t 68),(11,.t 69),(12,⟨[],.hole,[64,65,66,70],[1],none⟩),(13,.t 71),(14,.t 72),(15,⟨[],.hole,[70,71,72],[1],some 3⟩)]⟩ .z .z) (.e .z (.j [.box 0 true (T10) (.ro),.box 2 true (T3) (M3),.box 5 true (T3) (M3)] [(2,⟨5,[]⟩),(5,⟨11,[]⟩)] .z (.e .z (.j [.box 0 true (T10) (.ro),.box 2 true (T3) (M3),.box 5 true (T3) (M3)] [(2,⟨5,[]⟩),(5,⟨11,[]⟩)] (.o [(5,.g [.g 81] .ro),(7,.m' (.own (.ro)))]) (.e .z (.j [.box 0 true (T10) (.ro),.box 2 true (T3) (M3),.box 5 true (T3) (M3)] [(2,⟨5,[]⟩),(5,⟨11,[]⟩)] (.o [(3,.m' M5),(5,⟨[],M5,[],[],some 11⟩)]) .z)))))))))))))))) .z)) (.e (.o [(1,.g [.g 94] M3)]) .z)))))))
theorem c85:CK C85:=ck C85 Tryz.f85 H85 [] [.cell 2 27] (cc c88 (cc c75 (cc eI cn)))
def cB:Cal:=⟨133,[⟨.ptr (.ro),T10⟩,⟨.mov (.own (.ro)),.list 3 (.int .i64)⟩],[⟨.int .i64,.ro⟩],fun x=>GH x.1 x.2.1,0⟩
def iP:Hn:=.z
theorem jx:CK cB:=ck cB Tryz.f133 iP [] [.tmp 4] (cc c88 cn)
def C74:Cal:=⟨74,[⟨.ptr (.ro),T10⟩],[⟨T3,M3⟩],fun x=>JG x.1,0⟩
def H74:Hn:=(.e (.o [(0,.m' M3)]) (.e (.e .z (.e (.e (.o [(2,.m' M3)]) .z) .z)) (.e (.o [(3,.m' M3),(4,.m' M3)]) (.e .z (.e (.e .z (.j [.box 0 true (T10) (.ro),.box 2 true (T3) (M3),.box 3 true (T3) (M3)] [(2,⟨5,[]⟩),(3,⟨7,[]⟩)] (.j [.i 4,.i 5,.box 0 true (T10) (.ro),.box 2 true (T3) (M3),.box 3 true (T3) (M3)] [(0,⟨1,[]⟩),(2,⟨5,[]⟩),(3,⟨7,[]⟩)] (.e .z (.e (.e (.e .z (.e (.j [.i 4,.i 5,.i 6,.l 35,.box 0 true (T10) (.ro),.box 2 true (T3) (M3),.box 3 true (T3) (M3)] [(0,⟨1,[]⟩),(2,⟨5,[]⟩),(3,⟨7,[]⟩)] .z .z) (.j [.i 4,.i 5,.box 0 true (T10) (.ro),.box 2 true (T3) (M3),.box 3 true (T3) (M3)] [(0,⟨1,[]⟩),(2,⟨5,[]⟩),(3,⟨7,[]⟩)] (.o (tr 0 36 5 [(5,⟨[],.ro,[0,39,40,41],[0],none⟩),(6,.t 42),(7,.t 43),(8,⟨[],.ro,[0,39,44],[0],none⟩),(9,⟨[],M5,[45],[],none⟩),(10,.t 46),(11,⟨[],M5,[3,36,37,45,46],[3],some 7⟩)])) .z))) .z) .z)) .z) .z)) (.e (.o [(1,.g [.g 47] M3)]) .z))))))
theorem c74:CK C74:=ck C74 Tryz.f74 H74 [] [.cell 2 27] (cc c89 (cc c85 (cc c75 (cc eI (cc c88 (cc jx cn))))))
def C10:Cal:=⟨10,[⟨.ro,.list 5 (.int .u8)⟩],[⟨T3,.ro⟩],fun x=>Gk x.1,0⟩
def H10:Hn:=(.e (.o [(0,.m' M3)]) (.e .z (.e (.o [(2,.m' M3),(3,.m' M3)]) (.e (.e .z (.e (.e (.o [(2,.m' M3)]) .z) .z)) (.e (.o [(1,.g [.g 14] M3)]) .z)))))
theorem c10:CK C10:=ck C10 Tryz.f10 H10 [.w 5 (.ro)] [.cell 2 27] (cc c73 (cc c74 (cc c15 (cc c75 cn))))
def cE:Cal:=⟨136,[⟨.ro,.list 3 (.int .i64)⟩],[⟨.list 3 (.int .i64),.own (.ro)⟩],fun x=>Fj x.1,0⟩
def iU:Hn:=(.e .z (.e (.k [.g 2]) .z))
theorem kA:CK cE:=ck cE Tryz.f136 iU [] [.tmp 2] cn
def C76:Cal:=⟨76,[⟨.ro,T3⟩],[⟨T3,M3⟩],fun x=>EM x.1,0⟩
def H76:Hn:=(.e (.o [(0,.m' M3),(1,.m' M3)]) (.e (.o [(4,.m' (.own (.ro)))]) (.e .z (.e (.e .z (.j [.dat 3 (.list 38 (T5)) (.own (M5)),.box 1 true (T3) (.pr (.ro) (M6)),.box 2 true (T3) (M3)] [(1,⟨3,[]⟩),(2,⟨5,[]⟩)] (.j [.dat 3 (.list 38 (T5)) (.own (M5)),.snp 11 (.list 38 (T5)) [],.i 12,.i 13,.box 1 true (T3) (.pr (.ro) (M6)),.box 2 true (T3) (M3)] [(1,⟨3,[]⟩),(2,⟨5,[]⟩)] (.e .z (.e .z (.e (.e (.e (.o [(2,.m' M5),(3,.m' M5)]) (.e (.o [(4,.m' (.own (.ro)))]) (.n ⟨[],[.g 3],none,false,[(2,.g [.g 22] M5),(3,.g [.g 21] M5)]⟩ .z .z))) .z) .z))) .z) .z)) (.e (.o [(2,.g [.g 26] (.own (M5)))]) (.e (.o [(1,.g [.g 28] M3)]) .z))))))
theorem c76:CK C76:=ck C76 Tryz.f76 H76 [] [.cell 2 27] (cc kA cn)
def C91:Cal:=⟨91,[⟨.ro,.int .i64⟩,⟨.ro,.int .i64⟩,⟨.ro,.int .i64⟩],[⟨.bool,.ro⟩],fun x=>Cd x.1 x.2.1 x.2.2.1,0⟩
def H91:Hn:=(.e .z (.e (.j [.l 6] [] .z .z) .z))
theorem c91:CK C91:=ck C91 Tryz.f91 H91 [] [.tmp 6] cn
def cX:Cal:=⟨179,[⟨.ro,.int .u8⟩],[⟨.bool,.ro⟩],fun x=>Fk x.1,0⟩
def iw:Hn:=(.e .z (.e (.j [.l 2] [] .z .z) .z))
theorem kO:CK cX:=ck cX Tryz.f179 iw [] [.tmp 2] cn
def cY:Cal:=⟨180,[⟨.ro,.int .u8⟩],[⟨.bool,.ro⟩],fun x=>HN x.1,0⟩
def iy:Hn:=(.e .z (.e (.j [.l 2] [] .z .z) .z))
theorem kP:CK cY:=ck cY Tryz.f180 iy [] [.tmp 2] cn
def cv:Cal:=⟨218,[⟨.ro,.str⟩,⟨.ro,.str⟩],[⟨.bool,.ro⟩],fun x=>Jq x.1 x.2.1,0⟩
def jO:Hn:=(.e .z (.e (.e .z (.n ⟨[],[],(some ⟨[],[],[]⟩),true,[]⟩ (.j [.snp 0 (.str) [],.dat 8 (.list 9 (.str)) (.own (.ro)),.i 9,.i 10] [] .z .z) .z)) .z))
theorem kc:CK cv:=ck cv Tryz.f218 jO [] [.tmp 4] (cc c92 cn)
def cZ:Cal:=⟨181,[⟨.ro,.str⟩],[⟨.bool,.ro⟩],fun x=>ID x.1,0⟩
def iz:Hn:=.z
theorem kQ:CK cZ:=ck cZ Tryz.f181 iz [] [.tmp 2] (cc kc cn)
def cF:Cal:=⟨137,[⟨.ro,.str⟩],[⟨.bool,.ro⟩],fun x=>HH x.1,0⟩
def iW:Hn:=(.e .z (.e (.e (.j [.snp 0 (.str) [],.l 13] [] .z .z) .z) (.e (.e .z (.n ⟨[],[],(some ⟨[.snp 0 (.str) []],[],[]⟩),true,[]⟩ (.j [.snp 0 (.str) [],.i 3] [] (.e .z (.e (.e (.e (.j [.snp 0 (.str) [],.i 3,.l 31] [] .z .z) .z) .z) .z)) .z) .z)) .z)))
theorem eO:CK cF:=ck cF Tryz.f137 iW [] [.tmp 2] (cc c91 (cc kO (cc kP (cc kQ cn))))
def C93:Cal:=⟨93,[⟨.ro,.int .i64⟩],[⟨.bool,.ro⟩],fun x=>LH x.1,0⟩
def H93:Hn:=(.e .z (.e (.j [.l 2] [] .z .z) .z))
theorem c93:CK C93:=ck C93 Tryz.f93 H93 [] [.tmp 2] (cc c91 cn)
def cd:Cal:=⟨182,[⟨.ro,T3⟩,⟨.ro,.int .i64⟩,⟨.ro,.bool⟩],[⟨.bool,.ro⟩],fun x=>CY x.1 x.2.1 x.2.2.1,0⟩
def jA:Hn:=(.e (.o [(0,.m' M3)]) .z)
theorem kR:CK cd:=ck cd Tryz.f182 jA [] [.tmp 6] (cc c91 cn)
def C95:Cal:=⟨95,[⟨.ro,.int .i64⟩],[⟨.bool,.ro⟩],fun x=>JP x.1,0⟩
def H95:Hn:=(.e .z (.e (.j [.l 2] [] .z .z) .z))
theorem c95:CK C95:=ck C95 Tryz.f95 H95 [] [.tmp 2] (cc c91 cn)
def C96:Cal:=⟨96,[⟨.ro,.int .i64⟩],[⟨.bool,.ro⟩],fun x=>JQ x.1,0⟩
def H96:Hn:=.z
theorem c96:CK C96:=ck C96 Tryz.f96 H96 [] [.tmp 2] (cc c91 cn)
def cG:Cal:=⟨138,[⟨.ro,T3⟩,⟨.ro,T5⟩],[⟨.bool,.ro⟩],fun x=>Iw x.1 x.2.1,0⟩
def iX:Hn:=(.e (.o [(0,.m' M3),(1,.m' M5)]) (.e .z (.e (.j [.l 5,.box 2 true (T3) (.ro),.box 3 true (T5) (.ro)] [(2,⟨5,[]⟩),(3,⟨7,[]⟩)] .z .z) (.e (.e (.n ⟨[],[],(some ⟨[.l 57,.box 2 true (T3) (.ro),.box 3 true (T5) (.ro)],[(2,⟨5,[]⟩),(3,⟨7,[]⟩)],[]⟩),false,(tr 0 26 32 [])⟩ .z .z) .z) (.e .z (.e (.e .z (.e (.e .z (.j [.i 6,.box 2 true (T3) (.ro),.box 3 true (T5) (.ro)] [(2,⟨5,[]⟩),(3,⟨7,[]⟩)] .z (.e (.e .z (.j [.i 6,.l 62,.box 2 true (T3) (.ro),.box 3 true (T5) (.ro)] [(2,⟨5,[]⟩),(3,⟨7,[]⟩)] .z .z)) (.j [.i 6,.box 2 true (T3) (.ro),.box 3 true (T5) (.ro)] [(2,⟨5,[]⟩),(3,⟨7,[]⟩)] .z .z)))) .z)) (.e .z (.e (.e .z (.e (.e (.j [.l 4] [] .z .z) .z) .z)) (.e (.e .z (.n ⟨[],[],(some ⟨[.box 3 true (T5) (.ro)],[(3,⟨7,[]⟩)],[]⟩),true,[]⟩ (.j [.snp 87 (.list 3 (.int .i64)) [],.i 88,.i 89,.box 2 true (T3) (.ro),.box 3 true (T5) (.ro)] [(2,⟨5,[]⟩),(3,⟨7,[]⟩)] .z .z) .z)) (.e (.j [.l 4] [] .z .z) .z))))))))))
theorem kB:CK cG:=ck cG Tryz.f138 iX [] [.tmp 4] (cc c91 (cc c93 (cc kR (cc c95 (cc c96 (cc eO cn))))))
def C77:Cal:=⟨77,[⟨.ro,T3⟩],[⟨.bool,.ro⟩],fun x=>Fs x.1,0⟩
def H77:Hn:=(.e (.o [(0,.m' M3)]) (.e .z (.e (.e (.j [.l 44,.box 1 true (T3) (.ro)] [(1,⟨3,[]⟩)] .z .z) .z) (.e (.e .z (.n ⟨[],[],(some ⟨[.box 1 true (T3) (.ro)],[(1,⟨3,[]⟩)],[]⟩),true,[]⟩ (.j [.snp 46 (.list 3 (.int .i64)) [],.i 47,.i 48,.box 1 true (T3) (.ro)] [(1,⟨3,[]⟩)] .z .z) .z)) (.e (.e .z (.n ⟨[],[],(some ⟨[],[],[]⟩),true,[]⟩ (.j [.snp 57 (.list 38 (T5)) [],.i 58,.i 59,.box 1 true (T3) (.ro)] [(1,⟨3,[]⟩)] (.e .z (.e .z (.e (.e (.e (.o [(2,.m' M5),(3,.m' M5)]) .z) .z) .z))) .z) .z)) .z)))))
theorem c77:CK C77:=ck C77 Tryz.f77 H77 [] [.tmp 2] (cc eO (cc c91 (cc kB cn)))
def C78:Cal:=⟨78,[⟨.ro,T3⟩,⟨.ro,.int .i64⟩],[⟨.int .i64,.ro⟩,⟨.bool,.ro⟩],fun x=>Jp x.1 x.2.1,0⟩
def H78:Hn:=(.e (.o [(0,.m' M3)]) (.e (.e .z (.n ⟨[],[],(some ⟨[],[],[]⟩),true,[]⟩ (.j [.i 1,.i 9,.i 10,.box 2 true (T3) (.ro)] [(2,⟨5,[]⟩)] .z .z) .z)) .z))
theorem c78:CK C78:=ck C78 Tryz.f78 H78 [] [.tmp 4,.tmp 5] cn
def C11:Cal:=⟨11,[⟨.ro,T3⟩],[⟨T3,M3⟩],fun x=>DT x.1,0⟩
def H11:Hn:=(.e (.o [(0,.m' M3),(1,.m' M3)]) (.e (.o [(2,.m' M3),(3,.m' M3)]) (.e (.e .z (.e (.e (.o [(1,.g [.g 13] M3)]) .z) .z)) (.e (.e .z (.j [.box 2 true (T3) (M3),.box 3 true (T3) (M3)] [(2,⟨5,[]⟩),(3,⟨7,[]⟩)] (.j [.i 16,.i 17,.box 1 true (T3) (.ro),.box 2 true (T3) (M3),.box 3 true (T3) (M3)] [(1,⟨3,[]⟩),(2,⟨5,[]⟩),(3,⟨7,[]⟩)] (.e .z (.e .z (.e (.j [.i 16,.i 17,.box 1 true (T3) (.ro),.box 2 true (T3) (M3),.box 3 true (T3) (M3)] [(1,⟨3,[]⟩),(2,⟨5,[]⟩),(3,⟨7,[]⟩)] (.e .z (.e .z (.e (.e (.j [.pt 5 7 [.s,.s,.s] [],.i 16,.i 17,.l 35,.box 1 true (T3) (.ro),.box 2 true (T3) (M3),.box 3 true (T3) (M3)] [(1,⟨3,[]⟩),(2,⟨5,[]⟩),(3,⟨7,[]⟩)] .z .z) .z) (.e (.o (tr 0 37 6 [(6,⟨[],.ro,[36,42],[],none⟩),(7,.t 43),(8,.t 44),(9,.t 6),(10,.t 7)])) (.e .z (.j [.i 16,.i 17,.box 1 true (T3) (.ro),.box 2 true (T3) (M3),.box 3 true (T3) (M3)] [(1,⟨3,[]⟩),(2,⟨5,[]⟩),(3,⟨7,[]⟩)] (.o [(4,⟨[],.ro,[],[],some 7⟩)]) .z)))))) .z) .z))) .z) .z)) (.e (.o [(1,.g [.g 51] M3)]) .z)))))
theorem c11:CK C11:=ck C11 Tryz.f11 H11 [] [.cell 2 27] (cc c76 (cc c77 (cc c78 cn)))
def bu:Cal:=⟨111,[⟨.ro,T3⟩,⟨.ro,.int .i64⟩],[⟨.list 3 (.int .i64),.own (.ro)⟩],fun x=>LF x.1 x.2.1,0⟩
def iH:Hn:=(.e (.o [(0,.m' M3)]) (.e .z (.e (.o [(5,.m' M5),(6,.m' M5)]) (.e (.k [.g 6]) (.e (.e .z (.e (.e .z (.j [.d 6,.box 2 true (T3) (.ro)] [(2,⟨5,[]⟩)] .z (.e .z (.j [.d 6,.box 2 true (T3) (.ro)] [(2,⟨5,[]⟩)] (.k [.g 6]) (.e .z (.j [.d 6,.box 2 true (T3) (.ro)] [(2,⟨5,[]⟩)] (.n ⟨[],[.g 6],none,false,[(4,.g [.g 36] .ro)]⟩ .z .z) .z)))))) .z)) (.e .z (.e (.e (.k [.g 41]) (.j [.d 7] [] (.j [.d 7,.d 41,.i 42,.i 43,.box 2 true (T3) (.ro)] [(2,⟨5,[]⟩)] (.e .z (.e .z (.e (.e (.e .z (.e .z (.j [.d 7,.d 41,.i 42,.i 43,.box 2 true (T3) (.ro)] [(2,⟨5,[]⟩)] (.n ⟨[],[.g 7],none,false,[(3,.g [.g 53] .ro)]⟩ .z .z) .z))) .z) .z))) .z) .z)) (.e (.k [.g 4]) .z))))))))
theorem jt:CK bu:=ck bu Tryz.f111 iH [] [.tmp 4] (cc c91 cn)
def C50:Cal:=⟨50,[⟨.ro,T3⟩],[⟨.list 4 (.bool),.own (.ro)⟩],fun x=>Eg x.1,0⟩
def H50:Hn:=(.e (.o [(0,.m' M3)]) (.e .z (.e (.k [.g 3]) (.e (.o [(2,⟨[],.ro,[],[],some 6⟩)]) (.e (.k [.g 4]) (.e (.j [.dat 3 (.list 4 (.bool)) (.own (.ro))] [] (.j [.dat 3 (.list 4 (.bool)) (.own (.ro)),.d 4,.box 1 true (T3) (.ro)] [(1,⟨3,[]⟩)] (.e .z (.j [.dat 3 (.list 4 (.bool)) (.own (.ro)),.d 4,.box 1 true (T3) (.ro)] [(1,⟨3,[]⟩)] (.e .z (.e (.n ⟨[],[.g 4],none,false,[(1,.g [.g 24] (.own (.ro)))]⟩ .z .z) (.e .z (.j [.dat 3 (.list 4 (.bool)) (.own (.ro)),.d 4,.box 1 true (T3) (.ro)] [(1,⟨3,[]⟩)] (.j [.dat 3 (.list 4 (.bool)) (.own (.ro)),.d 4,.d 28,.i 29,.i 30,.box 1 true (T3) (.ro)] [(1,⟨3,[]⟩)] (.e .z (.e .z (.e (.e (.e .z (.e .z (.j [.dat 3 (.list 4 (.bool)) (.own (.ro)),.d 4,.d 28,.i 29,.i 30,.box 1 true (T3) (.ro)] [(1,⟨3,[]⟩)] (.e (.o [(3,⟨[],.ro,[],[],some 6⟩)]) (.n ⟨[],[.g 4],none,false,[(3,.g [.g 42] .ro)]⟩ .z .z)) .z))) .z) .z))) .z) .z)))) .z)) .z) .z) (.e (.k [.g 2]) .z)))))))
theorem c50:CK C50:=ck C50 Tryz.f50 H50 [] [.tmp 2] (cc c77 (cc jt cn))
def C12:Cal:=⟨12,[⟨.ro,T3⟩],[⟨T3,M3⟩,⟨.bool,.ro⟩],fun x=>CX x.1,0⟩
def H12:Hn:=(.e (.o [(0,.m' M3),(1,.m' M3)]) (.e (.o [(2,.m' M3),(3,.m' M3)]) (.e (.e .z (.e (.e (.o [(1,.g [.g 19] M3)]) .z) .z)) (.e (.k [.g 5]) (.e .z (.e (.k [.g 7]) (.e .z (.e (.e .z (.j [.d 7,.dat 8 (.list 38 (T5)) (.own (M5)),.box 2 true (T3) (M3),.box 4 true (T3) (.pr (.ro) (.pr (.ro) (.pr (.own (.ro)) (.hole))))] [(2,⟨5,[]⟩),(4,⟨9,[]⟩)] (.n ⟨[.g 31,.q 31],[],(some ⟨[.dat 5 (.list 4 (.bool)) (.own (.ro)),.i 6,.d 7,.dat 8 (.list 38 (T5)) (.own (M5)),.que 31 38 (T5) (M5),.i 32,.i 33,.box 2 true (T3) (M3),.box 4 true (T3) (.pr (.ro) (.pr (.ro) (.pr (.own (.ro)) (.hole))))],[(2,⟨5,[]⟩),(4,⟨9,[]⟩)],[]⟩),false,[]⟩ (.e .z (.e .z (.e (.e (.e (.o [(3,.m' M5),(5,.m' M5)]) (.e (.o [(5,⟨[],.ro,[],[],some 14⟩)]) (.e (.j [.dat 5 (.list 4 (.bool)) (.own (.ro)),.i 6,.d 7,.dat 8 (.list 38 (T5)) (.own (M5)),.i 9,.l 11,.que 31 38 (T5) (M5),.i 32,.i 33,.box 2 true (T3) (M3),.box 4 true (T3) (.pr (.ro) (.pr (.ro) (.pr (.own (.ro)) (.hole)))),.box 10 true (T5) (M5)] [(2,⟨5,[]⟩),(4,⟨9,[]⟩),(10,⟨21,[]⟩)] .z .z) (.e (.j [.dat 5 (.list 4 (.bool)) (.own (.ro)),.i 6,.d 7,.dat 8 (.list 38 (T5)) (.own (M5)),.que 31 38 (T5) (M5),.i 32,.i 33,.l 66,.box 2 true (T3) (M3),.box 4 true (T3) (.pr (.ro) (.pr (.ro) (.pr (.own (.ro)) (.hole)))),.box 10 true (T5) (M5)] [(2,⟨5,[]⟩),(4,⟨9,[]⟩),(10,⟨21,[]⟩)] .z .z) (.j [.dat 5 (.list 4 (.bool)) (.own (.ro)),.i 6,.d 7,.dat 8 (.list 38 (T5)) (.own (M5)),.que 31 38 (T5) (M5),.i 32,.i 33,.box 2 true (T3) (M3),.box 4 true (T3) (.pr (.ro) (.pr (.ro) (.pr (.own (.ro)) (.hole))))] [(2,⟨5,[]⟩),(4,⟨9,[]⟩)] (.n ⟨[],[.g 8],none,false,[(2,.g [.g 68] M5),(3,.g [.g 67] M5)]⟩ .z .z) .z))))) .z) .z))) .z) .z)) (.e (.e .z (.j [.dat 8 (.list 38 (T5)) (.own (M5)),.box 2 true (T3) (M3),.box 4 true (T3) (.pr (.ro) (.pr (.ro) (.pr (.own (.ro)) (.hole))))] [(2,⟨5,[]⟩),(4,⟨9,[]⟩)] (.j [.d 7,.dat 8 (.list 38 (T5)) (.own (M5)),.i 73,.i 74,.box 2 true (T3) (M3),.box 4 true (T3) (.pr (.ro) (.pr (.ro) (.pr (.own (.ro)) (.hole))))] [(2,⟨5,[]⟩),(4,⟨9,[]⟩)] (.e .z (.e .z (.e (.e (.e .z (.e .z (.e (.j [.d 7,.dat 8 (.list 38 (T5)) (.own (M5)),.pt 13 16 [] [],.i 73,.i 74,.l 91,.box 2 true (T3) (M3),.box 4 true (T3) (.pr (.ro) (.pr (.ro) (.pr (.own (.ro)) (.hole))))] [(2,⟨5,[]⟩),(4,⟨9,[]⟩)] .z .z) (.j [.d 7,.dat 8 (.list 38 (T5)) (.own (M5)),.i 73,.i 74,.box 2 true (T3) (M3),.box 4 true (T3) (.pr (.ro) (.pr (.ro) (.pr (.own (.ro)) (.hole))))] [(2,⟨5,[]⟩),(4,⟨9,[]⟩)] (.o [(10,⟨[],.ro,[],[],some 16⟩)]) .z)))) .z) .z))) .z) .z)) (.e (.o [(2,.g [.g 103] (.own (M5)))]) (.e (.o [(1,.g [.g 105] M3)]) .z)))))))))))
theorem c12:CK C12:=ck C12 Tryz.f12 H12 [] [.cell 2 27,.tmp 3] (cc c76 (cc c77 (cc c50 cn)))
def ce:Cal:=⟨183,[⟨.ro,.list 3 (.int .i64)⟩,⟨.ro,.list 3 (.int .i64)⟩],[⟨.bool,.ro⟩],fun x=>HO x.1 x.2.1,0⟩
def jB:Hn:=(.e .z (.e .z (.e (.e .z (.n ⟨[],[],(some ⟨[],[],[]⟩),true,[]⟩ (.j [.snp 0 (.list 3 (.int .i64)) [],.snp 1 (.list 3 (.int .i64)) [],.i 12,.i 13] [] (.e .z (.e .z (.e (.e (.e .z (.e (.o (tr 0 16 9 [])) .z)) .z) .z))) .z) .z)) .z)))
theorem kS:CK ce:=ck ce Tryz.f183 jB [] [.tmp 4] cn
def cH:Cal:=⟨139,[⟨.ro,T5⟩,⟨.ro,T5⟩],[⟨.bool,.ro⟩],fun x=>HP x.1 x.2.1,0⟩
def iY:Hn:=(.e (.o [(0,.m' M5),(1,.m' M5)]) (.e (.j [.l 4] [] .z .z) .z))
theorem kC:CK cH:=ck cH Tryz.f139 iY [] [.tmp 4] (cc kS cn)
def C79:Cal:=⟨79,[⟨.ro,.list 38 (T5)⟩,⟨.ro,.list 38 (T5)⟩],[⟨.bool,.ro⟩],fun x=>Cr x.1 x.2.1,0⟩
def H79:Hn:=(.e .z (.e .z (.e (.e .z (.n ⟨[],[],(some ⟨[],[],[]⟩),true,[]⟩ (.j [.snp 0 (.list 38 (T5)) [],.snp 1 (.list 38 (T5)) [],.i 12,.i 13] [] (.e .z (.e .z (.e (.e (.e .z (.e (.o (tr 0 16 10 [])) .z)) .z) .z))) .z) .z)) .z)))
theorem c79:CK C79:=ck C79 Tryz.f79 H79 [] [.tmp 4] (cc kC cn)
def C13:Cal:=⟨13,[⟨.ro,T3⟩],[⟨T3,M3⟩],fun x=>Cq x.1,0⟩
def H13:Hn:=(.e (.o [(0,.m' M3),(1,.m' M3)]) (.e (.o [(2,.m' M3),(3,.m' M3)]) (.e (.j [.box 2 true (T3) (M3),.box 3 true (T3) (M3)] [(2,⟨5,[]⟩),(3,⟨7,[]⟩)] (.e (.e (.o [(6,.m' M3),(7,.m' M3)]) (.e (.e (.j [.l 22,.box 2 true (T3) (M3),.box 3 true (T3) (M3),.box 4 true (T3) (M3)] [(2,⟨5,[]⟩),(3,⟨7,[]⟩),(4,⟨9,[]⟩)] .z .z) (.e (.e (.o [(1,.g [.g 23] M3)]) .z) .z)) (.o [(1,.g [.g 24] M3)]))) .z) .z) .z)))
theorem c13:CK C13:=ck C13 Tryz.f13 H13 [] [.cell 2 27] (cc c76 (cc c11 (cc c12 (cc c79 cn))))
def cI:Cal:=⟨140,[⟨.mov (.own (.ro)),.list 3 (.int .i64)⟩,⟨.ro,.int .i64⟩],[⟨.list 3 (.int .i64),.own (.ro)⟩],fun x=>JE x.1 x.2.1,0⟩
def iZ:Hn:=(.e .z (.e (.e .z (.n ⟨[],[],(some ⟨[.d 0,.i 1],[],[]⟩),true,[]⟩ (.j [.d 0,.i 1,.i 5] [] (.e .z (.e (.e (.e .z (.e (.e (.k [.g 4]) .z) .z)) .z) .z)) .z) .z)) (.e (.n ⟨[],[.g 4],none,false,[(3,.g [.g 19] .ro)]⟩ .z .z) .z)))
theorem kD:CK cI:=ck cI Tryz.f140 iZ [] [.tmp 4] cn
end
end Go.Proofs.YtmakhmoielhjeaaGreatDoorE

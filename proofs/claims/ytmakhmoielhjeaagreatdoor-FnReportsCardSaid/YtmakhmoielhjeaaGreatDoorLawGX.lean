/- The functions of X reckon so (4). No condition. -/
import Derived.Test.YtmakhmoielhjeaaGreatDoorLawGX3
set_option linter.all false
namespace Go.Proofs.YtmakhmoielhjeaaGreatDoorE
set_option maxRecDepth 100000
set_option linter.all false
noncomputable def C178:Cal:=⟨178,[⟨.ro,T2⟩,⟨.ro,.int .i64⟩],[⟨T3,M3⟩,⟨.bool,.ro⟩],fun x=>spec_l12Fn x.1 x.2.1,0⟩
def H178:Hn:=(.e (.o [(0,.m' M2),(1,.m' M3)]) (.e (.o [(5,.m' M6),(6,.m' M6)]) (.e (.k [.g 7]) (.e (.n ⟨[.z 7],[],none,false,[(7,.m' M3),(8,.m' M0),(9,.m' M0)]⟩ .z .z) (.e (.e .z (.j [.box 4 true (T3) (M3),.box 6 true (T6) (.ro),.box 33 true (T0) (.pr (.ro) (.pr (.ro) (M3)))] [(4,⟨9,[]⟩),(6,⟨13,[]⟩),(9,⟨67,[]⟩)] (.j [.snp 7 (.list 119 (T12)) [],.i 10,.box 4 true (T3) (M3),.box 6 true (T6) (.ro),.box 33 true (T0) (.pr (.ro) (.pr (.ro) (M3)))] [(4,⟨9,[]⟩),(6,⟨13,[]⟩),(9,⟨67,[]⟩)] .z .z) .z)) (.e .z (.e .z (.e (.e .z (.j [.i 11,.box 4 true (T3) (M3),.box 6 true (T6) (.ro),.box 33 true (T0) (.pr (.ro) (.pr (.ro) (M3)))] [(4,⟨9,[]⟩),(6,⟨13,[]⟩),(9,⟨67,[]⟩)] .z .z)) (.e .z (.e (.e .z (.j [.i 11,.box 4 true (T3) (M3),.box 33 true (T0) (.pr (.ro) (.pr (.ro) (M3)))] [(4,⟨9,[]⟩),(9,⟨67,[]⟩)] (.j [.i 11,.i 12,.box 4 true (T3) (M3),.box 6 true (T6) (.ro),.box 33 true (T0) (.pr (.ro) (.pr (.ro) (M3)))] [(4,⟨9,[]⟩),(6,⟨13,[]⟩),(9,⟨67,[]⟩)] (.e .z (.e (.e (.e .z (.j [.i 11,.i 12,.box 4 true (T3) (M3),.box 6 true (T6) (.ro),.box 33 true (T0) (.pr (.ro) (.pr (.ro) (M3)))] [(4,⟨9,[]⟩),(6,⟨13,[]⟩),(9,⟨67,[]⟩)] (.o [(2,.m' M5)]) .z)) .z) .z)) .z) .z)) (.e (.o [(2,.m' M5)]) (.e (.e .z (.e (.e (.o [(0,.m' M3),(1,.m' M3)]) .z) .z)) (.e (.o [(4,.g [.g 95] M3)]) .z)))))))))))))
theorem c178:CK C178:=ck C178 Tryz.f178 H178 [] [.cell 4 27,.tmp 5] (cc c210 (cc c213 (cc c214 (cc c215 (cc c216 (cc c217 (cc c15 cn)))))))
noncomputable def C135:Cal:=⟨135,[⟨.ro,T2⟩],[⟨.list 27 (T3),.own (M3)⟩,⟨.bool,.ro⟩],fun x=>spec_LowerAll x.1,0⟩
def H135:Hn:=(.e (.o [(0,.m' M2)]) (.e (.n ⟨[],[.g 4],none,false,[(0,.m' M3)]⟩ .z .z) (.e (.e .z (.e (.e (.k [.g 2]) .z) .z)) (.e (.e .z (.n ⟨[],[],(some ⟨[.dat 4 (.list 27 (T3)) (.own (M3))],[],[]⟩),true,[]⟩ (.j [.dat 4 (.list 27 (T3)) (.own (M3)),.i 5,.box 1 true (T2) (.ro)] [(1,⟨3,[]⟩)] (.e .z (.e (.e (.e (.o [(6,.m' M3),(7,.m' M3)]) (.e (.e .z (.e (.e (.n ⟨[],[.g 2],none,false,[(0,.m' M3)]⟩ .z .z) .z) .z)) (.n ⟨[],[.g 4],none,false,[(2,.g [.g 30] M3),(3,.g [.g 29] M3)]⟩ .z .z))) .z) .z)) .z) .z)) (.e (.k [.g 2]) .z)))))
theorem c135:CK C135:=ck C135 Tryz.f135 H135 [] [.tmp 2,.tmp 3] (cc c177 (cc c178 cn))
noncomputable def C75:Cal:=⟨75,[⟨.ptr (.ro),T10⟩],[⟨T3,.ro⟩],fun x=>spec_l11Code x.1,0⟩
def H75:Hn:=(.e (.o [(0,.m' M3)]) (.e (.o [(2,.m' M2),(3,.m' M2)]) (.e (.k [.g 4]) (.e (.e .z (.e (.e (.o [(1,.m' M5),(2,.m' M5),(3,.m' M5),(4,.m' M5),(5,.m' M3),(6,.m' M3)]) .z) .z)) (.e (.e .z (.e (.e (.n ⟨[.w 8 (.ro)],[],none,false,[(7,.m' M3)]⟩ .z .z) .z) .z)) (.e (.n ⟨[.w 8 (.ro)],[],none,false,[(6,.m' M3)]⟩ .z .z) .z))))))
theorem c75:CK C75:=ck C75 Tryz.f75 H75 [.w 5 (.ro)] [.cell 2 27] (cc c134 (cc c135 (cc c89 (cc c88 cn))))
noncomputable def C17:Cal:=⟨17,[⟨.ro,.list 5 (.int .u8)⟩],[⟨T3,.ro⟩],fun x=>spec_DrawCode x.1,0⟩
def H17:Hn:=(.e (.o [(0,.m' M3)]) (.e (.o [(3,.m' M3)]) .z))
theorem c17:CK C17:=ck C17 Tryz.f17 H17 [] [.cell 2 27] (cc c73 (cc c75 cn))
noncomputable def C84:Cal:=⟨84,[⟨.ro,.int .i64⟩],[⟨.str,.ro⟩],fun x=>impl_Decimal x.1,0⟩
def H84:Hn:=.z
theorem c84:CK C84:=ck C84 Tryz.f84 H84 [] [.tmp 2] (cc c146 cn)
noncomputable def C91:Cal:=⟨91,[⟨.ro,.int .i64⟩,⟨.ro,.int .i64⟩,⟨.ro,.int .i64⟩],[⟨.bool,.ro⟩],fun x=>impl_in x.1 x.2.1 x.2.2.1,0⟩
def H91:Hn:=(.e .z (.e (.j [.l 6] [] .z .z) .z))
theorem c91:CK C91:=ck C91 Tryz.f91 H91 [] [.tmp 6] cn
noncomputable def C93:Cal:=⟨93,[⟨.ro,.int .i64⟩],[⟨.bool,.ro⟩],fun x=>impl_hasA x.1,0⟩
def H93:Hn:=(.e .z (.e (.j [.l 2] [] .z .z) .z))
theorem c93:CK C93:=ck C93 Tryz.f93 H93 [] [.tmp 2] (cc c91 cn)
noncomputable def C94:Cal:=⟨94,[⟨.ro,.int .i64⟩],[⟨.str,.ro⟩],fun x=>impl_figures x.1,0⟩
def H94:Hn:=.z
theorem c94:CK C94:=ck C94 Tryz.f94 H94 [] [.tmp 2] (cc c84 cn)
noncomputable def C95:Cal:=⟨95,[⟨.ro,.int .i64⟩],[⟨.bool,.ro⟩],fun x=>impl_hasB x.1,0⟩
def H95:Hn:=(.e .z (.e (.j [.l 2] [] .z .z) .z))
theorem c95:CK C95:=ck C95 Tryz.f95 H95 [] [.tmp 2] (cc c91 cn)
noncomputable def C96:Cal:=⟨96,[⟨.ro,.int .i64⟩],[⟨.bool,.ro⟩],fun x=>impl_hasC x.1,0⟩
def H96:Hn:=.z
theorem c96:CK C96:=ck C96 Tryz.f96 H96 [] [.tmp 2] (cc c91 cn)
noncomputable def C97:Cal:=⟨97,[⟨.ro,.int .i64⟩],[⟨.bool,.ro⟩],fun x=>impl_hasNum x.1,0⟩
def H97:Hn:=(.e .z (.e (.j [.l 2] [] .z .z) .z))
theorem c97:CK C97:=ck C97 Tryz.f97 H97 [] [.tmp 2] cn
noncomputable def C24:Cal:=⟨24,[⟨.ro,T5⟩],[⟨.str,.ro⟩],fun x=>impl_ShowWord x.1,0⟩
def H24:Hn:=(.e (.o [(0,.m' M5)]) (.e .z (.e (.n ⟨[],[.g 3],none,false,(tr 0 10 7 [(7,.t 3)])⟩ .z .z) (.e (.e .z (.j [.dat 3 (.list 9 (.str)) (.own (.ro)),.box 1 true (T5) (.ro)] [(1,⟨3,[]⟩)] (.n ⟨[],[.g 3],none,false,[(5,.g [.g 20] .ro)]⟩ .z .z) .z)) (.e (.e .z (.j [.dat 3 (.list 9 (.str)) (.own (.ro)),.box 1 true (T5) (.ro)] [(1,⟨3,[]⟩)] (.n ⟨[],[.g 3],none,false,[(5,.g [.g 29] .ro)]⟩ .z .z) .z)) (.e (.e .z (.j [.dat 3 (.list 9 (.str)) (.own (.ro)),.box 1 true (T5) (.ro)] [(1,⟨3,[]⟩)] (.n ⟨[],[.g 3],none,false,[(5,.g [.g 38] .ro)]⟩ .z .z) .z)) (.e (.e .z (.j [.dat 3 (.list 9 (.str)) (.own (.ro)),.box 1 true (T5) (.ro)] [(1,⟨3,[]⟩)] (.n ⟨[],[.g 3],none,false,[(5,.g [.g 47] .ro)]⟩ .z .z) .z)) (.e (.e .z (.j [.dat 3 (.list 9 (.str)) (.own (.ro))] [] (.e (.n ⟨[],[.g 3],none,false,[(4,.g [.g 56] .ro)]⟩ .z .z) (.e .z (.j [.dat 3 (.list 9 (.str)) (.own (.ro))] [] (.j [.dat 3 (.list 9 (.str)) (.own (.ro)),.snp 62 (.list 3 (.int .i64)) [],.i 63,.i 64] [] (.e .z (.e .z (.e (.e (.e .z (.n ⟨[],[.g 3],none,false,[(4,.g [.g 68] .ro)]⟩ .z .z)) .z) .z))) .z) .z))) .z)) (.e (.o [(1,.g [.g 74] .ro)]) .z)))))))))
theorem c24:CK C24:=ck C24 Tryz.f24 H24 [] [.tmp 2] (cc c91 (cc c92 (cc c93 (cc c94 (cc c95 (cc c96 (cc c97 (cc c98 cn))))))))
noncomputable def C18:Cal:=⟨18,[⟨.ro,T3⟩],[⟨.str,.ro⟩],fun x=>impl_Listing x.1,0⟩
def H18:Hn:=(.e (.o [(0,.m' M3)]) (.e .z (.e (.e .z (.j [.snp 3 (.str) []] [] (.j [.snp 3 (.str) [],.snp 11 (.list 38 (T5)) [],.i 12,.i 13] [] (.e .z (.e .z (.e (.e (.e (.o [(3,.m' M5),(5,.m' M5)]) (.o (tr 0 18 9 [(9,.t 3)]))) .z) .z))) .z) .z)) .z)))
theorem c18:CK C18:=ck C18 Tryz.f18 H18 [] [.tmp 2] (cc c84 (cc c24 cn))
noncomputable def C152:Cal:=⟨152,[⟨.ro,.list 38 (T5)⟩],[⟨.list 38 (T5),.own (M5)⟩],fun x=>spec_l11Words x.1,0⟩
def H152:Hn:=(.e .z (.e (.n ⟨[],[.g 3],none,false,[(0,.m' M5)]⟩ .z .z) (.e (.e .z (.j [.dat 3 (.list 38 (T5)) (.own (M5))] [] (.j [.snp 0 (.list 38 (T5)) [],.dat 3 (.list 38 (T5)) (.own (M5)),.i 4] [] (.e .z (.e (.e (.e (.o [(4,.m' M5),(5,.m' M5)]) (.e (.o [(5,.m' (.own (.ro)))]) (.n ⟨[],[.g 3],none,false,[(2,.g [.g 23] M5),(3,.g [.g 22] M5)]⟩ .z .z))) .z) .z)) .z) .z)) (.e (.k [.g 2]) .z))))
theorem c152:CK C152:=ck C152 Tryz.f152 H152 [] [.tmp 2] cn
noncomputable def C109:Cal:=⟨109,[⟨.ro,T3⟩],[⟨T3,M3⟩],fun x=>spec_l11Copy x.1,0⟩
def H109:Hn:=(.e (.o [(0,.m' M3),(1,.m' M3)]) (.e (.o [(1,.m' M3),(2,.m' M3)]) (.e (.o [(5,.m' (.own (.ro)))]) (.e (.o [(4,.m' (.own (M5)))]) (.e (.o [(1,.g [.g 14] M3)]) .z)))))
theorem c109:CK C109:=ck C109 Tryz.f109 H109 [] [.cell 2 27] (cc c152 cn)
noncomputable def C85:Cal:=⟨85,[⟨.ptr (.ro),T10⟩],[⟨T3,M3⟩],fun x=>spec_l11Any x.1,0⟩
def H85:Hn:=(.e (.o [(0,.m' M3)]) (.e .z (.e .z (.e (.o [(3,.m' M3),(4,.m' M3)]) (.e .z (.e (.e .z (.e (.e .z (.j [.box 0 true (T10) (.ro),.box 2 true (T3) (M3),.box 5 true (T3) (M3)] [(2,⟨5,[]⟩),(5,⟨11,[]⟩)] (.o [(7,⟨[],.ro,[],[],some 11⟩)]) (.e .z (.j [.box 0 true (T10) (.ro),.box 2 true (T3) (M3),.box 5 true (T3) (M3)] [(2,⟨5,[]⟩),(5,⟨11,[]⟩)] (.o [(8,⟨[],.ro,[],[],some 11⟩)]) (.e .z (.j [.box 0 true (T10) (.ro),.box 2 true (T3) (M3),.box 5 true (T3) (M3)] [(2,⟨5,[]⟩),(5,⟨11,[]⟩)] (.o [(7,⟨[],.ro,[],[],some 11⟩)]) (.e .z (.j [.box 0 true (T10) (.ro),.box 2 true (T3) (M3),.box 5 true (T3) (M3)] [(2,⟨5,[]⟩),(5,⟨11,[]⟩)] (.o [(6,⟨[],.ro,[],[],some 11⟩)]) (.e .z (.j [.box 0 true (T10) (.ro),.box 2 true (T3) (M3),.box 5 true (T3) (M3)] [(2,⟨5,[]⟩),(5,⟨11,[]⟩)] (.n ⟨[.s 1 5 [.s,.s,.s]],[.u 1 [.s,.s,.s]],none,false,[(0,.t 58),(1,⟨[],.hole,[59],[],none⟩),(2,.t 60),(3,.t 61),(4,⟨[],.hole,[62],[],none⟩),(5,.t 63),(6,.t 64),(7,.t 65),(8,.t 66),(9,.t 67),(10,.t 68),(11,.t 69),(12,⟨[],.hole,[64,65,66,70],[1],none⟩),(13,.t 71),(14,.t 72),(15,⟨[],.hole,[70,71,72],[1],some 3⟩)]⟩ .z .z) (.e .z (.j [.box 0 true (T10) (.ro),.box 2 true (T3) (M3),.box 5 true (T3) (M3)] [(2,⟨5,[]⟩),(5,⟨11,[]⟩)] .z (.e .z (.j [.box 0 true (T10) (.ro),.box 2 true (T3) (M3),.box 5 true (T3) (M3)] [(2,⟨5,[]⟩),(5,⟨11,[]⟩)] (.o [(5,.g [.g 81] .ro),(7,.m' (.own (.ro)))]) (.e .z (.j [.box 0 true (T10) (.ro),.box 2 true (T3) (M3),.box 5 true (T3) (M3)] [(2,⟨5,[]⟩),(5,⟨11,[]⟩)] (.o [(3,.m' M5),(5,⟨[],M5,[],[],some 11⟩)]) .z)))))))))))))))) .z)) (.e (.o [(1,.g [.g 94] M3)]) .z)))))))
theorem c85:CK C85:=ck C85 Tryz.f85 H85 [] [.cell 2 27] (cc c88 (cc c75 (cc c109 cn)))
noncomputable def C19:Cal:=⟨19,[⟨.ro,.list 5 (.int .u8)⟩],[⟨T3,M3⟩],fun x=>spec_DrawListing x.1,0⟩
def H19:Hn:=(.e (.o [(0,.m' M3)]) (.e (.o [(3,.m' M3)]) .z))
theorem c19:CK C19:=ck C19 Tryz.f19 H19 [] [.cell 2 27] (cc c73 (cc c85 cn))
noncomputable def C86:Cal:=⟨86,[⟨.ro,.list 5 (.int .u8)⟩],[⟨T3,.ro⟩,⟨.int .i64,.ro⟩],fun x=>spec_l11Word x.1,0⟩
def H86:Hn:=(.e (.o [(0,.m' M3)]) (.e .z (.e .z (.e (.o [(2,.m' M3),(3,.m' M3)]) (.e (.n ⟨[.w 13 (.ro)],[],none,false,(tr 0 13 6 [(6,⟨[],M3,[2],[2],none⟩),(7,.t 3)])⟩ .z .z) .z)))))
theorem c86:CK C86:=ck C86 Tryz.f86 H86 [] [.cell 2 27,.tmp 3] (cc c73 (cc c88 (cc c85 cn)))
noncomputable def C20:Cal:=⟨20,[⟨.ro,.list 5 (.int .u8)⟩],[⟨T5,.ro⟩],fun x=>spec_DrawShowWord x.1,0⟩
def H20:Hn:=(.e (.o [(0,.m' M5)]) (.e (.o [(5,.m' M3),(6,.m' M3)]) (.e (.o [(5,.m' M5)]) .z)))
theorem c20:CK C20:=ck C20 Tryz.f20 H20 [] [.cell 2 38] (cc c86 cn)
noncomputable def C133:Cal:=⟨133,[⟨.ptr (.ro),T10⟩,⟨.mov (.own (.ro)),.list 3 (.int .i64)⟩],[⟨.int .i64,.ro⟩],fun x=>spec_l01PickInt x.1 x.2.1,0⟩
def H133:Hn:=.z
theorem c133:CK C133:=ck C133 Tryz.f133 H133 [] [.tmp 4] (cc c88 cn)
noncomputable def C87:Cal:=⟨87,[⟨.ptr (.ro),T10⟩],[⟨.list 3 (.int .i64),.own (.ro)⟩],fun x=>spec_l10Input x.1,0⟩
def H87:Hn:=(.e .z (.e (.k [.g 3]) (.e (.e .z (.j [.d 3,.box 0 true (T10) (.ro)] [] (.j [.d 3,.i 4,.box 0 true (T10) (.ro)] [(0,⟨1,[]⟩)] (.e .z (.e (.e (.n ⟨[],[.g 3],none,false,[(5,.g [.g 12] .ro)]⟩ .z .z) .z) .z)) .z) .z)) (.e (.k [.g 2]) .z))))
theorem c87:CK C87:=ck C87 Tryz.f87 H87 [] [.tmp 2] (cc c88 (cc c133 cn))
noncomputable def C21:Cal:=⟨21,[⟨.ro,.list 5 (.int .u8)⟩],[⟨T14,M10⟩],fun x=>spec_DrawShowEnding x.1,0⟩
def H21:Hn:=(.e (.o [(0,.m' M10)]) (.e .z (.e (.o [(5,.m' M10),(6,.m' M10),(7,.m' M10)]) (.e (.e .z (.j [.box 2 true (T14) (M10),.box 4 true (T14) (M10)] [(2,⟨5,[]⟩),(4,⟨9,[]⟩)] (.o [(3,.g [.g 16] .ro),(5,.m' (.own (.ro)))]) .z)) (.e (.o [(1,.g [.g 20] M10)]) .z)))))
theorem c21:CK C21:=ck C21 Tryz.f21 H21 [] [.cell 2 41] (cc c73 (cc c87 (cc c88 (cc c89 cn))))
noncomputable def C22:Cal:=⟨22,[⟨.ro,.str⟩,⟨.ro,.str⟩],[⟨.bool,.ro⟩],fun x=>laws_begins x.1 x.2.1,0⟩
def H22:Hn:=(.e .z (.e (.j [.l 4] [] .z .z) .z))
theorem c22:CK C22:=ck C22 Tryz.f22 H22 [] [.tmp 4] cn
noncomputable def C99:Cal:=⟨99,[],[⟨.list 9 (.str),.own (.ro)⟩],fun x=>spec_l34Names ,0⟩
def H99:Hn:=(.e .z (.e (.k [.g 0]) .z))
theorem c99:CK C99:=ck C99 Tryz.f99 H99 [] [.tmp 0] cn
noncomputable def C100:Cal:=⟨100,[⟨.ro,.int .i64⟩],[⟨.str,.ro⟩],fun x=>spec_l34Num x.1,0⟩
def H100:Hn:=.z
theorem c100:CK C100:=ck C100 Tryz.f100 H100 [] [.tmp 2] (cc c90 cn)
noncomputable def C25:Cal:=⟨25,[⟨.ro,T5⟩],[⟨.str,.ro⟩],fun x=>spec_ShowWord x.1,0⟩
def H25:Hn:=(.e (.o [(0,.m' M5)]) (.e .z (.e (.o (tr 0 9 5 [(5,.t 3)])) (.e (.e .z (.j [.snp 3 (.str) [],.box 1 true (T5) (.ro)] [(1,⟨3,[]⟩)] .z .z)) (.e (.e .z (.j [.snp 3 (.str) [],.box 1 true (T5) (.ro)] [(1,⟨3,[]⟩)] .z .z)) (.e (.e .z (.j [.snp 3 (.str) [],.box 1 true (T5) (.ro)] [(1,⟨3,[]⟩)] .z .z)) (.e (.e .z (.j [.snp 3 (.str) []] [] (.e (.e .z (.j [.snp 3 (.str) [],.i 42,.l 43,.box 1 true (T5) (.ro)] [(1,⟨3,[]⟩)] .z (.e .z (.j [.snp 3 (.str) [],.i 42,.l 43,.box 1 true (T5) (.ro)] [(1,⟨3,[]⟩)] .z .z)))) (.j [.snp 3 (.str) []] [] .z (.e .z (.j [.snp 3 (.str) []] [] (.e .z (.e .z (.j [.snp 3 (.str) []] [] (.j [.snp 3 (.str) [],.i 4,.box 1 true (T5) (.ro)] [(1,⟨3,[]⟩)] .z .z) .z))) .z)))) .z)) .z)))))))
theorem c25:CK C25:=ck C25 Tryz.f25 H25 [] [.tmp 2] (cc c82 (cc c99 (cc c100 (cc c101 (cc c102 cn)))))
noncomputable def C23:Cal:=⟨23,[⟨.ro,T3⟩],[⟨.str,.ro⟩],fun x=>spec_Listing x.1,0⟩
def H23:Hn:=(.e (.o [(0,.m' M3)]) (.e .z (.e (.e .z (.j [.snp 3 (.str) []] [] (.j [.snp 3 (.str) [],.i 4,.box 1 true (T3) (.ro)] [(1,⟨3,[]⟩)] (.e .z (.e (.e (.o (tr 0 16 13 [(13,.t 3)])) .z) .z)) .z) .z)) .z)))
theorem c23:CK C23:=ck C23 Tryz.f23 H23 [] [.tmp 2] (cc c90 (cc c25 cn))
noncomputable def C26:Cal:=⟨26,[⟨.ro,T14⟩],[⟨.str,.ro⟩],fun x=>impl_ShowEnding x.1,0⟩
def H26:Hn:=(.e (.o [(0,.m' M10)]) (.e .z (.e (.e .z (.j [.snp 3 (.str) [],.box 1 true (T14) (.ro)] [(1,⟨3,[]⟩)] (.j [.snp 3 (.str) [],.snp 8 (.list 3 (.int .i64)) [],.i 9,.i 10,.box 1 true (T14) (.ro)] [(1,⟨3,[]⟩)] .z .z) .z)) (.e .z (.e (.e .z (.j [.snp 3 (.str) [],.snp 6 (.str) []] [] .z .z)) .z)))))
theorem c26:CK C26:=ck C26 Tryz.f26 H26 [] [.tmp 2] (cc c84 (cc c91 cn))
noncomputable def C27:Cal:=⟨27,[⟨.ro,T14⟩],[⟨.str,.ro⟩],fun x=>spec_ShowEnding x.1,0⟩
def H27:Hn:=(.e (.o [(0,.m' M10)]) (.e .z (.e (.e .z (.j [.snp 3 (.str) [],.box 1 true (T14) (.ro)] [(1,⟨3,[]⟩)] (.j [.snp 3 (.str) [],.i 4,.box 1 true (T14) (.ro)] [(1,⟨3,[]⟩)] .z .z) .z)) (.e (.k [.g 5]) .z))))
theorem c27:CK C27:=ck C27 Tryz.f27 H27 [] [.tmp 2] (cc c90 (cc c82 cn))
noncomputable def C4:Cal:=⟨4,[⟨.ro,.list 5 (.int .u8)⟩],[⟨.bool,.ro⟩],fun x=>laws_FnReports x.1,0⟩
def H4:Hn:=(.e .z (.e .z (.e (.o [(2,.m' M3),(3,.m' M3)]) (.e .z (.e .z (.e (.e .z (.j [.snp 0 (.list 5 (.int .u8)) [],.snp 4 (.str) [],.i 5,.box 3 true (T3) (.ro)] [(3,⟨7,[]⟩)] (.j [.snp 0 (.list 5 (.int .u8)) [],.snp 4 (.str) [],.i 5,.i 6,.box 3 true (T3) (.ro)] [(3,⟨7,[]⟩)] (.e .z (.e (.e (.e .z (.j [.snp 0 (.list 5 (.int .u8)) [],.snp 4 (.str) [],.i 5,.i 6,.box 3 true (T3) (.ro)] [(3,⟨7,[]⟩)] .z .z)) .z) .z)) .z) .z)) (.e (.o [(2,.m' M3),(3,.m' M3)]) (.e (.o [(2,.m' M5),(3,.m' M5)]) (.e (.o [(2,.m' M10),(3,.m' M10)]) (.e (.n ⟨[],[],(some ⟨[.l 2],[],[]⟩),false,(tr 0 34 35 [(35,.t 2)])⟩ .z .z) .z))))))))))
theorem c4:CK C4:=ck C4 Tryz.f4 H4 [] [.tmp 2] (cc c9 (cc c17 (cc c18 (cc c19 (cc c20 (cc c21 (cc c22 (cc c23 (cc c24 (cc c25 (cc c26 (cc c27 cn))))))))))))
end Go.Proofs.YtmakhmoielhjeaaGreatDoorE

/- The functions of X reckon so (4). No condition. -/
import Derived.Test.YtmakhmoielhjeaaGreatDoorLawGX3
set_option linter.all false
namespace Go.Proofs.YtmakhmoielhjeaaGreatDoorE
set_option maxRecDepth 100000
set_option linter.all false
noncomputable def fB:Cal:=⟨178,[⟨.ro,T2⟩,⟨.ro,.int .i64⟩],[⟨T3,M3⟩,⟨.bool,.ro⟩],fun x=>LI x.1 x.2.1,0⟩
def kt:Hn:=(.e (.o [(0,.m' M2),(1,.m' M3)]) (.e (.o [(5,.m' M6),(6,.m' M6)]) (.e (.k [.g 7]) (.e (.n ⟨[.z 7],[],none,false,[(7,.m' M3),(8,.m' M0),(9,.m' M0)]⟩ .z .z) (.e (.e .z (.j [.box 4 true (T3) (M3),.box 6 true (T6) (.ro),.box 33 true (T0) (.pr (.ro) (.pr (.ro) (M3)))] [(4,⟨9,[]⟩),(6,⟨13,[]⟩),(9,⟨67,[]⟩)] (.j [.snp 7 (.list 119 (T12)) [],.i 10,.box 4 true (T3) (M3),.box 6 true (T6) (.ro),.box 33 true (T0) (.pr (.ro) (.pr (.ro) (M3)))] [(4,⟨9,[]⟩),(6,⟨13,[]⟩),(9,⟨67,[]⟩)] .z .z) .z)) (.e .z (.e .z (.e (.e .z (.j [.i 11,.box 4 true (T3) (M3),.box 6 true (T6) (.ro),.box 33 true (T0) (.pr (.ro) (.pr (.ro) (M3)))] [(4,⟨9,[]⟩),(6,⟨13,[]⟩),(9,⟨67,[]⟩)] .z .z)) (.e .z (.e (.e .z (.j [.i 11,.box 4 true (T3) (M3),.box 33 true (T0) (.pr (.ro) (.pr (.ro) (M3)))] [(4,⟨9,[]⟩),(9,⟨67,[]⟩)] (.j [.i 11,.i 12,.box 4 true (T3) (M3),.box 6 true (T6) (.ro),.box 33 true (T0) (.pr (.ro) (.pr (.ro) (M3)))] [(4,⟨9,[]⟩),(6,⟨13,[]⟩),(9,⟨67,[]⟩)] (.e .z (.e (.e (.e .z (.j [.i 11,.i 12,.box 4 true (T3) (M3),.box 6 true (T6) (.ro),.box 33 true (T0) (.pr (.ro) (.pr (.ro) (M3)))] [(4,⟨9,[]⟩),(6,⟨13,[]⟩),(9,⟨67,[]⟩)] (.o [(2,.m' M5)]) .z)) .z) .z)) .z) .z)) (.e (.o [(2,.m' M5)]) (.e (.e .z (.e (.e (.o [(0,.m' M3),(1,.m' M3)]) .z) .z)) (.e (.o [(4,.g [.g 95] M3)]) .z)))))))))))))
theorem mS:CK fB:=ck fB Tryz.f178 kt [] [.cell 4 27,.tmp 5] (cc gk (cc gm (cc mi (cc gn (cc go (cc XC (cc c15 cn)))))))
noncomputable def eW:Cal:=⟨135,[⟨.ro,T2⟩],[⟨.list 27 (T3),.own (M3)⟩,⟨.bool,.ro⟩],fun x=>IOq x.1,0⟩
def kX:Hn:=(.e (.o [(0,.m' M2)]) (.e (.n ⟨[],[.g 4],none,false,[(0,.m' M3)]⟩ .z .z) (.e (.e .z (.e (.e (.k [.g 2]) .z) .z)) (.e (.e .z (.n ⟨[],[],(some ⟨[.dat 4 (.list 27 (T3)) (.own (M3))],[],[]⟩),true,[]⟩ (.j [.dat 4 (.list 27 (T3)) (.own (M3)),.i 5,.box 1 true (T2) (.ro)] [(1,⟨3,[]⟩)] (.e .z (.e (.e (.e (.o [(6,.m' M3),(7,.m' M3)]) (.e (.e .z (.e (.e (.n ⟨[],[.g 2],none,false,[(0,.m' M3)]⟩ .z .z) .z) .z)) (.n ⟨[],[.g 4],none,false,[(2,.g [.g 30] M3),(3,.g [.g 29] M3)]⟩ .z .z))) .z) .z)) .z) .z)) (.e (.k [.g 2]) .z)))))
theorem mG:CK eW:=ck eW Tryz.f135 kX [] [.tmp 2,.tmp 3] (cc mR (cc mS cn))
noncomputable def C75:Cal:=⟨75,[⟨.ptr (.ro),T10⟩],[⟨T3,.ro⟩],fun x=>HT x.1,0⟩
def H75:Hn:=(.e (.o [(0,.m' M3)]) (.e (.o [(2,.m' M2),(3,.m' M2)]) (.e (.k [.g 4]) (.e (.e .z (.e (.e (.o [(1,.m' M5),(2,.m' M5),(3,.m' M5),(4,.m' M5),(5,.m' M3),(6,.m' M3)]) .z) .z)) (.e (.e .z (.e (.e (.n ⟨[.w 8 (.ro)],[],none,false,[(7,.m' M3)]⟩ .z .z) .z) .z)) (.e (.n ⟨[.w 8 (.ro)],[],none,false,[(6,.m' M3)]⟩ .z .z) .z))))))
theorem c75:CK C75:=ck C75 Tryz.f75 H75 [.w 5 (.ro)] [.cell 2 27] (cc mF (cc mG (cc c89 (cc c88 cn))))
noncomputable def eo:Cal:=⟨152,[⟨.ro,.list 38 (T5)⟩],[⟨.list 38 (T5),.own (M5)⟩],fun x=>IU x.1,0⟩
def ki:Hn:=(.e .z (.e (.n ⟨[],[.g 3],none,false,[(0,.m' M5)]⟩ .z .z) (.e (.e .z (.j [.dat 3 (.list 38 (T5)) (.own (M5))] [] (.j [.snp 0 (.list 38 (T5)) [],.dat 3 (.list 38 (T5)) (.own (M5)),.i 4] [] (.e .z (.e (.e (.e (.o [(4,.m' M5),(5,.m' M5)]) (.e (.o [(5,.m' (.own (.ro)))]) (.n ⟨[],[.g 3],none,false,[(2,.g [.g 23] M5),(3,.g [.g 22] M5)]⟩ .z .z))) .z) .z)) .z) .z)) (.e (.k [.g 2]) .z))))
theorem mM:CK eo:=ck eo Tryz.f152 ki [] [.tmp 2] cn
noncomputable def eL:Cal:=⟨109,[⟨.ro,T3⟩],[⟨T3,M3⟩],fun x=>HU x.1,0⟩
def kN:Hn:=(.e (.o [(0,.m' M3),(1,.m' M3)]) (.e (.o [(1,.m' M3),(2,.m' M3)]) (.e (.o [(5,.m' (.own (.ro)))]) (.e (.o [(4,.m' (.own (M5)))]) (.e (.o [(1,.g [.g 14] M3)]) .z)))))
theorem gR:CK eL:=ck eL Tryz.f109 kN [] [.cell 2 27] (cc mM cn)
noncomputable def C85:Cal:=⟨85,[⟨.ptr (.ro),T10⟩],[⟨T3,M3⟩],fun x=>KK x.1,0⟩
def H85:Hn:=(.e (.o [(0,.m' M3)]) (.e .z (.e .z (.e (.o [(3,.m' M3),(4,.m' M3)]) (.e .z (.e (.e .z (.e (.e .z (.j [.box 0 true (T10) (.ro),.box 2 true (T3) (M3),.box 5 true (T3) (M3)] [(2,⟨5,[]⟩),(5,⟨11,[]⟩)] (.o [(7,⟨[],.ro,[],[],some 11⟩)]) (.e .z (.j [.box 0 true (T10) (.ro),.box 2 true (T3) (M3),.box 5 true (T3) (M3)] [(2,⟨5,[]⟩),(5,⟨11,[]⟩)] (.o [(8,⟨[],.ro,[],[],some 11⟩)]) (.e .z (.j [.box 0 true (T10) (.ro),.box 2 true (T3) (M3),.box 5 true (T3) (M3)] [(2,⟨5,[]⟩),(5,⟨11,[]⟩)] (.o [(7,⟨[],.ro,[],[],some 11⟩)]) (.e .z (.j [.box 0 true (T10) (.ro),.box 2 true (T3) (M3),.box 5 true (T3) (M3)] [(2,⟨5,[]⟩),(5,⟨11,[]⟩)] (.o [(6,⟨[],.ro,[],[],some 11⟩)]) (.e .z (.j [.box 0 true (T10) (.ro),.box 2 true (T3) (M3),.box 5 true (T3) (M3)] [(2,⟨5,[]⟩),(5,⟨11,[]⟩)] (.n ⟨[.s 1 5 [.s,.s,.s]],[.u 1 [.s,.s,.s]],none,false,[(0,.t 58),(1,⟨[],.hole,[59],[],none⟩),(2,.t 60),(3,.t 61),(4,⟨[],.hole,[62],[],none⟩),(5,.t 63),(6,.t 64),(7,.t 65),(8,.t 66),(9,.t 67),(10,.t 68),(11,.t 69),(12,⟨[],.hole,[64,65,66,70],[1],none⟩),(13,.t 71),(14,.t 72),(15,⟨[],.hole,[70,71,72],[1],some 3⟩)]⟩ .z .z) (.e .z (.j [.box 0 true (T10) (.ro),.box 2 true (T3) (M3),.box 5 true (T3) (M3)] [(2,⟨5,[]⟩),(5,⟨11,[]⟩)] .z (.e .z (.j [.box 0 true (T10) (.ro),.box 2 true (T3) (M3),.box 5 true (T3) (M3)] [(2,⟨5,[]⟩),(5,⟨11,[]⟩)] (.o [(5,.g [.g 81] .ro),(7,.m' (.own (.ro)))]) (.e .z (.j [.box 0 true (T10) (.ro),.box 2 true (T3) (M3),.box 5 true (T3) (M3)] [(2,⟨5,[]⟩),(5,⟨11,[]⟩)] (.o [(3,.m' M5),(5,⟨[],M5,[],[],some 11⟩)]) .z)))))))))))))))) .z)) (.e (.o [(1,.g [.g 94] M3)]) .z)))))))
theorem c85:CK C85:=ck C85 Tryz.f85 H85 [] [.cell 2 27] (cc c88 (cc c75 (cc gR cn)))
noncomputable def eU:Cal:=⟨133,[⟨.ptr (.ro),T10⟩,⟨.mov (.own (.ro)),.list 3 (.int .i64)⟩],[⟨.int .i64,.ro⟩],fun x=>Gt x.1 x.2.1,0⟩
def kV:Hn:=.z
theorem mE:CK eU:=ck eU Tryz.f133 kV [] [.tmp 4] (cc c88 cn)
noncomputable def C74:Cal:=⟨74,[⟨.ptr (.ro),T10⟩],[⟨T3,M3⟩],fun x=>Ez x.1,0⟩
def H74:Hn:=(.e (.o [(0,.m' M3)]) (.e (.e .z (.e (.e (.o [(2,.m' M3)]) .z) .z)) (.e (.o [(3,.m' M3),(4,.m' M3)]) (.e .z (.e (.e .z (.j [.box 0 true (T10) (.ro),.box 2 true (T3) (M3),.box 3 true (T3) (M3)] [(2,⟨5,[]⟩),(3,⟨7,[]⟩)] (.j [.i 4,.i 5,.box 0 true (T10) (.ro),.box 2 true (T3) (M3),.box 3 true (T3) (M3)] [(0,⟨1,[]⟩),(2,⟨5,[]⟩),(3,⟨7,[]⟩)] (.e .z (.e (.e (.e .z (.e (.j [.i 4,.i 5,.i 6,.l 35,.box 0 true (T10) (.ro),.box 2 true (T3) (M3),.box 3 true (T3) (M3)] [(0,⟨1,[]⟩),(2,⟨5,[]⟩),(3,⟨7,[]⟩)] .z .z) (.j [.i 4,.i 5,.box 0 true (T10) (.ro),.box 2 true (T3) (M3),.box 3 true (T3) (M3)] [(0,⟨1,[]⟩),(2,⟨5,[]⟩),(3,⟨7,[]⟩)] (.o (tr 0 36 5 [(5,⟨[],.ro,[0,39,40,41],[0],none⟩),(6,.t 42),(7,.t 43),(8,⟨[],.ro,[0,39,44],[0],none⟩),(9,⟨[],M5,[45],[],none⟩),(10,.t 46),(11,⟨[],M5,[3,36,37,45,46],[3],some 7⟩)])) .z))) .z) .z)) .z) .z)) (.e (.o [(1,.g [.g 47] M3)]) .z))))))
theorem c74:CK C74:=ck C74 Tryz.f74 H74 [] [.cell 2 27] (cc c89 (cc c85 (cc c75 (cc gR (cc c88 (cc mE cn))))))
noncomputable def C45:Cal:=⟨45,[⟨.ro,.list 5 (.int .u8)⟩],[⟨T3,M3⟩],fun x=>DS x.1,0⟩
def H45:Hn:=(.e (.o [(0,.m' M3)]) (.e (.o [(3,.m' M3)]) .z))
theorem c45:CK C45:=ck C45 Tryz.f45 H45 [] [.cell 2 27] (cc c73 (cc c74 cn))
noncomputable def C46:Cal:=⟨46,[⟨.ro,.list 5 (.int .u8)⟩],[⟨T3,M3⟩],fun x=>FD x.1,0⟩
def H46:Hn:=(.e (.o [(0,.m' M3)]) (.e (.o [(3,.m' M3)]) .z))
theorem c46:CK C46:=ck C46 Tryz.f46 H46 [] [.cell 2 27] (cc c73 (cc c74 cn))
noncomputable def C47:Cal:=⟨47,[⟨.ro,.list 5 (.int .u8)⟩],[⟨T3,M3⟩],fun x=>Gp x.1,0⟩
def H47:Hn:=(.e (.o [(0,.m' M3)]) (.e (.o [(3,.m' M3)]) .z))
theorem c47:CK C47:=ck C47 Tryz.f47 H47 [] [.cell 2 27] (cc c73 (cc c74 cn))
noncomputable def eE:Cal:=⟨103,[⟨.ro,T3⟩],[⟨.list 4 (.bool),.own (.ro)⟩],fun x=>IV x.1,0⟩
def kH:Hn:=(.e (.o [(0,.m' M3)]) (.e (.k [.g 3]) (.e (.o [(2,⟨[],.ro,[],[],some 6⟩)]) (.e (.e .z (.j [.dat 3 (.list 4 (.bool)) (.own (.ro)),.box 1 true (T3) (.ro)] [(1,⟨3,[]⟩)] (.j [.dat 3 (.list 4 (.bool)) (.own (.ro)),.i 4,.box 1 true (T3) (.ro)] [(1,⟨3,[]⟩)] (.e .z (.e (.e (.e (.o [(5,.m' M5),(6,.m' M5)]) (.e (.e (.j [.dat 3 (.list 4 (.bool)) (.own (.ro)),.i 4,.l 32,.box 1 true (T3) (.ro),.box 5 true (T5) (.ro)] [(1,⟨3,[]⟩),(5,⟨11,[]⟩)] .z .z) (.j [.dat 3 (.list 4 (.bool)) (.own (.ro)),.i 4,.box 1 true (T3) (.ro),.box 5 true (T5) (.ro)] [(1,⟨3,[]⟩),(5,⟨11,[]⟩)] (.o [(4,⟨[],.ro,[],[],some 6⟩)]) .z)) (.e (.j [.dat 3 (.list 4 (.bool)) (.own (.ro)),.i 4,.l 49,.box 1 true (T3) (.ro)] [(1,⟨3,[]⟩)] .z .z) (.j [.dat 3 (.list 4 (.bool)) (.own (.ro)),.i 4,.box 1 true (T3) (.ro)] [(1,⟨3,[]⟩)] (.o [(4,⟨[],.ro,[],[],some 6⟩)]) .z)))) .z) .z)) .z) .z)) (.e (.o [(5,⟨[],.ro,[],[],some 6⟩)]) (.e (.k [.g 2]) .z))))))
theorem lv:CK eE:=ck eE Tryz.f103 kH [] [.tmp 2] cn
noncomputable def eZ:Cal:=⟨140,[⟨.mov (.own (.ro)),.list 3 (.int .i64)⟩,⟨.ro,.int .i64⟩],[⟨.list 3 (.int .i64),.own (.ro)⟩],fun x=>KJ x.1 x.2.1,0⟩
def ka:Hn:=(.e .z (.e (.e .z (.n ⟨[],[],(some ⟨[.d 0,.i 1],[],[]⟩),true,[]⟩ (.j [.d 0,.i 1,.i 5] [] (.e .z (.e (.e (.e .z (.e (.e (.k [.g 4]) .z) .z)) .z) .z)) .z) .z)) (.e (.n ⟨[],[.g 4],none,false,[(3,.g [.g 19] .ro)]⟩ .z .z) .z)))
theorem mI:CK eZ:=ck eZ Tryz.f140 ka [] [.tmp 4] cn
noncomputable def C80:Cal:=⟨80,[⟨.ro,T3⟩,⟨.ro,.int .i64⟩],[⟨.list 3 (.int .i64),.own (.ro)⟩],fun x=>Ka x.1 x.2.1,0⟩
def H80:Hn:=(.e (.o [(0,.m' M3)]) (.e (.k [.g 5]) (.e (.e .z (.e (.e (.k [.g 4]) .z) .z)) (.e (.o [(5,.m' M5),(6,.m' M5)]) (.e (.k [.g 7]) (.e (.e .z (.e (.e .z (.j [.d 5,.d 7,.box 2 true (T3) (.ro)] [(2,⟨5,[]⟩)] (.k [.g 7]) (.e .z (.j [.d 5,.d 7,.box 2 true (T3) (.ro)] [(2,⟨5,[]⟩)] (.k [.g 7]) (.e .z (.j [.d 5,.d 7,.box 2 true (T3) (.ro)] [(2,⟨5,[]⟩)] (.k [.g 7]) .z)))))) .z)) (.e (.e .z (.j [.d 5] [] (.j [.d 5,.d 7,.i 8,.box 2 true (T3) (.ro)] [(2,⟨5,[]⟩)] (.e .z (.e (.e (.e (.o (tr 0 49 9 [])) (.j [.d 5,.d 7,.i 8,.box 2 true (T3) (.ro)] [(2,⟨5,[]⟩)] (.n ⟨[],[.g 5],none,false,[(5,.g [.g 58] .ro)]⟩ .z .z) .z)) .z) .z)) .z) .z)) (.e (.k [.g 4]) .z))))))))
theorem c80:CK C80:=ck C80 Tryz.f80 H80 [] [.tmp 4] (cc c82 (cc mI cn))
noncomputable def C56:Cal:=⟨56,[⟨.ro,.list 53 (T9)⟩,⟨.ro,.int .i64⟩],[⟨.int .i64,.ro⟩],fun x=>HP x.1 x.2.1,0⟩
def H56:Hn:=(.e .z (.e (.e .z (.n ⟨[],[],(some ⟨[],[],[]⟩),true,[]⟩ (.j [.snp 0 (.list 53 (T9)) [],.i 1,.i 5] [] (.e .z (.e (.e (.e (.j [.snp 0 (.list 53 (T9)) [],.i 1,.i 5,.l 27] [] .z .z) .z) .z) .z)) .z) .z)) .z))
theorem c56:CK C56:=ck C56 Tryz.f56 H56 [] [.tmp 4] cn
noncomputable def C28:Cal:=⟨28,[⟨.ro,T3⟩],[⟨.list 53 (T9),.own (M9)⟩],fun x=>Bf x.1,0⟩
def H28:Hn:=(.e (.o [(0,.m' M3)]) (.e (.n ⟨[],[.g 3],none,false,[(0,.m' M9)]⟩ .z .z) (.e (.e .z (.e (.e (.k [.g 2]) .z) .z)) (.e (.k [.g 4]) (.e .z (.e (.e .z (.j [.dat 3 (.list 53 (T9)) (.own (M9)),.box 1 true (T3) (.ro)] [(1,⟨3,[]⟩)] (.j [.dat 3 (.list 53 (T9)) (.own (M9)),.dat 4 (.list 4 (.bool)) (.own (.ro)),.i 5,.i 6,.box 1 true (T3) (.ro)] [(1,⟨3,[]⟩)] (.e .z (.e (.e (.e .z (.j [.dat 3 (.list 53 (T9)) (.own (M9)),.dat 4 (.list 4 (.bool)) (.own (.ro)),.i 5,.i 6,.box 1 true (T3) (.ro)] [(1,⟨3,[]⟩)] (.e (.n ⟨[],[.g 3],none,false,[(3,.m' M9),(4,.m' M9),(5,.g [.g 29] M9)]⟩ .z .z) .z) .z)) .z) .z)) .z) .z)) (.e (.e .z (.j [.dat 3 (.list 53 (T9)) (.own (M9))] [] (.j [.dat 3 (.list 53 (T9)) (.own (M9)),.i 7,.box 1 true (T3) (.ro)] [(1,⟨3,[]⟩)] (.e .z (.e (.j [.dat 3 (.list 53 (T9)) (.own (M9)),.i 7,.box 1 true (T3) (.ro)] [(1,⟨3,[]⟩)] (.e (.n ⟨[],[.g 8],none,false,(tr 0 42 8 [(8,.t 8)])⟩ .z .z) (.e (.k [.g 9]) (.e (.e .z (.j [.dat 3 (.list 53 (T9)) (.own (M9)),.i 7,.dat 9 (.list 4 (.bool)) (.own (.ro)),.box 1 true (T3) (.ro)] [(1,⟨3,[]⟩)] (.j [.dat 3 (.list 53 (T9)) (.own (M9)),.i 7,.d 8,.dat 9 (.list 4 (.bool)) (.own (.ro)),.i 10,.box 1 true (T3) (.ro)] [(1,⟨3,[]⟩)] (.e .z (.e (.e (.o [(8,⟨[],.ro,[],[],some 18⟩)]) .z) .z)) .z) .z)) (.e .z (.j [.dat 3 (.list 53 (T9)) (.own (M9)),.i 7,.box 1 true (T3) (.ro)] [(1,⟨3,[]⟩)] (.j [.dat 3 (.list 53 (T9)) (.own (M9)),.i 7,.dat 9 (.list 4 (.bool)) (.own (.ro)),.i 11,.box 1 true (T3) (.ro)] [(1,⟨3,[]⟩)] (.e .z (.e (.e (.e .z (.j [.dat 3 (.list 53 (T9)) (.own (M9)),.i 7,.dat 9 (.list 4 (.bool)) (.own (.ro)),.i 11,.box 1 true (T3) (.ro)] [(1,⟨3,[]⟩)] (.n ⟨[.h 3],[.e 3,.g 3],none,false,[(0,.m' (.hole)),(2,.m' (.hole)),(9,.m' (.hole)),(12,⟨[],.hole,[],[],some 7⟩)]⟩ .z .z) .z)) .z) .z)) .z) .z))))) .z) .z)) .z) .z)) (.e (.k [.g 2]) .z))))))))
theorem c28:CK C28:=ck C28 Tryz.f28 H28 [] [.tmp 2] (cc c15 (cc lv (cc c80 (cc c56 cn))))
noncomputable def C48:Cal:=⟨48,[⟨.ro,.list 5 (.int .u8)⟩],[⟨.list 53 (T9),.own (M9)⟩,⟨.int .i64,.ro⟩],fun x=>GH x.1,0⟩
def H48:Hn:=(.e .z (.e .z (.e .z (.e (.k [.g 2]) .z))))
theorem c48:CK C48:=ck C48 Tryz.f48 H48 [] [.tmp 2,.tmp 3] (cc c73 (cc c88 (cc c74 (cc c28 cn))))
noncomputable def C91:Cal:=⟨91,[⟨.ro,.int .i64⟩,⟨.ro,.int .i64⟩,⟨.ro,.int .i64⟩],[⟨.bool,.ro⟩],fun x=>Ci x.1 x.2.1 x.2.2.1,0⟩
def H91:Hn:=(.e .z (.e (.j [.l 6] [] .z .z) .z))
theorem c91:CK C91:=ck C91 Tryz.f91 H91 [] [.tmp 6] cn
noncomputable def fC:Cal:=⟨179,[⟨.ro,.int .u8⟩],[⟨.bool,.ro⟩],fun x=>GP x.1,0⟩
def ku:Hn:=(.e .z (.e (.j [.l 2] [] .z .z) .z))
theorem mT:CK fC:=ck fC Tryz.f179 ku [] [.tmp 2] cn
noncomputable def fD:Cal:=⟨180,[⟨.ro,.int .u8⟩],[⟨.bool,.ro⟩],fun x=>IM x.1,0⟩
def kv:Hn:=(.e .z (.e (.j [.l 2] [] .z .z) .z))
theorem mU:CK fD:=ck fD Tryz.f180 kv [] [.tmp 2] cn
noncomputable def fO:Cal:=⟨218,[⟨.ro,.str⟩,⟨.ro,.str⟩],[⟨.bool,.ro⟩],fun x=>Kw x.1 x.2.1,0⟩
def lL:Hn:=(.e .z (.e (.e .z (.n ⟨[],[],(some ⟨[],[],[]⟩),true,[]⟩ (.j [.snp 0 (.str) [],.dat 8 (.list 9 (.str)) (.own (.ro)),.i 9,.i 10] [] .z .z) .z)) .z))
theorem mj:CK fO:=ck fO Tryz.f218 lL [] [.tmp 4] (cc c92 cn)
noncomputable def fE:Cal:=⟨181,[⟨.ro,.str⟩],[⟨.bool,.ro⟩],fun x=>JO x.1,0⟩
def kw:Hn:=.z
theorem mV:CK fE:=ck fE Tryz.f181 kw [] [.tmp 2] (cc mj cn)
noncomputable def eX:Cal:=⟨137,[⟨.ro,.str⟩],[⟨.bool,.ro⟩],fun x=>IG x.1,0⟩
def kY:Hn:=(.e .z (.e (.e (.j [.snp 0 (.str) [],.l 13] [] .z .z) .z) (.e (.e .z (.n ⟨[],[],(some ⟨[.snp 0 (.str) []],[],[]⟩),true,[]⟩ (.j [.snp 0 (.str) [],.i 3] [] (.e .z (.e (.e (.e (.j [.snp 0 (.str) [],.i 3,.l 31] [] .z .z) .z) .z) .z)) .z) .z)) .z)))
theorem gX:CK eX:=ck eX Tryz.f137 kY [] [.tmp 2] (cc c91 (cc mT (cc mU (cc mV cn))))
noncomputable def C93:Cal:=⟨93,[⟨.ro,.int .i64⟩],[⟨.bool,.ro⟩],fun x=>MM x.1,0⟩
def H93:Hn:=(.e .z (.e (.j [.l 2] [] .z .z) .z))
theorem c93:CK C93:=ck C93 Tryz.f93 H93 [] [.tmp 2] (cc c91 cn)
noncomputable def fF:Cal:=⟨182,[⟨.ro,T3⟩,⟨.ro,.int .i64⟩,⟨.ro,.bool⟩],[⟨.bool,.ro⟩],fun x=>Ca x.1 x.2.1 x.2.2.1,0⟩
def ky:Hn:=(.e (.o [(0,.m' M3)]) .z)
theorem mW:CK fF:=ck fF Tryz.f182 ky [] [.tmp 6] (cc c91 cn)
noncomputable def C95:Cal:=⟨95,[⟨.ro,.int .i64⟩],[⟨.bool,.ro⟩],fun x=>KU x.1,0⟩
def H95:Hn:=(.e .z (.e (.j [.l 2] [] .z .z) .z))
theorem c95:CK C95:=ck C95 Tryz.f95 H95 [] [.tmp 2] (cc c91 cn)
noncomputable def C96:Cal:=⟨96,[⟨.ro,.int .i64⟩],[⟨.bool,.ro⟩],fun x=>KV x.1,0⟩
def H96:Hn:=.z
theorem c96:CK C96:=ck C96 Tryz.f96 H96 [] [.tmp 2] (cc c91 cn)
noncomputable def eY:Cal:=⟨138,[⟨.ro,T3⟩,⟨.ro,T5⟩],[⟨.bool,.ro⟩],fun x=>KC x.1 x.2.1,0⟩
def kZ:Hn:=(.e (.o [(0,.m' M3),(1,.m' M5)]) (.e .z (.e (.j [.l 5,.box 2 true (T3) (.ro),.box 3 true (T5) (.ro)] [(2,⟨5,[]⟩),(3,⟨7,[]⟩)] .z .z) (.e (.e (.n ⟨[],[],(some ⟨[.l 57,.box 2 true (T3) (.ro),.box 3 true (T5) (.ro)],[(2,⟨5,[]⟩),(3,⟨7,[]⟩)],[]⟩),false,(tr 0 26 32 [])⟩ .z .z) .z) (.e .z (.e (.e .z (.e (.e .z (.j [.i 6,.box 2 true (T3) (.ro),.box 3 true (T5) (.ro)] [(2,⟨5,[]⟩),(3,⟨7,[]⟩)] .z (.e (.e .z (.j [.i 6,.l 62,.box 2 true (T3) (.ro),.box 3 true (T5) (.ro)] [(2,⟨5,[]⟩),(3,⟨7,[]⟩)] .z .z)) (.j [.i 6,.box 2 true (T3) (.ro),.box 3 true (T5) (.ro)] [(2,⟨5,[]⟩),(3,⟨7,[]⟩)] .z .z)))) .z)) (.e .z (.e (.e .z (.e (.e (.j [.l 4] [] .z .z) .z) .z)) (.e (.e .z (.n ⟨[],[],(some ⟨[.box 3 true (T5) (.ro)],[(3,⟨7,[]⟩)],[]⟩),true,[]⟩ (.j [.snp 87 (.list 3 (.int .i64)) [],.i 88,.i 89,.box 2 true (T3) (.ro),.box 3 true (T5) (.ro)] [(2,⟨5,[]⟩),(3,⟨7,[]⟩)] .z .z) .z)) (.e (.j [.l 4] [] .z .z) .z))))))))))
theorem mH:CK eY:=ck eY Tryz.f138 kZ [] [.tmp 4] (cc c91 (cc c93 (cc mW (cc c95 (cc c96 (cc gX cn))))))
noncomputable def C77:Cal:=⟨77,[⟨.ro,T3⟩],[⟨.bool,.ro⟩],fun x=>IE x.1,0⟩
def H77:Hn:=(.e (.o [(0,.m' M3)]) (.e .z (.e (.e (.j [.l 44,.box 1 true (T3) (.ro)] [(1,⟨3,[]⟩)] .z .z) .z) (.e (.e .z (.n ⟨[],[],(some ⟨[.box 1 true (T3) (.ro)],[(1,⟨3,[]⟩)],[]⟩),true,[]⟩ (.j [.snp 46 (.list 3 (.int .i64)) [],.i 47,.i 48,.box 1 true (T3) (.ro)] [(1,⟨3,[]⟩)] .z .z) .z)) (.e (.e .z (.n ⟨[],[],(some ⟨[],[],[]⟩),true,[]⟩ (.j [.snp 57 (.list 38 (T5)) [],.i 58,.i 59,.box 1 true (T3) (.ro)] [(1,⟨3,[]⟩)] (.e .z (.e .z (.e (.e (.e (.o [(2,.m' M5),(3,.m' M5)]) .z) .z) .z))) .z) .z)) .z)))))
theorem c77:CK C77:=ck C77 Tryz.f77 H77 [] [.tmp 2] (cc gX (cc c91 (cc mH cn)))
noncomputable def eO:Cal:=⟨111,[⟨.ro,T3⟩,⟨.ro,.int .i64⟩],[⟨.list 3 (.int .i64),.own (.ro)⟩],fun x=>KT x.1 x.2.1,0⟩
def kO:Hn:=(.e (.o [(0,.m' M3)]) (.e .z (.e (.o [(5,.m' M5),(6,.m' M5)]) (.e (.k [.g 6]) (.e (.e .z (.e (.e .z (.j [.d 6,.box 2 true (T3) (.ro)] [(2,⟨5,[]⟩)] .z (.e .z (.j [.d 6,.box 2 true (T3) (.ro)] [(2,⟨5,[]⟩)] (.k [.g 6]) (.e .z (.j [.d 6,.box 2 true (T3) (.ro)] [(2,⟨5,[]⟩)] (.n ⟨[],[.g 6],none,false,[(4,.g [.g 36] .ro)]⟩ .z .z) .z)))))) .z)) (.e .z (.e (.e (.k [.g 41]) (.j [.d 7] [] (.j [.d 7,.d 41,.i 42,.i 43,.box 2 true (T3) (.ro)] [(2,⟨5,[]⟩)] (.e .z (.e .z (.e (.e (.e .z (.e .z (.j [.d 7,.d 41,.i 42,.i 43,.box 2 true (T3) (.ro)] [(2,⟨5,[]⟩)] (.n ⟨[],[.g 7],none,false,[(3,.g [.g 53] .ro)]⟩ .z .z) .z))) .z) .z))) .z) .z)) (.e (.k [.g 4]) .z))))))))
theorem gT:CK eO:=ck eO Tryz.f111 kO [] [.tmp 4] (cc c91 cn)
noncomputable def C50:Cal:=⟨50,[⟨.ro,T3⟩],[⟨.list 4 (.bool),.own (.ro)⟩],fun x=>Ch x.1,0⟩
def H50:Hn:=(.e (.o [(0,.m' M3)]) (.e .z (.e (.k [.g 3]) (.e (.o [(2,⟨[],.ro,[],[],some 6⟩)]) (.e (.k [.g 4]) (.e (.j [.dat 3 (.list 4 (.bool)) (.own (.ro))] [] (.j [.dat 3 (.list 4 (.bool)) (.own (.ro)),.d 4,.box 1 true (T3) (.ro)] [(1,⟨3,[]⟩)] (.e .z (.j [.dat 3 (.list 4 (.bool)) (.own (.ro)),.d 4,.box 1 true (T3) (.ro)] [(1,⟨3,[]⟩)] (.e .z (.e (.n ⟨[],[.g 4],none,false,[(1,.g [.g 24] (.own (.ro)))]⟩ .z .z) (.e .z (.j [.dat 3 (.list 4 (.bool)) (.own (.ro)),.d 4,.box 1 true (T3) (.ro)] [(1,⟨3,[]⟩)] (.j [.dat 3 (.list 4 (.bool)) (.own (.ro)),.d 4,.d 28,.i 29,.i 30,.box 1 true (T3) (.ro)] [(1,⟨3,[]⟩)] (.e .z (.e .z (.e (.e (.e .z (.e .z (.j [.dat 3 (.list 4 (.bool)) (.own (.ro)),.d 4,.d 28,.i 29,.i 30,.box 1 true (T3) (.ro)] [(1,⟨3,[]⟩)] (.e (.o [(3,⟨[],.ro,[],[],some 6⟩)]) (.n ⟨[],[.g 4],none,false,[(3,.g [.g 42] .ro)]⟩ .z .z)) .z))) .z) .z))) .z) .z)))) .z)) .z) .z) (.e (.k [.g 2]) .z)))))))
theorem c50:CK C50:=ck C50 Tryz.f50 H50 [] [.tmp 2] (cc c77 (cc gT cn))
noncomputable def C14:Cal:=⟨14,[⟨.ro,T3⟩],[⟨.list 4 (.bool),.own (.ro)⟩],fun x=>Cj x.1,0⟩
def H14:Hn:=(.e (.o [(0,.m' M3)]) (.e (.e .z (.e (.e (.k [.g 2]) .z) .z)) (.e (.k [.g 3]) (.e (.o [(2,⟨[],.ro,[],[],some 6⟩)]) (.e (.k [.g 4]) (.e (.e .z (.j [.dat 3 (.list 4 (.bool)) (.own (.ro))] [] (.j [.dat 3 (.list 4 (.bool)) (.own (.ro)),.d 4,.i 5,.box 1 true (T3) (.ro)] [(1,⟨3,[]⟩)] (.e .z (.e (.j [.dat 3 (.list 4 (.bool)) (.own (.ro)),.d 4,.i 5,.box 1 true (T3) (.ro)] [(1,⟨3,[]⟩)] (.e (.n ⟨[],[.g 6],none,false,(tr 0 25 6 [(6,.t 6)])⟩ .z .z) (.e .z (.j [.dat 3 (.list 4 (.bool)) (.own (.ro)),.d 4,.i 5,.box 1 true (T3) (.ro)] [(1,⟨3,[]⟩)] (.j [.dat 3 (.list 4 (.bool)) (.own (.ro)),.d 4,.i 5,.d 6,.i 7,.box 1 true (T3) (.ro)] [(1,⟨3,[]⟩)] (.e .z (.e (.e (.e .z (.j [.dat 3 (.list 4 (.bool)) (.own (.ro)),.d 4,.i 5,.d 6,.i 7,.box 1 true (T3) (.ro)] [(1,⟨3,[]⟩)] (.e (.o [(6,⟨[],.ro,[],[],some 6⟩)]) (.n ⟨[],[.g 4],none,false,[(6,.g [.g 51] .ro)]⟩ .z .z)) .z)) .z) .z)) .z) .z))) .z) .z)) .z) .z)) (.e (.k [.g 2]) .z)))))))
theorem c14:CK C14:=ck C14 Tryz.f14 H14 [] [.tmp 2] (cc c15 (cc c80 cn))
noncomputable def C49:Cal:=⟨49,[⟨.ro,.list 4 (.bool)⟩,⟨.ro,.list 4 (.bool)⟩],[⟨.bool,.ro⟩],fun x=>Fg x.1 x.2.1,0⟩
def H49:Hn:=(.e .z (.e .z (.e (.e .z (.n ⟨[],[],(some ⟨[],[],[]⟩),true,[]⟩ (.j [.snp 0 (.list 4 (.bool)) [],.snp 1 (.list 4 (.bool)) [],.i 5] [] (.e .z (.e (.e (.e (.o (tr 0 17 9 [])) .z) .z) .z)) .z) .z)) .z)))
theorem c49:CK C49:=ck C49 Tryz.f49 H49 [] [.tmp 4] cn
noncomputable def eH:Cal:=⟨106,[⟨.ro,.list 3 (.int .i64)⟩,⟨.ro,.int .i64⟩],[⟨.bool,.ro⟩],fun x=>IH x.1 x.2.1,0⟩
def kK:Hn:=(.e .z (.e (.e .z (.n ⟨[],[],(some ⟨[],[],[]⟩),true,[]⟩ (.j [.i 1,.snp 7 (.list 3 (.int .i64)) [],.i 8,.i 9] [] .z .z) .z)) .z))
theorem gP:CK eH:=ck eH Tryz.f106 kK [] [.tmp 4] cn
end Go.Proofs.YtmakhmoielhjeaaGreatDoorE

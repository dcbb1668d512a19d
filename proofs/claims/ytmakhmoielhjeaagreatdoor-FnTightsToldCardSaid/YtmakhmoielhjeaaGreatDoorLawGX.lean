/- The functions of X reckon so (5). No condition. -/
import Derived.Test.YtmakhmoielhjeaaGreatDoorLawGX4
set_option linter.all false
namespace Go.Proofs.YtmakhmoielhjeaaGreatDoorE
set_option maxRecDepth 100000
set_option linter.all false
noncomputable def C37:Cal:=⟨37,[⟨.ro,.list 5 (.int .u8)⟩],[⟨.list 27 (T3),.own (M3)⟩],fun x=>spec_DrawTightAll x.1,0⟩
def H37:Hn:=(.e .z (.e .z (.e (.n ⟨[],[.g 4],none,false,[(0,.m' M3)]⟩ .z .z) (.e (.e .z (.j [.dat 4 (.list 27 (T3)) (.own (M3))] [] (.j [.dat 4 (.list 27 (T3)) (.own (M3)),.i 5,.box 7 true (T10) (.ro)] [(3,⟨15,[]⟩)] (.e .z (.e (.e (.n ⟨[],[.g 4],none,false,[(3,.m' M3),(4,.g [.g 15] M3)]⟩ .z .z) .z) .z)) .z) .z)) (.e (.k [.g 2]) .z)))))
theorem c37:CK C37:=ck C37 Tryz.f37 H37 [] [.tmp 2] (cc c73 (cc c88 (cc c74 cn)))
noncomputable def C78:Cal:=⟨78,[⟨.ro,T3⟩,⟨.ro,.int .i64⟩],[⟨.int .i64,.ro⟩,⟨.bool,.ro⟩],fun x=>impl_endOf x.1 x.2.1,0⟩
def H78:Hn:=(.e (.o [(0,.m' M3)]) (.e (.e .z (.n ⟨[],[],(some ⟨[],[],[]⟩),true,[]⟩ (.j [.i 1,.i 9,.i 10,.box 2 true (T3) (.ro)] [(2,⟨5,[]⟩)] .z .z) .z)) .z))
theorem c78:CK C78:=ck C78 Tryz.f78 H78 [] [.tmp 4,.tmp 5] cn
noncomputable def C11:Cal:=⟨11,[⟨.ro,T3⟩],[⟨T3,M3⟩],fun x=>impl_Threaded x.1,0⟩
def H11:Hn:=(.e (.o [(0,.m' M3),(1,.m' M3)]) (.e (.o [(2,.m' M3),(3,.m' M3)]) (.e (.e .z (.e (.e (.o [(1,.g [.g 13] M3)]) .z) .z)) (.e (.e .z (.j [.box 2 true (T3) (M3),.box 3 true (T3) (M3)] [(2,⟨5,[]⟩),(3,⟨7,[]⟩)] (.j [.i 16,.i 17,.box 1 true (T3) (.ro),.box 2 true (T3) (M3),.box 3 true (T3) (M3)] [(1,⟨3,[]⟩),(2,⟨5,[]⟩),(3,⟨7,[]⟩)] (.e .z (.e .z (.e (.j [.i 16,.i 17,.box 1 true (T3) (.ro),.box 2 true (T3) (M3),.box 3 true (T3) (M3)] [(1,⟨3,[]⟩),(2,⟨5,[]⟩),(3,⟨7,[]⟩)] (.e .z (.e .z (.e (.e (.j [.pt 5 7 [.s,.s,.s] [],.i 16,.i 17,.l 35,.box 1 true (T3) (.ro),.box 2 true (T3) (M3),.box 3 true (T3) (M3)] [(1,⟨3,[]⟩),(2,⟨5,[]⟩),(3,⟨7,[]⟩)] .z .z) .z) (.e (.o (tr 0 37 6 [(6,⟨[],.ro,[36,42],[],none⟩),(7,.t 43),(8,.t 44),(9,.t 6),(10,.t 7)])) (.e .z (.j [.i 16,.i 17,.box 1 true (T3) (.ro),.box 2 true (T3) (M3),.box 3 true (T3) (M3)] [(1,⟨3,[]⟩),(2,⟨5,[]⟩),(3,⟨7,[]⟩)] (.o [(4,⟨[],.ro,[],[],some 7⟩)]) .z)))))) .z) .z))) .z) .z)) (.e (.o [(1,.g [.g 51] M3)]) .z)))))
theorem c11:CK C11:=ck C11 Tryz.f11 H11 [] [.cell 2 27] (cc c76 (cc c77 (cc c78 cn)))
noncomputable def C38:Cal:=⟨38,[⟨.ro,T3⟩],[⟨T3,M3⟩],fun x=>spec_Threaded x.1,0⟩
def H38:Hn:=(.e (.o [(0,.m' M3),(1,.m' M3)]) (.e (.o [(2,.m' M3),(3,.m' M3)]) (.e (.e .z (.e (.e (.o [(1,.g [.g 12] M3)]) .z) .z)) (.e (.e .z (.j [.box 2 true (T3) (M3),.box 3 true (T3) (M3)] [(2,⟨5,[]⟩),(3,⟨7,[]⟩)] (.j [.i 4,.box 1 true (T3) (.ro),.box 2 true (T3) (M3),.box 3 true (T3) (M3)] [(1,⟨3,[]⟩),(2,⟨5,[]⟩),(3,⟨7,[]⟩)] (.e .z (.e (.j [.i 4,.box 1 true (T3) (.ro),.box 2 true (T3) (M3),.box 3 true (T3) (M3)] [(1,⟨3,[]⟩),(2,⟨5,[]⟩),(3,⟨7,[]⟩)] (.e (.e (.j [.i 4,.l 35,.box 1 true (T3) (.ro),.box 2 true (T3) (M3),.box 3 true (T3) (M3)] [(1,⟨3,[]⟩),(2,⟨5,[]⟩),(3,⟨7,[]⟩)] .z .z) .z) (.e .z (.e (.e .z (.j [.i 4,.i 5,.box 1 true (T3) (.ro),.box 2 true (T3) (M3),.box 3 true (T3) (M3)] [(1,⟨3,[]⟩),(2,⟨5,[]⟩),(3,⟨7,[]⟩)] (.j [.i 4,.i 5,.i 6,.box 1 true (T3) (.ro),.box 2 true (T3) (M3),.box 3 true (T3) (M3)] [(1,⟨3,[]⟩),(2,⟨5,[]⟩),(3,⟨7,[]⟩)] (.e (.e (.j [.i 4,.i 5,.i 6,.l 55,.box 1 true (T3) (.ro),.box 2 true (T3) (M3),.box 3 true (T3) (M3)] [(1,⟨3,[]⟩),(2,⟨5,[]⟩),(3,⟨7,[]⟩)] .z .z) .z) .z) .z) .z)) (.e .z (.j [.i 4,.box 1 true (T3) (.ro),.box 2 true (T3) (M3),.box 3 true (T3) (M3)] [(1,⟨3,[]⟩),(2,⟨5,[]⟩),(3,⟨7,[]⟩)] (.o [(6,⟨[],.ro,[],[],some 7⟩)]) .z))))) .z) .z)) .z) .z)) (.e (.o [(1,.g [.g 77] M3)]) .z)))))
theorem c38:CK C38:=ck C38 Tryz.f38 H38 [] [.cell 2 27] (cc c109 (cc c15 cn))
noncomputable def C32:Cal:=⟨32,[⟨.ro,.list 3 (.int .i64)⟩,⟨.ro,.list 3 (.int .i64)⟩],[⟨.bool,.ro⟩],fun x=>laws_sameInts x.1 x.2.1,0⟩
def H32:Hn:=(.e .z (.e .z (.e (.e .z (.n ⟨[],[],(some ⟨[],[],[]⟩),true,[]⟩ (.j [.snp 0 (.list 3 (.int .i64)) [],.snp 1 (.list 3 (.int .i64)) [],.i 5] [] (.e .z (.e (.e (.e (.o (tr 0 17 9 [])) .z) .z) .z)) .z) .z)) .z)))
theorem c32:CK C32:=ck C32 Tryz.f32 H32 [] [.tmp 4] cn
noncomputable def C16:Cal:=⟨16,[⟨.ro,T3⟩,⟨.ro,T3⟩],[⟨.bool,.ro⟩],fun x=>laws_sameCode x.1 x.2.1,0⟩
def H16:Hn:=(.e (.o [(0,.m' M3),(1,.m' M3)]) (.e (.e (.j [.l 36,.box 2 true (T3) (.ro),.box 3 true (T3) (.ro)] [(2,⟨5,[]⟩),(3,⟨7,[]⟩)] .z .z) .z) (.e (.e .z (.n ⟨[],[],(some ⟨[],[],[]⟩),true,[]⟩ (.j [.i 5,.box 2 true (T3) (.ro),.box 3 true (T3) (.ro)] [(2,⟨5,[]⟩),(3,⟨7,[]⟩)] (.e .z (.e (.e (.e (.o [(5,.m' M5),(6,.m' M5)]) (.e (.o [(5,.m' M5),(6,.m' M5)]) (.e (.j [.i 5,.l 101,.box 2 true (T3) (.ro),.box 3 true (T3) (.ro)] [(2,⟨5,[]⟩),(3,⟨7,[]⟩)] .z .z) .z))) .z) .z)) .z) .z)) .z)))
theorem c16:CK C16:=ck C16 Tryz.f16 H16 [] [.tmp 4] (cc c32 cn)
noncomputable def C183:Cal:=⟨183,[⟨.ro,.list 3 (.int .i64)⟩,⟨.ro,.list 3 (.int .i64)⟩],[⟨.bool,.ro⟩],fun x=>impl_sameInts x.1 x.2.1,0⟩
def H183:Hn:=(.e .z (.e .z (.e (.e .z (.n ⟨[],[],(some ⟨[],[],[]⟩),true,[]⟩ (.j [.snp 0 (.list 3 (.int .i64)) [],.snp 1 (.list 3 (.int .i64)) [],.i 12,.i 13] [] (.e .z (.e .z (.e (.e (.e .z (.e (.o (tr 0 16 9 [])) .z)) .z) .z))) .z) .z)) .z)))
theorem c183:CK C183:=ck C183 Tryz.f183 H183 [] [.tmp 4] cn
noncomputable def C139:Cal:=⟨139,[⟨.ro,T5⟩,⟨.ro,T5⟩],[⟨.bool,.ro⟩],fun x=>impl_sameWord x.1 x.2.1,0⟩
def H139:Hn:=(.e (.o [(0,.m' M5),(1,.m' M5)]) (.e (.j [.l 4] [] .z .z) .z))
theorem c139:CK C139:=ck C139 Tryz.f139 H139 [] [.tmp 4] (cc c183 cn)
noncomputable def C79:Cal:=⟨79,[⟨.ro,.list 38 (T5)⟩,⟨.ro,.list 38 (T5)⟩],[⟨.bool,.ro⟩],fun x=>impl_sameWords x.1 x.2.1,0⟩
def H79:Hn:=(.e .z (.e .z (.e (.e .z (.n ⟨[],[],(some ⟨[],[],[]⟩),true,[]⟩ (.j [.snp 0 (.list 38 (T5)) [],.snp 1 (.list 38 (T5)) [],.i 12,.i 13] [] (.e .z (.e .z (.e (.e (.e .z (.e (.o (tr 0 16 10 [])) .z)) .z) .z))) .z) .z)) .z)))
theorem c79:CK C79:=ck C79 Tryz.f79 H79 [] [.tmp 4] (cc c139 cn)
noncomputable def C13:Cal:=⟨13,[⟨.ro,T3⟩],[⟨T3,M3⟩],fun x=>impl_Tightened x.1,0⟩
def H13:Hn:=(.e (.o [(0,.m' M3),(1,.m' M3)]) (.e (.o [(2,.m' M3),(3,.m' M3)]) (.e (.j [.box 2 true (T3) (M3),.box 3 true (T3) (M3)] [(2,⟨5,[]⟩),(3,⟨7,[]⟩)] (.e (.e (.o [(6,.m' M3),(7,.m' M3)]) (.e (.e (.j [.l 22,.box 2 true (T3) (M3),.box 3 true (T3) (M3),.box 4 true (T3) (M3)] [(2,⟨5,[]⟩),(3,⟨7,[]⟩),(4,⟨9,[]⟩)] .z .z) (.e (.e (.o [(1,.g [.g 23] M3)]) .z) .z)) (.o [(1,.g [.g 24] M3)]))) .z) .z) .z)))
theorem c13:CK C13:=ck C13 Tryz.f13 H13 [] [.cell 2 27] (cc c76 (cc c11 (cc c12 (cc c79 cn))))
noncomputable def C110:Cal:=⟨110,[⟨.ro,T3⟩,⟨.ro,T3⟩],[⟨.bool,.ro⟩],fun x=>spec_l30Same x.1 x.2.1,0⟩
def H110:Hn:=(.e (.o [(0,.m' M3),(1,.m' M3)]) (.e .z (.e (.e .z (.n ⟨[],[],(some ⟨[],[],[]⟩),true,[]⟩ (.j [.i 5,.box 2 true (T3) (.ro),.box 3 true (T3) (.ro)] [(2,⟨5,[]⟩),(3,⟨7,[]⟩)] (.e .z (.e (.e (.e (.n ⟨[],[],(some ⟨[.i 5,.l 47,.box 2 true (T3) (.ro),.box 3 true (T3) (.ro)],[(2,⟨5,[]⟩),(3,⟨7,[]⟩)],[]⟩),false,(tr 0 20 28 [])⟩ .z .z) .z) .z) .z)) .z) .z)) .z)))
theorem c110:CK C110:=ck C110 Tryz.f110 H110 [] [.tmp 4] cn
noncomputable def C39:Cal:=⟨39,[⟨.ro,T3⟩],[⟨T3,M3⟩],fun x=>spec_Tightened x.1,0⟩
def H39:Hn:=(.e (.o [(0,.m' M3),(1,.m' M3)]) (.e (.o [(2,.m' M3),(3,.m' M3)]) (.e (.e .z (.j [.box 2 true (T3) (M3),.box 3 true (T3) (M3)] [(2,⟨5,[]⟩),(3,⟨7,[]⟩)] (.j [.i 4,.box 2 true (T3) (M3),.box 3 true (T3) (M3)] [(2,⟨5,[]⟩),(3,⟨7,[]⟩)] (.e .z (.e (.e (.e (.o [(6,.m' M3),(7,.m' M3)]) (.e (.e (.j [.i 4,.l 25,.box 2 true (T3) (M3),.box 3 true (T3) (M3),.box 5 true (T3) (M3)] [(2,⟨5,[]⟩),(3,⟨7,[]⟩),(5,⟨11,[]⟩)] .z .z) .z) (.o [(1,.g [.g 26] M3)]))) .z) .z)) .z) .z)) (.e (.o [(1,.g [.g 27] M3)]) .z))))
theorem c39:CK C39:=ck C39 Tryz.f39 H39 [] [.cell 2 27] (cc c109 (cc c38 (cc c35 (cc c110 cn))))
noncomputable def C41:Cal:=⟨41,[⟨.ro,.list 27 (T3)⟩],[⟨.list 27 (T3),.own (M3)⟩],fun x=>impl_TightAll x.1,0⟩
def H41:Hn:=(.e .z (.e .z (.e (.e .z (.j [.dat 3 (.list 27 (T3)) (.own (M3))] [] (.j [.dat 3 (.list 27 (T3)) (.own (M3)),.snp 6 (.list 27 (T3)) [],.i 7,.i 8] [] (.e .z (.e .z (.e (.e (.e (.o [(2,.m' M3),(3,.m' M3)]) (.n ⟨[],[.g 3],none,false,[(3,.m' M3),(4,.g [.g 12] M3)]⟩ .z .z)) .z) .z))) .z) .z)) (.e (.k [.g 2]) .z))))
theorem c41:CK C41:=ck C41 Tryz.f41 H41 [] [.tmp 2] (cc c13 cn)
noncomputable def C42:Cal:=⟨42,[⟨.ro,.list 27 (T3)⟩],[⟨.list 27 (T3),.own (M3)⟩],fun x=>spec_TightAll x.1,0⟩
def H42:Hn:=(.e .z (.e (.n ⟨[],[.g 3],none,false,[(0,.m' M3)]⟩ .z .z) (.e (.e .z (.j [.dat 3 (.list 27 (T3)) (.own (M3))] [] (.j [.snp 0 (.list 27 (T3)) [],.dat 3 (.list 27 (T3)) (.own (M3)),.i 4] [] (.e .z (.e (.e (.n ⟨[],[.g 3],none,false,[(6,.m' M3),(7,.g [.g 12] M3)]⟩ .z .z) .z) .z)) .z) .z)) (.e (.k [.g 2]) .z))))
theorem c42:CK C42:=ck C42 Tryz.f42 H42 [] [.tmp 2] (cc c39 cn)
noncomputable def C40:Cal:=⟨40,[⟨.ro,.list 27 (T3)⟩,⟨.ro,.list 27 (T3)⟩],[⟨.bool,.ro⟩],fun x=>laws_sameCodes x.1 x.2.1,0⟩
def H40:Hn:=(.e .z (.e .z (.e (.e .z (.n ⟨[],[],(some ⟨[],[],[]⟩),true,[]⟩ (.j [.snp 0 (.list 27 (T3)) [],.snp 1 (.list 27 (T3)) [],.i 5] [] (.e .z (.e (.e (.e (.o (tr 0 17 10 [])) .z) .z) .z)) .z) .z)) .z)))
theorem c40:CK C40:=ck C40 Tryz.f40 H40 [] [.tmp 4] (cc c16 cn)
noncomputable def C43:Cal:=⟨43,[⟨.ro,T3⟩],[⟨.int .i64,.ro⟩],fun x=>impl_JumpsIn x.1,0⟩
def H43:Hn:=(.e (.o [(0,.m' M3)]) (.e .z (.e (.e .z (.j [.i 3] [] (.j [.i 3,.snp 7 (.list 38 (T5)) [],.i 8,.i 9] [] (.e .z (.e .z (.e (.e (.e (.o [(2,.m' M5),(3,.m' M5)]) (.e .z (.j [.i 3,.snp 7 (.list 38 (T5)) [],.i 8,.i 9] [] .z .z))) .z) .z))) .z) .z)) .z)))
theorem c43:CK C43:=ck C43 Tryz.f43 H43 [] [.tmp 2] cn
noncomputable def C44:Cal:=⟨44,[⟨.ro,T3⟩],[⟨.int .i64,.ro⟩],fun x=>spec_JumpsIn x.1,0⟩
def H44:Hn:=(.e (.o [(0,.m' M3)]) (.e .z (.e (.e .z (.j [.i 3] [] (.j [.i 3,.i 4,.box 1 true (T3) (.ro)] [(1,⟨3,[]⟩)] (.e .z (.e (.e (.e .z (.j [.i 3,.i 4,.box 1 true (T3) (.ro)] [(1,⟨3,[]⟩)] .z .z)) .z) .z)) .z) .z)) .z)))
theorem c44:CK C44:=ck C44 Tryz.f44 H44 [] [.tmp 2] cn
noncomputable def C6:Cal:=⟨6,[⟨.ro,.list 5 (.int .u8)⟩],[⟨.bool,.ro⟩],fun x=>laws_FnTightsTold x.1,0⟩
def H6:Hn:=(.e .z (.e .z (.e (.o [(2,.m' M3),(3,.m' M3)]) (.e (.o [(5,.m' M3),(6,.m' M3)]) (.e (.o [(5,.m' M3),(6,.m' M3)]) (.e (.o [(2,.m' M3),(3,.m' M3)]) (.e (.k [.g 9]) (.e (.n ⟨[],[],(some ⟨[.l 2],[],[]⟩),false,(tr 0 28 36 [(36,.t 2)])⟩ .z .z) .z))))))))
theorem c6:CK C6:=ck C6 Tryz.f6 H6 [] [.tmp 2] (cc c9 (cc c34 (cc c12 (cc c35 (cc c36 (cc c37 (cc c11 (cc c38 (cc c16 (cc c13 (cc c39 (cc c41 (cc c42 (cc c40 (cc c43 (cc c44 cn))))))))))))))))
end Go.Proofs.YtmakhmoielhjeaaGreatDoorE

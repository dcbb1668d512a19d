/- The functions of X reckon so (5). No condition. -/
import Derived.Test.YtmakhmoielhjeaaGreatDoorLawGX4
set_option linter.all false
namespace Go.Proofs.YtmakhmoielhjeaaGreatDoorE
noncomputable section
set_option maxRecDepth 100000
def C80:Cal:=⟨80,[⟨.ro,T3⟩,⟨.ro,.int .i64⟩],[⟨.list 3 (.int .i64),.own (.ro)⟩],fun x=>LU x.1 x.2.1,0⟩
def H80:Hn:=(.e (.o [(0,.m' M3)]) (.e (.k [.g 5]) (.e (.e .z (.e (.e (.k [.g 4]) .z) .z)) (.e (.o [(5,.m' M5),(6,.m' M5)]) (.e (.k [.g 7]) (.e (.e .z (.e (.e .z (.j [.d 5,.d 7,.box 2 true (T3) (.ro)] [(2,⟨5,[]⟩)] (.k [.g 7]) (.e .z (.j [.d 5,.d 7,.box 2 true (T3) (.ro)] [(2,⟨5,[]⟩)] (.k [.g 7]) (.e .z (.j [.d 5,.d 7,.box 2 true (T3) (.ro)] [(2,⟨5,[]⟩)] (.k [.g 7]) .z)))))) .z)) (.e (.e .z (.j [.d 5] [] (.j [.d 5,.d 7,.i 8,.box 2 true (T3) (.ro)] [(2,⟨5,[]⟩)] (.e .z (.e (.e (.e (.o (tr 0 49 9 [])) (.j [.d 5,.d 7,.i 8,.box 2 true (T3) (.ro)] [(2,⟨5,[]⟩)] (.n ⟨[],[.g 5],none,false,[(5,.g [.g 58] .ro)]⟩ .z .z) .z)) .z) .z)) .z) .z)) (.e (.k [.g 4]) .z))))))))
theorem c80:CK C80:=ck C80 Tryz.f80 H80 [] [.tmp 4] (cc c82 (cc kD cn))
def C14:Cal:=⟨14,[⟨.ro,T3⟩],[⟨.list 4 (.bool),.own (.ro)⟩],fun x=>CC x.1,0⟩
def H14:Hn:=(.e (.o [(0,.m' M3)]) (.e (.e .z (.e (.e (.k [.g 2]) .z) .z)) (.e (.k [.g 3]) (.e (.o [(2,⟨[],.ro,[],[],some 6⟩)]) (.e (.k [.g 4]) (.e (.e .z (.j [.dat 3 (.list 4 (.bool)) (.own (.ro))] [] (.j [.dat 3 (.list 4 (.bool)) (.own (.ro)),.d 4,.i 5,.box 1 true (T3) (.ro)] [(1,⟨3,[]⟩)] (.e .z (.e (.j [.dat 3 (.list 4 (.bool)) (.own (.ro)),.d 4,.i 5,.box 1 true (T3) (.ro)] [(1,⟨3,[]⟩)] (.e (.n ⟨[],[.g 6],none,false,(tr 0 25 6 [(6,.t 6)])⟩ .z .z) (.e .z (.j [.dat 3 (.list 4 (.bool)) (.own (.ro)),.d 4,.i 5,.box 1 true (T3) (.ro)] [(1,⟨3,[]⟩)] (.j [.dat 3 (.list 4 (.bool)) (.own (.ro)),.d 4,.i 5,.d 6,.i 7,.box 1 true (T3) (.ro)] [(1,⟨3,[]⟩)] (.e .z (.e (.e (.e .z (.j [.dat 3 (.list 4 (.bool)) (.own (.ro)),.d 4,.i 5,.d 6,.i 7,.box 1 true (T3) (.ro)] [(1,⟨3,[]⟩)] (.e (.o [(6,⟨[],.ro,[],[],some 6⟩)]) (.n ⟨[],[.g 4],none,false,[(6,.g [.g 51] .ro)]⟩ .z .z)) .z)) .z) .z)) .z) .z))) .z) .z)) .z) .z)) (.e (.k [.g 2]) .z)))))))
theorem c14:CK C14:=ck C14 Tryz.f14 H14 [] [.tmp 2] (cc c15 (cc c80 cn))
def C32:Cal:=⟨32,[⟨.ro,.list 3 (.int .i64)⟩,⟨.ro,.list 3 (.int .i64)⟩],[⟨.bool,.ro⟩],fun x=>Fn x.1 x.2.1,0⟩
def H32:Hn:=(.e .z (.e .z (.e (.e .z (.n ⟨[],[],(some ⟨[],[],[]⟩),true,[]⟩ (.j [.snp 0 (.list 3 (.int .i64)) [],.snp 1 (.list 3 (.int .i64)) [],.i 5] [] (.e .z (.e (.e (.e (.o (tr 0 17 9 [])) .z) .z) .z)) .z) .z)) .z)))
theorem c32:CK C32:=ck C32 Tryz.f32 H32 [] [.tmp 4] cn
def C16:Cal:=⟨16,[⟨.ro,T3⟩,⟨.ro,T3⟩],[⟨.bool,.ro⟩],fun x=>Fm x.1 x.2.1,0⟩
def H16:Hn:=(.e (.o [(0,.m' M3),(1,.m' M3)]) (.e (.e (.j [.l 36,.box 2 true (T3) (.ro),.box 3 true (T3) (.ro)] [(2,⟨5,[]⟩),(3,⟨7,[]⟩)] .z .z) .z) (.e (.e .z (.n ⟨[],[],(some ⟨[],[],[]⟩),true,[]⟩ (.j [.i 5,.box 2 true (T3) (.ro),.box 3 true (T3) (.ro)] [(2,⟨5,[]⟩),(3,⟨7,[]⟩)] (.e .z (.e (.e (.e (.o [(5,.m' M5),(6,.m' M5)]) (.e (.o [(5,.m' M5),(6,.m' M5)]) (.e (.j [.i 5,.l 101,.box 2 true (T3) (.ro),.box 3 true (T3) (.ro)] [(2,⟨5,[]⟩),(3,⟨7,[]⟩)] .z .z) .z))) .z) .z)) .z) .z)) .z)))
theorem c16:CK C16:=ck C16 Tryz.f16 H16 [] [.tmp 4] (cc c32 cn)
def C3:Cal:=⟨3,[⟨.ro,.list 5 (.int .u8)⟩],[⟨.bool,.ro⟩],fun x=>Gx x.1,0⟩
def H3:Hn:=(.e .z (.e .z (.e (.o [(2,.m' M3),(3,.m' M3)]) (.e (.o [(2,.m' M3),(3,.m' M3)]) (.e (.o [(5,.m' M3),(6,.m' M3)]) (.e (.o [(2,.m' M3),(3,.m' M3)]) (.e (.o [(6,.m' M3),(7,.m' M3)]) (.e (.k [.g 10]) (.e (.e .z (.n ⟨[],[],(some ⟨[.l 6,.l 9,.box 3 true (T3) (.ro),.box 4 true (T3) (M3),.box 5 true (T3) (M3),.box 7 true (T3) (M3),.box 8 true (T3) (M3)],[(3,⟨7,[]⟩),(4,⟨9,[]⟩),(5,⟨11,[]⟩),(7,⟨15,[]⟩),(8,⟨17,[]⟩)],[]⟩),true,[]⟩ (.j [.l 6,.l 9,.dat 10 (.list 4 (.bool)) (.own (.ro)),.i 11,.box 3 true (T3) (.ro),.box 4 true (T3) (M3),.box 5 true (T3) (M3),.box 7 true (T3) (M3),.box 8 true (T3) (M3)] [(3,⟨7,[]⟩),(4,⟨9,[]⟩),(5,⟨11,[]⟩),(7,⟨15,[]⟩),(8,⟨17,[]⟩)] .z .z) .z)) (.e (.n ⟨[],[],(some ⟨[.l 2],[],[]⟩),false,(tr 0 45 54 [(54,.t 2)])⟩ .z .z) .z))))))))))
theorem c3:CK C3:=ck C3 Tryz.f3 H3 [] [.tmp 2] (cc c9 (cc c10 (cc c11 (cc c12 (cc c13 (cc c14 (cc c15 (cc c16 cn))))))))
end
end Go.Proofs.YtmakhmoielhjeaaGreatDoorE

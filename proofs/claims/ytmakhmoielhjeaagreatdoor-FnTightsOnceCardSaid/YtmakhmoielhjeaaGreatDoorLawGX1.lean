/- The functions of X reckon so (1). No condition. -/
import Derived.Test.YtmakhmoielhjeaaGreatDoorLawLBX
import Derived.Test.YtmakhmoielhjeaaGreatDoorPackR
import Derived.Test.YtmakhmoielhjeaaGreatDoorLawFX
import Derived.Test.YtmakhmoielhjeaaGreatDoorProg
set_option linter.all false
namespace Go.Proofs.YtmakhmoielhjeaaGreatDoorE
noncomputable section
set_option maxRecDepth 100000
def Hn.e (a b:Hn):Hn:=.n ⟨[],[],none,false,[]⟩ a b
def OH.t (n:Nat):OH:=⟨[],.ro,[n],[],none⟩
def OH.b (n:Nat):OH:=⟨[],.ro,[],[n],none⟩
def OH.r:OH:=⟨[],.ro,[],[],none⟩
abbrev T17:Ty:=.pair (.str) (.int .i64)
abbrev T13:Ty:=.pair (.int .i64) (T17)
abbrev T12:Ty:=.pair (.str) (.pair (.int .i64) (.int .i64))
abbrev M10:Md:=.pr (.own (.ro)) (.ro)
abbrev T10:Ty:=.pair (.list 5 (.int .u8)) (.pair (.int .i64) (.int .i64))
abbrev M7:Md:=.pr (.ro) (.pr (.ro) (.pr (.ro) (.own (.ro))))
abbrev T7:Ty:=.pair (.int .i64) (.pair (.int .i64) (.pair (.str) (.list 3 (.int .i64))))
abbrev M6:Md:=.pr (.ro) (M10)
abbrev T6:Ty:=.pair (.str) (.pair (.list 156 (T17)) (.pair (.int .i64) (.pair (.int .i64) (.int .i64))))
abbrev M5:Md:=.pr (.ro) (.pr (.ro) (.pr (.ro) (M7)))
abbrev T5:Ty:=.pair (.int .i64) (.pair (.int .i64) (.pair (.int .i64) (T7)))
abbrev M4:Md:=.pr (.own (.ro)) (.pr (.ro) (.pr (.ro) (.pr (.ro) (.own (M7)))))
abbrev T4:Ty:=.pair (.list 216 (T13)) (.pair (.int .i64) (.pair (.bool) (.pair (.int .i64) (.list 114 (T7)))))
abbrev M3:Md:=.pr (.ro) (.pr (.ro) (.pr (.own (.ro)) (.own (M5))))
abbrev T3:Ty:=.pair (.str) (.pair (.int .i64) (.pair (.list 3 (.int .i64)) (.list 38 (T5))))
abbrev M2:Md:=.pr (.own (M7)) (.own (M6))
abbrev T2:Ty:=.pair (.list 114 (T7)) (.list 125 (T6))
abbrev M1:Md:=.pr (M2) (M6)
abbrev T1:Ty:=.pair (T2) (.pair (.int .i64) (.pair (.list 9 (.str)) (.bool)))
abbrev M0:Md:=.pr (M2) (.pr (.own (.ro)) (M3))
abbrev T0:Ty:=.pair (T2) (.pair (.list 119 (T12)) (T3))
def tab:List TE:=[⟨85,.bool,0,0⟩,⟨191,.pair (.list 9 (.str)) (.pair (.list 9 (.str)) (.pair (.int .i64) (.pair (.str) (.bool)))),5,0⟩,⟨3,.int .i64,0,8⟩,⟨4,.bool,0,1⟩,⟨5,.int .u8,0,1⟩,⟨9,.str,0,16⟩,⟨22,.list 5 (.int .u8),0,24⟩,⟨24,.list 3 (.int .i64),0,24⟩,⟨25,.list 38 (T5),0,24⟩,⟨27,T3,4,72⟩,⟨32,.list 4 (.bool),0,24⟩,⟨38,T5,7,80⟩,⟨55,.list 27 (T3),0,24⟩,⟨66,.list 114 (T7),0,24⟩,⟨67,.list 125 (T6),0,24⟩,⟨69,T2,2,48⟩,⟨77,.list 9 (.str),0,24⟩,⟨114,T7,4,56⟩,⟨116,.list 119 (T12),0,24⟩,⟨119,T12,3,32⟩,⟨123,.list 156 (T17),0,24⟩,⟨125,T6,5,64⟩,⟨133,T10,3,40⟩,⟨156,T17,2,24⟩,⟨163,T1,4,88⟩,⟨182,.list 216 (T13),0,24⟩,⟨187,T4,5,72⟩,⟨199,T0,3,144⟩,⟨216,T13,3,32⟩]
theorem CL:TabOk Tryz.prog tab:=fg (by kernel_rfl)
theorem kOk:WA tab=true:=by kernel_rfl
theorem CU:Tryz.prog.follows .mixedOrders=true:=by kernel_rfl
def Hn.o (l:List (Nat×OH)):Hn:=.n ⟨[],[],none,false,l⟩ .z .z
def Hn.k (l:List Gr):Hn:=.n ⟨[],l,none,false,[]⟩ .z .z
def En.i (k:Nat):En:=.snp k (.int .i64) []
def En.l (k:Nat):En:=.snp k .bool []
def En.d (k:Nat):En:=.dat k (.list 3 (.int .i64)) (.own .ro)
def OH.m' (m:Md):OH:=⟨[],m,[],[],none⟩
def OH.g (g:List Gr) (m:Md):OH:=⟨g,m,[],[],none⟩
def tr (a b:Nat):Nat→List (Nat×OH)→List (Nat×OH)
 | 0,l=>l
 | n+1,l=>(a,.t b)::tr (a+1) (b+1) n l
def Hn.j (a:List En) (b:List (Nat×Place)) (x y:Hn):Hn:=.n ⟨[],[],some ⟨a,b,[]⟩,false,[]⟩ x y
abbrev CK (c:Cal):Prop:=Cok Tryz.prog c
theorem cn:∀ d∈([]:List Cal),CK d:=fun _ h=>by cases h
theorem cc {c:Cal} {l:List Cal} (h:CK c) (t:∀ d∈l,CK d):∀ d∈c::l,CK d:=fun d hd=>by
 rcases List.mem_cons.1 hd with hd | hd
 ·rw [hd];exact h
 ·exact t d hd
theorem ck {l:List Cal} (c:Cal) (fn:Func) (hn:Hn) (gr:List Gr) (is:List RR) (hl:∀ d∈l,CK d)
 (h : (Tryz.prog.funcs[c.f]?, (fn.name == "runtime.NumGoroutine"), fn.body, fn.results.toList, OZ c.md c.ps, Nat.ble c.ps.length fn.ntmps) = (some fn, false, some (fn.body.getD .skip), is.map RR.rv, true, true) := by kernel_rfl)
 (hF:(fun(x:HL (pts c.ps))=>den ⟨tab,l,c.ps.length,fn.ntmps⟩ (fn.body.getD .skip) hn (CI c.md fn.ntmps c.ps x) (BS tab gr c.ps c.rs is) (fun _ _=>none) (BS tab gr c.ps c.rs is))=c.F:=by kernel_rfl):CK c:=by
 simp only [Prod.mk.injEq] at h;obtain⟨h1,h2,h3,h4,h5,h6⟩:=h;exact BH (E:=⟨tab,l,c.ps.length,fn.ntmps⟩) (fn:=fn) (code:=fn.body.getD .skip) (hn:=hn) (gr:=gr) (is:=is) ⟨CL,hl,CU⟩ ⟨h1,h2,h3,h4,rfl,Nat.le_of_ble_eq_true h6,rfl⟩ h5 (fun x y h=>(congrFun hF x).trans h)
def C9:Cal:=⟨9,[⟨.ro,.list 5 (.int .u8)⟩],[⟨.bool,.ro⟩],fun x=>OW x.1,0⟩
def H9:Hn:=.z
theorem c9:CK C9:=ck C9 Tryz.f9 H9 [] [.tmp 2] cn
def C73:Cal:=⟨73,[⟨.ro,.list 5 (.int .u8)⟩],[⟨T10,.ro⟩],fun x=>JC x.1,3⟩
def H73:Hn:=(.e .z (.e .z (.e (.e .z (.j [.snp 0 (.list 5 (.int .u8)) [],.i 3] [] (.j [.snp 0 (.list 5 (.int .u8)) [],.i 3,.i 4] [] (.e (.e (.j [.snp 0 (.list 5 (.int .u8)) [],.i 3,.i 4,.l 15] [] .z .z) .z) .z) .z) .z)) (.e (.o [(3,.m' M10)]) .z))))
def E73:Env:=⟨tab,[],1,32⟩
theorem d73:(fun(x:HL (pts C73.ps))=>den E73 (Tryz.f73.body.getD .skip) H73 (Ck 32 C73.ps x) (TL [] C73.ps ⟨T10,.ro⟩ 2) (fun _ _=>none) (TL [] C73.ps ⟨T10,.ro⟩ 2))=C73.F:=by kernel_rfl
theorem c73:Cok Tryz.prog C73:=by
 exact am (E:=E73) (fn:=Tryz.f73) (code:=Tryz.f73.body.getD .skip) (hn:=H73) (gr:=[]) (i:=2) ⟨CL,(fun c hc=>by cases hc),CU⟩ ⟨by kernel_rfl,by kernel_rfl,by kernel_rfl,by kernel_rfl,by kernel_rfl,by decide,by kernel_rfl⟩ (fun x y h=>(congrFun d73 x).trans h)
def br:Cal:=⟨107,[⟨.ptr (.ro),T10⟩],[⟨.int .i64,.ro⟩],fun x=>DF x.1,0⟩
def iE:Hn:=(.e .z (.e .z (.e (.o (tr 0 13 12 [(12,.t 3)])) (.e (.e (.o (tr 0 25 10 [])) (.j [.i 3,.box 0 true (T10) (.ro)] [] (.e (.o (tr 0 35 14 [(14,.t 3)])) .z) .z)) .z))))
theorem js:CK br:=ck br Tryz.f107 iE [] [.tmp 2] cn
def C88:Cal:=⟨88,[⟨.ptr (.ro),T10⟩,⟨.ro,.int .i64⟩],[⟨.int .i64,.ro⟩],fun x=>BE x.1 x.2.1,0⟩
def H88:Hn:=.z
theorem c88:CK C88:=ck C88 Tryz.f88 H88 [] [.tmp 4] (cc js cn)
def C89:Cal:=⟨89,[⟨.ptr (.ro),T10⟩,⟨.ro,.int .i64⟩],[⟨.bool,.ro⟩],fun x=>Cb x.1 x.2.1,0⟩
def H89:Hn:=.z
theorem c89:CK C89:=ck C89 Tryz.f89 H89 [] [.tmp 4] (cc c88 cn)
def YK:Cal:=⟨248,[⟨.ro,.pair (.list 9 (.str)) (.pair (.list 9 (.str)) (.pair (.int .i64) (.pair (.str) (.bool))))⟩,⟨.ro,.list 9 (.str)⟩,⟨.ptr (.ro),T10⟩],[⟨.str,.ro⟩],fun x=>CD x.1 x.2.1 x.2.2.1,2⟩
def jc:Hn:=.z
theorem ZA:CK YK:=ck YK Tryz.f248 jc [] [.tmp 4] (cc c88 cn)
def YD:Cal:=⟨115,[⟨.ptr (.ro),T10⟩,⟨.mov (.own (.ro)),.list 9 (.str)⟩],[⟨.str,.ro⟩],fun x=>Ga x.1 x.2.1,0⟩
def iI:Hn:=.z
theorem eJ:CK YD:=ck YD Tryz.f115 iI [] [.tmp 4] (cc c88 cn)
def dI:Cal:=⟨284,[⟨.ro,.pair (.list 9 (.str)) (.pair (.list 9 (.str)) (.pair (.int .i64) (.pair (.str) (.bool))))⟩,⟨.ptr (.ro),T10⟩],[⟨.str,.ro⟩],fun x=>Cn x.1 x.2.1,2⟩
def jk:Hn:=.z
theorem en:CK dI:=ck dI Tryz.f284 jk [] [.tmp 2] (cc eJ cn)
def YJ:Cal:=⟨247,[⟨.ro,.pair (.list 9 (.str)) (.pair (.list 9 (.str)) (.pair (.int .i64) (.pair (.str) (.bool))))⟩,⟨.ptr (.ro),T10⟩],[⟨.str,.ro⟩],fun x=>An x.1 x.2.1,2⟩
def jb:Hn:=(.e .z (.e .z (.e (.e (.e (.j [.mr 0 (.pair (.list 9 (.str)) (.pair (.list 9 (.str)) (.pair (.int .i64) (.pair (.str) (.bool))))) 1,.i 3,.l 9,.box 1 true (T10) (.ro)] [] .z .z) (.e .z (.e (.j [.mr 0 (.pair (.list 9 (.str)) (.pair (.list 9 (.str)) (.pair (.int .i64) (.pair (.str) (.bool))))) 1,.l 26,.box 1 true (T10) (.ro)] [] .z .z) .z))) .z) .z)))
theorem Yz:CK YJ:=ck YJ Tryz.f247 jb [] [.tmp 2] (cc c88 (cc ZA (cc en cn)))
def YH:Cal:=⟨245,[⟨.ro,.pair (.list 9 (.str)) (.pair (.list 9 (.str)) (.pair (.int .i64) (.pair (.str) (.bool))))⟩,⟨.ptr (.ro),T10⟩],[⟨.str,.ro⟩],fun x=>Bs x.1 x.2.1,2⟩
def jZ:Hn:=(.e .z (.e (.e .z (.e (.e .z (.e .z (.e .z (.e .z (.e .z (.e .z (.e .z (.e .z (.e .z (.n ⟨[],[],(some ⟨[.mr 0 (.pair (.list 9 (.str)) (.pair (.list 9 (.str)) (.pair (.int .i64) (.pair (.str) (.bool))))) 1,.box 1 true (T10) (.ro)],[],[]⟩),true,[]⟩ .z .z)))))))))) .z)) .z))
theorem ee:CK YH:=ck YH Tryz.f245 jZ [] [.tmp 2] (cc c88 (cc Yz (cc c89 cn)))
def cO:Cal:=⟨147,[⟨.ro,.int .i64⟩],[⟨.int .u8,.ro⟩],fun x=>Gl x.1,0⟩
def ii:Hn:=.z
theorem kG:CK cO:=ck cO Tryz.f147 ii [] [.tmp 2] cn
def C90:Cal:=⟨90,[⟨.ro,.int .i64⟩],[⟨.str,.ro⟩],fun x=>IT x.1,0⟩
def H90:Hn:=(.e .z (.e .z (.e .z (.e .z (.e (.j [.l 3,.snp 4 (.str) []] [] (.j [.i 0,.l 3,.snp 4 (.str) []] [] (.e .z (.e (.e .z (.e (.e .z (.j [.i 0,.l 3,.snp 4 (.str) [],.i 5] [] .z .z)) .z)) .z)) .z) .z) .z)))))
theorem c90:CK C90:=ck C90 Tryz.f90 H90 [] [.tmp 2] (cc kG cn)
def YI:Cal:=⟨246,[⟨.ptr (.ro),.pair (.list 9 (.str)) (.pair (.list 9 (.str)) (.pair (.int .i64) (.pair (.str) (.bool))))⟩,⟨.ro,.str⟩,⟨.ptr (.ro),T10⟩],[⟨.str,.ro⟩],fun x=>BX x.1 x.2.1 x.2.2.1,1⟩
def ja:Hn:=.z
theorem eg:CK YI:=ck YI Tryz.f246 ja [] [.tmp 4] (cc c90 cn)
def dJ:Cal:=⟨285,[⟨.ptr (.ro),.pair (.list 9 (.str)) (.pair (.list 9 (.str)) (.pair (.int .i64) (.pair (.str) (.bool))))⟩,⟨.ro,.str⟩,⟨.ptr (.ro),T10⟩],[],fun x=>Ce x.1 x.2.1 x.2.2.1,1⟩
def jl:Hn:=(.e (.k [.g 4]) (.e (.e .z (.j [.mp 0 0 2,.dat 4 (.list 9 (.str)) (.own (.ro)),.box 0 true (.pair (.list 9 (.str)) (.pair (.list 9 (.str)) (.pair (.int .i64) (.pair (.str) (.bool))))) (.ro),.box 2 true (T10) (.ro)] [] (.j [.mp 0 0 2,.snp 1 (.str) [],.dat 4 (.list 9 (.str)) (.own (.ro)),.i 5,.box 0 true (.pair (.list 9 (.str)) (.pair (.list 9 (.str)) (.pair (.int .i64) (.pair (.str) (.bool))))) (.ro),.box 2 true (T10) (.ro)] [] (.e .z (.e (.e (.e (.j [.mp 0 0 2,.snp 1 (.str) [],.dat 4 (.list 9 (.str)) (.own (.ro)),.i 5,.l 30,.box 0 true (.pair (.list 9 (.str)) (.pair (.list 9 (.str)) (.pair (.int .i64) (.pair (.str) (.bool))))) (.ro),.box 2 true (T10) (.ro)] [] .z .z) (.j [.mp 0 0 2,.snp 1 (.str) [],.dat 4 (.list 9 (.str)) (.own (.ro)),.i 5,.box 0 true (.pair (.list 9 (.str)) (.pair (.list 9 (.str)) (.pair (.int .i64) (.pair (.str) (.bool))))) (.ro),.box 2 true (T10) (.ro)] [] (.n ⟨[],[.g 4],none,false,[(9,.g [.g 31] .ro)]⟩ .z .z) .z)) .z) .z)) .z) .z)) (.o [(4,.g [.g 42,.z 42] (.own (.ro)))])))
theorem ku:CK dJ:=ck dJ Tryz.f285 jl [] [] cn
def YL:Cal:=⟨250,[⟨.ptr (.ro),.pair (.list 9 (.str)) (.pair (.list 9 (.str)) (.pair (.int .i64) (.pair (.str) (.bool))))⟩,⟨.ro,.bool⟩,⟨.ptr (.ro),T10⟩],[],fun x=>EZ x.1 x.2.1 x.2.2.1,1⟩
def jd:Hn:=(.e .z (.e .z (.e (.e .z (.j [.box 0 true (.pair (.list 9 (.str)) (.pair (.list 9 (.str)) (.pair (.int .i64) (.pair (.str) (.bool))))) (.ro),.box 2 true (T10) (.ro)] [] .z (.e .z (.j [.box 0 true (.pair (.list 9 (.str)) (.pair (.list 9 (.str)) (.pair (.int .i64) (.pair (.str) (.bool))))) (.ro),.box 2 true (T10) (.ro)] [] (.e .z (.o (tr 0 77 16 [(16,⟨[],.ro,[18,92,93],[2],none⟩),(17,.t 94),(18,.t 95),(19,.t 96),(20,.t 97),(21,⟨[],.ro,[12,80,97],[0],none⟩)]))) (.e .z (.j [.box 0 true (.pair (.list 9 (.str)) (.pair (.list 9 (.str)) (.pair (.int .i64) (.pair (.str) (.bool))))) (.ro),.box 2 true (T10) (.ro)] [] .z (.e .z (.j [.box 0 true (.pair (.list 9 (.str)) (.pair (.list 9 (.str)) (.pair (.int .i64) (.pair (.str) (.bool))))) (.ro),.box 2 true (T10) (.ro)] [] (.o (tr 0 113 10 [(10,⟨[],.ro,[18,122,123],[2],none⟩),(11,.t 124),(12,.t 125),(13,.t 126),(14,.t 127),(15,⟨[],.ro,[12,116,127],[0],none⟩)])) (.e .z (.j [.box 0 true (.pair (.list 9 (.str)) (.pair (.list 9 (.str)) (.pair (.int .i64) (.pair (.str) (.bool))))) (.ro),.box 2 true (T10) (.ro)] [] (.e .z (.e .z (.e (.e .z (.j [.mp 0 0 2,.snp 7 (.str) [],.box 0 true (.pair (.list 9 (.str)) (.pair (.list 9 (.str)) (.pair (.int .i64) (.pair (.str) (.bool))))) (.ro),.box 2 true (T10) (.ro)] [] .z .z)) (.o [(12,.g [.z 163] (.own (.ro)))])))) (.e .z (.j [.box 0 true (.pair (.list 9 (.str)) (.pair (.list 9 (.str)) (.pair (.int .i64) (.pair (.str) (.bool))))) (.ro),.box 2 true (T10) (.ro)] [] (.o (tr 0 168 10 [(10,⟨[],.ro,[18,177,178],[2],none⟩),(11,.t 179),(12,.t 180),(13,.t 181),(14,.t 182),(15,⟨[],.ro,[12,171,182],[0],none⟩)])) (.e .z (.j [.box 0 true (.pair (.list 9 (.str)) (.pair (.list 9 (.str)) (.pair (.int .i64) (.pair (.str) (.bool))))) (.ro),.box 2 true (T10) (.ro)] [] (.o (tr 0 185 9 [(9,⟨[],.ro,[18,193,194],[2],none⟩),(10,.t 195),(11,.t 196),(12,.t 197),(13,.t 198),(14,⟨[],.ro,[12,188,198],[0],none⟩)])) (.e .z (.j [.box 0 true (.pair (.list 9 (.str)) (.pair (.list 9 (.str)) (.pair (.int .i64) (.pair (.str) (.bool))))) (.ro),.box 2 true (T10) (.ro)] [] (.e .z (.j [.box 0 true (.pair (.list 9 (.str)) (.pair (.list 9 (.str)) (.pair (.int .i64) (.pair (.str) (.bool))))) (.ro),.box 2 true (T10) (.ro)] [] .z .z)) (.e .z (.j [.box 0 true (.pair (.list 9 (.str)) (.pair (.list 9 (.str)) (.pair (.int .i64) (.pair (.str) (.bool))))) (.ro),.box 2 true (T10) (.ro)] [] (.e .z (.e .z (.e .z (.o [(12,.g [.z 49] (.own (.ro)))])))) .z)))))))))))))))))) .z)))
theorem kl:CK YL:=ck YL Tryz.f250 jd [] [] (cc ZA (cc c88 (cc eg (cc Yz (cc en (cc c89 (cc ku (cc ee cn))))))))
def Px:List Prm:=[⟨.ptr (.ro),.pair (.list 9 (.str)) (.pair (.list 9 (.str)) (.pair (.int .i64) (.pair (.str) (.bool))))⟩,⟨.ro,.int .i64⟩,⟨.ro,.bool⟩,⟨.ptr (.ro),T10⟩]
def VA:List Ret:=[]
def SD (n:Nat):Cal:=⟨209,Px,VA,fun x=>(BR n).1 x.1 x.2.1 x.2.2.1 x.2.2.2.1,1⟩
def QE:List Prm:=[⟨.ptr (.ro),.pair (.list 9 (.str)) (.pair (.list 9 (.str)) (.pair (.int .i64) (.pair (.str) (.bool))))⟩,⟨.ro,.int .i64⟩,⟨.ro,.str⟩,⟨.ptr (.ro),T10⟩]
def VH:List Ret:=[]
def SI (n:Nat):Cal:=⟨249,QE,VH,fun x=>(BR n).2.1 x.1 x.2.1 x.2.2.1 x.2.2.2.1,1⟩
def dQ:Hn:=(.e .z (.e (.e (.j [.mp 0 0 3,.i 1,.l 2,.i 6,.l 21,.box 0 true (.pair (.list 9 (.str)) (.pair (.list 9 (.str)) (.pair (.int .i64) (.pair (.str) (.bool))))) (.ro),.box 3 true (T10) (.ro)] [] .z .z) (.j [.box 0 true (.pair (.list 9 (.str)) (.pair (.list 9 (.str)) (.pair (.int .i64) (.pair (.str) (.bool))))) (.ro),.box 3 true (T10) (.ro)] [] (.e .z (.e .z (.e .z (.o [(12,.g [.z 59] (.own (.ro)))])))) (.e (.j [.mp 0 0 3,.i 1,.l 2,.i 6,.l 62,.box 0 true (.pair (.list 9 (.str)) (.pair (.list 9 (.str)) (.pair (.int .i64) (.pair (.str) (.bool))))) (.ro),.box 3 true (T10) (.ro)] [] .z .z) (.j [.box 0 true (.pair (.list 9 (.str)) (.pair (.list 9 (.str)) (.pair (.int .i64) (.pair (.str) (.bool))))) (.ro),.box 3 true (T10) (.ro)] [] (.e .z (.e (.e .z (.j [.mp 0 0 3,.snp 9 (.str) [],.box 0 true (.pair (.list 9 (.str)) (.pair (.list 9 (.str)) (.pair (.int .i64) (.pair (.str) (.bool))))) (.ro),.box 3 true (T10) (.ro)] [] .z .z)) (.e .z (.e .z (.o [(12,.g [.z 110] (.own (.ro)))]))))) (.e .z (.j [.box 0 true (.pair (.list 9 (.str)) (.pair (.list 9 (.str)) (.pair (.int .i64) (.pair (.str) (.bool))))) (.ro),.box 3 true (T10) (.ro)] [] (.o (tr 0 116 7 [(7,⟨[],.ro,[122,123],[3],none⟩),(8,.t 124),(9,.t 125),(10,.t 126),(11,.t 127),(12,⟨[],.ro,[119,127],[0],none⟩)])) (.e .z (.j [.box 0 true (.pair (.list 9 (.str)) (.pair (.list 9 (.str)) (.pair (.int .i64) (.pair (.str) (.bool))))) (.ro),.box 3 true (T10) (.ro)] [] (.e .z (.o (tr 0 137 9 [(9,⟨[],.ro,[145,146],[3],none⟩),(10,.t 147),(11,.t 148),(12,.t 149),(13,.t 150),(14,⟨[],.ro,[134,140,150],[0],none⟩)]))) (.e (.j [.mp 0 0 3,.i 1,.l 2,.i 6,.l 151,.box 0 true (.pair (.list 9 (.str)) (.pair (.list 9 (.str)) (.pair (.int .i64) (.pair (.str) (.bool))))) (.ro),.box 3 true (T10) (.ro)] [] .z .z) (.j [.box 0 true (.pair (.list 9 (.str)) (.pair (.list 9 (.str)) (.pair (.int .i64) (.pair (.str) (.bool))))) (.ro),.box 3 true (T10) (.ro)] [] (.e (.o (tr 0 158 7 [(7,⟨[],.ro,[164,165],[3],none⟩),(8,.t 166),(9,.t 167),(10,.t 168),(11,⟨[],.ro,[168,169],[3],none⟩),(12,.t 170),(13,.t 171),(14,.t 172),(15,.t 173),(16,⟨[],.ro,[161,173],[0],none⟩)])) .z) (.e (.j [.mp 0 0 3,.i 1,.l 2,.l 188,.box 0 true (.pair (.list 9 (.str)) (.pair (.list 9 (.str)) (.pair (.int .i64) (.pair (.str) (.bool))))) (.ro),.box 3 true (T10) (.ro)] [] .z .z) (.j [.box 0 true (.pair (.list 9 (.str)) (.pair (.list 9 (.str)) (.pair (.int .i64) (.pair (.str) (.bool))))) (.ro),.box 3 true (T10) (.ro)] [] (.e .z (.e (.o (tr 0 197 17 [(17,⟨[],.ro,[212,213,214],[3],none⟩),(18,.t 215),(19,.t 216),(20,.t 217),(21,.t 218),(22,⟨[],.ro,[200,218],[0],none⟩)])) .z)) .z)))))))))))) .z))
def YV (n:Nat):Env:=⟨tab,[C88,YH,YI,YJ,C89,YK,SI n,YD,YL],4,227⟩
theorem lC:(fun(n:Nat) (x:HL (pts Px))=>den (YV n) (Tryz.f209.body.getD .skip) dQ (CI 1 227 Px x) (BS tab [] Px VA []) (fun _ _=>none) (BS tab [] Px VA []))=fun n=>(SD (n+1)).F:=by kernel_rfl
def dX:Hn:=(.e (.k [.g 6]) (.e (.k [.g 7]) (.e .z (.e (.e .z (.j [.mp 0 0 3,.snp 2 (.str) [],.dat 6 (.list 9 (.str)) (.own (.ro)),.dat 7 (.list 9 (.str)) (.own (.ro)),.box 0 true (.pair (.list 9 (.str)) (.pair (.list 9 (.str)) (.pair (.int .i64) (.pair (.str) (.bool))))) (.ro),.box 3 true (T10) (.ro)] [] (.j [.mp 0 0 3,.i 1,.snp 2 (.str) [],.dat 6 (.list 9 (.str)) (.own (.ro)),.dat 7 (.list 9 (.str)) (.own (.ro)),.i 8,.box 0 true (.pair (.list 9 (.str)) (.pair (.list 9 (.str)) (.pair (.int .i64) (.pair (.str) (.bool))))) (.ro),.box 3 true (T10) (.ro)] [] .z .z) .z)) (.e .z (.e (.o [(4,.g [.g 53,.z 53] (.own (.ro)))]) (.o [(4,.g [.g 57,.z 57] (.own (.ro)))])))))))
def Yc (n:Nat):Env:=⟨tab,[C88,SD n],4,60⟩
theorem lJ:(fun(n:Nat) (x:HL (pts QE))=>den (Yc n) (Tryz.f249.body.getD .skip) dX (CI 1 60 QE x) (BS tab [] QE VH []) (fun _ _=>none) (BS tab [] QE VH []))=fun n=>(SI (n+1)).F:=by kernel_rfl
theorem aZ:∀ n,Cok Tryz.prog (SD n)∧Cok Tryz.prog (SI n):=by
 intro n;have h88:=c88
 have h245:=ee
 have h246:=eg
 have h247:=Yz
 have h89:=c89
 have h248:=ZA
 have h115:=eJ
 have h250:=kl
 induction n with
 | zero=>exact⟨Bd (fn:=Tryz.f209) (by kernel_rfl) (by kernel_rfl) (by kernel_rfl) (fun _=>rfl),Bd (fn:=Tryz.f249) (by kernel_rfl) (by kernel_rfl) (by kernel_rfl) (fun _=>rfl)⟩
 | succ n ih=>
  obtain⟨h209,h249⟩:=ih;refine⟨?_,?_⟩
  ·exact BH (E:=YV n) (c:=SD (n+1)) (fn:=Tryz.f209) (code:=Tryz.f209.body.getD .skip) (hn:=dQ) (gr:=[]) (is:=[]) ⟨CL,(fun c hc=>by simp only [YV,List.mem_cons,List.not_mem_nil,or_false] at hc;rcases hc with rfl | rfl | rfl | rfl | rfl | rfl | rfl | rfl | rfl<;>assumption),CU⟩ ⟨by kernel_rfl,by kernel_rfl,by kernel_rfl,by kernel_rfl,by kernel_rfl,Nat.le_of_ble_eq_true rfl,by kernel_rfl⟩ (by kernel_rfl) (fun x y h=>(congrFun (congrFun lC n) x).trans h)
  ·exact BH (E:=Yc n) (c:=SI (n+1)) (fn:=Tryz.f249) (code:=Tryz.f249.body.getD .skip) (hn:=dX) (gr:=[]) (is:=[]) ⟨CL,(fun c hc=>by simp only [Yc,List.mem_cons,List.not_mem_nil,or_false] at hc;rcases hc with rfl | rfl<;>assumption),CU⟩ ⟨by kernel_rfl,by kernel_rfl,by kernel_rfl,by kernel_rfl,by kernel_rfl,Nat.le_of_ble_eq_true rfl,by kernel_rfl⟩ (by kernel_rfl) (fun x y h=>(congrFun (congrFun lJ n) x).trans h)
def gj:Cal:=⟨209,Px,VA,fun x=>Ei x.1 x.2.1 x.2.2.1 x.2.2.2.1,1⟩
theorem kZ:Cok Tryz.prog gj:=Bm (F:=fun n=>(SD n).F) (fun n=>(aZ n).1)
def gp:Cal:=⟨249,QE,VH,fun x=>Mj x.1 x.2.1 x.2.2.1 x.2.2.2.1,1⟩
theorem c249:Cok Tryz.prog gp:=Bm (F:=fun n=>(SI n).F) (fun n=>(aZ n).2)
def cU:Cal:=⟨176,[⟨.ptr (.ro),T10⟩,⟨.ro,.int .i64⟩],[⟨.str,.ro⟩],fun x=>Ia x.1 x.2.1,0⟩
def ir:Hn:=(.e .z (.e .z (.e .z (.e (.e .z (.j [.mp 5 11 0,.box 0 true (T10) (.ro),.box 11 true (.pair (.list 9 (.str)) (.pair (.list 9 (.str)) (.pair (.int .i64) (.pair (.str) (.bool))))) (.ro)] [] (.j [.i 1,.mp 5 11 0,.i 6,.box 0 true (T10) (.ro),.box 11 true (.pair (.list 9 (.str)) (.pair (.list 9 (.str)) (.pair (.int .i64) (.pair (.str) (.bool))))) (.ro)] [(0,⟨1,[]⟩)] .z .z) .z)) .z))))
theorem kL:CK cU:=ck cU Tryz.f176 ir [] [.tmp 4] (cc c89 (cc c88 (cc kZ cn)))
def cJ:Cal:=⟨141,[⟨.ro,.int .u8⟩],[⟨.bool,.ro⟩],fun x=>Cv x.1,0⟩
def ia:Hn:=(.e .z (.e (.j [.l 2] [] .z .z) .z))
theorem eP:CK cJ:=ck cJ Tryz.f141 ia [] [.tmp 2] cn
def cL:Cal:=⟨143,[⟨.ro,.int .u8⟩],[⟨.bool,.ro⟩],fun x=>Cu x.1,0⟩
def ic:Hn:=(.e .z (.e (.j [.l 2] [] .z .z) .z))
theorem eQ:CK cL:=ck cL Tryz.f143 ic [] [.tmp 2] cn
def dH:Cal:=⟨280,[],[⟨.list 9 (.str),.own (.ro)⟩],fun x=>Jd ,0⟩
def ji:Hn:=(.e .z (.e (.k [.g 0]) .z))
theorem kt:CK dH:=ck dH Tryz.f280 ji [] [.tmp 0] cn
def dC:Cal:=⟨237,[⟨.ro,.str⟩,⟨.ro,.int .i64⟩],[⟨.str,.ro⟩],fun x=>IW x.1 x.2.1,0⟩
def jT:Hn:=(.e .z (.e (.k [.g 5]) (.e (.e .z (.n ⟨[],[],(some ⟨[],[],[]⟩),true,[]⟩ (.j [.snp 0 (.str) [],.i 1,.dat 5 (.list 9 (.str)) (.own (.ro)),.i 6] [] (.e .z (.e (.e (.e .z (.e (.n ⟨[],[],(some ⟨[.snp 0 (.str) [],.i 1,.dat 5 (.list 9 (.str)) (.own (.ro)),.i 6,.l 38],[],[]⟩),false,(tr 0 20 19 [])⟩ .z .z) .z)) .z) .z)) .z) .z)) .z)))
theorem kh:CK dC:=ck dC Tryz.f237 jT [] [.tmp 4] (cc kt cn)
def co:Cal:=⟨207,[⟨.ro,.str⟩],[⟨.list 216 (T13),.own (.ro)⟩,⟨.bool,.ro⟩],fun x=>IV x.1,0⟩
def jI:Hn:=(.e .z (.e (.k [.g 4]) (.e (.e .z (.e (.e (.k [.g 2]) .z) .z)) (.e (.k [.g 5]) (.e .z (.e (.n ⟨[],[],(some ⟨[.dat 5 (.list 216 (T13)) (.own (.ro))],[],[]⟩),true,[]⟩ (.j [.snp 0 (.str) [],.dat 4 (.list 216 (T13)) (.own (.ro)),.dat 5 (.list 216 (T13)) (.own (.ro)),.i 6] [] (.e .z (.n ⟨[],[],(some ⟨[.snp 0 (.str) [],.dat 4 (.list 216 (T13)) (.own (.ro)),.dat 5 (.list 216 (T13)) (.own (.ro)),.i 6],[],[]⟩),true,[]⟩ (.e (.e (.j [.snp 0 (.str) [],.dat 4 (.list 216 (T13)) (.own (.ro)),.dat 5 (.list 216 (T13)) (.own (.ro)),.i 6,.l 29] [] .z .z) .z) (.e .z (.e (.e .z (.e (.e (.j [.snp 0 (.str) [],.dat 4 (.list 216 (T13)) (.own (.ro)),.dat 5 (.list 216 (T13)) (.own (.ro)),.i 6,.i 7] [] (.j [.snp 0 (.str) [],.dat 4 (.list 216 (T13)) (.own (.ro)),.dat 5 (.list 216 (T13)) (.own (.ro)),.i 6,.i 7] [] (.e (.e (.j [.snp 0 (.str) [],.dat 4 (.list 216 (T13)) (.own (.ro)),.dat 5 (.list 216 (T13)) (.own (.ro)),.i 6,.i 7,.l 52] [] .z .z) .z) .z) .z) .z) (.e (.e .z (.e (.e (.k [.g 2]) .z) .z)) (.e (.n ⟨[],[.g 5],none,false,[(7,.g [.g 60] .ro)]⟩ .z .z) .z))) .z)) (.e (.e .z (.e (.e .z (.e (.j [.snp 0 (.str) [],.dat 4 (.list 216 (T13)) (.own (.ro)),.dat 5 (.list 216 (T13)) (.own (.ro)),.i 6,.i 7,.i 8] [] (.j [.snp 0 (.str) [],.dat 4 (.list 216 (T13)) (.own (.ro)),.dat 5 (.list 216 (T13)) (.own (.ro)),.i 6,.i 7,.i 8] [] (.e (.e (.j [.snp 0 (.str) [],.dat 4 (.list 216 (T13)) (.own (.ro)),.dat 5 (.list 216 (T13)) (.own (.ro)),.i 6,.i 7,.i 8,.l 88] [] .z .z) .z) .z) .z) .z) (.e (.e (.j [.snp 0 (.str) [],.dat 4 (.list 216 (T13)) (.own (.ro)),.dat 5 (.list 216 (T13)) (.own (.ro)),.i 7,.i 8,.l 106] [] .z .z) (.e (.e (.k [.g 2]) .z) .z)) (.e (.n ⟨[],[.g 5],none,false,[(4,.g [.g 108] .ro)]⟩ .z .z) .z)))) .z)) (.e .z (.e (.e .z (.e (.e (.k [.g 2]) .z) .z)) (.e (.n ⟨[],[.g 5],none,false,[(4,.g [.g 120] .ro)]⟩ .z .z) .z))))))) .z)) .z) .z) (.e (.k [.g 2]) .z)))))))
theorem kX:CK co:=ck co Tryz.f207 jI [] [.tmp 2,.tmp 3] (cc eP (cc eQ (cc kh cn)))
def YO:Cal:=⟨281,[⟨.ptr (.pr (.ro) (.pr (.ro) (.pr (.ro) (.pr (.ro) (.own (M7)))))),T4⟩,⟨.ro,.int .i64⟩,⟨.ro,.str⟩],[⟨.bool,.ro⟩],fun x=>DM x.1 x.2.1 x.2.2.1,0⟩
def jj:Hn:=(.e .z (.e (.n ⟨[],[],(some ⟨[.l 6,.box 0 true (T4) (.pr (.ro) (.pr (.ro) (.pr (.ro) (.pr (.ro) (.own (M7))))))],[],[]⟩),false,(tr 0 7 47 [(47,.t 6)])⟩ .z .z) .z))
theorem ei:CK YO:=ck YO Tryz.f281 jj [] [.tmp 6] cn
def OA:Cal:=⟨238,[⟨.ptr (.pr (.ro) (.pr (.ro) (.pr (.ro) (.pr (.ro) (.own (M7)))))),T4⟩,⟨.ro,.int .i64⟩,⟨.ro,.str⟩],[⟨.bool,.ro⟩],fun x=>AR x.1 x.2.1 x.2.2.1,0⟩
def jU:Hn:=.z
theorem QS:CK OA:=ck OA Tryz.f238 jU [] [.tmp 6] (cc ei cn)
def C82:Cal:=⟨82,[⟨.ro,.int .i64⟩,⟨.ro,.int .i64⟩,⟨.ro,.int .i64⟩],[⟨.bool,.ro⟩],fun x=>Ar x.1 x.2.1 x.2.2.1,0⟩
def H82:Hn:=(.e .z (.e (.j [.l 6] [] .z .z) .z))
theorem c82:CK C82:=ck C82 Tryz.f82 H82 [] [.tmp 6] cn
def cf:Cal:=⟨184,[],[⟨.list 9 (.str),.own (.ro)⟩],fun x=>Ke ,0⟩
def jC:Hn:=(.e .z (.e (.k [.g 0]) .z))
theorem kT:CK cf:=ck cf Tryz.f184 jC [] [.tmp 0] cn
def cK:Cal:=⟨142,[⟨.ro,.str⟩],[⟨.bool,.ro⟩],fun x=>IU x.1,0⟩
def ib:Hn:=(.e .z (.e (.k [.g 3]) (.e (.e .z (.n ⟨[],[],(some ⟨[],[],[]⟩),true,[]⟩ (.j [.snp 0 (.str) [],.dat 3 (.list 9 (.str)) (.own (.ro)),.i 4] [] .z .z) .z)) .z)))
theorem kE:CK cK:=ck cK Tryz.f142 ib [] [.tmp 2] (cc kT cn)
def C81:Cal:=⟨81,[⟨.ro,.str⟩],[⟨.bool,.ro⟩],fun x=>CH x.1,0⟩
def H81:Hn:=(.e .z (.e (.e (.j [.snp 0 (.str) [],.l 17] [] .z .z) .z) (.e (.e .z (.n ⟨[],[],(some ⟨[],[],[]⟩),true,[]⟩ (.j [.snp 0 (.str) [],.i 3] [] (.e .z (.e (.e (.e (.j [.snp 0 (.str) [],.i 3,.l 35] [] .z .z) .z) .z) .z)) .z) .z)) .z)))
theorem c81:CK C81:=ck C81 Tryz.f81 H81 [] [.tmp 2] (cc c82 (cc eP (cc kE (cc eQ cn))))
def Ur:Cal:=⟨239,[⟨.ptr (.pr (.ro) (.pr (.ro) (.pr (.ro) (.pr (.ro) (.own (M7)))))),T4⟩],[⟨.str,.ro⟩],fun x=>BJ x.1,0⟩
def jV:Hn:=(.e .z (.e (.e (.n ⟨[],[],(some ⟨[.l 47,.box 0 true (T4) (.pr (.ro) (.pr (.ro) (.pr (.ro) (.pr (.ro) (.own (M7))))))],[(0,⟨1,[]⟩)],[]⟩),false,(tr 0 3 45 [])⟩ .z .z) .z) (.e .z (.e (.o (tr 0 59 12 [(12,.t 2)])) .z))))
theorem Vd:CK Ur:=ck Ur Tryz.f239 jV [] [.tmp 2] (cc c81 cn)
def Pq:Cal:=⟨240,[⟨.ptr (.pr (.ro) (.pr (.ro) (.pr (.ro) (.pr (.ro) (.own (M7)))))),T4⟩,⟨.ro,.str⟩],[],fun x=>Au x.1 x.2.1,0⟩
def jW:Hn:=(.e .z (.j [.box 0 true (T4) (.pr (.ro) (.pr (.ro) (.pr (.ro) (.pr (.ro) (.own (M7))))))] [] .z .z))
theorem SZ:CK Pq:=ck Pq Tryz.f240 jW [] [] (cc QS cn)
def dD:Cal:=⟨241,[⟨.ptr (.pr (.ro) (.pr (.ro) (.pr (.ro) (.pr (.ro) (.own (M7)))))),T4⟩],[⟨.int .i64,.ro⟩],fun x=>DZ x.1,0⟩
def jX:Hn:=(.e .z (.e .z (.e .z (.e .z (.e .z (.e (.e .z (.j [.i 3,.box 0 true (T4) (.pr (.ro) (.pr (.ro) (.pr (.ro) (.pr (.ro) (.own (M7))))))] [(0,⟨1,[]⟩)] .z .z)) (.e (.e .z (.j [.i 3,.box 0 true (T4) (.pr (.ro) (.pr (.ro) (.pr (.ro) (.pr (.ro) (.own (M7))))))] [] .z .z)) .z)))))))
theorem ki:CK dD:=ck dD Tryz.f241 jX [] [.tmp 2] (cc QS (cc SZ cn))
def Mm:Cal:=⟨243,[⟨.ptr (.pr (.ro) (.pr (.ro) (.pr (.ro) (.pr (.ro) (.own (M7)))))),T4⟩,⟨.mov (M7),T7⟩],[⟨.int .i64,.ro⟩],fun x=>Aw x.1 x.2.1,0⟩
def jY:Hn:=(.e (.o [(0,.m' M7)]) (.e (.e (.j [.l 16,.box 0 true (T4) (.pr (.ro) (.pr (.ro) (.pr (.ro) (.pr (.ro) (.own (M7)))))),.box 3 true (T7) (M7)] [(0,⟨1,[]⟩),(3,⟨7,[]⟩)] .z .z) .z) (.e (.o (tr 0 20 6 [(6,⟨[.g 25],M7,[3,25,26],[3],none⟩),(7,⟨[.g 24],M7,[0,21,22,23,24,26,27],[0],none⟩),(8,.t 28),(9,.t 29),(10,⟨[],.own (M7),[0,21,22,23,27,28,29],[0],none⟩)])) .z)))
theorem Sa:CK Mm:=ck Mm Tryz.f243 jY [] [.tmp 4] cn
def YQ:Cal:=⟨305,[⟨.ptr (.pr (.ro) (.pr (.ro) (.pr (.ro) (.pr (.ro) (.own (M7)))))),T4⟩],[⟨.int .i64,.ro⟩],fun x=>Ej x.1,0⟩
def jn:Hn:=(.e .z (.e (.e .z (.e (.e (.o [(3,.m' M7)]) .z) .z)) (.e (.o [(3,.m' M7)]) .z)))
theorem kw:CK YQ:=ck YQ Tryz.f305 jn [] [.tmp 2] (cc QS (cc Vd (cc Sa cn)))
end
end Go.Proofs.YtmakhmoielhjeaaGreatDoorE

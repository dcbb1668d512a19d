/- The functions of X reckon so (1). No condition. -/
import Derived.Test.YtmakhmoielhjeaaGreatDoorLawLBX
import Derived.Test.YtmakhmoielhjeaaGreatDoorPackR
import Derived.Test.YtmakhmoielhjeaaGreatDoorLawFX
import Derived.Test.YtmakhmoielhjeaaGreatDoorProg
set_option linter.all false
namespace Go.Proofs.YtmakhmoielhjeaaGreatDoorE
noncomputable section
set_option maxRecDepth 100000
def Hn.e (a b:Hn):Hn:=.n ⟨[],[],none,false,[]⟩ a b
def OH.t (n:Nat):OH:=⟨[],.ro,[n],[],none⟩
def OH.b (n:Nat):OH:=⟨[],.ro,[],[n],none⟩
def OH.r:OH:=⟨[],.ro,[],[],none⟩
abbrev T17:Ty:=.pair (.str) (.int .i64)
abbrev T13:Ty:=.pair (.int .i64) (T17)
abbrev T12:Ty:=.pair (.str) (.pair (.int .i64) (.int .i64))
abbrev T11:Ty:=.pair (.int .i64) (.pair (.int .i64) (.str))
abbrev M10:Md:=.pr (.own (.ro)) (.ro)
abbrev T10:Ty:=.pair (.list 5 (.int .u8)) (.pair (.int .i64) (.int .i64))
abbrev M7:Md:=.pr (.ro) (.pr (.ro) (.pr (.ro) (.own (.ro))))
abbrev T7:Ty:=.pair (.int .i64) (.pair (.int .i64) (.pair (.str) (.list 3 (.int .i64))))
abbrev M6:Md:=.pr (.ro) (M10)
abbrev T6:Ty:=.pair (.str) (.pair (.list 156 (T17)) (.pair (.int .i64) (.pair (.int .i64) (.int .i64))))
abbrev M4:Md:=.pr (.own (.ro)) (.pr (.ro) (.pr (.ro) (.pr (.ro) (.own (M7)))))
abbrev T4:Ty:=.pair (.list 216 (T13)) (.pair (.int .i64) (.pair (.bool) (.pair (.int .i64) (.list 114 (T7)))))
abbrev M2:Md:=.pr (.own (M7)) (.own (M6))
abbrev T2:Ty:=.pair (.list 114 (T7)) (.list 125 (T6))
abbrev M1:Md:=.pr (M2) (M6)
abbrev T1:Ty:=.pair (T2) (.pair (.int .i64) (.pair (.list 9 (.str)) (.bool)))
def tab:List TE:=[⟨85,.bool,0,0⟩,⟨191,.pair (.list 9 (.str)) (.pair (.list 9 (.str)) (.pair (.int .i64) (.pair (.str) (.bool)))),5,0⟩,⟨3,.int .i64,0,8⟩,⟨4,.bool,0,1⟩,⟨5,.int .u8,0,1⟩,⟨9,.str,0,16⟩,⟨22,.list 5 (.int .u8),0,24⟩,⟨24,.list 3 (.int .i64),0,24⟩,⟨32,.list 4 (.bool),0,24⟩,⟨66,.list 114 (T7),0,24⟩,⟨67,.list 125 (T6),0,24⟩,⟨69,T2,2,48⟩,⟨74,T11,3,32⟩,⟨77,.list 9 (.str),0,24⟩,⟨80,.list 74 (T11),0,24⟩,⟨114,T7,4,56⟩,⟨116,.list 119 (T12),0,24⟩,⟨119,T12,3,32⟩,⟨123,.list 156 (T17),0,24⟩,⟨125,T6,5,64⟩,⟨133,T10,3,40⟩,⟨156,T17,2,24⟩,⟨163,T1,4,88⟩,⟨182,.list 216 (T13),0,24⟩,⟨187,T4,5,72⟩,⟨216,T13,3,32⟩]
theorem DR:TabOk Tryz.prog tab:=js (by kernel_rfl)
theorem kOk:Yt tab=true:=by kernel_rfl
theorem Dp:Tryz.prog.follows .mixedOrders=true:=by kernel_rfl
def Hn.o (l:List (Nat×OH)):Hn:=.n ⟨[],[],none,false,l⟩ .z .z
def Hn.k (l:List Gr):Hn:=.n ⟨[],l,none,false,[]⟩ .z .z
def En.i (k:Nat):En:=.snp k (.int .i64) []
def En.l (k:Nat):En:=.snp k .bool []
def En.d (k:Nat):En:=.dat k (.list 3 (.int .i64)) (.own .ro)
def OH.m' (m:Md):OH:=⟨[],m,[],[],none⟩
def OH.g (g:List Gr) (m:Md):OH:=⟨g,m,[],[],none⟩
def tr (a b:Nat):Nat→List (Nat×OH)→List (Nat×OH)
 | 0,l=>l
 | n+1,l=>(a,.t b)::tr (a+1) (b+1) n l
def Hn.j (a:List En) (b:List (Nat×Place)) (x y:Hn):Hn:=.n ⟨[],[],some ⟨a,b,[]⟩,false,[]⟩ x y
abbrev CK (c:Cal):Prop:=Cok Tryz.prog c
theorem cn:∀ d∈([]:List Cal),CK d:=fun _ h=>by cases h
theorem cc {c:Cal} {l:List Cal} (h:CK c) (t:∀ d∈l,CK d):∀ d∈c::l,CK d:=fun d hd=>by
 rcases List.mem_cons.1 hd with hd | hd
 ·rw [hd];exact h
 ·exact t d hd
theorem ck {l:List Cal} (c:Cal) (fn:Func) (hn:Hn) (gr:List Gr) (is:List RR) (hl:∀ d∈l,CK d)
 (h : (Tryz.prog.funcs[c.f]?, (fn.name == "runtime.NumGoroutine"), fn.body, fn.results.toList, Rp c.md c.ps, Nat.ble c.ps.length fn.ntmps) = (some fn, false, some (fn.body.getD .skip), is.map RR.rv, true, true) := by kernel_rfl)
 (hF:(fun(x:HL (pts c.ps))=>den ⟨tab,l,c.ps.length,fn.ntmps⟩ (fn.body.getD .skip) hn (DL c.md fn.ntmps c.ps x) (Be tab gr c.ps c.rs is) (fun _ _=>none) (Be tab gr c.ps c.rs is))=c.F:=by kernel_rfl):CK c:=by
 simp only [Prod.mk.injEq] at h;obtain⟨h1,h2,h3,h4,h5,h6⟩:=h;exact BN (E:=⟨tab,l,c.ps.length,fn.ntmps⟩) (fn:=fn) (code:=fn.body.getD .skip) (hn:=hn) (gr:=gr) (is:=is) ⟨DR,hl,Dp⟩ ⟨h1,h2,h3,h4,rfl,Nat.le_of_ble_eq_true h6,rfl⟩ h5 (fun x y h=>(congrFun hF x).trans h)
def C9:Cal:=⟨9,[⟨.ro,.list 5 (.int .u8)⟩],[⟨.bool,.ro⟩],fun x=>Rn x.1,0⟩
def H9:Hn:=.z
theorem c9:CK C9:=ck C9 Tryz.f9 H9 [] [.tmp 2] cn
def C73:Cal:=⟨73,[⟨.ro,.list 5 (.int .u8)⟩],[⟨T10,.ro⟩],fun x=>Fd x.1,3⟩
def H73:Hn:=(.e .z (.e .z (.e (.e .z (.j [.snp 0 (.list 5 (.int .u8)) [],.i 3] [] (.j [.snp 0 (.list 5 (.int .u8)) [],.i 3,.i 4] [] (.e (.e (.j [.snp 0 (.list 5 (.int .u8)) [],.i 3,.i 4,.l 15] [] .z .z) .z) .z) .z) .z)) (.e (.o [(3,.m' M10)]) .z))))
def E73:Env:=⟨tab,[],1,32⟩
theorem d73:(fun(x:HL (pts C73.ps))=>den E73 (Tryz.f73.body.getD .skip) H73 (DF 32 C73.ps x) (WJ [] C73.ps ⟨T10,.ro⟩ 2) (fun _ _=>none) (WJ [] C73.ps ⟨T10,.ro⟩ 2))=C73.F:=by kernel_rfl
theorem c73:Cok Tryz.prog C73:=by
 exact eP (E:=E73) (fn:=Tryz.f73) (code:=Tryz.f73.body.getD .skip) (hn:=H73) (gr:=[]) (i:=2) ⟨DR,(fun c hc=>by cases hc),Dp⟩ ⟨by kernel_rfl,by kernel_rfl,by kernel_rfl,by kernel_rfl,by kernel_rfl,by decide,by kernel_rfl⟩ (fun x y h=>(congrFun d73 x).trans h)
def fQ:Cal:=⟨107,[⟨.ptr (.ro),T10⟩],[⟨.int .i64,.ro⟩],fun x=>Dh x.1,0⟩
def lH:Hn:=(.e .z (.e .z (.e (.o (tr 0 13 12 [(12,.t 3)])) (.e (.e (.o (tr 0 25 10 [])) (.j [.i 3,.box 0 true (T10) (.ro)] [] (.e (.o (tr 0 35 14 [(14,.t 3)])) .z) .z)) .z))))
theorem nN:CK fQ:=ck fQ Tryz.f107 lH [] [.tmp 2] cn
def C88:Cal:=⟨88,[⟨.ptr (.ro),T10⟩,⟨.ro,.int .i64⟩],[⟨.int .i64,.ro⟩],fun x=>BA x.1 x.2.1,0⟩
def H88:Hn:=.z
theorem c88:CK C88:=ck C88 Tryz.f88 H88 [] [.tmp 4] (cc nN cn)
def C89:Cal:=⟨89,[⟨.ptr (.ro),T10⟩,⟨.ro,.int .i64⟩],[⟨.bool,.ro⟩],fun x=>Cw x.1 x.2.1,0⟩
def H89:Hn:=.z
theorem c89:CK C89:=ck C89 Tryz.f89 H89 [] [.tmp 4] (cc c88 cn)
def bN:Cal:=⟨248,[⟨.ro,.pair (.list 9 (.str)) (.pair (.list 9 (.str)) (.pair (.int .i64) (.pair (.str) (.bool))))⟩,⟨.ro,.list 9 (.str)⟩,⟨.ptr (.ro),T10⟩],[⟨.str,.ro⟩],fun x=>CJ x.1 x.2.1 x.2.2.1,2⟩
def nD:Hn:=.z
theorem cM:CK bN:=ck bN Tryz.f248 nD [] [.tmp 4] (cc c88 cn)
def bE:Cal:=⟨115,[⟨.ptr (.ro),T10⟩,⟨.mov (.own (.ro)),.list 9 (.str)⟩],[⟨.str,.ro⟩],fun x=>Ec x.1 x.2.1,0⟩
def lK:Hn:=.z
theorem YS:CK bE:=ck bE Tryz.f115 lK [] [.tmp 4] (cc c88 cn)
def iD:Cal:=⟨284,[⟨.ro,.pair (.list 9 (.str)) (.pair (.list 9 (.str)) (.pair (.int .i64) (.pair (.str) (.bool))))⟩,⟨.ptr (.ro),T10⟩],[⟨.str,.ro⟩],fun x=>DH x.1 x.2.1,2⟩
def nJ:Hn:=.z
theorem jQ:CK iD:=ck iD Tryz.f284 nJ [] [.tmp 2] (cc YS cn)
def bM:Cal:=⟨247,[⟨.ro,.pair (.list 9 (.str)) (.pair (.list 9 (.str)) (.pair (.int .i64) (.pair (.str) (.bool))))⟩,⟨.ptr (.ro),T10⟩],[⟨.str,.ro⟩],fun x=>Ak x.1 x.2.1,2⟩
def nC:Hn:=(.e .z (.e .z (.e (.e (.e (.j [.mr 0 (.pair (.list 9 (.str)) (.pair (.list 9 (.str)) (.pair (.int .i64) (.pair (.str) (.bool))))) 1,.i 3,.l 9,.box 1 true (T10) (.ro)] [] .z .z) (.e .z (.e (.j [.mr 0 (.pair (.list 9 (.str)) (.pair (.list 9 (.str)) (.pair (.int .i64) (.pair (.str) (.bool))))) 1,.l 26,.box 1 true (T10) (.ro)] [] .z .z) .z))) .z) .z)))
theorem cL:CK bM:=ck bM Tryz.f247 nC [] [.tmp 2] (cc c88 (cc cM (cc jQ cn)))
def bK:Cal:=⟨245,[⟨.ro,.pair (.list 9 (.str)) (.pair (.list 9 (.str)) (.pair (.int .i64) (.pair (.str) (.bool))))⟩,⟨.ptr (.ro),T10⟩],[⟨.str,.ro⟩],fun x=>CA x.1 x.2.1,2⟩
def nA:Hn:=(.e .z (.e (.e .z (.e (.e .z (.e .z (.e .z (.e .z (.e .z (.e .z (.e .z (.e .z (.e .z (.n ⟨[],[],(some ⟨[.mr 0 (.pair (.list 9 (.str)) (.pair (.list 9 (.str)) (.pair (.int .i64) (.pair (.str) (.bool))))) 1,.box 1 true (T10) (.ro)],[],[]⟩),true,[]⟩ .z .z)))))))))) .z)) .z))
theorem jN:CK bK:=ck bK Tryz.f245 nA [] [.tmp 2] (cc c88 (cc cL (cc c89 cn)))
def ft:Cal:=⟨147,[⟨.ro,.int .i64⟩],[⟨.int .u8,.ro⟩],fun x=>II x.1,0⟩
def lh:Hn:=.z
theorem nb:CK ft:=ck ft Tryz.f147 lh [] [.tmp 2] cn
def C90:Cal:=⟨90,[⟨.ro,.int .i64⟩],[⟨.str,.ro⟩],fun x=>GK x.1,0⟩
def H90:Hn:=(.e .z (.e .z (.e .z (.e .z (.e (.j [.l 3,.snp 4 (.str) []] [] (.j [.i 0,.l 3,.snp 4 (.str) []] [] (.e .z (.e (.e .z (.e (.e .z (.j [.i 0,.l 3,.snp 4 (.str) [],.i 5] [] .z .z)) .z)) .z)) .z) .z) .z)))))
theorem c90:CK C90:=ck C90 Tryz.f90 H90 [] [.tmp 2] (cc nb cn)
def bL:Cal:=⟨246,[⟨.ptr (.ro),.pair (.list 9 (.str)) (.pair (.list 9 (.str)) (.pair (.int .i64) (.pair (.str) (.bool))))⟩,⟨.ro,.str⟩,⟨.ptr (.ro),T10⟩],[⟨.str,.ro⟩],fun x=>BP x.1 x.2.1 x.2.2.1,1⟩
def nB:Hn:=.z
theorem jO:CK bL:=ck bL Tryz.f246 nB [] [.tmp 4] (cc c90 cn)
def iE:Cal:=⟨285,[⟨.ptr (.ro),.pair (.list 9 (.str)) (.pair (.list 9 (.str)) (.pair (.int .i64) (.pair (.str) (.bool))))⟩,⟨.ro,.str⟩,⟨.ptr (.ro),T10⟩],[],fun x=>DA x.1 x.2.1 x.2.2.1,1⟩
def nK:Hn:=(.e (.k [.g 4]) (.e (.e .z (.j [.mp 0 0 2,.dat 4 (.list 9 (.str)) (.own (.ro)),.box 0 true (.pair (.list 9 (.str)) (.pair (.list 9 (.str)) (.pair (.int .i64) (.pair (.str) (.bool))))) (.ro),.box 2 true (T10) (.ro)] [] (.j [.mp 0 0 2,.snp 1 (.str) [],.dat 4 (.list 9 (.str)) (.own (.ro)),.i 5,.box 0 true (.pair (.list 9 (.str)) (.pair (.list 9 (.str)) (.pair (.int .i64) (.pair (.str) (.bool))))) (.ro),.box 2 true (T10) (.ro)] [] (.e .z (.e (.e (.e (.j [.mp 0 0 2,.snp 1 (.str) [],.dat 4 (.list 9 (.str)) (.own (.ro)),.i 5,.l 30,.box 0 true (.pair (.list 9 (.str)) (.pair (.list 9 (.str)) (.pair (.int .i64) (.pair (.str) (.bool))))) (.ro),.box 2 true (T10) (.ro)] [] .z .z) (.j [.mp 0 0 2,.snp 1 (.str) [],.dat 4 (.list 9 (.str)) (.own (.ro)),.i 5,.box 0 true (.pair (.list 9 (.str)) (.pair (.list 9 (.str)) (.pair (.int .i64) (.pair (.str) (.bool))))) (.ro),.box 2 true (T10) (.ro)] [] (.n ⟨[],[.g 4],none,false,[(9,.g [.g 31] .ro)]⟩ .z .z) .z)) .z) .z)) .z) .z)) (.o [(4,.g [.g 42,.z 42] (.own (.ro)))])))
theorem om:CK iE:=ck iE Tryz.f285 nK [] [] cn
def bO:Cal:=⟨250,[⟨.ptr (.ro),.pair (.list 9 (.str)) (.pair (.list 9 (.str)) (.pair (.int .i64) (.pair (.str) (.bool))))⟩,⟨.ro,.bool⟩,⟨.ptr (.ro),T10⟩],[],fun x=>FW x.1 x.2.1 x.2.2.1,1⟩
def nE:Hn:=(.e .z (.e .z (.e (.e .z (.j [.box 0 true (.pair (.list 9 (.str)) (.pair (.list 9 (.str)) (.pair (.int .i64) (.pair (.str) (.bool))))) (.ro),.box 2 true (T10) (.ro)] [] .z (.e .z (.j [.box 0 true (.pair (.list 9 (.str)) (.pair (.list 9 (.str)) (.pair (.int .i64) (.pair (.str) (.bool))))) (.ro),.box 2 true (T10) (.ro)] [] (.e .z (.o (tr 0 77 16 [(16,⟨[],.ro,[18,92,93],[2],none⟩),(17,.t 94),(18,.t 95),(19,.t 96),(20,.t 97),(21,⟨[],.ro,[12,80,97],[0],none⟩)]))) (.e .z (.j [.box 0 true (.pair (.list 9 (.str)) (.pair (.list 9 (.str)) (.pair (.int .i64) (.pair (.str) (.bool))))) (.ro),.box 2 true (T10) (.ro)] [] .z (.e .z (.j [.box 0 true (.pair (.list 9 (.str)) (.pair (.list 9 (.str)) (.pair (.int .i64) (.pair (.str) (.bool))))) (.ro),.box 2 true (T10) (.ro)] [] (.o (tr 0 113 10 [(10,⟨[],.ro,[18,122,123],[2],none⟩),(11,.t 124),(12,.t 125),(13,.t 126),(14,.t 127),(15,⟨[],.ro,[12,116,127],[0],none⟩)])) (.e .z (.j [.box 0 true (.pair (.list 9 (.str)) (.pair (.list 9 (.str)) (.pair (.int .i64) (.pair (.str) (.bool))))) (.ro),.box 2 true (T10) (.ro)] [] (.e .z (.e .z (.e (.e .z (.j [.mp 0 0 2,.snp 7 (.str) [],.box 0 true (.pair (.list 9 (.str)) (.pair (.list 9 (.str)) (.pair (.int .i64) (.pair (.str) (.bool))))) (.ro),.box 2 true (T10) (.ro)] [] .z .z)) (.o [(12,.g [.z 163] (.own (.ro)))])))) (.e .z (.j [.box 0 true (.pair (.list 9 (.str)) (.pair (.list 9 (.str)) (.pair (.int .i64) (.pair (.str) (.bool))))) (.ro),.box 2 true (T10) (.ro)] [] (.o (tr 0 168 10 [(10,⟨[],.ro,[18,177,178],[2],none⟩),(11,.t 179),(12,.t 180),(13,.t 181),(14,.t 182),(15,⟨[],.ro,[12,171,182],[0],none⟩)])) (.e .z (.j [.box 0 true (.pair (.list 9 (.str)) (.pair (.list 9 (.str)) (.pair (.int .i64) (.pair (.str) (.bool))))) (.ro),.box 2 true (T10) (.ro)] [] (.o (tr 0 185 9 [(9,⟨[],.ro,[18,193,194],[2],none⟩),(10,.t 195),(11,.t 196),(12,.t 197),(13,.t 198),(14,⟨[],.ro,[12,188,198],[0],none⟩)])) (.e .z (.j [.box 0 true (.pair (.list 9 (.str)) (.pair (.list 9 (.str)) (.pair (.int .i64) (.pair (.str) (.bool))))) (.ro),.box 2 true (T10) (.ro)] [] (.e .z (.j [.box 0 true (.pair (.list 9 (.str)) (.pair (.list 9 (.str)) (.pair (.int .i64) (.pair (.str) (.bool))))) (.ro),.box 2 true (T10) (.ro)] [] .z .z)) (.e .z (.j [.box 0 true (.pair (.list 9 (.str)) (.pair (.list 9 (.str)) (.pair (.int .i64) (.pair (.str) (.bool))))) (.ro),.box 2 true (T10) (.ro)] [] (.e .z (.e .z (.e .z (.o [(12,.g [.z 49] (.own (.ro)))])))) .z)))))))))))))))))) .z)))
theorem og:CK bO:=ck bO Tryz.f250 nE [] [] (cc cM (cc c88 (cc jO (cc cL (cc jQ (cc c89 (cc om (cc jN cn))))))))
def TK:List Prm:=[⟨.ptr (.ro),.pair (.list 9 (.str)) (.pair (.list 9 (.str)) (.pair (.int .i64) (.pair (.str) (.bool))))⟩,⟨.ro,.int .i64⟩,⟨.ro,.bool⟩,⟨.ptr (.ro),T10⟩]
def YC:List Ret:=[]
def VM (n:Nat):Cal:=⟨209,TK,YC,fun x=>(BL n).1 x.1 x.2.1 x.2.2.1 x.2.2.2.1,1⟩
def TN:List Prm:=[⟨.ptr (.ro),.pair (.list 9 (.str)) (.pair (.list 9 (.str)) (.pair (.int .i64) (.pair (.str) (.bool))))⟩,⟨.ro,.int .i64⟩,⟨.ro,.str⟩,⟨.ptr (.ro),T10⟩]
def YF:List Ret:=[]
def VO (n:Nat):Cal:=⟨249,TN,YF,fun x=>(BL n).2.1 x.1 x.2.1 x.2.2.1 x.2.2.2.1,1⟩
def iR:Hn:=(.e .z (.e (.e (.j [.mp 0 0 3,.i 1,.l 2,.i 6,.l 21,.box 0 true (.pair (.list 9 (.str)) (.pair (.list 9 (.str)) (.pair (.int .i64) (.pair (.str) (.bool))))) (.ro),.box 3 true (T10) (.ro)] [] .z .z) (.j [.box 0 true (.pair (.list 9 (.str)) (.pair (.list 9 (.str)) (.pair (.int .i64) (.pair (.str) (.bool))))) (.ro),.box 3 true (T10) (.ro)] [] (.e .z (.e .z (.e .z (.o [(12,.g [.z 59] (.own (.ro)))])))) (.e (.j [.mp 0 0 3,.i 1,.l 2,.i 6,.l 62,.box 0 true (.pair (.list 9 (.str)) (.pair (.list 9 (.str)) (.pair (.int .i64) (.pair (.str) (.bool))))) (.ro),.box 3 true (T10) (.ro)] [] .z .z) (.j [.box 0 true (.pair (.list 9 (.str)) (.pair (.list 9 (.str)) (.pair (.int .i64) (.pair (.str) (.bool))))) (.ro),.box 3 true (T10) (.ro)] [] (.e .z (.e (.e .z (.j [.mp 0 0 3,.snp 9 (.str) [],.box 0 true (.pair (.list 9 (.str)) (.pair (.list 9 (.str)) (.pair (.int .i64) (.pair (.str) (.bool))))) (.ro),.box 3 true (T10) (.ro)] [] .z .z)) (.e .z (.e .z (.o [(12,.g [.z 110] (.own (.ro)))]))))) (.e .z (.j [.box 0 true (.pair (.list 9 (.str)) (.pair (.list 9 (.str)) (.pair (.int .i64) (.pair (.str) (.bool))))) (.ro),.box 3 true (T10) (.ro)] [] (.o (tr 0 116 7 [(7,⟨[],.ro,[122,123],[3],none⟩),(8,.t 124),(9,.t 125),(10,.t 126),(11,.t 127),(12,⟨[],.ro,[119,127],[0],none⟩)])) (.e .z (.j [.box 0 true (.pair (.list 9 (.str)) (.pair (.list 9 (.str)) (.pair (.int .i64) (.pair (.str) (.bool))))) (.ro),.box 3 true (T10) (.ro)] [] (.e .z (.o (tr 0 137 9 [(9,⟨[],.ro,[145,146],[3],none⟩),(10,.t 147),(11,.t 148),(12,.t 149),(13,.t 150),(14,⟨[],.ro,[134,140,150],[0],none⟩)]))) (.e (.j [.mp 0 0 3,.i 1,.l 2,.i 6,.l 151,.box 0 true (.pair (.list 9 (.str)) (.pair (.list 9 (.str)) (.pair (.int .i64) (.pair (.str) (.bool))))) (.ro),.box 3 true (T10) (.ro)] [] .z .z) (.j [.box 0 true (.pair (.list 9 (.str)) (.pair (.list 9 (.str)) (.pair (.int .i64) (.pair (.str) (.bool))))) (.ro),.box 3 true (T10) (.ro)] [] (.e (.o (tr 0 158 7 [(7,⟨[],.ro,[164,165],[3],none⟩),(8,.t 166),(9,.t 167),(10,.t 168),(11,⟨[],.ro,[168,169],[3],none⟩),(12,.t 170),(13,.t 171),(14,.t 172),(15,.t 173),(16,⟨[],.ro,[161,173],[0],none⟩)])) .z) (.e (.j [.mp 0 0 3,.i 1,.l 2,.l 188,.box 0 true (.pair (.list 9 (.str)) (.pair (.list 9 (.str)) (.pair (.int .i64) (.pair (.str) (.bool))))) (.ro),.box 3 true (T10) (.ro)] [] .z .z) (.j [.box 0 true (.pair (.list 9 (.str)) (.pair (.list 9 (.str)) (.pair (.int .i64) (.pair (.str) (.bool))))) (.ro),.box 3 true (T10) (.ro)] [] (.e .z (.e (.o (tr 0 197 17 [(17,⟨[],.ro,[212,213,214],[3],none⟩),(18,.t 215),(19,.t 216),(20,.t 217),(21,.t 218),(22,⟨[],.ro,[200,218],[0],none⟩)])) .z)) .z)))))))))))) .z))
def be (n:Nat):Env:=⟨tab,[C88,bK,bL,bM,C89,bN,VO n,bE,bO],4,227⟩
theorem pC:(fun(n:Nat) (x:HL (pts TK))=>den (be n) (Tryz.f209.body.getD .skip) iR (DL 1 227 TK x) (Be tab [] TK YC []) (fun _ _=>none) (Be tab [] TK YC []))=fun n=>(VM (n+1)).F:=by kernel_rfl
def iX:Hn:=(.e (.k [.g 6]) (.e (.k [.g 7]) (.e .z (.e (.e .z (.j [.mp 0 0 3,.snp 2 (.str) [],.dat 6 (.list 9 (.str)) (.own (.ro)),.dat 7 (.list 9 (.str)) (.own (.ro)),.box 0 true (.pair (.list 9 (.str)) (.pair (.list 9 (.str)) (.pair (.int .i64) (.pair (.str) (.bool))))) (.ro),.box 3 true (T10) (.ro)] [] (.j [.mp 0 0 3,.i 1,.snp 2 (.str) [],.dat 6 (.list 9 (.str)) (.own (.ro)),.dat 7 (.list 9 (.str)) (.own (.ro)),.i 8,.box 0 true (.pair (.list 9 (.str)) (.pair (.list 9 (.str)) (.pair (.int .i64) (.pair (.str) (.bool))))) (.ro),.box 3 true (T10) (.ro)] [] .z .z) .z)) (.e .z (.e (.o [(4,.g [.g 53,.z 53] (.own (.ro)))]) (.o [(4,.g [.g 57,.z 57] (.own (.ro)))])))))))
def bh (n:Nat):Env:=⟨tab,[C88,VM n],4,60⟩
theorem pF:(fun(n:Nat) (x:HL (pts TN))=>den (bh n) (Tryz.f249.body.getD .skip) iX (DL 1 60 TN x) (Be tab [] TN YF []) (fun _ _=>none) (Be tab [] TN YF []))=fun n=>(VO (n+1)).F:=by kernel_rfl
theorem eA:∀ n,Cok Tryz.prog (VM n)∧Cok Tryz.prog (VO n):=by
 intro n;have h88:=c88
 have h245:=jN
 have h246:=jO
 have h247:=cL
 have h89:=c89
 have h248:=cM
 have h115:=YS
 have h250:=og
 induction n with
 | zero=>exact⟨Bs (fn:=Tryz.f209) (by kernel_rfl) (by kernel_rfl) (by kernel_rfl) (fun _=>rfl),Bs (fn:=Tryz.f249) (by kernel_rfl) (by kernel_rfl) (by kernel_rfl) (fun _=>rfl)⟩
 | succ n ih=>
  obtain⟨h209,h249⟩:=ih;refine⟨?_,?_⟩
  ·exact BN (E:=be n) (c:=VM (n+1)) (fn:=Tryz.f209) (code:=Tryz.f209.body.getD .skip) (hn:=iR) (gr:=[]) (is:=[]) ⟨DR,(fun c hc=>by simp only [be,List.mem_cons,List.not_mem_nil,or_false] at hc;rcases hc with rfl | rfl | rfl | rfl | rfl | rfl | rfl | rfl | rfl<;>assumption),Dp⟩ ⟨by kernel_rfl,by kernel_rfl,by kernel_rfl,by kernel_rfl,by kernel_rfl,Nat.le_of_ble_eq_true rfl,by kernel_rfl⟩ (by kernel_rfl) (fun x y h=>(congrFun (congrFun pC n) x).trans h)
  ·exact BN (E:=bh n) (c:=VO (n+1)) (fn:=Tryz.f249) (code:=Tryz.f249.body.getD .skip) (hn:=iX) (gr:=[]) (is:=[]) ⟨DR,(fun c hc=>by simp only [bh,List.mem_cons,List.not_mem_nil,or_false] at hc;rcases hc with rfl | rfl<;>assumption),Dp⟩ ⟨by kernel_rfl,by kernel_rfl,by kernel_rfl,by kernel_rfl,by kernel_rfl,Nat.le_of_ble_eq_true rfl,by kernel_rfl⟩ (by kernel_rfl) (fun x y h=>(congrFun (congrFun pF n) x).trans h)
def kw:Cal:=⟨209,TK,YC,fun x=>Fg x.1 x.2.1 x.2.2.1 x.2.2.2.1,1⟩
theorem oS:Cok Tryz.prog kw:=CP (F:=fun n=>(VM n).F) (fun n=>(eA n).1)
def kz:Cal:=⟨249,TN,YF,fun x=>Pk x.1 x.2.1 x.2.2.1 x.2.2.2.1,1⟩
theorem c249:Cok Tryz.prog kz:=CP (F:=fun n=>(VO n).F) (fun n=>(eA n).2)
def gM:Cal:=⟨176,[⟨.ptr (.ro),T10⟩,⟨.ro,.int .i64⟩],[⟨.str,.ro⟩],fun x=>Jy x.1 x.2.1,0⟩
def mF:Hn:=(.e .z (.e .z (.e .z (.e (.e .z (.j [.mp 5 11 0,.box 0 true (T10) (.ro),.box 11 true (.pair (.list 9 (.str)) (.pair (.list 9 (.str)) (.pair (.int .i64) (.pair (.str) (.bool))))) (.ro)] [] (.j [.i 1,.mp 5 11 0,.i 6,.box 0 true (T10) (.ro),.box 11 true (.pair (.list 9 (.str)) (.pair (.list 9 (.str)) (.pair (.int .i64) (.pair (.str) (.bool))))) (.ro)] [(0,⟨1,[]⟩)] .z .z) .z)) .z))))
theorem nw:CK gM:=ck gM Tryz.f176 mF [] [.tmp 4] (cc c89 (cc c88 (cc oS cn)))
def fo:Cal:=⟨141,[⟨.ro,.int .u8⟩],[⟨.bool,.ro⟩],fun x=>Ck x.1,0⟩
def ld:Hn:=(.e .z (.e (.j [.l 2] [] .z .z) .z))
theorem jA:CK fo:=ck fo Tryz.f141 ld [] [.tmp 2] cn
def fq:Cal:=⟨143,[⟨.ro,.int .u8⟩],[⟨.bool,.ro⟩],fun x=>Cj x.1,0⟩
def lg:Hn:=(.e .z (.e (.j [.l 2] [] .z .z) .z))
theorem jB:CK fq:=ck fq Tryz.f143 lg [] [.tmp 2] cn
def iC:Cal:=⟨280,[],[⟨.list 9 (.str),.own (.ro)⟩],fun x=>Iy ,0⟩
def nH:Hn:=(.e .z (.e (.k [.g 0]) .z))
theorem ol:CK iC:=ck iC Tryz.f280 nH [] [.tmp 0] cn
def gx:Cal:=⟨237,[⟨.ro,.str⟩,⟨.ro,.int .i64⟩],[⟨.str,.ro⟩],fun x=>GO x.1 x.2.1,0⟩
def mt:Hn:=(.e .z (.e (.k [.g 5]) (.e (.e .z (.n ⟨[],[],(some ⟨[],[],[]⟩),true,[]⟩ (.j [.snp 0 (.str) [],.i 1,.dat 5 (.list 9 (.str)) (.own (.ro)),.i 6] [] (.e .z (.e (.e (.e .z (.e (.n ⟨[],[],(some ⟨[.snp 0 (.str) [],.i 1,.dat 5 (.list 9 (.str)) (.own (.ro)),.i 6,.l 38],[],[]⟩),false,(tr 0 20 19 [])⟩ .z .z) .z)) .z) .z)) .z) .z)) .z)))
theorem oc:CK gx:=ck gx Tryz.f237 mt [] [.tmp 4] (cc ol cn)
def gg:Cal:=⟨207,[⟨.ro,.str⟩],[⟨.list 216 (T13),.own (.ro)⟩,⟨.bool,.ro⟩],fun x=>GN x.1,0⟩
def mY:Hn:=(.e .z (.e (.k [.g 4]) (.e (.e .z (.e (.e (.k [.g 2]) .z) .z)) (.e (.k [.g 5]) (.e .z (.e (.n ⟨[],[],(some ⟨[.dat 5 (.list 216 (T13)) (.own (.ro))],[],[]⟩),true,[]⟩ (.j [.snp 0 (.str) [],.dat 4 (.list 216 (T13)) (.own (.ro)),.dat 5 (.list 216 (T13)) (.own (.ro)),.i 6] [] (.e .z (.n ⟨[],[],(some ⟨[.snp 0 (.str) [],.dat 4 (.list 216 (T13)) (.own (.ro)),.dat 5 (.list 216 (T13)) (.own (.ro)),.i 6],[],[]⟩),true,[]⟩ (.e (.e (.j [.snp 0 (.str) [],.dat 4 (.list 216 (T13)) (.own (.ro)),.dat 5 (.list 216 (T13)) (.own (.ro)),.i 6,.l 29] [] .z .z) .z) (.e .z (.e (.e .z (.e (.e (.j [.snp 0 (.str) [],.dat 4 (.list 216 (T13)) (.own (.ro)),.dat 5 (.list 216 (T13)) (.own (.ro)),.i 6,.i 7] [] (.j [.snp 0 (.str) [],.dat 4 (.list 216 (T13)) (.own (.ro)),.dat 5 (.list 216 (T13)) (.own (.ro)),.i 6,.i 7] [] (.e (.e (.j [.snp 0 (.str) [],.dat 4 (.list 216 (T13)) (.own (.ro)),.dat 5 (.list 216 (T13)) (.own (.ro)),.i 6,.i 7,.l 52] [] .z .z) .z) .z) .z) .z) (.e (.e .z (.e (.e (.k [.g 2]) .z) .z)) (.e (.n ⟨[],[.g 5],none,false,[(7,.g [.g 60] .ro)]⟩ .z .z) .z))) .z)) (.e (.e .z (.e (.e .z (.e (.j [.snp 0 (.str) [],.dat 4 (.list 216 (T13)) (.own (.ro)),.dat 5 (.list 216 (T13)) (.own (.ro)),.i 6,.i 7,.i 8] [] (.j [.snp 0 (.str) [],.dat 4 (.list 216 (T13)) (.own (.ro)),.dat 5 (.list 216 (T13)) (.own (.ro)),.i 6,.i 7,.i 8] [] (.e (.e (.j [.snp 0 (.str) [],.dat 4 (.list 216 (T13)) (.own (.ro)),.dat 5 (.list 216 (T13)) (.own (.ro)),.i 6,.i 7,.i 8,.l 88] [] .z .z) .z) .z) .z) .z) (.e (.e (.j [.snp 0 (.str) [],.dat 4 (.list 216 (T13)) (.own (.ro)),.dat 5 (.list 216 (T13)) (.own (.ro)),.i 7,.i 8,.l 106] [] .z .z) (.e (.e (.k [.g 2]) .z) .z)) (.e (.n ⟨[],[.g 5],none,false,[(4,.g [.g 108] .ro)]⟩ .z .z) .z)))) .z)) (.e .z (.e (.e .z (.e (.e (.k [.g 2]) .z) .z)) (.e (.n ⟨[],[.g 5],none,false,[(4,.g [.g 120] .ro)]⟩ .z .z) .z))))))) .z)) .z) .z) (.e (.k [.g 2]) .z)))))))
theorem oP:CK gg:=ck gg Tryz.f207 mY [] [.tmp 2,.tmp 3] (cc jA (cc jB (cc oc cn)))
def bP:Cal:=⟨281,[⟨.ptr (.pr (.ro) (.pr (.ro) (.pr (.ro) (.pr (.ro) (.own (M7)))))),T4⟩,⟨.ro,.int .i64⟩,⟨.ro,.str⟩],[⟨.bool,.ro⟩],fun x=>Dt x.1 x.2.1 x.2.2.1,0⟩
def nI:Hn:=(.e .z (.e (.n ⟨[],[],(some ⟨[.l 6,.box 0 true (T4) (.pr (.ro) (.pr (.ro) (.pr (.ro) (.pr (.ro) (.own (M7))))))],[],[]⟩),false,(tr 0 7 47 [(47,.t 6)])⟩ .z .z) .z))
theorem jP:CK bP:=ck bP Tryz.f281 nI [] [.tmp 6] cn
def RQ:Cal:=⟨238,[⟨.ptr (.pr (.ro) (.pr (.ro) (.pr (.ro) (.pr (.ro) (.own (M7)))))),T4⟩,⟨.ro,.int .i64⟩,⟨.ro,.str⟩],[⟨.bool,.ro⟩],fun x=>AF x.1 x.2.1 x.2.2.1,0⟩
def mu:Hn:=.z
theorem TX:CK RQ:=ck RQ Tryz.f238 mu [] [.tmp 6] (cc jP cn)
def C82:Cal:=⟨82,[⟨.ro,.int .i64⟩,⟨.ro,.int .i64⟩,⟨.ro,.int .i64⟩],[⟨.bool,.ro⟩],fun x=>Az x.1 x.2.1 x.2.2.1,0⟩
def H82:Hn:=(.e .z (.e (.j [.l 6] [] .z .z) .z))
theorem c82:CK C82:=ck C82 Tryz.f82 H82 [] [.tmp 6] cn
def gQ:Cal:=⟨184,[],[⟨.list 9 (.str),.own (.ro)⟩],fun x=>Mh ,0⟩
def mJ:Hn:=(.e .z (.e (.k [.g 0]) .z))
theorem oC:CK gQ:=ck gQ Tryz.f184 mJ [] [.tmp 0] cn
def fp:Cal:=⟨142,[⟨.ro,.str⟩],[⟨.bool,.ro⟩],fun x=>Js x.1,0⟩
def lf:Hn:=(.e .z (.e (.k [.g 3]) (.e (.e .z (.n ⟨[],[],(some ⟨[],[],[]⟩),true,[]⟩ (.j [.snp 0 (.str) [],.dat 3 (.list 9 (.str)) (.own (.ro)),.i 4] [] .z .z) .z)) .z)))
theorem nZ:CK fp:=ck fp Tryz.f142 lf [] [.tmp 2] (cc oC cn)
def C81:Cal:=⟨81,[⟨.ro,.str⟩],[⟨.bool,.ro⟩],fun x=>DQ x.1,0⟩
def H81:Hn:=(.e .z (.e (.e (.j [.snp 0 (.str) [],.l 17] [] .z .z) .z) (.e (.e .z (.n ⟨[],[],(some ⟨[],[],[]⟩),true,[]⟩ (.j [.snp 0 (.str) [],.i 3] [] (.e .z (.e (.e (.e (.j [.snp 0 (.str) [],.i 3,.l 35] [] .z .z) .z) .z) .z)) .z) .z)) .z)))
theorem c81:CK C81:=ck C81 Tryz.f81 H81 [] [.tmp 2] (cc c82 (cc jA (cc nZ (cc jB cn))))
def Xq:Cal:=⟨239,[⟨.ptr (.pr (.ro) (.pr (.ro) (.pr (.ro) (.pr (.ro) (.own (M7)))))),T4⟩],[⟨.str,.ro⟩],fun x=>Ax x.1,0⟩
def mw:Hn:=(.e .z (.e (.e (.n ⟨[],[],(some ⟨[.l 47,.box 0 true (T4) (.pr (.ro) (.pr (.ro) (.pr (.ro) (.pr (.ro) (.own (M7))))))],[(0,⟨1,[]⟩)],[]⟩),false,(tr 0 3 45 [])⟩ .z .z) .z) (.e .z (.e (.o (tr 0 59 12 [(12,.t 2)])) .z))))
theorem YT:CK Xq:=ck Xq Tryz.f239 mw [] [.tmp 2] (cc c81 cn)
def Sx:Cal:=⟨240,[⟨.ptr (.pr (.ro) (.pr (.ro) (.pr (.ro) (.pr (.ro) (.own (M7)))))),T4⟩,⟨.ro,.str⟩],[],fun x=>Ab x.1 x.2.1,0⟩
def mx:Hn:=(.e .z (.j [.box 0 true (T4) (.pr (.ro) (.pr (.ro) (.pr (.ro) (.pr (.ro) (.own (M7))))))] [] .z .z))
theorem VZ:CK Sx:=ck Sx Tryz.f240 mx [] [] (cc TX cn)
def gy:Cal:=⟨241,[⟨.ptr (.pr (.ro) (.pr (.ro) (.pr (.ro) (.pr (.ro) (.own (M7)))))),T4⟩],[⟨.int .i64,.ro⟩],fun x=>CL x.1,0⟩
def my:Hn:=(.e .z (.e .z (.e .z (.e .z (.e .z (.e (.e .z (.j [.i 3,.box 0 true (T4) (.pr (.ro) (.pr (.ro) (.pr (.ro) (.pr (.ro) (.own (M7))))))] [(0,⟨1,[]⟩)] .z .z)) (.e (.e .z (.j [.i 3,.box 0 true (T4) (.pr (.ro) (.pr (.ro) (.pr (.ro) (.pr (.ro) (.own (M7))))))] [] .z .z)) .z)))))))
theorem od:CK gy:=ck gy Tryz.f241 my [] [.tmp 2] (cc TX (cc VZ cn))
def Pm:Cal:=⟨243,[⟨.ptr (.pr (.ro) (.pr (.ro) (.pr (.ro) (.pr (.ro) (.own (M7)))))),T4⟩,⟨.mov (M7),T7⟩],[⟨.int .i64,.ro⟩],fun x=>Aa x.1 x.2.1,0⟩
def mz:Hn:=(.e (.o [(0,.m' M7)]) (.e (.e (.j [.l 16,.box 0 true (T4) (.pr (.ro) (.pr (.ro) (.pr (.ro) (.pr (.ro) (.own (M7)))))),.box 3 true (T7) (M7)] [(0,⟨1,[]⟩),(3,⟨7,[]⟩)] .z .z) .z) (.e (.o (tr 0 20 6 [(6,⟨[.g 25],M7,[3,25,26],[3],none⟩),(7,⟨[.g 24],M7,[0,21,22,23,24,26,27],[0],none⟩),(8,.t 28),(9,.t 29),(10,⟨[],.own (M7),[0,21,22,23,27,28,29],[0],none⟩)])) .z)))
theorem Va:CK Pm:=ck Pm Tryz.f243 mz [] [.tmp 4] cn
def bR:Cal:=⟨305,[⟨.ptr (.pr (.ro) (.pr (.ro) (.pr (.ro) (.pr (.ro) (.own (M7)))))),T4⟩],[⟨.int .i64,.ro⟩],fun x=>DB x.1,0⟩
def nM:Hn:=(.e .z (.e (.e .z (.e (.e (.o [(3,.m' M7)]) .z) .z)) (.e (.o [(3,.m' M7)]) .z)))
theorem oq:CK bR:=ck bR Tryz.f305 nM [] [.tmp 2] (cc TX (cc YT (cc Va cn)))
end
end Go.Proofs.YtmakhmoielhjeaaGreatDoorE

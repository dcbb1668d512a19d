/- The engine, texts H H2 H3 H4 H5 H6: how code is reckoned as Lean functions, and that it is sound. No condition. -/
import Derived.Test.YtmakhmoielhjeaaGreatDoorPackA
import Derived.Laws.Tables
import Derived.Laws.Strings2
set_option linter.all false
namespace Go.Proofs.YtmakhmoielhjeaaGreatDoorE
inductive Cnd where
 | tt
 | idx (n:Int) (len:Nat)
 | nz (b:Int)
 | nn (b:Int)
 | cut (lo hi:Int) (len:Nat)
 | le (a b:Nat)
 | both (a b:Cnd)
def Cnd.holds:Cnd→Prop
 | .tt=>True
 | .idx n len=>0≤n∧n<(len:Int)
 | .nz b=>b≠0
 | .nn b=>0≤b
 | .cut lo hi len=>0≤lo∧lo≤hi∧hi≤(len:Int)
 | .le a b=>a≤b
 | .both a b=>a.holds∧b.holds
def Cnd.run {α:Type} (c:Cnd) (k:Option α):Option α:=match c with
 | .tt=>k
 | .idx n len=>if 0≤n∧n<(len:Int) then k else none
 | .nz b=>if b=0 then none else k
 | .nn b=>if 0≤b then k else none
 | .cut lo hi len=>if 0≤lo∧lo≤hi∧hi≤(len:Int) then k else none
 | .le a b=>if a≤b then k else none
 | .both a b=>a.run (b.run k)
theorem Cnd.run_some {α:Type}:∀ {c:Cnd} {k:Option α} {r:α},c.run k=some r→c.holds∧k=some r
 | .tt,_,_,h=>⟨trivial,h⟩
 | .idx n len,_,_,h=>by simp only [Cnd.run] at h;split at h;· exact⟨by assumption,h⟩
                        ·cases h
 | .nz b,_,_,h=>by simp only [Cnd.run] at h;split at h;· cases h
                   ·exact⟨by assumption,h⟩
 | .nn b,_,_,h=>by simp only [Cnd.run] at h;split at h;· exact⟨by assumption,h⟩
                   ·cases h
 | .cut lo hi len,_,_,h=>by simp only [Cnd.run] at h;split at h;· exact⟨by assumption,h⟩
                            ·cases h
 | .le a b,_,_,h=>by simp only [Cnd.run] at h;split at h;· exact⟨by assumption,h⟩
                     ·cases h
 | .both a b,_,_,h=>by
  simp only [Cnd.run] at h;obtain⟨h1,h2⟩:=Cnd.run_some h;obtain⟨h3,h4⟩:=Cnd.run_some h2;exact⟨⟨h1,h3⟩,h4⟩
@[reducible] def Af:Nat:=9223372036854775807
def bAt (s:ByteArray) (n:Int):Int:=((s.data.getD n.toNat 0).toNat:Int)
def bts (xs:List Int):ByteArray:=⟨(xs.map fun n=>UInt8.ofNat n.toNat).toArray⟩
def sub (s:ByteArray) (lo hi:Int):ByteArray:=s.extract lo.toNat hi.toNat
def Hf {α:Type} (xs:List α) (lo hi:Int):List α:=(xs.drop lo.toNat).take (hi - lo).toNat
@[reducible] def sLss (a b:ByteArray):Bool:=Op.bytesLess a.toList b.toList
def MI (k:IntKind) (a b:Int):Int:=k.wrap (BitVec.ofInt k.bits a &&& BitVec.ofInt k.bits b).toNat
def Vw (k:IntKind) (a b:Int):Int:=k.wrap (BitVec.ofInt k.bits a ^^^ BitVec.ofInt k.bits b).toNat
def iOr (k:IntKind) (a b:Int):Int:=k.wrap (BitVec.ofInt k.bits a ||| BitVec.ofInt k.bits b).toNat
def Dv (k:IntKind) (n:Int):AV:=.snp (.int k) n [] none
def DE (b:Bool):AV:=.snp .bool b [] none
def Qg (s:ByteArray):AV:=.snp .str s [] none
def ok1 (av:AV):Option (Cnd×AV):=some (.tt,av)
def nn:AV→Option (Cnd×AV)
 | .none=>none
 | av=>some (.tt,av)
def Zd (op:BinOp) (k:IntKind) (a b:Int):Option (Cnd×AV):=match op with
 | .add=>ok1 (Dv k (k.wrap (a+b)))
 | .sub=>ok1 (Dv k (k.wrap (a - b)))
 | .mul=>ok1 (Dv k (k.wrap (a * b)))
 | .quo=>some (.nz b,Dv k (k.wrap (a.tdiv b)))
 | .rem=>some (.nz b,Dv k (a.tmod b))
 | .and=>ok1 (Dv k (MI k a b))
 | .or=>ok1 (Dv k (iOr k a b))
 | .xor=>ok1 (Dv k (Vw k a b))
 | .shl=>some (.nn b,Dv k (k.wrap (a * 2 ^ (min b.toNat k.bits))))
 | .shr=>some (.nn b,Dv k (a.fdiv (2 ^ (min b.toNat k.bits))))
 | .eql=>ok1 (DE (decide (a=b)))
 | .neq=>ok1 (DE (decide (a≠b)))
 | .lss=>ok1 (DE (decide (a<b)))
 | .leq=>ok1 (DE (decide (a≤b)))
 | .gtr=>ok1 (DE (decide (b<a)))
 | .geq=>ok1 (DE (decide (b≤a)))
 | _=>none
def TT (op:BinOp) (k:IntKind) (a b:Int):Option (Cnd×AV):=match op with
 | .shr=>some (.nn b,Dv k (a.fdiv (2 ^ (min b.toNat k.bits))))
 | _=>none
def aE (op:BinOp) (a b:ByteArray):Option (Cnd×AV):=match op with
 | .add=>some (.le (a.size+b.size) Af,Qg (a++b))
 | .eql=>ok1 (DE (decide (a=b)))
 | .neq=>ok1 (DE (decide (a≠b)))
 | _=>none
def Va (op:BinOp) (a b:Bool):Option (Cnd×AV):=match op with
 | .eql=>ok1 (DE (a == b))
 | .neq=>ok1 (DE (!(a == b)))
 | _=>none
def eqD:(t:Ty)→t.D→t.D→Bool
 | .int _,a,b=>decide (@Eq Int a b)
 | .bool,a,b=>@BEq.beq Bool _ a b
 | .str,a,b=>decide (@Eq ByteArray a b)
 | .list _ _,_,_=>false
 | .pair s t,a,b=>eqD s a.1 b.1 && eqD t a.2 b.2
def Ys (τ:List TE) (op:BinOp) (T:Nat):AV→AV→Option (Cnd×AV)
 | .snp (.int k) a _ _,.snp (.int k') b _ _=>if k=k' then Zd op k a b else TT op k a b
 | .snp .str a _ _,.snp .str b _ _=>aE op a b
 | .snp .bool a _ _,.snp .bool b _ _=>match tat τ T with
  | some te=>if te.t=.bool then Va op a b else none
  | none=>none
 | .snp (.pair s t) a _ _,.snp t2 b _ _=>match tat τ T with
  | some te=>if h:t2=.pair s t then (if te.t=.pair s t∧te.t.flat=true∧te.t.sz<10000 then match op with
   | .eql=>ok1 (DE (eqD (.pair s t) a (h ▸ b)))
   | .neq=>ok1 (DE (!eqD (.pair s t) a (h ▸ b)))
   | _=>none else none) else none
  | none=>none
 | _,_=>none
def WK (v:Bool):AV→AV→Option (Cnd×AV)
 | .snp .bool a _ _,.snp .bool b _ _=>ok1 (DE (bif v then a else b))
 | x,y=>bif v then nn x else nn y
def EY (rt:Nat→Option Dat) (p:Place):AV:=match rt p.root with
 | some d=>match BG p.path d.t d.m d.x with
  | some d'=>if d'.m.noOwn then .snp d'.t d'.x [] none else if d'.m.full then .snp d'.t d'.x [p.root] (some p) else .none
  | none=>.none
 | none=>.none
def AV.isT (t:Ty):AV→Bool
 | .snp t' _ _ _=>decide (t'=t)
 | _=>false
def So (te:TE) (j:Nat) (t:Ty) (x:t.D) (deps:List Nat) (src:Option Place):Option AV:=
 match BG (BB te.k j) t .ro x with
 | some d=>some (Fa d.t d.x deps (src.map fun p=>⟨p.root,p.path++BB te.k j⟩))
 | none=>none
def ae (rt:Nat→Option Dat) (p:Place):Bool:=match rt p.root with
 | some d=>match BG p.path d.t d.m d.x with
  | some d'=>match d'.m with | .own _=>true | _=>false
  | none=>false
 | none=>false
def atV (rt:Nat→Option Dat) (t:Ty) (xs:List t.D) (deps:List Nat) (src:Option Place) (n:Int):Option (Cnd×AV):=match src with
 | some p=>if ae rt p then some (.idx n xs.length,.ptr ⟨p.root,p.path++[.i n]⟩) else some (.idx n xs.length,.rp t (rd xs n t.zero) deps)
 | none=>some (.idx n xs.length,.rp t (rd xs n t.zero) deps)
def Sv:AV→Option (Cnd×AV)
 | .snp (.list _ _) xs _ _=>ok1 (Dv .i64 (List.length xs))
 | .snp .str s _ _=>ok1 (Dv .i64 s.size)
 | .nilS=>ok1 (Dv .i64 0)
 | _=>none
def bnd (ev:Operand→AV) (dflt:Int):Option Operand→Option Int
 | none=>some dflt
 | some x=>match ev x with | .snp (.int _) n _ _=>some n | _=>none
def TU (ev:Operand→AV) (lo hi:Option Operand):AV→Option (Cnd×AV)
 | .snp .str s _ _=>match bnd ev 0 lo,bnd ev s.size hi with
  | some l,some h=>some (.cut l h s.size,Qg (sub s l h))
  | _,_=>none
 | .snp (.list e t) xs deps _=>match bnd ev 0 lo,bnd ev (List.length xs) hi with
  | some l,some h=>some (.cut l h (List.length xs),Fa (.list e t) (Hf xs l h) deps none)
  | _,_=>none
 | _=>none
def Rw (ev:Operand→AV) (t:Ty) (parts:List (Nat×Operand)) (j:Nat):Option (t.D×List Nat):=
 match parts.find? (·.1 == j) with
 | none=>some (t.zero,[])
 | some (_,o)=>match ev o with
  | .snp t' x deps _=>if h:t'=t then some (h ▸ x,deps) else none
  | .nilS=>match t with
   | .list _ _=>some ([],[])
   | _=>none
  | _=>none
def JM (ev:Operand→AV) (parts:List (Nat×Operand)):(n j:Nat)→(t:Ty)→Option (t.D×List Nat)
 | 0,_,_=>none
 | 1,j,t=>Rw ev t parts j
 | n+2,j,.pair a b=>match Rw ev a parts j,JM ev parts (n+1) (j+1) b with
  | some (x,d1),some (y,d2)=>some ((x,y),d1++d2)
  | _,_=>none
 | _+2,_,_=>none
def Yu (τ:List TE) (ev:Operand→AV):Builtin→List Operand→List Nat→Option (Cnd×AV)
 | .len,[x],[T]=>match tat τ T,ev x with
  | some te,.snp t y deps src=>if t=te.t then Sv (.snp t y deps src) else none
  | some ⟨_,.list _ _,_,_⟩,.nilS=>Sv .nilS
  | _,_=>none
 | .min,[x,y],_=>match ev x,ev y with
  | .snp (.int k) a _ _,.snp (.int k') b _ _=>if k=k' then ok1 (Dv k (if b<a then b else a)) else none
  | _,_=>none
 | .max,[x,y],_=>match ev x,ev y with
  | .snp (.int k) a _ _,.snp (.int k') b _ _=>if k=k' then ok1 (Dv k (if b > a then b else a)) else none
  | _,_=>none
 | _,_,_=>none
def pv (τ:List TE) (ev:Operand→AV) (rt:Nat→Option Dat):Op→Option (Cnd×AV)
 | .move x | .assign x=>nn (ev x)
 | .pick c a b=>match ev c with
  | .snp .bool v _ _=>WK v (ev a) (ev b)
  | _=>none
 | .nilCheck x=>match ev x with
  | .ptr p=>match rt p.root with
   | some _=>ok1 (.ptr p)
   | none=>none
  | .rp t y deps=>ok1 (.rp t y deps)
  | .vw k π=>ok1 (.vw k π)
  | _=>none
 | .binOp op T x y _=>Ys τ op T (ev x) (ev y)
 | .unOp .not _ x=>match ev x with
  | .snp .bool b _ _=>ok1 (DE (!b))
  | _=>none
 | .unOp .neg _ x=>match ev x with
  | .snp (.int k) n _ _=>ok1 (Dv k (k.wrap (0 - n)))
  | _=>none
 | .convert s d x=>match tat τ s,tat τ d,ev x with
  | some _,some ⟨_,.int k',_,_⟩,.snp (.int _) n _ _=>ok1 (Dv k' (k'.wrap n))
  | some ⟨_,.list e (.int .u8),_,_⟩,some ⟨_,.str,_,_⟩,.snp (.list e' (.int .u8)) xs _ _=>if e=e' then ok1 (Qg (bts xs)) else none
  | _,_,_=>none
 | .load T x=>match tat τ T,ev x with
  | some te,.ptr p=>if (EY rt p).isT te.t then nn (EY rt p) else none
  | some te,.rp t y deps=>if t=te.t then ok1 (Fa t y deps none) else none
  | some te,.vw k π=>if (EY rt ⟨2 * k+1,π⟩).isT te.t then nn (EY rt ⟨2 * k+1,π⟩) else none
  | _,_=>none
 | .fieldAddr T x j=>match tat τ T,ev x with
  | some te,.ptr p=>match rt p.root with
   | some d=>match BG p.path d.t d.m d.x with
    | some d'=>if d'.t=te.t∧j<te.k∧(Ag (BB te.k j) te.t).isSome then ok1 (.ptr ⟨p.root,p.path++BB te.k j⟩) else none
    | none=>none
   | none=>none
  | some te,.rp t y deps=>if t=te.t∧j<te.k then
   match BG (BB te.k j) t .ro y with
   | some d=>ok1 (.rp d.t d.x deps)
   | none=>none
   else none
  | some te,.vw k π=>match rt (2 * k+1) with
   | some d=>match BG π d.t d.m d.x with
    | some d'=>if d'.t=te.t∧j<te.k∧(Ag (BB te.k j) te.t).isSome then ok1 (.vw k (π++BB te.k j)) else none
    | none=>none
   | none=>none
  | _,_=>none
 | .field T x j=>match tat τ T,ev x with
  | some te,.snp t y deps src=>if t=te.t∧j<te.k then
   match So te j t y deps src with
   | some av=>ok1 av
   | none=>none
   else none
  | _,_=>none
 | .indexAddr T x i=>match tat τ T,ev x,ev i with
  | some te,.snp (.list e t) xs deps src,.snp (.int _) n _ _=>if te.t=.list e t then atV rt t xs deps src n else none
  | _,_,_=>none
 | .index T x i=>match tat τ T,ev x,ev i with
  | some te,.snp .str s _ _,.snp (.int _) n _ _=>if te.t=.str then some (.idx n s.size,Dv .u8 (bAt s n)) else none
  | _,_,_=>none
 | .slice T x lo hi none=>match tat τ T,ev x with
  | some te,.snp t y deps src=>if t=te.t then TU ev lo hi (.snp t y deps src) else none
  | _,_=>none
 | .build T parts=>match tat τ T with
  | some te=>match JM ev parts.toList te.k 0 te.t with
   | some (x,deps)=>if (parts.toList.map (·.1)).Nodup∧parts.toList.all (·.1<te.k) then ok1 (Fa te.t x deps none) else none
   | none=>none
  | none=>none
 | .call c=>match c.callee with
  | .builtin b=>Yu τ ev b c.args.toList c.argTypes.toList
  | _=>none
 | _=>none
def S.rt (σ:S) (r:Nat):Option Dat:=if r % 2=0 then (match σ.slot (r / 2) with | .dat d=>some d | _=>none) else (σ.box (r / 2)).map (·.2)
theorem RootR.rt {G:Gh} {σ:S} {tmps:Array Value} {w:World} {r:Nat} {d:Dat} {L:Option Addr} {cs:List Value} (h:RootR G σ tmps w r d L cs):σ.rt r=some d:=by
 cases h with
 | slot i d cs hs hv=>have:2 * i / 2=i:=by omega
                      simp [S.rt,this,hs]
 | box k d cs hb hl hc=>have:(2 * k+1) / 2=k:=by omega
                        have h2:(2 * k+1) % 2≠0:=by omega
                        simp only [S.rt,if_neg h2,this,hb,Option.map_some]
 | hdr k d hb=>have:(2 * k+1) / 2=k:=by omega
               have h2:(2 * k+1) % 2≠0:=by omega
               simp only [S.rt,if_neg h2,this,hb,Option.map_some]
theorem Rel.rt {w0:World} {G0:Gh} {np:Nat} {σ:S} {a:Act} {w:World} {G:Gh} (h:Rel w0 G0 np σ a w G) {r:Nat} {d:Dat} (hr:σ.rt r=some d):∃ L cs,RootR G σ a.tmps w r d L cs:=by
 unfold S.rt at hr;split at hr
 ·rename_i he;split at hr
  ·rename_i d' hs;obtain⟨rfl⟩:=hr;obtain⟨cs,hroot,_⟩:=h.rootOf.1 _ _ hs;have:2 * (r / 2)=r:=by omega
   rw [this] at hroot;exact⟨_,_,hroot⟩
  ·cases hr
 ·rename_i ho;have e:2 * (r / 2)+1=r:=by omega
  cases hb:σ.box (r / 2) with
  | none=>rw [hb] at hr;cases hr
  | some bx=>
   obtain⟨b,d'⟩:=bx;rw [hb] at hr;obtain⟨rfl⟩:=hr;cases b with
   | true=>
    obtain⟨cs,hroot⟩:=h.rootOf.2 _ _ hb;rw [e] at hroot;exact⟨_,_,hroot⟩
   | false=>
    have:=RootR.hdr (G:=G) (σ:=σ) (tmps:=a.tmps) (w:=w) (r / 2) d' hb
    rw [e] at this;exact⟨_,_,this⟩
theorem RootR.uniq {G:Gh} {σ:S} {tmps:Array Value} {w:World} {r:Nat} {d d':Dat} {L:Option Addr} {cs:List Value} (h:RootR G σ tmps w r d L cs) (h':σ.rt r=some d'):d'=d:=by
 rw [h.rt] at h';exact(Option.some.inj h').symm
theorem Il:∀ (π π':Path) {t:Ty} {m:Md} {x:t.D} {d:Dat},AH π t m x=some d→AH (π++π') t m x=AH π' d.t d.m d.x
 | [],_,_,_,_,_,h=>by simp only [AH,Option.some.injEq] at h;subst h;rfl
 | .f::π,π',.pair a b,_,_,_,h=>Il π π' (t:=a) h
 | .s::π,π',.pair a b,_,_,_,h=>Il π π' (t:=b) h
 | .i n::π,π',.list _ t,.own m,x,d,h=>by
  simp only [AH,List.cons_append] at h ⊢;split at h
  ·rename_i h0;split at h
   ·rename_i hn;rw [if_pos h0,if_pos hn];exact Il π π' h
   ·cases h
  ·cases h
 | .f::_,_,.int _,_,_,_,h=>by simp [AH] at h
 | .f::_,_,.bool,_,_,_,h=>by simp [AH] at h
 | .f::_,_,.str,_,_,_,h=>by simp [AH] at h
 | .f::_,_,.list _ _,_,_,_,h=>by simp [AH] at h
 | .s::_,_,.int _,_,_,_,h=>by simp [AH] at h
 | .s::_,_,.bool,_,_,_,h=>by simp [AH] at h
 | .s::_,_,.str,_,_,_,h=>by simp [AH] at h
 | .s::_,_,.list _ _,_,_,_,h=>by simp [AH] at h
 | .i _::_,_,.int _,_,_,_,h=>by simp [AH] at h
 | .i _::_,_,.bool,_,_,_,h=>by simp [AH] at h
 | .i _::_,_,.str,_,_,_,h=>by simp [AH] at h
 | .i _::_,_,.pair _ _,_,_,_,h=>by simp [AH] at h
 | .i _::_,_,.list _ _,.ro,_,_,h=>by simp [AH] at h
 | .i _::_,_,.list _ _,.hole,_,_,h=>by simp [AH] at h
 | .i _::_,_,.list _ _,.pr _ _,_,_,h=>by simp [AH] at h
theorem Ir {w:World}:∀ (π π':Path) {t:Ty} {m:Md} {x:t.D} {d:Dat} {L L':Option Addr} {cs cs':List Value},AH π t m x=some d→Al w π t L cs=some (L',cs') →
 Al w (π++π') t L cs=Al w π' d.t L' cs'
 | [],_,_,_,_,_,_,_,_,_,h,hl=>by
  simp only [AH,Option.some.injEq] at h;simp only [Al,Option.some.injEq,Prod.mk.injEq] at hl;subst h;obtain⟨rfl,rfl⟩:=hl;rfl
 | .f::π,π',.pair a b,_,_,_,_,_,_,_,h,hl=>Ir π π' (t:=a) h hl
 | .s::π,π',.pair a b,_,_,_,_,_,_,_,h,hl=>Ir π π' (t:=b) h hl
 | .i n::π,π',.list _ t,.own m,x,d,L,L',cs,cs',h,hl=>by
  simp only [AH] at h;split at h
  ·split at h
   ·match cs,hl with
    | [.slice (some A) _ _],hl=>
     simp only [Al,List.cons_append] at hl ⊢;exact Ir π π' h hl
   ·cases h
  ·cases h
 | .f::_,_,.int _,_,_,_,_,_,_,_,h,_=>by simp [AH] at h
 | .f::_,_,.bool,_,_,_,_,_,_,_,h,_=>by simp [AH] at h
 | .f::_,_,.str,_,_,_,_,_,_,_,h,_=>by simp [AH] at h
 | .f::_,_,.list _ _,_,_,_,_,_,_,_,h,_=>by simp [AH] at h
 | .s::_,_,.int _,_,_,_,_,_,_,_,h,_=>by simp [AH] at h
 | .s::_,_,.bool,_,_,_,_,_,_,_,h,_=>by simp [AH] at h
 | .s::_,_,.str,_,_,_,_,_,_,_,h,_=>by simp [AH] at h
 | .s::_,_,.list _ _,_,_,_,_,_,_,_,h,_=>by simp [AH] at h
 | .i _::_,_,.int _,_,_,_,_,_,_,_,h,_=>by simp [AH] at h
 | .i _::_,_,.bool,_,_,_,_,_,_,_,h,_=>by simp [AH] at h
 | .i _::_,_,.str,_,_,_,_,_,_,_,h,_=>by simp [AH] at h
 | .i _::_,_,.pair _ _,_,_,_,_,_,_,_,h,_=>by simp [AH] at h
 | .i _::_,_,.list _ _,.ro,_,_,_,_,_,_,h,_=>by simp [AH] at h
 | .i _::_,_,.list _ _,.hole,_,_,_,_,_,_,h,_=>by simp [AH] at h
 | .i _::_,_,.list _ _,.pr _ _,_,_,_,_,_,_,h,_=>by simp [AH] at h
theorem FK {w:World} {ok:Nat→Prop}:∀ (π:Path) {t:Ty} {r:Nat×Ty} (m:Md) (x:t.D) (L:Option Addr) (cs:List Value),Ag π t=some r→cs.length=t.sz →
 ∃ (m':Md) (y:r.2.D),AH π t m x=some ⟨r.2,m',y⟩∧BG π t .ro x=some ⟨r.2,.ro,y⟩∧Al w π t L cs=some (L.map (·.add r.1),(cs.drop r.1).take r.2.sz) ∧
  (RepV w ok t cs x→RepV w ok r.2 ((cs.drop r.1).take r.2.sz) y)∧(m=.ro→m'=.ro)
 | [],t,r,m,x,L,cs,h,hl=>by
  simp only [Ag,Option.some.injEq] at h;subst h;refine⟨m,x,rfl,rfl,?_,?_,fun h=>h⟩
  ·simp only [Al,List.drop_zero,← hl,List.take_length];cases L<;>simp [Addr.add_zero]
  ·simp only [List.drop_zero,← hl,List.take_length];exact fun h=>h
 | .f::π,.pair a b,r,m,x,L,cs,h,hl=>by
  simp only [Ag] at h;simp only [Ty.sz] at hl;obtain⟨m',y,h1,h2,h3,h4,h5⟩:=FK (w:=w) (ok:=ok) π m.fst x.1 L (cs.take a.sz) h (by simp;omega);have hle:=(Dj π h).2
  have e:((cs.take a.sz).drop r.1).take r.2.sz=(cs.drop r.1).take r.2.sz:=by
   rw [List.drop_take,List.take_take,Nat.min_eq_left (by omega)]
  refine⟨m',y,h1,h2,by simp only [Al];rw [h3,e],fun hR=>?_,fun hm=>h5 (by rw [hm];rfl)⟩
  obtain⟨c1,c2,rfl,g1,g2⟩:=hR;have e1:(c1++c2).take a.sz=c1:=by rw [← RepV.len g1];simp
  rw [e1] at h4 e;rw [← e];exact h4 g1
 | .s::π,.pair a b,r,m,x,L,cs,h,hl=>by
  simp only [Ag,Option.map_eq_some_iff] at h;obtain⟨r1,h,rfl⟩:=h;simp only [Ty.sz] at hl;obtain⟨m',y,h1,h2,h3,h4,h5⟩:=FK (w:=w) (ok:=ok) π m.snd x.2 (L.map (·.add a.sz)) (cs.drop a.sz) h (by simp;omega);refine⟨m',y,h1,h2,?_,fun hR=>?_,fun hm=>h5 (by rw [hm];rfl)⟩
  ·simp only [Al];rw [h3,List.drop_drop];cases L<;>simp [Addr.add_add]
  ·obtain⟨c1,c2,rfl,g1,g2⟩:=hR;have e1:(c1++c2).drop a.sz=c2:=by rw [← RepV.len g1];simp
   rw [e1] at h4;simp only;rw [← List.drop_drop,e1];exact h4 g2
 | .i _::_,.int _,_,_,_,_,_,h,_=>by simp [Ag] at h
 | .i _::_,.bool,_,_,_,_,_,h,_=>by simp [Ag] at h
 | .i _::_,.str,_,_,_,_,_,h,_=>by simp [Ag] at h
 | .i _::_,.pair _ _,_,_,_,_,_,h,_=>by simp [Ag] at h
 | .i _::_,.list _ _,_,_,_,_,_,h,_=>by simp [Ag] at h
 | .f::_,.int _,_,_,_,_,_,h,_=>by simp [Ag] at h
 | .f::_,.bool,_,_,_,_,_,h,_=>by simp [Ag] at h
 | .f::_,.str,_,_,_,_,_,h,_=>by simp [Ag] at h
 | .f::_,.list _ _,_,_,_,_,_,h,_=>by simp [Ag] at h
 | .s::_,.int _,_,_,_,_,_,h,_=>by simp [Ag] at h
 | .s::_,.bool,_,_,_,_,_,h,_=>by simp [Ag] at h
 | .s::_,.str,_,_,_,_,_,h,_=>by simp [Ag] at h
 | .s::_,.list _ _,_,_,_,_,_,h,_=>by simp [Ag] at h
theorem Kb:∀ (π:Path) {t:Ty} {x:t.D} {d:Dat},BG π t .ro x=some d→∃ o,Ag π t=some (o,d.t)
 | [],_,_,_,h=>by simp only [BG,Option.some.injEq] at h;subst h;exact⟨0,rfl⟩
 | .f::π,.pair a b,_,_,h=>Kb π (t:=a) h
 | .s::π,.pair a b,_,_,h=>by
  obtain⟨o,h1⟩:=Kb π (t:=b) h;exact⟨a.sz+o,by simp [Ag,h1]⟩
 | .f::_,.int _,_,_,h=>by simp [BG] at h
 | .f::_,.bool,_,_,h=>by simp [BG] at h
 | .f::_,.str,_,_,h=>by simp [BG] at h
 | .f::_,.list _ _,_,_,h=>by simp [BG] at h
 | .s::_,.int _,_,_,h=>by simp [BG] at h
 | .s::_,.bool,_,_,h=>by simp [BG] at h
 | .s::_,.str,_,_,h=>by simp [BG] at h
 | .s::_,.list _ _,_,_,h=>by simp [BG] at h
 | .i _::_,.int _,_,_,h=>by simp [BG] at h
 | .i _::_,.bool,_,_,h=>by simp [BG] at h
 | .i _::_,.str,_,_,h=>by simp [BG] at h
 | .i _::_,.pair _ _,_,_,h=>by simp [BG] at h
 | .i _::_,.list _ _,_,_,h=>by simp [BG] at h
section
variable {P:Program} {τ:List TE} (hτ:TabOk P τ)
include hτ
theorem II {T:Nat} {e:TE} (he:tat τ T=some e) {w:World} {A:Addr} {cs:List Value} {ok:Nat→Prop} {x:e.t.D} (hc:CellsAt w A cs) (hr:RepV w ok e.t cs x):
 ∃ v,(Instr.loadAt T (.pointer (some A))).run P w=.ok v w∧Val e.t v cs:=by
 have hlen:=RepV.len hr
 by_cases hp:∃ a b,e.t=.pair a b
 ·obtain⟨a,b,hp⟩:=hp;refine⟨.agg cs.toArray,?_,by rw [hp];rfl⟩
  have hl:=run_loadCells_list (P:=P) w A cs (fun j v hj=>by
   obtain⟨h1,h2⟩:=List.getElem?_eq_some_iff.1 hj;rw [hc j h1,h2])
  rw [hlen] at hl;have hi:e.t.isP=true:=by rw [hp];rfl
  simp only [Instr.loadAt,Instr.sureAddr,loadVar,Sem.run_bind,hτ.agg he,hτ.size he,hi,Result.andThen,Sem.run_pure,if_true,hl]
 ·obtain⟨hi,h1,hv⟩:=Ty.isP_false hp;rw [h1] at hlen
  match cs,hlen with
  | [v],_=>
   refine⟨v,?_,hv v⟩
   have hv:=hc 0 (by simp)
   rw [Addr.add_zero] at hv;simp only [Instr.loadAt,Instr.sureAddr,loadVar,Sem.run_bind,hτ.agg he,hi,Result.andThen,Sem.run_pure,Bool.false_eq_true,if_false,run_load,hv];rfl
theorem KZ {T:Nat} {e:TE} (he:tat τ T=some e) {w:World} {cs:List Value} {off:Nat} (hle:off+e.t.sz≤cs.length):
 ∃ v,(part T cs.toArray off).run P w=.ok v w∧Val e.t v ((cs.drop off).take e.t.sz):=by
 by_cases hp:∃ a b,e.t=.pair a b
 ·obtain⟨a,b,hp⟩:=hp;have hi:e.t.isP=true:=by rw [hp];rfl
  refine⟨.agg (cs.toArray.extract off (off+e.t.sz)),?_,?_⟩
  ·simp only [part,Sem.run_bind,hτ.agg he,hτ.size he,hi,Result.andThen,Sem.run_pure,if_true]
  ·rw [hp];simp only [Val];rw [← hp];simp [List.extract_toArray,List.extract_eq_take_drop]
 ·obtain⟨hi,hs,hv⟩:=Ty.isP_false hp;have hlt:off<cs.length:=by omega
  refine⟨cs[off],?_,?_⟩
  ·simp only [part,Sem.run_bind,hτ.agg he,hi,Result.andThen,Sem.run_pure,Bool.false_eq_true,if_false];simp [hlt]
  ·have e1:(cs.drop off).take 1=[cs[off]]:=by
    rw [List.drop_eq_getElem_cons hlt];rfl
   rw [hs,e1];exact hv _
end
theorem RF:∀ (vs:List Value) (k off:Nat) (cells:Array Value),off+k+vs.length≤cells.size →
 ((vs.zipIdx k).foldl (fun cs (c,j)=>cs.setIfInBounds (off+j) c) cells).toList=cells.toList.take (off+k)++vs++cells.toList.drop (off+k+vs.length)
 | [],k,off,cells,h=>by simp
 | v::vs,k,off,cells,h=>by
  simp only [List.zipIdx_cons,List.foldl_cons];simp only [List.length_cons] at h;rw [RF vs (k+1) off (cells.setIfInBounds (off+k) v) (by simp;omega)];have hlt:off+k<cells.toList.length:=by simp;omega
  simp only [Array.toList_setIfInBounds,List.length_cons];have e1:(cells.toList.set (off+k) v).take (off+(k+1))=cells.toList.take (off+k)++[v]:=by
   rw [List.set_eq_take_append_cons_drop,if_pos hlt,List.take_append];have:(cells.toList.take (off+k)).length=off+k:=by simp;omega
   rw [List.take_of_length_le (by omega),this,show off+(k+1) - (off+k)=1 by omega];rfl
  have e2:(cells.toList.set (off+k) v).drop (off+(k+1)+vs.length)=cells.toList.drop (off+k+(vs.length+1)):=by
   rw [List.drop_set_of_lt (by omega)]
   congr 1;omega
  rw [e1,e2];simp
def EJ (ss:List Nat) (j:Nat):Nat:=(ss.take j).foldr (· + ·) 0
theorem JU (s:Nat) (ss:List Nat) (j:Nat):EJ (s::ss) (j+1)=s+EJ ss j:=rfl
theorem RC:∀ (ls:List (List Value)) (j:Nat),ls.flatten.take (EJ (ls.map List.length) j)=(ls.take j).flatten
 | [],j=>by simp
 | l::ls,0=>by simp [EJ]
 | l::ls,j+1=>by
  rw [List.map_cons,JU,List.flatten_cons,List.take_append,List.take_of_length_le (by omega),Nat.add_sub_cancel_left,RC ls j];rfl
theorem RB:∀ (ls:List (List Value)) (j:Nat),ls.flatten.drop (EJ (ls.map List.length) j)=(ls.drop j).flatten
 | [],j=>by simp
 | l::ls,0=>by simp [EJ]
 | l::ls,j+1=>by
  rw [List.map_cons,JU,List.flatten_cons,List.drop_append,List.drop_of_length_le (by omega),Nat.add_sub_cancel_left,RB ls j];rfl
theorem Sq:∀ (ls:List (List Value)) (j:Nat),(ls.take j).flatten.length=EJ (ls.map List.length) j
 | [],j=>by simp [EJ]
 | l::ls,0=>by simp [EJ]
 | l::ls,j+1=>by rw [List.map_cons,JU,List.take_succ_cons,List.flatten_cons,List.length_append,Sq ls j]
theorem bW {l:List (List Value)} {i:Nat} {v:List Value} (hi:i<(l.map List.length).length) (h:v.length=(l.map List.length).getD i 0):(l.set i v).map List.length=l.map List.length:=by
 rw [List.map_set,h,List.getD_eq_getElem?_getD,List.getElem?_eq_getElem hi];exact List.set_getElem_self hi
theorem QT {place:Nat→Option (Nat×Nat)} {ss:List Nat} (hpl:∀ i,i<ss.length→place i=some (EJ ss i,ss.getD i 0)):
 ∀ (parts:List (Nat×Value)) (ls:List (List Value)) (cells:Array Value),cells.toList=ls.flatten→ls.map List.length=ss→(∀ p∈parts,p.1<ss.length∧p.2.cells.size=ss.getD p.1 0) →
 ∃ out,Instr.fill place cells parts=some out∧out.toList=(parts.foldl (fun ls p=>ls.set p.1 p.2.cells.toList) ls).flatten
 | [],ls,cells,hc,_,_=>⟨cells,rfl,hc⟩
 | (i,v)::parts,ls,cells,hc,hs,hp=>by
  obtain⟨hi,hv⟩:=hp (i,v) (by simp);simp only at hi hv;have hil:i<ls.length:=by rw [← hs] at hi;simpa using hi
  have hlen:ls[i].length=ss.getD i 0:=by
   rw [← hs,List.getD_eq_getElem?_getD,List.getElem?_map,List.getElem?_eq_getElem hil];rfl
  have hd:=RB ls i
  rw [hs,← hc] at hd;have ht:=RC ls i
  rw [hs,← hc] at ht;have hcons:ls.drop i=ls[i]::ls.drop (i+1):=List.drop_eq_getElem_cons hil
  rw [hcons,List.flatten_cons] at hd;have hle:EJ ss i+v.cells.size≤cells.size:=by
   have h1:=congrArg List.length hd
   rw [List.length_drop,List.length_append,hlen,← hv] at h1;have h2:=congrArg List.length ht
   rw [List.length_take] at h2;simp only [Array.length_toList] at h1 h2;have h4:=Sq ls i
   rw [hs] at h4;omega
  have hcells:(v.cells.toList.zipIdx.foldl (fun cs (c,j)=>cs.setIfInBounds (EJ ss i+j) c) cells).toList=(ls.set i v.cells.toList).flatten:=by
   have:=RF v.cells.toList 0 (EJ ss i) cells (by simp;omega)
   rw [this,Nat.add_zero,ht,List.set_eq_take_append_cons_drop,if_pos hil,List.flatten_append,List.flatten_cons,List.append_assoc]
   congr 2
   rw [← List.drop_drop,hd,Array.length_toList,hv,← hlen];simp
  have ef:v.cells.zipIdx.foldl (fun cs (c,j)=>cs.setIfInBounds (EJ ss i+j) c) cells=v.cells.toList.zipIdx.foldl (fun cs (c,j)=>cs.setIfInBounds (EJ ss i+j) c) cells:=by
   rw [← Array.foldl_toList];simp
  obtain⟨out,h1,h2⟩:=QT hpl parts (ls.set i v.cells.toList) _ hcells (by
   rw [bW (by rw [hs];exact hi) (by rw [hs,Array.length_toList,hv]),hs]) (fun p hpm=>hp p (by simp [hpm]))
  refine⟨out,?_,by rw [h2];rfl⟩
  simp only [Instr.fill,hpl i hi];rw [if_neg (by simp only [hv,ne_eq,not_true_eq_false,decide_false,Bool.false_or,decide_eq_true_eq,gt_iff_lt,Nat.not_lt];rw [hv] at hle;exact hle),ef];exact h1
def Bp:Nat→Ty→List Ty
 | 0,_=>[]
 | 1,t=>[t]
 | n+2,.pair a b=>a::Bp (n+1) b
 | _+2,_=>[]
theorem Ph:∀ (k j:Nat) {t:Ty} {r:Nat×Ty},j<k→Ag (BB k j) t=some r→r.1=EJ ((Bp k t).map Ty.sz) j∧(Bp k t)[j]?=some r.2
 | 1,0,t,r,_,h=>by simp only [BB,Ag,List.replicate_zero,List.nil_append,Nat.lt_irrefl,if_false,Option.some.injEq] at h;subst h;exact⟨rfl,rfl⟩
 | k+2,0,t,r,_,h=>by
  simp only [BB,List.replicate_zero,List.nil_append,show 0+1<k+2 by omega,if_true] at h;cases t<;>simp [Ag] at h
  subst h;exact⟨rfl,rfl⟩
 | k+2,j+1,t,r,hj,h=>by
  have e:BB (k+2) (j+1)=.s::BB (k+1) j:=by
   simp only [BB,List.replicate_succ,List.cons_append]
   congr 2
   by_cases h1:j+1<k+1
   ·rw [if_pos h1,if_pos (by omega)]
   ·rw [if_neg h1,if_neg (by omega)]
  rw [e] at h;cases t<;>simp only [Ag,reduceCtorEq,Option.map_eq_some_iff] at h
  obtain⟨r1,h1,rfl⟩:=h;obtain⟨g1,g2⟩:=Ph (k+1) j (by omega) h1;refine⟨?_,?_⟩
  ·simp only [Bp,List.map_cons,JU,g1]
  ·simp only [Bp,List.getElem?_cons_succ];exact g2
 | 0,_,_,_,h,_=>by omega
 | 1,j+1,_,_,h,_=>by omega
theorem Tl:∀ (k:Nat) {t:Ty},(∀ j,j<k→(Ag (BB k j) t).isSome=true)→0<k→t.zc=((Bp k t).map Ty.zc).flatten∧(Bp k t).length=k
 | 1,t,_,_=>by simp [Bp]
 | k+2,t,h,_=>by
  have h0:=h 0 (by omega)
  simp only [BB,List.replicate_zero,List.nil_append,show 0+1<k+2 by omega,if_true] at h0;cases t<;>simp [Ag] at h0
  rename_i a b;have:=Tl (k+1) (t:=b) (fun j hj=>by
   have hj2:=h (j+1) (by omega)
   have e:BB (k+2) (j+1)=.s::BB (k+1) j:=by
    simp only [BB,List.replicate_succ,List.cons_append]
    congr 2
    by_cases h1:j+1<k+1
    ·rw [if_pos h1,if_pos (by omega)]
    ·rw [if_neg h1,if_neg (by omega)]
   rw [e] at hj2;simpa [Ag] using hj2) (by omega)
  refine⟨?_,?_⟩
  ·simp only [Ty.zc,Bp,List.map_cons,List.flatten_cons,this.1]
  ·simp only [Bp,List.length_cons,this.2]
 | 0,_,_,h=>by omega
def Yd (P:Program) (G:Gh) (σ:S) (tmps:Array Value) (w:World) (x:Sem Value) (av:AV):Prop:=
 ∃ v,x.run P w=.ok v w∧(∃ i,SlotR G σ tmps w i av v)∧av.free=true
theorem AV.free_isDat {av:AV} (h:av.free=true):av.isDat=false:=by cases av<;>simp_all [AV.free,AV.isDat]
section
variable {P:Program} {G:Gh} {σ:S} {tmps:Array Value} {w:World}
theorem Yd.int {x:Sem Value} {k:IntKind} {n:Int} (h:x.run P w=.ok (.int k n) w):Yd P G σ tmps w x (Dv k n):=⟨_,h,⟨0,[.int k n],rfl,rfl,fun p hp=>by cases hp⟩,rfl⟩
theorem Yd.bool {x:Sem Value} {b:Bool} (h:x.run P w=.ok (.bool b) w):Yd P G σ tmps w x (DE b):=⟨_,h,⟨0,[.bool b],rfl,rfl,fun p hp=>by cases hp⟩,rfl⟩
theorem Yd.str {x:Sem Value} {s:ByteArray} (h:x.run P w=.ok (.string s) w):Yd P G σ tmps w x (Qg s):=⟨_,h,⟨0,[.string s],rfl,rfl,fun p hp=>by cases hp⟩,rfl⟩
theorem SlotR.int {i:Nat} {k:IntKind} {n:Int} {d:List Nat} {s:Option Place} {v:Value} (h:SlotR G σ tmps w i (.snp (.int k) n d s) v):v=.int k n:=by
 obtain⟨cs,h1,h2,_⟩:=h;simp only [Val,RepV] at h1 h2;rw [h1] at h2;exact(List.cons.inj h2).1
theorem SlotR.bool {i:Nat} {b:Bool} {d:List Nat} {s:Option Place} {v:Value} (h:SlotR G σ tmps w i (.snp .bool b d s) v):v=.bool b:=by
 obtain⟨cs,h1,h2,_⟩:=h;simp only [Val,RepV] at h1 h2;rw [h1] at h2;exact(List.cons.inj h2).1
theorem SlotR.str {i:Nat} {b:ByteArray} {d:List Nat} {s:Option Place} {v:Value} (h:SlotR G σ tmps w i (.snp .str b d s) v):v=.string b:=by
 obtain⟨cs,h1,h2,_⟩:=h;simp only [Val,RepV] at h1 h2;rw [h1] at h2;exact(List.cons.inj h2).1
theorem SlotR.mk {i:Nat} {t:Ty} {x:t.D} {deps:List Nat} {src:Option Place} {v:Value} (h:SlotR G σ tmps w i (.snp t x deps src) v):SlotR G σ tmps w i (Fa t x deps src) v:=by
 unfold Fa;split
 ·rename_i hf;obtain⟨cs,h1,h2,h3⟩:=h;exact⟨cs,h1,RepV.flat hf h2,fun p hp=>by cases hp⟩
 ·exact h
theorem Js (t:Ty) (x:t.D) (deps:List Nat) (src:Option Place):(Fa t x deps src).free=true:=by unfold Fa;split<;>rfl
theorem bE {op:BinOp} {k:IntKind} {x y:Int} {c:Cnd} {av:AV} (T:Nat) (h:Zd op k x y=some (c,av)) (hc:c.holds):Yd P G σ tmps w (binOp op T (.int k x) (.int k y)) av:=by
 cases op<;>simp only [Zd,ok1,Option.some.injEq,Prod.mk.injEq,reduceCtorEq] at h<;>obtain⟨rfl,rfl⟩:=h
 case add=>exact Yd.int (by simp [binOp,Op.intArith])
 case sub=>exact Yd.int (by simp [binOp,Op.intArith])
 case mul=>exact Yd.int (by simp [binOp,Op.intArith])
 case quo=>exact Yd.int (by simp only [Cnd.holds] at hc;simp [binOp,Op.intDiv,hc])
 case rem=>exact Yd.int (by simp only [Cnd.holds] at hc;simp [binOp,Op.intDiv,hc])
 case and=>exact Yd.int (by simp [binOp,Op.intBits,MI])
 case or=>exact Yd.int (by simp [binOp,Op.intBits,iOr])
 case xor=>exact Yd.int (by simp [binOp,Op.intBits,Vw])
 case shl=>exact Yd.int (by
  simp only [Cnd.holds] at hc;have:¬ y<0:=by omega
  simp [binOp,Op.shift,this])
 case shr=>exact Yd.int (by
  simp only [Cnd.holds] at hc;have:¬ y<0:=by omega
  simp [binOp,Op.shift,this])
 case eql=>exact Yd.bool (by simp only [binOp,Op.intCmp];simp;rfl)
 case neq=>exact Yd.bool (by simp only [binOp,Op.intCmp];simp;by_cases e:x=y<;>simp [e])
 case lss=>exact Yd.bool (by simp [binOp,Op.intCmp])
 case leq=>exact Yd.bool (by simp [binOp,Op.intCmp])
 case gtr=>exact Yd.bool (by simp [binOp,Op.intCmp])
 case geq=>exact Yd.bool (by simp [binOp,Op.intCmp])
theorem Xa {P:Program} {G:Gh} {σ:S} {tmps:Array Value} {w:World} {op:BinOp} {k k':IntKind} {x y:Int} {c:Cnd} {av:AV} (T:Nat) (h:TT op k x y=some (c,av)) (hc:c.holds):Yd P G σ tmps w (binOp op T (.int k x) (.int k' y)) av:=by
 cases op<;>simp only [TT,reduceCtorEq,Option.some.injEq,Prod.mk.injEq] at h
 obtain⟨rfl,rfl⟩:=h;exact Yd.int (by
  simp only [Cnd.holds] at hc;have:¬ y<0:=by omega
  simp [binOp,Op.shift,this])
theorem toList_inj {a b:ByteArray} (h:a.toList=b.toList):a=b:=by
 rw [ByteArray.toList_eq,ByteArray.toList_eq] at h;cases a;cases b
 simp only [ByteArray.mk.injEq];exact Array.toList_inj.1 h
theorem bc {op:BinOp} {x y:ByteArray} {c:Cnd} {av:AV} (T:Nat) (h:aE op x y=some (c,av)) (hc:c.holds):Yd P G σ tmps w (binOp op T (.string x) (.string y)) av:=by
 cases op<;>simp only [aE,ok1,Option.some.injEq,Prod.mk.injEq,reduceCtorEq] at h<;>obtain⟨rfl,rfl⟩:=h
 case add=>
  refine Yd.str ?_
  simp only [Cnd.holds,Af] at hc;have:¬ ((x.size+y.size:Nat):Int) > IntKind.i64.max:=by
   have:IntKind.i64.max=9223372036854775807:=by decide
   rw [this];omega
  simp only [binOp,Op.stringOp,if_neg this];rfl
 case eql=>
  refine Yd.bool ?_
  have:(x.toList == y.toList)=decide (x=y):=by
   by_cases e:x=y
   ·simp [e]
   ·simp only [decide_eq_false e,beq_eq_false_iff_ne,ne_eq];exact fun h=>e (toList_inj h)
  simp only [binOp,Op.stringOp,this];rfl
 case neq=>
  refine Yd.bool ?_
  have:(x.toList == y.toList)=decide (x=y):=by
   by_cases e:x=y
   ·simp [e]
   ·simp only [decide_eq_false e,beq_eq_false_iff_ne,ne_eq];exact fun h=>e (toList_inj h)
  simp only [binOp,Op.stringOp,this]
  by_cases e:x=y<;>simp [e]
theorem Yv {op:BinOp} {x y:Bool} {c:Cnd} {av:AV} {T:Nat} (hT:P.underlying T=some .bool) (h:Va op x y=some (c,av)):Yd P G σ tmps w (binOp op T (.bool x) (.bool y)) av:=by
 cases op<;>simp only [Va,ok1,Option.some.injEq,Prod.mk.injEq,reduceCtorEq] at h<;>obtain⟨rfl,rfl⟩:=h
 case eql=>exact Yd.bool (by rw [run_eql_bool _ _ _ _ hT])
 case neq=>exact Yd.bool (by rw [run_neq_bool _ _ _ _ hT])
theorem Rf {op:BinOp} {T:Nat} {x y:Operand} {a b:Value} (ha:a.oneCell'=true) (h2:a≠.nilIface):(eqGuard op T x y a b).run P w=.ok () w:=by
 unfold eqGuard;cases a<;>simp_all [Value.oneCell']<;>(split<;>rfl)
end
theorem Val.agg {a b:Ty} {v:Value} {c:List Value} (h:Val (.pair a b) v c):v=.agg c.toArray:=h
theorem MA {w:World}:∀ (π:Path) {t:Ty} {L L':Option Addr} {cs c c':List Value},Bf π t cs=some c→Al w π t L cs=some (L',c')→c'=c
 | [],_,_,_,_,_,_,h,h'=>by
  simp only [Bf,Al,Option.some.injEq,Prod.mk.injEq] at h h';rw [← h,h'.2]
 | .f::π,.pair a b,_,_,_,_,_,h,h'=>MA π (t:=a) h h'
 | .s::π,.pair a b,_,_,_,_,_,h,h'=>MA π (t:=b) h h'
 | .i _::_,_,_,_,_,_,_,h,_=>by simp [Bf] at h
 | .f::_,.int _,_,_,_,_,_,h,_=>by simp [Bf] at h
 | .f::_,.bool,_,_,_,_,_,h,_=>by simp [Bf] at h
 | .f::_,.str,_,_,_,_,_,h,_=>by simp [Bf] at h
 | .f::_,.list _ _,_,_,_,_,_,h,_=>by simp [Bf] at h
 | .s::_,.int _,_,_,_,_,_,h,_=>by simp [Bf] at h
 | .s::_,.bool,_,_,_,_,_,h,_=>by simp [Bf] at h
 | .s::_,.str,_,_,_,_,_,h,_=>by simp [Bf] at h
 | .s::_,.list _ _,_,_,_,_,_,h,_=>by simp [Bf] at h
theorem LC:∀ (π:Path) {t:Ty} {cs c:List Value},Bf π t cs=some c→π.deep=false
 | [],_,_,_,_=>rfl
 | .f::π,.pair a b,_,_,h=>by simpa [Path.deep] using LC π (t:=a) h
 | .s::π,.pair a b,_,_,h=>by simpa [Path.deep] using LC π (t:=b) h
 | .i _::_,_,_,_,h=>by simp [Bf] at h
 | .f::_,.int _,_,_,h=>by simp [Bf] at h
 | .f::_,.bool,_,_,h=>by simp [Bf] at h
 | .f::_,.str,_,_,h=>by simp [Bf] at h
 | .f::_,.list _ _,_,_,h=>by simp [Bf] at h
 | .s::_,.int _,_,_,h=>by simp [Bf] at h
 | .s::_,.bool,_,_,h=>by simp [Bf] at h
 | .s::_,.str,_,_,h=>by simp [Bf] at h
 | .s::_,.list _ _,_,_,h=>by simp [Bf] at h
theorem OJ:∀ (π π':Path) {t:Ty} {m:Md} {x:t.D} {d':Dat} {cs c:List Value},Bf π t cs=some c→BG π t m x=some d'→Bf (π++π') t cs=Bf π' d'.t c
 | [],π',t,m,x,d',cs,c,h,hg=>by
  simp only [Bf,BG,Option.some.injEq] at h hg;subst h hg;rfl
 | .f::π,π',.pair a b,m,x,d',cs,c,h,hg=>OJ π π' (t:=a) h hg
 | .s::π,π',.pair a b,m,x,d',cs,c,h,hg=>OJ π π' (t:=b) h hg
 | .i _::_,_,_,_,_,_,_,_,h,_=>by simp [Bf] at h
 | .f::_,_,.int _,_,_,_,_,_,h,_=>by simp [Bf] at h
 | .f::_,_,.bool,_,_,_,_,_,h,_=>by simp [Bf] at h
 | .f::_,_,.str,_,_,_,_,_,h,_=>by simp [Bf] at h
 | .f::_,_,.list _ _,_,_,_,_,_,h,_=>by simp [Bf] at h
 | .s::_,_,.int _,_,_,_,_,_,h,_=>by simp [Bf] at h
 | .s::_,_,.bool,_,_,_,_,_,h,_=>by simp [Bf] at h
 | .s::_,_,.str,_,_,_,_,_,h,_=>by simp [Bf] at h
 | .s::_,_,.list _ _,_,_,_,_,_,h,_=>by simp [Bf] at h
theorem Mr:∀ (π:Path) {t:Ty} {cs:List Value} {r:Nat×Ty},Ag π t=some r→cs.length=t.sz→Bf π t cs=some ((cs.drop r.1).take r.2.sz)
 | [],t,cs,r,h,hl=>by
  simp only [Ag,Option.some.injEq] at h;subst h;simp only [Bf,List.drop_zero,← hl,List.take_length]
 | .f::π,.pair a b,cs,r,h,hl=>by
  simp only [Ag] at h;simp only [Ty.sz] at hl;have hle:=(Dj π h).2
  have:=Mr π (cs:=cs.take a.sz) h (by simp;omega)
  simp only [Bf,this,List.drop_take,List.take_take];rw [Nat.min_eq_left (by omega)]
 | .s::π,.pair a b,cs,r,h,hl=>by
  simp only [Ag,Option.map_eq_some_iff] at h;obtain⟨r1,h1,rfl⟩:=h;simp only [Ty.sz] at hl;have:=Mr π (cs:=cs.drop a.sz) h1 (by simp;omega)
  simp only [Bf,this,List.drop_drop]
 | .i _::_,.int _,_,_,h,_=>by simp [Ag] at h
 | .i _::_,.bool,_,_,h,_=>by simp [Ag] at h
 | .i _::_,.str,_,_,h,_=>by simp [Ag] at h
 | .i _::_,.pair _ _,_,_,h,_=>by simp [Ag] at h
 | .i _::_,.list _ _,_,_,h,_=>by simp [Ag] at h
 | .f::_,.int _,_,_,h,_=>by simp [Ag] at h
 | .f::_,.bool,_,_,h,_=>by simp [Ag] at h
 | .f::_,.str,_,_,h,_=>by simp [Ag] at h
 | .f::_,.list _ _,_,_,h,_=>by simp [Ag] at h
 | .s::_,.int _,_,_,h,_=>by simp [Ag] at h
 | .s::_,.bool,_,_,h,_=>by simp [Ag] at h
 | .s::_,.str,_,_,h,_=>by simp [Ag] at h
 | .s::_,.list _ _,_,_,h,_=>by simp [Ag] at h
theorem RootR.hdr_inv {G:Gh} {σ:S} {w:World} {r k:Nat} {d d0:Dat} {L:Option Addr} {cs:List Value} {tmps:Array Value} (h:RootR G σ tmps w r d L cs) (hr:r=2 * k+1) (hb:σ.box k=some (false,d0)):L=none∧cs=(G.hv k).2:=by
 cases h with
 | slot i d cs hs hv=>omega
 | box k' d cs hb' hl hc=>
  have:k'=k:=by omega
  subst this;rw [hb] at hb';cases hb'
 | hdr k' d hb'=>
  have:k'=k:=by omega
  subst this;exact⟨rfl,rfl⟩
theorem LT:∀ (π:Path) {t:Ty} {m:Md} {x:t.D} {d:Dat},π.deep=false→BG π t m x=some d→AH π t m x=some d
 | [],_,_,_,_,_,h=>h
 | .f::π,.pair a b,_,_,_,hd,h=>LT π (t:=a) (by simpa [Path.deep] using hd) h
 | .s::π,.pair a b,_,_,_,hd,h=>LT π (t:=b) (by simpa [Path.deep] using hd) h
 | .i _::_,_,_,_,_,hd,_=>by simp [Path.deep] at hd
 | .f::_,.int _,_,_,_,_,h=>by simp [BG] at h
 | .f::_,.bool,_,_,_,_,h=>by simp [BG] at h
 | .f::_,.str,_,_,_,_,h=>by simp [BG] at h
 | .f::_,.list _ _,_,_,_,_,h=>by simp [BG] at h
 | .s::_,.int _,_,_,_,_,h=>by simp [BG] at h
 | .s::_,.bool,_,_,_,_,h=>by simp [BG] at h
 | .s::_,.str,_,_,_,_,h=>by simp [BG] at h
 | .s::_,.list _ _,_,_,_,_,h=>by simp [BG] at h
section
variable {w0:World} {G0:Gh} {np:Nat} {σ:S} {a:Act} {w:World} {G:Gh} (h:Rel w0 G0 np σ a w G)
include h
theorem Rel.place {i:Nat} {p:Place} {v:Value} (hv:SlotR G σ a.tmps w i (.ptr p) v) {d d':Dat} (hr:σ.rt p.root=some d) (hg:BG p.path d.t d.m d.x=some d'):
 ∃ A cs L cr,v=.pointer (some A)∧RootR G σ a.tmps w p.root d L cr∧AH p.path d.t d.m d.x=some d'∧Al w p.path d.t L cr=some (some A,cs)∧RepO w G.own d'.t d'.m (Ai p.root++p.path.lab) cs d'.x∧CellsAt w A cs:=by
 obtain⟨L,cr,hroot⟩:=h.rt hr;obtain⟨d0,A,cs,h1,h2,h3⟩:=hv d L cr hroot;have e:=FE _ h1
 rw [hg] at e;obtain⟨rfl⟩:=e;have hR:=h.root hroot
 obtain⟨L',cs',f1,f2,f3,_,_⟩:=GE p.path (L:=L) hR.1 (fun A hA=>(hR.2 A hA).1) h1;rw [h2] at f1;simp only [Option.some.injEq,Prod.mk.injEq] at f1;obtain⟨rfl,rfl⟩:=f1;exact⟨A,cs,L,cr,h3,hroot,h1,h2,f2,f3 A rfl⟩
theorem Rel.placed {i:Nat} {p:Place} {v:Value} (hv:SlotR G σ a.tmps w i (.ptr p) v) {t:Ty} {x:t.D} {deps:List Nat} {src:Option Place} (hp:EY σ.rt p=.snp t x deps src):
 ∃ A cs,v=.pointer (some A)∧CellsAt w A cs∧RepV w (okd w G.own deps) t cs x∧∀ u j,Val t u cs→SlotR G σ a.tmps w j (.snp t x deps src) u:=by
 unfold EY at hp;split at hp
 ·rename_i d hd;split at hp
  ·rename_i d' hg;obtain⟨A,cs,L,cr,h1,h2,h3,h4,h5,h6⟩:=h.place hv hd hg;split at hp
   ·rename_i hm;cases hp
    have hV:=RepO.noOwn hm h5
    exact⟨A,cs,h1,h6,hV,fun u j hu=>⟨cs,hu,hV,fun p hp=>by cases hp⟩⟩
   ·split at hp
    ·rename_i hf;cases hp
     have hV:RepV w (okd w G.own [p.root]) d'.t cs d'.x:=RepO.view (fun b h1 h2=>⟨h2,.inl h1⟩) hf h5 (fun b ⟨s,hb⟩ hlt=>⟨hlt,.inr ⟨p.root,by simp,by
      obtain⟨s0,e⟩:=Bi p.root;rw [e] at hb;exact⟨_,hb⟩⟩⟩)
     refine⟨A,cs,h1,h6,hV,fun u j hu=>⟨cs,hu,hV,fun p' hp' d1 L1 cr1 hroot1=>?_⟩⟩
     cases hp'
     have e1:=hroot1.uniq hd
     subst e1;obtain⟨d0,A1,cs1,g1,g2,g3⟩:=hv d L1 cr1 hroot1;have e2:=FE _ g1
     rw [hg] at e2;obtain⟨rfl⟩:=e2;refine⟨d'.m,some A1,g1,?_⟩
     rw [h1] at g3;have hA:A=A1:=by simpa using g3
     subst hA;have hR:=h.root hroot1
     obtain⟨L',cs',f1,f2,f3,_,_⟩:=GE p.path (L:=L1) hR.1 (fun A hA=>(hR.2 A hA).1) g1;rw [g2] at f1;simp only [Option.some.injEq,Prod.mk.injEq] at f1;obtain⟨rfl,rfl⟩:=f1;have:cs1=cs:=by
      have hc1:=f3 A rfl
      apply List.ext_getElem (by rw [RepO.len f2,RepO.len h5])
      intro j hj hj';have e3:=hc1 j hj
      rw [h6 j hj'] at e3;exact(Option.some.inj e3).symm
     rw [g2,this]
    ·cases hp
  ·cases hp
 ·cases hp
end
section
variable {P:Program} {τ:List TE} (hτ:TabOk P τ) {w0:World} {G0:Gh} {np:Nat} {σ:S} {a:Act} {w:World} {G:Gh} (h:Rel w0 G0 np σ a w G)
include hτ h
theorem Zm {T i:Nat} {te:TE} (he:tat τ T=some te) {p:Place} {v:Value} (hv:SlotR G σ a.tmps w i (.ptr p) v) (ht:(EY σ.rt p).isT te.t=true):Yd P G σ a.tmps w (Instr.loadAt T v) (EY σ.rt p):=by
 cases hp:EY σ.rt p<;>rw [hp] at ht<;>simp only [AV.isT,Bool.false_eq_true,decide_eq_true_eq] at ht
 rename_i t x deps src;subst ht;obtain⟨A,cs,rfl,h2,h3,h4⟩:=h.placed hv hp;obtain⟨u,hu,hval⟩:=II hτ he h2 h3;exact⟨u,hu,⟨0,h4 u 0 hval⟩,rfl⟩
theorem bK {T i:Nat} {te:TE} (he:tat τ T=some te) {y:te.t.D} {deps:List Nat} {v:Value} (hv:SlotR G σ a.tmps w i (.rp te.t y deps) v):Yd P G σ a.tmps w (Instr.loadAt T v) (Fa te.t y deps none):=by
 obtain⟨A,cs,rfl,h2,h3,h4⟩:=hv;obtain⟨u,hu,hval⟩:=II hτ he h3 h4;exact⟨u,hu,⟨0,SlotR.mk ⟨cs,hval,h4,fun p hp=>by cases hp⟩⟩,Js _ _ _ _⟩
omit hτ in
theorem Rel.viewed {i k:Nat} {π:Path} {v:Value} (hv:SlotR G σ a.tmps w i (.vw k π) v):∃ A cs d,v=.pointer (some A)∧CellsAt w A cs∧Bf π (G.hv k).1 (G.hv k).2=some cs∧σ.box k=some (false,d)∧σ.rt (2 * k+1)=some d∧RootR G σ a.tmps w (2 * k+1) d none (G.hv k).2∧d.t=(G.hv k).1:=by
 obtain⟨⟨A,cs,h1,_,h2,h3,h4,h5⟩,d,hd⟩:=hv;refine⟨A,cs,d,h1,h5,h4,hd,?_,.hdr k d hd,(h.boxes k _ hd).1⟩
 have e1:(2 * k+1) / 2=k:=by omega
 have e2:¬ (2 * k+1) % 2=0:=by omega
 simp only [S.rt,if_neg e2,e1,hd,Option.map_some]
omit hτ in
theorem Rel.viewedV {i k:Nat} {π:Path} {v:Value} (hv:SlotR G σ a.tmps w i (.vw k π) v) {t:Ty} {x:t.D} {deps:List Nat} {src:Option Place} (hp:EY σ.rt ⟨2 * k+1,π⟩=.snp t x deps src):
 ∃ A cs,v=.pointer (some A)∧CellsAt w A cs∧RepV w (okd w G.own deps) t cs x∧∀ u j,Val t u cs→SlotR G σ a.tmps w j (.snp t x deps src) u:=by
 obtain⟨A,cs,d,rfl,h2,h3,hbx,h5,h6,h7⟩:=Rel.viewed h hv;have hfl:=LC π h3
 unfold EY at hp;rw [h5] at hp;simp only at hp;split at hp
 ·rename_i d' hg;have hg':=LT π hfl hg
  have hR:=h.root h6
  obtain⟨L',cs',f1,f2,f3,_,_⟩:=GE π (L:=none) hR.1 (fun A hA=>by cases hA) hg';have e:cs'=cs:=by
   have f1':=f1
   rw [h7] at f1';exact MA π h3 f1'
  subst e;split at hp
  ·rename_i hm;cases hp
   have hV:=RepO.noOwn hm f2
   exact⟨A,cs',rfl,h2,hV,fun u j hu=>⟨cs',hu,hV,fun p hp=>by cases hp⟩⟩
  ·split at hp
   ·rename_i hf;cases hp
    have hV:RepV w (okd w G.own [2 * k+1]) d'.t cs' d'.x:=RepO.view (fun b h1 h2=>⟨h2,.inl h1⟩) hf f2 (fun b ⟨s,hb⟩ hlt=>⟨hlt,.inr ⟨2 * k+1,by simp,by
     obtain⟨s0,e⟩:=Bi (2 * k+1);rw [e] at hb;exact⟨_,hb⟩⟩⟩)
    refine⟨A,cs',rfl,h2,hV,fun u j hu=>⟨cs',hu,hV,fun p' hp' d1 L1 cr1 hroot1=>?_⟩⟩
    cases hp'
    have e1:=hroot1.uniq h5
    subst e1;obtain⟨q1,q2⟩:=RootR.hdr_inv hroot1 rfl hbx;subst q1 q2;exact⟨d'.m,L',hg',f1⟩
   ·cases hp
 ·cases hp
theorem bL {T i k:Nat} {π:Path} {te:TE} (he:tat τ T=some te) {v:Value} (hv:SlotR G σ a.tmps w i (.vw k π) v) (ht:(EY σ.rt ⟨2 * k+1,π⟩).isT te.t=true):Yd P G σ a.tmps w (Instr.loadAt T v) (EY σ.rt ⟨2 * k+1,π⟩):=by
 cases hp:EY σ.rt ⟨2 * k+1,π⟩<;>rw [hp] at ht<;>simp only [AV.isT,Bool.false_eq_true,decide_eq_true_eq] at ht
 rename_i t x deps src;subst ht;obtain⟨A,cs,rfl,h2,h3,h4⟩:=Rel.viewedV h hv hp;obtain⟨u,hu,hval⟩:=II hτ he h2 h3;exact⟨u,hu,⟨0,h4 u 0 hval⟩,rfl⟩
theorem Lc {T j:Nat} {te:TE} (he:tat τ T=some te) {A:Addr} {r:Nat×Ty} (hj:Ag (BB te.k j) te.t=some r) (hk:j<te.k):
 (Instr.fieldAt T (.pointer (some A)) j).run P w=.ok (.pointer (some (A.add r.1))) w:=by
 obtain⟨fs,f,tf,h1,h2,h3,h4,h5⟩:=hτ.field he hj hk;have hs:=hτ.size h4 w
 have hpos:=Ty.sz_pos tf.t
 simp [Instr.fieldAt,run_underlying h1,h2,Instr.sureAddr,fieldPlace,hs,Result.andThen,Nat.ne_of_gt hpos,h3]
theorem Rg {T i j:Nat} {te:TE} (he:tat τ T=some te) {p:Place} {v:Value} (hv:SlotR G σ a.tmps w i (.ptr p) v) {d d':Dat} (hr:σ.rt p.root=some d)
 (hg:BG p.path d.t d.m d.x=some d') (ht:d'.t=te.t) (hk:j<te.k) (hs:(Ag (BB te.k j) te.t).isSome=true):Yd P G σ a.tmps w (Instr.fieldAt T v j) (.ptr ⟨p.root,p.path++BB te.k j⟩):=by
 obtain⟨r,hr'⟩:=Option.isSome_iff_exists.1 hs;obtain⟨A,cs,L,cr,rfl,h2,h3,h4,h5,h6⟩:=h.place hv hr hg;refine⟨_,Lc hτ h he hr' hk,⟨0,fun d1 L1 cr1 hroot1=>?_⟩,rfl⟩
 have e1:=hroot1.uniq hr
 subst e1;obtain⟨d0,A1,cs1,g1,g2,g3⟩:=hv d L1 cr1 hroot1;have e2:=FE _ g1
 rw [hg] at e2;obtain⟨rfl⟩:=e2;have hA:A=A1:=by simpa using g3
 subst hA;have hR:=h.root hroot1
 obtain⟨L',cs',f1,f2,f3,_,_⟩:=GE p.path (L:=L1) hR.1 (fun A hA=>(hR.2 A hA).1) g1;rw [g2] at f1;simp only [Option.some.injEq,Prod.mk.injEq] at f1;obtain⟨rfl,rfl⟩:=f1;rw [← ht] at hr';obtain⟨m',y,k1,_,k3,_,_⟩:=FK (w:=w) (ok:=fun _=>True) (BB te.k j) d'.m d'.x (some A) cs1 hr' (RepO.len f2);refine⟨_,A.add r.1,_,by rw [Il _ _ g1];exact k1,by rw [Ir _ _ g1 g2];exact k3,rfl⟩
theorem Sn {T i j k:Nat} {π:Path} {te:TE} (he:tat τ T=some te) {v:Value} (hv:SlotR G σ a.tmps w i (.vw k π) v) {d d':Dat} (hr:σ.rt (2 * k+1)=some d)
 (hg:BG π d.t d.m d.x=some d') (ht:d'.t=te.t) (hk:j<te.k) (hs:(Ag (BB te.k j) te.t).isSome=true):Yd P G σ a.tmps w (Instr.fieldAt T v j) (.vw k (π++BB te.k j)):=by
 obtain⟨r,hr'⟩:=Option.isSome_iff_exists.1 hs;obtain⟨⟨A0,cs0,g1,gs,g2,g3,g4,g5⟩,gd⟩:=hv;obtain⟨A,cs,d1,q1,q2,q3,q4,q5,q6,q7⟩:=Rel.viewed h (i:=i) (v:=v) ⟨⟨A0,cs0,g1,gs,g2,g3,g4,g5⟩,gd⟩;subst g1;have hA:A0=A:=by simpa using q1
 subst hA;rw [q5] at hr;obtain⟨rfl⟩:=hr;have hg':=LT π (LC π q3) hg
 have hR:=h.root q6
 obtain⟨L',cs',f1,f2,f3,_,_⟩:=GE π (L:=none) hR.1 (fun A hA=>by cases hA) hg';have e:cs'=cs:=by
  rw [q7] at f1;exact MA π q3 f1
 subst e;have hl:=RepO.len f2
 rw [← ht] at hr';have hle:=(Dj _ hr').2
 have hcs:CellsAt w (A0.add r.1) ((cs'.drop r.1).take r.2.sz):=by
  have:=(q2.take_drop r.1).2 (by rw [hl];omega)
  exact(this.take_drop r.2.sz).1
 refine⟨_,Lc hτ h he (ht ▸ hr') hk,⟨0,⟨⟨A0.add r.1,_,rfl,?_,by rw [Addr.add_block];exact g2,by rw [Addr.add_block];exact g3,?_,hcs⟩,gd⟩⟩,rfl⟩
 ·cases A0;simp only [Addr.add] at gs ⊢;split<;>first | exact gs | rfl
 ·rw [← q7] at q3 ⊢;rw [OJ π _ q3 hg];exact Mr _ hr' hl
theorem Sm {T i j:Nat} {te:TE} (he:tat τ T=some te) {y:te.t.D} {deps:List Nat} {v:Value} (hv:SlotR G σ a.tmps w i (.rp te.t y deps) v) {d:Dat}
 (hg:BG (BB te.k j) te.t .ro y=some d) (hk:j<te.k):Yd P G σ a.tmps w (Instr.fieldAt T v j) (.rp d.t d.x deps):=by
 obtain⟨A,cs,rfl,h2,h3,h4⟩:=hv;obtain⟨o,ho⟩:=Kb _ hg;obtain⟨m',y',k1,k2,k3,k4,_⟩:=FK (w:=w) (ok:=okd w G.own deps) (BB te.k j) .ro y (some A) cs ho (RepV.len h4);rw [hg] at k2;have hd:d=⟨d.t,.ro,y'⟩:=by simpa using k2
 have hle:=(Dj _ ho).2
 have hcs:CellsAt w (A.add o) ((cs.drop o).take d.t.sz):=by
  have:=(h3.take_drop o).2 (by rw [RepV.len h4];simp only at hle;omega)
  exact(this.take_drop d.t.sz).1
 refine⟨_,Lc hτ h he ho hk,⟨0,A.add o,_,rfl,by rw [Addr.add_block];exact h2,hcs,?_⟩,rfl⟩
 have:=k4 h4
 rw [hd];exact this
theorem ZX {T i j:Nat} {te:TE} (he:tat τ T=some te) {y:te.t.D} {deps:List Nat} {src:Option Place} {v:Value} (hv:SlotR G σ a.tmps w i (.snp te.t y deps src) v) {av:AV}
 (hg:So te j te.t y deps src=some av) (hk:j<te.k):Yd P G σ a.tmps w (Instr.field T v j) av:=by
 unfold So at hg;split at hg
 ·rename_i d hg';obtain⟨rfl⟩:=hg;obtain⟨cs,hval,h4,hsrc⟩:=hv;obtain⟨o,ho⟩:=Kb _ hg';obtain⟨m',y',k1,k2,k3,k4,_⟩:=FK (w:=w) (ok:=okd w G.own deps) (BB te.k j) .ro y none cs ho (RepV.len h4);rw [hg'] at k2;have hd:d=⟨d.t,.ro,y'⟩:=by simpa using k2
  have hle:=(Dj _ ho).2
  obtain⟨fs,f,tf,h1,h2,h3,h5,h6⟩:=hτ.field he ho hk;have hag:v=.agg cs.toArray:=by
   obtain⟨dd,e1,e2⟩:=hτ.desc he;rw [h1] at e1;obtain⟨rfl⟩:=e1;obtain⟨_,⟨p,q,e3⟩,_⟩:=e2;rw [e3] at hval;exact hval.agg
  simp only at h3 h6 hle;obtain⟨u,hu,hvalu⟩:=KZ hτ h5 (w:=w) (cs:=cs) (off:=o) (by rw [h6,RepV.len h4];exact hle);rw [h6] at hvalu;refine⟨u,?_,⟨0,SlotR.mk ⟨_,hvalu,by rw [hd];exact k4 h4,fun p hp d1 L1 cr1 hroot1=>?_⟩⟩,Js _ _ _ _⟩
  ·rw [hag];simp only [Instr.field,Sem.run_bind,run_underlying h1,Result.andThen,h2,asAgg,Sem.run_pure,h3,hu]
  ·obtain⟨p0,hp0,rfl⟩:=Option.map_eq_some_iff.1 hp;obtain⟨m,L',g1,g2⟩:=hsrc p0 hp0 d1 L1 cr1 hroot1;obtain⟨m'',y'',q1,q2,q3,_,_⟩:=FK (w:=w) (ok:=okd w G.own deps) (BB te.k j) m y L' cs ho (RepV.len h4);rw [hg'] at q2;have hd2:d=⟨d.t,.ro,y''⟩:=by simpa using q2
   have hx:(⟨d.t,m'',d.x⟩:Dat)=⟨d.t,m'',y''⟩:=by
    obtain⟨dt,dm,dx⟩:=d;simp only [Dat.mk.injEq,true_and] at hd2 ⊢;exact hd2.2
   refine⟨m'',L'.map (·.add o),?_,?_⟩
   ·rw [Il _ _ g1];exact q1.trans (congrArg some hx.symm)
   ·rw [Ir _ _ g1 g2];exact q3
 ·cases hg
theorem eD {T i i2:Nat} {te:TE} (he:tat τ T=some te) {e:Nat} {t:Ty} (ht:te.t=.list e t) {xs:List t.D} {deps:List Nat} {src:Option Place} {v vi:Value} (hv:SlotR G σ a.tmps w i (.snp (.list e t) xs deps src) v)
 {k:IntKind} {n:Int} {di:List Nat} {si:Option Place} (hi:SlotR G σ a.tmps w i2 (.snp (.int k) n di si) vi) {c:Cnd} {av:AV} (hg:atV σ.rt t xs deps src n=some (c,av)) (hc:c.holds):Yd P G σ a.tmps w (Instr.indexAt T v vi) av:=by
 have hvi:=hi.int
 subst hvi;obtain⟨cs,hval,hR,hsrc⟩:=hv;have hval':cs=[v]:=hval
 subst hval';obtain⟨A,cp,e1,hle,hrow⟩:=hR;obtain⟨rfl⟩:=List.cons.inj e1;have hbnd:0≤n∧n<(xs.length:Int):=by
  unfold atV at hg;split at hg
  ·split at hg<;>(obtain⟨rfl,rfl⟩:=hg;exact hc)
  ·obtain⟨rfl,rfl⟩:=hg;exact hc
 obtain⟨A0,rfl,hok,hel⟩:=hrow (by omega);obtain⟨hu,tel,htel,hte⟩:=hτ.slice he ht;have hue:P.elem T=e:=by simp [Program.elem,hu]
 have hrun:(Instr.indexAt T (.slice (some A0) xs.length cp) (.int k n)).run P w=.ok (.pointer (some (A0.add (n.toNat * t.sz)))) w:=by
  rw [run_indexAt_slice w T A0 xs.length cp k n (by rw [hue];exact hu),if_pos hbnd,hue,hτ.size htel w,hte];rfl
 have hlt:n.toNat<List.length xs:=by omega
 obtain⟨ci,hci,hcat⟩:=hel n.toNat hlt;have ex:rd xs n t.zero=List.get xs ⟨n.toNat,hlt⟩:=by simp [rd,List.getD_eq_getElem?_getD,List.getElem?_eq_getElem hlt]
 have hrp:∀ i,SlotR G σ a.tmps w i (.rp t (rd xs n t.zero) deps) (.pointer (some (A0.add (n.toNat * t.sz)))):=fun i=>
  ⟨_,ci,rfl,by rw [Addr.add_block];exact .inl hok,hcat,by rw [ex];exact hci⟩
 unfold atV at hg;split at hg
 ·rename_i p;split at hg
  ·rename_i hown;obtain⟨rfl,rfl⟩:=hg;refine⟨_,hrun,⟨0,fun d1 L1 cr1 hroot1=>?_⟩,rfl⟩
   unfold ae at hown;split at hown
   ·rename_i d2 hd2;have e2:=hroot1.uniq hd2
    subst e2;split at hown
    ·rename_i d3 hd3;obtain⟨m,L',g1,g2⟩:=hsrc p rfl d2 L1 cr1 hroot1;have e3:=FE _ g1
     rw [hd3] at e3;obtain⟨rfl⟩:=e3;simp only at hown;cases m<;>simp only [Bool.false_eq_true] at hown
     rename_i m;refine⟨⟨t,m,rd xs n t.zero⟩,A0.add (n.toNat * t.sz),LM w (A0.add (n.toNat * t.sz)) t.sz,?_,?_,rfl⟩
     ·rw [Il _ _ g1];simp only [AH];rw [if_pos hbnd.1,if_pos hbnd.2]
     ·rw [Ir _ _ g1 g2];simp only [Al]
    ·cases hown
   ·cases hown
  ·obtain⟨rfl,rfl⟩:=hg;exact⟨_,hrun,⟨0,hrp 0⟩,rfl⟩
 ·obtain⟨rfl,rfl⟩:=hg;exact⟨_,hrun,⟨0,hrp 0⟩,rfl⟩
end
theorem Zp {w:World} {own:Own} {d d':List Nat} (hd:∀ r∈d,r∈d') (b:Nat) (h:okd w own d b):okd w own d' b:=by
 obtain⟨h1,h2⟩:=h;refine⟨h1,?_⟩
 rcases h2 with h2 | ⟨r,hr,s,h2⟩
 ·exact .inl h2
 ·exact .inr ⟨r,hd r hr,s,h2⟩
theorem RepV.deps {w:World} {own:Own} {d d':List Nat} (hd:∀ r∈d,r∈d') {t:Ty} {cs:List Value} {x:t.D} (h:RepV w (okd w own d) t cs x):RepV w (okd w own d') t cs x:=
 RepV.mono (fun b hb=>⟨Zp hd b hb,rfl⟩) h
theorem fZ {w:World} {ok:Nat→Prop} {e:Nat} {xs:List Int} {v:Value} (h:RepV w ok (.list e (.int .u8)) [v] xs):∃ A c,v=.slice A xs.length c ∧
 (A=none→xs=[])∧∀ a,A=some a→CellsAt w a (xs.map (Value.int .u8)):=by
 obtain⟨A,c,e1,hle,hr⟩:=h;obtain⟨rfl⟩:=List.cons.inj e1;refine⟨A,c,rfl,fun hA=>?_,fun a hA j hj=>?_⟩
 ·rcases Nat.eq_zero_or_pos (List.length xs) with h0 | h0
  ·exact List.eq_nil_of_length_eq_zero h0
  ·obtain⟨a,h1,_⟩:=hr h0;rw [hA] at h1;cases h1
 ·simp only [List.length_map] at hj;obtain⟨a',h1,_,h2⟩:=hr (show 0<List.length xs by omega);rw [hA] at h1;obtain⟨rfl⟩:=h1;obtain⟨ci,h3,h4⟩:=h2 j hj;simp only [RepV] at h3;subst h3;have:=h4 0 (by simp)
  simp only [Ty.sz,Nat.mul_one,Addr.add_zero] at this;rw [this];simp
section
variable {P:Program} {τ:List TE} (hτ:TabOk P τ) {G:Gh} {σ:S} {tmps:Array Value} {w:World}
include hτ
theorem bG {T i:Nat} {te:TE} (he:tat τ T=some te) {t:Ty} {x:t.D} {deps:List Nat} {src:Option Place} {v:Value} {ty:TypeId} (hv:SlotR G σ tmps w i (.snp t x deps src) v) (ht:t=te.t) {c:Cnd} {av:AV}
 (hg:Sv (.snp t x deps src)=some (c,av)):Yd P G σ tmps w (Builtin.len_ #[T] ty #[v]) av:=by
 cases t<;>simp only [Sv,ok1,Option.some.injEq,Prod.mk.injEq,reduceCtorEq] at hg
 case str=>
  obtain⟨rfl,rfl⟩:=hg;have:=hv.str
  subst this;exact Yd.int (by rw [run_len_string w T ty x (hτ.str he ht.symm)];rfl)
 case list e t=>
  obtain⟨rfl,rfl⟩:=hg;obtain⟨cs,hval,hR,_⟩:=hv;have hval':cs=[v]:=hval
  subst hval';obtain⟨A,cp,e1,hle,hrow⟩:=hR;obtain⟨rfl⟩:=List.cons.inj e1;obtain⟨hu,_⟩:=hτ.slice he ht.symm;have hue:P.elem T=e:=by simp [Program.elem,hu]
  exact Yd.int (by rw [run_len_slice w T ty A _ cp (by rw [hue];exact hu)];rfl)
theorem bH {T:Nat} {te:TE} (he:tat τ T=some te) {e:Nat} {t:Ty} (ht:te.t=.list e t) {ty:TypeId}:Yd P G σ tmps w (Builtin.len_ #[T] ty #[.slice none 0 0]) (Dv .i64 0):=by
 obtain⟨hu,_⟩:=hτ.slice he ht;have hue:P.elem T=e:=by simp [Program.elem,hu]
 exact Yd.int (by rw [run_len_slice w T ty none 0 0 (by rw [hue];exact hu)];rfl)
theorem Vn {s d:Nat} {ts td:TE} (hs:tat τ s=some ts) (hd:tat τ d=some td) {e i:Nat} (h1:ts.t=.list e (.int .u8)) (h2:td.t=.str) {xs:List Int} {deps:List Nat} {src:Option Place} {v:Value}
 (hv:SlotR G σ tmps w i (.snp (.list e (.int .u8)) xs deps src) v):Yd P G σ tmps w (convert s d v) (Qg (bts xs)):=by
 obtain⟨cs,hval,hR,_⟩:=hv;have hval':cs=[v]:=hval
 subst hval';obtain⟨A,c,rfl,hA,hC⟩:=fZ hR;obtain⟨hu,te,hte,hte2⟩:=hτ.slice hs h1;refine Yd.str ?_
 rw [run_convert_bytes_string w s d e A _ c hu (hτ.int hte hte2) (hτ.str hd h2)];cases A with
 | none=>rw [hA rfl];rfl
 | some a=>
  have hl:=run_loadCells_list (P:=P) w a (xs.map (Value.int .u8)) (fun j v hj=>by
   obtain⟨g1,g2⟩:=List.getElem?_eq_some_iff.1 hj;rw [hC a rfl j g1,g2])
  rw [List.length_map] at hl;rw [run_bytesToString w a xs.length c xs hl,foldl_push_bytes]
  congr 2
  simp only [ByteArray.empty,ByteArray.emptyWithCapacity,bts];simp;rfl
theorem Zb {T i i2:Nat} {te:TE} (he:tat τ T=some te) (ht:te.t=.str) {s:ByteArray} {d d':List Nat} {sr sr':Option Place} {v vi:Value} (hv:SlotR G σ tmps w i (.snp .str s d sr) v)
 {k:IntKind} {n:Int} (hi:SlotR G σ tmps w i2 (.snp (.int k) n d' sr') vi) (hc:(Cnd.idx n s.size).holds):Yd P G σ tmps w (Instr.index T v vi) (Dv .u8 (bAt s n)):=by
 have:=hv.str
 subst this;have:=hi.int
 subst this;refine Yd.int ?_
 have hc':0≤n∧n<s.size:=hc
 rw [run_index_string w T s k n (hτ.str he ht),dif_pos hc'];have hlt:n.toNat<s.data.size:=by have:s.size=s.data.size:=rfl;omega
 have:s.data.getD n.toNat 0=s[n.toNat]'(by omega):=by
  rw [Array.getD_eq_getD_getElem?,Array.getElem?_eq_getElem hlt];rfl
 simp only [bAt,this]
theorem ao {T:Nat} {te:TE} (he:tat τ T=some te) (ht:te.t=.str) {s:ByteArray} {lo hi:Option Value} {l r:Int}
 (hlo:(lo=none∧l=0)∨∃ k,lo=some (.int k l)) (hhi:(hi=none∧r=s.size)∨∃ k,hi=some (.int k r)) (hc:(Cnd.cut l r s.size).holds):
 Yd P G σ tmps w (Instr.sliceAt T (.string s) lo hi none) (Qg (sub s l r)):=by
 have hu:=hτ.str he ht
 obtain⟨h0,h1,h2⟩:=hc;have hr:(r.toNat:Int)=r:=Int.toNat_of_nonneg (by omega)
 refine Yd.str ?_
 rw [run_sliceAt_string w T _ _ _ _ hu];rcases hlo with⟨rfl,rfl⟩ | ⟨k,rfl⟩<;>rcases hhi with⟨rfl,rfl⟩ | ⟨k',rfl⟩
 ·rw [Go.run_slice_string_all (P:=P) w T s hu];rfl
 ·rw [run_slice_string_h w T s hu k' r (by omega) h2];rfl
 ·rw [run_slice_string_l w T s hu k l h0 h1];rfl
 ·rw [run_slice_string w T s k k' l r hu h0 h1 h2];rfl
theorem ZL {T i:Nat} {te:TE} (he:tat τ T=some te) {e:Nat} {t:Ty} (ht:te.t=.list e t) {xs:List t.D} {deps:List Nat} {src:Option Place} {v:Value} (hv:SlotR G σ tmps w i (.snp (.list e t) xs deps src) v)
 {lo hi:Option Value} {l r:Int} (hlo:(lo=none∧l=0)∨∃ k,lo=some (.int k l)) (hhi:(hi=none∧r=(List.length xs:Int))∨∃ k,hi=some (.int k r)) (hc:(Cnd.cut l r (List.length xs)).holds):
 Yd P G σ tmps w (Instr.sliceAt T v lo hi none) (Fa (.list e t) (Hf xs l r) deps none):=by
 obtain⟨cs,hval,hR,_⟩:=hv;have hval':cs=[v]:=hval
 subst hval';obtain⟨A,cp,e1,hle,hrow⟩:=hR;obtain⟨rfl⟩:=List.cons.inj e1;obtain⟨hu,tel,htel,hte⟩:=hτ.slice he ht;have hue:P.elem T=e:=by simp [Program.elem,hu]
 have hsl:P.underlying T=some (.slice (P.elem T)):=by rw [hue];exact hu
 obtain⟨h0,h1,h2⟩:=hc;have hs:=hτ.size htel w
 rw [hte] at hs;have hrun:(Instr.sliceAt T (.slice A (List.length xs) cp) lo hi none).run P w=.ok (sliced A l.toNat r.toNat cp t.sz) w:=by
  rw [run_sliceAt_slice w T _ _ _ _ hsl];rcases hlo with⟨rfl,rfl⟩ | ⟨k,rfl⟩<;>rcases hhi with⟨rfl,rfl⟩ | ⟨k',rfl⟩
  ·rw [run_slice_all w T A _ cp hsl,hue,hs];rfl
  ·rw [run_slice_h w T A _ cp hsl k' r (by omega) (by omega),hue,hs];rfl
  ·rw [run_slice_l w T A _ cp hsl k l h0 h1,hue,hs];rfl
  ·rw [run_slice_lh w T A _ cp hsl k k' l r h0 h1 (by omega),hue,hs];rfl
 have hlen:List.length (Hf xs l r)=r.toNat - l.toNat:=by simp only [Hf,List.length_take,List.length_drop];omega
 refine⟨_,hrun,⟨0,SlotR.mk ⟨[_],rfl,⟨_,cp - l.toNat,by rw [hlen];rfl,by rw [hlen];omega,fun hp=>?_⟩,fun p hp=>by cases hp⟩⟩,Js _ _ _ _⟩
 rw [hlen] at hp;obtain⟨a,rfl,hok,hel⟩:=hrow (by omega);have hne:cp≠l.toNat:=by omega
 refine⟨a.add (l.toNat * t.sz),by rw [if_neg hne];rfl,by rw [Addr.add_block];exact hok,fun j hj=>?_⟩
 rw [hlen] at hj;obtain⟨ci,g1,g2⟩:=hel (l.toNat+j) (by omega);refine⟨ci,?_,?_⟩
 ·have:List.get (Hf xs l r) ⟨j,by rw [hlen];exact hj⟩=List.get xs ⟨l.toNat+j,by omega⟩:=by
   simp [Hf]
  rw [this];exact g1
 ·rw [Addr.add_add,← Nat.add_mul];exact g2
end
end Go.Proofs.YtmakhmoielhjeaaGreatDoorE

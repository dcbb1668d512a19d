/- The engine, texts A B C D E F G: how code is reckoned as Lean functions, and that it is sound. No condition. -/
import Derived.Calls
import Derived.Below
import Derived.KernelRfl
import Derived.DataReads
import Derived.WideShapes
import Derived.ArgAppend
import Derived.Laws.Entries
import Derived.Laws.Strings
import Derived.Laws.BytesString
import Derived.Laws.BytesArg
import Derived.Laws.Slices
import Derived.Laws.Small
set_option linter.all false
namespace Go.Proofs.YtmakhmoielhjeaaGreatDoorE
inductive Ty where
 | int (k:IntKind)
 | bool
 | str
 | list (e:Nat) (t:Ty)
 | pair (a b:Ty)
 deriving DecidableEq
@[reducible] def Ty.D:Ty→Type
 | .int _=>Int
 | .bool=>Bool
 | .str=>ByteArray
 | .list _ t=>List t.D
 | .pair a b=>a.D×b.D
def Ty.sz:Ty→Nat
 | .pair a b=>a.sz+b.sz
 | _=>1
def Ty.zero:(t:Ty)→t.D
 | .int _=>(0:Int)
 | .bool=>false
 | .str=>(⟨#[]⟩:ByteArray)
 | .list _ _=>[]
 | .pair a b=>(a.zero,b.zero)
def Ty.zc:Ty→List Value
 | .int k=>[.int k 0]
 | .bool=>[.bool false]
 | .str=>[.string ⟨#[]⟩]
 | .list _ _=>[.slice none 0 0]
 | .pair a b=>a.zc++b.zc
def Ty.flat:Ty→Bool
 | .list _ _=>false
 | .pair a b=>a.flat && b.flat
 | _=>true
theorem Ty.sz_pos:∀ t:Ty,0<t.sz
 | .pair a b=>by have:=Ty.sz_pos a;simp only [Ty.sz];omega
 | .int _ | .bool | .str | .list _ _=>by simp [Ty.sz]
theorem Ty.zc_len:∀ t:Ty,t.zc.length=t.sz
 | .pair a b=>by simp only [Ty.zc,Ty.sz,List.length_append,Ty.zc_len a,Ty.zc_len b]
 | .int _ | .bool | .str | .list _ _=>rfl
inductive Md where
 | ro
 | own (m:Md)
 | pr (a b:Md)
 | hole
 deriving DecidableEq
def Md.fst:Md→Md
 | .pr a _=>a
 | _=>.ro
def Md.snd:Md→Md
 | .pr _ b=>b
 | _=>.ro
def Md.mk2 (a b:Md):Md:=if a=.ro∧b=.ro then .ro else .pr a b
@[simp] theorem Md.mk2_fst (a b:Md):(Md.mk2 a b).fst=a:=by
 unfold Md.mk2;split
 ·rename_i h;rw [h.1];rfl
 ·rfl
@[simp] theorem Md.mk2_snd (a b:Md):(Md.mk2 a b).snd=b:=by
 unfold Md.mk2;split
 ·rename_i h;rw [h.2];rfl
 ·rfl
def Md.full:Md→Bool
 | .ro=>true
 | .own m=>m.full
 | .pr a b=>a.full && b.full
 | .hole=>false
theorem Md.full_fst {m:Md} (h:m.full=true):m.fst.full=true:=by
 cases m<;>simp_all [Md.full,Md.fst]
theorem Md.full_snd {m:Md} (h:m.full=true):m.snd.full=true:=by
 cases m<;>simp_all [Md.full,Md.snd]
theorem Addr.add_add (a:Addr) (n m:Nat):(a.add n).add m=a.add (n+m):=by
 cases a with | mk b o s=>
 simp only [Addr.add]
 by_cases hn:n=0
 ·subst hn;simp
 ·by_cases hm:m=0
  ·subst hm;simp
  ·have:n+m≠0:=by omega
   simp [hn,hm,Nat.add_assoc]
theorem Addr.add_zero (a:Addr):a.add 0=a:=by simp [Addr.add]
theorem Addr.add_block (a:Addr) (n:Nat):(a.add n).block=a.block:=by unfold Addr.add;split<;>rfl
def CellsAt (w:World) (a:Addr) (cs:List Value):Prop:=∀ j (h:j<cs.length),w.cell? (a.add j)=some cs[j]
theorem CellsAt.append {w:World} {a:Addr} {c1 c2:List Value} (h:CellsAt w a (c1++c2)):CellsAt w a c1∧CellsAt w (a.add c1.length) c2:=by
 refine⟨fun j hj=>?_,fun j hj=>?_⟩
 ·have:=h j (by simp;omega)
  rw [List.getElem_append_left hj] at this;exact this
 ·have:=h (c1.length+j) (by simp;omega)
  rw [List.getElem_append_right (by omega)] at this;rw [Addr.add_add];simpa using this
theorem CellsAt.frame {w w':World} {a:Addr} {cs:List Value} (h:CellsAt w a cs) (hb:w'.heap[a.block]?=w.heap[a.block]?):CellsAt w' a cs:=by
 intro j hj;rw [← h j hj];exact World.cell?_of_block (w:=w) (by rw [Addr.add_block];exact hb)
def RepV (w:World) (ok:Nat→Prop):(t:Ty)→List Value→t.D→Prop
 | .int k,cs,x=>cs=[.int k x]
 | .bool,cs,x=>cs=[.bool x]
 | .str,cs,x=>cs=[.string x]
 | .list _ t,cs,x=>∃ A c,cs=[.slice A (List.length x) c]∧List.length x≤c ∧
  (0<List.length x→∃ a,A=some a∧ok a.block∧∀ i (h:i<List.length x),∃ ci,RepV w ok t ci (List.get x ⟨i,h⟩)∧CellsAt w (a.add (i * t.sz)) ci)
 | .pair a b,cs,x=>∃ c1 c2,cs=c1++c2∧RepV w ok a c1 x.1∧RepV w ok b c2 x.2
theorem RepV.len {w:World} {ok:Nat→Prop}:∀ {t:Ty} {cs:List Value} {x:t.D},RepV w ok t cs x→cs.length=t.sz
 | .int _,_,_,h=>by rw [h];rfl
 | .bool,_,_,h=>by rw [h];rfl
 | .str,_,_,h=>by rw [h];rfl
 | .list _ _,_,_,h=>by obtain⟨A,c,rfl,_⟩:=h;rfl
 | .pair a b,_,_,h=>by
  obtain⟨c1,c2,rfl,h1,h2⟩:=h;rw [List.length_append,RepV.len h1,RepV.len h2];rfl
theorem RepV.mono {w w':World} {ok ok':Nat→Prop} (hok:∀ b,ok b→ok' b∧w'.heap[b]?=w.heap[b]?):∀ {t:Ty} {cs:List Value} {x:t.D},RepV w ok t cs x→RepV w' ok' t cs x
 | .int _,_,_,h=>h
 | .bool,_,_,h=>h
 | .str,_,_,h=>h
 | .list _ t,_,_,h=>by
  obtain⟨A,c,rfl,hl,hr⟩:=h;refine⟨A,c,rfl,hl,fun hp=>?_⟩
  obtain⟨a,rfl,ha,hi⟩:=hr hp;refine⟨a,rfl,(hok _ ha).1,fun i h=>?_⟩
  obtain⟨ci,h1,h2⟩:=hi i h;exact⟨ci,RepV.mono hok h1,h2.frame (by rw [Addr.add_block];exact(hok _ ha).2)⟩
 | .pair a b,_,_,h=>by
  obtain⟨c1,c2,rfl,h1,h2⟩:=h;exact⟨c1,c2,rfl,RepV.mono hok h1,RepV.mono hok h2⟩
theorem RepV.one {w:World} {ok:Nat→Prop}:∀ {t:Ty} {cs:List Value} {x:t.D},RepV w ok t cs x→∀ u∈cs,u.oneCell'=true
 | .int _,_,_,h,u,hu=>by rw [h] at hu;rw [List.mem_singleton.1 hu];rfl
 | .bool,_,_,h,u,hu=>by rw [h] at hu;rw [List.mem_singleton.1 hu];rfl
 | .str,_,_,h,u,hu=>by rw [h] at hu;rw [List.mem_singleton.1 hu];rfl
 | .list _ _,_,_,h,u,hu=>by obtain⟨A,c,rfl,_⟩:=h;rw [List.mem_singleton.1 hu];rfl
 | .pair a b,_,_,h,u,hu=>by
  obtain⟨c1,c2,rfl,h1,h2⟩:=h;rcases List.mem_append.1 hu with hu | hu
  ·exact RepV.one h1 u hu
  ·exact RepV.one h2 u hu
abbrev Lab:=List Nat
abbrev Own:=Nat→Option Lab
def RepO (w:World) (own:Own):(t:Ty)→Md→Lab→List Value→t.D→Prop
 | .int k,_,_,cs,x=>cs=[.int k x]
 | .bool,_,_,cs,x=>cs=[.bool x]
 | .str,_,_,cs,x=>cs=[.string x]
 | .list e t,.own m,p,cs,x=>∃ A c,cs=[.slice A (List.length x) c]∧List.length x≤c ∧
  ((A=none∧c=0)∨∃ b o arr,A=some ⟨b,o,none⟩∧own b=some p∧w.heap[b]?=some (.cells arr e (0,0))∧o+c * t.sz≤arr.size ∧
    ∀ i (h:i<List.length x),∃ ci,RepO w own t m (p++[i]) ci (List.get x ⟨i,h⟩)∧∀ j (hj:j<ci.length),arr[o+i * t.sz+j]?=some ci[j])
 | .list _ _,.hole,_,cs,_=>∃ v:Value,cs=[v]∧v.oneCell'=true
 | .list e t,.ro,_,cs,x=>RepV w (fun b=>own b=none∧b<w.heap.size) (.list e t) cs x
 | .list e t,.pr _ _,_,cs,x=>RepV w (fun b=>own b=none∧b<w.heap.size) (.list e t) cs x
 | .pair a b,m,p,cs,x=>∃ c1 c2,cs=c1++c2∧RepO w own a m.fst (p++[0]) c1 x.1∧RepO w own b m.snd (p++[1]) c2 x.2
theorem RepO.mk2 {w:World} {own:Own} {a b:Ty} {ma mb:Md} {p:Lab} {c1 c2:List Value} {x:(Ty.pair a b).D} (h1:RepO w own a ma (p++[0]) c1 x.1) (h2:RepO w own b mb (p++[1]) c2 x.2):RepO w own (.pair a b) (.mk2 ma mb) p (c1++c2) x:=
 ⟨c1,c2,rfl,by rw [Md.mk2_fst];exact h1,by rw [Md.mk2_snd];exact h2⟩
def Lab.le (p q:Lab):Prop:=∃ s,q=p++s
theorem Lab.le_refl (p:Lab):Lab.le p p:=⟨[],by simp⟩
theorem Lab.le_app (p s:Lab):Lab.le p (p++s):=⟨s,rfl⟩
theorem Lab.le_trans {p q r:Lab} (h:Lab.le p q) (h':Lab.le q r):Lab.le p r:=by
 obtain⟨s,rfl⟩:=h;obtain⟨s',rfl⟩:=h';exact⟨s++s',by simp⟩
theorem RepO.len {w:World} {own:Own}:∀ {t:Ty} {m:Md} {p:Lab} {cs:List Value} {x:t.D},RepO w own t m p cs x→cs.length=t.sz
 | .int _,_,_,_,_,h=>by rw [h];rfl
 | .bool,_,_,_,_,h=>by rw [h];rfl
 | .str,_,_,_,_,h=>by rw [h];rfl
 | .list _ _,.own _,_,_,_,h=>by obtain⟨A,c,rfl,_⟩:=h;rfl
 | .list _ _,.hole,_,_,_,h=>by obtain⟨A,rfl,_⟩:=h;rfl
 | .list _ _,.ro,_,_,_,h=>RepV.len h
 | .list _ _,.pr _ _,_,_,_,h=>RepV.len h
 | .pair a b,_,_,_,_,h=>by
  obtain⟨c1,c2,rfl,h1,h2⟩:=h;rw [List.length_append,RepO.len h1,RepO.len h2];rfl
theorem RepO.move {w w':World} {own own':Own} (h2:∀ b,own b=none→b<w.heap.size→own' b=none∧b<w'.heap.size∧w'.heap[b]?=w.heap[b]?):
 ∀ {t:Ty} {m:Md} {p q:Lab} {cs:List Value} {x:t.D},RepO w own t m p cs x→(∀ b s,own b=some (p++s)→own' b=some (q++s)∧w'.heap[b]?=w.heap[b]?)→RepO w' own' t m q cs x
 | .int _,_,_,_,_,_,h,_=>h
 | .bool,_,_,_,_,_,h,_=>h
 | .str,_,_,_,_,_,h,_=>h
 | .list e t,.own m,p,q,_,_,h,h1=>by
  obtain⟨A,c,rfl,hl,hr⟩:=h;refine⟨A,c,rfl,hl,?_⟩
  rcases hr with hr | ⟨b,o,arr,rfl,ho,hh,hs,hi⟩
  ·exact .inl hr
  ·have hb:=h1 b [] (by simpa using ho)
   refine .inr ⟨b,o,arr,rfl,by simpa using hb.1,hb.2.trans hh,hs,fun i h=>?_⟩
   obtain⟨ci,hc1,hc2⟩:=hi i h;exact⟨ci,RepO.move h2 hc1 (fun b s hb=>by
    have:=h1 b (i::s) (by simpa using hb)
    simpa using this),hc2⟩
 | .list _ _,.hole,_,_,_,_,h,_=>h
 | .list _ _,.ro,_,_,_,_,h,_=>RepV.mono (fun b hb=>⟨⟨(h2 b hb.1 hb.2).1,(h2 b hb.1 hb.2).2.1⟩,(h2 b hb.1 hb.2).2.2⟩) h
 | .list _ _,.pr _ _,_,_,_,_,h,_=>RepV.mono (fun b hb=>⟨⟨(h2 b hb.1 hb.2).1,(h2 b hb.1 hb.2).2.1⟩,(h2 b hb.1 hb.2).2.2⟩) h
 | .pair a b,m,p,q,_,_,h,h1=>by
  obtain⟨c1,c2,rfl,ha,hb⟩:=h;exact⟨c1,c2,rfl,RepO.move h2 ha (fun b s hb=>by have:=h1 b (0::s) (by simpa using hb);simpa using this),
   RepO.move h2 hb (fun b s hb=>by have:=h1 b (1::s) (by simpa using hb);simpa using this)⟩
theorem NR {w:World} {b:Nat} {o:Obj} (h:w.heap[b]?=some o):b<w.heap.size:=(Array.getElem?_eq_some_iff.1 h).1
theorem Ao {w:World} {b o:Nat} {arr:Array Value} {e:TypeId} {fz:Nat×Nat} (h:w.heap[b]?=some (.cells arr e fz)) (j:Nat):w.cell? ((⟨b,o,none⟩:Addr).add j)=arr[o+j]?:=by
 have e1:((⟨b,o,none⟩:Addr).add j)=⟨b,o+j,none⟩:=by
  simp only [Addr.add];split
  ·subst_vars;simp
  ·rfl
 rw [e1];simp [World.cell?,h]
theorem RepO.view {w:World} {own:Own} {ok:Nat→Prop} (h0:∀ b,own b=none→b<w.heap.size→ok b):
 ∀ {t:Ty} {m:Md} {p:Lab} {cs:List Value} {x:t.D},m.full=true→RepO w own t m p cs x→(∀ b,(∃ s,own b=some (p++s))→b<w.heap.size→ok b)→RepV w ok t cs x
 | .int _,_,_,_,_,_,h,_=>h
 | .bool,_,_,_,_,_,h,_=>h
 | .str,_,_,_,_,_,h,_=>h
 | .list e t,.own m,p,_,_,hf,h,h1=>by
  obtain⟨A,c,rfl,hl,hr⟩:=h;refine⟨A,c,rfl,hl,fun hp=>?_⟩
  rcases hr with⟨_,hc⟩ | ⟨b,o,arr,rfl,ho,hh,hs,hi⟩
  ·omega
  ·refine⟨_,rfl,h1 b ⟨[],by simpa using ho⟩ (NR hh),fun i h=>?_⟩
   obtain⟨ci,hc1,hc2⟩:=hi i h;refine⟨ci,RepO.view h0 (by simpa [Md.full] using hf) hc1 (fun b ⟨s,hb⟩ hlt=>h1 b ⟨i::s,by simpa using hb⟩ hlt),fun j hj=>?_⟩
   rw [Addr.add_add,Ao hh,← Nat.add_assoc];exact hc2 j hj
 | .list _ _,.hole,_,_,_,hf,_,_=>by simp [Md.full] at hf
 | .list _ _,.ro,_,_,_,_,h,_=>RepV.mono (fun b hb=>⟨h0 b hb.1 hb.2,rfl⟩) h
 | .list _ _,.pr _ _,_,_,_,_,h,_=>RepV.mono (fun b hb=>⟨h0 b hb.1 hb.2,rfl⟩) h
 | .pair a b,m,p,_,_,hf,h,h1=>by
  obtain⟨c1,c2,rfl,ha,hb⟩:=h;exact⟨c1,c2,rfl,RepO.view h0 (Md.full_fst hf) ha (fun b ⟨s,hb⟩ hlt=>h1 b ⟨0::s,by simpa using hb⟩ hlt),
   RepO.view h0 (Md.full_snd hf) hb (fun b ⟨s,hb⟩ hlt=>h1 b ⟨1::s,by simpa using hb⟩ hlt)⟩
theorem RepO.ofV {w:World} {own:Own}:∀ {t:Ty} {p:Lab} {cs:List Value} {x:t.D},RepV w (fun b=>own b=none∧b<w.heap.size) t cs x→RepO w own t .ro p cs x
 | .int _,_,_,_,h=>h
 | .bool,_,_,_,h=>h
 | .str,_,_,_,h=>h
 | .list _ _,_,_,_,h=>h
 | .pair a b,_,_,_,h=>by
  obtain⟨c1,c2,rfl,ha,hb⟩:=h;exact⟨c1,c2,rfl,RepO.ofV ha,RepO.ofV hb⟩
theorem RepV.flat {w w':World} {ok ok':Nat→Prop}:∀ {t:Ty} {cs:List Value} {x:t.D},t.flat=true→RepV w ok t cs x→RepV w' ok' t cs x
 | .int _,_,_,_,h=>h
 | .bool,_,_,_,h=>h
 | .str,_,_,_,h=>h
 | .list _ _,_,_,hf,_=>by simp [Ty.flat] at hf
 | .pair a b,_,_,hf,h=>by
  simp only [Ty.flat,Bool.and_eq_true] at hf;obtain⟨c1,c2,rfl,ha,hb⟩:=h;exact⟨c1,c2,rfl,RepV.flat hf.1 ha,RepV.flat hf.2 hb⟩
theorem RepO.zero {w:World} {own:Own}:∀ (t:Ty) (m:Md) (p:Lab),RepO w own t m p t.zc t.zero
 | .int _,_,_=>rfl
 | .bool,_,_=>rfl
 | .str,_,_=>rfl
 | .list _ _,.own _,_=>⟨none,0,rfl,Nat.le_refl _,.inl ⟨rfl,rfl⟩⟩
 | .list _ _,.hole,_=>⟨_,rfl,rfl⟩
 | .list _ _,.ro,_=>⟨none,0,rfl,Nat.le_refl _,fun h=>absurd h (Nat.lt_irrefl 0)⟩
 | .list _ _,.pr _ _,_=>⟨none,0,rfl,Nat.le_refl _,fun h=>absurd h (Nat.lt_irrefl 0)⟩
 | .pair a b,m,_=>⟨_,_,rfl,RepO.zero a m.fst _,RepO.zero b m.snd _⟩
structure Dat where
 t:Ty
 m:Md
 x:t.D
inductive St where
 | f
 | s
 | i (n:Int)
abbrev Path:=List St
structure Place where
 root:Nat
 path:Path
def St.lab:St→Nat
 | .f=>0
 | .s=>1
 | .i n=>n.toNat
def Path.lab (π:Path):Lab:=π.map St.lab
def Path.deep:Path→Bool
 | []=>false
 | .i _::_=>true
 | _::π=>Path.deep π
@[reducible] def rd {α:Type} (l:List α) (n:Int) (z:α):α:=l.getD n.toNat z
def AH:Path→(t:Ty)→Md→t.D→Option Dat
 | [],t,m,x=>some ⟨t,m,x⟩
 | .f::π,.pair a _,m,x=>AH π a m.fst x.1
 | .s::π,.pair _ b,m,x=>AH π b m.snd x.2
 | .i n::π,.list _ t,.own m,x=>if 0≤n then (if n<(List.length x:Int) then AH π t m (rd x n t.zero) else none) else none
 | _,_,_,_=>none
def EK:Path→(t:Ty)→Md→t.D→Dat→Option (Md×t.D)
 | [],t,_,_,d=>if h:d.t=t then some (d.m,h ▸ d.x) else none
 | .f::π,.pair a _,m,x,d=>(EK π a m.fst x.1 d).map fun r=>(.mk2 r.1 m.snd,(r.2,x.2))
 | .s::π,.pair _ b,m,x,d=>(EK π b m.snd x.2 d).map fun r=>(.mk2 m.fst r.1,(x.1,r.2))
 | .i n::π,.list _ t,.own m,x,d=>if 0≤n then (if n<(List.length x:Int) then (EK π t m (rd x n t.zero) d).bind fun r=>(if r.1=m then some (.own m,List.set x n.toNat r.2) else none) else none) else none
 | _,_,_,_,_=>none
def LM (w:World) (a:Addr) (n:Nat):List Value:=(List.range n).map fun j=>(w.cell? (a.add j)).getD undef
def Al (w:World):Path→Ty→Option Addr→List Value→Option (Option Addr×List Value)
 | [],_,L,cs=>some (L,cs)
 | .f::π,.pair a _,L,cs=>Al w π a L (cs.take a.sz)
 | .s::π,.pair a b,L,cs=>Al w π b (L.map (·.add a.sz)) (cs.drop a.sz)
 | .i n::π,.list _ t,_,[.slice (some A) _ _]=>Al w π t (some (A.add (n.toNat * t.sz))) (LM w (A.add (n.toNat * t.sz)) t.sz)
 | _,_,_,_=>none
theorem GY {w:World} {a:Addr} {cs:List Value} (h:CellsAt w a cs):LM w a cs.length=cs:=by
 apply List.ext_getElem (by simp [LM])
 intro j h1 h2;simp only [LM,List.getElem_map,List.getElem_range];rw [h j h2];rfl
theorem CellsAt.take_drop {w:World} {a:Addr} {cs:List Value} (n:Nat) (h:CellsAt w a cs):CellsAt w a (cs.take n)∧(n≤cs.length→CellsAt w (a.add n) (cs.drop n)):=by
 have e:cs=cs.take n++cs.drop n:=(List.take_append_drop n cs).symm
 rw [e] at h;have:=h.append
 refine⟨this.1,fun hn=>?_⟩
 have hl:(cs.take n).length=n:=by simp [hn]
 rw [hl] at this;exact this.2
theorem GE {w:World} {own:Own}:∀ (π:Path) {t:Ty} {m:Md} {p:Lab} {cs:List Value} {x:t.D} {L:Option Addr} {d:Dat},
 RepO w own t m p cs x→(∀ A,L=some A→CellsAt w A cs)→AH π t m x=some d →
 ∃ L' cs',Al w π t L cs=some (L',cs')∧RepO w own d.t d.m (p++π.lab) cs' d.x∧(∀ A,L'=some A→CellsAt w A cs')∧(π.deep=true→L'≠none)∧(L≠none→L'≠none)
 | [],t,m,p,cs,x,L,d,hr,hc,hg=>by
  simp only [AH,Option.some.injEq] at hg;subst hg;exact⟨L,cs,rfl,by simpa [Path.lab] using hr,hc,by simp [Path.deep],fun h=>h⟩
 | .f::π,.pair a b,m,p,cs,x,L,d,hr,hc,hg=>by
  obtain⟨c1,c2,rfl,h1,h2⟩:=hr;have hl:=RepO.len h1
  have e:(c1++c2).take a.sz=c1:=by rw [← hl];simp
  obtain⟨L',cs',e1,e2,e3,e4,e5⟩:=GE π (L:=L) h1 (fun A hA=>(hc A hA).append.1) hg;exact⟨L',cs',by simp only [Al,e];exact e1,by simpa [Path.lab,St.lab] using e2,e3,by simpa [Path.deep] using e4,e5⟩
 | .s::π,.pair a b,m,p,cs,x,L,d,hr,hc,hg=>by
  obtain⟨c1,c2,rfl,h1,h2⟩:=hr;have hl:=RepO.len h1
  have e:(c1++c2).drop a.sz=c2:=by rw [← hl];simp
  obtain⟨L',cs',e1,e2,e3,e4,e5⟩:=GE π (L:=L.map (·.add a.sz)) h2 (fun A hA=>by
   obtain⟨A0,rfl,rfl⟩:=Option.map_eq_some_iff.1 hA;have:=(hc A0 rfl).append.2
   rwa [hl] at this) hg
  exact⟨L',cs',by simp only [Al,e];exact e1,by simpa [Path.lab,St.lab] using e2,e3,by simpa [Path.deep] using e4,fun h=>e5 (by simpa using h)⟩
 | .i n::π,.list e t,.own m,p,cs,x,L,d,hr,hc,hg=>by
  simp only [AH] at hg;split at hg
  ·rename_i h0;split at hg
   ·rename_i hn;obtain⟨A,c,rfl,hl,hr⟩:=hr;have hlt:n.toNat<List.length x:=by omega
    rcases hr with⟨_,rfl⟩ | ⟨b,o,arr,rfl,ho,hh,hs,hi⟩
    ·omega
    ·obtain⟨ci,hc1,hc2⟩:=hi n.toNat hlt;have ex:rd x n t.zero=List.get x ⟨n.toNat,hlt⟩:=by simp [rd,List.getD_eq_getElem?_getD,List.getElem?_eq_getElem hlt]
     have hca:CellsAt w ((⟨b,o,none⟩:Addr).add (n.toNat * t.sz)) ci:=by
      intro j hj;rw [Addr.add_add,Ao hh,← Nat.add_assoc];exact hc2 j hj
     rw [ex] at hg;obtain⟨L',cs',e1,e2,e3,e4,e5⟩:=GE π (L:=some ((⟨b,o,none⟩:Addr).add (n.toNat * t.sz))) hc1 (fun A hA=>by rw [← Option.some.inj hA];exact hca) hg;refine⟨L',cs',?_,by simpa [Path.lab,St.lab] using e2,e3,fun _=>e5 (by simp),fun _=>e5 (by simp)⟩
     simp only [Al];rw [← RepO.len hc1,GY (by rw [RepO.len hc1];exact hca),RepO.len hc1];exact e1
   ·simp at hg
  ·simp at hg
 | .f::_,.int _,_,_,_,_,_,_,_,_,hg=>by simp [AH] at hg
 | .f::_,.bool,_,_,_,_,_,_,_,_,hg=>by simp [AH] at hg
 | .f::_,.str,_,_,_,_,_,_,_,_,hg=>by simp [AH] at hg
 | .f::_,.list _ _,_,_,_,_,_,_,_,_,hg=>by simp [AH] at hg
 | .s::_,.int _,_,_,_,_,_,_,_,_,hg=>by simp [AH] at hg
 | .s::_,.bool,_,_,_,_,_,_,_,_,hg=>by simp [AH] at hg
 | .s::_,.str,_,_,_,_,_,_,_,_,hg=>by simp [AH] at hg
 | .s::_,.list _ _,_,_,_,_,_,_,_,_,hg=>by simp [AH] at hg
 | .i _::_,.int _,_,_,_,_,_,_,_,_,hg=>by simp [AH] at hg
 | .i _::_,.bool,_,_,_,_,_,_,_,_,hg=>by simp [AH] at hg
 | .i _::_,.str,_,_,_,_,_,_,_,_,hg=>by simp [AH] at hg
 | .i _::_,.pair _ _,_,_,_,_,_,_,_,_,hg=>by simp [AH] at hg
 | .i _::_,.list _ _,.ro,_,_,_,_,_,_,_,hg=>by simp [AH] at hg
 | .i _::_,.list _ _,.hole,_,_,_,_,_,_,_,hg=>by simp [AH] at hg
 | .i _::_,.list _ _,.pr _ _,_,_,_,_,_,_,_,hg=>by simp [AH] at hg
def Lab.lt (p q:Lab):Prop:=∃ n s,q=p++n::s
theorem Lab.lt_le {p q:Lab} (h:Lab.lt p q):Lab.le p q:=by obtain⟨n,s,rfl⟩:=h;exact⟨n::s,rfl⟩
theorem Lab.lt_app {p:Lab} (n:Nat):Lab.lt p (p++[n]):=⟨n,[],rfl⟩
theorem Lab.lt_of_lt_le {p q r:Lab} (h:Lab.lt p q) (h':Lab.le q r):Lab.lt p r:=by
 obtain⟨n,s,rfl⟩:=h;obtain⟨s',rfl⟩:=h';exact⟨n,s++s',by simp⟩
theorem Lab.lt_len {p q:Lab} (h:Lab.lt p q):p.length<q.length:=by obtain⟨n,s,rfl⟩:=h;simp
theorem Lab.le_len {p q:Lab} (h:Lab.le p q):p.length≤q.length:=by obtain⟨s,rfl⟩:=h;simp
theorem Lab.part {p:Lab} {i j:Nat} (h:i≠j) (s s':Lab):¬ Lab.le (p++i::s) (p++j::s'):=by
 rintro ⟨r,hr⟩
 simp [List.append_assoc] at hr;exact h hr.1.symm
structure Wrote (w w2:World) (A:Addr) (n:Nat) (cs:List Value):Prop where
 len:cs.length=n
 at_:∃ arr arr2 T,w.heap[A.block]?=some (.cells arr T (0,0))∧w2.heap[A.block]?=some (.cells arr2 T (0,0))∧arr2.size=arr.size ∧
  (∀ j,(j<A.off∨A.off+n≤j)→arr2[j]?=arr[j]?)∧∀ j (h:j<cs.length),arr2[A.off+j]?=some cs[j]
 spot:A.spot=none
theorem Wrote.cells {w w2:World} {A:Addr} {n:Nat} {cs:List Value} (h:Wrote w w2 A n cs):CellsAt w2 A cs:=by
 obtain⟨arr,arr2,T,_,h2,_,_,h5⟩:=h.at_;have e:A=⟨A.block,A.off,none⟩:=by have:=h.spot;cases A;simp_all
 intro j hj;rw [e,Ao h2];exact h5 j hj
theorem FP {w:World}:∀ (π:Path) {t:Ty} {A:Addr} {cs cs':List Value} {L':Option Addr},π.deep=false→cs.length=t.sz→Al w π t (some A) cs=some (L',cs') →
 ∃ k,L'=some (A.add k)∧k+cs'.length≤t.sz
 | [],t,A,cs,cs',L',_,hl,h=>by
  simp only [Al,Option.some.injEq,Prod.mk.injEq] at h;obtain⟨rfl,rfl⟩:=h;exact⟨0,by rw [Addr.add_zero],by omega⟩
 | .f::π,.pair a b,A,cs,cs',L',hd,hl,h=>by
  simp only [Ty.sz] at hl;simp only [Al] at h;obtain⟨k,e,hk⟩:=FP π (by simpa [Path.deep] using hd) (by simp;omega) h;exact⟨k,e,by simp only [Ty.sz];omega⟩
 | .s::π,.pair a b,A,cs,cs',L',hd,hl,h=>by
  simp only [Ty.sz] at hl;simp only [Al,Option.map_some] at h;obtain⟨k,e,hk⟩:=FP π (by simpa [Path.deep] using hd) (by simp;omega) h;exact⟨a.sz+k,by rw [e,Addr.add_add],by simp only [Ty.sz];omega⟩
 | .i _::_,_,_,_,_,_,hd,_,_=>by simp [Path.deep] at hd
 | .f::_,.int _,_,_,_,_,_,_,h=>by simp [Al] at h
 | .f::_,.bool,_,_,_,_,_,_,h=>by simp [Al] at h
 | .f::_,.str,_,_,_,_,_,_,h=>by simp [Al] at h
 | .f::_,.list _ _,_,_,_,_,_,_,h=>by simp [Al] at h
 | .s::_,.int _,_,_,_,_,_,_,h=>by simp [Al] at h
 | .s::_,.bool,_,_,_,_,_,_,h=>by simp [Al] at h
 | .s::_,.str,_,_,_,_,_,_,h=>by simp [Al] at h
 | .s::_,.list _ _,_,_,_,_,_,_,h=>by simp [Al] at h
theorem GU {w:World} {own:Own}:∀ (π:Path) {t:Ty} {m:Md} {p:Lab} {cs cs':List Value} {x:t.D} {L L':Option Addr} {d:Dat},
 RepO w own t m p cs x→AH π t m x=some d→Al w π t L cs=some (L',cs')→(∀ A,L=some A→A.spot=none∧∃ q,own A.block=some q∧Lab.lt q p) →
 ∀ A',L'=some A'→A'.spot=none∧∃ q,own A'.block=some q∧Lab.lt q (p++π.lab)∧(π.deep=true→Lab.le p q)
 | [],t,m,p,cs,cs',x,L,L',d,hr,hg,hl,hL,A',hA=>by
  simp only [Al,Option.some.injEq,Prod.mk.injEq] at hl;obtain⟨rfl,rfl⟩:=hl;obtain⟨h1,q,h2,h3⟩:=hL A' hA;exact⟨h1,q,h2,by simpa [Path.lab] using h3,by simp [Path.deep]⟩
 | .f::π,.pair a b,m,p,cs,cs',x,L,L',d,hr,hg,hl,hL,A',hA=>by
  obtain⟨c1,c2,rfl,h1,h2⟩:=hr;have e:(c1++c2).take a.sz=c1:=by rw [← RepO.len h1];simp
  simp only [Al,e] at hl;obtain⟨g1,q,g2,g3,g4⟩:=GU π h1 hg hl (fun A hA=>by
   obtain⟨k1,q,k2,k3⟩:=hL A hA;exact⟨k1,q,k2,Lab.lt_of_lt_le k3 (Lab.le_app _ _)⟩) A' hA
  exact⟨g1,q,g2,by simpa [Path.lab,St.lab] using g3,fun hd=>Lab.le_trans (Lab.le_app _ _) (g4 (by simpa [Path.deep] using hd))⟩
 | .s::π,.pair a b,m,p,cs,cs',x,L,L',d,hr,hg,hl,hL,A',hA=>by
  obtain⟨c1,c2,rfl,h1,h2⟩:=hr;have e:(c1++c2).drop a.sz=c2:=by rw [← RepO.len h1];simp
  simp only [Al,e] at hl;obtain⟨g1,q,g2,g3,g4⟩:=GU π h2 hg hl (fun A hA=>by
   obtain⟨A0,rfl,rfl⟩:=Option.map_eq_some_iff.1 hA;obtain⟨k1,q,k2,k3⟩:=hL A0 rfl;exact⟨by unfold Addr.add;split<;>simp_all,q,by rw [Addr.add_block];exact k2,Lab.lt_of_lt_le k3 (Lab.le_app _ _)⟩) A' hA
  exact⟨g1,q,g2,by simpa [Path.lab,St.lab] using g3,fun hd=>Lab.le_trans (Lab.le_app _ _) (g4 (by simpa [Path.deep] using hd))⟩
 | .i n::π,.list e t,.own m,p,cs,cs',x,L,L',d,hr,hg,hl,hL,A',hA=>by
  simp only [AH] at hg;split at hg
  ·split at hg
   ·rename_i h0 hn;obtain⟨A,c,rfl,hle,hr⟩:=hr;have hlt:n.toNat<List.length x:=by omega
    rcases hr with⟨rfl,rfl⟩ | ⟨b,o,arr,rfl,ho,hh,hs,hi⟩
    ·omega
    ·obtain⟨ci,hc1,hc2⟩:=hi n.toNat hlt;have ex:rd x n t.zero=List.get x ⟨n.toNat,hlt⟩:=by simp [rd,List.getD_eq_getElem?_getD,List.getElem?_eq_getElem hlt]
     have hca:CellsAt w ((⟨b,o,none⟩:Addr).add (n.toNat * t.sz)) ci:=by
      intro j hj;rw [Addr.add_add,Ao hh,← Nat.add_assoc];exact hc2 j hj
     rw [ex] at hg;simp only [Al] at hl;rw [← RepO.len hc1,GY (by rw [RepO.len hc1];exact hca),RepO.len hc1] at hl;obtain⟨g1,q,g2,g3,g4⟩:=GU π hc1 hg hl (fun A hA=>by
      rw [← Option.some.inj hA,Addr.add_block];refine⟨by unfold Addr.add;split<;>simp_all,p,ho,Lab.lt_app _⟩) A' hA
     refine⟨g1,q,g2,by simpa [Path.lab,St.lab] using g3,fun _=>?_⟩
     by_cases hd:Path.deep π=true
     ·exact Lab.le_trans (Lab.le_app _ _) (g4 hd)
     ·obtain⟨k,e1,_⟩:=FP π (by simpa using hd) (RepO.len hc1) hl;rw [hA] at e1;have e2:=Option.some.inj e1
      have:own A'.block=some p:=by rw [e2,Addr.add_block,Addr.add_block];exact ho
      rw [g2] at this;rw [Option.some.inj this];exact Lab.le_refl _
   ·simp at hg
  ·simp at hg
 | .f::_,.int _,_,_,_,_,_,_,_,_,_,hg,_,_,_,_=>by simp [AH] at hg
 | .f::_,.bool,_,_,_,_,_,_,_,_,_,hg,_,_,_,_=>by simp [AH] at hg
 | .f::_,.str,_,_,_,_,_,_,_,_,_,hg,_,_,_,_=>by simp [AH] at hg
 | .f::_,.list _ _,_,_,_,_,_,_,_,_,_,hg,_,_,_,_=>by simp [AH] at hg
 | .s::_,.int _,_,_,_,_,_,_,_,_,_,hg,_,_,_,_=>by simp [AH] at hg
 | .s::_,.bool,_,_,_,_,_,_,_,_,_,hg,_,_,_,_=>by simp [AH] at hg
 | .s::_,.str,_,_,_,_,_,_,_,_,_,hg,_,_,_,_=>by simp [AH] at hg
 | .s::_,.list _ _,_,_,_,_,_,_,_,_,_,hg,_,_,_,_=>by simp [AH] at hg
 | .i _::_,.int _,_,_,_,_,_,_,_,_,_,hg,_,_,_,_=>by simp [AH] at hg
 | .i _::_,.bool,_,_,_,_,_,_,_,_,_,hg,_,_,_,_=>by simp [AH] at hg
 | .i _::_,.str,_,_,_,_,_,_,_,_,_,hg,_,_,_,_=>by simp [AH] at hg
 | .i _::_,.pair _ _,_,_,_,_,_,_,_,_,_,hg,_,_,_,_=>by simp [AH] at hg
 | .i _::_,.list _ _,.ro,_,_,_,_,_,_,_,_,hg,_,_,_,_=>by simp [AH] at hg
 | .i _::_,.list _ _,.hole,_,_,_,_,_,_,_,_,hg,_,_,_,_=>by simp [AH] at hg
 | .i _::_,.list _ _,.pr _ _,_,_,_,_,_,_,_,_,hg,_,_,_,_=>by simp [AH] at hg
theorem Addr.add_off {A:Addr} (h:A.spot=none) (k:Nat):A.add k=⟨A.block,A.off+k,none⟩:=by
 cases A with | mk b o s=>
 simp only at h;subst h;unfold Addr.add;split
 ·subst_vars;simp
 ·rfl
theorem Wrote.keep {w w2:World} {A' A:Addr} {n:Nat} {cs:List Value} (W:Wrote w w2 A' n cs) (hs:A.spot=none) (j:Nat) (h:A.block=A'.block→A.off+j<A'.off∨A'.off+n≤A.off+j)
 (hb:A.block≠A'.block→w2.heap[A.block]?=w.heap[A.block]?):w2.cell? (A.add j)=w.cell? (A.add j):=by
 by_cases e:A.block=A'.block
 ·obtain⟨arr,arr2,T,h1,h2,h3,h4,h5⟩:=W.at_;have e0:A=⟨A'.block,A.off,none⟩:=by cases A;simp_all
  rw [e0,Ao h1,Ao h2];exact h4 _ (h e)
 ·exact World.cell?_of_block (w:=w) (by rw [Addr.add_block];exact hb e)
theorem Pl {w w2:World} {own own2:Own} {A':Addr} {n:Nat} {cs2:List Value} {ρ:Lab} (W:Wrote w w2 A' n cs2)
 (O1:∀ b l,own b=some l→¬ Lab.le ρ l→own2 b=some l∧(b≠A'.block→w2.heap[b]?=w.heap[b]?))
 (O2:∀ b,own b=none→b<w.heap.size→own2 b=none∧b<w2.heap.size∧w2.heap[b]?=w.heap[b]?)
 (hq:∃ q,own A'.block=some q∧Lab.lt q ρ):
 ∀ (π:Path) {t:Ty} {m:Md} {p:Lab} {cs cs':List Value} {x:t.D} {L:Option Addr} {d0 d:Dat} {M:Md} {X:t.D},
 RepO w own t m p cs x→AH π t m x=some d0→EK π t m x d=some (M,X)→Al w π t L cs=some (some A',cs')→cs'.length=n→ρ=p++π.lab →
 (∀ A,L=some A→A.spot=none∧∃ q,own A.block=some q∧Lab.lt q p)→RepO w2 own2 d.t d.m ρ cs2 d.x →
 ∃ csN,RepO w2 own2 t M p csN X∧(π.deep=true→csN=cs)∧∀ A,L=some A→CellsAt w A cs→CellsAt w2 A csN
 | [],t,m,p,cs,cs',x,L,d0,d,M,X,hr,hg,hs,hl,hn,hρ,hL,hd=>by
  simp only [EK] at hs;split at hs
  ·rename_i ht;obtain⟨dt,dm,dx⟩:=d;simp only at ht;subst ht;simp only [Option.some.injEq,Prod.mk.injEq] at hs;obtain⟨rfl,rfl⟩:=hs;simp only [Al,Option.some.injEq,Prod.mk.injEq] at hl;obtain⟨rfl,rfl⟩:=hl;simp only [Path.lab,List.map_nil,List.append_nil] at hρ;subst hρ;refine⟨cs2,hd,by simp [Path.deep],fun A hA _=>?_⟩
   rw [← Option.some.inj hA];exact W.cells
  ·simp at hs
 | .f::π,.pair a b,m,p,cs,cs',x,L,d0,d,M,X,hr,hg,hs,hl,hn,hρ,hL,hd=>by
  obtain⟨c1,c2,rfl,h1,h2⟩:=hr;have e:(c1++c2).take a.sz=c1:=by rw [← RepO.len h1];simp
  simp only [Al,e] at hl;simp only [AH] at hg;simp only [EK,Option.map_eq_some_iff] at hs;obtain⟨⟨M1,X1⟩,hs1,hs2⟩:=hs;simp only [Prod.mk.injEq] at hs2;obtain⟨rfl,rfl⟩:=hs2;have hρ':ρ=(p++[0])++Path.lab π:=by rw [hρ];simp [Path.lab,St.lab]
  have hL':∀ A,L=some A→A.spot=none∧∃ q,own A.block=some q∧Lab.lt q (p++[0]):=fun A hA=>by
   obtain⟨k1,q,k2,k3⟩:=hL A hA;exact⟨k1,q,k2,Lab.lt_of_lt_le k3 (Lab.le_app _ _)⟩
  obtain⟨csN,g1,g2,g3⟩:=Pl W O1 O2 hq π h1 hg hs1 hl hn hρ' hL' hd;have sib:RepO w2 own2 b m.snd (p++[1]) c2 x.2:=by
   refine RepO.move O2 h2 (fun b s hb=>?_)
   have hb':own b=some (p++1::s):=by rw [hb];simp
   have np:¬ Lab.le ρ (p++1::s):=by
    rw [hρ',show(p++[0])++Path.lab π=p++0::Path.lab π by simp];exact Lab.part (by omega) _ _
   have:=O1 b _ hb' np
   refine⟨by simpa using this.1,this.2 ?_⟩
   rintro rfl
   obtain⟨q,e1,e2⟩:=hq;rw [hb'] at e1;have e3:=Lab.lt_le e2
   rw [← Option.some.inj e1,hρ',show(p++[0])++Path.lab π=p++0::Path.lab π by simp] at e3;exact Lab.part (by omega) _ _ e3
  refine⟨csN++c2,RepO.mk2 (x:=(_,_)) g1 sib,fun hd'=>by rw [g2 (by simpa [Path.deep] using hd')],fun A hA hc=>?_⟩
  have hc':=hc.append
  have i1:=g3 A hA hc'.1
  obtain⟨k1,q0,k2,k3⟩:=hL A hA;have nq:¬ Lab.le ρ q0:=fun h=>by
   have:=Lab.le_len h;have:=Lab.lt_len k3
   rw [hρ] at *;simp at *;omega
  have hout:∀ j,A.block=A'.block→A.off+(a.sz+j)<A'.off∨A'.off+n≤A.off+(a.sz+j):=by
   intro j hb
   by_cases hdp:Path.deep π=true
   ·exfalso
    obtain⟨_,q,e1,_,e3⟩:=GU π h1 hg hl hL' A' rfl;rw [← hb,k2] at e1;have e4:=Lab.le_len (e3 hdp)
    rw [← Option.some.inj e1] at e4;have:=Lab.lt_len k3
    simp at e4;omega
   ·subst hA;obtain⟨k,e1,e2⟩:=FP π (by simpa using hdp) (RepO.len h1) hl;have e3:=Option.some.inj e1
    rw [Addr.add_off k1] at e3;right;rw [e3];simp only;omega
  intro j hj
  by_cases hlt:j<csN.length
  ·rw [i1 j hlt,List.getElem_append_left hlt]
  ·have hcl:csN.length=a.sz:=RepO.len g1
   have hcl1:c1.length=a.sz:=RepO.len h1
   have hj2:j - a.sz<c2.length:=by simp at hj;omega
   have ej:j=a.sz+(j - a.sz):=by omega
   have hk:=W.keep k1 _ (hout (j - a.sz)) ((O1 _ _ k2 nq).2)
   rw [← ej] at hk;have:=hc'.2 (j - a.sz) hj2
   rw [Addr.add_add,hcl1,← ej] at this;rw [hk,this,List.getElem_append_right (by omega)];simp [hcl]
 | .s::π,.pair a b,m,p,cs,cs',x,L,d0,d,M,X,hr,hg,hs,hl,hn,hρ,hL,hd=>by
  obtain⟨c1,c2,rfl,h1,h2⟩:=hr;have e:(c1++c2).drop a.sz=c2:=by rw [← RepO.len h1];simp
  simp only [Al,e] at hl;simp only [AH] at hg;simp only [EK,Option.map_eq_some_iff] at hs;obtain⟨⟨M1,X1⟩,hs1,hs2⟩:=hs;simp only [Prod.mk.injEq] at hs2;obtain⟨rfl,rfl⟩:=hs2;have hρ':ρ=(p++[1])++Path.lab π:=by rw [hρ];simp [Path.lab,St.lab]
  have hL':∀ A,L.map (·.add a.sz)=some A→A.spot=none∧∃ q,own A.block=some q∧Lab.lt q (p++[1]):=fun A hA=>by
   obtain⟨A0,rfl,rfl⟩:=Option.map_eq_some_iff.1 hA;obtain⟨k1,q,k2,k3⟩:=hL A0 rfl;exact⟨by rw [Addr.add_off k1],q,by rw [Addr.add_block];exact k2,Lab.lt_of_lt_le k3 (Lab.le_app _ _)⟩
  obtain⟨csN,g1,g2,g3⟩:=Pl W O1 O2 hq π h2 hg hs1 hl hn hρ' hL' hd;have sib:RepO w2 own2 a m.fst (p++[0]) c1 x.1:=by
   refine RepO.move O2 h1 (fun b s hb=>?_)
   have hb':own b=some (p++0::s):=by rw [hb];simp
   have np:¬ Lab.le ρ (p++0::s):=by
    rw [hρ',show(p++[1])++Path.lab π=p++1::Path.lab π by simp];exact Lab.part (by omega) _ _
   have:=O1 b _ hb' np
   refine⟨by simpa using this.1,this.2 ?_⟩
   rintro rfl
   obtain⟨q,e1,e2⟩:=hq;rw [hb'] at e1;have e3:=Lab.lt_le e2
   rw [← Option.some.inj e1,hρ',show(p++[1])++Path.lab π=p++1::Path.lab π by simp] at e3;exact Lab.part (by omega) _ _ e3
  have hcl1:c1.length=a.sz:=RepO.len h1
  refine⟨c1++csN,RepO.mk2 (x:=(_,_)) sib g1,fun hd'=>by rw [g2 (by simpa [Path.deep] using hd')],fun A hA hc=>?_⟩
  have hc':=hc.append
  rw [hcl1] at hc';have i1:=g3 (A.add a.sz) (by rw [hA];rfl) hc'.2
  obtain⟨k1,q0,k2,k3⟩:=hL A hA;have nq:¬ Lab.le ρ q0:=fun h=>by
   have:=Lab.le_len h;have:=Lab.lt_len k3
   rw [hρ] at *;simp at *;omega
  have hout:∀ j,j<a.sz→A.block=A'.block→A.off+j<A'.off∨A'.off+n≤A.off+j:=by
   intro j hj hb
   by_cases hdp:Path.deep π=true
   ·exfalso
    obtain⟨_,q,e1,_,e3⟩:=GU π h2 hg hl hL' A' rfl;rw [← hb,k2] at e1;have e4:=Lab.le_len (e3 hdp)
    rw [← Option.some.inj e1] at e4;have:=Lab.lt_len k3
    simp at e4;omega
   ·subst hA;simp only [Option.map_some] at hl;obtain⟨k,e1,e2⟩:=FP π (by simpa using hdp) (RepO.len h2) hl;have e3:=Option.some.inj e1
    rw [Addr.add_add,Addr.add_off k1] at e3;left;rw [e3];simp only;omega
  intro j hj
  by_cases hlt:j<c1.length
  ·rw [W.keep k1 _ (hout j (by omega)) ((O1 _ _ k2 nq).2),hc'.1 j hlt,List.getElem_append_left hlt]
  ·have hj2:j - a.sz<csN.length:=by simp at hj;omega
   have ej:j=a.sz+(j - a.sz):=by omega
   have:=i1 (j - a.sz) hj2
   rw [Addr.add_add,← ej] at this;rw [this,List.getElem_append_right (by omega)];simp [hcl1]
 | .i n'::π,.list e t,.own m,p,cs,cs',x,L,d0,d,M,X,hr,hg,hs,hl,hn,hρ,hL,hd=>by
  simp only [AH] at hg;simp only [EK] at hs;split at hg
  ·split at hg
   ·rename_i h0 hn0;rw [if_pos h0,if_pos hn0] at hs;obtain⟨A,c,rfl,hle,hr⟩:=hr;have hlt:n'.toNat<List.length x:=by omega
    rcases hr with⟨rfl,rfl⟩ | ⟨b,o,arr,rfl,ho,hh,hsz,hi⟩
    ·omega
    ·obtain⟨ci,hc1,hc2⟩:=hi n'.toNat hlt;have ex:rd x n' t.zero=List.get x ⟨n'.toNat,hlt⟩:=by simp [rd,List.getD_eq_getElem?_getD,List.getElem?_eq_getElem hlt]
     have hcil:=RepO.len hc1
     have hca:CellsAt w ((⟨b,o,none⟩:Addr).add (n'.toNat * t.sz)) ci:=by
      intro j hj;rw [Addr.add_add,Ao hh,← Nat.add_assoc];exact hc2 j hj
     rw [ex] at hg hs;simp only [Al] at hl;rw [← hcil,GY (by rw [hcil];exact hca),hcil] at hl;obtain⟨⟨M1,X1⟩,hs1,hs2⟩:=Option.bind_eq_some_iff.1 hs;split at hs2
     ·rename_i hm;simp only at hm;subst hm;simp only [Option.some.injEq,Prod.mk.injEq] at hs2;obtain⟨rfl,rfl⟩:=hs2;have hρ':ρ=(p++[n'.toNat])++Path.lab π:=by rw [hρ];simp [Path.lab,St.lab]
      have hL':∀ A,some ((⟨b,o,none⟩:Addr).add (n'.toNat * t.sz))=some A→A.spot=none∧∃ q,own A.block=some q∧Lab.lt q (p++[n'.toNat]):=fun A hA=>by
       rw [← Option.some.inj hA,Addr.add_off rfl];exact⟨rfl,p,ho,Lab.lt_app _⟩
      obtain⟨csN,g1,g2,g3⟩:=Pl W O1 O2 hq π hc1 hg hs1 hl hn hρ' hL' hd;have gc:=g3 _ rfl hca
      have np:¬ Lab.le ρ p:=fun h=>by have:=Lab.le_len h;rw [hρ'] at this;simp at this;omega
      have hob:=O1 b p ho np
      -- the row itself
      obtain⟨arr2,hh2,hz2,hkeep⟩:∃ arr2,w2.heap[b]?=some (.cells arr2 e (0,0))∧arr2.size=arr.size∧∀ j,(j<o+n'.toNat * t.sz∨o+n'.toNat * t.sz+t.sz≤j)→arr2[j]?=arr[j]?:=by
       by_cases hb:b=A'.block
       ·obtain⟨ar,ar2,T,q1,q2,q3,q4,q5⟩:=W.at_;rw [← hb,hh] at q1;have q1':=Option.some.inj q1
        injection q1' with q6 q7 _
        subst q6 q7;refine⟨ar2,by rw [hb];exact q2,q3,fun j hj=>q4 j ?_⟩
        have hnd:Path.deep π=false:=by
         cases hd0:Path.deep π with
         | false=>rfl
         | true=>
          exfalso
          obtain⟨_,q,e1,_,e3⟩:=GU π hc1 hg hl hL' A' rfl;rw [← hb,ho] at e1;have e4:=Lab.le_len (e3 hd0)
          rw [← Option.some.inj e1] at e4;simp at e4;omega
        obtain⟨k,e1,e2⟩:=FP π hnd hcil hl;have e3:=Option.some.inj e1
        rw [Addr.add_add,Addr.add_off rfl] at e3;rw [e3];simp only;omega
       ·exact⟨arr,(hob.2 hb).trans hh,rfl,fun _ _=>rfl⟩
      refine⟨_,⟨some ⟨b,o,none⟩,c,by rw [List.length_set],by rw [List.length_set];exact hle,.inr ⟨b,o,arr2,rfl,hob.1,hh2,by rw [hz2];exact hsz,fun i h=>?_⟩⟩,fun _=>by simp,fun A hA hc=>?_⟩
      ·have hi':i<List.length x:=by simpa using h
       by_cases hin:i=n'.toNat
       ·subst hin;refine⟨csN,by simpa using g1,fun j hj=>?_⟩
        have:=gc j hj
        rw [Addr.add_add,Ao hh2,← Nat.add_assoc] at this;exact this
       ·obtain⟨cj,hj1,hj2⟩:=hi i hi';have hcjl:=RepO.len hj1
        refine⟨cj,?_,fun j hj=>?_⟩
        ·have:List.get (List.set x n'.toNat X1) ⟨i,h⟩=List.get x ⟨i,hi'⟩:=by
          simp only [List.get_eq_getElem,List.getElem_set];rw [if_neg (by omega)]
         rw [this];refine RepO.move O2 hj1 (fun b' s hb'=>?_)
         have hb2:own b'=some (p++i::s):=by rw [hb'];simp
         have np2:¬ Lab.le ρ (p++i::s):=by
          rw [hρ',show(p++[n'.toNat])++Path.lab π=p++n'.toNat::Path.lab π by simp];exact Lab.part (by omega) _ _
         have:=O1 b' _ hb2 np2
         refine⟨by simpa using this.1,this.2 ?_⟩
         rintro rfl
         obtain⟨q,e1,e2⟩:=hq;rw [hb2] at e1;have e3:=Lab.lt_le e2
         rw [← Option.some.inj e1,hρ',show(p++[n'.toNat])++Path.lab π=p++n'.toNat::Path.lab π by simp] at e3;exact Lab.part (by omega) _ _ e3
        ·rw [hkeep _ (by
          rcases Nat.lt_or_gt_of_ne hin with h1 | h1
          ·left;have:(i+1) * t.sz≤n'.toNat * t.sz:=Nat.mul_le_mul_right _ h1
           rw [Nat.add_mul,Nat.one_mul] at this;omega
          ·right;have:(n'.toNat+1) * t.sz≤i * t.sz:=Nat.mul_le_mul_right _ h1
           rw [Nat.add_mul,Nat.one_mul] at this;omega)]
         exact hj2 j hj
      ·obtain⟨k1,q0,k2,k3⟩:=hL A hA;have nq:¬ Lab.le ρ q0:=fun h=>by
        have:=Lab.le_len h;have:=Lab.lt_len k3
        rw [hρ] at *;simp at *;omega
       have hne:A.block≠A'.block:=by
        intro hb;obtain⟨_,q,e1,e2,e3⟩:=GU π hc1 hg hl hL' A' rfl
        by_cases hd0:Path.deep π=true
        ·rw [← hb,k2] at e1;have e4:=Lab.le_len (e3 hd0)
         rw [← Option.some.inj e1] at e4;have:=Lab.lt_len k3
         simp at e4;omega
        ·obtain⟨k,f1,_⟩:=FP π (by simpa using hd0) hcil hl;have f2:=Option.some.inj f1
         have:own A'.block=some p:=by rw [f2,Addr.add_block,Addr.add_block];exact ho
         rw [← hb,k2] at this;have:=Lab.lt_len k3
         simp_all
       have:=hc.frame ((O1 _ _ k2 nq).2 hne)
       simpa [List.length_set] using this
     ·simp at hs2
   ·simp at hg
  ·simp at hg
 | .f::_,.int _,_,_,_,_,_,_,_,_,_,_,_,hg,_,_,_,_,_,_=>by simp [AH] at hg
 | .f::_,.bool,_,_,_,_,_,_,_,_,_,_,_,hg,_,_,_,_,_,_=>by simp [AH] at hg
 | .f::_,.str,_,_,_,_,_,_,_,_,_,_,_,hg,_,_,_,_,_,_=>by simp [AH] at hg
 | .f::_,.list _ _,_,_,_,_,_,_,_,_,_,_,_,hg,_,_,_,_,_,_=>by simp [AH] at hg
 | .s::_,.int _,_,_,_,_,_,_,_,_,_,_,_,hg,_,_,_,_,_,_=>by simp [AH] at hg
 | .s::_,.bool,_,_,_,_,_,_,_,_,_,_,_,hg,_,_,_,_,_,_=>by simp [AH] at hg
 | .s::_,.str,_,_,_,_,_,_,_,_,_,_,_,hg,_,_,_,_,_,_=>by simp [AH] at hg
 | .s::_,.list _ _,_,_,_,_,_,_,_,_,_,_,_,hg,_,_,_,_,_,_=>by simp [AH] at hg
 | .i _::_,.int _,_,_,_,_,_,_,_,_,_,_,_,hg,_,_,_,_,_,_=>by simp [AH] at hg
 | .i _::_,.bool,_,_,_,_,_,_,_,_,_,_,_,hg,_,_,_,_,_,_=>by simp [AH] at hg
 | .i _::_,.str,_,_,_,_,_,_,_,_,_,_,_,hg,_,_,_,_,_,_=>by simp [AH] at hg
 | .i _::_,.pair _ _,_,_,_,_,_,_,_,_,_,_,_,hg,_,_,_,_,_,_=>by simp [AH] at hg
 | .i _::_,.list _ _,.ro,_,_,_,_,_,_,_,_,_,_,hg,_,_,_,_,_,_=>by simp [AH] at hg
 | .i _::_,.list _ _,.hole,_,_,_,_,_,_,_,_,_,_,hg,_,_,_,_,_,_=>by simp [AH] at hg
 | .i _::_,.list _ _,.pr _ _,_,_,_,_,_,_,_,_,_,_,hg,_,_,_,_,_,_=>by simp [AH] at hg
def Md.noOwn:Md→Bool
 | .ro=>true
 | .own _=>false
 | .pr a b=>a.noOwn && b.noOwn
 | .hole=>false
inductive AV where
 | none
 | dat (d:Dat)
 | snp (t:Ty) (x:t.D) (deps:List Nat) (src:Option Place)
 | ptr (p:Place)
 | rp (t:Ty) (x:t.D) (deps:List Nat)
 | nilS
 | hdr (k:Nat)
 | vw (k:Nat) (π:Path)
 | tup (vs:List Dat)
 | fn (f:Nat)
 | que (e:Nat) (t:Ty) (m:Md) (n:Int) (x:List t.D)
 | pp (t:Ty) (m:Md) (x:t.D) (r:Nat)
 | cp (s:Nat)
 | mp (k h:Nat)
 | mr (t:Ty) (x:t.D) (deps:List Nat) (h:Nat)
 | hs (t:Ty) (x:t.D) (h:Nat)
 | hc (k:Nat) (n:Option Nat)
 | lk (k o h:Nat) (n:Option Nat)
 | ap (e:Nat) (t:Ty) (x:List t.D) (p:Place)
structure S where
 sl:List AV
 bx:List (Option (Bool×Dat))
 lk:List Nat
structure Gh where
 own:Own
 bl:Nat→Nat×Nat
 hv:Nat→Ty×List Value
 arr0:Nat→Array Value
 T0:Nat→TypeId
def S.slot (σ:S) (i:Nat):AV:=σ.sl.getD i .none
def S.box (σ:S) (k:Nat):Option (Bool×Dat):=σ.bx.getD k none
def Ai (r:Nat):Lab:=if r % 2=0 then [r] else [r,0]
def Val:Ty→Value→List Value→Prop
 | .pair _ _,v,cs=>v=.agg cs.toArray
 | _,v,cs=>cs=[v]
theorem Val.cells {t:Ty} {v:Value} {cs:List Value} (h:Val t v cs) (h1:∀ u∈cs,u.oneCell'=true):v.cells.toList=cs:=by
 cases t with
 | pair a b=>simp only [Val] at h;subst h;simp [Value.cells]
 | _=>all_goals (simp only [Val] at h;subst h;have:=h1 v (by simp);cases v<;>simp_all [Value.cells,Value.oneCell'])
def Bf:Path→Ty→List Value→Option (List Value)
 | [],_,cs=>some cs
 | .f::π,.pair a _,cs=>Bf π a (cs.take a.sz)
 | .s::π,.pair a b,cs=>Bf π b (cs.drop a.sz)
 | _,_,_=>none
def okd (w:World) (own:Own) (deps:List Nat) (b:Nat):Prop:=b<w.heap.size∧(own b=none∨∃ r∈deps,∃ s,own b=some (r::s))
inductive RootR (G:Gh) (σ:S) (tmps:Array Value) (w:World):Nat→Dat→Option Addr→List Value→Prop where
 | slot (i:Nat) (d:Dat) (cs:List Value) (h:σ.slot i=.dat d) (hv:Val d.t (tmps.getD i undef) cs):RootR G σ tmps w (2 * i) d none cs
 | box (k:Nat) (d:Dat) (cs:List Value) (h:σ.box k=some (true,d)) (hl:cs.length=d.t.sz) (hc:CellsAt w ⟨(G.bl k).1,(G.bl k).2,none⟩ cs):RootR G σ tmps w (2 * k+1) d (some ⟨(G.bl k).1,(G.bl k).2,none⟩) cs
 | hdr (k:Nat) (d:Dat) (h:σ.box k=some (false,d)):RootR G σ tmps w (2 * k+1) d none (G.hv k).2
def okm (w:World) (own:Own) (deps:List Nat) (b:Nat):Prop:=okd w own deps b∨(b<w.heap.size∧own b=some [])
def SlotR (G:Gh) (σ:S) (tmps:Array Value) (w:World) (i:Nat):AV→Value→Prop
 | .none,_=>True
 | .dat d,v=>∃ cs,Val d.t v cs∧RepO w G.own d.t d.m [2 * i] cs d.x
 | .snp t x deps src,v=>∃ cs,Val t v cs∧RepV w (okd w G.own deps) t cs x ∧
  ∀ p,src=some p→∀ d L cr,RootR G σ tmps w p.root d L cr→∃ m L',AH p.path d.t d.m d.x=some ⟨t,m,x⟩∧Al w p.path d.t L cr=some (L',cs)
 | .ptr p,v=>∀ d L cr,RootR G σ tmps w p.root d L cr→∃ d0 A cs,AH p.path d.t d.m d.x=some d0∧Al w p.path d.t L cr=some (some A,cs)∧v=.pointer (some A)
 | .rp t x deps,v=>∃ A cs,v=.pointer (some A)∧okm w G.own deps A.block∧CellsAt w A cs∧RepV w (okd w G.own deps) t cs x
 | .nilS,v=>v=.slice none 0 0
 | .hdr k,v=>Val (G.hv k).1 v (G.hv k).2∧∃ d,σ.box k=some (false,d)
 | .vw k π,v=>(∃ A cs,v=.pointer (some A)∧A.spot=none∧G.own A.block=none∧A.block<w.heap.size∧Bf π (G.hv k).1 (G.hv k).2=some cs∧CellsAt w A cs)∧∃ d,σ.box k=some (false,d)
 | .tup vs,v=>∃ arr,v=.tuple arr∧arr.size=vs.length∧∀ j (h:j<vs.length),∃ cs,Val vs[j].t (arr.getD j undef) cs∧RepO w G.own vs[j].t vs[j].m [2 * i,j] cs vs[j].x
 | .fn f,v=>v=.func (.func f) #[] #[]
 | .que _ t m n x,v=>∃ A c,v=.slice A x.length c∧∀ j (h:j<x.length),n≤(j:Int)→∃ b o ci,A=some ⟨b,o,Option.none⟩∧G.own b=some [2 * i]∧CellsAt w ((⟨b,o,Option.none⟩:Addr).add (j * t.sz)) ci∧RepO w G.own t m [2 * i,j] ci (List.get x ⟨j,h⟩)
 | .cp s,v=>v=tmps.getD s undef
 | .mp k h,v=>1≤(G.bl k).2∧v=.pointer (some ⟨(G.bl k).1,(G.bl k).2 - 1,Option.none⟩)∧(G.arr0 k)[(G.bl k).2 - 1]?=some (.pointer (some ⟨(G.bl h).1,(G.bl h).2,Option.none⟩))
 | .mr t x deps h,v=>∃ b o cs,v=.pointer (some ⟨b,o,Option.none⟩)∧okm w G.own deps b∧w.cell? ⟨b,o,Option.none⟩=some (.pointer (some ⟨(G.bl h).1,(G.bl h).2,Option.none⟩))∧CellsAt w ⟨b,o+1,Option.none⟩ cs∧RepV w (okd w G.own deps) t cs x
 | .hs t x h,v=>∃ cs,v=.agg (.pointer (some ⟨(G.bl h).1,(G.bl h).2,Option.none⟩)::cs).toArray∧∀ w' own' m lab,RepO w' own' t m lab cs x
 | .hc k n,v=>Val (G.hv k).1 v (G.hv k).2∧∀ l,n=some l→∃ A c,v=.slice A l c
 | .lk k o h n,_=>G.own (G.bl k).1=some [2 * k+1]∧(∃ e t,(G.hv h).1=.list e t)∧∃ u,(G.hv h).2=[u]∧u.oneCell'=true∧w.cell? ⟨(G.bl k).1,(G.bl k).2+o,Option.none⟩=some u∧∀ l,n=some l→∃ A c,u=.slice A l c
 | .ap e t x p,v=>RepO w G.own (.list e t) (.own .ro) (Ai p.root++p.path.lab) [v] x
 | .pp t m x r,v=>∃ A ci,v=.pointer (some A)∧(∃ s,G.own A.block=some (r::s))∧CellsAt w A ci∧RepO w G.own t m [2 * i] ci x
def Ry (G:Gh) (w:World) (k:Nat):Bool×Dat→Prop
 | (true,d)=>∃ arr,w.heap[(G.bl k).1]?=some (.cells arr (G.T0 k) (0,0))∧G.own (G.bl k).1=some [2 * k+1]∧arr.size=(G.arr0 k).size∧(G.bl k).2+d.t.sz≤arr.size ∧
  (∀ j,(j<(G.bl k).2∨(G.bl k).2+d.t.sz≤j)→arr[j]?=(G.arr0 k)[j]?)∧∃ cs,RepO w G.own d.t d.m [2 * k+1,0] cs d.x∧∀ j (hj:j<cs.length),arr[(G.bl k).2+j]?=some cs[j]
 | (false,d)=>d.t=(G.hv k).1∧RepO w G.own d.t d.m [2 * k+1,0] (G.hv k).2 d.x
structure Rel (w0:World) (G0:Gh) (np:Nat) (σ:S) (a:Act) (w:World) (G:Gh):Prop where
 os:w.os=w0.os
 tape:w.tape=w0.tape
 output:w.output=w0.output
 size:w0.heap.size≤w.heap.size
 live:∀ b l,G.own b=some l→b<w.heap.size
 keep:∀ b,b<w0.heap.size→G0.own b=none→G.own b=none∧w.heap[b]?=w0.heap[b]?
 frn:∀ b,b<w0.heap.size→G0.own b=some []→G.own b=some []∧w.heap[b]?=w0.heap[b]?
 ext:∀ k,k<np→G.bl k=G0.bl k∧G.hv k=G0.hv k∧G.arr0 k=G0.arr0 k∧G.T0 k=G0.T0 k
 slots:∀ i,SlotR G σ a.tmps w i (σ.slot i) (a.tmps.getD i undef)
 boxes:∀ k bx,σ.box k=some bx→Ry G w k bx
 tmps:σ.sl.length=a.tmps.size
 defers:a.defers=[]
@[simp] def AV.hk:AV→Option Nat
 | .hdr k=>some k
 | .vw k _=>some k
 | _=>Option.none
theorem SlotR.hk {G:Gh} {σ:S} {tmps:Array Value} {w:World} {i:Nat} {av:AV} {v:Value} (h:SlotR G σ tmps w i av v) {k:Nat} (hk:av.hk=some k):∃ d,σ.box k=some (false,d):=by
 cases av<;>simp only [AV.hk,Option.some.injEq,reduceCtorEq] at hk
 case hdr k'=>subst hk;exact h.2
 case vw k' π=>subst hk;exact h.2
@[simp] def AV.mb:AV→List Nat
 | .mp k h=>[k,h]
 | .mr _ _ _ h=>[h]
 | .hs _ _ h=>[h]
 | .hc k _=>[k]
 | .lk k _ h _=>[k,h]
 | _=>[]
def AV.kill (r:Nat):AV→AV
 | .snp t x deps src=>if r∈deps∨(src.map (·.root))=some r then .none else .snp t x deps src
 | .ptr p=>if p.root=r∧(p.path.deep=true∨r % 2=0) then .none else .ptr p
 | .rp t x deps=>if r∈deps then .none else .rp t x deps
 | .pp t m x r'=>if r'=r then .none else .pp t m x r'
 | .cp s=>if 2 * s=r then .none else .cp s
 | .mr t x deps h=>if r∈deps then .none else .mr t x deps h
 | .lk k o h n=>if 2 * k+1=r then .none else .lk k o h n
 | .ap e t x p=>if p.root=r then .none else .ap e t x p
 | av=>av
def AV.gone (r:Nat):AV→AV
 | .ptr p=>if p.root=r then .none else .ptr p
 | .hdr k=>if 2 * k+1=r then .none else .hdr k
 | .vw k π=>if 2 * k+1=r then .none else .vw k π
 | .mp k h=>if 2 * k+1=r∨2 * h+1=r then .none else .mp k h
 | .mr t x deps h=>if r∈deps∨2 * h+1=r then .none else .mr t x deps h
 | .hs t x h=>if 2 * h+1=r then .none else .hs t x h
 | .hc k n=>if 2 * k+1=r then .none else .hc k n
 | .lk k o h n=>if 2 * k+1=r∨2 * h+1=r then .none else .lk k o h n
 | av=>av.kill r
def AV.isN:AV→Bool
 | .none=>true
 | _=>false
def MO (f:AV→AV):List AV→List AV
 | []=>[]
 | a::l=>(bif a.isN then .none else f a)::MO f l
@[simp] theorem Hg (f:AV→AV):∀ l:List AV,(MO f l).length=l.length
 | []=>rfl
 | a::l=>by simp only [MO,List.length_cons,Hg f l]
theorem MP {f:AV→AV} (hf:f .none=.none):∀ (l:List AV) (i:Nat),(MO f l)[i]?=l[i]?.map f
 | [],_=>rfl
 | a::l,0=>by
  simp only [MO,List.getElem?_cons_zero,Option.map_some];cases a<;>simp [AV.isN,hf]
 | a::l,i+1=>by simp only [MO,List.getElem?_cons_succ,MP hf l i]
theorem JS {w w':World} {own:Own}:∀ (π:Path) {t:Ty} {m:Md} {p:Lab} {cs:List Value} {x:t.D} {L:Option Addr} {d:Dat},
 RepO w own t m p cs x→AH π t m x=some d→(∀ b s,own b=some (p++s)→w'.heap[b]?=w.heap[b]?)→Al w' π t L cs=Al w π t L cs
 | [],t,m,p,cs,x,L,d,hr,hg,hb=>rfl
 | .f::π,.pair a b,m,p,cs,x,L,d,hr,hg,hb=>by
  obtain⟨c1,c2,rfl,h1,h2⟩:=hr;have e:(c1++c2).take a.sz=c1:=by rw [← RepO.len h1];simp
  simp only [Al,e];exact JS π h1 hg (fun b s h=>hb b (0::s) (by simpa using h))
 | .s::π,.pair a b,m,p,cs,x,L,d,hr,hg,hb=>by
  obtain⟨c1,c2,rfl,h1,h2⟩:=hr;have e:(c1++c2).drop a.sz=c2:=by rw [← RepO.len h1];simp
  simp only [Al,e];exact JS π h2 hg (fun b s h=>hb b (1::s) (by simpa using h))
 | .i n::π,.list e t,.own m,p,cs,x,L,d,hr,hg,hb=>by
  simp only [AH] at hg;split at hg
  ·split at hg
   ·rename_i h0 hn;obtain⟨A,c,rfl,hl,hr⟩:=hr;have hlt:n.toNat<List.length x:=by omega
    rcases hr with⟨_,rfl⟩ | ⟨b,o,arr,rfl,ho,hh,hs,hi⟩
    ·omega
    ·obtain⟨ci,hc1,hc2⟩:=hi n.toNat hlt;have ex:rd x n t.zero=List.get x ⟨n.toNat,hlt⟩:=by simp [rd,List.getD_eq_getElem?_getD,List.getElem?_eq_getElem hlt]
     rw [ex] at hg;have hbb:=hb b [] (by simpa using ho)
     have e1:LM w' ((⟨b,o,none⟩:Addr).add (n.toNat * t.sz)) t.sz=LM w ((⟨b,o,none⟩:Addr).add (n.toNat * t.sz)) t.sz:=by
      simp only [LM];apply List.map_congr_left
      intro j _;rw [World.cell?_of_block (w:=w) (w':=w') (by rw [Addr.add_block,Addr.add_block];exact hbb)]
     simp only [Al,e1];have hca:CellsAt w ((⟨b,o,none⟩:Addr).add (n.toNat * t.sz)) ci:=by
      intro j hj;rw [Addr.add_add,Ao hh,← Nat.add_assoc];exact hc2 j hj
     rw [← RepO.len hc1,GY (by rw [RepO.len hc1];exact hca),RepO.len hc1];exact JS π hc1 hg (fun b s h=>hb b (n.toNat::s) (by simpa using h))
   ·simp at hg
  ·simp at hg
 | .f::_,.int _,_,_,_,_,_,_,_,hg,_=>by simp [AH] at hg
 | .f::_,.bool,_,_,_,_,_,_,_,hg,_=>by simp [AH] at hg
 | .f::_,.str,_,_,_,_,_,_,_,hg,_=>by simp [AH] at hg
 | .f::_,.list _ _,_,_,_,_,_,_,_,hg,_=>by simp [AH] at hg
 | .s::_,.int _,_,_,_,_,_,_,_,hg,_=>by simp [AH] at hg
 | .s::_,.bool,_,_,_,_,_,_,_,hg,_=>by simp [AH] at hg
 | .s::_,.str,_,_,_,_,_,_,_,hg,_=>by simp [AH] at hg
 | .s::_,.list _ _,_,_,_,_,_,_,_,hg,_=>by simp [AH] at hg
 | .i _::_,.int _,_,_,_,_,_,_,_,hg,_=>by simp [AH] at hg
 | .i _::_,.bool,_,_,_,_,_,_,_,hg,_=>by simp [AH] at hg
 | .i _::_,.str,_,_,_,_,_,_,_,hg,_=>by simp [AH] at hg
 | .i _::_,.pair _ _,_,_,_,_,_,_,_,hg,_=>by simp [AH] at hg
 | .i _::_,.list _ _,.ro,_,_,_,_,_,_,hg,_=>by simp [AH] at hg
 | .i _::_,.list _ _,.hole,_,_,_,_,_,_,hg,_=>by simp [AH] at hg
 | .i _::_,.list _ _,.pr _ _,_,_,_,_,_,_,hg,_=>by simp [AH] at hg
theorem OO {w w':World}:∀ (π:Path) {t:Ty} {m m':Md} {x x':t.D} {cs cs' c0:List Value} {L L':Option Addr} {d:Dat},π.deep=false→AH π t m x=some d→Al w π t L cs=some (L',c0) →
 ∃ d' c1,AH π t m' x'=some d'∧d'.t=d.t∧Al w' π t L cs'=some (L',c1)
 | [],t,m,m',x,x',cs,cs',c0,L,L',d,_,hg,hl=>by
  simp only [AH,Option.some.injEq] at hg;simp only [Al,Option.some.injEq,Prod.mk.injEq] at hl;subst hg;obtain⟨rfl,rfl⟩:=hl;exact⟨_,_,rfl,rfl,rfl⟩
 | .f::π,.pair a b,m,m',x,x',cs,cs',c0,L,L',d,hd,hg,hl=>OO π (by simpa [Path.deep] using hd) hg hl
 | .s::π,.pair a b,m,m',x,x',cs,cs',c0,L,L',d,hd,hg,hl=>OO π (by simpa [Path.deep] using hd) hg hl
 | .i _::_,_,_,_,_,_,_,_,_,_,_,_,hd,_,_=>by simp [Path.deep] at hd
 | .f::_,.int _,_,_,_,_,_,_,_,_,_,_,_,hg,_=>by simp [AH] at hg
 | .f::_,.bool,_,_,_,_,_,_,_,_,_,_,_,hg,_=>by simp [AH] at hg
 | .f::_,.str,_,_,_,_,_,_,_,_,_,_,_,hg,_=>by simp [AH] at hg
 | .f::_,.list _ _,_,_,_,_,_,_,_,_,_,_,_,hg,_=>by simp [AH] at hg
 | .s::_,.int _,_,_,_,_,_,_,_,_,_,_,_,hg,_=>by simp [AH] at hg
 | .s::_,.bool,_,_,_,_,_,_,_,_,_,_,_,hg,_=>by simp [AH] at hg
 | .s::_,.str,_,_,_,_,_,_,_,_,_,_,_,hg,_=>by simp [AH] at hg
 | .s::_,.list _ _,_,_,_,_,_,_,_,_,_,_,_,hg,_=>by simp [AH] at hg
theorem Rel.root {w0:World} {G0:Gh} {np:Nat} {σ:S} {a:Act} {w:World} {G:Gh} (h:Rel w0 G0 np σ a w G) {r:Nat} {d:Dat} {L:Option Addr} {cs:List Value} (hr:RootR G σ a.tmps w r d L cs):
 RepO w G.own d.t d.m (Ai r) cs d.x∧(∀ A,L=some A→CellsAt w A cs∧A.spot=none∧∃ q,G.own A.block=some q∧Lab.lt q (Ai r)):=by
 cases hr with
 | slot i d cs hs hv=>
  have:=h.slots i
  rw [hs] at this;obtain⟨cs',hv',hr⟩:=this;have e:cs=cs':=by
   cases hdt:d.t<;>rw [hdt] at hv hv'<;>simp only [Val] at hv hv'<;>simp_all
  subst e;refine⟨?_,fun A hA=>by cases hA⟩
  rw [Ai,if_pos (by omega)];exact hr
 | box k d cs hb hl hc=>
  obtain⟨arr,h1,h2,h3,h4,h5,cs',h6,h7⟩:=h.boxes k _ hb;have e:cs=cs':=by
   apply List.ext_getElem (by rw [hl,RepO.len h6])
   intro j hj hj';have e1:=hc j hj
   rw [Ao h1] at e1;have e2:=h7 j hj'
   rw [e1] at e2;exact Option.some.inj e2
  subst e;refine⟨?_,fun A hA=>?_⟩
  ·rw [Ai,if_neg (by omega)];exact h6
  ·rw [← Option.some.inj hA];exact⟨hc,rfl,[2 * k+1],h2,by rw [Ai,if_neg (by omega)];exact Lab.lt_app (p:=[2 * k+1]) 0⟩
 | hdr k d hb=>
  obtain⟨h1,h2⟩:=h.boxes k _ hb;refine⟨?_,fun A hA=>by cases hA⟩
  rw [Ai,if_neg (by omega)];exact h2
theorem Rel.rootOf {w0:World} {G0:Gh} {np:Nat} {σ:S} {a:Act} {w:World} {G:Gh} (h:Rel w0 G0 np σ a w G):
 (∀ i d,σ.slot i=.dat d→∃ cs,RootR G σ a.tmps w (2 * i) d none cs∧Val d.t (a.tmps.getD i undef) cs) ∧
 (∀ k d,σ.box k=some (true,d)→∃ cs,RootR G σ a.tmps w (2 * k+1) d (some ⟨(G.bl k).1,(G.bl k).2,none⟩) cs):=by
 refine⟨fun i d hs=>?_,fun k d hb=>?_⟩
 ·have:=h.slots i
  rw [hs] at this;obtain⟨cs,hv,_⟩:=this;exact⟨cs,.slot i d cs hs hv,hv⟩
 ·obtain⟨arr,h1,h2,h3,h4,h5,cs,h6,h7⟩:=h.boxes k _ hb;exact⟨cs,.box k d cs hb (RepO.len h6) (fun j hj=>by rw [Ao h1];exact h7 j hj)⟩
theorem Act.put_getD (a:Act) (d i:Nat) (v:Value) (h:d<a.tmps.size):(a.put (some d) v).tmps.getD i undef=if d=i then v else a.tmps.getD i undef:=by
 simp only [Act.put,Array.getD_eq_getD_getElem?,Array.getElem?_setIfInBounds];split
 ·subst_vars;simp [h]
 ·rfl
theorem Act.put_off {a:Act} {d i:Nat} {v:Value} {rs:List Nat} (h:2 * i ∉ 2 * d::rs):(a.put (some d) v).tmps.getD i undef=a.tmps.getD i undef:=by
 have hne:d≠i:=fun e=>h (by rw [e];simp)
 simp only [Act.put,Array.getD_eq_getD_getElem?,Array.getElem?_setIfInBounds,if_neg hne]
structure Chg (w w':World) (own own':Own) (rs:List Nat):Prop where
 size:w.heap.size≤w'.heap.size
 none_:∀ b,own b=none→b<w.heap.size→own' b=none∧w'.heap[b]?=w.heap[b]?
 some_:∀ b r s,own b=some (r::s)→r ∉ rs→own' b=some (r::s)∧w'.heap[b]?=w.heap[b]?
 nil_:∀ b,own b=some []→own' b=some []∧w'.heap[b]?=w.heap[b]?
theorem Chg.n {w w':World} {own own':Own} {rs:List Nat} (h:Chg w w' own own' rs):∀ b,own b=none→b<w.heap.size→own' b=none∧b<w'.heap.size∧w'.heap[b]?=w.heap[b]?:=
 fun b h1 h2=>⟨(h.none_ b h1 h2).1,by have:=h.size;omega,(h.none_ b h1 h2).2⟩
theorem Chg.okd {w w':World} {own own':Own} {rs deps:List Nat} (h:Chg w w' own own' rs) (hd:∀ r∈rs,r ∉ deps) (b:Nat) (hb:okd w own deps b):okd w' own' deps b∧w'.heap[b]?=w.heap[b]?:=by
 obtain⟨h1,h2⟩:=hb;have hs:=h.size
 rcases h2 with h2 | ⟨r,hr,s,h2⟩
 ·exact⟨⟨by omega,.inl (h.none_ b h2 h1).1⟩,(h.none_ b h2 h1).2⟩
 ·have:=h.some_ b r s h2 (fun hm=>hd r hm hr)
  exact⟨⟨by omega,.inr ⟨r,hr,s,this.1⟩⟩,this.2⟩
theorem Bi (r:Nat):∃ s,Ai r=r::s:=by unfold Ai;split<;>exact⟨_,rfl⟩
theorem Chg.root {w w':World} {own own':Own} {rs:List Nat} (h:Chg w w' own own' rs) {r:Nat} (hr:r ∉ rs):∀ b s,own b=some (Ai r++s)→own' b=some (Ai r++s)∧w'.heap[b]?=w.heap[b]?:=by
 intro b s hb;obtain⟨s0,e⟩:=Bi r;rw [e] at hb ⊢;exact h.some_ b r _ hb hr
def AV.isDat:AV→Bool
 | .dat _ | .tup (_::_) | .que .. | .pp ..=>true
 | _=>false
structure Kept (σ σ':S) (rs:List Nat) (i:Nat):Prop where
 same:σ'.slot i=.none∨(σ'.slot i=σ.slot i∧(∀ r∈rs,(σ.slot i).kill r=σ.slot i)∧((σ.slot i).isDat=true→2 * i ∉ rs))
theorem SlotR.frame {G G':Gh} {σ σ':S} {tmps tmps':Array Value} {w w':World} {rs:List Nat} {i:Nat} {av:AV} {v:Value}
 (hc:Chg w w' G.own G'.own rs)
 (hr:∀ r d L cs,r ∉ rs→RootR G' σ' tmps' w' r d L cs→RootR G σ tmps w r d L cs)
 (hb:∀ p d' L' cs',av=.ptr p→p.root∈rs→RootR G' σ' tmps' w' p.root d' L' cs'→∃ d cs,RootR G σ tmps w p.root d L' cs∧d.t=d'.t)
 (hR:∀ r d L cs,RootR G σ tmps w r d L cs→RepO w G.own d.t d.m (Ai r) cs d.x)
 (hh:∀ k,av.hk=some k→G'.hv k=G.hv k∧∃ d,σ'.box k=some (false,d))
 (hi:av.isDat=true→2 * i ∉ rs) (hk:∀ r∈rs,av.kill r=av) (h:SlotR G σ tmps w i av v) (htm:∀ s,av=.cp s→tmps'.getD s undef=tmps.getD s undef) (hmp:∀ k,k∈av.mb→G'.bl k=G.bl k∧G'.arr0 k=G.arr0 k∧G'.hv k=G.hv k):SlotR G' σ' tmps' w' i av v:=by
 cases av with
 | none=>trivial
 | dat d=>
  obtain⟨cs,h1,h2⟩:=h;exact⟨cs,h1,RepO.move hc.n h2 (fun b s hb=>by
   have:=hc.some_ b (2 * i) s (by simpa using hb) (hi rfl)
   simpa using this)⟩
 | snp t x deps src=>
  obtain⟨cs,h1,h2,h3⟩:=h;have hdep:∀ r∈rs,r ∉ deps:=fun r hr' hm=>by
   have:=hk r hr'
   simp only [AV.kill] at this;rw [if_pos (.inl hm)] at this;cases this
  refine⟨cs,h1,RepV.mono (hc.okd hdep) h2,fun p hp d L cr hroot=>?_⟩
  have hpr:p.root ∉ rs:=fun hm=>by
   have:=hk _ hm
   simp only [AV.kill] at this;rw [if_pos (.inr (by rw [hp];rfl))] at this;cases this
  have h0:=hr _ _ _ _ hpr hroot
  obtain⟨m,L',g1,g2⟩:=h3 p hp d L cr h0;exact⟨m,L',g1,by rw [JS p.path (hR _ _ _ _ h0) g1 (fun b s hb=>(hc.root hpr b s hb).2)];exact g2⟩
 | ptr p=>
  intro d L cr hroot
  by_cases hpr:p.root∈rs
  ·have hdp:p.path.deep=false:=by
    cases hd:p.path.deep with
    | false=>rfl
    | true=>
     have:=hk _ hpr
     simp [AV.kill,hd] at this
   obtain⟨d1,cs1,g0,gt⟩:=hb p d L cr rfl hpr hroot;obtain⟨d0,A,cs,g1,g2,g3⟩:=h d1 L cs1 g0;obtain⟨dt,dm,dx⟩:=d;obtain⟨d1t,d1m,d1x⟩:=d1;simp only at gt;subst gt;obtain⟨d',c1,f1,_,f2⟩:=OO (w':=w') (m':=dm) (x':=dx) (cs':=cr) p.path hdp g1 g2;exact⟨d',A,c1,f1,f2,g3⟩
  ·have h0:=hr _ _ _ _ hpr hroot
   obtain⟨d0,A,cs,g1,g2,g3⟩:=h d L cr h0;exact⟨d0,A,cs,g1,by rw [JS p.path (hR _ _ _ _ h0) g1 (fun b s hb=>(hc.root hpr b s hb).2)];exact g2,g3⟩
 | rp t x deps=>
  obtain⟨A,cs,h1,h2,h3,h4⟩:=h;have hdep:∀ r∈rs,r ∉ deps:=fun r hr' hm=>by
   have:=hk r hr'
   simp only [AV.kill] at this;rw [if_pos hm] at this;cases this
  have:okm w' G'.own deps A.block∧w'.heap[A.block]?=w.heap[A.block]?:=by
   rcases h2 with h2 | ⟨h2,h2'⟩
   ·have:=hc.okd hdep _ h2
    exact⟨.inl this.1,this.2⟩
   ·have:=hc.nil_ A.block h2'
    exact⟨.inr ⟨Nat.lt_of_lt_of_le h2 hc.size,this.1⟩,this.2⟩
  exact⟨A,cs,h1,this.1,h3.frame this.2,RepV.mono (hc.okd hdep) h4⟩
 | nilS=>exact h
 | hdr k=>exact⟨by rw [(hh k rfl).1];exact h.1,(hh k rfl).2⟩
 | vw k π=>
  obtain⟨⟨A,cs,h1,hsp,h2,h3,h4,h5⟩,_⟩:=h;have:=hc.none_ _ h2 h3
  exact⟨⟨A,cs,h1,hsp,this.1,Nat.lt_of_lt_of_le h3 hc.size,by rw [(hh k rfl).1];exact h4,h5.frame this.2⟩,(hh k rfl).2⟩
 | tup vs=>
  obtain⟨arr,h1,h2,h3⟩:=h;refine⟨arr,h1,h2,fun j hj=>?_⟩
  obtain⟨cs,g1,g2⟩:=h3 j hj;exact⟨cs,g1,RepO.move hc.n g2 (fun b s hb=>by
   have:=hc.some_ b (2 * i) (j::s) (by simpa using hb) (hi (by cases vs with
    | nil=>exact absurd hj (Nat.not_lt_zero j)
    | cons _ _=>rfl))
   simpa using this)⟩
 | fn f=>exact h
 | que e t m n x=>
  obtain⟨A,c,h1,h2⟩:=h;refine⟨A,c,h1,fun j hj hn=>?_⟩
  obtain⟨b,o,ci,e1,e2,e3,e4⟩:=h2 j hj hn;have:=hc.some_ b (2 * i) [] e2 (hi rfl)
  exact⟨b,o,ci,e1,this.1,e3.frame (by rw [Addr.add_block];exact this.2),RepO.move hc.n e4 (fun b s hb=>by
   have:=hc.some_ b (2 * i) (j::s) (by simpa using hb) (hi rfl)
   simpa using this)⟩
 | cp s=>exact Eq.trans h (htm s rfl).symm
 | mp k k'=>
  obtain⟨h3,h4,h5⟩:=h;obtain⟨e1,e2,_⟩:=hmp k (by simp);obtain⟨e3,_,_⟩:=hmp k' (by simp);exact⟨by rw [e1];exact h3,by rw [e1];exact h4,by rw [e1,e2,e3];exact h5⟩
 | mr t x deps k=>
  obtain⟨b,o,cs,h1,h2,h3,h4,h5⟩:=h;have hdep:∀ r∈rs,r ∉ deps:=fun r hr' hm=>by
   have:=hk r hr'
   simp only [AV.kill] at this;rw [if_pos hm] at this;cases this
  have:okm w' G'.own deps b∧w'.heap[b]?=w.heap[b]?:=by
   rcases h2 with h2 | ⟨h2,h2'⟩
   ·have:=hc.okd hdep _ h2
    exact⟨.inl this.1,this.2⟩
   ·have:=hc.nil_ b h2'
    exact⟨.inr ⟨Nat.lt_of_lt_of_le h2 hc.size,this.1⟩,this.2⟩
  obtain⟨e1,_⟩:=hmp k (by simp);exact⟨b,o,cs,h1,this.1,by rw [e1];exact(World.cell?_of_block (w:=w) (w':=w') this.2).trans h3,h4.frame this.2,RepV.mono (hc.okd hdep) h5⟩
 | hs t x k=>
  obtain⟨e1,_⟩:=hmp k (by simp);obtain⟨cs,h1,h2⟩:=h;exact⟨cs,by rw [e1];exact h1,h2⟩
 | hc k n=>
  obtain⟨_,_,e3⟩:=hmp k (by simp);obtain⟨h,hl⟩:=h;exact⟨by rw [e3];exact h,hl⟩
 | lk k o k' n=>
  obtain⟨h1,h2,u,h3,h4,h5,h6⟩:=h;obtain⟨e1,_,_⟩:=hmp k (by simp);obtain⟨_,_,e3⟩:=hmp k' (by simp);have hrr:2 * k+1 ∉ rs:=fun hm=>by
   have:=hk _ hm
   simp only [AV.kill,if_true] at this;cases this
  have:=hc.some_ _ (2 * k+1) [] h1 hrr
  exact⟨by rw [e1];exact this.1,by rw [e3];exact h2,u,by rw [e3];exact h3,h4,by rw [e1];exact(World.cell?_of_block (w:=w) (w':=w') this.2).trans h5,h6⟩
 | ap e t x p=>
  have hrr:p.root ∉ rs:=fun hm=>by
   have:=hk _ hm
   simp only [AV.kill,if_true] at this;cases this
  refine RepO.move hc.n h (fun b s hb=>?_)
  have:=hc.root hrr b (p.path.lab++s) (by simpa using hb)
  simpa using this
 | pp t m x r=>
  obtain⟨A,ci,h1,⟨s,h2⟩,h3,h4⟩:=h;have hrr:r ∉ rs:=fun hm=>by
   have:=hk r hm
   simp only [AV.kill,if_true] at this;cases this
  have:=hc.some_ _ r s h2 hrr
  exact⟨A,ci,h1,⟨s,this.1⟩,h3.frame this.2,RepO.move hc.n h4 (fun b s hb=>by
   have:=hc.some_ b (2 * i) s (by simpa using hb) (hi rfl)
   simpa using this)⟩
theorem Rel.step {w0 w w':World} {G0 G G':Gh} {np:Nat} {σ σ':S} {a a':Act} (h:Rel w0 G0 np σ a w G) (rs:List Nat) (hc:Chg w w' G.own G'.own rs)
 (hos:w'.os=w.os) (htape:w'.tape=w.tape) (hout:w'.output=w.output) (hlive:∀ b l,G'.own b=some l→b<w'.heap.size)
 (hext:∀ k,k<np→G'.bl k=G.bl k∧G'.hv k=G.hv k∧G'.arr0 k=G.arr0 k∧G'.T0 k=G.T0 k)
 (ht:σ'.sl.length=a'.tmps.size) (hd:a'.defers=[])
 (hsl:∀ i,(Kept σ σ' rs i∧a'.tmps.getD i undef=a.tmps.getD i undef)∨(SlotR G' σ' a'.tmps w' i (σ'.slot i) (a'.tmps.getD i undef)∧((σ'.slot i).isDat=true→2 * i∈rs)))
 (hbx:∀ k bx,σ'.box k=some bx→(σ.box k=some bx∧2 * k+1 ∉ rs∧G'.bl k=G.bl k∧G'.hv k=G.hv k∧G'.arr0 k=G.arr0 k∧G'.T0 k=G.T0 k)∨(Ry G' w' k bx∧2 * k+1∈rs))
 (hpb:∀ k b d',2 * k+1∈rs→σ'.box k=some (b,d')→(∃ d,σ.box k=some (b,d)∧d.t=d'.t∧G'.bl k=G.bl k∧G'.hv k=G.hv k) ∨
  (∀ i,Kept σ σ' rs i→¬ (SlotR G' σ' a'.tmps w' i (σ'.slot i) (a'.tmps.getD i undef)∧((σ'.slot i).isDat=true→2 * i∈rs))→(∀ p,σ'.slot i=.ptr p→p.root≠2 * k+1)∧(σ'.slot i).hk≠some k))
 (hgone:∀ i k,(σ'.slot i).hk=some k→∃ d,σ'.box k=some (false,d)) (htm:∀ i,2 * i ∉ rs→a'.tmps.getD i undef=a.tmps.getD i undef:=by first | exact fun _ _=>rfl | exact fun _ hi=>Act.put_off hi) (hmp:∀ i k,σ'.slot i=σ.slot i→k∈(σ.slot i).mb→¬ (SlotR G' σ' a'.tmps w' i (σ'.slot i) (a'.tmps.getD i undef)∧((σ'.slot i).isDat=true→2 * i∈rs))→G'.bl k=G.bl k∧G'.arr0 k=G.arr0 k∧G'.hv k=G.hv k:=by exact fun _ _ _ _ _=>⟨rfl,rfl,rfl⟩):Rel w0 G0 np σ' a' w' G':=by
 have hR:=fun r d L cs (hr:RootR G σ a.tmps w r d L cs)=>(h.root hr).1
 have hroots:∀ r d L cs,r ∉ rs→RootR G' σ' a'.tmps w' r d L cs→RootR G σ a.tmps w r d L cs:=by
  intro r d L cs hr hroot;cases hroot with
  | slot i d cs hs hv=>
   rcases hsl i with⟨hk,ht'⟩ | ⟨_,hm⟩
   ·rcases hk.same with hk | ⟨hk,_,_⟩
    ·rw [hk] at hs;cases hs
    ·exact .slot i d cs (by rw [← hk];exact hs) (by rw [← ht'];exact hv)
   ·exact absurd (hm (by rw [hs];rfl)) hr
  | box k d cs hb hl hcl=>
   rcases hbx k _ hb with⟨h1,h2,h3,h4,_,_⟩ | ⟨_,hm⟩
   ·rw [h3] at hcl ⊢;obtain⟨arr,e1,e2,_⟩:=h.boxes k _ h1;have:=(hc.some_ _ (2 * k+1) [] e2 h2).2
    refine .box k d cs h1 hl (fun j hj=>?_)
    rw [← hcl j hj];exact(World.cell?_of_block (w:=w) (by rw [Addr.add_block];exact this)).symm
   ·exact absurd hm hr
  | hdr k d hb=>
   rcases hbx k _ hb with⟨h1,h2,h3,h4,_,_⟩ | ⟨_,hm⟩
   ·rw [h4];exact .hdr k d h1
   ·exact absurd hm hr
 refine { os:=hos.trans h.os,tape:=htape.trans h.tape,output:=hout.trans h.output,size:=Nat.le_trans h.size hc.size,live:=hlive,keep:=fun b hb h0=>?_,frn:=fun b hb h0=>?_,ext:=fun k hk=>?_,slots:=fun i=>?_,boxes:=fun k bx hb=>?_,tmps:=ht,defers:=hd }
 ·obtain⟨e1,e2⟩:=h.keep b hb h0;have:=hc.none_ b e1 (by have:=h.size;omega)
  exact⟨this.1,this.2.trans e2⟩
 ·obtain⟨e1,e2⟩:=h.frn b hb h0;have:=hc.nil_ b e1
  exact⟨this.1,this.2.trans e2⟩
 ·obtain⟨a1,a2,a3,a4⟩:=hext k hk;obtain⟨b1,b2,b3,b4⟩:=h.ext k hk;exact⟨a1.trans b1,a2.trans b2,a3.trans b3,a4.trans b4⟩
 ·by_cases hright:(SlotR G' σ' a'.tmps w' i (σ'.slot i) (a'.tmps.getD i undef)∧((σ'.slot i).isDat=true→2 * i∈rs))
  ·exact hright.1
  rcases hsl i with⟨hk,ht'⟩ | ⟨hs,_⟩
  ·rcases hk.same with hn | ⟨hs,hkill,hdat⟩
   ·rw [hn];trivial
   ·rw [hs,ht'];refine SlotR.frame hc hroots ?_ hR ?_ hdat hkill (h.slots i) (fun s e=>htm s (fun hm=>by have:=hkill _ hm;rw [e] at this;simp [AV.kill] at this)) (fun k e=>hmp i k hs e hright)
    ·intro p d' L' cs' hp hm hroot;have hpi:σ'.slot i=.ptr p:=by rw [hs,hp]
     generalize hrr:p.root=rr at hroot hm;cases hroot with
     | slot j d cs hsj hv=>
      have hdeep:=hkill _ hm
      rw [hp] at hdeep;simp only [AV.kill] at hdeep;rw [if_pos ⟨hrr,.inr (by omega)⟩] at hdeep;cases hdeep
     | box k d cs hbk hl hcl=>
      rcases hpb k true _ hm hbk with⟨d0,q1,q2,q3,q4⟩ | hno
      ·obtain⟨cs0,q5⟩:=(h.rootOf).2 k d0 q1;rw [q3];exact⟨d0,cs0,q5,q2⟩
      ·exact absurd hrr ((hno i hk hright).1 p hpi)
     | hdr k d hbk=>
      rcases hpb k false _ hm hbk with⟨d0,q1,q2,q3,q4⟩ | hno
      ·exact⟨d0,(G.hv k).2,.hdr k d0 q1,q2⟩
      ·exact absurd hrr ((hno i hk hright).1 p hpi)
    ·intro k hk';obtain⟨d,hd'⟩:=hgone i k (by rw [hs];exact hk');refine⟨?_,d,hd'⟩
     rcases hbx k _ hd' with⟨_,_,_,h4,_,_⟩ | ⟨_,hm⟩
     ·exact h4
     ·rcases hpb k false _ hm hd' with⟨_,_,_,_,q4⟩ | hno
      ·exact q4
      ·exact absurd (by rw [hs];exact hk') (hno i hk hright).2
  ·exact hs
 ·rcases hbx k bx hb with⟨h1,h2,h3,h4,h5,h6⟩ | ⟨hB,_⟩
  ·have hB:=h.boxes k bx h1
   obtain⟨b,d⟩:=bx;cases b with
   | true=>
    obtain⟨arr,e1,e2,e3,e4,e5,cs,e6,e7⟩:=hB;have hx:=hc.some_ _ (2 * k+1) [] e2 h2
    refine⟨arr,by rw [h3,h6];exact hx.2.trans e1,by rw [h3];exact hx.1,by rw [h5];exact e3,by rw [h3];exact e4,by rw [h3,h5];exact e5,cs,?_,by rw [h3];exact e7⟩
    refine RepO.move hc.n e6 (fun b s hb=>?_)
    have:=hc.some_ b (2 * k+1) (0::s) (by simpa using hb) h2
    simpa using this
   | false=>
    obtain⟨e1,e2⟩:=hB;refine⟨by rw [h4];exact e1,?_⟩
    rw [h4];refine RepO.move hc.n e2 (fun b s hb=>?_)
    have:=hc.some_ b (2 * k+1) (0::s) (by simpa using hb) h2
    simpa using this
  ·exact hB
structure Ft (w w':World) (G G':Gh) (rs:List Nat):Prop where
 chg:Chg w w' G.own G'.own rs
 os:w'.os=w.os
 tape:w'.tape=w.tape
 output:w'.output=w.output
 gh:∀ k,(2 * k+1 ∉ rs∨2 * k ∉ rs)→G'.bl k=G.bl k∧G'.hv k=G.hv k∧G'.arr0 k=G.arr0 k∧G'.T0 k=G.T0 k
theorem Chg.trans {w w' w2:World} {own own' own2:Own} {rs rs':List Nat} (h:Chg w w' own own' rs) (h':Chg w' w2 own' own2 rs'):Chg w w2 own own2 (rs++rs') where
 size:=Nat.le_trans h.size h'.size
 none_ b h1 h2:=by
  obtain⟨a1,a2⟩:=h.none_ b h1 h2;obtain⟨b1,b2⟩:=h'.none_ b a1 (Nat.lt_of_lt_of_le h2 h.size);exact⟨b1,b2.trans a2⟩
 some_ b r s h1 h2:=by
  simp only [List.mem_append,not_or] at h2;obtain⟨a1,a2⟩:=h.some_ b r s h1 h2.1;obtain⟨b1,b2⟩:=h'.some_ b r s a1 h2.2;exact⟨b1,b2.trans a2⟩
 nil_ b h1:=by
  obtain⟨a1,a2⟩:=h.nil_ b h1;obtain⟨b1,b2⟩:=h'.nil_ b a1;exact⟨b1,b2.trans a2⟩
theorem Ft.trans {w w' w2:World} {G G' G2:Gh} {rs rs':List Nat} (h:Ft w w' G G' rs) (h':Ft w' w2 G' G2 rs'):Ft w w2 G G2 (rs++rs') where
 chg:=h.chg.trans h'.chg
 os:=h'.os.trans h.os
 tape:=h'.tape.trans h.tape
 output:=h'.output.trans h.output
 gh k hk:=by
  simp only [List.mem_append,not_or] at hk;obtain⟨a1,a2,a3,a4⟩:=h.gh k (hk.imp (·.1) (·.1));obtain⟨b1,b2,b3,b4⟩:=h'.gh k (hk.imp (·.2) (·.2));exact⟨b1.trans a1,b2.trans a2,b3.trans a3,b4.trans a4⟩
theorem Ft.refl (w:World) (G:Gh) (rs:List Nat):Ft w w G G rs:=⟨⟨Nat.le_refl _,fun _ h _=>⟨h,rfl⟩,fun _ _ _ h _=>⟨h,rfl⟩,fun _ h=>⟨h,rfl⟩⟩,rfl,rfl,rfl,fun _ _=>⟨rfl,rfl,rfl,rfl⟩⟩
theorem Rel.step2 {w0 w w':World} {G0 G G':Gh} {np:Nat} {σ σ':S} {a a':Act} (h:Rel w0 G0 np σ a w G) (rs:List Nat) (hgh:∀ k,(2 * k+1 ∉ rs∨2 * k ∉ rs)→G'.bl k=G.bl k∧G'.hv k=G.hv k∧G'.arr0 k=G.arr0 k∧G'.T0 k=G.T0 k) (hc:Chg w w' G.own G'.own rs)
 (hos:w'.os=w.os) (htape:w'.tape=w.tape) (hout:w'.output=w.output) (hlive:∀ b l,G'.own b=some l→b<w'.heap.size)
 (hext:∀ k,k<np→G'.bl k=G.bl k∧G'.hv k=G.hv k∧G'.arr0 k=G.arr0 k∧G'.T0 k=G.T0 k)
 (ht:σ'.sl.length=a'.tmps.size) (hd:a'.defers=[])
 (hsl:∀ i,(Kept σ σ' rs i∧a'.tmps.getD i undef=a.tmps.getD i undef)∨(SlotR G' σ' a'.tmps w' i (σ'.slot i) (a'.tmps.getD i undef)∧((σ'.slot i).isDat=true→2 * i∈rs)))
 (hbx:∀ k bx,σ'.box k=some bx→(σ.box k=some bx∧2 * k+1 ∉ rs∧G'.bl k=G.bl k∧G'.hv k=G.hv k∧G'.arr0 k=G.arr0 k∧G'.T0 k=G.T0 k)∨(Ry G' w' k bx∧2 * k+1∈rs))
 (hpb:∀ k b d',2 * k+1∈rs→σ'.box k=some (b,d')→(∃ d,σ.box k=some (b,d)∧d.t=d'.t∧G'.bl k=G.bl k∧G'.hv k=G.hv k) ∨
  (∀ i,Kept σ σ' rs i→¬ (SlotR G' σ' a'.tmps w' i (σ'.slot i) (a'.tmps.getD i undef)∧((σ'.slot i).isDat=true→2 * i∈rs))→(∀ p,σ'.slot i=.ptr p→p.root≠2 * k+1)∧(σ'.slot i).hk≠some k))
 (hgone:∀ i k,(σ'.slot i).hk=some k→∃ d,σ'.box k=some (false,d)) (htm:∀ i,2 * i ∉ rs→a'.tmps.getD i undef=a.tmps.getD i undef:=by first | exact fun _ _=>rfl | exact fun _ hi=>Act.put_off hi) (hmp:∀ i k,σ'.slot i=σ.slot i→k∈(σ.slot i).mb→¬ (SlotR G' σ' a'.tmps w' i (σ'.slot i) (a'.tmps.getD i undef)∧((σ'.slot i).isDat=true→2 * i∈rs))→G'.bl k=G.bl k∧G'.arr0 k=G.arr0 k∧G'.hv k=G.hv k:=by exact fun _ _ _ _ _=>⟨rfl,rfl,rfl⟩):Rel w0 G0 np σ' a' w' G'∧Ft w w' G G' rs:=
 ⟨h.step rs hc hos htape hout hlive hext ht hd hsl hbx hpb hgone htm hmp,⟨hc,hos,htape,hout,hgh⟩⟩
def Fa (t:Ty) (x:t.D) (deps:List Nat) (src:Option Place):AV:=if t.flat then .snp t x [] none else .snp t x deps src
def cav:Value→AV
 | .int k n=>.snp (.int k) n [] none
 | .bool b=>.snp .bool b [] none
 | .string s=>.snp .str s [] none
 | .slice none 0 0=>.nilS
 | _=>.none
def S.ev (σ:S):Operand→AV
 | .tmp t=>match σ.slot t with
  | .dat d=>if d.m.noOwn then .snp d.t d.x [] none else if d.m.full then .snp d.t d.x [2 * t] (some ⟨2 * t,[]⟩) else .none
  | .hdr k=>match σ.box k with
   | some (false,d)=>if d.m.full then .snp d.t d.x [2 * k+1] (some ⟨2 * k+1,[]⟩) else .none
   | _=>.none
  | .hc k _=>match σ.box k with
   | some (false,d)=>if d.m.full then .snp d.t d.x [2 * k+1] (some ⟨2 * k+1,[]⟩) else .none
   | _=>.none
  | .lk ..=>.none
  | .tup _=>.none
  | .que ..=>.none
  | .pp ..=>.none
  | .cp s=>match σ.slot s with
   | .snp t x deps src=>.snp t x deps src
   | .ptr p=>.ptr p
   | .rp t x deps=>.rp t x deps
   | .nilS=>.nilS
   | .mp k h=>.mp k h
   | .mr t x deps h=>.mr t x deps h
   | .hs t x h=>.hs t x h
   | _=>.none
  | av=>av
 | .const v=>cav v
 | .func f=>.fn f
 | .global _=>.none
def AV.free:AV→Bool
 | .dat _ | .tup _ | .hdr _ | .que .. | .pp .. | .cp _=>false
 | _=>true
theorem RepO.noOwn {w:World} {own:Own}:∀ {t:Ty} {m:Md} {p:Lab} {cs:List Value} {x:t.D},m.noOwn=true→RepO w own t m p cs x→RepV w (okd w own []) t cs x
 | .int _,_,_,_,_,_,h=>h
 | .bool,_,_,_,_,_,h=>h
 | .str,_,_,_,_,_,h=>h
 | .list _ _,.own _,_,_,_,hm,_=>by simp [Md.noOwn] at hm
 | .list _ _,.hole,_,_,_,hm,_=>by simp [Md.noOwn] at hm
 | .list _ _,.ro,_,_,_,_,h=>RepV.mono (fun b hb=>⟨⟨hb.2,.inl hb.1⟩,rfl⟩) h
 | .list _ _,.pr _ _,_,_,_,_,h=>RepV.mono (fun b hb=>⟨⟨hb.2,.inl hb.1⟩,rfl⟩) h
 | .pair a b,m,_,_,_,hm,h=>by
  obtain⟨c1,c2,rfl,h1,h2⟩:=h;have:m.fst.noOwn=true∧m.snd.noOwn=true:=by cases m<;>simp_all [Md.noOwn,Md.fst,Md.snd]
  exact⟨c1,c2,rfl,RepO.noOwn this.1 h1,RepO.noOwn this.2 h2⟩
theorem RootR.box_inv0 {G:Gh} {σ:S} {tmps:Array Value} {w:World} {k:Nat} {d:Dat} {L:Option Addr} {cs:List Value} (h:RootR G σ tmps w (2 * k+1) d L cs):
 σ.box k=some (true,d)∨(σ.box k=some (false,d)∧L=none∧cs=(G.hv k).2):=by
 generalize hrr:2 * k+1=rr at h;cases h with
 | slot j _ _ _ _=>omega
 | box k' d' cs hb' _ _=>
  have:k=k':=by omega
  subst this;exact .inl hb'
 | hdr k' d' hb'=>
  have:k=k':=by omega
  subst this;exact .inr ⟨hb',rfl,rfl⟩
theorem Rel.ev {w0:World} {G0:Gh} {np:Nat} {σ:S} {a:Act} {w:World} {G:Gh} (h:Rel w0 G0 np σ a w G) (i:Nat) (o:Operand):SlotR G σ a.tmps w i (σ.ev o) (a.eval o)∧(σ.ev o).free=true:=by
 cases o with
 | tmp t=>
  have hs:=h.slots t
  simp only [S.ev,Act.eval];cases hav:σ.slot t with
  | dat d=>
   rw [hav] at hs;obtain⟨cs,hv,hr⟩:=hs;simp only;split
   ·rename_i hm;exact⟨⟨cs,hv,RepO.noOwn hm hr,fun p hp=>by cases hp⟩,rfl⟩
   ·split
    case isFalse=>exact⟨trivial,rfl⟩
    rename_i hfull;refine⟨⟨cs,hv,RepO.view (fun b h1 h2=>⟨h2,.inl h1⟩) hfull hr (fun b ⟨s,hb⟩ hlt=>⟨hlt,.inr ⟨2 * t,by simp,s,by simpa using hb⟩⟩),fun p hp d' L cr hroot=>?_⟩,rfl⟩
    cases hp
    have hroot1:RootR G σ a.tmps w (2 * t) d' L cr:=hroot
    clear hroot
    generalize hrr:2 * t=rr at hroot1;cases hroot1 with
    | slot j d' cs' hj hvj=>
     have:@Eq Nat t j:=by have h2:@Eq Nat (2 * t) (2 * j):=hrr;omega
     have this2:t=j:=this
     subst this2;rw [hav] at hj;cases hj
     have e:cs=cr:=by
      cases hdt:d.t<;>rw [hdt] at hv hvj<;>simp only [Val] at hv hvj<;>simp_all
     subst e;exact⟨d.m,none,rfl,rfl⟩
    | box k d' cs' _ _ _=>have h2:@Eq Nat (2 * t) (2 * k+1):=hrr;omega
    | hdr k d' _=>have h2:@Eq Nat (2 * t) (2 * k+1):=hrr;omega
  | hdr k=>
   rw [hav] at hs;obtain⟨hv,d,hb⟩:=hs;simp only [hb];obtain⟨h1,h2⟩:=h.boxes k _ hb;rw [← h1] at hv;split
   case isFalse=>exact⟨trivial,rfl⟩
   rename_i hfull;refine⟨⟨(G.hv k).2,hv,RepO.view (fun b h1 h2=>⟨h2,.inl h1⟩) hfull h2 (fun b ⟨s,hb⟩ hlt=>⟨hlt,.inr ⟨2 * k+1,by simp,0::s,by simpa using hb⟩⟩),fun p hp d' L cr hroot=>?_⟩,rfl⟩
   cases hp
   have hroot1:RootR G σ a.tmps w (2 * k+1) d' L cr:=hroot
   clear hroot
   generalize hrr:2 * k+1=rr at hroot1;cases hroot1 with
   | slot j _ _ _ _=>omega
   | box k' d' cs hb' _ _=>
    have:k=k':=by omega
    subst this;rw [hb] at hb';cases hb'
   | hdr k' d' hb'=>
    have:k=k':=by omega
    subst this;rw [hb] at hb';cases hb';exact⟨d.m,none,rfl,rfl⟩
  | hc k n=>
   rw [hav] at hs;have hv:Val (G.hv k).1 (a.tmps.getD t undef) (G.hv k).2:=hs.1
   simp only;split
   case h_2=>exact⟨trivial,rfl⟩
   rename_i d hb;obtain⟨h1,h2⟩:=h.boxes k _ hb;rw [← h1] at hv;split
   case isFalse=>exact⟨trivial,rfl⟩
   rename_i hfull;refine⟨⟨(G.hv k).2,hv,RepO.view (fun b h1 h2=>⟨h2,.inl h1⟩) hfull h2 (fun b ⟨s,hb⟩ hlt=>⟨hlt,.inr ⟨2 * k+1,by simp,0::s,by simpa using hb⟩⟩),fun p hp d' L cr hroot=>?_⟩,rfl⟩
   cases hp
   rcases RootR.box_inv0 (show RootR G σ a.tmps w (2 * k+1) d' L cr from hroot) with hb' | ⟨hb',hL,hcr⟩
   ·have:=hb.symm.trans hb';simp at this
   ·have:=hb.symm.trans hb'
    simp only [Option.some.injEq,Prod.mk.injEq,true_and] at this;subst this hL hcr;exact⟨d.m,none,rfl,rfl⟩
  | lk k o k' n=>exact⟨trivial,rfl⟩
  | ap e t' x p=>rw [hav] at hs;exact⟨hs,rfl⟩
  | none=>exact⟨trivial,rfl⟩
  | snp t' x deps src=>rw [hav] at hs;exact⟨hs,rfl⟩
  | ptr p=>rw [hav] at hs;exact⟨hs,rfl⟩
  | rp t' x deps=>rw [hav] at hs;exact⟨hs,rfl⟩
  | nilS=>rw [hav] at hs;exact⟨hs,rfl⟩
  | tup vs=>exact⟨trivial,rfl⟩
  | fn f=>rw [hav] at hs;exact⟨hs,rfl⟩
  | vw k π=>rw [hav] at hs;exact⟨hs,rfl⟩
  | que e t m n x=>exact⟨trivial,rfl⟩
  | cp s=>
   rw [hav] at hs;have hs':a.tmps.getD t undef=a.tmps.getD s undef:=hs
   have h2:=h.slots s
   rw [hs'];simp only;cases hav2:σ.slot s<;>rw [hav2] at h2<;>first | exact⟨h2,rfl⟩ | exact⟨trivial,rfl⟩
  | pp t m x r=>exact⟨trivial,rfl⟩
  | mp k k'=>rw [hav] at hs;exact⟨hs,rfl⟩
  | mr t' x deps k=>rw [hav] at hs;exact⟨hs,rfl⟩
  | hs t' x k=>rw [hav] at hs;exact⟨hs,rfl⟩
 | const v=>
  simp only [S.ev,Act.eval];unfold cav;split
  ·exact⟨⟨[.int _ _],rfl,rfl,fun p hp=>by cases hp⟩,rfl⟩
  ·exact⟨⟨[.bool _],rfl,rfl,fun p hp=>by cases hp⟩,rfl⟩
  ·exact⟨⟨[.string _],rfl,rfl,fun p hp=>by cases hp⟩,rfl⟩
  ·exact⟨rfl,rfl⟩
  ·exact⟨trivial,rfl⟩
 | global g=>exact⟨trivial,rfl⟩
 | func f=>exact⟨rfl,rfl⟩
def S.put (σ:S) (d:Nat) (av:AV):S:={ σ with sl:=(MO (AV.kill (2 * d)) σ.sl).set d (av.kill (2 * d)) }
theorem S.put_slot (σ:S) (d i:Nat) (av:AV):(σ.put d av).slot i=if d=i∧d<σ.sl.length then av.kill (2 * d) else (σ.slot i).kill (2 * d):=by
 simp only [S.put,S.slot,List.getD_eq_getElem?_getD,List.getElem?_set,Hg,MP (show AV.kill (2 * d) .none=.none from rfl)];split
 ·rename_i h;subst h;split
  ·simp [*]
  ·rename_i h2;simp [h2,AV.kill]
 ·rename_i h;rw [if_neg (fun hh=>h hh.1)];cases σ.sl[i]?<;>simp [AV.kill]
theorem AV.kill_or (r:Nat) (av:AV):av.kill r=.none∨av.kill r=av:=by
 cases av<;>simp only [AV.kill]<;>(try split)<;>simp
theorem AV.kill_kill (r:Nat) (av:AV) (h:av.kill r=av):∀ q∈[r],av.kill q=av:=by simpa using h
theorem SlotR.idx {G:Gh} {σ:S} {tmps:Array Value} {w:World} {i j:Nat} {av:AV} {v:Value} (hf:av.isDat=false) (h:SlotR G σ tmps w i av v):SlotR G σ tmps w j av v:=by
 cases av with
 | tup vs=>
  cases vs with
  | nil=>
   obtain⟨arr,h1,h2,_⟩:=h;exact⟨arr,h1,h2,fun j hj=>absurd hj (Nat.not_lt_zero j)⟩
  | cons _ _=>simp [AV.isDat] at hf
 | _=>all_goals first | exact h | simp [AV.isDat] at hf
theorem Chg.refl (w:World) (own:Own) (rs:List Nat):Chg w w own own rs:=⟨Nat.le_refl _,fun _ h _=>⟨h,rfl⟩,fun _ _ _ h _=>⟨h,rfl⟩,fun _ h=>⟨h,rfl⟩⟩
theorem Rel.put {w0:World} {G0:Gh} {np:Nat} {σ:S} {a:Act} {w:World} {G:Gh} (h:Rel w0 G0 np σ a w G) {d:Nat} (hd:d<σ.sl.length) {av:AV} {v:Value} {i:Nat}
 (hv:SlotR G σ a.tmps w i av v) (hf:av.isDat=false):Rel w0 G0 np (σ.put d av) (a.put (some d) v) w G:=by
 have hd':d<a.tmps.size:=by rw [← h.tmps];exact hd
 have hbox:∀ k,(σ.put d av).box k=σ.box k:=fun k=>rfl
 have hroots:∀ r d' L cs,r ∉ [2 * d]→RootR G (σ.put d av) (a.put (some d) v).tmps w r d' L cs→RootR G σ a.tmps w r d' L cs:=by
  intro r d' L cs hr hroot;cases hroot with
  | slot j d' cs hs hvj=>
   have hne:d≠j:=by intro e;subst e;simp at hr
   rw [S.put_slot,if_neg (fun hh=>hne hh.1)] at hs;rw [Act.put_getD _ _ _ _ hd',if_neg hne] at hvj;have:σ.slot j=.dat d':=by
    rcases AV.kill_or (2 * d) (σ.slot j) with e | e
    ·rw [e] at hs;cases hs
    ·rw [← e];exact hs
   exact .slot j d' cs this hvj
  | box k d' cs hb hl hc=>exact .box k d' cs hb hl hc
  | hdr k d' hb=>exact .hdr k d' hb
 refine h.step [2 * d] (Chg.refl _ _ _) rfl rfl rfl h.live (fun _ _=>⟨rfl,rfl,rfl,rfl⟩) (by simp [S.put,Act.put,h.tmps]) h.defers (fun j=>?_) (fun k bx hb=>.inl ⟨hb,by simp;omega,rfl,rfl,rfl,rfl⟩)
  (fun k b d' hk _=>by simp at hk;omega) (fun j k hs=>?_)
 ·by_cases e:d=j
  ·subst e;right;rw [S.put_slot,if_pos ⟨rfl,hd⟩,Act.put_getD _ _ _ _ hd',if_pos rfl];refine⟨?_,fun hdat=>?_⟩
   ·rcases AV.kill_or (2 * d) av with e | e
    ·rw [e];trivial
    ·rw [e];refine SlotR.idx hf (SlotR.frame (i:=i) (Chg.refl w G.own [2 * d]) hroots ?_ (fun r d L cs hr=>(h.root hr).1) ?_ (by rw [hf];simp) (AV.kill_kill _ _ e) hv (fun s hs=>by
      rw [hs] at e;refine Act.put_off (rs:=[]) (fun hm=>?_)
      simp only [AV.kill] at e;rw [if_pos (by simpa using hm)] at e;cases e) (fun _ _=>⟨rfl,rfl,rfl⟩))
     ·intro p d' L' cs' hp hm hroot;rw [hp] at e;simp only [List.mem_singleton] at hm;simp only [AV.kill] at e;rw [if_pos ⟨hm,.inr (by omega)⟩] at e;cases e
     ·intro k hk;exact⟨rfl,hv.hk hk⟩
   ·exfalso
    have:(av.kill (2 * d)).isDat=false:=by
     rcases AV.kill_or (2 * d) av with e | e<;>rw [e]
     ·rfl
     ·exact hf
    rw [this] at hdat;cases hdat
  ·left;refine⟨⟨?_⟩,by rw [Act.put_getD _ _ _ _ hd',if_neg e]⟩
   rw [S.put_slot,if_neg (fun hh=>e hh.1)];rcases AV.kill_or (2 * d) (σ.slot j) with e1 | e1
   ·exact .inl e1
   ·exact .inr ⟨e1,AV.kill_kill _ _ e1,fun _=>by simp;omega⟩
 ·rw [S.put_slot] at hs;split at hs
  ·rcases AV.kill_or (2 * d) av with e | e
   ·rw [e] at hs;cases hs
   ·rw [e] at hs;exact hv.hk hs
  ·have h2:=h.slots j
   rcases AV.kill_or (2 * d) (σ.slot j) with e | e
   ·rw [e] at hs;cases hs
   ·rw [e] at hs;exact h2.hk hs
def BG:Path→(t:Ty)→Md→t.D→Option Dat
 | [],t,m,x=>some ⟨t,m,x⟩
 | .f::π,.pair a _,m,x=>BG π a m.fst x.1
 | .s::π,.pair _ b,m,x=>BG π b m.snd x.2
 | .i n::π,.list _ t,.own m,x=>BG π t m (rd x n t.zero)
 | _,_,_,_=>none
def Fe:Path→(t:Ty)→Md→t.D→Dat→Option (Md×t.D)
 | [],t,_,_,d=>if h:d.t=t then some (d.m,h ▸ d.x) else none
 | .f::π,.pair a _,m,x,d=>(Fe π a m.fst x.1 d).map fun r=>(.mk2 r.1 m.snd,(r.2,x.2))
 | .s::π,.pair _ b,m,x,d=>(Fe π b m.snd x.2 d).map fun r=>(.mk2 m.fst r.1,(x.1,r.2))
 | .i n::π,.list _ t,.own m,x,d=>(Fe π t m (rd x n t.zero) d).bind fun r=>if r.1=m then some (.own m,List.set x n.toNat r.2) else none
 | _,_,_,_,_=>none
theorem FE:∀ (π:Path) {t:Ty} {m:Md} {x:t.D} {d:Dat},AH π t m x=some d→BG π t m x=some d
 | [],_,_,_,_,h=>h
 | .f::π,.pair a b,_,_,_,h=>FE π (t:=a) h
 | .s::π,.pair a b,_,_,_,h=>FE π (t:=b) h
 | .i n::π,.list _ t,.own m,x,d,h=>by
  simp only [AH] at h;split at h
  ·split at h
   ·exact FE π h
   ·cases h
  ·cases h
 | .f::_,.int _,_,_,_,h=>by simp [AH] at h
 | .f::_,.bool,_,_,_,h=>by simp [AH] at h
 | .f::_,.str,_,_,_,h=>by simp [AH] at h
 | .f::_,.list _ _,_,_,_,h=>by simp [AH] at h
 | .s::_,.int _,_,_,_,h=>by simp [AH] at h
 | .s::_,.bool,_,_,_,h=>by simp [AH] at h
 | .s::_,.str,_,_,_,h=>by simp [AH] at h
 | .s::_,.list _ _,_,_,_,h=>by simp [AH] at h
 | .i _::_,.int _,_,_,_,h=>by simp [AH] at h
 | .i _::_,.bool,_,_,_,h=>by simp [AH] at h
 | .i _::_,.str,_,_,_,h=>by simp [AH] at h
 | .i _::_,.pair _ _,_,_,_,h=>by simp [AH] at h
 | .i _::_,.list _ _,.ro,_,_,h=>by simp [AH] at h
 | .i _::_,.list _ _,.hole,_,_,h=>by simp [AH] at h
 | .i _::_,.list _ _,.pr _ _,_,_,h=>by simp [AH] at h
theorem JV:∀ (π:Path) {t:Ty} {m:Md} {x:t.D} {d0 d:Dat} {r:Md×t.D},AH π t m x=some d0→Fe π t m x d=some r→EK π t m x d=some r
 | [],_,_,_,_,_,_,_,h=>h
 | .f::π,.pair a b,m,x,d0,d,r,hg,h=>by
  simp only [AH] at hg;simp only [Fe,Option.map_eq_some_iff] at h;obtain⟨r1,h1,h2⟩:=h;simp only [EK,JV π hg h1,Option.map_some,h2]
 | .s::π,.pair a b,m,x,d0,d,r,hg,h=>by
  simp only [AH] at hg;simp only [Fe,Option.map_eq_some_iff] at h;obtain⟨r1,h1,h2⟩:=h;simp only [EK,JV π hg h1,Option.map_some,h2]
 | .i n::π,.list _ t,.own m,x,d0,d,r,hg,h=>by
  simp only [AH] at hg;split at hg
  ·split at hg
   ·rename_i h0 hn;simp only [Fe,Option.bind_eq_some_iff] at h;obtain⟨r1,h1,h2⟩:=h;simp only [EK,if_pos h0,if_pos hn,JV π hg h1,Option.bind_some,h2]
   ·cases hg
  ·cases hg
 | .f::_,.int _,_,_,_,_,_,h,_=>by simp [AH] at h
 | .f::_,.bool,_,_,_,_,_,h,_=>by simp [AH] at h
 | .f::_,.str,_,_,_,_,_,h,_=>by simp [AH] at h
 | .f::_,.list _ _,_,_,_,_,_,h,_=>by simp [AH] at h
 | .s::_,.int _,_,_,_,_,_,h,_=>by simp [AH] at h
 | .s::_,.bool,_,_,_,_,_,h,_=>by simp [AH] at h
 | .s::_,.str,_,_,_,_,_,h,_=>by simp [AH] at h
 | .s::_,.list _ _,_,_,_,_,_,h,_=>by simp [AH] at h
 | .i _::_,.int _,_,_,_,_,_,h,_=>by simp [AH] at h
 | .i _::_,.bool,_,_,_,_,_,h,_=>by simp [AH] at h
 | .i _::_,.str,_,_,_,_,_,h,_=>by simp [AH] at h
 | .i _::_,.pair _ _,_,_,_,_,_,h,_=>by simp [AH] at h
 | .i _::_,.list _ _,.ro,_,_,_,_,h,_=>by simp [AH] at h
 | .i _::_,.list _ _,.hole,_,_,_,_,h,_=>by simp [AH] at h
 | .i _::_,.list _ _,.pr _ _,_,_,_,_,h,_=>by simp [AH] at h
def BB (k j:Nat):Path:=List.replicate j .s++(if j+1<k then [.f] else [])
def Ag:Path→Ty→Option (Nat×Ty)
 | [],t=>some (0,t)
 | .f::π,.pair a _=>Ag π a
 | .s::π,.pair a b=>(Ag π b).map fun r=>(a.sz+r.1,r.2)
 | _,_=>none
theorem Dj:∀ (π:Path) {t:Ty} {r:Nat×Ty},Ag π t=some r→π.deep=false∧r.1+r.2.sz≤t.sz
 | [],_,_,h=>by simp only [Ag,Option.some.injEq] at h;subst h;simp [Path.deep]
 | .f::π,.pair a b,r,h=>by
  simp only [Ag] at h;have:=Dj π h
  refine⟨this.1,?_⟩
  simp only [Ty.sz];omega
 | .s::π,.pair a b,r,h=>by
  simp only [Ag,Option.map_eq_some_iff] at h;obtain⟨r1,h1,rfl⟩:=h;have:=Dj π h1
  refine⟨this.1,?_⟩
  simp only [Ty.sz];omega
 | .i _::_,.int _,_,h=>by simp [Ag] at h
 | .i _::_,.bool,_,h=>by simp [Ag] at h
 | .i _::_,.str,_,h=>by simp [Ag] at h
 | .i _::_,.pair _ _,_,h=>by simp [Ag] at h
 | .i _::_,.list _ _,_,h=>by simp [Ag] at h
 | .f::_,.int _,_,h=>by simp [Ag] at h
 | .f::_,.bool,_,h=>by simp [Ag] at h
 | .f::_,.str,_,h=>by simp [Ag] at h
 | .f::_,.list _ _,_,h=>by simp [Ag] at h
 | .s::_,.int _,_,h=>by simp [Ag] at h
 | .s::_,.bool,_,h=>by simp [Ag] at h
 | .s::_,.str,_,h=>by simp [Ag] at h
 | .s::_,.list _ _,_,h=>by simp [Ag] at h
def Ty.isP:Ty→Bool
 | .pair _ _=>true
 | _=>false
theorem Ty.isP_false {t:Ty} (h:¬ ∃ a b,t=.pair a b):t.isP=false∧t.sz=1∧∀ v,Val t v [v]:=by
 cases t with
 | pair a b=>exact absurd ⟨a,b,rfl⟩ h
 | _=>all_goals exact⟨rfl,rfl,fun v=>rfl⟩
structure TE where
 id:Nat
 t:Ty
 k:Nat
 by_:Nat
def tat (τ:List TE) (T:Nat):Option TE:=τ.find? fun e=>e.id == T && e.by_ != 0
theorem Uh {τ:List TE} {T:Nat} {e:TE} (h:tat τ T=some e):e∈τ∧e.id=T∧e.by_≠0:=
 ⟨List.mem_of_find?_eq_some h,by simpa using List.find?_some h⟩
def hat (τ:List TE) (T:Nat):Option TE:=τ.find? fun e=>e.id == T && e.by_ == 0
theorem az {τ:List TE} {T:Nat} {e:TE} (h:hat τ T=some e):e∈τ∧e.id=T∧e.by_=0:=
 ⟨List.mem_of_find?_eq_some h,by simpa using List.find?_some h⟩
def EN (τ:List TE) (e:TE):TypeDesc→Prop
 | .bool=>e.t=.bool∧e.k=0
 | .int k=>e.t=.int k∧e.k=0
 | .string=>e.t=.str∧e.k=0
 | .slice el=>(∃ te,tat τ el=some te∧e.t=.list el te.t)∧e.k=0
 | .struct fs=>fs.size=e.k∧(∃ a b,e.t=.pair a b)∧∀ j f,fs[j]?=some f→∃ te,tat τ f.type=some te∧Ag (BB e.k j) e.t=some (f.offset,te.t)
 | _=>False
def EqC (P : Program) (T : Nat) : Prop := P.eqGuardType P.depth T = false ∧ ∀ fs, P.underlying T = some (.struct fs) → P.stoodInHeld T = false ∧ 2 ≤ fs.size ∧ ∀ f ∈ fs.toList, f.name ≠ "_"
def Vp (P:Program) (T:Nat):Bool:=!P.eqGuardType P.depth T && match P.underlying T with
 | some (.struct fs) => !P.stoodInHeld T && (decide (2 ≤ fs.size) && fs.toList.all fun f => f.name != "_")
 | _=>true
theorem ZW {P:Program} {T:Nat} (h:Vp P T=true):EqC P T:=by
 simp only [Vp,Bool.and_eq_true,Bool.not_eq_true'] at h;refine⟨h.1,fun fs hfs=>?_⟩
 have h2:=h.2
 rw [hfs] at h2;simp only [Bool.and_eq_true,Bool.not_eq_true',List.all_eq_true,bne_iff_ne,decide_eq_true_eq] at h2;exact h2
structure TOk (P:Program) (τ:List TE) (e:TE):Prop where
 info:∃ i z,P.info? e.id=some i∧i.zero=some z∧Val e.t z e.t.zc∧i.size=e.t.sz∧i.bytes=e.by_∧(e.t.flat=true→EqC P e.id)
 desc:∃ d,P.underlying e.id=some d∧EN τ e d
def veq:Value→Value→Bool
 | .int k n,.int k' n'=>k == k' && n == n'
 | .bool b,.bool b'=>b == b'
 | .string s,.string s'=>s.size == 0 && s'.size == 0
 | .slice none a b,.slice none a' b'=>a == a' && b == b'
 | _,_=>false
def NO:List Value→List Value→Bool
 | [],[]=>true
 | a::l,b::l'=>veq a b && NO l l'
 | _,_=>false
theorem fp {a b:Value} (h:veq a b=true):a=b:=by
 unfold veq at h;split at h<;>simp_all
theorem Nh:∀ {l l':List Value},NO l l'=true→l=l'
 | [],[],_=>rfl
 | a::l,b::l',h=>by
  simp only [NO,Bool.and_eq_true] at h;rw [fp h.1,Nh h.2]
 | [],_::_,h=>by simp [NO] at h
 | _::_,[],h=>by simp [NO] at h
def Wf (t:Ty) (z:Value):Bool:=match t,z with
 | .pair a b,.agg arr=>NO arr.toList (Ty.zc (.pair a b))
 | .pair _ _,_=>false
 | t,z=>NO [z] t.zc
theorem bo {t:Ty} {z:Value} (h:Wf t z=true):Val t z t.zc:=by
 cases t with
 | pair a b=>
  cases z<;>simp only [Wf,Bool.false_eq_true] at h
  have:=Nh h
  simp only [Val,← this]
 | _=>all_goals (simp only [Wf] at h;exact(Nh h).symm)
def ZQ (τ:List TE) (e:TE):TypeDesc→Bool
 | .bool=>decide (e.t=.bool) && e.k == 0
 | .int k=>decide (e.t=.int k) && e.k == 0
 | .string=>decide (e.t=.str) && e.k == 0
 | .slice el=>(match tat τ el with | some te=>decide (e.t=.list el te.t) | none=>false) && e.k == 0
 | .struct fs=>fs.size == e.k && (match e.t with | .pair _ _=>true | _=>false) && fs.toList.zipIdx.all fun p=>
  match tat τ p.1.type with | some te=>decide (Ag (BB e.k p.2) e.t=some (p.1.offset,te.t)) | none=>false
 | _=>false
def aK (P:Program) (τ:List TE) (e:TE):Bool:=
 (match P.info? e.id with
  | some i=>i.size == e.t.sz && i.bytes == e.by_ && (!e.t.flat || Vp P e.id) && (match i.zero with | some z=>Wf e.t z | none=>false)
  | none=>false) &&
 (match P.underlying e.id with | some d=>ZQ τ e d | none=>false)
theorem aq {τ:List TE} {e:TE} {d:TypeDesc} (h:ZQ τ e d=true):EN τ e d:=by
 cases d<;>simp only [ZQ,Bool.and_eq_true,decide_eq_true_eq,beq_iff_eq,Bool.false_eq_true] at h<;>simp only [EN]
 case bool=>exact h
 case int=>exact h
 case string=>exact h
 case slice el=>
  refine⟨?_,h.2⟩
  obtain⟨h,_⟩:=h;split at h
  ·rename_i te hte;exact⟨te,hte,by simpa using h⟩
  ·cases h
 case struct fs=>
  simp only [List.all_eq_true] at h;obtain⟨⟨h1,h2⟩,h3⟩:=h;refine⟨h1,?_,fun j f hf=>?_⟩
  ·split at h2
   ·exact⟨_,_,by assumption⟩
   ·cases h2
  ·have hm:(f,j)∈fs.toList.zipIdx:=by
    rw [List.mem_zipIdx_iff_getElem?];simpa using hf
   have:=h3 _ hm
   simp only at this;split at this
   ·rename_i te hte;exact⟨te,hte,by simpa using this⟩
   ·cases this
theorem be {P:Program} {τ:List TE} {e:TE} (h:aK P τ e=true):TOk P τ e:=by
 simp only [aK,Bool.and_eq_true] at h;obtain⟨h1,h2⟩:=h;refine⟨?_,?_⟩
 ·split at h1
  ·rename_i i hi;simp only [Bool.and_eq_true,beq_iff_eq] at h1;obtain⟨⟨⟨a,b⟩,q⟩,c⟩:=h1;split at c
   ·rename_i z hz;refine⟨i,z,hi,hz,bo c,a,b,fun hf=>ZW ?_⟩
    simpa [hf] using q
   ·cases c
  ·cases h1
 ·split at h2
  ·rename_i d hd;exact⟨d,hd,aq h2⟩
  ·cases h2
structure HOk (P:Program) (τ:List TE) (e:TE):Prop where
 ptr:e.k=0→∃ t,P.underlying e.id=some (.pointer t)
 str:0<e.k→∃ fs f0,P.underlying e.id=some (.struct fs)∧fs.size=e.k+1∧fs[0]?=some f0∧f0.offset=0∧(∃ i,P.info? f0.type=some i∧i.size=1) ∧
  (∀ j f,fs[j+1]?=some f→∃ te r,tat τ f.type=some te∧Ag (BB e.k j) e.t=some (r,te.t)∧f.offset=r+1) ∧
  ∃ i z0 z,P.info? e.id=some i∧i.zero=some (.agg z)∧z.toList=z0::e.t.zc
def OV (P:Program) (τ:List TE) (e:TE):Bool:=match P.underlying e.id with
 | some (.pointer _)=>e.k == 0
 | some (.struct fs)=>e.k != 0 && fs.size == e.k+1 && (match fs[0]? with
  | some f0=>f0.offset == 0 && (match P.info? f0.type with | some i=>i.size == 1 | none=>false)
  | none=>false) && (fs.toList.drop 1).zipIdx.all (fun p=>match tat τ p.1.type with
   | some te=>match Ag (BB e.k p.2) e.t with
    | some (r,t)=>decide (t=te.t) && p.1.offset == r+1
    | none=>false
   | none=>false) && (match P.info? e.id with
  | some i=>match i.zero with
   | some (.agg z)=>match z.toList with
    | _::zs=>NO zs e.t.zc
    | []=>false
   | _=>false
  | none=>false)
 | _=>false
theorem bA {P:Program} {τ:List TE} {e:TE} (h:OV P τ e=true):HOk P τ e:=by
 unfold OV at h;split at h
 ·rename_i t ht;have h':e.k=0:=by simpa using h
  exact⟨fun _=>⟨t,ht⟩,fun hk=>by omega⟩
 ·rename_i fs hfs;simp only [Bool.and_eq_true,bne_iff_ne,beq_iff_eq] at h;obtain⟨⟨⟨⟨h1,h2⟩,h3⟩,h4⟩,h5⟩:=h;refine⟨fun hk=>absurd hk h1,fun _=>?_⟩
  split at h3
  ·rename_i f0 hf0;simp only [Bool.and_eq_true,beq_iff_eq] at h3;obtain⟨h3a,h3b⟩:=h3;split at h3b
   ·rename_i i0 hi0;split at h5
    ·rename_i i hi;split at h5
     ·rename_i z hz;split at h5
      ·rename_i z0 zs hzl;refine⟨fs,f0,hfs,h2,hf0,h3a,⟨i0,hi0,by simpa using h3b⟩,fun j f hj=>?_,i,z0,z,hi,hz,by rw [hzl,Nh h5]⟩
       have hm:(f,j)∈(fs.toList.drop 1).zipIdx:=by
        rw [List.mem_zipIdx_iff_getElem?];simp only [List.getElem?_drop,Array.getElem?_toList];rw [Nat.add_comm];exact hj
       have:=List.all_eq_true.1 h4 _ hm
       simp only at this;split at this
       ·rename_i te hte;split at this
        ·rename_i r t hr;simp only [Bool.and_eq_true,decide_eq_true_eq,beq_iff_eq] at this;obtain⟨rfl,h6⟩:=this;exact⟨te,r,hte,hr,h6⟩
        ·cases this
       ·cases this
      ·cases h5
     ·cases h5
    ·cases h5
   ·cases h3b
  ·cases h3
 ·cases h
structure TabOk (P:Program) (τ:List TE):Prop where
 main:∀ T e,tat τ T=some e→TOk P τ e∧e.id=T
 hd:∀ T e,hat τ T=some e→HOk P τ e∧e.id=T
instance (P:Program) (τ:List TE):CoeFun (TabOk P τ) fun _=>∀ T e,tat τ T=some e→TOk P τ e∧e.id=T:=⟨TabOk.main⟩
def Wb (P:Program) (τ:List TE) (e:TE):Bool:=bif e.by_ == 0 then OV P τ e else aK P τ e
theorem fg {P:Program} {τ:List TE} (h:(τ.all (Wb P τ))=true):TabOk P τ:=by
 refine⟨fun T e he=>?_,fun T e he=>?_⟩
 ·have:=Uh he
  have h2:=List.all_eq_true.1 h e this.1
  have h3:(e.by_ == 0)=false:=by simpa using this.2.2
  simp only [Wb,h3,cond_false] at h2;exact⟨be h2,this.2.1⟩
 ·have:=az he
  have h2:=List.all_eq_true.1 h e this.1
  have h3:(e.by_ == 0)=true:=by simpa using this.2.2
  simp only [Wb,h3,cond_true] at h2;exact⟨bA h2,this.2.1⟩
section
variable {P:Program} {τ:List TE} (hτ:TabOk P τ)
include hτ
theorem TabOk.size {T:Nat} {e:TE} (h:tat τ T=some e) (w:World):(sizeOf T).run P w=.ok e.t.sz w:=by
 obtain⟨⟨⟨i,z,h1,_,_,h4,_⟩,_⟩,rfl⟩:=hτ _ _ h;simp [sizeOf,typeInfo,h1,h4]
theorem TabOk.zero {T:Nat} {e:TE} (h:tat τ T=some e):∃ z,Val e.t z e.t.zc∧∀ w,(zeroValue T).run P w=.ok z w:=by
 obtain⟨⟨⟨i,z,h1,h2,h3,_,_⟩,_⟩,rfl⟩:=hτ _ _ h;exact⟨z,h3,fun w=>by simp [zeroValue,typeInfo,h1,h2]⟩
theorem TabOk.desc {T:Nat} {e:TE} (h:tat τ T=some e):∃ d,P.underlying T=some d∧EN τ e d:=by
 obtain⟨⟨_,d,h1,h2⟩,rfl⟩:=hτ _ _ h;exact⟨d,h1,h2⟩
theorem TabOk.agg {T:Nat} {e:TE} (h:tat τ T=some e) (w:World):(isAgg T).run P w=.ok e.t.isP w:=by
 obtain⟨d,h1,h2⟩:=hτ.desc h;cases d<;>simp only [EN] at h2<;>simp only [isAgg,Sem.run_bind,run_underlying h1,Result.andThen,Sem.run_pure]
 ·rw [h2.1];rfl
 ·rw [h2.1];rfl
 ·rw [h2.1];rfl
 ·obtain⟨⟨te,_,h3⟩,_⟩:=h2;rw [h3];rfl
 ·obtain⟨_,⟨a,b,h3⟩,_⟩:=h2;rw [h3];rfl
theorem TabOk.slice {T el:Nat} {e:TE} {t:Ty} (h:tat τ T=some e) (he:e.t=.list el t):P.underlying T=some (.slice el)∧∃ te,tat τ el=some te∧te.t=t:=by
 obtain⟨d,h1,h2⟩:=hτ.desc h;cases d<;>simp [EN,he] at h2
 obtain⟨⟨te,h3,h4,h5⟩,_⟩:=h2;subst h4;exact⟨h1,te,h3,h5.symm⟩
theorem TabOk.str {T:Nat} {e:TE} (h:tat τ T=some e) (he:e.t=.str):P.underlying T=some .string:=by
 obtain⟨d,h1,h2⟩:=hτ.desc h;cases d<;>simp [EN,he] at h2
 exact h1
theorem TabOk.int {T:Nat} {e:TE} {k:IntKind} (h:tat τ T=some e) (he:e.t=.int k):P.underlying T=some (.int k):=by
 obtain⟨d,h1,h2⟩:=hτ.desc h;cases d<;>simp [EN,he] at h2
 rw [h2.1];exact h1
theorem TabOk.bool {T:Nat} {e:TE} (h:tat τ T=some e) (he:e.t=.bool):P.underlying T=some .bool:=by
 obtain⟨d,h1,h2⟩:=hτ.desc h;cases d<;>simp [EN,he] at h2
 exact h1
theorem TabOk.field {T j:Nat} {e:TE} (h:tat τ T=some e) {r:Nat×Ty} (hj:Ag (BB e.k j) e.t=some r) (hk:j<e.k):
 ∃ fs f te,P.underlying T=some (.struct fs)∧fs[j]?=some f∧f.offset=r.1∧tat τ f.type=some te∧te.t=r.2:=by
 obtain⟨d,h1,h2⟩:=hτ.desc h;cases d<;>simp only [EN] at h2<;>try omega
 rename_i fs;obtain⟨e1,_,e2⟩:=h2;have hlt:j<fs.size:=by omega
 obtain⟨te,e3,e4⟩:=e2 j fs[j] (by simp [hlt]);rw [hj] at e4;simp only [Option.some.injEq] at e4;subst e4;exact⟨fs,fs[j],te,h1,by simp [hlt],rfl,e3,rfl⟩
end
end Go.Proofs.YtmakhmoielhjeaaGreatDoorE

/- The engine, part R2: functions of the library, by the shelf's contracts. No condition. -/
import Derived.Test.YtmakhmoielhjeaaGreatDoorPackR
import Derived.Shelf.Strconv.Itoa3
import Derived.Shelf.Strings.Split
import Derived.Lib.Join
import Derived.Below
import Derived.Shelf.Vars
import Derived.HandedShaped
import Derived.LaidSub
import Derived.MakeChecks
set_option linter.all false
namespace Go.Proofs.YtmakhmoielhjeaaGreatDoorE
open Go.ChangeShapes Go.WideShapes Go.RowKit Go.WideElems
def OX (n:Int):Option (ByteArray×Unit):=if -9223372036854775808≤n∧n≤9223372036854775807 then some (⟨(Lib.itoa n).toArray⟩,()) else none
theorem RH {w:World} {k:Nat} {os:Array Obj} {b:Nat} (h:b<w.heap.size):(Sort.grow (w.drewN k) os).heap[b]?=w.heap[b]?:=by
 show(w.heap++os)[b]?=w.heap[b]?
 rw [Array.getElem?_append_left h]
theorem RI {w:World} {k:Nat} {os:Array Obj}:w.heap.size≤(Sort.grow (w.drewN k) os).heap.size:=by
 show w.heap.size≤(w.heap++os).size
 rw [Array.size_append];omega
theorem cok_itoa {P : Program} {f g : Nat} (hfn : ∃ fn, P.funcs[f]? = some fn ∧ (fn.name == "runtime.NumGoroutine") = false ∧ fn.body.isSome = true) (hg : P.globalNamed "internal/strconv.uint64pow10" = some g) (hmem : ("internal/strconv.uint64pow10", IntKind.u64, Lib.pow10Tab) ∈ libTabs)
 (h : ∀ (n : Int), -9223372036854775808 ≤ n → n ≤ 9223372036854775807 → ∀ (w : World), Lib.TabIs P w "internal/strconv.uint64pow10" .u64 Lib.pow10Tab → Calls P f #[.int .i64 n] w fun e w' => e = .returned (.string ⟨(Lib.itoa n).toArray⟩) ∧ ∃ k os, w' = Sort.grow (w.drewN k) os) :
 Cok P ⟨f,[⟨.ro,.int .i64⟩],[⟨.str,.ro⟩],fun x=>OX x.1,0⟩:=by
 refine⟨hfn,fun w own args x y hlive hI hargs hy ra hra=>?_⟩
 have hra':ra=args:=hra
 rw [hra'];show Calls P f args.toArray w (OD w own _ args _ y)
 have hy:OX x.1=some y:=hy
 unfold OX at hy;split at hy
 ·rename_i hb;obtain⟨rfl⟩:=hy
  match args,hargs with
  | [v],hargs=>
   obtain⟨⟨cs,q1,q2⟩,_⟩:=hargs;have q1:cs=[v]:=q1
   have q2:cs=[.int .i64 x.1]:=q2
   rw [q1] at q2;obtain rfl:v=.int .i64 x.1:=by simpa using q2
   refine (h x.1 hb.1 hb.2 w (hI.tab ("internal/strconv.uint64pow10", .u64, Lib.pow10Tab) hmem g hg).2).mono ?_
   rintro e w' ⟨rfl,k,os,rfl⟩
   refine⟨_,own,rfl,rfl,rfl,rfl,RI,fun b l hb'=>Nat.lt_of_lt_of_le (hlive b l hb') RI,fun b hb' ho=>⟨ho,RH hb'⟩,fun b hb' ho=>⟨ho,RH hb'⟩,⟨_,rfl,rfl⟩,trivial⟩
  | [],hargs=>exact absurd hargs (by simp [ArgsR])
  | _::_::_,hargs=>exact absurd hargs.2 (by simp [ArgsR])
 ·cases hy
theorem inv_of_laid {P : Program} {W : World} {laid : List (String × DataW Unit)} {g t e : Nat} (hlib : libTabs = [("internal/strconv.uint64pow10", .u64, Lib.pow10Tab)]) (hl : (laid.filter fun x => x.1 == "internal/strconv.uint64pow10") = [("internal/strconv.uint64pow10", Lib.tabData .u64 Lib.pow10Tab)])
 (hg : P.globalNamed "internal/strconv.uint64pow10" = some g) (hty : (P.globals[g]?).map (·.type) = some t) (ht : P.underlying t = some (.array 20 e)) (he : P.underlying e = some (.int .u64)) (hce : P.cellsOf e = 1) (hct : P.cellsOf t = 20)
 (hint : ∀ g, P.globalNamed "internal/bytealg.MaxLen" = some g → ∃ m, W.cell? ⟨g, 0, none⟩ = some (.int .i64 m)) (h : laidMetH P laid W) : Inv P W fun _ => none := by
 have h1 := h.filter fun x => x.1 == "internal/strconv.uint64pow10"
 rw [hl] at h1;rw [MakeChecks.laidMetH_plain _ _ _ (by rfl)] at h1;have h2:=Lib.tabIs_of_head hg hty ht he hce hct h1
 constructor
 ·intro x hx g' hg';rw [hlib] at hx;simp only [List.mem_singleton] at hx;subst hx;exact⟨rfl,h2⟩
 ·intro x hx g' hg';simp only [NW,List.mem_singleton] at hx;subst hx;exact⟨rfl,hint g' hg'⟩
theorem Tv {P : Program} {W : World} (ht : (libTabs.all fun x => (P.globalNamed x.1).isNone) = true) (hint : ∀ g, P.globalNamed "internal/bytealg.MaxLen" = some g → ∃ m, W.cell? ⟨g, 0, none⟩ = some (.int .i64 m)) : Inv P W fun _ => none := by
 constructor
 ·intro x hx g hg;have:=List.all_eq_true.1 ht x hx
  rw [hg] at this;cases this
 ·intro x hx g' hg';simp only [NW,List.mem_singleton] at hx;subst hx;exact⟨rfl,hint g' hg'⟩
theorem int_none {P : Program} {W : World} (h : P.globalNamed "internal/bytealg.MaxLen" = none) : ∀ g, P.globalNamed "internal/bytealg.MaxLen" = some g → ∃ m, W.cell? ⟨g, 0, none⟩ = some (.int .i64 m) := fun g hg => by rw [h] at hg; cases hg
theorem Ze {P : Program} {W : World} {g0 t : Nat} (hn : P.globalNamed "internal/bytealg.MaxLen" = some g0) (h : W.ShapedOpen P) (hg : g0 < P.globals.size) {zero : Array Value} (h0 : ((begin P (fun _ _ => 0) default).world.heap[g0]?).bind Obj.row? = some (zero, t)) (hz : zero.size = 1)
 (hb : P.buildable t = true) (hc : P.cellTypes P.depth t = some [t]) (hu : P.underlying t = some (.int .i64)) : ∀ g, P.globalNamed "internal/bytealg.MaxLen" = some g → ∃ m, W.cell? ⟨g, 0, none⟩ = some (.int .i64 m) := fun g hg' => by
 rw [hn] at hg';obtain⟨rfl⟩:=hg';exact cell_of_shapedOpen_int h hg h0 hz hb hc hu
def GT (s sep:ByteArray):Option (List ByteArray×Unit):=if s.size<4294967281∧1≤sep.size then some (Lib.splitB sep 0 (Lib.countB s sep) s,()) else none
theorem Wu {P : Program} {f g T : Nat} (hfn : ∃ fn, P.funcs[f]? = some fn ∧ (fn.name == "runtime.NumGoroutine") = false ∧ fn.body.isSome = true) (hg : P.globalNamed "internal/bytealg.MaxLen" = some g)
 (h:∀ (s sep:ByteArray) (m:Int) (w:World),s.size<4294967281→w.cell? ⟨g,0,none⟩=some (.int .i64 m)→1≤sep.size→Calls P f #[.string s,.string sep] w fun e w'=>e=.returned (.slice (some ⟨w.heap.size,0,none⟩) (Lib.countB s sep+1) (Lib.countB s sep+1))∧w'=w.alloc (.cells ((Lib.splitB sep 0 (Lib.countB s sep) s).map Value.string).toArray T)):
 Cok P ⟨f,[⟨.ro,.str⟩,⟨.ro,.str⟩],[⟨.list T .str,.own .ro⟩],fun x=>GT x.1 x.2.1,0⟩:=by
 refine⟨hfn,fun w own args x y hlive hI hargs hy ra hra=>?_⟩
 have hra':ra=args:=hra
 rw [hra'];show Calls P f args.toArray w (OD w own _ args _ y)
 have hy:GT x.1 x.2.1=some y:=hy
 unfold GT at hy;split at hy
 ·rename_i hb;obtain⟨rfl⟩:=hy
  match args,hargs with
  | [v1,v2],hargs=>
   obtain⟨⟨cs,q1,q2⟩,⟨cs',q1',q2'⟩,_⟩:=hargs;have q1:cs=[v1]:=q1
   have q2:cs=[.string x.1]:=q2
   have q1':cs'=[v2]:=q1'
   have q2':cs'=[.string x.2.1]:=q2'
   rw [q1] at q2;rw [q1'] at q2';obtain rfl:v1=.string x.1:=by simpa using q2
   obtain rfl:v2=.string x.2.1:=by simpa using q2'
   obtain ⟨_, m, hm⟩ := hI.int "internal/bytealg.MaxLen" (by simp [NW]) g hg
   refine(h x.1 x.2.1 m w hb.1 hm hb.2).mono ?_
   rintro e w' ⟨rfl,rfl⟩
   have hlen:=Lib.splitB_all x.2.1 hb.2 0 _ x.1 rfl
   have hsz:(w.alloc (.cells ((Lib.splitB x.2.1 0 (Lib.countB x.1 x.2.1) x.1).map Value.string).toArray T)).heap.size=w.heap.size+1:=Array.size_push ..
   have hold:∀ b,b<w.heap.size→(w.alloc (.cells ((Lib.splitB x.2.1 0 (Lib.countB x.1 x.2.1) x.1).map Value.string).toArray T)).heap[b]?=w.heap[b]?:=fun b hb'=>Array.getElem?_push_lt hb' |>.trans (Array.getElem?_eq_getElem hb').symm
   have hnew:(w.alloc (.cells ((Lib.splitB x.2.1 0 (Lib.countB x.1 x.2.1) x.1).map Value.string).toArray T)).heap[w.heap.size]?=some (.cells ((Lib.splitB x.2.1 0 (Lib.countB x.1 x.2.1) x.1).map Value.string).toArray T (0,0)):=Array.getElem?_push_size
   refine⟨_,fun b=>if b=w.heap.size then some [CZ] else own b,rfl,rfl,rfl,rfl,by omega,fun b l hb'=>?_,fun b hb' ho=>⟨?_,hold b hb'⟩,fun b hb' ho=>⟨?_,hold b hb'⟩,⟨_,rfl,?_⟩,trivial⟩
   ·simp only at hb';split at hb'
    ·omega
    ·have:=hlive b l hb';omega
   ·simp only [if_neg (show ¬ b=w.heap.size by omega),ho]
   ·simp only [if_neg (show ¬ b=w.heap.size by omega),ho]
   ·refine⟨some ⟨w.heap.size,0,none⟩,Lib.countB x.1 x.2.1+1,?_,?_,.inr ⟨w.heap.size,0,_,rfl,by simp,hnew,?_,fun i hi=>⟨_,rfl,fun j hj=>?_⟩⟩⟩
    ·show [Value.slice _ _ _]=[Value.slice _ _ _]
     rw [← hlen];rfl
    ·exact Nat.le_of_eq hlen
    ·simp [hlen,Ty.sz]
    ·have hj0:j=0:=by simp at hj;omega
     subst hj0;have hi':i<(Lib.splitB x.2.1 0 (Lib.countB x.1 x.2.1) x.1).length:=hi
     simp [Ty.sz,hi'];rfl
  | [],hargs=>exact absurd hargs (by simp [ArgsR])
  | [_],hargs=>exact absurd hargs.2 (by simp [ArgsR])
  | _::_::_::_,hargs=>exact absurd hargs.2.2 (by simp [ArgsR])
 ·cases hy
def OY (xs:List ByteArray) (sep:ByteArray):Option (ByteArray×Unit):=if xs.length≤140737488355328∧(Lib.join (xs.map (·.data.toList)) sep.data.toList).length≤140737488355328 then some (⟨(Lib.join (xs.map (·.data.toList)) sep.data.toList).toArray⟩,()) else none
theorem cok_join {P : Program} {f T : Nat} (hfn : ∃ fn, P.funcs[f]? = some fn ∧ (fn.name == "runtime.NumGoroutine") = false ∧ fn.body.isSome = true)
 (h0:∀ (a:Option Addr) (c:Nat) (sep:ByteArray) (w:World),Calls P f #[.slice a 0 c,.string sep] w fun e w'=>e=.returned (.string ⟨#[]⟩)∧w'=w)
 (h:∀ (bk o c:Nat) (xs:List ByteArray) (sep:ByteArray) (w:World),(∀ (j:Nat) x,xs[j]?=some x→w.cell? ⟨bk,o+j,none⟩=some (.string x))→bk<w.heap.size→xs.length≤140737488355328→xs.length≤c→(Lib.join (xs.map (·.data.toList)) sep.data.toList).length≤140737488355328 →
  Calls P f #[.slice (some ⟨bk,o,none⟩) xs.length c,.string sep] w fun e w'=>e=.returned (.string ⟨(Lib.join (xs.map (·.data.toList)) sep.data.toList).toArray⟩)∧Below w.heap.size w w'):
 Cok P ⟨f,[⟨.mov (.own .ro),.list T .str⟩,⟨.ro,.str⟩],[⟨.str,.ro⟩],fun x=>OY x.1 x.2.1,0⟩:=by
 refine⟨hfn,fun w own args x y hlive hI hargs hy ra hra=>?_⟩
 have hra':ra=args:=hra
 rw [hra'];show Calls P f args.toArray w (OD w own _ args _ y)
 have hy:OY x.1 x.2.1=some y:=hy
 unfold OY at hy;split at hy
 ·rename_i hb;obtain⟨rfl⟩:=hy
  match args,hargs with
  | [v1,v2],hargs=>
   obtain⟨⟨cs,q1,q2⟩,⟨cs',q1',q2'⟩,_⟩:=hargs;have q1:cs=[v1]:=q1
   have q1':cs'=[v2]:=q1'
   have q2':cs'=[.string x.2.1]:=q2'
   rw [q1'] at q2';obtain rfl:v2=.string x.2.1:=by simpa using q2'
   obtain⟨A,c,r1,r2,r3⟩:=q2;rw [q1] at r1;obtain rfl:v1=.slice A (List.length x.1) c:=by simpa using r1
   have hpost:∀ {w':World},Below w.heap.size w w'→OD w own [⟨.mov (.own .ro),.list T .str⟩,⟨.ro,.str⟩] [.slice A (List.length x.1) c,.string x.2.1] [⟨.str,.ro⟩] (⟨(Lib.join (x.1.map (·.data.toList)) x.2.1.data.toList).toArray⟩,()) (.returned (.string ⟨(Lib.join (x.1.map (·.data.toList)) x.2.1.data.toList).toArray⟩)) w':=fun {w'} hB=>
    ⟨_,own,rfl,hB.os,hB.tape,hB.output,hB.size,fun b l hb'=>Nat.lt_of_lt_of_le (hlive b l hb') hB.size,fun b hb' ho=>⟨ho,hB.block b hb'⟩,fun b hb' ho=>⟨ho,hB.block b hb'⟩,⟨_,rfl,rfl⟩,trivial⟩
   rcases r3 with⟨rfl,rfl⟩ | ⟨b,o,arr,rfl,s2,s3,s4,s5⟩
   ·have hx0:x.1=[]:=List.eq_nil_of_length_eq_zero (Nat.le_zero.1 r2)
    rw [hx0];refine(h0 none 0 x.2.1 w).mono ?_
    rintro e w' ⟨rfl,hw⟩
    have:=hpost (w':=w') (by rw [hw];exact Below.refl _ _)
    rw [hx0] at this;exact this
   ·refine(h b o c x.1 x.2.1 w (fun j y hj=>?_) (NR s3) hb.1 r2 hb.2).mono ?_
    ·obtain⟨hjl,hjy⟩:=List.getElem?_eq_some_iff.1 hj;obtain⟨ci,t1,t2⟩:=s5 j hjl;have t1:ci=[.string (List.get x.1 ⟨j,hjl⟩)]:=t1
     subst t1;have:=t2 0 (by simp)
     simp only [World.cell?,s3];have e:o+j * Ty.str.sz+0=o+j:=by simp [Ty.sz]
     rw [← e];rw [← hjy];simpa using this
    ·rintro e w' ⟨rfl,hB⟩
     exact hpost hB
  | [],hargs=>exact absurd hargs (by simp [ArgsR])
  | [_],hargs=>exact absurd hargs.2 (by simp [ArgsR])
  | _::_::_::_,hargs=>exact absurd hargs.2.2 (by simp [ArgsR])
 ·cases hy
theorem TP {H:Type} {enc:TypeId×Value→H} {a:Assume} {C:Checked} {os:Os} {f:FuncId} {fn:Func} {s:ChangeSpec} {conds:List PathCond} {apart fresh handsOn again:Bool} {X:World→Array Value→Prop}
 (hX:∀ (w w':World) (args:Array Value),w.heap=w'.heap→X w args→X w' args)
 (own:ownKnob C.prog.godebug=none) (started:os.Started) (noInit:C.prog.inits.idxOf? f=none) (hfn:C.prog.funcs[f]?=some fn)
 (witness:∃ (w:World) (tape:Tape) (i:Input),w.os=os∧(w.forCall tape i).Shaped C.prog∧i.vars=[]∧Input.okWide C.prog (w.forCall tape i) .any w.heap.size f i ∧
  ((s.pre enc C.prog fn conds apart (w.forCall tape i).memory i.args∧X (w.forCall tape i).memory i.args)∧sizedMet enc C.prog fn (OpenSpec.ofChange s) apart (w.forCall tape i).memory i.args)∧a.holds C.prog (lone (Frame.enter C.prog f i.args .normal) [] (w.forCall tape i)))
 (contract:∀ (W:World) (base:Nat) (args:Array Value) (ds gs:List (DataW H)) (before:List MemPlace),
  (∀ (j:Nat) t v,fn.params[j]?=some t→args[j]?=some v→Value.okWide C.prog W .any base t v) →
  DataW.Whole enc C.prog fn.params.toList s.vars apart W args.toList ds gs before →
  conds.all (PathCond.test C.prog ⟨fn.params.toList,ds,s.plain.varTypes C.prog,gs⟩)=true →
  (DataW.weightsEach C.prog (fn.params.toList++s.plain.varTypes C.prog) (ds++gs)).all (·≤reachBytes)=true→X W args→W.ShapedOpen C.prog →
  a.holds C.prog (lone (Frame.enter C.prog f args .normal) [] W) →
  Calls C.prog f args W fun e W'=>∃ v,e=.returned v∧s.post enc C.prog fn apart fresh handsOn again W args v W'):
 ReturnsInHanded a C os f .any (fun w args=>(s.pre enc C.prog fn conds apart w args∧X w args)∧sizedMet enc C.prog fn (OpenSpec.ofChange s) apart w args) (s.post enc C.prog fn apart fresh handsOn again):=by
 refine returnsInHanded_of_calls own started noInit witness ?_
 intro w tape i _ hsh _ hok hpre hholds;obtain⟨_,_,_,fn',hfn',_,_,_,_,hval⟩:=hok;have e:fn'=fn:=Option.some.inj (hfn'.symm.trans hfn)
 subst e;obtain⟨⟨⟨ds,gs,before,hw,hc⟩,hx⟩,hz⟩:=hpre;have hw':=DataW.Whole.of_heap (w':=w.forCall tape i) (by rfl) hw
 refine(contract (w.forCall tape i) w.heap.size i.args ds gs before hval hw' hc (hz.weights hw) (hX _ _ _ (by rfl) hx) hsh hholds).mono fun e W' ⟨v,he,hp⟩=>?_
 subst he;exact ChangeSpec.post_blind hp
def Ws:Nat→DataW Unit→List Value
 | _+1,.lit (.int k n)=>[.int k n]
 | m+1,.agg ps=>ps.flatMap (Ws m)
 | _,_=>[]
def Wv (d:DataW Unit):Array Value:=(Ws 4 d).toArray
def fK (P:Program) (h:Array Obj) (x:String×DataW Unit):Array Obj:=match P.globalNamed x.1 with
 | some g=>h.modify g fun o=>match o with | .cells _ t f=>.cells (Wv x.2) t f | o=>o
 | none=>h
def RO (P:Program) (laid:List (String×DataW Unit)) (os:Os):World:=
 { World.holding P os ⟨#[],#[],[]⟩ with heap:=laid.foldl (fK P) (World.holding P os ⟨#[],#[],[]⟩).heap }
end Go.Proofs.YtmakhmoielhjeaaGreatDoorE

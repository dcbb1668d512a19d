/- The engine, part R3: sort.Ints, by the shelf's contract. No condition. -/
import Derived.Test.YtmakhmoielhjeaaGreatDoorPackRb
import Derived.Shelf.Sort.Plain
import Derived.Shelf.Slices.In.SortNone2
set_option linter.all false
namespace Go.Proofs.YtmakhmoielhjeaaGreatDoorE
open Go.Sort
def Ge (x:List Int):Option (List Int×Unit):=if x.length≤140737488355328 then some (x.mergeSort (fun a b=>decide (a≤b)),()) else none
theorem cY {P : Program} {f T : Nat} (hfn : ∃ fn, P.funcs[f]? = some fn ∧ (fn.name == "runtime.NumGoroutine") = false ∧ fn.body.isSome = true)
 (h0:∀ (a:Option Addr) (c:Nat) (w:World),Calls P f #[.slice a 0 c] w fun e w'=>e=.returned (.tuple #[])∧w'=w)
 (h:∀ (blk off cap:Nat) (zs:List Int) (w:World),Holds (Value.int .i64) w blk off zs.toArray→blk<w.heap.size→zs.length<4611686018427387904 →
  Calls P f #[.slice (some ⟨blk,off,none⟩) zs.length cap] w fun e w'=>e=.returned (.tuple #[])∧∃ n os,w'=grow (putRow (Value.int .i64) (Sort.ahead w n) blk off (zs.mergeSort fun x y=>decide (x≤y)).toArray) os):
 Cok P ⟨f,[⟨.inp (.own .ro),.list T (.int .i64)⟩],[],fun x=>Ge x.1,0⟩:=by
 refine⟨hfn,fun w own args x y hlive hI hargs hy ra hra=>?_⟩
 have hra':ra=args:=hra
 rw [hra'];show Calls P f args.toArray w (Pn w own _ args _ y)
 have hy:Ge x.1=some y:=hy
 unfold Ge at hy;split at hy
 ·rename_i hb;obtain⟨s,hs⟩:∃ s,s=x.1.mergeSort (fun a b=>decide (a≤b)):=⟨_,rfl⟩
  have hlen:s.length=x.1.length:=by rw [hs];exact List.length_mergeSort _
  rw [← hs] at hy;obtain rfl:(s,())=y:=Option.some.inj hy
  match args,hargs with
  | [v],hargs=>
   obtain⟨⟨cs,q1,q2⟩,_⟩:=hargs;have q1:cs=[v]:=q1
   obtain⟨A,c,r1,r2,r3⟩:=q2;rw [q1] at r1;obtain rfl:v=.slice A (List.length x.1) c:=by simpa using r1
   rcases r3 with⟨rfl,rfl⟩ | ⟨b,o,arr,rfl,s2,s3,s4,s5⟩
   ·have hx0:x.1=[]:=List.eq_nil_of_length_eq_zero (Nat.le_zero.1 r2)
    rw [hx0];refine(h0 none 0 w).mono ?_
    rintro e w' ⟨rfl,rfl⟩
    obtain rfl:s=[]:=List.eq_nil_of_length_eq_zero (by rw [hlen,hx0];rfl)
    exact⟨_,own,rfl,rfl,rfl,rfl,Nat.le_refl _,hlive,fun b _ ho=>⟨ho,rfl⟩,fun b _ ho=>⟨ho,rfl⟩,trivial,⟨_,rfl,none,0,rfl,Nat.le_refl 0,.inl ⟨rfl,rfl⟩⟩,trivial⟩
   ·have hbl:=OM s3
    have hget:∀ j (hj:j<x.1.length),arr[o+j]?=some (Value.int .i64 x.1[j]):=fun j hj=>by
     obtain⟨ci,t1,t2⟩:=s5 j hj;have t1:ci=[.int .i64 (List.get x.1 ⟨j,hj⟩)]:=t1
     subst t1;have:=t2 0 (by simp)
     have e:o+j * (Ty.int IntKind.i64).sz+0=o+j:=by simp [Ty.sz]
     rw [← e];simpa using this
    have hH:Holds (Value.int .i64) w b o x.1.toArray:=fun j hj=>by
     have hj':j<x.1.length:=by simpa using hj
     refine⟨?_,?_⟩
     ·simp only [World.cell?,s3];rw [getElem!_pos x.1.toArray j hj];have:=hget j hj'
      simpa using this
     ·simp only [World.frozen?,s3];simp
    refine(h b o c x.1 w hH hbl (by omega)).mono ?_
    rintro e w' ⟨rfl,n,os,rfl⟩
    rw [← hs];have hold:∀ k,k<w.heap.size→k≠b→(grow (putRow (Value.int .i64) (Sort.ahead w n) b o s.toArray) os).heap[k]?=w.heap[k]?:=fun k hk hne=>by
     rw [heap_grow_old _ _ (by simpa using hk)];have:b≠k:=fun e=>hne e.symm
     simp [putRow,mapBlock,Sort.ahead,Array.getElem?_modify,this]
    have hat:(grow (putRow (Value.int .i64) (Sort.ahead w n) b o s.toArray) os).heap[b]?=some (.cells (putCells (Value.int .i64) o s.toArray arr) T (0,0)):=by
     rw [heap_grow_old _ _ (by simpa using hbl)];simp [putRow,mapBlock,Sort.ahead,Array.getElem?_modify,s3,onCells]
    have hsz:w.heap.size≤(grow (putRow (Value.int .i64) (Sort.ahead w n) b o s.toArray) os).heap.size:=by
     rw [size_grow,size_putRow];exact Nat.le_add_right _ _
    have hne:∀ k,own k≠some [2 * 0]→k≠b:=fun k hk e=>hk (by rw [e];exact s2)
    refine⟨_,own,rfl,rfl,rfl,rfl,hsz,fun k l hk=>Nat.lt_of_lt_of_le (hlive k l hk) hsz,fun k hk ho=>⟨ho,hold k hk (hne k (by rw [ho];simp))⟩,fun k hk ho=>⟨ho,hold k hk (hne k (by rw [ho];simp))⟩,trivial,⟨_,rfl,some ⟨b,o,none⟩,c,?_,?_,.inr ⟨b,o,_,rfl,s2,hat,?_,fun i hi=>⟨_,rfl,fun j hj=>?_⟩⟩⟩,trivial⟩
    ·show [Value.slice (some ⟨b,o,none⟩) (List.length x.1) c]=[Value.slice (some ⟨b,o,none⟩) s.length c]
     rw [hlen]
    ·exact Nat.le_trans (Nat.le_of_eq hlen) r2
    ·simpa [putCells] using s4
    ·have hj0:j=0:=by simp at hj;omega
     subst hj0;have hi':i<s.length:=hi
     have hr:o+i<arr.size:=by
      have:c * (Ty.int IntKind.i64).sz=c:=by simp [Ty.sz]
      omega
     have e:o+i * (Ty.int IntKind.i64).sz+0=o+i:=by simp [Ty.sz]
     rw [e];simp only [putCells,Array.getElem?_mapIdx,Array.getElem?_eq_getElem hr,Option.map_some];rw [if_pos ⟨by omega,by simp;omega⟩,show o+i - o=i by omega,getElem!_pos _ _ (by simpa using hi')];simp;rfl
  | [],hargs=>exact absurd hargs (by simp [ArgsR])
  | _::_::_,hargs=>exact absurd hargs.2 (by simp [ArgsR])
 ·cases hy
end Go.Proofs.YtmakhmoielhjeaaGreatDoorE

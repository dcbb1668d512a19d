/- The engine, texts H7 H7b H8: how code is reckoned as Lean functions, and that it is sound. No condition. -/
import Derived.Test.YtmakhmoielhjeaaGreatDoorPackB
import Derived.Laws.StructEq
set_option linter.all false
namespace Go.Proofs.YtmakhmoielhjeaaGreatDoorE
theorem My:∀ (parts:List (Nat×Value)) (ls:List (List Value)) (i:Nat),(parts.map (·.1)).Nodup →
 (parts.foldl (fun ls p=>ls.set p.1 p.2.cells.toList) ls)[i]?=if i<ls.length then (match parts.find? (·.1 == i) with | some p=>some p.2.cells.toList | none=>ls[i]?) else none
 | [],ls,i,_=>by
  simp only [List.foldl_nil,List.find?_nil];split
  ·rfl
  ·simp;omega
 | (j,v)::parts,ls,i,hn=>by
  simp only [List.map_cons,List.nodup_cons] at hn;rw [List.foldl_cons,My parts _ i hn.2];simp only [List.length_set,List.find?_cons];split
  ·rename_i hi
   by_cases hj:j=i
   ·subst hj;have hnone:parts.find? (·.1 == j)=none:=by
     rw [List.find?_eq_none];intro p hp hpj;simp only [beq_iff_eq] at hpj;exact hn.1 (List.mem_map.2 ⟨p,hp,hpj⟩)
    simp only [hnone,beq_self_eq_true];rw [List.getElem?_set_self hi]
   ·have:(j == i)=false:=by simpa using hj
    simp only [this];rw [List.getElem?_set_ne hj]
  ·rfl
theorem LK {β:Type}:∀ {l:List (Nat×β)},(l.map (·.1)).Nodup→∀ {p q:Nat×β},p∈l→q∈l→p.1=q.1→p=q
 | [],_,_,_,hp,_,_=>by cases hp
 | x::l,hn,p,q,hp,hq,he=>by
  simp only [List.map_cons,List.nodup_cons] at hn;rcases List.mem_cons.1 hp with h1 | h1
  ·rcases List.mem_cons.1 hq with h2 | h2
   ·rw [h1,h2]
   ·exact absurd (List.mem_map.2 ⟨q,h2,by rw [← he,h1]⟩) hn.1
  ·rcases List.mem_cons.1 hq with h2 | h2
   ·exact absurd (List.mem_map.2 ⟨p,h1,by rw [he,h2]⟩) hn.1
   ·exact LK hn.2 h1 h2 he
section
variable {w0:World} {G0:Gh} {np:Nat} {σ:S} {a:Act} {w:World} {G:Gh} (h:Rel w0 G0 np σ a w G)
include h
def EX (ρ:Operand→Value) (parts:List (Nat×Operand)) (t:Ty) (j:Nat):List Value:=match parts.find? (·.1 == j) with
 | none=>t.zc
 | some (_,o)=>(ρ o).cells.toList
theorem RepV.zero {ok:Nat→Prop}:∀ (t:Ty),RepV w ok t t.zc t.zero
 | .int _=>rfl
 | .bool=>rfl
 | .str=>rfl
 | .list _ _=>⟨none,0,rfl,Nat.le_refl _,fun h=>absurd h (Nat.lt_irrefl 0)⟩
 | .pair a b=>⟨_,_,rfl,RepV.zero a,RepV.zero b⟩
theorem Oe {t:Ty} {parts:List (Nat×Operand)} {j:Nat} {x:t.D} {deps:List Nat} (hp:Rw σ.ev t parts j=some (x,deps)):RepV w (okd w G.own deps) t (EX a.eval parts t j) x:=by
 unfold Rw at hp;unfold EX;split at hp
 ·rename_i hf;simp only [Option.some.injEq,Prod.mk.injEq] at hp;obtain⟨rfl,rfl⟩:=hp;simp only [hf];exact RepV.zero (h:=h) t
 ·rename_i o hf;simp only [hf];have hev:=(h.ev 0 o).1
  split at hp
  ·rename_i t' x' deps' src hx;split at hp
   ·rename_i ht;subst ht;simp only [Option.some.injEq,Prod.mk.injEq] at hp;obtain⟨rfl,rfl⟩:=hp;rw [hx] at hev;obtain⟨cs,hval,hR,_⟩:=hev;rw [hval.cells (RepV.one hR)];exact hR
   ·cases hp
  ·rename_i hx;rw [hx] at hev;have hv:a.eval o=.slice none 0 0:=hev
   split at hp
   ·simp only [Option.some.injEq,Prod.mk.injEq] at hp;obtain⟨rfl,rfl⟩:=hp;rw [hv];exact⟨none,0,rfl,Nat.le_refl _,fun h=>absurd h (Nat.lt_irrefl 0)⟩
   ·cases hp
  ·cases hp
theorem Qw {parts:List (Nat×Operand)}:∀ (n j:Nat) {t:Ty} {x:t.D} {deps:List Nat},JM σ.ev parts n j t=some (x,deps) →
 ∃ css:List (List Value),css.length=n∧RepV w (okd w G.own deps) t css.flatten x∧∀ i,i<n→∃ ti,(Bp n t)[i]?=some ti∧css[i]?=some (EX a.eval parts ti (j+i))∧(EX a.eval parts ti (j+i)).length=ti.sz
 | 0,_,_,_,_,hb=>by simp [JM] at hb
 | 1,j,t,x,deps,hb=>by
  simp only [JM] at hb;have:=Oe h hb
  refine⟨[EX a.eval parts t j],rfl,by simpa using this,fun i hi=>?_⟩
  have:i=0:=by omega
  subst this;exact⟨t,rfl,rfl,RepV.len (Oe h hb)⟩
 | n+2,j,t,x,deps,hb=>by
  cases t<;>simp only [JM,reduceCtorEq] at hb
  rename_i ta tb;split at hb
  ·rename_i x1 d1 y1 d2 h1 h2;simp only [Option.some.injEq,Prod.mk.injEq] at hb;obtain⟨rfl,rfl⟩:=hb;have e1:=Oe h h1
   obtain⟨css,f1,f2,f3⟩:=Qw (n+1) (j+1) h2;refine⟨EX a.eval parts ta j::css,by simp [f1],⟨_,css.flatten,by simp,RepV.deps (fun r hr=>by simp [hr]) e1,RepV.deps (fun r hr=>by simp [hr]) f2⟩,fun i hi=>?_⟩
   cases i with
   | zero=>exact⟨ta,rfl,rfl,RepV.len e1⟩
   | succ i=>
    obtain⟨ti,g1,g2,g3⟩:=f3 i (by omega);refine⟨ti,by simpa [Bp] using g1,?_,?_⟩
    ·rw [List.getElem?_cons_succ,g2];congr 2;omega
    ·rw [show j+(i+1)=j+1+i by omega];exact g3
  ·cases hb
end
theorem Qx {P:Program} {τ:List TE} (hτ:TabOk P τ) {a:Act} {w:World} {T:Nat} {te:TE} (he:tat τ T=some te)
 {parts:Array (Nat×Operand)} {css:List (List Value)} (c1:css.length=te.k) (c3:∀ i,i<te.k→∃ ti,(Bp te.k te.t)[i]?=some ti∧css[i]?=some (EX a.eval parts.toList ti (0+i))∧(EX a.eval parts.toList ti (0+i)).length=ti.sz)
 (hpos:0<te.k) (hn:(parts.toList.map (·.1)).Nodup) (hk:parts.toList.all (·.1<te.k)=true):
 (Instr.build T (parts.map fun(i,x)=>(i,a.eval x))).run P w=.ok (.agg css.flatten.toArray) w∧te.t.isP=true:=by
 obtain⟨⟨⟨it,z,i1,i2,i3,i4,i5⟩,d,d1,d2⟩,e⟩:=hτ _ _ he;rw [e] at i1 d1;cases d<;>simp only [EN] at d2<;>try omega
 rename_i fs;obtain⟨hfs,⟨pa,pb,hpair⟩,hsub⟩:=d2;have hsome:∀ j,j<te.k→(Ag (BB te.k j) te.t).isSome=true:=fun j hj=>by
  obtain⟨tf,_,h2⟩:=hsub j fs[j] (Array.getElem?_eq_getElem (by omega));rw [h2];rfl
 obtain⟨hz,hcl⟩:=Tl te.k hsome hpos;have hval:z.cells.toList=((Bp te.k te.t).map Ty.zc).flatten:=by
  rw [← hz];rw [hpair] at i3 ⊢;rw [i3.agg];simp [Value.cells]
 have hlens:((Bp te.k te.t).map Ty.zc).map List.length=(Bp te.k te.t).map Ty.sz:=by
  rw [List.map_map];apply List.map_congr_left;intro t _;exact Ty.zc_len t
 -- the places
 have hplaces:fs.toList.mapM (fun f=>(P.info? f.type).map fun i=>(f.offset,i.size))=some ((List.range te.k).map fun j=>(EJ ((Bp te.k te.t).map Ty.sz) j,((Bp te.k te.t).map Ty.sz).getD j 0)):=by
  have key:∀ (l:List Field) (s:Nat),(∀ j f,l[j]?=some f→fs[s+j]?=some f)→s+l.length≤te.k →
   l.mapM (fun f=>(P.info? f.type).map fun i=>(f.offset,i.size))=some ((List.range' s l.length).map fun j=>(EJ ((Bp te.k te.t).map Ty.sz) j,((Bp te.k te.t).map Ty.sz).getD j 0)):=by
   intro l
   induction l with
   | nil=>intro s _ _;rfl
   | cons f l ih=>
    intro s hl hle;simp only [List.length_cons] at hle;have h0:=hl 0 f rfl
    obtain⟨tf,t1,t2⟩:=hsub _ f h0;obtain⟨⟨⟨itf,ztf,q1,_,_,q4,_⟩,_⟩,q6⟩:=hτ _ _ t1;rw [q6] at q1;obtain⟨r1,r2⟩:=Ph te.k _ (by omega) t2;simp only [Nat.add_zero] at r1 r2;have ih':=ih (s+1) (fun j f hj=>by
     have:=hl (j+1) f (by simpa using hj)
     rw [show s+1+j=s+(j+1) by omega];exact this) (by omega)
    simp only [List.mapM_cons,q1,Option.map_some,Option.bind_eq_bind,Option.bind_some,Option.pure_def,ih'];rw [List.length_cons,List.range'_succ,List.map_cons]
    congr 2
    rw [List.getD_eq_getElem?_getD,List.getElem?_map,r2];simp only [Option.map_some,Option.getD_some,r1,q4]
  have:=key fs.toList 0 (fun j f hj=>by simpa using hj) (by simp;omega)
  rw [this,Array.length_toList,hfs,List.range_eq_range']
 have hpl:∀ i,i<((Bp te.k te.t).map Ty.sz).length→(fun i:Nat=>((List.range te.k).map fun j=>(EJ ((Bp te.k te.t).map Ty.sz) j,((Bp te.k te.t).map Ty.sz).getD j 0)).toArray[i]?) i =
  some (EJ ((Bp te.k te.t).map Ty.sz) i,((Bp te.k te.t).map Ty.sz).getD i 0):=by
  intro i hi;rw [List.length_map,hcl] at hi;simp [hi]
 let vals:=parts.toList.map fun p=>(p.1,a.eval p.2)
 have hfind:∀ i,vals.find? (·.1 == i)=(parts.toList.find? (·.1 == i)).map fun p=>(p.1,a.eval p.2):=by
  intro i;simp only [vals,List.find?_map];rfl
 obtain⟨out,o1,o2⟩:=QT hpl vals ((Bp te.k te.t).map Ty.zc) z.cells hval hlens (fun p hp=>by
  obtain⟨q,hq,rfl⟩:=List.mem_map.1 hp;have hqk:q.1<te.k:=by simpa using List.all_eq_true.1 hk q hq
  rw [List.length_map,hcl];refine⟨hqk,?_⟩
  obtain⟨ti,g1,g2,g3⟩:=c3 q.1 hqk;have hfq:parts.toList.find? (·.1 == q.1)=some q:=by
   cases hff:parts.toList.find? (·.1 == q.1) with
   | none=>rw [List.find?_eq_none] at hff;exact absurd (hff q hq) (by simp)
   | some q'=>
    have hm:=List.mem_of_find?_eq_some hff
    have he:=List.find?_some hff
    simp only [beq_iff_eq] at he;rw [LK hn hm hq he]
  rw [Nat.zero_add] at g3;unfold EX at g3;rw [hfq] at g3;simp only at g3;rw [List.getD_eq_getElem?_getD,List.getElem?_map,g1];simpa using g3)
 have hout:out.toList=css.flatten:=by
  rw [o2]
  congr 1
  apply List.ext_getElem?
  intro i;rw [My _ _ _ (by simp only [vals,List.map_map];exact hn),List.length_map,hcl];split
  ·rename_i hi;obtain⟨ti,g1,g2,g3⟩:=c3 i hi;rw [g2,Nat.zero_add,hfind];unfold EX;cases parts.toList.find? (·.1 == i) with
   | none=>simp [g1]
   | some p=>rfl
  ·rw [List.getElem?_eq_none (by omega)]
 refine⟨?_,by rw [hpair];rfl⟩
 rw [← hout];apply run_build
 simp only [Program.built,i1,d1,i2,hplaces];have hv:(parts.map fun x=>(x.1,a.eval x.2)).toList=vals:=by simp [vals]
 rw [hv];exact o1
theorem Yw {P:Program} {τ:List TE} (hτ:TabOk P τ) {w0:World} {G0:Gh} {np:Nat} {σ:S} {a:Act} {w:World} {G:Gh} (h:Rel w0 G0 np σ a w G) {T:Nat} {te:TE} (he:tat τ T=some te)
 {parts:Array (Nat×Operand)} {x:te.t.D} {deps:List Nat} (hb:JM σ.ev parts.toList te.k 0 te.t=some (x,deps)) (hn:(parts.toList.map (·.1)).Nodup) (hk:parts.toList.all (·.1<te.k)=true):
 ∃ cs,(Instr.build T (parts.map fun(i,x)=>(i,a.eval x))).run P w=.ok (.agg cs.toArray) w∧RepV w (okd w G.own deps) te.t cs x∧te.t.isP=true:=by
 obtain⟨css,c1,c2,c3⟩:=Qw h te.k 0 hb;have hpos:0<te.k:=by
  rcases Nat.eq_zero_or_pos te.k with h0 | h0
  ·rw [h0] at hb;simp [JM] at hb
  ·exact h0
 obtain⟨h1,h2⟩:=Qx hτ (a:=a) (w:=w) he c1 c3 hpos hn hk;exact⟨css.flatten,h1,c2,h2⟩
theorem Vs (n j:Nat):BB (n+2) (j+1)=.s::BB (n+1) j:=by
 simp only [BB,List.replicate_succ,List.cons_append]
 congr 2
 by_cases h1:j+1<n+1
 ·rw [if_pos h1,if_pos (by omega)]
 ·rw [if_neg h1,if_neg (by omega)]
section
variable {P:Program} {τ:List TE} (hτ:TabOk P τ)
include hτ
theorem Nt {w:World} {okx oky:Nat→Prop} {d N:Nat} {xs ys:List Value}
 (ih:∀ (T':Nat) (e':TE),tat τ T'=some e'→e'.t.flat=true→e'.t.sz<N→∀ (va vb:Value) (ca cb:List Value) (x y:e'.t.D),Val e'.t va ca→RepV w okx e'.t ca x→Val e'.t vb cb→RepV w oky e'.t cb y→(Op.equalIn d T' va vb).run P w=.ok (eqD e'.t x y) w):
 ∀ (l:List Field) (o:Nat) {t:Ty} {x y:t.D},l≠[]→(t.sz<N∨(t.sz≤N∧2≤l.length))→t.flat=true →
  (∀ j f, l[j]? = some f → f.name ≠ "_" ∧ ∃ tf r, tat τ f.type = some tf ∧ Ag (BB l.length j) t = some (r, tf.t) ∧ f.offset = o + r) →
  o+t.sz≤xs.length→o+t.sz≤ys.length→RepV w okx t ((xs.drop o).take t.sz) x→RepV w oky t ((ys.drop o).take t.sz) y →
  (Op.eqFields d xs.toArray ys.toArray l).run P w=.ok (eqD t x y) w
 | [],_,_,_,_,hl,_,_,_,_,_,_,_=>absurd rfl hl
 | [f],o,t,x,y,_,hN,hf,hsub,hx,hy,hRx,hRy=>by
  obtain⟨hn,tf,r,h1,h2,h3⟩:=hsub 0 f rfl;simp only [List.length_singleton,BB,List.replicate_zero,List.nil_append,Nat.lt_irrefl,if_false,Ag,Option.some.injEq,Prod.mk.injEq] at h2;obtain⟨rfl,rfl⟩:=h2;have hlt:tf.t.sz<N:=by
   rcases hN with h | ⟨_,h⟩
   ·exact h
   ·simp at h
  rw [Nat.add_zero] at h3;obtain⟨va,g1,g2⟩:=KZ hτ h1 (w:=w) (cs:=xs) (off:=o) hx;obtain⟨vb,k1,k2⟩:=KZ hτ h1 (w:=w) (cs:=ys) (off:=o) hy;have:=ih f.type tf h1 hf hlt va vb _ _ x y g2 hRx k2 hRy
  simp only [Op.eqFields,if_pos hn,Sem.run_bind,h3,g1,k1,this,Result.andThen_ok];cases eqD tf.t x y<;>rfl
 | f::f2::l,o,t,x,y,_,hN,hf,hsub,hx,hy,hRx,hRy=>by
  obtain⟨hn,tf,r,h1,h2,h3⟩:=hsub 0 f rfl;simp only [List.length_cons,BB,List.replicate_zero,List.nil_append,show 0+1<l.length+1+1 by omega,if_true] at h2;cases t<;>simp only [Ag,reduceCtorEq] at h2
  rename_i a b;simp only [Option.some.injEq,Prod.mk.injEq] at h2;obtain⟨rfl,rfl⟩:=h2;have hbp:=Ty.sz_pos b
  have hap:=Ty.sz_pos tf.t
  simp only [Ty.sz] at hN hx hy;simp only [Ty.flat,Bool.and_eq_true] at hf;have hlt:tf.t.sz<N:=by omega
  rw [Nat.add_zero] at h3;obtain⟨va,g1,g2⟩:=KZ hτ h1 (w:=w) (cs:=xs) (off:=o) (by omega);obtain⟨vb,k1,k2⟩:=KZ hτ h1 (w:=w) (cs:=ys) (off:=o) (by omega);have cut:∀ {ok:Nat→Prop} {zs:List Value} {z:(Ty.pair tf.t b).D},o+(tf.t.sz+b.sz)≤zs.length→RepV w ok (.pair tf.t b) ((zs.drop o).take (Ty.pair tf.t b).sz) z→RepV w ok tf.t ((zs.drop o).take tf.t.sz) z.1∧RepV w ok b ((zs.drop (o+tf.t.sz)).take b.sz) z.2:=by
   intro ok zs z hz hR;obtain⟨c1,c2,e,q1,q2⟩:=hR;have l1:=RepV.len q1
   simp only [Ty.sz] at e;have e1:c1=(zs.drop o).take tf.t.sz:=by
    have:=congrArg (List.take tf.t.sz) e
    rw [List.take_take,Nat.min_eq_left (by omega),← l1,List.take_left'] at this
    ·rw [← l1];exact this.symm
    ·rfl
   have e2:c2=(zs.drop (o+tf.t.sz)).take b.sz:=by
    have:=congrArg (List.drop tf.t.sz) e
    rw [List.drop_take,List.drop_drop,← l1,List.drop_left'] at this
    ·rw [← this,l1];congr 1;omega
    ·rfl
   rw [← e1,← e2];exact⟨q1,q2⟩
  obtain⟨x1,x2⟩:=cut (by omega) hRx;obtain⟨y1,y2⟩:=cut (by omega) hRy;have h4:=ih f.type tf h1 hf.1 hlt va vb _ _ x.1 y.1 g2 x1 k2 y1
  have h5:=Nt ih (f2::l) (o+tf.t.sz) (t:=b) (x:=x.2) (y:=y.2) (by simp) (.inl (by omega)) hf.2 (fun j f' hj=>by
   obtain⟨q1,tf',r',q2,q3,q4⟩:=hsub (j+1) f' (by simpa using hj);simp only [List.length_cons] at q3;rw [Vs] at q3;simp only [Ag,Option.map_eq_some_iff,Prod.mk.injEq] at q3;obtain⟨r1,q5,q6,q7⟩:=q3;refine⟨q1,tf',r1.1,q2,?_,by omega⟩
   rw [← q7];simpa using q5) (by omega) (by omega) x2 y2
  rw [Op.eqFields];simp only [if_pos hn,Sem.run_bind,h3,g1,k1,h4,Result.andThen_ok];simp only [eqD];cases eqD tf.t x.1 y.1
  ·rfl
  ·simpa using h5
theorem PJ {w:World} {okx oky:Nat→Prop}:∀ (n d T:Nat) (e:TE),tat τ T=some e→e.t.flat=true→e.t.sz≤n→n<d→∀ (va vb:Value) (ca cb:List Value) (x y:e.t.D),Val e.t va ca→RepV w okx e.t ca x→Val e.t vb cb→RepV w oky e.t cb y →
 (Op.equalIn d T va vb).run P w=.ok (eqD e.t x y) w
 | n,0,_,_,_,_,_,hd,_,_,_,_,_,_,_,_,_,_=>by omega
 | n,d+1,T,e,he,hf,hn,hd,va,vb,ca,cb,x,y,hva,hx,hvb,hy=>by
  obtain⟨id,t,k,by_⟩:=e;cases t with
  | int kk=>
   have hu:=hτ.int he rfl
   have e1:va=.int kk x:=by
    have h1:ca=[va]:=hva
    have h2:ca=[.int kk x]:=hx
    rw [h1] at h2;exact(List.cons.inj h2).1
   have e2:vb=.int kk y:=by
    have h1:cb=[vb]:=hvb
    have h2:cb=[.int kk y]:=hy
    rw [h1] at h2;exact(List.cons.inj h2).1
   rw [e1,e2,run_equalIn_int w d T kk kk x y hu];rfl
  | bool=>
   have hu:=hτ.bool he rfl
   have e1:va=.bool x:=by
    have h1:ca=[va]:=hva
    have h2:ca=[.bool x]:=hx
    rw [h1] at h2;exact(List.cons.inj h2).1
   have e2:vb=.bool y:=by
    have h1:cb=[vb]:=hvb
    have h2:cb=[.bool y]:=hy
    rw [h1] at h2;exact(List.cons.inj h2).1
   rw [e1,e2,run_equalIn_bool' w d T x y hu];rfl
  | str=>
   have hu:=hτ.str he rfl
   have e1:va=.string x:=by
    have h1:ca=[va]:=hva
    have h2:ca=[.string x]:=hx
    rw [h1] at h2;exact(List.cons.inj h2).1
   have e2:vb=.string y:=by
    have h1:cb=[vb]:=hvb
    have h2:cb=[.string y]:=hy
    rw [h1] at h2;exact(List.cons.inj h2).1
   rw [e1,e2,run_equalIn_string w d T x y hu];have:(x.toList == y.toList)=decide (@Eq ByteArray x y):=by
    by_cases e:@Eq ByteArray x y
    ·rw [e];simp
    ·rw [decide_eq_false e,beq_eq_false_iff_ne,ne_eq];exact fun h=>e (toList_inj h)
   rw [this];rfl
  | list el tt=>simp [Ty.flat] at hf
  | pair a b=>
   obtain⟨⟨⟨it,z,i1,i2,i3,i4,i5,i6⟩,dd,d1,d2⟩,e⟩:=hτ _ _ he;simp only at e i1 d1 i6;subst e;have hE:=i6 hf
   cases dd<;>simp only [EN,reduceCtorEq,false_and,and_false,exists_false] at d2
   rename_i fs;obtain⟨hst,hk2,hnm⟩:=hE.2 fs d1;obtain⟨hfs,_,hsub⟩:=d2;have hfo:P.fieldsOf id=fs:=by simp [Program.fieldsOf,d1]
   have hva':va=.agg ca.toArray:=hva
   have hvb':vb=.agg cb.toArray:=hvb
   rw [hva',hvb',run_equalIn_agg w d id _ _ (by rw [hfo];exact d1) hst,hfo];have lx:ca.length=(Ty.pair a b).sz:=RepV.len hx
   have ly:cb.length=(Ty.pair a b).sz:=RepV.len hy
   have hn:(Ty.pair a b).sz≤n:=hn
   have hfs:fs.size=k:=hfs
   have hk:2≤k:=by omega
   refine Nt hτ (N:=n) (xs:=ca) (ys:=cb) (okx:=okx) (oky:=oky) (fun T' e' h1 h2 h3 va vb ca cb x y q1 q2 q3 q4=>PJ (n - 1) d T' e' h1 h2 (by omega) (by omega) va vb ca cb x y q1 q2 q3 q4) fs.toList 0 (t:=.pair a b) (x:=x) (y:=y) ?_ (.inr ⟨hn,by simp;omega⟩) hf (fun j f hj=>?_) (by omega) (by omega) ?_ ?_
   ·intro h0;have h1:=congrArg List.length h0
    rw [Array.length_toList,List.length_nil] at h1;omega
   ·refine⟨hnm f (List.mem_of_getElem? hj),?_⟩
    obtain⟨te,t1,t2⟩:=hsub j f (by simpa using hj);refine⟨te,f.offset,t1,?_,by omega⟩
    rw [Array.length_toList,hfs];exact t2
   ·rw [List.drop_zero,← lx,List.take_length];exact hx
   ·rw [List.drop_zero,← ly,List.take_length];exact hy
end
theorem Yd.next {P:Program} {G:Gh} {σ:S} {tmps:Array Value} {w:World} {x:Sem Value} {av:AV} (h:Yd P G σ tmps w x av):
 ∃ v i,(do pure (Next.value (← x)):Sem Next).run P w=.ok (.value v) w∧SlotR G σ tmps w i av v∧av.free=true:=by
 obtain⟨v,h1,⟨i,h2⟩,h3⟩:=h;exact⟨v,i,by simp only [Sem.run_bind,h1,Result.andThen,Sem.run_pure],h2,h3⟩
theorem NY {av av':AV} {c:Cnd} (h:nn av=some (c,av')):av'=av:=by
 cases av<;>simp [nn] at h<;>exact h.2.symm
section
variable {P:Program} {τ:List TE} (hτ:TabOk P τ) {w0:World} {G0:Gh} {np:Nat} {σ:S} {a:Act} {w:World} {G:Gh} (h:Rel w0 G0 np σ a w G)
include hτ h
theorem Yd.ev (x:Operand):Yd P G σ a.tmps w (pure (a.eval x)) (σ.ev x):=⟨_,rfl,⟨0,(h.ev 0 x).1⟩,(h.ev 0 x).2⟩
theorem Ll {lo:Option Operand} {d l:Int} (hb:bnd σ.ev d lo=some l):(lo.map a.eval=none∧l=d)∨∃ k,lo.map a.eval=some (.int k l):=by
 unfold bnd at hb;split at hb
 ·exact .inl ⟨rfl,(Option.some.inj hb).symm⟩
 ·rename_i x;split at hb
  ·rename_i k n d s hx;have:=(h.ev 0 x).1
   rw [hx] at this;refine .inr ⟨k,?_⟩
   simp only [Option.map_some,this.int,Option.some.injEq] at hb ⊢;rw [hb]
  ·cases hb
theorem Zv {v:Bool} {x y:Operand} {c:Cnd} {av:AV} (hp:WK v (σ.ev x) (σ.ev y)=some (c,av)):Yd P G σ a.tmps w (pure (if v=true then a.eval x else a.eval y)) av:=by
 unfold WK at hp;have hx:=h.ev 0 x
 have hy:=h.ev 0 y
 split at hp
 ·rename_i b d s b' d' s' h1 h2;rw [h1] at hx;rw [h2] at hy;simp only [ok1,Option.some.injEq,Prod.mk.injEq] at hp;obtain⟨_,rfl⟩:=hp;rw [hx.1.bool,hy.1.bool];exact Yd.bool (by cases v<;>rfl)
 ·cases v
  ·simp only [cond_false] at hp;rw [NY hp];exact Yd.ev hτ h y
  ·simp only [cond_true] at hp;rw [NY hp];exact Yd.ev hτ h x
theorem ai {op:BinOp} {T:Nat} {x y:Operand} {c:Cnd} {av:AV} (hp:Ys τ op T (σ.ev x) (σ.ev y)=some (c,av)) (hc:c.holds):
 Yd P G σ a.tmps w (do eqGuard op T x y (a.eval x) (a.eval y);binOp op T (a.eval x) (a.eval y)) av:=by
 have hx:=(h.ev 0 x).1
 have hy:=(h.ev 0 y).1
 have key:∀ {vx vy:Value},a.eval x=vx→a.eval y=vy→vx.oneCell'=true→vx≠.nilIface→Yd P G σ a.tmps w (binOp op T vx vy) av →
  Yd P G σ a.tmps w (do eqGuard op T x y (a.eval x) (a.eval y);binOp op T (a.eval x) (a.eval y)) av:=by
  rintro vx vy rfl rfl h1 h2 ⟨v,g1,g2⟩
  refine⟨v,?_,g2⟩
  simp only [Sem.run_bind,Rf (P:=P) (w:=w) (op:=op) (T:=T) (x:=x) (y:=y) (b:=a.eval y) h1 h2,Result.andThen];exact g1
 unfold Ys at hp;split at hp
 ·rename_i h1 h2;rw [h1] at hx;rw [h2] at hy;split at hp
  ·rename_i hk;subst hk;exact key hx.int hy.int rfl (by simp) (bE T hp hc)
  ·exact key hx.int hy.int rfl (by simp) (Xa T hp hc)
 ·rename_i h1 h2;rw [h1] at hx;rw [h2] at hy;exact key hx.str hy.str rfl (by simp) (bc T hp hc)
 ·rename_i h1 h2;rw [h1] at hx;rw [h2] at hy;split at hp
  ·rename_i te hte;split at hp
   ·rename_i hb;exact key hx.bool hy.bool rfl (by simp) (Yv (hτ.bool hte hb) hp)
   ·cases hp
  ·cases hp
 ·rename_i s t xa da sa t2 xb db sb h1 h2;rw [h1] at hx;rw [h2] at hy;split at hp
  ·rename_i te hte;split at hp
   ·rename_i ht2;subst ht2;split at hp
    ·rename_i hcd;obtain⟨id,tt,k,by_⟩:=te;obtain⟨ha,hf,hsz⟩:=hcd;simp only at ha;subst ha;obtain⟨cx,vx1,vx2,_⟩:=hx;obtain⟨cy,vy1,vy2,_⟩:=hy;have he:=PJ hτ 9999 10000 T _ hte hf (by simp only at hsz ⊢;omega) (by omega) _ _ _ _ xa xb vx1 vx2 vy1 vy2
     have e1:a.eval x=.agg cx.toArray:=vx1
     have e2:a.eval y=.agg cy.toArray:=vy1
     have hG:P.eqGuardType P.depth T=false:=by
      obtain⟨⟨⟨_,_,_,_,_,_,_,i6⟩,_⟩,e⟩:=hτ _ _ hte;simp only at e i6;subst e;exact(i6 hf).1
     rw [e1,e2] at he ⊢;split at hp
     ·simp only [ok1,Option.some.injEq,Prod.mk.injEq] at hp;obtain⟨_,rfl⟩:=hp;refine Yd.bool ?_
      simp only [Sem.run_bind,run_eqGuard_agg w .eql T x y _ _ hG,Result.andThen_ok,run_eql_struct,he]
     ·simp only [ok1,Option.some.injEq,Prod.mk.injEq] at hp;obtain⟨_,rfl⟩:=hp;refine Yd.bool ?_
      simp only [Sem.run_bind,run_eqGuard_agg w .neq T x y _ _ hG,Result.andThen_ok,run_neq_struct,he]
     ·cases hp
    ·cases hp
   ·cases hp
  ·cases hp
 ·cases hp
theorem Xb {T:Nat} {te:TE} (he:tat τ T=some te) {x:Operand} {lo hi:Option Operand} {t:Ty} {y:t.D} {deps:List Nat} {src:Option Place} (hx:σ.ev x=.snp t y deps src) (ht:t=te.t) {c:Cnd} {av:AV}
 (hp:TU σ.ev lo hi (.snp t y deps src)=some (c,av)) (hc:c.holds):Yd P G σ a.tmps w (Instr.sliceAt T (a.eval x) (lo.map a.eval) (hi.map a.eval) none) av:=by
 have hv:=(h.ev 0 x).1
 rw [hx] at hv;cases t<;>simp only [TU,reduceCtorEq] at hp
 case str=>
  split at hp
  ·rename_i l r hl hr;simp only [Option.some.injEq,Prod.mk.injEq] at hp;obtain⟨rfl,rfl⟩:=hp;rw [hv.str];exact ao hτ he ht.symm (Ll hτ h hl) (Ll hτ h hr) hc
  ·cases hp
 case list e t=>
  split at hp
  ·rename_i l r hl hr;simp only [Option.some.injEq,Prod.mk.injEq] at hp;obtain⟨rfl,rfl⟩:=hp;exact ZL hτ he ht.symm hv (Ll hτ h hl) (Ll hτ h hr) hc
  ·cases hp
theorem ak {b:Builtin} {args:List Operand} {Ts:List Nat} {c:Cnd} {av:AV} (hp:Yu τ σ.ev b args Ts=some (c,av)) (type:TypeId):
 ∃ v i,(builtin b Ts.toArray type (args.map fun | .const _=>true | _=>false).toArray (args.map a.eval).toArray).run P w=.ok (.value v) w∧SlotR G σ a.tmps w i av v∧av.free=true:=by
 unfold Yu at hp;split at hp
 ·rename_i x T;have hv:=(h.ev 0 x).1
  split at hp
  ·rename_i te t y deps src hte hx;split at hp
   ·rename_i ht;rw [hx] at hv;exact(bG hτ (ty:=type) hte hv ht hp).next
   ·cases hp
  ·rename_i i1 e t k1 b1 hte hx;simp only [Sv,ok1,Option.some.injEq,Prod.mk.injEq] at hp;obtain⟨_,rfl⟩:=hp;rw [hx] at hv;have hv':a.eval x=.slice none 0 0:=hv
   obtain⟨v,i,h1,h2,h3⟩:=(bH hτ (G:=G) (σ:=σ) (tmps:=a.tmps) (w:=w) hte rfl (ty:=type)).next;rw [← hv'] at h1;exact⟨v,i,h1,h2,h3⟩
  ·cases hp
 ·rename_i T x y;have hx:=(h.ev 0 x).1
  have hy:=(h.ev 0 y).1
  split at hp
  ·rename_i k n d s k' n' d' s' h1 h2;split at hp
   ·rename_i hk;subst hk;simp only [ok1,Option.some.injEq,Prod.mk.injEq] at hp;obtain⟨_,rfl⟩:=hp;rw [h1] at hx;rw [h2] at hy;exact(Yd.int (P:=P) (G:=G) (σ:=σ) (tmps:=a.tmps) (x:=Builtin.min_ Ts.toArray type #[a.eval x,a.eval y]) (by rw [hx.int,hy.int,run_min_int2 w])).next
   ·cases hp
  ·cases hp
 ·rename_i T x y;have hx:=(h.ev 0 x).1
  have hy:=(h.ev 0 y).1
  split at hp
  ·rename_i k n d s k' n' d' s' h1 h2;split at hp
   ·rename_i hk;subst hk;simp only [ok1,Option.some.injEq,Prod.mk.injEq] at hp;obtain⟨_,rfl⟩:=hp;rw [h1] at hx;rw [h2] at hy;exact(Yd.int (P:=P) (G:=G) (σ:=σ) (tmps:=a.tmps) (x:=Builtin.max_ Ts.toArray type #[a.eval x,a.eval y]) (by rw [hx.int,hy.int,run_max_int2 w])).next
   ·cases hp
  ·cases hp
 ·cases hp
theorem gN (o:Oper) {c:Cnd} {av:AV} (hp:pv τ σ.ev σ.rt o.op=some (c,av)) (hc:c.holds):
 ∃ v i,(execOp a.eval o).run P w=.ok (.value v) w∧SlotR G σ a.tmps w i av v∧av.free=true:=by
 obtain⟨dst,op,type,pos,after,guard⟩:=o;simp only at hp;unfold pv at hp;split at hp
 ·rename_i x;rw [NY hp];exact⟨_,0,rfl,(h.ev 0 x).1,(h.ev 0 x).2⟩
 ·rename_i x;rw [NY hp];exact⟨_,0,rfl,(h.ev 0 x).1,(h.ev 0 x).2⟩
 ·rename_i cc x y;split at hp
  ·rename_i v d s hcc;have hb:=(h.ev 0 cc).1
   rw [hcc] at hb;obtain⟨u,i,h1,h2,h3⟩:=(Zv hτ h hp).next;refine⟨u,i,?_,h2,h3⟩
   simp only [execOp,hb.bool,asBool,Sem.run_bind,Sem.run_pure,Result.andThen] at h1 ⊢;exact h1
  ·cases hp
 ·rename_i x;have hx:=h.ev 0 x
  split at hp
  ·rename_i p hxp;split at hp
   ·rename_i d hd;simp only [ok1,Option.some.injEq,Prod.mk.injEq] at hp;obtain⟨_,rfl⟩:=hp;rw [hxp] at hx;obtain⟨L,cr,hroot⟩:=h.rt hd;obtain⟨d0,A,cs,_,_,hv⟩:=hx.1 d L cr hroot;exact⟨a.eval x,0,by simp only [execOp,hv];rfl,hx.1,rfl⟩
   ·cases hp
  ·rename_i t y deps hxp;simp only [ok1,Option.some.injEq,Prod.mk.injEq] at hp;obtain⟨_,rfl⟩:=hp;rw [hxp] at hx;obtain⟨A,cs,hv,_⟩:=hx.1;exact⟨a.eval x,0,by simp only [execOp,hv];rfl,hx.1,rfl⟩
  ·rename_i k π hxp;simp only [ok1,Option.some.injEq,Prod.mk.injEq] at hp;obtain⟨_,rfl⟩:=hp;rw [hxp] at hx;obtain⟨⟨A,cs,hv,_⟩,_⟩:=hx.1;exact⟨a.eval x,0,by simp only [execOp,hv];rfl,hx.1,rfl⟩
  ·cases hp
 ·exact(ai hτ h hp hc).next
 ·rename_i x;split at hp
  ·rename_i b d s hx;simp only [ok1,Option.some.injEq,Prod.mk.injEq] at hp;obtain⟨_,rfl⟩:=hp;have hv:=(h.ev 0 x).1
   rw [hx] at hv;exact(Yd.bool (x:=Op.unary .not (a.eval x)) (by rw [hv.bool];rfl)).next
  ·cases hp
 ·rename_i x;split at hp
  ·rename_i k n d s hx;simp only [ok1,Option.some.injEq,Prod.mk.injEq] at hp;obtain⟨_,rfl⟩:=hp;have hv:=(h.ev 0 x).1
   rw [hx] at hv;exact(Yd.int (x:=Op.unary .neg (a.eval x)) (by rw [hv.int];rfl)).next
  ·cases hp
 ·rename_i s d x;have hv:=(h.ev 0 x).1
  split at hp
  ·rename_i ts id k' kk bb k n dd ss hs hd hx;simp only [ok1,Option.some.injEq,Prod.mk.injEq] at hp;obtain⟨_,rfl⟩:=hp;rw [hx] at hv;obtain⟨ds,hds,_⟩:=hτ.desc hs;have hdi:=hτ.int hd rfl
   refine(Yd.int (x:=convert s d (a.eval x)) ?_).next
   rw [hv.int];simp [convert,run_underlying hds,run_underlying hdi,Conv.intToInt]
  ·rename_i i1 e k1 b1 i2 k2 b2 e' xs dd ss hs hd hx;split at hp
   ·rename_i hee;subst hee;simp only [ok1,Option.some.injEq,Prod.mk.injEq] at hp;obtain⟨_,rfl⟩:=hp;rw [hx] at hv;exact(Vn hτ hs hd rfl rfl hv).next
   ·cases hp
  ·cases hp
 ·rename_i T x;have hv:=(h.ev 0 x).1
  split at hp
  ·rename_i te p hte hx;split at hp
   ·rename_i ht;rw [NY hp];rw [hx] at hv;exact(Zm hτ h hte hv ht).next
   ·cases hp
  ·rename_i te t y deps hte hx;split at hp
   ·rename_i ht;subst ht;simp only [ok1,Option.some.injEq,Prod.mk.injEq] at hp;obtain⟨_,rfl⟩:=hp;rw [hx] at hv;exact(bK hτ h hte hv).next
   ·cases hp
  ·rename_i te k π hte hx;split at hp
   ·rename_i ht;rw [NY hp];rw [hx] at hv;exact(bL hτ h hte hv ht).next
   ·cases hp
  ·cases hp
 ·rename_i T x j;have hv:=(h.ev 0 x).1
  split at hp
  ·rename_i te p hte hx;split at hp
   ·rename_i d hd;split at hp
    ·rename_i d' hd';split at hp
     ·rename_i hcd;simp only [ok1,Option.some.injEq,Prod.mk.injEq] at hp;obtain⟨_,rfl⟩:=hp;rw [hx] at hv;exact(Rg hτ h hte hv hd hd' hcd.1 hcd.2.1 hcd.2.2).next
     ·cases hp
    ·cases hp
   ·cases hp
  ·rename_i te t y deps hte hx;split at hp
   ·rename_i hcd;obtain⟨ht,hj⟩:=hcd;subst ht;split at hp
    ·rename_i d hd;simp only [ok1,Option.some.injEq,Prod.mk.injEq] at hp;obtain⟨_,rfl⟩:=hp;rw [hx] at hv;exact(Sm hτ h hte hv hd hj).next
    ·cases hp
   ·cases hp
  ·rename_i te k π hte hx;split at hp
   ·rename_i d hd;split at hp
    ·rename_i d' hd';split at hp
     ·rename_i hcd;simp only [ok1,Option.some.injEq,Prod.mk.injEq] at hp;obtain⟨_,rfl⟩:=hp;rw [hx] at hv;exact(Sn hτ h hte hv hd hd' hcd.1 hcd.2.1 hcd.2.2).next
     ·cases hp
    ·cases hp
   ·cases hp
  ·cases hp
 ·rename_i T x j;have hv:=(h.ev 0 x).1
  split at hp
  ·rename_i te t y deps src hte hx;split at hp
   ·rename_i hcd;obtain⟨ht,hj⟩:=hcd;subst ht;split at hp
    ·rename_i av' hf;simp only [ok1,Option.some.injEq,Prod.mk.injEq] at hp;obtain⟨_,rfl⟩:=hp;rw [hx] at hv;exact(ZX hτ h hte hv hf hj).next
    ·cases hp
   ·cases hp
  ·cases hp
 ·rename_i T x i;have hv:=(h.ev 0 x).1
  have hi:=(h.ev 0 i).1
  split at hp
  ·rename_i te e t xs deps src k n dd ss hte hx hix;split at hp
   ·rename_i ht;rw [hx] at hv;rw [hix] at hi;exact(eD hτ h hte ht hv hi hp hc).next
   ·cases hp
  ·cases hp
 ·rename_i T x i;have hv:=(h.ev 0 x).1
  have hi:=(h.ev 0 i).1
  split at hp
  ·rename_i te s d1 s1 k n d2 s2 hte hx hix;split at hp
   ·rename_i ht;simp only [Option.some.injEq,Prod.mk.injEq] at hp;obtain⟨rfl,rfl⟩:=hp;rw [hx] at hv;rw [hix] at hi;exact(Zb hτ hte ht hv hi hc).next
   ·cases hp
  ·cases hp
 ·rename_i T x lo hi;split at hp
  ·rename_i te t y deps src hte hx;split at hp
   ·rename_i ht;exact(Xb hτ h hte hx ht hp hc).next
   ·cases hp
  ·cases hp
 ·rename_i T parts;split at hp
  ·rename_i te hte;split at hp
   ·rename_i x deps hb;split at hp
    ·rename_i hcd;simp only [ok1,Option.some.injEq,Prod.mk.injEq] at hp;obtain⟨_,rfl⟩:=hp;obtain⟨cs,b1,b2,b3⟩:=Yw hτ h hte hb hcd.1 hcd.2;refine(show Yd P G σ a.tmps w (Instr.build T (parts.map fun(i,x)=>(i,a.eval x))) _ from ⟨_,b1,⟨0,SlotR.mk ⟨cs,?_,b2,fun p hp=>by cases hp⟩⟩,Js _ _ _ _⟩).next
     cases ht:te.t<;>rw [ht] at b3<;>simp [Ty.isP] at b3
     rfl
    ·cases hp
   ·cases hp
  ·cases hp
 ·rename_i c;obtain⟨callee,args,argTypes⟩:=c;simp only at hp;split at hp
  ·obtain⟨args⟩:=args;obtain⟨argTypes⟩:=argTypes;obtain⟨v,i,h1,h2,h3⟩:=ak hτ h hp type;have h1':(builtin _ ⟨argTypes⟩ type (args.map fun | .const _=>true | _=>false).toArray (args.map a.eval).toArray).run P w=.ok (.value v) w:=h1
   refine⟨v,i,?_,h2,h3⟩
   simp [execOp,resolve,invoke];exact h1'
  ·cases hp
 ·cases hp
end
end Go.Proofs.YtmakhmoielhjeaaGreatDoorE

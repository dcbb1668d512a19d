/- The engine, texts J1 J2 J2b J2c J2d J2e J2f J2g J3 J4 K1 K2: how code is reckoned as Lean functions, and that it is sound. No condition. -/
import Derived.Test.YtmakhmoielhjeaaGreatDoorPackC
import Derived.Laws.MakeOwn
import Derived.Great.BuildSlice
set_option linter.all false
namespace Go.Proofs.YtmakhmoielhjeaaGreatDoorE
def GO:(rs:List Ret)→HL (rts rs)→List Dat
 | [],_=>[]
 | r::rs,y=>⟨r.t,r.m,y.1⟩::GO rs y.2
def MT (ds:List Nat):(rs:List Ret)→HL (rts rs)→Option AV
 | [],_=>some .none
 | [r],y=>if ds=[]∨cov r.t r.m=true then some (.dat ⟨r.t,r.m,y.1⟩) else if r.m.noOwn then some (.snp r.t y.1 ds none) else none
 | r::r2::rs,y=>if ds=[]∨(r::r2::rs).all (fun r=>cov r.t r.m)=true then some (.tup (GO (r::r2::rs) y)) else none
theorem PH:∀ (rs:List Ret) (y:HL (rts rs)),(GO rs y).length=rs.length
 | [],_=>rfl
 | r::rs,y=>by simp only [GO,List.length_cons,PH rs y.2]
theorem bS {ds:List Nat} {k:Nat} {av:AV}:∀ (rs:List Ret) (y:HL (rts rs)),MT ds rs y=some av→av.hk≠some k
 | [],y,hr=>by simp only [MT,Option.some.injEq] at hr;subst hr;simp
 | [r],y,hr=>by simp only [MT] at hr;split at hr<;>(try split at hr)<;>simp at hr<;>subst hr<;>simp
 | r::r2::rs,y,hr=>by simp only [MT] at hr;split at hr<;>simp at hr<;>subst hr<;>simp
def Bq:(ps:List Prm)→HL (fts ps)→List Dat
 | [],_=>[]
 | ⟨.ro,_⟩::ps,z=>Bq ps z
 | ⟨.mov _,_⟩::ps,z=>Bq ps z
 | ⟨.inp m,t⟩::ps,z=>⟨t,m,z.1⟩::Bq ps z.2
 | ⟨.ptr m,t⟩::ps,z=>⟨t,m,z.1⟩::Bq ps z.2
def S.setFins:List (Fl×Dat)→S→Option S
 | [],σ=>some σ
 | (e,D)::r,σ=>match σ.rt e.p.root with
  | some d=>match Fe e.p.path d.t d.m d.x D with
   | some (M,X)=>S.setFins r (σ.setRoot e.p.root ⟨d.t,M,X⟩)
   | none=>none
  | none=>none
def EU (d:Nat) (ms:List Nat) (fl:List Fl):List Nat:=2 * d::(ms.map (2 * ·)++fl.map (·.p.root))
def S.called (σ:S) (d:Nat) (av:AV) (ms:List Nat) (fl:List Fl) (Ds:List Dat):Option S:=match S.setFins (fl.zip Ds) ((σ.emptyA ms).killA (EU d ms fl)) with
 | some σ1=>some (σ1.setSlot d av)
 | none=>none
theorem Val.uniq {t:Ty} {v:Value} {cs cs':List Value} (h:Val t v cs) (h':Val t v cs'):cs=cs':=by
 cases t<;>simp only [Val] at h h'<;>simp_all
def hZ (G:Gh) (σ:S) (tmps:Array Value) (w w':World) (own':Own) (e:Fl) (D:Dat):Prop:=
 (e.b=false∧∃ L cr d x cs L',RootR G σ tmps w e.p.root d L cr∧AH e.p.path d.t d.m d.x=some ⟨D.t,D.m,x⟩∧Al w e.p.path d.t L cr=some (L',cs)∧RepO w' own' D.t D.m [2 * e.i] cs D.x) ∨
 (e.b=true∧∃ k x arr arr' T,e.p=⟨2 * k+1,[]⟩∧σ.box k=some (true,⟨D.t,D.m,x⟩)∧w.heap[(G.bl k).1]?=some (.cells arr T (0,0))∧w'.heap[(G.bl k).1]?=some (.cells arr' T (0,0))∧arr'.size=arr.size∧(∀ j,(j<(G.bl k).2∨(G.bl k).2+D.t.sz≤j)→arr'[j]?=arr[j]?) ∧
  own' (G.bl k).1=some [2 * e.i]∧∃ cs,RepO w' own' D.t D.m [2 * e.i,0] cs D.x∧∀ j (hj:j<cs.length),arr'[(G.bl k).2+j]?=some cs[j])
section
variable {w0:World} {G0:Gh} {np:Nat} {σ:S} {a:Act} {w:World} {G:Gh} (h:Rel w0 G0 np σ a w G)
include h
theorem KS {w':World} {own':Own}:∀ (ps:List Prm) (i:Nat) (os:List Operand) {xs:HL (pts ps)} {ds:List Nat} {l:List (Nat×Nat)} {fl:List Fl} {z:HL (fts ps)},σ.args i ps os=some (xs,ds,l,fl)→OB w w' own' i ps (os.map a.eval) z →
 fl.length=(Bq ps z).length∧(∀ e∈fl,i≤e.i)∧(fl.map (·.i)).Nodup∧∀ p∈fl.zip (Bq ps z),hZ G σ a.tmps w w' own' p.1 p.2
 | [],i,os,xs,ds,l,fl,z,ha,hf=>by
  cases os with
  | nil=>
   simp only [S.args,Option.some.injEq,Prod.mk.injEq] at ha;obtain⟨_,_,_,rfl⟩:=ha;exact⟨rfl,(fun e he=>by cases he),by simp,(fun p hp=>by simp at hp)⟩
  | cons o os=>simp [S.args] at ha
 | ⟨.ro,t⟩::ps,i,os,xs,ds,l,fl,z,ha,hf=>by
  cases os with
  | nil=>simp [S.args] at ha
  | cons o os=>
   simp only [S.args] at ha;split at ha
   ·rename_i x d xs' ds' l' fl' hx hr;simp only [Option.some.injEq,Prod.mk.injEq] at ha;obtain⟨rfl,rfl,rfl,rfl⟩:=ha;obtain⟨g1,g2,g3,g4⟩:=KS ps (i+1) os hr hf;exact⟨g1,fun e he=>by have:=g2 e he;omega,g3,g4⟩
   ·cases ha
 | ⟨.mov m,t⟩::ps,i,os,xs,ds,l,fl,z,ha,hf=>by
  cases os with
  | nil=>simp [S.args] at ha
  | cons o os=>
   simp only [S.args] at ha;split at ha
   ·rename_i m' x ms xs' ds' l' fl' hx hr;split at ha
    ·simp only [Option.some.injEq,Prod.mk.injEq] at ha;obtain⟨rfl,rfl,rfl,rfl⟩:=ha;obtain⟨g1,g2,g3,g4⟩:=KS ps (i+1) os hr hf;exact⟨g1,fun e he=>by have:=g2 e he;omega,g3,g4⟩
    ·cases ha
   ·cases ha
 | ⟨.inp m,t⟩::ps,i,os,xs,ds,l,fl,z,ha,hf=>by
  cases os with
  | nil=>simp [S.args] at ha
  | cons o os=>
   simp only [S.args] at ha;split at ha
   ·rename_i x p xs' ds' l' fl' hx hr;simp only [Option.some.injEq,Prod.mk.injEq] at ha;obtain⟨rfl,rfl,rfl,rfl⟩:=ha;obtain⟨hf1,hf2⟩:=hf;obtain⟨g1,g2,g3,g4⟩:=KS ps (i+1) os hr hf2;refine⟨by simp [Bq,g1],fun e he=>?_,?_,fun q hq=>?_⟩
    ·rcases List.mem_cons.1 he with rfl | he
     ·exact Nat.le_refl _
     ·have:=g2 e he;omega
    ·simp only [List.map_cons,List.nodup_cons];refine⟨fun hm=>?_,g3⟩
     obtain⟨e,he,hei⟩:=List.mem_map.1 hm;have:=g2 e he;omega
    ·simp only [Bq,List.zip_cons_cons] at hq;rcases List.mem_cons.1 hq with rfl | hq
     ·obtain⟨L,cr,d,cs,q1,q2,⟨L',q3⟩,q4,q5⟩:=UV h hx;obtain⟨cs2,r1,r2⟩:=hf1;have e1:cs2=cs:=Val.uniq (t:=t) r1 q4
      subst e1;exact .inl ⟨rfl,L,cr,d,x,cs2,L',q1,q2,q3,r2⟩
     ·exact g4 q hq
   ·cases ha
 | ⟨.ptr m,t⟩::ps,i,os,xs,ds,l,fl,z,ha,hf=>by
  cases os with
  | nil=>simp [S.args] at ha
  | cons o os=>
   simp only [S.args] at ha;split at ha
   ·rename_i x p xs' ds' l' fl' hx hr;simp only [Option.some.injEq,Prod.mk.injEq] at ha;obtain⟨rfl,rfl,rfl,rfl⟩:=ha;obtain⟨hf1,hf2⟩:=hf;obtain⟨g1,g2,g3,g4⟩:=KS ps (i+1) os hr hf2;refine⟨by simp [Bq,g1],fun e he=>?_,?_,fun q hq=>?_⟩
    ·rcases List.mem_cons.1 he with rfl | he
     ·exact Nat.le_refl _
     ·have:=g2 e he;omega
    ·simp only [List.map_cons,List.nodup_cons];refine⟨fun hm=>?_,g3⟩
     obtain⟨e,he,hei⟩:=List.mem_map.1 hm;have:=g2 e he;omega
    ·simp only [Bq,List.zip_cons_cons] at hq;rcases List.mem_cons.1 hq with rfl | hq
     ·obtain⟨k,rfl,hb,hv⟩:=Ud h hx;obtain⟨b,o',arr,arr',T,cs,r1,r2,r3,r4,r5,r6,r7,r8⟩:=hf1;have e0:(Value.pointer (some ⟨b,o',none⟩))=.pointer (some ⟨(G.bl k).1,(G.bl k).2,none⟩):=by rw [← hv];exact r1.symm
      simp only [Value.pointer.injEq,Option.some.injEq,Addr.mk.injEq,and_true] at e0;obtain⟨rfl,rfl⟩:=e0;exact .inr ⟨rfl,k,x,arr,arr',T,rfl,hb,r2,r3,r4,r5,r6,cs,r7,r8⟩
     ·exact g4 q hq
   ·cases ha
end
theorem S.setFins_ok:∀ (E:List (Fl×Dat)) {σ σ':S},S.setFins E σ=some σ'→(E.map (·.1.p.root)).Nodup →
 σ'.sl.length=σ.sl.length∧(∀ j,(∀ p∈E,p.1.p.root≠2 * j)→σ'.slot j=σ.slot j)∧(∀ k,(∀ p∈E,p.1.p.root≠2 * k+1)→σ'.box k=σ.box k) ∧
 ∀ p∈E,∃ d M X,σ.rt p.1.p.root=some d∧Fe p.1.p.path d.t d.m d.x p.2=some (M,X)∧(∀ j,p.1.p.root=2 * j→σ'.slot j=.dat ⟨d.t,M,X⟩)∧(∀ k,p.1.p.root=2 * k+1→σ'.box k=(σ.box k).map fun q=>(q.1,⟨d.t,M,X⟩))
 | [],σ,σ',h,_=>by
  simp only [S.setFins,Option.some.injEq] at h;subst h;exact⟨rfl,fun _ _=>rfl,fun _ _=>rfl,fun p hp=>by cases hp⟩
 | (e,D)::E,σ,σ',h,hn=>by
  simp only [List.map_cons,List.nodup_cons] at hn;simp only [S.setFins] at h;split at h
  ·rename_i d hd;split at h
   ·rename_i M X hs;obtain⟨a1,a2,a3,a4⟩:=S.setFins_ok E h hn.2;have hne:∀ p∈E,p.1.p.root≠e.p.root:=fun p hp he=>hn.1 (by rw [← he];exact List.mem_map.2 ⟨p,hp,rfl⟩)
    refine⟨by rw [a1,S.setRoot_len],fun j hj=>?_,fun k hk=>?_,fun p hp=>?_⟩
    ·rw [a2 j (fun p hp=>hj p (by simp [hp])),S.setRoot_slot _ hd,if_neg (hj (e,D) (by simp))]
    ·rw [a3 k (fun p hp=>hk p (by simp [hp])),S.setRoot_box _ hd,if_neg (hk (e,D) (by simp))]
    ·rcases List.mem_cons.1 hp with rfl | hp
     ·refine⟨d,M,X,hd,hs,fun j hj=>?_,fun k hk=>?_⟩
      ·simp only at hj;rw [a2 j (fun p hp he=>hne p hp (by rw [he,hj])),S.setRoot_slot _ hd,if_pos hj]
      ·simp only at hk;rw [a3 k (fun p hp he=>hne p hp (by rw [he,hk])),S.setRoot_box _ hd,if_pos hk]
     ·obtain⟨d2,M2,X2,b1,b2,b3,b4⟩:=a4 p hp;have hr:(σ.setRoot e.p.root ⟨d.t,M,X⟩).rt p.1.p.root=σ.rt p.1.p.root:=by
       unfold S.rt;split
       ·rename_i he;rw [S.setRoot_slot _ hd,if_neg (fun hh=>hne p hp (by omega))]
       ·rename_i he;rw [S.setRoot_box _ hd,if_neg (fun hh=>hne p hp (by omega))]
      rw [hr] at b1;refine⟨d2,M2,X2,b1,b2,b3,fun k hk=>?_⟩
      rw [b4 k hk,S.setRoot_box _ hd,if_neg (fun hh=>hne p hp (by rw [hk,hh]))]
   ·cases h
  ·cases h
theorem al {P:Program} {w0:World} {G0:Gh} {np:Nat} {σ:S} {a:Act} {w:World} {G:Gh} (h:Rel w0 G0 np σ a w G) (hI:Inv P w0 G0.own) {c:Cal} (hc:FOK P c) (hmd:c.md≠3) {os:List Operand} {x:HL (pts c.ps)} {ds:List Nat} {l:List (Nat×Nat)} {fl:List Fl}
 (ha:σ.args 0 c.ps os=some (x,ds,l,fl)) (hn:(l.map (·.1)).Nodup) (hds:∀ p∈l,2 * p.1 ∉ ds) {d:Nat} (hfn:(fl.map (·.p.root)).Nodup) (hfd:∀ e∈fl,e.p.root ∉ ds∧(∀ p∈l,e.p.root≠2 * p.1)∧e.p.root≠2 * d) {y:HL (rts c.rs++fts c.ps)} (hy:c.F x=some y) {av:AV} (hr:MT ds c.rs (HL.left _ _ y)=some av) (hd:d<σ.sl.length)
 {σ':S} (hσ:σ.called d av (l.map (·.1)) fl (Bq c.ps (HL.right _ _ y))=some σ') (hcv:∀ D∈Bq c.ps (HL.right _ _ y),ds=[]∨cov D.t D.m=true) {ra:List Value} (hra:∀ own',(∀ b,okd w G.own ds b→own' b=none)→(∀ b,G.own b=some []→own' b=some [])→(∀ b r s,G.own b=some (r::s)→r % 2=1→r ∉ fl.map (·.p.root)→own' b=none∨own' b=some [])→PD c.md w own' (os.map a.eval) ra):
 Calls P c.f ra.toArray w (fun e w'=>∃ v,e=.returned v∧∃ G',Rel w0 G0 np σ' (a.put (some d) v) w' G'∧Ft w w' G G' (EU d (l.map (·.1)) fl)):=by
 have hfroot:∀ e∈fl,∀ r s,Lab.le e.lab (r::s)→r=e.p.root:=fun e he r s ⟨q,hq⟩=>by
  obtain⟨q',hq'⟩:=e.lab_cons;rw [hq'] at hq;simp at hq;exact hq.1
 have hffn:∀ r s,(∀ e∈fl,r≠e.p.root)→GD fl (r::s)=none:=fun r s hne=>MD fun e he hle=>hne e he (hfroot e he r s hle)
 have hcn:∀ b,G.own b=none→EI G.own ds l fl b=none:=fun b hb=>by simp only [EI,hb]
 have hcf:∀ r s b,G.own b=some (r::s)→(∀ p∈l,r≠2 * p.1)→GD fl (r::s)=none→EI G.own ds l fl b=if r∈ds then none else some []:=fun r s b hb hp hff=>by
  have:l.find? (fun p=>r == 2 * p.1)=none:=by
   rw [List.find?_eq_none];intro p hpl;simp only [beq_iff_eq];exact hp p hpl
  simp only [EI,hb,this,hff]
 have hcm:∀ p∈l,∀ b s,G.own b=some (2 * p.1::s)→EI G.own ds l fl b=some (2 * p.2::s):=fun p hp b s hb=>by
  have:l.find? (fun q=>2 * p.1 == 2 * q.1)=some p:=by
   cases hf:l.find? (fun q=>2 * p.1 == 2 * q.1) with
   | none=>
    rw [List.find?_eq_none] at hf;exact absurd (hf p hp) (by simp)
   | some q=>
    have hq:=List.mem_of_find?_eq_some hf
    have he:=List.find?_some hf
    simp only [beq_iff_eq] at he;have:q=p:=LK hn hq hp (by omega)
    rw [this]
  simp only [EI,hb,this,hffn (2 * p.1) s (fun e he hh=>(hfd e he).2.1 p hp hh.symm)]
 have hce:∀ e∈fl,∀ b s,G.own b=some (e.lab++s)→EI G.own ds l fl b=some (2 * e.i::s):=fun e he b s hb=>by
  obtain⟨q,hq⟩:=e.lab_cons;have hff:=Sp (s:=s) hfn he
  rw [hq] at hb hff;simp only [List.cons_append] at hb hff;simp only [EI,hb,hff]
 have hsome:∀ b o,EI G.own ds l fl b=some o→∃ l',G.own b=some l':=fun b o hb=>by
  cases ho:G.own b with
  | none=>rw [hcn b ho] at hb;cases hb
  | some l'=>exact⟨l',rfl⟩
 have hcd:∀ b,(G.own b=none∨∃ r∈ds,∃ s,G.own b=some (r::s))→EI G.own ds l fl b=none:=fun b hh=>by
  rcases hh with hh | ⟨r,hr,s,hs⟩
  ·exact hcn b hh
  ·rw [hcf r s b hs (fun p hp e=>hds p hp (by rw [← e];exact hr)) (hffn r s (fun e he hh=>(hfd e he).1 (by rw [← hh];exact hr))),if_pos hr]
 obtain⟨hargs,_⟩:=KG h (own':=EI G.own ds l fl) c.ps 0 os ha (fun b _ hh=>hcd b hh) hcm hce;refine Calls.mono (hc w (EI G.own ds l fl) _ x y (fun b o hb=>by
  obtain⟨l',hl'⟩:=hsome b o hb;exact h.live b l' hl') (hI.of fun b h1 h2=>⟨hcn b (h.keep b h1 h2).1,(h.keep b h1 h2).2⟩) hargs hy ra (hra _ (fun b hb=>hcd b hb.2) (fun b hb=>by simp only [EI,hb]) (fun b r s hb hr hn=>by
   rw [hcf r s b hb (fun p _ e=>by omega) (hffn r s (fun e he hh=>hn (List.mem_map.2 ⟨e,he,hh.symm⟩)))];split
   ·exact .inl rfl
   ·exact .inr rfl))) (fun e w' hpost=>?_)
 unfold Uu at hpost;rw [if_neg hmd] at hpost;obtain⟨v,own',rfl,p1,p2,p3,p4,p5,p6,p7,p8,p9⟩:=hpost;refine⟨v,rfl,?_⟩
 obtain⟨f1,_,f3,f4⟩:=KS h c.ps 0 os ha p9
 let ms:=l.map (·.1)
 let own2:=Lx G.own w.heap.size ms fl d own'
 have hmem:∀ r,r∈ms.map (2 * ·)↔∃ p∈l,r=2 * p.1:=by
  intro r;simp only [ms,List.map_map,List.mem_map,Function.comp_apply];exact⟨fun⟨p,hp,e⟩=>⟨p,hp,e.symm⟩,fun⟨p,hp,e⟩=>⟨p,hp,e.symm⟩⟩
 have h2n:∀ b,b<w.heap.size→G.own b=none→own2 b=none∧w'.heap[b]?=w.heap[b]?:=fun b hb ho=>by
  obtain⟨g1,g2⟩:=p6 b hb (hcn b ho);refine⟨?_,g2⟩
  simp only [own2,Lx,Lw,g1,if_pos hb,ho]
 have h2f:∀ b,G.own b=some []→own2 b=some []∧w'.heap[b]?=w.heap[b]?:=fun b ho=>by
  have hb:=h.live b _ ho
  obtain⟨g1,g2⟩:=p7 b hb (by simp only [EI,ho]);refine⟨?_,g2⟩
  simp only [own2,Lx,Lw,g1,if_pos hb,ho]
 have h2s':∀ b r s,G.own b=some (r::s)→r ∉ ms.map (2 * ·)→GD fl (r::s)=none→own2 b=some (r::s)∧w'.heap[b]?=w.heap[b]?:=fun b r s ho hr hff=>by
  have hb:=h.live b _ ho
  have hnp:∀ p∈l,r≠2 * p.1:=fun p hp e=>hr ((hmem r).2 ⟨p,hp,e⟩)
  have hcc:=hcf r s b ho hnp hff
  have hno:¬ (r∈ms.map (2 * ·)∨(GD fl (r::s)).isSome=true):=by
   rintro (hh | hh)
   ·exact hr hh
   ·rw [hff] at hh;cases hh
  by_cases hrd:r∈ds
  ·rw [if_pos hrd] at hcc;obtain⟨g1,g2⟩:=p6 b hb hcc;refine⟨?_,g2⟩
   simp only [own2,Lx,Lw,g1,if_pos hb,ho,if_neg hno]
  ·rw [if_neg hrd] at hcc;obtain⟨g1,g2⟩:=p7 b hb hcc;refine⟨?_,g2⟩
   simp only [own2,Lx,Lw,g1,if_pos hb,ho,if_neg hno]
 have h2s:∀ b r s,G.own b=some (r::s)→r ∉ ms.map (2 * ·)→(∀ e∈fl,r≠e.p.root)→own2 b=some (r::s)∧w'.heap[b]?=w.heap[b]?:=fun b r s ho hr hne=>h2s' b r s ho hr (hffn r s hne)
 have h2r:∀ b s,own' b=some (CZ::s)→own2 b=some (2 * d::s)∧w'.heap[b]?=w'.heap[b]?:=fun b s ho=>⟨by simp only [own2,Lx,ho,if_true],rfl⟩
 have h2e':∀ e∈fl,∀ b s,own' b=some (2 * e.i::s)→own2 b=some (e.lab++s):=fun e he b s ho=>by
  have hre:¬ 2 * e.i=CZ:=by unfold CZ;omega
  have:fl.find? (fun e'=>2 * e'.i == 2 * e.i)=some e:=by
   cases hf:fl.find? (fun e'=>2 * e'.i == 2 * e.i) with
   | none=>
    rw [List.find?_eq_none] at hf;exact absurd (hf e he) (by simp)
   | some e'=>
    have hq:=List.mem_of_find?_eq_some hf
    have hee:=List.find?_some hf
    simp only [beq_iff_eq] at hee;have:e'=e:=by
     obtain⟨i1,hi1,rfl⟩:=List.mem_iff_getElem.1 hq;obtain⟨i2,hi2,rfl⟩:=List.mem_iff_getElem.1 he;have:=List.pairwise_iff_getElem.1 f3
     rcases Nat.lt_trichotomy i1 i2 with hlt | heq | hgt
     ·exact((this i1 i2 (by simpa using hi1) (by simpa using hi2) hlt) (by simp only [List.getElem_map];omega)).elim
     ·subst heq;rfl
     ·exact((this i2 i1 (by simpa using hi2) (by simpa using hi1) hgt) (by simp only [List.getElem_map];omega)).elim
    rw [this]
  simp only [own2,Lx,ho,if_neg hre,this]
 have hlive:∀ b o,own2 b=some o→b<w'.heap.size:=fun b o hb=>by
  have hold:Lw G.own w.heap.size ms fl b≠none→b<w'.heap.size:=fun hne=>by
   unfold Lw at hne;split at hne
   ·omega
   ·exact absurd rfl hne
  simp only [own2,Lx] at hb;split at hb
  ·rename_i r s hs;exact p5 b _ hs
  ·exact hold (by rw [hb];simp)
 -- what is only looked at
 have h2v:∀ b,own' b=none∧b<w'.heap.size→okd w' own2 ds b:=fun b ⟨hb,hlt⟩=>by
  refine⟨hlt,?_⟩
  simp only [own2,Lx,Lw,hb]
  by_cases hbn:b<w.heap.size
  ·rw [if_pos hbn];cases ho:G.own b with
   | none=>exact .inl rfl
   | some lb=>
    cases lb with
    | nil=>
     obtain⟨g1,_⟩:=p7 b hbn (by simp only [EI,ho]);rw [hb] at g1;cases g1
    | cons r s=>
     simp only
     by_cases hr:r∈ms.map (2 * ·)∨(GD fl (r::s)).isSome=true
     ·rw [if_pos hr];exact .inl rfl
     ·rw [if_neg hr];right;simp only [not_or,Bool.not_eq_true,Option.isSome_eq_false_iff,Option.isNone_iff_eq_none] at hr;have hnp:∀ p∈l,r≠2 * p.1:=fun p hp e=>hr.1 ((hmem r).2 ⟨p,hp,e⟩)
      have hcc:=hcf r s b ho hnp hr.2
      by_cases hrd:r∈ds
      ·exact⟨r,hrd,s,rfl⟩
      ·rw [if_neg hrd] at hcc;obtain⟨g1,_⟩:=p7 b hbn hcc;rw [hb] at g1;cases g1
  ·rw [if_neg hbn];exact .inl rfl
 have h2e:ds=[]→∀ b,own' b=none→b<w'.heap.size→own2 b=none∧b<w'.heap.size∧w'.heap[b]?=w'.heap[b]?:=fun hd0 b hb hlt=>by
  have:=(h2v b ⟨hb,hlt⟩).2
  refine⟨?_,hlt,rfl⟩
  rcases this with h1 | ⟨r,hr,_⟩
  ·exact h1
  ·rw [hd0] at hr;cases hr
 have hdat:∀ (r:Ret) (q:Lab) (cs:List Value) (z:r.t.D),(ds=[]∨cov r.t r.m=true)→RepO w' own' r.t r.m (CZ::q) cs z→RepO w' own2 r.t r.m (2 * d::q) cs z:=fun r q cs z hor hR=>by
  rcases hor with hd0 | hcv
  ·exact RepO.move (h2e hd0) hR (fun b s hb=>h2r b (q++s) (by simpa using hb))
  ·exact RepO.moveC hcv hR (fun b s hb=>h2r b (q++s) (by simpa using hb))
 have hav:∀ (σ2:S) (tmps:Array Value),SlotR { G with own:=own2 } σ2 tmps w' d av v:=fun σ2 tmps=>by
  clear hσ hcv f1 f4 p9
  have p8':=p8
  clear p8
  generalize HL.left (rts c.rs) (fts c.ps) y=y1 at hr p8';clear hy y
  revert y1
  cases c.rs with
  | nil=>intro y hr _;simp only [MT,Option.some.injEq] at hr;subst hr;trivial
  | cons r rs=>
   cases rs with
   | nil=>
    intro y hr hR;simp only [MT] at hr;obtain⟨cs,q1,q2⟩:=hR;split at hr
    ·rename_i hor;obtain⟨rfl⟩:=hr;exact⟨cs,q1,hdat r [] cs y.1 hor q2⟩
    ·split at hr
     ·rename_i hno;obtain⟨rfl⟩:=hr;have:=RepO.noOwn hno q2
      refine⟨cs,q1,RepV.mono (fun b hb=>⟨h2v b ⟨?_,hb.1⟩,rfl⟩) this,fun p hp=>by cases hp⟩
      rcases hb.2 with h1 | ⟨r,hr,_⟩
      ·exact h1
      ·cases hr
     ·cases hr
   | cons r2 rs=>
    intro y hr hR;simp only [MT] at hr;obtain⟨arr,rfl,q1,q2⟩:=hR;split at hr
    ·rename_i hor;obtain⟨rfl⟩:=hr;refine⟨arr,rfl,by rw [q1,PH];rfl,?_⟩
     have key:∀ (rs:List Ret) (j:Nat) (y:HL (rts rs)),(ds=[]∨rs.all (fun r=>cov r.t r.m)=true)→VU w' own' arr j rs y→∀ k (hk:k<(GO rs y).length),∃ cs,Val (GO rs y)[k].t (arr.getD (j+k) undef) cs∧RepO w' own2 (GO rs y)[k].t (GO rs y)[k].m [2 * d,j+k] cs (GO rs y)[k].x:=by
      intro rs
      induction rs with
      | nil=>intro j y _ _ k hk;simp [GO] at hk
      | cons r rs ih=>
       intro j y hor hT k hk;obtain⟨⟨cs,t1,t2⟩,t3⟩:=hT;cases k with
       | zero=>
        refine⟨cs,t1,hdat r [j] cs y.1 ?_ t2⟩
        rcases hor with h1 | h1
        ·exact .inl h1
        ·simp only [List.all_cons,Bool.and_eq_true] at h1;exact .inr h1.1
       | succ k=>
        have:=ih (j+1) y.2 (by
         rcases hor with h1 | h1
         ·exact .inl h1
         ·simp only [List.all_cons,Bool.and_eq_true] at h1;exact .inr h1.2) t3 k (by simpa [GO] using hk)
        rw [show j+1+k=j+(k+1) by omega] at this;exact this
     intro k hk;have:=key _ 0 y hor q2 k hk
     simpa only [Nat.zero_add] using this
    ·cases hr
 have hnh:∀ k,av.hk≠some k:=fun k=>bS _ _ hr
 -- the state
 unfold S.called at hσ;split at hσ
 ·rename_i σ1 hfin;obtain⟨rfl⟩:=hσ;have hzip:((fl.zip (Bq c.ps (HL.right _ _ y))).map (·.1.p.root))=fl.map (·.p.root):=by
   have:(fl.zip (Bq c.ps (HL.right _ _ y))).map (·.1.p.root)=((fl.zip (Bq c.ps (HL.right _ _ y))).map (·.1)).map (·.p.root):=by rw [List.map_map];rfl
   rw [this,List.map_fst_zip (by omega)]
  obtain⟨b1,b2,b3,b4⟩:=S.setFins_ok _ hfin (by rw [hzip];exact hfn);have hzm:∀ e∈fl,∃ p∈fl.zip (Bq c.ps (HL.right _ _ y)),p.1=e:=fun e he=>by
   have:e∈(fl.zip (Bq c.ps (HL.right _ _ y))).map (·.1):=by rw [List.map_fst_zip (by omega)];exact he
   obtain⟨p,hp,rfl⟩:=List.mem_map.1 this;exact⟨p,hp,rfl⟩
  have hzf:∀ p∈fl.zip (Bq c.ps (HL.right _ _ y)),p.1∈fl:=fun p hp=>(List.of_mem_zip (a:=p.1) (b:=p.2) hp).1
  have hrs:∀ r,r∈EU d ms fl→r=2 * d∨(∃ m∈ms,r=2 * m)∨∃ e∈fl,r=e.p.root:=fun r hr=>by
   rcases List.mem_cons.1 hr with h1 | h1
   ·exact .inl h1
   ·rcases List.mem_append.1 h1 with h1 | h1
    ·obtain⟨m,hm1,hm2⟩:=List.mem_map.1 h1;exact .inr (.inl ⟨m,hm1,hm2.symm⟩)
    ·obtain⟨e,he1,he2⟩:=List.mem_map.1 h1;exact .inr (.inr ⟨e,he1,he2.symm⟩)
  have hkslot:∀ j,((σ.emptyA ms).killA (EU d ms fl)).slot j=if j∈ms then .none else (σ.slot j).kills (EU d ms fl):=fun j=>by
   rw [S.killA_slot,S.emptyA_slot];split
   ·exact AV.kills_none _
   ·rfl
  have hkbox:∀ k,((σ.emptyA ms).killA (EU d ms fl)).box k=σ.box k:=fun k=>by rw [S.killA_box,S.emptyA_box]
  have hl1:σ1.sl.length=σ.sl.length:=by rw [b1,S.killA_len,S.emptyA_len]
  have hda:d<a.tmps.size:=by rw [← h.tmps];exact hd
  have hsl1:∀ j,(σ1.setSlot d av).slot j=if d=j then av else σ1.slot j:=fun j=>by
   rw [S.setSlot_slot,hl1]
   by_cases e:d=j
   ·rw [if_pos ⟨e,hd⟩,if_pos e]
   ·rw [if_neg (fun h=>e h.1),if_neg e]
  have hnms:∀ e∈fl,∀ j,e.p.root=2 * j→j ∉ ms:=fun e he j hj hm=>by
   obtain⟨p,hp,hpj⟩:=List.mem_map.1 hm;exact(hfd e he).2.1 p hp (by rw [hj,← hpj])
  -- what is known of a root that was written in
  have hO2:∀ b,G.own b=none→b<w.heap.size→own2 b=none∧b<w'.heap.size∧w'.heap[b]?=w.heap[b]?:=fun b h1 h2=>⟨(h2n b h2 h1).1,by omega,(h2n b h2 h1).2⟩
  have hff1:∀ e∈fl,∀ r s,r=e.p.root→¬ Lab.le e.lab (r::s)→GD fl (r::s)=none:=fun e he r s hre hnl=>MD fun e' he' hle=>by
   have h1:=hfroot e' he' r s hle
   have:e'=e:=by
    obtain⟨i1,hi1,rfl⟩:=List.mem_iff_getElem.1 he';obtain⟨i2,hi2,rfl⟩:=List.mem_iff_getElem.1 he;have:=List.pairwise_iff_getElem.1 hfn
    rcases Nat.lt_trichotomy i1 i2 with hlt | heq | hgt
    ·exact((this i1 i2 (by simpa using hi1) (by simpa using hi2) hlt) (by simp only [List.getElem_map];omega)).elim
    ·subst heq;rfl
    ·exact((this i2 i1 (by simpa using hi2) (by simpa using hi1) hgt) (by simp only [List.getElem_map];omega)).elim
   rw [this] at hle;exact hnl hle
  have hfroot2:∀ e∈fl,e.p.root ∉ ms.map (2 * ·):=fun e he hm=>by
   obtain⟨p,hp,hpe⟩:=(hmem _).1 hm;exact(hfd e he).2.1 p hp hpe
  have hdatF:∀ p∈fl.zip (Bq c.ps (HL.right _ _ y)),∀ (q:Lab) (cs:List Value),RepO w' own' p.2.t p.2.m (2 * p.1.i::q) cs p.2.x→RepO w' own2 p.2.t p.2.m (p.1.lab++q) cs p.2.x:=fun p hp q cs hR=>by
   have he:=hzf p hp
   have hD:=(List.of_mem_zip (a:=p.1) (b:=p.2) hp).2
   have hlb:∀ b s,own' b=some ((2 * p.1.i::q)++s)→own2 b=some ((p.1.lab++q)++s)∧w'.heap[b]?=w'.heap[b]?:=fun b s hb=>⟨by
    have:=h2e' _ he b (q++s) (by simpa using hb)
    simpa using this,rfl⟩
   rcases hcv _ hD with hd0 | hc1
   ·exact RepO.move (h2e hd0) hR hlb
   ·exact RepO.moveC hc1 hR hlb
  have hent:∀ p∈fl.zip (Bq c.ps (HL.right _ _ y)),p.1.b=false→∀ d0 M X,σ.rt p.1.p.root=some d0→Fe p.1.p.path d0.t d0.m d0.x p.2=some (M,X)→∃ L cr,RootR G σ a.tmps w p.1.p.root d0 L cr∧RepO w' own2 d0.t M (Ai p.1.p.root) cr X:=by
   intro p hp hpb d0 M X hd0 hset;rcases f4 p hp with⟨_,L,cr,d1,x1,cs1,L1,q1,q2,q3,q4⟩ | ⟨q0,_⟩
   ·have hu:=q1.uniq hd0
    subst hu;refine⟨L,cr,q1,?_⟩
    have hlab:p.1.lab=Ai p.1.p.root++p.1.p.path.lab:=by unfold Fl.lab;rw [hpb];rfl
    have he:=hzf p hp
    obtain⟨s0,hs0⟩:=Bi p.1.p.root;refine NF (ρ:=p.1.lab) (p0:=Ai p.1.p.root) (fun b l' hb hle hnl=>?_) hO2 p.1.p.path (Lab.le_refl _) (h.root q1).1 q2 (JV _ q2 hset) q3 hlab ?_
    ·obtain⟨q,hq⟩:=hle;rw [hs0] at hq;simp only [List.cons_append] at hq;subst hq;exact h2s' b _ _ hb (hfroot2 _ he) (hff1 _ he _ _ rfl hnl)
    ·have hh:=hdatF p hp [] cs1 (by simpa using q4)
     rw [List.append_nil] at hh;exact hh
   ·rw [hpb] at q0;cases q0
  refine⟨{ G with own:=own2 },h.step2 (EU d ms fl) (fun _ _=>⟨rfl,rfl,rfl,rfl⟩) ⟨p4,fun b hb hlt=>h2n b hlt hb,fun b r s hb hr=>?_,h2f⟩ p1 p2 p3 hlive (fun _ _=>⟨rfl,rfl,rfl,rfl⟩) ?_ h.defers (fun j=>?_) (fun k bx hb=>?_) (fun k b d1 hk hb=>?_) (fun j k hj=>?_)⟩
  ·exact h2s b r s hb (fun hm=>hr (List.mem_cons_of_mem _ (List.mem_append_left _ hm))) (fun e he hh=>hr (List.mem_cons_of_mem _ (List.mem_append_right _ (List.mem_map.2 ⟨e,he,hh.symm⟩))))
  ·rw [S.setSlot_len,hl1];simp [Act.put,h.tmps]
  ·rw [hsl1 j]
   by_cases e:d=j
   ·subst e;right;rw [if_pos rfl,Act.put_getD _ _ _ _ hda,if_pos rfl];exact⟨hav _ _,fun _=>by simp [EU]⟩
   ·rw [if_neg e,Act.put_getD _ _ _ _ hda,if_neg e]
    by_cases hex:∃ p∈fl.zip (Bq c.ps (HL.right _ _ y)),p.1.p.root=2 * j
    ·obtain⟨p,hp,hpj⟩:=hex;right;obtain⟨d0,M,X,c1,c2,c3,_⟩:=b4 p hp;rw [c3 j hpj];have he:=hzf p hp
     have hbf:p.1.b=false:=by
      cases hb:p.1.b with
      | false=>rfl
      | true=>
       rcases f4 p hp with⟨q0,_⟩ | ⟨_,k,_,_,_,_,q1,_⟩
       ·rw [hb] at q0;cases q0
       ·rw [q1] at hpj;simp only at hpj;omega
     have c1':σ.rt p.1.p.root=some d0:=by
      unfold S.rt at c1 ⊢;rw [if_pos (by omega)] at c1 ⊢;rw [hkslot,if_neg (hnms _ he _ (by omega))] at c1;split at c1
      ·rename_i d' hs';obtain⟨rfl⟩:=c1;rcases AV.kills_or (EU d ms fl) (σ.slot (p.1.p.root / 2)) with k1 | k1
       ·rw [k1] at hs';cases hs'
       ·rw [k1] at hs';rw [hs']
      ·cases c1
     obtain⟨L,cr,q1,q2⟩:=hent p hp hbf d0 M X c1' c2;obtain⟨_,_,hv'⟩:=q1.slot_inv hpj;refine⟨⟨cr,hv',?_⟩,fun _=>?_⟩
     ·rw [Ai,if_pos (by omega),hpj] at q2;exact q2
     ·exact List.mem_cons_of_mem _ (List.mem_append_right _ (List.mem_map.2 ⟨p.1,he,hpj⟩))
    ·left;refine⟨⟨?_⟩,rfl⟩
     rw [hsl1 j,if_neg e,b2 j (fun p hp hh=>hex ⟨p,hp,hh⟩),hkslot]
     by_cases hm:j∈ms
     ·rw [if_pos hm];exact .inl rfl
     ·rw [if_neg hm];rcases AV.kills_or (EU d ms fl) (σ.slot j) with k1 | k1
      ·exact .inl k1
      ·by_cases hn':σ.slot j=.none
       ·left;rw [k1,hn']
       ·refine .inr ⟨k1,AV.kills_all _ _ k1 hn',fun _ hmem'=>?_⟩
        rcases hrs _ hmem' with h1 | ⟨m,hm1,hm2⟩ | ⟨e',he1,he2⟩
        ·exact e (by omega)
        ·have:m=j:=by omega
         subst this;exact hm hm1
        ·obtain⟨p,hp,hpe⟩:=hzm e' he1;exact hex ⟨p,hp,by rw [hpe];exact he2.symm⟩
  ·rw [S.setSlot_box] at hb
   by_cases hex:∃ p∈fl.zip (Bq c.ps (HL.right _ _ y)),p.1.p.root=2 * k+1
   ·obtain⟨p,hp,hpk⟩:=hex;right;have he:=hzf p hp
    refine⟨?_,List.mem_cons_of_mem _ (List.mem_append_right _ (List.mem_map.2 ⟨p.1,he,hpk⟩))⟩
    obtain⟨d0,M,X,c1,c2,_,c4⟩:=b4 p hp;rw [c4 k hpk,hkbox] at hb;obtain⟨⟨bb,dq⟩,hq,rfl⟩:=Option.map_eq_some_iff.1 hb;have c1':σ.rt p.1.p.root=some d0:=by
     have e1:p.1.p.root / 2=k:=by omega
     unfold S.rt at c1 ⊢;rw [if_neg (by omega)] at c1 ⊢;rw [e1,hkbox] at c1;rw [e1];exact c1
    have hdq:dq=d0:=by
     have e1:p.1.p.root / 2=k:=by omega
     unfold S.rt at c1';rw [if_neg (by omega),e1,hq] at c1';exact Option.some.inj c1'
    subst hdq;have hB:=h.boxes k _ hq
    have e0:Ai p.1.p.root=[2 * k+1,0]:=by rw [Ai,if_neg (by omega),hpk]
    cases hbf:p.1.b with
    | false=>
     obtain⟨L,cr,q1,q2⟩:=hent p hp hbf dq M X c1' c2;rw [e0] at q2;rcases q1.box_inv hpk with⟨hb',hL',hl',hc'⟩ | ⟨hb',hL',hc'⟩
     ·rw [hq] at hb';simp only [Option.some.injEq,Prod.mk.injEq] at hb';obtain⟨rfl,_⟩:=hb';obtain⟨arr,t1,t2,t3,t4,t5,csb,t6,t7⟩:=hB;have hnl:¬ Lab.le p.1.lab ((2 * k+1)::[]):=fun hle=>by
       have:=Lab.le_len hle
       unfold Fl.lab at this;rw [hbf,e0] at this;simp at this
      have hblk:=h2s' _ _ _ t2 (by rw [← hpk];exact hfroot2 _ he) (hff1 _ he _ _ hpk.symm hnl)
      refine⟨arr,by rw [← t1];exact hblk.2,hblk.1,t3,t4,t5,cr,q2,fun j hj=>?_⟩
      have:=hc' j hj
      rwa [Ao t1] at this
     ·rw [hq] at hb';simp only [Option.some.injEq,Prod.mk.injEq] at hb';obtain⟨rfl,_⟩:=hb';obtain⟨t1,t2⟩:=hB;rw [hc'] at q2;exact⟨t1,q2⟩
    | true=>
     rcases f4 p hp with⟨q0,_⟩ | ⟨_,k',x1,arr,arr',T,q1,q2,q3,q4,q5,q6,q7,cs,q8,q9⟩
     ·rw [hbf] at q0;cases q0
     ·have ek:k'=k:=by rw [q1] at hpk;simp only at hpk;omega
      subst ek;rw [q2] at hq;simp only [Option.some.injEq,Prod.mk.injEq] at hq;obtain⟨rfl,rfl⟩:=hq;have hpath:p.1.p.path=[]:=by rw [q1]
      rw [hpath] at c2;simp only [Fe] at c2;split at c2
      ·simp only [Option.some.injEq,Prod.mk.injEq] at c2;obtain⟨rfl,rfl⟩:=c2;obtain⟨arr0,t1,t2,t3,t4,t5,_⟩:=hB;rw [q3] at t1;simp only [Option.some.injEq,Obj.cells.injEq] at t1;obtain⟨rfl,rfl,_⟩:=t1;have hlab:p.1.lab=[2 * k'+1]:=by unfold Fl.lab;rw [hbf,q1];rfl
       refine⟨arr',q4,?_,by rw [q5];exact t3,by rw [q5];exact t4,fun j hj=>by rw [q6 j hj];exact t5 j hj,cs,?_,q9⟩
       ·have:=h2e' _ he _ [] q7
        rw [hlab] at this;exact this
       ·have:=hdatF p hp [0] cs (by simpa using q8)
        rw [hlab] at this;exact this
      ·cases c2
   ·left;have hne:∀ p∈fl.zip (Bq c.ps (HL.right _ _ y)),p.1.p.root≠2 * k+1:=fun p hp hh=>hex ⟨p,hp,hh⟩
    rw [b3 k hne,hkbox] at hb;refine⟨hb,fun hm=>?_,rfl,rfl,rfl,rfl⟩
    rcases hrs _ hm with h1 | ⟨m,_,hm2⟩ | ⟨e',he1,he2⟩
    ·omega
    ·omega
    ·obtain⟨p,hp,hpe⟩:=hzm e' he1;exact hne p hp (by rw [hpe];exact he2.symm)
  ·left;rw [S.setSlot_box] at hb;obtain⟨p,hp,hpk⟩:∃ p∈fl.zip (Bq c.ps (HL.right _ _ y)),p.1.p.root=2 * k+1:=by
    rcases hrs _ hk with h1 | ⟨m,_,hm2⟩ | ⟨e',he1,he2⟩
    ·omega
    ·omega
    ·obtain⟨p,hp,hpe⟩:=hzm e' he1;exact⟨p,hp,by rw [hpe];exact he2.symm⟩
   obtain⟨d0,M,X,c1,c2,_,c4⟩:=b4 p hp;rw [c4 k hpk,hkbox] at hb;obtain⟨⟨bb,dq⟩,hq,hq2⟩:=Option.map_eq_some_iff.1 hb;simp only [Prod.mk.injEq] at hq2;obtain⟨rfl,rfl⟩:=hq2;refine⟨dq,hq,?_,rfl,rfl⟩
   have e1:p.1.p.root / 2=k:=by omega
   unfold S.rt at c1;rw [if_neg (by omega),e1,hkbox,hq] at c1;obtain rfl:=Option.some.inj c1;rfl
  ·rw [hsl1 j] at hj
   by_cases e:d=j
   ·rw [if_pos e] at hj;exact absurd hj (hnh k)
   ·rw [if_neg e] at hj
    by_cases hex:∃ p∈fl.zip (Bq c.ps (HL.right _ _ y)),p.1.p.root=2 * j
    ·obtain⟨p,hp,hpj⟩:=hex;obtain⟨d0,M,X,_,_,c3,_⟩:=b4 p hp;rw [c3 j hpj] at hj;cases hj
    ·rw [b2 j (fun p hp hh=>hex ⟨p,hp,hh⟩),hkslot] at hj;split at hj
     ·cases hj
     ·obtain⟨dk,hdk⟩:=(h.slots j).hk (AV.kills_hk _ hj);rw [S.setSlot_box]
      by_cases hex2:∃ p∈fl.zip (Bq c.ps (HL.right _ _ y)),p.1.p.root=2 * k+1
      ·obtain⟨p,hp,hpk⟩:=hex2;obtain⟨d0,M,X,_,_,_,c4⟩:=b4 p hp;rw [c4 k hpk,hkbox,hdk];exact⟨_,rfl⟩
      ·rw [b3 k (fun p hp hh=>hex2 ⟨p,hp,hh⟩),hkbox,hdk];exact⟨_,rfl⟩
 ·cases hσ
theorem RepV.O {w:World} {own:Own}:∀ {t:Ty} {cs:List Value} {x:t.D} (p:Lab),RepV w (fun b=>own b=none∧b<w.heap.size) t cs x→RepO w own t .ro p cs x
 | .int _,_,_,_,h=>h
 | .bool,_,_,_,h=>h
 | .str,_,_,_,h=>h
 | .list _ _,_,_,_,h=>h
 | .pair _ _,_,_,p,h=>by
  obtain⟨c1,c2,e,h1,h2⟩:=h;exact⟨c1,c2,e,RepV.O _ h1,RepV.O _ h2⟩
theorem ZF {P:Program} {w0:World} {G0:Gh} {np:Nat} {σ:S} {a:Act} {w:World} {G:Gh} (h:Rel w0 G0 np σ a w G) (hI:Inv P w0 G0.own) {f:Nat} {ps:List Prm} {r:Ret} {F:HL (pts ps)→Option (HL (rts [r]++fts ps))} (hc:FOK P ⟨f,ps,[r],F,3⟩) {os:List Operand} {x:HL (pts ps)}
 (ha:σ.args 0 ps os=some (x,[],[],[])) {d:Nat} {y:HL (rts [r]++fts ps)} (hy:F x=some y) (hd:d<σ.sl.length) (hnp:np≤d):
 Calls P f (os.map a.eval).toArray w (fun e w'=>∃ v,e=.returned v∧∃ G',Rel w0 G0 np (σ.newB d ⟨r.t,.ro,y.1⟩ []) (a.put (some d) v) w' G'∧Ft w w' G G' [2 * d,2 * d+1]):=by
 have hcn:∀ b,G.own b=none→EI G.own [] [] [] b=none:=fun b hb=>by simp only [EI,hb]
 have hcs:∀ b l,G.own b=some l→EI G.own [] [] [] b=some []:=fun b l hb=>by
  unfold EI;rw [hb];cases l with
  | nil=>rfl
  | cons r s=>simp [GD]
 obtain⟨hargs,_⟩:=KG h (own':=EI G.own [] [] []) ps 0 os ha (fun b _ hh=>by
  rcases hh with hh | ⟨r,hr,_⟩
  ·exact hcn b hh
  ·cases hr) (fun p hp=>by cases hp) (fun e he=>by cases he)
 have hsome:∀ b o,EI G.own [] [] [] b=some o→∃ l',G.own b=some l':=fun b o hb=>by
  cases ho:G.own b with
  | none=>rw [hcn b ho] at hb;cases hb
  | some l'=>exact⟨l',rfl⟩
 refine Calls.mono (hc w (EI G.own [] [] []) _ x y (fun b o hb=>by
  obtain⟨l',hl'⟩:=hsome b o hb;exact h.live b l' hl') (hI.of fun b h1 h2=>⟨hcn b (h.keep b h1 h2).1,(h.keep b h1 h2).2⟩) hargs hy _ ⟨rfl,fun b l hb=>by
   obtain⟨l',hl'⟩:=hsome b l hb;rw [hcs b l' hl'] at hb;exact(Option.some.inj hb).symm⟩) (fun e w' hpost=>?_)
 obtain⟨b0,o,arr,T,cs,own',rfl,p1,p2,p3,p4,p5,p6,p7,p8,p9,p10,p11,p12,p13⟩:=hpost
 let own2:Own:=fun b=>if b=b0 then some [2 * d+1] else if b<w.heap.size then G.own b else (match own' b with | none=>none | some _=>some [])
 have hlt0:b0<w'.heap.size:=by
  rcases Nat.lt_or_ge b0 w'.heap.size with hh | hh
  ·exact hh
  ·rw [Array.getElem?_eq_none hh] at p10;cases p10
 have hold:∀ b,b<w.heap.size→own2 b=G.own b:=fun b hb=>by
  simp only [own2];rw [if_neg (by omega),if_pos hb]
 obtain⟨G',g1,g2,_⟩:=h.newBG hd hnp (D:=⟨r.t,.ro,y.1⟩) (ms:=[]) (own':=own2) (T:=T) (cs:=cs) (w':=w') (b0:=b0) (o:=o) (arr:=arr)
  ⟨p4,fun b hb hlt=>⟨by rw [hold b hlt];exact hb,(p6 b hlt (hcn b hb)).2⟩,fun b r s hb _=>⟨by rw [hold b (h.live b _ hb)];exact hb,(p7 b (h.live b _ hb) (hcs b _ hb)).2⟩,fun b hb=>⟨by rw [hold b (h.live b _ hb)];exact hb,(p7 b (h.live b _ hb) (hcs b _ hb)).2⟩⟩ p1 p2 p3
  (fun b l hb=>by
   simp only [own2] at hb;split at hb
   ·rename_i e;rw [e];exact hlt0
   ·split at hb
    ·omega
    ·split at hb
     ·cases hb
     ·rename_i q hq;exact p5 b _ hq) p10 (if_pos rfl) p11 (RepV.O _ (RepV.mono (fun b hb=>⟨⟨by
   have hne:b≠b0:=fun e=>p9 (by rw [← e];exact hb.1)
   simp only [own2];rw [if_neg hne];split
   ·rename_i hlt;cases ho:G.own b with
    | none=>rfl
    | some l'=>
     have:=(p7 b hlt (hcs b l' ho)).1
     rw [hb.1] at this;cases this
   ·rw [hb.1],hb.2⟩,rfl⟩) p12)) p13
 exact⟨_,rfl,G',g1,g2⟩
theorem Oc (z:Array Value) (hz:0<z.size):∀ (n:Nat),((List.range (n * z.size)).map fun i=>z[i % z.size]!)=(List.replicate n z.toList).flatten
 | 0=>by simp
 | n+1=>by
  rw [Nat.add_mul,Nat.one_mul,List.range_add,List.map_append,Oc z hz n,List.replicate_succ',List.flatten_append]
  congr 1
  simp only [List.flatten_cons,List.flatten_nil,List.append_nil,List.map_map];apply List.ext_getElem (by simp)
  intro i h1 h2;simp only [List.length_map,List.length_range] at h1;simp only [List.getElem_map,List.getElem_range,Function.comp_apply];rw [Nat.mul_comm,Nat.mul_add_mod,Nat.mod_eq_of_lt h1];simp [h1]
theorem Lq (s:Nat):∀ (n i:Nat),i≤n→EJ (List.replicate n s) i=i * s
 | _,0,_=>by simp [EJ]
 | 0,i+1,h=>by omega
 | n+1,i+1,h=>by rw [List.replicate_succ,JU,Lq s n i (by omega),Nat.add_mul,Nat.one_mul,Nat.add_comm]
section
variable {P:Program} {τ:List TE} (hτ:TabOk P τ)
include hτ
theorem Pp {e:Nat} {tl:TE} (htl:tat τ e=some tl):∃ it z,P.info? e=some it∧it.zero=some z∧it.size=tl.t.sz∧it.bytes=tl.by_∧z.cells.toList=tl.t.zc∧z.cells.size=tl.t.sz:=by
 obtain⟨⟨⟨it,z,hi,hz,hzv,hsz,hby,_⟩,_⟩,hid⟩:=hτ _ _ htl;rw [hid] at hi;have hone:∀ u∈tl.t.zc,u.oneCell'=true:=fun u hu=>RepO.one (RepO.zero (w:=default) (own:=fun _=>none) tl.t .ro []) u hu
 have e1:=hzv.cells hone
 exact⟨it,z,hi,hz,hsz,hby,e1,by rw [← Ty.zc_len,← e1];simp⟩
theorem WN {T e:Nat} {te tl:TE} (hT:tat τ T=some te) {t:Ty} (ht:te.t=.list e t) (htl:tat τ e=some tl) {n:Nat} (hn:n * t.sz≤16777216) {vals:List Value} {css:List (List Value)} (hl:vals.length=n) (hcl:css.length=n)
 (hv:∀ k (h1:k<vals.length) (h2:k<css.length),vals[k].cells.toList=css[k]∧vals[k].cells.size=t.sz) (w:World):
 (Instr.buildSlice T n ((List.range n).zip vals).toArray).run P w=.ok (.slice (some ⟨w.heap.size,0,none⟩) n n) (w.alloc (.cells css.flatten.toArray e)):=by
 obtain⟨hu,tl',htl',htt⟩:=hτ.slice hT ht;rw [htl] at htl';obtain⟨rfl⟩:=htl';obtain⟨it,z,hi,hz,hsz,_,hzc,hzs⟩:=Pp hτ htl;rw [htt] at hsz hzc hzs;have hpos:=Ty.sz_pos t
 by_cases h0:n=0
 ·subst h0;have:css=[]:=List.eq_nil_of_length_eq_zero hcl
  subst this;have:vals=[]:=List.eq_nil_of_length_eq_zero hl
  subst this;simp [Instr.buildSlice,run_underlying hu,sizeOf,typeInfo,hi,Instr.fill,newRow];rw [Array.range_zero'];simp
 ·have hne:¬ n * it.size=0:=by rw [hsz];exact Nat.mul_ne_zero h0 (by omega)
  have hfl:((Array.range (n * it.size)).map (z.cells[· % z.cells.size]!)).toList=(List.replicate n t.zc).flatten:=by
   rw [Array.toList_map,Array.toList_range,hsz,← hzs,Oc z.cells (by omega) n,hzc]
  obtain⟨out,o1,o2⟩:=QT (place:=fun i=>some (i * it.size,it.size)) (ss:=List.replicate n t.sz) (fun i hi=>by
   simp only [List.length_replicate] at hi;rw [Lq _ _ _ (by omega),hsz];simp [hi]) ((List.range n).zip vals) (List.replicate n t.zc) ((Array.range (n * it.size)).map (z.cells[· % z.cells.size]!)) hfl (by simp [Ty.zc_len]) (fun p hp=>by
   obtain⟨i,hi',rfl⟩:=List.mem_iff_getElem.1 hp;simp only [List.length_zip,List.length_range] at hi';simp only [List.getElem_zip,List.getElem_range,List.length_replicate];refine⟨by omega,?_⟩
   rw [(hv i (by omega) (by omega)).2];have:i<n:=by omega
   simp [this])
  have hout:out.toList=css.flatten:=by
   rw [o2]
   congr 1
   apply List.ext_getElem?
   intro i;rw [My _ _ _ (by
    rw [List.map_fst_zip (by simp [hl])];exact List.nodup_range)]
   simp only [List.length_replicate];split
   ·rename_i hi';have hf:((List.range n).zip vals).find? (·.1 == i)=some (i,vals[i]'(by omega)):=by
     have hmem:(i,vals[i]'(by omega))∈(List.range n).zip vals:=by
      rw [List.mem_iff_getElem];exact⟨i,by simp;omega,by simp⟩
     cases hff:((List.range n).zip vals).find? (·.1 == i) with
     | none=>rw [List.find?_eq_none] at hff;exact absurd (hff _ hmem) (by simp)
     | some q=>
      have hq:=List.mem_of_find?_eq_some hff
      have he:=List.find?_some hff
      simp only [beq_iff_eq] at he;rw [LK (by rw [List.map_fst_zip (by simp [hl])];exact List.nodup_range) hq hmem he]
    rw [hf];simp only;rw [(hv i (by omega) (by omega)).1,List.getElem?_eq_getElem]
   ·rw [List.getElem?_eq_none (by omega)]
  have:=run_buildSlice (P:=P) w T e n ((List.range n).zip vals).toArray out it z hu hi hz (by rw [hsz];omega) hne (by simpa using o1)
  rw [this,← hout]
theorem XY {T e:Nat} {te tl:TE} (hT:tat τ T=some te) {t:Ty} (ht:te.t=.list e t) (htl:tat τ e=some tl) {k k':IntKind} {n:Int} (h0:0≤n) (hroom:n.toNat * tl.by_≤140737488355328) (hb:0<tl.by_) (w:World):
 (Instr.makeSlice T (.int k n) (.int k' n)).run P w=.ok (.slice (some ⟨w.heap.size,0,none⟩) n.toNat n.toNat) (w.alloc (.cells (List.replicate n.toNat t.zc).flatten.toArray e)):=by
 obtain⟨hu,tl',htl',htt⟩:=hτ.slice hT ht;rw [htl] at htl';obtain⟨rfl⟩:=htl';obtain⟨it,z,hi,hz,hsz,hby,hzc,hzs⟩:=Pp hτ htl;rw [htt] at hsz hzc hzs;have hpos:=Ty.sz_pos t
 have hn1:n.toNat * 1≤n.toNat * tl.by_:=Nat.mul_le_mul_left _ hb
 have hbytes:(it.bytes:Int) * n≤281474976710656:=by
  have e1:n=(n.toNat:Int):=by omega
  have e2:(it.bytes:Int) * (n.toNat:Int)=((n.toNat * tl.by_:Nat):Int):=by rw [hby,Nat.mul_comm];simp
  rw [e1,e2];omega
 rw [run_make w T e it z hu hi hz k k' n n h0 (Int.le_refl _) hbytes (by omega)]
 congr 3
 unfold madeCells;apply Array.ext'
 rw [Array.toList_map,Array.toList_range,hsz,← hzs,Oc z.cells (by omega),hzc]
end
theorem Rel.tupMove {w0:World} {G0:Gh} {np:Nat} {σ:S} {a:Act} {w:World} {G:Gh} (h:Rel w0 G0 np σ a w G) {i d:Nat} (hd:d<σ.sl.length) (hne:i≠d) {vs:List Dat} (hs:σ.slot i=.tup vs):
 ∃ G',Rel w0 G0 np (σ.newA d (.tup vs) [i]) (a.put (some d) (a.tmps.getD i undef)) w G'∧Ft w w G G' (2 * d::[i].map (2 * ·)):=by
 have hsl:=h.slots i
 rw [hs] at hsl;obtain⟨arr,e1,e2,e3⟩:=hsl
 let own':=Bb G.own [2 * i] [2 * d]
 have hO2:∀ b,G.own b=none→own' b=none:=fun b hb=>BO.2 hb
 refine⟨{ G with own:=own' },h.newA2 hd (own':=own') ⟨Nat.le_refl _,fun b hb _=>⟨hO2 b hb,rfl⟩,fun b r s hb hr=>⟨BN hb (fun⟨s',e⟩=>?_),rfl⟩,fun b hb=>⟨Cg hb (by simp),rfl⟩⟩ rfl rfl rfl (fun b l hb=>?_) (by simp) (fun σ' tmps=>⟨arr,e1,e2,fun j hj=>?_⟩)⟩
 ·simp at e hr;exact hr.2 e.1
 ·obtain⟨l',hl'⟩:=Cx hb;exact h.live b l' hl'
 ·obtain⟨cs,q1,q2⟩:=e3 j hj;exact⟨cs,q1,RepO.move (fun b h1 h2=>⟨hO2 b h1,h2,rfl⟩) q2 (fun b s hb=>⟨by
   have:G.own b=some ([2 * i]++(j::s)):=by simpa using hb
   have:=DU (q:=[2 * d]) this
   simpa [own'] using this,rfl⟩)⟩
def S.extr (σ:S) (i j d:Nat) (vs:List Dat) (D:Dat):S:=((σ.killA [2 * d,2 * i]).setSlot i (.tup (vs.set j ⟨D.t,hol D.t D.m,D.x⟩))).setSlot d (.dat D)
theorem S.extr_slot (σ:S) {i j d:Nat} (vs:List Dat) (D:Dat) (hd:d<σ.sl.length) (hi:i<σ.sl.length) (s:Nat):(σ.extr i j d vs D).slot s=if d=s then .dat D else if i=s then .tup (vs.set j ⟨D.t,hol D.t D.m,D.x⟩) else (σ.slot s).kills [2 * d,2 * i]:=by
 rw [S.extr,S.setSlot_slot,S.setSlot_len,S.killA_len,S.setSlot_slot,S.killA_len,S.killA_slot]
 by_cases e:d=s
 ·rw [if_pos ⟨e,hd⟩,if_pos e]
 ·rw [if_neg (fun h=>e h.1),if_neg e]
  by_cases e2:i=s
  ·rw [if_pos ⟨e2,hi⟩,if_pos e2]
  ·rw [if_neg (fun h=>e2 h.1),if_neg e2]
theorem Rel.extr {w0:World} {G0:Gh} {np:Nat} {σ:S} {a:Act} {w:World} {G:Gh} (h:Rel w0 G0 np σ a w G) {i j d:Nat} (hd:d<σ.sl.length) (hne:i≠d) {vs:List Dat} {D:Dat} (hs:σ.slot i=.tup vs) (hD:vs[j]?=some D):
 ∃ arr G',a.tmps.getD i undef=.tuple arr∧j<arr.size∧Rel w0 G0 np (σ.extr i j d vs D) (a.put (some d) (arr.getD j undef)) w G'∧Ft w w G G' [2 * d,2 * i]:=by
 have hsl:=h.slots i
 rw [hs] at hsl;obtain⟨arr,e1,e2,e3⟩:=hsl;obtain⟨hj,rfl⟩:=List.getElem?_eq_some_iff.1 hD;have hi:i<σ.sl.length:=by
  rcases Nat.lt_or_ge i σ.sl.length with h | h
  ·exact h
  ·simp only [S.slot,List.getD_eq_getElem?_getD,List.getElem?_eq_none h] at hs;cases hs
 have hda:d<a.tmps.size:=by rw [← h.tmps];exact hd
 let own':=Bb G.own [2 * i,j] [2 * d]
 have hO2:∀ b,G.own b=none→own' b=none:=fun b hb=>BO.2 hb
 have hslot:=S.extr_slot σ (j:=j) vs vs[j] hd hi
 refine⟨arr,{ G with own:=own' },e1,by omega,h.step2 [2 * d,2 * i] (fun _ _=>⟨rfl,rfl,rfl,rfl⟩) ⟨Nat.le_refl _,fun b hb _=>⟨hO2 b hb,rfl⟩,fun b r s hb hr=>⟨BN hb (fun⟨s',e⟩=>?_),rfl⟩,fun b hb=>⟨Cg hb (by simp),rfl⟩⟩ rfl rfl rfl (fun b l hb=>?_) (fun _ _=>⟨rfl,rfl,rfl,rfl⟩) (by simp [S.extr,S.setSlot_len,S.killA_len,Act.put,h.tmps]) h.defers (fun s=>?_) (fun k bx hb=>.inl ⟨hb,by simp;omega,rfl,rfl,rfl,rfl⟩) (fun k b d' hk _=>by simp at hk;omega) (fun s k hk=>?_)⟩
 ·simp at e hr;exact hr.2 e.1
 ·obtain⟨l',hl'⟩:=Cx hb;exact h.live b l' hl'
 ·rw [hslot s]
  by_cases e:d=s
  ·subst e;right;rw [if_pos rfl,Act.put_getD _ _ _ _ hda,if_pos rfl];obtain⟨cs,q1,q2⟩:=e3 j hj;exact⟨⟨cs,q1,RepO.move (fun b h1 h2=>⟨hO2 b h1,h2,rfl⟩) q2 (fun b s hb=>⟨DU hb,rfl⟩)⟩,fun _=>by simp⟩
  ·rw [if_neg e]
   by_cases e4:i=s
   ·subst e4;right;rw [if_pos rfl,Act.put_getD _ _ _ _ hda,if_neg e];refine⟨⟨arr,e1,by simpa using e2,fun k hk=>?_⟩,fun _=>by simp⟩
    have hk':k<vs.length:=by simpa using hk
    obtain⟨cs,q1,q2⟩:=e3 k hk';generalize hg:(vs.set j ⟨vs[j].t,hol vs[j].t vs[j].m,vs[j].x⟩)[k]=D2
    by_cases ek:j=k
    ·subst ek;have:D2=⟨vs[j].t,hol vs[j].t vs[j].m,vs[j].x⟩:=by rw [← hg];exact List.getElem_set_self _
     subst this;exact⟨cs,q1,RepO.hol (fun b h1 h2=>⟨hO2 b h1,h2,rfl⟩) q2⟩
    ·have:D2=vs[k]:=by rw [← hg];exact List.getElem_set_ne ek _
     subst this;refine⟨cs,q1,RepO.move (fun b h1 h2=>⟨hO2 b h1,h2,rfl⟩) q2 (fun b s hb=>⟨BN hb (fun⟨s',e⟩=>?_),rfl⟩)⟩
     simp at e;exact ek e.1.symm
   ·rw [if_neg e4];left;refine⟨⟨?_⟩,by rw [Act.put_getD _ _ _ _ hda,if_neg e]⟩
    rw [hslot s,if_neg e,if_neg e4];rcases AV.kills_or [2 * d,2 * i] (σ.slot s) with k1 | k1
    ·exact .inl k1
    ·by_cases hn:σ.slot s=.none
     ·left;rw [k1,hn]
     ·exact .inr ⟨k1,AV.kills_all _ _ k1 hn,fun _=>by simp;omega⟩
 ·rw [hslot s] at hk
  by_cases e:d=s
  ·rw [if_pos e] at hk;cases hk
  ·rw [if_neg e] at hk
   by_cases e4:i=s
   ·rw [if_pos e4] at hk;cases hk
   ·rw [if_neg e4] at hk;exact(h.slots s).hk (AV.kills_hk _ hk)
def S.freeze (σ:S) (i:Nat):Option S:=match σ.slot i with
 | .dat d=>if d.m.full=true then some ((σ.killA [2 * i]).setSlot i (.snp d.t d.x [] none)) else none
 | .tup vs=>if (vs.all fun D=>D.m.full)=true then some ((σ.killA [2 * i]).setSlot i (.tup (vs.map fun D=>⟨D.t,.ro,D.x⟩))) else none
 | _=>none
theorem Rel.freeze {w0:World} {G0:Gh} {np:Nat} {σ σ':S} {a:Act} {w:World} {G:Gh} (h:Rel w0 G0 np σ a w G) {i:Nat} (hf:σ.freeze i=some σ'):∃ G',Rel w0 G0 np σ' a w G'∧Ft w w G G' [2 * i]:=by
 unfold S.freeze at hf;split at hf
 ·rename_i d hs;split at hf
  ·rename_i hfull;obtain⟨rfl⟩:=hf;have hsl:=h.slots i
   rw [hs] at hsl;obtain⟨cs,e1,e2⟩:=hsl;have hi:i<σ.sl.length:=by
    rcases Nat.lt_or_ge i σ.sl.length with h | h
    ·exact h
    ·simp only [S.slot,List.getD_eq_getElem?_getD,List.getElem?_eq_none h] at hs;cases hs
   let own':=Gp G.own [2 * i]
   have hO2:∀ b,G.own b=none→own' b=none:=fun b hb=>Gq hb
   have hslot:∀ s,((σ.killA [2 * i]).setSlot i (.snp d.t d.x [] none)).slot s=if i=s then .snp d.t d.x [] none else (σ.slot s).kills [2 * i]:=fun s=>by
    rw [S.setSlot_slot,S.killA_len,S.killA_slot]
    by_cases e:i=s
    ·rw [if_pos ⟨e,hi⟩,if_pos e]
    ·rw [if_neg (fun h=>e h.1),if_neg e]
   refine⟨{ G with own:=own' },h.step2 [2 * i] (fun _ _=>⟨rfl,rfl,rfl,rfl⟩) ⟨Nat.le_refl _,fun b hb _=>⟨hO2 b hb,rfl⟩,fun b r s hb hr=>⟨FQ hb (fun⟨s',e⟩=>?_),rfl⟩,fun b hb=>⟨LW hb (by simp),rfl⟩⟩ rfl rfl rfl (fun b l hb=>h.live b l (KD hb)) (fun _ _=>⟨rfl,rfl,rfl,rfl⟩) (by rw [S.setSlot_len,S.killA_len];exact h.tmps) h.defers (fun s=>?_) (fun k bx hb=>.inl ⟨hb,by simp;omega,rfl,rfl,rfl,rfl⟩) (fun k b d' hk _=>by simp at hk;omega) (fun s k hk=>?_)⟩
   ·simp at e hr;exact hr e.1
   ·rw [hslot s]
    by_cases e:i=s
    ·subst e;right;rw [if_pos rfl];refine⟨⟨cs,e1,?_,fun p hp=>by cases hp⟩,fun hh=>by cases hh⟩
     refine RepO.view (w:=w) (own:=G.own) (p:=[2 * i]) (fun b h1 h2=>⟨h2,.inl (hO2 b h1)⟩) hfull e2 (fun b ⟨s,hb⟩ hlt=>⟨hlt,.inl (Th hb)⟩)
    ·rw [if_neg e];left;refine⟨⟨?_⟩,rfl⟩
     rw [hslot s,if_neg e];rcases AV.kills_or [2 * i] (σ.slot s) with k1 | k1
     ·exact .inl k1
     ·by_cases hn:σ.slot s=.none
      ·left;rw [k1,hn]
      ·exact .inr ⟨k1,AV.kills_all _ _ k1 hn,fun _=>by simp;omega⟩
   ·rw [hslot s] at hk
    by_cases e:i=s
    ·rw [if_pos e] at hk;cases hk
    ·rw [if_neg e] at hk;exact(h.slots s).hk (AV.kills_hk _ hk)
  ·cases hf
 ·rename_i vs hs;split at hf
  ·rename_i hfull;obtain⟨rfl⟩:=hf;have hsl:=h.slots i
   rw [hs] at hsl;obtain⟨arr,e1,e2,e3⟩:=hsl;have hi:i<σ.sl.length:=by
    rcases Nat.lt_or_ge i σ.sl.length with h | h
    ·exact h
    ·simp only [S.slot,List.getD_eq_getElem?_getD,List.getElem?_eq_none h] at hs;cases hs
   let own':=Gp G.own [2 * i]
   have hO2:∀ b,G.own b=none→own' b=none:=fun b hb=>Gq hb
   have hslot:∀ s,((σ.killA [2 * i]).setSlot i (.tup (vs.map fun D=>(⟨D.t,.ro,D.x⟩:Dat)))).slot s=if i=s then .tup (vs.map fun D=>(⟨D.t,.ro,D.x⟩:Dat)) else (σ.slot s).kills [2 * i]:=fun s=>by
    rw [S.setSlot_slot,S.killA_len,S.killA_slot]
    by_cases e:i=s
    ·rw [if_pos ⟨e,hi⟩,if_pos e]
    ·rw [if_neg (fun h=>e h.1),if_neg e]
   refine⟨{ G with own:=own' },h.step2 [2 * i] (fun _ _=>⟨rfl,rfl,rfl,rfl⟩) ⟨Nat.le_refl _,fun b hb _=>⟨hO2 b hb,rfl⟩,fun b r s hb hr=>⟨FQ hb (fun⟨s',e⟩=>?_),rfl⟩,fun b hb=>⟨LW hb (by simp),rfl⟩⟩ rfl rfl rfl (fun b l hb=>h.live b l (KD hb)) (fun _ _=>⟨rfl,rfl,rfl,rfl⟩) (by rw [S.setSlot_len,S.killA_len];exact h.tmps) h.defers (fun s=>?_) (fun k bx hb=>.inl ⟨hb,by simp;omega,rfl,rfl,rfl,rfl⟩) (fun k b d' hk _=>by simp at hk;omega) (fun s k hk=>?_)⟩
   ·simp at e hr;exact hr e.1
   ·rw [hslot s]
    by_cases e:i=s
    ·subst e;right;rw [if_pos rfl];refine⟨⟨arr,e1,by rw [List.length_map];exact e2,fun j hj=>?_⟩,fun _=>by simp⟩
     rw [List.length_map] at hj;obtain⟨cs,g1,g2⟩:=e3 j hj;rw [List.getElem_map];refine⟨cs,g1,RepO.ofV (RepO.view (w:=w) (own:=G.own) (p:=[2 * i,j]) (fun b h1 h2=>⟨hO2 b h1,h2⟩) (List.all_eq_true.1 hfull _ (List.getElem_mem hj)) g2 (fun b ⟨s,hb⟩ hlt=>⟨Th (s:=j::s) (by simpa using hb),hlt⟩))⟩
    ·rw [if_neg e];left;refine⟨⟨?_⟩,rfl⟩
     rw [hslot s,if_neg e];rcases AV.kills_or [2 * i] (σ.slot s) with k1 | k1
     ·exact .inl k1
     ·by_cases hn:σ.slot s=.none
      ·left;rw [k1,hn]
      ·exact .inr ⟨k1,AV.kills_all _ _ k1 hn,fun _=>by simp;omega⟩
   ·rw [hslot s] at hk
    by_cases e:i=s
    ·rw [if_pos e] at hk;cases hk
    ·rw [if_neg e] at hk;exact(h.slots s).hk (AV.kills_hk _ hk)
  ·cases hf
 ·cases hf
def fzn:Ty→Md→Md→Lab→Bool
 | .list _ _,.own _,.ro,_=>true
 | .list _ t,.own m,.own m',_::s=>fzn t m m' s
 | .pair a _,m,m',0::s=>fzn a m.fst m'.fst s
 | .pair _ b,m,m',1::s=>fzn b m.snd m'.snd s
 | _,_,_,_=>false
def wk:Ty→Md→Md→Bool
 | .list _ t,.own m,.own m'=>wk t m m'
 | .list _ _,.own m,.ro=>m.full
 | .list _ _,.ro,.ro=>true
 | .list _ _,.hole,.hole=>true
 | .list _ _,_,_=>false
 | .pair a b,m,m'=>wk a m.fst m'.fst && wk b m.snd m'.snd
 | _,_,_=>true
theorem RepO.wk {w:World} {own own':Own} (h2:∀ b,own b=none→b<w.heap.size→own' b=none):
 ∀ {t:Ty} {m m':Md} {p:Lab} {cs:List Value} {x:t.D},wk t m m'=true→RepO w own t m p cs x →
 (∀ b s,own b=some (p++s)→(fzn t m m' s=true→own' b=none)∧(fzn t m m' s=false→own' b=some (p++s)))→RepO w own' t m' p cs x
 | .int _,_,_,_,_,_,_,h,_=>h
 | .bool,_,_,_,_,_,_,h,_=>h
 | .str,_,_,_,_,_,_,h,_=>h
 | .list e t,.own m,.own m',p,_,_,hw,h,h1=>by
  obtain⟨A,c,rfl,hl,hr⟩:=h;refine⟨A,c,rfl,hl,?_⟩
  rcases hr with hr | ⟨b,o,arr,rfl,ho,hh,hs,hi⟩
  ·exact .inl hr
  ·have hb:=(h1 b [] (by simpa using ho)).2 (by simp [fzn])
   refine .inr ⟨b,o,arr,rfl,by simpa using hb,hh,hs,fun i h=>?_⟩
   obtain⟨ci,hc1,hc2⟩:=hi i h;refine⟨ci,RepO.wk h2 (by simpa [Go.Proofs.YtmakhmoielhjeaaGreatDoorE.wk] using hw) hc1 (fun b s hb=>?_),hc2⟩
   have:=h1 b (i::s) (by simpa using hb)
   simpa [fzn] using this
 | .list e t,.own m,.ro,p,_,_,hw,h,h1=>
  RepO.view (w:=w) (own:=own) (p:=p) (m:=.own m) (fun b hb hlt=>⟨h2 b hb hlt,hlt⟩) (by simpa [Md.full,Go.Proofs.YtmakhmoielhjeaaGreatDoorE.wk] using hw) h (fun b ⟨s,hb⟩ hlt=>⟨(h1 b s hb).1 (by simp [fzn]),hlt⟩)
 | .list _ _,.ro,.ro,_,_,_,_,h,_=>RepV.mono (fun b hb=>⟨⟨h2 b hb.1 hb.2,hb.2⟩,rfl⟩) h
 | .list _ _,.hole,.hole,_,_,_,_,h,_=>h
 | .list _ _,.own _,.hole,_,_,_,hw,_,_=>by simp [Go.Proofs.YtmakhmoielhjeaaGreatDoorE.wk] at hw
 | .list _ _,.own _,.pr _ _,_,_,_,hw,_,_=>by simp [Go.Proofs.YtmakhmoielhjeaaGreatDoorE.wk] at hw
 | .list _ _,.ro,.own _,_,_,_,hw,_,_=>by simp [Go.Proofs.YtmakhmoielhjeaaGreatDoorE.wk] at hw
 | .list _ _,.ro,.hole,_,_,_,hw,_,_=>by simp [Go.Proofs.YtmakhmoielhjeaaGreatDoorE.wk] at hw
 | .list _ _,.ro,.pr _ _,_,_,_,hw,_,_=>by simp [Go.Proofs.YtmakhmoielhjeaaGreatDoorE.wk] at hw
 | .list _ _,.hole,.own _,_,_,_,hw,_,_=>by simp [Go.Proofs.YtmakhmoielhjeaaGreatDoorE.wk] at hw
 | .list _ _,.hole,.ro,_,_,_,hw,_,_=>by simp [Go.Proofs.YtmakhmoielhjeaaGreatDoorE.wk] at hw
 | .list _ _,.hole,.pr _ _,_,_,_,hw,_,_=>by simp [Go.Proofs.YtmakhmoielhjeaaGreatDoorE.wk] at hw
 | .list _ _,.pr _ _,_,_,_,_,hw,_,_=>by simp [Go.Proofs.YtmakhmoielhjeaaGreatDoorE.wk] at hw
 | .pair a b,m,m',p,_,_,hw,h,h1=>by
  simp only [Go.Proofs.YtmakhmoielhjeaaGreatDoorE.wk,Bool.and_eq_true] at hw;obtain⟨c1,c2,rfl,ha,hb⟩:=h;refine⟨c1,c2,rfl,RepO.wk h2 hw.1 ha (fun b s hb=>?_),RepO.wk h2 hw.2 hb (fun b s hb=>?_)⟩
  ·have:=h1 b (0::s) (by simpa using hb)
   simpa [fzn] using this
  ·have:=h1 b (1::s) (by simpa using hb)
   simpa [fzn] using this
def La (own:Own) (t:Ty) (m m':Md) (p:Lab):Own:=fun b=>match own b with
 | some l=>match DR p l with
  | some s=>if fzn t m m' s=true then none else some l
  | none=>some l
 | none=>none
theorem ay {own:Own} {t:Ty} {m m':Md} {p s:Lab} {b:Nat} (h:own b=some (p++s)):(fzn t m m' s=true→La own t m m' p b=none)∧(fzn t m m' s=false→La own t m m' p b=some (p++s)):=by
 unfold La;rw [h];simp only;rw [CJ.2 rfl];refine⟨fun hf=>?_,fun hf=>?_⟩<;>simp [hf]
theorem OT {own:Own} {t:Ty} {m m':Md} {p l:Lab} {b:Nat} (h:own b=some l) (hl:¬ Lab.le p l):La own t m m' p b=some l:=by
 unfold La;rw [h];simp only;cases hs:DR p l with
 | none=>rfl
 | some s=>exact absurd ⟨s,CJ.1 hs⟩ hl
theorem XC {own:Own} {t:Ty} {m m':Md} {p l:Lab} {b:Nat} (h:La own t m m' p b=some l):own b=some l:=by
 unfold La at h;cases ho:own b with
 | none=>rw [ho] at h;cases h
 | some l'=>
  rw [ho] at h;simp only at h;split at h
  ·split at h
   ·cases h
   ·exact h
  ·exact h
theorem XB {own:Own} {t:Ty} {m m':Md} {p:Lab} {b:Nat} (h:own b=none):La own t m m' p b=none:=by
 unfold La;rw [h]
def S.weak (σ:S) (r:Nat) (m':Md):Option S:=match σ.rt r with
 | some d=>if wk d.t d.m m'=true then some ((σ.killA [r]).setRoot r ⟨d.t,m',d.x⟩) else none
 | none=>none
theorem Rel.weak' {w0:World} {G0:Gh} {np:Nat} {σ σ':S} {a:Act} {w:World} {G:Gh} (h:Rel w0 G0 np σ a w G) {r:Nat} {m':Md} (hg:σ.weak r m'=some σ'):∃ G',Rel w0 G0 np σ' a w G'∧Ft w w G G' [r]:=by
 unfold S.weak at hg;split at hg
 case h_2=>cases hg
 rename_i d hd;split at hg
 case isFalse=>cases hg
 rename_i hwk;obtain⟨rfl⟩:=hg;obtain⟨L,cr,hroot⟩:=h.rt hd;have hR:=h.root hroot
 let own':=La G.own d.t d.m m' (Ai r)
 have hO2:∀ b,G.own b=none→own' b=none:=fun b hb=>XB hb
 have hroot':RepO w own' d.t m' (Ai r) cr d.x:=RepO.wk (fun b hb _=>hO2 b hb) hwk hR.1 (fun b s hb=>ay hb)
 have hkrt:((σ.killA [r])).rt r=some d:=by
  unfold S.rt at hd ⊢;split
  ·rename_i he;rw [if_pos he] at hd;rw [S.killA_slot];cases hsp:σ.slot (r / 2)<;>rw [hsp] at hd<;>simp at hd
   rw [AV.kills_dat _ rfl];simp [hd]
  ·rename_i he;rw [if_neg he] at hd;exact hd
 have hslot:∀ j,((σ.killA [r]).setRoot r ⟨d.t,m',d.x⟩).slot j=if r=2 * j then .dat ⟨d.t,m',d.x⟩ else (σ.slot j).kills [r]:=by
  intro j;rw [S.setRoot_slot _ hkrt,S.killA_slot]
 have hbox:∀ k,((σ.killA [r]).setRoot r ⟨d.t,m',d.x⟩).box k=if r=2 * k+1 then (σ.box k).map (fun q=>(q.1,⟨d.t,m',d.x⟩)) else σ.box k:=by
  intro k;rw [S.setRoot_box _ hkrt];rfl
 refine⟨{ G with own:=own' },h.step2 [r] (fun _ _=>⟨rfl,rfl,rfl,rfl⟩) ⟨Nat.le_refl _,fun b hb _=>⟨hO2 b hb,rfl⟩,fun b r' s hb hr=>⟨OT hb ?_,rfl⟩,fun b hb=>⟨OT hb (fun⟨s',hs'⟩=>by
  obtain⟨s0,e0⟩:=Bi r;rw [e0] at hs';simp at hs'),rfl⟩⟩ rfl rfl rfl ?_ (fun _ _=>⟨rfl,rfl,rfl,rfl⟩) ?_ h.defers (fun j=>?_) (fun k bx hb=>?_) (fun k b d1 hk hb=>?_) (fun j k hj=>?_)⟩
 ·rintro ⟨s',hs'⟩
  obtain⟨s0,e0⟩:=Bi r;rw [e0] at hs';simp at hs';simp [hs'.1] at hr
 ·intro b l hb;exact h.live b l (XC hb)
 ·rw [S.setRoot_len,S.killA_len];exact h.tmps
 ·rw [hslot j]
  by_cases e2:r=2 * j
  ·right;rw [if_pos e2];refine⟨?_,fun _=>by simp [e2]⟩
   obtain⟨_,_,hv'⟩:=hroot.slot_inv e2;refine⟨cr,hv',?_⟩
   rw [Ai,if_pos (by omega),e2] at hroot';exact hroot'
  ·left;refine⟨⟨?_⟩,rfl⟩
   rw [hslot j,if_neg e2];rcases AV.kills_or [r] (σ.slot j) with k1 | k1
   ·exact .inl k1
   ·by_cases hn:σ.slot j=.none
    ·left;rw [k1,hn]
    ·exact .inr ⟨k1,AV.kills_all _ _ k1 hn,fun _=>by simp;exact fun h=>e2 h.symm⟩
 ·rw [hbox k] at hb
  by_cases e:r=2 * k+1
  ·rw [if_pos e] at hb;right;refine⟨?_,by simp [e]⟩
   obtain⟨q,hq,rfl⟩:=Option.map_eq_some_iff.1 hb;obtain⟨bb,dq⟩:=q;have hB:=h.boxes k _ hq
   have e0:Ai r=[2 * k+1,0]:=by rw [Ai,if_neg (by omega),e]
   rw [e0] at hroot';rcases hroot.box_inv e with⟨hb',hL',hl',hc'⟩ | ⟨hb',hL',hc'⟩
   ·rw [hq] at hb';simp only [Option.some.injEq,Prod.mk.injEq] at hb';obtain⟨rfl,rfl⟩:=hb';obtain⟨arr,q1,q2,q3,q4,q5,csb,q6,q7⟩:=hB;refine⟨arr,q1,?_,q3,q4,q5,cr,hroot',fun j hj=>?_⟩
    ·exact OT q2 (fun hle=>by
      have:=Lab.le_len hle
      rw [e0] at this;simp at this)
    ·have:=hc' j hj
     rwa [Ao q1] at this
   ·rw [hq] at hb';simp only [Option.some.injEq,Prod.mk.injEq] at hb';obtain⟨rfl,rfl⟩:=hb';obtain⟨q1,q2⟩:=hB;rw [hc'] at hroot';exact⟨q1,hroot'⟩
  ·rw [if_neg e] at hb;left;exact⟨hb,by simp;exact fun h=>e h.symm,rfl,rfl,rfl,rfl⟩
 ·have hk':r=2 * k+1:=by simp at hk;omega
  rw [hbox k,if_pos hk'] at hb;obtain⟨q,hq,hq2⟩:=Option.map_eq_some_iff.1 hb;obtain⟨bb,dq⟩:=q;simp only [Prod.mk.injEq] at hq2;obtain⟨rfl,rfl⟩:=hq2;left;refine⟨dq,hq,?_,rfl,rfl⟩
  have:σ.rt (2 * k+1)=some dq:=by
   have e1:(2 * k+1) / 2=k:=by omega
   have e2:¬ (2 * k+1) % 2=0:=by omega
   simp only [S.rt,if_neg e2,e1,hq,Option.map_some]
  rw [hk',this] at hd;rw [Option.some.inj hd]
 ·rw [hslot j] at hj
  by_cases e2:r=2 * j
  ·rw [if_pos e2] at hj;cases hj
  ·rw [if_neg e2] at hj;obtain⟨dk,hdk⟩:=(h.slots j).hk (AV.kills_hk _ hj);rw [hbox k,hdk]
   by_cases e3:r=2 * k+1
   ·rw [if_pos e3];exact⟨_,rfl⟩
   ·rw [if_neg e3];exact⟨_,rfl⟩
theorem Addr.add_plain (b o n:Nat):((⟨b,o,none⟩:Addr).add n)=⟨b,o+n,none⟩:=by
 simp only [Addr.add];split
 ·subst_vars;simp
 ·rfl
theorem Rel.cutO {w0:World} {G0:Gh} {np:Nat} {σ:S} {a:Act} {w:World} {G:Gh} (h:Rel w0 G0 np σ a w G) {i d:Nat} (hd:d<σ.sl.length) {e:Nat} {t:Ty} {xs:List t.D} (hs:σ.slot i=.dat ⟨.list e t,.own .ro,xs⟩):
 ∃ A c,a.tmps.getD i undef=.slice A (List.length xs) c∧List.length xs≤c∧∀ (l r:Int),0≤l→l≤r→r≤(List.length xs:Int) →
  ∃ G',Rel w0 G0 np (σ.newA d (.dat ⟨.list e t,.own .ro,Hf xs l r⟩) [i]) (a.put (some d) (sliced A l.toNat r.toNat c t.sz)) w G'∧Ft w w G G' (2 * d::[i].map (2 * ·)):=by
 have hsl:=h.slots i
 rw [hs] at hsl;obtain⟨cs,hval,hR⟩:=hsl;have hval':cs=[a.tmps.getD i undef]:=hval
 subst hval';obtain⟨A,c,e1,hle,hrow⟩:=hR;obtain⟨e2⟩:=List.cons.inj e1;have hle:List.length xs≤c:=hle
 refine⟨A,c,e2,hle,fun l r h0 h1 h2=>?_⟩
 let own':=Bb G.own [2 * i] [2 * d]
 have hO2:∀ b,G.own b=none→own' b=none:=fun b hb=>BO.2 hb
 have hlen:List.length (Hf xs l r)=r.toNat - l.toNat:=by simp only [Hf,List.length_take,List.length_drop];omega
 refine⟨{ G with own:=own' },h.newA2 hd (own':=own') ⟨Nat.le_refl _,fun b hb _=>⟨hO2 b hb,rfl⟩,fun b r s hb hr=>⟨BN hb (fun⟨s',e⟩=>?_),rfl⟩,fun b hb=>⟨Cg hb (by simp),rfl⟩⟩ rfl rfl rfl (fun b l hb=>?_) (by simp) (fun σ' tmps=>⟨[_],rfl,?_⟩)⟩
 ·simp at e hr;exact hr.2 e.1
 ·obtain⟨l',hl'⟩:=Cx hb;exact h.live b l' hl'
 ·refine⟨(if c=l.toNat then A else A.map (·.add (l.toNat * t.sz))),c - l.toNat,by rw [hlen];rfl,by rw [hlen];omega,?_⟩
  rcases hrow with⟨rfl,rfl⟩ | ⟨b,o,arr,rfl,ho,hh,hsz,hi⟩
  ·left;have:l.toNat=0:=by omega
   simp [this]
  ·right;have ho':own' b=some [2 * d]:=by
    have:=DU (p:=[2 * i]) (q:=[2 * d]) (s:=[]) (by simpa using ho)
    simpa [own'] using this
   by_cases hcl:c=l.toNat
   ·refine⟨b,o,arr,by rw [if_pos hcl],ho',hh,by rw [hcl];simp;rw [hcl] at hsz;omega,fun j hj=>?_⟩
    rw [hlen] at hj;omega
   ·refine⟨b,o+l.toNat * t.sz,arr,by rw [if_neg hcl,Option.map_some,Addr.add_plain],ho',hh,?_,fun j hj=>?_⟩
    ·have:(c - l.toNat) * t.sz+l.toNat * t.sz=c * t.sz:=by rw [← Nat.add_mul];congr 1;omega
     omega
    ·rw [hlen] at hj;have hlj:l.toNat+j<List.length xs:=by omega
     obtain⟨ci,g1,g2⟩:=hi (l.toNat+j) hlj;refine⟨ci,?_,fun k hk=>?_⟩
     ·have:List.get (Hf xs l r) ⟨j,by rw [hlen];exact hj⟩=List.get xs ⟨l.toNat+j,by omega⟩:=by
       simp [Hf]
      rw [this];have gV:=RepO.noOwn rfl g1
      exact RepO.ofV (RepV.mono (fun b hb=>⟨⟨hO2 b (by
       rcases hb.2 with h1 | ⟨r,hr,_⟩
       ·exact h1
       ·cases hr),hb.1⟩,rfl⟩) gV)
     ·have:=g2 k hk
      rw [← this,Nat.add_mul]
      congr 1;omega
theorem bV {P:Program} {τ:List TE} (hτ:TabOk P τ) {T:Nat} {te:TE} (he:tat τ T=some te) {e:Nat} {t:Ty} (ht:te.t=.list e t) {A:Option Addr} {n cp:Nat} (hle:n≤cp) {w:World}
 {lo hi:Option Value} {l r:Int} (hlo:(lo=none∧l=0)∨∃ k,lo=some (.int k l)) (hhi:(hi=none∧r=(n:Int))∨∃ k,hi=some (.int k r)) (h0:0≤l) (h1:l≤r) (h2:r≤(n:Int)):
 (Instr.sliceAt T (.slice A n cp) lo hi none).run P w=.ok (sliced A l.toNat r.toNat cp t.sz) w:=by
 obtain⟨hu,tel,htel,hte⟩:=hτ.slice he ht;have hue:P.elem T=e:=by simp [Program.elem,hu]
 have hsl:P.underlying T=some (.slice (P.elem T)):=by rw [hue];exact hu
 have hs:=hτ.size htel w
 rw [hte] at hs;rw [run_sliceAt_slice w T _ _ _ _ hsl];rcases hlo with⟨rfl,rfl⟩ | ⟨k,rfl⟩<;>rcases hhi with⟨rfl,rfl⟩ | ⟨k',rfl⟩
 ·rw [run_slice_all w T A _ cp hsl,hue,hs];rfl
 ·rw [run_slice_h w T A _ cp hsl k' r (by omega) (by omega),hue,hs];rfl
 ·rw [run_slice_l w T A _ cp hsl k l h0 h1,hue,hs];rfl
 ·rw [run_slice_lh w T A _ cp hsl k k' l r h0 h1 (by omega),hue,hs];rfl
theorem Rel.view {w0:World} {G0:Gh} {np:Nat} {σ:S} {a:Act} {w:World} {G:Gh} (h:Rel w0 G0 np σ a w G) {d k:Nat} (hd:d<σ.sl.length) {D:Dat} (hb:σ.box k=some (false,D)) (T:Nat):
 ∃ G',Rel w0 G0 np (σ.newA d (.vw k []) []) (a.put (some d) (.pointer (some ⟨w.heap.size,0,none⟩))) (w.alloc (.cells (G.hv k).2.toArray T)) G'∧Ft w (w.alloc (.cells (G.hv k).2.toArray T)) G G' [2 * d]:=by
 have hheap:∀ b,b<w.heap.size→(w.alloc (.cells (G.hv k).2.toArray T)).heap[b]?=w.heap[b]?:=fun b hb=>World.heap_alloc_old w _ hb
 have hc:Chg w (w.alloc (.cells (G.hv k).2.toArray T)) G.own G.own (2 * d::([]:List Nat).map (2 * ·)):=⟨by rw [World.size_alloc];omega,fun b hb hlt=>⟨hb,hheap b hlt⟩,fun b r s hb _=>⟨hb,hheap b (h.live b _ hb)⟩,fun b hb=>⟨hb,hheap b (h.live b _ hb)⟩⟩
 refine⟨{ G with own:=G.own },?_,⟨hc,rfl,rfl,rfl,fun _ _=>⟨rfl,rfl,rfl,rfl⟩⟩⟩
 refine h.newA3 hd (own':=G.own) hc rfl rfl rfl (fun b l hb=>by have:=h.live b l hb;rw [World.size_alloc];omega) (fun k' hk=>?_) (fun σ' tmps hbx=>?_)
 ·simp only [AV.hk,Option.some.injEq] at hk;subst hk;exact⟨D,hb⟩
 ·refine⟨⟨⟨w.heap.size,0,none⟩,(G.hv k).2,rfl,rfl,h.chead _ (Nat.le_refl _),by rw [World.size_alloc];exact Nat.lt_succ_self _,rfl,fun j hj=>?_⟩,D,by rw [hbx];exact hb⟩
  rw [Ao (World.heap_alloc_new w _)];simp [hj]
def S.partT (σ:S) (parts:List (Nat×Operand)) (j:Nat) (t:Ty) (m:Md) (p:Lab):Option (Md×t.D×List (Nat×Lab)):=match parts.find? (·.1 == j) with
 | none=>some (m,t.zero,[])
 | some (_,o)=>match σ.take t m o with
  | some (m',x,ms)=>some (m',x,ms.map fun i=>(i,p))
  | none=>none
def S.buildT (σ:S) (parts:List (Nat×Operand)):(n j:Nat)→(t:Ty)→Md→Lab→Option (Md×t.D×List (Nat×Lab))
 | 0,_,_,_,_=>none
 | 1,j,t,m,p=>σ.partT parts j t m p
 | n+2,j,.pair a b,m,p=>match σ.partT parts j a m.fst (p++[0]),S.buildT σ parts (n+1) (j+1) b m.snd (p++[1]) with
  | some (m1,x,l1),some (m2,y,l2)=>some (.mk2 m1 m2,(x,y),l1++l2)
  | _,_=>none
 | _+2,_,_,_,_=>none
def aW (w:World) (own:Own) (t:Ty) (m:Md) (p:Lab) (cs:List Value) (x:t.D) (l:List (Nat×Lab)):Prop:=∀ (w':World) (own':Own),(∀ b,own b=none→b<w.heap.size→own' b=none∧b<w'.heap.size∧w'.heap[b]?=w.heap[b]?) →
 (∀ q∈l,∀ b s,own b=some (2 * q.1::s)→own' b=some (q.2++s)∧w'.heap[b]?=w.heap[b]?)→RepO w' own' t m p cs x
section
variable {w0:World} {G0:Gh} {np:Nat} {σ:S} {a:Act} {w:World} {G:Gh} (h:Rel w0 G0 np σ a w G)
include h
theorem TH {parts:List (Nat×Operand)} {j:Nat} {t:Ty} {m m':Md} {p:Lab} {x:t.D} {l:List (Nat×Lab)} (hp:σ.partT parts j t m p=some (m',x,l)):
 (EX a.eval parts t j).length=t.sz∧(∀ q∈l,Lab.le p q.2)∧aW w G.own t m' p (EX a.eval parts t j) x l:=by
 unfold S.partT at hp;unfold EX;split at hp
 ·rename_i hf;simp only [Option.some.injEq,Prod.mk.injEq] at hp;obtain⟨rfl,rfl,rfl⟩:=hp;simp only [hf];exact⟨Ty.zc_len t,(by simp),fun w' own' _ _=>RepO.zero t _ _⟩
 ·rename_i o hf;simp only [hf];split at hp
  ·rename_i m2 x2 ms htk;simp only [Option.some.injEq,Prod.mk.injEq] at hp;obtain⟨rfl,rfl,rfl⟩:=hp;obtain⟨_,cs,hval,hT⟩:=h.take htk;rw [hval.cells hT.2.1];refine⟨hT.1,fun q hq=>?_,fun w' own' hn hm=>hT.2.2 p w' own' hn (fun i hi b s hb=>?_)⟩
   ·obtain⟨i,_,rfl⟩:=List.mem_map.1 hq;exact Lab.le_refl p
   ·exact hm (i,p) (List.mem_map.2 ⟨i,hi,rfl⟩) b s hb
  ·cases hp
theorem Qv {parts:List (Nat×Operand)}:∀ (n j:Nat) {t:Ty} {m m':Md} {p:Lab} {x:t.D} {l:List (Nat×Lab)},σ.buildT parts n j t m p=some (m',x,l) →
 ∃ css:List (List Value),css.length=n∧(∀ i,i<n→∃ ti,(Bp n t)[i]?=some ti∧css[i]?=some (EX a.eval parts ti (j+i))∧(EX a.eval parts ti (j+i)).length=ti.sz)∧(∀ q∈l,Lab.le p q.2)∧aW w G.own t m' p css.flatten x l
 | 0,_,_,_,_,_,_,_,hb=>by simp [S.buildT] at hb
 | 1,j,t,m,m',p,x,l,hb=>by
  simp only [S.buildT] at hb;obtain⟨e1,e2,e3⟩:=TH h hb;refine⟨[EX a.eval parts t j],rfl,fun i hi=>?_,e2,by simpa using e3⟩
  have:i=0:=by omega
  subst this;exact⟨t,rfl,rfl,e1⟩
 | n+2,j,t,m,m',p,x,l,hb=>by
  cases t<;>simp only [S.buildT,reduceCtorEq] at hb
  rename_i ta tb;split at hb
  ·rename_i m1 x1 l1 m2 y1 l2 h1 h2;simp only [Option.some.injEq,Prod.mk.injEq] at hb;obtain⟨rfl,rfl,rfl⟩:=hb;obtain⟨e1,e2,e3⟩:=TH h h1;obtain⟨css,f1,f2,f3,f4⟩:=Qv (n+1) (j+1) h2;refine⟨EX a.eval parts ta j::css,by simp [f1],fun i hi=>?_,fun q hq=>?_,fun w' own' hn hm=>?_⟩
   ·cases i with
    | zero=>exact⟨ta,rfl,rfl,e1⟩
    | succ i=>
     obtain⟨ti,g1,g2,g3⟩:=f2 i (by omega);refine⟨ti,by simpa [Bp] using g1,?_,?_⟩
     ·rw [List.getElem?_cons_succ,g2];congr 2;omega
     ·rw [show j+(i+1)=j+1+i by omega];exact g3
   ·rcases List.mem_append.1 hq with hq | hq
    ·exact Lab.le_trans (Lab.le_app p [0]) (e2 q hq)
    ·exact Lab.le_trans (Lab.le_app p [1]) (f3 q hq)
   ·exact RepO.mk2 (e3 w' own' hn (fun q hq=>hm q (List.mem_append_left _ hq))) (f4 w' own' hn (fun q hq=>hm q (List.mem_append_right _ hq)))
  ·cases hb
theorem Wq {P:Program} {τ:List TE} (hτ:TabOk P τ) {d:Nat} (hd:d<σ.sl.length) {T:Nat} {te:TE} (he:tat τ T=some te) {parts:Array (Nat×Operand)} {m m':Md} {x:te.t.D} {l:List (Nat×Lab)}
 (hb:σ.buildT parts.toList te.k 0 te.t m [2 * d]=some (m',x,l)) (hn:(parts.toList.map (·.1)).Nodup) (hk:parts.toList.all (·.1<te.k)=true) (hln:(l.map (·.1)).Nodup) (hdl:d ∉ l.map (·.1)):
 ∃ cs G',(Instr.build T (parts.map fun(i,x)=>(i,a.eval x))).run P w=.ok (.agg cs) w∧Rel w0 G0 np (σ.newA d (.dat ⟨te.t,m',x⟩) (l.map (·.1))) (a.put (some d) (.agg cs)) w G'∧Ft w w G G' (2 * d::(l.map (·.1)).map (2 * ·)):=by
 obtain⟨css,c1,c2,c3,c4⟩:=Qv h te.k 0 hb;have hpos:0<te.k:=by
  rcases Nat.eq_zero_or_pos te.k with h0 | h0
  ·rw [h0] at hb;simp [S.buildT] at hb
  ·exact h0
 obtain⟨hrun,hisP⟩:=Qx hτ (a:=a) (w:=w) he c1 c2 hpos hn hk
 let own':=DD G.own l
 have hhead:∀ p∈l,∃ r s0,p.2=r::s0∧∀ p'∈l,r≠2 * p'.1:=by
  intro p hp;obtain⟨s,hs⟩:=c3 p hp;refine⟨2 * d,s,by simpa using hs,fun p' hp' e=>hdl ?_⟩
  have:d=p'.1:=by omega
  rw [this];exact List.mem_map.2 ⟨p',hp',rfl⟩
 refine⟨css.flatten.toArray,{ G with own:=own' },hrun,h.newA2 hd (own':=own') ⟨Nat.le_refl _,fun b hb hlt=>⟨(Di _).2 hb,rfl⟩,fun b r s hb hr=>⟨IG _ hb (fun p hp e=>hr ?_),rfl⟩,fun b hb=>⟨Jv _ hb,rfl⟩⟩ rfl rfl rfl (fun b l' hb=>?_) (by simp) (fun σ' tmps=>⟨css.flatten,?_,?_⟩)⟩
 ·rw [e];exact List.mem_cons_of_mem _ (List.mem_map.2 ⟨p.1,List.mem_map.2 ⟨p,hp,rfl⟩,rfl⟩)
 ·obtain⟨l2,hl2⟩:=Lb hb;exact h.live b l2 hl2
 ·show Val te.t (.agg css.flatten.toArray) css.flatten
  obtain⟨pa,pb,hp⟩:∃ pa pb,te.t=.pair pa pb:=by
   cases ht:te.t<;>rw [ht] at hisP<;>simp [Ty.isP] at hisP
   exact⟨_,_,rfl⟩
  rw [hp];rfl
 ·exact c4 w own' (fun b hb hlt=>⟨(Di _).2 hb,hlt,rfl⟩) (fun q hq b s hb=>⟨LN _ hb hq hln hhead,rfl⟩)
end
def S.toQ (σ:S) (i:Nat):Option S:=match σ.slot i with
 | .dat ⟨.list e t,.own m,x⟩=>some ((σ.killA [2 * i]).setSlot i (.que e t m (0:Int) x))
 | _=>none
theorem Rel.toQ {w0:World} {G0:Gh} {np:Nat} {σ σ':S} {a:Act} {w:World} {G:Gh} (h:Rel w0 G0 np σ a w G) {i:Nat} (hf:σ.toQ i=some σ'):∃ G',Rel w0 G0 np σ' a w G'∧Ft w w G G' [2 * i]:=by
 unfold S.toQ at hf;split at hf
 case h_2=>cases hf
 rename_i e t m x hs;obtain⟨rfl⟩:=hf;have hsl:=h.slots i
 rw [hs] at hsl;obtain⟨cs,e1,A,c,e2,hl,hr⟩:=hsl;have hi:i<σ.sl.length:=by
  rcases Nat.lt_or_ge i σ.sl.length with h | h
  ·exact h
  ·simp only [S.slot,List.getD_eq_getElem?_getD,List.getElem?_eq_none h] at hs;cases hs
 have hslot:∀ s,((σ.killA [2 * i]).setSlot i (.que e t m (0:Int) x)).slot s=if i=s then .que e t m (0:Int) x else (σ.slot s).kills [2 * i]:=fun s=>by
  rw [S.setSlot_slot,S.killA_len,S.killA_slot]
  by_cases e:i=s
  ·rw [if_pos ⟨e,hi⟩,if_pos e]
  ·rw [if_neg (fun h=>e h.1),if_neg e]
 refine⟨G,h.step2 [2 * i] (fun _ _=>⟨rfl,rfl,rfl,rfl⟩) (Chg.refl _ _ _) rfl rfl rfl h.live (fun _ _=>⟨rfl,rfl,rfl,rfl⟩) (by rw [S.setSlot_len,S.killA_len];exact h.tmps) h.defers (fun s=>?_) (fun k bx hb=>.inl ⟨hb,by simp;omega,rfl,rfl,rfl,rfl⟩) (fun k b d' hk _=>by simp at hk;omega) (fun s k hk=>?_)⟩
 ·rw [hslot s]
  by_cases es:i=s
  ·subst es;right;rw [if_pos rfl];refine⟨⟨A,c,?_,fun j hj _=>?_⟩,fun _=>by simp⟩
   ·have e1':cs=[a.tmps.getD i undef]:=e1
    rw [e1'] at e2;exact(List.cons.inj e2).1
   ·rcases hr with⟨_,hc⟩ | ⟨b,o,arr,rfl,ho,hh,hsz,hel⟩
    ·exact absurd (Nat.lt_of_lt_of_le hj (hc ▸ hl)) (Nat.not_lt_zero _)
    ·obtain⟨ci,hc1,hc2⟩:=hel j hj;refine⟨b,o,ci,rfl,ho,fun k hk=>?_,hc1⟩
     rw [Addr.add_add,Ao hh,← Nat.add_assoc];exact hc2 k hk
  ·rw [if_neg es];left;refine⟨⟨?_⟩,rfl⟩
   rw [hslot s,if_neg es];rcases AV.kills_or [2 * i] (σ.slot s) with k1 | k1
   ·exact .inl k1
   ·by_cases hn:σ.slot s=.none
    ·left;rw [k1,hn]
    ·exact .inr ⟨k1,AV.kills_all _ _ k1 hn,fun _=>by simp;omega⟩
 ·rw [hslot s] at hk
  by_cases e:i=s
  ·rw [if_pos e] at hk;cases hk
  ·rw [if_neg e] at hk;exact(h.slots s).hk (AV.kills_hk _ hk)
def S.popQ (σ:S) (d j e:Nat) (t:Ty) (m:Md) (xs:List t.D) (n:Int):S:=((σ.killA [2 * d,2 * j]).setSlot j (.que e t m (n+1) xs)).setSlot d (.pp t m (rd xs n t.zero) (2 * j))
theorem S.popQ_slot (σ:S) {d j:Nat} (e:Nat) (t:Ty) (m:Md) (xs:List t.D) (n:Int) (hd:d<σ.sl.length) (hj:j<σ.sl.length) (s:Nat):
 (σ.popQ d j e t m xs n).slot s=if d=s then .pp t m (rd xs n t.zero) (2 * j) else if j=s then .que e t m (n+1) xs else (σ.slot s).kills [2 * d,2 * j]:=by
 rw [S.popQ,S.setSlot_slot,S.setSlot_len,S.killA_len,S.setSlot_slot,S.killA_len,S.killA_slot]
 by_cases e1:d=s
 ·rw [if_pos ⟨e1,hd⟩,if_pos e1]
 ·rw [if_neg (fun h=>e1 h.1),if_neg e1]
  by_cases e2:j=s
  ·rw [if_pos ⟨e2,hj⟩,if_pos e2]
  ·rw [if_neg (fun h=>e2 h.1),if_neg e2]
theorem Rel.popQ {w0:World} {G0:Gh} {np:Nat} {σ:S} {a:Act} {w:World} {G:Gh} (h:Rel w0 G0 np σ a w G) {d j e:Nat} {t:Ty} {m:Md} {n0 n:Int} {xs:List t.D} (hs:σ.slot j=.que e t m n0 xs) (hd:d<σ.sl.length) (h0:0≤n) (hlt:n<(xs.length:Int)) (hn:n0≤n):
 ∃ A c,a.tmps.getD j undef=.slice (some A) xs.length c∧∃ G',Rel w0 G0 np (σ.popQ d j e t m xs n) (a.put (some d) (.pointer (some (A.add (n.toNat * t.sz))))) w G'∧Ft w w G G' [2 * d,2 * j]:=by
 have hjl:j<σ.sl.length:=by
  rcases Nat.lt_or_ge j σ.sl.length with h | h
  ·exact h
  ·simp only [S.slot,List.getD_eq_getElem?_getD,List.getElem?_eq_none h] at hs;cases hs
 have hsl:=h.slots j
 rw [hs] at hsl;obtain⟨A,c,e1,hel⟩:=hsl;have hnl:n.toNat<List.length xs:=by omega
 obtain⟨b,o,ci,rfl,ho,hca,hr⟩:=hel n.toNat hnl (by omega);refine⟨⟨b,o,none⟩,c,e1,?_⟩
 have ex:rd xs n t.zero=List.get xs ⟨n.toNat,hnl⟩:=by simp [rd,List.getD_eq_getElem?_getD,List.getElem?_eq_getElem hnl]
 let own':=Bb G.own [2 * j,n.toNat] [2 * d]
 have hO2:∀ b,G.own b=none→own' b=none:=fun b hb=>BO.2 hb
 have hda:d<a.tmps.size:=by rw [← h.tmps];exact hd
 have hslot:=S.popQ_slot σ e t m xs n hd hjl
 have hlen:(σ.popQ d j e t m xs n).sl.length=σ.sl.length:=by rw [S.popQ,S.setSlot_len,S.setSlot_len,S.killA_len]
 have hbo:own' b=some [2 * j]:=BN ho (fun⟨s,hs⟩=>by simp at hs)
 refine⟨{ G with own:=own' },h.step2 [2 * d,2 * j] (fun _ _=>⟨rfl,rfl,rfl,rfl⟩) ⟨Nat.le_refl _,fun b hb _=>⟨hO2 b hb,rfl⟩,fun b r s hb hr=>⟨BN hb (fun⟨s',e⟩=>?_),rfl⟩,fun b hb=>⟨Cg hb (by simp),rfl⟩⟩ rfl rfl rfl (fun b l hb=>?_) (fun _ _=>⟨rfl,rfl,rfl,rfl⟩) (by rw [hlen];simp [Act.put,h.tmps]) h.defers (fun s=>?_) (fun k bx hb=>.inl ⟨hb,by simp;omega,rfl,rfl,rfl,rfl⟩) (fun k b d' hk _=>by simp at hk;omega) (fun s k hk=>?_)⟩
 ·simp at e hr;exact hr.2 e.1
 ·obtain⟨l',hl'⟩:=Cx hb;exact h.live b l' hl'
 ·rw [hslot s]
  by_cases e2:d=s
  ·subst e2;right;rw [if_pos rfl,Act.put_getD _ _ _ _ hda,if_pos rfl];refine⟨⟨_,ci,rfl,⟨[],by rw [Addr.add_block];exact hbo⟩,hca,?_⟩,fun _=>by simp⟩
   rw [ex];exact RepO.move (fun b h1 h2=>⟨hO2 b h1,h2,rfl⟩) hr (fun b s hb=>⟨DU hb,rfl⟩)
  ·rw [if_neg e2]
   by_cases e3:j=s
   ·subst e3;right;rw [if_pos rfl,Act.put_getD _ _ _ _ hda,if_neg e2];refine⟨⟨some ⟨b,o,none⟩,c,e1,fun k hk hnk=>?_⟩,fun _=>by simp⟩
    obtain⟨b2,o2,ci2,q1,q2,q3,q4⟩:=hel k hk (by omega);refine⟨b2,o2,ci2,q1,BN q2 (fun⟨s,hs⟩=>by simp at hs),q3,?_⟩
    refine RepO.move (fun b h1 h2=>⟨hO2 b h1,h2,rfl⟩) q4 (fun b s hb=>⟨BN hb (fun⟨s',hs'⟩=>?_),rfl⟩)
    simp at hs';omega
   ·rw [if_neg e3];left;refine⟨⟨?_⟩,by rw [Act.put_getD _ _ _ _ hda,if_neg e2]⟩
    rw [hslot s,if_neg e2,if_neg e3];rcases AV.kills_or [2 * d,2 * j] (σ.slot s) with k1 | k1
    ·exact .inl k1
    ·by_cases hn:σ.slot s=.none
     ·left;rw [k1,hn]
     ·exact .inr ⟨k1,AV.kills_all _ _ k1 hn,fun _=>by simp;omega⟩
 ·rw [hslot s] at hk
  by_cases e2:d=s
  ·rw [if_pos e2] at hk;cases hk
  ·rw [if_neg e2] at hk
   by_cases e3:j=s
   ·rw [if_pos e3] at hk;cases hk
   ·rw [if_neg e3] at hk;exact(h.slots s).hk (AV.kills_hk _ hk)
theorem Rel.loadP {w0:World} {G0:Gh} {np:Nat} {σ:S} {a:Act} {w:World} {G:Gh} (h:Rel w0 G0 np σ a w G) {d i r:Nat} {t:Ty} {m:Md} {x:t.D} (hs:σ.slot i=.pp t m x r) (hd:d<σ.sl.length) (hm:m.full=true):
 ∃ A ci,a.tmps.getD i undef=.pointer (some A)∧CellsAt w A ci∧RepV w (fun _=>True) t ci x∧∀ u,Val t u ci→∃ G',Rel w0 G0 np (σ.newA d (.dat ⟨t,m,x⟩) [i]) (a.put (some d) u) w G'∧Ft w w G G' (2 * d::[i].map (2 * ·)):=by
 have hsl:=h.slots i
 rw [hs] at hsl;obtain⟨A,ci,e1,_,hca,hr⟩:=hsl;refine⟨A,ci,e1,hca,RepO.view (fun _ _ _=>trivial) hm hr (fun _ _ _=>trivial),fun u hu=>?_⟩
 let own':=Bb G.own [2 * i] [2 * d]
 have hO2:∀ b,G.own b=none→own' b=none:=fun b hb=>BO.2 hb
 refine⟨{ G with own:=own' },h.newA2 hd (own':=own') (ms:=[i]) ⟨Nat.le_refl _,fun b hb _=>⟨hO2 b hb,rfl⟩,fun b r s hb hr=>⟨BN hb (fun⟨s',e⟩=>?_),rfl⟩,fun b hb=>⟨Cg hb (by simp),rfl⟩⟩ rfl rfl rfl (fun b l hb=>?_) (by simp) (fun σ' tmps=>⟨ci,hu,RepO.move (fun b h1 h2=>⟨hO2 b h1,h2,rfl⟩) hr (fun b s hb=>⟨DU hb,rfl⟩)⟩)⟩
 ·simp at e hr;exact hr.2 e.1
 ·obtain⟨l',hl'⟩:=Cx hb;exact h.live b l' hl'
def Ol:Path→(t:Ty)→t.D→(t1:Ty)→t1.D→Option t.D
 | [],t,_,t1,y=>if h:t1=t then some (h ▸ y) else none
 | .f::π,.pair a _,x,t1,y=>(Ol π a x.1 t1 y).map fun z=>(z,x.2)
 | .s::π,.pair _ b,x,t1,y=>(Ol π b x.2 t1 y).map fun z=>(x.1,z)
 | _,_,_,_,_=>none
def Pln:(t:Ty)→List Value→t.D→Prop
 | .int k,cs,x=>cs=[.int k x]
 | .bool,cs,x=>cs=[.bool x]
 | .str,cs,x=>cs=[.string x]
 | .list _ _,cs,x=>cs=[.slice none 0 0]∧x=[]
 | .pair a b,cs,x=>∃ c1 c2,cs=c1++c2∧Pln a c1 x.1∧Pln b c2 x.2
theorem Pln.len:∀ {t:Ty} {cs:List Value} {x:t.D},Pln t cs x→cs.length=t.sz
 | .int _,_,_,h=>by simp only [Pln] at h;subst h;rfl
 | .bool,_,_,h=>by simp only [Pln] at h;subst h;rfl
 | .str,_,_,h=>by simp only [Pln] at h;subst h;rfl
 | .list _ _,_,_,h=>by simp only [Pln] at h;rw [h.1];rfl
 | .pair a b,_,_,h=>by
  obtain⟨c1,c2,rfl,h1,h2⟩:=h;rw [List.length_append,h1.len,h2.len];rfl
theorem Pln.O:∀ {t:Ty} {cs:List Value} {x:t.D},Pln t cs x→∀ (w:World) (own:Own) (m:Md) (lab:Lab),RepO w own t m lab cs x
 | .int _,_,_,h=>fun _ _ _ _=>h
 | .bool,_,_,h=>fun _ _ _ _=>h
 | .str,_,_,h=>fun _ _ _ _=>h
 | .list _ _,_,_,h=>fun _ _ m lab=>by
  obtain⟨rfl,rfl⟩:=h;exact RepO.nil m lab
 | .pair a b,_,_,h=>fun w own m lab=>by
  obtain⟨c1,c2,e,h1,h2⟩:=h;exact⟨c1,c2,e,h1.O w own _ _,h2.O w own _ _⟩
theorem Pln.zero:∀ (t:Ty),Pln t t.zc t.zero
 | .int _=>rfl
 | .bool=>rfl
 | .str=>rfl
 | .list _ _=>⟨rfl,rfl⟩
 | .pair a b=>⟨a.zc,b.zc,rfl,Pln.zero a,Pln.zero b⟩
theorem Pln.set:∀ (π:Path) {t:Ty} {cs:List Value} {x x':t.D} {r:Nat} {t1:Ty} {v:Value} {y:t1.D},Pln t cs x→Ag π t=some (r,t1)→t1.sz=1→Pln t1 [v] y→Ol π t x t1 y=some x'→Pln t (cs.set r v) x'
 | [],t,cs,x,x',r,t1,v,y,h,hs,h1,hv,hx=>by
  simp only [Ag,Option.some.injEq,Prod.mk.injEq] at hs;obtain⟨rfl,rfl⟩:=hs;simp only [Ol,dif_pos,Option.some.injEq] at hx;subst hx;have hl:=h.len
  rw [h1] at hl
  match cs,hl with
  | [c],_=>exact hv
 | .f::π,.pair a b,cs,x,x',r,t1,v,y,h,hs,h1,hv,hx=>by
  simp only [Ag] at hs;simp only [Ol,Option.map_eq_some_iff] at hx;obtain⟨z,hz,rfl⟩:=hx;have hr:=(Dj π hs).2
  obtain⟨c1,c2,rfl,p1,p2⟩:=h;refine⟨c1.set r v,c2,?_,Pln.set π p1 hs h1 hv hz,p2⟩
  simp only at hr;rw [List.set_append_left _ _ (by rw [p1.len];omega)]
 | .s::π,.pair a b,cs,x,x',r,t1,v,y,h,hs,h1,hv,hx=>by
  simp only [Ag,Option.map_eq_some_iff] at hs;obtain⟨⟨r1,t2⟩,hs1,hs2⟩:=hs;simp only [Prod.mk.injEq] at hs2;obtain⟨rfl,rfl⟩:=hs2;simp only [Ol,Option.map_eq_some_iff] at hx;obtain⟨z,hz,rfl⟩:=hx;obtain⟨c1,c2,rfl,p1,p2⟩:=h;refine⟨c1,c2.set r1 v,?_,p1,Pln.set π p2 hs1 h1 hv hz⟩
  rw [List.set_append_right _ _ (by rw [p1.len];omega),p1.len];simp
 | .i _::_,.int _,_,_,_,_,_,_,_,_,h,_,_,_=>by simp [Ag] at h
 | .i _::_,.bool,_,_,_,_,_,_,_,_,h,_,_,_=>by simp [Ag] at h
 | .i _::_,.str,_,_,_,_,_,_,_,_,h,_,_,_=>by simp [Ag] at h
 | .i _::_,.pair _ _,_,_,_,_,_,_,_,_,h,_,_,_=>by simp [Ag] at h
 | .i _::_,.list _ _,_,_,_,_,_,_,_,_,h,_,_,_=>by simp [Ag] at h
 | .f::_,.int _,_,_,_,_,_,_,_,_,h,_,_,_=>by simp [Ag] at h
 | .f::_,.bool,_,_,_,_,_,_,_,_,h,_,_,_=>by simp [Ag] at h
 | .f::_,.str,_,_,_,_,_,_,_,_,h,_,_,_=>by simp [Ag] at h
 | .f::_,.list _ _,_,_,_,_,_,_,_,_,h,_,_,_=>by simp [Ag] at h
 | .s::_,.int _,_,_,_,_,_,_,_,_,h,_,_,_=>by simp [Ag] at h
 | .s::_,.bool,_,_,_,_,_,_,_,_,h,_,_,_=>by simp [Ag] at h
 | .s::_,.str,_,_,_,_,_,_,_,_,h,_,_,_=>by simp [Ag] at h
 | .s::_,.list _ _,_,_,_,_,_,_,_,_,h,_,_,_=>by simp [Ag] at h
theorem RQ {α β:Type} {g:α→Option β}:∀ {l:List α},(∀ x∈l,∃ y,g x=some y)→∃ ys:List β,l.mapM g=some ys∧∀ i:Nat,ys[i]?=(l[i]?).bind g
 | [],_=>⟨[],rfl,fun i=>by simp⟩
 | x::l,h=>by
  obtain⟨y,hy⟩:=h x (by simp);obtain⟨ys,h1,h2⟩:=RQ (l:=l) fun x hx=>h x (by simp [hx])
  refine⟨y::ys,by simp [List.mapM_cons,hy,h1],fun i=>?_⟩
  cases i with
  | zero=>simp [hy]
  | succ i=>simpa using h2 i
section
variable {P:Program} {τ:List TE} (hτ:TabOk P τ)
include hτ
theorem RK {T:Nat} {te:TE} (he:hat τ T=some te) (hk:te.k=0) {w:World} {A:Addr} {v:Value} (hc:w.cell? A=some v):(Instr.loadAt T (.pointer (some A))).run P w=.ok v w:=by
 obtain⟨t,ht⟩:=(hτ.hd _ _ he).1.ptr hk;rw [(hτ.hd _ _ he).2] at ht;simp only [Instr.loadAt,Instr.sureAddr,loadVar,isAgg,Sem.run_bind,run_underlying ht,Result.andThen,Sem.run_pure,Bool.false_eq_true,if_false,run_load,hc]
theorem Nv {T:Nat} {te:TE} (he:hat τ T=some te) (hk:0<te.k) {w:World} {A:Addr}:(Instr.fieldAt T (.pointer (some A)) 0).run P w=.ok (.pointer (some A)) w:=by
 obtain⟨fs,f0,h1,h2,h3,h4,⟨i,h5,h6⟩,_⟩:=(hτ.hd _ _ he).1.str hk;rw [(hτ.hd _ _ he).2] at h1;simp [Instr.fieldAt,run_underlying h1,h3,Instr.sureAddr,fieldPlace,sizeOf,typeInfo,h5,h6,Result.andThen,h4,Addr.add_zero]
theorem PP {T j:Nat} {te:TE} (he:hat τ T=some te) (hk:j<te.k) {w:World} {A:Addr} {r:Nat×Ty} (hr:Ag (BB te.k j) te.t=some r):(Instr.fieldAt T (.pointer (some A)) (j+1)).run P w=.ok (.pointer (some (A.add (r.1+1)))) w:=by
 obtain⟨fs,f0,h1,h2,h3,h4,_,h5,_⟩:=(hτ.hd _ _ he).1.str (by omega);rw [(hτ.hd _ _ he).2] at h1;have hlt:j+1<fs.size:=by omega
 obtain⟨te',r',h6,h7,h8⟩:=h5 j fs[j+1] (by simp [hlt]);rw [hr] at h7;simp only [Option.some.injEq] at h7;subst h7;have hs:=hτ.size h6 w
 have hpos:=Ty.sz_pos te'.t
 have e:fs[j+1]?=some fs[j+1]:=by simp [hlt]
 simp [Instr.fieldAt,run_underlying h1,e,Instr.sureAddr,fieldPlace,hs,Result.andThen,Nat.ne_of_gt hpos,h8]
theorem Vv {T j:Nat} {te:TE} (he:hat τ T=some te) (hk:j<te.k) {w:World} {r:Nat} {t1:Ty} (hr:Ag (BB te.k j) te.t=some (r,t1)) (h1:t1.sz=1) {v0 v1:Value} (c0:v0.cells = #[v0]) (c1:v1.cells = #[v1]) {parts:Array (Nat×Value)} (hp:parts.toList=[(0,v0),(j+1,v1)]):
 (Instr.build T parts).run P w=.ok (.agg (v0::te.t.zc.set r v1).toArray) w:=by
 obtain⟨fs,f0,q1,q2,q3,q4,⟨i0,q5,q6⟩,q7,i,z0,z,q8,q9,q10⟩:=(hτ.hd _ _ he).1.str (by omega);rw [(hτ.hd _ _ he).2] at q1 q8;have hall:∀ f∈fs.toList,∃ y,(P.info? f.type).map (fun i=>(f.offset,i.size))=some y:=by
  intro f hf;obtain⟨n,hn,rfl⟩:=List.mem_iff_getElem.1 hf;cases n with
  | zero=>
   have:fs.toList[0]=f0:=by
    have:fs.toList[0]?=some f0:=by simpa using q3
    rw [List.getElem?_eq_getElem hn] at this;exact Option.some.inj this
   rw [this,q5];exact⟨_,rfl⟩
  | succ n=>
   obtain⟨te',r',g1,_,_⟩:=q7 n fs.toList[n+1] (by have:=List.getElem?_eq_getElem hn;simpa using this);obtain⟨⟨⟨it,zt,g4,_⟩,_⟩,g5⟩:=hτ _ _ g1;rw [g5] at g4;rw [g4];exact⟨_,rfl⟩
 obtain⟨pl,m1,m2⟩:=RQ hall;have p0:pl[0]?=some (0,1):=by
  have e:fs.toList[0]?=some f0:=by simpa using q3
  rw [m2,e];simp [q5,q6,q4]
 have pj:pl[j+1]?=some (r+1,1):=by
  have hlt:j+1<fs.size:=by omega
  have e:fs[j+1]?=some fs[j+1]:=by simp [hlt]
  obtain⟨te',r',g1,g2,g3⟩:=q7 j _ e;obtain⟨⟨⟨it,zt,g4,_,_,g6,_⟩,_⟩,g5⟩:=hτ _ _ g1;rw [g5] at g4;rw [hr] at g2;simp only [Option.some.injEq,Prod.mk.injEq] at g2;obtain⟨rfl,g8⟩:=g2;have e2:fs.toList[j+1]?=some fs[j+1]:=by simpa using e
  rw [m2,e2];simp [g4,g6,← g8,h1,g3]
 have hsz:r+1≤te.t.zc.length:=by
  have:=(Dj _ hr).2
  rw [Ty.zc_len];simp only at this;omega
 apply run_build
 have hzs:z=(z0::te.t.zc).toArray:=by rw [← q10]
 have hz1:z.size=te.t.zc.length+1:=by rw [hzs];simp
 simp only [Program.built,q8,q1,q9,m1,hp,Instr.fill,List.getElem?_toArray,p0,pj,c0,c1,show(Value.agg z).cells=z from rfl];rw [hzs];have a1:¬ (r+1+1 > te.t.zc.length+1):=by omega
 simp [List.zipIdx,a1]
end
section
variable {w0:World} {G0:Gh} {np:Nat} {σ:S} {a:Act} {w:World} {G:Gh} (h:Rel w0 G0 np σ a w G)
include h
theorem Rel.headAt {k k' i:Nat} {v:Value} (hv:SlotR G σ a.tmps w i (.mp k k') v) {D:Dat} (hb:σ.box k=some (true,D)):∃ b o,v=.pointer (some ⟨b,o,none⟩)∧w.cell? ⟨b,o,none⟩=some (.pointer (some ⟨(G.bl k').1,(G.bl k').2,none⟩))∧G.bl k=(b,o+1):=by
 obtain⟨h1,h2,h3⟩:=hv;obtain⟨arr,e1,_,_,_,e5,_⟩:=h.boxes k _ hb;refine⟨(G.bl k).1,(G.bl k).2 - 1,h2,?_,by cases hg:G.bl k;rw [hg] at h1;simp only at h1 ⊢;congr 1;omega⟩
 have:=e5 ((G.bl k).2 - 1) (.inl (by omega))
 rw [← this] at h3;unfold World.cell?;simp only [e1];exact h3
theorem Rel.boxPtr {k':Nat} (hn:∀ D,σ.box k'≠some (false,D)) (i:Nat):SlotR G σ a.tmps w i (.ptr ⟨2 * k'+1,[]⟩) (.pointer (some ⟨(G.bl k').1,(G.bl k').2,none⟩)):=by
 intro d L cr hroot;have hroot1:RootR G σ a.tmps w (2 * k'+1) d L cr:=hroot
 rcases hroot1.box_inv rfl with⟨_,hL,_,_⟩ | ⟨hb,_,_⟩
 ·subst hL;exact⟨d,⟨(G.bl k').1,(G.bl k').2,none⟩,cr,rfl,by simp [Al],rfl⟩
 ·exact absurd hb (hn _)
theorem Rel.fieldPtr {k:Nat} {D:Dat} (hb:σ.box k=some (true,D)) {π:Path} {r:Nat×Ty} (hr:Ag π D.t=some r) (i:Nat):SlotR G σ a.tmps w i (.ptr ⟨2 * k+1,π⟩) (.pointer (some ((⟨(G.bl k).1,(G.bl k).2,none⟩:Addr).add r.1))):=by
 intro d L cr hroot;have hroot1:RootR G σ a.tmps w (2 * k+1) d L cr:=hroot
 have hR:=h.root hroot1
 rcases hroot1.box_inv rfl with⟨hb',hL,_,_⟩ | ⟨hb',_,_⟩
 ·rw [hb] at hb';simp only [Option.some.injEq,Prod.mk.injEq,true_and] at hb';subst hb' hL;obtain⟨m',y,k1,_,k3,_,_⟩:=FK (w:=w) (ok:=fun _=>True) π D.m D.x (some ⟨(G.bl k).1,(G.bl k).2,none⟩) cr hr (RepO.len hR.1);exact⟨_,_,_,k1,k3,rfl⟩
 ·rw [hb] at hb';cases hb'
end
theorem RepO.roFlat {w w':World} {own own':Own} {t:Ty} {p q:Lab} {cs:List Value} {x:t.D} (hf:t.flat=true) (h:RepO w own t .ro p cs x):RepO w' own' t .ro q cs x:=
 RepO.ofV (RepV.flat hf (RepO.noOwn (m:=.ro) rfl h))
theorem below {w w2:World} {own own2:Own} {ρ p0:Lab} (O1:∀ b l,own b=some l→Lab.le p0 l→¬ Lab.le ρ l→own2 b=some l∧w2.heap[b]?=w.heap[b]?) (O2:∀ b,own b=none→b<w.heap.size→own2 b=none∧b<w2.heap.size∧w2.heap[b]?=w.heap[b]?):
 ∀ (π:Path) {t:Ty} {m:Md} {p:Lab} {cs cs':List Value} {x:t.D} {L L':Option Addr} {d0:Dat},
 Lab.le p0 p→RepO w own t m p cs x→AH π t m x=some d0→Al w π t L cs=some (L',cs')→ρ=p++π.lab→RepO w2 own2 d0.t d0.m ρ cs' d0.x→RepO w2 own2 t m p cs x
 | [],t,m,p,cs,cs',x,L,L',d0,hp,hr,hg,hl,hρ,hd=>by
  simp only [AH,Option.some.injEq] at hg;subst hg;simp only [Al,Option.some.injEq,Prod.mk.injEq] at hl;obtain⟨rfl,rfl⟩:=hl;simp only [Path.lab,List.map_nil,List.append_nil] at hρ;subst hρ;exact hd
 | .f::π,.pair a b,m,p,cs,cs',x,L,L',d0,hp,hr,hg,hl,hρ,hd=>by
  obtain⟨c1,c2,rfl,h1,h2⟩:=hr;have e:(c1++c2).take a.sz=c1:=by rw [← RepO.len h1];simp
  simp only [Al,e] at hl;simp only [AH] at hg;have hρ':ρ=(p++[0])++Path.lab π:=by rw [hρ];simp [Path.lab,St.lab]
  have g1:=below O1 O2 π (Lab.le_trans hp (Lab.le_app _ _)) h1 hg hl hρ' hd
  refine⟨c1,c2,rfl,g1,RepO.move (q:=p++[1]) (fun b h1 h2=>O2 b h1 h2) h2 (fun b s hb=>?_)⟩
  have hb':own b=some (p++1::s):=by rw [hb];simp
  have np:¬ Lab.le ρ (p++1::s):=by
   rw [hρ',show(p++[0])++Path.lab π=p++0::Path.lab π by simp];exact Lab.part (by omega) _ _
  obtain⟨y1,y2⟩:=O1 b _ hb' (Lab.le_trans hp (Lab.le_app _ _)) np;exact⟨by simpa using y1,y2⟩
 | .s::π,.pair a b,m,p,cs,cs',x,L,L',d0,hp,hr,hg,hl,hρ,hd=>by
  obtain⟨c1,c2,rfl,h1,h2⟩:=hr;have e:(c1++c2).drop a.sz=c2:=by rw [← RepO.len h1];simp
  simp only [Al,e] at hl;simp only [AH] at hg;have hρ':ρ=(p++[1])++Path.lab π:=by rw [hρ];simp [Path.lab,St.lab]
  have g1:=below O1 O2 π (Lab.le_trans hp (Lab.le_app _ _)) h2 hg hl hρ' hd
  refine⟨c1,c2,rfl,RepO.move (q:=p++[0]) (fun b h1 h2=>O2 b h1 h2) h1 (fun b s hb=>?_),g1⟩
  have hb':own b=some (p++0::s):=by rw [hb];simp
  have np:¬ Lab.le ρ (p++0::s):=by
   rw [hρ',show(p++[1])++Path.lab π=p++1::Path.lab π by simp];exact Lab.part (by omega) _ _
  obtain⟨y1,y2⟩:=O1 b _ hb' (Lab.le_trans hp (Lab.le_app _ _)) np;exact⟨by simpa using y1,y2⟩
 | .i n::π,.list e t,.own m,p,cs,cs',x,L,L',d0,hp,hr,hg,hl,hρ,hd=>by
  simp only [AH] at hg;split at hg
  ·rename_i h0;split at hg
   ·rename_i hn;obtain⟨A,c,rfl,hle,hr⟩:=hr;have hlt:n.toNat<List.length x:=by omega
    rcases hr with⟨_,rfl⟩ | ⟨b,o,arr,rfl,ho,hh,hs',hi⟩
    ·omega
    ·have hρ':ρ=(p++[n.toNat])++Path.lab π:=by rw [hρ];simp [Path.lab,St.lab]
     have ex:rd x n t.zero=List.get x ⟨n.toNat,hlt⟩:=by simp [rd,List.getD_eq_getElem?_getD,List.getElem?_eq_getElem hlt]
     obtain⟨z1,z2⟩:=O1 b p ho hp (fun hle2=>by
      have:=Lab.le_len hle2
      rw [hρ'] at this;simp at this;omega)
     refine⟨_,c,rfl,hle,.inr ⟨b,o,arr,rfl,z1,by rw [z2];exact hh,hs',fun i hi2=>?_⟩⟩
     obtain⟨ci,hc1,hc2⟩:=hi i hi2;refine⟨ci,?_,hc2⟩
     by_cases hin:i=n.toNat
     ·subst hin;have hca:CellsAt w ((⟨b,o,none⟩:Addr).add (n.toNat * t.sz)) ci:=by
       intro j hj;rw [Addr.add_add,Ao hh,← Nat.add_assoc];exact hc2 j hj
      simp only [Al] at hl;rw [← RepO.len hc1,GY (by rw [RepO.len hc1];exact hca),RepO.len hc1] at hl;rw [ex] at hg;exact below O1 O2 π (Lab.le_trans hp (Lab.le_app _ _)) hc1 hg hl hρ' hd
     ·refine RepO.move (fun b h1 h2=>O2 b h1 h2) hc1 (fun b s hb=>?_)
      have hb':own b=some (p++i::s):=by rw [hb];simp
      have np:¬ Lab.le ρ (p++i::s):=by
       rw [hρ',show(p++[n.toNat])++Path.lab π=p++n.toNat::Path.lab π by simp];exact Lab.part (Ne.symm hin) _ _
      obtain⟨y1,y2⟩:=O1 b _ hb' (Lab.le_trans hp (Lab.le_app _ _)) np;exact⟨by simpa using y1,y2⟩
   ·simp at hg
  ·simp at hg
 | .f::_,.int _,_,_,_,_,_,_,_,_,_,_,hg,_,_,_=>by simp [AH] at hg
 | .f::_,.bool,_,_,_,_,_,_,_,_,_,_,hg,_,_,_=>by simp [AH] at hg
 | .f::_,.str,_,_,_,_,_,_,_,_,_,_,hg,_,_,_=>by simp [AH] at hg
 | .f::_,.list _ _,_,_,_,_,_,_,_,_,_,_,hg,_,_,_=>by simp [AH] at hg
 | .s::_,.int _,_,_,_,_,_,_,_,_,_,_,hg,_,_,_=>by simp [AH] at hg
 | .s::_,.bool,_,_,_,_,_,_,_,_,_,_,hg,_,_,_=>by simp [AH] at hg
 | .s::_,.str,_,_,_,_,_,_,_,_,_,_,hg,_,_,_=>by simp [AH] at hg
 | .s::_,.list _ _,_,_,_,_,_,_,_,_,_,_,hg,_,_,_=>by simp [AH] at hg
 | .i _::_,.int _,_,_,_,_,_,_,_,_,_,_,hg,_,_,_=>by simp [AH] at hg
 | .i _::_,.bool,_,_,_,_,_,_,_,_,_,_,hg,_,_,_=>by simp [AH] at hg
 | .i _::_,.str,_,_,_,_,_,_,_,_,_,_,hg,_,_,_=>by simp [AH] at hg
 | .i _::_,.pair _ _,_,_,_,_,_,_,_,_,_,_,hg,_,_,_=>by simp [AH] at hg
 | .i _::_,.list _ _,.ro,_,_,_,_,_,_,_,_,_,hg,_,_,_=>by simp [AH] at hg
 | .i _::_,.list _ _,.hole,_,_,_,_,_,_,_,_,_,hg,_,_,_=>by simp [AH] at hg
 | .i _::_,.list _ _,.pr _ _,_,_,_,_,_,_,_,_,_,hg,_,_,_=>by simp [AH] at hg
theorem Rel.below {w0 w w':World} {G0 G:Gh} {np:Nat} {σ:S} {a:Act} (h:Rel w0 G0 np σ a w G) {p:Place} {d d0:Dat} {own':Own} {L L':Option Addr} {cr cs':List Value} (hroot:RootR G σ a.tmps w p.root d L cr) (hg:AH p.path d.t d.m d.x=some d0) (hl:Al w p.path d.t L cr=some (L',cs'))
 (hos:w'.os=w.os) (htape:w'.tape=w.tape) (hout:w'.output=w.output) (hsize:w.heap.size≤w'.heap.size) (hsame:∀ b,b<w.heap.size→own' b=G.own b)
 (hheap:∀ b,G.own b≠some (Ai p.root++p.path.lab)→b<w.heap.size→w'.heap[b]?=w.heap[b]?) (hlive:∀ b l,own' b=some l→b<w'.heap.size)
 (hR:RepO w' own' d0.t d0.m (Ai p.root++p.path.lab) cs' d0.x):Rel w0 G0 np (σ.killA [p.root]) a w' { G with own:=own' }∧Ft w w' G { G with own:=own' } [p.root]:=by
 have hlt:∀ b l,G.own b=some l→b<w.heap.size:=h.live
 obtain⟨s0,e0⟩:=Bi p.root;have hR':RepO w' own' d.t d.m (Ai p.root) cr d.x:=Go.Proofs.YtmakhmoielhjeaaGreatDoorE.below (p0:=Ai p.root) (fun b l hb _ hn=>by
  refine⟨by rw [hsame b (hlt b l hb)];exact hb,hheap b (fun e=>hn ?_) (hlt b l hb)⟩
  rw [hb] at e;rw [← Option.some.inj e];exact Lab.le_refl _) (fun b hb hlt=>⟨by rw [hsame b hlt];exact hb,by omega,hheap b (by rw [hb];simp) hlt⟩) p.path (Lab.le_refl _) (h.root hroot).1 hg hl rfl hR
 refine h.step2 [p.root] (fun _ _=>⟨rfl,rfl,rfl,rfl⟩) ⟨hsize,fun b hb hlt=>⟨(hsame b hlt).trans hb,hheap b (by rw [hb];simp) hlt⟩,fun b r s hb hr=>?_,fun b hb=>⟨(hsame b (hlt b _ hb)).trans hb,hheap b (by rw [hb,e0];simp) (hlt b _ hb)⟩⟩ hos htape hout hlive (fun _ _=>⟨rfl,rfl,rfl,rfl⟩) (by rw [S.killA_len];exact h.tmps) h.defers (fun j=>?_) (fun k bx hb=>?_) (fun k b d1 hk hb=>?_) (fun j k hj=>?_)
 ·refine⟨(hsame b (hlt b _ hb)).trans hb,hheap b (fun e=>?_) (hlt b _ hb)⟩
  rw [hb,e0] at e;simp at e;simp [e.1] at hr
 ·rw [S.killA_slot]
  by_cases e2:p.root=2 * j
  ·obtain⟨hs,_,hv'⟩:=hroot.slot_inv e2;right;rw [hs,AV.kills_dat _ rfl];refine⟨⟨cr,hv',?_⟩,fun _=>by simp [e2]⟩
   rw [Ai,if_pos (by omega),e2] at hR';exact hR'
  ·left;refine⟨⟨?_⟩,rfl⟩
   rw [S.killA_slot];rcases AV.kills_or [p.root] (σ.slot j) with k1 | k1
   ·exact .inl k1
   ·by_cases hn:σ.slot j=.none
    ·left;rw [k1,hn]
    ·exact .inr ⟨k1,AV.kills_all _ _ k1 hn,fun _=>by simp;exact fun h=>e2 h.symm⟩
 ·rw [S.killA_box] at hb
  by_cases e:p.root=2 * k+1
  ·right;refine⟨?_,by simp [e]⟩
   have hB:=h.boxes k _ hb
   have e1:Ai p.root=[2 * k+1,0]:=by rw [Ai,if_neg (by omega),e]
   rw [e1] at hR';rcases hroot.box_inv e with⟨hb',hL',hl',hc'⟩ | ⟨hb',hL',hc'⟩
   ·rw [hb] at hb';simp only [Option.some.injEq] at hb';subst hb';obtain⟨arr,q1,q2,q3,q4,q5,csb,q6,q7⟩:=hB;have hne:w'.heap[(G.bl k).1]?=w.heap[(G.bl k).1]?:=hheap _ (fun e=>by
     rw [q2,e1] at e;have:=congrArg List.length (Option.some.inj e)
     simp at this) (hlt _ _ q2)
    refine⟨arr,hne.trans q1,(hsame _ (hlt _ _ q2)).trans q2,q3,q4,q5,cr,hR',fun j hj=>?_⟩
    have:=hc' j hj
    rwa [Ao q1] at this
   ·rw [hb] at hb';simp only [Option.some.injEq] at hb';subst hb';obtain⟨q1,q2⟩:=hB;rw [hc'] at hR';exact⟨q1,hR'⟩
  ·left;exact⟨hb,by simp;exact fun h=>e h.symm,rfl,rfl,rfl,rfl⟩
 ·have hk':p.root=2 * k+1:=by simp at hk;omega
  rw [S.killA_box] at hb;left;exact⟨d1,hb,rfl,rfl,rfl⟩
 ·rw [S.killA_slot] at hj;rw [S.killA_box];exact(h.slots j).hk (AV.kills_hk _ hj)
section
variable {P:Program} {τ:List TE} (hτ:TabOk P τ) {w0:World} {G0:Gh} {np:Nat} {σ:S} {a:Act} {w:World} {G:Gh} (h:Rel w0 G0 np σ a w G)
include hτ h
theorem Wi {T tx e e':Nat} {te tl:TE} (hT:tat τ T=some te) {t:Ty} (ht:te.t=.list e t) (htl:tat τ e=some tl) (hx:P.underlying tx=some (.slice e')) {xs ys:List t.D} {ρ:Lab} (hρ:ρ≠[]) {vs vx:Value} {css:List (List Value)} (hf:t.flat=true)
 (h0:RepO w G.own (.list e t) (.own .ro) ρ [vs] xs) (h1:Els w G.own t .ro ys none vx css) (hb:0<tl.by_) (hroom:(xs.length+ys.length) * tl.by_≤140737488355328) (ty:TypeId):
 ∃ w' v own',(Builtin.append_ #[T,tx] ty #[vs,vx]).run P w=.ok v w'∧w'.os=w.os∧w'.tape=w.tape∧w'.output=w.output∧w.heap.size≤w'.heap.size∧(∀ b,b<w.heap.size→own' b=G.own b) ∧
  (∀ b,G.own b≠some ρ→b<w.heap.size→w'.heap[b]?=w.heap[b]?)∧(∀ b l,own' b=some l→b<w'.heap.size) ∧
  RepO w' own' (.list e t) (.own .ro) ρ [vs] xs∧RepO w' own' (.list e t) (.own .ro) ρ [v] (xs++ys):=by
 obtain⟨hu,tl',htl',htt⟩:=hτ.slice hT ht;rw [htl] at htl';obtain⟨rfl⟩:=htl';obtain⟨⟨⟨it,z,hi,hz,hzv,hsz,hby,_⟩,_⟩,hid⟩:=hτ _ _ htl;rw [hid] at hi;have hsrc:=h1.src (P:=P) hx
 rw [htt] at hsz;obtain⟨A0,c0,hvs,hle0,hel0⟩:=id h0;obtain⟨rfl⟩:=List.cons.inj hvs;have hlt:∀ b l,G.own b=some l→b<w.heap.size:=h.live
 have hnew:∀ (w':World) (own':Own) (q:Lab) k (g1:k<ys.length) (g2:k<css.length),RepO w' own' t .ro q css[k] ys[k]:=fun w' own' q k g1 g2=>RepO.roFlat hf (h1.el q w G.own (fun b hb hlt=>⟨hb,hlt,rfl⟩) k g1 g2 (fun i hi=>by cases hi))
 have hy:List.length ys=0∨0<List.length ys:=Nat.eq_zero_or_pos _
 rcases hy with hy | hy
 ·-- nothing
  have hy':ys=[]:=List.eq_nil_of_length_eq_zero hy
  subst hy';have hc':css=[]:=List.eq_nil_of_length_eq_zero (by rw [h1.len];rfl)
  subst hc';have hrun:=run_append_nothing w T tx ty e it hu hi A0 (List.length xs) c0 hle0 vx (by rw [hsz];exact hsrc)
  exact⟨w,.slice A0 (List.length xs) c0,G.own,hrun,rfl,rfl,rfl,Nat.le_refl _,fun _ _=>rfl,fun _ _ _=>rfl,hlt,h0,by rw [List.append_nil];exact h0⟩
 ·by_cases hfit:List.length xs+List.length ys≤c0
  ·-- there is room
   rcases hel0 with⟨_,hc0⟩ | ⟨b,o,arr,f1,f2,f3,f4,f5⟩
   ·omega
   ·subst f1;have hnl:=hsrc.newsLen
    have hsp:(List.length xs+List.length ys) * t.sz≤c0 * t.sz:=Nat.mul_le_mul_right _ hfit
    rw [Nat.add_mul] at hsp;have hrun:=run_append_room_src w T tx ty e it hu hi b o (List.length xs) c0 vx (List.length ys) css.flatten (by rw [hsz];exact hsrc) hfit (fun j hj=>by
     have hlt:o+List.length xs * t.sz+j<arr.size:=by omega
     simp only [hsz,World.cell?,f3,Option.isSome_none,Bool.false_eq_true,if_false];rw [Array.getElem?_eq_getElem hlt];rfl) (fun j hj=>by
     simp only [World.frozen?,f3];simp)
    rw [hsz] at hrun;obtain⟨z1,z2,z3,z4,z5,arr2,y1,y2,y3,y4⟩:=Fo b css.flatten (o+List.length xs * t.sz) w arr e (0,0) f3 (by omega);have hold:∀ k (hk:k<List.length xs),∃ ci,RepO (w.setCells b (o+List.length xs * t.sz) css.flatten) G.own t .ro (ρ++[k]) ci (List.get xs ⟨k,hk⟩)∧∀ j (hj:j<ci.length),arr2[o+k * t.sz+j]?=some ci[j]:=fun k hk'=>by
     obtain⟨ci,g1,g2⟩:=f5 k hk';refine⟨ci,RepO.roFlat hf g1,fun j hj=>?_⟩
     rw [y3 _ (.inl ?_)]
     ·exact g2 j hj
     ·have hci:=RepO.len g1
      have:(k+1) * t.sz≤List.length xs * t.sz:=Nat.mul_le_mul_right _ hk'
      rw [Nat.add_mul,Nat.one_mul] at this;omega
    refine⟨_,.slice (some ⟨b,o,none⟩) (List.length xs+List.length ys) c0,G.own,hrun,z1,z2,z3,by rw [z4];exact Nat.le_refl _,fun _ _=>rfl,fun c hc _=>z5 c (fun e=>hc (by rw [e];exact f2)),fun c l hc=>by rw [z4];exact hlt c l hc,⟨_,c0,rfl,hle0,.inr ⟨b,o,arr2,rfl,f2,y1,by rw [y2];exact f4,hold⟩⟩,⟨_,c0,by rw [List.length_append],by rw [List.length_append];exact hfit,.inr ⟨b,o,arr2,rfl,f2,y1,by rw [y2];exact f4,fun k hk=>?_⟩⟩⟩
    rcases NP xs ys k hk with⟨hk',ek⟩ | ⟨hk',hk2,ek⟩
    ·rw [ek];exact hold k hk'
    ·have hk3:k - List.length xs<css.length:=by rw [h1.len];exact hk'
     refine⟨css[k - List.length xs],by rw [ek];exact hnew _ _ _ _ hk' hk3,fun j hj=>?_⟩
     have hfl:=KI h css h1.sz (k - List.length xs) hk3 j hj
     obtain⟨hlt,hge⟩:=List.getElem?_eq_some_iff.1 hfl;have e1:o+k * t.sz+j=o+List.length xs * t.sz+((k - List.length xs) * t.sz+j):=by
      have:k * t.sz=List.length xs * t.sz+(k - List.length xs) * t.sz:=by rw [← Nat.add_mul];congr 1;omega
      omega
     rw [e1,y4 _ hlt,hge]
  ·-- there is none
   have hcap:c0<List.length xs+List.length ys:=by omega
   have hneed:List.length xs+List.length ys≤140737488355328:=by
    have:(List.length xs+List.length ys) * 1≤(List.length xs+List.length ys) * tl.by_:=Nat.mul_le_mul_left _ hb
    omega
   have hnext:Builtin.nextslicecap (List.length xs+List.length ys) c0 * it.bytes≤281474976710656:=by
    have h2:=LJ hcap
    have:Builtin.nextslicecap (List.length xs+List.length ys) c0 * tl.by_≤2 * (List.length xs+List.length ys) * tl.by_:=Nat.mul_le_mul_right _ h2
    rw [hby];rw [Nat.mul_assoc] at this;omega
   obtain⟨olds,o1,o2,o3,o4⟩:∃ olds:List (List Value),olds.length=List.length xs∧(∀ c∈olds,c.length=t.sz)∧(∀ k (hk:k<olds.length) (hk2:k<List.length xs) w' own' q,RepO w' own' t .ro q olds[k] (List.get xs ⟨k,hk2⟩)) ∧
    (Builtin.firstCells it.size (List.length xs) (.slice A0 (List.length xs) c0)).run P w.drew=.ok olds.flatten.toArray w.drew:=by
    rcases hel0 with⟨rfl,rfl⟩ | ⟨b,o,arr,rfl,f2,f3,f4,f5⟩
    ·have:xs=[]:=List.eq_nil_of_length_eq_zero (by omega)
     subst this;exact⟨[],rfl,fun c hc=>by simp at hc,fun k hk=>by simp at hk,run_firstCells_none w.drew it.size 0 0 0⟩
    ·obtain⟨olds,c1,c2⟩:=HG (n:=List.length xs) (p:=fun k ci=>∃ hk:k<List.length xs,RepO w G.own t .ro (ρ++[k]) ci (List.get xs ⟨k,hk⟩)∧∀ j (hj:j<ci.length),arr[o+k * t.sz+j]?=some ci[j]) (fun k hk=>by
      obtain⟨ci,g1,g2⟩:=f5 k hk;exact⟨ci,hk,g1,g2⟩)
     have hszs:∀ c'∈olds,c'.length=t.sz:=fun c' hc'=>by
      obtain⟨k,hk,rfl⟩:=List.mem_iff_getElem.1 hc';obtain⟨_,g1,_⟩:=c2 k hk;exact RepO.len g1
     refine⟨olds,c1,hszs,fun k hk hk2 w' own' q=>?_,?_⟩
     ·obtain⟨_,g1,_⟩:=c2 k hk;exact RepO.roFlat hf g1
     ·refine run_firstCells_some w.drew it.size (List.length xs) ⟨b,o,none⟩ (List.length xs) c0 olds.flatten ?_ (fun j u hj=>?_)
      ·rw [Dh h olds hszs,c1,hsz]
      ·obtain⟨hlt,hge⟩:=List.getElem?_eq_some_iff.1 hj;have hcat:=CellsAt.flatten (w:=w) (a:=⟨b,o,none⟩) olds 0 hszs (fun k hk=>by
        obtain⟨_,_,g2⟩:=c2 k hk;intro j hj;rw [Addr.add_add,Ao f3,Nat.zero_add,← Nat.add_assoc];exact g2 j hj)
       simp only [Nat.zero_mul,Addr.add_zero] at hcat;rw [World.cell?_drew,hcat j hlt,hge]
   have hrun:=run_append_grow_src w T tx ty e it z hu hi hz A0 (List.length xs) c0 olds.flatten o4 vx (List.length ys) css.flatten (by rw [hsz];exact hsrc) hcap (by omega) hnext
   let own':Own:=fun b=>if b=w.heap.size then some ρ else G.own b
   let rest:=Builtin.zeroCells z.cells (grownCap w (List.length xs+List.length ys) c0 e - (List.length xs+List.length ys))
   have hgc:=grownCap_ge w (List.length xs+List.length ys) c0 e
   have hheap:∀ ob b,b<w.heap.size→(w.drew.alloc ob).heap[b]?=w.heap[b]?:=fun ob b hb=>World.heap_alloc_old w.drew ob hb
   have hown':∀ b,b≠w.heap.size→own' b=G.own b:=fun b hb=>if_neg hb
   have hsize:∀ ob,(w.drew.alloc ob).heap.size=w.heap.size+1:=fun ob=>by rw [World.size_alloc];rfl
   refine⟨_,_,own',hrun,rfl,rfl,rfl,by rw [hsize];exact Nat.le_succ _,fun b hb=>hown' b (by omega),fun b _ hb=>hheap _ b hb,fun c l hc=>?_,RepO.move (fun b hb hlt=>⟨by rw [hown' b (by omega)];exact hb,by rw [hsize];omega,hheap _ b hlt⟩) h0 (fun b s hb=>⟨by rw [hown' b (by have:=hlt b _ hb;omega)];exact hb,hheap _ b (hlt b _ hb)⟩),?_⟩
   ·rw [hsize]
    by_cases hcs:c=w.heap.size
    ·omega
    ·rw [hown' c hcs] at hc;have:=hlt c l hc
     omega
   ·have hzl:z.cells.size=t.sz:=by
     have:=hzv.cells (fun u hu=>RepV.one (RepV.zero (ok:=fun _=>True) h tl.t) u hu)
     rw [← htt,← Ty.zc_len,← this];simp
    refine⟨some ⟨w.heap.size,0,none⟩,_,by rw [List.length_append],by rw [List.length_append];exact hgc,.inr ⟨w.heap.size,0,_,rfl,if_pos rfl,World.heap_alloc_new w.drew _,?_,fun k hk=>?_⟩⟩
    ·rw [Array.size_append,List.size_toArray,List.length_append,Dh h olds o2,Dh h css h1.sz,o1,h1.len,size_zeroCells,hzl,← Nat.add_mul,← Nat.add_mul];rw [Nat.zero_add,Nat.add_sub_cancel' hgc];exact Nat.le_refl _
    ·have hcl:∀ c∈olds++css,c.length=t.sz:=fun c hc=>by
      rcases List.mem_append.1 hc with hc | hc
      ·exact o2 c hc
      ·exact h1.sz c hc
     have hget:∀ (kk:Nat) (hkk:kk<(olds++css).length) (j:Nat) (hj:j<(olds++css)[kk].length),((olds.flatten++css.flatten).toArray++rest)[0+kk * t.sz+j]?=some ((olds++css)[kk][j]):=by
      intro kk hkk j hj;have hfl:=KI h (olds++css) hcl kk hkk j hj
      rw [List.flatten_append] at hfl;have hlt:=(List.getElem?_eq_some_iff.1 hfl).1
      rw [Nat.zero_add,Array.getElem?_append_left (by simpa using hlt),List.getElem?_toArray];exact hfl
     rcases NP xs ys k hk with⟨hk',ek⟩ | ⟨hk',hk2,ek⟩
     ·have hko:k<olds.length:=by omega
      refine⟨olds[k],by rw [ek];exact o3 k hko hk' _ _ _,fun j hj=>?_⟩
      have e1:(olds++css)[k]'(by simp;omega)=olds[k]:=List.getElem_append_left hko
      have:=hget k (by simp;omega) j (by rw [e1];exact hj)
      rw [this];simp only [e1]
     ·have hk3:k - List.length xs<css.length:=by rw [h1.len];exact hk'
      have e1:(olds++css)[k]'(by simp;omega)=css[k - List.length xs]:=by
       rw [List.getElem_append_right (by omega)];simp [o1]
      refine⟨css[k - List.length xs],by rw [ek];exact hnew _ _ _ _ hk' hk3,fun j hj=>?_⟩
      have:=hget k (by simp;omega) j (by rw [e1];exact hj)
      rw [this];simp only [e1]
end
theorem Rel.ghost {w0 w:World} {G0 G:Gh} {np:Nat} {σ σ':S} {a:Act} (h:Rel w0 G0 np σ a w G) {i:Nat} (hi:i<σ.sl.length) {av:AV} {rs:List Nat} {own':Own} {hvi:Ty×List Value} (hnp:np≤i∨hvi=G.hv i)
 (hr1:2 * i∈rs) (hr2:2 * i+1∈rs) (hr3:∀ r∈rs,r % 2=0→r=2 * i)
 (hsl:∀ j,σ'.slot j=if i=j then av else ((σ.slot j).kills rs).gone (2 * i+1)) (hlen:σ'.sl.length=σ.sl.length)
 (hbx:∀ k,k≠i→(σ'.box k=σ.box k∧2 * k+1 ∉ rs)∨(2 * k+1∈rs∧∃ b d d',σ.box k=some (b,d)∧σ'.box k=some (b,d')∧d.t=d'.t∧Ry { G with own:=own',hv:=fun k=>if i=k then hvi else G.hv k } w k (b,d')))
 (hbi:∀ bx,σ'.box i=some bx→Ry { G with own:=own',hv:=fun k=>if i=k then hvi else G.hv k } w i bx)
 (hc:Chg w w G.own own' rs) (hlive:∀ b l,own' b=some l→b<w.heap.size) (hk0:av.hk=Option.none)
 (hav:SlotR { G with own:=own',hv:=fun k=>if i=k then hvi else G.hv k } σ' a.tmps w i av (a.tmps.getD i undef)):
 Rel w0 G0 np σ' a w { G with own:=own',hv:=fun k=>if i=k then hvi else G.hv k }∧Ft w w G { G with own:=own',hv:=fun k=>if i=k then hvi else G.hv k } rs:=by
 have hself:SlotR { G with own:=own',hv:=fun k=>if i=k then hvi else G.hv k } σ' a.tmps w i (σ'.slot i) (a.tmps.getD i undef)∧((σ'.slot i).isDat=true→2 * i∈rs):=by
  rw [hsl i,if_pos rfl];exact⟨hav,fun _=>hr1⟩
 refine h.step2 rs (fun k hk=>?_) hc rfl rfl rfl hlive (fun k hk=>?_) (hlen.trans h.tmps) h.defers (fun j=>?_) (fun k bx hb=>?_) (fun k b d1 hk hb=>?_) (fun j k hj=>?_) (hmp:=fun j k h1 h2 h3=>?_)
 ·have:i≠k:=by
   rintro rfl
   rcases hk with hk | hk
   ·exact hk hr2
   ·exact hk hr1
  exact⟨rfl,if_neg this,rfl,rfl⟩
 ·refine⟨rfl,?_,rfl,rfl⟩
  by_cases e:i=k
  ·subst e;rcases hnp with hnp | hnp
   ·omega
   ·simp [hnp]
  ·exact if_neg e
 ·by_cases e:i=j
  ·subst e;exact .inr hself
  ·left;refine⟨⟨?_⟩,rfl⟩
   rw [hsl j,if_neg e];rcases AV.kills_or rs (σ.slot j) with k1 | k1
   ·left;rw [k1];rfl
   ·rw [k1];rcases AV.gone_or (2 * i+1) (σ.slot j) with k2 | k2
    ·exact .inl k2
    ·by_cases hn:σ.slot j=.none
     ·left;rw [k2,hn]
     ·refine .inr ⟨k2,AV.kills_all _ _ k1 hn,fun _ hmem=>?_⟩
      have:=hr3 _ hmem (by omega)
      omega
 ·by_cases e:k=i
  ·subst e;exact .inr ⟨hbi bx hb,hr2⟩
  ·rcases hbx k e with⟨g1,g2⟩ | ⟨g1,b,d,d',g2,g3,g4,g5⟩
   ·rw [g1] at hb;exact .inl ⟨hb,g2,rfl,if_neg (fun hh=>e hh.symm),rfl,rfl⟩
   ·rw [g3] at hb;rw [← Option.some.inj hb];exact .inr ⟨g5,g1⟩
 ·by_cases e:k=i
  ·right;subst e;intro j hK hright
   by_cases e:k=j
   ·subst e;exact absurd hself hright
   ·rw [hsl j,if_neg e];refine⟨fun p hp hr=>?_,fun hh=>?_⟩
    ·rcases AV.gone_or (2 * k+1) ((σ.slot j).kills rs) with h1 | h1
     ·rw [h1] at hp;cases hp
     ·rw [h1] at hp;rw [hp] at h1;simp only [AV.gone,if_pos hr] at h1;cases h1
    ·rcases AV.gone_or (2 * k+1) ((σ.slot j).kills rs) with h1 | h1
     ·rw [h1] at hh;cases hh
     ·rw [h1] at hh;exact AV.gone_hk h1 hh rfl
  ·left;rcases hbx k e with⟨g1,g2⟩ | ⟨g1,b2,d,d',g2,g3,g4,g5⟩
   ·exact absurd hk g2
   ·rw [g3] at hb;simp only [Option.some.injEq,Prod.mk.injEq] at hb;obtain⟨rfl,rfl⟩:=hb;exact⟨d,g2,g4,rfl,if_neg (fun hh=>e hh.symm)⟩
 ·rw [hsl j] at hj
  by_cases e:i=j
  ·rw [if_pos e,hk0] at hj;cases hj
  ·rw [if_neg e] at hj;rcases AV.gone_or (2 * i+1) ((σ.slot j).kills rs) with h1 | h1
   ·rw [h1] at hj;cases hj
   ·rw [h1] at hj;have hne:k≠i:=AV.gone_hk h1 hj
    obtain⟨dk,hdk⟩:=(h.slots j).hk (AV.kills_hk _ hj);rcases hbx k hne with⟨g1,_⟩ | ⟨_,b,d,d',g2,g3,_,_⟩
    ·exact⟨dk,g1.trans hdk⟩
    ·rw [hdk] at g2;simp only [Option.some.injEq,Prod.mk.injEq] at g2;obtain⟨rfl,_⟩:=g2;exact⟨d',g3⟩
 ·by_cases e:i=j
  ·subst e;exact absurd hself h3
  ·rw [hsl j,if_neg e] at h1;have h3:(σ.slot j).gone (2 * i+1)=σ.slot j:=by
    rcases AV.kills_or rs (σ.slot j) with q | q
    ·rw [q] at h1;rw [← h1];rfl
    ·rw [q] at h1;exact h1
   have a1:=AV.gone_mb h3 h2
   exact⟨rfl,rfl,if_neg fun e=>a1 e.symm⟩
def NB:Dat→Option Nat
 | ⟨.list _ _,.own _,x⟩=>some (List.length x)
 | ⟨.list _ _,.ro,x⟩=>some (List.length x)
 | _=>none
theorem UY {w:World} {own:Own} {d:Dat} {p:Lab} {u:Value} (h:RepO w own d.t d.m p [u] d.x) {l:Nat} (hl:NB d=some l):∃ A c,u=.slice A l c:=by
 unfold NB at hl;split at hl
 ·obtain⟨rfl⟩:=hl;obtain⟨A,c,e,_⟩:=h;exact⟨A,c,(List.cons.inj e).1⟩
 ·obtain⟨rfl⟩:=hl;obtain⟨A,c,e,_⟩:=h;exact⟨A,c,(List.cons.inj e).1⟩
 ·cases hl
theorem Zj {d:Dat} {l:Nat} (hl:NB d=some l) {u:Value} {cs:List Value} (hv:Val d.t u cs):cs=[u]:=by
 unfold NB at hl;split at hl
 ·exact hv
 ·exact hv
 ·cases hl
def S.toH (σ:S) (np i:Nat):Option S:=match σ.slot i with
 | .dat d=>if np≤i then some ((((σ.killA [2 * i,2 * i+1]).goneA (2 * i+1)).setBox i (some (false,d))).setSlot i (.hc i (NB d))) else none
 | _=>none
theorem S.slot_lt' {σ:S} {i:Nat} {av:AV} (h:σ.slot i=av) (hn:av≠.none):i<σ.sl.length:=by
 rcases Nat.lt_or_ge i σ.sl.length with h1 | h1
 ·exact h1
 ·simp only [S.slot,List.getD_eq_getElem?_getD,List.getElem?_eq_none h1] at h;exact absurd h.symm hn
theorem S.goneA_len (σ:S) (r:Nat):(σ.goneA r).sl.length=σ.sl.length:=by simp [S.goneA]
theorem Rel.toH {w0 w:World} {G0 G:Gh} {np:Nat} {σ σ':S} {a:Act} (h:Rel w0 G0 np σ a w G) {i:Nat} (hs:σ.toH np i=some σ'):∃ G',Rel w0 G0 np σ' a w G'∧Ft w w G G' [2 * i,2 * i+1]:=by
 unfold S.toH at hs;split at hs
 ·rename_i d hd;split at hs
  ·rename_i hnp;obtain⟨rfl⟩:=hs;have hsl:=h.slots i
   rw [hd] at hsl;obtain⟨cs,hv,hR⟩:=hsl;have hi:=S.slot_lt' hd (by simp)
   have hoff:∀ b r s,G.own b=some (r::s)→r ∉ [2 * i,2 * i+1]→Bb G.own [2 * i] [2 * i+1,0] b=some (r::s):=fun b r s hb hr=>BN hb (fun⟨s',e⟩=>by
    simp at e;simp [e.1] at hr)
   refine⟨_,h.ghost (i:=i) hi (av:=.hc i (NB d)) (rs:=[2 * i,2 * i+1]) (own':=Bb G.own [2 * i] [2 * i+1,0]) (hvi:=(d.t,cs)) (.inl hnp) (by simp) (by simp) (fun r hr he=>by
    simp only [List.mem_cons,List.not_mem_nil,or_false] at hr;omega) (fun j=>?_) (by rw [S.setSlot_len];show(S.goneA _ _).sl.length=_;rw [S.goneA_len,S.killA_len]) (fun k hk=>.inl ⟨?_,by simp;omega⟩) (fun bx hb=>?_) ⟨Nat.le_refl _,fun b hb _=>⟨BO.2 hb,rfl⟩,fun b r s hb hr=>⟨hoff b r s hb hr,rfl⟩,fun b hb=>⟨Cg hb (by simp),rfl⟩⟩ (fun b l hb=>?_) rfl ?_⟩
   ·rw [S.setSlot_slot,S.setBox_slot,S.goneA_slot,S.killA_slot]
    by_cases e:i=j
    ·rw [if_pos e,if_pos ⟨e,by show i<(S.goneA _ _).sl.length;rw [S.goneA_len,S.killA_len];exact hi⟩]
    ·rw [if_neg e,if_neg (fun hh=>e hh.1)]
   ·rw [S.setSlot_box,S.setBox_box,if_neg (fun e=>hk e.symm)];rfl
   ·rw [S.setSlot_box,S.setBox_box,if_pos rfl] at hb;rw [← Option.some.inj hb];refine⟨by simp,?_⟩
    simp only [if_true];exact RepO.move (fun b h1 h2=>⟨BO.2 h1,h2,rfl⟩) hR (fun b s hb=>⟨DU hb,rfl⟩)
   ·obtain⟨l',hl'⟩:=Cx hb;exact h.live b l' hl'
   ·refine⟨?_,fun l hl=>?_⟩
    ·simp only [if_true];exact hv
    ·have e:=Zj hl hv
     rw [e] at hR;exact UY hR hl
  ·cases hs
 ·cases hs
def S.evn (σ:S) (i:Nat):Option S:=match σ.slot i with
 | .hc _ _=>match σ.ev (.tmp i) with
  | .snp t x ds s=>some (σ.put i (.snp t x ds s))
  | _=>none
 | _=>none
theorem Act.put_self (a:Act) (i:Nat):a.put (some i) (a.tmps.getD i undef)=a:=by
 obtain⟨tmps,defers⟩:=a;simp only [Act.put,Act.mk.injEq,and_true];apply Array.ext
 ·simp
 ·intro j h1 h2;rw [Array.getElem_setIfInBounds];split
  ·rename_i e;subst e;rw [Array.getD_eq_getD_getElem?,Array.getElem?_eq_getElem h2];rfl
  ·rfl
theorem Rel.evn {w0 w:World} {G0 G:Gh} {np:Nat} {σ σ':S} {a:Act} (h:Rel w0 G0 np σ a w G) {i:Nat} (hs:σ.evn i=some σ'):∃ G',Rel w0 G0 np σ' a w G'∧Ft w w G G' [2 * i]:=by
 unfold S.evn at hs;split at hs
 ·rename_i k hk;split at hs
  ·rename_i t x ds s hx;obtain⟨rfl⟩:=hs;have hev:=(h.ev i (.tmp i)).1
   rw [hx] at hev;have:=h.put (d:=i) (S.slot_lt' hk (by simp)) hev rfl
   rw [show a.eval (.tmp i)=a.tmps.getD i undef from rfl,Act.put_self] at this;exact⟨G,this,Ft.refl _ _ _⟩
  ·cases hs
 ·cases hs
def S.spl (σ:S) (np h k:Nat) (π:Path):Option S:=match σ.box k with
 | some (true,d)=>match Ag π d.t with
  | some (o,.list e t)=>match BG π d.t d.m d.x with
   | some d'=>match Fe π d.t d.m d.x ⟨d'.t,hol d'.t d'.m,d'.x⟩ with
    | some (M,X)=>if np≤h∧h≠k∧h<σ.sl.length∧(σ.slot h).isDat=false then some (((((σ.killA [2 * h,2 * h+1,2 * k+1]).goneA (2 * h+1)).setBox h (some (false,d'))).setBox k (some (true,⟨d.t,M,X⟩))).setSlot h (.lk k o h (NB d'))) else none
    | none=>none
   | none=>none
  | _=>none
 | _=>none
theorem Rel.spl {w0 w:World} {G0 G:Gh} {np:Nat} {σ σ':S} {a:Act} (h:Rel w0 G0 np σ a w G) {i k:Nat} {π:Path} (hs:σ.spl np i k π=some σ'):∃ G',Rel w0 G0 np σ' a w G'∧Ft w w G G' [2 * i,2 * i+1,2 * k+1]:=by
 unfold S.spl at hs;split at hs
 ·rename_i d hd;split at hs
  ·rename_i o e t hsub;split at hs
   ·rename_i d' hd';split at hs
    ·rename_i M X hset;split at hs
     ·rename_i hcd;obtain⟨hnp,hik,hi,_⟩:=hcd;obtain⟨rfl⟩:=hs;obtain⟨cr,hroot⟩:=h.rootOf.2 k d hd;have hR:=h.root hroot
      have e0:Ai (2 * k+1)=[2 * k+1,0]:=by rw [Ai,if_neg (by omega)]
      have hlr:cr.length=d.t.sz:=RepO.len hR.1
      obtain⟨m',y,g1,_,g2,_,_⟩:=FK (w:=w) (ok:=fun _=>True) π d.m d.x (some ⟨(G.bl k).1,(G.bl k).2,none⟩) cr hsub hlr;have e1:=FE _ g1
      rw [hd'] at e1;obtain⟨rfl⟩:=e1;have hset':=JV _ g1 hset
      obtain⟨L2,cs2,f1,f2,f3,_,_⟩:=GE π hR.1 (fun A hA=>(hR.2 A hA).1) g1;rw [g2] at f1;simp only [Option.map_some,Option.some.injEq,Prod.mk.injEq] at f1;obtain⟨rfl,rfl⟩:=f1;rw [e0] at f2;have hcs:((cr.drop o).take (Ty.list e t).sz).length=1:=RepO.len f2
      obtain⟨u,hu⟩:∃ u,(cr.drop o).take (Ty.list e t).sz=[u]:=by
       match hx:(cr.drop o).take (Ty.list e t).sz,hcs with
       | [u],_=>exact⟨u,rfl⟩
      rw [hu] at f2 f3 g2;have hlen1:∀ (l:Lab),l=[2 * k+1]→¬ Lab.le ([2 * k+1,0]++π.lab) l:=fun l hl hle=>by
       have:=Lab.le_len hle
       rw [hl] at this;simp at this
      have hroot':=PZ (own2:=Bb G.own ([2 * k+1,0]++π.lab) [2 * i+1,0]) (ρ:=[2 * k+1,0]++π.lab) (fun b l hb hl=>BN hb hl) (fun b hb=>BO.2 hb) π hR.1 g1 hset' g2 (by rw [e0])
       (RepO.hol (fun b h1 h2=>⟨BO.2 h1,h2,rfl⟩) f2)
      rw [e0] at hroot';have hob:∀ b,G.own b=some [2 * k+1]→Bb G.own ([2 * k+1,0]++π.lab) [2 * i+1,0] b=some [2 * k+1]:=fun b hb=>BN hb (hlen1 _ rfl)
      obtain⟨arr,q1,q2,q3,q4,q5,csb,q6,q7⟩:=h.boxes k _ hd;have hcr:=(hR.2 _ rfl).1
      refine⟨_,h.ghost (i:=i) hi (av:=.lk k o i (NB ⟨.list e t,m',y⟩)) (rs:=[2 * i,2 * i+1,2 * k+1]) (own':=Bb G.own ([2 * k+1,0]++π.lab) [2 * i+1,0]) (hvi:=(.list e t,[u])) (.inl hnp) (by simp) (by simp) (fun r hr he=>by
       simp only [List.mem_cons,List.not_mem_nil,or_false] at hr;omega) (fun j=>?_) (by rw [S.setSlot_len];show(S.goneA _ _).sl.length=_;rw [S.goneA_len,S.killA_len]) (fun k' hk'=>?_) (fun bx hb=>?_) ⟨Nat.le_refl _,fun b hb _=>⟨BO.2 hb,rfl⟩,fun b r s hb hr=>⟨BN hb (fun⟨s',e⟩=>by
        simp at e;simp [e.1] at hr),rfl⟩,fun b hb=>⟨Cg hb (by simp),rfl⟩⟩ (fun b l hb=>?_) rfl ?_⟩
      ·rw [S.setSlot_slot,S.setBox_slot,S.setBox_slot,S.goneA_slot,S.killA_slot]
       by_cases e:i=j
       ·rw [if_pos e,if_pos ⟨e,by show i<(S.goneA _ _).sl.length;rw [S.goneA_len,S.killA_len];exact hi⟩]
       ·rw [if_neg e,if_neg (fun hh=>e hh.1)]
      ·by_cases ek:k=k'
       ·subst ek;right;refine⟨by simp,true,d,⟨d.t,M,X⟩,hd,by rw [S.setSlot_box,S.setBox_box,if_pos rfl],rfl,arr,q1,hob _ q2,q3,q4,q5,cr,hroot',fun j hj=>?_⟩
        have:=hcr j hj
        rwa [Ao q1] at this
       ·left;refine⟨?_,by simp;omega⟩
        rw [S.setSlot_box,S.setBox_box,if_neg ek,S.setBox_box,if_neg (fun e=>hk' e.symm)];rfl
      ·rw [S.setSlot_box,S.setBox_box,if_neg (fun e=>hik e.symm),S.setBox_box,if_pos rfl] at hb;rw [← Option.some.inj hb];refine⟨by simp,?_⟩
       simp only [if_true];exact RepO.move (fun b h1 h2=>⟨BO.2 h1,h2,rfl⟩) f2 (fun b s hb=>⟨DU hb,rfl⟩)
      ·obtain⟨l',hl'⟩:=Cx hb;exact h.live b l' hl'
      ·refine⟨hob _ q2,⟨e,t,by simp⟩,u,by simp,RepO.one f2 u (by simp),?_⟩
       have:=f3 _ rfl 0 (by simp)
       rw [Addr.add_zero,Addr.add_off rfl] at this;exact⟨this,fun l hl=>UY f2 hl⟩
     ·cases hs
    ·cases hs
   ·cases hs
  ·cases hs
 ·cases hs
def S.uns (σ:S) (h:Nat) (π:Path):Option S:=match σ.slot h,σ.box h with
 | .lk k o h' _,some (false,D)=>match σ.box k with
  | some (true,d)=>match Ag π d.t with
   | some (o',t')=>match Fe π d.t d.m d.x D with
    | some (M,X)=>if h'=h∧o'=o∧t'=D.t∧h≠k then some (((((σ.killA [2 * h,2 * h+1,2 * k+1]).goneA (2 * h+1)).setBox h none).setBox k (some (true,⟨d.t,M,X⟩))).setSlot h .none) else none
    | none=>none
   | none=>none
  | _=>none
 | _,_=>none
def S.unsR (σ:S) (h:Nat):List Nat:=match σ.slot h with
 | .lk k _ _ _=>[2 * h,2 * h+1,2 * k+1]
 | _=>[]
theorem Rel.uns {w0 w:World} {G0 G:Gh} {np:Nat} {σ σ':S} {a:Act} (h:Rel w0 G0 np σ a w G) {i:Nat} {π:Path} (hs:σ.uns i π=some σ'):∃ G',Rel w0 G0 np σ' a w G'∧Ft w w G G' (σ.unsR i):=by
 unfold S.uns at hs;split at hs
 ·rename_i k o h' n D hlk hD;split at hs
  ·rename_i d hd;split at hs
   ·rename_i o' t' hsub;split at hs
    ·rename_i M X hset;split at hs
     ·rename_i hcd;obtain⟨rfl,rfl,rfl,hik⟩:=hcd;obtain⟨rfl⟩:=hs;have hun:σ.unsR h'=[2 * h',2 * h'+1,2 * k+1]:=by simp only [S.unsR,hlk]
      rw [hun];have hi:=S.slot_lt' hlk (by simp)
      have hL:=h.slots h'
      rw [hlk] at hL;obtain⟨l1,⟨e,t,l2⟩,u,l3,l4,l5,_⟩:=hL;obtain⟨b1,b2⟩:=h.boxes h' _ hD;rw [l3] at b2;have hDt:D.t=.list e t:=b1.trans l2
      obtain⟨cr,hroot⟩:=h.rootOf.2 k d hd;have hR:=h.root hroot
      have e0:Ai (2 * k+1)=[2 * k+1,0]:=by rw [Ai,if_neg (by omega)]
      have hlr:cr.length=d.t.sz:=RepO.len hR.1
      obtain⟨m',y,g1,_,g2,_,_⟩:=FK (w:=w) (ok:=fun _=>True) π d.m d.x (some ⟨(G.bl k).1,(G.bl k).2,none⟩) cr hsub hlr;have hset':=JV _ g1 hset
      obtain⟨L2,cs2,f1,f2,f3,_,_⟩:=GE π hR.1 (fun A hA=>(hR.2 A hA).1) g1;rw [g2] at f1;simp only [Option.map_some,Option.some.injEq,Prod.mk.injEq] at f1;obtain⟨rfl,rfl⟩:=f1;have hcs:((cr.drop o').take D.t.sz).length=1:=by
       have:=RepO.len f2
       rw [hDt] at this ⊢;exact this
      have hu:(cr.drop o').take D.t.sz=[u]:=by
       match hx:(cr.drop o').take D.t.sz,hcs with
       | [u'],_=>
        rw [hx] at f3;have:=f3 _ rfl 0 (by simp)
        rw [Addr.add_zero,Addr.add_off rfl] at this;simp only [List.getElem_cons_zero] at this;rw [l5] at this;rw [Option.some.inj this]
      rw [hu] at g2;have hoff:∀ b r s,G.own b=some (r::s)→r≠2 * h'+1→Bb G.own [2 * h'+1,0] ([2 * k+1,0]++π.lab) b=some (r::s):=fun b r s hb hr=>BN hb (fun⟨s',e⟩=>by
       simp at e;exact hr e.1)
      have hroot':=NF (w2:=w) (own2:=Bb G.own [2 * h'+1,0] ([2 * k+1,0]++π.lab)) (p0:=Ai (2 * k+1)) (ρ:=[2 * k+1,0]++π.lab) (fun b l hb hl _=>by
       obtain⟨s,rfl⟩:=hl;rw [e0] at hb ⊢;exact⟨hoff b _ _ hb (by omega),rfl⟩) (fun b hb hlt=>⟨BO.2 hb,hlt,rfl⟩) π (Lab.le_refl _) hR.1 g1 hset' g2 (by rw [e0])
       (RepO.move (fun b h1 h2=>⟨BO.2 h1,h2,rfl⟩) b2 (fun b s hb=>⟨DU hb,rfl⟩))
      rw [e0] at hroot';obtain⟨arr,q1,q2,q3,q4,q5,csb,q6,q7⟩:=h.boxes k _ hd;have hcr:=(hR.2 _ rfl).1
      refine⟨_,h.ghost (i:=h') hi (av:=.none) (rs:=[2 * h',2 * h'+1,2 * k+1]) (own':=Bb G.own [2 * h'+1,0] ([2 * k+1,0]++π.lab)) (hvi:=G.hv h') (.inr rfl) (by simp) (by simp) (fun r hr he=>by
       simp only [List.mem_cons,List.not_mem_nil,or_false] at hr;omega) (fun j=>?_) (by rw [S.setSlot_len];show(S.goneA _ _).sl.length=_;rw [S.goneA_len,S.killA_len]) (fun k' hk'=>?_) (fun bx hb=>?_) ⟨Nat.le_refl _,fun b hb _=>⟨BO.2 hb,rfl⟩,fun b r s hb hr=>⟨hoff b r s hb (fun e=>by simp [e] at hr),rfl⟩,fun b hb=>⟨Cg hb (by simp),rfl⟩⟩ (fun b l hb=>?_) rfl trivial⟩
      ·rw [S.setSlot_slot,S.setBox_slot,S.setBox_slot,S.goneA_slot,S.killA_slot]
       by_cases e:h'=j
       ·rw [if_pos e,if_pos ⟨e,by show h'<(S.goneA _ _).sl.length;rw [S.goneA_len,S.killA_len];exact hi⟩]
       ·rw [if_neg e,if_neg (fun hh=>e hh.1)]
      ·by_cases ek:k=k'
       ·subst ek;right;refine⟨by simp,true,d,⟨d.t,M,X⟩,hd,by rw [S.setSlot_box,S.setBox_box,if_pos rfl],rfl,arr,q1,hoff _ _ _ q2 (by omega),q3,q4,q5,cr,hroot',fun j hj=>?_⟩
        have:=hcr j hj
        rwa [Ao q1] at this
       ·left;refine⟨?_,by simp;omega⟩
        rw [S.setSlot_box,S.setBox_box,if_neg ek,S.setBox_box,if_neg (fun e=>hk' e.symm)];rfl
      ·rw [S.setSlot_box,S.setBox_box,if_neg (fun e=>hik e.symm),S.setBox_box,if_pos rfl] at hb;cases hb
      ·obtain⟨l',hl'⟩:=Cx hb;exact h.live b l' hl'
     ·cases hs
    ·cases hs
   ·cases hs
  ·cases hs
 ·cases hs
inductive Gr where
 | g (i:Nat)
 | z (i:Nat)
 | w (r:Nat) (m:Md)
 | q (i:Nat)
 | h (i:Nat)
 | e (i:Nat)
 | s (h k:Nat) (π:Path)
 | u (h:Nat) (π:Path)
structure OH where
 gr:List Gr
 m:Md
 ts:List Nat
 bs:List Nat
 sh:Option Nat
def FY {α β:Type}:List β→(List β→α)→α
 | [],k=>k []
 | b::l,k=>FY l fun l=>k (b::l)
theorem KJ {α β:Type}:∀ (l:List β) (k:List β→α),FY l k=k l
 | [],_=>rfl
 | b::l,k=>KJ l _
def AV.frc {α:Type}:AV→(AV→α)→α
 | .none,k=>k .none
 | .dat ⟨t,m,x⟩,k=>k (.dat ⟨t,m,x⟩)
 | .snp t x ds Option.none,k=>FY ds fun ds=>k (.snp t x ds Option.none)
 | .snp t x ds (some ⟨r,π⟩),k=>FY ds fun ds=>FY π fun π=>k (.snp t x ds (some ⟨r,π⟩))
 | .ptr ⟨r,π⟩,k=>FY π fun π=>k (.ptr ⟨r,π⟩)
 | .rp t x ds,k=>FY ds fun ds=>k (.rp t x ds)
 | .nilS,k=>k .nilS
 | .hdr i,k=>k (.hdr i)
 | .vw i π,k=>FY π fun π=>k (.vw i π)
 | .tup vs,k=>FY vs fun vs=>k (.tup vs)
 | .fn f,k=>k (.fn f)
 | .que e t m n x,k=>k (.que e t m n x)
 | .pp t m x r,k=>k (.pp t m x r)
 | .cp s,k=>k (.cp s)
 | .mp a b,k=>k (.mp a b)
 | .mr t x ds h,k=>FY ds fun ds=>k (.mr t x ds h)
 | .hs t x h,k=>k (.hs t x h)
 | .hc i Option.none,k=>k (.hc i Option.none)
 | .hc i (some n),k=>k (.hc i (some n))
 | .lk i o h Option.none,k=>k (.lk i o h Option.none)
 | .lk i o h (some n),k=>k (.lk i o h (some n))
 | .ap e t x ⟨r,π⟩,k=>FY π fun π=>k (.ap e t x ⟨r,π⟩)
theorem AV.frc_eq {α:Type} (a:AV) (k:AV→α):a.frc k=k a:=by
 unfold AV.frc;split<;>simp only [KJ]
def QV {α:Type}:List AV→(List AV→α)→α
 | [],k=>k []
 | a::l,k=>bif a.isN then QV l fun l=>k (.none::l) else a.frc fun a=>QV l fun l=>k (a::l)
theorem QW {α:Type}:∀ (l:List AV) (k:List AV→α),QV l k=k l
 | [],_=>rfl
 | a::l,k=>by unfold QV;rw [AV.frc_eq,QW l,QW l];cases a<;>rfl
def OS {α:Type}:List (Option (Bool×Dat))→(List (Option (Bool×Dat))→α)→α
 | [],k=>k []
 | none::l,k=>OS l fun l=>k (none::l)
 | some (b,⟨t,m,x⟩)::l,k=>OS l fun l=>k (some (b,⟨t,m,x⟩)::l)
theorem QX {α:Type}:∀ (l:List (Option (Bool×Dat))) (k:List (Option (Bool×Dat))→α),OS l k=k l
 | [],_=>rfl
 | none::l,k=>by unfold OS;rw [QX l]
 | some (b,⟨t,m,x⟩)::l,k=>by unfold OS;rw [QX l]
def S.frc {α:Type}:S→(S→α)→α
 | ⟨sl,bx,lk⟩,k=>QV sl fun sl=>OS bx fun bx=>k ⟨sl,bx,lk⟩
theorem S.frc_eq {α:Type} (σ:S) (k:S→α):σ.frc k=k σ:=by
 obtain⟨sl,bx,lk⟩:=σ;show QV sl (fun sl=>OS bx fun bx=>k ⟨sl,bx,lk⟩)=_
 rw [QW,QX]
def Ba {α:Type} {t:Ty} (x:t.D) (k:t.D→Option α):Option α:=k x
def S.share {α:Type} (sh:Option Nat) (σ:S) (k:S→Option α):Option α:=match sh with
 | none=>k σ
 | some r=>match σ.rt r with
  | some d=>Ba d.x fun x=>k (σ.setRoot r ⟨d.t,d.m,x⟩)
  | none=>k σ
theorem S.setRoot_self {σ:S} {r:Nat} {d:Dat} (h:σ.rt r=some d):σ.setRoot r d=σ:=by
 obtain⟨sl,bx,ts⟩:=σ;unfold S.rt at h;unfold S.setRoot
 by_cases h2:r % 2=0
 ·rw [if_pos h2] at h ⊢;split at h
  ·rename_i d' hs;obtain⟨rfl⟩:=h;simp only [S.setSlot,S.mk.injEq,and_true];simp only [S.slot,List.getD_eq_getElem?_getD] at hs;cases hg:sl[r / 2]? with
   | none=>rw [hg] at hs;cases hs
   | some av=>
    rw [hg] at hs;simp only [Option.getD_some] at hs;subst hs;obtain⟨hlt,he⟩:=List.getElem?_eq_some_iff.1 hg;rw [← he,List.set_getElem_self]
  ·cases h
 ·rw [if_neg h2] at h ⊢;cases hb:S.box ⟨sl,bx,ts⟩ (r / 2) with
  | none=>rfl
  | some q=>
   obtain⟨b,d'⟩:=q;rw [hb] at h;simp only [Option.map_some,Option.some.injEq] at h;subst h;simp only [S.setBox,S.mk.injEq,and_true,true_and];simp only [S.box,List.getD_eq_getElem?_getD] at hb;cases hg:bx[r / 2]? with
   | none=>rw [hg] at hb;cases hb
   | some av=>
    rw [hg] at hb;simp only [Option.getD_some] at hb;subst hb;obtain⟨hlt,he⟩:=List.getElem?_eq_some_iff.1 hg;rw [if_pos hlt,← he,List.set_getElem_self]
theorem S.share_eq {α:Type} (sh:Option Nat) (σ:S) (k:S→Option α):σ.share sh k=k σ:=by
 unfold S.share;split
 ·rfl
 ·split
  ·rename_i d hd;show k (σ.setRoot _ d)=k σ
   rw [S.setRoot_self hd]
  ·rfl
def S.grab2 (σ:S) (np:Nat):Gr→Option S
 | .g i=>σ.grab i
 | .z i=>σ.freeze i
 | .w r m=>σ.weak r m
 | .q i=>σ.toQ i
 | .h i=>σ.toH np i
 | .e i=>σ.evn i
 | .s h k π=>σ.spl np h k π
 | .u h π=>σ.uns h π
def S.grab2R (σ:S):Gr→List Nat
 | .g i=>σ.grabR i
 | .z i=>[2 * i]
 | .w r _=>[r]
 | .q i=>[2 * i]
 | .h i=>[2 * i,2 * i+1]
 | .e i=>[2 * i]
 | .s h k _=>[2 * h,2 * h+1,2 * k+1]
 | .u h _=>σ.unsR h
def S.grabs (np:Nat):List Gr→S→Option S
 | [],σ=>some σ
 | i::l,σ=>S.grabs np l (match σ.grab2 np i with
  | some σ'=>σ'
  | none=>σ)
def S.grabsR (np:Nat):List Gr→S→List Nat
 | [],_=>[]
 | i::l,σ=>match σ.grab2 np i with
  | some σ'=>σ.grab2R i++S.grabsR np l σ'
  | none=>S.grabsR np l σ
def ZU (σ:S) (e:Nat) (t:Ty) (em:Md) (o:Operand):Option (List t.D×Option Nat):=
 match (if em=.ro then (match roV (.list e t) (σ.ev o) with
  | some (ys,ds)=>if ds=[]∨t.flat=true then some ys else none
  | none=>none) else none) with
 | some ys=>some (ys,none)
 | none=>match o with
  | .tmp i=>match σ.slot i with
   | .dat d=>if h:d.t=.list e t then (if d.m=.own em then some ((h ▸ d.x:(Ty.list e t).D),some i) else none) else none
   | _=>none
  | _=>none
def aC (σ:S) (e:Nat) (t:Ty) (em:Md) (o:Operand):Option (List t.D×Option Nat):=match σ.ev o with
 | .nilS=>some ([],none)
 | _=>match o with
  | .tmp i=>match σ.slot i with
   | .dat d=>if h:d.t=.list e t then (if d.m=.own em then some ((h ▸ d.x:(Ty.list e t).D),some i) else none) else none
   | _=>none
  | _=>none
def Zr:Operand→Operand→Bool
 | .tmp i,.tmp j=>i == j
 | .const (.int _ n),.const (.int _ n')=>n == n'
 | _,_=>false
def QR (τ:List TE) (σ:S) (m:Md) (d:Nat):List Operand→List Nat→Option (Cnd×S×List Nat)
 | [s,x],[T,Tx]=>match tat τ T,tat τ Tx with
  | some ⟨_,.list e t,_,_⟩,some ⟨_,.list e' _,_,_⟩=>match tat τ e with
   | some tl=>match aC σ e t m s,ZU σ e t m x with
    | some (xs,i0),some (ys,i1)=>if d<σ.sl.length∧i0≠some d∧i1≠some d∧(i0=none∨i0≠i1)∧0<tl.by_ then
     some (.le ((xs.length+ys.length) * tl.by_) 140737488355328,σ.newA d (.dat ⟨.list e t,.own m,xs++ys⟩) (i0.toList++i1.toList),2 * d::(i0.toList++i1.toList).map (2 * ·)) else none
    | _,_=>none
   | none=>none
  | _,_=>none
 | _,_=>none
def ef1 (τ:List TE) (np:Nat) (σ:S) (m:Md) (o:Oper):Option (Cnd×S×List Nat):=match o.op,o.dst with
 | .box T v,some d=>match tat τ T with
  | some te=>match σ.take te.t m v with
   | some (m',x,ms)=>if d<σ.sl.length∧np≤d then some (.tt,σ.newB d ⟨te.t,m',x⟩ ms,2 * d::(2 * d+1)::ms.map (2 * ·)) else none
   | none=>none
  | none=>none
 | .alloc T,some d=>match tat τ T with
  | some te=>if d<σ.sl.length∧np≤d then some (.tt,σ.newB d ⟨te.t,m,te.t.zero⟩ [],[2 * d,2 * d+1]) else none
  | none=>none
 | .store T ad v,none=>match tat τ T,σ.ev ad with
  | some te,.ptr p=>match σ.take te.t m v with
   | some (m',x,ms)=>match σ.rt p.root with
    | some d=>match BG p.path d.t d.m d.x with
     | some d'=>if d'.t=te.t∧(∀ i∈ms,p.root≠2 * i) then (match σ.st p ⟨te.t,m',x⟩ ms with
      | some σ'=>some (.tt,σ',p.root::ms.map (2 * ·))
      | none=>none) else none
     | none=>none
    | none=>none
   | none=>none
  | _,_=>none
 | .buildSlice T n parts,some d=>match tat τ T with
  | some ⟨_,.list e t,_,_⟩=>match tat τ e with
   | some _=>if parts.toList.map (·.1)=List.range n∧n * t.sz≤16777216∧d<σ.sl.length then (match σ.takes t m 0 (parts.toList.map (·.2)) with
    | some (xs,l)=>if (l.map (·.1)).Nodup∧d ∉ l.map (·.1) then some (.tt,σ.newA d (.dat ⟨.list e t,.own m,xs⟩) (l.map (·.1)),2 * d::(l.map (·.1)).map (2 * ·)) else none
    | none=>none) else none
   | none=>none
  | _=>none
 | .makeSlice T a b,some d=>match tat τ T,σ.ev a with
  | some ⟨_,.list e t,_,_⟩,.snp (.int _) n _ _=>match tat τ e with
   | some tl=>if Zr a b=true∧d<σ.sl.length∧0<tl.by_ then
    some (.both (.nn n) (.le (n.toNat * tl.by_) 140737488355328),σ.newA d (.dat ⟨.list e t,.own m,List.replicate n.toNat t.zero⟩) [],[2 * d]) else none
   | none=>none
  | _,_=>none
 | .extract (.tmp i) j,some d=>match σ.slot i with
  | .tup vs=>match vs[j]? with
   | some D=>if D.m.noOwn=true then (if d<σ.sl.length then some (.tt,σ.put d (.snp D.t D.x [] none),[2 * d]) else none) else
    (if d<σ.sl.length∧i≠d then some (.tt,σ.extr i j d vs D,[2 * d,2 * i]) else none)
   | none=>none
  | _=>none
 | .move (.tmp i),some d=>match σ.slot i with
  | .tup (D::vs)=>if d<σ.sl.length∧i≠d then some (.tt,σ.newA d (.tup (D::vs)) [i],[2 * d,2 * i]) else none
  | _=>none
 | .call c,some d=>match c.callee with
  | .builtin .append=>QR τ σ m d c.args.toList c.argTypes.toList
  | _=>none
 | _,_=>none
def ef2 (τ:List TE) (σ:S) (m:Md) (o:Oper):Option (Cnd×S×List Nat):=match o.op,o.dst with
 | .box T v,some d=>match tat τ T,σ.ev v with
  | some te,.snp t _ _ (some ⟨r,[]⟩)=>match σ.box (r / 2) with
   | some (false,D)=>if r % 2=1∧t=te.t∧D.t=te.t∧d<σ.sl.length then some (.tt,σ.newA d (.vw (r / 2) []) [],[2 * d]) else none
   | _=>none
  | _,_=>none
 | .slice T (.tmp i) lo hi none,some d=>match tat τ T,σ.slot i with
  | some te,.dat ⟨.list e t,.own .ro,xs⟩=>match bnd σ.ev 0 lo,bnd σ.ev (List.length xs) hi with
   | some l,some r=>if te.t=.list e t∧m=.own .ro∧d<σ.sl.length then some (.cut l r (List.length xs),σ.newA d (.dat ⟨.list e t,.own .ro,Hf xs l r⟩) [i],2 * d::[i].map (2 * ·)) else none
   | _,_=>none
  | _,_=>none
 | .build T parts,some d=>match tat τ T with
  | some te=>if m=.ro then none else match σ.buildT parts.toList te.k 0 te.t m [2 * d] with
   | some (m',x,l)=>if d<σ.sl.length∧(parts.toList.map (·.1)).Nodup∧parts.toList.all (·.1<te.k)=true∧(l.map (·.1)).Nodup∧d ∉ l.map (·.1) then some (.tt,σ.newA d (.dat ⟨te.t,m',x⟩) (l.map (·.1)),2 * d::(l.map (·.1)).map (2 * ·)) else none
   | none=>none
  | none=>none
 | .indexAddr T (.tmp j) ix,some d=>match tat τ T,σ.slot j,σ.ev ix with
  | some te,.que e t m n0 xs,.snp (.int _) n _ _=>if te.t=.list e t∧d<σ.sl.length∧d≠j then some (.both (.idx n xs.length) (.cut n0 n xs.length),σ.popQ d j e t m xs n,[2 * d,2 * j]) else none
  | _,_,_=>none
 | .move (.tmp s),some d=>match σ.slot s with
  | .none=>if d<σ.sl.length∧s≠d then some (.tt,σ.put d (.cp s),[2 * d]) else none
  | _=>none
 | .load T (.tmp i),some d=>match tat τ T,σ.slot i with
  | some te,.pp t m x _=>if te.t=t∧m.full=true∧d<σ.sl.length then some (.tt,σ.newA d (.dat ⟨t,m,x⟩) [i],2 * d::[i].map (2 * ·)) else none
  | _,_=>none
 | _,_=>none
def S.putR (σ:S) (d:Nat) (av:AV):Option (Cnd×S×List Nat):=if d<σ.sl.length then some (.tt,σ.put d av,[2 * d]) else none
def S.trueB (σ:S) (k:Nat):Bool:=match σ.box k with
 | some (true,_)=>true
 | _=>false
def S.notHdr (σ:S) (k:Nat):Bool:=match σ.box k with
 | some (false,_)=>false
 | _=>true
theorem S.trueB_ok {σ:S} {k:Nat} (h:σ.trueB k=true):∃ D,σ.box k=some (true,D):=by
 unfold S.trueB at h;split at h
 ·rename_i D hD;exact⟨D,hD⟩
 ·cases h
theorem S.notHdr_ok {σ:S} {k:Nat} (h:σ.notHdr k=true):∀ D,σ.box k≠some (false,D):=by
 intro D hD;unfold S.notHdr at h;rw [hD] at h;cases h
theorem Ua (s t:Ty):(Ty.pair s t).sz≠1:=by
 have:=Ty.sz_pos s
 have:=Ty.sz_pos t
 simp only [Ty.sz];omega
theorem PE (b o r:Nat):(⟨b,o,none⟩:Addr).add (r+1)=(⟨b,o+1,none⟩:Addr).add r:=by
 simp only [Addr.add];have:o+(r+1)=o+1+r:=by omega
 rw [this]
 all_goals simp
def hsV (σ:S) (te:TE) (o0:Operand) (i:Nat) (o1:Operand):Option AV:=match σ.ev o0,σ.ev o1 with
 | .ptr ⟨r,[]⟩,.snp t1 y _ _=>match Ag (BB te.k i) te.t with
  | some (_,t2)=>if r % 2=1∧σ.trueB (r / 2)=true∧t1=t2∧t1.sz=1∧t1.flat=true∧i<te.k then (match Ol (BB te.k i) te.t te.t.zero t1 y with
   | some x=>some (.hs te.t x (r / 2))
   | none=>none) else none
  | none=>none
 | _,_=>none
def ef3 (τ:List TE) (np:Nat) (σ:S) (m:Md) (o:Oper):Option (Cnd×S×List Nat):=match o.op,o.dst with
 | .nilCheck x,some d=>match σ.ev x with
  | .mp k h=>σ.putR d (.mp k h)
  | .mr t y ds h=>σ.putR d (.mr t y ds h)
  | _=>none
 | .fieldAddr T x j,some d=>match hat τ T,σ.ev x,j with
  | some te,.mp k h,0=>if 0<te.k∧σ.trueB k=true then σ.putR d (.mp k h) else none
  | some te,.mp k _,j+1=>match σ.box k with
   | some (true,D)=>if D.t=te.t∧j<te.k∧(Ag (BB te.k j) te.t).isSome=true then σ.putR d (.ptr ⟨2 * k+1,BB te.k j⟩) else none
   | _=>none
  | some te,.mr t y ds h,0=>if 0<te.k then σ.putR d (.mr t y ds h) else none
  | some te,.mr t y ds _,j+1=>if t=te.t∧j<te.k then (match BG (BB te.k j) t .ro y with
   | some d'=>σ.putR d (.rp d'.t d'.x ds)
   | none=>none) else none
  | _,_,_=>none
 | .load T x,some d=>match hat τ T,σ.ev x with
  | some te,.mp k h=>if te.k=0∧σ.trueB k=true∧σ.notHdr h=true then σ.putR d (.ptr ⟨2 * h+1,[]⟩) else none
  | some te,.mr _ _ _ h=>if te.k=0∧σ.notHdr h=true then σ.putR d (.ptr ⟨2 * h+1,[]⟩) else none
  | _,_=>none
 | .assign (.const v),some d=>match cav v with
  | .none=>σ.putR d .none
  | _=>none
 | .build T parts,some d=>match hat τ T,parts.toList with
  | some te,[(0,o0),(i+1,o1)]=>match hsV σ te o0 i o1 with
   | some av=>σ.putR d av
   | none=>none
  | _,_=>none
 | .box T v,some d=>match hat τ T,σ.ev v with
  | some te,.hs t x h=>if t=te.t∧np≤d∧d<σ.sl.length∧h≠d then some (.tt,(σ.newB d ⟨t,m,x⟩ []).put d (.mp d h),2 * d::(2 * d+1)::[]) else none
  | _,_=>none
 | _,_=>none
def pEq:Path→Path→Option Cnd
 | [],[]=>some .tt
 | .f::π,.f::ρ=>pEq π ρ
 | .s::π,.s::ρ=>pEq π ρ
 | .i n::π,.i m::ρ=>match pEq π ρ with
  | some c=>some (.both (.le n.toNat m.toNat) (.both (.le m.toNat n.toNat) c))
  | none=>none
 | _,_=>none
theorem PV:∀ (π ρ:Path) {c:Cnd},pEq π ρ=some c→c.holds→π.lab=ρ.lab
 | [],[],_,_,_=>rfl
 | .f::π,.f::ρ,c,h,hc=>by
  simp only [Path.lab,List.map_cons,St.lab];exact congrArg _ (PV π ρ h hc)
 | .s::π,.s::ρ,c,h,hc=>by
  simp only [Path.lab,List.map_cons,St.lab];exact congrArg _ (PV π ρ h hc)
 | .i n::π,.i m::ρ,c,h,hc=>by
  simp only [pEq] at h;split at h
  ·rename_i c' hc';simp only [Option.some.injEq] at h;subst h;obtain⟨h1,h2,h3⟩:=hc;simp only [Cnd.holds] at h1 h2;simp only [Path.lab,List.map_cons,St.lab];rw [show n.toNat=m.toNat by omega];exact congrArg _ (PV π ρ hc' h3)
  ·cases h
 | [],.f::_,_,h,_=>by simp [pEq] at h
 | [],.s::_,_,h,_=>by simp [pEq] at h
 | [],.i _::_,_,h,_=>by simp [pEq] at h
 | .f::_,[],_,h,_=>by simp [pEq] at h
 | .f::_,.s::_,_,h,_=>by simp [pEq] at h
 | .f::_,.i _::_,_,h,_=>by simp [pEq] at h
 | .s::_,[],_,h,_=>by simp [pEq] at h
 | .s::_,.f::_,_,h,_=>by simp [pEq] at h
 | .s::_,.i _::_,_,h,_=>by simp [pEq] at h
 | .i _::_,[],_,h,_=>by simp [pEq] at h
 | .i _::_,.f::_,_,h,_=>by simp [pEq] at h
 | .i _::_,.s::_,_,h,_=>by simp [pEq] at h
def Ln (k o:Nat):List AV→Option (Nat×Option Nat)
 | []=>none
 | .lk k' o' h n::l=>if k'=k∧o'=o then some (h,n) else Ln k o l
 | _::l=>Ln k o l
theorem Mw {k o h:Nat} {n:Option Nat}:∀ {l:List AV},Ln k o l=some (h,n)→.lk k o h n∈l
 | [],hf=>by simp [Ln] at hf
 | a::l,hf=>by
  unfold Ln at hf;split at hf
  ·cases hf
  ·rename_i k' o' h' n' l' heq;obtain⟨rfl,rfl⟩:=List.cons.inj heq;split at hf
   ·rename_i hcd;obtain⟨rfl,rfl⟩:=hcd;simp only [Option.some.injEq,Prod.mk.injEq] at hf;obtain⟨rfl,rfl⟩:=hf;exact List.mem_cons_self ..
   ·exact List.mem_cons_of_mem _ (Mw hf)
  ·rename_i heq;obtain⟨rfl,rfl⟩:=List.cons.inj heq;exact List.mem_cons_of_mem _ (Mw hf)
def S.apv (τ:List TE) (σ:S) (d:Nat):List Operand→List Nat→Option (Cnd×S×List Nat)
 | [s,x],[T,Tx]=>match tat τ T,tat τ Tx,σ.ev s with
  | some ⟨_,.list e t,_,_⟩,some ⟨_,.list _ _,_,_⟩,.snp t1 xs _ (some p)=>match tat τ e,σ.rt p.root,roV (.list e t) (σ.ev x) with
   | some tl,some dr,some (ys,_)=>match BG p.path dr.t dr.m dr.x with
    | some d0=>if ht:t1=.list e t then (if d0.m=.own .ro∧t.flat=true∧d<σ.sl.length∧0<tl.by_ then
     some (.le ((List.length (ht ▸ xs:(Ty.list e t).D)+List.length ys) * tl.by_) 140737488355328,(σ.killA [p.root]).put d (.ap e t ((ht ▸ xs:(Ty.list e t).D)++ys) p),[p.root,2 * d]) else none) else none
    | none=>none
   | _,_,_=>none
  | _,_,_=>none
 | _,_=>none
def ef4 (τ:List TE) (σ:S) (m:Md) (o:Oper):Option (Cnd×S×List Nat):=match m with
 | .hole=>match o.op,o.dst with
  | .move (.tmp s),some d=>match σ.slot s with
   | .hc k n=>σ.putR d (.hc k n)
   | .hdr k=>σ.putR d (.hc k Option.none)
   | _=>none
  | .load T x,some d=>match tat τ T,σ.ev x with
   | some te,.ptr ⟨r,π⟩=>match σ.box (r / 2) with
    | some (true,D)=>match Ag π D.t with
     | some (o,.list e t)=>match Ln (r / 2) o σ.sl with
      | some (h,n)=>if r % 2=1∧te.t=.list e t then σ.putR d (.hc h n) else none
      | none=>none
     | _=>none
    | _=>none
   | _,_=>none
  | .call c,some d=>match c.callee with
   | .builtin .append=>σ.apv τ d c.args.toList c.argTypes.toList
   | .builtin .len=>match c.args.toList,c.argTypes.toList with
    | [.tmp s],[T]=>match tat τ T,σ.slot s with
     | some ⟨_,.list _ _,_,_⟩,.hc _ (some n)=>σ.putR d (Dv .i64 n)
     | _,_=>none
    | _,_=>none
   | _=>none
  | .store T ad v,none=>match tat τ T,σ.ev ad,σ.ev v with
   | some te,.ptr p,.ap e t x p'=>match pEq p.path p'.path,σ.rt p.root with
    | some c,some d=>match BG p.path d.t d.m d.x,σ.st p ⟨.list e t,.own .ro,x⟩ [] with
     | some d',some σ'=>if d'.t=.list e t∧te.t=.list e t∧p.root=p'.root then some (c,σ',[p.root]) else none
     | _,_=>none
    | _,_=>none
   | _,_,_=>none
  | _,_=>none
 | _=>none
def ef (τ:List TE) (np:Nat) (σ:S) (m:Md) (o:Oper):Option (Cnd×S×List Nat):=match ef1 τ np σ m o with
 | some r=>some r
 | none=>match ef2 τ σ m o with
  | some r=>some r
  | none=>match ef3 τ np σ m o with
   | some r=>some r
   | none=>ef4 τ σ m o
def Jl {α:Type} (σ:S) (chk:List Nat→List Nat→Bool) (cal:Cal) (args:List Operand) (d:Nat) (k:S→List Nat→Option α):Option α:=match σ.args 0 cal.ps args with
 | some (x,ds,l,fl)=>if chk ds (fl.map (·.p.root))=true∧(l.map (·.1)).Nodup∧(∀ p∈l,2 * p.1 ∉ ds)∧d<σ.sl.length∧(fl.map (·.p.root)).Nodup∧(∀ e∈fl,e.p.root ∉ ds∧(∀ p∈l,e.p.root≠2 * p.1)∧e.p.root≠2 * d) then
  (cal.F x).bind fun y=>match MT ds cal.rs (HL.left _ _ y) with
   | some av=>if ((Bq cal.ps (HL.right _ _ y)).all fun D=>decide (ds=[]) || cov D.t D.m)=true then (match σ.called d av (l.map (·.1)) fl (Bq cal.ps (HL.right _ _ y)) with
    | some σ'=>k σ' (EU d (l.map (·.1)) fl)
    | none=>none) else none
   | none=>none
  else none
 | none=>none
def Vx (i:Nat):Operand→Bool
 | .tmp j=>j == i
 | _=>false
def Zl (md:Nat) (σ:S):AV→Option (AV×Nat×List Nat×List Nat)
 | .mp i h=>match md,σ.box i with
  | 1,some (true,_)=>some (.ptr ⟨2 * i+1,[]⟩,h,[],[])
  | 2,some (true,D)=>if D.m.noOwn=true∧D.t.isP=true then some (.snp D.t D.x [] none,h,[],[2 * i+1]) else none
  | _,_=>none
 | .mr t y ds h=>if md=2∧t.isP=true then some (.snp t y ds none,h,ds,[]) else none
 | _=>none
def LA {α:Type} (σ:S) (cal:Cal) (args:List Operand) (d:Nat) (k:S→List Nat→Option α):Option α:=match args with
 | .tmp tm::os=>match Zl cal.md σ (σ.ev (.tmp tm)) with
  | some (av,h,dp,bx)=>if tm≠d∧tm<σ.sl.length∧d<σ.sl.length∧σ.notHdr h=true∧os.all (fun o=>!Vx tm o && !Vx d o)=true then
   S.frc ((σ.put tm av).put d (.ptr ⟨2 * h+1,[]⟩)) fun σv=>Jl σv (fun ds fr=>dp.all ds.contains && bx.all fun r=>!fr.contains r) cal (.tmp tm::(os++[.tmp d])) d fun σ' rs=>(σ'.put tm .none).frc fun σ'=>k σ' (rs++[2 * tm])
   else none
  | none=>none
 | _=>none
def Rs:(rs:List Ret)→(fs:List Ty)→HL (rts rs++fs)→Option Dat
 | [r],_,y=>some ⟨r.t,.ro,y.1⟩
 | _,_,_=>none
def LB {α:Type} (np:Nat) (σ:S) (cal:Cal) (args:List Operand) (d:Nat) (k:S→List Nat→Option α):Option α:=match σ.args 0 cal.ps args with
 | some (x,[],[],[])=>if d<σ.sl.length∧np≤d then (cal.F x).bind fun y=>match Rs cal.rs (fts cal.ps) y with
  | some D=>k (σ.newB d D []) [2 * d,2 * d+1]
  | none=>none else none
 | _=>none
def Kz {α:Type} (np:Nat) (σ:S) (cal:Cal) (args:List Operand) (d:Nat) (k:S→List Nat→Option α):Option α:=match cal.md with
 | 0=>Jl σ (fun _ _=>true) cal args d k
 | 3=>LB np σ cal args d k
 | _=>if cal.md=1∨cal.md=2 then LA σ cal args d k else none
def HW {α:Type} (τ:List TE) (Φ:List Cal) (np:Nat) (hh:OH) (σ0:S) (o:Oper) (k:S→List Nat→Option α):Option α:=
 match S.grabs np hh.gr σ0 with
 | none=>none
 | some σ=>match ef τ np σ hh.m o with
  | some (c,σ',rs)=>c.run (σ'.share hh.sh fun σ'=>k σ' (S.grabsR np hh.gr σ0++rs))
  | none=>match pv τ σ.ev σ.rt o.op,o.dst with
   | some (c,av),some d=>if d<σ.sl.length then c.run (k (σ.put d av) (S.grabsR np hh.gr σ0++[2 * d])) else none
   | _,_=>match o.op,o.dst with
    | .call c,some d=>match c.callee with
     | .value (.func f)=>match Φ.find? (fun c=>c.f == f) with
      | some cal=>Kz np σ cal c.args.toList d fun σ' rs=>k σ' (S.grabsR np hh.gr σ0++rs)
      | none=>none
     | _=>none
    | _,_=>none
def Pf {α:Type} (τ:List TE) (Φ:List Cal) (np:Nat) (hh:OH) (σ0:S) (o:Oper) (k:S→Option α):Option α:=HW τ Φ np hh σ0 o fun σ _=>σ.frc k
def Cok (P : Program) (c : Cal) : Prop := (∃ fn, P.funcs[c.f]? = some fn ∧ (fn.name == "runtime.NumGoroutine") = false ∧ fn.body.isSome = true) ∧ FOK P c
def Ld (P:Program) (Φ:List Cal) (w0:World) (own0:Own):Prop:=(∀ c∈Φ,Cok P c)∧Inv P w0 own0
theorem Rel.grab2 {w0:World} {G0:Gh} {np:Nat} {σ σ':S} {a:Act} {w:World} {G:Gh} (h:Rel w0 G0 np σ a w G) {i:Gr} (hg:σ.grab2 np i=some σ'):∃ G',Rel w0 G0 np σ' a w G'∧Ft w w G G' (σ.grab2R i):=by
 cases i with
 | g i=>exact h.grab hg
 | z i=>exact h.freeze hg
 | w r m=>exact h.weak' hg
 | q i=>exact h.toQ hg
 | h i=>exact h.toH hg
 | e i=>exact h.evn hg
 | s i k π=>exact h.spl hg
 | u i π=>exact h.uns hg
theorem Rel.grabs {w0:World} {G0:Gh} {np:Nat} {a:Act} {w:World}:∀ (l:List Gr) {σ σ':S} {G:Gh},Rel w0 G0 np σ a w G→S.grabs np l σ=some σ'→∃ G',Rel w0 G0 np σ' a w G'∧Ft w w G G' (S.grabsR np l σ)
 | [],σ,σ',G,h,hg=>by simp only [S.grabs,Option.some.injEq] at hg;subst hg;exact⟨G,h,Ft.refl _ _ _⟩
 | i::l,σ,σ',G,h,hg=>by
  simp only [S.grabs] at hg;simp only [S.grabsR];split at hg
  ·rename_i σ1 h1;obtain⟨G1,h2,h3⟩:=h.grab2 h1;obtain⟨G2,h4,h5⟩:=Rel.grabs l h2 hg;exact⟨G2,h4,by first | exact h3.trans h5 | (simp only [h1];exact h3.trans h5)⟩
  ·rename_i h1;obtain⟨G2,h4,h5⟩:=Rel.grabs l h hg;exact⟨G2,h4,by first | exact h5 | (simp only [h1];exact h5)⟩
section
variable {P:Program} {τ:List TE} (hτ:TabOk P τ) {w0:World} {G0:Gh} {np:Nat} {σ:S} {a:Act} {w:World} {G:Gh} (h:Rel w0 G0 np σ a w G)
include hτ h
theorem ba {e:Nat} {t:Ty} {em:Md} {o:Operand} {xs:List t.D} {i0:Option Nat} (hs:aC σ e t em o=some (xs,i0)):
 (∃ i,i0=some i∧RepO w G.own (.list e t) (.own em) [2 * i] [a.eval o] xs)∨(i0=none∧a.eval o=.slice none 0 0∧xs=[]):=by
 have hev:=(h.ev 0 o).1
 unfold aC at hs;split at hs
 ·rename_i hx;rw [hx] at hev;simp only [Option.some.injEq,Prod.mk.injEq] at hs;exact .inr ⟨hs.2.symm,hev,hs.1.symm⟩
 ·split at hs
  ·rename_i i _;split at hs
   ·rename_i d hd;split at hs
    ·rename_i ht;split at hs
     ·rename_i hm;obtain⟨dt,dm,dx⟩:=d;simp only at ht hm;subst ht hm;simp only [Option.some.injEq,Prod.mk.injEq] at hs;obtain⟨rfl,rfl⟩:=hs;have hsl:=h.slots i
      rw [hd] at hsl;obtain⟨cs,h1,h2⟩:=hsl;have h1':cs=[a.tmps.getD i undef]:=h1
      subst h1';exact .inl ⟨i,rfl,h2⟩
     ·cases hs
    ·cases hs
   ·cases hs
  ·cases hs
theorem aw {e:Nat} {t:Ty} {em:Md} {o:Operand} {ys:List t.D} {i1:Option Nat} (hs:ZU σ e t em o=some (ys,i1)):∃ css,Els w G.own t em ys i1 (a.eval o) css:=by
 unfold ZU at hs;split at hs
 ·rename_i ys' hy;simp only [Option.some.injEq,Prod.mk.injEq] at hs;obtain⟨rfl,rfl⟩:=hs;split at hy
  ·rename_i hem;split at hy
   ·rename_i ys2 ds hr;split at hy
    ·rename_i hcd;obtain⟨rfl⟩:=hy;obtain⟨cs,q1,q2⟩:=Pa h hr;have q1':cs=[a.eval o]:=q1
     subst q1';refine Els.ofV q2 ?_ hem
     rcases hcd with hd | hf
     ·left;intro b hb;refine⟨hb.1,?_⟩
      rcases hb.2 with h1 | ⟨r,hr,_⟩
      ·exact h1
      ·rw [hd] at hr;cases hr
     ·exact .inr hf
    ·cases hy
   ·cases hy
  ·cases hy
 ·split at hs
  ·rename_i i _;split at hs
   ·rename_i d hd;split at hs
    ·rename_i ht;split at hs
     ·rename_i hm;obtain⟨dt,dm,dx⟩:=d;simp only at ht hm;subst ht hm;simp only [Option.some.injEq,Prod.mk.injEq] at hs;obtain⟨rfl,rfl⟩:=hs;have hsl:=h.slots i
      rw [hd] at hsl;obtain⟨cs,h1,h2⟩:=hsl;have h1':cs=[a.tmps.getD i undef]:=h1
      subst h1';exact Els.ofO h2
     ·cases hs
    ·cases hs
   ·cases hs
  ·cases hs
theorem ag {m:Md} {d:Nat} {args:List Operand} {Ts:List Nat} {c:Cnd} {σ':S} {rs:List Nat} (hs:QR τ σ m d args Ts=some (c,σ',rs)) (hc:c.holds) (ty:TypeId) (consts:Array Bool):
 ∃ w' v G',(builtin .append ⟨Ts⟩ ty consts (args.map a.eval).toArray).run P w=.ok (.value v) w'∧Rel w0 G0 np σ' (a.put (some d) v) w' G'∧Ft w w' G G' rs:=by
 unfold QR at hs;split at hs
 ·rename_i s x T Tx;split at hs
  ·rename_i id1 e t k1 b1 id2 e' t' k2 b2 hT hTx;split at hs
   ·rename_i tl htl;split at hs
    ·rename_i xs i0 ys i1 h1 h2;split at hs
     ·rename_i hcd;obtain⟨c1,c2,c3,c4,c5⟩:=hcd;simp only [Option.some.injEq,Prod.mk.injEq] at hs;obtain⟨rfl,rfl,rfl⟩:=hs;obtain⟨css,hcss⟩:=aw hτ h h2;obtain⟨w',v,G',r1,r2⟩:=Wj hτ h c1 hT rfl htl (hτ.slice hTx rfl).1 (ba hτ h h1) hcss c2 c3 c4 c5 hc ty;exact⟨w',v,G',by simp only [builtin,List.map_cons,List.map_nil,Sem.run_bind,r1,Result.andThen,Sem.run_pure],r2⟩
     ·cases hs
    ·cases hs
   ·cases hs
  ·cases hs
 ·cases hs
end
section
variable {P:Program} {τ:List TE} (hτ:TabOk P τ) {w0:World} {G0:Gh} {np:Nat} {σ:S} {a:Act} {w:World} {G:Gh} (h:Rel w0 G0 np σ a w G)
include hτ h
theorem bQ {x y:Operand} {k:IntKind} {n:Int} {ds:List Nat} {src:Option Place} (hx:σ.ev x=.snp (.int k) n ds src) (he:Zr x y=true):a.eval x=.int k n∧∃ k',a.eval y=.int k' n:=by
 have hv:=(h.ev 0 x).1
 rw [hx] at hv;have hv:=hv.int
 refine⟨hv,?_⟩
 unfold Zr at he;split at he
 ·simp only [beq_iff_eq] at he;subst he;exact⟨k,hv⟩
 ·simp only [beq_iff_eq] at he;subst he;simp only [Act.eval,Value.int.injEq] at hv;rw [← hv.2];exact⟨_,rfl⟩
 ·cases he
theorem eu (o:Oper) {m:Md} {c:Cnd} {σ':S} {rs:List Nat} (hs:ef1 τ np σ m o=some (c,σ',rs)) (hc:c.holds):
 ∃ w' v G',((execOp a.eval o).run P w=.ok (.value v) w'∨((execOp a.eval o).run P w=.ok .skip w'∧v=undef))∧Rel w0 G0 np σ' (a.put o.dst v) w' G'∧Ft w w' G G' rs:=by
 obtain⟨dst,op,type,pos,after,guard⟩:=o;unfold ef1 at hs;simp only at hs;split at hs
 ·-- box
  rename_i T v d;split at hs
  ·rename_i te hte;split at hs
   ·rename_i m' x ms htk;split at hs
    ·rename_i hcd;simp only [Option.some.injEq,Prod.mk.injEq] at hs;obtain⟨_,rfl,rfl⟩:=hs;obtain⟨hms,cs,hval,hT⟩:=h.take htk;obtain⟨G',hG⟩:=Wn h hcd.1 hcd.2 T hT hms;refine⟨_,_,G',.inl ?_,hG⟩
     have e:=hval.cells hT.2.1
     simp only [execOp,Instr.box,newVar,newRow,Sem.run_bind,run_newObj_alloc,Result.andThen,Sem.run_pure]
     congr 3
     rw [← e]
    ·cases hs
   ·cases hs
  ·cases hs
 ·-- alloc
  rename_i T d;split at hs
  ·rename_i te hte;split at hs
   ·rename_i hcd;simp only [Option.some.injEq,Prod.mk.injEq] at hs;obtain⟨_,rfl,rfl⟩:=hs;obtain⟨z,hz,hrun⟩:=hτ.zero hte;have hone:∀ u∈te.t.zc,u.oneCell'=true:=fun u hu=>RepO.one (RepO.zero (w:=w) (own:=G.own) te.t .ro []) u hu
    have hT:Take w G.own te.t m te.t.zero te.t.zc []:=⟨Ty.zc_len te.t,hone,fun q w' own' _ _=>RepO.zero te.t m q⟩
    obtain⟨G',hG⟩:=Wn h hcd.1 hcd.2 T hT (.inl rfl);refine⟨_,_,G',.inl ?_,hG⟩
    have e:=hz.cells hone
    simp only [execOp,Instr.alloc,newVar,newRow,Sem.run_bind,hrun,run_newObj_alloc,Result.andThen,Sem.run_pure]
    congr 3
    rw [← e]
   ·cases hs
  ·cases hs
 ·-- store
  rename_i T ad v;split at hs
  ·rename_i te p hte had;split at hs
   ·rename_i m' x ms htk;split at hs
    ·rename_i d hd;split at hs
     ·rename_i d' hd';split at hs
      ·rename_i hcd;split at hs
       ·rename_i σ2 hst;simp only [Option.some.injEq,Prod.mk.injEq] at hs;obtain⟨_,rfl,rfl⟩:=hs;obtain⟨hms,cs,hval,hT⟩:=h.take htk;have hv:=(h.ev 0 ad).1
        rw [had] at hv;obtain⟨A,arr,Tb,e1,e2,e3,e4,G',hG⟩:=h.st hst hv (fun d0 d2 hd2 hg=>by
         rw [hd] at hd2;obtain⟨rfl⟩:=hd2;have:=FE _ hg
         rw [hd'] at this;rw [← Option.some.inj this];exact hcd.1) (.inl hT) (by
          rcases hms with hms | ⟨i,hms,_⟩
          ·exact .inl hms
          ·exact .inr ⟨i,hms,hcd.2 i (by rw [hms];simp)⟩) hcd.2 none rfl
        refine⟨_,undef,G',.inr ⟨?_,rfl⟩,hG⟩
        have hsz:=Take.size hval hT
        have:=Ny (P:=P) (T:=T) (v:=a.eval v) (hτ.size hte w) hsz.2 (by rw [hsz.1];exact hT.2.1) e2 e3 e4
        rw [hsz.1] at this;simp only [execOp,e1,Sem.run_bind,this,Result.andThen,Sem.run_pure]
       ·cases hs
      ·cases hs
     ·cases hs
    ·cases hs
   ·cases hs
  ·cases hs
 ·-- buildSlice
  rename_i T n parts d;split at hs
  ·rename_i id1 e t k1 b1 hte;split at hs
   ·rename_i tl htl;split at hs
    ·rename_i hcd;obtain⟨c1,c2,c3⟩:=hcd;split at hs
     ·rename_i xs l htk;split at hs
      ·rename_i hnd;simp only [Option.some.injEq,Prod.mk.injEq] at hs;obtain⟨_,rfl,rfl⟩:=hs;obtain⟨css,g1,g2,g3,g4⟩:=Te h _ 0 htk;have hpl:parts.toList.length=n:=by
        have:=congrArg List.length c1
        simpa using this
       simp only [List.length_map] at g1 g2;have hzip:(parts.map fun(i,x)=>(i,a.eval x))=((List.range n).zip (parts.toList.map (fun p=>a.eval p.2))).toArray:=by
        apply Array.ext'
        rw [Array.toList_map];apply List.ext_getElem
        ·simp [hpl]
        ·intro i h1 h2;simp only [List.length_map] at h1;have hk:=List.getElem_of_eq c1 (i:=i) (by simpa using h1)
         simp only [List.getElem_map,List.getElem_range] at hk;simp only [List.getElem_map,List.getElem_zip,List.getElem_range];exact Prod.ext hk rfl
       have hrun:=WN hτ hte rfl htl c2 (vals:=parts.toList.map (fun p=>a.eval p.2)) (css:=css) (by simp [hpl]) (by omega) (fun k h1 h2=>by
        simp only [List.length_map] at h1;obtain⟨q1,ms,q2,_⟩:=g3 k (by omega) h2 (by simpa using h1);have:=Take.size q1 q2
        simp only [List.getElem_map] at this ⊢;exact this) w
       obtain⟨G',hG⟩:=PU h c3 (e:=e) (t:=t) (em:=m) (xs:=xs) (css:=css) (l:=l) (by omega) (fun k h1 h2=>by
        obtain⟨q1,ms,q2,q3⟩:=g3 k h1 h2 (by simp only [List.length_map];omega);exact⟨ms,q2,fun i hi=>by simpa using q3 i hi⟩) hnd.1 hnd.2 n [] (by omega) (by rw [show xs.length=n by omega];simp)
       rw [List.append_nil,show xs.length=n by omega] at hG;refine⟨_,_,G',.inl ?_,hG⟩
       simp only [execOp,hzip,Sem.run_bind,hrun,Result.andThen,Sem.run_pure]
      ·cases hs
     ·cases hs
    ·cases hs
   ·cases hs
  ·cases hs
 ·-- makeSlice
  rename_i T x y d;split at hs
  ·rename_i id1 e t k1 b1 k n ds src hte hx;split at hs
   ·rename_i tl htl;split at hs
    ·rename_i hcd;obtain⟨c1,c2,c3⟩:=hcd;simp only [Option.some.injEq,Prod.mk.injEq] at hs;obtain⟨rfl,rfl,rfl⟩:=hs;obtain⟨hc1,hc2⟩:=hc;obtain⟨v1,k',v2⟩:=bQ hτ h hx c1;have hrun:=XY hτ hte rfl htl (k:=k) (k':=k') hc1 hc2 c3 w
     have hone:∀ u∈t.zc,u.oneCell'=true:=fun u hu=>RepO.one (RepO.zero (w:=w) (own:=G.own) t .ro []) u hu
     obtain⟨G',hG⟩:=PU h c2 (e:=e) (t:=t) (em:=m) (xs:=List.replicate n.toNat t.zero) (css:=List.replicate n.toNat t.zc) (l:=[]) (by simp) (fun k h1 h2=>by
      refine⟨[],?_,fun i hi=>by cases hi⟩
      simp only [List.getElem_replicate];exact⟨Ty.zc_len t,hone,fun q w' own' _ _=>RepO.zero t m q⟩) (by simp) (by simp) n.toNat [] (by simp) (by simp)
     rw [List.append_nil,List.length_replicate] at hG;refine⟨_,_,G',.inl ?_,hG⟩
     simp only [execOp,v1,v2,Sem.run_bind,hrun,Result.andThen,Sem.run_pure]
    ·cases hs
   ·cases hs
  ·cases hs
 ·-- extract
  rename_i i j d;split at hs
  ·rename_i vs hvs;split at hs
   ·rename_i D hD;split at hs
    ·rename_i hno;split at hs
     ·rename_i hcd;simp only [Option.some.injEq,Prod.mk.injEq] at hs;obtain⟨_,rfl,rfl⟩:=hs;have hsl:=h.slots i
      rw [hvs] at hsl;obtain⟨arr,e1,e2,e3⟩:=hsl;obtain⟨hj,rfl⟩:=List.getElem?_eq_some_iff.1 hD;obtain⟨cs,q1,q2⟩:=e3 j hj;have hjs:j<arr.size:=by omega
      have hput:=h.put (d:=d) hcd (i:=0) (av:=.snp vs[j].t vs[j].x [] none) (v:=arr.getD j undef) ⟨cs,q1,RepO.noOwn hno q2,fun p hp=>by cases hp⟩ rfl
      refine⟨w,arr.getD j undef,G,.inl ?_,hput,Ft.refl _ _ _⟩
      have e4:a.eval (.tmp i)=.tuple arr:=e1
      simp only [execOp,e4,Instr.extract,Array.getElem?_eq_getElem hjs,Sem.run_bind,Sem.run_pure,Result.andThen];simp [hjs]
     ·cases hs
    ·split at hs
     ·rename_i hcd;simp only [Option.some.injEq,Prod.mk.injEq] at hs;obtain⟨_,rfl,rfl⟩:=hs;obtain⟨arr,G',e1,hjs,hR,hF⟩:=h.extr hcd.1 hcd.2 hvs hD;refine⟨w,arr.getD j undef,G',.inl ?_,hR,hF⟩
      have e4:a.eval (.tmp i)=.tuple arr:=e1
      simp only [execOp,e4,Instr.extract,Array.getElem?_eq_getElem hjs,Sem.run_bind,Sem.run_pure,Result.andThen];simp [hjs]
     ·cases hs
   ·cases hs
  ·cases hs
 ·-- move
  rename_i i d;split at hs
  ·rename_i D vs hvs;split at hs
   ·rename_i hcd;simp only [Option.some.injEq,Prod.mk.injEq] at hs;obtain⟨_,rfl,rfl⟩:=hs;obtain⟨G',hR,hF⟩:=h.tupMove hcd.1 hcd.2 hvs;refine⟨w,a.tmps.getD i undef,G',.inl ?_,hR,hF⟩
    simp only [execOp,Act.eval,Sem.run_bind,Sem.run_pure,Result.andThen]
   ·cases hs
  ·cases hs
 ·-- append
  rename_i cl d;obtain⟨callee,args,argTypes⟩:=cl;simp only at hs;split at hs
  ·obtain⟨args⟩:=args;obtain⟨argTypes⟩:=argTypes;obtain⟨w',v,G',r1,r2⟩:=ag hτ h hs hc type (args.map fun | .const _=>true | _=>false).toArray
   refine⟨w',v,G',.inl ?_,r2⟩
   simp [execOp,resolve,invoke];exact r1
  ·cases hs
 ·cases hs
theorem ey (o:Oper) {m:Md} {c:Cnd} {σ':S} {rs:List Nat} (hs:ef2 τ σ m o=some (c,σ',rs)) (hc:c.holds):
 ∃ w' v G',(execOp a.eval o).run P w=.ok (.value v) w'∧Rel w0 G0 np σ' (a.put o.dst v) w' G'∧Ft w w' G G' rs:=by
 obtain⟨dst,op,type,pos,after,guard⟩:=o;unfold ef2 at hs;simp only at hs;split at hs
 ·-- box
  rename_i T v d;split at hs
  ·rename_i te t x ds r hte hv;split at hs
   ·rename_i D hD;split at hs
    ·rename_i hcd;obtain⟨c1,c2,c3,c4⟩:=hcd;simp only [Option.some.injEq,Prod.mk.injEq] at hs;obtain⟨_,rfl,rfl⟩:=hs;obtain⟨G',hR,hF⟩:=h.view c4 hD T;refine⟨_,_,G',?_,hR,hF⟩
     have hev:=(h.ev 0 v).1
     rw [hv] at hev;obtain⟨cs,q1,q2,q3⟩:=hev;have hr:2 * (r / 2)+1=r:=by omega
     have hroot:RootR G σ a.tmps w r D none (G.hv (r / 2)).2:=by
      have:=RootR.hdr (G:=G) (σ:=σ) (tmps:=a.tmps) (w:=w) (r / 2) D hD
      rwa [hr] at this
     obtain⟨mm,L',q4,q5⟩:=q3 _ rfl D none _ hroot;simp only [Al,Option.some.injEq,Prod.mk.injEq] at q5;obtain⟨_,q6⟩:=q5;have e:(a.eval v).cells.toList=cs:=q1.cells (RepV.one q2)
     have e2:(a.eval v).cells=(G.hv (r / 2)).2.toArray:=by rw [q6,← e]
     simp only [execOp,Instr.box,newVar,newRow,Sem.run_bind,run_newObj_alloc,Result.andThen,Sem.run_pure,e2]
    ·cases hs
   ·cases hs
  ·cases hs
 ·-- slice
  rename_i T i lo hi d;split at hs
  ·rename_i te e t xs hte hi';split at hs
   ·rename_i l r hl hr;split at hs
    ·rename_i hcd;obtain⟨c1,c2,c3⟩:=hcd;simp only [Option.some.injEq,Prod.mk.injEq] at hs;obtain⟨rfl,rfl,rfl⟩:=hs;obtain⟨A,cp,e1,hle,hcut⟩:=h.cutO c3 hi';obtain⟨h0,h1,h2⟩:=hc;obtain⟨G',hR,hF⟩:=hcut l r h0 h1 h2;refine⟨w,_,G',?_,hR,hF⟩
     have e4:a.eval (.tmp i)=.slice A (List.length xs) cp:=e1
     have hrun:=bV hτ hte c1 hle (w:=w) (A:=A) (Ll hτ h hl) (Ll hτ h hr) h0 h1 h2
     simp only [execOp,e4,Option.map_none];simp only [Sem.run_bind,hrun,Result.andThen,Sem.run_pure]
    ·cases hs
   ·cases hs
  ·cases hs
 ·-- build
  rename_i T parts d;split at hs
  ·rename_i te hte;split at hs
   ·cases hs
   ·split at hs
    ·rename_i m' x l hb;split at hs
     ·rename_i hcd;obtain⟨c1,c2,c3,c4,c5⟩:=hcd;simp only [Option.some.injEq,Prod.mk.injEq] at hs;obtain⟨_,rfl,rfl⟩:=hs;obtain⟨cs,G',hrun,hR,hF⟩:=Wq h hτ c1 hte hb c2 c3 c4 c5;refine⟨w,_,G',?_,hR,hF⟩
      simp only [execOp,Sem.run_bind,hrun,Result.andThen,Sem.run_pure]
     ·cases hs
    ·cases hs
  ·cases hs
 ·-- indexAddr
  rename_i T j ix d;split at hs
  ·rename_i te e t m n0 xs k n di si hte hj hix;split at hs
   ·rename_i hcd;obtain⟨c1,c2,c3⟩:=hcd;simp only [Option.some.injEq,Prod.mk.injEq] at hs;obtain⟨rfl,rfl,rfl⟩:=hs;obtain⟨⟨b1,b2⟩,b3,b4,b5⟩:=hc;obtain⟨A,cp,e1,G',hR,hF⟩:=h.popQ hj c2 b1 b2 b4;have hev:=(h.ev 0 ix).1
    rw [hix] at hev;have hvi:=hev.int
    obtain⟨hu,tel,htel,hte'⟩:=hτ.slice hte c1;have hue:P.elem T=e:=by simp [Program.elem,hu]
    refine⟨w,_,G',?_,hR,hF⟩
    have e4:a.eval (.tmp j)=.slice (some A) xs.length cp:=e1
    have hrun:(Instr.indexAt T (.slice (some A) xs.length cp) (.int k n)).run P w=.ok (.pointer (some (A.add (n.toNat * t.sz)))) w:=by
     rw [run_indexAt_slice w T A xs.length cp k n (by rw [hue];exact hu),if_pos ⟨b1,b2⟩,hue,hτ.size htel w,hte'];rfl
    simp only [execOp,e4,hvi,Sem.run_bind,hrun,Result.andThen,Sem.run_pure]
   ·cases hs
  ·cases hs
 ·-- move
  rename_i s d;split at hs
  ·split at hs
   ·rename_i hcd;simp only [Option.some.injEq,Prod.mk.injEq] at hs;obtain⟨_,rfl,rfl⟩:=hs;have hS:SlotR G σ a.tmps w d (.cp s) (a.tmps.getD s undef):=rfl
    exact⟨w,_,G,rfl,h.put hcd.1 hS rfl,⟨Chg.refl _ _ _,rfl,rfl,rfl,fun _ _=>⟨rfl,rfl,rfl,rfl⟩⟩⟩
   ·cases hs
  ·cases hs
 ·-- load
  rename_i T i d;split at hs
  ·rename_i te t m x r hte hi;split at hs
   ·rename_i hcd;obtain⟨c1,c2,c3⟩:=hcd;subst c1;simp only [Option.some.injEq,Prod.mk.injEq] at hs;obtain⟨rfl,rfl,rfl⟩:=hs;obtain⟨A,ci,e1,hca,hV,hL⟩:=h.loadP hi c3 c2;obtain⟨u,hu,hval⟩:=II hτ hte hca hV;obtain⟨G',hR,hF⟩:=hL u hval;refine⟨w,u,G',?_,hR,hF⟩
    have e4:a.eval (.tmp i)=.pointer (some A):=e1
    simp only [execOp,e4,Sem.run_bind,hu,Result.andThen,Sem.run_pure]
   ·cases hs
  ·cases hs
 ·cases hs
theorem S.putR_ok {d:Nat} {av:AV} {i:Nat} {v:Value} {c:Cnd} {σ':S} {rs:List Nat} (hs:σ.putR d av=some (c,σ',rs)) (hv:SlotR G σ a.tmps w i av v) (hf:av.free=true):Rel w0 G0 np σ' (a.put (some d) v) w G∧Ft w w G G rs:=by
 unfold S.putR at hs;split at hs
 ·rename_i hd;simp only [Option.some.injEq,Prod.mk.injEq] at hs;obtain⟨_,rfl,rfl⟩:=hs;exact⟨h.put hd hv (AV.free_isDat hf),Ft.refl _ _ _⟩
 ·cases hs
theorem fF {T:Nat} {te:TE} (he:hat τ T=some te) {o0 o1:Operand} {i:Nat} {av:AV} {parts:Array (Nat×Operand)} (hp:parts.toList=[(0,o0),(i+1,o1)]) (hs:hsV σ te o0 i o1=some av):
 ∃ v,(Instr.build T (parts.map fun(i,x)=>(i,a.eval x))).run P w=.ok v w∧SlotR G σ a.tmps w 0 av v∧av.free=true:=by
 unfold hsV at hs;split at hs
 ·rename_i r t1 y ds src h0 h1;have e0:=(h.ev 0 o0).1
  have e1:=(h.ev 0 o1).1
  rw [h0] at e0;rw [h1] at e1;split at hs
  ·rename_i off t2 hsub;split at hs
   ·rename_i hcd;obtain⟨c1,c2,rfl,c4,c5,c6⟩:=hcd;split at hs
    ·rename_i x hx;simp only [Option.some.injEq] at hs;subst hs;obtain⟨D,hD⟩:=S.trueB_ok c2;obtain⟨cs,hroot⟩:=h.rootOf.2 _ _ hD;have er:2 * (r / 2)+1=r:=by omega
     rw [er] at hroot;obtain⟨d0,A,cs0,g1,g2,g3⟩:=e0 D _ cs hroot;simp only [Al,Option.some.injEq,Prod.mk.injEq] at g2;obtain⟨g4,_⟩:=g2;rw [← g4] at g3;obtain⟨c1v,v1,v2,_⟩:=e1;have hpl:Pln t1 [a.eval o1] y:=by
      cases t1<;>simp only [Ty.flat,Bool.false_eq_true] at c5
      case int=>have e:c1v=[a.eval o1]:=v1;rw [e] at v2;exact v2
      case bool=>have e:c1v=[a.eval o1]:=v1;rw [e] at v2;exact v2
      case str=>have e:c1v=[a.eval o1]:=v1;rw [e] at v2;exact v2
      case pair=>exact absurd c4 (Ua _ _)
     have hc1:(a.eval o1).cells = #[a.eval o1]:=by
      have e:=(show Pln t1 [a.eval o1] y from hpl)
      cases t1<;>simp only [Ty.flat,Bool.false_eq_true] at c5
      case int=>simp only [Pln,List.cons.injEq,and_true] at e;rw [e];rfl
      case bool=>simp only [Pln,List.cons.injEq,and_true] at e;rw [e];rfl
      case str=>simp only [Pln,List.cons.injEq,and_true] at e;rw [e];rfl
      case pair=>exact absurd c4 (Ua _ _)
     have hb:=Vv hτ he c6 (w:=w) hsub c4 (v0:=a.eval o0) (v1:=a.eval o1) (by rw [g3];rfl) hc1 (parts:=parts.map fun(i,x)=>(i,a.eval x)) (by simp [hp])
     refine⟨_,hb,⟨te.t.zc.set off (a.eval o1),by rw [g3],fun w' own' m lab=>?_⟩,rfl⟩
     exact(Pln.set _ (Pln.zero te.t) hsub c4 hpl hx).O w' own' m lab
    ·cases hs
   ·cases hs
  ·cases hs
 ·cases hs
theorem fA (o:Oper) {m:Md} {c:Cnd} {σ':S} {rs:List Nat} (hs:ef3 τ np σ m o=some (c,σ',rs)):
 ∃ w' v G',(execOp a.eval o).run P w=.ok (.value v) w'∧Rel w0 G0 np σ' (a.put o.dst v) w' G'∧Ft w w' G G' rs:=by
 obtain⟨dst,op,type,pos,after,guard⟩:=o;unfold ef3 at hs;simp only at hs;split at hs
 ·-- nilCheck
  rename_i x d;have hx:=(h.ev 0 x).1
  split at hs
  ·rename_i k k' hxp;rw [hxp] at hx;obtain⟨hR,hF⟩:=S.putR_ok hτ h hs hx rfl;exact⟨w,_,G,by simp only [execOp,hx.2.1];rfl,hR,hF⟩
  ·rename_i t y ds k' hxp;rw [hxp] at hx;obtain⟨hR,hF⟩:=S.putR_ok hτ h hs hx rfl;obtain⟨b,o,cs,e,_⟩:=hx;exact⟨w,_,G,by simp only [execOp,e];rfl,hR,hF⟩
  ·cases hs
 ·-- fieldAddr
  rename_i T x j d;have hx:=(h.ev 0 x).1
  split at hs
  ·rename_i te k k' hte hxp;split at hs
   ·rename_i hcd;rw [hxp] at hx;obtain⟨hR,hF⟩:=S.putR_ok hτ h hs hx rfl;refine⟨w,_,G,?_,hR,hF⟩
    have e:a.eval x=_:=hx.2.1
    have hr:=Nv hτ hte hcd.1 (w:=w) (A:=⟨(G.bl k).1,(G.bl k).2 - 1,none⟩)
    rw [← e] at hr;simp only [execOp,Sem.run_bind,hr,Result.andThen,Sem.run_pure]
   ·cases hs
  ·rename_i te k k' j hte hxp;split at hs
   ·rename_i D hD;split at hs
    ·rename_i hcd;obtain⟨c1,c2,c3⟩:=hcd;obtain⟨r,hr⟩:=Option.isSome_iff_exists.1 c3;rw [hxp] at hx;obtain⟨b,o,e1,_,e3⟩:=h.headAt hx hD;have hp:=h.fieldPtr hD (by rw [c1];exact hr) 0
     obtain⟨hR,hF⟩:=S.putR_ok hτ h hs hp rfl;refine⟨w,_,G,?_,hR,hF⟩
     have hrun:=PP hτ hte c2 (w:=w) (A:=⟨b,o,none⟩) hr
     rw [← e1] at hrun;rw [PE] at hrun;simp only [execOp,Sem.run_bind,hrun,Result.andThen,Sem.run_pure,e3]
    ·cases hs
   ·cases hs
  ·rename_i te t y ds k' hte hxp;split at hs
   ·rename_i hcd;rw [hxp] at hx;obtain⟨hR,hF⟩:=S.putR_ok hτ h hs hx rfl;refine⟨w,_,G,?_,hR,hF⟩
    obtain⟨b,o,cs,e,_⟩:=hx;have hr:=Nv hτ hte hcd (w:=w) (A:=⟨b,o,none⟩)
    rw [← e] at hr;simp only [execOp,Sem.run_bind,hr,Result.andThen,Sem.run_pure]
   ·cases hs
  ·rename_i te t y ds k' j hte hxp;split at hs
   ·rename_i hcd;obtain⟨c1,c2⟩:=hcd;subst c1;split at hs
    ·rename_i d' hd';rw [hxp] at hx;obtain⟨b,o,cs,e1,e2,e3,e4,e5⟩:=hx;obtain⟨off,ho⟩:=Kb _ hd';obtain⟨m',y',k1,k2,k3,k4,_⟩:=FK (w:=w) (ok:=okd w G.own ds) (BB te.k j) .ro y (some ⟨b,o+1,none⟩) cs ho (RepV.len e5);rw [hd'] at k2;have hd2:d'=⟨d'.t,.ro,y'⟩:=by simpa using k2
     have hle:=(Dj _ ho).2
     have hcs:CellsAt w ((⟨b,o+1,none⟩:Addr).add off) ((cs.drop off).take d'.t.sz):=by
      have:=(e4.take_drop off).2 (by rw [RepV.len e5];simp only at hle;omega)
      exact(this.take_drop d'.t.sz).1
     have hp:SlotR G σ a.tmps w 0 (.rp d'.t d'.x ds) (.pointer (some ((⟨b,o+1,none⟩:Addr).add off))):=by
      refine⟨_,_,rfl,by rw [Addr.add_block];exact e2,hcs,?_⟩
      have:=k4 e5
      rw [hd2];exact this
     obtain⟨hR,hF⟩:=S.putR_ok hτ h hs hp rfl;refine⟨w,_,G,?_,hR,hF⟩
     have hrun:=PP hτ hte c2 (w:=w) (A:=⟨b,o,none⟩) ho
     rw [← e1] at hrun;rw [PE] at hrun;simp only [execOp,Sem.run_bind,hrun,Result.andThen,Sem.run_pure]
    ·cases hs
   ·cases hs
  ·cases hs
 ·-- load
  rename_i T x d;have hx:=(h.ev 0 x).1
  split at hs
  ·rename_i te k k' hte hxp;split at hs
   ·rename_i hcd;obtain⟨c1,c2,c3⟩:=hcd;obtain⟨D,hD⟩:=S.trueB_ok c2;rw [hxp] at hx;obtain⟨b,o,e1,e2,_⟩:=h.headAt hx hD;obtain⟨hR,hF⟩:=S.putR_ok hτ h hs (h.boxPtr (S.notHdr_ok c3) 0) rfl;refine⟨w,_,G,?_,hR,hF⟩
    have hrun:=RK hτ hte c1 e2
    rw [← e1] at hrun;simp only [execOp,Sem.run_bind,hrun,Result.andThen,Sem.run_pure]
   ·cases hs
  ·rename_i te t y ds k' hte hxp;split at hs
   ·rename_i hcd;obtain⟨c1,c3⟩:=hcd;rw [hxp] at hx;obtain⟨b,o,cs,e1,_,e2,_⟩:=hx;obtain⟨hR,hF⟩:=S.putR_ok hτ h hs (h.boxPtr (S.notHdr_ok c3) 0) rfl;refine⟨w,_,G,?_,hR,hF⟩
    have hrun:=RK hτ hte c1 e2
    rw [← e1] at hrun;simp only [execOp,Sem.run_bind,hrun,Result.andThen,Sem.run_pure]
   ·cases hs
  ·cases hs
 ·-- assign
  rename_i v d;split at hs
  ·obtain⟨hR,hF⟩:=S.putR_ok hτ h hs (i:=0) (v:=v) trivial rfl;exact⟨w,v,G,rfl,hR,hF⟩
  ·cases hs
 ·-- build
  rename_i T parts d;split at hs
  ·rename_i te o0 i o1 hte hpl;split at hs
   ·rename_i av hav;obtain⟨v,hrun,hS,hf⟩:=fF hτ h hte hpl hav;obtain⟨hR,hF⟩:=S.putR_ok hτ h hs hS hf;refine⟨w,_,G,?_,hR,hF⟩
    simp only [execOp,Sem.run_bind,hrun,Result.andThen,Sem.run_pure]
   ·cases hs
  ·cases hs
 ·-- box
  rename_i T v d;have hx:=(h.ev 0 v).1
  split at hs
  ·rename_i te t x k' hte hxp;split at hs
   ·rename_i hcd;obtain⟨c1,c2,c3,c4⟩:=hcd;simp only [Option.some.injEq,Prod.mk.injEq] at hs;obtain⟨_,rfl,rfl⟩:=hs;rw [hxp] at hx;obtain⟨cs,e1,e2⟩:=hx
    let arr:Array Value:=(Value.pointer (some ⟨(G.bl k').1,(G.bl k').2,none⟩)::cs).toArray
    let own':Own:=fun b=>if b=w.heap.size then some [2 * d+1] else G.own b
    have hn:∀ b,b<w.heap.size→own' b=G.own b:=fun b hb=>if_neg (by omega)
    have hlv:∀ b l,G.own b=some l→b<w.heap.size:=h.live
    have hheap:∀ b,b<w.heap.size→(w.alloc (.cells arr T)).heap[b]?=w.heap[b]?:=fun b hb=>World.heap_alloc_old w _ hb
    have hlen:cs.length=t.sz:=RepO.len (e2 w G.own m [])
    obtain⟨G',g1,g2,g3,g4,g5⟩:=h.newBG c3 c2 (D:=⟨t,m,x⟩) (ms:=[]) (own':=own') (T:=T) (cs:=cs) (w':=w.alloc (.cells arr T)) (b0:=w.heap.size) (o:=1) (arr:=arr)
     ⟨by rw [World.size_alloc];omega,fun b hb hlt=>⟨by rw [hn b hlt];exact hb,hheap b hlt⟩,fun b r s hb _=>⟨by rw [hn b (hlv b _ hb)];exact hb,hheap b (hlv b _ hb)⟩,fun b hb=>⟨by rw [hn b (hlv b _ hb)];exact hb,hheap b (hlv b _ hb)⟩⟩ rfl rfl rfl
     (fun b l hb=>by
      rw [World.size_alloc]
      by_cases hbs:b=w.heap.size
      ·omega
      ·simp only [own',if_neg hbs] at hb;have:=hlv b l hb;omega) (World.heap_alloc_new _ _) (if_pos rfl) (by simp [arr,hlen];omega) (e2 _ _ _ _) (fun j hj=>by simp [arr,Nat.add_comm 1 j,hj])
    have hS:SlotR G' (σ.newB d ⟨t,m,x⟩ []) (a.put (some d) (.pointer (some ⟨w.heap.size,1,none⟩))).tmps (w.alloc (.cells arr T)) 0 (.mp d k') (.pointer (some ⟨w.heap.size,0,none⟩)):=by
     refine⟨by rw [g3];exact Nat.le_refl _,by rw [g3];rfl,?_⟩
     rw [g3,g4,g5 k' (fun e=>c4 e.symm)];simp [arr]
    have hR:=g1.put (d:=d) (by rw [S.newB_len];exact c3) hS rfl
    have hput:((a.put (some d) (.pointer (some ⟨w.heap.size,1,none⟩))).put (some d) (.pointer (some ⟨w.heap.size,0,none⟩)))=a.put (some d) (.pointer (some ⟨w.heap.size,0,none⟩)):=by
     simp [Act.put]
    rw [hput] at hR;refine⟨_,_,G',?_,hR,g2⟩
    have ec:(a.eval v).cells=arr:=by rw [e1];rfl
    simp only [execOp,Instr.box,newVar,newRow,Sem.run_bind,run_newObj_alloc,Result.andThen,Sem.run_pure,ec]
   ·cases hs
  ·cases hs
 ·cases hs
theorem dz {d:Nat} {args:List Operand} {Ts:List Nat} {c:Cnd} {σ':S} {rs:List Nat} (hs:σ.apv τ d args Ts=some (c,σ',rs)) (hc:c.holds) (ty:TypeId) (consts:Array Bool):
 ∃ w' v G',(builtin .append ⟨Ts⟩ ty consts (args.map a.eval).toArray).run P w=.ok (.value v) w'∧Rel w0 G0 np σ' (a.put (some d) v) w' G'∧Ft w w' G G' rs:=by
 unfold S.apv at hs;split at hs
 ·rename_i s x T Tx;split at hs
  ·rename_i id1 e t k1 b1 id2 e' t' k2 b2 t1 xs deps p hT hTx hev;split at hs
   ·rename_i tl dr ys ds htl hdr hys;split at hs
    ·rename_i d0 hd0;split at hs
     ·rename_i ht;subst ht;split at hs
      ·rename_i hcd;obtain⟨c1,c2,c3,c4⟩:=hcd;simp only [Option.some.injEq,Prod.mk.injEq] at hs;obtain⟨rfl,rfl,rfl⟩:=hs;have hx:=(h.ev 0 s).1
       rw [hev] at hx;obtain⟨cs,hv,_,hsrc⟩:=hx;have hcs:cs=[a.eval s]:=hv
       subst hcs;obtain⟨L,cr,hroot⟩:=h.rt hdr;obtain⟨m,L',g1,g2⟩:=hsrc p rfl dr L cr hroot;have e1:=FE _ g1
       rw [hd0] at e1;obtain⟨rfl⟩:=e1;simp only at c1;subst c1;have hR:=h.root hroot
       obtain⟨L2,cs2,f1,f2,_,_,_⟩:=GE p.path (L:=L) hR.1 (fun A hA=>(hR.2 A hA).1) g1;rw [g2] at f1;simp only [Option.some.injEq,Prod.mk.injEq] at f1;obtain⟨rfl,rfl⟩:=f1;obtain⟨cy,q1,q2⟩:=Pa h hys;have q1':cy=[a.eval x]:=q1
       subst q1';obtain⟨css,hcss⟩:=Els.ofV (own:=G.own) (em:=.ro) q2 (.inr c2) rfl;obtain⟨w',v,own',r1,r2,r3,r4,r5,r6,r7,r8,r9,r10⟩:=Wi hτ h hT rfl htl (hτ.slice hTx rfl).1 (by obtain⟨s0,e⟩:=Bi p.root;rw [e];simp) c2 f2 hcss c4 hc ty;obtain⟨b1,b2⟩:=h.below hroot g1 g2 r2 r3 r4 r5 r6 r7 r8 r9;have hap:SlotR { G with own:=own' } (σ.killA [p.root]) a.tmps w' 0 (.ap e t (xs++ys) p) v:=r10
       refine⟨w',v,_,by simp only [builtin,List.map_cons,List.map_nil,Sem.run_bind,r1,Result.andThen,Sem.run_pure],b1.put (by rw [S.killA_len];exact c3) hap rfl,b2.trans (Ft.refl _ _ _)⟩
      ·cases hs
     ·cases hs
    ·cases hs
   ·cases hs
  ·cases hs
 ·cases hs
theorem fC (o:Oper) {m:Md} {c:Cnd} {σ':S} {rs:List Nat} (hs:ef4 τ σ m o=some (c,σ',rs)) (hc:c.holds):
 ∃ w' v G',((execOp a.eval o).run P w=.ok (.value v) w'∨((execOp a.eval o).run P w=.ok .skip w'∧v=undef))∧Rel w0 G0 np σ' (a.put o.dst v) w' G'∧Ft w w' G G' rs:=by
 obtain⟨dst,op,type,pos,after,guard⟩:=o;unfold ef4 at hs;simp only at hs;split at hs
 ·split at hs
  ·-- move
   rename_i s d;split at hs
   ·rename_i k n hk;have hx:=h.slots s
    rw [hk] at hx;obtain⟨hR,hF⟩:=S.putR_ok hτ h hs (i:=0) (show SlotR G σ a.tmps w 0 (.hc k n) (a.tmps.getD s undef) from hx) rfl;exact⟨w,_,G,.inl rfl,hR,hF⟩
   ·rename_i k hk;have hx:=h.slots s
    rw [hk] at hx;obtain⟨hR,hF⟩:=S.putR_ok hτ h hs (i:=0) (show SlotR G σ a.tmps w 0 (.hc k none) (a.tmps.getD s undef) from ⟨hx.1,fun l hl=>by cases hl⟩) rfl;exact⟨w,_,G,.inl rfl,hR,hF⟩
   ·cases hs
  ·-- load
   rename_i T x d;split at hs
   ·rename_i te r π hte hxp;split at hs
    ·rename_i D hD;split at hs
     ·rename_i o e t hsub;split at hs
      ·rename_i hk n hlk;split at hs
       ·rename_i hcd;obtain⟨c1,c2⟩:=hcd;have hx:=(h.ev 0 x).1
        rw [hxp] at hx;obtain⟨cr,hroot⟩:=h.rootOf.2 (r / 2) D hD;have hrr:2 * (r / 2)+1=r:=by omega
        rw [hrr] at hroot;obtain⟨d0,A,cs,g1,g2,g3⟩:=hx D _ cr hroot;have hlr:cr.length=D.t.sz:=RepO.len (h.root hroot).1
        obtain⟨_,_,_,_,g4,_,_⟩:=FK (w:=w) (ok:=fun _=>True) π D.m D.x (some ⟨(G.bl (r / 2)).1,(G.bl (r / 2)).2,none⟩) cr hsub hlr;rw [g2] at g4;simp only [Option.map_some,Option.some.injEq,Prod.mk.injEq] at g4;obtain⟨g5,_⟩:=g4;rw [Addr.add_off rfl] at g5;obtain⟨i,hi,hie⟩:=List.mem_iff_getElem.1 (Mw hlk);have hL:=h.slots i
        have hsl:σ.slot i=.lk (r / 2) o hk n:=by
         simp only [S.slot,List.getD_eq_getElem?_getD,List.getElem?_eq_getElem hi,Option.getD_some,hie]
        rw [hsl] at hL;obtain⟨_,⟨e2,t2,l2⟩,u,l3,l4,l5,l6⟩:=hL;have hval:SlotR G σ a.tmps w 0 (.hc hk n) u:=⟨by rw [l2,l3];rfl,l6⟩
        obtain⟨hR,hF⟩:=S.putR_ok hτ h hs hval rfl;refine⟨w,u,G,.inl ?_,hR,hF⟩
        have g3':a.eval x=.pointer (some ⟨(G.bl (r / 2)).1,(G.bl (r / 2)).2+o,none⟩):=by rw [g3,g5]
        have hrun:(Instr.loadAt T (.pointer (some ⟨(G.bl (r / 2)).1,(G.bl (r / 2)).2+o,none⟩))).run P w=.ok u w:=by
         have hi:te.t.isP=false:=by rw [c2];rfl
         simp only [Instr.loadAt,Instr.sureAddr,loadVar,Sem.run_bind,hτ.agg hte,hi,Result.andThen,Sem.run_pure,Bool.false_eq_true,if_false,run_load,l5]
         all_goals rfl
        simp only [execOp,g3',Sem.run_bind,hrun,Result.andThen,Sem.run_pure]
       ·cases hs
      ·cases hs
     ·cases hs
    ·cases hs
   ·cases hs
  ·-- append
   rename_i cl d;obtain⟨callee,args,argTypes⟩:=cl;simp only at hs;split at hs
   ·obtain⟨args⟩:=args;obtain⟨argTypes⟩:=argTypes;obtain⟨w',v,G',r1,r2⟩:=dz hτ h hs hc type (args.map fun | .const _=>true | _=>false).toArray
    refine⟨w',v,G',.inl ?_,r2⟩
    simp [execOp,resolve,invoke];exact r1
   ·obtain⟨args⟩:=args;obtain⟨argTypes⟩:=argTypes;simp only at hs;split at hs
    ·rename_i s T;split at hs
     ·rename_i id1 e t k1 b1 k n hT hk;have hx:=h.slots s
      rw [hk] at hx;obtain⟨A,c2,hv⟩:=hx.2 n rfl;obtain⟨hR,hF⟩:=S.putR_ok hτ h hs (i:=0) (v:=.int .i64 n) ⟨[.int .i64 n],rfl,rfl,fun p hp=>by cases hp⟩ rfl;obtain⟨hu,_⟩:=hτ.slice hT rfl;have hue:P.elem T=e:=by simp [Program.elem,hu]
      refine⟨w,_,G,.inl ?_,hR,hF⟩
      have ev:a.eval (.tmp s)=.slice A n c2:=hv
      have hrun:=run_len_slice (P:=P) w T type A n c2 (by rw [hue];exact hu)
      simp [execOp,resolve,invoke,ev,builtin,Sem.run_bind,Result.andThen];rw [hrun];rfl
     ·cases hs
    ·cases hs
   ·cases hs
  ·-- store
   rename_i T ad v;split at hs
   ·rename_i te p e t x p' hte had hav;split at hs
    ·rename_i c' d hpe hd;split at hs
     ·rename_i d' σ2 hd' hst;split at hs
      ·rename_i hcd;obtain⟨c1,c2,c3⟩:=hcd;simp only [Option.some.injEq,Prod.mk.injEq] at hs;obtain⟨rfl,rfl,rfl⟩:=hs;have hv:=(h.ev 0 ad).1
       rw [had] at hv;have hx:=(h.ev 0 v).1
       rw [hav] at hx;have hx':RepO w G.own (.list e t) (.own .ro) (Ai p'.root++p'.path.lab) [a.eval v] x:=hx
       rw [← c3,← PV _ _ hpe hc] at hx';obtain⟨A,arr,Tb,e1,e2,e3,e4,G',hG⟩:=h.st hst hv (cs2:=[a.eval v]) (fun d0 d2 hd2 hg=>by
        rw [hd] at hd2;obtain⟨rfl⟩:=hd2;have:=FE _ hg
        rw [hd'] at this;rw [← Option.some.inj this];exact c1) (.inr ⟨rfl,hx'⟩) (.inl rfl) (fun i hi=>by cases hi) none rfl
       refine⟨_,undef,G',.inr ⟨?_,rfl⟩,hG⟩
       have hone:=RepO.one hx' (a.eval v) (by simp)
       have hcl:(a.eval v).cells = #[a.eval v]:=by
        cases hva:a.eval v<;>simp_all [Value.cells,Value.oneCell']
       have:=Ny (P:=P) (T:=T) (v:=a.eval v) (hτ.size hte w) (by rw [hcl,c2];rfl) (by rw [hcl];simpa using hone) e2 e3 (by rw [c2];exact e4)
       rw [hcl] at this;simp only [execOp,e1,Sem.run_bind,this,Result.andThen,Sem.run_pure]
      ·cases hs
     ·cases hs
    ·cases hs
   ·cases hs
  ·cases hs
 ·cases hs
theorem gE (o:Oper) {m:Md} {c:Cnd} {σ':S} {rs:List Nat} (hs:ef τ np σ m o=some (c,σ',rs)) (hc:c.holds):
 ∃ w' v G',((execOp a.eval o).run P w=.ok (.value v) w'∨((execOp a.eval o).run P w=.ok .skip w'∧v=undef))∧Rel w0 G0 np σ' (a.put o.dst v) w' G'∧Ft w w' G G' rs:=by
 unfold ef at hs;split at hs
 ·rename_i r hr;rw [hs] at hr;exact eu hτ h o hr hc
 ·split at hs
  ·rename_i r hr;rw [hs] at hr;obtain⟨w',v,G',h1,h2⟩:=ey hτ h o hr hc;exact⟨w',v,G',.inl h1,h2⟩
  ·split at hs
   ·rename_i r hr;rw [hs] at hr;obtain⟨w',v,G',h1,h2⟩:=fA hτ h o hr;exact⟨w',v,G',.inl h1,h2⟩
   ·exact fC hτ h o hs hc
omit hτ in
theorem Sb (hI:Inv P w0 G0.own) {cal:Cal} (hF:FOK P cal) (hmd:cal.md≠3) {chk:List Nat→List Nat→Bool} {os:List Operand} {d:Nat} {α:Type} {k:S→List Nat→Option α} {r:α} (hs:Jl σ chk cal os d k=some r) {ra:List Value}
 (hra:∀ ds fr,chk ds fr=true→∀ own',(∀ b,okd w G.own ds b→own' b=none)→(∀ b,G.own b=some []→own' b=some [])→(∀ b r s,G.own b=some (r::s)→r % 2=1→r ∉ fr→own' b=none∨own' b=some [])→PD cal.md w own' (os.map a.eval) ra):
 Calls P cal.f ra.toArray w (fun e w'=>∃ v,e=.returned v∧∃ G' σ' rs,Rel w0 G0 np σ' (a.put (some d) v) w' G'∧Ft w w' G G' rs∧k σ' rs=some r):=by
 unfold Jl at hs;split at hs
 ·rename_i x ds l fl hargs;split at hs
  ·rename_i hcd;simp only [Option.bind_eq_some_iff] at hs;obtain⟨y,hy,hs⟩:=hs;split at hs
   ·rename_i av hav;split at hs
    case isFalse=>cases hs
    rename_i hcv;split at hs
    case h_2=>cases hs
    rename_i σ' hcal';have hcall:=al h hI hF hmd hargs hcd.2.1 hcd.2.2.1 hcd.2.2.2.2.1 hcd.2.2.2.2.2 hy hav hcd.2.2.2.1 hcal' (fun D hD=>by
     have:=List.all_eq_true.1 hcv D hD
     simpa using this) (hra ds _ hcd.1)
    refine Calls.mono hcall (fun e w' he=>?_)
    obtain⟨v,rfl,G',hR,hFt⟩:=he;exact⟨v,rfl,G',σ',_,hR,hFt,hs⟩
   ·cases hs
  ·cases hs
 ·cases hs
omit hτ in
theorem bJ {md:Nat} {o:Operand} {av:AV} {k:Nat} {dp bx:List Nat} (hs:Zl md σ (σ.ev o)=some (av,k,dp,bx)):av.isDat=false∧(md=1∨md=2)∧∃ v1,SlotR G σ a.tmps w 0 av v1 ∧
 ∀ own',(∀ b,okd w G.own dp b→own' b=none)→(∀ b,G.own b=some []→own' b=some [])→(∀ b r s,G.own b=some (r::s)→r∈bx→r % 2=1→own' b=none∨own' b=some [])→∀ mid,PD md w own' (v1::(mid++[.pointer (some ⟨(G.bl k).1,(G.bl k).2,none⟩)])) (a.eval o::mid):=by
 have hev:=(h.ev 0 o).1
 unfold Zl at hs;split at hs
 ·rename_i i k' hx;rw [hx] at hev;split at hs
  ·rename_i md' D hb;simp only [Option.some.injEq,Prod.mk.injEq] at hs;obtain⟨rfl,rfl,rfl,rfl⟩:=hs;obtain⟨b,o',e1,e2,e3⟩:=h.headAt hev hb;have hp:=h.boxPtr (k':=i) (fun D' hD'=>by rw [hb] at hD';cases hD') 0
   refine⟨rfl,.inl rfl,_,hp,fun own' _ _ _ mid=>⟨b,o',_,mid,by rw [e3],by rw [e1],e2⟩⟩
  ·rename_i md' D hb;split at hs
   ·rename_i hcd;simp only [Option.some.injEq,Prod.mk.injEq] at hs;obtain⟨rfl,rfl,rfl,rfl⟩:=hs;obtain⟨b,o',e1,e2,e3⟩:=h.headAt hev hb;obtain⟨cs,hroot⟩:=h.rootOf.2 _ _ hb;have hR:=h.root hroot
    obtain⟨hca,_,q,hq,hlt⟩:=hR.2 _ rfl;have hown:∃ s,G.own (G.bl i).1=some ((2 * i+1)::s):=by
     obtain⟨arr,_,g2,_⟩:=h.boxes i _ hb;exact⟨[],g2⟩
    have hV:=RepO.noOwn hcd.1 hR.1
    refine⟨rfl,.inr rfl,.agg cs.toArray,⟨cs,?_,hV,fun p hp=>by cases hp⟩,fun own' _ _ ho mid=>⟨b,o',_,cs,mid,rfl,by rw [e1],e2,?_,?_,?_⟩⟩
    ·have:=hcd.2
     cases hD:D.t<;>rw [hD] at this<;>simp only [Ty.isP,Bool.false_eq_true] at this
     rfl
    ·rw [e3] at hca;exact hca
    ·obtain⟨s,hs⟩:=hown;rw [e3] at hs;exact ho b _ s hs (by simp) (by omega)
    ·obtain⟨s,hs⟩:=hown;rw [e3] at hs;exact h.live b _ hs
   ·cases hs
  ·cases hs
 ·rename_i t y ds k' hx;rw [hx] at hev;split at hs
  ·rename_i hcd;simp only [Option.some.injEq,Prod.mk.injEq] at hs;obtain⟨rfl,rfl,rfl,rfl⟩:=hs;obtain⟨rfl,hP⟩:=hcd;obtain⟨b,o',cs,e1,e2,e3,e4,e5⟩:=hev;refine⟨rfl,.inr rfl,.agg cs.toArray,⟨cs,?_,e5,fun p hp=>by cases hp⟩,fun own' ho ho2 _ mid=>⟨b,o',_,cs,mid,rfl,by rw [e1],e3,e4,?_,?_⟩⟩
   rotate_left
   ·rcases e2 with e2 | ⟨_,e2⟩
    ·exact .inl (ho b e2)
    ·exact .inr (ho2 b e2)
   ·rcases e2 with e2 | ⟨e2,_⟩
    ·exact e2.1
    ·exact e2
   cases ht:t<;>rw [ht] at hP<;>simp only [Ty.isP,Bool.false_eq_true] at hP
   rfl
  ·cases hs
 ·cases hs
omit hτ in
theorem ZD (hI:Inv P w0 G0.own) {cal:Cal} (hF:FOK P cal) {os:List Operand} {d:Nat} {α:Type} {k:S→List Nat→Option α} {r:α} (hs:LA σ cal os d k=some r):
 Calls P cal.f (os.map a.eval).toArray w (fun e w'=>∃ v,e=.returned v∧∃ G' σ' rs,Rel w0 G0 np σ' (a.put (some d) v) w' G'∧Ft w w' G G' rs∧k σ' rs=some r):=by
 unfold LA at hs;simp only [S.frc_eq] at hs;split at hs
 ·rename_i tm os;split at hs
  ·rename_i av bk dp bx hl;split at hs
   ·rename_i hcd;obtain⟨c1,c2,c3,c4,c5⟩:=hcd;obtain⟨hdat,hmd,v1,hv1,hreal⟩:=bJ h hl;have h1:=h.put c2 hv1 hdat
    have h2:=h1.put (d:=d) (by simpa [S.put] using c3) (h1.boxPtr (k':=bk) (S.notHdr_ok c4) 0) rfl
    have hts:tm<a.tmps.size:=by rw [← h.tmps];exact c2
    have hds:d<a.tmps.size:=by rw [← h.tmps];exact c3
    have hds1:d<(a.put (some tm) v1).tmps.size:=by simp [Act.put];exact hds
    have evo:∀ o∈os,((a.put (some tm) v1).put (some d) (.pointer (some ⟨(G.bl bk).1,(G.bl bk).2,none⟩))).eval o=a.eval o:=fun o ho=>by
     have:=List.all_eq_true.1 c5 o ho
     simp only [Bool.and_eq_true,Bool.not_eq_true'] at this;cases o with
     | tmp j=>
      simp only [Vx,beq_eq_false_iff_ne] at this;simp only [Act.eval];rw [Act.put_getD _ _ _ _ hds1,if_neg (fun e=>this.2 e.symm),Act.put_getD _ _ _ _ hts,if_neg (fun e=>this.1 e.symm)]
     | _=>rfl
    have hmap:(Operand.tmp tm::(os++[.tmp d])).map ((a.put (some tm) v1).put (some d) (.pointer (some ⟨(G.bl bk).1,(G.bl bk).2,none⟩))).eval=v1::(os.map a.eval++[.pointer (some ⟨(G.bl bk).1,(G.bl bk).2,none⟩)]):=by
     simp only [List.map_cons,List.map_append,List.map_nil];have e1:((a.put (some tm) v1).put (some d) (.pointer (some ⟨(G.bl bk).1,(G.bl bk).2,none⟩))).eval (.tmp tm)=v1:=by
      simp only [Act.eval];rw [Act.put_getD _ _ _ _ hds1,if_neg (fun e=>c1 e.symm),Act.put_getD _ _ _ _ hts,if_pos rfl]
     have e2:((a.put (some tm) v1).put (some d) (.pointer (some ⟨(G.bl bk).1,(G.bl bk).2,none⟩))).eval (.tmp d)=.pointer (some ⟨(G.bl bk).1,(G.bl bk).2,none⟩):=by
      simp only [Act.eval];rw [Act.put_getD _ _ _ _ hds1,if_pos rfl]
     rw [e1,e2,List.map_congr_left evo]
    have hcall:=Sb h2 hI hF (by rcases hmd with e | e<;>omega) hs (ra:=a.eval (.tmp tm)::os.map a.eval) (fun ds fr hck own' ho ho2 ho3=>by
     rw [hmap];rw [Bool.and_eq_true] at hck;refine hreal own' (fun b hb=>ho b ⟨hb.1,?_⟩) ho2 (fun b r s hb hr hr2=>ho3 b r s hb hr2 (by
      have:=List.all_eq_true.1 hck.2 r hr
      simpa using this)) _
     rcases hb.2 with e | ⟨r,hr,s,hs⟩
     ·exact .inl e
     ·refine .inr ⟨r,?_,s,hs⟩
      have:=List.all_eq_true.1 hck.1 r hr
      simpa using this)
    refine Calls.mono hcall (fun e w' he=>?_)
    obtain⟨v,rfl,G',σ',rs,hR,hFt,hk⟩:=he;refine⟨v,rfl,G',σ'.put tm .none,rs++[2 * tm],?_,hFt.trans (Ft.refl _ _ _),hk⟩
    have h3:=hR.put (d:=tm) (by rw [hR.tmps];simp [Act.put];exact hts) (av:=.none) (v:=a.eval (.tmp tm)) (i:=0) trivial rfl
    have heq:((((a.put (some tm) v1).put (some d) (.pointer (some ⟨(G.bl bk).1,(G.bl bk).2,none⟩))).put (some d) v).put (some tm) (a.eval (.tmp tm)))=a.put (some d) v:=by
     cases a with
     | mk tmps defers=>
      simp only [Act.put,Act.eval]
      congr 1
      apply Array.ext'
      simp only [Array.toList_setIfInBounds];apply List.ext_getElem?
      intro i;simp only [List.getElem?_set,List.length_set];have hts':tm<tmps.toList.length:=hts
      by_cases e1:tm=i
      ·subst e1;rw [if_pos rfl,if_pos hts',if_neg (fun e=>c1 e.symm)];have hts2:tm<tmps.size:=hts
       simp [Array.getD_eq_getD_getElem?,hts2]
      ·rw [if_neg e1]
       by_cases e2:d=i
       ·rw [if_pos e2,if_pos e2]
       ·rw [if_neg e2,if_neg e2,if_neg e2,if_neg e1]
    rw [heq] at h3;exact h3
   ·cases hs
  ·cases hs
 ·cases hs
omit hτ in
theorem Wr (hI:Inv P w0 G0.own) {cal:Cal} (hF:FOK P cal) (hmd:cal.md=3) {os:List Operand} {d:Nat} {α:Type} {k:S→List Nat→Option α} {r:α} (hs:LB np σ cal os d k=some r):
 Calls P cal.f (os.map a.eval).toArray w (fun e w'=>∃ v,e=.returned v∧∃ G' σ' rs,Rel w0 G0 np σ' (a.put (some d) v) w' G'∧Ft w w' G G' rs∧k σ' rs=some r):=by
 obtain⟨f,ps,rs,F,md⟩:=cal;simp only at hmd;subst hmd;unfold LB at hs;simp only at hs;split at hs
 ·rename_i x hargs;split at hs
  ·rename_i hcd;simp only [Option.bind_eq_some_iff] at hs;obtain⟨y,hy,hs⟩:=hs;split at hs
   ·rename_i D hD
    match rs,F,y,hD,hF,hy with
    | [rt],F,y,hD,hF,hy=>
     simp only [Rs,Option.some.injEq] at hD;subst hD;refine Calls.mono (ZF h hI hF hargs hy hcd.1 hcd.2) (fun e w' he=>?_)
     obtain⟨v,rfl,G',hR,hFt⟩:=he;exact⟨v,rfl,G',_,_,hR,hFt,hs⟩
    | [],F,y,hD,hF,hy=>simp [Rs] at hD
    | _::_::_,F,y,hD,hF,hy=>simp [Rs] at hD
   ·cases hs
  ·cases hs
 ·cases hs
omit hτ in
theorem ZB (hI:Inv P w0 G0.own) {cal:Cal} (hF:FOK P cal) {os:List Operand} {d:Nat} {α:Type} {k:S→List Nat→Option α} {r:α} (hs:Kz np σ cal os d k=some r):
 Calls P cal.f (os.map a.eval).toArray w (fun e w'=>∃ v,e=.returned v∧∃ G' σ' rs,Rel w0 G0 np σ' (a.put (some d) v) w' G'∧Ft w w' G G' rs∧k σ' rs=some r):=by
 unfold Kz at hs;split at hs
 ·rename_i hmd;exact Sb h hI hF (by omega) hs (fun _ _ _ _ _ _ _=>by rw [hmd];rfl)
 ·rename_i hmd;exact Wr h hI hF hmd hs
 ·split at hs
  ·exact ZD h hI hF hs
  ·cases hs
theorem TY {Φ:List Cal} (hΦ:Ld P Φ w0 G0.own) (o:Oper) {hh:OH} {α:Type} {k:S→List Nat→Option α} {r:α} (hs:HW τ Φ np hh σ o k=some r) {K:Act→World→Prop} {Q:Exit→Act→World→Prop}
 (hK:∀ σ' rs v w' G',Rel w0 G0 np σ' (a.put o.dst v) w' G'→Ft w w' G G' rs→k σ' rs=some r→K (a.put o.dst v) w'):o.wp P a w K Q:=by
 unfold HW at hs;simp only [S.share_eq] at hs;split at hs
 ·cases hs
 ·rename_i σ1 hg;obtain⟨G1,h1,hf1⟩:=h.grabs _ hg;split at hs
  ·rename_i c σ' rs hef;obtain⟨hc,hk⟩:=Cnd.run_some hs;obtain⟨w',v,G',hrun,hR,hF⟩:=gE hτ h1 o hef hc;unfold Oper.wp;rcases hrun with hrun | ⟨hrun,rfl⟩
   ·rw [hrun];exact hK σ' _ v w' G' hR (hf1.trans hF) hk
   ·rw [hrun];exact hK σ' _ undef w' G' hR (hf1.trans hF) hk
  ·split at hs
   ·rename_i c av d hpv hd;split at hs
    ·rename_i hlt;obtain⟨hc,hk⟩:=Cnd.run_some hs;obtain⟨v,i,hrun,hS,hf⟩:=gN hτ h1 o hpv hc;unfold Oper.wp;rw [hrun];have:=h1.put hlt hS (AV.free_isDat hf)
     rw [hd] at hK;simp only [Oper.upon,hd];exact hK _ _ v w G1 this (hf1.trans (Ft.refl _ _ _)) hk
    ·cases hs
   ·split at hs
    ·rename_i cl d hop hd;obtain⟨callee,args,argTypes⟩:=cl;simp only at hs;split at hs
     ·rename_i f;split at hs
      ·rename_i cal hcal;have hmem:=List.mem_of_find?_eq_some hcal
       have hfe:=List.find?_some hcal
       simp only [beq_iff_eq] at hfe;obtain⟨⟨fn,f1,f2,f3⟩,hF⟩:=hΦ.1 cal hmem;have hcall:=ZB h1 hΦ.2 hF hs
       unfold Oper.wp;rw [hfe] at f1 hcall;have hrun:(execOp a.eval o).run P w=.ok (.enter f (args.toList.map a.eval).toArray) w:=by
        have hb:¬ fn.body=none:=by cases hbb:fn.body<;>simp [hbb] at f3 ⊢
        have f2' : ¬ fn.name = "runtime.NumGoroutine" := by simpa using f2
        simp [execOp,hop,resolve,invoke,callFunc,Act.eval,f1,f2',hb,Deferred.ofValue];apply Array.ext'
        simp
       rw [hrun];refine Calls.mono hcall (fun e w' he=>?_)
       obtain⟨v,rfl,G',σ',rs,hR,hFt,hk⟩:=he;rw [hd] at hK;simp only [hd];exact hK _ _ v w' G' hR (hf1.trans hFt) hk
      ·cases hs
     ·cases hs
    ·cases hs
theorem aD {Φ:List Cal} (hΦ:Ld P Φ w0 G0.own) (o:Oper) {hh:OH} {α:Type} {k:S→Option α} {r:α} (hs:Pf τ Φ np hh σ o k=some r) {K:Act→World→Prop} {Q:Exit→Act→World→Prop}
 (hK:∀ σ' v w' G',Rel w0 G0 np σ' (a.put o.dst v) w' G'→k σ'=some r→K (a.put o.dst v) w'):o.wp P a w K Q:=
 TY hτ h hΦ o hs fun σ' _ v w' G' hR _ hk=>hK σ' v w' G' hR (by rw [← hk,S.frc_eq])
end
def S.isDt (σ:S) (i:Nat):Bool:=match σ.slot i with
 | .dat _=>true
 | _=>false
theorem S.isDt_ok {σ:S} {i:Nat} (h:σ.isDt i=true):∃ d,σ.slot i=.dat d:=by
 unfold S.isDt at h;split at h
 ·rename_i d hd;exact⟨d,hd⟩
 ·cases h
def AV.lone:AV→Bool
 | .fn _ | .que .. | .mp .. | .mr ..=>true
 | _=>false
theorem Rel.weak {w0:World} {G0:Gh} {np:Nat} {σ σ2:S} {a:Act} {w:World} {G:Gh} (h:Rel w0 G0 np σ a w G) (hlen:σ2.sl.length=σ.sl.length) (hbox:∀ k bx,σ2.box k=some bx→σ.box k=some bx)
 (hsl:∀ i,σ2.slot i=.none∨(∃ e t m,σ2.slot i=.dat ⟨.list e t,m,[]⟩∧σ.slot i=.nilS)∨(∃ d,σ2.slot i=.dat d∧σ.slot i=.dat d)∨(∃ t x deps,σ2.slot i=.snp t x deps none∧SlotR G σ a.tmps w i (.snp t x deps none) (a.tmps.getD i undef)) ∨
  (∃ p,σ2.slot i=.ptr p∧σ.slot i=.ptr p∧(p.root % 2 == 1 || σ.isDt (p.root / 2))=true)∨(∃ k d,σ2.slot i=.hdr k∧σ.slot i=.hdr k∧σ2.box k=some (false,d))∨(∃ av,σ2.slot i=av∧σ.slot i=av∧av.lone=true)):Rel w0 G0 np σ2 a w G:=by
 refine { os:=h.os,tape:=h.tape,output:=h.output,size:=h.size,live:=h.live,keep:=h.keep,frn:=h.frn,ext:=h.ext,slots:=fun i=>?_,boxes:=fun k bx hb=>h.boxes k bx (hbox k bx hb),tmps:=hlen.trans h.tmps,defers:=h.defers }
 have hs:=h.slots i
 rcases hsl i with e | ⟨e,t,m,e1,e2⟩ | ⟨d,e1,e2⟩ | ⟨t,x,deps,e1,e2⟩ | ⟨p,e1,e2,e3⟩ | ⟨k,d,e1,e2,e3⟩ | ⟨f,e1,e2,e3⟩
 ·rw [e];trivial
 ·rw [e1];rw [e2] at hs;have hs':a.tmps.getD i undef=.slice none 0 0:=hs
  rw [hs'];exact⟨[.slice none 0 0],rfl,RepO.nil m _⟩
 ·rw [e1];rw [e2] at hs;exact hs
 ·rw [e1];obtain⟨cs,h1,h2,_⟩:=e2;exact⟨cs,h1,h2,fun p hp=>by cases hp⟩
 ·rw [e1];rw [e2] at hs;intro d L cr hroot;have:RootR G σ a.tmps w p.root d L cr:=by
   by_cases hev:p.root % 2=0
   ·have hdt:σ.isDt (p.root / 2)=true:=by
     simp only [Bool.or_eq_true,beq_iff_eq] at e3;rcases e3 with e3 | e3
     ·omega
     ·exact e3
    obtain⟨d1,hd1⟩:=S.isDt_ok hdt;obtain⟨hs2,hL,hv⟩:=hroot.slot_inv (j:=p.root / 2) (by omega);subst hL;have hs3:σ.slot (p.root / 2)=.dat d:=by
     rcases hsl (p.root / 2) with f | ⟨e,t,m,f1,f2⟩ | ⟨d',f1,f2⟩ | ⟨t,x,deps,f1,f2⟩ | ⟨p',f1,f2,f3⟩ | ⟨k,d',f1,f2,f3⟩ | ⟨f,f1,f2,f3⟩
     ·rw [f] at hs2;cases hs2
     ·rw [f2] at hd1;cases hd1
     ·rw [f1] at hs2;rw [f2,hs2]
     ·rw [f1] at hs2;cases hs2
     ·rw [f1] at hs2;cases hs2
     ·rw [f1] at hs2;cases hs2
     ·rw [f2,← f1,hs2]
    have:=RootR.slot (G:=G) (σ:=σ) (tmps:=a.tmps) (w:=w) (p.root / 2) d cr hs3 hv
    rwa [show 2 * (p.root / 2)=p.root by omega] at this
   rcases hroot.box_inv (k:=p.root / 2) (by omega) with⟨hb,hL,hl,hc⟩ | ⟨hb,hL,hc⟩
   ·subst hL;have:=RootR.box (G:=G) (σ:=σ) (tmps:=a.tmps) (w:=w) (p.root / 2) d cr (hbox _ _ hb) hl hc
    rwa [show 2 * (p.root / 2)+1=p.root by omega] at this
   ·subst hL hc;have:=RootR.hdr (G:=G) (σ:=σ) (tmps:=a.tmps) (w:=w) (p.root / 2) d (hbox _ _ hb)
    rwa [show 2 * (p.root / 2)+1=p.root by omega] at this
  exact hs d L cr this
 ·rw [e1];rw [e2] at hs;exact⟨hs.1,d,e3⟩
 ·rw [e1];rw [e2] at hs;cases f<;>first | exact hs | simp [AV.lone] at e3
inductive En where
 | dat (i:Nat) (t:Ty) (m:Md)
 | snp (i:Nat) (t:Ty) (deps:List Nat)
 | box (k:Nat) (b:Bool) (t:Ty) (m:Md)
 | pt (i r:Nat) (π1 π2:Path)
 | que (i e:Nat) (t:Ty) (m:Md)
 | mp (i k h:Nat)
 | mr (i:Nat) (t:Ty) (h:Nat)
@[reducible] def En.t:En→Ty
 | .dat _ t _=>t
 | .snp _ t _=>t
 | .box _ _ t _=>t
 | .pt _ _ _ _=>.int .i64
 | .que _ e t _=>.pair (.list e t) (.int .i64)
 | .mp _ _ _=>.int .i64
 | .mr _ t _=>t
structure Gam where
 es:List En
 ps:List (Nat×Place)
 hs:List (Nat×Nat)
def Hh:Path→Path→Bool
 | [],[]=>true
 | .f::π,.f::π'=>Hh π π'
 | .s::π,.s::π'=>Hh π π'
 | _,_=>false
def Ed:Path→Path→Path→Option Int
 | .i n::π,[],π2=>if Hh π π2 then some n else none
 | .f::π,.f::π1,π2=>Ed π π1 π2
 | .s::π,.s::π1,π2=>Ed π π1 π2
 | _,_,_=>none
@[reducible] def ets (es:List En):List Ty:=es.map En.t
def En.get (σ:S):(e:En)→Option e.t.D
 | .dat i t m=>match σ.slot i with
  | .dat d=>if h:d.t=t then (if d.m=m then some (h ▸ d.x) else none) else none
  | .nilS=>match t with
   | .list _ _=>some []
   | _=>none
  | _=>none
 | .snp i t deps=>match roV t (σ.ev (.tmp i)) with
  | some (x,ds)=>if ds.all (fun r=>deps.contains r) then some x else none
  | none=>none
 | .box k b t m=>match σ.box k with
  | some (b',d)=>if h:d.t=t then (if d.m=m∧b'=b then some (h ▸ d.x) else none) else none
  | none=>none
 | .pt i r π1 π2=>match σ.slot i with
  | .ptr p=>if p.root == r && (r % 2 == 1 || σ.isDt (r / 2)) then Ed p.path π1 π2 else none
  | _=>none
 | .que i e t m=>match σ.slot i with
  | .que e' t' m' n x=>if h:t'=t then (if e'=e∧m'=m then some ((h ▸ x:List t.D),n) else none) else none
  | _=>none
 | .mp i k h=>match σ.slot i with
  | .mp k' h'=>if k'=k∧h'=h then some (0:Int) else none
  | _=>none
 | .mr i t h=>match σ.slot i with
  | .mr t' x [] h'=>if e:t'=t then (if h'=h then some (e ▸ x) else none) else none
  | _=>none
def Rv (σ:S):(es:List En)→Option (HL (ets es))
 | []=>some ()
 | e::es=>match e.get σ,Rv σ es with
  | some x,some xs=>some (x,xs)
  | _,_=>none
def WL (σ:S) (q:Nat×Place):Bool:=match σ.slot q.1 with
 | .ptr p=>p.root == q.2.root && (p.root % 2 == 1 || σ.isDt (p.root / 2)) && Hh p.path q.2.path
 | _=>false
def Vu (σ:S) (q:Nat×Nat):Bool:=match σ.slot q.1 with
 | .hdr k=>k == q.2
 | _=>false
def Gam.hok (Γ:Gam):Bool:=Γ.hs.all fun q=>Γ.es.any fun | .box k false _ _=>k == q.2 | _=>false
def Gam.pack (Γ:Gam) (σ:S):Option (HL (ets Γ.es)):=if Γ.ps.all (WL σ) && Γ.hs.all (Vu σ) && Γ.hok then Rv σ Γ.es else none
def unE:(es:List En)→HL (ets es)→S→S
 | [],_,σ=>σ
 | .dat i t m::es,x,σ=>unE es x.2 (σ.setSlot i (.dat ⟨t,m,x.1⟩))
 | .snp i t deps::es,x,σ=>unE es x.2 (σ.setSlot i (Fa t x.1 deps none))
 | .box k b t m::es,x,σ=>unE es x.2 (σ.setBox k (some (b,⟨t,m,x.1⟩)))
 | .pt i r π1 π2::es,x,σ=>unE es x.2 (σ.setSlot i (.ptr ⟨r,π1++.i x.1::π2⟩))
 | .que i e t m::es,x,σ=>unE es x.2 (σ.setSlot i (.que e t m x.1.2 x.1.1))
 | .mp i k h::es,x,σ=>unE es x.2 (σ.setSlot i (.mp k h))
 | .mr i t h::es,x,σ=>unE es x.2 (σ.setSlot i (.mr t x.1 [] h))
def Gam.un (Γ:Gam) (n:Nat) (x:HL (ets Γ.es)):S:=
 Γ.hs.foldl (fun σ q=>σ.setSlot q.1 (.hdr q.2)) (Γ.ps.foldl (fun σ q=>σ.setSlot q.1 (.ptr q.2)) (unE Γ.es x ⟨List.replicate n .none,[],[]⟩))
theorem Nc:∀ {π π':Path},Hh π π'=true→π=π'
 | [],[],_=>rfl
 | .f::π,.f::π',h=>by rw [Nc (π:=π) (π':=π') h]
 | .s::π,.s::π',h=>by rw [Nc (π:=π) (π':=π') h]
 | [],.f::_,h=>by simp [Hh] at h
 | [],.s::_,h=>by simp [Hh] at h
 | [],.i _::_,h=>by simp [Hh] at h
 | .f::_,[],h=>by simp [Hh] at h
 | .s::_,[],h=>by simp [Hh] at h
 | .i _::_,_,h=>by simp [Hh] at h
 | .f::_,.s::_,h=>by simp [Hh] at h
 | .f::_,.i _::_,h=>by simp [Hh] at h
 | .s::_,.f::_,h=>by simp [Hh] at h
 | .s::_,.i _::_,h=>by simp [Hh] at h
theorem NM:∀ {π π1 π2:Path} {n:Int},Ed π π1 π2=some n→π=π1++.i n::π2
 | .i m::π,[],π2,n,h=>by
  simp only [Ed] at h;split at h
  ·rename_i he;simp only [Option.some.injEq] at h;rw [Nc he,h];rfl
  ·cases h
 | .f::π,.f::π1,π2,n,h=>by rw [NM (π:=π) (π1:=π1) h];rfl
 | .s::π,.s::π1,π2,n,h=>by rw [NM (π:=π) (π1:=π1) h];rfl
 | [],[],_,_,h=>by simp [Ed] at h
 | [],_::_,_,_,h=>by simp [Ed] at h
 | .f::_,[],_,_,h=>by simp [Ed] at h
 | .s::_,[],_,_,h=>by simp [Ed] at h
 | .i _::_,_::_,_,_,h=>by simp [Ed] at h
 | .f::_,.s::_,_,_,h=>by simp [Ed] at h
 | .f::_,.i _::_,_,_,h=>by simp [Ed] at h
 | .s::_,.f::_,_,_,h=>by simp [Ed] at h
 | .s::_,.i _::_,_,_,h=>by simp [Ed] at h
section
variable {w0:World} {G0:Gh} {np:Nat} {σ:S} {a:Act} {w:World} {G:Gh} (h:Rel w0 G0 np σ a w G)
include h
def LY (G:Gh) (σ:S) (a:Act) (w:World) (i:Nat) (av:AV):Prop:=av=.none∨(∃ e t m,av=.dat ⟨.list e t,m,[]⟩∧σ.slot i=.nilS)∨(∃ d,av=.dat d∧σ.slot i=.dat d) ∨
 (∃ t x deps,av=.snp t x deps none∧SlotR G σ a.tmps w i (.snp t x deps none) (a.tmps.getD i undef))∨(∃ p,av=.ptr p∧σ.slot i=.ptr p∧(p.root % 2 == 1 || σ.isDt (p.root / 2))=true)∨(∃ av',av=av'∧σ.slot i=av'∧av'.lone=true)
theorem Xu:∀ (es:List En) {x:HL (ets es)} {σ2:S},Rv σ es=some x→(∀ k bx,σ2.box k=some bx→σ.box k=some bx)→(∀ i,LY G σ a w i (σ2.slot i)) →
 (unE es x σ2).sl.length=σ2.sl.length∧(∀ k bx,(unE es x σ2).box k=some bx→σ.box k=some bx)∧(∀ i,LY G σ a w i ((unE es x σ2).slot i)) ∧
 (∀ k bx,σ2.box k=some bx→(unE es x σ2).box k≠none)∧(∀ k t m,En.box k false t m∈es→∃ d,(unE es x σ2).box k=some (false,d))
 | [],x,σ2,_,h1,h2=>⟨rfl,h1,h2,fun k bx hb=>by simp [unE,hb],fun k t m hm=>by cases hm⟩
 | e::es,x,σ2,hp,h1,h2=>by
  simp only [Rv] at hp;split at hp
  ·rename_i x1 xs hx hxs;simp only [Option.some.injEq] at hp;subst hp;have key:∀ (σ3:S),unE (e::es) (x1,xs) σ2=unE es xs σ3→σ3.sl.length=σ2.sl.length→(∀ k bx,σ3.box k=some bx→σ.box k=some bx)→(∀ i,LY G σ a w i (σ3.slot i))→(∀ k bx,σ2.box k=some bx→σ3.box k≠none) →
    (∀ k t m,e=En.box k false t m→∃ d,σ3.box k=some (false,d)) →
    ((unE (e::es) (x1,xs) σ2).sl.length=σ2.sl.length∧(∀ k bx,(unE (e::es) (x1,xs) σ2).box k=some bx→σ.box k=some bx)∧(∀ i,LY G σ a w i ((unE (e::es) (x1,xs) σ2).slot i))∧(∀ k bx,σ2.box k=some bx→(unE (e::es) (x1,xs) σ2).box k≠none)∧(∀ k t m,En.box k false t m∈(e::es)→∃ d,(unE (e::es) (x1,xs) σ2).box k=some (false,d))):=fun σ3 e0 k1 k2 k3 k4 k5=>by
    obtain⟨g1,g2,g3,g4,g5⟩:=Xu es hxs k2 k3;rw [e0];refine⟨g1.trans k1,g2,g3,fun k bx hb=>?_,fun k t m hm=>?_⟩
    ·cases h3:σ3.box k with
     | none=>exact absurd h3 (k4 k bx hb)
     | some bx3=>exact g4 k bx3 h3
    ·rcases List.mem_cons.1 hm with hm | hm
     ·obtain⟨d,hd⟩:=k5 k t m hm.symm;have h5:=g4 k _ hd
      cases h6:(unE es xs σ3).box k with
      | none=>exact absurd h6 h5
      | some bx6=>
       have:=g2 k bx6 h6
       rw [k2 k _ hd] at this;obtain⟨rfl⟩:=this;exact⟨d,rfl⟩
     ·exact g5 k t m hm
   have hset:∀ i av,LY G σ a w i av→∀ j,LY G σ a w j ((σ2.setSlot i av).slot j):=fun i av hf j=>by
    rw [S.setSlot_slot];split
    ·rename_i hh;rw [← hh.1];exact hf
    ·exact h2 j
   cases e with
   | dat i t m=>
    refine key (σ2.setSlot i (.dat ⟨t,m,x1⟩)) rfl (S.setSlot_len _ _ _) h1 (hset i _ ?_) (fun k bx hb=>by rw [S.setSlot_box,hb];simp) (fun k t m hh=>by cases hh)
    simp only [En.get] at hx;split at hx
    ·rename_i d hd;split at hx
     ·rename_i ht;obtain⟨dt,dm,dx⟩:=d;simp only at ht;subst ht;split at hx
      ·rename_i hm;simp only at hm;subst hm;simp only [Option.some.injEq] at hx;subst hx;exact .inr (.inr (.inl ⟨_,rfl,hd⟩))
      ·cases hx
     ·cases hx
    ·rename_i hn;split at hx
     ·simp only [Option.some.injEq] at hx;subst hx;exact .inr (.inl ⟨_,_,_,rfl,hn⟩)
     ·cases hx
    ·cases hx
   | snp i t deps=>
    refine key (σ2.setSlot i (Fa t x1 deps none)) rfl (S.setSlot_len _ _ _) h1 (hset i _ ?_) (fun k bx hb=>by rw [S.setSlot_box,hb];simp) (fun k t m hh=>by cases hh)
    simp only [En.get] at hx;split at hx
    ·rename_i x2 ds hr;split at hx
     ·rename_i hall;simp only [Option.some.injEq] at hx;subst hx;obtain⟨cs,q1,q2⟩:=Pa h hr;have hsub:∀ r∈ds,r∈deps:=fun r hr=>by
       have:=List.all_eq_true.1 hall r hr
       simpa using this
      have hS:SlotR G σ a.tmps w i (.snp t x2 deps none) (a.tmps.getD i undef):=⟨cs,q1,RepV.deps hsub q2,fun p hp=>by cases hp⟩
      have hS2:=hS.mk
      unfold Fa at hS2 ⊢;split
      ·rename_i hf;rw [if_pos hf] at hS2;exact .inr (.inr (.inr (.inl ⟨t,x2,[],rfl,hS2⟩)))
      ·exact .inr (.inr (.inr (.inl ⟨t,x2,deps,rfl,hS⟩)))
     ·cases hx
    ·cases hx
   | box k b t m=>
    simp only [En.get] at hx;split at hx
    ·rename_i b' d hd;split at hx
     ·rename_i ht;obtain⟨dt,dm,dx⟩:=d;simp only at ht;subst ht;split at hx
      ·rename_i hm;simp only at hm;obtain⟨rfl,rfl⟩:=hm;simp only [Option.some.injEq] at hx;subst hx;refine key (σ2.setBox k (some (b',⟨dt,dm,dx⟩))) rfl rfl (fun k2 bx hb=>?_) (fun j=>h2 j) (fun k2 bx hb=>?_) (fun k2 t2 m2 hh=>?_)
       ·rw [S.setBox_box] at hb;split at hb
        ·rename_i e;subst e;obtain⟨rfl⟩:=hb;exact hd
        ·exact h1 k2 bx hb
       ·rw [S.setBox_box];split
        ·simp
        ·rw [hb];simp
       ·simp only [En.box.injEq] at hh;obtain⟨rfl,rfl,_,_⟩:=hh;exact⟨_,by rw [S.setBox_box,if_pos rfl]⟩
      ·cases hx
     ·cases hx
    ·cases hx
   | pt i r π1 π2=>
    refine key (σ2.setSlot i (.ptr ⟨r,π1++.i x1::π2⟩)) rfl (S.setSlot_len _ _ _) h1 (hset i _ ?_) (fun k bx hb=>by rw [S.setSlot_box,hb];simp) (fun k t m hh=>by cases hh)
    simp only [En.get] at hx;split at hx
    ·rename_i p hp;split at hx
     ·rename_i hcd;rw [Bool.and_eq_true,beq_iff_eq] at hcd;have e:=NM hx
      have ep:p=⟨r,π1++.i x1::π2⟩:=by
       cases p
       simp only at e hcd;rw [e,hcd.1]
      rw [← ep];exact .inr (.inr (.inr (.inr (.inl ⟨p,rfl,hp,by rw [hcd.1];exact hcd.2⟩))))
     ·cases hx
    ·cases hx
   | que i e t m=>
    refine key (σ2.setSlot i (.que e t m x1.2 x1.1)) rfl (S.setSlot_len _ _ _) h1 (hset i _ ?_) (fun k bx hb=>by rw [S.setSlot_box,hb];simp) (fun k t m hh=>by cases hh)
    simp only [En.get] at hx;split at hx
    ·rename_i e' t' m' n y hq;split at hx
     ·rename_i ht;subst ht;split at hx
      ·rename_i hcd;obtain⟨rfl,rfl⟩:=hcd;simp only [Option.some.injEq] at hx;subst hx;exact .inr (.inr (.inr (.inr (.inr ⟨_,rfl,hq,rfl⟩))))
      ·cases hx
     ·cases hx
    ·cases hx
   | mp i k k'=>
    refine key (σ2.setSlot i (.mp k k')) rfl (S.setSlot_len _ _ _) h1 (hset i _ ?_) (fun k bx hb=>by rw [S.setSlot_box,hb];simp) (fun k t m hh=>by cases hh)
    simp only [En.get] at hx;split at hx
    ·rename_i k1 k2 hq;split at hx
     ·rename_i hcd;obtain⟨rfl,rfl⟩:=hcd;exact .inr (.inr (.inr (.inr (.inr ⟨_,rfl,hq,rfl⟩))))
     ·cases hx
    ·cases hx
   | mr i t k=>
    refine key (σ2.setSlot i (.mr t x1 [] k)) rfl (S.setSlot_len _ _ _) h1 (hset i _ ?_) (fun k bx hb=>by rw [S.setSlot_box,hb];simp) (fun k t m hh=>by cases hh)
    simp only [En.get] at hx;split at hx
    ·rename_i t' y k' hq;split at hx
     ·rename_i ht;subst ht;split at hx
      ·rename_i hcd;subst hcd;simp only [Option.some.injEq] at hx;subst hx;exact .inr (.inr (.inr (.inr (.inr ⟨_,rfl,hq,rfl⟩))))
      ·cases hx
     ·cases hx
    ·cases hx
  ·cases hp
theorem Gam.ok (Γ:Gam) {x:HL (ets Γ.es)} (hp:Γ.pack σ=some x):Rel w0 G0 np (Γ.un σ.sl.length x) a w G:=by
 unfold Gam.pack at hp;split at hp
 ·rename_i hcd;simp only [Bool.and_eq_true,List.all_eq_true] at hcd;obtain⟨⟨hps,hhs⟩,hok⟩:=hcd;obtain⟨g1,g2,g3,_,g5⟩:=Xu h Γ.es (σ2:=⟨List.replicate σ.sl.length .none,[],[]⟩) hp (fun k bx hb=>by simp [S.box] at hb) (fun i=>.inl (by
   simp only [S.slot,List.getD_eq_getElem?_getD,List.getElem?_replicate];split<;>rfl))
  simp only [List.length_replicate] at g1;have hps2:∀ (l:List (Nat×Place)) (σ3:S),(∀ q∈l,WL σ q=true)→(∀ i,LY G σ a w i (σ3.slot i))→(l.foldl (fun σ q=>σ.setSlot q.1 (.ptr q.2)) σ3).sl.length=σ3.sl.length∧(∀ k,(l.foldl (fun σ q=>σ.setSlot q.1 (.ptr q.2)) σ3).box k=σ3.box k) ∧
   ∀ i,LY G σ a w i ((l.foldl (fun σ q=>σ.setSlot q.1 (.ptr q.2)) σ3).slot i):=by
   intro l
   induction l with
   | nil=>intro σ3 _ h3;exact⟨rfl,fun _=>rfl,h3⟩
   | cons q l ih=>
    intro σ3 hq h3;obtain⟨a1,a2,a3⟩:=ih (σ3.setSlot q.1 (.ptr q.2)) (fun q' hq'=>hq q' (by simp [hq'])) (fun i=>by
     rw [S.setSlot_slot];split
     ·rename_i hh;have:=hq q (by simp)
      unfold WL at this;split at this
      ·rename_i p hp;rw [Bool.and_eq_true,Bool.and_eq_true,beq_iff_eq] at this;obtain⟨⟨e1,e2⟩,e3⟩:=this;have e4:=Nc e3
       have:p=q.2:=by cases p;cases hq2:q.2;rw [hq2] at e1 e4;simp_all
       rw [← this,← hh.1];exact .inr (.inr (.inr (.inr (.inl ⟨p,rfl,hp,e2⟩))))
      ·cases this
     ·exact h3 i)
    exact⟨by rw [List.foldl_cons,a1,S.setSlot_len],fun k=>by rw [List.foldl_cons,a2 k];rfl,by rw [List.foldl_cons];exact a3⟩
  obtain⟨b1,b2,b3⟩:=hps2 Γ.ps _ hps g3;have hhs2:∀ (l:List (Nat×Nat)) (σ3:S),(∀ q∈l,Vu σ q=true∧∃ d,σ3.box q.2=some (false,d))→(∀ i,LY G σ a w i (σ3.slot i)∨∃ k d,σ3.slot i=.hdr k∧σ.slot i=.hdr k∧σ3.box k=some (false,d)) →
   (l.foldl (fun σ q=>σ.setSlot q.1 (.hdr q.2)) σ3).sl.length=σ3.sl.length∧(∀ k,(l.foldl (fun σ q=>σ.setSlot q.1 (.hdr q.2)) σ3).box k=σ3.box k) ∧
   ∀ i,LY G σ a w i ((l.foldl (fun σ q=>σ.setSlot q.1 (.hdr q.2)) σ3).slot i)∨∃ k d,(l.foldl (fun σ q=>σ.setSlot q.1 (.hdr q.2)) σ3).slot i=.hdr k∧σ.slot i=.hdr k∧σ3.box k=some (false,d):=by
   intro l
   induction l with
   | nil=>intro σ3 _ h3;exact⟨rfl,fun _=>rfl,h3⟩
   | cons q l ih=>
    intro σ3 hq h3;obtain⟨a1,a2,a3⟩:=ih (σ3.setSlot q.1 (.hdr q.2)) (fun q' hq'=>hq q' (by simp [hq'])) (fun i=>by
     rw [S.setSlot_slot];split
     ·rename_i hh;obtain⟨this,d,hd⟩:=hq q (by simp);unfold Vu at this;split at this
      ·rename_i k hk;simp only [beq_iff_eq] at this;subst this;rw [← hh.1];exact .inr ⟨q.2,d,rfl,hk,hd⟩
      ·cases this
     ·exact h3 i)
    exact⟨by rw [List.foldl_cons,a1,S.setSlot_len],fun k=>by rw [List.foldl_cons,a2 k];rfl,by rw [List.foldl_cons];exact a3⟩
  have hbx:∀ q∈Γ.hs,∃ d,(unE Γ.es x ⟨List.replicate σ.sl.length .none,[],[]⟩).box q.2=some (false,d):=by
   intro q hq;have:=List.all_eq_true.1 hok q hq
   obtain⟨e,he,hek⟩:=List.any_eq_true.1 this;cases e with
   | box k b t m=>
    cases b with
    | false=>
     simp only [beq_iff_eq] at hek;subst hek;exact g5 _ t m he
    | true=>simp at hek
   | _=>simp at hek
  obtain⟨c1,c2,c3⟩:=hhs2 Γ.hs _ (fun q hq=>⟨hhs q hq,by rw [b2];exact hbx q hq⟩) (fun i=>.inl (b3 i));refine h.weak (by rw [Gam.un,c1,b1,g1]) (fun k bx hb=>?_) (fun i=>?_)
  ·rw [Gam.un,c2,b2] at hb;exact g2 k bx hb
  ·rcases c3 i with h1 | ⟨k,d,e1,e2,e3⟩
   ·rcases h1 with h1 | h1 | h1 | h1 | h1 | h1
    ·exact .inl h1
    ·exact .inr (.inl h1)
    ·exact .inr (.inr (.inl h1))
    ·exact .inr (.inr (.inr (.inl h1)))
    ·exact .inr (.inr (.inr (.inr (.inl h1))))
    ·exact .inr (.inr (.inr (.inr (.inr (.inr h1)))))
   ·refine .inr (.inr (.inr (.inr (.inr (.inl ⟨k,d,e1,e2,?_⟩)))))
    rw [Gam.un,c2];exact e3
 ·cases hp
end
def CQ (l:List (Nat×OH)) (i:Nat):OH:=match l.find? (fun p=>p.1 == i) with
 | some p=>p.2
 | none=>⟨[],.ro,[],[],none⟩
def S.skip (σ:S):Option Nat→S
 | some d=>σ.newA d (.tup []) []
 | none=>σ
def GC (σ:S):Option Nat→Bool
 | some d=>decide (d<σ.sl.length)
 | none=>true
def und:AV→Bool
 | .tup []=>true
 | _=>false
def HF {α:Type} (τ:List TE) (Φ:List Cal) (np:Nat) (all:List Oper) (hs:List (Nat×OH)):Nat→List Oper→S→(S→Option α)→Option α
 | _,[],σ,k=>k σ
 | i,o::os,σ,k=>match o.guard with
  | none=>Pf τ Φ np (CQ hs i) σ o fun σ'=>HF τ Φ np all hs (i+1) os σ' k
  | some (j,want)=>match (all[j]?).bind (·.dst) with
   | some t=>match σ.ev (.tmp t) with
    | .snp .bool b _ _=>match want with
     | true=>bif b then Pf τ Φ np (CQ hs i) (σ.setSlot t (DE true)) o (fun σ'=>HF τ Φ np all hs (i+1) os σ' k) else
      (if GC σ o.dst=true then HF τ Φ np all hs (i+1) os ((σ.setSlot t (DE false)).skip o.dst) k else none)
     | false=>bif b then (if GC σ o.dst=true then HF τ Φ np all hs (i+1) os ((σ.setSlot t (DE true)).skip o.dst) k else none) else
      Pf τ Φ np (CQ hs i) (σ.setSlot t (DE false)) o (fun σ'=>HF τ Φ np all hs (i+1) os σ' k)
    | _=>if und (σ.slot t)=true∧GC σ o.dst=true then HF τ Φ np all hs (i+1) os (σ.skip o.dst) k else none
   | none=>none
theorem Rel.know {w0:World} {G0:Gh} {np:Nat} {σ:S} {a:Act} {w:World} {G:Gh} (h:Rel w0 G0 np σ a w G) {t:Nat} {b:Bool} {ds:List Nat} {src:Option Place} (hs:σ.ev (.tmp t)=.snp .bool b ds src):
 Rel w0 G0 np (σ.setSlot t (DE b)) a w G∧a.tmps[t]?=some (.bool b):=by
 have hsl:=(h.ev 0 (.tmp t)).1
 rw [hs] at hsl;have hb:a.tmps.getD t undef=.bool b:=hsl.bool
 have hlt:t<σ.sl.length:=by
  rcases Nat.lt_or_ge t σ.sl.length with h | h
  ·exact h
  ·simp only [S.ev,S.slot,List.getD_eq_getElem?_getD,List.getElem?_eq_none h,Option.getD_none] at hs;cases hs
 have hlt2:t<a.tmps.size:=by rw [← h.tmps];exact hlt
 refine⟨?_,?_⟩
 ·have hne:∀ i,(σ.setSlot t (DE b)).slot i=if t=i then DE b else σ.slot i:=fun i=>by
   rw [S.setSlot_slot]
   by_cases e:t=i
   ·rw [if_pos ⟨e,hlt⟩,if_pos e]
   ·rw [if_neg (fun hh=>e hh.1),if_neg e]
  have hroots:∀ r d L cs,RootR G (σ.setSlot t (DE b)) a.tmps w r d L cs→RootR G σ a.tmps w r d L cs:=by
   intro r d L cs hr;cases hr with
   | slot i d cs hs' hv=>
    rw [hne i] at hs';split at hs'
    ·cases hs'
    ·exact .slot i d cs hs' hv
   | box k d cs hb hl hc=>exact .box k d cs hb hl hc
   | hdr k d hb=>exact .hdr k d hb
  refine { os:=h.os,tape:=h.tape,output:=h.output,size:=h.size,live:=h.live,keep:=h.keep,frn:=h.frn,ext:=h.ext,slots:=fun i=>?_,boxes:=fun k bx hb=>h.boxes k bx hb,tmps:=by rw [S.setSlot_len];exact h.tmps,defers:=h.defers }
  rw [hne i];split
  ·rename_i e;subst e;rw [hb];exact⟨[.bool b],rfl,rfl,fun p hp=>by cases hp⟩
  ·have hsi:=h.slots i
   cases hav:σ.slot i<;>rw [hav] at hsi
   case none=>trivial
   case dat d=>exact hsi
   case snp t' x deps src'=>
    obtain⟨cs,q1,q2,q3⟩:=hsi;exact⟨cs,q1,q2,fun p hp d L cr hr=>q3 p hp d L cr (hroots _ _ _ _ hr)⟩
   case ptr p=>exact fun d L cr hr=>hsi d L cr (hroots _ _ _ _ hr)
   case rp t' x deps=>exact hsi
   case nilS=>exact hsi
   case hdr k=>exact hsi
   case vw k π=>exact hsi
   case que e t m n x=>exact hsi
   case cp s=>exact hsi
   case mp k k2=>exact hsi
   case mr t x deps k=>exact hsi
   case hs t x k=>exact hsi
   case hc k n=>exact hsi
   case lk k o k2 n=>exact hsi
   case ap e t x p=>exact hsi
   case pp t m x r=>exact hsi
   case tup vs=>exact hsi
   case fn f=>exact hsi
 ·rw [Array.getD_eq_getD_getElem?,Array.getElem?_eq_getElem hlt2] at hb;simp only [Option.getD_some] at hb;rw [Array.getElem?_eq_getElem hlt2,hb]
theorem Rel.skip {w0:World} {G0:Gh} {np:Nat} {σ:S} {a:Act} {w:World} {G:Gh} (h:Rel w0 G0 np σ a w G) {dst:Option Nat} (hd:GC σ dst=true):Rel w0 G0 np (σ.skip dst) (a.put dst undef) w G:=by
 cases dst with
 | none=>exact h
 | some d=>
  have hd':d<σ.sl.length:=by simpa [GC] using hd
  exact h.newA hd' (av:=.tup []) (v:=undef) (ms:=[]) (w':=w) (own':=G.own) (Chg.refl _ _ _) rfl rfl rfl h.live (by simp) (fun σ' tmps=>⟨#[],rfl,rfl,fun j hj=>absurd hj (Nat.not_lt_zero j)⟩)
theorem Rel.und {w0:World} {G0:Gh} {np:Nat} {σ:S} {a:Act} {w:World} {G:Gh} (h:Rel w0 G0 np σ a w G) {t:Nat} (hu:und (σ.slot t)=true) {ops:Array Oper} {j:Nat} (hj:(ops[j]?).bind (·.dst)=some t):yielded ops a.tmps j=none:=by
 have hsl:=h.slots t
 unfold Go.Proofs.YtmakhmoielhjeaaGreatDoorE.und at hu;split at hu
 ·rename_i hs;rw [hs] at hsl;obtain⟨arr,e1,e2,_⟩:=hsl;have hlt:t<a.tmps.size:=by
   rw [← h.tmps];rcases Nat.lt_or_ge t σ.sl.length with h | h
   ·exact h
   ·simp only [S.slot,List.getD_eq_getElem?_getD,List.getElem?_eq_none h] at hs;cases hs
  rw [Array.getD_eq_getD_getElem?,Array.getElem?_eq_getElem hlt,Option.getD_some] at e1;simp only [yielded,hj,Option.bind_some,Array.getElem?_eq_getElem hlt,e1]
 ·cases hu
section
variable {P:Program} {τ:List TE} (hτ:TabOk P τ) {Φ:List Cal} {w0:World} {G0:Gh} {np:Nat} (hΦ:Ld P Φ w0 G0.own)
include hτ hΦ
theorem JN {α:Type} {ops:Array Oper} {hs:List (Nat×OH)} {k:S→Option α} {r:α} {Q:Exit→Act→World→Prop}:∀ (os:List Oper) (i:Nat) {σ:S} {a:Act} {w:World} {G:Gh},
 HF τ Φ np ops.toList hs i os σ k=some r→ops.toList.drop i=os→Rel w0 G0 np σ a w G→(∀ σ' a' w' G',Rel w0 G0 np σ' a' w' G'→k σ'=some r→Q .normal a' w')→wpOps P ops Q (List.range' i os.length) a w
 | [],i,σ,a,w,G,hd,_,h,hQ=>hQ σ a w G h hd
 | o::os,i,σ,a,w,G,hd,hdrop,h,hQ=>by
  have hlt:i<ops.toList.length:=by
   rcases Nat.lt_or_ge i ops.toList.length with h1 | h1
   ·exact h1
   ·rw [List.drop_of_length_le h1] at hdrop;cases hdrop
  have hcons:=List.drop_eq_getElem_cons hlt
  rw [hdrop] at hcons;obtain⟨ho,hos⟩:=List.cons.inj hcons;have hoi:ops[i]?=some o:=by
   rw [ho];simp only [Array.length_toList] at hlt;simp [hlt]
  rw [List.length_cons,List.range'_succ];simp only [wpOps,hoi];simp only [HF] at hd;have next:∀ (σ1:S) (G1:Gh),Rel w0 G0 np σ1 a w G1→Pf τ Φ np (CQ hs i) σ1 o (fun σ'=>HF τ Φ np ops.toList hs (i+1) os σ' k)=some r→o.wp P a w (wpOps P ops Q (List.range' (i+1) os.length)) Q:=fun σ1 G1 h1 hk=>
   aD hτ h1 hΦ o hk (fun σ' v w' G' hR hk'=>JN os (i+1) hk' hos.symm hR hQ)
  split at hd
  ·rename_i hg;have hw:Region.wanted o (yielded ops a.tmps)=true:=by simp only [Region.wanted,hg]
   rw [if_pos hw];exact .inl (next σ G h hd)
  ·rename_i j want hg;split at hd
   ·rename_i t ht;have ht':(ops[j]?).bind (·.dst)=some t:=by simpa using ht
    split at hd
    ·rename_i b ds src hs';obtain⟨hkn,htm⟩:=h.know hs';have hy:yielded ops a.tmps j=some b:=by simp only [yielded,ht',Option.bind_some,htm]
     have hw:Region.wanted o (yielded ops a.tmps)=(b == want):=by
      simp only [Region.wanted,hg,hy];cases b<;>cases want<;>rfl
     rw [hw];cases want with
     | true=>
      cases b with
      | true=>
       simp only [cond_true] at hd;exact .inl (next _ G hkn hd)
      | false=>
       simp only [cond_false] at hd;split at hd
       ·rename_i hl;have:=hkn.skip (dst:=o.dst) (by unfold GC at hl ⊢;rw [S.setSlot_len];exact hl)
        exact JN os (i+1) hd hos.symm this hQ
       ·cases hd
     | false=>
      cases b with
      | true=>
       simp only [cond_true] at hd;split at hd
       ·rename_i hl;have:=hkn.skip (dst:=o.dst) (by unfold GC at hl ⊢;rw [S.setSlot_len];exact hl)
        exact JN os (i+1) hd hos.symm this hQ
       ·cases hd
      | false=>
       simp only [cond_false] at hd;exact .inl (next _ G hkn hd)
    ·split at hd
     ·rename_i hc;have hy:=h.und hc.1 ht'
      have hw:Region.wanted o (yielded ops a.tmps)=false:=by simp only [Region.wanted,hg,hy];rfl
      rw [hw];exact JN os (i+1) hd hos.symm (h.skip hc.2) hQ
     ·cases hd
   ·cases hd
end
end Go.Proofs.YtmakhmoielhjeaaGreatDoorE

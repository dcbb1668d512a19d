/- The law FnFlowsWays, the plain part. No condition beyond the law's own bounds. -/
import Derived.Test.YtmakhmoielhjeaaGreatDoorLawPuB
set_option linter.all false
namespace Go.Proofs.YtmakhmoielhjeaaGreatDoorE
set_option maxRecDepth 100000
namespace X
theorem jZ (l:List Int) (hl:l.length≤1048576):GM l l=some (true,()):=by
 have h:=CF (step:=Dw) l (fun _=>true) (fun k=>(l,l,(k:Int),())) (.inl ()) (.inr (false,())) (fun k hk=>by
  simp only [Dw,BC hk,decide_true,cond_true,Ab hk,ne_eq,not_true_eq_false,decide_false,cond_false,Option.map_some,Al (show k<9223372036854775807 by omega)]) (by
  simp only [Dw,Ae,decide_false,cond_false,Option.map_some])
 have h':AH Dw (l,l,(0:Int),())=_:=h
 simp only [GM,ne_eq,not_true_eq_false,decide_false,cond_false,Option.bind_some,h'];have:(l.all fun _=>true)=true:=by simp
 rw [this];rfl
theorem Yp (code:List Int) (h:code.length≤1048576):wp (Gk code) fun y=>y.1.length=12∧∀ n∈y.1,0≤n∧n<10000:=by
 unfold Gk;refine AF (AD (Yk code h) fun y1 hy1=>AF (AD (LJ _ hy1) fun y2 hy2=>AQ (AF (AA (AD (wp_loop (fun x:GV=>0≤x.2.1∧x.2.1≤12∧(x.1.length:Int)=x.2.1∧COk x.2.2.1∧∀ n∈x.1,0≤n∧n<10000) (fun x=>(12 - x.2.1).toNat) (Q:=fun x:List Int×Unit=>x.1.length=12∧∀ n∈x.1,0≤n∧n<10000) (fun x hx=>?_) ⟨by simp,by simp,rfl,hy2.2.2,by simp⟩) fun y hy=>AA hy)))))
 obtain⟨l,i,c,_⟩:=x;simp only at hx;obtain⟨i0,i1,hl,hc,hn⟩:=hx;unfold KH;simp only;refine AM (fun hj=>?_) fun hj=>AL (AA (Ah ⟨by have:=of_decide_eq_false hj;simp only;omega,hn⟩))
 have hj':=of_decide_eq_true hj
 refine AF (AD (Bs _ _ hc) fun y hy=>AN (show(_:Nat)≤_ by simp only [List.length_singleton];omega) (AL (AA (Aj ?_))))
 rw [Aa (by omega) (by omega)];refine⟨⟨by simp only;omega,by simp only;omega,by simp only [List.length_append,List.length_singleton];omega,hy.2.2.2,fun n hm=>?_⟩,by simp only;omega⟩
 rcases List.mem_append.1 hm with hm | hm
 ·exact hn n hm
 ·rw [List.mem_singleton.1 hm];exact⟨hy.1,hy.2.1 (by omega)⟩
theorem nV (c:CODE) (l:List BLK) (hg:GOk l) (h1:CB c=some (l,())) (h2:CJ c=some (l,())):∃ d,Ew c=some (d,())∧Dn c=some (d,())∧DM l d:=by
 obtain⟨⟨d,_⟩,e1,hd⟩:=cg hg h1;obtain⟨⟨e,_⟩,e2,he⟩:=cf hg h2;simp only at hd he;have:=hd.uniq he
 subst this;exact⟨d,e1,e2,hd⟩
theorem iP (c:CODE) (l:List BLK) (hg:GOk l) (hp:0<l.length) (h1:CB c=some (l,())) (h2:CJ c=some (l,())) {d:List (List Bool)} (s1:Ew c=some (d,())) (s2:Dn c=some (d,())) (hd:DM l d):∃ o,Du c=some (o,())∧Fc c=some (o,())∧o.length≤400∧∀ h∈o,0≤h∧h<(l.length:Int)∧Rea l (-1) h:=by
 obtain⟨⟨r,_⟩,r1,hr⟩:=MO hg (-1);simp only at hr;obtain⟨⟨o,_⟩,o1,ho⟩:=YW hg h2 r1 s2 hr.1 hd.sq;simp only at ho;have hlen:=OP l r d (l.length:Int)
 have hn:=hg.n
 obtain⟨⟨r',_⟩,r2,hr'⟩:=Sd hg hp;simp only at hr';have:=hr.uniq hr'
 subst this;obtain⟨⟨o',_⟩,o2,ho'⟩:=YX hg h1 hp r2 s1 hr.1 hd.sq;simp only at ho';refine⟨o,by rw [ho,← ho'];exact o2,o1,by rw [ho];omega,fun h hh=>?_⟩
 rw [ho] at hh;obtain⟨m1,m2⟩:=List.mem_filter.1 hh;obtain⟨h0,h1'⟩:=QN.1 m1;simp only [isH,Bool.and_eq_true] at m2;exact⟨h0,h1',(hr.2 h h0 h1').1 m2.1⟩
section
variable {l:List BLK} {dm:List (List Bool)} {hs:List Int} {n g:Int} {c:CODE}
theorem XJ {i k:Int} (hg:GOk l) (hk:Rea l g k) {out:List Bool} {all:List Int} (i0:0≤i) (i1:i<(all.length:Int)) (hal:all.length+fls out≤1000) (h:BW l g (fun i=>i=k) out (all.drop (i+1).toNat)) {M:Nat} (hM:(all.drop (i+1).toNat).length+2 * fls out≤M):
 wp (AH GU (l,dm,hs,n,g,out,all,i,(rd l k zB).2.2,(0:Int),c,())) fun y=>y.1=l∧y.2.1=dm∧y.2.2.1=hs∧y.2.2.2.1=n∧y.2.2.2.2.1=g∧y.2.2.2.2.2.2.2.1=i∧y.2.2.2.2.2.2.2.2.1=c∧i<(y.2.2.2.2.2.2.1.length:Int)∧y.2.2.2.2.2.2.1.length+fls y.2.2.2.2.2.1≤1000∧BQ l g M y.2.2.2.2.2.1 (y.2.2.2.2.2.2.1.drop (i+1).toNat):=by
 have hnl:=hg.nl k
 have hnx:=hg.nx k
 generalize hN:(rd l k zB).2.2=N at *;refine wp_loop (fun x:Dd=>x.1=l∧x.2.1=dm∧x.2.2.1=hs∧x.2.2.2.1=n∧x.2.2.2.2.1=g∧BW l g (fun i=>i=k) x.2.2.2.2.2.1 (x.2.2.2.2.2.2.1.drop (i+1).toNat)∧x.2.2.2.2.2.2.2.1=i∧x.2.2.2.2.2.2.2.2.1=N∧0≤x.2.2.2.2.2.2.2.2.2.1∧x.2.2.2.2.2.2.2.2.2.1≤(N.length:Int)∧x.2.2.2.2.2.2.2.2.2.2.1=c∧(x.2.2.2.2.2.2.1.drop (i+1).toNat).length+2 * fls x.2.2.2.2.2.1≤M∧i<(x.2.2.2.2.2.2.1.length:Int)∧x.2.2.2.2.2.2.1.length+fls x.2.2.2.2.2.1≤1000∧∀ m∈N.take x.2.2.2.2.2.2.2.2.2.1.toNat,m≠g→rd x.2.2.2.2.2.1 m false=true) (fun x=>(N.length - x.2.2.2.2.2.2.2.2.2.1).toNat) (fun x hx=>?_) ⟨rfl,rfl,rfl,rfl,rfl,h,rfl,rfl,by simp,by simp,rfl,hM,i1,hal,by simp⟩
 obtain⟨x1,x2,x3,x4,x5,o,t,x8,x9,j,x11,_⟩:=x;simp only at hx;obtain⟨rfl,rfl,rfl,rfl,rfl,hb,rfl,rfl,j0,j1,rfl,hm,hit,hsz0,hc⟩:=hx;unfold GU;simp only;refine AM (fun hj=>?_) fun hj=>AL (AA (Ah ⟨rfl,rfl,rfl,rfl,rfl,rfl,rfl,hit,hsz0,hb.close (by
  have:=of_decide_eq_false hj
  rw [Ie (by omega)] at hc;rw [hN];exact fun m hm hw=>hc m hm hw),hm⟩))
 have hj':=of_decide_eq_true hj
 have hmem:=Be x9 j 0 j0 hj'
 obtain⟨n0,n1⟩:=hnx _ hmem;have wj:IntKind.wrap .i64 (j+1)=j+1:=Aa (by omega) (by omega)
 have hlen:=hb.len
 have hij:∀ {α:Type} {K:Option α},(Cnd.idx j (List.length x9)).run K=K:=fun {α} {K}=>BM j0 hj'
 have hi:∀ {α:Type} {K:Option α},(Cnd.idx (rd x9 j 0) (List.length o)).run K=K:=fun {α} {K}=>BM n0 (by omega)
 have fin:∀ o' t',BW x1 x5 (fun i=>i=k) o' (t'.drop (x8+1).toNat)→(t'.drop (x8+1).toNat).length+2 * fls o'≤M→x8<(t'.length:Int)→t'.length+fls o'≤1000→(∀ m∈x9.take (j+1).toNat,m≠x5→rd o' m false=true)→wp (Option.map Sum.inl (some (x1,x2,x3,x4,x5,o',t',x8,x9,j+1,x11,()))) fun z:Dd ⊕ (List BLK×List (List Bool)×List Int×Int×Int×List Bool×List Int×Int×CODE×Unit)=>(∀ x,z=Sum.inl x→(x.1=x1∧x.2.1=x2∧x.2.2.1=x3∧x.2.2.2.1=x4∧x.2.2.2.2.1=x5∧BW x1 x5 (fun i=>i=k) x.2.2.2.2.2.1 (x.2.2.2.2.2.2.1.drop (x8+1).toNat)∧x.2.2.2.2.2.2.2.1=x8∧x.2.2.2.2.2.2.2.2.1=x9∧0≤x.2.2.2.2.2.2.2.2.2.1∧x.2.2.2.2.2.2.2.2.2.1≤(x9.length:Int)∧x.2.2.2.2.2.2.2.2.2.2.1=x11∧(x.2.2.2.2.2.2.1.drop (x8+1).toNat).length+2 * fls x.2.2.2.2.2.1≤M∧x8<(x.2.2.2.2.2.2.1.length:Int)∧x.2.2.2.2.2.2.1.length+fls x.2.2.2.2.2.1≤1000∧∀ m∈x9.take x.2.2.2.2.2.2.2.2.2.1.toNat,m≠x5→rd x.2.2.2.2.2.1 m false=true)∧((x9.length:Int) - x.2.2.2.2.2.2.2.2.2.1).toNat<((x9.length:Int) - j).toNat)∧∀ y,z=Sum.inr y→y.1=x1∧y.2.1=x2∧y.2.2.1=x3∧y.2.2.2.1=x4∧y.2.2.2.2.1=x5∧y.2.2.2.2.2.2.2.1=x8∧y.2.2.2.2.2.2.2.2.1=x11∧x8<(y.2.2.2.2.2.2.1.length:Int)∧y.2.2.2.2.2.2.1.length+fls y.2.2.2.2.2.1≤1000∧BQ x1 x5 M y.2.2.2.2.2.1 (y.2.2.2.2.2.2.1.drop (x8+1).toNat):=fun o' t' q1 q2 q3 q4 q5=>
  AL (AA (Aj ⟨⟨rfl,rfl,rfl,rfl,rfl,q1,rfl,rfl,by simp only;omega,by simp only;omega,rfl,q2,q3,q4,q5⟩,by simp only;omega⟩))
 have keep:(rd x9 j 0≠x5→rd o (rd x9 j 0) false=true)→∀ m∈x9.take (j+1).toNat,m≠x5→rd o m false=true:=fun hh m hm hw=>by
  rcases EC j0 hj' hm with hm | hm
  ·exact hc m hm hw
  ·rw [hm] at hw ⊢;exact hh hw
 simp only [hij,wj]
 by_cases e:rd x9 j 0=x5
 ·simp only [ne_eq,e,not_true_eq_false,decide_false,cond_false,AB,wj];exact fin o t hb hm hit hsz0 (keep fun h=>absurd e h)
 ·have hre:Rea x1 x5 (rd x9 j 0):=.step hk (by rw [hN];exact hmem) e
  simp only [ne_eq,e,not_false_eq_true,decide_true,cond_true,hij,hi,AB];cases ho:rd o (rd x9 j 0) false
  ·obtain⟨hv1,hv2⟩:=hb.vis hg hre ho;have hf:=LY n0 (by omega) ho
   have hle:∀ {α:Type} {K:Option α},(Cnd.le ((List.length t+List.length [rd x9 j 0]) * 8) 140737488355328).run K=K:=fun {α} {K}=>Bp (by simp only [List.length_singleton];omega)
   simp only [Bool.not_false,cond_true,hij,hi,Au,hle,AB,wj];refine fin _ _ (by rw [Jp i0 hit];exact hv1) (by rw [Jp i0 hit];omega) (by simp only [List.length_append,List.length_singleton];omega) (by simp only [List.length_append,List.length_singleton];omega) (fun m hm hw=>?_)
   have hr:=Fd o (rd x9 j 0) m true false n0 (by omega)
   rcases EC j0 hj' hm with hm | hm
   ·rw [hr (hnx m (List.mem_of_mem_take hm)).1];split
    ·rfl
    ·exact hc m hm hw
   ·rw [hr (by rw [hm];exact n0),if_pos hm]
  ·simp only [Bool.not_true,cond_false,AB,wj];exact fin o t hb hm hit hsz0 (keep fun _=>ho)
theorem nX {out:List Bool} {all:List Int} (hg:GOk l) (hsz:all.length+fls out≤1000) (h:BW l g (fun _=>False) out all):
 wp (AH Cq (l,dm,hs,n,g,out,all,(0:Int),c,())) fun y=>y.1=l∧y.2.1=dm∧y.2.2.1=hs∧y.2.2.2.1=n∧y.2.2.2.2.1=g∧RB l g y.2.2.2.2.2.1∧y.2.2.2.2.2.2.1=c:=by
 refine wp_loop (fun x:Fx=>x.1=l∧x.2.1=dm∧x.2.2.1=hs∧x.2.2.2.1=n∧x.2.2.2.2.1=g∧0≤x.2.2.2.2.2.2.2.1∧x.2.2.2.2.2.2.2.1≤(x.2.2.2.2.2.2.1.length:Int)∧x.2.2.2.2.2.2.2.2.1=c∧x.2.2.2.2.2.2.1.length+fls x.2.2.2.2.2.1≤1000∧BW l g (fun _=>False) x.2.2.2.2.2.1 (x.2.2.2.2.2.2.1.drop x.2.2.2.2.2.2.2.1.toNat)) (fun x=>(x.2.2.2.2.2.2.1.drop x.2.2.2.2.2.2.2.1.toNat).length+2 * fls x.2.2.2.2.2.1) (fun x hx=>?_) ⟨rfl,rfl,rfl,rfl,rfl,by simp,by simp,rfl,hsz,h⟩
 obtain⟨x1,x2,x3,x4,x5,o,t,i,x9,_⟩:=x;simp only at hx;obtain⟨rfl,rfl,rfl,rfl,rfl,i0,i1,rfl,hs0,hb⟩:=hx;unfold Cq;simp only;refine AM (fun hj=>?_) fun hj=>AL (AA (Ah ⟨rfl,rfl,rfl,rfl,rfl,⟨hb.len,?_⟩,rfl⟩))
 ·have hj':=of_decide_eq_true hj
  have wi:IntKind.wrap .i64 (i+1)=i+1:=Aa (by omega) (by omega)
  rw [Ij i0 hj'] at hb;have hk:=hb.rng _ (List.mem_cons_self ..)
  obtain⟨k0,k1⟩:=hk.rng hg;refine AQ (AN (BD i0 hj') (AN (BD k0 k1) (AQ (AF (AA (AD (XJ (M:=(t.drop (i+1).toNat).length+2 * fls o) hg hk i0 hj' hs0 hb.pop (Nat.le_refl _)) fun y hy=>AA (AL (AA (Aj ?_)))))))))
  obtain⟨y1,y2,y3,y4,y5,y6,y7,y8,y9,_⟩:=y;simp only at hy ⊢;obtain⟨rfl,rfl,rfl,rfl,rfl,rfl,rfl,g1,g2,g3,g4⟩:=hy;rw [Ij i0 hj',wi];exact⟨⟨rfl,rfl,rfl,rfl,rfl,by omega,by omega,rfl,g2,g3⟩,by simp only [List.length_cons];omega⟩
 ·have hj':=of_decide_eq_false hj
  rw [List.drop_of_length_le (by omega)] at hb;exact hb.done hg
theorem bV {w i:Int} (h:Rea l w i):i≠w:=by
 cases h with
 | base h _=>exact fun e=>h e.symm
 | step _ _ h=>exact h
theorem nZ {out words:List Bool} (hg:GOk l) (hd:DM l dm) (g0:0≤g) (g1:g<(l.length:Int)) (ho:RB l g out) (hw:∀ b∈l,0≤(b:BLK).1∧b.1<(words.length:Int)):
 AH Cr (l,dm,hs,(l.length:Int),g,out,words,(0:Int),c,())=some (.inl (l,hs,(l.length:Int),words,c,())):=by
 have hn:=hg.n
 have:=wp_loop (step:=Cr) (Q:=fun y:(List BLK×List Int×Int×List Bool×CODE×Unit) ⊕ (Bool×Unit)=>y=.inl (l,hs,(l.length:Int),words,c,())) (fun x:De=>x.1=l∧x.2.1=dm∧x.2.2.1=hs∧x.2.2.2.1=(l.length:Int)∧x.2.2.2.2.1=g∧x.2.2.2.2.2.1=out∧x.2.2.2.2.2.2.1=words∧0≤x.2.2.2.2.2.2.2.1∧x.2.2.2.2.2.2.2.2.1=c) (fun x=>(l.length - x.2.2.2.2.2.2.2.1).toNat) (fun x hx=>?_) (b:=(l,dm,hs,(l.length:Int),g,out,words,(0:Int),c,())) ⟨rfl,rfl,rfl,rfl,rfl,rfl,rfl,by simp,rfl⟩
 ·obtain⟨r,e1,e2⟩:=this;rw [e1,e2]
 obtain⟨x1,x2,x3,x4,x5,x6,x7,b,x9,_⟩:=x;simp only at hx;obtain⟨rfl,rfl,rfl,rfl,rfl,rfl,rfl,b0,rfl⟩:=hx;unfold Cr;simp only;refine AM (fun hj=>?_) fun hj=>AL (AL (AA (Ah rfl)))
 have hj':=of_decide_eq_true hj
 have wb:IntKind.wrap .i64 (b+1)=b+1:=Aa (by omega) (by omega)
 have hqh:=hd.sq.h
 have hrow:=hd.sq.row b0 hj'
 have hfr:=hw _ (Be x1 b zB b0 hj')
 have hol:=ho.1
 have q1:∀ {α:Type} {K:Option α},(Cnd.idx b (List.length x1)).run K=K:=fun {α} {K}=>BM b0 hj'
 have q2:∀ {α:Type} {K:Option α},(Cnd.idx b (List.length x2)).run K=K:=fun {α} {K}=>BM b0 (by omega)
 have q3:∀ {α:Type} {K:Option α},(Cnd.idx b (List.length x6)).run K=K:=fun {α} {K}=>BM b0 (by omega)
 have q4:∀ {α:Type} {K:Option α},(Cnd.idx b (List.length (rd x2 b []))).run K=K:=fun {α} {K}=>BM b0 (by omega)
 have q5:∀ {α:Type} {K:Option α},(Cnd.idx x5 (List.length (rd x2 b []))).run K=K:=fun {α} {K}=>BM g0 (by omega)
 have q6:∀ {α:Type} {K:Option α},(Cnd.idx (rd x1 b zB).1 (List.length x7)).run K=K:=fun {α} {K}=>BM hfr.1 hfr.2
 have e1:decide ((List.length (rd x2 b []):Int)≠(x1.length:Int))=false:=by rw [hrow];simp
 have e2:rd (rd x2 b []) b false=true:=by
  have:=hd.v b b b0 hj' b0 hj'
  unfold tbl at this;cases h:rd (rd x2 b []) b false
  ·exact absurd rfl (bV (this.1 h))
  ·rfl
 have e3:(rd (rd x2 b []) x5 false == rd x6 b false)=false:=by
  have h1:=hd.v b x5 b0 hj' g0 g1
  have h2:=ho.2 b b0 hj'
  unfold tbl at h1;cases ha:rd (rd x2 b []) x5 false<;>cases hb:rd x6 b false<;>rw [ha] at h1<;>rw [hb] at h2<;>simp_all
 have fin:wp (Option.map Sum.inl (some (x1,x2,x3,(x1.length:Int),x5,x6,x7,b+1,x9,()))) fun z:De ⊕ ((List BLK×List Int×Int×List Bool×CODE×Unit) ⊕ (Bool×Unit))=>(∀ x,z=Sum.inl x→(x.1=x1∧x.2.1=x2∧x.2.2.1=x3∧x.2.2.2.1=(x1.length:Int)∧x.2.2.2.2.1=x5∧x.2.2.2.2.2.1=x6∧x.2.2.2.2.2.2.1=x7∧0≤x.2.2.2.2.2.2.2.1∧x.2.2.2.2.2.2.2.2.1=x9)∧((x1.length:Int) - x.2.2.2.2.2.2.2.1).toNat<((x1.length:Int) - b).toNat)∧∀ y,z=Sum.inr y→y=.inl (x1,x3,(x1.length:Int),x7,x9,()):=AL (AA (Aj ⟨⟨rfl,rfl,rfl,rfl,rfl,rfl,rfl,by simp only;omega,rfl⟩,by simp only;omega⟩))
 simp only [q1,q2,e1,cond_false,q6];cases rd x7 (rd x1 b zB).1 false
 ·simp only [cond_false,q1,q2,q4,e2,Bool.not_true,AB,wb];exact fin
 ·simp only [cond_true];cases decide (b≠x5)
  ·simp only [cond_false,q1,q2,q4,e2,Bool.not_true,AB,wb];exact fin
  ·simp only [cond_true,q2,q3,q4,q5,e3,cond_false,e2,Bool.not_true,AB,wb];exact fin
theorem jQ {words:List Bool} (hg:GOk l) (hl:hs.length≤400) (hw:∀ h∈hs,0≤h∧h<(l.length:Int)∧0≤(rd l h zB).1∧(rd l h zB).1<(words.length:Int)∧rd words (rd l h zB).1 false=true):
 AH Cs (l,hs,(l.length:Int),words,(0:Int),c,())=some (.inl (hs,c,())):=by
 have hn:=hg.n
 have:=wp_loop (step:=Cs) (Q:=fun y:(List Int×CODE×Unit) ⊕ (Bool×Unit)=>y=.inl (hs,c,())) (fun x:Fz=>x.1=l∧x.2.1=hs∧x.2.2.1=(l.length:Int)∧x.2.2.2.1=words∧0≤x.2.2.2.2.1∧x.2.2.2.2.2.1=c) (fun x=>(hs.length - x.2.2.2.2.1).toNat) (fun x hx=>?_) (b:=(l,hs,(l.length:Int),words,(0:Int),c,())) ⟨rfl,rfl,rfl,rfl,by simp,rfl⟩
 ·obtain⟨r,e1,e2⟩:=this;rw [e1,e2]
 obtain⟨x1,x2,x3,x4,i,x6,_⟩:=x;simp only at hx;obtain⟨rfl,rfl,rfl,rfl,i0,rfl⟩:=hx;unfold Cs;simp only;refine AM (fun hj=>?_) fun hj=>AL (AL (AA (Ah rfl)))
 have hj':=of_decide_eq_true hj
 have wi:IntKind.wrap .i64 (i+1)=i+1:=Aa (by omega) (by omega)
 obtain⟨h0,h1,h2,h3,h4⟩:=hw _ (Be x2 i 0 i0 hj');have q1:∀ {α:Type} {K:Option α},(Cnd.idx i (List.length x2)).run K=K:=fun {α} {K}=>BM i0 hj'
 have q2:∀ {α:Type} {K:Option α},(Cnd.idx (rd x2 i 0) (List.length x1)).run K=K:=fun {α} {K}=>BM h0 h1
 have q3:∀ {α:Type} {K:Option α},(Cnd.idx (rd x1 (rd x2 i 0) zB).1 (List.length x4)).run K=K:=fun {α} {K}=>BM h2 h3
 simp only [q1,q2,q3,decide_eq_false (show ¬ rd x2 i 0<0 by omega),decide_eq_false (show ¬ (x1.length:Int)≤rd x2 i 0 by omega),cond_false,h4,Bool.not_true,AB,wi];exact AL (AA (Aj ⟨⟨rfl,rfl,rfl,rfl,by simp only;omega,rfl⟩,by simp only;omega⟩))
end
theorem pure (code:List Int) {e:Nat} (hb:Bnd (.list e (.int .u8)) code):Ia code=some (true,()):=by
 unfold Ia Pn;rw [Option.bind_some]
 by_cases hbig:(1048576:Int)<(code.length:Int)
 ·rw [decide_eq_true hbig];rfl
 rw [decide_eq_false hbig];have h:code.length≤1048576:=by omega
 obtain⟨⟨c,_⟩,e1,hgc⟩:=bK code h;obtain⟨⟨p,_⟩,e2,hp1,hp2⟩:=Yp code h;simp only at hgc hp1 hp2;obtain⟨hf,hok⟩:=hgc;obtain⟨H,l0,hm,hlk,hg,hp,b1,b2⟩:=YE c hf hok;have hN:1≤c.2.2.2.length∧c.2.2.2.length≤400:=by
  have h2:=hok
  simp only [Ef,Bool.and_eq_true,decide_eq_true_eq] at h2;exact h2.2.2.2.1
 have hH0:rd H 0 false=true:=(hm.2 0 (by omega) (by omega)).2 (.inl rfl)
 have hll:(l0.map (nxF c l0)).length=l0.length:=List.length_map ..
 have htw:=fun {i:Int} hr=>ip (i:=i) hm hlk hg hH0 hN.1 hr
 have hfr:∀ k:Int,0≤k→k<(l0.length:Int)→(rd (l0.map (nxF c l0)) k zB).1=(rd l0 k zB).1:=fun k k0 k1=>by rw [Ym hlk.len k0 k1];rfl
 have hbw:∀ b∈l0.map (nxF c l0),0≤(b:BLK).1∧b.1<(c.2.2.2.length:Int):=fun b hb=>by
  obtain⟨a,ha,rfl⟩:=List.mem_map.1 hb;have:=hlk.b a ha
  exact⟨this.1,by simp only [nxF];omega⟩
 generalize hL:l0.map (nxF c l0)=l at *;have hlp:0<l.length:=by omega
 obtain⟨d,d1,d2,hd⟩:=nV c l hg b1 b2;obtain⟨o,o1,o2,ol,oh⟩:=iP c l hg hlp b1 b2 d1 d2 hd;obtain⟨⟨words,_⟩,w1,hw⟩:=Yr hf hok;simp only at hw;have hwl:=hw.1
 rw [KT] at hwl;have hn:=hg.n
 have p0:=hp2 _ (Be p 0 0 (by omega) (by rw [hp1];omega))
 have hgm:=Nm (a:=rd p 0 0) (n:=l.length) p0.1 (by omega)
 generalize hgo:Int.tmod (rd p 0 0) (l.length:Int)=g at *;have hdl:=hd.sq.h
 have ed:decide ((List.length d:Int)≠(l.length:Int))=false:=by rw [hdl];simp
 have q1:∀ {α:Type} {K:Option α},(Cnd.idx (0:Int) (List.length p)).run K=K:=fun {α} {K}=>BM (by omega) (by rw [hp1];omega)
 have q2:∀ {α:Type} {K:Option α},(Cnd.nz (l.length:Int)).run K=K:=fun {α} {K}=>jS (by omega)
 have q3:∀ {α:Type} {K:Option α},(Cnd.both (Cnd.nn (l.length:Int)) (Cnd.le (l.length * 1) 140737488355328)).run K=K:=fun {α} {K}=>by
  simp only [Cnd.run];rw [if_pos (by omega),if_pos (by omega)]
 have q4:∀ {α:Type} {K:Option α},(Cnd.idx (0:Int) (List.length (List.replicate l.length false))).run K=K:=fun {α} {K}=>BM (by omega) (by rw [List.length_replicate];omega)
 have q5:∀ {α:Type} {K:Option α},(Cnd.le ((List.length ([]:List Int)+List.length [(0:Int)]) * 8) 140737488355328).run K=K:=fun {α} {K}=>Bp (by simp)
 have hlk3:=fun out ho=>nZ (l:=l) (dm:=d) (hs:=o) (c:=c) (g:=g) (out:=out) (words:=words) hg hd hgm.1 hgm.2 ho (by rw [hwl];exact hbw)
 have hlk4:=jQ (l:=l) (hs:=o) (c:=c) (words:=words) hg ol (fun h hh=>by
  obtain⟨h0,h1,h2⟩:=oh h hh;have hr:=htw h2
  have hrr:=hr.rng (cO c hN.2)
  rw [KT] at hrr;rw [hfr h h0 (by omega)];exact⟨h0,h1,hrr.1,by omega,(hw.2 _ hrr.1 (by rw [KT];exact hrr.2)).2 hr⟩)
 have s4:=jZ o (by omega)
 have rest:∀ out:List Bool,RB l g out→(Db c).bind (fun y17=>Az ((some (l,d,o,(l.length:Int),g,out,y17.1,(0:Int),c,())).bind fun x180=>AH Cr x180) fun x20=>Az ((some (x20.1,x20.2.1,x20.2.2.1,x20.2.2.2.1,(0:Int),x20.2.2.2.2.1,())).bind fun x210=>AH Cs x210) fun x23=>(Du x23.2.1).bind fun y24=>(GM x23.1 y24.1).bind fun y25=>some (y25.1,()))=some (true,()):=fun out ho=>by
  simp only [w1,Option.bind_some,hlk3 out ho,Bd,hlk4,o1,s4]
 simp only [cond_false,e1,e2,b1,d2,o2,Option.bind_some,ed,q1,hgo,q2,Int.toNat_natCast,q3]
 by_cases h0:g=0
 ·have hz:RB l g (List.replicate l.length false):=by
   obtain⟨⟨r,_⟩,r1,hr⟩:=MO hg g;have hem:∀ i,¬ Rea l g i:=fun i hr=>by
    rw [h0] at hr
    induction hr with
    | base h _=>exact h rfl
    | step a _ _ ih=>exact ih
   exact⟨by simp,fun i _ _=>by rw [La _ _ _ rfl];exact⟨fun e=>(by cases e),fun h=>absurd h (hem i)⟩⟩
  have e0:decide (g≠0)=false:=by simp [h0]
  have hl2:AH Cq (l,d,o,(l.length:Int),g,List.replicate l.length false,[],(0:Int),c,())=some (l,d,o,(l.length:Int),g,List.replicate l.length false,c,()):=BO (by
   simp only [Cq,List.length_nil,Int.natCast_zero,show decide ((0:Int)<0)=false from rfl,cond_false,Option.map_some])
  simp only [e0,cond_false,AB,Option.bind_some,hl2];exact rest _ hz
 ·have e0:decide (g≠0)=true:=by simp [h0]
  have hz:=BW.zero (l:=l) (w:=g) hg h0 hlp
  obtain⟨⟨y1,y2,y3,y4,y5,out,y7,_⟩,l2,hy⟩:=nX (dm:=d) (hs:=o) (n:=(l.length:Int)) (c:=c) hg hz.sz hz;simp only at hy;obtain⟨rfl,rfl,rfl,rfl,rfl,ho,rfl⟩:=hy;simp only [e0,cond_true,q4,Au,q5,AB,Option.bind_some,List.nil_append,l2];exact rest out ho
end X
end Go.Proofs.YtmakhmoielhjeaaGreatDoorE

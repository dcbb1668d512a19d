/- The engine, texts DrawU CodeTy CodeW Copy DrawL DrawM DrawN DrawC Thread Reach Trim Tight TightAll CodeSame JumpsIn X: how code is reckoned as Lean functions, and that it is sound. No condition. -/
import Derived.Test.YtmakhmoielhjeaaGreatDoorLawPuA
set_option linter.all false
namespace Go.Proofs.YtmakhmoielhjeaaGreatDoorE
set_option linter.all false
set_option maxRecDepth 100000
section
variable {p:PROG} (hp:FineP p) {l:List VAR} (hl:l.length≤2097152)
include hp hl
theorem type_R:∀ m:Nat,∀ n n' k,(0:Int)<deepAt p.1 k→(rd p.1 k zN).1≤12→k.toNat<m→2 * k.toNat+2≤n→2 * k.toNat+2≤n'→wq ((R_spec_l08Type n).1 p l k) ((R_spec_l08Type n').1 p l k) fun _=>True:=by
 intro m
 induction m with
 | zero=>intro n n' k _ _ h;omega
 | succ m ih=>
  intro n n' k h hk hm hn hn'
  have H:∀ j j',2 * k.toNat≤j→2 * k.toNat≤j'→∀ y,(0:Int)<deepAt p.1 y→(rd p.1 y zN).1≤12→0≤y∧y<k→wq ((R_spec_l08Type j).1 p l y) ((R_spec_l08Type j').1 p l y) fun _=>True:=
   fun j j' hj hj' y hy h12 hyk=>ih j j' y hy h12 (by omega) (by omega) (by omega)
  obtain⟨n,rfl⟩:∃ j,n=j+1:=⟨n - 1,by omega⟩
  obtain⟨n',rfl⟩:∃ j,n'=j+1:=⟨n' - 1,by omega⟩
  have T:9≤(rd p.1 k zN).1∧(rd p.1 k zN).1≤11→wq ((R_spec_l08Type n).2.1 p l k) ((R_spec_l08Type n').2.1 p l k) fun _=>True:=fun h9=>by
   obtain⟨n,rfl⟩:∃ j,n=j+1:=⟨n - 1,by omega⟩
   obtain⟨n',rfl⟩:∃ j,n'=j+1:=⟨n' - 1,by omega⟩
   exact two_S (r0:=(R_spec_l08Type n).1) (r0':=(R_spec_l08Type n').1) (r1:=(R_spec_l08Type n).2.1) (r1':=(R_spec_l08Type n').2.1) (r2:=(R_spec_l08Type n).2.2.1) (r2':=(R_spec_l08Type n').2.2.1) k h h9 (H n n' (by omega) (by omega))
  have G:wq ((R_spec_l08Type n).2.2.1 p l k) ((R_spec_l08Type n').2.2.1 p l k) fun _=>True:=by
   obtain⟨n,rfl⟩:∃ j,n=j+1:=⟨n - 1,by omega⟩
   obtain⟨n',rfl⟩:∃ j,n'=j+1:=⟨n' - 1,by omega⟩
   exact sig_S hp (r0:=(R_spec_l08Type n).1) (r0':=(R_spec_l08Type n').1) (r1:=(R_spec_l08Type n).2.1) (r1':=(R_spec_l08Type n').2.1) (r2:=(R_spec_l08Type n).2.2.1) (r2':=(R_spec_l08Type n').2.2.1) k h hk (H n n' (by omega) (by omega))
  exact type_S hl (r0:=(R_spec_l08Type n).1) (r0':=(R_spec_l08Type n').1) (r1:=(R_spec_l08Type n).2.1) (r1':=(R_spec_l08Type n').2.1) (r2:=(R_spec_l08Type n).2.2.1) (r2':=(R_spec_l08Type n').2.2.1) k h hk (H n n' (by omega) (by omega)) T G
theorem type_wp (k:Int) (h:(0:Int)<deepAt p.1 k) (hk:(rd p.1 k zN).1≤12):wp (spec_l08Type p l k) fun _=>True:=by
 unfold spec_l08Type
 exact wq_lim (2 * k.toNat+2) fun n hn=>type_R hp hl _ n _ k h hk (Nat.lt_succ_self _) hn (Nat.le_refl _)
theorem sig_wp (k:Int) (h:(0:Int)<deepAt p.1 k) (hk:(rd p.1 k zN).1≤12):wp (spec_l08Sig p l k) fun _=>True:=by
 unfold spec_l08Sig
 refine wq_lim (2 * k.toNat+1) fun n hn=>?_
 obtain⟨n,rfl⟩:∃ j,n=j+1:=⟨n - 1,by omega⟩
 exact sig_S hp (r0:=(R_spec_l08Type n).1) (r0':=(R_spec_l08Type (2 * k.toNat)).1) (r1:=(R_spec_l08Type n).2.1) (r1':=(R_spec_l08Type (2 * k.toNat)).2.1) (r2:=(R_spec_l08Type n).2.2.1) (r2':=(R_spec_l08Type (2 * k.toNat)).2.2.1) k h hk fun y hy h12 hyk=>type_R hp hl _ n _ y hy h12 (Nat.lt_succ_self _) (by omega) (by omega)
end
section
variable {p:PROG} (hp:FineP p) {l:List VAR} (hl:l.length≤2097152)
theorem skid {k:Int} (h:(0:Int)<deepAt p.1 k) (h13:13≤(rd p.1 k zN).1) (h19:(rd p.1 k zN).1≤19):(0:Int)<((rd p.1 k zN).2.2.2.length:Int)∧(0:Int)<deepAt p.1 (rd (rd p.1 k zN).2.2.2 0 0)∧(0≤rd (rd p.1 k zN).2.2.2 0 0∧rd (rd p.1 k zN).2.2.2 0 0<k)∧(rd p.1 (rd (rd p.1 k zN).2.2.2 0 0) zN).1≤12:=by
 have hlen:(0:Int)<((rd p.1 k zN).2.2.2.length:Int):=by
  have e:(rd p.1 k zN).1=13∨(rd p.1 k zN).1=14∨(rd p.1 k zN).1=15∨(rd p.1 k zN).1=16∨(rd p.1 k zN).1=17∨(rd p.1 k zN).1=18∨(rd p.1 k zN).1=19:=by omega
  rcases e with e | e | e | e | e | e | e<;>exact Int.lt_of_lt_of_le (by decide) (kr1 h e).1
 obtain⟨a,b,c⟩:=kidAt h (i:=0) (by omega) hlen
 exact⟨hlen,a,b,(fits_val (i:=0) c (by omega) (by omega)).2⟩
theorem sblk {k:Int} (h:(0:Int)<deepAt p.1 k) (h16:(rd p.1 k zN).1=16∨(rd p.1 k zN).1=17) {i:Int} (h0:0<i) (hi:i≤(kr (rd p.1 k zN).1).1 - 1):i<((rd p.1 k zN).2.2.2.length:Int)∧(0:Int)<deepAt p.1 (rd (rd p.1 k zN).2.2.2 i 0)∧(0≤rd (rd p.1 k zN).2.2.2 i 0∧rd (rd p.1 k zN).2.2.2 i 0<k)∧(rd p.1 (rd (rd p.1 k zN).2.2.2 i 0) zN).1=20:=by
 have hlen:i<((rd p.1 k zN).2.2.2.length:Int):=by
  have:=(kr1 h rfl).1
  omega
 obtain⟨a,b,c⟩:=kidAt h (i:=i) (by omega) hlen
 obtain⟨m,rfl⟩:∃ m:Nat,i=(m:Int):=⟨i.toNat,by omega⟩
 exact⟨hlen,a,b,fits_blk c h16 (by omega)⟩
theorem bkid {k:Int} (h:(0:Int)<deepAt p.1 k) (h20:(rd p.1 k zN).1=20) {i:Int} (h0:0≤i) (hi:i<((rd p.1 k zN).2.2.2.length:Int)):(0:Int)<deepAt p.1 (rd (rd p.1 k zN).2.2.2 i 0)∧(0≤rd (rd p.1 k zN).2.2.2 i 0∧rd (rd p.1 k zN).2.2.2 i 0<k)∧13≤(rd p.1 (rd (rd p.1 k zN).2.2.2 i 0) zN).1∧(rd p.1 (rd (rd p.1 k zN).2.2.2 i 0) zN).1≤19:=by
 obtain⟨a,b,c⟩:=kidAt h h0 hi
 obtain⟨m,rfl⟩:∃ m:Nat,i=(m:Int):=⟨i.toNat,by omega⟩
 exact⟨a,b,fits_step c h20⟩
theorem blk_S {r0 r0' r1 r1':FB} (k:Int) (h:(0:Int)<deepAt p.1 k) (h20:(rd p.1 k zN).1=20) (H:∀ y,(0:Int)<deepAt p.1 y→13≤(rd p.1 y zN).1∧(rd p.1 y zN).1≤19→0≤y∧y<k→wq (r1 p l y) (r1' p l y) fun _=>True):wq (spec_l08Block_S r0 r1 p l k) (spec_l08Block_S r0' r1' p l k) fun _=>True:=by
 unfold spec_l08Block_S
 have hkr:=deepAt_pos h
 have h12:=nk_twelve hkr.2.1
 refine wq_JT (wq_bind (wq_some (wq_loop (fun x:SL1_spec_l08Block=>x.1=l∧x.2.1=k∧0≤x.2.2.1∧x.2.2.2.1=p) (fun x=>((rd p.1 k zN).2.2.2.length - x.2.2.1).toNat) (fun x hx=>?_) ⟨rfl,rfl,by simp,rfl⟩))) fun _=>wq_ST
 obtain⟨b1,b2,b3,b4,_⟩:=x
 simp only at hx
 obtain⟨e1,e2,b30,e4⟩:=hx
 subst e1 e2 e4
 unfold L1_spec_l08Block
 simp only
 refine wq_run (idxH hkr.1.1 hkr.1.2) (wq_bif (fun hi=>?_) fun hi=>wq_map (wq_map (wq_some (wp_inr trivial))))
 have hi':b3<((rd b4.1 b2 zN).2.2.2.length:Int):=of_decide_eq_true hi
 have g0:=bkid h h20 b30 hi'
 refine wq_run (idxH hkr.1.1 hkr.1.2) (wq_run (idxH b30 hi') (wq_bind (wq_mono (H _ g0.1 g0.2.2 g0.2.1) fun y _=>wq_bif (fun _=>wq_map (wq_map (wq_some (wp_inr trivial)))) fun _=>wq_map (wq_some (wp_inl ?_)))))
 rw [wrap64 (by omega) (by omega)]
 exact⟨⟨rfl,rfl,by simp only;omega,rfl⟩,by simp only;omega⟩
include hp hl in
theorem stp_S {r0 r0' r1 r1':FB} (k:Int) (h:(0:Int)<deepAt p.1 k) (h13:13≤(rd p.1 k zN).1∧(rd p.1 k zN).1≤19) (H:∀ y,(0:Int)<deepAt p.1 y→(rd p.1 y zN).1=20→0≤y∧y<k→wq (r0 p l y) (r0' p l y) fun _=>True):wq (spec_l08Step_S r0 r1 p l k) (spec_l08Step_S r0' r1' p l k) fun _=>True:=by
 unfold spec_l08Step_S
 have hkr:=deepAt_pos h
 have g:=skid h h13.1 h13.2
 refine wq_run (idxH hkr.1.1 hkr.1.2) (wq_bif (fun _=>wq_run (idxH (by omega) g.1) (wq_BT (wq_of (sig_wp hp hl _ g.2.1 g.2.2.2)) fun _=>wq_ST)) fun _=>wq_run (idxH (by omega) g.1) (wq_BT (wq_of (type_wp hp hl _ g.2.1 g.2.2.2)) fun _=>wq_BT (wq_of (var_wp l hl _)) fun _=>?_))
 refine wq_bif (fun _=>wq_ST) fun _=>wq_bif (fun _=>?_) fun _=>wq_bif (fun _=>?_) fun _=>wq_bif (fun e=>?_) fun _=>wq_bif (fun e=>?_) fun _=>wq_ST
 ·exact wq_jb (fun _=>wq_jb (fun _=>wq_js wq_ST) fun _=>wq_js wq_ST) fun _=>wq_js wq_ST
 ·exact wq_jb (fun _=>wq_jb (fun _=>wq_js wq_ST) fun _=>wq_js wq_ST) fun _=>wq_js wq_ST
 ·have e':(rd p.1 k zN).1=16:=of_decide_eq_true e
  have i1:=sblk h (.inl e') (i:=1) (by omega) (by rw [e'];decide)
  have i2:=sblk h (.inl e') (i:=2) (by omega) (by rw [e'];decide)
  exact wq_jb (fun _=>wq_jr (idxH (by omega) i1.1) (wq_jB (wq_mono (H _ i1.2.1 i1.2.2.2 i1.2.2.1) fun _ _=>wq_jb (fun _=>wq_jr (idxH (by omega) i2.1) (wq_jB (wq_mono (H _ i2.2.1 i2.2.2.2 i2.2.2.1) fun _ _=>wq_js wq_ST))) fun _=>wq_js wq_ST))) fun _=>wq_js wq_ST
 ·have e':(rd p.1 k zN).1=17:=of_decide_eq_true e
  have i1:=sblk h (.inr e') (i:=1) (by omega) (by rw [e'];decide)
  exact wq_jb (fun _=>wq_jr (idxH (by omega) i1.1) (wq_jB (wq_mono (H _ i1.2.1 i1.2.2.2 i1.2.2.1) fun _ _=>wq_js wq_ST))) fun _=>wq_js wq_ST
include hp hl in
theorem blk_R:∀ m:Nat,∀ n n' k,(0:Int)<deepAt p.1 k→(rd p.1 k zN).1=20→k.toNat<m→2 * k.toNat+1≤n→2 * k.toNat+1≤n'→wq ((R_spec_l08Block n).1 p l k) ((R_spec_l08Block n').1 p l k) fun _=>True:=by
 intro m
 induction m with
 | zero=>intro n n' k _ _ h;omega
 | succ m ih=>
  intro n n' k h hk hm hn hn'
  obtain⟨n,rfl⟩:∃ j,n=j+1:=⟨n - 1,by omega⟩
  obtain⟨n',rfl⟩:∃ j,n'=j+1:=⟨n' - 1,by omega⟩
  refine blk_S (r0:=(R_spec_l08Block n).1) (r0':=(R_spec_l08Block n').1) (r1:=(R_spec_l08Block n).2.1) (r1':=(R_spec_l08Block n').2.1) k h hk fun y hy h13 hyk=>?_
  obtain⟨n,rfl⟩:∃ j,n=j+1:=⟨n - 1,by omega⟩
  obtain⟨n',rfl⟩:∃ j,n'=j+1:=⟨n' - 1,by omega⟩
  exact stp_S hp hl (r0:=(R_spec_l08Block n).1) (r0':=(R_spec_l08Block n').1) (r1:=(R_spec_l08Block n).2.1) (r1':=(R_spec_l08Block n').2.1) y hy h13 fun z hz h20 hzy=>ih n n' z hz h20 (by omega) (by omega) (by omega)
include hp hl in
theorem blk_wp (k:Int) (h:(0:Int)<deepAt p.1 k) (hk:(rd p.1 k zN).1=20):wp (spec_l08Block p l k) fun _=>True:=by
 unfold spec_l08Block
 exact wq_lim (2 * k.toNat+1) fun n hn=>blk_R hp hl _ n _ k h hk (Nat.lt_succ_self _) hn (Nat.le_refl _)
end
def names (l:List VAR):List ByteArray:=l.map fun v=>v.1
theorem names_set {l:List VAR} {i:Nat} (h:i<l.length) (t:Int×Int):names (l.set i (l[i].1,t))=names l:=by
 unfold names
 rw [List.map_set]
 apply List.ext_getElem (by simp)
 intro k h1 h2
 rw [List.getElem_set]
 split
 ·next e=>subst e;simp
 ·rfl
def LetV (p:PROG) (l:List VAR):Prop:=∀ v∈l,0≤(v:VAR).2.2→(0:Int)<deepAt p.1 v.2.2∧(rd p.1 v.2.2 zN).1=13
theorem letV_vars {p:PROG} (P:POK p) (fn:Int):LetV p (varsOf p fn):=by
 intro v hv h0
 unfold varsOf at hv
 cases hf:fnIn p fn
 ·rw [hf] at hv;cases hv
 ·rw [hf,cond_true] at hv
  have hr:0≤fn∧fn≤(p.2.length:Int) - 1:=by simpa [fnIn] using hf
  obtain⟨m,rfl⟩:∃ m:Nat,fn=(m:Int):=⟨fn.toNat,by omega⟩
  have F:=P.fn (i:=m) (by omega)
  rcases List.mem_append.1 hv with hv | hv
  ·obtain⟨x,_,rfl⟩:=List.mem_map.1 hv
   exact absurd h0 (by simp [parV])
  ·obtain⟨x,hx,rfl⟩:=List.mem_map.1 hv
   obtain⟨h1,h2⟩:=List.mem_filter.1 hx
   have hd:=F.bd
   unfold unds at h1
   rw [decide_eq_false (by omega),cond_false] at h1
   exact⟨undr_deep hd ((mem_undL hd x).1 h1),of_decide_eq_true h2⟩
theorem vars_wp {p:PROG} (hp:FineP p) (P:POK p) (fn:Int):wp (spec_l08Vars p fn) fun y=>y.1.length≤2097152∧(y.2.1=true→names y.1=names (varsOf p fn)):=by
 unfold spec_l08Vars
 rw [spec_Vars_ok p hp fn]
 have hvl:=vars_len hp fn
 refine wp_bind (wp_some (wp_joinS (wp_bind (wp_some (wp_mono (wp_loop (fun x:SL1_spec_l08Vars=>x.1.length≤2097152∧names x.1=names (varsOf p fn)∧0≤x.2.1∧x.2.2.1=p∧LetV p x.1) (fun x=>(x.1.length - x.2.1).toNat) (Q:=fun s:(List VAR×Unit) ⊕ (List VAR×Bool×Unit)=>(∀ b,s=.inl b→b.1.length≤2097152∧names b.1=names (varsOf p fn))∧∀ r,s=.inr r→r.1.length≤2097152∧(r.2.1=true→names r.1=names (varsOf p fn))) (fun x hx=>?_) ⟨hvl,rfl,by simp,rfl,letV_vars P fn⟩) fun s hs=>⟨fun b hb=>wp_some ⟨(hs.1 b hb).1,fun _=>(hs.1 b hb).2⟩,hs.2⟩)))))
 obtain⟨b1,b2,b3,_⟩:=x
 simp only at hx
 obtain⟨hle,hnm,b20,e3,hlv⟩:=hx
 subst e3
 unfold L1_spec_l08Vars
 simp only
 refine wp_bif (fun hi=>?_) fun hi=>wp_map (wp_map (wp_some (wp_inr ⟨fun b hb=>by cases hb;exact⟨hle,hnm⟩,fun r hr=>by cases hr⟩)))
 have hi':=of_decide_eq_true hi
 refine wp_run (idxH b20 hi') (wp_joinP (wp_mono (Q:=fun x:List VAR×Int×PROG×Unit=>x.1.length=b1.length∧names x.1=names b1∧x.2.1=b2∧x.2.2.1=b3∧LetV b3 x.1) (wp_bif (fun hb=>?_) fun _=>wp_some ⟨rfl,rfl,rfl,rfl,hlv⟩) fun x hx=>?_))
 ·have hb':0≤(rd b1 b2 zV).2.2:=of_decide_eq_true hb
  obtain⟨g1,g2⟩:=hlv _ (rd_get b1 b2 zV b20 hi') hb'
  have gr:=deepAt_pos g1
  have gs:=skid g1 (by omega) (by omega)
  refine wp_run (idxH b20 hi') (wp_run (idxH gr.1.1 gr.1.2) (wp_run (idxH (by omega) gs.1) (wp_bind (wp_mono (type_wp hp (by omega) _ gs.2.1 gs.2.2.2) fun y _=>wp_run (idxH b20 hi') (wp_bindD (wp_some ⟨?_,?_,rfl,rfl,?_⟩))))))
  ·simp
  ·obtain⟨m,rfl⟩:∃ m:Nat,b2=(m:Int):=⟨b2.toNat,by omega⟩
   have hm:m<b1.length:=by omega
   simp only [rd_nat hm,Int.toNat_natCast]
   exact names_set hm _
  ·intro v hv h0
   rcases List.mem_or_eq_of_mem_set hv with hv | hv
   ·exact hlv v hv h0
   ·subst hv;exact⟨g1,g2⟩
 ·obtain⟨x1,x2,x3,_⟩:=x
  simp only at hx ⊢
  obtain⟨f1,f2,f3,f4,f5⟩:=hx
  subst f3 f4
  refine wp_run (idxH b20 (by omega)) (wp_bif (fun _=>wp_map (wp_map (wp_some (wp_inr ⟨fun b hb=>(by cases hb),fun r hr=>by cases hr;exact⟨by simp,fun h=>by cases h⟩⟩)))) fun _=>wp_map (wp_some (wp_inl ?_)))
  rw [wrap64 (by omega) (by omega)]
  exact⟨⟨by simp only;omega,by simp only;rw [f2,hnm],by simp only;omega,rfl,f5⟩,by simp only;omega⟩
def VarsR (p:PROG) (i:Int):Prop:=∃ v,spec_l08Vars p i=some (v,true,())
theorem types_wp {p:PROG} (hp:FineP p):wp (spec_TypesRight p) fun y=>y.1=true→progOk p=true∧∀ i:Int,0≤i∧i<(p.2.length:Int)→VarsR p i:=by
 unfold spec_TypesRight
 rw [spec_Names_ok p hp]
 refine wp_bind (wp_some (wp_bif (fun _=>wp_some fun h=>by cases h) fun hb=>?_))
 have hok:progOk p=true:=by
  have:namesRight p=true:=by simpa using hb
  unfold namesRight at this
  exact(Bool.and_eq_true_iff.1 this).1
 have P:=pok_of hok
 have hm:=P.m
 refine wp_joinS (wp_bind (wp_some (wp_mono (wp_loop (fun x:SL1_spec_TypesRight=>0≤x.1∧x.2.1=p∧∀ i:Int,0≤i∧i<x.1→VarsR p i) (fun x=>(p.2.length - x.1).toNat) (Q:=fun s:Unit ⊕ (Bool×Unit)=>(s=.inl ()→∀ i:Int,0≤i∧i<(p.2.length:Int)→VarsR p i)∧∀ r,s=.inr r→r.1=false) (fun x hx=>?_) ⟨by simp,rfl,fun i hi=>by simp only at hi;omega⟩) fun s hs=>⟨fun b hb=>wp_some fun _=>⟨hok,hs.1 hb⟩,fun r hr h=>by rw [hs.2 r hr] at h;cases h⟩)))
 obtain⟨b1,b2,_⟩:=x
 simp only at hx
 obtain⟨b10,e2,hall⟩:=hx
 subst e2
 unfold L1_spec_TypesRight
 simp only
 refine wp_bif (fun hi=>?_) fun hi=>wp_map (wp_map (wp_some (wp_inr ⟨fun _ i hi2=>hall i ?_,fun r hr=>by cases hr⟩)))
 ·have hi':=of_decide_eq_true hi
  have F:=P.fn (i:=b1.toNat) (by omega)
  rw [show((b1.toNat:Nat):Int)=b1 by omega] at F
  obtain⟨y,hy0,hy⟩:=vars_wp hp P b1
  rw [hy0]
  refine wp_bind (wp_some (wp_run (idxH b10 hi') (wp_joinP (wp_mono (Q:=fun x:Int×Bool×PROG×Unit=>x.1=b1∧x.2.2.1=b2∧(x.2.1=false→y.2.1=true)) (wp_bif (fun _=>wp_some ⟨rfl,rfl,fun h=>by cases h⟩) fun hv=>wp_bind (wp_mono (blk_wp hp hy.1 _ F.bd F.bk) fun z _=>wp_bif (fun _=>wp_some ⟨rfl,rfl,fun h=>by cases h⟩) fun _=>wp_bif (fun hr=>?_) fun _=>wp_some ⟨rfl,rfl,fun _=>by simpa using hv⟩)) fun x hx=>?_))))
  ·have hr':=F.rt (of_decide_eq_true hr)
   exact wp_bind (wp_mono (type_wp hp hy.1 _ hr'.1 hr'.2) fun z _=>wp_some ⟨rfl,rfl,fun _=>by simpa using hv⟩)
  ·obtain⟨x1,x2,x3,_⟩:=x
   simp only at hx ⊢
   obtain⟨f1,f2,f3⟩:=hx
   subst f1 f2
   refine wp_bif (fun _=>wp_map (wp_map (wp_some (wp_inr ⟨fun h=>(by cases h),fun r hr=>by cases hr;rfl⟩)))) fun hf=>wp_map (wp_some (wp_inl ?_))
   rw [wrap64 (by omega) (by omega)]
   refine⟨⟨by simp only;omega,rfl,fun i hi2=>?_⟩,by simp only;omega⟩
   by_cases e:i=x1
   ·subst e
    obtain⟨y1,y2,_⟩:=y
    have:=f3 hf
    simp only at this
    subst this
    exact⟨y1,hy0⟩
   ·exact hall i (by simp only at hi2;omega)
 ·have:=of_decide_eq_false hi
  omega
end Go.Proofs.YtmakhmoielhjeaaGreatDoorE
namespace Go.Proofs.YtmakhmoielhjeaaGreatDoorE
abbrev t_Ins:Ty:=.pair (.int .i64) (.pair (.int .i64) (.pair (.int .i64) (.pair (.int .i64) (.pair (.int .i64) (.pair .str (.list 0 (.int .i64)))))))
abbrev t_Code:Ty:=.pair .str (.pair (.int .i64) (.pair (.list 0 (.int .i64)) (.list 0 t_Ins)))
end Go.Proofs.YtmakhmoielhjeaaGreatDoorE
namespace Go.Proofs.YtmakhmoielhjeaaGreatDoorE
set_option linter.all false
set_option maxRecDepth 100000
abbrev INS:=Int×(Int×(Int×(Int×(Int×(ByteArray×List Int)))))
abbrev CODE:=ByteArray×(Int×(List Int×List INS))
structure Small (c:CODE):Prop where
 l:c.2.2.1.length≤1048576
 w:c.2.2.2.length≤1048576
def place (c:CODE) (n:Int):Bool:=decide (0≤n∧n≤(c.2.2.1.length:Int) - 1)
theorem len1 {n:Nat} (h:n≤1048576):IntKind.wrap .i64 ((n:Int) - 1)=(n:Int) - 1:=wrap64 (by omega) (by omega)
theorem sPlace (c:CODE) (h:Small c) (n:Int):spec_l11Place c n=some (place c n,()):=by
 simp only [spec_l11Place,len1 h.l,sIn,Option.bind_some,place]
theorem iPlace (c:CODE) (h:Small c) (n:Int) (b:Bool):impl_isPlace c n b=some (bif b then place c n else decide (n=0),()):=by
 cases b<;>simp only [impl_isPlace,len1 h.l,iIn,Option.bind_some,place,cond_true,cond_false]
def hasB (k:Int):Bool:=decide (2≤k∧k≤7) || (decide (9≤k∧k≤12) || (decide (k=14) || decide (k=15)))
def hasC (k:Int):Bool:=decide (10≤k∧k≤12)
theorem sHasB (k:Int):spec_l11HasB k=some (hasB k,()):=by
 simp only [spec_l11HasB,sIn,Option.bind_some,hasB]
 cases decide (2≤k∧k≤7)<;>cases decide (9≤k∧k≤12)<;>cases decide (k=14)<;>rfl
theorem iHasB (k:Int):impl_hasB k=some (hasB k,()):=by
 simp only [impl_hasB,iIn,Option.bind_some,hasB]
 cases decide (2≤k∧k≤7)<;>cases decide (9≤k∧k≤12)<;>cases decide (k=14)<;>rfl
theorem sHasC (k:Int):spec_l11HasC k=some (hasC k,()):=by simp only [spec_l11HasC,sIn,Option.bind_some,hasC]
theorem iHasC (k:Int):impl_hasC k=some (hasC k,()):=by simp only [impl_hasC,iIn,Option.bind_some,hasC]
theorem iHasA (k:Int) (h:1≤k∧k≤20):impl_hasA k=some (decide (k≠18),()):=by
 simp only [impl_hasA,iIn,Option.bind_some]
 by_cases h1:1≤k∧k≤17
 ·simp only [h1,and_self,decide_true,cond_true,joinP_some]
  simp;omega
 ·simp only [h1,decide_false,cond_false]
  by_cases h2:k=19
  ·simp only [h2,decide_true,cond_true,joinP_some];rfl
  ·simp only [h2,decide_false,cond_false,joinP_some]
   simp only [Option.some.injEq,Prod.mk.injEq,and_true]
   by_cases h3:k=20
   ·subst h3;rfl
   ·have:k=18:=by omega
    subst this;rfl
def okA (c:CODE) (w:INS):Bool:=bif decide (w.1=18) then decide (w.2.1=0) else (decide (w.1=13) || decide (w.1=20)) && decide (w.2.1 = -1) || place c w.2.1
def okB (c:CODE) (w:INS):Bool:=bif hasB w.1 then place c w.2.2.1 else decide (w.2.2.1=0)
def okC (c:CODE) (w:INS):Bool:=bif hasC w.1 then place c w.2.2.2.1 else decide (w.2.2.2.1=0)
def okN (c:CODE) (w:INS):Bool:=bif decide (w.1=1) then decide (0≤w.2.2.2.2.1∧w.2.2.2.2.1≤1000000000) else bif decide (w.1=18) || decide (w.1=19) then decide (0≤w.2.2.2.2.1∧w.2.2.2.2.1≤(c.2.2.2.length:Int) - 1) else decide (w.2.2.2.2.1=0)
def okR (c:CODE) (w:INS):Bool:=bif decide (w.1=13) then w.2.2.2.2.2.2.all (place c) && (nameOk w.2.2.2.2.2.1 && decide ((w.2.2.2.2.2.2.length:Int)≤3)) else decide (w.2.2.2.2.2.1=(⟨#[]⟩:ByteArray)) && decide ((w.2.2.2.2.2.2.length:Int)=0)
def wordOk (c:CODE) (w:INS):Bool:=decide (1≤w.1∧w.1≤20) && (okA c w && (okB c w && (okC c w && (okN c w && okR c w))))
theorem sA (c:CODE) (h:Small c) (w:INS):spec_l11A c w=some (okA c w,()):=by
 simp only [spec_l11A,okA]
 by_cases h1:w.1=13
 ·simp only [h1,decide_true,cond_true,joinP_some,show ¬ ((13:Int)=18) by decide,decide_false,cond_false,Bool.true_or,Bool.true_and,sPlace c h,Option.bind_some]
  cases decide (w.2.1 = -1)<;>rfl
 ·by_cases h2:w.1=20
  ·simp only [h2,show ¬ ((20:Int)=13) by decide,decide_true,decide_false,cond_true,cond_false,joinP_some,show ¬ ((20:Int)=18) by decide,Bool.or_true,Bool.true_and,sPlace c h,Option.bind_some]
   cases decide (w.2.1 = -1)<;>rfl
  ·simp only [h1,h2,decide_false,cond_false,joinP_some,Bool.or_self,Bool.false_and,Bool.false_or,sPlace c h,Option.bind_some]
   cases decide (w.1=18)<;>rfl
theorem args_loopS (c:CODE) (h:Small c) (w:INS) (hl:w.2.2.2.2.2.2.length≤1048576):loopF L1_spec_WordOk ((0:Int),c,w,())=some (bif w.2.2.2.2.2.2.all (place c) then .inl (w,()) else .inr (false,())):=by
 exact loopF_all (step:=L1_spec_WordOk) w.2.2.2.2.2.2 (place c) (fun k=>((k:Int),c,w,())) (.inl (w,())) (.inr (false,())) (fun k hk=>by
  simp only [L1_spec_WordOk,lt_cast hk,decide_true,cond_true,idx_run hk,rd_nat hk,sPlace c h,Option.bind_some,wrapSucc (show k<9223372036854775807 by omega)]
  cases place c w.2.2.2.2.2.2[k]<;>rfl) (by
  simp only [L1_spec_WordOk,not_lt_self,decide_false,cond_false,Option.map_some])
theorem args_loopI (c:CODE) (h:Small c) (w:INS) (hl:w.2.2.2.2.2.2.length≤1048576):loopF L1_impl_WordOk (w.2.2.2.2.2.2,(w.2.2.2.2.2.2.length:Int),(0:Int),c,w,())=some (bif w.2.2.2.2.2.2.all (place c) then .inl (w,()) else .inr (false,())):=by
 exact loopF_all (step:=L1_impl_WordOk) w.2.2.2.2.2.2 (place c) (fun k=>(w.2.2.2.2.2.2,(w.2.2.2.2.2.2.length:Int),(k:Int),c,w,())) (.inl (w,())) (.inr (false,())) (fun k hk=>by
  simp only [L1_impl_WordOk,lt_cast hk,decide_true,cond_true,idx_run hk,rd_nat hk,iPlace c h,Option.bind_some,wrapSucc (show k<9223372036854775807 by omega)]
  cases place c w.2.2.2.2.2.2[k]<;>rfl) (by
  simp only [L1_impl_WordOk,not_lt_self,decide_false,cond_false,Option.map_some])
theorem spec_WordOk_ok (c:CODE) (h:Small c) (w:INS) (hl:w.2.2.2.2.2.2.length≤1048576):spec_WordOk c w=some (wordOk c w,()):=by
 unfold spec_WordOk wordOk
 simp only [sIn,sA c h,Option.bind_some]
 by_cases h1:1≤w.1∧w.1≤20
 case neg=>simp only [h1,decide_false,Bool.not_false,cond_true,joinP_some,Bool.false_and]
 simp only [h1,and_self,decide_true,Bool.not_true,cond_false,joinP_some,Bool.true_and]
 cases okA c w
 case false=>simp only [Bool.not_false,cond_true,Bool.false_and]
 simp only [Bool.not_true,cond_false,Bool.true_and,sHasB,sPlace c h,Option.bind_some]
 have eB:(bif hasB w.1 then bif !place c w.2.2.1 then some (true,c,w,()) else bif !hasB w.1 then some (decide (w.2.2.1≠0),c,w,()) else some (false,c,w,()) else bif !hasB w.1 then some (decide (w.2.2.1≠0),c,w,()) else some (false,c,w,()))=some (!okB c w,c,w,()):=by
  simp only [okB]
  cases hasB w.1<;>cases place c w.2.2.1<;>by_cases e:w.2.2.1=0<;>simp [e]
 rw [eB,joinP_some]
 cases okB c w
 case false=>simp only [Bool.not_false,cond_true,Bool.false_and]
 simp only [Bool.not_true,cond_false,Bool.true_and,sHasC,sPlace c h,Option.bind_some]
 have eC:(bif hasC w.1 then bif !place c w.2.2.2.1 then some (true,c,w,()) else bif !hasC w.1 then some (decide (w.2.2.2.1≠0),c,w,()) else some (false,c,w,()) else bif !hasC w.1 then some (decide (w.2.2.2.1≠0),c,w,()) else some (false,c,w,()))=some (!okC c w,c,w,()):=by
  simp only [okC]
  cases hasC w.1<;>cases place c w.2.2.2.1<;>by_cases e:w.2.2.2.1=0<;>simp [e]
 rw [eC,joinP_some]
 cases okC c w
 case false=>simp only [Bool.not_false,cond_true,Bool.false_and]
 simp only [Bool.not_true,cond_false,Bool.true_and,sIn,Option.bind_some,len1 h.w]
 have fin:(bif decide (w.1≠13) then joinP (bif decide (w.2.2.2.2.2.1=(⟨#[]⟩:ByteArray)) then some (decide ((w.2.2.2.2.2.2.length:Int)=0),()) else some (false,())) fun x19=>some (x19.1,()) else joinS ((some ((0:Int),c,w,())).bind fun x200=>loopF L1_spec_WordOk x200) fun x22=>joinP ((spec_NameOk x22.1.2.2.2.2.2.1).bind fun y23=>bif y23.1 then some (decide ((x22.1.2.2.2.2.2.2.length:Int)≤3),()) else some (false,())) fun x24=>some (x24.1,()))=some (okR c w,()):=by
  simp only [okR]
  by_cases h13:w.1=13
  ·simp only [h13,ne_eq,not_true_eq_false,decide_false,cond_false,Option.bind_some,args_loopS c h w hl,decide_true,cond_true]
   cases w.2.2.2.2.2.2.all (place c)
   ·simp only [cond_false,joinS_inr,Bool.false_and]
   ·simp only [cond_true,joinS_inl,spec_NameOk_ok,Option.bind_some,Bool.true_and]
    cases nameOk w.2.2.2.2.2.1<;>rfl
  ·simp only [h13,ne_eq,not_false_eq_true,decide_true,cond_true,decide_false,cond_false]
   cases decide (w.2.2.2.2.2.1=(⟨#[]⟩:ByteArray))<;>rfl
 simp only [okN]
 by_cases hk1:w.1=1
 ·simp only [hk1,decide_true,cond_true]
  cases decide (0≤w.2.2.2.2.1∧w.2.2.2.2.1≤1000000000)
  ·simp only [Bool.not_false,cond_true,Option.map_some,joinS_inr,Bool.false_and]
  ·simp only [Bool.not_true,cond_false,Option.map_some,joinS_inl,Bool.true_and]
   exact fin
 ·have e15:(bif decide (w.1=18) then some (decide (w.1=18),c,w,()) else some (decide (w.1=19),c,w,()))=some (decide (w.1=18) || decide (w.1=19),c,w,()):=by
   cases decide (w.1=18)<;>rfl
  simp only [hk1,decide_false,cond_false]
  rw [e15,joinP_some]
  cases decide (w.1=18) || decide (w.1=19)
  ·simp only [cond_false]
   by_cases hz:w.2.2.2.2.1=0
   ·simp only [hz,ne_eq,not_true_eq_false,decide_false,cond_false,joinS_inl,Option.map_some,decide_true,Bool.true_and]
    exact fin
   ·simp only [hz,ne_eq,not_false_eq_true,decide_true,cond_true,Option.map_some,joinS_inr,decide_false,Bool.false_and]
  ·simp only [cond_true,sIn,Option.bind_some,len1 h.w]
   cases decide (0≤w.2.2.2.2.1∧w.2.2.2.2.1≤(c.2.2.2.length:Int) - 1)
   ·simp only [Bool.not_false,cond_true,Option.map_some,joinS_inr,Bool.false_and]
   ·simp only [Bool.not_true,cond_false,joinS_inl,Option.map_some,Bool.true_and]
    exact fin
theorem zero_range (x:Int):decide (0≤x∧x≤0)=decide (x=0):=by
 by_cases e:x=0
 ·simp [e]
 ·rw [decide_eq_false e,decide_eq_false (by omega)]
theorem impl_WordOk_ok (c:CODE) (h:Small c) (w:INS) (hl:w.2.2.2.2.2.2.length≤1048576):impl_WordOk c w=some (wordOk c w,()):=by
 unfold impl_WordOk wordOk
 simp only [iIn,Option.bind_some]
 by_cases h1:1≤w.1∧w.1≤20
 case neg=>simp only [h1,decide_false,Bool.not_false,cond_true,Bool.false_and]
 simp only [h1,and_self,decide_true,Bool.not_true,cond_false,Bool.true_and]
 have e0:(bif decide (w.1=13) then some (decide (w.2.1 = -1),c,w,()) else bif decide (w.1=20) then some (decide (w.2.1 = -1),c,w,()) else some (false,c,w,()))=some ((decide (w.1=13) || decide (w.1=20)) && decide (w.2.1 = -1),c,w,()):=by
  cases decide (w.1=13)<;>cases decide (w.1=20)<;>rfl
 rw [e0,joinP_some]
 simp only [iHasA w.1 h1,iHasB,iHasC,iPlace c h,Option.bind_some]
 have eA:(bif !((decide (w.1=13) || decide (w.1=20)) && decide (w.2.1 = -1)) then bif !(bif decide (w.1≠18) then place c w.2.1 else decide (w.2.1=0)) then some (true,c,w,()) else bif !(bif hasB w.1 then place c w.2.2.1 else decide (w.2.2.1=0)) then some (true,c,w,()) else some (!(bif hasC w.1 then place c w.2.2.2.1 else decide (w.2.2.2.1=0)),c,w,())
  else bif !(bif hasB w.1 then place c w.2.2.1 else decide (w.2.2.1=0)) then some (true,c,w,()) else some (!(bif hasC w.1 then place c w.2.2.2.1 else decide (w.2.2.2.1=0)),c,w,()))=some (!(okA c w && (okB c w && okC c w)),c,w,()):=by
  have hA:okA c w=(((decide (w.1=13) || decide (w.1=20)) && decide (w.2.1 = -1)) || (bif decide (w.1≠18) then place c w.2.1 else decide (w.2.1=0))):=by
   simp only [okA]
   by_cases e:w.1=18
   ·simp [e]
   ·simp [e]
  rw [hA]
  show _=some (!(_ && ((bif hasB w.1 then place c w.2.2.1 else decide (w.2.2.1=0)) && (bif hasC w.1 then place c w.2.2.2.1 else decide (w.2.2.2.1=0)))),c,w,())
  cases ((decide (w.1=13) || decide (w.1=20)) && decide (w.2.1 = -1))<;>cases (bif decide (w.1≠18) then place c w.2.1 else decide (w.2.1=0))<;>cases (bif hasB w.1 then place c w.2.2.1 else decide (w.2.2.1=0))<;>cases (bif hasC w.1 then place c w.2.2.2.1 else decide (w.2.2.2.1=0))<;>rfl
 rw [eA,joinP_some]
 have hsp:(okA c w && (okB c w && (okC c w && (okN c w && okR c w))))=((okA c w && (okB c w && okC c w)) && (okN c w && okR c w)):=by
  cases okA c w<;>cases okB c w<;>cases okC c w<;>rfl
 rw [hsp]
 cases okA c w && (okB c w && okC c w)
 case false=>simp only [Bool.not_false,cond_true,Bool.false_and]
 simp only [Bool.not_true,cond_false,Bool.true_and,len1 h.w]
 have e15:(bif decide (w.1=18) then some ((0:Int),decide (w.1=18),c,w,()) else some ((0:Int),decide (w.1=19),c,w,()))=some ((0:Int),decide (w.1=18) || decide (w.1=19),c,w,()):=by
  cases decide (w.1=18)<;>rfl
 rw [e15,joinP_some]
 simp only [len1 h.w]
 have eN:(bif decide (w.1=1) then some ((1000000000:Int),c,w,()) else joinP (bif decide (w.1=18) || decide (w.1=19) then some ((c.2.2.2.length:Int) - 1,c,w,()) else some ((0:Int),c,w,())) fun x15:Int×CODE×INS×Unit=>some (x15.1,x15.2.1,x15.2.2.1,())) =
  some ((bif decide (w.1=1) then (1000000000:Int) else bif decide (w.1=18) || decide (w.1=19) then (c.2.2.2.length:Int) - 1 else 0),c,w,()):=by
  cases decide (w.1=1)<;>cases (decide (w.1=18) || decide (w.1=19))<;>rfl
 rw [eN,joinP_some]
 simp only [iIn,Option.bind_some]
 have eK:decide (0≤w.2.2.2.2.1∧w.2.2.2.2.1≤(bif decide (w.1=1) then (1000000000:Int) else bif decide (w.1=18) || decide (w.1=19) then (c.2.2.2.length:Int) - 1 else 0))=okN c w:=by
  simp only [okN]
  cases decide (w.1=1)<;>cases (decide (w.1=18) || decide (w.1=19))<;>simp only [cond_true,cond_false]
  exact zero_range _
 rw [eK]
 cases okN c w
 case false=>simp only [Bool.not_false,cond_true,Bool.false_and]
 simp only [Bool.not_true,cond_false,Bool.true_and,okR]
 by_cases h13:w.1=13
 ·simp only [h13,ne_eq,not_true_eq_false,decide_false,cond_false,args_loopI c h w hl,decide_true,cond_true]
  cases w.2.2.2.2.2.2.all (place c)
  ·simp only [cond_false,joinS_inr,Bool.false_and]
  ·simp only [cond_true,joinS_inl,impl_NameOk_ok,Option.bind_some,Bool.true_and]
   cases nameOk w.2.2.2.2.2.1<;>rfl
 ·simp only [h13,ne_eq,not_false_eq_true,decide_true,cond_true,decide_false,cond_false]
  cases decide (w.2.2.2.2.2.1=(⟨#[]⟩:ByteArray))<;>rfl
structure FineC (c:CODE):Prop where
 s:Small c
 a:∀ w∈c.2.2.2,(w:INS).2.2.2.2.2.2.length≤1048576
theorem wt_code (c:CODE):wt t_Code c=c.1.size+(0+((c.2.2.1.length+(c.2.2.1.map (wt (.int .i64))).sum)+(c.2.2.2.length+(c.2.2.2.map (wt t_Ins)).sum))):=rfl
theorem wt_ins (w:INS):wt t_Ins w=0+(0+(0+(0+(0+(w.2.2.2.2.2.1.size+(w.2.2.2.2.2.2.length+(w.2.2.2.2.2.2.map (wt (.int .i64))).sum)))))):=rfl
theorem fine_of (c:CODE) (h:wt t_Code c≤1048576):FineC c:=by
 rw [wt_code] at h
 refine⟨⟨by omega,by omega⟩,fun w hw=>?_⟩
 obtain⟨i,hi,rfl⟩:=List.mem_iff_getElem.1 hw
 have h1:=sum_mem (f:=wt t_Ins) hi
 have h2:=wt_ins c.2.2.2[i]
 omega
def localOk (n:Int):Bool:=decide (1≤n∧n≤4)
def codeOk (c:CODE):Bool:=nameOk c.1 && (decide (c.2.2.1.length≤200) && (decide (0≤c.2.1∧c.2.1≤(c.2.2.1.length:Int)) && (decide (1≤c.2.2.2.length∧c.2.2.2.length≤400) && (decide ((c.2.2.2.getD (c.2.2.2.length - 1) (0,0,0,0,0,⟨#[]⟩,[])).1=20) && (c.2.2.1.all localOk && c.2.2.2.all (wordOk c))))))
theorem locals_loopS (c:CODE) (h:FineC c):loopF L1_spec_CodeOk ((0:Int),c,())=some (bif c.2.2.1.all localOk then .inl (c,()) else .inr (false,())):=by
 have hl:=h.s.l
 exact loopF_all (step:=L1_spec_CodeOk) c.2.2.1 localOk (fun k=>((k:Int),c,())) (.inl (c,())) (.inr (false,())) (fun k hk=>by
  simp only [L1_spec_CodeOk,lt_cast hk,decide_true,cond_true,idx_run hk,rd_nat hk,sIn,Option.bind_some,wrapSucc (show k<9223372036854775807 by omega),localOk]
  cases decide (1≤c.2.2.1[k]∧c.2.2.1[k]≤4)<;>rfl) (by
  simp only [L1_spec_CodeOk,not_lt_self,decide_false,cond_false,Option.map_some])
theorem locals_loopI (c:CODE) (h:FineC c):loopF L1_impl_CodeOk (c.2.2.1,(c.2.2.1.length:Int),(0:Int),c,())=some (bif c.2.2.1.all localOk then .inl (c,()) else .inr (false,())):=by
 have hl:=h.s.l
 exact loopF_all (step:=L1_impl_CodeOk) c.2.2.1 localOk (fun k=>(c.2.2.1,(c.2.2.1.length:Int),(k:Int),c,())) (.inl (c,())) (.inr (false,())) (fun k hk=>by
  simp only [L1_impl_CodeOk,lt_cast hk,decide_true,cond_true,idx_run hk,rd_nat hk,iIn,Option.bind_some,wrapSucc (show k<9223372036854775807 by omega),localOk]
  cases decide (1≤c.2.2.1[k]∧c.2.2.1[k]≤4)<;>rfl) (by
  simp only [L1_impl_CodeOk,not_lt_self,decide_false,cond_false,Option.map_some])
theorem words_loopS (c:CODE) (h:FineC c):loopF L2_spec_CodeOk ((0:Int),c,())=some (bif c.2.2.2.all (wordOk c) then .inl () else .inr (false,())):=by
 have hl:=h.s.w
 exact loopF_all (step:=L2_spec_CodeOk) c.2.2.2 (wordOk c) (fun k=>((k:Int),c,())) (.inl ()) (.inr (false,())) (fun k hk=>by
  simp only [L2_spec_CodeOk,lt_cast hk,decide_true,cond_true,idx_run hk,rd_nat hk,spec_WordOk_ok c h.s _ (h.a _ (List.getElem_mem hk)),Option.bind_some,wrapSucc (show k<9223372036854775807 by omega)]
  cases wordOk c c.2.2.2[k]<;>rfl) (by
  simp only [L2_spec_CodeOk,not_lt_self,decide_false,cond_false,Option.map_some])
theorem words_loopI (c:CODE) (h:FineC c):loopF L2_impl_CodeOk (c.2.2.2,(c.2.2.2.length:Int),(0:Int),c,())=some (bif c.2.2.2.all (wordOk c) then .inl () else .inr (false,())):=by
 have hl:=h.s.w
 exact loopF_all (step:=L2_impl_CodeOk) c.2.2.2 (wordOk c) (fun k=>(c.2.2.2,(c.2.2.2.length:Int),(k:Int),c,())) (.inl ()) (.inr (false,())) (fun k hk=>by
  simp only [L2_impl_CodeOk,lt_cast hk,decide_true,cond_true,idx_run hk,rd_nat hk,impl_WordOk_ok c h.s _ (h.a _ (List.getElem_mem hk)),Option.bind_some,wrapSucc (show k<9223372036854775807 by omega)]
  cases wordOk c c.2.2.2[k]<;>rfl) (by
  simp only [L2_impl_CodeOk,not_lt_self,decide_false,cond_false,Option.map_some])
theorem last_cast {n:Nat} (h:1≤n):(n:Int) - 1=((n - 1:Nat):Int):=by omega
theorem rd_getD {α:Type} (l:List α) (k:Nat) (z:α):rd l (k:Int) z=l.getD k z:=by simp [rd]
theorem head_code (c:CODE) (h:FineC c) (nm:Bool) (r:Bool×CODE×Unit→Option (Bool×Unit)):
 (joinP (bif !nm then some (true,c,()) else bif decide ((200:Int)<(c.2.2.1.length:Int)) then some (true,c,()) else bif !decide ((0:Int)≤c.2.1∧c.2.1≤(c.2.2.1.length:Int)) then some (true,c,()) else bif !decide ((1:Int)≤(c.2.2.2.length:Int)∧(c.2.2.2.length:Int)≤400) then some (true,c,()) else
  (Cnd.idx ((c.2.2.2.length:Int) - 1) (c.2.2.2.length)).run (some (decide ((rd c.2.2.2 ((c.2.2.2.length:Int) - 1) (0,0,0,0,0,⟨#[]⟩,[])).1≠(20:Int)),c,()))) r) =
 r (!(nm && (decide (c.2.2.1.length≤200) && (decide (0≤c.2.1∧c.2.1≤(c.2.2.1.length:Int)) && (decide (1≤c.2.2.2.length∧c.2.2.2.length≤400) && decide ((c.2.2.2.getD (c.2.2.2.length - 1) (0,0,0,0,0,⟨#[]⟩,[])).1=20))))),c,()):=by
 have e1:decide ((200:Int)<(c.2.2.1.length:Int)) = !decide (c.2.2.1.length≤200):=by
  by_cases e:c.2.2.1.length≤200
  ·rw [decide_eq_true e,decide_eq_false (by omega)];rfl
  ·rw [decide_eq_false e,decide_eq_true (by omega)];rfl
 have e2:decide ((1:Int)≤(c.2.2.2.length:Int)∧(c.2.2.2.length:Int)≤400)=decide (1≤c.2.2.2.length∧c.2.2.2.length≤400):=by
  by_cases e:1≤c.2.2.2.length∧c.2.2.2.length≤400
  ·rw [decide_eq_true e,decide_eq_true (by omega)]
  ·rw [decide_eq_false e,decide_eq_false (by omega)]
 rw [e1,e2]
 cases nm
 ·rfl
 cases decide (c.2.2.1.length≤200)
 ·rfl
 cases decide (0≤c.2.1∧c.2.1≤(c.2.2.1.length:Int))
 ·rfl
 by_cases e:1≤c.2.2.2.length∧c.2.2.2.length≤400
 ·have hlt:c.2.2.2.length - 1<c.2.2.2.length:=by omega
  simp only [e,and_self,decide_true,Bool.not_true,cond_false,last_cast e.1,idx_run hlt,rd_getD,joinP_some,Bool.true_and]
  by_cases e3:(c.2.2.2.getD (c.2.2.2.length - 1) (0,0,0,0,0,⟨#[]⟩,[])).1=20
  ·simp [e3]
  ·simp [e3]
 ·rw [decide_eq_false e];rfl
theorem spec_CodeOk_ok (c:CODE) (h:FineC c):spec_CodeOk c=some (codeOk c,()):=by
 unfold spec_CodeOk codeOk
 simp only [spec_NameOk_ok,sIn,Option.bind_some,len1 h.s.w]
 rw [head_code c h]
 have hsp:∀ a b d e f g i:Bool,(a && (b && (d && (e && (f && (g && i))))))=((a && (b && (d && (e && f)))) && (g && i)):=by decide
 rw [hsp]
 cases nameOk c.1 && (decide (c.2.2.1.length≤200) && (decide (0≤c.2.1∧c.2.1≤(c.2.2.1.length:Int)) && (decide (1≤c.2.2.2.length∧c.2.2.2.length≤400) && decide ((c.2.2.2.getD (c.2.2.2.length - 1) (0,0,0,0,0,⟨#[]⟩,[])).1=20))))
 ·rfl
 simp only [Bool.not_true,cond_false,Bool.true_and,locals_loopS c h]
 cases c.2.2.1.all localOk
 ·rfl
 simp only [cond_true,joinS_inl,Option.bind_some,words_loopS c h,Bool.true_and]
 cases c.2.2.2.all (wordOk c)<;>rfl
theorem impl_CodeOk_ok (c:CODE) (h:FineC c):impl_CodeOk c=some (codeOk c,()):=by
 unfold impl_CodeOk codeOk
 simp only [impl_NameOk_ok,iIn,Option.bind_some,len1 h.s.w]
 rw [head_code c h]
 have hsp:∀ a b d e f g i:Bool,(a && (b && (d && (e && (f && (g && i))))))=((a && (b && (d && (e && f)))) && (g && i)):=by decide
 rw [hsp]
 cases nameOk c.1 && (decide (c.2.2.1.length≤200) && (decide (0≤c.2.1∧c.2.1≤(c.2.2.1.length:Int)) && (decide (1≤c.2.2.2.length∧c.2.2.2.length≤400) && decide ((c.2.2.2.getD (c.2.2.2.length - 1) (0,0,0,0,0,⟨#[]⟩,[])).1=20))))
 ·rfl
 simp only [Bool.not_true,cond_false,Bool.true_and,locals_loopI c h]
 cases c.2.2.1.all localOk
 ·rfl
 simp only [cond_true,joinS_inl,Option.bind_some,words_loopI c h,Bool.true_and]
 cases c.2.2.2.all (wordOk c)<;>rfl
end Go.Proofs.YtmakhmoielhjeaaGreatDoorE
namespace Go.Proofs.YtmakhmoielhjeaaGreatDoorE
set_option linter.all false
set_option maxRecDepth 100000
theorem nil_le {α β:Type} {l:List α} {n m:Nat} {K:Option β} (h:l.length * n≤m):(Cnd.le ((List.length ([]:List α)+l.length) * n) m).run K=K:=by
 rw [le_run];simpa using h
theorem spec_words (l:List INS) (hl:l.length≤1048576) (ha:∀ w∈l,(w:INS).2.2.2.2.2.2.length≤1048576):spec_l11Words l=some (l,()):=by
 have h:=loopF_push (step:=L1_spec_l11Words) l (fun w=>w) (fun k o=>(l,o,(k:Int),())) (fun o=>(o,())) (fun k hk o ho=>by
  have h1:=ha _ (List.getElem_mem hk)
  simp only [L1_spec_l11Words,lt_cast hk,decide_true,cond_true,idx_run hk,rd_nat hk,List.nil_append,Option.map_some,wrapSucc (show k<9223372036854775807 by omega)]
  rw [nil_le (by omega),le_run (by rw [ho];simp;omega)]) (fun o ho=>by
  simp only [L1_spec_l11Words,not_lt_self,decide_false,cond_false,Option.map_some])
 have h':loopF L1_spec_l11Words (l,[],(0:Int),())=_:=h
 simp only [spec_l11Words,Option.bind_some,h',joinP_some,List.map_id']
theorem spec_copy (c:CODE) (h:FineC c):spec_l11Copy c=some (c,()):=by
 have h1:=h.s.l
 simp only [spec_l11Copy,spec_words _ h.s.w h.a,Option.bind_some,List.nil_append]
 rw [nil_le (by omega)]
theorem impl_ints (l:List Int) (h:l.length≤1048576):impl_copyInts l=some (l,()):=by
 simp only [impl_copyInts,List.nil_append]
 rw [nil_le (by omega)]
theorem impl_copy (c:CODE) (h:FineC c):impl_copyCode c=some (c,()):=by
 have hl:=h.s.w
 have h1:=h.s.l
 have hp:=loopF_push (step:=L1_impl_copyCode) c.2.2.2 (fun w=>w) (fun k o=>(o,c.2.2.2,(c.2.2.2.length:Int),(k:Int),c,((⟨#[]⟩:ByteArray),((0:Int),([],[]))),())) (fun o=>(o,c,((⟨#[]⟩:ByteArray),((0:Int),([],[]))),())) (fun k hk o ho=>by
  have h1:=h.a _ (List.getElem_mem hk)
  simp only [L1_impl_copyCode,lt_cast hk,decide_true,cond_true,idx_run hk,rd_nat hk,impl_ints _ h1,Option.bind_some,Option.map_some,wrapSucc (show k<9223372036854775807 by omega)]
  rw [le_run (by rw [ho];simp;omega)]) (fun o ho=>by
  simp only [L1_impl_copyCode,not_lt_self,decide_false,cond_false,Option.map_some])
 have hp':loopF L1_impl_copyCode ([],c.2.2.2,(c.2.2.2.length:Int),(0:Int),(c.1,(c.2.1,(c.2.2.1,c.2.2.2))),((⟨#[]⟩:ByteArray),((0:Int),([],[]))),())=_:=hp
 simp only [impl_copyCode,impl_ints _ h1,Option.bind_some,hp',joinP_some,List.map_id']
abbrev zI:INS:=((0:Int),((0:Int),((0:Int),((0:Int),((0:Int),((⟨#[]⟩:ByteArray),[]))))))
def Jmp (l:List INS):Prop:=∀ w∈l,(w:INS).1=18∨(w:INS).1=19→∃ t:Nat,(w:INS).2.2.2.2.1=(t:Int)∧t<l.length
theorem jmp_of {c:CODE} (h:codeOk c=true):Jmp c.2.2.2:=by
 intro w hw hj
 simp only [codeOk,Bool.and_eq_true,List.all_eq_true] at h
 have h1:=h.2.2.2.2.2.2 w hw
 simp only [wordOk,Bool.and_eq_true] at h1
 have h2:=h1.2.2.2.2.1
 simp only [okN] at h2
 have hne:¬ w.1=1:=by omega
 have hd:(decide (w.1=18) || decide (w.1=19))=true:=by simpa using hj
 rw [decide_eq_false hne,hd,cond_false,cond_true,decide_eq_true_eq] at h2
 generalize hn:(w.2.2.2.2.1:Int)=n at h2
 exact⟨n.toNat,by omega,by omega⟩
end Go.Proofs.YtmakhmoielhjeaaGreatDoorE
namespace Go.Proofs.YtmakhmoielhjeaaGreatDoorE
set_option linter.all false
set_option maxRecDepth 100000
theorem fold_dstep (ds:List Int):∀ (ys:List Int) (d:Int),d≤ys.foldl (dStep ds) d∧∀ y∈ys,rd ds y (0:Int)+1≤ys.foldl (dStep ds) d
 | [],d=>⟨Int.le_refl _,by simp⟩
 | y::ys,d=>by
  have h:=fold_dstep ds ys (dStep ds d y)
  have h1:d≤dStep ds d y∧rd ds y (0:Int)+1≤dStep ds d y:=by
   unfold dStep
   split<;>omega
  rw [List.foldl_cons]
  refine⟨by omega,fun z hz=>?_⟩
  rcases List.mem_cons.1 hz with hz | hz
  ·subst hz;omega
  ·exact h.2 z hz
theorem deep_kid {l:List NODE} {k:Int} (h:(0:Int)<deepAt l k) {y:Int} (hy:y∈(rd l k zN).2.2.2):deepAt l y+1≤deepAt l k:=by
 have hp:=deepAt_pos h
 have hk:=kid_pos h hy
 obtain⟨n,rfl⟩:∃ m:Nat,k=(m:Int):=⟨k.toNat,by omega⟩
 obtain⟨m,rfl⟩:∃ m:Nat,y=(m:Int):=⟨y.toNat,by omega⟩
 unfold deepAt at h ⊢
 rw [decide_eq_true (by omega),cond_true] at h
 rw [decide_eq_true (by omega),decide_eq_true (by omega),cond_true,cond_true]
 rw [Int.toNat_natCast] at h ⊢
 rw [Int.toNat_natCast]
 have e:dAt l n=dKids (deeps l n) (rd l (n:Int) zN):=by
  unfold dAt dNext at h ⊢
  cases hc:nodeOk l (n:Int) && (decide (n=0) || decide (rd (deeps l n) ((n:Int) - 1) (0:Int)≠0))
  ·rw [hc] at h;cases h
  ·rw [hc,cond_true] at h
   rw [cond_true]
   unfold dCut at h ⊢
   cases hd:decide ((10:Int)<dKids (deeps l n) (rd l (n:Int) zN))
   ·rfl
   ·rw [hd] at h;cases h
 have h2:=(fold_dstep (deeps l n) (rd l (n:Int) zN).2.2.2 1).2 _ hy
 rw [deeps_get l n m (by omega)] at h2
 rw [e];exact h2
theorem deep_ten (l:List NODE) (k:Int):deepAt l k≤10:=by
 unfold deepAt
 cases decide (0≤k∧k≤(l.length:Int) - 1)
 ·show(0:Int)≤10;omega
 ·exact(dAt_le l k.toNat).2
def W:Nat→Nat
 | 0=>0
 | n+1=>12 * W n+22
theorem W_le {n:Nat} (h:n≤10):W n≤123834728446:=by
 have:∀ n:Fin 11,W n.1≤123834728446:=by decide
 exact this ⟨n,by omega⟩
abbrev LOW:=PROG×(List VAR×CODE)
def AO (l:LOW):Prop:=∀ w∈l.2.2.2.2.2,(w:INS).2.2.2.2.2.2.length≤1048576
structure Grw (n:Nat) (l l':LOW):Prop where
 p:l'.1=l.1
 v:l'.2.1=l.2.1
 lo:l.2.2.2.2.1.length≤l'.2.2.2.2.1.length
 lo':l'.2.2.2.2.1.length≤l.2.2.2.2.1.length+n
 wo:l.2.2.2.2.2.length≤l'.2.2.2.2.2.length
 wo':l'.2.2.2.2.2.length≤l.2.2.2.2.2.length+n
 ar:AO l→AO l'
theorem Grw.rfl' {l:LOW}:Grw 0 l l:=⟨rfl,rfl,Nat.le_refl _,Nat.le_refl _,Nat.le_refl _,Nat.le_refl _,id⟩
theorem Grw.trans {a b:Nat} {x y z:LOW} (h:Grw a x y) (g:Grw b y z):Grw (a+b) x z:=⟨g.p.trans h.p,g.v.trans h.v,Nat.le_trans h.lo g.lo,by have:=h.lo';have:=g.lo';omega,Nat.le_trans h.wo g.wo,by have:=h.wo';have:=g.wo';omega,fun e=>g.ar (h.ar e)⟩
theorem Grw.le {a b:Nat} {x y:LOW} (h:Grw a x y) (hl:a≤b):Grw b x y:=⟨h.p,h.v,h.lo,by have:=h.lo';omega,h.wo,by have:=h.wo';omega,h.ar⟩
def Sz (n:Nat) (l:LOW):Prop:=l.2.2.2.2.1.length+n≤1000000000000∧l.2.2.2.2.2.length+n≤1000000000000
theorem Grw.sz {a b:Nat} {x y:LOW} (h:Grw a x y) (hs:Sz (a+b) x):Sz b y:=⟨by have:=h.lo';have:=hs.1;omega,by have:=h.wo';have:=hs.2;omega⟩
theorem Sz.le {a b:Nat} {x:LOW} (h:Sz a x) (hl:b≤a):Sz b x:=⟨by have:=h.1;omega,by have:=h.2;omega⟩
theorem temp_wp (l:LOW) (t:Int) (h:Sz 1 l):wp (spec_l12Lower_temp l t) fun y=>Grw 1 l y.2.1∧y.1<(y.2.1.2.2.2.2.1.length:Int):=by
 have h1:=h.1
 unfold spec_l12Lower_temp
 refine wp_run (show(_:Nat)≤_ by simp only [List.length_singleton];omega) (wp_some ⟨⟨rfl,rfl,by simp,by simp,Nat.le_refl _,by simp,id⟩,?_⟩)
 simp only [List.length_append,List.length_singleton]
 rw [wrap64 (by omega) (by omega)]
 omega
theorem add_wp (l:LOW) (w:INS) (h:Sz 1 l) (hw:w.2.2.2.2.2.2.length≤1048576):wp (spec_l12Lower_add l w) fun y=>Grw 1 l y.2.1∧0≤y.1∧y.1<(y.2.1.2.2.2.2.2.length:Int):=by
 have h1:=h.2
 unfold spec_l12Lower_add
 refine wp_run (show(_:Nat)≤_ by simp only [List.length_singleton];omega) (wp_some ⟨⟨rfl,rfl,Nat.le_refl _,by simp,by simp,by simp,fun e x hx=>?_⟩,?_⟩)
 ·rcases List.mem_append.1 hx with hx | hx
  ·exact e x hx
  ·rw [List.mem_singleton.1 hx];exact hw
 ·simp only [List.length_append,List.length_singleton]
  rw [wrap64 (by omega) (by omega)]
  omega
theorem set_gr (l:LOW) (i:Int) (h0:0≤i) (h1:i<(l.2.2.2.2.2.length:Int)) (w:INS) (hw:w.2.2.2.2.2.2=(rd l.2.2.2.2.2 i zI).2.2.2.2.2.2):Grw 0 l (l.1,(l.2.1,(l.2.2.1,(l.2.2.2.1,(l.2.2.2.2.1,l.2.2.2.2.2.set i.toNat w))))):=by
 refine⟨rfl,rfl,Nat.le_refl _,Nat.le_refl _,by simp,by simp,fun e x hx=>?_⟩
 rcases List.mem_or_eq_of_mem_set hx with hx | hx
 ·exact e x hx
 ·subst hx;rw [hw];exact e _ (rd_get _ _ _ h0 h1)
theorem wq_jid {α β:Type} {x x':Option α} {f:α→β} {Q:β→Prop} (h:wq x x' fun a=>Q (f a)):wq (joinP x fun a=>some (f a)) (joinP x' fun a=>some (f a)) Q:=wq_joinP (wq_mono h fun a ha=>wq_some ha)
abbrev FLV:=LOW→Int→Option (Int×LOW×Unit)
abbrev FL:=LOW→Int→Option (LOW×Unit)
section
variable {p:PROG} (hp:FineP p) {vs:List VAR} (hl:vs.length≤2097152)
include hp hl
theorem lval_S {r0 r0':FLV} (k:Int) (e:Nat) (h:(0:Int)<deepAt p.1 k) (hk:(rd p.1 k zN).1≤12) (hd:deepAt p.1 k≤(e:Int)+1) (l:LOW) (e1:l.1=p) (e2:l.2.1=vs) (hs:Sz (W (e+1)) l)
 (H:∀ y,(0:Int)<deepAt p.1 y→(rd p.1 y zN).1≤12→0≤y∧y<k→deepAt p.1 y≤(e:Int)→∀ l':LOW,l'.1=p→l'.2.1=vs→Sz (W e) l'→wq (r0 l' y) (r0' l' y) fun z=>Grw (W e) l' z.2.1∧z.1<(z.2.1.2.2.2.2.1.length:Int)):
 wq (spec_l12Lower_value_S r0 l k) (spec_l12Lower_value_S r0' l k) fun z=>Grw (W (e+1)) l z.2.1∧z.1<(z.2.1.2.2.2.2.1.length:Int):=by
 unfold spec_l12Lower_value_S
 have hkr:=deepAt_pos h
 have h12:=nk_twelve hkr.2.1
 have hW:W (e+1)=12 * W e+22:=rfl
 refine wq_run (by rw [e1];exact idxH hkr.1.1 hkr.1.2) (wq_joinP (wq_bind (wq_some (wq_mono (wq_loop (fun x:SL1_spec_l12Lower_value=>x.1=k∧0≤x.2.2.1∧x.2.2.1≤((rd p.1 k zN).2.2.2.length:Int)∧x.2.1.length=x.2.2.1.toNat∧Grw (x.2.2.1.toNat * W e) l x.2.2.2.1∧x.2.2.2.2.1=rd p.1 k zN) (fun x=>((rd p.1 k zN).2.2.2.length - x.2.2.1).toNat) (Q:=fun x:Int×List Int×LOW×NODE×Unit=>x.1=k∧x.2.1.length≤12∧Grw (12 * W e) l x.2.2.1∧x.2.2.2.1=rd p.1 k zN) (fun x hx=>?_) ⟨rfl,by simp,by simp only;omega,rfl,?_,by rw [e1]⟩) fun x hx=>?_))))
 ·obtain⟨b1,b2,b3,b4,b5,_⟩:=x
  simp only at hx
  obtain⟨f1,b30,b3l,f2,g,f5⟩:=hx
  subst f1 f5
  unfold L1_spec_l12Lower_value
  simp only
  have hmul:b3.toNat * W e≤12 * W e:=Nat.mul_le_mul_right _ (by omega)
  refine wq_bif (fun hi=>?_) fun hi=>wq_map (wq_some (wp_inr ⟨rfl,by simp only;omega,g.le hmul,rfl⟩))
  have hi':=of_decide_eq_true hi
  have g0:=vkid h hk (i:=b3) b30 hi'
  have hdk:=deep_kid h (rd_get (rd p.1 b1 zN).2.2.2 b3 (0:Int) b30 hi')
  have hmul2:(b3.toNat+1) * W e≤12 * W e:=Nat.mul_le_mul_right _ (by omega)
  rw [Nat.succ_mul] at hmul2
  refine wq_run (idxH b30 hi') (wq_bind (wq_mono (H _ g0.1 g0.2.2 g0.2.1 (by omega) b4 (g.p.trans e1) (g.v.trans e2) (g.sz (hs.le (by omega)))) fun y hy=>wq_run (show(_:Nat)≤_ by simp only [List.length_singleton];omega) (wq_map (wq_some (wp_inl ?_)))))
  rw [wrap64 (by omega) (by omega)]
  refine⟨⟨rfl,by simp only;omega,by simp only;omega,by simp only [List.length_append,List.length_singleton];omega,?_,rfl⟩,by simp only;omega⟩
  simp only
  rw [show(b3+1).toNat * W e=b3.toNat * W e+W e by rw [show(b3+1).toNat=b3.toNat+1 by omega,Nat.succ_mul]]
  exact g.trans hy.1
 ·simp only [Int.toNat_zero,Nat.zero_mul];exact Grw.rfl'
 ·obtain⟨z1,z2,z3,z4,_⟩:=x
  simp only at hx ⊢
  obtain⟨f1,f2,g,f4⟩:=hx
  subst f1 f4
  rw [g.p,g.v,e1,e2]
  have hs2:Sz 2 z3:=(g.sz (b:=22) (hs.le (by omega))).le (by omega)
  refine wq_bind (wq_mono (wq_of (type_wp hp hl _ h hk)) fun y4 _=>wq_joinP (wq_mono (Q:=fun x:List Int×Int×Int×LOW×NODE×Unit=>x.1.length≤12∧Grw 1 z3 x.2.2.2.1∧x.2.2.1<(x.2.2.2.1.2.2.2.2.1.length:Int)) (wq_bif (fun _=>wq_bind (wq_mono (wq_of (temp_wp z3 _ (hs2.le (by omega)))) fun y hy=>wq_some ⟨f2,hy.1,hy.2⟩)) fun _=>wq_some ⟨f2,Grw.rfl'.le (by omega),by simp only;omega⟩) fun x hx=>?_))
  obtain⟨a1,a2,a3,a4,a5,_⟩:=x
  simp only at hx ⊢
  obtain⟨f2,g2,ha⟩:=hx
  have hs3:Sz 1 a4:=g2.sz (b:=1) hs2
  have fin:∀ a:LOW,Grw 1 a4 a→Grw (W (e+1)) l a∧a3<(a.2.2.2.2.1.length:Int):=fun a g3=>⟨((g.trans g2).trans g3).le (by omega),by have:=g3.lo;omega⟩
  refine wq_bif (fun _=>wq_bind (wq_mono (wq_of (add_wp a4 _ hs3 (by simp only;omega))) fun y hy=>wq_some (fin _ hy.1))) fun _=>wq_bif (fun _=>?_) fun _=>?_
  ·refine wq_bind (wq_mono (wq_of (Q:=fun _=>True) (by unfold spec_CopyType;exact wp_joinP (wp_mono (wp_bif (Q:=fun _=>True) (fun _=>wp_some trivial) fun _=>wp_some trivial) fun _ _=>wp_some trivial))) fun y8 _=>wq_joinP (wq_mono (Q:=fun x:Int×Int×LOW×NODE×Unit=>x.1=a3∧x.2.2.1=a4) (wq_bif (fun _=>wq_some ⟨rfl,rfl⟩) fun _=>wq_some ⟨rfl,rfl⟩) fun x hx=>?_))
   obtain⟨c1,c2,c3,c4,_⟩:=x
   simp only at hx ⊢
   obtain⟨q1,q2⟩:=hx
   subst q1 q2
   rw [spec_VarAt_ok _ (by rw [g2.v,g.v,e2];exact hl)]
   exact wq_bind (wq_some (wq_bind (wq_mono (wq_of (add_wp _ _ hs3 (by simp))) fun y hy=>wq_some (fin _ hy.1))))
  ·refine wq_bind (wq_mono (wq_of (Q:=fun _=>True) (by unfold spec_l12Op;repeat (first | exact wp_some trivial | refine wp_bif (fun _=>wp_some trivial) fun _=>?_))) fun y12 _=>wq_joinP (wq_mono (Q:=fun x:List Int×Int×LOW×INS×Unit=>x.1=a1∧x.2.1=a3∧x.2.2.1=a4∧x.2.2.2.1.2.2.2.2.2.2=[]) (wq_bif (fun _=>?_) fun _=>wq_some ⟨rfl,rfl,rfl,rfl⟩) fun x hx=>?_))
   ·rw [spec_VarAt_ok _ (by rw [g2.v,g.v,e2];exact hl)]
    exact wq_bind (wq_some (wq_some ⟨rfl,rfl,rfl,rfl⟩))
   obtain⟨c1,c2,c3,c4,_⟩:=x
   simp only at hx ⊢
   obtain⟨q1,q2,q3,q4⟩:=hx
   subst q1 q2 q3
   refine wq_joinP (wq_mono (Q:=fun x:List Int×Int×LOW×INS×Unit=>x.1=c1∧x.2.1=c2∧x.2.2.1=c3∧x.2.2.2.1.2.2.2.2.2.2=[]) (wq_bif (fun hb=>wq_run (idxH (by omega) (of_decide_eq_true hb)) (wq_some ⟨rfl,rfl,rfl,q4⟩)) fun _=>wq_some ⟨rfl,rfl,rfl,q4⟩) fun x hx=>?_)
   obtain⟨d1,d2,d3,d4,_⟩:=x
   simp only at hx ⊢
   obtain⟨q1,q2,q3,q5⟩:=hx
   subst q1 q2 q3
   refine wq_joinP (wq_mono (Q:=fun x:Int×LOW×INS×Unit=>x.1=d2∧x.2.1=d3∧x.2.2.1.2.2.2.2.2.2=[]) (wq_bif (fun hb=>wq_run (idxH (by omega) (of_decide_eq_true hb)) (wq_some ⟨rfl,rfl,q5⟩)) fun _=>wq_some ⟨rfl,rfl,q5⟩) fun x hx=>?_)
   obtain⟨k1,k2,k3,_⟩:=x
   simp only at hx ⊢
   obtain⟨q1,q2,q6⟩:=hx
   subst q1 q2
   exact wq_bind (wq_mono (wq_of (add_wp _ _ hs3 (by rw [q6];simp))) fun y hy=>wq_some (fin _ hy.1))
end
end Go.Proofs.YtmakhmoielhjeaaGreatDoorE
namespace Go.Proofs.YtmakhmoielhjeaaGreatDoorE
set_option linter.all false
set_option maxRecDepth 100000
def Vis (p:PROG) (vs:List VAR) (k:Int):Prop:=∀ t,undr p.1 k t=true→(rd p.1 t zN).1=13→LAst vs (rd p.1 t zN).2.2.1
theorem Vis.kid {p:PROG} {vs:List VAR} {k y:Int} (h:Vis p vs k) (hd:(0:Int)<deepAt p.1 k) (hy:y∈(rd p.1 k zN).2.2.2):Vis p vs y:=fun t ht=>h t (undr_kid hd hy ht)
section
variable {p:PROG} (hp:FineP p) {vs:List VAR} (hl:vs.length≤2097152)
include hp hl
theorem lval_R:∀ m:Nat,∀ n n' k (e:Nat),(0:Int)<deepAt p.1 k→(rd p.1 k zN).1≤12→deepAt p.1 k≤(e:Int)→k.toNat<m→k.toNat+1≤n→k.toNat+1≤n'→∀ l:LOW,l.1=p→l.2.1=vs→Sz (W e) l →
 wq ((R_spec_l12Lower_value n).1 l k) ((R_spec_l12Lower_value n').1 l k) fun z=>Grw (W e) l z.2.1∧z.1<(z.2.1.2.2.2.2.1.length:Int):=by
 intro m
 induction m with
 | zero=>intro n n' k _ _ _ _ h;omega
 | succ m ih=>
  intro n n' k e h hk hd hm hn hn' l e1 e2 hs
  obtain⟨n,rfl⟩:∃ j,n=j+1:=⟨n - 1,by omega⟩
  obtain⟨n',rfl⟩:∃ j,n'=j+1:=⟨n' - 1,by omega⟩
  obtain⟨e,rfl⟩:∃ j,e=j+1:=⟨e - 1,by omega⟩
  exact lval_S hp hl (r0:=(R_spec_l12Lower_value n).1) (r0':=(R_spec_l12Lower_value n').1) k e h hk (by omega) l e1 e2 hs fun y hy h12 hyk hdy l' e1' e2' hs'=>ih n n' y e hy h12 hdy (by omega) (by omega) (by omega) l' e1' e2' hs'
theorem lval_wp (k:Int) (e:Nat) (h:(0:Int)<deepAt p.1 k) (hk:(rd p.1 k zN).1≤12) (hd:deepAt p.1 k≤(e:Int)) (l:LOW) (e1:l.1=p) (e2:l.2.1=vs) (hs:Sz (W e) l):wp (spec_l12Lower_value l k) fun z=>Grw (W e) l z.2.1∧z.1<(z.2.1.2.2.2.2.1.length:Int):=by
 unfold spec_l12Lower_value
 exact wq_lim (k.toNat+1) fun n hn=>lval_R hp hl _ n _ k e h hk hd (Nat.lt_succ_self _) hn (Nat.le_refl _) l e1 e2 hs
theorem drops_wp (k:Int) (h:(0:Int)<deepAt p.1 k) (hv:Vis p vs k) (l:LOW) (e1:l.1=p) (e2:l.2.1=vs) (hs:Sz 12 l):wp (spec_l12Lower_drops l k) fun y=>Grw 12 l y.1:=by
 unfold spec_l12Lower_drops
 have hkr:=deepAt_pos h
 have h12:=nk_twelve hkr.2.1
 rw [e1]
 have hi:IntKind.wrap .i64 (((rd p.1 k zN).2.2.2.length:Int) - 1)=((rd p.1 k zN).2.2.2.length:Int) - 1:=wrap64 (by omega) (by omega)
 refine wp_run (idxH hkr.1.1 hkr.1.2) (wp_joinP (wp_bind (wp_some (wp_mono (wp_loop (fun x:SL1_spec_l12Lower_drops=>x.1=(rd p.1 k zN).2.2.2∧-1≤x.2.1∧x.2.1<((rd p.1 k zN).2.2.2.length:Int)∧Grw (((rd p.1 k zN).2.2.2.length:Int) - 1 - x.2.1).toNat l x.2.2.1) (fun x=>(x.2.1+1).toNat) (Q:=fun x:LOW×Unit=>Grw 12 l x.1) (fun x hx=>?_) ⟨rfl,?_,?_,?_⟩) fun x hx=>wp_some hx))))
 ·obtain⟨b1,b2,b3,_⟩:=x
  simp only at hx
  obtain⟨f1,hb0,hb1,g⟩:=hx
  subst f1
  unfold L1_spec_l12Lower_drops
  simp only
  refine wp_bif (fun hi=>?_) fun hi=>wp_map (wp_some (wp_inr (g.le (by omega))))
  have hi':=of_decide_eq_true hi
  have hmem:=rd_get (rd p.1 k zN).2.2.2 b2 (0:Int) hi' hb1
  have hkp:=kid_pos h hmem
  have hkr2:=deepAt_pos hkp.1
  have hsz:Sz 1 b3:=g.sz (hs.le (by omega))
  rw [g.p,g.v,e1,e2]
  refine wp_run (idxH hi' hb1) (wp_run (idxH hkr2.1.1 hkr2.1.2) (wp_joinP (wp_mono (Q:=fun x:List Int×Int×Bool×LOW×NODE×Unit=>x.1=(rd p.1 k zN).2.2.2∧x.2.1=b2∧x.2.2.2.1=b3) (wp_bif (fun hb=>?_) fun _=>wp_some ⟨rfl,rfl,rfl⟩) fun x hx=>?_)))
  ·have hb':=of_decide_eq_true hb
   have hLA:=hv _ (undr_kid h hmem (undr_self _ _)) hb'
   have hvp:=varAt_pos hLA
   rw [spec_VarAt_ok _ hl]
   exact wp_bind (wp_some (wp_run (idxH hvp (varAt_rng _ _).2) (wp_some ⟨rfl,rfl,rfl⟩)))
  ·obtain⟨c1,c2,c3,c4,c5,_⟩:=x
   simp only at hx ⊢
   obtain⟨f1,f2,f3⟩:=hx
   subst f2 f3
   refine wp_joinP (wp_mono (Q:=fun x:List Int×Int×LOW×Unit=>x.1=(rd p.1 k zN).2.2.2∧x.2.1=c2∧Grw 1 c4 x.2.2.1) (wp_bif (fun _=>?_) fun _=>wp_some ⟨f1,rfl,Grw.rfl'.le (by omega)⟩) fun x hx=>?_)
   ·rw [spec_VarAt_ok _ (by rw [g.v,e2];exact hl)]
    exact wp_bind (wp_some (wp_bind (wp_mono (add_wp _ _ hsz (by simp)) fun y hy=>wp_some ⟨f1,rfl,hy.1⟩)))
   ·obtain⟨d1,d2,d3,_⟩:=x
    simp only at hx ⊢
    obtain⟨q1,q2,q3⟩:=hx
    subst q2
    refine wp_map (wp_some (wp_inl ?_))
    rw [wrap64 (by omega) (by omega)]
    exact⟨⟨q1,by simp only;omega,by simp only;omega,(g.trans q3).le (by simp only;omega)⟩,by simp only;omega⟩
 ·simp only;rw [hi];omega
 ·simp only;rw [hi];omega
 ·simp only;rw [hi];exact Grw.rfl'.le (by omega)
theorem lsts_S {r0 r0' r1 r1' r2 r2':FL} (k:Int) (e:Nat) (h:(0:Int)<deepAt p.1 k) (h20:(rd p.1 k zN).1=20) (hd:deepAt p.1 k≤(e:Int)+1) (hv:Vis p vs k) (l:LOW) (e1:l.1=p) (e2:l.2.1=vs) (hs:Sz (12 * W e) l)
 (H:∀ y,(0:Int)<deepAt p.1 y→13≤(rd p.1 y zN).1∧(rd p.1 y zN).1≤19→0≤y∧y<k→deepAt p.1 y≤(e:Int)→Vis p vs y→∀ l':LOW,l'.1=p→l'.2.1=vs→Sz (W e) l'→wq (r1 l' y) (r1' l' y) fun z=>Grw (W e) l' z.1):
 wq (spec_l12Lower_steps_S r0 r1 r2 l k) (spec_l12Lower_steps_S r0' r1' r2' l k) fun z=>Grw (12 * W e) l z.1:=by
 unfold spec_l12Lower_steps_S
 have hkr:=deepAt_pos h
 have h12:=nk_twelve hkr.2.1
 rw [e1]
 refine wq_run (idxH hkr.1.1 hkr.1.2) (wq_joinP (wq_bind (wq_some (wq_mono (wq_loop (fun x:SL1_spec_l12Lower_steps=>x.1=(rd p.1 k zN).2.2.2∧0≤x.2.1∧x.2.1≤((rd p.1 k zN).2.2.2.length:Int)∧Grw (x.2.1.toNat * W e) l x.2.2.1) (fun x=>((rd p.1 k zN).2.2.2.length - x.2.1).toNat) (Q:=fun x:LOW×Unit=>Grw (12 * W e) l x.1) (fun x hx=>?_) ⟨rfl,by simp,by simp only;omega,?_⟩) fun x hx=>wq_some hx))))
 ·obtain⟨b1,b2,b3,_⟩:=x
  simp only at hx
  obtain⟨f1,b20,b2l,g⟩:=hx
  subst f1
  unfold L1_spec_l12Lower_steps
  simp only
  have hmul:b2.toNat * W e≤12 * W e:=Nat.mul_le_mul_right _ (by omega)
  refine wq_bif (fun hi=>?_) fun hi=>wq_map (wq_some (wp_inr (g.le hmul)))
  have hi':=of_decide_eq_true hi
  have g0:=bkid h h20 b20 hi'
  have hmem:=rd_get (rd p.1 k zN).2.2.2 b2 (0:Int) b20 hi'
  have hdk:=deep_kid h hmem
  have hmul2:(b2.toNat+1) * W e≤12 * W e:=Nat.mul_le_mul_right _ (by omega)
  rw [Nat.succ_mul] at hmul2
  refine wq_run (idxH b20 hi') (wq_bind (wq_mono (H _ g0.1 g0.2.2 g0.2.1 (by omega) (hv.kid h hmem) b3 (g.p.trans e1) (g.v.trans e2) (g.sz (hs.le (by omega)))) fun y hy=>wq_map (wq_some (wp_inl ?_))))
  rw [wrap64 (by omega) (by omega)]
  refine⟨⟨rfl,by simp only;omega,by simp only;omega,?_⟩,by simp only;omega⟩
  simp only
  rw [show(b2+1).toNat * W e=b2.toNat * W e+W e by rw [show(b2+1).toNat=b2.toNat+1 by omega,Nat.succ_mul]]
  exact g.trans hy
 ·simp only [Int.toNat_zero,Nat.zero_mul];exact Grw.rfl'
theorem lblk_S {r0 r0' r1 r1' r2 r2':FL} (k:Int) (e:Nat) (h:(0:Int)<deepAt p.1 k) (hv:Vis p vs k) (l:LOW) (e1:l.1=p) (e2:l.2.1=vs) (hs:Sz (W (e+1)) l)
 (H:wq (r0 l k) (r0' l k) fun z=>Grw (12 * W e) l z.1):
 wq (spec_l12Lower_block_S r0 r1 r2 l k) (spec_l12Lower_block_S r0' r1' r2' l k) fun z=>Grw (W (e+1)) l z.1:=by
 unfold spec_l12Lower_block_S
 have hW:W (e+1)=12 * W e+22:=rfl
 exact wq_bind (wq_mono H fun y hy=>wq_bind (wq_mono (wq_of (drops_wp hp hl k h hv y.1 (hy.p.trans e1) (hy.v.trans e2) (hy.sz (hs.le (by omega))))) fun z hz=>wq_some ((hy.trans hz).le (by omega))))
end
end Go.Proofs.YtmakhmoielhjeaaGreatDoorE
namespace Go.Proofs.YtmakhmoielhjeaaGreatDoorE
set_option linter.all false
set_option maxRecDepth 100000
abbrev upd5 (ws:List INS) (i:Int):INS:=((rd ws i zI).1,((rd ws i zI).2.1,((rd ws i zI).2.2.1,((rd ws i zI).2.2.2.1,((ws.length:Int),(rd ws i zI).2.2.2.2.2)))))
section
variable {p:PROG} (hp:FineP p) {vs:List VAR} (hl:vs.length≤2097152)
include hp hl
theorem lstp_S {r0 r0' r1 r1' r2 r2':FL} (k:Int) (e:Nat) (h:(0:Int)<deepAt p.1 k) (h13:13≤(rd p.1 k zN).1∧(rd p.1 k zN).1≤19) (hd:deepAt p.1 k≤(e:Int)+1) (hv:Vis p vs k) (l:LOW) (e1:l.1=p) (e2:l.2.1=vs) (hs:Sz (W (e+1)) l)
 (H:∀ y,(0:Int)<deepAt p.1 y→(rd p.1 y zN).1=20→0≤y∧y<k→deepAt p.1 y≤(e:Int)→Vis p vs y→∀ l':LOW,l'.1=p→l'.2.1=vs→Sz (W e) l'→wq (r2 l' y) (r2' l' y) fun z=>Grw (W e) l' z.1):
 wq (spec_l12Lower_step_S r0 r1 r2 l k) (spec_l12Lower_step_S r0' r1' r2' l k) fun z=>Grw (W (e+1)) l z.1:=by
 unfold spec_l12Lower_step_S
 have hkr:=deepAt_pos h
 have h12:=nk_twelve hkr.2.1
 have hW:W (e+1)=12 * W e+22:=rfl
 have g:=skid h h13.1 h13.2
 have hmem:=rd_get (rd p.1 k zN).2.2.2 0 (0:Int) (by omega) g.1
 have hdk:=deep_kid h hmem
 rw [e1]
 refine wq_run (idxH hkr.1.1 hkr.1.2) (wq_run (idxH (by omega) g.1) (wq_bind (wq_mono (wq_of (lval_wp hp hl _ e g.2.1 g.2.2.2 (by omega) l e1 e2 (hs.le (by omega)))) fun y1 hy1=>wq_joinP (wq_mono (Q:=fun x:Int×Int×Int×Bool×LOW×NODE×Unit=>x.2.1=y1.1∧x.2.2.1=(rd p.1 k zN).1∧x.2.2.2.2.1=y1.2.1∧x.2.2.2.2.2.1=rd p.1 k zN) (wq_bif (fun _=>wq_some ⟨rfl,rfl,rfl,rfl⟩) fun _=>wq_some ⟨rfl,rfl,rfl,rfl⟩) fun x hx=>?_))))
 obtain⟨x1,x2,x3,x4,x5,x6,_⟩:=x
 obtain⟨y11,y12,_⟩:=y1
 simp only at hx hy1 ⊢
 obtain⟨f1,f2,f3,f4⟩:=hx
 subst f1 f2 f3 f4
 obtain⟨gv,hlt⟩:=hy1
 have p5:=gv.p.trans e1
 have v5:=gv.v.trans e2
 have hsz:∀ n,n≤11 * W e+22→Sz n x5:=fun n hn=>gv.sz (hs.le (by omega))
 have fin:∀ {n} {a:LOW},Grw n x5 a→n≤11 * W e+22→Grw (W (e+1)) l a:=fun g hn=>(gv.trans g).le (by omega)
 refine wq_jid (wq_bif (fun _=>?_) fun _=>wq_jid (wq_bif (fun _=>?_) fun _=>wq_jid (wq_bif (fun _=>?_) fun _=>wq_jid (wq_bif (fun _=>?_) fun _=>wq_jid (wq_bif (fun hb=>?_) fun _=>wq_jid (wq_bif (fun hb=>?_) fun _=>wq_some (fin Grw.rfl' (by omega))))))))
 ·rw [spec_VarAt_ok _ (by rw [v5];exact hl)]
  exact wq_bind (wq_some (wq_bind (wq_mono (wq_of (add_wp _ _ (hsz 1 (by omega)) (by simp))) fun y hy=>wq_some (fin hy.1 (by omega)))))
 ·rw [spec_VarAt_ok _ (by rw [v5];exact hl)]
  exact wq_bind (wq_some (wq_bind (wq_mono (wq_of (add_wp _ _ (hsz 1 (by omega)) (by simp))) fun y hy=>wq_some (fin hy.1 (by omega)))))
 ·exact wq_bind (wq_mono (wq_of (add_wp _ _ (hsz 1 (by omega)) (by simp))) fun y hy=>wq_some (fin hy.1 (by omega)))
 ·refine wq_joinP (wq_mono (Q:=fun x:Int×Bool×LOW×Unit=>x.2.2.1=x5) (wq_bif (fun hb=>wq_run (idxH (of_decide_eq_true hb) hlt) (wq_some rfl)) fun _=>wq_some rfl) fun x hx=>?_)
  rw [hx]
  exact wq_jid (wq_bif (fun _=>wq_bind (wq_mono (wq_of (add_wp _ _ (hsz 1 (by omega)) (by simp))) fun y hy=>wq_some (fin hy.1 (by omega)))) fun _=>wq_some (fin Grw.rfl' (by omega)))
 ·have e':(rd p.1 k zN).1=16:=of_decide_eq_true hb
  have i1:=sblk h (.inl e') (i:=1) (by omega) (by rw [e'];decide)
  have i2:=sblk h (.inl e') (i:=2) (by omega) (by rw [e'];decide)
  have m1:=rd_get (rd p.1 k zN).2.2.2 1 (0:Int) (by omega) i1.1
  have m2:=rd_get (rd p.1 k zN).2.2.2 2 (0:Int) (by omega) i2.1
  have d1:=deep_kid h m1
  have d2:=deep_kid h m2
  refine wq_bind (wq_mono (wq_of (add_wp _ _ (hsz 1 (by omega)) (by simp))) fun y11 hy11=>wq_run (idxH (by omega) i1.1) (wq_bind (wq_mono (H _ i1.2.1 i1.2.2.2 i1.2.2.1 (by omega) (hv.kid h m1) y11.2.1 (hy11.1.p.trans p5) (hy11.1.v.trans v5) (hy11.1.sz (hsz _ (by omega)))) fun y12 hy12=>?_)))
  have g12:=hy11.1.trans hy12
  refine wq_bind (wq_mono (wq_of (add_wp _ _ (g12.sz (hsz _ (by omega))) (by simp))) fun y13 hy13=>?_)
  have g13:=g12.trans hy13.1
  have l1:y11.1<(y13.2.1.2.2.2.2.2.length:Int):=by have:=hy11.2.2;have:=hy12.wo;have:=hy13.1.wo;omega
  have s1:=set_gr y13.2.1 y11.1 hy11.2.1 l1 (upd5 y13.2.1.2.2.2.2.2 y11.1) rfl
  refine wq_run (idxH hy11.2.1 l1) (wq_bindD (wq_run (idxH (by omega) i2.1) (wq_bind (wq_mono (H _ i2.2.1 i2.2.2.2 i2.2.2.1 (by omega) (hv.kid h m2) _ (s1.p.trans (g13.p.trans p5)) (s1.v.trans (g13.v.trans v5)) ((g13.trans s1).sz (b:=W e) (hsz _ (by omega)))) fun y15 hy15=>?_))))
  have l2:y13.1<(y15.1.2.2.2.2.2.length:Int):=by
   have h1:=hy15.wo
   simp only [List.length_set] at h1
   have:=hy13.2.2
   omega
  exact wq_run (idxH hy13.2.1 l2) (wq_bindD (wq_some (fin ((((g13.trans s1).trans hy15)).trans (set_gr y15.1 y13.1 hy13.2.1 l2 (upd5 y15.1.2.2.2.2.2 y13.1) rfl)) (by omega))))
 ·have e':(rd p.1 k zN).1=17:=of_decide_eq_true hb
  have i1:=sblk h (.inr e') (i:=1) (by omega) (by rw [e'];decide)
  have m1:=rd_get (rd p.1 k zN).2.2.2 1 (0:Int) (by omega) i1.1
  have d1:=deep_kid h m1
  refine wq_bind (wq_mono (wq_of (add_wp _ _ (hsz 1 (by omega)) (by simp))) fun y11 hy11=>wq_run (idxH (by omega) i1.1) (wq_bind (wq_mono (H _ i1.2.1 i1.2.2.2 i1.2.2.1 (by omega) (hv.kid h m1) y11.2.1 (hy11.1.p.trans p5) (hy11.1.v.trans v5) (hy11.1.sz (hsz _ (by omega)))) fun y12 hy12=>?_)))
  have g12:=hy11.1.trans hy12
  refine wq_bind (wq_mono (wq_of (add_wp _ _ (g12.sz (hsz _ (by omega))) (by simp))) fun y13 hy13=>?_)
  have g13:=g12.trans hy13.1
  have l1:y11.1<(y13.2.1.2.2.2.2.2.length:Int):=by have:=hy11.2.2;have:=hy12.wo;have:=hy13.1.wo;omega
  exact wq_run (idxH hy11.2.1 l1) (wq_bindD (wq_some (fin (g13.trans (set_gr y13.2.1 y11.1 hy11.2.1 l1 (upd5 y13.2.1.2.2.2.2.2 y11.1) rfl)) (by omega))))
theorem lsts_R:∀ m:Nat,∀ n n' k (e:Nat),(0:Int)<deepAt p.1 k→(rd p.1 k zN).1=20→deepAt p.1 k≤(e:Int)+1→Vis p vs k→k.toNat<m→3 * k.toNat+1≤n→3 * k.toNat+1≤n'→∀ l:LOW,l.1=p→l.2.1=vs→Sz (12 * W e) l →
 wq ((R_spec_l12Lower_steps n).1 l k) ((R_spec_l12Lower_steps n').1 l k) fun z=>Grw (12 * W e) l z.1:=by
 intro m
 induction m with
 | zero=>intro n n' k _ _ _ _ _ h;omega
 | succ m ih=>
  intro n n' k e h h20 hd hv hm hn hn' l e1 e2 hs
  obtain⟨n,rfl⟩:∃ j,n=j+1:=⟨n - 1,by omega⟩
  obtain⟨n',rfl⟩:∃ j,n'=j+1:=⟨n' - 1,by omega⟩
  refine lsts_S hp hl (r0:=(R_spec_l12Lower_steps n).1) (r0':=(R_spec_l12Lower_steps n').1) (r1:=(R_spec_l12Lower_steps n).2.1) (r1':=(R_spec_l12Lower_steps n').2.1) (r2:=(R_spec_l12Lower_steps n).2.2.1) (r2':=(R_spec_l12Lower_steps n').2.2.1) k e h h20 hd hv l e1 e2 hs fun y hy h13 hyk hdy hvy l' e1' e2' hs'=>?_
  obtain⟨n,rfl⟩:∃ j,n=j+1:=⟨n - 1,by omega⟩
  obtain⟨n',rfl⟩:∃ j,n'=j+1:=⟨n' - 1,by omega⟩
  obtain⟨e,rfl⟩:∃ j,e=j+1:=⟨e - 1,by omega⟩
  refine lstp_S hp hl (r0:=(R_spec_l12Lower_steps n).1) (r0':=(R_spec_l12Lower_steps n').1) (r1:=(R_spec_l12Lower_steps n).2.1) (r1':=(R_spec_l12Lower_steps n').2.1) (r2:=(R_spec_l12Lower_steps n).2.2.1) (r2':=(R_spec_l12Lower_steps n').2.2.1) y e hy h13 hdy hvy l' e1' e2' hs' fun z hz h20z hzy hdz hvz l2 e12 e22 hs2=>?_
  obtain⟨n,rfl⟩:∃ j,n=j+1:=⟨n - 1,by omega⟩
  obtain⟨n',rfl⟩:∃ j,n'=j+1:=⟨n' - 1,by omega⟩
  obtain⟨e,rfl⟩:∃ j,e=j+1:=⟨e - 1,by omega⟩
  have hW:W (e+1)=12 * W e+22:=rfl
  exact lblk_S hp hl (r0:=(R_spec_l12Lower_steps n).1) (r0':=(R_spec_l12Lower_steps n').1) (r1:=(R_spec_l12Lower_steps n).2.1) (r1':=(R_spec_l12Lower_steps n').2.1) (r2:=(R_spec_l12Lower_steps n).2.2.1) (r2':=(R_spec_l12Lower_steps n').2.2.1) z e hz hvz l2 e12 e22 hs2 (ih n n' z e hz h20z hdz hvz (by omega) (by omega) (by omega) l2 e12 e22 (hs2.le (by omega)))
theorem lsts_wp (k:Int) (h:(0:Int)<deepAt p.1 k) (h20:(rd p.1 k zN).1=20) (hv:Vis p vs k) (l:LOW) (e1:l.1=p) (e2:l.2.1=vs) (hs:Sz (W 10) l):wp (spec_l12Lower_steps l k) fun z=>Grw (W 10) l z.1:=by
 unfold spec_l12Lower_steps
 have hW:W 10=12 * W 9+22:=rfl
 have h10:=deep_ten p.1 k
 exact wp_mono (wq_lim (3 * k.toNat+1) fun n hn=>lsts_R hp hl _ n _ k 9 h h20 (by omega) hv (Nat.lt_succ_self _) hn (Nat.le_refl _) l e1 e2 (hs.le (by omega))) fun z hz=>hz.le (by omega)
end
theorem codeok_wp (c:CODE) (hn:c.2.2.2.length≤1000000000000) (ha:∀ w∈c.2.2.2,(w:INS).2.2.2.2.2.2.length≤1048576):wp (spec_CodeOk c) fun y=>y.1=true→FineC c∧codeOk c=true:=by
 by_cases hb:c.2.2.1.length≤200∧c.2.2.2.length≤400
 ·have hf:FineC c:=⟨⟨by omega,by omega⟩,ha⟩
  rw [spec_CodeOk_ok c hf]
  exact wp_some fun h=>⟨hf,h⟩
 ·refine⟨(false,()),?_,fun h=>by cases h⟩
  unfold spec_CodeOk
  simp only [spec_NameOk_ok,sIn,Option.bind_some]
  cases nameOk c.1
  ·rfl
  by_cases h2:c.2.2.1.length≤200
  ·have h4:¬ (c.2.2.2.length≤400):=fun h=>hb ⟨h2,h⟩
   rw [show decide ((200:Int)<(c.2.2.1.length:Int))=false from decide_eq_false (by omega),show decide ((1:Int)≤(c.2.2.2.length:Int)∧(c.2.2.2.length:Int)≤400)=false from decide_eq_false (by omega)]
   cases decide ((0:Int)≤c.2.1∧c.2.1≤(c.2.2.1.length:Int))<;>rfl
  ·rw [show decide ((200:Int)<(c.2.2.1.length:Int))=true from decide_eq_true (by omega)]
   rfl
theorem vis_of {p:PROG} {vs:List VAR} {fn:Nat} (P:POK p) (hfn:fn<p.2.length) (hn:names vs=names (varsOf p (fn:Int))):Vis p vs (rd p.2 (fn:Int) zF).2.2.2.1:=by
 intro t ht h13
 have F:=P.fn hfn
 have hd:=F.bd
 show(rd p.1 t zN).2.2.1∈names vs
 rw [hn]
 have hin:fnIn p (fn:Int)=true:=by simp only [fnIn];exact decide_eq_true (by omega)
 refine List.mem_map.2 ⟨letV p.1 t,?_,rfl⟩
 unfold varsOf
 rw [hin,cond_true]
 refine List.mem_append_right _ (List.mem_map.2 ⟨t,List.mem_filter.2 ⟨?_,decide_eq_true h13⟩,rfl⟩)
 unfold unds
 rw [decide_eq_false (by omega),cond_false]
 exact(mem_undL hd t).2 ht
def GoodC (c:CODE):Prop:=FineC c∧codeOk c=true
theorem lfn_wp {p:PROG} (hp:FineP p) (P:POK p) (fn:Nat) (hfn:fn<p.2.length) (hv:VarsR p (fn:Int)):wp (spec_l12Fn p (fn:Int)) fun y=>y.2.1=true→GoodC y.1:=by
 unfold spec_l12Fn
 obtain⟨v,hv0⟩:=hv
 obtain⟨y,hy0,hy1,hy2⟩:=vars_wp hp P (fn:Int)
 rw [hv0] at hy0
 cases hy0
 simp only at hy1 hy2
 have hvis:=vis_of P hfn (hy2 trivial)
 have F:=P.fn hfn
 have h10:W 10≤123834728446:=W_le (Nat.le_refl _)
 rw [hv0]
 refine wp_run (idxH (by omega) (by omega)) (wp_bind (wp_some (wp_joinP (wp_bind (wp_some (wp_mono (wp_loop (fun x:SL1_spec_l12Fn=>x.1=v∧0≤x.2.1∧x.2.2.2.1=rd p.2 (fn:Int) zF∧x.2.2.2.2.1.1=p∧x.2.2.2.2.1.2.1=v∧AO x.2.2.2.2.1∧x.2.2.2.2.1.2.2.2.2.2.length=0∧(x.2.2.2.2.1.2.2.2.2.1.length:Int)=x.2.1∧x.2.1≤(v.length:Int)) (fun x=>(v.length - x.2.1).toNat) (Q:=fun x:CODE×FN×LOW×Unit=>x.2.1=rd p.2 (fn:Int) zF∧x.2.2.1.1=p∧x.2.2.1.2.1=v∧AO x.2.2.1∧Sz 200000000000 x.2.2.1∧Sz 400000000000 x.2.2.1) (fun x hx=>?_) ⟨rfl,by simp,rfl,rfl,rfl,fun w hw=>by simp at hw,rfl,by simp,by simp only;omega⟩) fun x hx=>?_))))))
 ·obtain⟨b1,b2,b3,b4,b5,_⟩:=x
  simp only at hx
  obtain⟨f1,b20,f4,f5,f6,ha,hw,hlo,hle⟩:=hx
  subst f1 f4
  unfold L1_spec_l12Fn
  simp only
  refine wp_bif (fun hi=>?_) fun hi=>wp_map (wp_some (wp_inr ⟨rfl,f5,f6,ha,⟨by simp only;omega,by simp only;omega⟩,⟨by simp only;omega,by simp only;omega⟩⟩))
  have hi':=of_decide_eq_true hi
  refine wp_run (idxH b20 hi') (wp_bind (wp_mono (Q:=fun y:Int×LOW×Unit=>y.2.1.1=b5.1∧y.2.1.2.1=b5.2.1∧y.2.1.2.2.2.2.2=b5.2.2.2.2.2∧y.2.1.2.2.2.2.1.length=b5.2.2.2.2.1.length+1) ?_ fun y hy=>wp_map (wp_some (wp_inl ?_))))
  ·unfold spec_l12Lower_temp
   exact wp_run (show(_:Nat)≤_ by simp only [List.length_singleton];omega) (wp_some ⟨rfl,rfl,rfl,by simp⟩)
  ·obtain⟨g1,g2,g3,g4⟩:=hy
   rw [wrap64 (by omega) (by omega)]
   exact⟨⟨rfl,by simp only;omega,rfl,g1.trans f5,g2.trans f6,by unfold AO;simp only;rw [g3];exact ha,by simp only;rw [g3];exact hw,by simp only;omega,by simp only;omega⟩,by simp only;omega⟩
 ·obtain⟨x1,x2,x3,_⟩:=x
  simp only at hx ⊢
  obtain⟨f1,e1,e2,ha,hs,hs4⟩:=hx
  subst f1
  refine wp_bind (wp_mono (lsts_wp hp hy1 _ F.bd F.bk hvis x3 e1 e2 (hs.le (by omega))) fun y5 hy5=>wp_joinP (wp_mono (Q:=fun x:Int×CODE×FN×LOW×Unit=>x.2.2.1=rd p.2 (fn:Int) zF∧Grw (W 10+W 10) x3 x.2.2.2.1) (wp_bif (fun hb=>?_) fun _=>wp_some ⟨rfl,hy5.le (by omega)⟩) fun x hx=>?_))
  ·have hr:=F.rt (of_decide_eq_true hb)
   exact wp_bind (wp_mono (lval_wp hp hy1 _ 10 hr.1 hr.2 (deep_ten _ _) y5.1 (hy5.p.trans e1) (hy5.v.trans e2) (hy5.sz (hs4.le (by omega)))) fun y6 hy6=>wp_some ⟨rfl,hy5.trans hy6.1⟩)
  ·obtain⟨z1,z2,z3,z4,_⟩:=x
   simp only at hx ⊢
   obtain⟨f1,g⟩:=hx
   subst f1
   refine wp_bind (wp_mono (drops_wp hp hy1 _ F.bd hvis z4 (g.p.trans e1) (g.v.trans e2) (g.sz (hs4.le (by omega)))) fun y8 hy8=>?_)
   have g8:=g.trans hy8
   have hpar:=F.par
   have hi:IntKind.wrap .i64 (((rd p.2 (fn:Int) zF).2.1.length:Int) - 1)=((rd p.2 (fn:Int) zF).2.1.length:Int) - 1:=wrap64 (by omega) (by omega)
   refine wp_joinP (wp_bind (wp_some (wp_mono (wp_loop (fun x:SL2_spec_l12Fn=>-1≤x.2.1∧x.2.1<((rd p.2 (fn:Int) zF).2.1.length:Int)∧x.2.2.2.1=rd p.2 (fn:Int) zF∧Grw (((rd p.2 (fn:Int) zF).2.1.length:Int) - 1 - x.2.1).toNat y8.1 x.2.2.2.2.1) (fun x=>(x.2.1+1).toNat) (Q:=fun x:Int×CODE×LOW×Unit=>Grw 3 y8.1 x.2.2.1) (fun x hx=>?_) ⟨?_,?_,rfl,?_⟩) fun x hx=>?_)))
   ·obtain⟨b1,b2,b3,b4,b5,_⟩:=x
    simp only at hx
    obtain⟨hb0,hb1,f4,gg⟩:=hx
    subst f4
    unfold L2_spec_l12Fn
    simp only
    refine wp_bif (fun hi=>?_) fun hi=>wp_map (wp_some (wp_inr (gg.le (by omega))))
    have hi':=of_decide_eq_true hi
    have hsz:Sz 1 b5:=(g8.trans gg).sz (hs4.le (by omega))
    refine wp_run (idxH hi' hb1) (wp_joinP (wp_mono (Q:=fun x:Int×Int×CODE×FN×LOW×Unit=>x.2.1=b2∧x.2.2.2.1=rd p.2 (fn:Int) zF∧Grw 1 b5 x.2.2.2.2.1) (wp_bif (fun _=>wp_bind (wp_mono (add_wp _ _ hsz (by simp)) fun y hy=>wp_some ⟨rfl,rfl,hy.1⟩)) fun _=>wp_some ⟨rfl,rfl,Grw.rfl'.le (by omega)⟩) fun x hx=>?_))
    obtain⟨c1,c2,c3,c4,c5,_⟩:=x
    simp only at hx ⊢
    obtain⟨q1,q2,q3⟩:=hx
    subst q1
    refine wp_map (wp_some (wp_inl ?_))
    rw [wrap64 (by omega) (by omega)]
    exact⟨⟨by simp only;omega,by simp only;omega,q2,(gg.trans q3).le (by simp only;omega)⟩,by simp only;omega⟩
   ·simp only;rw [hi];omega
   ·simp only;rw [hi];omega
   ·simp only;rw [hi];exact Grw.rfl'.le (by omega)
   ·have g9:=g8.trans hx
    refine wp_bind (wp_mono (add_wp _ _ (g9.sz (hs4.le (by omega))) (by simp)) fun y13 hy13=>?_)
    have ga:=g9.trans hy13.1
    refine wp_bind (wp_mono (codeok_wp y13.2.1.2.2 ?_ (ga.ar ha)) fun y14 hy14=>wp_bif (fun _=>wp_some fun h=>by cases h) fun hb=>wp_some fun _=>hy14 (by simpa using hb))
    have:=ga.wo'
    have:=hs4.2
    omega
theorem lall_wp {p:PROG} (hp:FineP p):wp (spec_LowerAll p) fun y=>y.2.1=true→y.1≠[]∧y.1.length≤8∧∀ c∈y.1,GoodC c:=by
 unfold spec_LowerAll
 refine wp_bind (wp_mono (types_wp hp) fun y1 hy1=>wp_bif (fun _=>wp_some fun h=>by cases h) fun hb=>?_)
 obtain⟨hok,hvr⟩:=hy1 (by simpa using hb)
 have P:=pok_of hok
 have hm:=P.m
 have hm1:1≤p.2.length:=by
  simp only [progOk,Bool.and_eq_true,decide_eq_true_eq] at hok
  omega
 refine wp_joinS (wp_bind (wp_some (wp_mono (wp_loop (fun x:SL1_spec_LowerAll=>0≤x.2.1∧x.2.1≤(p.2.length:Int)∧(x.1.length:Int)=x.2.1∧x.2.2.1=p∧∀ c∈x.1,GoodC c) (fun x=>(p.2.length - x.2.1).toNat) (Q:=fun s:(List CODE×Unit) ⊕ (List CODE×Bool×Unit)=>(∀ b,s=.inl b→b.1.length=p.2.length∧∀ c∈b.1,GoodC c)∧∀ r,s=.inr r→r.2.1=false) (fun x hx=>?_) ⟨by simp,by simp only;omega,rfl,rfl,by simp⟩) fun s hs=>⟨fun b hb=>wp_some fun _=>⟨?_,?_,(hs.1 b hb).2⟩,fun r hr h=>by rw [hs.2 r hr] at h;cases h⟩)))
 ·obtain⟨b1,b2,b3,_⟩:=x
  simp only at hx
  obtain⟨b20,b2l,hlen,f3,hall⟩:=hx
  subst f3
  unfold L1_spec_LowerAll
  simp only
  refine wp_bif (fun hi=>?_) fun hi=>wp_map (wp_map (wp_some (wp_inr ⟨fun b hb=>by cases hb;exact⟨by have:=of_decide_eq_false hi;simp only;omega,hall⟩,fun r hr=>by cases hr⟩)))
  ·have hi':=of_decide_eq_true hi
   obtain⟨m,rfl⟩:∃ m:Nat,b2=(m:Int):=⟨b2.toNat,by omega⟩
   refine wp_bind (wp_mono (lfn_wp hp P m (by omega) (hvr _ ⟨b20,hi'⟩)) fun y hy=>wp_bif (fun _=>wp_map (wp_map (wp_some (wp_inr ⟨fun b hb=>(by cases hb),fun r hr=>by cases hr;rfl⟩)))) fun hf=>wp_run (show(_:Nat)≤_ by simp only [List.length_singleton];omega) (wp_map (wp_some (wp_inl ?_))))
   rw [wrap64 (by omega) (by omega)]
   refine⟨⟨by simp only;omega,by simp only;omega,by simp only [List.length_append,List.length_singleton];omega,rfl,fun c hc=>?_⟩,by simp only;omega⟩
   rcases List.mem_append.1 hc with hc | hc
   ·exact hall c hc
   ·rw [List.mem_singleton.1 hc];exact hy (by simpa using hf)
 ·intro h
  have:=(hs.1 b hb).1
  simp only at h
  rw [h] at this
  simp only [List.length_nil] at this
  omega
 ·have:=(hs.1 b hb).1
  simp only
  omega
end Go.Proofs.YtmakhmoielhjeaaGreatDoorE
namespace Go.Proofs.YtmakhmoielhjeaaGreatDoorE
set_option linter.all false
set_option maxRecDepth 100000
structure DrC (n:Nat) (c:CODE):Prop where
 nm:c.1.size≤8
 lo:c.2.2.1.length≤200+n
 w1:1≤c.2.2.2.length
 wo:c.2.2.2.length≤400
 a:∀ w∈c.2.2.2,(w:INS).2.2.2.2.2.1.size≤8∧(w:INS).2.2.2.2.2.2.length≤3+n
theorem DrC.le {n m:Nat} {c:CODE} (h:DrC n c) (hl:n≤m):DrC m c:=⟨h.nm,by have:=h.lo;omega,h.w1,h.wo,fun w hw=>by have:=h.a w hw;omega⟩
theorem DrC.fine {c:CODE} (h:DrC 1 c):FineC c:=⟨⟨by have:=h.lo;omega,by have:=h.wo;omega⟩,fun w hw=>by have:=h.a w hw;omega⟩
theorem name_size {s:ByteArray} (h:nameOk s=true):s.size≤8:=by
 simp only [nameOk,Bool.and_eq_true,decide_eq_true_eq] at h
 exact h.1.1.1.2
theorem drc_of {c:CODE} (h:GoodC c):DrC 0 c:=by
 have h2:=h.2
 simp only [codeOk,Bool.and_eq_true,decide_eq_true_eq] at h2
 obtain⟨a1,a2,a3,a4,a5,a6,a7⟩:=h2
 refine⟨name_size a1,by omega,a4.1,a4.2,fun w hw=>?_⟩
 have h3:=List.all_eq_true.1 a7 w hw
 simp only [wordOk,Bool.and_eq_true] at h3
 have h4:=h3.2.2.2.2.2
 unfold okR at h4
 cases hd:decide (w.1=13)
 ·rw [hd,cond_false,Bool.and_eq_true,decide_eq_true_eq,decide_eq_true_eq] at h4
  rw [h4.1]
  exact⟨by show(0:Nat)≤8;omega,by omega⟩
 ·rw [hd,cond_true,Bool.and_eq_true,Bool.and_eq_true,decide_eq_true_eq] at h4
  exact⟨name_size h4.2.1,by omega⟩
theorem DrC.put {n:Nat} {c:CODE} (h:DrC n c) (i:Nat) (w:INS) (hw:w.2.2.2.2.2.1.size≤8∧w.2.2.2.2.2.2.length≤3+n):DrC n (c.1,(c.2.1,(c.2.2.1,c.2.2.2.set i w))):=by
 refine⟨h.nm,h.lo,by simp only [List.length_set];exact h.w1,by simp only [List.length_set];exact h.wo,fun x hx=>?_⟩
 rcases List.mem_or_eq_of_mem_set hx with hx | hx
 ·exact h.a x hx
 ·subst hx;exact hw
theorem code_wp (c:Cur) (h:COk c):wp (spec_l11Code c) fun y=>DrC 0 y.1∧COk y.2.1:=by
 unfold spec_l11Code
 refine wp_bind (wp_mono (prog_wp c h) fun y1 hy1=>wp_bind (wp_mono (lall_wp hy1.1.1) fun y2 hy2=>wp_bif (fun _=>wp_some ⟨⟨?_,by simp,by simp,by simp,fun w hw=>?_⟩,hy1.2⟩) fun hb=>?_))
 ·have:s_main_0d6e.size=4:=by kernel_rfl
  rw [this];omega
 ·simp only [List.mem_cons,List.not_mem_nil,or_false] at hw
  rcases hw with hw | hw | hw<;>subst hw<;>exact⟨by show(0:Nat)≤8;omega,by show(0:Nat)≤3;omega⟩
 ·obtain⟨hne,h8,hall⟩:=hy2 (by simpa using hb)
  have hpos:0<y2.1.length:=List.length_pos_iff.2 hne
  refine wp_bind (wp_mono (once_wp _ _ hy1.2) fun y3 hy3=>wp_bif (fun _=>wp_bind (wp_mono (below_wp _ _ hy3) fun y4 hy4=>?_)) fun _=>?_)
  ·have hlt:=hy4.2.1 (by omega)
   exact wp_run (idxH hy4.1 hlt) (wp_some ⟨drc_of (hall _ (rd_get _ _ _ hy4.1 hlt)),hy4.2.2.2⟩)
  ·rw [wrap64 (by omega) (by omega)]
   have h0:(0:Int)≤(y2.1.length:Int) - 1:=by omega
   have hlt:(y2.1.length:Int) - 1<(y2.1.length:Int):=by omega
   exact wp_run (idxH h0 hlt) (wp_some ⟨drc_of (hall _ (rd_get _ _ _ h0 hlt)),hy3⟩)
theorem wp_jid {α β:Type} {x:Option α} {f:α→β} {Q:β→Prop} (h:wp x fun a=>Q (f a)):wp (joinP x fun a=>some (f a)) Q:=wp_joinP (wp_mono h fun a ha=>wp_some ha)
theorem tmod_rng {a:Int} {n:Nat} (h0:0≤a) (h1:1≤n):0≤Int.tmod a (n:Int)∧Int.tmod a (n:Int)<(n:Int):=⟨Int.tmod_nonneg _ h0,Int.tmod_lt_of_pos _ (by omega)⟩
theorem any_wp (c:Cur) (h:COk c):wp (spec_l11Any c) fun y=>DrC 1 y.1∧COk y.2.1:=by
 unfold spec_l11Any
 refine wp_bind (wp_mono (below_wp _ _ h) fun y1 hy1=>wp_bind (wp_mono (below_wp _ _ hy1.2.2.2) fun y2 hy2=>wp_bind (wp_mono (code_wp _ hy2.2.2.2) fun y3 hy3=>?_)))
 have hd:=hy3.1
 have hf:=(hd.le (by omega:0≤1)).fine
 rw [spec_copy _ hf]
 have hr:=tmod_rng hy2.1 hd.w1
 have hi:(Cnd.idx (Int.tmod y2.1 (y3.1.2.2.2.length:Int)) y3.1.2.2.2.length).holds:=idxH hr.1 hr.2
 have ha:=hd.a _ (rd_get y3.1.2.2.2 (Int.tmod y2.1 (y3.1.2.2.2.length:Int)) zI hr.1 hr.2)
 have ha1:(rd y3.1.2.2.2 (Int.tmod y2.1 (y3.1.2.2.2.length:Int)) zI).2.2.2.2.2.2.length≤3+1:=by omega
 have ha5:∀ t,((rd y3.1.2.2.2 (Int.tmod y2.1 (y3.1.2.2.2.length:Int)) zI).2.2.2.2.2.2++[t]).length≤3+1:=fun t=>by simp only [List.length_append,List.length_singleton];omega
 have ha6:∀ t:Int,((rd y3.1.2.2.2 (Int.tmod y2.1 (y3.1.2.2.2.length:Int)) zI).2.2.2.2.2.2.length+List.length [t]) * 8≤140737488355328:=fun t=>by simp only [List.length_singleton];omega
 have hl:=hd.lo
 have hc:=hy3.2
 have hd1:DrC 1 y3.1:=hd.le (by omega)
 refine wp_bind (wp_some (wp_run (show(_:Int)≠0 by have:=hd.w1;simp only;omega) ?_))
 simp only
 refine wp_joinP (wp_mono (Q:=fun x:Cur×CODE×CODE×Unit=>DrC 1 x.2.2.1∧COk x.1) ?_ fun x hx=>wp_some hx)
 refine wp_bif (fun _=>wp_run (show(22:Int)≠0 by decide) (wp_run hi (wp_bindD (wp_some ⟨hd1.put _ _ ⟨ha.1,ha1⟩,hc⟩)))) fun _=>wp_jid ?_
 refine wp_bif (fun _=>wp_run (show(30:Int)≠0 by decide) (wp_run hi (wp_bindD (wp_some ⟨hd1.put _ _ ⟨ha.1,ha1⟩,hc⟩)))) fun _=>wp_jid ?_
 refine wp_bif (fun _=>wp_run (show(30:Int)≠0 by decide) (wp_run hi (wp_bindD (wp_some ⟨hd1.put _ _ ⟨ha.1,ha1⟩,hc⟩)))) fun _=>wp_jid ?_
 refine wp_bif (fun _=>wp_run hi (wp_bindD (wp_some ⟨hd1.put _ _ ⟨ha.1,ha1⟩,hc⟩))) fun _=>wp_jid ?_
 refine wp_bif (fun _=>wp_run hi (wp_run (show(30:Int)≠0 by decide) (wp_run (ha6 _) (wp_run hi (wp_run ⟨Nat.le_refl _,Nat.le_refl _,trivial⟩ (wp_bindD (wp_some ⟨hd1.put _ _ ⟨ha.1,ha5 _⟩,hc⟩))))))) fun _=>wp_jid ?_
 refine wp_bif (fun _=>wp_run (show(9:Int)≠0 by decide) (wp_some ⟨⟨hd1.nm,hd1.lo,hd1.w1,hd1.wo,hd1.a⟩,hc⟩)) fun _=>wp_jid ?_
 refine wp_bif (fun _=>wp_run (show(6:Int)≠0 by decide) (wp_run (show(_:Nat)≤_ by simp only [List.length_singleton];omega) (wp_some ⟨⟨hd1.nm,by simp only [List.length_append,List.length_singleton];omega,hd1.w1,hd1.wo,hd1.a⟩,hc⟩))) fun _=>wp_jid ?_
 exact wp_bif (fun _=>wp_run hi (wp_bindD (wp_some ⟨hd1.put _ _ ⟨by show(0:Nat)≤8;omega,by show(0:Nat)≤4;omega⟩,hc⟩))) fun _=>wp_some ⟨hd1,hc⟩
theorem pickI_wp (c:Cur) (l:List Int) (hl:l≠[]) (h:COk c):wp (spec_l01PickInt c l) fun r=>COk r.2.1:=by
 unfold spec_l01PickInt
 have hpos:0<l.length:=List.length_pos_iff.2 hl
 exact wp_bind (wp_mono (below_wp _ _ h) fun y hy=>wp_run (idxH hy.1 (hy.2.1 (by omega))) (wp_some hy.2.2.2))
theorem any29_wp (c:Cur) (h:COk c):wp (spec_l29Any c) fun y=>DrC 1 y.1∧COk y.2.1:=by
 unfold spec_l29Any
 refine wp_bind (wp_mono (once_wp _ _ h) fun y1 hy1=>wp_bif (fun _=>wp_bind (wp_mono (any_wp _ hy1) fun y2 hy2=>wp_some hy2)) fun _=>wp_bind (wp_mono (code_wp _ hy1) fun y3 hy3=>?_))
 have hd:=hy3.1
 have hf:=(hd.le (by omega:0≤1)).fine
 rw [spec_copy _ hf]
 have hw:=hd.w1
 have hw4:=hd.wo
 refine wp_bind (wp_some (wp_joinP (wp_bind (wp_some (wp_mono (wp_loop (fun x:SL1_spec_l29Any=>x.1=(y3.1.2.2.2.length:Int)∧0≤x.2.1∧x.2.1≤4∧COk x.2.2.1∧DrC 0 x.2.2.2.2.1∧x.2.2.2.2.1.2.2.2.length=y3.1.2.2.2.length) (fun x=>(4 - x.2.1).toNat) (Q:=fun x:Cur×CODE×CODE×Unit=>DrC 1 x.2.2.1∧COk x.1) (fun x hx=>?_) ⟨rfl,by simp,by simp,hy3.2,hd,rfl⟩) fun x hx=>wp_some hx)))))
 obtain⟨b1,b2,b3,b4,b5,_⟩:=x
 simp only at hx
 obtain⟨f1,b20,b24,hc,hdc,hlen⟩:=hx
 subst f1
 unfold L1_spec_l29Any
 simp only
 refine wp_bind (wp_mono (below_wp _ _ hc) fun y6 hy6=>wp_bif (fun hb=>?_) fun _=>wp_map (wp_some (wp_inr ⟨hdc.le (by omega),hy6.2.2.2⟩)))
 have hb':=of_decide_eq_true hb
 have h4:=hy6.2.1 (by omega)
 refine wp_bind (wp_mono (below_wp _ _ hy6.2.2.2) fun y7 hy7=>?_)
 have h7:=hy7.2.1 (by omega)
 refine wp_joinP (wp_mono (Q:=fun x:Int×Int×Int×Bool×Cur×CODE×CODE×Unit=>x.1=(y3.1.2.2.2.length:Int)∧x.2.1=b2∧x.2.2.1=y7.1∧COk x.2.2.2.2.1∧x.2.2.2.2.2.2.1=b5) (wp_bif (fun _=>wp_some ⟨rfl,rfl,rfl,hy7.2.2.2,rfl⟩) fun _=>wp_some ⟨rfl,rfl,rfl,hy7.2.2.2,rfl⟩) fun x hx=>?_)
 obtain⟨c1,c2,c3,c4,c5,c6,c7,_⟩:=x
 simp only at hx ⊢
 obtain⟨q1,q2,q3,q4,q5⟩:=hx
 subst q1 q2 q3 q5
 refine wp_joinP (wp_mono (Q:=fun x:Int×Int×Cur×CODE×CODE×Unit=>x.1=(y3.1.2.2.2.length:Int)∧x.2.1=c2∧COk x.2.2.1∧DrC 0 x.2.2.2.2.1∧x.2.2.2.2.1.2.2.2.length=y3.1.2.2.2.length) (wp_bif (fun _=>wp_bind (wp_mono (pickI_wp _ _ (by simp) q4) fun y9 hy9=>wp_bind (wp_mono (below_wp _ _ hy9) fun y10 hy10=>wp_run (idxH hy7.1 (by rw [hlen];exact h7)) (wp_bindD (wp_some ⟨rfl,rfl,hy10.2.2.2,hdc.put _ _ ⟨by show(0:Nat)≤8;omega,by show(0:Nat)≤3;omega⟩,by simp only [List.length_set];exact hlen⟩))))) fun _=>wp_some ⟨rfl,rfl,q4,hdc,hlen⟩) fun x hx=>?_)
 obtain⟨d1,d2,d3,d4,d5,_⟩:=x
 simp only at hx ⊢
 obtain⟨q1,q2,q6,q7,q8⟩:=hx
 subst q1 q2
 refine wp_map (wp_some (wp_inl ?_))
 rw [wrap64 (by omega) (by omega)]
 exact⟨⟨rfl,by simp only;omega,by simp only;omega,q6,q7,q8⟩,by simp only;omega⟩
end Go.Proofs.YtmakhmoielhjeaaGreatDoorE
namespace Go.Proofs.YtmakhmoielhjeaaGreatDoorE
set_option linter.all false
set_option maxRecDepth 100000
namespace Threaded
def op (l:List INS) (t:Int):Int:=(rd l t zI).1
def num (l:List INS) (t:Int):Int:=(rd l t zI).2.2.2.2.1
def chase (l:List INS):Nat→Int→Option Int
 | 0,_=>none
 | n+1,t=>if op l t=18 then chase l n (num l t) else some t
def hop (l:List INS):Nat→Int→Int
 | 0,t=>t
 | n+1,t=>if op l t=18 then hop l n (num l t) else t
theorem chase_hop (l:List INS):∀ (n:Nat) (t:Int),chase l (n+1) t=if op l (hop l n t)=18 then none else some (hop l n t)
 | 0,t=>rfl
 | n+1,t=>by
  rw [chase,hop]
  by_cases h:op l t=18
  ·rw [if_pos h,if_pos h];exact chase_hop l n _
  ·rw [if_neg h,if_neg h,if_neg h]
def thr (l:List INS) (w:INS):INS:=if w.1=18∨w.1=19 then (match chase l (l.length+1) w.2.2.2.2.1 with | some t=>(w.1,(w.2.1,(w.2.2.1,(w.2.2.2.1,(t,(w.2.2.2.2.2.1,w.2.2.2.2.2.2)))))) | none=>w) else w
theorem jmp_at {l:List INS} (h:Jmp l) {t:Nat} (ht:t<l.length) (ho:op l (t:Int)=18):∃ u:Nat,num l (t:Int)=(u:Int)∧u<l.length:=by
 simp only [op,num,rd_nat ht] at ho ⊢
 exact h _ (List.getElem_mem ht) (.inl ho)
theorem endOf_loop (c:CODE) (h:Jmp c.2.2.2) (hl:c.2.2.2.length≤1048576) (N:Nat) (hN:N≤2000000):∀ (m k t:Nat),k+m=N→t<c.2.2.2.length→loopF L1_impl_endOf ((t:Int),(N:Int),(k:Int),c,())=some (match chase c.2.2.2 m t with | some t=>.inr (t,true,()) | none=>.inl ())
 | 0,k,t,hk,ht=>by
  obtain rfl:k=N:=by omega
  refine loopF_inr ?_
  simp only [L1_impl_endOf,not_lt_self,decide_false,cond_false,Option.map_some,chase]
 | m+1,k,t,hk,ht=>by
  have hkN:k<N:=by omega
  by_cases ho:op c.2.2.2 (t:Int)=18
  ·obtain⟨u,hu,hul⟩:=jmp_at h ht ho
   have ho':(c.2.2.2[t]).1=18:=by simpa only [op,rd_nat ht] using ho
   have hu':(c.2.2.2[t]).2.2.2.2.1=(u:Int):=by simpa only [num,rd_nat ht] using hu
   have:=endOf_loop c h hl N hN m (k+1) u (by omega) hul
   rw [chase,if_pos ho,hu,← this]
   refine loopF_inl ?_
   simp only [L1_impl_endOf,lt_cast hkN,decide_true,cond_true,idx_run ht,rd_nat ht,ho',hu',ne_eq,not_true_eq_false,decide_false,cond_false,Option.map_some,wrapSucc (show k<9223372036854775807 by omega)]
  ·have ho':¬ (c.2.2.2[t]).1=18:=by simpa only [op,rd_nat ht] using ho
   rw [chase,if_neg ho]
   refine loopF_inr ?_
   simp only [L1_impl_endOf,lt_cast hkN,decide_true,cond_true,idx_run ht,rd_nat ht,ho',ne_eq,not_false_eq_true,Option.map_some]
theorem endOf_ok (c:CODE) (h:Jmp c.2.2.2) (hl:c.2.2.2.length≤1048576) (t:Nat) (ht:t<c.2.2.2.length):impl_endOf c (t:Int)=some (match chase c.2.2.2 (c.2.2.2.length+1) t with | some t=>(t,true,()) | none=>(0,false,())):=by
 have h0:=endOf_loop c h hl (c.2.2.2.length+1) (by omega) (c.2.2.2.length+1) 0 t (by omega) ht
 have h0':loopF L1_impl_endOf ((t:Int),((c.2.2.2.length+1:Nat):Int),(0:Int),c,())=_:=h0
 simp only [impl_endOf,wrapSucc (show c.2.2.2.length<9223372036854775807 by omega),Option.bind_some,h0']
 cases chase c.2.2.2 (c.2.2.2.length+1) (t:Int)<;>rfl
theorem hop_loop (c z o:CODE) (i:Int) (h:Jmp c.2.2.2) (hl:c.2.2.2.length≤1048576):∀ (m k t:Nat),k+m=c.2.2.2.length→t<c.2.2.2.length→∃ u:Nat,u<c.2.2.2.length∧hop c.2.2.2 m t=(u:Int)∧loopF L1_spec_Threaded (i,(t:Int),(k:Int),c,z,o,())=some (i,(u:Int),c,z,o,())
 | 0,k,t,hk,ht=>by
  obtain rfl:k=c.2.2.2.length:=by omega
  refine⟨t,ht,rfl,loopF_inr ?_⟩
  simp only [L1_spec_Threaded,not_lt_self,decide_false,cond_false,joinP_some,Option.map_some]
 | m+1,k,t,hk,ht=>by
  have hkN:k<c.2.2.2.length:=by omega
  by_cases ho:op c.2.2.2 (t:Int)=18
  ·obtain⟨u,hu,hul⟩:=jmp_at h ht ho
   have ho':(c.2.2.2[t]).1=18:=by simpa only [op,rd_nat ht] using ho
   have hu':(c.2.2.2[t]).2.2.2.2.1=(u:Int):=by simpa only [num,rd_nat ht] using hu
   obtain⟨v,h1,h2,h3⟩:=hop_loop c z o i h hl m (k+1) u (by omega) hul
   refine⟨v,h1,by rw [hop,if_pos ho,hu];exact h2,?_⟩
   rw [← h3]
   refine loopF_inl ?_
   simp only [L1_spec_Threaded,lt_cast hkN,decide_true,cond_true,idx_run ht,rd_nat ht,ho',hu',joinP_some,Option.map_some,wrapSucc (show k<9223372036854775807 by omega)]
  ·have ho':¬ (c.2.2.2[t]).1=18:=by simpa only [op,rd_nat ht] using ho
   refine⟨t,ht,by rw [hop,if_neg ho],loopF_inr ?_⟩
   simp only [L1_spec_Threaded,lt_cast hkN,decide_true,cond_true,idx_run ht,rd_nat ht,ho',decide_false,cond_false,joinP_some,Option.map_some]
theorem set_self {l:List INS} {k:Nat} (h:k<l.length):l.set k l[k]=l:=List.set_getElem_self h
theorem spec_loop (c z:CODE) (h:Jmp c.2.2.2) (hl:c.2.2.2.length≤1048576):loopF L2_spec_Threaded ((0:Int),c,z,c,())=some (z,(c.1,(c.2.1,(c.2.2.1,c.2.2.2.map (thr c.2.2.2)))),()):=by
 exact loopF_map (step:=L2_spec_Threaded) c.2.2.2 (thr c.2.2.2) (fun k o=>((k:Int),c,z,(c.1,(c.2.1,(c.2.2.1,o))),())) (fun o=>(z,(c.1,(c.2.1,(c.2.2.1,o))),())) (fun k hk o ho hg=>by
  have hko:k<o.length:=by omega
  have wk:=wrapSucc (show k<9223372036854775807 by omega)
  by_cases hj:(c.2.2.2[k]).1=18∨(c.2.2.2[k]).1=19
  ·obtain⟨t,ht,htl⟩:=h _ (List.getElem_mem hk) hj
   obtain⟨u,hul,hu,hloop⟩:=hop_loop c z (c.1,(c.2.1,(c.2.2.1,o))) (k:Int) h hl c.2.2.2.length 0 t (by omega) htl
   have hloop':loopF L1_spec_Threaded ((k:Int),(t:Int),(0:Int),c,z,(c.1,(c.2.1,(c.2.2.1,o))),())=_:=hloop
   have hthr:thr c.2.2.2 c.2.2.2[k]=if op c.2.2.2 (u:Int)=18 then c.2.2.2[k] else ((c.2.2.2[k]).1,((c.2.2.2[k]).2.1,((c.2.2.2[k]).2.2.1,((c.2.2.2[k]).2.2.2.1,((u:Int),((c.2.2.2[k]).2.2.2.2.2.1,(c.2.2.2[k]).2.2.2.2.2.2)))))):=by
    rw [thr,if_pos hj,ht,chase_hop,hu]
    by_cases ho:op c.2.2.2 (u:Int)=18
    ·rw [if_pos ho,if_pos ho]
    ·rw [if_neg ho,if_neg ho]
   have hrd:rd o (k:Int) zI=c.2.2.2[k]:=by rw [rd_nat hko,hg]
   rw [hthr]
   have fin:(joinP (bif decide (op c.2.2.2 (u:Int)≠18) then (Cnd.idx (k:Int) (List.length o)).run (bindD (t:=t_Code) ((c.1,(c.2.1,(c.2.2.1,List.set o (k:Int).toNat ((rd o (k:Int) zI).1,((rd o (k:Int) zI).2.1,((rd o (k:Int) zI).2.2.1,((rd o (k:Int) zI).2.2.2.1,((u:Int),(rd o (k:Int) zI).2.2.2.2.2)))))))):CODE) fun v8=>some ((k:Int),c,z,v8,())) else some ((k:Int),c,z,((c.1,(c.2.1,(c.2.2.1,o))):CODE),())) fun x9=>some (x9.1,x9.2.1,x9.2.2.1,x9.2.2.2.1,())) =
    some ((k:Int),c,z,((c.1,(c.2.1,(c.2.2.1,o.set k (if op c.2.2.2 (u:Int)=18 then c.2.2.2[k] else ((c.2.2.2[k]).1,((c.2.2.2[k]).2.1,((c.2.2.2[k]).2.2.1,((c.2.2.2[k]).2.2.2.1,((u:Int),((c.2.2.2[k]).2.2.2.2.2.1,(c.2.2.2[k]).2.2.2.2.2.2)))))))))):CODE),()):=by
    by_cases ho:op c.2.2.2 (u:Int)=18
    ·rw [if_pos ho,← hg,set_self hko,decide_eq_false (by simpa using ho),cond_false];rfl
    ·rw [if_neg ho,decide_eq_true (by simpa using ho),cond_true,idx_run hko,hrd];rfl
   have tail:∀ y,(some ((k:Int),c,z,y,()):Option (Int×CODE×CODE×CODE×Unit))=some ((k:Int),c,z,y,())→joinP (some ((k:Int),c,z,y,())) (fun x10:Int×CODE×CODE×CODE×Unit=>Option.map (Sum.inl (β:=CODE×CODE×Unit)) (some (IntKind.wrap .i64 (x10.1+1),x10.2.1,x10.2.2.1,x10.2.2.2.1,())))=some (.inl (((k+1:Nat):Int),c,z,y,())):=fun y _=>by
    simp only [joinP_some,wk,Option.map_some]
   have go:=(congrArg (fun v=>joinP v (fun x10:Int×CODE×CODE×CODE×Unit=>Option.map (Sum.inl (β:=CODE×CODE×Unit)) (some (IntKind.wrap .i64 (x10.1+1),x10.2.1,x10.2.2.1,x10.2.2.2.1,())))) fin).trans (tail _ rfl)
   simp only [rd_nat hul,hrd] at go
   rcases hj with e | e
   ·have d18:decide ((c.2.2.2[k]).1≠18)=false:=by simp [e]
    simp only [L2_spec_Threaded,lt_cast hk,decide_true,cond_true,rd_nat hk,idx_run hk,d18,cond_false,joinP_some,ht,Option.bind_some,hloop',idx_run hul,hrd]
    exact go
   ·have d18:decide ((c.2.2.2[k]).1≠18)=true:=by simp [e]
    have d19:decide ((c.2.2.2[k]).1≠19)=false:=by simp [e]
    simp only [L2_spec_Threaded,lt_cast hk,decide_true,cond_true,rd_nat hk,idx_run hk,d18,d19,cond_false,joinP_some,ht,Option.bind_some,hloop',idx_run hul,hrd]
    exact go
  ·have hthr:thr c.2.2.2 c.2.2.2[k]=c.2.2.2[k]:=by rw [thr,if_neg hj]
   have h18:¬ (c.2.2.2[k]).1=18:=fun e=>hj (.inl e)
   have h19:¬ (c.2.2.2[k]).1=19:=fun e=>hj (.inr e)
   rw [hthr,← hg,set_self hko]
   simp only [L2_spec_Threaded,lt_cast hk,decide_true,cond_true,rd_nat hk,idx_run hk,h18,h19,ne_eq,not_false_eq_true,joinP_some,wk,Option.map_some]) (fun o ho=>by
  simp only [L2_spec_Threaded,not_lt_self,decide_false,cond_false,Option.map_some])
theorem impl_loop (c z:CODE) (h:Jmp c.2.2.2) (hl:c.2.2.2.length≤1048576):loopF L1_impl_Threaded ((c.2.2.2.length:Int),(0:Int),c,z,c,())=some (z,(c.1,(c.2.1,(c.2.2.1,c.2.2.2.map (thr c.2.2.2)))),()):=by
 exact loopF_map (step:=L1_impl_Threaded) c.2.2.2 (thr c.2.2.2) (fun k o=>((c.2.2.2.length:Int),(k:Int),c,z,(c.1,(c.2.1,(c.2.2.1,o))),())) (fun o=>(z,(c.1,(c.2.1,(c.2.2.1,o))),())) (fun k hk o ho hg=>by
  have hko:k<o.length:=by omega
  have wk:=wrapSucc (show k<9223372036854775807 by omega)
  have hrd:rd o (k:Int) zI=c.2.2.2[k]:=by rw [rd_nat hko,hg]
  by_cases hj:(c.2.2.2[k]).1=18∨(c.2.2.2[k]).1=19
  ·obtain⟨t,ht,htl⟩:=h _ (List.getElem_mem hk) hj
   have he:=endOf_ok c h hl t htl
   have fin:∀ (y:Int×Bool×Unit),y=(match chase c.2.2.2 (c.2.2.2.length+1) (t:Int) with | some t=>(t,true,()) | none=>(0,false,()))→(joinP (bif y.2.1 then bindD (t:=t_Code) ((c.1,(c.2.1,(c.2.2.1,List.set o (k:Int).toNat ((c.2.2.2[k]).1,((c.2.2.2[k]).2.1,((c.2.2.2[k]).2.2.1,((c.2.2.2[k]).2.2.2.1,(y.1,(c.2.2.2[k]).2.2.2.2.2)))))))):CODE) fun v8=>some ((c.2.2.2.length:Int),(k:Int),c,z,v8,()) else some ((c.2.2.2.length:Int),(k:Int),c,z,((c.1,(c.2.1,(c.2.2.1,o))):CODE),())) fun x9=>some (x9.1,x9.2.1,x9.2.2.1,x9.2.2.2.1,x9.2.2.2.2.1,())) =
    some ((c.2.2.2.length:Int),(k:Int),c,z,((c.1,(c.2.1,(c.2.2.1,o.set k (thr c.2.2.2 c.2.2.2[k])))):CODE),()):=by
    rintro y rfl
    rw [thr,if_pos hj,ht]
    cases chase c.2.2.2 (c.2.2.2.length+1) (t:Int) with
    | some v=>rfl
    | none=>simp only;rw [← hg,set_self hko];rfl
   have tail:∀ y,(some ((k:Int),c,z,y,()):Option (Int×CODE×CODE×CODE×Unit))=some ((k:Int),c,z,y,())→joinP (some ((c.2.2.2.length:Int),(k:Int),c,z,y,())) (fun x10:Int×Int×CODE×CODE×CODE×Unit=>Option.map (Sum.inl (β:=CODE×CODE×Unit)) (some (x10.1,IntKind.wrap .i64 (x10.2.1+1),x10.2.2.1,x10.2.2.2.1,x10.2.2.2.2.1,())))=some (.inl ((c.2.2.2.length:Int),((k+1:Nat):Int),c,z,y,())):=fun y _=>by
    simp only [joinP_some,wk,Option.map_some]
   have go:=(congrArg (fun v=>joinP v (fun x10:Int×Int×CODE×CODE×CODE×Unit=>Option.map (Sum.inl (β:=CODE×CODE×Unit)) (some (x10.1,IntKind.wrap .i64 (x10.2.1+1),x10.2.2.1,x10.2.2.2.1,x10.2.2.2.2.1,())))) (fin _ rfl)).trans (tail _ rfl)
   rcases hj with e | e
   ·have d18:decide ((c.2.2.2[k]).1≠18)=false:=by simp [e]
    simp only [L1_impl_Threaded,lt_cast hk,decide_true,cond_true,hrd,idx_run hko,d18,cond_false,joinP_some,ht,Option.bind_some,he]
    exact go
   ·have d18:decide ((c.2.2.2[k]).1≠18)=true:=by simp [e]
    have d19:decide ((c.2.2.2[k]).1≠19)=false:=by simp [e]
    simp only [L1_impl_Threaded,lt_cast hk,decide_true,cond_true,hrd,idx_run hko,d18,d19,cond_false,joinP_some,ht,Option.bind_some,he]
    exact go
  ·have hthr:thr c.2.2.2 c.2.2.2[k]=c.2.2.2[k]:=by rw [thr,if_neg hj]
   have h18:¬ (c.2.2.2[k]).1=18:=fun e=>hj (.inl e)
   have h19:¬ (c.2.2.2[k]).1=19:=fun e=>hj (.inr e)
   have hs:o.set k (thr c.2.2.2 c.2.2.2[k])=o:=by rw [hthr,← hg,set_self hko]
   rw [hs]
   simp only [L1_impl_Threaded,lt_cast hk,decide_true,cond_true,hrd,idx_run hko,h18,h19,ne_eq,not_false_eq_true,joinP_some,wk,Option.map_some]) (fun o ho=>by
  simp only [L1_impl_Threaded,not_lt_self,decide_false,cond_false,Option.map_some])
noncomputable def val (c:CODE):CODE:=bif codeOk c then (c.1,(c.2.1,(c.2.2.1,c.2.2.2.map (thr c.2.2.2)))) else c
theorem spec_ok (c:CODE) (h:FineC c):spec_Threaded c=some (val c,()):=by
 simp only [spec_Threaded,spec_copy c h,spec_CodeOk_ok c h,Option.bind_some,val]
 cases hc:codeOk c
 ·simp only [Bool.not_false,cond_true,cond_false]
 ·simp only [Bool.not_true,cond_false,cond_true,spec_loop c _ (jmp_of hc) h.s.w,joinP_some]
theorem impl_ok (c:CODE) (h:FineC c):impl_Threaded c=some (val c,()):=by
 simp only [impl_Threaded,impl_copy c h,impl_CodeOk_ok c h,Option.bind_some,val]
 cases hc:codeOk c
 ·simp only [Bool.not_false,cond_true,cond_false]
 ·simp only [Bool.not_true,cond_false,cond_true,impl_loop c _ (jmp_of hc) h.s.w,joinP_some]
theorem thr_wt (l:List INS) (w:INS):wt t_Ins (thr l w)=wt t_Ins w:=by
 unfold thr
 split
 ·split
  ·rfl
  ·rfl
 ·rfl
theorem val_wt (c:CODE):wt t_Code (val c)=wt t_Code c:=by
 unfold val
 cases codeOk c
 ·rfl
 ·simp only [cond_true,wt_code,List.length_map,List.map_map]
  have:(wt t_Ins∘thr c.2.2.2)=wt t_Ins:=funext fun w=>thr_wt _ w
  rw [this]
end Threaded
end Go.Proofs.YtmakhmoielhjeaaGreatDoorE
namespace Go.Proofs.YtmakhmoielhjeaaGreatDoorE
set_option linter.all false
set_option maxRecDepth 100000
def inR (c:CODE) (n:Int):Bool:=decide (0≤n∧n≤(c.2.2.2.length:Int) - 1)
def cand (c:CODE) (i:Nat):List Int:=bif decide ((rd c.2.2.2 (i:Int) zI).1=20) then [] else bif decide ((rd c.2.2.2 (i:Int) zI).1=18) then [(rd c.2.2.2 (i:Int) zI).2.2.2.2.1] else bif decide ((rd c.2.2.2 (i:Int) zI).1=19) then [((i+1:Nat):Int),(rd c.2.2.2 (i:Int) zI).2.2.2.2.1] else [((i+1:Nat):Int)]
def addS (c:CODE) (o:List Int) (n:Int):List Int:=bif inR c n then (bif o.any (fun y=>decide (y=n)) then o else o++[n]) else o
def addI (c:CODE) (o:List Int) (n:Int):List Int:=bif inR c n then o++[n] else o
def nxS (c:CODE) (i:Nat):List Int:=(cand c i).foldl (addS c) []
def nxI (c:CODE) (i:Nat):List Int:=(cand c i).foldl (addI c) []
theorem cand_len (c:CODE) (i:Nat):(cand c i).length≤2:=by
 unfold cand
 cases decide ((rd c.2.2.2 (i:Int) zI).1=20)<;>cases decide ((rd c.2.2.2 (i:Int) zI).1=18)<;>cases decide ((rd c.2.2.2 (i:Int) zI).1=19)<;>simp
theorem spec_add (l:List Int) (n:Int) (hl:l.length≤4000000):spec_l11Add l n=some (bif l.any (fun y=>decide (y=n)) then l else l++[n],()):=by
 have h:=loopF_any (step:=L1_spec_l11Add) l (fun y=>decide (y=n)) (fun k=>(l,n,(k:Int),())) (.inr (l,())) (.inl (l,n,())) (fun k hk=>by
  simp only [L1_spec_l11Add,lt_cast hk,decide_true,cond_true,idx_run hk,rd_nat hk,wrapSucc (show k<9223372036854775807 by omega)]
  cases decide (l[k]=n)<;>rfl) (by
  simp only [L1_spec_l11Add,not_lt_self,decide_false,cond_false,Option.map_some])
 have h':loopF L1_spec_l11Add (l,n,(0:Int),())=_:=h
 simp only [spec_l11Add,Option.bind_some,h']
 cases l.any fun y=>decide (y=n)
 ·simp only [cond_false,joinS_inl]
  rw [le_run (by simp;omega)]
 ·simp only [cond_true,joinS_inr]
theorem spec_next (c:CODE) (h:FineC c) (i:Nat) (hi:i<c.2.2.2.length):spec_Next c (i:Int)=some (nxS c i,()):=by
 have hw:=h.s.w
 have hcl:=cand_len c i
 have wi:=wrapSucc (show i<9223372036854775807 by omega)
 have h1:=loopF_fold (step:=L1_spec_Next) (cand c i) (addS c) (fun k o=>(o,cand c i,(k:Int),c,())) (fun o=>(o,())) (fun k o=>o.length≤k) (fun k hk o ho=>by
  refine⟨?_,?_⟩
  ·simp only [L1_spec_Next,lt_cast hk,decide_true,cond_true,idx_run hk,rd_nat hk,len1 hw,sIn,Option.bind_some,wrapSucc (show k<9223372036854775807 by omega),spec_add o _ (show o.length≤4000000 by omega),addS,inR]
   generalize (cand c i)[k]=n
   have wk:=wrapSucc (show k<9223372036854775807 by omega)
   cases decide (0≤n∧n≤(c.2.2.2.length:Int) - 1)<;>simp only [cond_true,cond_false,joinP_some,Option.map_some,wk]
  ·unfold addS
   cases inR c (cand c i)[k]
   ·simp only [cond_false];omega
   ·cases o.any fun y=>decide (y=(cand c i)[k])
    ·simp only [cond_true,cond_false,List.length_append,List.length_cons,List.length_nil];omega
    ·simp only [cond_true];omega) (fun o ho=>by
  simp only [L1_spec_Next,not_lt_self,decide_false,cond_false,Option.map_some]) [] (Nat.zero_le _)
 have h2:loopF L1_spec_Next ([],cand c i,(0:Int),c,())=some (nxS c i,()):=h1.1
 unfold spec_Next
 simp only [len1 hw,sIn,Option.bind_some]
 rw [decide_eq_true (show(0:Int)≤(i:Int)∧(i:Int)≤(c.2.2.2.length:Int) - 1 by omega)]
 simp only [Bool.not_true,cond_false,idx_run hi,wi]
 unfold cand at h2
 cases e20:decide ((rd c.2.2.2 (i:Int) zI).1=20)<;>cases e18:decide ((rd c.2.2.2 (i:Int) zI).1=18)<;>cases e19:decide ((rd c.2.2.2 (i:Int) zI).1=19)<;>simp only [e20,e18,e19,cond_true,cond_false] at h2<;>simp only [e20,e18,e19,cond_true,cond_false,joinP_some,Option.bind_some,h2]
theorem impl_next (c:CODE) (h:FineC c) (i:Nat) (hi:i<c.2.2.2.length):impl_Next c (i:Int)=some (nxI c i,()):=by
 have hw:=h.s.w
 have hcl:=cand_len c i
 have wi:=wrapSucc (show i<9223372036854775807 by omega)
 have h1:=loopF_fold (step:=L1_impl_Next) (cand c i) (addI c) (fun k o=>(o,cand c i,((cand c i).length:Int),(k:Int),c,())) (fun o=>(o,())) (fun k o=>o.length≤k) (fun k hk o ho=>by
  refine⟨?_,?_⟩
  ·have hle:(Cnd.le ((o.length+List.length [(cand c i)[k]]) * 8) 140737488355328).holds:=by simp only [Cnd.holds,List.length_cons,List.length_nil];omega
   simp only [L1_impl_Next,lt_cast hk,decide_true,cond_true,idx_run hk,rd_nat hk,len1 hw,iIn,Option.bind_some,wrapSucc (show k<9223372036854775807 by omega),addI,inR]
   generalize (cand c i)[k]=n at hle
   rw [le_run hle]
   have wk:=wrapSucc (show k<9223372036854775807 by omega)
   cases decide (0≤n∧n≤(c.2.2.2.length:Int) - 1)<;>simp only [cond_true,cond_false,joinP_some,Option.map_some,wk]
  ·unfold addI
   cases inR c (cand c i)[k]
   ·simp only [cond_false];omega
   ·simp only [cond_true,List.length_append,List.length_cons,List.length_nil];omega) (fun o ho=>by
  simp only [L1_impl_Next,not_lt_self,decide_false,cond_false,Option.map_some]) [] (Nat.zero_le _)
 have h2:loopF L1_impl_Next ([],cand c i,((cand c i).length:Int),(0:Int),c,())=some (nxI c i,()):=h1.1
 unfold impl_Next
 simp only [len1 hw,iIn,Option.bind_some]
 rw [decide_eq_true (show(0:Int)≤(i:Int)∧(i:Int)≤(c.2.2.2.length:Int) - 1 by omega)]
 simp only [Bool.not_true,cond_false,idx_run hi,wi]
 unfold cand at h2
 cases e20:decide ((rd c.2.2.2 (i:Int) zI).1=20)<;>cases e18:decide ((rd c.2.2.2 (i:Int) zI).1=18)<;>cases e19:decide ((rd c.2.2.2 (i:Int) zI).1=19)<;>simp only [e20,e18,e19,cond_true,cond_false] at h2<;>(try rw [le_run (by simp)])<;>simp only [e20,e18,e19,cond_true,cond_false,joinP_some,Option.bind_some,List.cons_append,List.nil_append,h2]
def Rng (c:CODE) (n:Int):Prop:=∃ k:Nat,n=(k:Int)∧k<c.2.2.2.length
theorem inR_ok {c:CODE} {n:Int} (h:inR c n=true):Rng c n:=by
 simp only [inR,decide_eq_true_eq] at h
 exact⟨n.toNat,by omega,by omega⟩
theorem foldl_keep {α β:Type} (P:β→Prop) (g:β→α→β) (hg:∀ o n,P o→P (g o n)):∀ (l:List α) (o:β),P o→P (l.foldl g o)
 | [],o,h=>h
 | x::l,o,h=>foldl_keep P g hg l (g o x) (hg o x h)
theorem nxS_in (c:CODE) (i:Nat):∀ n∈nxS c i,Rng c n:=
 foldl_keep (fun o=>∀ n∈o,Rng c n) (addS c) (fun o n ho x hx=>by
  unfold addS at hx
  cases hr:inR c n
  ·rw [hr,cond_false] at hx;exact ho x hx
  ·rw [hr,cond_true] at hx
   cases ha:o.any fun y=>decide (y=n)
   ·rw [ha,cond_false] at hx
    rcases List.mem_append.1 hx with hx | hx
    ·exact ho x hx
    ·rw [List.mem_singleton.1 hx];exact inR_ok hr
   ·rw [ha,cond_true] at hx;exact ho x hx) (cand c i) [] (fun n hn=>by cases hn)
theorem nxI_in (c:CODE) (i:Nat):∀ n∈nxI c i,Rng c n:=
 foldl_keep (fun o=>∀ n∈o,Rng c n) (addI c) (fun o n ho x hx=>by
  unfold addI at hx
  cases hr:inR c n
  ·rw [hr,cond_false] at hx;exact ho x hx
  ·rw [hr,cond_true] at hx
   rcases List.mem_append.1 hx with hx | hx
   ·exact ho x hx
   ·rw [List.mem_singleton.1 hx];exact inR_ok hr) (cand c i) [] (fun n hn=>by cases hn)
def fls:List Bool→Nat
 | []=>0
 | b::l=>(bif b then 0 else 1)+fls l
theorem fls_set:∀ (h:List Bool) (n:Nat) (hn:n<h.length),h[n]=false→fls (h.set n true)+1=fls h
 | b::l,0,_,h0=>by
  have:b=false:=h0
  subst this
  simp only [List.set_cons_zero,fls,cond_true,cond_false];omega
 | b::l,n+1,hn,h0=>by
  have:=fls_set l n (by simpa using hn) (by simpa using h0)
  simp only [List.set_cons_succ,fls];omega
abbrev VS:=List Bool×List Int
def vis (s:VS) (n:Int):VS:=bif rd s.1 n false then s else (s.1.set n.toNat true,s.2++[n])
theorem vis_inv {W:Nat} {s:VS} (hs:s.1.length=W) {n:Nat} (hn:n<W):(vis s (n:Int)).1.length=W∧(vis s (n:Int)).2.length+fls (vis s (n:Int)).1=s.2.length+fls s.1∧fls (vis s (n:Int)).1≤fls s.1:=by
 have hl:n<s.1.length:=by omega
 unfold vis
 rw [rd_nat hl]
 cases hb:s.1[n]
 ·have:=fls_set s.1 n hl hb
  simp only [cond_false,Int.toNat_natCast,List.length_set,List.length_append,List.length_cons,List.length_nil]
  omega
 ·exact⟨hs,rfl,Nat.le_refl _⟩
theorem vis_idem {W:Nat} {s:VS} (hs:s.1.length=W) {n:Nat} (hn:n<W):vis (vis s (n:Int)) (n:Int)=vis s (n:Int):=by
 have hl:n<s.1.length:=by omega
 unfold vis
 rw [rd_nat hl]
 cases hb:s.1[n]
 ·simp only [cond_false,Int.toNat_natCast]
  rw [rd_nat (by rw [List.length_set];exact hl),List.getElem_set_self]
  rfl
 ·simp only [cond_true]
  rw [rd_nat hl,hb];rfl
theorem visits (c:CODE) (i:Nat) (s:VS) (hs:s.1.length=c.2.2.2.length):(nxS c i).foldl vis s=(nxI c i).foldl vis s:=by
 have key:∀ a b:Int,([a,b].foldl (addS c) []).foldl vis s=([a,b].foldl (addI c) []).foldl vis s:=fun a b=>by
  simp only [List.foldl_cons,List.foldl_nil,addS,addI]
  cases ha:inR c a<;>cases hb:inR c b<;>simp only [cond_true,cond_false,List.any_nil,List.nil_append,List.foldl_cons,List.foldl_nil,List.any_cons,Bool.or_false]
  by_cases e:a=b
  ·subst e
   obtain⟨n,rfl,hn⟩:=inR_ok ha
   simp only [decide_true,cond_true,List.foldl_cons,List.foldl_nil,List.cons_append,List.nil_append]
   exact(vis_idem hs hn).symm
  ·simp only [e,decide_false,cond_false]
 have key1:∀ a:Int,([a].foldl (addS c) []).foldl vis s=([a].foldl (addI c) []).foldl vis s:=fun a=>by
  simp only [List.foldl_cons,List.foldl_nil,addS,addI]
  cases ha:inR c a<;>simp only [cond_true,cond_false,List.any_nil,List.nil_append]
 unfold nxS nxI cand
 cases decide ((rd c.2.2.2 (i:Int) zI).1=20)<;>cases decide ((rd c.2.2.2 (i:Int) zI).1=18)<;>cases decide ((rd c.2.2.2 (i:Int) zI).1=19)<;>simp only [cond_true,cond_false]<;>first | exact key _ _ | exact key1 _ | rfl
theorem vis_pre (a:List Int):∀ (ns:List Int) (h:List Bool) (t:List Int),ns.foldl vis (h,a++t)=((ns.foldl vis (h,t)).1,a++(ns.foldl vis (h,t)).2)
 | [],h,t=>rfl
 | n::ns,h,t=>by
  simp only [List.foldl_cons,vis]
  cases rd h n false
  ·simp only [cond_false,List.append_assoc]
   exact vis_pre a ns _ _
  ·simp only [cond_true]
   exact vis_pre a ns _ _
def VI (W B F:Nat) (s:VS):Prop:=s.1.length=W∧s.2.length+fls s.1=B∧fls s.1≤F
theorem VI.step {W B F:Nat} {s:VS} (h:VI W B F s) {n:Nat} (hn:n<W):VI W B F (vis s (n:Int)):=by
 obtain⟨h1,h2,h3⟩:=h
 obtain⟨g1,g2,g3⟩:=vis_inv h1 hn
 exact⟨g1,by omega,by omega⟩
theorem inner_S (c:CODE) (i:Int) (ns:List Int) (hns:∀ n∈ns,Rng c n) (hl:ns.length≤1000) (s:VS) {B F:Nat} (hB:B≤4000000) (hs:VI c.2.2.2.length B F s):
 loopF L1_spec_ReachedWords (s.1,s.2,i,ns,(0:Int),c,())=some ((ns.foldl vis s).1,(ns.foldl vis s).2,i,c,())∧VI c.2.2.2.length B F (ns.foldl vis s):=by
 have h:=loopF_fold (step:=L1_spec_ReachedWords) ns vis (fun k s=>(s.1,s.2,i,ns,(k:Int),c,())) (fun s=>(s.1,s.2,i,c,())) (fun _ s=>VI c.2.2.2.length B F s) (fun k hk s hs=>by
  obtain⟨n,hn,hlt⟩:=hns _ (List.getElem_mem hk)
  refine⟨?_,by rw [hn];exact hs.step hlt⟩
  obtain⟨h1,h2,h3⟩:=hs
  have hl:n<s.1.length:=by omega
  have hle:∀ {α:Type} {K:Option α},(Cnd.le ((s.2.length+List.length [(n:Int)]) * 8) 140737488355328).run K=K:=fun {α} {K}=>le_run (by simp only [List.length_cons,List.length_nil];omega)
  have wi:=wrapSucc (show k<9223372036854775807 by omega)
  simp only [L1_spec_ReachedWords,lt_cast hk,decide_true,cond_true,idx_run hk,rd_nat hk,hn,idx_run hl,rd_nat hl,vis,Int.toNat_natCast,bindD,hle]
  cases s.1[n]<;>simp only [Bool.not_false,Bool.not_true,cond_true,cond_false,joinP_some,Option.map_some,wi]) (fun s hs=>by
  simp only [L1_spec_ReachedWords,not_lt_self,decide_false,cond_false,Option.map_some]) s hs
 exact h
theorem inner_I (c:CODE) (ns:List Int) (hns:∀ n∈ns,Rng c n) (hl:ns.length≤1000) (s:VS) {B F:Nat} (hB:B≤4000000) (hs:VI c.2.2.2.length B F s):
 loopF L1_impl_ReachedWords (s.1,s.2,ns,(ns.length:Int),(0:Int),c,())=some ((ns.foldl vis s).1,(ns.foldl vis s).2,c,())∧VI c.2.2.2.length B F (ns.foldl vis s):=by
 have h:=loopF_fold (step:=L1_impl_ReachedWords) ns vis (fun k s=>(s.1,s.2,ns,(ns.length:Int),(k:Int),c,())) (fun s=>(s.1,s.2,c,())) (fun _ s=>VI c.2.2.2.length B F s) (fun k hk s hs=>by
  obtain⟨n,hn,hlt⟩:=hns _ (List.getElem_mem hk)
  refine⟨?_,by rw [hn];exact hs.step hlt⟩
  obtain⟨h1,h2,h3⟩:=hs
  have hl:n<s.1.length:=by omega
  have hle:∀ {α:Type} {K:Option α},(Cnd.le ((s.2.length+List.length [(n:Int)]) * 8) 140737488355328).run K=K:=fun {α} {K}=>le_run (by simp only [List.length_cons,List.length_nil];omega)
  have wi:=wrapSucc (show k<9223372036854775807 by omega)
  simp only [L1_impl_ReachedWords,lt_cast hk,decide_true,cond_true,idx_run hk,rd_nat hk,hn,idx_run hl,rd_nat hl,vis,Int.toNat_natCast,bindD,hle]
  cases s.1[n]<;>simp only [Bool.not_false,Bool.not_true,cond_true,cond_false,joinP_some,Option.map_some,wi]) (fun s hs=>by
  simp only [L1_impl_ReachedWords,not_lt_self,decide_false,cond_false,Option.map_some]) s hs
 exact h
theorem fold_len {c:CODE} (g:List Int→Int→List Int) (hg:∀ o n,(g o n).length≤o.length+1):∀ (l o:List Int),(l.foldl g o).length≤o.length+l.length
 | [],o=>by simp
 | x::l,o=>by
  have h1:=fold_len (c:=c) g hg l (g o x)
  have h2:=hg o x
  simp only [List.foldl_cons,List.length_cons];omega
theorem nx_len (c:CODE) (i:Nat):(nxS c i).length≤1000∧(nxI c i).length≤1000:=by
 have h:=cand_len c i
 have h1:=fold_len (c:=c) (addS c) (fun o n=>by
  unfold addS;cases inR c n<;>cases (o.any fun y=>decide (y=n))<;>simp) (cand c i) []
 have h2:=fold_len (c:=c) (addI c) (fun o n=>by
  unfold addI;cases inR c n<;>simp) (cand c i) []
 unfold nxS nxI
 simp only [List.length_nil] at h1 h2
 omega
theorem vis_rng (c:CODE) (ns:List Int) (hns:∀ n∈ns,Rng c n):∀ s:VS,(∀ x∈s.2,Rng c x)→∀ x∈(ns.foldl vis s).2,Rng c x:=by
 induction ns with
 | nil=>intro s hs;exact hs
 | cons n ns ih=>
  intro s hs
  rw [List.foldl_cons]
  refine ih (fun m hm=>hns m (List.mem_cons_of_mem _ hm)) _ (fun x hx=>?_)
  unfold vis at hx
  cases hb:rd s.1 n false
  ·rw [hb,cond_false] at hx
   rcases List.mem_append.1 hx with hx | hx
   ·exact hs x hx
   ·rw [List.mem_singleton.1 hx];exact hns n (List.mem_cons_self ..)
  ·rw [hb,cond_true] at hx;exact hs x hx
theorem bfs (c:CODE) (hc:FineC c):∀ (M:Nat) (h:List Bool) (pre t:List Int),t.length+2 * fls h≤M→h.length=c.2.2.2.length→(∀ x∈t,Rng c x)→pre.length+t.length+fls h≤2000000 →
 ∃ res:List Bool,res.length=c.2.2.2.length∧loopF L2_spec_ReachedWords (h,pre++t,(pre.length:Int),c,())=some (res,())∧loopF L2_impl_ReachedWords (h,t,c,())=some (res,())
 | M,h,pre,[],_,hh,_,_=>by
  refine⟨h,hh,loopF_inr ?_,loopF_inr rfl⟩
  rw [List.append_nil]
  simp only [L2_spec_ReachedWords,not_lt_self,decide_false,cond_false,Option.map_some]
 | 0,h,pre,x::t,hM,_,_,_=>by simp at hM
 | M+1,h,pre,x::t,hM,hh,ht,hB=>by
  obtain⟨n,rfl,hn⟩:=ht x (List.mem_cons_self ..)
  simp only [List.length_cons] at hM hB
  have hw:=hc.s.w
  have hl:=nx_len c n
  have hvi:VI c.2.2.2.length (t.length+fls h) (fls h) (h,t):=⟨hh,rfl,Nat.le_refl _⟩
  have hvs:VI c.2.2.2.length ((pre++(n:Int)::t).length+fls h) (fls h) (h,pre++(n:Int)::t):=⟨hh,rfl,Nat.le_refl _⟩
  obtain⟨i1,j1,j2,j3⟩:=inner_I c (nxI c n) (nxI_in c n) hl.2 (h,t) (by omega) hvi
  obtain⟨s1,_⟩:=inner_S c (pre.length:Int) (nxS c n) (nxS_in c n) hl.1 (h,pre++(n:Int)::t) (by simp only [List.length_append,List.length_cons];omega) hvs
  have e1:pre++(n:Int)::t=(pre++[(n:Int)])++t:=by simp
  rw [visits c n _ hh,e1,vis_pre] at s1
  generalize hs0:(nxI c n).foldl vis (h,t)=s0 at i1 j1 j2 j3 s1
  have hrng:∀ x∈s0.2,Rng c x:=by
   rw [← hs0]
   exact vis_rng c _ (nxI_in c n) _ (fun x hx=>ht x (List.mem_cons_of_mem _ hx))
  obtain⟨res,r1,r2,r3⟩:=bfs c hc M s0.1 (pre++[(n:Int)]) s0.2 (by omega) j1 hrng (by simp only [List.length_append,List.length_cons,List.length_nil];omega)
  refine⟨res,r1,?_,?_⟩
  ·rw [← r2]
   refine loopF_inl ?_
   have hp:pre.length<(pre++(n:Int)::t).length:=by simp
   have hg:rd (pre++(n:Int)::t) (pre.length:Int) (0:Int)=(n:Int):=by rw [rd_nat hp];simp
   have e2:((pre++[(n:Int)]).length:Int)=((pre.length+1:Nat):Int):=by simp
   simp only [L2_spec_ReachedWords,lt_cast hp,decide_true,cond_true,idx_run hp,hg,spec_next c hc n hn,Option.bind_some,wrapSucc (show pre.length<9223372036854775807 by omega),e2]
   rw [e1,s1]
   simp only [joinP_some,Option.map_some,wrapSucc (show pre.length<9223372036854775807 by omega)]
  ·rw [← r3]
   refine loopF_inl ?_
   have hp:0<((n:Int)::t).length:=by simp
   have h0:(0:Int)<(((n:Int)::t).length:Int):=by simp
   have hg:rd ((n:Int)::t) (0:Int) (0:Int)=(n:Int):=rfl
   have hi:∀ {α:Type} {K:Option α},(Cnd.idx (0:Int) (List.length ((n:Int)::t))).run K=K:=fun {α} {K}=>idx_run (k:=0) hp
   have hcut:∀ {α:Type} {K:Option α},(Cnd.cut (1:Int) (List.length ((n:Int)::t):Int) (List.length ((n:Int)::t))).run K=K:=fun {α} {K}=>by
    simp only [Cnd.run]
    rw [if_pos ⟨by omega,by simp only [List.length_cons];omega,by omega⟩]
   have hsub:lsub ((n:Int)::t) (1:Int) (List.length ((n:Int)::t):Int)=t:=by simp [lsub]
   simp only [L2_impl_ReachedWords,h0,decide_true,cond_true,hi,hcut,hg,impl_next c hc n hn,Option.bind_some,hsub]
   have i1':loopF L1_impl_ReachedWords (h,t,nxI c n,((nxI c n).length:Int),(0:Int),c,())=_:=i1
   rw [i1']
   simp only [joinP_some,Option.map_some]
theorem fls_rep:∀ n:Nat,fls (List.replicate n false)=n
 | 0=>rfl
 | n+1=>by simp only [List.replicate_succ,fls,cond_false,fls_rep n];omega
theorem reach (c:CODE) (hc:FineC c) (hok:codeOk c=true):∃ R:List Bool,R.length=c.2.2.2.length∧spec_ReachedWords c=some (R,())∧impl_ReachedWords c=some (R,()):=by
 have hw:=hc.s.w
 have h1:1≤c.2.2.2.length:=by
  simp only [codeOk,Bool.and_eq_true,decide_eq_true_eq] at hok
  exact hok.2.2.2.1.1
 have hz:0<(List.replicate c.2.2.2.length false).length:=by simp;omega
 have hf:=fls_set (List.replicate c.2.2.2.length false) 0 hz (by simp)
 rw [fls_rep] at hf
 obtain⟨res,r1,r2,r3⟩:=bfs c hc (2 * c.2.2.2.length+1) ((List.replicate c.2.2.2.length false).set 0 true) [] [(0:Int)] (by simp only [List.length_cons,List.length_nil];omega) (by simp) (fun x hx=>by
  rw [List.mem_singleton.1 hx];exact⟨0,rfl,by omega⟩) (by simp only [List.length_cons,List.length_nil];omega)
 have r2':loopF L2_spec_ReachedWords ((List.replicate c.2.2.2.length false).set 0 true,[(0:Int)],(0:Int),c,())=_:=r2
 have hb:∀ {α:Type} {K:Option α},(Cnd.both (Cnd.nn (c.2.2.2.length:Int)) (Cnd.le (c.2.2.2.length * 1) 140737488355328)).run K=K:=fun {α} {K}=>by
  simp only [Cnd.run]
  rw [if_pos (by omega),if_pos (by omega)]
 have hi:∀ {α:Type} {K:Option α},(Cnd.idx (0:Int) (List.length (List.replicate c.2.2.2.length false))).run K=K:=fun {α} {K}=>idx_run (k:=0) hz
 refine⟨res,r1,?_,?_⟩
 ·simp only [spec_ReachedWords,spec_CodeOk_ok c hc,hok,Option.bind_some,Bool.not_true,cond_false,Int.toNat_natCast,hb,hi,bindD,Int.toNat_zero,r2',joinP_some]
 ·simp only [impl_ReachedWords,impl_CodeOk_ok c hc,hok,Option.bind_some,Bool.not_true,cond_false,Int.toNat_natCast,hb,hi,bindD,Int.toNat_zero,r3,joinP_some]
end Go.Proofs.YtmakhmoielhjeaaGreatDoorE
namespace Go.Proofs.YtmakhmoielhjeaaGreatDoorE
set_option linter.all false
set_option maxRecDepth 100000
namespace Trimmed
abbrev zC:CODE:=((⟨#[]⟩:ByteArray),((0:Int),([],[])))
def keep (R:List Bool) (l:List INS) (i:Nat):Bool:=decide ((i:Int)=(l.length:Int) - 1) || (rd R (i:Int) false && !(decide ((rd l (i:Int) zI).1=18) && decide ((rd l (i:Int) zI).2.2.2.2.1=((i+1:Nat):Int))))
abbrev TS:=List Int×List INS
def cut (R:List Bool) (l:List INS) (s:TS) (i:Nat):TS:=(s.1++[(s.2.length:Int)],bif keep R l i then s.2++[rd l (i:Int) zI] else s.2)
def TI (l:List INS) (k:Nat) (s:TS):Prop:=s.1.length=k∧s.2.length≤k∧(∀ w∈s.2,w∈l)∧(s.2.map (wt t_Ins)).sum≤((l.take k).map (wt t_Ins)).sum
theorem TI.step {R:List Bool} {l:List INS} {k:Nat} {s:TS} (h:TI l k s) (hk:k<l.length):TI l (k+1) (cut R l s k):=by
 obtain⟨h1,h2,h3,h4⟩:=h
 have e:((l.take (k+1)).map (wt t_Ins)).sum=((l.take k).map (wt t_Ins)).sum+wt t_Ins l[k]:=by
  rw [List.take_succ_eq_append_getElem hk,List.map_append,List.sum_append]
  rfl
 unfold cut
 refine⟨by simp only [List.length_append,List.length_cons,List.length_nil,h1],?_,?_,?_⟩
 ·cases keep R l k
  ·simp only [cond_false];omega
  ·simp only [cond_true,List.length_append,List.length_cons,List.length_nil];omega
 ·cases keep R l k
  ·simp only [cond_false];exact h3
  ·simp only [cond_true]
   intro w hw
   rcases List.mem_append.1 hw with hw | hw
   ·exact h3 w hw
   ·rw [List.mem_singleton.1 hw,rd_nat hk];exact List.getElem_mem hk
 ·rw [e,rd_nat hk]
  cases keep R l k
  ·simp only [cond_false];omega
  ·simp only [cond_true,List.map_append,List.sum_append,List.map_cons,List.map_nil,List.sum_cons,List.sum_nil];omega
def cuts (R:List Bool) (l:List INS):TS:=(List.range l.length).foldl (cut R l) ([],[])
theorem cutsS (c:CODE) (h:FineC c) (R:List Bool) (hR:R.length=c.2.2.2.length) (h1:1≤c.2.2.2.length) (z:CODE) (a:ByteArray) (b:Int) (d:List Int):
 loopF L1_spec_Trimmed (R,(c.2.2.2.length:Int) - 1,[],(0:Int),c,z,(a,(b,(d,[]))),())=some ((cuts R c.2.2.2).1,z,(a,(b,(d,(cuts R c.2.2.2).2))),())∧TI c.2.2.2 c.2.2.2.length (cuts R c.2.2.2):=by
 have hw:=h.s.w
 have hr:(List.range c.2.2.2.length).length=c.2.2.2.length:=List.length_range
 have H:=loopF_fold (step:=L1_spec_Trimmed) (List.range c.2.2.2.length) (cut R c.2.2.2) (fun i s=>(R,(c.2.2.2.length:Int) - 1,s.1,(i:Int),c,z,(a,(b,(d,s.2))),())) (fun s=>(s.1,z,(a,(b,(d,s.2))),())) (TI c.2.2.2) (fun k hk s hs=>by
  have hk':k<c.2.2.2.length:=by omega
  rw [List.getElem_range]
  refine⟨?_,hs.step hk'⟩
  obtain⟨s1,s2,s3,_⟩:=hs
  have wk:=wrapSucc (show k<9223372036854775807 by omega)
  have hkR:k<R.length:=by omega
  have l1:∀ {α:Type} {K:Option α},(Cnd.le ((s.1.length+List.length [(s.2.length:Int)]) * 8) 140737488355328).run K=K:=fun {α} {K}=>le_run (by simp only [List.length_cons,List.length_nil];omega)
  have l2:∀ (w:INS) {α:Type} {K:Option α},(Cnd.le ((s.2.length+List.length [w]) * 80) 140737488355328).run K=K:=fun w {α} {K}=>le_run (by simp only [List.length_cons,List.length_nil];omega)
  have ha:=h.a _ (List.getElem_mem hk')
  have l3:∀ {α:Type} {K:Option α},(Cnd.le ((List.length ([]:List Int)+(c.2.2.2[k]).2.2.2.2.2.2.length) * 8) 140737488355328).run K=K:=fun {α} {K}=>nil_le (by omega)
  simp only [L1_spec_Trimmed,show(k:Int)≤(c.2.2.2.length:Int) - 1 by omega,decide_true,cond_true,l1,idx_run hk',idx_run hkR,cut,keep,rd_nat hk',wk]
  generalize c.2.2.2[k]=w at l3
  cases decide ((k:Int)=(c.2.2.2.length:Int) - 1)<;>cases rd R (k:Int) false<;>cases decide (w.1=18)<;>cases decide (w.2.2.2.2.1=((k+1:Nat):Int)) <;>
   simp only [cond_true,cond_false,joinP_some,l2,l3,List.nil_append,Option.map_some,wk,Bool.not_true,Bool.not_false,Bool.true_or,Bool.false_or,Bool.and_self,Bool.and_true,Bool.and_false,Bool.true_and,Bool.false_and]) (fun s hs=>by
  rw [hr]
  simp only [L1_spec_Trimmed,show ¬ ((c.2.2.2.length:Int)≤(c.2.2.2.length:Int) - 1) by omega,decide_false,cond_false,Option.map_some]) ([],[]) ⟨rfl,Nat.le_refl _,(fun w hw=>by cases hw),Nat.le_refl _⟩
 rw [hr] at H
 exact H
theorem set_rep {l:List Int} {W:Nat} (hl:l.length<W) (v:Int):(l++List.replicate (W - l.length) (0:Int)).set l.length v=(l++[v])++List.replicate (W - (l++[v]).length) (0:Int):=by
 rw [List.set_append_right _ _ (Nat.le_refl _),Nat.sub_self]
 have e:W - l.length=(W - (l++[v]).length)+1:=by simp only [List.length_append,List.length_cons,List.length_nil];omega
 rw [e,List.replicate_succ,List.set_cons_zero,List.append_assoc]
 rfl
theorem cutsI (c:CODE) (h:FineC c) (R:List Bool) (hR:R.length=c.2.2.2.length) (z y:CODE):
 loopF L1_impl_Trimmed (R,(c.2.2.2.length:Int) - 1,List.replicate c.2.2.2.length (0:Int),[],(c.2.2.2,(0:Int)),(c.2.2.2.length:Int),(0:Int),z,y,())=some ((cuts R c.2.2.2).1,(cuts R c.2.2.2).2,z,y,()):=by
 have hw:=h.s.w
 have hr:(List.range c.2.2.2.length).length=c.2.2.2.length:=List.length_range
 have H:=loopF_fold (step:=L1_impl_Trimmed) (List.range c.2.2.2.length) (cut R c.2.2.2) (fun i s=>(R,(c.2.2.2.length:Int) - 1,s.1++List.replicate (c.2.2.2.length - s.1.length) (0:Int),s.2,(c.2.2.2,(i:Int)),(c.2.2.2.length:Int),(i:Int),z,y,())) (fun s=>(s.1++List.replicate (c.2.2.2.length - s.1.length) (0:Int),s.2,z,y,())) (TI c.2.2.2) (fun k hk s hs=>by
  have hk':k<c.2.2.2.length:=by omega
  rw [List.getElem_range]
  refine⟨?_,hs.step hk'⟩
  obtain⟨s1,s2,s3,_⟩:=hs
  have wk:=wrapSucc (show k<9223372036854775807 by omega)
  have hkR:k<R.length:=by omega
  have hset:(s.1++List.replicate (c.2.2.2.length - s.1.length) (0:Int)).set k (s.2.length:Int)=(s.1++[(s.2.length:Int)])++List.replicate (c.2.2.2.length - (s.1++[(s.2.length:Int)]).length) (0:Int):=by
   have:=set_rep (l:=s.1) (W:=c.2.2.2.length) (by omega) (s.2.length:Int)
   rwa [show ∀ v,(s.1++List.replicate (c.2.2.2.length - s.1.length) (0:Int)).set s.1.length v=(s.1++List.replicate (c.2.2.2.length - s.1.length) (0:Int)).set k v from fun v=>congrArg (fun n=>(s.1++List.replicate (c.2.2.2.length - s.1.length) (0:Int)).set n v) s1] at this
  have hpl:k<(s.1++List.replicate (c.2.2.2.length - s.1.length) (0:Int)).length:=by simp only [List.length_append,List.length_replicate];omega
  have l2:∀ (w:INS) {α:Type} {K:Option α},(Cnd.le ((s.2.length+List.length [w]) * 80) 140737488355328).run K=K:=fun w {α} {K}=>le_run (by simp only [List.length_cons,List.length_nil];omega)
  have hq:∀ {α:Type} {K:Option α},(Cnd.both (Cnd.idx (k:Int) (List.length c.2.2.2)) (Cnd.cut (k:Int) (k:Int) (List.length c.2.2.2))).run K=K:=fun {α} {K}=>by
   simp only [Cnd.run]
   rw [if_pos (by omega),if_pos (by omega)]
  have ek:(k:Int)+1=((k+1:Nat):Int):=by omega
  have wk2:IntKind.wrap .i64 ((k+1:Nat):Int)=((k+1:Nat):Int):=wrap64 (by omega) (by omega)
  simp only [L1_impl_Trimmed,lt_cast hk',decide_true,cond_true,hq,idx_run hpl,bindD,Int.toNat_natCast,idx_run hkR,cut,keep,rd_nat hk',wk,ek,wk2]
  rw [hset]
  generalize c.2.2.2[k]=w
  generalize (s.1++[(s.2.length:Int)])++List.replicate (c.2.2.2.length - (s.1++[(s.2.length:Int)]).length) (0:Int)=pl
  cases e1:decide ((k:Int)=(c.2.2.2.length:Int) - 1)<;>cases rd R (k:Int) false<;>cases decide (w.1=18)<;>cases decide (w.2.2.2.2.1=((k+1:Nat):Int)) <;>
   simp only [e1,cond_true,cond_false,joinP_some,l2,Option.map_some,wk,ek,wk2,Bool.not_true,Bool.not_false,Bool.true_or,Bool.false_or,Bool.and_self,Bool.and_true,Bool.and_false,Bool.true_and,Bool.false_and]) (fun s hs=>by
  rw [hr]
  simp only [L1_impl_Trimmed,not_lt_self,decide_false,cond_false,Option.map_some]) ([],[]) ⟨rfl,Nat.le_refl _,(fun w hw=>by cases hw),Nat.le_refl _⟩
 obtain⟨H1,H2,H3,H4⟩:=H
 have e:(cuts R c.2.2.2).1.length=c.2.2.2.length:=by rw [← hr];exact H2
 have H1':loopF L1_impl_Trimmed (R,(c.2.2.2.length:Int) - 1,List.replicate c.2.2.2.length (0:Int),[],(c.2.2.2,(0:Int)),(c.2.2.2.length:Int),(0:Int),z,y,())=some ((cuts R c.2.2.2).1++List.replicate (c.2.2.2.length - (cuts R c.2.2.2).1.length) (0:Int),(cuts R c.2.2.2).2,z,y,()):=H1
 rw [H1',e,Nat.sub_self,List.replicate_zero,List.append_nil]
def put (at_:List Int) (w:INS):INS:=bif decide (w.1=18) || decide (w.1=19) then (w.1,(w.2.1,(w.2.2.1,(w.2.2.2.1,(rd at_ w.2.2.2.2.1 (0:Int),w.2.2.2.2.2))))) else w
theorem put_wt (at_:List Int) (w:INS):wt t_Ins (put at_ w)=wt t_Ins w:=by
 unfold put
 cases decide (w.1=18) || decide (w.1=19)<;>rfl
theorem putsS (at_:List Int) (z:CODE) (a:ByteArray) (b:Int) (d:List Int) (l:List INS) (hl:l.length≤1048576) (hj:∀ w∈l,(w:INS).1=18∨(w:INS).1=19→∃ t:Nat,(w:INS).2.2.2.2.1=(t:Int)∧t<at_.length):
 loopF L2_spec_Trimmed (at_,(0:Int),z,(a,(b,(d,l))),())=some (z,(a,(b,(d,l.map (put at_)))),()):=by
 refine loopF_map (step:=L2_spec_Trimmed) l (put at_) (fun k o=>(at_,(k:Int),z,(a,(b,(d,o))),())) (fun o=>(z,(a,(b,(d,o))),())) (fun k hk o ho he=>?_) (fun o ho=>?_)
 ·have hk':k<o.length:=by omega
  have hm:=hj _ (List.getElem_mem hk)
  have wk:=wrapSucc (show k<9223372036854775807 by omega)
  have hkl:((k:Nat):Int)<(o.length:Int):=by omega
  have hself:o.set k l[k]=o:=by rw [← he,List.set_getElem_self]
  simp only [L2_spec_Trimmed,hkl,decide_true,cond_true,idx_run hk',rd_nat hk',he,put,Int.toNat_natCast,bindD]
  generalize l[k]=w at hm he hself ⊢
  by_cases h18:w.1=18
  ·obtain⟨t,ht,htl⟩:=hm (.inl h18)
   simp only [h18,decide_true,cond_true,joinP_some,idx_run hk',rd_nat hk',he,ht,idx_run htl,Bool.true_or,Option.map_some,wk,Int.toNat_natCast]
  ·by_cases h19:w.1=19
   ·obtain⟨t,ht,htl⟩:=hm (.inr h19)
    simp only [h19,show ¬ ((19:Int)=18) by decide,decide_true,decide_false,cond_true,cond_false,joinP_some,idx_run hk',rd_nat hk',he,Int.toNat_natCast,ht,idx_run htl,Bool.or_true,Option.map_some,wk]
   ·simp only [h18,h19,decide_false,cond_false,joinP_some,Bool.or_self,Option.map_some,wk,hself]
 ·simp only [L2_spec_Trimmed,ho,not_lt_self,decide_false,cond_false,Option.map_some]
theorem putsI (at_:List Int) (z y:CODE) (l:List INS) (hl:l.length≤1048576) (hj:∀ w∈l,(w:INS).1=18∨(w:INS).1=19→∃ t:Nat,(w:INS).2.2.2.2.1=(t:Int)∧t<at_.length):
 loopF L2_impl_Trimmed (at_,l,(l.length:Int),(0:Int),z,y,())=some (l.map (put at_),z,y,()):=by
 refine loopF_map (step:=L2_impl_Trimmed) l (put at_) (fun k o=>(at_,o,(l.length:Int),(k:Int),z,y,())) (fun o=>(o,z,y,())) (fun k hk o ho he=>?_) (fun o ho=>?_)
 ·have hk':k<o.length:=by omega
  have hm:=hj _ (List.getElem_mem hk)
  have wk:=wrapSucc (show k<9223372036854775807 by omega)
  have hself:o.set k l[k]=o:=by rw [← he,List.set_getElem_self]
  simp only [L2_impl_Trimmed,lt_cast hk,decide_true,cond_true,idx_run hk',rd_nat hk',he,put,Int.toNat_natCast,bindD]
  generalize l[k]=w at hm he hself ⊢
  by_cases h18:w.1=18
  ·obtain⟨t,ht,htl⟩:=hm (.inl h18)
   simp only [h18,decide_true,cond_true,joinP_some,rd_nat hk',he,ht,idx_run htl,Bool.true_or,Option.map_some,wk,Int.toNat_natCast]
  ·by_cases h19:w.1=19
   ·obtain⟨t,ht,htl⟩:=hm (.inr h19)
    simp only [h19,show ¬ ((19:Int)=18) by decide,decide_true,decide_false,cond_true,cond_false,joinP_some,rd_nat hk',he,ht,idx_run htl,Bool.or_true,Option.map_some,wk,Int.toNat_natCast]
   ·simp only [h18,h19,decide_false,cond_false,joinP_some,Bool.or_self,Option.map_some,wk,hself]
 ·simp only [L2_impl_Trimmed,not_lt_self,decide_false,cond_false,Option.map_some]
def trim (R:List Bool) (c:CODE):CODE:=(c.1,(c.2.1,(c.2.2.1,(cuts R c.2.2.2).2.map (put (cuts R c.2.2.2).1))))
theorem no (c:CODE) (h:FineC c) (hok:codeOk c=false):spec_Trimmed c=some (c,false,())∧impl_Trimmed c=some (c,false,()):=by
 refine⟨?_,?_⟩
 ·simp only [spec_Trimmed,spec_CodeOk_ok c h,hok,Option.bind_some,Bool.not_false,cond_true,spec_copy c h]
 ·simp only [impl_Trimmed,impl_CodeOk_ok c h,hok,Option.bind_some,Bool.not_false,cond_true,impl_copy c h]
theorem yes (c:CODE) (h:FineC c) (hok:codeOk c=true):∃ R:List Bool,spec_Trimmed c=some (trim R c,true,())∧impl_Trimmed c=some (trim R c,true,())∧wt t_Code (trim R c)≤wt t_Code c∧(trim R c).2.2.2.length≤c.2.2.2.length:=by
 have hw:=h.s.w
 have h1:1≤c.2.2.2.length:=by
  have hok':=hok
  simp only [codeOk,Bool.and_eq_true,decide_eq_true_eq] at hok'
  exact hok'.2.2.2.1.1
 obtain⟨R,hR,rS,rI⟩:=reach c h hok
 have hj:=jmp_of hok
 obtain⟨q1,q2,q3,q4,q5⟩:=cutsS c h R hR h1 zC c.1 c.2.1 c.2.2.1
 have hj2:∀ w∈(cuts R c.2.2.2).2,(w:INS).1=18∨(w:INS).1=19→∃ t:Nat,(w:INS).2.2.2.2.1=(t:Int)∧t<(cuts R c.2.2.2).1.length:=fun w hm ho=>by
  rw [q2];exact hj w (q4 w hm) ho
 have pS:=putsS (cuts R c.2.2.2).1 zC c.1 c.2.1 c.2.2.1 (cuts R c.2.2.2).2 (by omega) hj2
 have pI:=fun y=>putsI (cuts R c.2.2.2).1 zC y (cuts R c.2.2.2).2 (by omega) hj2
 have hb:∀ {α:Type} {K:Option α},(Cnd.both (Cnd.nn (c.2.2.2.length:Int)) (Cnd.le (c.2.2.2.length * 8) 140737488355328)).run K=K:=fun {α} {K}=>by
  simp only [Cnd.run]
  rw [if_pos (by omega),if_pos (by omega)]
 refine⟨R,?_,?_,?_,?_⟩
 ·simp only [spec_Trimmed,spec_CodeOk_ok c h,hok,Option.bind_some,Bool.not_true,cond_false,rS,spec_copy c h,len1 hw,q1,joinP_some,pS,trim]
 ·simp only [impl_Trimmed,impl_CodeOk_ok c h,hok,Option.bind_some,Bool.not_true,cond_false,rI,impl_copy c h,Int.toNat_natCast,hb,len1 hw,cutsI c h R hR,joinP_some,pI,trim]
 ·have e:(((cuts R c.2.2.2).2.map (put (cuts R c.2.2.2).1)).map (wt t_Ins))=(cuts R c.2.2.2).2.map (wt t_Ins):=by
   rw [List.map_map]
   exact congrArg (fun f=>(cuts R c.2.2.2).2.map f) (funext fun w=>put_wt _ w)
  have e1:=wt_code (trim R c)
  have e2:=wt_code c
  rw [List.take_length] at q5
  simp only [trim,List.length_map,e] at e1
  unfold trim
  omega
 ·simp only [trim,List.length_map];exact q3
theorem both (c:CODE) (h:FineC c):∃ (d:CODE) (b:Bool),spec_Trimmed c=some (d,b,())∧impl_Trimmed c=some (d,b,())∧wt t_Code d≤wt t_Code c:=by
 cases hok:codeOk c
 ·exact⟨c,false,(no c h hok).1,(no c h hok).2,Nat.le_refl _⟩
 ·obtain⟨R,a1,a2,a3,_⟩:=yes c h hok
  exact⟨_,_,a1,a2,a3⟩
theorem cuts_all (R:List Bool) (l:List INS):∀ k,k≤l.length→((List.range k).foldl (cut R l) ([],[])).1.length=k∧((List.range k).foldl (cut R l) ([],[])).2.length≤k ∧
 (((List.range k).foldl (cut R l) ([],[])).2.length=k→((List.range k).foldl (cut R l) ([],[])).2=l.take k∧∀ j,j<k→((List.range k).foldl (cut R l) ([],[])).1.getD j 0=(j:Int))
 | 0,_=>⟨rfl,Nat.le_refl _,fun _=>⟨rfl,fun j hj=>absurd hj (Nat.not_lt_zero j)⟩⟩
 | k+1,hk=>by
  obtain⟨h1,h2,h3⟩:=cuts_all R l k (by omega)
  rw [List.range_succ,List.foldl_append,List.foldl_cons,List.foldl_nil]
  generalize (List.range k).foldl (cut R l) ([],[])=s at h1 h2 h3 ⊢
  unfold cut
  refine⟨by simp only [List.length_append,List.length_cons,List.length_nil,h1],?_,?_⟩
  ·cases keep R l k
   ·simp only [cond_false];omega
   ·simp only [cond_true,List.length_append,List.length_cons,List.length_nil];omega
  ·cases keep R l k
   ·simp only [cond_false];intro h;omega
   ·simp only [cond_true,List.length_append,List.length_cons,List.length_nil]
    intro h
    have hsk:s.2.length=k:=by omega
    obtain⟨g1,g2⟩:=h3 hsk
    refine⟨?_,fun j hj=>?_⟩
    ·rw [g1,rd_nat (show k<l.length by omega),List.take_succ_eq_append_getElem (show k<l.length by omega)]
    ·by_cases e:j=k
     ·subst e
      simp [List.getElem?_append_right,h1,hsk]
     ·have hjk:j<k:=by omega
      have:=g2 j hjk
      simp only [List.getD_eq_getElem?_getD] at this ⊢
      rw [List.getElem?_append_left (by omega)]
      exact this
theorem trim_same (R:List Bool) (c:CODE) (hj:Jmp c.2.2.2) (hl:(trim R c).2.2.2.length=c.2.2.2.length):trim R c=c:=by
 obtain⟨h1,h2,h3⟩:=cuts_all R c.2.2.2 c.2.2.2.length (Nat.le_refl _)
 have hl':(cuts R c.2.2.2).2.length=c.2.2.2.length:=by simpa only [trim,List.length_map] using hl
 obtain⟨g1,g2⟩:=h3 hl'
 rw [List.take_length] at g1
 have e1:(cuts R c.2.2.2).2=c.2.2.2:=g1
 have e2:c.2.2.2.map (put (cuts R c.2.2.2).1)=c.2.2.2:=by
  have:∀ w∈c.2.2.2,put (cuts R c.2.2.2).1 w=w:=fun w hw=>by
   unfold put
   by_cases hjj:w.1=18∨w.1=19
   ·obtain⟨t,ht,htl⟩:=hj w hw hjj
    have e:rd (cuts R c.2.2.2).1 w.2.2.2.2.1 (0:Int)=w.2.2.2.2.1:=by
     rw [ht];exact g2 t htl
    rw [e]
    cases decide (w.1=18) || decide (w.1=19)<;>rfl
   ·have:(decide (w.1=18) || decide (w.1=19))=false:=by simpa using hjj
    rw [this];rfl
  exact(List.map_congr_left this).trans (List.map_id' _)
 unfold trim
 rw [e1,e2]
end Trimmed
end Go.Proofs.YtmakhmoielhjeaaGreatDoorE
namespace Go.Proofs.YtmakhmoielhjeaaGreatDoorE
set_option linter.all false
set_option maxRecDepth 100000
namespace Tight
open Threaded
theorem php:∀ (W:Nat) (f:Nat→Nat),(∀ i,i≤W→f i<W)→∃ i j,i<j∧j≤W∧f i=f j
 | 0,f,h=>absurd (h 0 (Nat.le_refl 0)) (Nat.not_lt_zero _)
 | W+1,f,h=>by
  by_cases hex:∃ i,i≤W∧f i=f (W+1)
  ·obtain⟨i,hi,he⟩:=hex
   exact⟨i,W+1,by omega,Nat.le_refl _,he⟩
  ·have hne:∀ i,i≤W→f i≠f (W+1):=fun i hi he=>hex ⟨i,hi,he⟩
   obtain⟨i,j,hij,hj,he⟩:=php W (fun i=>if f i=W then f (W+1) else f i) (fun i hi=>by
    have h1:=h i (by omega)
    have h2:=h (W+1) (Nat.le_refl _)
    have h3:=hne i hi
    split<;>omega)
   refine⟨i,j,hij,by omega,?_⟩
   have h3:=hne i (by omega)
   have h4:=hne j hj
   split at he<;>split at he<;>omega
def gst (l:List INS) (t:Nat):Nat:=(num l (t:Int)).toNat
def fst_ (l:List INS):Nat→Nat→Nat
 | 0,t=>t
 | k+1,t=>fst_ l k (gst l t)
theorem fst_add (l:List INS):∀ (a b t:Nat),fst_ l (a+b) t=fst_ l b (fst_ l a t)
 | 0,b,t=>by rw [Nat.zero_add];rfl
 | a+1,b,t=>by
  rw [show a+1+b=(a+b)+1 by omega]
  exact fst_add l a b (gst l t)
theorem gst_ok {l:List INS} (h:Jmp l) {t:Nat} (ht:t<l.length) (ho:op l (t:Int)=18):num l (t:Int)=(gst l t:Int)∧gst l t<l.length:=by
 obtain⟨u,hu,hul⟩:=jmp_at h ht ho
 unfold gst
 rw [hu]
 exact⟨rfl,by simpa using hul⟩
theorem chase_none {l:List INS} (h:Jmp l):∀ (n t:Nat),t<l.length→(chase l n (t:Int)=none↔∀ k,k<n→op l (fst_ l k t:Int)=18)
 | 0,t,_=>⟨fun _ k hk=>absurd hk (Nat.not_lt_zero k),fun _=>rfl⟩
 | n+1,t,ht=>by
  rw [chase]
  by_cases ho:op l (t:Int)=18
  ·obtain⟨g1,g2⟩:=gst_ok h ht ho
   rw [if_pos ho,g1,chase_none h n (gst l t) g2]
   refine⟨fun hh k hk=>?_,fun hh k hk=>hh (k+1) (by omega)⟩
   cases k with
   | zero=>exact ho
   | succ k=>exact hh k (by omega)
  ·rw [if_neg ho]
   refine⟨fun hh=>(by cases hh),fun hh=>absurd (hh 0 (by omega)) ho⟩
theorem fst_lt {l:List INS} (h:Jmp l):∀ (k t:Nat),t<l.length→(∀ j,j<k→op l (fst_ l j t:Int)=18)→fst_ l k t<l.length
 | 0,t,ht,_=>ht
 | k+1,t,ht,hh=>by
  obtain⟨_,g2⟩:=gst_ok h ht (hh 0 (by omega))
  exact fst_lt h k (gst l t) g2 (fun j hj=>hh (j+1) (by omega))
theorem forever {l:List INS} (h:Jmp l) {t:Nat} (ht:t<l.length) (hn:chase l (l.length+1) (t:Int)=none):∀ n,chase l n (t:Int)=none:=by
 have h1:=(chase_none h _ t ht).1 hn
 have hall:∀ k,op l (fst_ l k t:Int)=18:=by
  obtain⟨i,j,hij,hj,he⟩:=php l.length (fun k=>fst_ l k t) (fun k hk=>fst_lt h k t ht (fun j hj=>h1 j (by omega)))
  intro k
  induction k using Nat.strongRecOn with
  | _ k ih=>
   by_cases hk:k<l.length+1
   ·exact h1 k hk
   ·have e1:fst_ l k t=fst_ l (k - j) (fst_ l j t):=by rw [← fst_add];congr 1;omega
    have e2:fst_ l (i+(k - j)) t=fst_ l (k - j) (fst_ l i t):=fst_add l i (k - j) t
    have he:fst_ l i t=fst_ l j t:=he
    rw [e1,← he,← e2]
    exact ih _ (by omega)
 exact fun n=>(chase_none h n t ht).2 fun k _=>hall k
theorem chase_end {l:List INS} (h:Jmp l):∀ (n t:Nat) (u:Int),t<l.length→chase l n (t:Int)=some u→∃ v:Nat,u=(v:Int)∧v<l.length∧op l (v:Int)≠18
 | 0,t,u,_,hc=>by cases hc
 | n+1,t,u,ht,hc=>by
  rw [chase] at hc
  by_cases ho:op l (t:Int)=18
  ·obtain⟨g1,g2⟩:=gst_ok h ht ho
   rw [if_pos ho,g1] at hc
   exact chase_end h n _ u g2 hc
  ·rw [if_neg ho] at hc
   obtain⟨rfl⟩:=hc
   exact⟨t,rfl,ht,ho⟩
theorem thr_fields (l:List INS) (w:INS):(thr l w).1=w.1∧(thr l w).2.1=w.2.1∧(thr l w).2.2.1=w.2.2.1∧(thr l w).2.2.2.1=w.2.2.2.1∧(thr l w).2.2.2.2.2=w.2.2.2.2.2:=by
 unfold thr
 split
 ·split
  ·exact⟨rfl,rfl,rfl,rfl,rfl⟩
  ·exact⟨rfl,rfl,rfl,rfl,rfl⟩
 ·exact⟨rfl,rfl,rfl,rfl,rfl⟩
theorem rd_map {l:List INS} {f:INS→INS} {t:Nat} (ht:t<l.length):rd (l.map f) (t:Int) zI=f l[t]:=by
 rw [rd_nat (by rw [List.length_map];exact ht),List.getElem_map]
theorem op_map {l:List INS} {t:Nat} (ht:t<l.length):op (l.map (thr l)) (t:Int)=op l (t:Int):=by
 unfold op
 rw [rd_map ht,(thr_fields l _).1,rd_nat ht]
theorem lost {l:List INS} (h:Jmp l):∀ (n t:Nat),t<l.length→(∀ n,chase l n (t:Int)=none)→chase (l.map (thr l)) n (t:Int)=none
 | 0,t,_,_=>rfl
 | n+1,t,ht,hf=>by
  have ho:op l (t:Int)=18:=by
   have:=hf 1
   rw [chase] at this
   by_cases ho:op l (t:Int)=18
   ·exact ho
   ·rw [if_neg ho] at this;cases this
  obtain⟨g1,g2⟩:=gst_ok h ht ho
  have hf2:∀ n,chase l n (gst l t:Int)=none:=fun n=>by
   have:=hf (n+1)
   rw [chase,if_pos ho,g1] at this
   exact this
  have ho':(l[t]).1=18:=by simpa only [op,rd_nat ht] using ho
  have hn':(l[t]).2.2.2.2.1=(gst l t:Int):=by simpa only [num,rd_nat ht] using g1
  have hthr:thr l l[t]=l[t]:=by
   rw [thr,if_pos (.inl ho'),hn',hf2]
  have hnum:num (l.map (thr l)) (t:Int)=(gst l t:Int):=by
   unfold num
   rw [rd_map ht,hthr]
   exact hn'
  rw [chase,if_pos (by rw [op_map ht];exact ho),hnum]
  exact lost h n _ g2 hf2
theorem thr_idem {l:List INS} (h:Jmp l) (w:INS) (hw:w∈l):thr (l.map (thr l)) (thr l w)=thr l w:=by
 by_cases hj:w.1=18∨w.1=19
 ·obtain⟨t,ht,htl⟩:=h w hw hj
  have hf:=thr_fields l w
  have hj':(thr l w).1=18∨(thr l w).1=19:=by rw [hf.1];exact hj
  have hlen:(l.map (thr l)).length=l.length:=List.length_map ..
  cases hc:chase l (l.length+1) (t:Int) with
  | some u=>
   obtain⟨v,rfl,hv,hov⟩:=chase_end h _ t u htl hc
   have e:(thr l w).2.2.2.2.1=(v:Int):=by
    rw [thr,if_pos hj,ht,hc]
   rw [thr,if_pos hj',e,hlen]
   have:chase (l.map (thr l)) (l.length+1) (v:Int)=some (v:Int):=by
    rw [chase,if_neg (by rw [op_map hv];exact hov)]
   rw [this,← e]
  | none=>
   have e:thr l w=w:=by rw [thr,if_pos hj,ht,hc]
   rw [e,thr,if_pos hj,ht,hlen,lost h _ t htl (forever h htl hc)]
 ·have e:thr l w=w:=by rw [thr,if_neg hj]
  rw [e,thr,if_neg hj]
theorem val_idem (c:CODE):val (val c)=val c:=by
 cases hc:codeOk c
 ·have e:val c=c:=by unfold val;rw [hc];rfl
  rw [e,e]
 ·have e:val c=(c.1,(c.2.1,(c.2.2.1,c.2.2.2.map (thr c.2.2.2)))):=by unfold val;rw [hc];rfl
  rw [e]
  unfold val
  cases codeOk (c.1,(c.2.1,(c.2.2.1,c.2.2.2.map (thr c.2.2.2))))
  ·rfl
  ·simp only [cond_true]
   have:(c.2.2.2.map (thr c.2.2.2)).map (thr (c.2.2.2.map (thr c.2.2.2)))=c.2.2.2.map (thr c.2.2.2):=by
    rw [List.map_map]
    exact List.map_congr_left fun w hw=>thr_idem (jmp_of hc) w hw
   rw [this]
def sameB (a b:List INS) (i:Nat):Bool:=decide ((rd a (i:Int) zI).2.2.2.2.1=(rd b (i:Int) zI).2.2.2.2.1)
def sameL (a b:List INS):Bool:=(List.range a.length).all (sameB a b)
structure Like (a b:List INS):Prop where
 len:a.length=b.length
 f:∀ i (h:i<a.length) (h':i<b.length),(a[i]).1=(b[i]).1∧(a[i]).2.1=(b[i]).2.1∧(a[i]).2.2.1=(b[i]).2.2.1∧(a[i]).2.2.2.1=(b[i]).2.2.2.1∧(a[i]).2.2.2.2.2=(b[i]).2.2.2.2.2
theorem ints_same (l:List Int) (hl:l.length≤1048576):impl_sameInts l l=some (true,()):=by
 have h:=loopF_all (step:=L1_impl_sameInts) l (fun _=>true) (fun k=>(l,l,(l.length:Int),(k:Int),())) (.inl ()) (.inr (false,())) (fun k hk=>by
  simp only [L1_impl_sameInts,lt_cast hk,decide_true,cond_true,idx_run hk,ne_eq,not_true_eq_false,decide_false,cond_false,Option.map_some,wrapSucc (show k<9223372036854775807 by omega)]) (by
  simp only [L1_impl_sameInts,not_lt_self,decide_false,cond_false,Option.map_some])
 have h':loopF L1_impl_sameInts (l,l,(l.length:Int),(0:Int),())=_:=h
 have ht:(l.all fun _=>true)=true:=by simp
 simp only [impl_sameInts,ne_eq,not_true_eq_false,decide_false,cond_false,Option.bind_some,h',ht,cond_true,joinS_inl]
theorem word_same (a b:INS) (h1:a.1=b.1) (h2:a.2.1=b.2.1) (h3:a.2.2.1=b.2.2.1) (h4:a.2.2.2.1=b.2.2.2.1) (h5:a.2.2.2.2.2=b.2.2.2.2.2) (hl:b.2.2.2.2.2.2.length≤1048576):impl_sameWord a b=some (decide (a.2.2.2.2.1=b.2.2.2.2.1),()):=by
 have h6:a.2.2.2.2.2.1=b.2.2.2.2.2.1:=by rw [h5]
 have h7:a.2.2.2.2.2.2=b.2.2.2.2.2.2:=by rw [h5]
 unfold impl_sameWord
 rw [h7,ints_same _ hl]
 cases hd:decide (a.2.2.2.2.1=b.2.2.2.2.1)<;>simp only [h1,h2,h3,h4,h6,decide_true,cond_true,cond_false,joinP_some,Option.bind_some]
theorem sameI (a b:List INS) (h:Like a b) (hl:a.length≤1048576) (ha:∀ w∈b,(w:INS).2.2.2.2.2.2.length≤1048576):impl_sameWords a b=some (sameL a b,()):=by
 have hlen:=h.len
 have h1:=loopF_all (step:=L1_impl_sameWords) (List.range a.length) (sameB a b) (fun k=>(a,b,(a.length:Int),(k:Int),())) (.inl ()) (.inr (false,())) (fun k hk=>by
  have hk':k<a.length:=by simpa using hk
  have hkb:k<b.length:=by omega
  obtain⟨f1,f2,f3,f4,f5⟩:=h.f k hk' hkb
  simp only [L1_impl_sameWords,lt_cast hk',decide_true,cond_true,idx_run hk',idx_run hkb,rd_nat hk',rd_nat hkb,word_same _ _ f1 f2 f3 f4 f5 (ha _ (List.getElem_mem hkb)),Option.bind_some,List.getElem_range,sameB,wrapSucc (show k<9223372036854775807 by omega)]
  cases decide (a[k].2.2.2.2.1=b[k].2.2.2.2.1)<;>simp only [Bool.not_true,Bool.not_false,cond_true,cond_false,Option.map_some]) (by
  rw [List.length_range]
  simp only [L1_impl_sameWords,not_lt_self,decide_false,cond_false,Option.map_some])
 have h':loopF L1_impl_sameWords (a,b,(a.length:Int),(0:Int),())=_:=h1
 have hne:decide ((a.length:Int)≠(b.length:Int))=false:=by simp [hlen]
 simp only [impl_sameWords,hne,cond_false,Option.bind_some,h',sameL]
 cases (List.range a.length).all (sameB a b)<;>simp only [cond_true,cond_false,joinS_inl,joinS_inr]
theorem sameS (a b:CODE) (h:Like a.2.2.2 b.2.2.2) (hl:a.2.2.2.length≤1048576):spec_l30Same a b=some (sameL a.2.2.2 b.2.2.2,()):=by
 have hlen:=h.len
 have h1:=loopF_all (step:=L1_spec_l30Same) (List.range a.2.2.2.length) (sameB a.2.2.2 b.2.2.2) (fun k=>((k:Int),a,b,())) (.inl ()) (.inr (false,())) (fun k hk=>by
  have hk':k<a.2.2.2.length:=by simpa using hk
  have hkb:k<b.2.2.2.length:=by omega
  obtain⟨f1,_⟩:=h.f k hk' hkb
  have wk:=wrapSucc (show k<9223372036854775807 by omega)
  simp only [L1_spec_l30Same,lt_cast hk',decide_true,cond_true,idx_run hk',idx_run hkb,rd_nat hk',rd_nat hkb,f1,ne_eq,not_true_eq_false,decide_false,cond_false,joinP_some,List.getElem_range,sameB]
  by_cases e:a.2.2.2[k].2.2.2.2.1=b.2.2.2[k].2.2.2.2.1
  ·simp only [e,not_true_eq_false,decide_false,decide_true,cond_false,cond_true,Option.map_some,wk]
  ·simp only [e,not_false_eq_true,decide_false,decide_true,cond_false,cond_true,Option.map_some]) (by
  rw [List.length_range]
  simp only [L1_spec_l30Same,not_lt_self,decide_false,cond_false,Option.map_some])
 have h':loopF L1_spec_l30Same ((0:Int),a,b,())=_:=h1
 have hne:decide ((a.2.2.2.length:Int)≠(b.2.2.2.length:Int))=false:=by simp [hlen]
 simp only [spec_l30Same,hne,cond_false,Option.bind_some,h',sameL]
 cases (List.range a.2.2.2.length).all (sameB a.2.2.2 b.2.2.2)<;>simp only [cond_true,cond_false,joinS_inl,joinS_inr]
theorem diffI (a b:List INS) (h:a.length≠b.length):impl_sameWords a b=some (false,()):=by
 have hne:decide ((a.length:Int)≠(b.length:Int))=true:=by simp;omega
 simp only [impl_sameWords,hne,cond_true]
theorem diffS (a b:CODE) (h:a.2.2.2.length≠b.2.2.2.length):spec_l30Same a b=some (false,()):=by
 have hne:decide ((a.2.2.2.length:Int)≠(b.2.2.2.length:Int))=true:=by simp;omega
 simp only [spec_l30Same,hne,cond_true]
theorem like_val (c:CODE):Like (val c).2.2.2 c.2.2.2:=by
 cases hc:codeOk c
 ·have e:val c=c:=by unfold val;rw [hc];rfl
  rw [e];exact⟨rfl,fun i h h'=>⟨rfl,rfl,rfl,rfl,rfl⟩⟩
 ·have e:(val c).2.2.2=c.2.2.2.map (thr c.2.2.2):=by unfold val;rw [hc];rfl
  rw [e]
  refine⟨List.length_map ..,fun i h h'=>?_⟩
  rw [List.getElem_map]
  exact thr_fields _ _
theorem like_refl (a:List INS):Like a a:=⟨rfl,fun i h h'=>⟨rfl,rfl,rfl,rfl,rfl⟩⟩
theorem sameL_refl (a:List INS):sameL a a=true:=by
 unfold sameL
 rw [List.all_eq_true]
 intro i _
 simp [sameB]
abbrev zC:CODE:=((⟨#[]⟩:ByteArray),((0:Int),([],[])))
theorem stepS (o d:CODE) (ok b:Bool) (n:Nat) (hn:n<1000) (h1:spec_Threaded o=some (val o,())) (h2:spec_Trimmed (val o)=some (d,ok,())) (h3:ok=true→spec_l30Same d o=some (b,())):
 L1_spec_Tightened ((n:Int),zC,o,())=bif !ok || b then some (.inr (zC,o,())) else some (.inl (((n+1:Nat):Int),zC,d,())):=by
 unfold L1_spec_Tightened
 simp only [show(n:Int)<1000 by omega,decide_true,cond_true,h1,h2,Option.bind_some]
 cases ok
 ·simp only [Bool.not_false,cond_true,joinP_some,Option.map_some,Bool.true_or]
 ·simp only [Bool.not_true,cond_false,h3 rfl,Option.bind_some,joinP_some,Bool.false_or]
  cases b<;>simp only [cond_true,cond_false,Option.map_some,wrapSucc (show n<9223372036854775807 by omega)]
theorem stepI (o d:CODE) (ok b:Bool) (h1:impl_Threaded o=some (val o,())) (h2:impl_Trimmed (val o)=some (d,ok,())) (h3:ok=true→impl_sameWords d.2.2.2 o.2.2.2=some (b,())):
 L1_impl_Tightened (zC,o,())=bif !ok || b then some (.inr (o,())) else some (.inl (zC,d,())):=by
 unfold L1_impl_Tightened
 simp only [h1,h2,Option.bind_some]
 cases ok
 ·simp only [Bool.not_false,cond_true,joinP_some,Option.map_some,Bool.true_or]
 ·simp only [Bool.not_true,cond_false,h3 rfl,Option.bind_some,joinP_some,Bool.false_or]
  cases b<;>simp only [cond_true,cond_false,Option.map_some]
theorem loop:∀ (m n:Nat) (o:CODE),(codeOk (val o)=true→o.2.2.2.length≤m)→n+m+2≤1000→wt t_Code o≤1048576 →
 ∃ r:CODE,loopF L1_spec_Tightened ((n:Int),zC,o,())=some (zC,r,())∧loopF L1_impl_Tightened (zC,o,())=some (r,())∧wt t_Code r≤wt t_Code o
 | m,n,o,hm,hn,hw=>by
  have hf:=fine_of o hw
  have hv:wt t_Code (val o)≤1048576:=by rw [val_wt];exact hw
  have hfv:=fine_of (val o) hv
  cases hok:codeOk (val o)
  ·obtain⟨n1,n2⟩:=Trimmed.no (val o) hfv hok
   have s1:=stepS o (val o) false false n (by omega) (spec_ok o hf) n1 (fun h=>by cases h)
   have s2:=stepI o (val o) false false (impl_ok o hf) n2 (fun h=>by cases h)
   exact⟨o,loopF_inr s1,loopF_inr s2,Nat.le_refl _⟩
  ·obtain⟨R,t1,t2,t3,t4⟩:=Trimmed.yes (val o) hfv hok
   have hlv:=(like_val o).len
   have hm':=hm hok
   have hlow:(val o).2.2.2.length≤1048576:=hfv.s.w
   by_cases hlen:(Trimmed.trim R (val o)).2.2.2.length=(val o).2.2.2.length
   ·have e:=Trimmed.trim_same R (val o) (jmp_of hok) hlen
    rw [e] at t1 t2
    have s1:=stepS o (val o) true (sameL (val o).2.2.2 o.2.2.2) n (by omega) (spec_ok o hf) t1 (fun _=>sameS (val o) o (like_val o) hlow)
    have s2:=stepI o (val o) true (sameL (val o).2.2.2 o.2.2.2) (impl_ok o hf) t2 (fun _=>sameI _ _ (like_val o) hlow hf.a)
    cases hb:sameL (val o).2.2.2 o.2.2.2
    ·rw [hb] at s1 s2
     have q1:=spec_ok (val o) hfv
     have q2:=impl_ok (val o) hfv
     rw [val_idem] at q1 q2
     have u1:=stepS (val o) (val o) true true (n+1) (by omega) (by rw [val_idem];exact q1) (by rw [val_idem];exact t1) (fun _=>by rw [sameS (val o) (val o) (like_refl _) hlow,sameL_refl])
     have u2:=stepI (val o) (val o) true true (by rw [val_idem];exact q2) (by rw [val_idem];exact t2) (fun _=>by rw [sameI _ _ (like_refl _) hlow hfv.a,sameL_refl])
     exact⟨val o,by rw [loopF_inl s1];exact loopF_inr u1,by rw [loopF_inl s2];exact loopF_inr u2,by rw [val_wt];exact Nat.le_refl _⟩
    ·rw [hb] at s1 s2
     exact⟨o,loopF_inr s1,loopF_inr s2,Nat.le_refl _⟩
   ·have hlt:(Trimmed.trim R (val o)).2.2.2.length≠o.2.2.2.length:=by omega
    have s1:=stepS o _ true false n (by omega) (spec_ok o hf) t1 (fun _=>diffS _ _ hlt)
    have s2:=stepI o _ true false (impl_ok o hf) t2 (fun _=>diffI _ _ hlt)
    rw [val_wt] at t3
    match m,hm',hn with
    | 0,hm',_=>omega
    | m+1,hm',hn=>
     obtain⟨r,r1,r2,r3⟩:=loop m (n+1) (Trimmed.trim R (val o)) (fun _=>by omega) (by omega) (by omega)
     exact⟨r,by rw [loopF_inl s1];exact r1,by rw [loopF_inl s2];exact r2,by omega⟩
theorem both (c:CODE) (hw:wt t_Code c≤1048576):∃ r:CODE,spec_Tightened c=some (r,())∧impl_Tightened c=some (r,())∧wt t_Code r≤wt t_Code c:=by
 have hf:=fine_of c hw
 obtain⟨r,r1,r2,r3⟩:=loop 400 0 c (fun h=>by
  have hlv:=(like_val c).len
  simp only [codeOk,Bool.and_eq_true,decide_eq_true_eq] at h
  have:=h.2.2.2.1.2
  omega) (by omega) hw
 have r1':loopF L1_spec_Tightened ((0:Int),zC,c,())=_:=r1
 refine⟨r,?_,?_,r3⟩
 ·simp only [spec_Tightened,spec_copy c hf,Option.bind_some,r1',joinP_some]
 ·simp only [impl_Tightened,impl_copy c hf,Option.bind_some,r2]
end Tight
end Go.Proofs.YtmakhmoielhjeaaGreatDoorE
namespace Go.Proofs.YtmakhmoielhjeaaGreatDoorE
set_option linter.all false
set_option maxRecDepth 100000
namespace TightAll
open Classical in
noncomputable def tg (c:CODE):CODE:=if h:wt t_Code c≤1048576 then (Tight.both c h).choose else c
theorem tg_ok (c:CODE) (h:wt t_Code c≤1048576):spec_Tightened c=some (tg c,())∧impl_Tightened c=some (tg c,())∧wt t_Code (tg c)≤wt t_Code c:=by
 unfold tg
 rw [dif_pos h]
 exact(Tight.both c h).choose_spec
theorem wt_mem {l:List CODE} (h:(l.map (wt t_Code)).sum≤1048576) {k:Nat} (hk:k<l.length):wt t_Code l[k]≤1048576:=by
 have:=sum_mem (f:=wt t_Code) hk
 omega
theorem le72 {α:Type} {o:List CODE} {c:CODE} {K:Option α} (h:o.length≤1048576):(Cnd.le ((o.length+List.length [c]) * 72) 140737488355328).run K=K:=
 le_run (by simp only [List.length_cons,List.length_nil];omega)
theorem allS (l:List CODE) (hl:l.length≤1048576) (hw:(l.map (wt t_Code)).sum≤1048576):spec_TightAll l=some (l.map tg,()):=by
 have h:=loopF_push (step:=L1_spec_TightAll) l tg (fun k o=>(l,o,(k:Int),())) (fun o=>(o,())) (fun k hk o ho=>by
  simp only [L1_spec_TightAll,lt_cast hk,decide_true,cond_true,idx_run hk,rd_nat hk,(tg_ok _ (wt_mem hw hk)).1,Option.bind_some,le72 (show o.length≤1048576 by omega),Option.map_some,wrapSucc (show k<9223372036854775807 by omega)]) (fun o ho=>by
  simp only [L1_spec_TightAll,not_lt_self,decide_false,cond_false,Option.map_some])
 have h':loopF L1_spec_TightAll (l,[],(0:Int),())=_:=h
 simp only [spec_TightAll,Option.bind_some,h',joinP_some]
theorem allI (l:List CODE) (hl:l.length≤1048576) (hw:(l.map (wt t_Code)).sum≤1048576):impl_TightAll l=some (l.map tg,()):=by
 have h:=loopF_push (step:=L1_impl_TightAll) l tg (fun k o=>(o,l,(l.length:Int),(k:Int),())) (fun o=>(o,())) (fun k hk o ho=>by
  simp only [L1_impl_TightAll,lt_cast hk,decide_true,cond_true,idx_run hk,rd_nat hk,(tg_ok _ (wt_mem hw hk)).2.1,Option.bind_some,le72 (show o.length≤1048576 by omega),Option.map_some,wrapSucc (show k<9223372036854775807 by omega)]) (fun o ho=>by
  simp only [L1_impl_TightAll,not_lt_self,decide_false,cond_false,Option.map_some])
 have h':loopF L1_impl_TightAll ([],l,(l.length:Int),(0:Int),())=_:=h
 simp only [impl_TightAll,Option.bind_some,h',joinP_some]
end TightAll
end Go.Proofs.YtmakhmoielhjeaaGreatDoorE
namespace Go.Proofs.YtmakhmoielhjeaaGreatDoorE
set_option linter.all false
set_option maxRecDepth 100000
theorem sum_zero {α:Type} (f:α→Nat) (hf:∀ x,f x=0) (l:List α):(l.map f).sum=0:=by
 induction l with
 | nil=>rfl
 | cons x l ih=>rw [List.map_cons,List.sum_cons,hf,ih]
theorem sum_le_mul {α:Type} (f:α→Nat) (b:Nat):∀ l:List α,(∀ x∈l,f x≤b)→(l.map f).sum≤l.length * b
 | [],_=>Nat.zero_le _
 | x::l,h=>by
  have h1:=h x (List.mem_cons_self ..)
  have h2:=sum_le_mul f b l fun y hy=>h y (List.mem_cons_of_mem _ hy)
  rw [List.map_cons,List.sum_cons,List.length_cons,Nat.succ_mul]
  omega
theorem drc_wt {c:CODE} (h:DrC 1 c):wt t_Code c≤100000:=by
 rw [wt_code]
 have h0:=sum_zero (wt (.int .i64)) (fun _=>rfl) c.2.2.1
 have h1:=sum_le_mul (wt t_Ins) 12 c.2.2.2 fun w hw=>by
  have:=h.a w hw
  have h0:=sum_zero (wt (.int .i64)) (fun _=>rfl) w.2.2.2.2.2.2
  rw [wt_ins]
  omega
 have:=h.nm
 have:=h.lo
 have:=h.wo
 omega
theorem sameI (l:List Int) (hl:l.length≤1048576):laws_sameInts l l=some (true,()):=by
 have h:=loopF_all (step:=L1_laws_sameInts) l (fun _=>true) (fun k=>(l,l,(k:Int),())) (.inl ()) (.inr (false,())) (fun k hk=>by
  simp only [L1_laws_sameInts,lt_cast hk,decide_true,cond_true,idx_run hk,ne_eq,not_true_eq_false,decide_false,cond_false,Option.map_some,wrapSucc (show k<9223372036854775807 by omega)]) (by
  simp only [L1_laws_sameInts,not_lt_self,decide_false,cond_false,Option.map_some])
 have h':loopF L1_laws_sameInts (l,l,(0:Int),())=_:=h
 simp only [laws_sameInts,ne_eq,not_true_eq_false,decide_false,cond_false,Option.bind_some,h']
 have:(l.all fun _=>true)=true:=by simp
 rw [this];rfl
theorem sameC (c:CODE) (h:FineC c):laws_sameCode c c=some (true,()):=by
 have hl:=h.s.w
 have h':loopF L1_laws_sameCode ((0:Int),c,c,())=_:=loopF_all (step:=L1_laws_sameCode) c.2.2.2 (fun _=>true) (fun k=>((k:Int),c,c,())) (.inl ()) (.inr (false,())) (fun k hk=>by
  simp only [L1_laws_sameCode,lt_cast hk,decide_true,cond_true,idx_run hk,rd_nat hk,ne_eq,not_true_eq_false,decide_false,cond_false,sameI _ (h.a _ (List.getElem_mem hk)),Option.bind_some,Bool.not_true,joinP_some,Option.map_some,wrapSucc (show k<9223372036854775807 by omega)]) (by
  simp only [L1_laws_sameCode,not_lt_self,decide_false,cond_false,Option.map_some])
 have:(c.2.2.2.all fun _=>true)=true:=by simp
 simp only [laws_sameCode,ne_eq,not_true_eq_false,decide_false,cond_false,sameI _ h.s.l,Option.bind_some,Bool.not_true,joinP_some,h',this,cond_true,joinS_inl]
theorem sameCs (l:List CODE) (hl:l.length≤1048576) (hf:∀ c∈l,FineC c):laws_sameCodes l l=some (true,()):=by
 have h':loopF L1_laws_sameCodes (l,l,(0:Int),())=_:=loopF_all (step:=L1_laws_sameCodes) l (fun _=>true) (fun k=>(l,l,(k:Int),())) (.inl ()) (.inr (false,())) (fun k hk=>by
  simp only [L1_laws_sameCodes,lt_cast hk,decide_true,cond_true,idx_run hk,rd_nat hk,sameC _ (hf _ (List.getElem_mem hk)),Option.bind_some,Bool.not_true,cond_false,Option.map_some,wrapSucc (show k<9223372036854775807 by omega)]) (by
  simp only [L1_laws_sameCodes,not_lt_self,decide_false,cond_false,Option.map_some])
 have:(l.all fun _=>true)=true:=by simp
 simp only [laws_sameCodes,ne_eq,not_true_eq_false,decide_false,cond_false,Option.bind_some,h',this,cond_true,joinS_inl]
end Go.Proofs.YtmakhmoielhjeaaGreatDoorE
namespace Go.Proofs.YtmakhmoielhjeaaGreatDoorE
set_option linter.all false
namespace JumpsIn
def cnt (l:List (Ty.D t_Ins)):Nat:=l.countP fun w=>decide (w.1=18)
theorem cnt_succ {l:List (Ty.D t_Ins)} {k:Nat} (h:k<l.length):cnt (l.take (k+1))=cnt (l.take k)+if l[k].1=18 then 1 else 0:=by
 rw [List.take_succ_eq_append_getElem h]
 simp only [cnt,List.countP_append,List.countP_singleton,decide_eq_true_eq]
theorem cnt_le (l:List (Ty.D t_Ins)):cnt l≤l.length:=List.countP_le_length
theorem len_le (c:Ty.D t_Code) (h:wt t_Code c≤big):c.2.2.2.length≤1048576:=by
 have hw:wt t_Code c=c.1.size+(0+(wt (.list 0 (.int .i64)) c.2.2.1+(c.2.2.2.length+(List.map (wt t_Ins) c.2.2.2).sum))):=rfl
 have:big=1048576:=rfl
 omega
theorem impl_ok (c:Ty.D t_Code) (h:wt t_Code c≤big):impl_JumpsIn c=some ((cnt c.2.2.2:Int),()):=by
 have hl:=len_le c h
 simp only [impl_JumpsIn,Option.bind_some]
 rw [show((0:Int),c.2.2.2,(c.2.2.2.length:Int),(0:Int),())=(fun k:Nat=>((cnt (c.2.2.2.take k):Int),c.2.2.2,(c.2.2.2.length:Int),(k:Int),())) 0 by simp [cnt]]
 rw [loopF_up (fun k:Nat=>((cnt (c.2.2.2.take k):Int),c.2.2.2,(c.2.2.2.length:Int),(k:Int),())) c.2.2.2.length ((cnt c.2.2.2:Int),()) (fun k hk=>?_) ?_]
 ·rfl
 ·simp [L1_impl_JumpsIn]
 ·have hc:=cnt_le (c.2.2.2.take k)
  rw [List.length_take] at hc
  simp only [L1_impl_JumpsIn,show((k:Int)<(c.2.2.2.length:Int)) by omega,decide_true,cond_true,idx_run hk,rd_nat hk,cnt_succ hk]
  by_cases e:(c.2.2.2[k]).1=18
  ·simp only [e,decide_true,cond_true,joinP_some,if_true,Option.map_some,wrapSucc (show k<9223372036854775807 by omega),wrapSucc (show cnt (c.2.2.2.take k)<9223372036854775807 by omega)]
  ·simp only [e,decide_false,cond_false,joinP_some,if_false,Option.map_some,wrapSucc (show k<9223372036854775807 by omega),Nat.add_zero]
theorem spec_ok (c:Ty.D t_Code) (h:wt t_Code c≤big):spec_JumpsIn c=some ((cnt c.2.2.2:Int),()):=by
 have hl:=len_le c h
 simp only [spec_JumpsIn,Option.bind_some]
 rw [show((0:Int),(0:Int),c,())=(fun k:Nat=>((cnt (c.2.2.2.take k):Int),(k:Int),c,())) 0 by simp [cnt]]
 rw [loopF_up (fun k:Nat=>((cnt (c.2.2.2.take k):Int),(k:Int),c,())) c.2.2.2.length ((cnt c.2.2.2:Int),()) (fun k hk=>?_) ?_]
 ·rfl
 ·simp [L1_spec_JumpsIn]
 ·have hc:=cnt_le (c.2.2.2.take k)
  rw [List.length_take] at hc
  simp only [L1_spec_JumpsIn,show((k:Int)<(c.2.2.2.length:Int)) by omega,decide_true,cond_true,idx_run hk,rd_nat hk,cnt_succ hk]
  by_cases e:(c.2.2.2[k]).1=18
  ·simp only [e,decide_true,cond_true,joinP_some,if_true,Option.map_some,wrapSucc (show k<9223372036854775807 by omega),wrapSucc (show cnt (c.2.2.2.take k)<9223372036854775807 by omega)]
  ·simp only [e,decide_false,cond_false,joinP_some,if_false,Option.map_some,wrapSucc (show k<9223372036854775807 by omega),Nat.add_zero]
end JumpsIn
end Go.Proofs.YtmakhmoielhjeaaGreatDoorE
namespace Go.Proofs.YtmakhmoielhjeaaGreatDoorE
set_option linter.all false
set_option maxRecDepth 100000
namespace X
theorem trimmed_wp (code:List Int) (h:code.length≤1048576):wp (spec_DrawTrimmed code) fun y=>DrC 1 y.1:=by
 unfold spec_DrawTrimmed
 exact wp_bind (wp_mono (new_wp code h) fun y1 hy1=>wp_bind (wp_mono (any29_wp _ hy1) fun y2 hy2=>wp_some hy2.1))
theorem tightened_wp (code:List Int) (h:code.length≤1048576):wp (spec_DrawTightened code) fun y=>DrC 1 y.1:=by
 unfold spec_DrawTightened
 exact wp_bind (wp_mono (new_wp code h) fun y1 hy1=>wp_bind (wp_mono (any29_wp _ hy1) fun y2 hy2=>wp_some hy2.1))
theorem tightAll_wp (code:List Int) (h:code.length≤1048576):wp (spec_DrawTightAll code) fun y=>y.1.length≤2∧∀ c∈y.1,DrC 1 c:=by
 unfold spec_DrawTightAll
 refine wp_bind (wp_mono (new_wp code h) fun y1 hy1=>wp_joinP (wp_bind (wp_some (wp_mono (wp_loop (fun x:SL1_spec_DrawTightAll=>0≤x.2.1∧x.2.1≤2∧(x.1.length:Int)=x.2.1∧COk x.2.2.1∧∀ c∈x.1,DrC 1 c) (fun x=>(3 - x.2.1).toNat) (Q:=fun x:List CODE×Unit=>x.1.length≤2∧∀ c∈x.1,DrC 1 c) (fun x hx=>?_) ⟨by simp,by simp,rfl,hy1,by simp⟩) fun x hx=>wp_some hx))))
 obtain⟨b1,b2,b3,_⟩:=x
 simp only at hx
 obtain⟨b20,b22,hlen,hc,hall⟩:=hx
 unfold L1_spec_DrawTightAll
 simp only
 refine wp_bind (wp_mono (below_wp _ _ hc) fun y3 hy3=>wp_bif (fun hb=>?_) fun _=>wp_map (wp_some (wp_inr ⟨by simp only;omega,hall⟩)))
 have hb':=of_decide_eq_true hb
 have h3:=hy3.2.1 (by omega)
 refine wp_bind (wp_mono (any29_wp _ hy3.2.2.2) fun y4 hy4=>wp_run (show(_:Nat)≤_ by simp only [List.length_singleton];omega) (wp_map (wp_some (wp_inl ?_))))
 rw [wrap64 (by omega) (by omega)]
 refine⟨⟨by simp only;omega,by simp only;omega,by simp only [List.length_append,List.length_singleton];omega,hy4.2,fun c hc=>?_⟩,by simp only;omega⟩
 rcases List.mem_append.1 hc with hc | hc
 ·exact hall c hc
 ·rw [List.mem_singleton.1 hc];exact hy4.1
theorem pure (code:List Int) {e:Nat} (hb:Bnd (.list e (.int .u8)) code):laws_FnTightsTold code=some (true,()):=by
 unfold laws_FnTightsTold laws_big
 rw [Option.bind_some]
 by_cases hbig:(1048576:Int)<(code.length:Int)
 ·rw [decide_eq_true hbig];rfl
 rw [decide_eq_false hbig]
 have h:code.length≤1048576:=by omega
 obtain⟨⟨c,_⟩,e1,hc⟩:=trimmed_wp code h
 obtain⟨⟨d,_⟩,e2,hd⟩:=tightened_wp code h
 obtain⟨⟨l,_⟩,e3,hl1,hl2⟩:=tightAll_wp code h
 simp only at hc hd hl1 hl2
 have fc:=hc.fine
 have wc:=drc_wt hc
 have wd:=drc_wt hd
 have hbg:big=1048576:=rfl
 obtain⟨t,b,tS,tI,tw⟩:=Trimmed.both c fc
 obtain⟨r,rS,rI,rw'⟩:=Tight.both d (by omega)
 have hsum:(l.map (wt t_Code)).sum≤1048576:=by
  have:=sum_le_mul (wt t_Code) 100000 l fun c hc=>drc_wt (hl2 c hc)
  have:l.length * 100000≤2 * 100000:=Nat.mul_le_mul_right _ hl1
  omega
 have aS:=TightAll.allS l (by omega) hsum
 have aI:=TightAll.allI l (by omega) hsum
 have s1:=sameC (Threaded.val c) (fine_of _ (by rw [Threaded.val_wt];omega))
 have s2:=sameC t (fine_of _ (by omega))
 have s3:=sameC r (fine_of _ (by omega))
 have s4:=sameCs (l.map TightAll.tg) (by rw [List.length_map];omega) fun x hx=>by
  obtain⟨y,hy,rfl⟩:=List.mem_map.1 hx
  have:=drc_wt (hl2 y hy)
  have:=(TightAll.tg_ok y (by omega)).2.2
  exact fine_of _ (by omega)
 have jS:=JumpsIn.spec_ok c (by omega)
 have jI:=JumpsIn.impl_ok c (by omega)
 simp only [cond_false,e1,e2,e3,Option.bind_some,tI,tS,Threaded.impl_ok c fc,Threaded.spec_ok c fc,s1,s2,s3,s4,rS,rI,aS,aI,jS,jI,cond_true,beq_self_eq_true,decide_true,joinP_some]
end X
end Go.Proofs.YtmakhmoielhjeaaGreatDoorE

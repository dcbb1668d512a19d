/- The engine, texts K3 K3b K3c K3d K3e K3f K3g K4 K5 L1: how code is reckoned as Lean functions, and that it is sound. No condition. -/
import Derived.Test.YtmakhmoielhjeaaGreatDoorPackD
import Derived.Orders
set_option linter.all false
namespace Go.Proofs.YtmakhmoielhjeaaGreatDoorE
def AV.hits (r:Nat):AV→Bool
 | .snp _ _ deps src=>deps.contains r || (match src with | Option.some p=>p.root == r | Option.none=>false)
 | .ptr p=>p.root == r
 | .rp _ _ deps=>deps.contains r
 | .pp _ _ _ r'=>r' == r
 | .cp s=>2 * s == r
 | .mp k h=>2 * k == r || 2 * h == r
 | .mr _ _ deps h=>deps.contains r || 2 * h == r
 | .hs _ _ h=>2 * h == r
 | .hc k _=>2 * k == r
 | .lk k _ h _=>2 * k == r || 2 * h == r || 2 * k+1 == r
 | .ap _ _ _ p=>p.root == r
 | _=>false
theorem AV.hits_kill {r:Nat} {av:AV} (h:av.hits r=false):av.kill r=av:=by
 cases av with
 | snp t x deps src=>
  simp only [AV.hits,Bool.or_eq_false_iff] at h;simp only [AV.kill];rw [if_neg]
  rintro (h1 | h1)
  ·have:=h.1;simp at this;exact this h1
  ·cases src with
   | none=>simp at h1
   | some p=>
    simp at h1;have:=h.2
    simp at this;exact this h1
 | ptr p=>
  simp only [AV.hits,beq_eq_false_iff_ne] at h;simp only [AV.kill];rw [if_neg (fun h1=>h h1.1)]
 | rp t x deps=>
  simp only [AV.hits] at h;simp only [AV.kill];rw [if_neg];intro h1;simp at h;exact h h1
 | pp t m x r'=>
  simp only [AV.hits,beq_eq_false_iff_ne] at h;simp only [AV.kill];rw [if_neg h]
 | cp s=>
  simp only [AV.hits,beq_eq_false_iff_ne] at h;simp only [AV.kill];rw [if_neg h]
 | mr t x deps k=>
  simp only [AV.hits,Bool.or_eq_false_iff] at h;simp only [AV.kill];rw [if_neg];intro h1;have:=h.1;simp at this;exact this h1
 | lk k o k' n=>
  simp only [AV.hits,Bool.or_eq_false_iff,beq_eq_false_iff_ne] at h;simp only [AV.kill];rw [if_neg h.2]
 | ap e t x p=>
  simp only [AV.hits,beq_eq_false_iff_ne] at h;simp only [AV.kill];rw [if_neg h]
 | _=>all_goals rfl
theorem S.ext2 {σ σ':S} (hl:σ.sl.length=σ'.sl.length) (hs:∀ i,σ.slot i=σ'.slot i) (hbl:σ.bx.length=σ'.bx.length) (hb:∀ k,σ.box k=σ'.box k) (hk:σ.lk=σ'.lk):σ=σ':=by
 obtain⟨sl,bx,lk⟩:=σ;obtain⟨sl',bx',lk'⟩:=σ';simp only at hl hbl hk;subst hk;have e1:sl=sl':=by
  apply List.ext_getElem hl
  intro i h1 h2;have:=hs i
  simp only [S.slot,List.getD_eq_getElem?_getD,List.getElem?_eq_getElem h1,List.getElem?_eq_getElem h2,Option.getD_some] at this;exact this
 have e2:bx=bx':=by
  apply List.ext_getElem hbl
  intro i h1 h2;have:=hb i
  simp only [S.box,List.getD_eq_getElem?_getD,List.getElem?_eq_getElem h1,List.getElem?_eq_getElem h2,Option.getD_some] at this;exact this
 rw [e1,e2]
def AV.hitH (r:Nat) (av:AV):Bool:=av.hits r || (match av with
 | .hdr k=>2 * k+1 == r
 | .vw k _=>2 * k+1 == r
 | _=>false)
def AV.hitR (r:Nat):AV→Bool
 | .cp _=>false
 | av=>av.hitH r
theorem AV.hk_hitR {k:Nat} {av:AV} (h:av.hk=some k):av.hitR (2 * k+1)=true:=by
 cases av<;>simp_all [AV.hitR,AV.hitH]
theorem AV.hk_hitH {k:Nat} {av:AV} (h:av.hk=some k):av.hitH (2 * k+1)=true:=by
 cases av<;>simp_all [AV.hitH]
theorem AV.mb_hitH {k:Nat} {av:AV} (h:k∈av.mb):av.hitH (2 * k)=true:=by
 cases av<;>simp only [AV.mb,List.not_mem_nil,List.mem_cons,or_false] at h
 case mp a b=>rcases h with rfl | rfl<;>simp [AV.hitH,AV.hits]
 case mr t x deps b=>subst h;simp [AV.hitH,AV.hits]
 case hs t x b=>subst h;simp [AV.hitH,AV.hits]
 case hc b n=>subst h;simp [AV.hitH,AV.hits]
 case lk a o b n=>rcases h with rfl | rfl<;>simp [AV.hitH,AV.hits]
theorem AV.hitH_kill {r:Nat} {av:AV} (h:av.hitH r=false):av.kill r=av:=by
 simp only [AV.hitH,Bool.or_eq_false_iff] at h;exact AV.hits_kill h.1
theorem SlotR.roots {G:Gh} {σ σ':S} {tmps:Array Value} {w:World} {i:Nat} {av:AV} {v:Value} (hs:∀ j,av.hitR (2 * j)=true→∀ d,σ'.slot j=.dat d→σ.slot j=.dat d) (hb:∀ k,av.hitR (2 * k+1)=true→σ'.box k=.none∨σ'.box k=σ.box k)
 (hh:∀ k,av.hk=some k→σ'.box k=σ.box k) (h:SlotR G σ tmps w i av v):SlotR G σ' tmps w i av v:=by
 have key:∀ r,av.hitR r=true→∀ d L cs,RootR G σ' tmps w r d L cs→RootR G σ tmps w r d L cs:=by
  intro r hr d L cs hroot;cases hroot with
  | slot j d cs hs' hv=>
   exact .slot j d cs (hs j hr d hs') hv
  | box k d cs hb' hl hc=>
   rcases hb k hr with e | e
   ·rw [e] at hb';cases hb'
   ·exact .box k d cs (by rw [← e];exact hb') hl hc
  | hdr k d hb'=>
   rcases hb k hr with e | e
   ·rw [e] at hb';cases hb'
   ·exact .hdr k d (by rw [← e];exact hb')
 cases av with
 | none=>trivial
 | dat d=>exact h
 | snp t x deps src=>
  obtain⟨cs,q1,q2,q3⟩:=h;exact⟨cs,q1,q2,fun p hp d L cr hr=>q3 p hp d L cr (key p.root (by subst hp;simp [AV.hitR,AV.hitH,AV.hits]) _ _ _ hr)⟩
 | ptr p=>exact fun d L cr hr=>h d L cr (key p.root (by simp [AV.hitR,AV.hitH,AV.hits]) _ _ _ hr)
 | rp t x deps=>exact h
 | nilS=>exact h
 | hdr k=>exact⟨h.1,by rw [hh k rfl];exact h.2⟩
 | vw k π=>exact⟨h.1,by rw [hh k rfl];exact h.2⟩
 | tup vs=>exact h
 | fn f=>exact h
 | que e t m n x=>exact h
 | pp t m x r=>exact h
 | cp s=>exact h
 | mp k k2=>exact h
 | mr t x deps k=>exact h
 | hs t x k=>exact h
 | hc k n=>exact h
 | lk k o k2 n=>exact h
 | ap e t x p=>exact h
theorem Rel.hide2 {w0:World} {G0:Gh} {np:Nat} {σ σ2:S} {a:Act} {w:World} {G:Gh} (h:Rel w0 G0 np σ a w G) (hl:σ2.sl.length=σ.sl.length) (hs:∀ i,σ2.slot i=.none∨σ2.slot i=σ.slot i) (hb:∀ k,σ2.box k=.none∨σ2.box k=σ.box k)
 (hh:∀ i k,(σ2.slot i).hk=some k→σ2.box k=σ.box k):Rel w0 G0 np σ2 a w G:=by
 refine { os:=h.os,tape:=h.tape,output:=h.output,size:=h.size,live:=h.live,keep:=h.keep,frn:=h.frn,ext:=h.ext,slots:=fun i=>?_,boxes:=fun k bx hb'=>?_,tmps:=hl.trans h.tmps,defers:=h.defers }
 ·rcases hs i with e | e
  ·rw [e];trivial
  ·have:=h.slots i
   rw [← e] at this;exact SlotR.roots (fun j _ d hd=>by
    rcases hs j with e2 | e2
    ·rw [e2] at hd;cases hd
    ·rw [← e2];exact hd) (fun k _=>hb k) (fun k hk=>hh i k hk) this
 ·rcases hb k with e | e
  ·rw [e] at hb';cases hb'
  ·exact h.boxes k bx (by rw [← e];exact hb')
theorem Rel.restore {w0 w w':World} {G0 G G':Gh} {np:Nat} {σ τh σ':S} {a:Act} {dst:Option Nat} {v:Value} {rs:List Nat} (h:Rel w0 G0 np σ a w G) (h':Rel w0 G0 np τh (a.put dst v) w' G') (hf:Ft w w' G G' rs)
 (hl:σ'.sl.length=σ.sl.length) (hdl:∀ d,dst=some d→d<σ.sl.length) (hdr:∀ d,dst=some d→2 * d∈rs)
 (hs:∀ i,(σ'.slot i=τh.slot i∧((σ'.slot i).isDat=true→2 * i∈rs)∧(∀ j,(σ'.slot i).hitR (2 * j)=true→∀ d,σ'.slot j=.dat d→τh.slot j=.dat d)∧(∀ k,(σ'.slot i).hitR (2 * k+1)=true→σ'.box k=τh.box k)) ∨
  (σ'.slot i=σ.slot i∧dst≠some i∧2 * i ∉ rs∧∀ r∈rs,(σ.slot i).hitH r=false))
 (hb:∀ k,(σ'.box k=τh.box k∧2 * k+1∈rs)∨(σ'.box k=σ.box k∧2 * k+1 ∉ rs)):Rel w0 G0 np σ' (a.put dst v) w' G':=by
 have htm:∀ i,dst≠some i→(a.put dst v).tmps.getD i undef=a.tmps.getD i undef:=fun i hi=>by
  cases dst with
  | none=>rfl
  | some d=>
   rw [Act.put_getD _ _ _ _ (by rw [← h.tmps];exact hdl d rfl),if_neg (fun e=>hi (by rw [e]))]
 have hsz:(a.put dst v).tmps.size=a.tmps.size:=by cases dst<;>simp [Act.put]
 have hdf:(a.put dst v).defers=a.defers:=by cases dst<;>rfl
 have hright:∀ i,(σ'.slot i=τh.slot i∧((σ'.slot i).isDat=true→2 * i∈rs)∧(∀ j,(σ'.slot i).hitR (2 * j)=true→∀ d,σ'.slot j=.dat d→τh.slot j=.dat d)∧(∀ k,(σ'.slot i).hitR (2 * k+1)=true→σ'.box k=τh.box k)) →
  SlotR G' σ' (a.put dst v).tmps w' i (σ'.slot i) ((a.put dst v).tmps.getD i undef)∧((σ'.slot i).isDat=true→2 * i∈rs):=by
  rintro i ⟨e,hd,hj,hk⟩
  refine⟨?_,hd⟩
  have:=h'.slots i
  rw [← e] at this;exact SlotR.roots (fun j hh=>hj j hh) (fun k hh=>.inr (hk k hh)) (fun k hh=>hk k (AV.hk_hitR hh)) this
 refine h.step rs hf.chg hf.os hf.tape hf.output h'.live (fun k hk=>?_) (by rw [hl,hsz];exact h.tmps) (by rw [hdf];exact h.defers) (fun i=>?_) (fun k bx hbx=>?_) (fun k b d' hk hbx=>?_) (fun i k hi=>?_) (htm:=fun i hi=>htm i (fun e=>hi (hdr i e))) (hmp:=fun i k e1 e2 hn=>?_)
 ·obtain⟨a1,a2,a3,a4⟩:=h.ext k hk;obtain⟨b1,b2,b3,b4⟩:=h'.ext k hk;exact⟨b1.trans a1.symm,b2.trans a2.symm,b3.trans a3.symm,b4.trans a4.symm⟩
 ·rcases hs i with hr | ⟨e,h1,h2,h3⟩
  ·exact .inr (hright i hr)
  ·exact .inl ⟨⟨.inr ⟨e,fun r hr=>AV.hitH_kill (h3 r hr),fun _=>h2⟩⟩,htm i h1⟩
 ·rcases hb k with⟨e,h1⟩ | ⟨e,h1⟩
  ·rw [e] at hbx;exact .inr ⟨h'.boxes k bx hbx,h1⟩
  ·rw [e] at hbx;exact .inl ⟨hbx,h1,hf.gh k (.inl h1)⟩
 ·right;intro i hK hn;rcases hs i with hr | ⟨e,h1,h2,h3⟩
  ·exact absurd (hright i hr) hn
  ·rw [e];have this0:=h3 _ hk
   have this:=this0
   simp only [AV.hitH,Bool.or_eq_false_iff] at this;refine⟨fun p hp hpr=>?_,fun hh=>?_⟩
   ·rw [hp] at this;simp [AV.hits,hpr] at this
   ·rw [AV.hk_hitH hh] at this0;cases this0
 ·rcases hs i with⟨e,h1,h2,h3⟩ | ⟨e,h1,h2,h3⟩
  ·have hk:=h3 k (AV.hk_hitR hi)
   have:=h'.slots i
   rw [← e] at this;rw [hk];exact this.hk hi
  ·have:=h.slots i
   rw [← e] at this;rcases hb k with⟨_,h4⟩ | ⟨e2,_⟩
   ·have:=h3 _ h4
    rw [← e,AV.hk_hitH hi] at this;cases this
   ·rw [e2];exact this.hk hi
 ·rcases hs i with hr | ⟨e,h1,h2,h3⟩
  ·exact absurd (hright i hr) hn
  ·have f1:2 * k ∉ rs:=fun hm=>by
    have:=h3 _ hm
    rw [AV.mb_hitH e2] at this;cases this
   obtain⟨b1,b2,b3,_⟩:=hf.gh k (.inr f1);exact⟨b1,b3,b2⟩
theorem Cnd.run_bind {α β:Type} (c:Cnd) (k:Option α) (f:α→Option β):(c.run k).bind f=c.run (k.bind f):=by
 induction c generalizing k with
 | both a b iha ihb=>simp only [Cnd.run];rw [iha,ihb]
 | _=>all_goals (simp only [Cnd.run];try (split<;>rfl))
theorem Ly {α β:Type} (σ:S) (chk:List Nat→List Nat→Bool) (cal:Cal) (args:List Operand) (d:Nat) (k:S→List Nat→Option α) (k':α→Option β):(Jl σ chk cal args d k).bind k'=Jl σ chk cal args d fun σ rs=>(k σ rs).bind k':=by
 unfold Jl;split
 ·split
  ·rw [Option.bind_assoc]
   congr 1
   funext y
   split
   ·split
    ·split<;>rfl
    ·rfl
   ·rfl
  ·rfl
 ·rfl
theorem Vh {α β:Type} (σ:S) (cal:Cal) (args:List Operand) (d:Nat) (k:S→List Nat→Option α) (k':α→Option β):(LA σ cal args d k).bind k'=LA σ cal args d fun σ rs=>(k σ rs).bind k':=by
 unfold LA;simp only [S.frc_eq];split
 ·split
  ·split
   ·rw [Ly]
   ·rfl
  ·rfl
 ·rfl
theorem Vi {α β:Type} (np:Nat) (σ:S) (cal:Cal) (args:List Operand) (d:Nat) (k:S→List Nat→Option α) (k':α→Option β):(LB np σ cal args d k).bind k'=LB np σ cal args d fun σ rs=>(k σ rs).bind k':=by
 unfold LB;split
 ·split
  ·rw [Option.bind_assoc]
   congr 1
   funext y
   split<;>rfl
  ·rfl
 ·rfl
theorem Nr {α β:Type} (np:Nat) (σ:S) (cal:Cal) (args:List Operand) (d:Nat) (k:S→List Nat→Option α) (k':α→Option β):(Kz np σ cal args d k).bind k'=Kz np σ cal args d fun σ rs=>(k σ rs).bind k':=by
 unfold Kz;split
 ·rw [Ly]
 ·rw [Vi]
 ·split
  ·rw [Vh]
  ·rfl
theorem MZ {α:Type} (τ:List TE) (Φ:List Cal) (np:Nat) (hh:OH) (σ0:S) (o:Oper) (k:S→List Nat→Option α):HW τ Φ np hh σ0 o k=(HW τ Φ np hh σ0 o fun σ rs=>some (σ,rs)).bind fun p=>k p.1 p.2:=by
 unfold HW;simp only [S.share_eq];split
 ·rfl
 ·split
  ·rw [Cnd.run_bind];rfl
  ·split
   ·split
    ·rw [Cnd.run_bind];rfl
    ·rfl
   ·split
    ·split
     ·split
      ·rw [Nr];rfl
      ·rfl
     ·rfl
    ·rfl
structure Sf (σ σ':S) (dst:Option Nat) (rs:List Nat):Prop where
 dat:∀ s d,σ.slot s=.dat d→dst≠some s→2 * s ∉ rs→σ'.slot s=.dat d
 box:∀ k,2 * k+1 ∉ rs→σ'.box k=σ.box k
 len:σ'.sl.length=σ.sl.length
theorem Sf.refl (σ:S) (dst:Option Nat) (rs:List Nat):Sf σ σ dst rs:=⟨fun _ _ h _ _=>h,fun _ _=>rfl,rfl⟩
theorem Sf.trans {σ σ1 σ2:S} {dst:Option Nat} {rs rs':List Nat} (h:Sf σ σ1 none rs) (h':Sf σ1 σ2 dst rs'):Sf σ σ2 dst (rs++rs') where
 dat s d h1 h2 h3:=by
  simp only [List.mem_append,not_or] at h3;exact h'.dat s d (h.dat s d h1 (by simp) h3.1) h2 h3.2
 box k hk:=by
  simp only [List.mem_append,not_or] at hk;rw [h'.box k hk.2,h.box k hk.1]
 len:=h'.len.trans h.len
theorem S.setRoot_slot' (σ:S) {r s:Nat} (d:Dat) (h:r≠2 * s):(σ.setRoot r d).slot s=σ.slot s:=by
 unfold S.setRoot;split
 ·rw [S.setSlot_slot,if_neg (fun hh=>h (by omega))]
 ·split<;>rfl
theorem S.setRoot_box' (σ:S) {r k:Nat} (d:Dat) (h:r≠2 * k+1):(σ.setRoot r d).box k=σ.box k:=by
 unfold S.setRoot;split
 ·rfl
 ·split
  ·rw [S.setBox_box,if_neg (fun hh=>h (by omega))]
  ·rfl
theorem S.grab_sf {σ σ':S} {i:Nat} (h:σ.grab i=some σ'):Sf σ σ' none (σ.grabR i):=by
 unfold S.grab at h;split at h
 ·rename_i t x deps p hs;have hr:σ.grabR i=[p.root,2 * i]:=by simp only [S.grabR,hs]
  rw [hr];split at h
  ·split at h
   ·split at h
    ·obtain⟨rfl⟩:=h;refine⟨fun s d h1 _ h3=>?_,fun k hk=>?_,by rw [S.setSlot_len,S.setRoot_len,S.killA_len]⟩
     ·simp only [List.mem_cons,List.not_mem_nil,or_false,not_or] at h3;rw [S.setSlot_slot,if_neg (fun hh=>h3.2 (by rw [hh.1])),S.setRoot_slot' _ _ (fun e=>h3.1 e.symm),S.killA_slot,h1,AV.kills_dat _ rfl]
     ·simp only [List.mem_cons,List.not_mem_nil,or_false,not_or] at hk;rw [S.setSlot_box,S.setRoot_box' _ _ (fun e=>hk.1 e.symm),S.killA_box]
    ·cases h
   ·cases h
  ·cases h
 ·cases h
theorem S.slot_lt {σ:S} {i:Nat} {av:AV} (h:σ.slot i=av) (hn:av≠.none):i<σ.sl.length:=by
 rcases Nat.lt_or_ge i σ.sl.length with h1 | h1
 ·exact h1
 ·simp only [S.slot,List.getD_eq_getElem?_getD,List.getElem?_eq_none h1] at h;exact absurd h.symm hn
theorem S.freeze_sf {σ σ':S} {i:Nat} (h:σ.freeze i=some σ'):Sf σ σ' none [2 * i]:=by
 unfold S.freeze at h;split at h
 ·split at h
  ·obtain⟨rfl⟩:=h;refine⟨fun s d h1 _ h3=>?_,fun k _=>rfl,by rw [S.setSlot_len,S.killA_len]⟩
   simp only [List.mem_cons,List.not_mem_nil,or_false] at h3;rw [S.setSlot_slot,if_neg (fun hh=>h3 (by rw [hh.1])),S.killA_slot,h1,AV.kills_dat _ rfl]
  ·cases h
 ·split at h
  ·obtain⟨rfl⟩:=h;refine⟨fun s d h1 _ h3=>?_,fun k _=>rfl,by rw [S.setSlot_len,S.killA_len]⟩
   simp only [List.mem_cons,List.not_mem_nil,or_false] at h3;rw [S.setSlot_slot,if_neg (fun hh=>h3 (by rw [hh.1])),S.killA_slot,h1,AV.kills_dat _ rfl]
  ·cases h
 ·cases h
theorem S.toQ_sf {σ σ':S} {i:Nat} (h:σ.toQ i=some σ'):Sf σ σ' none [2 * i]:=by
 unfold S.toQ at h;split at h
 ·obtain⟨rfl⟩:=h;refine⟨fun s d h1 _ h3=>?_,fun k _=>rfl,by rw [S.setSlot_len,S.killA_len]⟩
  simp only [List.mem_cons,List.not_mem_nil,or_false] at h3;rw [S.setSlot_slot,if_neg (fun hh=>h3 (by rw [hh.1])),S.killA_slot,h1,AV.kills_dat _ rfl]
 ·cases h
theorem S.popQ_sf (σ:S) {d j:Nat} (e:Nat) (t:Ty) (m:Md) (xs:List t.D) (n:Int) (hd:d<σ.sl.length) (hj:j<σ.sl.length):Sf σ (σ.popQ d j e t m xs n) (some d) [2 * d,2 * j]:=by
 refine⟨fun s D h1 h2 h3=>?_,fun k _=>rfl,by rw [S.popQ,S.setSlot_len,S.setSlot_len,S.killA_len]⟩
 simp only [List.mem_cons,List.not_mem_nil,or_false,not_or] at h3;rw [S.popQ_slot σ e t m xs n hd hj,if_neg (fun e=>h2 (by rw [e])),if_neg (fun e=>h3.2 (by rw [e])),h1,AV.kills_dat _ rfl]
theorem S.weak_sf {σ σ':S} {r:Nat} {m:Md} (h:σ.weak r m=some σ'):Sf σ σ' none [r]:=by
 unfold S.weak at h;split at h
 ·split at h
  ·obtain⟨rfl⟩:=h;refine⟨fun s d h1 _ h3=>?_,fun k hk=>?_,by rw [S.setRoot_len,S.killA_len]⟩
   ·simp only [List.mem_cons,List.not_mem_nil,or_false] at h3;rw [S.setRoot_slot' _ _ (fun e=>h3 e.symm),S.killA_slot,h1,AV.kills_dat _ rfl]
   ·simp only [List.mem_cons,List.not_mem_nil,or_false] at hk;rw [S.setRoot_box' _ _ (fun e=>hk e.symm),S.killA_box]
  ·cases h
 ·cases h
theorem S.toH_sf {σ σ':S} {np i:Nat} (h:σ.toH np i=some σ'):Sf σ σ' none [2 * i,2 * i+1]:=by
 unfold S.toH at h;split at h
 ·split at h
  ·obtain⟨rfl⟩:=h;refine⟨fun s d h1 _ h3=>?_,fun k hk=>?_,by rw [S.setSlot_len];show(S.goneA _ _).sl.length=_;rw [S.goneA_len,S.killA_len]⟩
   ·simp only [List.mem_cons,List.not_mem_nil,or_false,not_or] at h3;rw [S.setSlot_slot,if_neg (fun hh=>h3.1 (by rw [hh.1])),S.setBox_slot,S.goneA_slot,S.killA_slot,h1,AV.kills_dat _ rfl];rfl
   ·simp only [List.mem_cons,List.not_mem_nil,or_false,not_or] at hk;rw [S.setSlot_box,S.setBox_box,if_neg (fun e=>hk.2 (by rw [e]))];rfl
  ·cases h
 ·cases h
theorem S.evn_sf {σ σ':S} {i:Nat} (h:σ.evn i=some σ'):Sf σ σ' none [2 * i]:=by
 unfold S.evn at h;split at h
 ·split at h
  ·obtain⟨rfl⟩:=h;refine⟨fun s d h1 _ h3=>?_,fun k _=>rfl,by simp [S.put]⟩
   simp only [List.mem_cons,List.not_mem_nil,or_false] at h3;rw [S.put_slot,if_neg (fun hh=>h3 (by rw [hh.1])),h1];rfl
  ·cases h
 ·cases h
theorem S.spl_sf {σ σ':S} {np i k:Nat} {π:Path} (h:σ.spl np i k π=some σ'):Sf σ σ' none [2 * i,2 * i+1,2 * k+1]:=by
 unfold S.spl at h
 repeat' split at h
 all_goals first
  | cases h;done
  | (obtain⟨rfl⟩:=h
     refine⟨fun s d h1 _ h3=>?_,fun k' hk=>?_,by rw [S.setSlot_len];show(S.goneA _ _).sl.length=_;rw [S.goneA_len,S.killA_len]⟩
     ·simp only [List.mem_cons,List.not_mem_nil,or_false,not_or] at h3;rw [S.setSlot_slot,if_neg (fun hh=>h3.1 (by rw [hh.1])),S.setBox_slot,S.setBox_slot,S.goneA_slot,S.killA_slot,h1,AV.kills_dat _ rfl];rfl
     ·simp only [List.mem_cons,List.not_mem_nil,or_false,not_or] at hk;rw [S.setSlot_box,S.setBox_box,if_neg (fun e=>hk.2.2 (by rw [e])),S.setBox_box,if_neg (fun e=>hk.2.1 (by rw [e]))];rfl)
theorem S.uns_sf {σ σ':S} {i:Nat} {π:Path} (h:σ.uns i π=some σ'):Sf σ σ' none (σ.unsR i):=by
 unfold S.uns at h;split at h
 ·rename_i hlk _;simp only [S.unsR,hlk]
  repeat' split at h
  all_goals first
   | cases h;done
   | (rename_i hcd
      obtain⟨rfl,_,_,_⟩:=hcd;obtain⟨rfl⟩:=h;refine⟨fun s d h1 _ h3=>?_,fun k' hk=>?_,by rw [S.setSlot_len];show(S.goneA _ _).sl.length=_;rw [S.goneA_len,S.killA_len]⟩
      ·simp only [List.mem_cons,List.not_mem_nil,or_false,not_or] at h3;rw [S.setSlot_slot,if_neg (fun hh=>h3.1 (by rw [hh.1])),S.setBox_slot,S.setBox_slot,S.goneA_slot,S.killA_slot,h1,AV.kills_dat _ rfl];rfl
      ·simp only [List.mem_cons,List.not_mem_nil,or_false,not_or] at hk;rw [S.setSlot_box,S.setBox_box,if_neg (fun e=>hk.2.2 (by rw [e])),S.setBox_box,if_neg (fun e=>hk.2.1 (by rw [e]))];rfl)
 ·cases h
theorem S.grab2_sf {σ σ':S} {np:Nat} {i:Gr} (h:σ.grab2 np i=some σ'):Sf σ σ' none (σ.grab2R i):=by
 cases i with
 | g i=>exact S.grab_sf h
 | z i=>exact S.freeze_sf h
 | w r m=>exact S.weak_sf h
 | q i=>exact S.toQ_sf h
 | h i=>exact S.toH_sf h
 | e i=>exact S.evn_sf h
 | s i k π=>exact S.spl_sf h
 | u i π=>exact S.uns_sf h
theorem S.extr_sf (σ:S) (i j d:Nat) (vs:List Dat) (D:Dat) (hd:d<σ.sl.length) (hi:i<σ.sl.length):Sf σ (σ.extr i j d vs D) (some d) [2 * d,2 * i]:=by
 refine⟨fun s D' h1 h2 h3=>?_,fun k _=>rfl,by simp [S.extr,S.setSlot_len,S.killA_len]⟩
 simp only [List.mem_cons,List.not_mem_nil,or_false,not_or] at h3;rw [S.extr_slot _ _ _ hd hi,if_neg (fun e=>h2 (by rw [e])),if_neg (fun e=>h3.2 (by rw [e])),h1,AV.kills_dat _ rfl]
theorem S.grabs_sf {np:Nat}:∀ (l:List Gr) {σ σ':S},S.grabs np l σ=some σ'→Sf σ σ' none (S.grabsR np l σ)
 | [],σ,σ',h=>by simp only [S.grabs,Option.some.injEq] at h;subst h;exact Sf.refl _ _ _
 | i::l,σ,σ',h=>by
  simp only [S.grabs] at h;unfold S.grabsR;split at h
  ·rename_i σ1 h1;have:=(S.grab2_sf h1).trans (S.grabs_sf l h)
   first | exact this | (simp only [h1];exact this)
  ·rename_i h1;have:=S.grabs_sf l h
   first | exact this | (simp only [h1];exact this)
theorem S.put_sf (σ:S) (d:Nat) (av:AV) (rs:List Nat) (h:2 * d∈rs):Sf σ (σ.put d av) (some d) rs:=
 ⟨fun s D h1 h2 _=>by rw [S.put_slot,if_neg (fun hh=>h2 (by rw [hh.1])),h1];rfl,fun _ _=>rfl,by simp [S.put]⟩
theorem S.newA_sf (σ:S) (d:Nat) (av:AV) (ms:List Nat) (hd:d<σ.sl.length):Sf σ (σ.newA d av ms) (some d) (2 * d::ms.map (2 * ·)):=by
 refine⟨fun s D h1 h2 h3=>?_,fun k _=>S.newA_box _ _ _ _ _,S.newA_len _ _ _ _⟩
 rw [S.newA_slot _ _ _ _ hd,if_neg (fun e=>h2 (by rw [e])),if_neg (fun hm=>h3 (List.mem_cons_of_mem _ (List.mem_map.2 ⟨s,hm,rfl⟩))),h1,AV.kills_dat _ rfl]
theorem S.newB_sf (σ:S) (d:Nat) (D:Dat) (ms:List Nat) (hd:d<σ.sl.length):Sf σ (σ.newB d D ms) (some d) (2 * d::(2 * d+1)::ms.map (2 * ·)):=by
 refine⟨fun s D' h1 h2 h3=>?_,fun k hk=>?_,S.newB_len _ _ _ _⟩
 ·rw [S.newB_slot _ _ _ _ hd,if_neg (fun e=>h2 (by rw [e])),if_neg (fun hm=>h3 (List.mem_cons_of_mem _ (List.mem_cons_of_mem _ (List.mem_map.2 ⟨s,hm,rfl⟩)))),h1,AV.kills_dat _ rfl];rfl
 ·rw [S.newB_box,if_neg (fun e=>hk (by rw [e];simp))]
theorem S.st_sf {σ σ':S} {p:Place} {dN:Dat} {ms:List Nat} (h:σ.st p dN ms=some σ'):Sf σ σ' none (p.root::ms.map (2 * ·)):=by
 unfold S.st at h;split at h
 ·split at h
  ·obtain⟨rfl⟩:=h;refine⟨fun s d h1 _ h3=>?_,fun k hk=>?_,by rw [S.setRoot_len,S.killA_len,S.emptyA_len]⟩
   ·rw [S.setRoot_slot' _ _ (fun e=>h3 (by rw [e];simp)),S.killA_slot,S.emptyA_slot,if_neg (fun hm=>h3 (List.mem_cons_of_mem _ (List.mem_map.2 ⟨s,hm,rfl⟩))),h1,AV.kills_dat _ rfl]
   ·rw [S.setRoot_box' _ _ (fun e=>hk (by rw [e];simp)),S.killA_box,S.emptyA_box]
  ·cases h
 ·cases h
theorem S.setFins_sf:∀ (E:List (Fl×Dat)) {σ σ':S},S.setFins E σ=some σ'→σ'.sl.length=σ.sl.length∧(∀ j,(∀ p∈E,p.1.p.root≠2 * j)→σ'.slot j=σ.slot j)∧(∀ k,(∀ p∈E,p.1.p.root≠2 * k+1)→σ'.box k=σ.box k)
 | [],σ,σ',h=>by
  simp only [S.setFins,Option.some.injEq] at h;subst h;exact⟨rfl,fun _ _=>rfl,fun _ _=>rfl⟩
 | (e,D)::E,σ,σ',h=>by
  simp only [S.setFins] at h;split at h
  ·split at h
   ·obtain⟨a1,a2,a3⟩:=S.setFins_sf E h;refine⟨by rw [a1,S.setRoot_len],fun j hj=>?_,fun k hk=>?_⟩
    ·rw [a2 j (fun p hp=>hj p (by simp [hp])),S.setRoot_slot' _ _ (hj (e,D) (by simp))]
    ·rw [a3 k (fun p hp=>hk p (by simp [hp])),S.setRoot_box' _ _ (hk (e,D) (by simp))]
   ·cases h
  ·cases h
theorem S.called_sf {σ σ':S} {d:Nat} {av:AV} {ms:List Nat} {fl:List Fl} {Ds:List Dat} (h:σ.called d av ms fl Ds=some σ'):Sf σ σ' (some d) (EU d ms fl):=by
 unfold S.called at h;split at h
 ·rename_i σ1 hf;obtain⟨rfl⟩:=h;obtain⟨a1,a2,a3⟩:=S.setFins_sf _ hf;have hroot:∀ r,r ∉ EU d ms fl→∀ p∈fl.zip Ds,p.1.p.root≠r:=fun r hr p hp he=>hr (by
   have:=(List.of_mem_zip (a:=p.1) (b:=p.2) hp).1
   exact List.mem_cons_of_mem _ (List.mem_append_right _ (List.mem_map.2 ⟨p.1,this,he⟩)))
  refine⟨fun s D h1 h2 h3=>?_,fun k hk=>?_,by rw [S.setSlot_len,a1,S.killA_len,S.emptyA_len]⟩
  ·rw [S.setSlot_slot,if_neg (fun hh=>h2 (by rw [hh.1])),a2 s (hroot _ h3),S.killA_slot,S.emptyA_slot,if_neg (fun hm=>h3 (List.mem_cons_of_mem _ (List.mem_append_left _ (List.mem_map.2 ⟨s,hm,rfl⟩)))),h1,AV.kills_dat _ rfl]
  ·rw [S.setSlot_box,a3 k (hroot _ hk),S.killA_box,S.emptyA_box]
 ·cases h
theorem ah {τ:List TE} {σ σ':S} {m:Md} {d:Nat} {args:List Operand} {Ts:List Nat} {c:Cnd} {rs:List Nat} (hs:QR τ σ m d args Ts=some (c,σ',rs)):Sf σ σ' (some d) rs:=by
 unfold QR at hs;split at hs
 ·split at hs
  ·split at hs
   ·split at hs
    ·split at hs
     ·rename_i hcd;simp only [Option.some.injEq,Prod.mk.injEq] at hs;obtain⟨_,rfl,rfl⟩:=hs;exact S.newA_sf _ _ _ _ hcd.1
     ·cases hs
    ·cases hs
   ·cases hs
  ·cases hs
 ·cases hs
theorem ew {τ:List TE} {np:Nat} {σ σ':S} {m:Md} {o:Oper} {c:Cnd} {rs:List Nat} (hs:ef1 τ np σ m o=some (c,σ',rs)):Sf σ σ' o.dst rs:=by
 obtain⟨dst,op,type,pos,after,guard⟩:=o;unfold ef1 at hs;simp only at hs ⊢;split at hs
 ·repeat' split at hs
  all_goals first
   | cases hs;done
   | (rename_i hcd;simp only [Option.some.injEq,Prod.mk.injEq] at hs;obtain⟨_,rfl,rfl⟩:=hs;exact S.newB_sf _ _ _ _ hcd.1)
 ·repeat' split at hs
  all_goals first
   | cases hs;done
   | (rename_i hcd;simp only [Option.some.injEq,Prod.mk.injEq] at hs;obtain⟨_,rfl,rfl⟩:=hs;exact S.newB_sf _ _ _ [] hcd.1)
 ·repeat' split at hs
  all_goals first
   | cases hs;done
   | (rename_i hst;simp only [Option.some.injEq,Prod.mk.injEq] at hs;obtain⟨_,rfl,rfl⟩:=hs;exact S.st_sf hst)
 ·split at hs
  ·split at hs
   ·split at hs
    ·rename_i hcd;split at hs
     ·split at hs
      ·simp only [Option.some.injEq,Prod.mk.injEq] at hs;obtain⟨_,rfl,rfl⟩:=hs;exact S.newA_sf _ _ _ _ hcd.2.2
      ·cases hs
     ·cases hs
    ·cases hs
   ·cases hs
  ·cases hs
 ·split at hs
  ·split at hs
   ·split at hs
    ·rename_i hcd;simp only [Option.some.injEq,Prod.mk.injEq] at hs;obtain⟨_,rfl,rfl⟩:=hs;exact S.newA_sf _ _ _ [] hcd.2.1
    ·cases hs
   ·cases hs
  ·cases hs
 ·split at hs
  ·rename_i hvs;split at hs
   ·split at hs
    ·split at hs
     ·simp only [Option.some.injEq,Prod.mk.injEq] at hs;obtain⟨_,rfl,rfl⟩:=hs;exact S.put_sf _ _ _ _ (by simp)
     ·cases hs
    ·split at hs
     ·rename_i hcd;simp only [Option.some.injEq,Prod.mk.injEq] at hs;obtain⟨_,rfl,rfl⟩:=hs;exact S.extr_sf _ _ _ _ _ _ hcd.1 (S.slot_lt hvs (by simp))
     ·cases hs
   ·cases hs
  ·cases hs
 ·split at hs
  ·split at hs
   ·rename_i hcd;simp only [Option.some.injEq,Prod.mk.injEq] at hs;obtain⟨_,rfl,rfl⟩:=hs;exact S.newA_sf _ _ _ [_] hcd.1
   ·cases hs
  ·cases hs
 ·split at hs
  ·exact ah hs
  ·cases hs
 ·cases hs
theorem ez {τ:List TE} {σ σ':S} {m:Md} {o:Oper} {c:Cnd} {rs:List Nat} (hs:ef2 τ σ m o=some (c,σ',rs)):Sf σ σ' o.dst rs∧∀ d,o.dst=some d→2 * d∈rs:=by
 obtain⟨dst,op,type,pos,after,guard⟩:=o;unfold ef2 at hs;simp only at hs ⊢;split at hs
 ·repeat' split at hs
  all_goals first
   | cases hs;done
   | (rename_i hcd;simp only [Option.some.injEq,Prod.mk.injEq] at hs;obtain⟨_,rfl,rfl⟩:=hs;exact⟨S.newA_sf _ _ _ [] hcd.2.2.2,fun d hd=>by cases hd;simp⟩)
 ·repeat' split at hs
  all_goals first
   | cases hs;done
   | (rename_i hcd;simp only [Option.some.injEq,Prod.mk.injEq] at hs;obtain⟨_,rfl,rfl⟩:=hs;exact⟨S.newA_sf _ _ _ [_] hcd.2.2,fun d hd=>by cases hd;simp⟩)
 ·split at hs
  ·split at hs
   ·cases hs
   ·split at hs
    ·split at hs
     ·rename_i hcd;simp only [Option.some.injEq,Prod.mk.injEq] at hs;obtain⟨_,rfl,rfl⟩:=hs;exact⟨S.newA_sf _ _ _ _ hcd.1,fun d hd=>by cases hd;simp⟩
     ·cases hs
    ·cases hs
  ·cases hs
 ·split at hs
  ·rename_i hj _;split at hs
   ·rename_i hcd;simp only [Option.some.injEq,Prod.mk.injEq] at hs;obtain⟨_,rfl,rfl⟩:=hs;exact⟨S.popQ_sf _ _ _ _ _ _ hcd.2.1 (S.slot_lt hj (by simp)),fun d hd=>by cases hd;simp⟩
   ·cases hs
  ·cases hs
 ·repeat' split at hs
  all_goals first
   | cases hs;done
   | (simp only [Option.some.injEq,Prod.mk.injEq] at hs;obtain⟨_,rfl,rfl⟩:=hs;exact⟨S.put_sf _ _ _ _ (by simp),fun d hd=>by cases hd;simp⟩)
 ·repeat' split at hs
  all_goals first
   | cases hs;done
   | (rename_i hcd;simp only [Option.some.injEq,Prod.mk.injEq] at hs;obtain⟨_,rfl,rfl⟩:=hs;exact⟨S.newA_sf _ _ _ [_] hcd.2.2,fun d hd=>by cases hd;simp⟩)
 ·cases hs
theorem S.putR_sf {σ σ':S} {d:Nat} {av:AV} {c:Cnd} {rs:List Nat} (hs:σ.putR d av=some (c,σ',rs)):Sf σ σ' (some d) rs∧∀ d',some d=some d'→2 * d'∈rs:=by
 unfold S.putR at hs;split at hs
 ·simp only [Option.some.injEq,Prod.mk.injEq] at hs;obtain⟨_,rfl,rfl⟩:=hs;exact⟨S.put_sf _ _ _ _ (by simp),fun d' hd=>by cases hd;simp⟩
 ·cases hs
theorem fB {τ:List TE} {np:Nat} {σ σ':S} {m:Md} {o:Oper} {c:Cnd} {rs:List Nat} (hs:ef3 τ np σ m o=some (c,σ',rs)):Sf σ σ' o.dst rs∧∀ d,o.dst=some d→2 * d∈rs:=by
 obtain⟨dst,op,type,pos,after,guard⟩:=o;unfold ef3 at hs;simp only at hs ⊢;split at hs
 ·repeat' split at hs
  all_goals first
   | cases hs;done
   | exact S.putR_sf hs
 ·repeat' split at hs
  all_goals first
   | cases hs;done
   | exact S.putR_sf hs
 ·repeat' split at hs
  all_goals first
   | cases hs;done
   | exact S.putR_sf hs
 ·repeat' split at hs
  all_goals first
   | cases hs;done
   | exact S.putR_sf hs
 ·repeat' split at hs
  all_goals first
   | cases hs;done
   | exact S.putR_sf hs
 ·split at hs
  ·rename_i te t x k' hte hxp;split at hs
   ·rename_i hcd;simp only [Option.some.injEq,Prod.mk.injEq] at hs;obtain⟨_,rfl,rfl⟩:=hs;have h1:=S.newB_sf σ _ ⟨t,m,x⟩ [] hcd.2.2.1
    refine⟨⟨fun s D' q1 q2 q3=>?_,fun k hk=>?_,?_⟩,fun d hd=>by cases hd;simp⟩
    ·rw [S.put_slot,if_neg (fun hh=>q2 (by rw [hh.1])),h1.dat s D' q1 q2 (by simpa using q3)];rfl
    ·have:=h1.box k (by simpa using hk)
     exact this
    ·simp [S.put,h1.len]
   ·cases hs
  ·cases hs
 ·cases hs
theorem S.apv_sf {τ:List TE} {σ σ':S} {d:Nat} {args:List Operand} {Ts:List Nat} {c:Cnd} {rs:List Nat} (hs:σ.apv τ d args Ts=some (c,σ',rs)):Sf σ σ' (some d) rs∧∀ d',some d=some d'→2 * d'∈rs:=by
 unfold S.apv at hs
 repeat' split at hs
 all_goals first
  | cases hs;done
  | (simp only [Option.some.injEq,Prod.mk.injEq] at hs
     obtain⟨_,rfl,rfl⟩:=hs;refine⟨⟨fun s D h1 h2 h3=>?_,fun k hk=>rfl,by simp [S.put,S.killA_len]⟩,fun d' hd=>by cases hd;simp⟩
     rw [S.put_slot,if_neg (fun hh=>h2 (by rw [hh.1])),S.killA_slot,h1,AV.kills_dat _ rfl];rfl)
theorem fD {τ:List TE} {σ σ':S} {m:Md} {o:Oper} {c:Cnd} {rs:List Nat} (hs:ef4 τ σ m o=some (c,σ',rs)):Sf σ σ' o.dst rs∧∀ d,o.dst=some d→2 * d∈rs:=by
 obtain⟨dst,op,type,pos,after,guard⟩:=o;unfold ef4 at hs;simp only at hs ⊢;split at hs
 ·split at hs
  ·repeat' split at hs
   all_goals first
    | cases hs;done
    | exact S.putR_sf hs
  ·repeat' split at hs
   all_goals first
    | cases hs;done
    | exact S.putR_sf hs
  ·split at hs
   ·exact S.apv_sf hs
   ·repeat' split at hs
    all_goals first
     | cases hs;done
     | exact S.putR_sf hs
   ·cases hs
  ·repeat' split at hs
   all_goals first
    | cases hs;done
    | (rename_i hst _
       simp only [Option.some.injEq,Prod.mk.injEq] at hs;obtain⟨_,rfl,rfl⟩:=hs;exact⟨S.st_sf hst,fun d hd=>by cases hd⟩)
  ·cases hs
 ·cases hs
theorem ac {τ:List TE} {np:Nat} {σ σ':S} {m:Md} {o:Oper} {c:Cnd} {rs:List Nat} (hs:ef τ np σ m o=some (c,σ',rs)):Sf σ σ' o.dst rs∧∀ d,o.dst=some d→2 * d∈rs:=by
 unfold ef at hs;split at hs
 ·rename_i r hr;rw [hs] at hr;refine⟨ew hr,fun d hd=>?_⟩
  clear hs
  obtain⟨dst,op,type,pos,after,guard⟩:=o;simp only at hd;subst hd;unfold ef1 at hr;simp only at hr;split at hr
  all_goals try (rename_i hx;cases hx)
  all_goals (repeat' split at hr)
  all_goals first
   | cases hr;done
   | (simp only [Option.some.injEq,Prod.mk.injEq] at hr;obtain⟨_,_,rfl⟩:=hr;simp;done)
   | (unfold QR at hr;repeat' split at hr
      all_goals first
       | cases hr;done
       | (simp only [Option.some.injEq,Prod.mk.injEq] at hr;obtain⟨_,_,rfl⟩:=hr;simp))
 ·split at hs
  ·rename_i r hr;rw [hs] at hr;exact ez hr
  ·split at hs
   ·rename_i r hr;rw [hs] at hr;exact fB hr
   ·exact fD hs
theorem Sc {σ σ':S} {chk:List Nat→List Nat→Bool} {cal:Cal} {args:List Operand} {d:Nat} {rs:List Nat} (h:Jl σ chk cal args d (fun σ rs=>some (σ,rs))=some (σ',rs)):Sf σ σ' (some d) rs∧2 * d∈rs:=by
 unfold Jl at h;split at h
 ·split at h
  ·obtain⟨y,hy,h⟩:=Option.bind_eq_some_iff.1 h;split at h
   ·split at h
    ·split at h
     ·rename_i σ2 hcal;simp only [Option.some.injEq,Prod.mk.injEq] at h;obtain⟨rfl,rfl⟩:=h;exact⟨S.called_sf hcal,by simp [EU]⟩
     ·cases h
    ·cases h
   ·cases h
  ·cases h
 ·cases h
theorem ZE {σ σ':S} {cal:Cal} {args:List Operand} {d:Nat} {rs:List Nat} (h:LA σ cal args d (fun σ rs=>some (σ,rs))=some (σ',rs)):Sf σ σ' (some d) rs∧2 * d∈rs:=by
 unfold LA at h;simp only [S.frc_eq] at h;split at h
 ·rename_i tm os;split at h
  ·rename_i av bk dp bx hl;split at h
   ·rename_i hcd;rw [show(fun σ' rs=>some (σ'.put tm .none,rs++[2 * tm]))=(fun(σ':S) (rs:List Nat)=>((some (σ',rs):Option (S×List Nat)).bind fun p=>some (p.1.put tm .none,p.2++[2 * tm]))) from rfl,← Ly] at h;obtain⟨⟨σ1,rs1⟩,h1,h2⟩:=Option.bind_eq_some_iff.1 h;simp only [Option.some.injEq,Prod.mk.injEq] at h2;obtain⟨rfl,rfl⟩:=h2;obtain⟨q1,q2⟩:=Sc h1;refine⟨⟨fun s D g1 g2 g3=>?_,fun k hk=>?_,?_⟩,List.mem_append_left _ q2⟩
    ·simp only [List.mem_append,List.mem_singleton,not_or] at g3;have e1:¬ (tm=s):=fun e=>g3.2 (by rw [e])
     have e2:¬ (d=s):=fun e=>g2 (by rw [e])
     have:=q1.dat s D (by rw [S.put_slot,if_neg (fun hh=>e2 hh.1),S.put_slot,if_neg (fun hh=>e1 hh.1),g1];rfl) g2 g3.1
     rw [S.put_slot,if_neg (fun hh=>e1 hh.1),this];rfl
    ·have:=q1.box k (fun hm=>hk (List.mem_append_left _ hm))
     exact this
    ·have:=q1.len
     simp only [S.put,List.length_set,Hg] at this ⊢;exact this
   ·cases h
  ·cases h
 ·cases h
theorem ZG {np:Nat} {σ σ':S} {cal:Cal} {args:List Operand} {d:Nat} {rs:List Nat} (h:LB np σ cal args d (fun σ rs=>some (σ,rs))=some (σ',rs)):Sf σ σ' (some d) rs∧2 * d∈rs:=by
 unfold LB at h;split at h
 ·split at h
  ·rename_i hcd;obtain⟨y,hy,h⟩:=Option.bind_eq_some_iff.1 h;split at h
   ·rename_i D hD;simp only [Option.some.injEq,Prod.mk.injEq] at h;obtain⟨rfl,rfl⟩:=h;exact⟨S.newB_sf σ d D [] hcd.1,by simp⟩
   ·cases h
  ·cases h
 ·cases h
theorem ZC {np:Nat} {σ σ':S} {cal:Cal} {args:List Operand} {d:Nat} {rs:List Nat} (h:Kz np σ cal args d (fun σ rs=>some (σ,rs))=some (σ',rs)):Sf σ σ' (some d) rs∧2 * d∈rs:=by
 unfold Kz at h;split at h
 ·exact Sc h
 ·exact ZG h
 ·split at h
  ·exact ZE h
  ·cases h
theorem Ot {τ:List TE} {Φ:List Cal} {np:Nat} {hh:OH} {σ0 σ':S} {o:Oper} {rs:List Nat} (h:HW τ Φ np hh σ0 o (fun σ rs=>some (σ,rs))=some (σ',rs)):Sf σ0 σ' o.dst rs∧∀ d,o.dst=some d→2 * d∈rs:=by
 unfold HW at h;simp only [S.share_eq] at h;split at h
 ·cases h
 ·rename_i σ hg;have h1:=S.grabs_sf _ hg
  split at h
  ·rename_i c σ2 rs2 hef;obtain⟨_,hk⟩:=Cnd.run_some h;simp only [Option.some.injEq,Prod.mk.injEq] at hk;obtain⟨rfl,rfl⟩:=hk;exact⟨h1.trans (ac hef).1,fun d hd=>List.mem_append_right _ ((ac hef).2 d hd)⟩
  ·split at h
   ·rename_i c av d hpv hd;split at h
    ·obtain⟨_,hk⟩:=Cnd.run_some h;simp only [Option.some.injEq,Prod.mk.injEq] at hk;obtain⟨rfl,rfl⟩:=hk;rw [hd];exact⟨h1.trans (S.put_sf _ _ _ _ (by simp)),fun d' hd'=>by cases hd';simp⟩
    ·cases h
   ·split at h
    ·rename_i cl d hop hd;split at h
     ·split at h
      ·rename_i cal hcal;rw [show(fun σ' rs=>some (σ',S.grabsR np hh.gr σ0++rs))=(fun(σ':S) (rs:List Nat)=>((some (σ',rs):Option (S×List Nat)).bind fun p=>some (p.1,S.grabsR np hh.gr σ0++p.2))) from rfl,← Nr] at h;obtain⟨⟨σ1,rs1⟩,h2,h3⟩:=Option.bind_eq_some_iff.1 h;simp only [Option.some.injEq,Prod.mk.injEq] at h3;obtain⟨rfl,rfl⟩:=h3;obtain⟨q1,q2⟩:=ZC h2;rw [hd];exact⟨h1.trans q1,fun d' hd'=>by cases hd';exact List.mem_append_right _ q2⟩
      ·cases h
     ·cases h
    ·cases h
def Hq (o:Oper):List Nat:=(o.after.toList.filter (Region.binds .any)).map (·.on)
def fU (acc:List Nat) (es:List Nat):Nat:=es.foldl (fun m e=>m ||| (2 ^ e ||| acc.getD e 0)) 0
def SV:List Nat→List Oper→List Nat
 | acc,[]=>acc
 | acc,o::os=>SV (acc++[fU acc (Hq o)]) os
def BZ (ops:List Oper):List Nat:=SV [] ops
theorem RS (acc:List Nat) (i:Nat):∀ (es:List Nat) (m:Nat),(es.foldl (fun m e=>m ||| (2 ^ e ||| acc.getD e 0)) m).testBit i=true→m.testBit i=true∨∃ e∈es,i=e∨(acc.getD e 0).testBit i=true
 | [],m,h=>.inl h
 | e::es,m,h=>by
  simp only [List.foldl_cons] at h;rcases RS acc i es _ h with h1 | ⟨e',he',h1⟩
  ·rw [Nat.testBit_or,Nat.testBit_or,Nat.testBit_two_pow] at h1;simp only [Bool.or_eq_true,decide_eq_true_eq] at h1;rcases h1 with h1 | h1 | h1
   ·exact .inl h1
   ·exact .inr ⟨e,by simp,.inl h1.symm⟩
   ·exact .inr ⟨e,by simp,.inr h1⟩
  ·exact .inr ⟨e',by simp [he'],h1⟩
def PC (ops:List Oper) (D:Nat→Bool):Prop:=∀ j o,ops[j]?=some o→D j=true→∀ e∈Hq o,D e=true
theorem Qp {ops:List Oper} {D:Nat→Bool} (hD:PC ops D):∀ (os pre:List Oper) (acc:List Nat),ops=pre++os→acc.length=pre.length→(∀ j o,pre[j]?=some o→(∀ e∈Hq o,D e=true)→∀ i,(acc.getD j 0).testBit i=true→D i=true) →
 ∀ j o,ops[j]?=some o→(∀ e∈Hq o,D e=true)→∀ i,((SV acc os).getD j 0).testBit i=true→D i=true
 | [],pre,acc,he,hl,hg=>by
  rw [List.append_nil] at he;subst he;exact hg
 | o::os,pre,acc,he,hl,hg=>by
  refine Qp hD os (pre++[o]) _ (by rw [he];simp) (by simp [hl]) (fun j o' hj hedge i hi=>?_)
  by_cases hjl:j<pre.length
  ·rw [List.getElem?_append_left hjl] at hj;rw [List.getD_eq_getElem?_getD,List.getElem?_append_left (by omega),← List.getD_eq_getElem?_getD] at hi;exact hg j o' hj hedge i hi
  ·have hj2:j=pre.length:=by
    have:=(List.getElem?_eq_some_iff.1 hj).1
    simp at this;omega
   subst hj2;rw [List.getElem?_append_right (Nat.le_refl _)] at hj;simp at hj;subst hj;rw [List.getD_eq_getElem?_getD,List.getElem?_append_right (by omega),hl] at hi;simp only [Nat.sub_self,List.getElem?_cons_zero,Option.getD_some] at hi;rcases RS acc i _ _ hi with h0 | ⟨e,he1,rfl | he2⟩
   ·simp at h0
   ·exact hedge _ he1
   ·have hDe:=hedge e he1
    by_cases hel:e<pre.length
    ·have hpe:pre[e]?=some pre[e]:=List.getElem?_eq_getElem hel
     have hoe:ops[e]?=some pre[e]:=by rw [he,List.getElem?_append_left hel];exact hpe
     exact hg e _ hpe (fun e' he'=>hD e _ hoe hDe e' he') i he2
    ·rw [List.getD_eq_getElem?_getD,List.getElem?_eq_none (by omega)] at he2;simp at he2
theorem QQ {ops:List Oper} {D:Nat→Bool} (hD:PC ops D) {j:Nat} {o:Oper} (hj:ops[j]?=some o) (he:∀ e∈Hq o,D e=true) {i:Nat} (hi:((BZ ops).getD j 0).testBit i=true):D i=true:=
 Qp hD ops [] [] rfl rfl (fun j o h=>by simp at h) j o hj he i hi
def IA (ops:List Oper) (i:Nat):Nat:=((ops[i]?).bind (·.dst)).getD 0
def S.emptyB (σ:S) (ks:List Nat):S:=ks.foldl (fun σ k=>σ.setBox k none) σ
def S.hideSB (σ:S) (hs hb:List Nat):S:=(σ.emptyA hs).emptyB hb
def S.overS (M:S):List Nat→S→S
 | [],σ=>σ
 | s::ts,σ=>S.overS M ts (σ.setSlot s (M.slot s))
def S.overB (M:S):List Nat→S→S
 | [],σ=>σ
 | k::bs,σ=>S.overB M bs (σ.setBox k (M.box k))
def S.over (σ M:S) (ts bs:List Nat):S:=S.overB M bs (S.overS M ts σ)
structure Ent where
 rs:List Nat
 ts:List Nat
 bs:List Nat
 M:S
def KX (an:List Nat) (i j:Nat):Bool:=i == j || (an.getD j 0).testBit i || (an.getD i 0).testBit j
def Da (N:Nat) (an:List Nat) (hs:List (Nat×OH)) (j:Nat):List Nat:=((List.range N).filter fun i=>!KX an i j).flatMap fun i=>(CQ hs i).ts
def Fz (N:Nat) (an:List Nat) (hs:List (Nat×OH)) (j:Nat):List Nat:=((List.range N).filter fun i=>!KX an i j).flatMap fun i=>(CQ hs i).bs
def OM:Option Nat→List Nat
 | some d=>[2 * d]
 | none=>[]
def Mq (n:Nat) (dst:Option Nat) (oh:OH) (M M':S) (rs hS hB:List Nat):Bool:=
 ((List.range n).all fun s=>oh.ts.contains s || (!(dst == some s) && !rs.contains (2 * s) && rs.all fun r=>!(M.slot s).hitH r)) &&
 (oh.ts.all fun s=>decide (s<n) && !hS.contains s && (hS.all fun h=>!(M'.slot s).hitR (2 * h)) && (hB.all fun h=>!(M'.slot s).hitR (2 * h+1)) && (!(M'.slot s).isDat || rs.contains (2 * s))) &&
 (rs.all fun r=>r % 2 == 0 || oh.bs.contains (r / 2)) && (oh.bs.all fun k=>rs.contains (2 * k+1) && !hB.contains k) && (match dst with | some d=>decide (d<n) | none=>true) && (hB.all fun h=>(List.range n).all fun s=>!((M.slot s).hk == some h)) && decide (M'.sl.length=n)
def Vl (N:Nat) (an:List Nat) (hs:List (Nat×OH)) (σ0:S) (L:List Ent):Bool:=
 L.zipIdx.all fun q=>(Da N an hs q.2).all fun s=>q.1.rs.all fun r=>!(σ0.slot s).hitH r && L.all fun e=>!e.ts.contains s || !(e.M.slot s).hitH r
def isG (ops:List Oper) (j:Nat):Bool:=ops.any fun o=>match o.guard with
 | some (g,_)=>g == j
 | none=>false
def PN {α:Type} (b:Bool) (dst:Option Nat) (M:S) (k:S→Option α):Option α:=match b with
 | false=>k M
 | true=>match dst with
  | some d=>match M.ev (.tmp d) with
   | .snp .bool v _ _=>bif v then k (M.setSlot d (DE true)) else k (M.setSlot d (DE false))
   | _=>if und (M.slot d)=true then k M else none
  | none=>none
def Jn {α:Type} (τ:List TE) (Φ:List Cal) (np:Nat) (ops:List Oper) (oh:OH) (M:S) (o:Oper) (k:S→List Nat→Option α):Option α:=match o.guard with
 | none=>HW τ Φ np oh M o k
 | some (g,want)=>match M.ev (.tmp (IA ops g)) with
  | .snp .bool v _ _=>match want with
   | true=>bif v then HW τ Φ np oh M o k else (if GC M o.dst=true∧(ops[g]?).bind (·.dst)=some (IA ops g) then k (M.skip o.dst) (OM o.dst) else none)
   | false=>bif v then (if GC M o.dst=true∧(ops[g]?).bind (·.dst)=some (IA ops g) then k (M.skip o.dst) (OM o.dst) else none) else HW τ Φ np oh M o k
  | _=>if und (M.slot (IA ops g))=true∧GC M o.dst=true∧(ops[g]?).bind (·.dst)=some (IA ops g) then k (M.skip o.dst) (OM o.dst) else none
def drw {α:Type} (τ:List TE) (Φ:List Cal) (np n:Nat) (ops:List Oper) (an:List Nat) (hs:List (Nat×OH)):Nat→List Oper→S→List Ent→(S→List Ent→Option α)→Option α
 | _,[],σ,L,k=>k σ L
 | j,o::os,σ,L,k=>FY (Da ops.length an hs j) fun hS=>FY (Fz ops.length an hs j) fun hB=>(σ.hideSB hS hB).frc fun M=>Jn τ Φ np ops (CQ hs j) M o fun M1 rs=>PN (isG ops j) o.dst M1 fun M'=>
  FY rs fun rs=>M'.frc fun M'=>if Mq n o.dst (CQ hs j) M M' rs hS hB=true then
   (σ.over M' (CQ hs j).ts (CQ hs j).bs).frc fun σ'=>drw τ Φ np n ops an hs (j+1) os σ' (L++[⟨rs,(CQ hs j).ts,(CQ hs j).bs,M'⟩]) k else none
def Vj (N:Nat) (ops:List Oper) (an:List Nat) (hs:List (Nat×OH)) (bl:Nat):Bool:=
 (ops.zipIdx.all fun p=>(Hq p.1).all fun e=>decide (e<p.2)) && ((List.range N).all fun j=>!(an.getD j 0).testBit j && (CQ hs j).bs.all fun k=>decide (k<bl)) &&
 (ops.all fun o=>match o.guard with | some (g,_)=>decide ((ops[g]?).bind (·.dst)=some (IA ops g)) | none=>true)
def S.padB (σ:S) (N:Nat):S:={ σ with bx:=σ.bx++List.replicate (N - σ.bx.length) none }
def Gv (N:Nat) (hs:List (Nat×OH)):Nat:=(List.range N).foldl (fun m j=>(CQ hs j).bs.foldl (fun m k=>max m (k+1)) m) 0
def NQ {α:Type} (τ:List TE) (Φ:List Cal) (np n:Nat) (ops:List Oper) (hs:List (Nat×OH)) (σ:S) (k:S→Option α):Option α:=
 if σ.sl.length=n∧Vj ops.length ops (BZ ops) hs (σ.padB (Gv ops.length hs)).bx.length=true then
  drw τ Φ np n ops (BZ ops) hs 0 ops (σ.padB (Gv ops.length hs)) [] fun σf L=>if Vl ops.length (BZ ops) hs (σ.padB (Gv ops.length hs)) L=true then k σf else none
 else none
theorem S.setBox_len {σ:S} {k:Nat} {bx:Option (Bool×Dat)} (h:k<σ.bx.length):(σ.setBox k bx).bx.length=σ.bx.length:=by
 simp only [S.setBox,if_pos h,List.length_set]
theorem S.emptyB_ok:∀ (ks:List Nat) (σ:S),(∀ k∈ks,k<σ.bx.length)→(σ.emptyB ks).sl=σ.sl∧(σ.emptyB ks).lk=σ.lk∧(σ.emptyB ks).bx.length=σ.bx.length∧∀ j,(σ.emptyB ks).box j=if j∈ks then none else σ.box j
 | [],σ,_=>⟨rfl,rfl,rfl,fun j=>by simp [S.emptyB]⟩
 | k::ks,σ,h=>by
  have e:σ.emptyB (k::ks)=(σ.setBox k none).emptyB ks:=rfl
  have hk:=S.setBox_len (bx:=none) (h k (by simp))
  obtain⟨a1,a2,a3,a4⟩:=S.emptyB_ok ks (σ.setBox k none) (fun q hq=>by rw [hk];exact h q (by simp [hq]));rw [e];refine⟨a1,a2,by rw [a3,hk],fun j=>?_⟩
  rw [a4 j,S.setBox_box]
  by_cases h1:j∈ks
  ·rw [if_pos h1,if_pos (by simp [h1])]
  ·rw [if_neg h1]
   by_cases h2:k=j
   ·rw [if_pos h2,if_pos (by simp [h2])]
   ·rw [if_neg h2,if_neg (by simp [h1];exact fun h3=>h2 h3.symm)]
theorem S.overS_ok (M:S):∀ (ts:List Nat) (σ:S),(∀ s∈ts,s<σ.sl.length)→(S.overS M ts σ).bx=σ.bx∧(S.overS M ts σ).lk=σ.lk∧(S.overS M ts σ).sl.length=σ.sl.length∧∀ j,(S.overS M ts σ).slot j=if j∈ts then M.slot j else σ.slot j
 | [],σ,_=>⟨rfl,rfl,rfl,fun j=>by simp [S.overS]⟩
 | s::ts,σ,h=>by
  obtain⟨a1,a2,a3,a4⟩:=S.overS_ok M ts (σ.setSlot s (M.slot s)) (fun q hq=>by rw [S.setSlot_len];exact h q (by simp [hq]));refine⟨a1,a2,by rw [S.overS,a3,S.setSlot_len],fun j=>?_⟩
  rw [S.overS,a4 j,S.setSlot_slot]
  by_cases h1:j∈ts
  ·rw [if_pos h1,if_pos (by simp [h1])]
  ·rw [if_neg h1]
   by_cases h2:s=j
   ·rw [if_pos ⟨h2,h s (by simp)⟩,if_pos (by simp [h2]),h2]
   ·rw [if_neg (fun h3=>h2 h3.1),if_neg (by simp [h1];exact fun h3=>h2 h3.symm)]
theorem S.overB_ok (M:S):∀ (bs:List Nat) (σ:S),(∀ k∈bs,k<σ.bx.length)→(S.overB M bs σ).sl=σ.sl∧(S.overB M bs σ).lk=σ.lk∧(S.overB M bs σ).bx.length=σ.bx.length∧∀ j,(S.overB M bs σ).box j=if j∈bs then M.box j else σ.box j
 | [],σ,_=>⟨rfl,rfl,rfl,fun j=>by simp [S.overB]⟩
 | k::bs,σ,h=>by
  have hk:=S.setBox_len (bx:=M.box k) (h k (by simp))
  obtain⟨a1,a2,a3,a4⟩:=S.overB_ok M bs (σ.setBox k (M.box k)) (fun q hq=>by rw [hk];exact h q (by simp [hq]));refine⟨a1,a2,by rw [S.overB,a3,hk],fun j=>?_⟩
  rw [S.overB,a4 j,S.setBox_box]
  by_cases h1:j∈bs
  ·rw [if_pos h1,if_pos (by simp [h1])]
  ·rw [if_neg h1]
   by_cases h2:k=j
   ·rw [if_pos h2,if_pos (by simp [h2]),h2]
   ·rw [if_neg h2,if_neg (by simp [h1];exact fun h3=>h2 h3.symm)]
structure Fits (n bl:Nat) (σ:S):Prop where
 sl:σ.sl.length=n
 bx:σ.bx.length=bl
structure EFits (n bl:Nat) (e:Ent):Prop where
 ts:∀ s∈e.ts,s<n
 bs:∀ k∈e.bs,k<bl
theorem S.over_ok {n bl:Nat} {σ:S} (h:Fits n bl σ) {e:Ent} (he:EFits n bl e):Fits n bl (σ.over e.M e.ts e.bs)∧(σ.over e.M e.ts e.bs).lk=σ.lk∧(∀ s,(σ.over e.M e.ts e.bs).slot s=if s∈e.ts then e.M.slot s else σ.slot s) ∧
 (∀ k,(σ.over e.M e.ts e.bs).box k=if k∈e.bs then e.M.box k else σ.box k):=by
 obtain⟨a1,a2,a3,a4⟩:=S.overS_ok e.M e.ts σ (fun s hs=>by rw [h.sl];exact he.ts s hs);obtain⟨b1,b2,b3,b4⟩:=S.overB_ok e.M e.bs (S.overS e.M e.ts σ) (fun k hk=>by rw [a1,h.bx];exact he.bs k hk);refine⟨⟨?_,?_⟩,?_,fun s=>?_,fun k=>?_⟩
 ·show(S.overB e.M e.bs (S.overS e.M e.ts σ)).sl.length=n
  rw [b1,a3,h.sl]
 ·show(S.overB e.M e.bs (S.overS e.M e.ts σ)).bx.length=bl
  rw [b3,a1,h.bx]
 ·show(S.overB e.M e.bs (S.overS e.M e.ts σ)).lk=σ.lk
  rw [b2,a2]
 ·show(S.overB e.M e.bs (S.overS e.M e.ts σ)).slot s=_
  rw [← a4 s];simp only [S.slot,b1]
 ·show(S.overB e.M e.bs (S.overS e.M e.ts σ)).box k=_
  rw [b4 k];simp only [S.box,a1]
theorem S.hideSB_ok {n bl:Nat} {σ:S} (h:Fits n bl σ) {hS hB:List Nat} (hb:∀ k∈hB,k<bl):Fits n bl (σ.hideSB hS hB)∧(σ.hideSB hS hB).lk=σ.lk∧(∀ s,(σ.hideSB hS hB).slot s=if s∈hS then .none else σ.slot s)∧(∀ k,(σ.hideSB hS hB).box k=if k∈hB then none else σ.box k):=by
 have hbx:∀ (ms:List Nat) (σ:S),(σ.emptyA ms).bx=σ.bx∧(σ.emptyA ms).lk=σ.lk:=by
  intro ms
  induction ms with
  | nil=>intro σ;exact⟨rfl,rfl⟩
  | cons x ms ih=>intro σ;exact⟨(ih _).1,(ih _).2⟩
 obtain⟨a1,a2,a3,a4⟩:=S.emptyB_ok hB (σ.emptyA hS) (fun k hk=>by rw [(hbx _ _).1,h.bx];exact hb k hk);refine⟨⟨?_,?_⟩,?_,fun s=>?_,fun k=>?_⟩
 ·show((σ.emptyA hS).emptyB hB).sl.length=n
  rw [a1,S.emptyA_len,h.sl]
 ·show((σ.emptyA hS).emptyB hB).bx.length=bl
  rw [a3,(hbx _ _).1,h.bx]
 ·show((σ.emptyA hS).emptyB hB).lk=σ.lk
  rw [a2,(hbx _ _).2]
 ·show((σ.emptyA hS).emptyB hB).slot s=_
  rw [← S.emptyA_slot];simp only [S.slot,a1]
 ·show((σ.emptyA hS).emptyB hB).box k=_
  rw [a4 k,S.emptyA_box]
def stD (σ0:S) (ents:Nat→Ent) (D:Nat→Bool):Nat→S
 | 0=>σ0
 | m+1=>match D m with
  | true=>(stD σ0 ents D m).over (ents m).M (ents m).ts (ents m).bs
  | false=>stD σ0 ents D m
section
variable {σ0:S} {ents:Nat→Ent} {n bl:Nat} (h0:Fits n bl σ0) (hE:∀ i,EFits n bl (ents i))
include h0 hE
theorem Cw (D:Nat→Bool):∀ m,Fits n bl (stD σ0 ents D m)∧(stD σ0 ents D m).lk=σ0.lk
 | 0=>⟨h0,rfl⟩
 | m+1=>by
  obtain⟨a1,a2⟩:=Cw D m;simp only [stD];split
  ·obtain⟨b1,b2,_⟩:=S.over_ok a1 (hE m);exact⟨b1,b2.trans a2⟩
  ·exact⟨a1,a2⟩
theorem Oq {D D':Nat→Bool} {s:Nat}:∀ m,(∀ i,i<m→s∈(ents i).ts→D i=D' i)→(stD σ0 ents D m).slot s=(stD σ0 ents D' m).slot s
 | 0,_=>rfl
 | m+1,h=>by
  have ih:=Oq m (fun i hi=>h i (by omega))
  have o1:=(S.over_ok (Cw h0 hE D m).1 (hE m)).2.2.1 s
  have o2:=(S.over_ok (Cw h0 hE D' m).1 (hE m)).2.2.1 s
  simp only [stD]
  by_cases hs:s∈(ents m).ts
  ·rw [h m (by omega) hs];rw [if_pos hs] at o1 o2;split
   ·rw [o1,o2]
   ·exact ih
  ·rw [if_neg hs] at o1 o2;split<;>split<;>simp only [o1,o2,ih]
theorem Qk {D D':Nat→Bool} {k:Nat}:∀ m,(∀ i,i<m→k∈(ents i).bs→D i=D' i)→(stD σ0 ents D m).box k=(stD σ0 ents D' m).box k
 | 0,_=>rfl
 | m+1,h=>by
  have ih:=Qk m (fun i hi=>h i (by omega))
  have o1:=(S.over_ok (Cw h0 hE D m).1 (hE m)).2.2.2 k
  have o2:=(S.over_ok (Cw h0 hE D' m).1 (hE m)).2.2.2 k
  simp only [stD]
  by_cases hs:k∈(ents m).bs
  ·rw [h m (by omega) hs];rw [if_pos hs] at o1 o2;split
   ·rw [o1,o2]
   ·exact ih
  ·rw [if_neg hs] at o1 o2;split<;>split<;>simp only [o1,o2,ih]
theorem TX {D:Nat→Bool} {j s:Nat} (hD:D j=true) (hs:s∈(ents j).ts):∀ m,j<m→(∀ i,j<i→i<m→s∈(ents i).ts→D i=false)→(stD σ0 ents D m).slot s=(ents j).M.slot s
 | 0,h,_=>by omega
 | m+1,hm,h=>by
  have o1:=(S.over_ok (Cw h0 hE D m).1 (hE m)).2.2.1 s
  simp only [stD]
  by_cases e:j=m
  ·subst e;rw [hD];simp only;rw [o1,if_pos hs]
  ·have ih:=TX hD hs m (by omega) (fun i h1 h2=>h i h1 (by omega))
   split
   ·rename_i hDm;rw [o1,if_neg (fun hh=>by rw [h m (by omega) (by omega) hh] at hDm;cases hDm)];exact ih
   ·exact ih
theorem RZ {D:Nat→Bool} {j k:Nat} (hD:D j=true) (hs:k∈(ents j).bs):∀ m,j<m→(∀ i,j<i→i<m→k∈(ents i).bs→D i=false)→(stD σ0 ents D m).box k=(ents j).M.box k
 | 0,h,_=>by omega
 | m+1,hm,h=>by
  have o1:=(S.over_ok (Cw h0 hE D m).1 (hE m)).2.2.2 k
  simp only [stD]
  by_cases e:j=m
  ·subst e;rw [hD];simp only;rw [o1,if_pos hs]
  ·have ih:=RZ hD hs m (by omega) (fun i h1 h2=>h i h1 (by omega))
   split
   ·rename_i hDm;rw [o1,if_neg (fun hh=>by rw [h m (by omega) (by omega) hh] at hDm;cases hDm)];exact ih
   ·exact ih
theorem TW {D:Nat→Bool} {s:Nat}:∀ m,(stD σ0 ents D m).slot s=σ0.slot s∨∃ i,i<m∧D i=true∧s∈(ents i).ts∧(stD σ0 ents D m).slot s=(ents i).M.slot s
 | 0=>.inl rfl
 | m+1=>by
  have o1:=(S.over_ok (Cw h0 hE D m).1 (hE m)).2.2.1 s
  have ih:=TW (D:=D) (s:=s) m
  simp only [stD];split
  ·rename_i hD
   by_cases hs:s∈(ents m).ts
   ·exact .inr ⟨m,by omega,hD,hs,by rw [o1,if_pos hs]⟩
   ·rw [o1,if_neg hs];rcases ih with h1 | ⟨i,a1,a2,a3,a4⟩
    ·exact .inl h1
    ·exact .inr ⟨i,by omega,a2,a3,a4⟩
  ·rcases ih with h1 | ⟨i,a1,a2,a3,a4⟩
   ·exact .inl h1
   ·exact .inr ⟨i,by omega,a2,a3,a4⟩
theorem Ql:∀ {D:Nat→Bool} {m k:Nat},(∀ i,m≤i→i<m+k→D i=false)→stD σ0 ents D (m+k)=stD σ0 ents D m
 | D,m,0,_=>rfl
 | D,m,k+1,h=>by
  have:=Ql (D:=D) (m:=m) (k:=k) (fun i h1 h2=>h i h1 (by omega))
  rw [← this];show stD σ0 ents D ((m+k)+1)=_
  simp only [stD];rw [h (m+k) (by omega) (by omega)]
end
theorem NN {σ0:S} {ents:Nat→Ent}:∀ {D D':Nat→Bool} (m:Nat),(∀ i,i<m→D i=D' i)→stD σ0 ents D m=stD σ0 ents D' m
 | D,D',0,_=>rfl
 | D,D',m+1,h=>by
  simp only [stD];rw [h m (by omega),NN m (fun i hi=>h i (by omega))]
theorem Vt {α:Type} (τ:List TE) (Φ:List Cal) (np:Nat) (ops:List Oper) (oh:OH) (M:S) (o:Oper) (k:S→List Nat→Option α):Jn τ Φ np ops oh M o k=(Jn τ Φ np ops oh M o fun M1 rs=>some (M1,rs)).bind fun p=>k p.1 p.2:=by
 unfold Jn;split
 ·exact MZ _ _ _ _ _ _ _
 ·split
  ·rename_i v ds src hv;cases v
   ·split
    ·simp only [cond_false];split<;>rfl
    ·simp only [cond_false];exact MZ _ _ _ _ _ _ _
   ·split
    ·simp only [cond_true];exact MZ _ _ _ _ _ _ _
    ·simp only [cond_true];split<;>rfl
  ·split<;>rfl
def Gd (b:Bool) (dst:Option Nat) (M1 M':S):Prop:=M'=M1∨(b=true∧∃ d v ds src,dst=some d∧M1.ev (.tmp d)=.snp .bool v ds src∧M'=M1.setSlot d (DE v))
theorem XE {α:Type} {b:Bool} {dst:Option Nat} {M1:S} {k:S→Option α} {r:α} (h:PN b dst M1 k=some r):∃ M',Gd b dst M1 M'∧k M'=some r:=by
 unfold PN at h;split at h
 ·exact⟨M1,.inl rfl,h⟩
 ·split at h
  ·rename_i d;split at h
   ·rename_i v ds src hs;cases v with
    | true=>exact⟨_,.inr ⟨rfl,d,true,ds,src,rfl,hs,rfl⟩,h⟩
    | false=>exact⟨_,.inr ⟨rfl,d,false,ds,src,rfl,hs,rfl⟩,h⟩
   ·split at h
    ·exact⟨M1,.inl rfl,h⟩
    ·cases h
  ·cases h
structure OpF (τ:List TE) (Φ:List Cal) (np n:Nat) (ops:List Oper) (an:List Nat) (hs:List (Nat×OH)) (j:Nat) (o:Oper) (σ:S) (e:Ent):Prop where
 ts:e.ts=(CQ hs j).ts
 bs:e.bs=(CQ hs j).bs
 chk:Mq n o.dst (CQ hs j) (σ.hideSB (Da ops.length an hs j) (Fz ops.length an hs j)) e.M e.rs (Da ops.length an hs j) (Fz ops.length an hs j)=true
 raw:∃ M1,Jn τ Φ np ops (CQ hs j) (σ.hideSB (Da ops.length an hs j) (Fz ops.length an hs j)) o (fun M1 rs=>some (M1,rs))=some (M1,e.rs)∧Gd (isG ops j) o.dst M1 e.M
theorem Wy {α:Type} {τ:List TE} {Φ:List Cal} {np n:Nat} {ops:List Oper} {an:List Nat} {hs:List (Nat×OH)} {k:S→List Ent→Option α} {r:α}:∀ (os:List Oper) (j:Nat) (σ:S) (L:List Ent),drw τ Φ np n ops an hs j os σ L k=some r →
 ∃ (Es:List Ent) (σs:Nat→S),Es.length=os.length∧σs 0=σ∧(∀ i o,os[i]?=some o→∃ e,Es[i]?=some e∧OpF τ Φ np n ops an hs (j+i) o (σs i) e∧σs (i+1)=(σs i).over e.M e.ts e.bs)∧k (σs os.length) (L++Es)=some r
 | [],j,σ,L,h=>⟨[],fun _=>σ,rfl,rfl,fun i o hi=>by simp at hi,by simpa [drw] using h⟩
 | o::os,j,σ,L,h=>by
  simp only [drw,KJ,S.frc_eq] at h;rw [Vt] at h;obtain⟨⟨M1,rs⟩,h1,h2⟩:=Option.bind_eq_some_iff.1 h;obtain⟨M',h3,h4⟩:=XE h2;split at h4
  ·rename_i OV;obtain⟨Es,σs,a1,a2,a3,a4⟩:=Wy os (j+1) _ _ h4;refine⟨⟨rs,(CQ hs j).ts,(CQ hs j).bs,M'⟩::Es,fun i=>match i with | 0=>σ | i+1=>σs i,by simp [a1],rfl,fun i o' hi=>?_,by simpa using a4⟩
   cases i with
   | zero=>
    simp only [List.getElem?_cons_zero,Option.some.injEq] at hi;subst hi;exact⟨_,rfl,⟨rfl,rfl,OV,M1,h1,h3⟩,a2⟩
   | succ i=>
    rw [List.getElem?_cons_succ] at hi;obtain⟨e,b1,b2,b3⟩:=a3 i o' hi;rw [show j+(i+1)=j+1+i by omega];exact⟨e,b1,b2,b3⟩
  ·cases h4
section
variable {P:Program} {τ:List TE} (hτ:TabOk P τ) {Φ:List Cal} {w0:World} {G0:Gh} {np:Nat} (hΦ:Ld P Φ w0 G0.own)
include hτ hΦ
theorem ZZ {ops:Array Oper} {oh:OH} {M M1:S} {j:Nat} {o:Oper} {rs:List Nat} {a:Act} {w:World} {G:Gh} (hj:ops[j]?=some o) (hgd:∀ g want,o.guard=some (g,want)→(ops.toList[g]?).bind (·.dst)=some (IA ops.toList g)) (h:Rel w0 G0 np M a w G)
 (hs:Jn τ Φ np ops.toList oh M o (fun M1 rs=>some (M1,rs))=some (M1,rs)) {K:Act→World→Prop} {Q:Exit→Act→World→Prop}
 (hK:∀ v w' G',Rel w0 G0 np M1 (a.put o.dst v) w' G'→Ft w w' G G' rs→K (a.put o.dst v) w'):wpOp P ops Q j K a w:=by
 have hstep:HW τ Φ np oh M o (fun M1 rs=>some (M1,rs))=some (M1,rs)→o.wp P a w K Q:=fun hst=>
  TY hτ h hΦ o hst (fun σ' rs' v w' G' hR hF hk=>by
   simp only [Option.some.injEq,Prod.mk.injEq] at hk;obtain⟨rfl,rfl⟩:=hk;exact hK v w' G' hR hF)
 have hskip:(GC M o.dst=true∧(ops.toList[(o.guard.getD (0,true)).1]?).bind (·.dst)=some (IA ops.toList (o.guard.getD (0,true)).1))→M.skip o.dst=M1→OM o.dst=rs→K (a.put o.dst undef) w:=by
  rintro ⟨hd,_⟩ rfl rfl
  exact hK undef w G (h.skip hd) (Ft.refl _ _ _)
 unfold wpOp;simp only [hj];unfold Jn at hs;split at hs
 ·rename_i hg;have hw:Region.wanted o (yielded ops a.tmps)=true:=by simp only [Region.wanted,hg]
  rw [if_pos hw];exact .inl (hstep hs)
 ·rename_i g want hg;split at hs
  ·rename_i v ds src hsl;obtain⟨_,htm⟩:=h.know hsl;have ht:=hgd g want hg
   have hy:yielded ops a.tmps g=some v:=by
    have ht':(ops[g]?).bind (·.dst)=some (IA ops.toList g):=by simpa using ht
    simp only [yielded,ht',Option.bind_some,htm]
   have hw:Region.wanted o (yielded ops a.tmps)=(v == want):=by
    simp only [Region.wanted,hg,hy];cases v<;>cases want<;>rfl
   have hsk:∀ (_:(if GC M o.dst=true∧(ops.toList[g]?).bind (·.dst)=some (IA ops.toList g) then some (M.skip o.dst,OM o.dst) else none)=some (M1,rs)),K (a.put o.dst undef) w:=fun hh=>by
    split at hh
    ·rename_i hc;simp only [Option.some.injEq,Prod.mk.injEq] at hh;exact hskip (by rw [hg];exact hc) hh.1 hh.2
    ·cases hh
   rw [hw];cases want with
   | true=>
    simp only at hs;cases v with
    | true=>exact .inl (hstep hs)
    | false=>exact hsk hs
   | false=>
    simp only at hs;cases v with
    | true=>exact hsk hs
    | false=>exact .inl (hstep hs)
  ·split at hs
   ·rename_i hc;have hy:=h.und (ops:=ops) (j:=g) hc.1 (by simpa using hc.2.2)
    have hw:Region.wanted o (yielded ops a.tmps)=false:=by simp only [Region.wanted,hg,hy];rfl
    rw [hw];simp only [Option.some.injEq,Prod.mk.injEq] at hs;have:=hskip (by rw [hg];exact hc.2) hs.1 hs.2
    simpa using this
   ·cases hs
end
theorem Gd.ok {w0:World} {G0:Gh} {np:Nat} {b:Bool} {dst:Option Nat} {M1 M':S} {a:Act} {w:World} {G:Gh} (h:Gd b dst M1 M') (hR:Rel w0 G0 np M1 a w G):Rel w0 G0 np M' a w G:=by
 rcases h with rfl | ⟨_,d,v,ds,src,_,hs,rfl⟩
 ·exact hR
 ·exact(hR.know hs).1
theorem QZ (listed:Array Bool) {i:Nat} (h:i<listed.size):(listed.setIfInBounds i true).getD i false=true:=by
 rw [Array.getD_eq_getD_getElem?,Array.getElem?_setIfInBounds_self_of_lt h];rfl
theorem PG:∀ (n i:Nat) (f g:Nat→Bool),i<n→f i=true→g i=false→(∀ j,j≠i→g j=f j)→(List.range n).countP g+1=(List.range n).countP f
 | 0,i,f,g,h,_,_,_=>by omega
 | n+1,i,f,g,h,h1,h2,h3=>by
  rw [List.range_succ,List.countP_append,List.countP_append]
  by_cases e:i=n
  ·subst e;have:(List.range i).countP g=(List.range i).countP f:=by
    apply List.countP_congr
    intro j hj;rw [h3 j (by simp at hj;omega)]
   simp [this,h1,h2]
  ·have:=PG n i f g (by omega) h1 h2 h3
   simp only [List.countP_singleton,h3 n (fun h=>e h.symm)];omega
theorem TB {N:Nat} {an:List Nat} {hs:List (Nat×OH)} {j s:Nat}:s∈Da N an hs j↔∃ i,i<N∧KX an i j=false∧s∈(CQ hs i).ts:=by
 simp only [Da,List.mem_flatMap,List.mem_filter,List.mem_range,Bool.not_eq_true'];exact⟨fun⟨i,⟨h1,h2⟩,h3⟩=>⟨i,h1,h2,h3⟩,fun⟨i,h1,h2,h3⟩=>⟨i,⟨h1,h2⟩,h3⟩⟩
theorem Oa {N:Nat} {an:List Nat} {hs:List (Nat×OH)} {j s:Nat}:s∈Fz N an hs j↔∃ i,i<N∧KX an i j=false∧s∈(CQ hs i).bs:=by
 simp only [Fz,List.mem_flatMap,List.mem_filter,List.mem_range,Bool.not_eq_true'];exact⟨fun⟨i,⟨h1,h2⟩,h3⟩=>⟨i,h1,h2,h3⟩,fun⟨i,h1,h2,h3⟩=>⟨i,⟨h1,h2⟩,h3⟩⟩
structure Txt (L:List Oper) (hs:List (Nat×OH)) (bl:Nat):Prop where
 edge:∀ (j:Nat) (o:Oper),L[j]?=some o→∀ e∈Hq o,e<j
 self:∀ j,j<L.length→((BZ L).getD j 0).testBit j=false
 bs:∀ j,j<L.length→∀ k∈(CQ hs j).bs,k<bl
 gd:∀ (j:Nat) (o:Oper),L[j]?=some o→∀ g want,o.guard=some (g,want)→(L[g]?).bind (·.dst)=some (IA L g)
theorem fi {L:List Oper} {hs:List (Nat×OH)} {bl:Nat} (h:Vj L.length L (BZ L) hs bl=true):Txt L hs bl:=by
 simp only [Vj,Bool.and_eq_true,List.all_eq_true,List.mem_range,decide_eq_true_eq,Bool.not_eq_true'] at h;obtain⟨⟨h1,h2⟩,h3⟩:=h;refine⟨fun j o hj e he=>?_,fun j hj=>(h2 j hj).1,fun j hj=>(h2 j hj).2,fun j o hj g want hg=>?_⟩
 ·exact h1 (o,j) (by rw [List.mem_zipIdx_iff_getElem?];exact hj) e he
 ·have:=h3 o (List.mem_of_getElem? hj)
  rw [hg] at this;simpa using this
theorem Wh {L:List Oper} {hs:List (Nat×OH)} {bl:Nat} (hd:Txt L hs bl) {j i:Nat} {o:Oper} (hj:L[j]?=some o) (h:((BZ L).getD j 0).testBit i=true):i<j:=by
 have hcl:PC L (fun e=>decide (e<j)):=fun j' o' hj' hD e he=>by
  have:=hd.edge j' o' hj' e he
  simp only [decide_eq_true_eq] at hD ⊢;omega
 have:=QQ hcl hj (fun e he=>by simpa using hd.edge j o hj e he) h
 simpa using this
structure Chk1 (n:Nat) (dst:Option Nat) (oh:OH) (M M':S) (rs hS hB:List Nat):Prop where
 off:∀ s,s<n→s ∉ oh.ts→dst≠some s∧2 * s ∉ rs∧∀ r∈rs,(M.slot s).hitH r=false
 ts:∀ s∈oh.ts,s<n∧s ∉ hS∧(∀ h∈hS,(M'.slot s).hitR (2 * h)=false)∧(∀ h∈hB,(M'.slot s).hitR (2 * h+1)=false)∧((M'.slot s).isDat=true→2 * s∈rs)
 odd:∀ k,2 * k+1∈rs→k∈oh.bs
 bs:∀ k∈oh.bs,2 * k+1∈rs∧k ∉ hB
 dst:∀ d,dst=some d→d<n
 hdr:∀ k∈hB,∀ s,s<n→(M.slot s).hk≠some k
 len:M'.sl.length=n
theorem UM {n:Nat} {dst:Option Nat} {oh:OH} {M M':S} {rs hS hB:List Nat} (h:Mq n dst oh M M' rs hS hB=true):Chk1 n dst oh M M' rs hS hB:=by
 simp only [Mq,Bool.and_eq_true,List.all_eq_true,List.mem_range,Bool.or_eq_true,Bool.not_eq_true',List.contains_iff_mem,decide_eq_true_eq,beq_eq_false_iff_ne,beq_iff_eq] at h;obtain⟨⟨⟨⟨⟨⟨h1,h2⟩,h3⟩,h4⟩,h5⟩,h6⟩,h7⟩:=h;have hno:∀ {l:List Nat} {x:Nat},l.contains x=false→x ∉ l:=fun hc hm=>by
  have:List.contains _ _=true:=List.contains_iff_mem.2 hm
  rw [hc] at this;cases this
 refine⟨fun s hs hts=>?_,fun s hs=>?_,fun k hk=>?_,fun k hk=>?_,fun d hd=>?_,fun k hk s hs hh=>?_,h7⟩
 ·rcases h1 s hs with h | ⟨⟨a,b⟩,c⟩
  ·exact absurd h hts
  ·exact⟨a,hno b,c⟩
 ·obtain⟨⟨⟨⟨a,b⟩,d⟩,e⟩,f⟩:=h2 s hs;refine⟨a,hno b,d,e,fun hd=>?_⟩
  rcases f with f | f
  ·rw [hd] at f;cases f
  ·exact f
 ·rcases h3 _ hk with h | h
  ·omega
  ·rwa [show(2 * k+1) / 2=k by omega] at h
 ·obtain⟨a,b⟩:=h4 k hk;exact⟨a,hno b⟩
 ·subst hd;simpa using h5
 ·have:=h6 k hk s hs
  rw [hh] at this;simp at this
section
variable {P:Program} {τ:List TE} (hτ:TabOk P τ) {Φ:List Cal} {w0:World} {G0:Gh} {np:Nat} (hΦ:Ld P Φ w0 G0.own)
include hτ hΦ
theorem ZS {ops:Array Oper} {hs:List (Nat×OH)} {n bl:Nat} {Q:Exit→Act→World→Prop} {σ0:S} {ents:Nat→Ent} (hd:Txt ops.toList hs bl) (h0:Fits n bl σ0) (hE:∀ i,EFits n bl (ents i))
 (hF:∀ i o,ops.toList[i]?=some o→OpF τ Φ np n ops.toList (BZ ops.toList) hs i o (stD σ0 ents (fun _=>true) i) (ents i))
 (hC:∀ j,j<ops.size→∀ s∈Da ops.size (BZ ops.toList) hs j,∀ r∈(ents j).rs,(σ0.slot s).hitH r=false∧∀ i,i<ops.size→s∈(ents i).ts→((ents i).M.slot s).hitH r=false)
 (hfin:∀ a w G,Rel w0 G0 np (stD σ0 ents (fun _=>true) ops.size) a w G→Q .normal a w):
 ∀ (fuel:Nat) (listed:Array Bool) (D:Nat→Bool) (a:Act) (w:World) (G:Gh),listed.size=ops.size→(∀ j,j<ops.size→listed.getD j false=D j)→PC ops.toList D →
  Rel w0 G0 np (stD σ0 ents D ops.size) a w G→(List.range ops.size).countP (fun i=>!D i)=fuel→wpAny P .any ops Q fuel listed a w:=by
 have hN:ops.toList.length=ops.size:=Array.length_toList
 intro fuel
 induction fuel with
 | zero=>
  intro listed D a w G hsz hD hcl hR hcnt;have hall:∀ i,i<ops.size→D i=true:=fun i hi=>by
   rw [List.countP_eq_zero] at hcnt;simpa using hcnt i (by simpa using hi)
  refine⟨?_,hfin a w G (by rw [← NN (D:=D) ops.size hall];exact hR)⟩
  rw [Region.ready,List.filter_eq_nil_iff];intro j hj;simp only [List.mem_range] at hj;have:=hD j hj
  rw [hall j hj] at this;have hjl:j<listed.size:=by omega
  have e2:listed.getD j true=true:=by
   rw [Array.getD_eq_getD_getElem?,Array.getElem?_eq_getElem hjl] at this ⊢;simpa using this
  simp [e2]
 | succ fuel ih=>
  intro listed D a w G hsz hD hcl hR hcnt;have hgd:∀ j,j<ops.size→∀ d,listed.getD j d=D j:=fun j hj d=>by
   have:=hD j hj
   rw [Array.getD_eq_getD_getElem?,Array.getElem?_eq_getElem (by omega)] at this ⊢;simpa using this
  obtain⟨m,hm1,hm2,hm3⟩:∃ m,m<ops.size∧D m=false∧∀ i,i<m→D i=true:=by
   have hex:∃ m,m<ops.size∧D m=false:=by
    have:0<(List.range ops.size).countP (fun i=>!D i):=by omega
    obtain⟨m,h1,h2⟩:=List.countP_pos_iff.1 this;exact⟨m,by simpa using h1,by simpa using h2⟩
   obtain⟨m,h1,h2⟩:=hex
   induction m using Nat.strongRecOn with
   | _ m ihm=>
    by_cases hs:∃ i,i<m∧D i=false
    ·obtain⟨i,h3,h4⟩:=hs;exact ihm i h3 (by omega) h4
    ·exact⟨m,h1,h2,fun i hi=>by
      cases hDi:D i with
      | true=>rfl
      | false=>exact absurd ⟨i,hi,hDi⟩ hs⟩
  have hmr:m∈Region.ready .any ops listed:=by
   rw [mem_ready];refine⟨by rw [hgd m hm1 true];exact hm2,ops[m],Array.getElem?_eq_getElem hm1,fun ed hed hb=>?_⟩
   have:=hd.edge m ops[m] (by simp [hm1]) ed.on (List.mem_map.2 ⟨ed,List.mem_filter.2 ⟨by simpa using hed,hb⟩,rfl⟩)
   rw [hgd _ (by omega) false];exact hm3 _ this
  refine⟨(fun he=>by rw [he] at hmr;cases hmr),fun j hj=>?_⟩
  rw [mem_ready] at hj;obtain⟨hj1,o,hoj,hall'⟩:=hj;have hjl:j<ops.size:=(Array.getElem?_eq_some_iff.1 hoj).1
  have hLj:ops.toList[j]?=some o:=by simpa using hoj
  rw [hgd j hjl true] at hj1;have hedge:∀ e∈Hq o,D e=true:=fun e he=>by
   obtain⟨ed,hed,rfl⟩:=List.mem_map.1 he;obtain⟨hed1,hed2⟩:=List.mem_filter.1 hed;have h3:=hall' ed (by simpa using hed1) hed2
   have hedl:=hd.edge j o hLj ed.on he
   rw [hgd _ (by omega) false] at h3;exact h3
  have hanc:∀ i,((BZ ops.toList).getD j 0).testBit i=true→D i=true:=fun i hi=>QQ hcl hLj hedge hi
  have hdes:∀ i,i<ops.size→((BZ ops.toList).getD i 0).testBit j=true→D i=false∧j<i:=fun i hi hb=>by
   have hLi:ops.toList[i]?=some ops[i]:=by simp [hi]
   refine⟨?_,Wh hd hLi hb⟩
   cases hDi:D i with
   | false=>rfl
   | true=>
    have:=QQ hcl hLi (fun e he=>hcl i _ hLi hDi e he) hb
    rw [hj1] at this;cases this
  obtain⟨fts,fbs,fchk,M1,fraw,fgd⟩:=hF j o hLj;rw [hN] at fchk fraw;have ck:=UM fchk
  let T:Nat→Bool:=fun _=>true
  let D':Nat→Bool:=fun i=>D i || decide (i=j)
  have hD'j:D' j=true:=by simp [D']
  have hD'n:∀ i,i≠j→D' i=D i:=fun i hi=>by simp [D',hi]
  have hT:stD σ0 ents T j=stD σ0 ents (fun e=>decide (e<j)) ops.size:=by
   have e1:ops.size=j+(ops.size - j):=by omega
   rw [e1,Ql h0 hE (fun i h1 _=>by simp;omega)];exact NN j (fun i hi=>by simp [T,hi])
  have hfitD:=(Cw h0 hE D ops.size).1
  have hfitT:=(Cw h0 hE T j).1
  have hHB:∀ k∈Fz ops.size (BZ ops.toList) hs j,k<bl:=fun k hk=>by
   obtain⟨i,h1,_,h3⟩:=Oa.1 hk;exact hd.bs i (by rw [hN];exact h1) k h3
  have tsE:∀ i,i<ops.size→(ents i).ts=(CQ hs i).ts∧(ents i).bs=(CQ hs i).bs:=fun i hi=>by
   have:=hF i ops[i] (by simp [hi])
   exact⟨this.ts,this.bs⟩
  have hord:∀ i,i<ops.size→KX (BZ ops.toList) i j=true→D i=decide (i<j):=fun i hi ho=>by
   simp only [KX,Bool.or_eq_true,beq_iff_eq] at ho;rcases ho with(rfl | ho) | ho
   ·rw [hj1];simp
   ·rw [hanc i ho];have:=Wh hd hLj ho
    simp [this]
   ·obtain⟨h1,h2⟩:=hdes i hi ho;rw [h1];simp;omega
  obtain⟨mf1,mf2,mf3,mf4⟩:=S.hideSB_ok hfitD (hS:=Da ops.size (BZ ops.toList) hs j) hHB;obtain⟨tf1,tf2,tf3,tf4⟩:=S.hideSB_ok hfitT (hS:=Da ops.size (BZ ops.toList) hs j) hHB;have hMM:(stD σ0 ents T j).hideSB (Da ops.size (BZ ops.toList) hs j) (Fz ops.size (BZ ops.toList) hs j)=(stD σ0 ents D ops.size).hideSB (Da ops.size (BZ ops.toList) hs j) (Fz ops.size (BZ ops.toList) hs j):=by
   refine S.ext2 (by rw [tf1.sl,mf1.sl]) (fun s=>?_) (by rw [tf1.bx,mf1.bx]) (fun k=>?_) (by rw [tf2,mf2,(Cw h0 hE D ops.size).2,(Cw h0 hE T j).2])
   ·rw [tf3,mf3];split
    ·rfl
    ·rename_i hns;rw [hT];refine Oq h0 hE _ (fun i hi hsi=>(hord i hi ?_).symm)
     cases ho:KX (BZ ops.toList) i j with
     | true=>rfl
     | false=>exact absurd (TB.2 ⟨i,hi,ho,by rw [← (tsE i hi).1];exact hsi⟩) hns
   ·rw [tf4,mf4];split
    ·rfl
    ·rename_i hns;rw [hT];refine Qk h0 hE _ (fun i hi hsi=>(hord i hi ?_).symm)
     cases ho:KX (BZ ops.toList) i j with
     | true=>rfl
     | false=>exact absurd (Oa.2 ⟨i,hi,ho,by rw [← (tsE i hi).2];exact hsi⟩) hns
  rw [hMM] at ck fraw;have hRM:Rel w0 G0 np ((stD σ0 ents D ops.size).hideSB (Da ops.size (BZ ops.toList) hs j) (Fz ops.size (BZ ops.toList) hs j)) a w G:=by
   refine hR.hide2 (by rw [mf1.sl,hfitD.sl]) (fun s=>?_) (fun k=>?_) (fun s k hsk=>?_)
   ·rw [mf3];split
    ·exact .inl rfl
    ·exact .inr rfl
   ·rw [mf4];split
    ·exact .inl rfl
    ·exact .inr rfl
   ·have hsn:s<n:=by
     rcases Nat.lt_or_ge s n with h | h
     ·exact h
     ·simp only [S.slot,List.getD_eq_getElem?_getD] at hsk;rw [List.getElem?_eq_none (by rw [mf1.sl];exact h)] at hsk;cases hsk
    rw [mf4];split
    ·rename_i hk;exact absurd hsk (ck.hdr k hk s hsn)
    ·rfl
  -- the symbolic step leaves what is not its own
  have hM0:Sf ((stD σ0 ents D ops.size).hideSB (Da ops.size (BZ ops.toList) hs j) (Fz ops.size (BZ ops.toList) hs j)) M1 o.dst (ents j).rs∧∀ d,o.dst=some d→2 * d∈(ents j).rs:=by
   unfold Jn at fraw;have hsk:∀ {b:Prop} [Decidable b],(b→GC ((stD σ0 ents D ops.size).hideSB (Da ops.size (BZ ops.toList) hs j) (Fz ops.size (BZ ops.toList) hs j)) o.dst=true)→(if b then some ((((stD σ0 ents D ops.size).hideSB (Da ops.size (BZ ops.toList) hs j) (Fz ops.size (BZ ops.toList) hs j))).skip o.dst,OM o.dst) else none)=some (M1,(ents j).rs)→Sf ((stD σ0 ents D ops.size).hideSB (Da ops.size (BZ ops.toList) hs j) (Fz ops.size (BZ ops.toList) hs j)) M1 o.dst (ents j).rs∧∀ d,o.dst=some d→2 * d∈(ents j).rs:=fun hbd hh=>by
    split at hh
    ·rename_i hb;have hbd':=hbd hb
     simp only [Option.some.injEq,Prod.mk.injEq] at hh;obtain⟨rfl,hr⟩:=hh;rw [← hr];cases hod:o.dst with
     | none=>exact⟨Sf.refl _ _ _,fun d hd=>by cases hd⟩
     | some d=>
      rw [hod] at hbd';exact⟨S.newA_sf _ _ _ [] (by simpa [GC] using hbd'),fun d' hd'=>by cases hd';simp [OM]⟩
    ·cases hh
   split at fraw
   ·exact Ot fraw
   ·split at fraw
    ·rename_i v ds src hv;split at fraw
     ·cases v
      ·exact hsk (fun h=>h.1) fraw
      ·exact Ot fraw
     ·cases v
      ·exact Ot fraw
      ·exact hsk (fun h=>h.1) fraw
    ·exact hsk (fun h=>h.2.1) fraw
  have hM1:=hM0.1
  have hdrs:=hM0.2
  have hsf:(∀ s d,((stD σ0 ents D ops.size).hideSB (Da ops.size (BZ ops.toList) hs j) (Fz ops.size (BZ ops.toList) hs j)).slot s=.dat d→o.dst≠some s→2 * s ∉ (ents j).rs→(ents j).M.slot s=.dat d) ∧
   (∀ k,2 * k+1 ∉ (ents j).rs→(ents j).M.box k=((stD σ0 ents D ops.size).hideSB (Da ops.size (BZ ops.toList) hs j) (Fz ops.size (BZ ops.toList) hs j)).box k):=by
   rcases fgd with e | ⟨_,d,v,ds,src,hdd,hsl,e⟩
   ·rw [e];exact⟨hM1.dat,hM1.box⟩
   ·rw [e];refine⟨fun s D0 h1 h2 h3=>?_,fun k hk=>?_⟩
    ·rw [S.setSlot_slot,if_neg (fun hh=>h2 (by rw [hdd,hh.1]))];exact hM1.dat s D0 h1 h2 h3
    ·rw [S.setSlot_box];exact hM1.box k hk
  refine ZZ hτ hΦ hoj (hd.gd j o hLj) hRM fraw (fun v w' G' hR1 hFt=>?_)
  have hR2:=fgd.ok hR1
  have hslotD':∀ s,s ∉ (ents j).ts→(stD σ0 ents D' ops.size).slot s=(stD σ0 ents D ops.size).slot s:=fun s hs=>Oq h0 hE _ (fun i _ hi=>hD'n i (fun e=>hs (by rw [← e];exact hi)))
  have hboxD':∀ k,k ∉ (ents j).bs→(stD σ0 ents D' ops.size).box k=(stD σ0 ents D ops.size).box k:=fun k hk=>Qk h0 hE _ (fun i _ hi=>hD'n i (fun e=>hk (by rw [← e];exact hi)))
  have hlater:∀ i,j<i→i<ops.size→KX (BZ ops.toList) i j=true→D' i=false:=fun i h1 h2 ho=>by
   rw [hD'n i (by omega),hord i h2 ho];simp;omega
  have hlastS:∀ s,s∈(ents j).ts→(stD σ0 ents D' ops.size).slot s=(ents j).M.slot s:=fun s hs=>by
   refine TX h0 hE hD'j hs _ hjl (fun i h1 h2 h3=>hlater i h1 h2 ?_)
   cases ho:KX (BZ ops.toList) i j with
   | true=>rfl
   | false=>exact absurd (TB.2 ⟨i,h2,ho,by rw [← (tsE i h2).1];exact h3⟩) (ck.ts s (by rw [← fts];exact hs)).2.1
  have hlastB:∀ k,k∈(ents j).bs→(stD σ0 ents D' ops.size).box k=(ents j).M.box k:=fun k hk=>by
   refine RZ h0 hE hD'j hk _ hjl (fun i h1 h2 h3=>hlater i h1 h2 ?_)
   cases ho:KX (BZ ops.toList) i j with
   | true=>rfl
   | false=>exact absurd (Oa.2 ⟨i,h2,ho,by rw [← (tsE i h2).2];exact h3⟩) (ck.bs k (by rw [← fbs];exact hk)).2
  have hfitD':=(Cw h0 hE D' ops.size).1
  have hR3:Rel w0 G0 np (stD σ0 ents D' ops.size) (a.put o.dst v) w' G':=by
   refine hR.restore hR2 hFt (by rw [hfitD'.sl,hfitD.sl]) (fun d hdd=>by rw [hfitD.sl];exact ck.dst d hdd) hdrs (fun i=>?_) (fun k=>?_)
   ·by_cases hin:i<n
    ·by_cases hits:i∈(ents j).ts
     ·left;rw [hlastS i hits];obtain⟨c1,c2,c3,c4,c5⟩:=ck.ts i (by rw [← fts];exact hits);refine⟨rfl,c5,fun j' hh d hdat=>?_,fun k hh=>?_⟩
      ·have hnh:j' ∉ Da ops.size (BZ ops.toList) hs j:=fun hm=>by rw [c3 j' hm] at hh;cases hh
       by_cases hj't:j'∈(ents j).ts
       ·rw [hlastS j' hj't] at hdat;exact hdat
       ·rw [hslotD' j' hj't] at hdat;have hj'n:j'<n:=by
         rcases Nat.lt_or_ge j' n with h | h
         ·exact h
         ·simp only [S.slot,List.getD_eq_getElem?_getD] at hdat;rw [List.getElem?_eq_none (by rw [hfitD.sl];exact h)] at hdat;cases hdat
        obtain⟨o1,o2,o3⟩:=ck.off j' hj'n (by rw [← fts];exact hj't);exact hsf.1 j' d (by rw [mf3,if_neg hnh];exact hdat) o1 o2
      ·have hnh:k ∉ Fz ops.size (BZ ops.toList) hs j:=fun hm=>by rw [c4 k hm] at hh;cases hh
       by_cases hkb:k∈(ents j).bs
       ·exact hlastB k hkb
       ·rw [hboxD' k hkb,hsf.2 k (fun hm=>hkb (by rw [fbs];exact ck.odd k hm)),mf4,if_neg hnh]
     ·right;obtain⟨o1,o2,o3⟩:=ck.off i hin (by rw [← fts];exact hits);refine⟨hslotD' i hits,o1,o2,fun r hr=>?_⟩
      by_cases hh:i∈Da ops.size (BZ ops.toList) hs j
      ·obtain⟨c1,c2⟩:=hC j hjl i hh r hr;rcases TW h0 hE (D:=D) (s:=i) ops.size with e | ⟨q,q1,q2,q3,q4⟩
       ·rw [e];exact c1
       ·rw [q4];exact c2 q q1 q3
      ·have:=o3 r hr
       rw [mf3,if_neg hh] at this;exact this
    ·left;have e1:(stD σ0 ents D' ops.size).slot i=.none:=by
      simp only [S.slot,List.getD_eq_getElem?_getD];rw [List.getElem?_eq_none (by rw [hfitD'.sl];omega)];rfl
     have e2:(ents j).M.slot i=.none:=by
      simp only [S.slot,List.getD_eq_getElem?_getD];rw [List.getElem?_eq_none (by rw [ck.len];omega)];rfl
     rw [e1,e2];exact⟨rfl,(fun h=>by cases h),(fun j' h=>by simp [AV.hitR,AV.hitH,AV.hits] at h),(fun k h=>by simp [AV.hitR,AV.hitH,AV.hits] at h)⟩
   ·by_cases hkb:k∈(ents j).bs
    ·left;exact⟨hlastB k hkb,(ck.bs k (by rw [← fbs];exact hkb)).1⟩
    ·right;exact⟨hboxD' k hkb,fun hm=>hkb (by rw [fbs];exact ck.odd k hm)⟩
  refine ih _ D' _ _ G' (by simpa using hsz) (fun i hi=>?_) (fun j' o' hj' hDj e he=>?_) hR3 ?_
  ·by_cases e:j=i
   ·subst e;rw [QZ _ (by omega)];simp [D']
   ·rw [getD_set_ne false e,hD i hi];simp [D'];intro h;exact absurd h.symm e
  ·simp only [D',Bool.or_eq_true,decide_eq_true_eq] at hDj ⊢;rcases hDj with h1 | rfl
   ·exact .inl (hcl j' o' hj' h1 e he)
   ·rw [hLj] at hj';obtain⟨rfl⟩:=hj';exact .inl (hedge e he)
  ·have:=PG ops.size j (fun i=>!D i) (fun i=>!D' i) hjl (by simp [hj1]) (by simp [D']) (fun i hi=>by simp [D',hi])
   omega
end
theorem Rel.drawn {w0:World} {G0:Gh} {np:Nat} {σ0:S} {a:Act} {w:World} {G:Gh} (hR0:Rel w0 G0 np σ0 a w G):Rel w0 G0 np σ0 a { w with drawn:=w.drawn+1 } G:=by
 have hF2:∀ {i av v},SlotR G σ0 a.tmps w i av v→SlotR G σ0 a.tmps { w with drawn:=w.drawn+1 } i av v:=fun {i av v} hS=>by
  refine SlotR.frame (rs:=[]) (w:=w) (w':={ w with drawn:=w.drawn+1 }) (G:=G) (G':=G) (σ:=σ0) (σ':=σ0) (tmps:=a.tmps) (tmps':=a.tmps) ⟨Nat.le_refl _,fun b hb _=>⟨hb,rfl⟩,fun b r s hb _=>⟨hb,rfl⟩,fun b hb=>⟨hb,rfl⟩⟩ (fun r d L cs _ hr=>?_) (fun p d' L' cs' _ hm=>by cases hm) (fun r d L cs hr=>(hR0.root hr).1) (fun k hk=>⟨rfl,?_⟩) (fun _=>by simp) (fun r hr=>by cases hr) hS (fun _ _=>rfl) (fun _ _=>⟨rfl,rfl,rfl⟩)
  ·cases hr with
   | slot i d cs hs hv=>exact .slot i d cs hs hv
   | box k d cs hb hl hc=>exact .box k d cs hb hl hc
   | hdr k d hb=>exact .hdr k d hb
  ·exact hS.hk hk
 refine { os:=hR0.os,tape:=hR0.tape,output:=hR0.output,size:=hR0.size,live:=hR0.live,keep:=hR0.keep,frn:=hR0.frn,ext:=hR0.ext,slots:=fun i=>hF2 (hR0.slots i),boxes:=fun k bx hb=>?_,tmps:=hR0.tmps,defers:=hR0.defers }
 obtain⟨b,d⟩:=bx;have hB:=hR0.boxes k _ hb
 cases b with
 | true=>
  obtain⟨arr,e1,e2,e3,e4,e5,cs,e6,e7⟩:=hB;exact⟨arr,e1,e2,e3,e4,e5,cs,RepO.move (w:=w) (w':={ w with drawn:=w.drawn+1 }) (fun b h1 h2=>⟨h1,h2,rfl⟩) e6 (fun b s hb=>⟨hb,rfl⟩),e7⟩
 | false=>
  obtain⟨e1,e2⟩:=hB;exact⟨e1,RepO.move (w:=w) (w':={ w with drawn:=w.drawn+1 }) (fun b h1 h2=>⟨h1,h2,rfl⟩) e2 (fun b s hb=>⟨hb,rfl⟩)⟩
section
variable {P:Program} {τ:List TE} (hτ:TabOk P τ) {Φ:List Cal} {w0:World} {G0:Gh} {np:Nat} (hΦ:Ld P Φ w0 G0.own)
include hτ hΦ
theorem Vo {α:Type} (hmix:P.follows .mixedOrders=true) {ops:Array Oper} {id:Nat} {hs:List (Nat×OH)} {n:Nat} {σ:S} {k:S→Option α} {r:α} {Q:Exit→Act→World→Prop} {a:Act} {w:World} {G:Gh} (h:Rel w0 G0 np σ a w G)
 (hden:NQ τ Φ np n ops.toList hs σ k=some r) (hQ:∀ a w,(∃ σ G,Rel w0 G0 np σ a w G∧k σ=some r)→Q .normal a w):(Code.region id ops true).wp P Q a w:=by
 unfold NQ at hden;split at hden
 ·rename_i hcd;obtain⟨hn,OV⟩:=hcd;have hN:ops.toList.length=ops.size:=Array.length_toList
  have hd:=fi OV
  have hbox:∀ k,(σ.padB (Gv ops.toList.length hs)).box k=σ.box k:=fun k=>by
   simp only [S.padB,S.box,List.getD_eq_getElem?_getD]
   by_cases hk:k<σ.bx.length
   ·rw [List.getElem?_append_left hk]
   ·rw [List.getElem?_append_right (by omega),List.getElem?_eq_none (l:=σ.bx) (by omega),List.getElem?_replicate];split<;>rfl
  have hR0:Rel w0 G0 np (σ.padB (Gv ops.toList.length hs)) a w G:=h.hide2 rfl (fun i=>.inr rfl) (fun k=>.inr (hbox k)) (fun i k _=>hbox k)
  have h0:Fits n (σ.padB (Gv ops.toList.length hs)).bx.length (σ.padB (Gv ops.toList.length hs)):=⟨hn,rfl⟩
  obtain⟨Es,σs,a1,a2,a3,a4⟩:=Wy _ 0 _ _ hden;simp only [Nat.zero_add,List.nil_append] at a3 a4;split at a4
  ·rename_i hc2
   let ents:Nat→Ent:=fun i=>Es.getD i ⟨[],[],[],σ⟩
   have hent:∀ i e,Es[i]?=some e→ents i=e:=fun i e he=>by simp [ents,he]
   have hof:∀ i o,ops.toList[i]?=some o→OpF τ Φ np n ops.toList (BZ ops.toList) hs i o (σs i) (ents i)∧σs (i+1)=(σs i).over (ents i).M (ents i).ts (ents i).bs:=fun i o hi=>by
    obtain⟨e,e1,e2,e3⟩:=a3 i o hi;rw [hent i e e1];exact⟨e2,e3⟩
   have hE:∀ i,EFits n (σ.padB (Gv ops.toList.length hs)).bx.length (ents i):=fun i=>by
    by_cases hi:i<ops.toList.length
    ·obtain⟨f,_⟩:=hof i _ (List.getElem?_eq_getElem hi);have ck:=UM f.chk
     exact⟨fun s hs=>(ck.ts s (by rw [← f.ts];exact hs)).1,fun k hk=>hd.bs i hi k (by rw [← f.bs];exact hk)⟩
    ·have:ents i=⟨[],[],[],σ⟩:=by simp only [ents,List.getD_eq_getElem?_getD];rw [List.getElem?_eq_none (by omega)];rfl
     rw [this];exact⟨(fun s hs=>by cases hs),(fun k hk=>by cases hk)⟩
   have hσs:∀ i,i≤ops.toList.length→σs i=stD (σ.padB (Gv ops.toList.length hs)) ents (fun _=>true) i:=by
    intro i
    induction i with
    | zero=>intro _;exact a2
    | succ i ih=>
     intro hi;obtain⟨_,b2⟩:=hof i _ (List.getElem?_eq_getElem (show i<ops.toList.length by omega));rw [b2,ih (by omega)];rfl
   have hF:∀ i o,ops.toList[i]?=some o→OpF τ Φ np n ops.toList (BZ ops.toList) hs i o (stD (σ.padB (Gv ops.toList.length hs)) ents (fun _=>true) i) (ents i):=fun i o hi=>by
    obtain⟨b1,_⟩:=hof i o hi;rw [hσs i (by have:=(List.getElem?_eq_some_iff.1 hi).1;omega)] at b1;exact b1
   have hC:∀ j,j<ops.size→∀ s∈Da ops.size (BZ ops.toList) hs j,∀ r∈(ents j).rs,((σ.padB (Gv ops.toList.length hs)).slot s).hitH r=false∧∀ i,i<ops.size→s∈(ents i).ts→((ents i).M.slot s).hitH r=false:=by
    intro j hj s hs' r hr;simp only [Vl,List.all_eq_true,Bool.and_eq_true,Bool.or_eq_true,Bool.not_eq_true'] at hc2;have hjE:j<Es.length:=by omega
    have hj':=hc2 (Es[j],j) (by rw [List.mem_zipIdx_iff_getElem?];exact List.getElem?_eq_getElem hjE)
    rw [hN] at hj';have hej:=hent j _ (List.getElem?_eq_getElem hjE)
    obtain⟨c1,c2⟩:=hj' s hs' r (by rw [← hej];exact hr);refine⟨c1,fun i hi hsi=>?_⟩
    have hiE:i<Es.length:=by omega
    have hei:=hent i _ (List.getElem?_eq_getElem hiE)
    rw [hei] at hsi ⊢;rcases c2 _ (List.getElem_mem hiE) with h1 | h1
    ·have:Es[i].ts.contains s=true:=List.contains_iff_mem.2 hsi
     rw [h1] at this;cases this
    ·exact h1
   refine wp_region_any hmix ?_
   refine ZS hτ hΦ hd h0 hE hF hC (fun a w G hR=>hQ a w ⟨_,G,hR,?_⟩) ops.size (Array.replicate ops.size false) (fun _=>false) a _ G (by simp) (fun j hj=>by simp only [Array.getD_eq_getD_getElem?,Array.getElem?_replicate];split<;>rfl) (fun j o _ hD=>by cases hD) ?_ ?_
   ·rw [hσs _ (Nat.le_refl _),hN] at a4;exact a4
   ·have:stD (σ.padB (Gv ops.toList.length hs)) ents (fun _=>false) ops.size=σ.padB (Gv ops.toList.length hs):=by
     have:=Ql h0 hE (D:=fun _=>false) (m:=0) (k:=ops.size) (fun _ _ _=>rfl)
     rw [Nat.zero_add] at this;exact this
    rw [this];exact hR0.drawn
   ·have key:∀ m,(List.range m).countP (fun _=>!false)=m:=fun m=>by
     rw [List.countP_eq_length.2 (by simp)];simp
    exact key _
  ·cases a4
 ·cases hden
end
theorem SU {α:Type} {f g:α→Bool}:∀ {l:List α},(∀ x∈l,f x=g x)→l.all f=l.all g
 | [],_=>rfl
 | x::l,h=>by rw [List.all_cons,List.all_cons,h x (List.mem_cons_self ..),SU fun y hy=>h y (List.mem_cons_of_mem _ hy)]
def Jo (m:Nat):Nat→List AV→List AV
 | _,[]=>[]
 | s,a::l=>(bif m.testBit s then .none else a)::Jo m (s+1) l
def PT (hs:List Nat):Nat:=hs.foldl (fun m s=>m ||| 2 ^ s) 0
theorem LE (m:Nat):∀ (l:List AV) (k:Nat),(Jo m k l).length=l.length
 | [],_=>rfl
 | a::l,k=>by simp [Jo,LE m l]
theorem RL (m:Nat):∀ (l:List AV) (k i:Nat) (h:i<(Jo m k l).length),(Jo m k l)[i]=bif m.testBit (k+i) then .none else l[i]'(by rw [LE] at h;exact h)
 | a::l,k,0,_=>rfl
 | a::l,k,i+1,h=>by
  simp only [Jo,List.getElem_cons_succ];rw [RL m l (k+1) i,show k+1+i=k+(i+1) by omega]
theorem TA:∀ (hs:List Nat) (m s:Nat),(hs.foldl (fun m s=>m ||| 2 ^ s) m).testBit s=(m.testBit s || hs.contains s)
 | [],m,s=>by simp
 | h::hs,m,s=>by
  rw [List.foldl_cons,TA hs,Nat.testBit_or,Nat.testBit_two_pow,List.contains_cons]
  by_cases e:h=s
  ·subst e;simp
  ·have e':¬ s=h:=fun x=>e x.symm
   have e2:(s == h)=false:=by simp [e']
   simp [e,e2]
theorem XS (hs:List Nat) (s:Nat):(PT hs).testBit s=hs.contains s:=by
 unfold PT;rw [TA];simp
theorem Ns:∀ (hs:List Nat) (σ:S),(σ.emptyA hs).bx=σ.bx∧(σ.emptyA hs).lk=σ.lk
 | [],_=>⟨rfl,rfl⟩
 | h::hs,σ=>Ns hs (σ.setSlot h .none)
theorem Tr (σ:S) (hs:List Nat):(⟨Jo (PT hs) 0 σ.sl,σ.bx,σ.lk⟩:S)=σ.emptyA hs:=by
 obtain⟨h1,h2⟩:=Ns hs σ;have h3:Jo (PT hs) 0 σ.sl=(σ.emptyA hs).sl:=by
  refine List.ext_getElem (by rw [LE,S.emptyA_len]) fun i a b=>?_
  have hi:i<σ.sl.length:=by rw [LE] at a;exact a
  have:=S.emptyA_slot hs σ i
  simp only [S.slot,List.getD_eq_getElem?_getD,List.getElem?_eq_getElem b,List.getElem?_eq_getElem hi,Option.getD_some] at this;rw [RL,this,Nat.zero_add,XS]
  by_cases hm:i∈hs
  ·rw [if_pos hm,List.contains_iff_mem.2 hm];rfl
  ·rw [if_neg hm,show hs.contains i=false from by rw [← Bool.not_eq_true,List.contains_iff_mem];exact hm];rfl
 rw [h3,← h1,← h2]
def ST (f:Nat→AV→Bool):Nat→List AV→Bool
 | _,[]=>true
 | s,a::l=>(bif a.isN then true else f s a) && ST f (s+1) l
theorem UH {f:Nat→AV→Bool}:∀ {l:List AV} {k:Nat},ST f k l=true→∀ i,i<l.length→l.getD i .none=.none∨f (k+i) (l.getD i .none)=true
 | [],_,_,i,hi=>by simp at hi
 | a::l,k,h,0,_=>by
  simp only [ST,Bool.and_eq_true] at h;simp only [List.getD_cons_zero];have h1:=h.1
  cases a<;>simp only [AV.isN,cond_true,cond_false] at h1<;>first | exact .inl rfl | exact .inr h1
 | a::l,k,h,i+1,hi=>by
  simp only [ST,Bool.and_eq_true] at h;simp only [List.getD_cons_succ];have:=UH h.2 i (by simpa using hi)
  rwa [show k+1+i=k+(i+1) by omega] at this
def Rq (n:Nat) (dst:Option Nat) (oh:OH) (M M':S) (rs hS hB:List Nat):Bool:=
 decide (M.sl.length=n) && ST (fun s av=>(oh.ts.contains s || rs.all fun r=>!av.hitH r) && hB.all fun h=>!(av.hk == some h)) 0 M.sl &&
  (oh.ts.all fun s=>decide (s<n) && !hS.contains s && (hS.all fun h=>!(M'.slot s).hitR (2 * h)) && (hB.all fun h=>!(M'.slot s).hitR (2 * h+1)) && (!(M'.slot s).isDat || rs.contains (2 * s))) &&
  (rs.all fun r=>bif r % 2 == 0 then oh.ts.contains (r / 2) else oh.bs.contains (r / 2)) && (oh.bs.all fun k=>rs.contains (2 * k+1) && !hB.contains k) && (match dst with | some d=>oh.ts.contains d && decide (d<n) | none=>true) && decide (M'.sl.length=n)
theorem ZI {n:Nat} {dst:Option Nat} {oh:OH} {M M':S} {rs hS hB:List Nat} (h:Rq n dst oh M M' rs hS hB=true):Mq n dst oh M M' rs hS hB=true:=by
 unfold Rq at h;simp only [Bool.and_eq_true,decide_eq_true_eq] at h;obtain⟨⟨⟨⟨⟨⟨h1,h2⟩,h3⟩,h4⟩,h5⟩,h6⟩,h7⟩:=h;have hsl:∀ s,s<n→M.slot s=.none∨((oh.ts.contains s || rs.all fun r=>!(M.slot s).hitH r)=true∧(hB.all fun h=>!((M.slot s).hk == some h))=true):=fun s hs=>by
  have:=UH h2 s (by omega)
  simp only [Nat.zero_add,Bool.and_eq_true] at this;exact this
 have hev:∀ r∈rs,r % 2=0→r / 2∈oh.ts:=fun r hr he=>by
  have:=List.all_eq_true.1 h4 r hr
  rw [show(r % 2 == 0)=true by simp [he],cond_true] at this;exact List.contains_iff_mem.1 this
 unfold Mq;simp only [Bool.and_eq_true,decide_eq_true_eq];refine⟨⟨⟨⟨⟨⟨List.all_eq_true.2 fun s hs=>?_,h3⟩,List.all_eq_true.2 fun r hr=>?_⟩,h5⟩,?_⟩,List.all_eq_true.2 fun x hx=>List.all_eq_true.2 fun s hs=>?_⟩,h7⟩
 ·have hs':=List.mem_range.1 hs
  cases hc:oh.ts.contains s
  ·rw [Bool.false_or];have hn:¬ s∈oh.ts:=fun hm=>by rw [List.contains_iff_mem.2 hm] at hc;cases hc
   simp only [Bool.and_eq_true,Bool.not_eq_true'];refine⟨⟨?_,?_⟩,List.all_eq_true.2 fun r hr=>?_⟩
   ·cases dst with
    | none=>rfl
    | some d=>
     simp only [Bool.and_eq_true] at h6;have hd:=List.contains_iff_mem.1 h6.1
     simp only [beq_eq_false_iff_ne,ne_eq,Option.some.injEq]
     rintro rfl
     exact hn hd
   ·rw [← Bool.not_eq_true,List.contains_iff_mem];intro hm;have:=hev _ hm (by omega)
    rw [show 2 * s / 2=s by omega] at this;exact hn this
   ·rcases hsl s hs' with e | ⟨e,_⟩
    ·rw [e];rfl
    ·rw [hc,Bool.false_or] at e;exact List.all_eq_true.1 e r hr
  ·rfl
 ·have:=List.all_eq_true.1 h4 r hr
  cases he:r % 2 == 0
  ·rw [he,cond_false] at this;rw [Bool.false_or];exact this
  ·rfl
 ·cases dst with
  | none=>rfl
  | some d=>
   simp only [Bool.and_eq_true] at h6;exact h6.2
 ·rcases hsl s (List.mem_range.1 hs) with e | ⟨_,e⟩
  ·rw [e];rfl
  ·exact List.all_eq_true.1 e x hx
def Vk (n:Nat) (dst:Option Nat) (oh:OH) (M M':S) (rs hS hB:List Nat):Bool:=bif Rq n dst oh M M' rs hS hB then true else Mq n dst oh M M' rs hS hB
theorem ZH (n:Nat) (dst:Option Nat) (oh:OH) (M M':S) (rs hS hB:List Nat):Vk n dst oh M M' rs hS hB=Mq n dst oh M M' rs hS hB:=by
 unfold Vk;cases h:Rq n dst oh M M' rs hS hB
 ·rfl
 ·rw [ZI h];rfl
def AV.refs:AV→List Nat
 | .snp _ _ deps src=>deps++(match src with | some p=>[p.root] | Option.none=>[])
 | .ptr p=>[p.root]
 | .rp _ _ deps=>deps
 | .pp _ _ _ r=>[r]
 | .cp s=>[2 * s]
 | .hdr k=>[2 * k+1]
 | .vw k _=>[2 * k+1]
 | .mp k h=>[2 * k,2 * h]
 | .mr _ _ deps h=>deps++[2 * h]
 | .hs _ _ h=>[2 * h]
 | .hc k _=>[2 * k]
 | .lk k _ h _=>[2 * k,2 * h,2 * k+1]
 | .ap _ _ _ p=>[p.root]
 | _=>[]
theorem AV.hitH_refs {r:Nat} {av:AV} (h:¬ r∈av.refs):av.hitH r=false:=by
 cases av with
 | snp t x deps src=>
  simp only [AV.refs,List.mem_append,not_or] at h;simp only [AV.hitH,AV.hits,Bool.or_false];rw [Bool.or_eq_false_iff];refine⟨by rw [← Bool.not_eq_true,List.contains_iff_mem];exact h.1,?_⟩
  cases src with
  | none=>rfl
  | some p=>
   have:=h.2
   simp only [List.mem_singleton] at this;simp only [beq_eq_false_iff_ne];exact fun e=>this e.symm
 | rp t x deps=>
  simp only [AV.refs] at h;simp only [AV.hitH,AV.hits,Bool.or_false];rw [← Bool.not_eq_true,List.contains_iff_mem];exact h
 | ptr p=>simp only [AV.refs,List.mem_singleton] at h;simp only [AV.hitH,AV.hits,Bool.or_false,beq_eq_false_iff_ne];exact fun e=>h e.symm
 | pp t m x r'=>simp only [AV.refs,List.mem_singleton] at h;simp only [AV.hitH,AV.hits,Bool.or_false,beq_eq_false_iff_ne];exact fun e=>h e.symm
 | cp s=>simp only [AV.refs,List.mem_singleton] at h;simp only [AV.hitH,AV.hits,Bool.or_false,beq_eq_false_iff_ne];exact fun e=>h e.symm
 | hdr k=>simp only [AV.refs,List.mem_singleton] at h;simp only [AV.hitH,AV.hits,Bool.false_or,beq_eq_false_iff_ne];exact fun e=>h e.symm
 | vw k π=>simp only [AV.refs,List.mem_singleton] at h;simp only [AV.hitH,AV.hits,Bool.false_or,beq_eq_false_iff_ne];exact fun e=>h e.symm
 | mp k k'=>simp only [AV.refs,List.mem_cons,List.not_mem_nil,or_false,not_or] at h;simp only [AV.hitH,AV.hits,Bool.or_false,Bool.or_eq_false_iff,beq_eq_false_iff_ne];exact⟨fun e=>h.1 e.symm,fun e=>h.2 e.symm⟩
 | mr t x deps k=>
  simp only [AV.refs,List.mem_append,List.mem_singleton,not_or] at h;simp only [AV.hitH,AV.hits,Bool.or_false,Bool.or_eq_false_iff,beq_eq_false_iff_ne];exact⟨by rw [← Bool.not_eq_true,List.contains_iff_mem];exact h.1,fun e=>h.2 e.symm⟩
 | hc k n=>simp only [AV.refs,List.mem_singleton] at h;simp only [AV.hitH,AV.hits,Bool.or_false,beq_eq_false_iff_ne];exact fun e=>h e.symm
 | ap e t x p=>simp only [AV.refs,List.mem_singleton] at h;simp only [AV.hitH,AV.hits,Bool.or_false,beq_eq_false_iff_ne];exact fun e=>h e.symm
 | lk k o k' n=>simp only [AV.refs,List.mem_cons,List.not_mem_nil,or_false,not_or] at h;simp only [AV.hitH,AV.hits,Bool.or_false,Bool.or_eq_false_iff,beq_eq_false_iff_ne];exact⟨⟨fun e=>h.1 e.symm,fun e=>h.2.1 e.symm⟩,fun e=>h.2.2 e.symm⟩
 | hs t x k=>simp only [AV.refs,List.mem_singleton] at h;simp only [AV.hitH,AV.hits,Bool.or_false,beq_eq_false_iff_ne];exact fun e=>h e.symm
 | _=>rfl
theorem Xc {σ:S} {s r:Nat} (h:r∈(σ.slot s).refs):r∈σ.sl.flatMap AV.refs:=by
 rcases Nat.lt_or_ge s σ.sl.length with hs | hs
 ·simp only [S.slot,List.getD_eq_getElem?_getD,List.getElem?_eq_getElem hs,Option.getD_some] at h;exact List.mem_flatMap.2 ⟨_,List.getElem_mem hs,h⟩
 ·simp only [S.slot,List.getD_eq_getElem?_getD,List.getElem?_eq_none hs,Option.getD_none] at h;simp [AV.refs] at h
def Vm (N:Nat) (an:List Nat) (hs:List (Nat×OH)) (σ0:S) (L:List Ent):Bool:=
 FY (σ0.sl.flatMap AV.refs++L.flatMap fun e=>e.ts.flatMap fun s=>(e.M.slot s).refs) fun R=>L.zipIdx.all fun q=>(q.1.rs.all fun r=>!R.contains r) || (Da N an hs q.2).all fun s=>q.1.rs.all fun r=>!(σ0.slot s).hitH r && L.all fun e=>!e.ts.contains s || !(e.M.slot s).hitH r
theorem ZJ (N:Nat) (an:List Nat) (hs:List (Nat×OH)) (σ0:S) (L:List Ent):Vm N an hs σ0 L=Vl N an hs σ0 L:=by
 unfold Vm Vl;rw [KJ];refine SU fun q hq=>?_
 cases hA:(q.1.rs.all fun r=>!(σ0.sl.flatMap AV.refs++L.flatMap fun e=>e.ts.flatMap fun s=>(e.M.slot s).refs).contains r)
 ·rw [Bool.false_or]
 ·rw [Bool.true_or]
  symm
  rw [List.all_eq_true];intro s _;rw [List.all_eq_true];intro r hr;have h1:=List.all_eq_true.1 hA r hr
  rw [Bool.not_eq_true',← Bool.not_eq_true,List.contains_iff_mem,List.mem_append,not_or] at h1;rw [Bool.and_eq_true];refine⟨?_,?_⟩
  ·rw [AV.hitH_refs fun h=>h1.1 (Xc h)];rfl
  ·rw [List.all_eq_true];intro e he
   by_cases hc:s∈e.ts
   ·rw [AV.hitH_refs (r:=r) (av:=e.M.slot s) fun h=>h1.2 (List.mem_flatMap.2 ⟨e,he,List.mem_flatMap.2 ⟨s,hc,h⟩⟩)];simp
   ·rw [show e.ts.contains s=false from by rw [← Bool.not_eq_true,List.contains_iff_mem];exact hc];rfl
def Si {α:Type} (τ:List TE) (Φ:List Cal) (np n:Nat) (ops:List Oper) (an:List Nat) (hs:List (Nat×OH)):Nat→List Oper→S→List Ent→(S→List Ent→Option α)→Option α
 | _,[],σ,L,k=>FY L fun L=>k σ L
 | j,o::os,σ,L,k=>FY (Da ops.length an hs j) fun hS=>FY (Fz ops.length an hs j) fun hB=>((⟨Jo (PT hS) 0 σ.sl,σ.bx,σ.lk⟩:S).emptyB hB).frc fun M=>Jn τ Φ np ops (CQ hs j) M o fun M1 rs=>PN (isG ops j) o.dst M1 fun M'=>
  FY rs fun rs=>M'.frc fun M'=>if Vk n o.dst (CQ hs j) M M' rs hS hB=true then
   (σ.over M' (CQ hs j).ts (CQ hs j).bs).frc fun σ'=>Si τ Φ np n ops an hs (j+1) os σ' (L++[⟨rs,(CQ hs j).ts,(CQ hs j).bs,M'⟩]) k else none
theorem UQ {α:Type} (τ:List TE) (Φ:List Cal) (np n:Nat) (ops:List Oper) (an:List Nat) (hs:List (Nat×OH)):∀ (os:List Oper) (j:Nat) (σ:S) (L:List Ent) (k:S→List Ent→Option α),Si τ Φ np n ops an hs j os σ L k=drw τ Φ np n ops an hs j os σ L k
 | [],_,_,_,_=>by simp only [Si,drw,KJ]
 | o::os,j,σ,L,k=>by
  simp only [Si,drw,KJ,S.frc_eq,Tr,ZH,UQ τ Φ np n ops an hs os,S.hideSB]
def OL {α:Type} (τ:List TE) (Φ:List Cal) (np n:Nat) (ops:List Oper) (hs:List (Nat×OH)) (σ:S) (k:S→Option α):Option α:=
 if σ.sl.length=n∧Vj ops.length ops (BZ ops) hs (σ.padB (Gv ops.length hs)).bx.length=true then
  Si τ Φ np n ops (BZ ops) hs 0 ops (σ.padB (Gv ops.length hs)) [] fun σf L=>if Vm ops.length (BZ ops) hs (σ.padB (Gv ops.length hs)) L=true then k σf else none
 else none
theorem Tq {α:Type} (τ:List TE) (Φ:List Cal) (np n:Nat) (ops:List Oper) (hs:List (Nat×OH)) (σ:S) (k:S→Option α):OL τ Φ np n ops hs σ k=NQ τ Φ np n ops hs σ k:=by
 unfold OL NQ;simp only [UQ,ZJ]
def GA {α β:Type} (step:β→Option (β ⊕ α)):Nat→β→Option α
 | 0,_=>none
 | n+1,b=>match step b with
  | some (.inl b')=>GA step n b'
  | some (.inr r)=>some r
  | none=>none
theorem Mz {α β:Type} {step:β→Option (β ⊕ α)}:∀ {n m:Nat} {b:β} {r:α},GA step n b=some r→n≤m→GA step m b=some r
 | 0,_,_,_,h,_=>by simp [GA] at h
 | n+1,0,_,_,_,hm=>by omega
 | n+1,m+1,b,r,h,hm=>by
  simp only [GA] at h ⊢;split at h
  ·exact Mz h (by omega)
  ·exact h
  ·cases h
theorem Zg {α β:Type} {step:β→Option (β ⊕ α)} {n m:Nat} {b:β} {r r':α} (h:GA step n b=some r) (h':GA step m b=some r'):r=r':=by
 have h1:=Mz h (Nat.le_max_left n m)
 have h2:=Mz h' (Nat.le_max_right n m)
 rw [h1] at h2;exact Option.some.inj h2
open Classical in
noncomputable def AK {α β:Type} (step:β→Option (β ⊕ α)) (b:β):Option α:=if h:∃ r,∃ n,GA step n b=some r then some h.choose else none
theorem GV {α β:Type} {step:β→Option (β ⊕ α)} {b:β} {r:α}:AK step b=some r↔∃ n,GA step n b=some r:=by
 unfold AK;split
 ·rename_i h;obtain⟨n,hn⟩:=h.choose_spec;constructor
  ·intro he;rw [← Option.some.inj he];exact⟨n,hn⟩
  ·rintro ⟨m,hm⟩;rw [Zg hn hm]
 ·rename_i h;constructor
  ·intro he;cases he
  ·rintro ⟨m,hm⟩;exact absurd ⟨r,m,hm⟩ h
theorem Sy {α β:Type} (step:β→Option (β ⊕ α)) (b:β):AK step b=match step b with
 | some (.inl b')=>AK step b'
 | some (.inr r)=>some r
 | none=>none:=by
 cases hs:step b with
 | none=>
  cases hl:AK step b with
  | none=>rfl
  | some r=>
   obtain⟨n,hn⟩:=GV.1 hl;cases n with
   | zero=>simp [GA] at hn
   | succ n=>simp [GA,hs] at hn
 | some x=>
  cases x with
  | inr r=>exact GV.2 ⟨1,by simp [GA,hs]⟩
  | inl b'=>
   cases hl:AK step b' with
   | some r=>
    obtain⟨n,hn⟩:=GV.1 hl;exact((GV (step:=step) (b:=b) (r:=r)).2 ⟨n+1,by simp [GA,hs,hn]⟩).trans hl.symm
   | none=>
    cases hl2:AK step b with
    | none=>exact hl.symm
    | some r=>
     obtain⟨n,hn⟩:=GV.1 hl2;cases n with
     | zero=>simp [GA] at hn
     | succ n=>
      simp only [GA,hs] at hn;have:=GV.2 ⟨n,hn⟩
      rw [hl] at this;cases this
open Classical in
noncomputable def DC {α β:Type} (F:Nat→α→Option β) (x:α):Option β:=if h:∃ y,∃ N,∀ n,N≤n→F n x=some y then some h.choose else none
theorem JR {α β:Type} {F:Nat→α→Option β} {x:α} {y:β}:DC F x=some y↔∃ N,∀ n,N≤n→F n x=some y:=by
 unfold DC;split
 ·rename_i h;obtain⟨N,hN⟩:=h.choose_spec;constructor
  ·intro he;rw [← Option.some.inj he];exact⟨N,hN⟩
  ·rintro ⟨M,hM⟩
   have h1:=hN (max N M) (Nat.le_max_left _ _)
   have h2:=hM (max N M) (Nat.le_max_right _ _)
   rw [h1] at h2;exact h2
 ·rename_i h;constructor
  ·intro he;cases he
  ·rintro ⟨M,hM⟩;exact absurd ⟨y,M,hM⟩ h
structure Hd where
 pre:List Gr
 post:List Gr
 j:Option Gam
 s:Bool
 ops:List (Nat×OH)
inductive Hn where
 | z
 | n (d:Hd) (a b:Hn)
def Hn.d:Hn→Hd
 | .z=>⟨[],[],none,false,[]⟩
 | .n d _ _=>d
def Hn.a:Hn→Hn
 | .z=>.z
 | .n _ a _=>a
def Hn.b:Hn→Hn
 | .z=>.z
 | .n _ _ b=>b
structure Env where
 τ:List TE
 Φ:List Cal
 np:Nat
 n:Nat
def BT {α:Type} (np:Nat) (gr:List Gr) (k:S→Option α) (σ:S):Option α:=match S.grabs np gr σ with
 | some σ'=>k σ'
 | none=>none
def Dy (n:Nat) (Γ:Gam) (σ:S):Option (HL (ets Γ.es)):=if σ.sl.length=n then Γ.pack σ else none
def AB {α β:Type} (x:Option β) (k:β→Option α):Option α:=x.bind k
def Ax {α β:Type} (x:Option (β ⊕ α)) (k:β→Option α):Option α:=x.bind fun | .inl b=>k b | .inr r=>some r
def Sg {α:Type} (E:Env) (ops:List Oper) (draw:Bool) (hs:List (Nat×OH)) (σ:S) (k:S→Option α):Option α:=match draw with
 | false=>HF E.τ E.Φ E.np ops hs 0 ops σ k
 | true=>OL E.τ E.Φ E.np E.n ops hs σ k
noncomputable def den (E:Env):Code→Hn→{α:Type}→S→(S→Option α)→(Nat→S→Option α)→(S→Option α)→Option α
 | .skip,h,_,σ,kn,_,_=>BT E.np h.d.pre (BT E.np h.d.post kn) σ
 | .region _ ops draw,h,_,σ,kn,_,_=>BT E.np h.d.pre (fun σ=>match h.d.j with
  | none=>Sg E ops.toList draw h.d.ops σ (BT E.np h.d.post kn)
  | some Γ=>AB (Sg E ops.toList draw h.d.ops σ (BT E.np h.d.post (Dy E.n Γ))) fun x=>kn (Γ.un E.n x)) σ
 | .seq a b,h,_,σ,kn,kx,kr=>BT E.np h.d.pre (fun σ=>den E a h.a σ (fun σ'=>den E b h.b σ' (BT E.np h.d.post kn) kx kr) kx kr) σ
 | .cond c a b,h,_,σ,kn,kx,kr=>BT E.np h.d.pre (fun σ=>match σ.ev c with
  | .snp .bool v _ _=>match h.d.j with
   | none=>bif v then den E a h.a σ (BT E.np h.d.post kn) kx kr else den E b h.b σ (BT E.np h.d.post kn) kx kr
   | some Γ=>match h.d.s with
    | false=>AB (bif v then den E a h.a σ (BT E.np h.d.post (Dy E.n Γ)) (fun _ _=>none) (fun _=>none) else den E b h.b σ (BT E.np h.d.post (Dy E.n Γ)) (fun _ _=>none) (fun _=>none)) fun x=>kn (Γ.un E.n x)
    | true=>Ax (bif v then den E a h.a σ (fun σ=>(BT E.np h.d.post (Dy E.n Γ) σ).map .inl) (fun j σ=>(kx j σ).map .inr) (fun σ=>(kr σ).map .inr)
     else den E b h.b σ (fun σ=>(BT E.np h.d.post (Dy E.n Γ) σ).map .inl) (fun j σ=>(kx j σ).map .inr) (fun σ=>(kr σ).map .inr)) fun x=>kn (Γ.un E.n x)
  | _=>none) σ
 | .block id b,h,_,σ,kn,kx,kr=>BT E.np h.d.pre (fun σ=>match h.d.j with
  | none=>den E b h.a σ (BT E.np h.d.post kn) (fun j σ=>if j=id then BT E.np h.d.post kn σ else kx j σ) kr
  | some Γ=>match h.d.s with
   | false=>AB (den E b h.a σ (BT E.np h.d.post (Dy E.n Γ)) (fun j σ=>if j=id then BT E.np h.d.post (Dy E.n Γ) σ else none) (fun _=>none)) fun x=>kn (Γ.un E.n x)
   | true=>Ax (den E b h.a σ (fun σ=>(BT E.np h.d.post (Dy E.n Γ) σ).map .inl) (fun j σ=>if j=id then (BT E.np h.d.post (Dy E.n Γ) σ).map .inl else (kx j σ).map .inr) (fun σ=>(kr σ).map .inr)) fun x=>kn (Γ.un E.n x)) σ
 | .loop b,h,_,σ,_,kx,kr=>BT E.np h.d.pre (fun σ=>match h.d.j with
  | some Γ=>(Dy E.n Γ σ).bind fun x0=>AK (fun x=>den E b h.a (Γ.un E.n x) (fun σ=>(Dy E.n Γ σ).map .inl) (fun j σ=>(kx j σ).map .inr) (fun σ=>(kr σ).map .inr)) x0
  | none=>none) σ
 | .exit id,h,_,σ,_,kx,_=>BT E.np h.d.pre (kx id) σ
 | .ret,h,_,σ,_,_,kr=>BT E.np h.d.pre kr σ
 | _,_,_,_,_,_,_=>none
structure EnvOk (P:Program) (E:Env):Prop where
 tab:TabOk P E.τ
 cals:∀ c∈E.Φ,Cok P c
 mix:P.follows .mixedOrders=true
section
variable {P:Program} {E:Env} (hE:EnvOk P E) {w0:World} {G0:Gh} (hI:Inv P w0 G0.own)
def At (w0:World) (G0:Gh) (np:Nat) {α:Type} (k:S→Option α) (r:α) (a:Act) (w:World):Prop:=∃ σ G,Rel w0 G0 np σ a w G∧k σ=some r
theorem At.after {np np':Nat} {α:Type} {gr:List Gr} {k:S→Option α} {r:α} {a:Act} {w:World} (h:At w0 G0 np (BT np' gr k) r a w) (hn:np'=np:=by rfl):At w0 G0 np k r a w:=by
 subst hn;obtain⟨σ,G,h1,h2⟩:=h;unfold BT at h2;split at h2
 ·rename_i σ' hg;obtain⟨G',h3,_⟩:=h1.grabs _ hg;exact⟨σ',G',h3,h2⟩
 ·cases h2
theorem At.un {Γ:Gam} {x:HL (ets Γ.es)} {a:Act} {w:World} {np n:Nat} (h:At w0 G0 np (Dy n Γ) x a w):∃ G,Rel w0 G0 np (Γ.un n x) a w G:=by
 obtain⟨σ,G,h1,h2⟩:=h;unfold Dy at h2;split at h2
 ·rename_i hn;have:=Gam.ok h1 Γ h2
  rw [hn] at this;exact⟨G,this⟩
 ·cases h2
include hE hI
theorem RV {α:Type} {ops:Array Oper} {id:Nat} {draw:Bool} {hs:List (Nat×OH)} {σ:S} {k:S→Option α} {r:α} {Q:Exit→Act→World→Prop} {a:Act} {w:World} {G:Gh} (h:Rel w0 G0 E.np σ a w G)
 (hd:Sg E ops.toList draw hs σ k=some r) (hQ:∀ a w,At w0 G0 E.np k r a w→Q .normal a w):(Code.region id ops draw).wp P Q a w:=by
 cases draw with
 | false=>
  have:=JN hE.tab ⟨hE.cals,hI⟩ (Q:=Q) ops.toList 0 (σ:=σ) (a:=a) (w:=w) (G:=G) (w0:=w0) (G0:=G0) hd rfl h (fun σ' a' w' G' h1 h2=>hQ a' w' ⟨σ',G',h1,h2⟩)
  rw [Array.length_toList,← List.range_eq_range'] at this;exact wp_region this
 | true=>exact Vo hE.tab ⟨hE.cals,hI⟩ hE.mix h ((Tq _ _ _ _ _ _ _ _).symm.trans hd) hQ
theorem Du:∀ (c:Code) (h:Hn) {α:Type} {σ:S} {kn:S→Option α} {kx:Nat→S→Option α} {kr:S→Option α} {r:α} {Q:Exit→Act→World→Prop} {a:Act} {w:World} {G:Gh},
 Rel w0 G0 E.np σ a w G→den E c h σ kn kx kr=some r→(∀ a w,At w0 G0 E.np kn r a w→Q .normal a w)→(∀ j a w,At w0 G0 E.np (kx j) r a w→Q (.exit j) a w)→(∀ a w,At w0 G0 E.np kr r a w→Q .ret a w)→c.wp P Q a w
 | .skip,h,α,σ,kn,kx,kr,r,Q,a,w,G,hR,hd,hn,hx,hr=>by
  simp only [den] at hd;exact wp_skip (hn a w (At.after (At.after ⟨σ,G,hR,hd⟩)))
 | .region id ops draw,h,α,σ,kn,kx,kr,r,Q,a,w,G,hR,hd,hn,hx,hr=>by
  simp only [den] at hd;obtain⟨σ1,G1,hR1,hd1⟩:=At.after ⟨σ,G,hR,hd⟩
  dsimp only at hd1
  split at hd1
  ·exact RV hE hI hR1 hd1 (fun a w hA=>hn a w hA.after)
  ·rename_i Γ hΓ;simp only [AB,Option.bind_eq_some_iff] at hd1;obtain⟨x,hx1,hx2⟩:=hd1;refine RV hE hI hR1 hx1 (fun a w hA=>hn a w ?_)
   obtain⟨G2,hR2⟩:=hA.after.un;exact⟨_,G2,hR2,hx2⟩
 | .seq c1 c2,h,α,σ,kn,kx,kr,r,Q,a,w,G,hR,hd,hn,hx,hr=>by
  simp only [den] at hd;obtain⟨σ1,G1,hR1,hd1⟩:=At.after ⟨σ,G,hR,hd⟩;refine wp_seq (Du c1 h.a hR1 hd1 (fun a w hA=>?_) (fun j a w hA=>hx j a w hA) (fun a w hA=>hr a w hA))
  obtain⟨σ2,G2,hR2,hd2⟩:=hA;exact Du c2 h.b hR2 hd2 (fun a w hA=>hn a w hA.after) hx hr
 | .cond o c1 c2,h,α,σ,kn,kx,kr,r,Q,a,w,G,hR,hd,hn,hx,hr=>by
  simp only [den] at hd;obtain⟨σ1,G1,hR1,hd1⟩:=At.after ⟨σ,G,hR,hd⟩
  dsimp only at hd1
  split at hd1
  ·rename_i v ds src hv;have hev:=(hR1.ev 0 o).1
   rw [hv] at hev;refine wp_cond hev.bool ?_
   split at hd1
   ·cases v with
    | true=>exact Du c1 h.a hR1 hd1 (fun a w hA=>hn a w hA.after) hx hr
    | false=>exact Du c2 h.b hR1 hd1 (fun a w hA=>hn a w hA.after) hx hr
   ·rename_i Γ hΓ;split at hd1
    ·simp only [AB,Option.bind_eq_some_iff] at hd1;obtain⟨x,hx1,hx2⟩:=hd1;have hn':∀ a w,At w0 G0 E.np (BT E.np h.d.post (Dy E.n Γ)) x a w→Q .normal a w:=fun a w hA=>by
      obtain⟨G2,hR2⟩:=hA.after.un;exact hn a w ⟨_,G2,hR2,hx2⟩
     cases v with
     | true=>exact Du c1 h.a hR1 hx1 hn' (fun j a w ⟨_,_,_,h⟩=>by cases h) (fun a w ⟨_,_,_,h⟩=>by cases h)
     | false=>exact Du c2 h.b hR1 hx1 hn' (fun j a w ⟨_,_,_,h⟩=>by cases h) (fun a w ⟨_,_,_,h⟩=>by cases h)
    ·simp only [Ax,Option.bind_eq_some_iff] at hd1;obtain⟨y,hy1,hy2⟩:=hd1;have hn':∀ a w,At w0 G0 E.np (fun σ=>(BT E.np h.d.post (Dy E.n Γ) σ).map Sum.inl) y a w→Q .normal a w:=fun a w ⟨σ2,G2,hR2,h2⟩=>by
      obtain⟨x,hx1,rfl⟩:=Option.map_eq_some_iff.1 h2;obtain⟨G3,hR3⟩:=(At.after ⟨σ2,G2,hR2,hx1⟩).un;exact hn a w ⟨_,G3,hR3,hy2⟩
     have hx':∀ j a w,At w0 G0 E.np (fun σ=>(kx j σ).map Sum.inr) y a w→Q (.exit j) a w:=fun j a w ⟨σ2,G2,hR2,h2⟩=>by
      obtain⟨x,hx1,rfl⟩:=Option.map_eq_some_iff.1 h2;simp only [Option.some.injEq] at hy2;subst hy2;exact hx j a w ⟨σ2,G2,hR2,hx1⟩
     have hr':∀ a w,At w0 G0 E.np (fun σ=>(kr σ).map Sum.inr) y a w→Q .ret a w:=fun a w ⟨σ2,G2,hR2,h2⟩=>by
      obtain⟨x,hx1,rfl⟩:=Option.map_eq_some_iff.1 h2;simp only [Option.some.injEq] at hy2;subst hy2;exact hr a w ⟨σ2,G2,hR2,hx1⟩
     cases v with
     | true=>exact Du c1 h.a hR1 hy1 hn' hx' hr'
     | false=>exact Du c2 h.b hR1 hy1 hn' hx' hr'
  ·cases hd1
 | .block id c1,h,α,σ,kn,kx,kr,r,Q,a,w,G,hR,hd,hn,hx,hr=>by
  simp only [den] at hd;obtain⟨σ1,G1,hR1,hd1⟩:=At.after ⟨σ,G,hR,hd⟩
  dsimp only at hd1
  refine wp_block ?_
  split at hd1
  ·refine Du c1 h.a hR1 hd1 (fun a w hA=>hn a w hA.after) (fun j a w hA=>?_) hr
   obtain⟨σ2,G2,hR2,h2⟩:=hA
   dsimp only at h2
   simp only [Exit.inBlock];split
   ·rename_i e;rw [if_pos e] at h2;exact hn a w (At.after ⟨σ2,G2,hR2,h2⟩)
   ·rename_i e;rw [if_neg e] at h2;exact hx j a w ⟨σ2,G2,hR2,h2⟩
  ·rename_i Γ hΓ;split at hd1
   ·simp only [AB,Option.bind_eq_some_iff] at hd1;obtain⟨x,hx1,hx2⟩:=hd1;have hn':∀ a w,At w0 G0 E.np (BT E.np h.d.post (Dy E.n Γ)) x a w→Q .normal a w:=fun a w hA=>by
     obtain⟨G2,hR2⟩:=hA.after.un;exact hn a w ⟨_,G2,hR2,hx2⟩
    refine Du c1 h.a hR1 hx1 hn' (fun j a w hA=>?_) (fun a w ⟨_,_,_,h⟩=>by cases h)
    obtain⟨σ2,G2,hR2,h2⟩:=hA
    dsimp only at h2
    simp only [Exit.inBlock];split
    ·rename_i e;rw [if_pos e] at h2;exact hn' a w ⟨σ2,G2,hR2,h2⟩
    ·rename_i e;rw [if_neg e] at h2;cases h2
   ·simp only [Ax,Option.bind_eq_some_iff] at hd1;obtain⟨y,hy1,hy2⟩:=hd1;have hn':∀ a w,At w0 G0 E.np (fun σ=>(BT E.np h.d.post (Dy E.n Γ) σ).map Sum.inl) y a w→Q .normal a w:=fun a w ⟨σ2,G2,hR2,h2⟩=>by
     obtain⟨x,hx1,rfl⟩:=Option.map_eq_some_iff.1 h2;obtain⟨G3,hR3⟩:=(At.after ⟨σ2,G2,hR2,hx1⟩).un;exact hn a w ⟨_,G3,hR3,hy2⟩
    refine Du c1 h.a hR1 hy1 hn' (fun j a w hA=>?_) (fun a w ⟨σ2,G2,hR2,h2⟩=>?_)
    ·obtain⟨σ2,G2,hR2,h2⟩:=hA
     dsimp only at h2
     simp only [Exit.inBlock];split
     ·rename_i e;rw [if_pos e] at h2;exact hn' a w ⟨σ2,G2,hR2,h2⟩
     ·rename_i e;rw [if_neg e] at h2;obtain⟨x,hx1,rfl⟩:=Option.map_eq_some_iff.1 h2;simp only [Option.some.injEq] at hy2;subst hy2;exact hx j a w ⟨σ2,G2,hR2,hx1⟩
    ·obtain⟨x,hx1,rfl⟩:=Option.map_eq_some_iff.1 h2;simp only [Option.some.injEq] at hy2;subst hy2;exact hr a w ⟨σ2,G2,hR2,hx1⟩
 | .loop c1,h,α,σ,kn,kx,kr,r,Q,a,w,G,hR,hd,hn,hx,hr=>by
  simp only [den] at hd;obtain⟨σ1,G1,hR1,hd1⟩:=At.after ⟨σ,G,hR,hd⟩
  dsimp only at hd1
  split at hd1
  ·rename_i Γ hΓ;simp only [Option.bind_eq_some_iff] at hd1;obtain⟨x0,hx0,hl⟩:=hd1;obtain⟨G2,hR2⟩:=At.un (w0:=w0) (G0:=G0) ⟨σ1,G1,hR1,hx0⟩
   let step:=fun x=>den E c1 h.a (Γ.un E.n x) (fun σ=>(Dy E.n Γ σ).map Sum.inl) (fun j σ=>(kx j σ).map Sum.inr) (fun σ=>(kr σ).map Sum.inr)
   have hl':AK step x0=some r:=hl
   obtain⟨n0,hn0⟩:=GV.1 hl'
   let J:Nat→Act→World→Prop:=fun n a w=>∃ x G,Rel w0 G0 E.np (Γ.un E.n x) a w G∧GA step n x=some r
   have hmin:∀ a w,(∃ n,J n a w)→∃ n,J n a w∧∀ m,J m a w→n≤m:=by
    intro a w hex;obtain⟨n,hn⟩:=hex
    induction n using Nat.strongRecOn with
    | _ n ih=>
     by_cases hsm:∃ m,m<n∧J m a w
     ·obtain⟨m,hm,hJ⟩:=hsm;exact ih m hm hJ
     ·exact⟨n,hn,fun m hm=>by
       rcases Nat.lt_or_ge m n with hlt | hge
       ·exact absurd ⟨m,hlt,hm⟩ hsm
       ·exact hge⟩
   classical
   let μ:Act→World→Nat:=fun a w=>if hex:∃ n,J n a w then (hmin a w hex).choose else 0
   refine wp_loop (fun a w=>∃ n,J n a w) μ ⟨n0,x0,G2,hR2,hn0⟩ (fun a w hI=>?_)
   have hμ:J (μ a w) a w:=by
    simp only [μ,dif_pos hI];exact(hmin a w hI).choose_spec.1
   obtain⟨x,G3,hR3,hit⟩:=hμ;cases hm:μ a w with
   | zero=>rw [hm] at hit;simp [GA] at hit
   | succ m=>
    rw [hm] at hit;simp only [GA] at hit;split at hit
    ·rename_i x' hstep;refine Du c1 h.a hR3 hstep (fun a' w' hA=>?_) (fun j a' w' hA=>?_) (fun a' w' hA=>?_)
     ·obtain⟨σ4,G4,hR4,h4⟩:=hA;obtain⟨x4,hx4,e4⟩:=Option.map_eq_some_iff.1 h4;obtain⟨rfl⟩:=Sum.inl.inj e4;obtain⟨G5,hR5⟩:=At.un (w0:=w0) (G0:=G0) ⟨σ4,G4,hR4,hx4⟩;have hJ:J m a' w':=⟨_,G5,hR5,hit⟩
      refine⟨⟨m,hJ⟩,?_⟩
      have hex:∃ n,J n a' w':=⟨m,hJ⟩
      have:μ a' w'≤m:=by
       simp only [μ,dif_pos hex];exact(hmin a' w' hex).choose_spec.2 m hJ
      omega
     ·obtain⟨σ4,G4,hR4,h4⟩:=hA;obtain⟨x4,hx4,e4⟩:=Option.map_eq_some_iff.1 h4;cases e4
     ·obtain⟨σ4,G4,hR4,h4⟩:=hA;obtain⟨x4,hx4,e4⟩:=Option.map_eq_some_iff.1 h4;cases e4
    ·rename_i r' hstep;simp only [Option.some.injEq] at hit;subst hit;refine Du c1 h.a hR3 hstep (fun a' w' hA=>?_) (fun j a' w' hA=>?_) (fun a' w' hA=>?_)
     ·obtain⟨σ4,G4,hR4,h4⟩:=hA;obtain⟨x4,hx4,e4⟩:=Option.map_eq_some_iff.1 h4;cases e4
     ·obtain⟨σ4,G4,hR4,h4⟩:=hA;obtain⟨x4,hx4,e4⟩:=Option.map_eq_some_iff.1 h4;obtain⟨rfl⟩:=Sum.inr.inj e4;exact hx j a' w' ⟨σ4,G4,hR4,hx4⟩
     ·obtain⟨σ4,G4,hR4,h4⟩:=hA;obtain⟨x4,hx4,e4⟩:=Option.map_eq_some_iff.1 h4;obtain⟨rfl⟩:=Sum.inr.inj e4;exact hr a' w' ⟨σ4,G4,hR4,hx4⟩
    ·cases hit
  ·cases hd1
 | .exit id,h,α,σ,kn,kx,kr,r,Q,a,w,G,hR,hd,hn,hx,hr=>by
  simp only [den] at hd;exact wp_exit (hx id a w (At.after ⟨σ,G,hR,hd⟩))
 | .ret,h,α,σ,kn,kx,kr,r,Q,a,w,G,hR,hd,hn,hx,hr=>by
  simp only [den] at hd;exact wp_ret (hr a w (At.after ⟨σ,G,hR,hd⟩))
 | .rangeFunc _ _ _ _,h,α,σ,kn,kx,kr,r,Q,a,w,G,hR,hd,hn,hx,hr=>by simp [den] at hd
 | .scope _,h,α,σ,kn,kx,kr,r,Q,a,w,G,hR,hd,hn,hx,hr=>by simp [den] at hd
 | .label _,h,α,σ,kn,kx,kr,r,Q,a,w,G,hR,hd,hn,hx,hr=>by simp [den] at hd
 | .goto _,h,α,σ,kn,kx,kr,r,Q,a,w,G,hR,hd,hn,hx,hr=>by simp [den] at hd
 | .refuse _,h,α,σ,kn,kx,kr,r,Q,a,w,G,hR,hd,hn,hx,hr=>by simp [den] at hd
end
def FZ:(i:Nat)→(ps:List Prm)→HL (pts ps)→List AV
 | _,[],_=>[]
 | i,⟨.ro,t⟩::ps,x=>Fa t x.1 [] none::FZ (i+1) ps x.2
 | i,⟨.mov m,t⟩::ps,x=>.dat ⟨t,m,x.1⟩::FZ (i+1) ps x.2
 | i,⟨.inp _,_⟩::ps,x=>.hdr i::FZ (i+1) ps x.2
 | i,⟨.ptr _,_⟩::ps,x=>.ptr ⟨2 * i+1,[]⟩::FZ (i+1) ps x.2
def Ix:(ps:List Prm)→HL (pts ps)→List (Option (Bool×Dat))
 | [],_=>[]
 | ⟨.ro,_⟩::ps,x=>none::Ix ps x.2
 | ⟨.mov _,_⟩::ps,x=>none::Ix ps x.2
 | ⟨.inp m,t⟩::ps,x=>some (false,⟨t,m,x.1⟩)::Ix ps x.2
 | ⟨.ptr m,t⟩::ps,x=>some (true,⟨t,m,x.1⟩)::Ix ps x.2
theorem FO:∀ (i:Nat) (ps:List Prm) (x:HL (pts ps)),(FZ i ps x).length=ps.length
 | _,[],_=>rfl
 | i,⟨.ro,t⟩::ps,x=>by simp [FZ,FO (i+1) ps x.2]
 | i,⟨.mov m,t⟩::ps,x=>by simp [FZ,FO (i+1) ps x.2]
 | i,⟨.inp m,t⟩::ps,x=>by simp [FZ,FO (i+1) ps x.2]
 | i,⟨.ptr m,t⟩::ps,x=>by simp [FZ,FO (i+1) ps x.2]
def Ck (n:Nat) (ps:List Prm) (x:HL (pts ps)):S:=⟨FZ 0 ps x++List.replicate (n - ps.length) .none,Ix ps x,[]⟩
theorem ArgsR.len {w:World} {own:Own}:∀ (ps:List Prm) (i:Nat) (vs:List Value) (x:HL (pts ps)),ArgsR w own i ps vs x→vs.length=ps.length
 | [],_,vs,_,h=>by simp only [ArgsR] at h;rw [h];rfl
 | p::ps,i,v::vs,x,h=>by simp only [ArgsR] at h;simp [ArgsR.len ps (i+1) vs x.2 h.2]
 | p::ps,i,[],x,h=>by simp [ArgsR] at h
def PK.lend:PK→Nat→Lab→Lab
 | .inp _,i,s=>(2 * i+1)::0::s
 | .ptr _,i,s=>(2 * i+1)::s
 | _,i,s=>(2 * i)::s
def IE (ps:List Prm) (own:Own):Own:=fun b=>match own b with
 | some (r::s)=>if r % 2=0 then (match ps[r / 2]? with
  | some p=>some (p.k.lend (r / 2) s)
  | none=>some (r::s)) else some (r::s)
 | o=>o
theorem Db {ps:List Prm} {own:Own} {b:Nat}:IE ps own b=none↔own b=none:=by
 unfold IE;split
 ·rename_i r s hs;split
  ·split<;>simp [hs]
  ·simp [hs]
 ·rename_i h;exact Iff.rfl
theorem NC {ps:List Prm} {own:Own} {b:Nat} (h:own b=some []):IE ps own b=some []:=by
 unfold IE;rw [h]
theorem ML {ps:List Prm} {own:Own} {b i:Nat} {s:Lab} {p:Prm} (hp:ps[i]?=some p) (h:own b=some (2 * i::s)):IE ps own b=some (p.k.lend i s):=by
 have e1:2 * i % 2=0:=by omega
 have e2:2 * i / 2=i:=by omega
 unfold IE;rw [h];simp only [if_pos e1,e2,hp]
theorem WC {ps:List Prm} {own:Own} {b:Nat} {l:Lab} (h:IE ps own b=some l):∃ l',own b=some l':=by
 cases ho:own b with
 | none=>rw [Db.2 ho] at h;cases h
 | some l'=>exact⟨l',rfl⟩
def Dx (ps:List Prm) (own:Own):Own:=fun b=>match own b with
 | some (r::s)=>if r % 2=1 then (match ps[r / 2]? with
  | some ⟨.inp _,_⟩=>some (2 * (r / 2)::s.drop 1)
  | some ⟨.ptr _,_⟩=>some (2 * (r / 2)::s)
  | _=>some (r::s)) else some (r::s)
 | o=>o
theorem Hz {ps:List Prm} {own:Own} {b:Nat}:Dx ps own b=none↔own b=none:=by
 unfold Dx;split
 ·rename_i r s hs;split
  ·split<;>simp [hs]
  ·simp [hs]
 ·exact Iff.rfl
theorem Wl {ps:List Prm} {own:Own} {b:Nat} (h:own b=some []):Dx ps own b=some []:=by
 unfold Dx;rw [h]
theorem VY {ps:List Prm} {own:Own} {b:Nat} {l:Lab} (h:Dx ps own b=some l):∃ l',own b=some l':=by
 cases ho:own b with
 | none=>rw [Hz.2 ho] at h;cases h
 | some l'=>exact⟨l',rfl⟩
theorem Wk {ps:List Prm} {own:Own} {b i:Nat} {s:Lab} {m:Md} {t:Ty} (hp:ps[i]?=some ⟨.inp m,t⟩) (h:own b=some ((2 * i+1)::0::s)):Dx ps own b=some (2 * i::s):=by
 have e1:(2 * i+1) % 2=1:=by omega
 have e2:(2 * i+1) / 2=i:=by omega
 unfold Dx;rw [h];simp only [if_pos e1,e2,hp,List.drop_succ_cons,List.drop_zero]
theorem Wm {ps:List Prm} {own:Own} {b i:Nat} {s:Lab} {m:Md} {t:Ty} (hp:ps[i]?=some ⟨.ptr m,t⟩) (h:own b=some ((2 * i+1)::s)):Dx ps own b=some (2 * i::s):=by
 have e1:(2 * i+1) % 2=1:=by omega
 have e2:(2 * i+1) / 2=i:=by omega
 unfold Dx;rw [h];simp only [if_pos e1,e2,hp]
theorem Qu {ps:List Prm} {own:Own} {b:Nat} {s:Lab} (hl:ps.length≤1000000) (h:own b=some (CZ::s)):Dx ps own b=some (CZ::s):=by
 unfold Dx;rw [h];have e2:ps[CZ / 2]?=none:=List.getElem?_eq_none (by unfold CZ;omega)
 simp only [e2];split<;>rfl
structure Beg (w:World) (own:Own) (i:Nat) (p:Prm) (v:Value) (x:p.t.D) (bl:Nat×Nat) (hv:Ty×List Value) (arr0:Array Value) (T0:TypeId):Prop where
 ro:p.k=.ro→∃ cs,Val p.t v cs∧RepV w (fun b=>own b=none∧b<w.heap.size) p.t cs x
 mov:∀ m,p.k=.mov m→∃ cs,Val p.t v cs∧RepO w own p.t m [2 * i] cs x
 inp:∀ m,p.k=.inp m→hv.1=p.t∧Val p.t v hv.2∧RepO w own p.t m [2 * i] hv.2 x
 ptr:∀ m,p.k=.ptr m→v=.pointer (some ⟨bl.1,bl.2,none⟩)∧own bl.1=some [2 * i]∧w.heap[bl.1]?=some (.cells arr0 T0 (0,0))∧bl.2+p.t.sz≤arr0.size∧∃ cs,RepO w own p.t m [2 * i,0] cs x∧∀ j (hj:j<cs.length),arr0[bl.2+j]?=some cs[j]
def BegL (w:World) (own:Own) (bl:Nat→Nat×Nat) (hv:Nat→Ty×List Value) (arr0:Nat→Array Value) (T0:Nat→TypeId):(i:Nat)→(ps:List Prm)→List Value→HL (pts ps)→Prop
 | _,[],_,_=>True
 | i,p::ps,vs,x=>Beg w own i p (vs.headD undef) x.1 (bl i) (hv i) (arr0 i) (T0 i)∧BegL w own bl hv arr0 T0 (i+1) ps vs.tail x.2
theorem BegL.congr {w:World} {own:Own} {bl bl':Nat→Nat×Nat} {hv hv':Nat→Ty×List Value} {arr0 arr0':Nat→Array Value} {T0 T0':Nat→TypeId}:∀ (ps:List Prm) (i:Nat) (vs:List Value) (x:HL (pts ps)),(∀ k,i≤k→bl' k=bl k∧hv' k=hv k∧arr0' k=arr0 k∧T0' k=T0 k)→BegL w own bl hv arr0 T0 i ps vs x→BegL w own bl' hv' arr0' T0' i ps vs x
 | [],_,_,_,_,_=>trivial
 | p::ps,i,vs,x,h,hb=>by
  obtain⟨a1,a2,a3,a4⟩:=h i (Nat.le_refl _);refine⟨?_,BegL.congr ps (i+1) vs.tail x.2 (fun k hk=>h k (by omega)) hb.2⟩
  rw [a1,a2,a3,a4];exact hb.1
theorem ArgsR.beg {w:World} {own:Own}:∀ (ps:List Prm) (i:Nat) (vs:List Value) (x:HL (pts ps)),ArgsR w own i ps vs x→∃ bl hv arr0 T0,BegL w own bl hv arr0 T0 i ps vs x
 | [],_,_,_,_=>⟨fun _=>(0,0),fun _=>(.bool,[]),fun _=>#[],fun _=>0,trivial⟩
 | p::ps,i,[],x,h=>by simp [ArgsR] at h
 | p::ps,i,v::vs,x,h=>by
  obtain⟨h1,h2⟩:=h;obtain⟨bl,hv,arr0,T0,hb⟩:=ArgsR.beg ps (i+1) vs x.2 h2;have:∃ bl' hv' arr' T',Beg w own i p v x.1 bl' hv' arr' T':=by
   obtain⟨k,t⟩:=p;cases k with
   | ro=>exact⟨(0,0),(.bool,[]),#[],0,fun _=>h1,(fun m hm=>by cases hm),(fun m hm=>by cases hm),(fun m hm=>by cases hm)⟩
   | mov m=>exact⟨(0,0),(.bool,[]),#[],0,(fun hm=>by cases hm),(fun m' hm=>by cases hm;exact h1),(fun m hm=>by cases hm),(fun m hm=>by cases hm)⟩
   | inp m=>
    obtain⟨cs,q1,q2⟩:=h1;exact⟨(0,0),(t,cs),#[],0,(fun hm=>by cases hm),(fun m' hm=>by cases hm),(fun m hm=>by cases hm;exact⟨rfl,q1,q2⟩),(fun m hm=>by cases hm)⟩
   | ptr m=>
    obtain⟨b,o,arr,T,cs,q1,q2,q3,q4,q5,q6⟩:=h1;exact⟨(b,o),(.bool,[]),arr,T,(fun hm=>by cases hm),(fun m' hm=>by cases hm),(fun m hm=>by cases hm),(fun m hm=>by cases hm;exact⟨q1,q2,q3,q4,cs,q5,q6⟩)⟩
  obtain⟨bl',hv',arr',T',hB⟩:=this;refine⟨fun k=>if k=i then bl' else bl k,fun k=>if k=i then hv' else hv k,fun k=>if k=i then arr' else arr0 k,fun k=>if k=i then T' else T0 k,?_,?_⟩
  ·simp only [if_true];exact hB
  ·exact BegL.congr ps (i+1) vs x.2 (fun k hk=>by simp [show k≠i by omega]) hb
theorem BegL.at_ {w:World} {own:Own} {bl:Nat→Nat×Nat} {hv:Nat→Ty×List Value} {arr0:Nat→Array Value} {T0:Nat→TypeId}:∀ (ps:List Prm) (i:Nat) (vs:List Value) (x:HL (pts ps)),BegL w own bl hv arr0 T0 i ps vs x →
 ∀ k p,ps[k]?=some p→∃ y:p.t.D,Beg w own (i+k) p (vs.getD k undef) y (bl (i+k)) (hv (i+k)) (arr0 (i+k)) (T0 (i+k)) ∧
  (FZ i ps x)[k]?=some (match p.k with | .ro=>Fa p.t y [] none | .mov m=>.dat ⟨p.t,m,y⟩ | .inp _=>.hdr (i+k) | .ptr _=>.ptr ⟨2 * (i+k)+1,[]⟩) ∧
  (Ix ps x)[k]?=some (match p.k with | .inp m=>some (false,⟨p.t,m,y⟩) | .ptr m=>some (true,⟨p.t,m,y⟩) | _=>none)
 | [],_,_,_,_,k,p,hp=>by simp at hp
 | p0::ps,i,vs,x,hb,0,p,hp=>by
  simp only [List.getElem?_cons_zero,Option.some.injEq] at hp;subst hp;refine⟨x.1,?_,?_,?_⟩
  ·have:=hb.1
   cases vs<;>simpa using this
  ·obtain⟨k,t⟩:=p0;cases k<;>simp [FZ]
  ·obtain⟨k,t⟩:=p0;cases k<;>simp [Ix]
 | p0::ps,i,vs,x,hb,k+1,p,hp=>by
  rw [List.getElem?_cons_succ] at hp;obtain⟨y,a1,a2,a3⟩:=BegL.at_ ps (i+1) vs.tail x.2 hb.2 k p hp;have e:i+1+k=i+(k+1):=by omega
  rw [e] at a1 a2;refine⟨y,?_,?_,?_⟩
  ·cases vs with
   | nil=>simpa using a1
   | cons v vs=>simpa using a1
  ·obtain⟨k0,t0⟩:=p0;cases k0<;>(simp only [FZ,List.getElem?_cons_succ];exact a2)
  ·obtain⟨k0,t0⟩:=p0;cases k0<;>(simp only [Ix,List.getElem?_cons_succ];exact a3)
inductive RR where
 | tmp (i:Nat)
 | cell (a T:Nat)
def RR.rv:RR→ResultVar
 | .tmp i=>.tmp i
 | .cell a T=>.cell a T
def WM (τ:List TE) (σ:S) (r:Ret):RR→Option (r.t.D×Option (Nat×Lab))
 | .tmp i=>match σ.take r.t r.m (.tmp i) with
  | some (m,x,ms)=>if m=r.m then some (x,match ms with | []=>none | _=>some (2 * i,[])) else none
  | none=>none
 | .cell a T=>match σ.slot a with
  | .ptr ⟨root,[]⟩=>if root % 2=1∧root≠CZ then (match σ.box (root / 2),tat τ T with
   | some (true,d),some te=>if h:d.t=r.t then (if d.m=r.m∧d.m.full=true∧te.t=r.t then some (h ▸ d.x,if d.m.noOwn then none else some (root,[0])) else none) else none
   | _,_=>none) else none
  | _=>none
def NE (τ:List TE) (σ:S):(rs:List Ret)→List RR→Option (HL (rts rs)×List (Option (Nat×Lab)))
 | [],[]=>some ((),[])
 | r::rs,i::is=>match WM τ σ r i,NE τ σ rs is with
  | some (x,e),some (xs,l)=>some ((x,xs),e::l)
  | _,_=>none
 | _,_=>none
def PQ (l:List (Option (Nat×Lab))):List Nat:=l.filterMap fun e=>e.map (·.1)
def MC (σ:S):(i:Nat)→(ps:List Prm)→Option (HL (fts ps))
 | _,[]=>some ()
 | i,⟨.ro,_⟩::ps=>MC σ (i+1) ps
 | i,⟨.mov _,_⟩::ps=>MC σ (i+1) ps
 | i,⟨.inp m,t⟩::ps=>match σ.box i,MC σ (i+1) ps with
  | some (false,d),some z=>if h:d.t=t then (if d.m=m then some ((h ▸ d.x:t.D),z) else none) else none
  | _,_=>none
 | i,⟨.ptr m,t⟩::ps=>match σ.box i,MC σ (i+1) ps with
  | some (true,d),some z=>if h:d.t=t then (if d.m=m then some ((h ▸ d.x:t.D),z) else none) else none
  | _,_=>none
def HL.app:(as bs:List Ty)→HL as→HL bs→HL (as++bs)
 | [],_,_,y=>y
 | _::as,bs,x,y=>(x.1,HL.app as bs x.2 y)
theorem HL.left_app:∀ (as bs:List Ty) (x:HL as) (y:HL bs),HL.left as bs (HL.app as bs x y)=x
 | [],_,_,_=>rfl
 | _::as,bs,x,y=>by
  have:=HL.left_app as bs x.2 y
  show(x.1,HL.left as bs (HL.app as bs x.2 y))=x
  rw [this]
theorem HL.right_app:∀ (as bs:List Ty) (x:HL as) (y:HL bs),HL.right as bs (HL.app as bs x y)=y
 | [],_,_,_=>rfl
 | _::as,bs,x,y=>HL.right_app as bs x.2 y
def BS (τ:List TE) (gr:List Gr) (ps:List Prm) (rs:List Ret) (is:List RR):S→Option (HL (rts rs++fts ps)):=BT ps.length gr fun σ=>match NE τ σ rs is,MC σ 0 ps with
 | some (y,l),some z=>if (PQ l).Nodup∧ps.length≤1000000∧(∀ r∈PQ l,r % 2=1→ps.length≤r / 2) then some (HL.app _ _ y z) else none
 | _,_=>none
def CF (own:Own):List (Nat×Lab×Lab)→Own
 | []=>own
 | (r,s0,q)::l=>CF (Bb own (r::s0) q) l
theorem Fv:∀ (l:List (Nat×Lab×Lab)) {own:Own} {b:Nat},CF own l b=none↔own b=none
 | [],_,_=>Iff.rfl
 | (r,s0,q)::l,own,b=>by
  have e:CF own ((r,s0,q)::l)=CF (Bb own (r::s0) q) l:=rfl
  rw [e,Fv l,BO]
theorem PX:∀ (l:List (Nat×Lab×Lab)) {own:Own} {b:Nat},own b=some []→CF own l b=some []
 | [],_,_,h=>h
 | (r,s0,q)::l,own,b,h=>by
  have e:CF own ((r,s0,q)::l)=CF (Bb own (r::s0) q) l:=rfl
  rw [e];exact PX l (Cg h (by simp))
theorem UA {l:List (Nat×Lab×Lab)} {own:Own} {b:Nat} {x:Lab} (h:CF own l b=some x):∃ l',own b=some l':=by
 cases ho:own b with
 | none=>rw [(Fv l).2 ho] at h;cases h
 | some l'=>exact⟨l',rfl⟩
theorem Ju:∀ (l:List (Nat×Lab×Lab)) {own:Own} {b r:Nat} {s:Lab},own b=some (r::s)→r ∉ l.map (·.1)→CF own l b=some (r::s)
 | [],_,_,_,_,h,_=>h
 | (i,s0,q)::l,own,b,r,s,h,hl=>by
  have e:CF own ((i,s0,q)::l)=CF (Bb own (i::s0) q) l:=rfl
  rw [e];simp only [List.map_cons,List.mem_cons,not_or] at hl;exact Ju l (BN h (fun⟨s',hs'⟩=>by simp at hs';exact hl.1 hs'.1)) hl.2
theorem RW:∀ (l:List (Nat×Lab×Lab)) {own:Own} {b i:Nat} {s0 q s:Lab},own b=some ((i::s0)++s)→(i,s0,q)∈l→(l.map (·.1)).Nodup→CZ ∉ l.map (·.1)→(∀ p∈l,∃ t,p.2.2=CZ::t)→CF own l b=some (q++s)
 | [],_,_,_,_,_,_,_,h,_,_,_=>by cases h
 | (j,s1,q')::l,own,b,i,s0,q,s,h,hm,hn,hr,ht=>by
  have e:CF own ((j,s1,q')::l)=CF (Bb own (j::s1) q') l:=rfl
  rw [e];simp only [List.map_cons,List.nodup_cons] at hn;simp only [List.map_cons,List.mem_cons,not_or] at hr
  by_cases hij:i=j
  ·subst hij;have hq:s0=s1∧q=q':=by
    rcases List.mem_cons.1 hm with h1 | h1
    ·exact⟨(Prod.mk.inj (Prod.mk.inj h1).2).1,(Prod.mk.inj (Prod.mk.inj h1).2).2⟩
    ·exact absurd (List.mem_map.2 ⟨_,h1,rfl⟩) hn.1
   obtain⟨rfl,rfl⟩:=hq;obtain⟨t,e1⟩:=ht (i,s0,q) (by simp);simp only at e1;have h1:Bb own (i::s0) q b=some (CZ::(t++s)):=by
    rw [DU (p:=i::s0) h,e1];rfl
   rw [Ju l h1 hr.2,e1];rfl
  ·rcases List.mem_cons.1 hm with h1 | h1
   ·exact absurd (Prod.mk.inj h1).1 hij
   ·exact RW l (BN h (fun⟨s',hs'⟩=>by simp at hs';exact hij hs'.1)) h1 hn.2 hr.2 (fun p hp=>ht p (by simp [hp]))
def IH (one:Bool):(j:Nat)→List (Option (Nat×Lab))→List (Nat×Lab×Lab)
 | _,[]=>[]
 | j,e::l=>(match e with
  | some (r,s0)=>[(r,s0,if one then [CZ] else [CZ,j])]
  | none=>[])++IH one (j+1) l
theorem Jw {one:Bool}:∀ (l:List (Option (Nat×Lab))) (j:Nat),(IH one j l).map (·.1)=PQ l
 | [],_=>rfl
 | e::l,j=>by
  have ih:=Jw (one:=one) l (j+1)
  simp only [IH,PQ,List.map_append,ih,List.filterMap_cons];cases e with
  | none=>rfl
  | some p=>rfl
theorem Nx {one:Bool}:∀ (l:List (Option (Nat×Lab))) (j:Nat),∀ p∈IH one j l,∃ t,p.2.2=CZ::t
 | [],_,p,h=>by simp [IH] at h
 | e::l,j,p,h=>by
  simp only [IH,List.mem_append] at h;rcases h with h | h
  ·cases e with
   | none=>simp at h
   | some q=>
    simp only [List.mem_singleton] at h;subst h;simp only;split<;>exact⟨_,rfl⟩
  ·exact Nx l (j+1) p h
theorem Uf {one:Bool}:∀ (l:List (Option (Nat×Lab))) (j k:Nat) {r:Nat} {s0:Lab},l[k]?=some (some (r,s0))→(r,s0,if one then [CZ] else [CZ,j+k])∈IH one j l
 | [],_,_,_,_,h=>by simp at h
 | e::l,j,0,r,s0,h=>by
  simp only [List.getElem?_cons_zero,Option.some.injEq] at h;subst h;simp [IH]
 | e::l,j,k+1,r,s0,h=>by
  rw [List.getElem?_cons_succ] at h;have:=Uf (one:=one) l (j+1) k h
  simp only [IH];refine List.mem_append_right _ ?_
  rwa [show j+1+k=j+(k+1) by omega] at this
theorem RepO.noOwn_move {w w':World} {own own':Own} (h2:∀ b,own b=none→b<w.heap.size→own' b=none∧b<w'.heap.size∧w'.heap[b]?=w.heap[b]?):
 ∀ {t:Ty} {m:Md} {p q:Lab} {cs:List Value} {x:t.D},m.noOwn=true→RepO w own t m p cs x→RepO w' own' t m q cs x
 | .int _,_,_,_,_,_,_,h=>h
 | .bool,_,_,_,_,_,_,h=>h
 | .str,_,_,_,_,_,_,h=>h
 | .list _ _,.own _,_,_,_,_,hm,_=>by simp [Md.noOwn] at hm
 | .list _ _,.hole,_,_,_,_,hm,_=>by simp [Md.noOwn] at hm
 | .list _ _,.ro,_,_,_,_,_,h=>RepV.mono (fun b hb=>⟨⟨(h2 b hb.1 hb.2).1,(h2 b hb.1 hb.2).2.1⟩,(h2 b hb.1 hb.2).2.2⟩) h
 | .list _ _,.pr _ _,_,_,_,_,_,h=>RepV.mono (fun b hb=>⟨⟨(h2 b hb.1 hb.2).1,(h2 b hb.1 hb.2).2.1⟩,(h2 b hb.1 hb.2).2.2⟩) h
 | .pair a b,m,_,_,_,_,hm,h=>by
  obtain⟨c1,c2,rfl,ha,hb⟩:=h;have:m.fst.noOwn=true∧m.snd.noOwn=true:=by cases m<;>simp_all [Md.noOwn,Md.fst,Md.snd]
  exact⟨c1,c2,rfl,RepO.noOwn_move h2 this.1 ha,RepO.noOwn_move h2 this.2 hb⟩
theorem aJ {σ:S} {t:Ty} {m m':Md} {i:Nat} {x:t.D} {ms:List Nat} (h:σ.take t m (.tmp i)=some (m',x,ms)):ms=[]∨ms=[i]:=by
 have hv:∀ {av:AV},Ma t m av=some (m',x,ms)→ms=[]:=fun {av} hv=>by
  unfold Ma at hv;split at hv
  ·split at hv
   ·split at hv
    ·simp only [Option.some.injEq,Prod.mk.injEq] at hv;exact hv.2.2.symm
    ·cases hv
   ·cases hv
  ·split at hv
   ·simp only [Option.some.injEq,Prod.mk.injEq] at hv;exact hv.2.2.symm
   ·cases hv
  ·cases hv
 unfold S.take at h;simp only at h;split at h
 ·split at h
  ·exact .inl (hv h)
  ·split at h
   ·split at h
    ·simp only [Option.some.injEq,Prod.mk.injEq] at h;exact .inr h.2.2.symm
    ·cases h
   ·cases h
 ·exact .inl (hv h)
def RR.run (tmps:Array Value):RR→Sem Value
 | .tmp i=>pure (tmps.getD i undef)
 | .cell a T=>do loadVar T (← asAddr (tmps.getD a undef))
theorem bT {P:Program} {τ:List TE} (hτ:TabOk P τ) {w0:World} {G0:Gh} {np:Nat} {σ:S} {a:Act} {w:World} {G:Gh} (h:Rel w0 G0 np σ a w G) {r:Ret} {i:RR} {x:r.t.D} {e:Option (Nat×Lab)} (hr:WM τ σ r i=some (x,e)):
 ∃ v cs,(i.run a.tmps).run P w=.ok v w∧Val r.t v cs∧(∀ p,e=some p→p.1≠CZ)∧∀ (q:Lab) (own':Own),(∀ b,G.own b=none→own' b=none)→(∀ p,e=some p→∀ b s,G.own b=some ((p.1::p.2)++s)→own' b=some (q++s))→RepO w own' r.t r.m q cs x:=by
 cases i with
 | tmp i=>
  simp only [WM] at hr;split at hr
  ·rename_i m x' ms htk;split at hr
   ·rename_i hm;subst hm;simp only [Option.some.injEq,Prod.mk.injEq] at hr;obtain⟨rfl,rfl⟩:=hr;obtain⟨_,cs,hval,hT⟩:=h.take htk;refine⟨_,cs,rfl,hval,fun p hp=>?_,fun q own' hn hm=>hT.2.2 q w own' (fun b hb hlt=>⟨hn b hb,hlt,rfl⟩) (fun i' hi' b s hb=>⟨?_,rfl⟩)⟩
    ·split at hp
     ·cases hp
     ·simp only [Option.some.injEq] at hp;subst hp;simp only [CZ];omega
    ·rcases aJ htk with rfl | rfl
     ·cases hi'
     ·simp only [List.mem_singleton] at hi';subst hi';exact hm (2 * i',[]) rfl b s hb
   ·cases hr
  ·cases hr
 | cell sa T=>
  simp only [WM] at hr;split at hr
  ·rename_i root hs;split at hr
   ·rename_i hcd;split at hr
    ·rename_i d te hb hte;split at hr
     ·rename_i ht;obtain⟨rt,rm⟩:=r;obtain⟨dt,dm,dx⟩:=d;simp only at ht;subst ht;split at hr
      ·rename_i hmf;obtain⟨h1,hfull,hTe⟩:=hmf;simp only at h1 hfull hTe;subst h1;simp only [Option.some.injEq,Prod.mk.injEq] at hr;obtain⟨rfl,rfl⟩:=hr;have hsl:=h.slots sa
       rw [hs] at hsl;have hrt:σ.rt root=some ⟨dt,dm,dx⟩:=by
        simp only [S.rt];rw [if_neg (by omega),hb];rfl
       obtain⟨A,cs,L,cr,e1,e2,e3,e4,e5,e6⟩:=h.place hsl (d:=⟨dt,dm,dx⟩) (d':=⟨dt,dm,dx⟩) hrt rfl;subst hTe;have hV:RepV w (okd w G.own [root]) te.t cs dx:=RepO.view (fun b h1 h2=>⟨h2,.inl h1⟩) hfull e5 (fun b ⟨s,hb⟩ hlt=>⟨hlt,.inr ⟨root,by simp,by
        obtain⟨s0,e⟩:=Bi root;rw [e] at hb;exact⟨_,hb⟩⟩⟩)
       obtain⟨v,hv,hval⟩:=II hτ hte e6 hV;refine⟨v,cs,?_,hval,fun p hp=>?_,fun q own' hn hm=>?_⟩
       ·simp only [Instr.loadAt,Instr.sureAddr,Sem.run_bind,Sem.run_pure,Result.andThen] at hv;simp only [RR.run,e1,asAddr,Sem.run_bind,Sem.run_pure,Result.andThen];exact hv
       ·split at hp
        ·cases hp
        ·simp only [Option.some.injEq] at hp;subst hp;exact hcd.2
       ·have e0:Ai root++Path.lab []=[root,0]:=by rw [Ai,if_neg (by omega)];rfl
        simp only at e5;rw [e0] at e5
        by_cases hno:dm.noOwn=true
        ·exact RepO.noOwn_move (fun b h1 h2=>⟨hn b h1,h2,rfl⟩) hno e5
        ·exact RepO.move (fun b h1 h2=>⟨hn b h1,h2,rfl⟩) e5 (fun b s hb=>⟨hm (root,[0]) (by rw [if_neg hno]) b s hb,rfl⟩)
      ·cases hr
     ·cases hr
    ·cases hr
   ·cases hr
  ·cases hr
section
variable {P:Program} {τ:List TE} (hτ:TabOk P τ) {w0:World} {G0:Gh} {np:Nat} {σ:S} {a:Act} {w:World} {G:Gh} (h:Rel w0 G0 np σ a w G)
include hτ h
theorem TM:∀ (rs:List Ret) (is:List RR) {y:HL (rts rs)} {l:List (Option (Nat×Lab))},NE τ σ rs is=some (y,l) →
 is.length=rs.length∧l.length=rs.length∧(∀ e∈l,∀ p,e=some p→p.1≠CZ)∧∃ vs:List Value,vs.length=is.length∧(is.mapM (RR.run a.tmps)).run P w=.ok vs w ∧
  ∀ (one:Bool) (own':Own) (j:Nat),(∀ b,G.own b=none→own' b=none)→(∀ k p,l[k]?=some (some p)→∀ b s,G.own b=some ((p.1::p.2)++s)→own' b=some ((if one then [CZ] else [CZ,j+k])++s)) →
   (one=false→∀ arr:Array Value,(∀ k,k<vs.length→arr.getD (j+k) undef=vs.getD k undef)→VU w own' arr j rs y)∧(∀ r,(hrs:rs=[r])→one=true→j=0→∃ cs,Val r.t (vs.getD 0 undef) cs∧RepO w own' r.t r.m [CZ] cs (hrs ▸ y).1)
 | [],[],y,l,hr=>by
  simp only [NE,Option.some.injEq,Prod.mk.injEq] at hr;obtain⟨_,rfl⟩:=hr;exact⟨rfl,rfl,(fun e he=>nomatch he),[],rfl,(by simp),fun one own' j _ _=>⟨fun _ arr _=>trivial,(fun r hrs=>nomatch hrs)⟩⟩
 | [],_::_,y,l,hr=>by simp [NE] at hr
 | _::_,[],y,l,hr=>by simp [NE] at hr
 | r::rs,i::is,y,l,hr=>by
  simp only [NE] at hr;split at hr
  ·rename_i x e xs l' h1 hrec;simp only [Option.some.injEq,Prod.mk.injEq] at hr;obtain⟨rfl,rfl⟩:=hr;obtain⟨v,cs,q1,q2,q3,q4⟩:=bT hτ h h1;obtain⟨b1,b2,b3,vs,b4,b5,b6⟩:=TM rs is hrec;refine⟨by simp [b1],by simp [b2],fun e' he' p hp=>?_,v::vs,by simp [b4],?_,fun one own' j hn hm=>⟨fun hone arr harr=>⟨⟨cs,?_,?_⟩,?_⟩,fun r' hrs hone hj=>?_⟩⟩
   ·rcases List.mem_cons.1 he' with h2 | h2
    ·subst h2;exact q3 p hp
    ·exact b3 e' h2 p hp
   ·simp only [List.mapM_cons,Sem.run_bind,q1,b5,Result.andThen,Sem.run_pure]
   ·have:=harr 0 (by simp)
    simp only [Nat.add_zero,List.getD_cons_zero] at this;rw [this];exact q2
   ·refine q4 [CZ,j] own' hn (fun p hp b s hb=>?_)
    have:=hm 0 p (by simp [hp]) b s hb
    rw [hone] at this;simpa using this
   ·refine((b6 false own' (j+1) hn (fun k p hk b s hb=>?_)).1 rfl arr (fun k hk=>?_))
    ·have:=hm (k+1) p (by simpa using hk) b s hb
     rw [hone] at this;rw [show j+1+k=j+(k+1) by omega];exact this
    ·have:=harr (k+1) (by simp;omega)
     rw [List.getD_cons_succ] at this;rw [show j+1+k=j+(k+1) by omega];exact this
   ·obtain⟨rfl,hrs2⟩:=List.cons.inj hrs;subst hrs2;refine⟨cs,by rw [List.getD_cons_zero];exact q2,q4 [CZ] own' hn (fun p hp b s hb=>?_)⟩
    have:=hm 0 p (by simp [hp]) b s hb
    rw [hone] at this;exact this
  ·cases hr
theorem bU (rs:List Ret) (is:List RR) {y:HL (rts rs)} {l:List (Option (Nat×Lab))} (hr:NE τ σ rs is=some (y,l)) (hnd:(PQ l).Nodup) {ps:List Prm} (hps:ps.length≤1000000):
 ∃ v,((do let vs ← is.mapM (RR.run a.tmps);pure (if h:vs.toArray.size=1 then vs.toArray[0] else .tuple vs.toArray)):Sem Value).run P w=.ok v w∧aX w (Dx ps (CF G.own (IH (decide (is.length=1)) 0 l))) rs v y:=by
 obtain⟨b1,b2,b3,vs,b4,b5,b6⟩:=TM hτ h rs is hr;refine⟨if h:vs.toArray.size=1 then vs.toArray[0] else .tuple vs.toArray,by simp only [Sem.run_bind,b5,Result.andThen,Sem.run_pure],?_⟩
 have hb6:=b6 (decide (is.length=1)) (Dx ps (CF G.own (IH (decide (is.length=1)) 0 l))) 0 (fun b hb=>Hz.2 ((Fv _).2 hb)) (fun k p hk b s hb=>by
  have hlab:=RW _ (i:=p.1) (s0:=p.2) hb (Uf (one:=decide (is.length=1)) l 0 k (r:=p.1) (s0:=p.2) hk) (by rw [Jw];exact hnd) (fun hm=>by
   rw [Jw] at hm;obtain⟨e,he,hep⟩:=List.mem_filterMap.1 hm;obtain⟨p',hp',hp2⟩:=Option.map_eq_some_iff.1 hep;exact b3 e he p' hp' hp2) (Nx l 0)
  cases hone:decide (is.length=1) with
  | true=>
   rw [hone] at hlab;exact Qu hps hlab
  | false=>
   rw [hone] at hlab;exact Qu hps hlab)
 match rs,y,hr,b1,b2,hb6 with
 | [],y,hr,b1,b2,hb6=>trivial
 | [r],y,hr,b1,b2,hb6=>
  have hl:is.length=1:=b1
  obtain⟨cs,q1,q2⟩:=hb6.2 r rfl (by simp [hl]) rfl
  match vs,b4.trans hl with
  | [v],_=>exact⟨cs,q1,q2⟩
 | r::r2::rs,y,hr,b1,b2,hb6=>
  have hl:is.length≠1:=by rw [b1];simp
  have hvl:¬ vs.toArray.size=1:=by simp only [List.size_toArray];rw [b4];exact hl
  rw [dif_neg hvl];refine⟨_,rfl,by simp [b4,b1],hb6.1 (by simp [hl]) vs.toArray (fun k hk=>?_)⟩
  simp [Array.getD_eq_getD_getElem?,List.getD_eq_getElem?_getD]
end
theorem Nw {P:Program} {fn:Func} {is:List RR} (hr:fn.results.toList=is.map RR.rv) (tmps:Array Value) (w:World):
 (results fn tmps).run P w=((do let vs ← is.mapM (RR.run tmps);pure (if h:vs.toArray.size=1 then vs.toArray[0] else .tuple vs.toArray)):Sem Value).run P w:=by
 have key:∀ (f:ResultVar→Sem Value),(∀ i:RR,f i.rv=i.run tmps)→∀ (is:List RR),((is.map RR.rv).mapM f)=is.mapM (RR.run tmps):=by
  intro f hf is
  induction is with
  | nil=>simp
  | cons i is ih=>simp only [List.map_cons,List.mapM_cons,hf,ih]
 unfold results;simp only [Sem.run_bind,Array.mapM_eq_mapM_toList,Sem.run_map];rw [hr,key _ (fun i=>by cases i<;>rfl)];cases (is.mapM (RR.run tmps)).run P w<;>rfl
structure FnOk (P:Program) (E:Env) (c:Cal) (fn:Func) (code:Code) (hn:Hn) (gr:List Gr) (is:List RR):Prop where
 get:P.funcs[c.f]?=some fn
 name : (fn.name == "runtime.NumGoroutine") = false
 body:fn.body=some code
 res:fn.results.toList=is.map RR.rv
 tmps:fn.ntmps=E.n
 big:c.ps.length≤E.n
 np:E.np=c.ps.length
theorem Mu {w0 w:World} {own:Own} {G0:Gh} {np:Nat} {σ:S} {a:Act} {G:Gh} (h:Rel w0 G0 np σ a w G) {psA:List Prm} {l:List (Nat×Lab×Lab)} (hl:∀ r∈l.map (·.1),r % 2=1→psA.length≤r / 2) (hnp:np=psA.length):∀ (ps:List Prm) (i:Nat) (vs:List Value) (x:HL (pts ps)) {z:HL (fts ps)},
 (∀ k p,ps[k]?=some p→psA[i+k]?=some p)→BegL w0 own G0.bl G0.hv G0.arr0 G0.T0 i ps vs x→MC σ i ps=some z→OB w0 w (Dx psA (CF G.own l)) i ps vs z
 | [],_,_,_,_,_,_,_=>trivial
 | ⟨.ro,t⟩::ps,i,vs,x,z,hp,hb,hf=>Mu h hl hnp ps (i+1) vs.tail x.2 (fun k p hk=>by have:=hp (k+1) p (by simpa using hk);rwa [show i+(k+1)=i+1+k by omega] at this) hb.2 hf
 | ⟨.mov m,t⟩::ps,i,vs,x,z,hp,hb,hf=>Mu h hl hnp ps (i+1) vs.tail x.2 (fun k p hk=>by have:=hp (k+1) p (by simpa using hk);rwa [show i+(k+1)=i+1+k by omega] at this) hb.2 hf
 | ⟨.inp m,t⟩::ps,i,vs,x,z,hp,hb,hf=>by
  have hpi:psA[i]?=some ⟨.inp m,t⟩:=by have:=hp 0 _ rfl;simpa using this
  have hilt:i<psA.length:=(List.getElem?_eq_some_iff.1 hpi).1
  simp only [MC] at hf;split at hf
  ·rename_i d z' hbx hrec;split at hf
   ·rename_i ht;split at hf
    ·rename_i hm;obtain⟨dt,dm,dx⟩:=d;simp only at ht hm;subst ht hm;simp only [Option.some.injEq] at hf;subst hf;refine⟨?_,Mu h hl hnp ps (i+1) vs.tail x.2 (fun k p hk=>by have:=hp (k+1) p (by simpa using hk);rwa [show i+(k+1)=i+1+k by omega] at this) hb.2 hrec⟩
     obtain⟨q1,q2,_⟩:=hb.1.inp dm rfl;obtain⟨r1,r2⟩:=h.boxes i _ hbx;obtain⟨_,e2,_,_⟩:=h.ext i (by omega);rw [e2] at r1 r2;refine⟨(G0.hv i).2,q2,RepO.move (fun b h1 h2=>⟨Hz.2 ((Fv _).2 h1),h2,rfl⟩) r2 (fun b s hb'=>⟨?_,rfl⟩)⟩
     have h3:=Ju l (r:=2 * i+1) (s:=0::s) (by simpa using hb') (fun hm=>by have:=hl _ hm (by omega);omega)
     have:=Wk hpi h3
     simpa using this
    ·cases hf
   ·cases hf
  ·cases hf
 | ⟨.ptr m,t⟩::ps,i,vs,x,z,hp,hb,hf=>by
  have hpi:psA[i]?=some ⟨.ptr m,t⟩:=by have:=hp 0 _ rfl;simpa using this
  have hilt:i<psA.length:=(List.getElem?_eq_some_iff.1 hpi).1
  simp only [MC] at hf;split at hf
  ·rename_i d z' hbx hrec;split at hf
   ·rename_i ht;split at hf
    ·rename_i hm;obtain⟨dt,dm,dx⟩:=d;simp only at ht hm;subst ht hm;simp only [Option.some.injEq] at hf;subst hf;refine⟨?_,Mu h hl hnp ps (i+1) vs.tail x.2 (fun k p hk=>by have:=hp (k+1) p (by simpa using hk);rwa [show i+(k+1)=i+1+k by omega] at this) hb.2 hrec⟩
     obtain⟨q1,q2,q3,q4,_⟩:=hb.1.ptr dm rfl;obtain⟨arr,r1,r2,r3,r4,r5,cs,r6,r7⟩:=h.boxes i _ hbx;obtain⟨e1,_,e3,e4⟩:=h.ext i (by omega);rw [e1,e4] at r1;rw [e1] at r2 r4 r5 r7;rw [e3] at r3 r5;have hlab:∀ b s,G.own b=some ((2 * i+1)::s)→Dx psA (CF G.own l) b=some (2 * i::s):=fun b s hb'=>
      Wm hpi (Ju l hb' (fun hm=>by have:=hl _ hm (by omega);omega))
     refine⟨_,_,_,arr,_,cs,q1,q3,r1,r3,r5,hlab _ [] r2,?_,r7⟩
     refine RepO.move (fun b h1 h2=>⟨Hz.2 ((Fv _).2 h1),h2,rfl⟩) r6 (fun b s hb'=>⟨?_,rfl⟩)
     have:=hlab b (0::s) (by simpa using hb')
     simpa using this
    ·cases hf
   ·cases hf
  ·cases hf
theorem UJ {P:Program} {E:Env} {c:Cal} {fn:Func} {code:Code} {hn:Hn} {gr:List Gr} {is:List RR} (hf:FnOk P E c fn code hn gr is) {w:World} {own:Own} {args:List Value} {x:HL (pts c.ps)} (hlive:∀ b l,own b=some l→b<w.heap.size) (hargs:ArgsR w own 0 c.ps args x):
 ∃ G:Gh,G.own=IE c.ps own∧BegL w own G.bl G.hv G.arr0 G.T0 0 c.ps args x∧Rel w G E.np (Ck E.n c.ps x) { tmps:=args.toArray++Array.replicate (fn.ntmps - args.toArray.size) undef,defers:=[] } w G:=by
 have hlen:=ArgsR.len _ _ _ _ hargs
 obtain⟨bl,hv,arr0,T0,hB⟩:=ArgsR.beg _ _ _ _ hargs
 let G:Gh:={ own:=IE c.ps own,bl:=bl,hv:=hv,arr0:=arr0,T0:=T0 }
 let a:Act:={ tmps:=args.toArray++Array.replicate (fn.ntmps - args.toArray.size) undef,defers:=[] }
 have hO2:∀ b,own b=none→b<w.heap.size→G.own b=none∧b<w.heap.size∧w.heap[b]?=w.heap[b]?:=fun b h1 h2=>⟨Db.2 h1,h2,rfl⟩
 have hslotE:∀ i,i<c.ps.length→(Ck E.n c.ps x).slot i=((FZ 0 c.ps x)[i]?).getD .none:=fun i hi=>by
  have hlt:i<(FZ 0 c.ps x).length:=by rw [FO];exact hi
  simp only [Ck,S.slot,List.getD_eq_getElem?_getD,List.getElem?_append_left hlt]
 have hR:Rel w G E.np (Ck E.n c.ps x) a w G:=by
  refine { os:=rfl,tape:=rfl,output:=rfl,size:=Nat.le_refl _,live:=fun b l hb=>?_,keep:=fun b _ hb=>⟨hb,rfl⟩,frn:=fun b _ hb=>⟨hb,rfl⟩,ext:=fun _ _=>⟨rfl,rfl,rfl,rfl⟩,slots:=fun i=>?_,boxes:=fun k bx hb=>?_,tmps:=?_,defers:=rfl }
  ·obtain⟨l',hl'⟩:=WC hb;exact hlive b l' hl'
  ·by_cases hi:i<c.ps.length
   ·obtain⟨y,b1,b2,b3⟩:=BegL.at_ _ 0 _ _ hB i c.ps[i] (List.getElem?_eq_getElem hi);rw [Nat.zero_add] at b1 b2;have e1:=hslotE i hi
    rw [b2,Option.getD_some] at e1;have e2:a.tmps.getD i undef=args.getD i undef:=by
     have hlt2:i<args.length:=by omega
     simp only [a,Array.getD_eq_getD_getElem?,List.getD_eq_getElem?_getD];rw [Array.getElem?_append_left (by simpa using hlt2)];simp
    rw [e1,e2];have hpi:c.ps[i]?=some c.ps[i]:=List.getElem?_eq_getElem hi
    generalize c.ps[i]=p at *;obtain⟨k,t⟩:=p;cases k with
    | ro=>
     obtain⟨cs,q1,q2⟩:=b1.ro rfl;exact SlotR.mk ⟨cs,q1,RepV.mono (fun b hb=>⟨⟨hb.2,.inl (Db.2 hb.1)⟩,rfl⟩) q2,fun p hp=>by cases hp⟩
    | mov m=>
     obtain⟨cs,q1,q2⟩:=b1.mov m rfl;exact⟨cs,q1,RepO.move hO2 q2 (fun b s hb=>⟨ML hpi (by simpa using hb),rfl⟩)⟩
    | inp m=>
     obtain⟨q1,q2,q3⟩:=b1.inp m rfl;refine⟨?_,⟨t,m,y⟩,?_⟩
     ·show Val (hv i).1 _ (hv i).2
      rw [q1];exact q2
     ·simp only [Ck,S.box,List.getD_eq_getElem?_getD,b3,Option.getD_some]
    | ptr m=>
     obtain⟨q1,q2,q3,q4,cs,q5,q6⟩:=b1.ptr m rfl;intro d L cr hroot;have hroot1:RootR G (Ck E.n c.ps x) a.tmps w (2 * i+1) d L cr:=hroot
     rcases hroot1.box_inv rfl with⟨h1,h2,h3,h4⟩ | ⟨h1,_,_⟩
     ·refine⟨d,⟨(bl i).1,(bl i).2,none⟩,cr,rfl,?_,q1⟩
      subst h2;simp [Al,G]
     ·exfalso
      simp only [Ck,S.box,List.getD_eq_getElem?_getD,b3,Option.getD_some] at h1;cases h1
   ·have e1:(Ck E.n c.ps x).slot i=.none:=by
     simp only [Ck,S.slot,List.getD_eq_getElem?_getD];rw [List.getElem?_append_right (by rw [FO];omega),List.getElem?_replicate];split<;>rfl
    rw [e1];trivial
  ·have hk:k<c.ps.length:=by
    rcases Nat.lt_or_ge k c.ps.length with h1 | h1
    ·exact h1
    ·exfalso
     have hbl:∀ (ps:List Prm) (x:HL (pts ps)),(Ix ps x).length=ps.length:=by
      intro ps
      induction ps with
      | nil=>intro x;rfl
      | cons p ps ih=>
       intro x;obtain⟨k0,t0⟩:=p;cases k0<;>simp [Ix,ih x.2]
     simp only [Ck,S.box,List.getD_eq_getElem?_getD] at hb;rw [List.getElem?_eq_none (by rw [hbl];exact h1)] at hb;cases hb
   obtain⟨y,b1,b2,b3⟩:=BegL.at_ _ 0 _ _ hB k c.ps[k] (List.getElem?_eq_getElem hk);rw [Nat.zero_add] at b1;have hpi:c.ps[k]?=some c.ps[k]:=List.getElem?_eq_getElem hk
   simp only [Ck,S.box,List.getD_eq_getElem?_getD,b3,Option.getD_some] at hb;generalize c.ps[k]=p at *;obtain⟨kk,t⟩:=p;cases kk with
   | ro=>cases hb
   | mov m=>cases hb
   | inp m=>
    obtain⟨rfl⟩:=hb;obtain⟨q1,q2,q3⟩:=b1.inp m rfl;refine⟨q1.symm,RepO.move hO2 q3 (fun b s hb=>⟨?_,rfl⟩)⟩
    have:=ML hpi (s:=s) (by simpa using hb)
    simpa [PK.lend] using this
   | ptr m=>
    obtain⟨rfl⟩:=hb;obtain⟨q1,q2,q3,q4,cs,q5,q6⟩:=b1.ptr m rfl;refine⟨arr0 k,q3,?_,rfl,q4,fun _ _=>rfl,cs,RepO.move hO2 q5 (fun b s hb=>⟨?_,rfl⟩),q6⟩
    ·have:=ML hpi (s:=[]) q2
     simpa [PK.lend] using this
    ·have:=ML hpi (s:=0::s) (by simpa using hb)
     simpa [PK.lend] using this
  ·simp only [Ck,a,List.length_append,FO,List.length_replicate,Array.size_append,List.size_toArray,Array.size_replicate,hf.tmps,hlen]
 exact⟨G,rfl,hB,hR⟩
theorem TN {P:Program} {E:Env} (hE:EnvOk P E) {c:Cal} {fn:Func} {code:Code} {hn:Hn} {gr:List Gr} {is:List RR} (hf:FnOk P E c fn code hn gr is) {w:World} {own:Own} {args:List Value} {x:HL (pts c.ps)} {y:HL (rts c.rs++fts c.ps)} {G:Gh} (hG:G.own=IE c.ps own) (hB:BegL w own G.bl G.hv G.arr0 G.T0 0 c.ps args x)
 (a':Act) (w':World) (hA:At w G E.np (BS E.τ gr c.ps c.rs is) y a' w'):bodyPost P fn (OD w own c.ps args c.rs y) .ret a' w':=by
 obtain⟨σ2,G2,hR2,h2⟩:=At.after hA hf.np.symm;simp only at h2;split at h2
 ·rename_i y' l z hrv hfv;split at h2
  ·rename_i hcd;obtain⟨hnd,hsm,hhd⟩:=hcd;obtain⟨rfl⟩:=h2;obtain⟨v,hv,hrets⟩:=bU hE.tab hR2 c.rs is hrv hnd hsm;refine⟨hR2.defers,v,by rw [Nw hf.res];exact hv,?_⟩
   have hkeep:∀ b,b<w.heap.size→own b=none→Dx c.ps (CF G2.own (IH (decide (is.length=1)) 0 l)) b=none∧w'.heap[b]?=w.heap[b]?:=fun b hb ho=>by
    obtain⟨g1,g2⟩:=hR2.keep b hb (by rw [hG];exact Db.2 ho);exact⟨Hz.2 ((Fv _).2 g1),g2⟩
   have hfrn:∀ b,b<w.heap.size→own b=some []→Dx c.ps (CF G2.own (IH (decide (is.length=1)) 0 l)) b=some []∧w'.heap[b]?=w.heap[b]?:=fun b hb ho=>by
    obtain⟨g1,g2⟩:=hR2.frn b hb (by rw [hG];exact NC ho);exact⟨Wl (PX _ g1),g2⟩
   refine⟨v,Dx c.ps (CF G2.own (IH (decide (is.length=1)) 0 l)),rfl,hR2.os,hR2.tape,hR2.output,hR2.size,fun b l' hb=>?_,hkeep,hfrn,?_,?_⟩
   ·obtain⟨l3,hl3⟩:=VY hb;obtain⟨l2,hl2⟩:=UA hl3;exact hR2.live b l2 hl2
   ·rw [HL.left_app];exact hrets
   ·rw [HL.right_app];exact Mu hR2 (by rw [Jw];exact hhd) hf.np c.ps 0 args x (fun k p hk=>by rw [Nat.zero_add];exact hk) hB hfv
  ·cases h2
 ·cases h2
def OZ:Nat→List Prm→Bool
 | 0,_=>true
 | 1,⟨.ptr _,_⟩::p::ps=>match (p::ps).getLast? with
  | some ⟨.ptr _,_⟩=>true
  | _=>false
 | 2,⟨.ro,.pair _ _⟩::p::ps=>match (p::ps).getLast? with
  | some ⟨.ptr _,_⟩=>true
  | _=>false
 | _,_=>false
def CI:(md n:Nat)→(ps:List Prm)→HL (pts ps)→S
 | 1,n,ps,x=>((Ck n ps x).put 0 (.mp 0 (ps.length - 1))).put (ps.length - 1) .none
 | 2,n,⟨.ro,t⟩::ps,x=>((Ck n (⟨.ro,t⟩::ps) x).put 0 (.mr t x.1 [] ps.length)).put ps.length .none
 | _,n,ps,x=>Ck n ps x
theorem TK {args ra mid:List Value} {v v' z:Value} (h1:args=v::(mid++[z])) (h2:ra=v'::mid) {n:Nat} (hn:args.length≤n):
 ((({ tmps:=args.toArray++Array.replicate (n - args.toArray.size) undef,defers:=[] }:Act).put (some 0) v').put (some (args.length - 1)) undef) = { tmps:=ra.toArray++Array.replicate (n - ra.toArray.size) undef,defers:=[] }:=by
 subst h1 h2;simp only [Act.put]
 congr 1
 apply Array.ext'
 simp only [List.length_cons,List.length_append,List.length_nil] at hn;simp only [Array.toList_setIfInBounds,Array.toList_append,Array.toList_replicate,List.size_toArray,List.length_cons,List.length_append,List.length_nil];have e:n - (mid.length+1)=(n - (mid.length+(0+1)+1))+1:=by omega
 rw [e,List.replicate_succ];have e2:mid.length+(0+1)+1 - 1=mid.length+1:=by omega
 rw [e2];simp
theorem XI {w:World} {G:Gh} {np n nt:Nat} {ps:List Prm} {x:HL (pts ps)} {own:Own} {args ra:List Value} {md:Nat} (hlen:args.length=ps.length) (hbig:ps.length≤n) (hnt:ps.length≤nt) (hmd:OZ md ps=true) (hra:PD md w own args ra)
 (hG:G.own=IE ps own) (hB:BegL w own G.bl G.hv G.arr0 G.T0 0 ps args x) (h:Rel w G np (Ck n ps x) { tmps:=args.toArray++Array.replicate (nt - args.toArray.size) undef,defers:=[] } w G):
 Rel w G np (CI md n ps x) { tmps:=ra.toArray++Array.replicate (nt - ra.toArray.size) undef,defers:=[] } w G:=by
 have hsl:(Ck n ps x).sl.length=n:=by simp only [Ck,List.length_append,FO,List.length_replicate];omega
 match md,hmd,hra with
 | 0,_,hra=>
  have:ra=args:=hra
  rw [this];cases ps<;>exact h
 | 1,hmd,hra=>
  obtain⟨b,o,A,mid,h1,h2,h3⟩:=hra
  match ps,x,hlen,hbig,hnt,hmd,hG,hB,h,hsl with
  | ⟨.ptr m,t⟩::p::ps,x,hlen,hbig,hnt,hmd,hG,hB,h,hsl=>
   have hll:args.length - 1=(p::ps).length:=by rw [hlen];rfl
   obtain⟨y0,b0,_,_⟩:=BegL.at_ _ 0 _ _ hB 0 ⟨.ptr m,t⟩ rfl;obtain⟨q1,q2,q3,q4,_⟩:=b0.ptr m rfl;simp only [OZ] at hmd;split at hmd
   ·rename_i m2 t2 hl;have hlast:(⟨.ptr m,t⟩::p::ps)[(p::ps).length]?=some ⟨.ptr m2,t2⟩:=by
     rw [List.getLast?_eq_getElem?] at hl;rw [List.length_cons,List.getElem?_cons_succ];simpa using hl
    obtain⟨y1,b1,_,_⟩:=BegL.at_ _ 0 _ _ hB _ _ hlast;obtain⟨r1,_⟩:=b1.ptr m2 rfl;have ea:args.getD (p::ps).length undef=.pointer (some A):=by
     have:(p::ps).length=mid.length+1:=by rw [← hll,h1];simp
     rw [this,h1];simp
    rw [ea] at r1;have e0:args.getD 0 undef=.pointer (some ⟨b,o+1,none⟩):=by rw [h1];rfl
    simp only [Nat.add_zero,Nat.zero_add] at q1 q2 q3 r1;rw [e0] at q1;have hb0:G.bl 0=(b,o+1):=by
     simp only [Value.pointer.injEq,Option.some.injEq,Addr.mk.injEq,and_true] at q1;exact Prod.ext q1.1.symm q1.2.symm
    have hA:A=⟨(G.bl (p::ps).length).1,(G.bl (p::ps).length).2,none⟩:=by simpa using r1
    have hS:SlotR G (Ck n (⟨.ptr m,t⟩::p::ps) x) ({ tmps:=args.toArray++Array.replicate (nt - args.toArray.size) undef,defers:=[] }:Act).tmps w 0 (.mp 0 (p::ps).length) (.pointer (some ⟨b,o,none⟩)):=by
     refine⟨by rw [hb0];exact Nat.le_add_left _ _,by rw [hb0];rfl,?_⟩
     rw [hb0,← hA];have:=h3
     unfold World.cell? at this;rw [hb0] at q3;simp only [q3] at this;simpa using this
    have g1:=h.put (d:=0) (by rw [hsl];exact Nat.lt_of_lt_of_le (Nat.succ_pos _) hbig) hS rfl
    have g2:=g1.put (d:=(p::ps).length) (av:=.none) (v:=undef) (i:=0) (by simp only [S.put,List.length_set,Hg];rw [hsl];exact hbig) trivial rfl
    have hact:=TK (n:=nt) h1 h2 (by rw [hlen];exact hnt)
    rw [hll] at hact;rw [hact] at g2;exact g2
   ·cases hmd
 | 2,hmd,hra=>
  obtain⟨b,o,A,cs,mid,h1,h2,h3,h4,h5,h6⟩:=hra
  match ps,x,hlen,hbig,hnt,hmd,hG,hB,h,hsl with
  | ⟨.ro,.pair ta tb⟩::p::ps,x,hlen,hbig,hnt,hmd,hG,hB,h,hsl=>
   have hll:args.length - 1=(p::ps).length:=by rw [hlen];rfl
   have hb0:=hB.1.ro rfl
   simp only [OZ] at hmd;split at hmd
   ·rename_i m2 t2 hl;have hlast:(⟨.ro,.pair ta tb⟩::p::ps:List Prm)[(p::ps).length]?=some ⟨.ptr m2,t2⟩:=by
     rw [List.getLast?_eq_getElem?] at hl;rw [List.length_cons,List.getElem?_cons_succ];simpa using hl
    obtain⟨y1,b1,_,_⟩:=BegL.at_ _ 0 _ _ hB _ _ hlast;obtain⟨r1,_⟩:=b1.ptr m2 rfl;have ea:args.getD (p::ps).length undef=.pointer (some A):=by
     have:(p::ps).length=mid.length+1:=by rw [← hll,h1];simp
     rw [this,h1];simp
    rw [ea] at r1;simp only [Nat.zero_add] at r1;have hA:A=⟨(G.bl (p::ps).length).1,(G.bl (p::ps).length).2,none⟩:=by simpa using r1
    obtain⟨cs',v1,v2⟩:=hb0;have e0:args.headD undef=.agg cs.toArray:=by rw [h1];rfl
    rw [e0] at v1;have v1':Value.agg cs.toArray=.agg cs'.toArray:=v1
    have ecs:cs=cs':=by simpa using v1'
    subst ecs;have hS:SlotR G (Ck n (⟨.ro,.pair ta tb⟩::p::ps) x) ({ tmps:=args.toArray++Array.replicate (nt - args.toArray.size) undef,defers:=[] }:Act).tmps w 0 (.mr (.pair ta tb) x.1 [] (p::ps).length) (.pointer (some ⟨b,o,none⟩)):=by
     refine⟨b,o,cs,rfl,(by
      rcases h5 with h5 | h5
      ·exact .inl ⟨h6,.inl (by rw [hG];exact Db.2 h5)⟩
      ·exact .inr ⟨h6,by rw [hG];exact NC h5⟩),by rw [← hA];exact h3,h4,?_⟩
     exact RepV.mono (fun b hb=>⟨⟨hb.2,.inl (by rw [hG];exact Db.2 hb.1)⟩,rfl⟩) v2
    have g1:=h.put (d:=0) (by rw [hsl];exact Nat.lt_of_lt_of_le (Nat.succ_pos _) hbig) hS rfl
    have g2:=g1.put (d:=(p::ps).length) (av:=.none) (v:=undef) (i:=0) (by simp only [S.put,List.length_set,Hg];rw [hsl];exact hbig) trivial rfl
    have hact:=TK (n:=nt) h1 h2 (by rw [hlen];exact hnt)
    rw [hll] at hact;rw [hact] at g2;exact g2
   ·cases hmd
 | n+3,hmd,_=>simp [OZ] at hmd
theorem BH {P:Program} {E:Env} (hE:EnvOk P E) {c:Cal} {fn:Func} {code:Code} {hn:Hn} {gr:List Gr} {is:List RR} (hf:FnOk P E c fn code hn gr is) (hmd:OZ c.md c.ps=true)
 (hF:∀ x y,c.F x=some y→den E code hn (CI c.md E.n c.ps x) (BS E.τ gr c.ps c.rs is) (fun _ _=>none) (BS E.τ gr c.ps c.rs is)=some y):Cok P c:=by
 refine⟨⟨fn,hf.get,hf.name,by rw [hf.body];rfl⟩,fun w own args x y hlive hI hargs hy ra hra=>?_⟩
 obtain⟨G,hG,hB,hR⟩:=UJ hf hlive hargs;have hlen:=ArgsR.len _ _ _ _ hargs
 have hR2:=XI (md:=c.md) hlen hf.big (by rw [hf.tmps];exact hf.big) hmd hra hG hB hR
 have h3:¬ c.md=3:=fun e=>by rw [e] at hmd;simp [OZ] at hmd
 unfold Uu;rw [if_neg h3];refine calls_of_wp hf.get hf.body ?_
 refine Du hE (G0:=G) (w0:=w) (hI.of fun b _ h2=>⟨by rw [hG];exact Db.2 h2,rfl⟩) code hn hR2 (hF x y hy) (fun a' w' hA=>?_) (fun j a' w' ⟨_,_,_,hh⟩=>by cases hh) (TN hE hf hG hB)
 exact TN hE hf hG hB a' w' hA
def TL (gr:List Gr) (ps:List Prm) (r:Ret) (i:Nat):S→Option (HL (rts [r]++fts ps)):=BT ps.length gr fun σ=>match σ.slot i with
 | .ptr ⟨root,[]⟩=>if root % 2=1∧ps.length≤root / 2 then (match σ.box (root / 2),MC σ 0 ps with
  | some (true,d),some z=>if h:d.t=r.t then (if d.m.noOwn=true then some ((h ▸ d.x:r.t.D),z) else none) else none
  | _,_=>none) else none
 | _=>none
theorem am {P:Program} {E:Env} (hE:EnvOk P E) {f:Nat} {ps:List Prm} {r:Ret} {F:HL (pts ps)→Option (HL (rts [r]++fts ps))} {fn:Func} {code:Code} {hn:Hn} {gr:List Gr} {i:Nat} (hf:FnOk P E ⟨f,ps,[r],F,3⟩ fn code hn gr [.tmp i])
 (hF:∀ x y,F x=some y→den E code hn (Ck E.n ps x) (TL gr ps r i) (fun _ _=>none) (TL gr ps r i)=some y):Cok P ⟨f,ps,[r],F,3⟩:=by
 refine⟨⟨fn,hf.get,hf.name,by rw [hf.body];rfl⟩,fun w own args x y hlive hI hargs hy ra hra=>?_⟩
 obtain⟨hra1,hown⟩:=hra;rw [hra1];obtain⟨G,hG,hB,hR⟩:=UJ hf hlive hargs;show Calls P f args.toArray w (Uv w own [r] (fts ps) y)
 have hret:∀ a' w',At w G E.np (TL gr ps r i) y a' w'→bodyPost P fn (Uv w own [r] (fts ps) y) .ret a' w':=by
  intro a' w' hA;obtain⟨σ2,G2,hR2,h2⟩:=At.after hA hf.np.symm;simp only at h2;split at h2
  ·rename_i root hsl;split at h2
   ·rename_i hcd;split at h2
    ·rename_i d z hb hfin;split at h2
     ·rename_i ht;split at h2
      ·rename_i hno;obtain⟨dt,dm,dx⟩:=d;simp only at ht hno;subst ht;simp only [Option.some.injEq] at h2;subst h2;have er:2 * (root / 2)+1=root:=by omega
       obtain⟨cs0,hroot⟩:=hR2.rootOf.2 _ _ hb;rw [er] at hroot;have hs:=hR2.slots i
       rw [hsl] at hs;obtain⟨d0,A,cs1,g1,g2,g3⟩:=hs _ _ _ hroot;simp only [Al,Option.some.injEq,Prod.mk.injEq] at g2;obtain⟨g4,_⟩:=g2;rw [← g4] at g3;obtain⟨arr,e1,e2,e3,e4,e5,cs,e6,e7⟩:=hR2.boxes _ _ hb;refine⟨hR2.defers,a'.tmps.getD i undef,?_,?_⟩
       ·rw [Nw hf.res];simp [RR.run]
       ·have hk:∀ b,b<w.heap.size→own b=none→G2.own b=none∧w'.heap[b]?=w.heap[b]?:=fun b hb ho=>hR2.keep b hb (by rw [hG];exact Db.2 ho)
        have hn:∀ b,b<w.heap.size→own b=some []→G2.own b=some []∧w'.heap[b]?=w.heap[b]?:=fun b hb ho=>hR2.frn b hb (by rw [hG];exact NC ho)
        refine⟨_,_,arr,_,cs,G2.own,by rw [g3],hR2.os,hR2.tape,hR2.output,hR2.size,hR2.live,hk,hn,?_,?_,e1,e4,?_,e7⟩
        ·rcases Nat.lt_or_ge (G2.bl (root / 2)).1 w.heap.size with hlt | hge
         ·exfalso
          cases ho:own (G2.bl (root / 2)).1 with
          | none=>
           have:=(hk _ hlt ho).1
           rw [e2] at this;cases this
          | some l=>
           have hl:=hown _ _ ho
           subst hl;have:=(hn _ hlt ho).1
           rw [e2] at this;cases this
         ·exact hge
        ·rw [e2];simp
        ·refine RepV.mono (fun b hb=>⟨⟨?_,hb.1⟩,rfl⟩) (RepO.noOwn hno e6)
         rcases hb.2 with h | ⟨r,hr,_⟩
         ·exact h
         ·cases hr
      ·cases h2
     ·cases h2
    ·cases h2
   ·cases h2
  ·cases h2
 refine calls_of_wp hf.get hf.body ?_
 refine Du hE (G0:=G) (w0:=w) (hI.of fun b _ h2=>⟨by rw [hG];exact Db.2 h2,rfl⟩) code hn hR (hF x y hy) (fun a' w' hA=>?_) (fun j a' w' ⟨_,_,_,hh⟩=>by cases hh) hret
 exact hret a' w' hA
theorem Bm {P:Program} {f:Nat} {ps:List Prm} {rs:List Ret} {F:Nat→HL (pts ps)→Option (HL (rts rs++fts ps))} {md:Nat} (h:∀ n,Cok P ⟨f,ps,rs,F n,md⟩):Cok P ⟨f,ps,rs,DC F,md⟩:=by
 refine⟨(h 0).1,fun w own args x y h1 h2 h3 hy=>?_⟩
 obtain⟨N,hN⟩:=JR.1 hy;exact(h N).2 w own args x y h1 h2 h3 (hN N (Nat.le_refl _))
theorem Bd {P : Program} {f : Nat} {ps : List Prm} {rs : List Ret} {F : HL (pts ps) → Option (HL (rts rs ++ fts ps))} {fn : Func} (h1 : P.funcs[f]? = some fn) (h2 : (fn.name == "runtime.NumGoroutine") = false) (h3 : fn.body.isSome = true) {md : Nat} (h : ∀ x, F x = none) : Cok P ⟨f, ps, rs, F, md⟩ :=
 ⟨⟨fn,h1,h2,h3⟩,fun w own args x y _ _ _ hy=>by
  have hy':F x=some y:=hy
  rw [h x] at hy';cases hy'⟩
end Go.Proofs.YtmakhmoielhjeaaGreatDoorE

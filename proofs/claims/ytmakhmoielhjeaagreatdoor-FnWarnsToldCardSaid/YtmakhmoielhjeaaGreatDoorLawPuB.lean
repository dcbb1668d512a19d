/- The engine, texts Und UndI Uses Vars Unused Sight SightS SightB Names Same Dec Const Warn WarnW Calls WarnAll SameBlocks ShowWarn X: how code is reckoned as Lean functions, and that it is sound. No condition. -/
import Derived.Test.YtmakhmoielhjeaaGreatDoorLawPuA
set_option linter.all false
namespace Go.Proofs.YtmakhmoielhjeaaGreatDoorE
set_option maxRecDepth 100000
def rc (l:List NODE):Nat→Int→Int→Bool
 | 0,_,_=>false
 | f+1,a,t=>decide (a=t) || (rd l a zN).2.2.2.any fun y=>rc l f y t
def DE (l:List NODE) (a t:Int):Bool:=rc l (a.toNat+1) a t
theorem eg {l:List NODE} {a:Int} (h:0≤a∧a<(l.length:Int)) (hl:FineN l):(rd l a zN).2.2.2.length≤1048576:=by
 obtain⟨k,rfl⟩:∃ m:Nat,a=(m:Int):=⟨a.toNat,by omega⟩
 have hk:k<l.length:=by omega
 rw [AP hk];exact hl.kid _ (List.getElem_mem hk)
theorem RU {α:Type} {f g:α→Bool}:∀ {l:List α},(∀ x∈l,f x=g x)→l.any f=l.any g
 | [],_=>rfl
 | x::l,h=>by rw [List.any_cons,List.any_cons,h x (List.mem_cons_self ..),RU fun y hy=>h y (List.mem_cons_of_mem _ hy)]
theorem Dn {l:List NODE} {a:Int} (h:(0:Int)<AW l a) {y:Int} (hy:y∈(rd l a zN).2.2.2):(0:Int)<AW l y∧0≤y∧y<a:=by
 obtain⟨_,h2,h3⟩:=Ae h;obtain⟨k1,k2⟩:=Lt h2 y hy;exact⟨h3 y k1 (by omega),k1,k2⟩
theorem Xd (l:List NODE):∀ (f g:Nat) (a t:Int),(0:Int)<AW l a→a.toNat<f→a.toNat<g→rc l f a t=rc l g a t
 | 0,_,_,_,_,h,_=>absurd h (by omega)
 | _+1,0,_,_,_,_,h=>absurd h (by omega)
 | f+1,g+1,a,t,hd,hf,hg=>by
  simp only [rc]
  congr 1
  refine RU fun y hy=>?_
  obtain⟨k1,k2,k3⟩:=Dn hd hy;exact Xd l f g y t k1 (by omega) (by omega)
theorem Ob {l:List NODE} {a:Int} (h:(0:Int)<AW l a) (t:Int):DE l a t=(decide (a=t) || (rd l a zN).2.2.2.any fun y=>DE l y t):=by
 unfold DE;simp only [rc]
 congr 1
 refine RU fun y hy=>?_
 obtain⟨k1,k2,k3⟩:=Dn h hy;exact Xd l a.toNat (y.toNat+1) y t k1 (by omega) (by omega)
theorem Ue (l:List NODE) (a:Int):DE l a a=true:=by simp [DE,rc]
theorem Wb {l:List NODE} {a y t:Int} (h:(0:Int)<AW l a) (hy:y∈(rd l a zN).2.2.2) (ht:DE l y t=true):DE l a t=true:=by
 rw [Ob h,Bool.or_eq_true];exact .inr (List.any_eq_true.2 ⟨y,hy,ht⟩)
theorem Xl {l:List NODE}:∀ (n:Nat) (a t:Int),a.toNat<n→(0:Int)<AW l a→DE l a t=true→0≤t∧t≤a
 | 0,_,_,h,_,_=>absurd h (by omega)
 | n+1,a,t,hn,h,ht=>by
  rw [Ob h,Bool.or_eq_true] at ht;rcases ht with ht | ht
  ·have:=of_decide_eq_true ht
   have:=(Ae h).1
   omega
  ·obtain⟨y,hy,hy2⟩:=List.any_eq_true.1 ht;obtain⟨k1,k2,k3⟩:=Dn h hy;have:=Xl n y t (by omega) k1 hy2
   omega
theorem PR {l:List NODE} {a t:Int} (h:(0:Int)<AW l a) (ht:DE l a t=true):0≤t∧t≤a:=Xl _ a t (Nat.lt_succ_self _) h ht
theorem QY {l:List NODE} {a t:Int} (h:(0:Int)<AW l a) (ht:DE l a t=true):(0:Int)<AW l t:=by
 have:=PR h ht
 exact(Ae h).2.2 t this.1 this.2
theorem RO {l:List NODE}:∀ (n:Nat) (a b t:Int),a.toNat<n→(0:Int)<AW l a→DE l a b=true→DE l b t=true→DE l a t=true
 | 0,_,_,_,h,_,_,_=>absurd h (by omega)
 | n+1,a,b,t,hn,h,hb,ht=>by
  rw [Ob h,Bool.or_eq_true] at hb;rcases hb with hb | hb
  ·have:=of_decide_eq_true hb
   subst this;exact ht
  ·obtain⟨y,hy,hy2⟩:=List.any_eq_true.1 hb;obtain⟨k1,k2,k3⟩:=Dn h hy;exact Wb h hy (RO n y b t (by omega) k1 hy2 ht)
theorem Sr {l:List NODE} {a b t:Int} (h:(0:Int)<AW l a) (hb:DE l a b=true) (ht:DE l b t=true):DE l a t=true:=RO _ a b t (Nat.lt_succ_self _) h hb ht
def mrk (l:List NODE) (k:Int) (s:List Bool):List Bool:=s.mapIdx fun t b=>b || DE l k (t:Int)
@[simp] theorem JN (l:List NODE) (k:Int) (s:List Bool):(mrk l k s).length=s.length:=by simp [mrk]
theorem Ka (l:List NODE) (k:Int) (s:List Bool) {t:Nat} (h:t<s.length):(mrk l k s).getD t false=(s.getD t false || DE l k (t:Int)):=by
 simp [mrk,h]
def Cl (l:List NODE) (b:Int) (s:List Bool):Prop:=∀ a:Nat,(a:Int)<b→s.getD a false=true→∀ t:Nat,DE l (a:Int) (t:Int)=true→s.getD t false=true
theorem Cl.mono {l:List NODE} {b c:Int} {s:List Bool} (h:Cl l b s) (hc:c≤b):Cl l c s:=fun a ha hs t ht=>h a (by omega) hs t ht
theorem OL {s:List Bool} {t:Nat} (h:s.getD t false=true):t<s.length:=by
 rcases Nat.lt_or_ge t s.length with h1 | h1
 ·exact h1
 ·simp [h1] at h
theorem Cl.mrk {l:List NODE} {b k:Int} {s:List Bool} (h:Cl l b s) (hs:s.length=l.length) (hk:(0:Int)<AW l k):Cl l b (mrk l k s):=by
 intro a ha h1 t ht;have hal:=OL h1
 rw [JN] at hal;rw [Ka _ _ _ hal,Bool.or_eq_true] at h1;rcases h1 with h1 | h1
 ·have h2:=h a ha h1 t ht
  rw [Ka _ _ _ (OL h2),h2,Bool.true_or]
 ·have h2:=Sr hk h1 ht
  have h3:=PR hk h2
  have h4:=(Ae hk).1
  rw [Ka _ _ _ (show t<s.length by omega),h2,Bool.or_true]
theorem Vr (l:List NODE):∀ (ys:List Int) (s:List Bool),(ys.foldl (fun s y=>mrk l y s) s).length=s.length∧∀ t,t<s.length→(ys.foldl (fun s y=>mrk l y s) s).getD t false=(s.getD t false || ys.any fun y=>DE l y (t:Int))
 | [],s=>⟨rfl,fun t h=>by simp⟩
 | y::ys,s=>by
  obtain⟨h1,h2⟩:=Vr l ys (mrk l y s);rw [List.foldl_cons];refine⟨by rw [h1,JN],fun t ht=>?_⟩
  rw [h2 t (by rw [JN];exact ht),Ka _ _ _ ht,List.any_cons,Bool.or_assoc]
theorem Vi {a b:List Bool} (hl:a.length=b.length) (h:∀ t,t<b.length→a.getD t false=b.getD t false):a=b:=by
 refine List.ext_getElem hl fun t h1 h2=>?_
 have:=h t h2
 simpa [h1,h2] using this
theorem Rz {s:List Bool} {m t:Nat} (hm:m<s.length) (ht:t<s.length):(s.set m true).getD t false=(s.getD t false || decide (m=t)):=by
 by_cases h:m=t
 ·subst h;simp [hm]
 ·simp [List.getElem?_set,h]
theorem aI (l:List NODE) (hl:FineN l):∀ (n:Nat) (k:Int) (s:List Bool),(0:Int)<AW l k→k.toNat<n→s.length=l.length→Cl l (k+1) s→(EU n).1 l k s=some (mrk l k s,())
 | 0,_,_,_,h,_,_=>absurd h (by omega)
 | n+1,k,s,hk,hn,hs,hc=>by
  show Kf (EU n).1 l k s=_
  obtain⟨h1,h2,h3⟩:=Ae hk;obtain⟨m,rfl⟩:∃ m:Nat,k=(m:Int):=⟨k.toNat,by omega⟩
  have hm:m<s.length:=by omega
  have hml:m<l.length:=by omega
  unfold Kf;rw [AK hm,AP hm];cases hb:s[m]
  ·have hx:=hl.kid _ (List.getElem_mem hml)
   have hkid:=fun y hy=>@Dn l (m:Int) hk y hy
   rw [AP hml] at hkid;have hue:=fun t=>Ob hk t
   rw [AP hml] at hue;have hrd:rd l (m:Int) zN=l[m]:=AP hml
   have hcl0:Cl l (m:Int) (s.set m true):=fun a ha h1 t ht=>by
    have hal:=OL h1
    rw [List.length_set] at hal;rw [Rz hm hal] at h1;have hne:¬ m=a:=by omega
    rw [decide_eq_false hne,Bool.or_false] at h1;have h2:=hc a (by omega) h1 t ht
    rw [Rz hm (OL h2),h2,Bool.true_or]
   generalize l[m]=x at hx hkid hue hrd;have h:=Ao (step:=FC (EU n).1) x.2.2.2 (fun s y=>mrk l y s) (fun i s=>(l,(m:Int),(i:Int),s,())) (fun s=>(s,())) (fun _ s=>s.length=l.length∧Cl l (m:Int) s) (fun i hi c hI=>by
    obtain⟨g1,g2⟩:=hI;obtain⟨k1,k2,k3⟩:=hkid _ (List.getElem_mem hi);have ih:=aI l hl n x.2.2.2[i] c k1 (by omega) g1 (g2.mono (by omega))
    refine⟨?_,by rw [JN];exact g1,g2.mrk g1 k1⟩
    simp only [FC,AK hml,hrd,AR hi,decide_true,cond_true,AK hi,AP hi,ih,Option.bind_some,Option.map_some,AI (show i<9223372036854775807 by omega)]) (fun c hI=>by
    simp only [FC,AK hml,hrd,AJ,decide_false,cond_false,Option.map_some]) (s.set m true) ⟨by rw [List.length_set];exact hs,hcl0⟩
   have h':AD (FC (EU n).1) (l,(m:Int),(0:Int),s.set m true,())=_:=h.1
   simp only [cond_false,AK hm,CM,Int.toNat_natCast,Option.bind_some,h',AA]
   congr 2
   obtain⟨f1,f2⟩:=Vr l x.2.2.2 (s.set m true);refine Vi (by rw [f1,List.length_set,JN]) fun t ht=>?_
   rw [JN] at ht;rw [f2 t (by rw [List.length_set];exact ht),Ka _ _ _ ht,Rz hm ht,hue,Bool.or_assoc]
   congr 2
   exact decide_eq_decide.2 (by omega)
  ·simp only [cond_true]
   congr 2
   refine Vi (by rw [JN]) fun t ht=>?_
   rw [JN] at ht;rw [Ka _ _ _ ht];cases hu:DE l (m:Int) (t:Int)
   ·rw [Bool.or_false]
   ·rw [hc m (by omega) (by simp [hm,hb]) t hu];rfl
def Fe (l:List NODE) (k:Int):List Int:=((List.range l.length).filter fun(t:Nat)=>DE l k (t:Int)).map fun(t:Nat)=>(t:Int)
def BM (l:List NODE) (k:Int):List Int:=bif decide (AW l k=0) then [] else Fe l k
theorem Cn {α β:Type} (p:α→Bool) (f:α→β):∀ (xs:List α) (o:List β),xs.foldl (fun o x=>bif p x then o++[f x] else o) o=o++(xs.filter p).map f
 | [],o=>by simp
 | x::xs,o=>by
  rw [List.foldl_cons,Cn p f xs];cases h:p x<;>simp [h]
theorem Wa (l:List NODE) (k:Int):(Fe l k).length≤l.length:=by
 unfold Fe;rw [List.length_map];exact Nat.le_trans (List.length_filter_le ..) (by simp)
theorem Rr {l:List NODE} {k:Int} (hk:(0:Int)<AW l k) (x:Int):x∈Fe l k↔DE l k x=true:=by
 unfold Fe;rw [List.mem_map];constructor
 ·rintro ⟨t,ht,rfl⟩
  exact(List.mem_filter.1 ht).2
 ·intro h;have h1:=PR hk h
  have h2:=(Ae hk).1
  have e:((x.toNat:Nat):Int)=x:=by omega
  exact⟨x.toNat,List.mem_filter.2 ⟨List.mem_range.2 (by omega),by rw [e];exact h⟩,e⟩
theorem RN (l:List NODE) (k:Int):(Fe l k).Pairwise (· < ·):=by
 unfold Fe;rw [List.pairwise_map];refine List.Pairwise.imp ?_ ((List.pairwise_lt_range (n:=l.length)).filter _)
 intro a b h;omega
theorem LM (p:PROG) (hp:FineN p.1) (k:Int):Gi p k=some (BM p.1 k,()):=by
 unfold Gi BM;rw [GL p.1 hp k,Option.bind_some]
 by_cases hz:AW p.1 k=0
 ·simp only [hz,decide_true,cond_true]
 have hk:=NV hz
 have hn:=hp.len
 have hC:Cl p.1 (k+1) (List.replicate p.1.length false):=fun a _ h t _=>by
  have:=OL h
  simp at this;simp [this] at h
 have hm:Mi p.1 k (List.replicate p.1.length false)=some (mrk p.1 k (List.replicate p.1.length false),()):=
  DC.2 ⟨k.toNat+1,fun n hn'=>aI p.1 hp n k _ hk (by omega) (by simp) hC⟩
 have hsl:(mrk p.1 k (List.replicate p.1.length false)).length=p.1.length:=by simp
 have hsg:∀ t:Nat,t<p.1.length→rd (mrk p.1 k (List.replicate p.1.length false)) (t:Int) false=DE p.1 k (t:Int):=fun t ht=>by
  have:=Ka p.1 k (List.replicate p.1.length false) (t:=t) (by simpa using ht)
  rw [show rd (mrk p.1 k (List.replicate p.1.length false)) (t:Int) false=(mrk p.1 k (List.replicate p.1.length false)).getD t false from rfl,this];simp [ht]
 generalize mrk p.1 k (List.replicate p.1.length false)=s at hm hsl hsg;have h:=Ao (step:=Gq) (List.range p.1.length) (fun o t=>bif DE p.1 k (t:Int) then o++[(t:Int)] else o) (fun i o=>(o,s,(i:Int),())) (fun o=>(o,())) (fun i o=>o.length≤i) (fun i hi o ho=>by
  have hi':i<p.1.length:=by simpa using hi
  have hi2:i<s.length:=by omega
  simp only [Gq,AR hi2,decide_true,cond_true,AK hi2,hsg i hi',List.getElem_range,AI (show i<9223372036854775807 by omega)];cases DE p.1 k (i:Int)
  ·simp only [cond_false,AA,Option.map_some,AI (show i<9223372036854775807 by omega)];exact⟨by trivial,by omega⟩
  ·simp only [cond_true,Am (show(o.length+[(i:Int)].length) * 8≤140737488355328 by simp;omega),AA,Option.map_some,AI (show i<9223372036854775807 by omega)];exact⟨by trivial,by simp;omega⟩) (fun o ho=>by
  simp only [Gq,List.length_range,hsl,AJ,decide_false,cond_false,Option.map_some]) [] (Nat.le_refl 0)
 have h':AD Gq ([],s,(0:Int),())=_:=h.1
 simp only [decide_eq_false hz,cond_false];rw [show(Cnd.both (Cnd.nn (List.length p.1:Int)) (Cnd.le ((List.length p.1:Int).toNat * 1) 140737488355328)).run _=_ from by
  simp only [Cnd.run];rw [if_pos (by omega),if_pos (by omega)]]
 rw [show(List.length p.1:Int).toNat=p.1.length from Int.toNat_natCast _,hm,Option.bind_some];simp only [Option.bind_some,h',AA];rw [Cn,List.nil_append];rfl
set_option maxRecDepth 100000
theorem Lj:∀ (a b:List Int),a.Pairwise (· < ·)→b.Pairwise (· < ·)→(∀ x,x∈a↔x∈b)→a=b
 | [],[],_,_,_=>rfl
 | [],y::b,_,_,h=>absurd ((h y).2 (List.mem_cons_self ..)) (by simp)
 | x::a,[],_,_,h=>absurd ((h x).1 (List.mem_cons_self ..)) (by simp)
 | x::a,y::b,ha,hb,h=>by
  rw [List.pairwise_cons] at ha hb;have hxy:x=y:=by
   have h1:=(h x).1 (List.mem_cons_self ..)
   have h2:=(h y).2 (List.mem_cons_self ..)
   rcases List.mem_cons.1 h1 with e | e
   ·exact e
   ·rcases List.mem_cons.1 h2 with e2 | e2
    ·exact e2.symm
    ·have:=hb.1 x e
     have:=ha.1 y e2
     omega
  subst hxy
  congr 1
  refine Lj a b ha.2 hb.2 fun z=>⟨fun hz=>?_,fun hz=>?_⟩
  ·have h1:=(h z).1 (List.mem_cons_of_mem _ hz)
   rcases List.mem_cons.1 h1 with e | e
   ·have:=ha.1 z hz
    omega
   ·exact e
  ·have h1:=(h z).2 (List.mem_cons_of_mem _ hz)
   rcases List.mem_cons.1 h1 with e | e
   ·have:=hb.1 z hz
    omega
   ·exact e
def srt (l:List Int):List Int:=l.mergeSort fun a b=>decide (a≤b)
theorem Qe (l:List Int) (h:l.length≤4000000):Ge l=some (srt l,()):=by
 unfold Ge;rw [if_pos (by omega)];rfl
theorem Qh (l:List Int) (x:Int):x∈srt l↔x∈l:=List.mem_mergeSort
theorem Lm {l:List Int} (h:l.Nodup):(srt l).Pairwise (· < ·):=by
 have h1:(srt l).Pairwise (fun a b=>decide (a≤b)=true):=List.pairwise_mergeSort (fun a b c h1 h2=>by simp only [decide_eq_true_eq] at *;omega) (fun a b=>by simp only [Bool.or_eq_true,decide_eq_true_eq];omega) l
 have h2:(srt l).Nodup:=(List.mergeSort_perm l _).nodup_iff.2 h
 exact(h1.and h2).imp fun {a b} h=>by
  have:=of_decide_eq_true h.1
  have:=h.2
  omega
def Bi (o:List Int) (y:Int):List Int:=bif BK o y then o else o++[y]
theorem Ea {l:List Int} {n:Int}:BK l n=true↔n∈l:=by
 unfold BK;rw [List.any_eq_true];exact⟨fun⟨x,hx,h⟩=>by rw [← of_decide_eq_true h];exact hx,fun h=>⟨n,h,decide_eq_true rfl⟩⟩
theorem MU {o:List Int} {y x:Int}:x∈Bi o y↔x∈o∨x=y:=by
 unfold Bi;cases h:BK o y
 ·simp
 ·simp only [cond_true];have:=Ea.1 h
  exact⟨.inl,fun h=>h.elim id fun e=>by rw [e];exact this⟩
theorem Sd {o:List Int} {y:Int} (h:o.Nodup):(Bi o y).Nodup:=by
 unfold Bi;cases hh:BK o y
 ·simp only [cond_false];rw [List.nodup_append];refine⟨h,by simp,fun a ha b hb=>?_⟩
  simp only [List.mem_singleton] at hb;intro e;subst hb e;rw [Ea.2 ha] at hh;cases hh
 ·exact h
theorem dU (o:List Int) (y:Int):o <+: Bi o y:=by
 unfold Bi;cases BK o y
 ·exact List.prefix_append ..
 ·exact List.prefix_rfl
theorem Ho:∀ {ys o:List Int} {x:Int},x∈ys.foldl Bi o↔x∈o∨x∈ys
 | [],o,x=>by simp
 | y::ys,o,x=>by
  rw [List.foldl_cons,Ho,MU,List.mem_cons,or_assoc]
theorem RH:∀ {ys o:List Int},o.Nodup→(ys.foldl Bi o).Nodup
 | [],_,h=>h
 | _::ys,_,h=>RH (ys:=ys) (Sd h)
theorem QN:∀ (ys o:List Int),o <+: ys.foldl Bi o
 | [],_=>List.prefix_rfl
 | y::ys,o=>(dU o y).trans (QN ys (Bi o y))
theorem UV:∀ (n:Nat) (o:List Int),o.Nodup→(∀ x∈o,0≤x∧x<(n:Int))→o.length≤n
 | 0,o,_,h=>by
  cases o with
  | nil=>exact Nat.le_refl 0
  | cons x o=>have:=h x (List.mem_cons_self ..);omega
 | n+1,o,hn,h=>by
  have h1:=UV n (o.erase (n:Int)) (hn.erase _) (fun x hx=>by
   have h2:=(List.Nodup.mem_erase_iff hn).1 hx
   have h3:=h x h2.2
   have:=h2.1
   omega)
  by_cases hm:(n:Int)∈o
  ·rw [List.length_erase_of_mem hm] at h1;omega
  ·rw [List.erase_of_not_mem hm] at h1;omega
def Rg (n:Nat) (o:List Int):Prop:=o.Nodup∧∀ x∈o,0≤x∧x<(n:Int)
theorem Rg.len {n:Nat} {o:List Int} (h:Rg n o):o.length≤n:=UV n o h.1 h.2
theorem Rg.add {n:Nat} {o:List Int} (h:Rg n o) {y:Int} (hy:0≤y∧y<(n:Int)):Rg n (Bi o y):=⟨Sd h.1,fun x hx=>by
 rcases MU.1 hx with h1 | h1
 ·exact h.2 x h1
 ·rw [h1];exact hy⟩
theorem XH (l:List NODE) (hl:FineN l) (i:Int) (ys o:List Int) (hy:∀ y∈ys,0≤y∧y<(l.length:Int)) (hyl:ys.length≤1048576) (ho:Rg l.length o):
 AD Gp (l,o,i,ys,(ys.length:Int),(0:Int),())=some (l,ys.foldl Bi o,i,()):=by
 have hn:=hl.len
 have h:=Ao (step:=Gp) ys Bi (fun k o=>(l,o,i,ys,(ys.length:Int),(k:Int),())) (fun o=>(l,o,i,())) (fun _ o=>Rg l.length o) (fun k hk o ho=>by
  refine⟨?_,ho.add (hy _ (List.getElem_mem hk))⟩
  have hlen:=ho.len
  simp only [Gp,AR hk,decide_true,cond_true,AK hk,AP hk,Rm o _ (by omega),Option.bind_some,Bi];cases BK o ys[k]
  ·simp only [Bool.not_false,cond_true,cond_false,Am (show(o.length+[ys[k]].length) * 8≤140737488355328 by simp;omega),AA,Option.map_some,AI (show k<9223372036854775807 by omega)]
  ·simp only [Bool.not_true,cond_true,cond_false,AA,Option.map_some,AI (show k<9223372036854775807 by omega)]) (fun o ho=>by
  simp only [Gp,AJ,decide_false,cond_false,Option.map_some]) o ho
 exact h.1
structure BIu (l:List NODE) (k:Int) (i:Nat) (o:List Int):Prop where
 nd:o.Nodup
 un:∀ x∈o,DE l k x=true
 at_:k∈o
 le:i≤o.length
 cl:∀ x∈o.take i,∀ y∈(rd l x zN).2.2.2,y∈o
theorem BIu.rg {l:List NODE} {k:Int} {i:Nat} {o:List Int} (h:BIu l k i o) (hk:(0:Int)<AW l k):Rg l.length o:=⟨h.nd,fun x hx=>by
 have h1:=PR hk (h.un x hx)
 have h2:=(Ae hk).1
 omega⟩
theorem XI (l:List NODE) (hl:FineN l) (k:Int) (hk:(0:Int)<AW l k):∀ (m i:Nat) (o:List Int),l.length≤i+m→BIu l k i o→∃ o',AD Dw (l,o,(i:Int),())=some (o',())∧BIu l k o'.length o':=by
 have hn:=hl.len
 have done:∀ (i:Nat) (o:List Int),i=o.length→BIu l k i o→∃ o',AD Dw (l,o,(i:Int),())=some (o',())∧BIu l k o'.length o':=fun i o hi h=>by
  subst hi;refine⟨o,Ay ?_,h⟩
  simp only [Dw,AJ,decide_false,cond_false,Option.map_some]
 intro m
 induction m with
 | zero=>
  intro i o hm h;have:=(h.rg hk).len
  have:=h.le
  exact done i o (by omega) h
 | succ m ih=>
  intro i o hm h;rcases Nat.lt_or_ge i o.length with hi | hi
  ·have hx:=h.un _ (List.getElem_mem hi)
   have hxd:=QY hk hx
   have hxr:=(Ae hxd).1
   obtain⟨a,ha⟩:∃ a:Nat,o[i]=(a:Int):=⟨o[i].toNat,by omega⟩
   have hal:a<l.length:=by omega
   have hkl:=eg hxr hl
   have hin:=XH l hl (i:Int) (rd l o[i] zN).2.2.2 o (fun y hy=>by
    have:=Dn hxd hy
    omega) hkl (h.rg hk)
   have hst:Dw (l,o,(i:Int),())=some (.inl (l,(rd l o[i] zN).2.2.2.foldl Bi o,((i+1:Nat):Int),())):=by
    have hidx:(Cnd.idx o[i] l.length).run (α:=List NODE×List Int×Int×Unit)=fun K=>K:=by
     funext K;rw [ha];exact AK hal
    simp only [Dw,AR hi,decide_true,cond_true,AK hi,AP hi,hidx,Option.bind_some,hin,AA,Option.map_some,AI (show i<9223372036854775807 by have:=(h.rg hk).len;omega)]
   rw [BF hst];have hpre:=QN (rd l o[i] zN).2.2.2 o
   refine ih (i+1) _ (by omega) ⟨RH h.nd,fun x hx'=>?_,Ho.2 (.inl h.at_),?_,fun x hx' y hy=>?_⟩
   ·rcases Ho.1 hx' with h1 | h1
    ·exact h.un x h1
    ·exact Sr hk hx (Wb hxd h1 (Ue l x))
   ·have:=hpre.length_le
    omega
   ·obtain⟨e,he⟩:=hpre;rw [← he,List.take_append_of_le_length (by omega),List.take_succ_eq_append_getElem hi,List.mem_append] at hx';rcases hx' with h1 | h1
    ·exact Ho.2 (.inl (h.cl x h1 y hy))
    ·simp only [List.mem_singleton] at h1;subst h1;exact Ho.2 (.inr hy)
  ·exact done i o (by have:=h.le;omega) h
theorem SL {l:List NODE} {o:List Int} (hc:∀ x∈o,∀ y∈(rd l x zN).2.2.2,y∈o):∀ (n:Nat) (a t:Int),a.toNat<n→(0:Int)<AW l a→a∈o→DE l a t=true→t∈o
 | 0,_,_,h,_,_,_=>absurd h (by omega)
 | n+1,a,t,hn,h,ha,ht=>by
  rw [Ob h,Bool.or_eq_true] at ht;rcases ht with ht | ht
  ·rw [← of_decide_eq_true ht];exact ha
  ·obtain⟨y,hy,hy2⟩:=List.any_eq_true.1 ht;obtain⟨k1,k2,k3⟩:=Dn h hy;exact SL hc n y t (by omega) k1 (hc a ha y hy) hy2
theorem Pd (l:List NODE) (hl:FineN l) (k:Int) (hk:(0:Int)<AW l k):Jh l k=some (Fe l k,()):=by
 have hkr:=(Ae hk).1
 have hn:=hl.len
 obtain⟨o,h1,h2⟩:=XI l hl k hk l.length 0 [k] (by omega) ⟨by simp,fun x hx=>by
  simp only [List.mem_singleton] at hx;rw [hx];exact Ue l k,by simp,by simp,fun x hx=>by simp at hx⟩
 have h1':AD Dw (l,[k],(0:Int),())=_:=h1
 have hlen:=(h2.rg hk).len
 have hc:=h2.cl
 rw [List.take_length] at hc;unfold Jh;simp only [Option.bind_some,h1',AA,Qe o (by omega)]
 congr 2
 refine Lj _ _ (Lm h2.nd) (RN l k) fun x=>?_
 rw [Qh,Rr hk];exact⟨h2.un x,SL hc _ k x (Nat.lt_succ_self _) hk h2.at_⟩
theorem Pc (p:PROG) (hp:FineN p.1) (k:Int):Jb p k=some (BM p.1 k,()):=by
 unfold Jb BM;rw [IC p.1 hp k,Option.bind_some]
 by_cases hz:AW p.1 k=0
 ·simp only [hz,decide_true,cond_true]
 simp only [decide_eq_false hz,cond_false,Pd p.1 hp k (NV hz),Option.bind_some]
theorem RP (l:List NODE) (k:Int):(BM l k).Pairwise (· < ·):=by
 unfold BM;cases decide (AW l k=0)
 ·exact RN l k
 ·exact List.Pairwise.nil
theorem Gm (l:List NODE) (k:Int):(BM l k).length≤l.length:=by
 unfold BM;cases decide (AW l k=0)
 ·exact Wa l k
 ·exact Nat.zero_le _
theorem Mk {l:List NODE} {k x:Int} (h:x∈BM l k):(0≤x∧x<(l.length:Int))∧(0:Int)<AW l x:=by
 unfold BM at h
 by_cases hz:AW l k=0
 ·simp [hz] at h
 ·rw [decide_eq_false hz,cond_false] at h;have:=QY (NV hz) ((Rr (NV hz) x).1 h)
  exact⟨(Ae this).1,this⟩
set_option maxRecDepth 100000
def mg:Nat→List Int→List Int→List Int
 | 0,_,_=>[]
 | _+1,[],b=>b
 | _+1,x::a,[]=>x::a
 | f+1,x::a,y::b=>bif decide (x<y) then x::mg f a (y::b) else bif decide (x=y) then y::mg f a b else y::mg f (x::a) b
theorem LD:∀ (f:Nat) (a b:List Int) (x:Int),a.length+b.length≤f→(x∈mg (f+1) a b↔x∈a∨x∈b)
 | _,[],b,x,_=>by simp [mg]
 | _,y::a,[],x,_=>by simp [mg]
 | 0,y::a,z::b,x,h=>by simp at h
 | f+1,y::a,z::b,x,h=>by
  simp only [List.length_cons] at h;simp only [mg]
  by_cases h1:y<z
  ·simp only [decide_eq_true h1,cond_true,List.mem_cons];rw [LD f a (z::b) x (by simp only [List.length_cons];omega),List.mem_cons,or_assoc]
  ·simp only [decide_eq_false h1,cond_false]
   by_cases h2:y=z
   ·simp only [decide_eq_true h2,cond_true,List.mem_cons];rw [LD f a b x (by omega),h2];constructor
    ·rintro (h | h | h)
     ·exact .inl (.inl h)
     ·exact .inl (.inr h)
     ·exact .inr (.inr h)
    ·rintro ((h | h) | (h | h))
     ·exact .inl h
     ·exact .inr (.inl h)
     ·exact .inl h
     ·exact .inr (.inr h)
   ·simp only [decide_eq_false h2,cond_false,List.mem_cons];rw [LD f (y::a) b x (by simp only [List.length_cons];omega),List.mem_cons];constructor
    ·rintro (h | (h | h) | h)
     ·exact .inr (.inl h)
     ·exact .inl (.inl h)
     ·exact .inl (.inr h)
     ·exact .inr (.inr h)
    ·rintro ((h | h) | (h | h))
     ·exact .inr (.inl (.inl h))
     ·exact .inr (.inl (.inr h))
     ·exact .inl h
     ·exact .inr (.inr h)
theorem NY:∀ (f:Nat) (a b:List Int),a.length+b.length≤f→a.Pairwise (· < ·)→b.Pairwise (· < ·)→(mg (f+1) a b).Pairwise (· < ·)
 | _,[],b,_,_,hb=>hb
 | _,y::a,[],_,ha,_=>ha
 | 0,y::a,z::b,h,_,_=>by simp at h
 | f+1,y::a,z::b,h,ha,hb=>by
  simp only [List.length_cons] at h;have ha':=List.pairwise_cons.1 ha
  have hb':=List.pairwise_cons.1 hb
  simp only [mg]
  by_cases h1:y<z
  ·simp only [decide_eq_true h1,cond_true];have hl:a.length+(z::b).length≤f:=by simp only [List.length_cons];omega
   refine List.pairwise_cons.2 ⟨fun x hx=>?_,NY f a (z::b) hl ha'.2 hb⟩
   rcases(LD f a (z::b) x hl).1 hx with h2 | h2
   ·exact ha'.1 x h2
   ·rcases List.mem_cons.1 h2 with h3 | h3
    ·omega
    ·have:=hb'.1 x h3;omega
  ·simp only [decide_eq_false h1,cond_false]
   by_cases h2:y=z
   ·simp only [decide_eq_true h2,cond_true];have hl:a.length+b.length≤f:=by omega
    refine List.pairwise_cons.2 ⟨fun x hx=>?_,NY f a b hl ha'.2 hb'.2⟩
    rcases(LD f a b x hl).1 hx with h3 | h3
    ·have:=ha'.1 x h3;omega
    ·exact hb'.1 x h3
   ·simp only [decide_eq_false h2,cond_false];have hl:(y::a).length+b.length≤f:=by simp only [List.length_cons];omega
    refine List.pairwise_cons.2 ⟨fun x hx=>?_,NY f (y::a) b hl ha hb'.2⟩
    rcases(LD f (y::a) b x hl).1 hx with h3 | h3
    ·rcases List.mem_cons.1 h3 with h4 | h4
     ·omega
     ·have:=ha'.1 x h4;omega
    ·exact hb'.1 x h3
theorem SZ:∀ (f:Nat) (a b:List Int),(mg f a b).length≤a.length+b.length
 | 0,_,_=>by simp [mg]
 | _+1,[],b=>by simp [mg]
 | _+1,x::a,[]=>by simp [mg]
 | f+1,x::a,y::b=>by
  have h1:=SZ f a (y::b)
  have h2:=SZ f a b
  have h3:=SZ f (x::a) b
  simp only [mg];cases decide (x<y)<;>cases decide (x=y)<;>simp only [cond_true,cond_false,List.length_cons] at * <;> omega
def uni (a b:List Int):List Int:=mg (a.length+b.length+1) a b
theorem br (a b:List Int) (ha:a.length≤1048576) (hb:b.length≤1048576):∀ (m i k:Nat) (o:List Int),a.length - i+(b.length - k)≤m→i≤a.length→k≤b.length→o.length≤i+k →
 AD Bq (o,a,b,(i:Int),(k:Int),())=some (o++mg (m+1) (a.drop i) (b.drop k),()):=by
 have si:∀ {i:Nat},i<a.length→IntKind.wrap .i64 ((i:Int)+1)=((i+1:Nat):Int):=fun {i} h=>AI (by omega)
 have sk:∀ {i:Nat},i<b.length→IntKind.wrap .i64 ((i:Int)+1)=((i+1:Nat):Int):=fun {i} h=>AI (by omega)
 intro m
 induction m with
 | zero=>
  intro i k o hm hi hk ho;obtain rfl:i=a.length:=by omega
  obtain rfl:k=b.length:=by omega
  rw [Ay (r:=(o,())) (by simp only [Bq,AJ,decide_false,cond_false,AA,Option.map_some])];simp [mg]
 | succ m ih=>
  intro i k o hm hi hk ho;have one:∀ x:Int,(o.length+[x].length) * 8≤140737488355328:=fun x=>by simp;omega
  by_cases hia:i<a.length
  ·have hda:a.drop i=a[i]::a.drop (i+1):=List.drop_eq_getElem_cons hia
   by_cases hkb:k<b.length
   ·have hdb:b.drop k=b[k]::b.drop (k+1):=List.drop_eq_getElem_cons hkb
    have hng:¬ ((b.length:Int)≤(k:Int)):=by omega
    by_cases h1:a[i]<b[k]
    ·rw [BF (b':=(o++[a[i]],a,b,((i+1:Nat):Int),(k:Int),())) (by
      simp only [Bq,AR hia,hng,decide_true,decide_false,cond_true,cond_false,AA,AK hia,AK hkb,AP hia,AP hkb,h1,Am (one _),Option.map_some,si hia])]
     rw [ih (i+1) k _ (by omega) (by omega) (by omega) (by simp;omega),hda,hdb];simp [mg,h1]
    ·by_cases h2:a[i]=b[k]
     ·rw [BF (b':=(o++[b[k]],a,b,((i+1:Nat):Int),((k+1:Nat):Int),())) (by
       simp only [Bq,AR hia,hng,decide_true,decide_false,cond_true,cond_false,AA,AK hia,AK hkb,AP hia,AP hkb,h1,h2,show ¬ b[k]<b[k] by omega,Am (one _),Option.map_some,si hia,sk hkb])]
      rw [ih (i+1) (k+1) _ (by omega) (by omega) (by omega) (by simp;omega),hda,hdb];simp [mg,h2]
     ·rw [BF (b':=(o++[b[k]],a,b,(i:Int),((k+1:Nat):Int),())) (by
       simp only [Bq,AR hia,hng,decide_true,decide_false,cond_true,cond_false,AA,AK hia,AK hkb,AP hia,AP hkb,h1,h2,Am (one _),Option.map_some,si hia,sk hkb])]
      rw [ih i (k+1) _ (by omega) (by omega) (by omega) (by simp;omega),hda,hdb];simp [mg,h1,h2]
   ·obtain rfl:k=b.length:=by omega
    rw [BF (b':=(o++[a[i]],a,b,((i+1:Nat):Int),(b.length:Int),())) (by
     simp only [Bq,AR hia,Int.le_refl,decide_true,decide_false,cond_true,cond_false,AA,AK hia,AP hia,Am (one _),Option.map_some,si hia])]
    rw [ih (i+1) b.length _ (by omega) (by omega) (by omega) (by simp;omega),hda];rw [List.drop_length];cases h3:a.drop (i+1) with
    | nil=>simp [mg]
    | cons x r=>cases m<;>simp [mg]
  ·obtain rfl:i=a.length:=by omega
   by_cases hkb:k<b.length
   ·have hdb:b.drop k=b[k]::b.drop (k+1):=List.drop_eq_getElem_cons hkb
    have hng:¬ ((b.length:Int)≤(k:Int)):=by omega
    rw [BF (b':=(o++[b[k]],a,b,(a.length:Int),((k+1:Nat):Int),())) (by
     simp only [Bq,AJ,AR hkb,hng,decide_true,decide_false,cond_true,cond_false,AA,AK hkb,AP hkb,Am (one _),Option.map_some,sk hkb])]
    rw [ih a.length (k+1) _ (by omega) (by omega) (by omega) (by simp;omega),hdb];rw [List.drop_length];simp [mg]
   ·obtain rfl:k=b.length:=by omega
    rw [Ay (r:=(o,())) (by simp only [Bq,AJ,decide_false,cond_false,AA,Option.map_some])];simp [mg]
def GD (p:PROG) (fn:Int):Bool:=decide (0≤fn∧fn≤(p.2.length:Int) - 1)
def fnN (p:PROG) (fn:Int):List Int:=bif GD p fn then uni (BM p.1 (rd p.2 fn zF).2.2.2.1) (BM p.1 (rd p.2 fn zF).2.2.2.2) else []
theorem It {p:PROG} (hp:FineP p):IntKind.wrap .i64 ((p.2.length:Int) - 1)=(p.2.length:Int) - 1:=Iu hp.f
theorem RL (p:PROG) (hp:FineP p) (fn:Int):Ik p fn=some (fnN p fn,()):=by
 unfold Ik fnN GD;rw [It hp,sIn,Option.bind_some]
 by_cases hr:0≤fn∧fn≤(p.2.length:Int) - 1
 case neg=>simp only [hr,decide_false,Bool.not_false,cond_true,cond_false]
 have hn:=hp.n.len
 have hi:∀ {α:Type} {K:Option α},(Cnd.idx fn p.2.length).run K=K:=fun {α K}=>AU (by omega)
 have h:=br (BM p.1 (rd p.2 fn zF).2.2.2.1) (BM p.1 (rd p.2 fn zF).2.2.2.2) (Nat.le_trans (Gm ..) hn) (Nat.le_trans (Gm ..) hn) _ 0 0 [] (Nat.le_refl _) (Nat.zero_le _) (Nat.zero_le _) (Nat.le_refl _)
 have h':AD Bq ([],BM p.1 (rd p.2 fn zF).2.2.2.1,BM p.1 (rd p.2 fn zF).2.2.2.2,(0:Int),(0:Int),())=_:=h
 simp only [hr,and_self,decide_true,Bool.not_true,cond_false,cond_true,hi,LM p hp.n,Option.bind_some,h',AA];simp [uni]
theorem MP {n:Nat}:∀ (ys o:List Int),(∀ y∈ys,0≤y∧y<(n:Int))→Rg n o→Rg n (ys.foldl Bi o)
 | [],_,_,h=>h
 | y::ys,o,hy,h=>MP ys _ (fun z hz=>hy z (List.mem_cons_of_mem _ hz)) (h.add (hy y (List.mem_cons_self ..)))
theorem cw (p:PROG) (hp:FineP p) (rs:List Int) (rl i:Int) (ys o:List Int) (hy:∀ y∈ys,0≤y∧y<(p.1.length:Int)) (hyl:ys.length≤1048576) (ho:Rg p.1.length o):
 AD Ev (o,rs,rl,i,ys,(ys.length:Int),(0:Int),p,())=some (ys.foldl Bi o,rs,rl,i,p,()):=by
 have hn:=hp.n.len
 have h:=Ao (step:=Ev) ys Bi (fun k o=>(o,rs,rl,i,ys,(ys.length:Int),(k:Int),p,())) (fun o=>(o,rs,rl,i,p,())) (fun _ o=>Rg p.1.length o) (fun k hk o ho=>by
  refine⟨?_,ho.add (hy _ (List.getElem_mem hk))⟩
  have hlen:=ho.len
  simp only [Ev,AR hk,decide_true,cond_true,AK hk,AP hk,Rm o _ (by omega),Option.bind_some,Bi];cases BK o ys[k]
  ·simp only [Bool.not_false,cond_true,cond_false,Am (show(o.length+[ys[k]].length) * 8≤140737488355328 by simp;omega),AA,Option.map_some,AI (show k<9223372036854775807 by omega)]
  ·simp only [Bool.not_true,cond_true,cond_false,AA,Option.map_some,AI (show k<9223372036854775807 by omega)]) (fun o ho=>by
  simp only [Ev,AJ,decide_false,cond_false,Option.map_some]) o ho
 exact h.1
theorem Xm {l:List NODE} {k:Int}:∀ y∈BM l k,0≤y∧y<(l.length:Int):=fun y hy=>(Mk hy).1
theorem Vq (p:PROG) (hp:FineP p) (rs:List Int) (hr:rs.length≤4):AD Dk ([],rs,(rs.length:Int),(0:Int),p,())=some (rs.foldl (fun o r=>(BM p.1 r).foldl Bi o) [],())∧Rg p.1.length (rs.foldl (fun o r=>(BM p.1 r).foldl Bi o) []):=by
 have hn:=hp.n.len
 have h:=Ao (step:=Dk) rs (fun o r=>(BM p.1 r).foldl Bi o) (fun k o=>(o,rs,(rs.length:Int),(k:Int),p,())) (fun o=>(o,())) (fun _ o=>Rg p.1.length o) (fun k hk o ho=>by
  refine⟨?_,MP _ _ Xm ho⟩
  have hin:=cw p hp rs (rs.length:Int) (k:Int) (BM p.1 rs[k]) o Xm (Nat.le_trans (Gm ..) hn) ho
  simp only [Dk,AR hk,decide_true,cond_true,AK hk,AP hk,Pc p hp.n,Option.bind_some,hin,AA,Option.map_some,AI (show k<9223372036854775807 by omega)]) (fun o ho=>by
  simp only [Dk,AJ,decide_false,cond_false,Option.map_some]) [] ⟨List.nodup_nil,fun x hx=>by simp at hx⟩
 exact h
theorem dl (l:List NODE):BM l (-1)=[]:=by
 have:AW l (-1)=0:=by simp [AW]
 simp [BM,this]
def QQ (x:FN):List Int:=bif decide (x.2.2.2.2≠(-1:Int)) then [x.2.2.2.1,x.2.2.2.2] else [x.2.2.2.1]
theorem Um (p:PROG) (hp:FineP p) (fn:Int):LZ p fn=some (bif GD p fn then QQ (rd p.2 fn zF) else [],()):=by
 unfold LZ GD QQ;rw [It hp,iIn,Option.bind_some]
 by_cases hr:0≤fn∧fn≤(p.2.length:Int) - 1
 case neg=>simp only [hr,decide_false,Bool.not_false,cond_true,cond_false]
 have hi:∀ {α:Type} {K:Option α},(Cnd.idx fn p.2.length).run K=K:=fun {α K}=>AU (by omega)
 simp only [hr,and_self,decide_true,Bool.not_true,cond_false,cond_true,hi];generalize rd p.2 fn zF=x
 by_cases hz:x.2.2.2.2=(-1:Int)
 ·simp only [hz,ne_eq,not_true_eq_false,decide_false,cond_false,AA]
 ·simp only [hz,ne_eq,not_false_eq_true,decide_true,cond_true,AA];rw [Am (by simp)];rfl
theorem RG (p:PROG) (hp:FineP p) (fn:Int):Hi p fn=some (fnN p fn,()):=by
 have hn:=hp.n.len
 unfold Hi;rw [Um p hp,Option.bind_some];cases hf:GD p fn
 ·obtain⟨h1,h2⟩:=Vq p hp [] (by simp);have h1':AD Dk ([],[],((List.length ([]:List Int):Nat):Int),(0:Int),p,())=some ([],()):=h1
  simp only [cond_false,Option.bind_some,h1',AA,Qe [] (by simp)];simp [srt,fnN,hf]
 ·obtain⟨h1,h2⟩:=Vq p hp (QQ (rd p.2 fn zF)) (by unfold QQ;cases decide ((rd p.2 fn zF).2.2.2.2≠(-1:Int))<;>simp);simp only [cond_true,Option.bind_some,h1,AA,Qe _ (Nat.le_trans h2.len (by omega))]
  congr 2
  unfold fnN;rw [hf,cond_true];refine Lj _ _ (Lm h2.1) (NY _ _ _ (Nat.le_refl _) (RP ..) (RP ..)) fun x=>?_
  rw [Qh,uni,LD _ _ _ _ (Nat.le_refl _)];unfold QQ;generalize rd p.2 fn zF=y
  by_cases hz:y.2.2.2.2=(-1:Int)
  ·rw [hz,dl];simp only [ne_eq,not_true_eq_false,decide_false,cond_false,List.foldl_cons,List.foldl_nil,Ho];simp
  ·simp only [ne_eq,hz,not_false_eq_true,decide_true,cond_true,List.foldl_cons,List.foldl_nil,Ho];simp
theorem Qd {p:PROG} {fn x:Int} (h:x∈fnN p fn):(0≤x∧x<(p.1.length:Int))∧(0:Int)<AW p.1 x:=by
 unfold fnN at h;cases hf:GD p fn
 ·simp [hf] at h
 ·rw [hf,cond_true,uni,LD _ _ _ _ (Nat.le_refl _)] at h;rcases h with h | h
  ·exact Mk h
  ·exact Mk h
theorem OK {p:PROG} (hp:FineP p) {fn:Int}:(fnN p fn).length≤2097152:=by
 have hn:=hp.n.len
 unfold fnN;cases GD p fn
 ·simp
 ·have h1:=Gm p.1 (rd p.2 fn zF).2.2.2.1
  have h2:=Gm p.1 (rd p.2 fn zF).2.2.2.2
  have h3:=SZ ((BM p.1 (rd p.2 fn zF).2.2.2.1).length+(BM p.1 (rd p.2 fn zF).2.2.2.2).length+1) (BM p.1 (rd p.2 fn zF).2.2.2.1) (BM p.1 (rd p.2 fn zF).2.2.2.2)
  rw [cond_true,uni];omega
set_option maxRecDepth 100000
abbrev VAR:=ByteArray×(Int×Int)
abbrev zV:VAR:=((⟨#[]⟩:ByteArray),((0:Int),(0:Int)))
def Tm (x:ByteArray×Int):VAR:=(x.1,(x.2,(-1:Int)))
def Gc (l:List NODE) (k:Int):Bool:=decide ((rd l k zN).1=13)
def Vw (l:List NODE) (k:Int):VAR:=((rd l k zN).2.2.1,((0:Int),k))
def BR (p:PROG) (fn:Int):List VAR:=bif GD p fn then (rd p.2 fn zF).2.1.map Tm++((BM p.1 (rd p.2 fn zF).2.2.2.1).filter (Gc p.1)).map (Vw p.1) else []
theorem SP {p:PROG} (hp:FineP p) {fn:Int} (h:0≤fn∧fn<(p.2.length:Int)):(rd p.2 fn zF).2.1.length≤1048576:=by
 obtain⟨k,rfl⟩:∃ m:Nat,fn=(m:Int):=⟨fn.toNat,by omega⟩
 have hk:k<p.2.length:=by omega
 rw [AP hk];exact hp.a _ (List.getElem_mem hk)
theorem aD {α:Type} {l:List NODE} {k x:Int} (h:x∈BM l k) {K:Option α}:(Cnd.idx x l.length).run K=K:=AU (Mk h).1
theorem ax (p:PROG) (hp:FineP p) (r:Int) (o:List VAR) (ho:o.length≤1048576):AD Fx (o,BM p.1 r,(0:Int),p,())=some (o++((BM p.1 r).filter (Gc p.1)).map (Vw p.1),()):=by
 have hn:=hp.n.len
 have hlen:=Gm p.1 r
 have h:=Ao (step:=Fx) (BM p.1 r) (fun o k=>bif Gc p.1 k then o++[Vw p.1 k] else o) (fun i o=>(o,BM p.1 r,(i:Int),p,())) (fun o=>(o,())) (fun i o=>o.length≤1048576+i) (fun i hi o ho=>by
  have hid:∀ {α:Type} {K:Option α},(Cnd.idx (BM p.1 r)[i] p.1.length).run K=K:=fun {α K}=>aD (List.getElem_mem hi)
  simp only [Fx,AR hi,decide_true,cond_true,AK hi,AP hi,hid,Gc];cases decide ((rd p.1 (BM p.1 r)[i] zN).1=13)
  ·simp only [cond_false,AA,Option.map_some,AI (show i<9223372036854775807 by omega)];exact⟨by trivial,by omega⟩
  ·simp only [cond_true];rw [Am (by simp;omega)];simp only [AA,Option.map_some,AI (show i<9223372036854775807 by omega)];exact⟨by trivial,by simp;omega⟩) (fun o ho=>by
  simp only [Fx,AJ,decide_false,cond_false,Option.map_some]) o (by omega)
 have h':=h.1
 rw [Cn] at h';exact h'
theorem aw (p:PROG) (hp:FineP p) (r:Int) (o:List VAR) (ho:o.length≤1048576):AD Fv (o,BM p.1 r,((BM p.1 r).length:Int),(0:Int),p,())=some (o++((BM p.1 r).filter (Gc p.1)).map (Vw p.1),()):=by
 have hn:=hp.n.len
 have hlen:=Gm p.1 r
 have h:=Ao (step:=Fv) (BM p.1 r) (fun o k=>bif Gc p.1 k then o++[Vw p.1 k] else o) (fun i o=>(o,BM p.1 r,((BM p.1 r).length:Int),(i:Int),p,())) (fun o=>(o,())) (fun i o=>o.length≤1048576+i) (fun i hi o ho=>by
  have hid:∀ {α:Type} {K:Option α},(Cnd.idx (BM p.1 r)[i] p.1.length).run K=K:=fun {α K}=>aD (List.getElem_mem hi)
  simp only [Fv,AR hi,decide_true,cond_true,AK hi,AP hi,hid,Gc];cases decide ((rd p.1 (BM p.1 r)[i] zN).1=13)
  ·simp only [cond_false,AA,Option.map_some,AI (show i<9223372036854775807 by omega)];exact⟨by trivial,by omega⟩
  ·simp only [cond_true];rw [Am (by simp;omega)];simp only [AA,Option.map_some,AI (show i<9223372036854775807 by omega)];exact⟨by trivial,by simp;omega⟩) (fun o ho=>by
  simp only [Fv,AJ,decide_false,cond_false,Option.map_some]) o (by omega)
 have h':=h.1
 rw [Cn] at h';exact h'
theorem az (p:PROG) (x:FN) (hx:x.2.1.length≤1048576):AD Fr ([],(0:Int),p,x,())=some (x.2.1.map Tm,p,x,()):=by
 have h:=FO (step:=Fr) x.2.1 Tm (fun i o=>(o,(i:Int),p,x,())) (fun o=>(o,p,x,())) (fun i hi o ho=>by
  simp only [Fr,AR hi,decide_true,cond_true,AK hi,AP hi];rw [Am (by simp;omega)];simp only [Option.map_some,AI (show i<9223372036854775807 by omega)];rfl) (fun o ho=>by
  simp only [Fr,AJ,decide_false,cond_false,Option.map_some])
 exact h
theorem ay (p:PROG) (fn:Int) (x:List (ByteArray×Int)) (hx:x.length≤1048576):AD Fk (fn,[],x,(x.length:Int),(0:Int),p,())=some (fn,x.map Tm,p,()):=by
 have h:=FO (step:=Fk) x Tm (fun i o=>(fn,o,x,(x.length:Int),(i:Int),p,())) (fun o=>(fn,o,p,())) (fun i hi o ho=>by
  simp only [Fk,AR hi,decide_true,cond_true,AK hi,AP hi];rw [Am (by simp;omega)];simp only [Option.map_some,AI (show i<9223372036854775807 by omega)];rfl) (fun o ho=>by
  simp only [Fk,AJ,decide_false,cond_false,Option.map_some])
 exact h
theorem QT (p:PROG) (hp:FineP p) (fn:Int):Ii p fn=some (BR p fn,()):=by
 unfold Ii BR GD;rw [It hp,sIn,Option.bind_some]
 by_cases hr:0≤fn∧fn≤(p.2.length:Int) - 1
 case neg=>simp only [hr,decide_false,Bool.not_false,cond_true,cond_false]
 have hi:∀ {α:Type} {K:Option α},(Cnd.idx fn p.2.length).run K=K:=fun {α K}=>AU (by omega)
 have hx:=SP hp (show 0≤fn∧fn<(p.2.length:Int) by omega)
 simp only [hr,and_self,decide_true,Bool.not_true,cond_false,cond_true,hi];generalize rd p.2 fn zF=x at hx ⊢;simp only [Option.bind_some,az p x hx,AA,LM p hp.n,ax p hp _ (x.2.1.map Tm) (by simpa using hx)]
theorem QD (p:PROG) (hp:FineP p) (fn:Int):Ie p fn=some (BR p fn,()):=by
 unfold Ie BR GD;rw [It hp,iIn,Option.bind_some]
 by_cases hr:0≤fn∧fn≤(p.2.length:Int) - 1
 case neg=>simp only [hr,decide_false,Bool.not_false,cond_true,cond_false]
 have hi:∀ {α:Type} {K:Option α},(Cnd.idx fn p.2.length).run K=K:=fun {α K}=>AU (by omega)
 have hx:=SP hp (show 0≤fn∧fn<(p.2.length:Int) by omega)
 simp only [hr,and_self,decide_true,Bool.not_true,cond_false,cond_true,hi,Option.bind_some,ay p fn _ hx,AA,Pc p hp.n];rw [aw p hp _ _ (by simpa using hx)];rfl
theorem IB {α:Type} (q:α→Bool) (l:List α):(l.filter q).length≤l.length:=List.length_filter_le ..
theorem Ml {p:PROG} (hp:FineP p) (fn:Int):(BR p fn).length≤2097152:=by
 unfold BR GD
 by_cases hr:0≤fn∧fn≤(p.2.length:Int) - 1
 ·have hx:=SP hp (show 0≤fn∧fn<(p.2.length:Int) by omega)
  have h1:=Gm p.1 (rd p.2 fn zF).2.2.2.1
  have h2:=IB (Gc p.1) (BM p.1 (rd p.2 fn zF).2.2.2.1)
  have h3:=hp.n.len
  simp only [hr,and_self,decide_true,cond_true,List.length_append,List.length_map];omega
 ·simp [hr]
def CF (k:Int):Bool:=decide (2≤k∧k≤6) || (decide (k=14) || decide (k=15))
theorem eE (k:Int):LB k=some (CF k,()):=by
 unfold LB CF;rw [iIn,Option.bind_some]
 by_cases h:2≤k∧k≤6
 ·simp [h,AA]
 ·by_cases h2:k=14<;>simp [h,h2,AA]
theorem kV (k:Int):Jz k=some (CF k,()):=by
 unfold Jz CF
 by_cases h2:k=2
 ·subst h2;simp [AA]
 by_cases h3:k=3
 ·subst h3;simp [AA]
 by_cases h4:k=4
 ·subst h4;simp [AA]
 by_cases h5:k=5
 ·subst h5;simp [AA]
 by_cases h6:k=6
 ·subst h6;simp [AA]
 have h:¬ (2≤k∧k≤6):=by omega
 by_cases h14:k=14
 ·subst h14;simp [AA]
 by_cases h15:k=15
 ·subst h15;simp [AA]
 simp [AA,h2,h3,h4,h5,h6,h,h14,h15]
def PS (l:List NODE) (s:ByteArray) (k:Int):Bool:=CF (rd l k zN).1 && decide ((rd l k zN).2.2.1=s)
def Gy (p:PROG) (fn:Int) (s:ByteArray):List Int:=(fnN p fn).filter (PS p.1 s)
theorem aC {α:Type} {p:PROG} {fn x:Int} (h:x∈fnN p fn) {K:Option α}:(Cnd.idx x p.1.length).run K=K:=AU (Qd h).1
theorem WR (p:PROG) (hp:FineP p) (fn:Int) (s:ByteArray):Kn p fn s=some (Gy p fn s,()):=by
 have hlen:=OK hp (fn:=fn)
 have h:=Ao (step:=Fq) (fnN p fn) (fun o k=>bif PS p.1 s k then o++[k] else o) (fun i o=>(s,o,fnN p fn,(i:Int),p,())) (fun o=>(o,())) (fun i o=>o.length≤i) (fun i hi o ho=>by
  have hid:∀ {α:Type} {K:Option α},(Cnd.idx (fnN p fn)[i] p.1.length).run K=K:=fun {α K}=>aC (List.getElem_mem hi)
  simp only [Fq,AR hi,decide_true,cond_true,AK hi,AP hi,hid,kV,Option.bind_some,PS];cases CF (rd p.1 (fnN p fn)[i] zN).1
  ·simp only [cond_false,AA,Option.map_some,AI (show i<9223372036854775807 by omega),Bool.false_and];exact⟨by trivial,by omega⟩
  ·simp only [cond_true,AA,Bool.true_and];cases decide ((rd p.1 (fnN p fn)[i] zN).2.2.1=s)
   ·simp only [cond_false,AA,Option.map_some,AI (show i<9223372036854775807 by omega)];exact⟨by trivial,by omega⟩
   ·simp only [cond_true];rw [AK hi,Am (by simp;omega)];simp only [AA,Option.map_some,AP hi,AI (show i<9223372036854775807 by omega)];exact⟨by trivial,by simp;omega⟩) (fun o ho=>by
  simp only [Fq,AJ,decide_false,cond_false,Option.map_some]) [] (Nat.le_refl 0)
 have h':AD Fq (s,[],fnN p fn,(0:Int),p,())=_:=h.1
 unfold Kn;rw [RL p hp,Option.bind_some];simp only [Option.bind_some,h',AA];have hf:=Cn (PS p.1 s) (fun k:Int=>k) (fnN p fn) []
 rw [hf];simp [Gy]
theorem Vu (p:PROG) (hp:FineP p) (fn:Int) (s:ByteArray):Kk p fn s=some (Gy p fn s,()):=by
 have hlen:=OK hp (fn:=fn)
 have h:=Ao (step:=Fj) (fnN p fn) (fun o k=>bif PS p.1 s k then o++[k] else o) (fun i o=>(s,o,fnN p fn,((fnN p fn).length:Int),(i:Int),p,())) (fun o=>(o,())) (fun i o=>o.length≤i) (fun i hi o ho=>by
  have hid:∀ {α:Type} {K:Option α},(Cnd.idx (fnN p fn)[i] p.1.length).run K=K:=fun {α K}=>aC (List.getElem_mem hi)
  simp only [Fj,AR hi,decide_true,cond_true,AK hi,AP hi,hid,eE,Option.bind_some,PS];cases CF (rd p.1 (fnN p fn)[i] zN).1
  ·simp only [cond_false,AA,Option.map_some,AI (show i<9223372036854775807 by omega),Bool.false_and];exact⟨by trivial,by omega⟩
  ·simp only [cond_true,AA,Bool.true_and];cases decide ((rd p.1 (fnN p fn)[i] zN).2.2.1=s)
   ·simp only [cond_false,AA,Option.map_some,AI (show i<9223372036854775807 by omega)];exact⟨by trivial,by omega⟩
   ·simp only [cond_true];rw [Am (by simp;omega)];simp only [AA,Option.map_some,AI (show i<9223372036854775807 by omega)];exact⟨by trivial,by simp;omega⟩) (fun o ho=>by
  simp only [Fj,AJ,decide_false,cond_false,Option.map_some]) [] (Nat.le_refl 0)
 have h':AD Fj (s,[],fnN p fn,((fnN p fn).length:Int),(0:Int),p,())=_:=h.1
 unfold Kk;rw [RG p hp,Option.bind_some];simp only [Option.bind_some,h',AA];have hf:=Cn (PS p.1 s) (fun k:Int=>k) (fnN p fn) []
 rw [hf];simp [Gy]
theorem Wd {p:PROG} (hp:FineP p) (fn:Int) (s:ByteArray):(Gy p fn s).length≤2097152:=Nat.le_trans (IB ..) (OK hp)
theorem du {p:PROG} {fn:Int} {s:ByteArray} {x:Int} (h:x∈Gy p fn s):x∈fnN p fn:=(List.mem_filter.1 h).1
set_option maxRecDepth 100000
def Lb (l:List NODE) (k:Int):Bool:=decide ((rd l k zN).1≠14)
theorem Ta {α:Type} (q:α→Bool):∀ (xs:List α) (b:Bool),xs.foldl (fun b x=>b || q x) b=(b || xs.any q)
 | [],b=>by simp
 | x::xs,b=>by rw [List.foldl_cons,Ta q xs,List.any_cons,Bool.or_assoc]
theorem au (p:PROG) (fn i:Int) (o:List ByteArray) (vs:List VAR) (us:List Int) (hu:us.length≤2097152) (hr:∀ x∈us,0≤x∧x<(p.1.length:Int)):
 AD DW (fn,o,vs,i,false,us,(0:Int),p,())=some (fn,o,vs,i,us.any (Lb p.1),p,()):=by
 have h:=Ao (step:=DW) us (fun b k=>b || Lb p.1 k) (fun k b=>(fn,o,vs,i,b,us,(k:Int),p,())) (fun b=>(fn,o,vs,i,b,p,())) (fun _ _=>True) (fun k hk b _=>by
  refine⟨?_,trivial⟩
  simp only [DW,AR hk,decide_true,cond_true];cases b
  ·simp only [cond_false,AK hk,AP hk,AU (hr _ (List.getElem_mem hk)),AA,Option.map_some,AI (show k<9223372036854775807 by omega),Bool.false_or,Lb]
  ·simp only [cond_true,AA,Option.map_some,AI (show k<9223372036854775807 by omega),Bool.true_or]) (fun b _=>by
  simp only [DW,AJ,decide_false,cond_false,Option.map_some]) false trivial
 have h':=h.1
 rw [Ta,Bool.false_or] at h';exact h'
theorem aq (p:PROG) (fn vl i:Int) (o:List ByteArray) (vs:List VAR) (v:VAR) (us:List Int) (hu:us.length≤2097152) (hr:∀ x∈us,0≤x∧x<(p.1.length:Int)):
 AD DT (fn,o,false,vs,vl,i,us,(us.length:Int),(0:Int),p,v,())=some (fn,o,us.any (Lb p.1),vs,vl,i,p,v,()):=by
 have h:=Ao (step:=DT) us (fun b k=>b || Lb p.1 k) (fun k b=>(fn,o,b,vs,vl,i,us,(us.length:Int),(k:Int),p,v,())) (fun b=>(fn,o,b,vs,vl,i,p,v,())) (fun _ _=>True) (fun k hk b _=>by
  refine⟨?_,trivial⟩
  simp only [DT,AR hk,decide_true,cond_true,AK hk];cases b
  ·simp only [cond_false,AP hk,AU (hr _ (List.getElem_mem hk)),AA,Option.map_some,AI (show k<9223372036854775807 by omega),Bool.false_or,Lb]
  ·simp only [cond_true,AA,Option.map_some,AI (show k<9223372036854775807 by omega),Bool.true_or]) (fun b _=>by
  simp only [DT,AJ,decide_false,cond_false,Option.map_some]) false trivial
 have h':=h.1
 rw [Ta,Bool.false_or] at h';exact h'
def Oc (p:PROG) (fn:Int) (v:VAR):Bool:=!(Gy p fn v.1).any (Lb p.1)
def Dv (p:PROG) (fn:Int):List ByteArray:=((BR p fn).filter (Oc p fn)).map (fun v=>v.1)
theorem We {p:PROG} {fn:Int} {s:ByteArray}:∀ x∈Gy p fn s,0≤x∧x<(p.1.length:Int):=fun x h=>(Qd (du h)).1
theorem OY (p:PROG) (hp:FineP p) (fn:Int):FU p fn=some (Dv p fn,()):=by
 have hlen:=Ml hp fn
 have h:=Ao (step:=DZ) (BR p fn) (fun o v=>bif Oc p fn v then o++[v.1] else o) (fun i o=>(fn,o,BR p fn,(i:Int),p,())) (fun o=>(o,())) (fun i o=>o.length≤i) (fun i hi o ho=>by
  have hin:=au p fn (i:Int) o (BR p fn) (Gy p fn (BR p fn)[i].1) (Wd hp ..) We
  simp only [DZ,AR hi,decide_true,cond_true,AK hi,AP hi,WR p hp,Option.bind_some,hin,AA,Oc];cases (Gy p fn (BR p fn)[i].1).any (Lb p.1)
  ·simp only [Bool.not_false,cond_true,AK hi,AP hi];rw [Am (by simp;omega)];simp only [AA,Option.map_some,AI (show i<9223372036854775807 by omega)];exact⟨by trivial,by simp;omega⟩
  ·simp only [Bool.not_true,cond_false,AA,Option.map_some,AI (show i<9223372036854775807 by omega)];exact⟨by trivial,by omega⟩) (fun o ho=>by
  simp only [DZ,AJ,decide_false,cond_false,Option.map_some]) [] (Nat.le_refl 0)
 have h':AD DZ (fn,[],BR p fn,(0:Int),p,())=_:=h.1
 unfold FU;rw [QT p hp,Option.bind_some];simp only [Option.bind_some,h',AA];rw [Cn,List.nil_append];rfl
theorem ON (p:PROG) (hp:FineP p) (fn:Int):FM p fn=some (Dv p fn,()):=by
 have hlen:=Ml hp fn
 have h:=Ao (step:=DX) (BR p fn) (fun o v=>bif Oc p fn v then o++[v.1] else o) (fun i o=>(fn,o,BR p fn,((BR p fn).length:Int),(i:Int),p,())) (fun o=>(o,())) (fun i o=>o.length≤i) (fun i hi o ho=>by
  have hin:=aq p fn ((BR p fn).length:Int) (i:Int) o (BR p fn) (BR p fn)[i] (Gy p fn (BR p fn)[i].1) (Wd hp ..) We
  simp only [DX,AR hi,decide_true,cond_true,AK hi,AP hi,Vu p hp,Option.bind_some,hin,AA,Oc];cases (Gy p fn (BR p fn)[i].1).any (Lb p.1)
  ·simp only [Bool.not_false,cond_true];rw [Am (by simp;omega)];simp only [AA,Option.map_some,AI (show i<9223372036854775807 by omega)];exact⟨by trivial,by simp;omega⟩
  ·simp only [Bool.not_true,cond_false,AA,Option.map_some,AI (show i<9223372036854775807 by omega)];exact⟨by trivial,by omega⟩) (fun o ho=>by
  simp only [DX,AJ,decide_false,cond_false,Option.map_some]) [] (Nat.le_refl 0)
 have h':AD DX (fn,[],BR p fn,((BR p fn).length:Int),(0:Int),p,())=_:=h.1
 unfold FM;rw [QD p hp,Option.bind_some];simp only [Option.bind_some,h',AA];rw [Cn,List.nil_append];rfl
set_option maxRecDepth 100000
def LK (l:List ByteArray) (s:ByteArray):Bool:=l.any fun y=>decide (y=s)
theorem iHasT (l:List ByteArray) (s:ByteArray) (hl:l.length≤4000000):GG l s=some (LK l s,()):=by
 have h:=GT (step:=Bt) l (fun y=>decide (y=s)) (fun k=>(s,l,(l.length:Int),(k:Int),())) (.inr (true,())) (.inl ()) (fun k hk=>by
  simp only [Bt,AR hk,decide_true,cond_true,AK hk,AP hk,AI (show k<9223372036854775807 by omega)];cases decide (l[k]=s)<;>rfl) (by
  simp only [Bt,AJ,decide_false,cond_false,Option.map_some])
 have h':AD Bt (s,l,(l.length:Int),(0:Int),())=_:=h
 simp only [GG,Option.bind_some,h',LK];cases l.any fun y=>decide (y=s)<;>rfl
theorem Rv {γ D:Type} {q q':γ→D→Bool} {g:γ→D→γ}:∀ (l:List D) (c:γ),(∀ x∈l,∀ c,q c x=q' c x)→BZ q g l c=BZ q' g l c
 | [],_,_=>rfl
 | x::l,c,h=>by
  simp only [BZ];rw [h x (List.mem_cons_self ..),Rv l _ fun y hy=>h y (List.mem_cons_of_mem _ hy)]
theorem QA {γ D:Type} (q:γ→D→Bool) (g:γ→D→γ):∀ (l:List D) (c:γ) (b:Bool),l.foldl (fun(s:γ×Bool) x=>(g s.1 x,s.2 || !q s.1 x)) (c,b)=(l.foldl g c,b || !(BZ q g l c).isSome)
 | [],c,b=>by simp [BZ]
 | x::l,c,b=>by
  simp only [List.foldl_cons,BZ];rw [QA q g l];cases q c x<;>simp
theorem kM (k:Int):(kr k).2≤12:=by unfold kr;repeat (first | split | decide)
theorem OU {l:List NODE} {a:Int} (h:BT l a=true):Dx l a (rd l a zN)=true:=by
 simp only [BT,Bool.and_eq_true] at h;exact h.2
theorem fA {l:List NODE} {a:Int} (h:BT l a=true):1≤(rd l a zN).1∧(rd l a zN).1≤20:=by
 have:=OU h
 simp only [Dx,Bool.and_eq_true,decide_eq_true_eq] at this;exact this.1
theorem QM {l:List NODE} {a:Int} (h:BT l a=true):(kr (rd l a zN).1).1≤((rd l a zN).2.2.2.length:Int)∧((rd l a zN).2.2.2.length:Int)≤(kr (rd l a zN).1).2:=by
 have:=OU h
 simp only [Dx,Bool.and_eq_true,decide_eq_true_eq] at this;exact this.2.1
theorem LE {l:List NODE} {a:Int} (h:BT l a=true):(rd l a zN).2.2.2.length≤12:=by
 have h1:=QM h
 have h2:=kM (rd l a zN).1
 omega
theorem Tk {l:List NODE} {a:Int} (h:BT l a=true) {i:Nat} (hi:i<(rd l a zN).2.2.2.length):JW (rd l a zN).1 (i:Int) (rd l (rd l a zN).2.2.2[i] zN).1=true:=by
 have:=OU h
 simp only [Dx,Bool.and_eq_true] at this;have h2:=List.all_eq_true.1 this.2.2.2.2 i (by simpa using hi)
 simp only [NW,Bool.and_eq_true] at h2;have e:(rd l a zN).2.2.2.getD i 0=(rd l a zN).2.2.2[i]:=by
  generalize rd l a zN=x at hi ⊢;simp [hi]
 rw [e] at h2;exact h2.2.1
def JS (p:PROG) (fn:Int) (x:NODE):Bool:=decide (0≤CH p.2 x.2.2.1∧CH p.2 x.2.2.1≤fn - 1) && decide (((rd p.2 (CH p.2 x.2.2.1) zF).2.1.length:Int)=(x.2.2.2.length:Int))
def okH (p:PROG) (fn:Int) (x:NODE) (nm:List ByteArray):Bool:=(!CF x.1 || LK nm x.2.2.1) && (!decide (x.1=12) || JS p fn x)
def Dd (l:List NODE) (b:Bool) (nm:List ByteArray) (y:Int):List ByteArray:=bif b && Gc l y then nm++[(rd l y zN).2.2.1] else nm
def sn (p:PROG) (fn:Int):Nat→Int→List ByteArray→Bool
 | 0,_,_=>false
 | f+1,k,nm=>okH p fn (rd p.1 k zN) nm && (BZ (fun nm y=>sn p fn f y nm) (Dd p.1 (decide ((rd p.1 k zN).1=20))) (rd p.1 k zN).2.2.2 nm).isSome
theorem Tr (p:PROG) (fn:Int):∀ (f g:Nat) (a:Int) (nm:List ByteArray),(0:Int)<AW p.1 a→a.toNat<f→a.toNat<g→sn p fn f a nm=sn p fn g a nm
 | 0,_,_,_,_,h,_=>absurd h (by omega)
 | _+1,0,_,_,_,_,h=>absurd h (by omega)
 | f+1,g+1,a,nm,hd,hf,hg=>by
  simp only [sn]
  congr 2
  refine Rv _ _ fun y hy c=>?_
  obtain⟨k1,k2,k3⟩:=Dn hd hy;exact Tr p fn f g y c k1 (by omega) (by omega)
def Aw (p:PROG) (fn:Int) (k:Int) (nm:List ByteArray):Bool:=sn p fn (k.toNat+1) k nm
theorem SA (p:PROG) (fn:Int) {k:Int} (h:(0:Int)<AW p.1 k) (nm:List ByteArray):Aw p fn k nm=(okH p fn (rd p.1 k zN) nm && (BZ (fun nm y=>Aw p fn y nm) (Dd p.1 (decide ((rd p.1 k zN).1=20))) (rd p.1 k zN).2.2.2 nm).isSome):=by
 unfold Aw;simp only [sn]
 congr 2
 refine Rv _ _ fun y hy c=>?_
 obtain⟨k1,k2,k3⟩:=Dn h hy;exact Tr p fn k.toNat (y.toNat+1) y c k1 (by omega) (by omega)
theorem On (l:List NODE) (b:Bool) (nm:List ByteArray) (y:Int):(Dd l b nm y).length≤nm.length+1:=by
 unfold Dd;cases b && Gc l y<;>simp
theorem XT {l:List FN} {s:ByteArray}:CH l s<(l.length:Int):=by
 unfold CH;cases h:l.findIdx? fun f=>decide (f.1=s) with
 | none=>simp only;omega
 | some i=>
  obtain⟨h1,_⟩:=List.findIdx?_eq_some_iff_getElem.1 h;simp only;omega
theorem Xi (p:PROG) (hp:FineP p) (fn:Int) (hfn:0≤fn∧fn≤1048576):∀ (n:Nat) (k:Int) (nm:List ByteArray),(0:Int)<AW p.1 k→k.toNat<n→nm.length+12 * (k.toNat+1)≤16000000→(EK n).1 p fn k nm=some (sn p fn n k nm,())
 | 0,_,_,_,h,_=>absurd h (by omega)
 | n+1,k,nm,hd,hn,hb=>by
  have hk:=(Ae hd).1
  have hok:=(Ae hd).2.1
  have h12:=LE hok
  have hkid:=fun y hy=>@Dn p.1 k hd y hy
  show Nn (EK n).1 p fn k nm=_
  unfold Nn;simp only [sn];rw [AU hk];have hkn:=hp.n.len
  have hnm:nm.length≤16000000:=by omega
  generalize rd p.1 k zN=x at h12 hkid ⊢;have hT:GG nm x.2.2.1=some (LK nm x.2.2.1,()):=by
   have h:=GT (step:=Bt) nm (fun y=>decide (y=x.2.2.1)) (fun k=>(x.2.2.1,nm,(nm.length:Int),(k:Int),())) (.inr (true,())) (.inl ()) (fun k hk=>by
    simp only [Bt,AR hk,decide_true,cond_true,AK hk,AP hk,AI (show k<9223372036854775807 by omega)];cases decide (nm[k]=x.2.2.1)<;>rfl) (by
    simp only [Bt,AJ,decide_false,cond_false,Option.map_some])
   have h':AD Bt (x.2.2.1,nm,(nm.length:Int),(0:Int),())=_:=h
   simp only [GG,Option.bind_some,h',LK];cases nm.any fun y=>decide (y=x.2.2.1)<;>rfl
  have hloop:AD (EX (EK n).1) (fn,nm,x.2.2.2,(x.2.2.2.length:Int),(0:Int),p,x,())=some ((BZ (fun nm y=>sn p fn n y nm) (Dd p.1 (decide (x.1=20))) x.2.2.2 nm).elim (.inr (false,())) fun _=>.inl ()):=by
   have h:=NX (step:=EX (EK n).1) x.2.2.2 (fun nm y=>sn p fn n y nm) (Dd p.1 (decide (x.1=20))) (fun i nm=>(fn,nm,x.2.2.2,(x.2.2.2.length:Int),(i:Int),p,x,())) (fun _=>.inl ()) (.inr (false,())) (fun i c=>c.length≤nm.length+i) (fun i hi c hc=>by
    obtain⟨k1,k2,k3⟩:=hkid _ (List.getElem_mem hi);have ih:=Xi p hp fn hfn n x.2.2.2[i] c k1 (by omega) (by omega)
    refine⟨?_,fun _=>Nat.le_trans (On ..) (by omega)⟩
    simp only [EX,AR hi,decide_true,cond_true,AK hi,AP hi,ih,Option.bind_some];cases sn p fn n x.2.2.2[i] c
    ·simp only [Bool.not_false,cond_true,Option.map_some,cond_false]
    ·simp only [Bool.not_true,cond_false,cond_true,Dd]
     by_cases h20:x.1=20
     ·simp only [h20,decide_true,cond_true,AU (Ae k1).1,AA,Bool.true_and,Gc];cases decide ((rd p.1 x.2.2.2[i] zN).1=13)
      ·simp only [cond_false,AA,Option.map_some,AI (show i<9223372036854775807 by omega)]
      ·simp only [cond_true];rw [Am (by simp;omega)];simp only [AA,Option.map_some,AI (show i<9223372036854775807 by omega)]
     ·simp only [h20,decide_false,cond_false,AA,Bool.false_and,Option.map_some,AI (show i<9223372036854775807 by omega)]) (fun c _=>by
    simp only [EX,AJ,decide_false,cond_false,Option.map_some]) nm (Nat.le_refl _)
   exact h
  have hfin:(Cnd.le ((List.length ([]:List (ByteArray))+List.length nm) * 16) 140737488355328).run (joinS ((some (fn,([]:List (ByteArray))++nm,x.2.2.2,(List.length x.2.2.2:Int),(0:Int),p,x,())).bind fun x80=>AD (EX (EK n).1) x80) fun x12=>some (true,()))=some ((BZ (fun nm y=>sn p fn n y nm) (Dd p.1 (decide (x.1=20))) x.2.2.2 nm).isSome,()):=by
   rw [Am (by simp;omega)];simp only [List.nil_append,Option.bind_some,hloop];cases BZ (fun nm y=>sn p fn n y nm) (Dd p.1 (decide (x.1=20))) x.2.2.2 nm<;>rfl
  rw [eE,Option.bind_some];simp only [okH,hT];have hcall:∀ {b:Bool},(joinS (bif decide (x.1=(12:Int)) then (Hh p x.2.2.1).bind fun y4=>joinP ((BJ y4.1 (0:Int) (IntKind.wrap .i64 (fn - (1:Int)))).bind fun y5=>bif !y5.1 then some (fn,nm,true,p,x,()) else (Cnd.idx y4.1 (List.length p.2)).run (some (fn,nm,decide ((List.length (((rd p.2 y4.1 zF).2).1):Int)≠(List.length x.2.2.2:Int)),p,x,()))) fun x6=>bif x6.2.2.1 then (some (false,())).map Sum.inr else (some (x6.1,x6.2.1,x6.2.2.2.1,x6.2.2.2.2.1,())).map Sum.inl else (some (fn,nm,p,x,())).map Sum.inl) fun x7=>(Cnd.le ((List.length ([]:List (ByteArray))+List.length x7.2.1) * 16) 140737488355328).run (joinS ((some (x7.1,([]:List (ByteArray))++x7.2.1,x7.2.2.2.1.2.2.2,(List.length x7.2.2.2.1.2.2.2:Int),(0:Int),x7.2.2.1,x7.2.2.2.1,())).bind fun x80=>AD (EX (EK n).1) x80) fun x12=>some (true,())))=some ((!decide (x.1=12) || JS p fn x) && (BZ (fun nm y=>sn p fn n y nm) (Dd p.1 (decide (x.1=20))) x.2.2.2 nm).isSome,()):=by
   intro _
   by_cases h12:x.1=12
   ·simp only [h12,decide_true,cond_true,Bool.not_true,Bool.false_or];rw [MQ p hp,Option.bind_some,show IntKind.wrap .i64 (fn - 1)=fn - 1 from Ar (by omega) (by omega),iIn,Option.bind_some];unfold JS
    by_cases hr:0≤CH p.2 x.2.2.1∧CH p.2 x.2.2.1≤fn - 1
    ·have hlt:=XT (l:=p.2) (s:=x.2.2.1)
     simp only [hr,and_self,decide_true,Bool.not_true,cond_false,Bool.true_and];rw [AU ⟨hr.1,hlt⟩,AA]
     by_cases hl:((rd p.2 (CH p.2 x.2.2.1) zF).2.1.length:Int)=(x.2.2.2.length:Int)
     ·simp only [hl,ne_eq,not_true_eq_false,decide_false,decide_true,cond_false,Option.map_some,BE,Bool.true_and];rw [h12] at hfin;exact hfin
     ·simp only [hl,ne_eq,not_false_eq_true,decide_false,decide_true,cond_true,Option.map_some,Av,Bool.false_and]
    ·simp only [hr,decide_false,Bool.not_false,cond_true,Bool.false_and,AA,Option.map_some,Av]
   ·simp only [h12,decide_false,cond_false,Option.map_some,BE,Bool.not_false,Bool.true_or,Bool.true_and];exact hfin
  cases CF x.1
  ·simp only [cond_false,AA,Bool.not_false,Bool.true_or,Bool.true_and];exact hcall (b:=true)
  ·simp only [cond_true,Option.bind_some,AA,Bool.not_true,Bool.false_or];cases LK nm x.2.2.1
   ·simp only [Bool.not_false,cond_true,Bool.false_and]
   ·simp only [Bool.not_true,cond_false,Bool.true_and];exact hcall (b:=true)
theorem QC (p:PROG) (hp:FineP p) (fn:Int) (hfn:0≤fn∧fn≤1048576) (k:Int) (nm:List ByteArray) (hd:(0:Int)<AW p.1 k) (hnm:nm.length≤2000000):NU p fn k nm=some (Aw p fn k nm,()):=by
 have hk:=(Ae hd).1
 have hkn:=hp.n.len
 refine DC.2 ⟨k.toNat+1,fun n hn=>?_⟩
 have:=Xi p hp fn hfn n k nm hd (by omega) (by omega)
 rw [Tr p fn n (k.toNat+1) k nm hd (by omega) (by omega)] at this;exact this
set_option maxRecDepth 100000
abbrev ie:=PROG×(Int×(List ByteArray×Bool))
theorem aO (l:List ByteArray) (s:ByteArray) (hl:l.length≤16000000):HE l s=some (LK l s,()):=by
 have h:=GT (step:=Fs) l (fun y=>decide (y=s)) (fun k=>(l,s,(k:Int),())) (.inr (true,())) (.inl ()) (fun k hk=>by
  simp only [Fs,AR hk,decide_true,cond_true,AK hk,AP hk,AI (show k<9223372036854775807 by omega)];cases decide (l[k]=s)<;>rfl) (by
  simp only [Fs,AJ,decide_false,cond_false,Option.map_some])
 have h':AD Fs (l,s,(0:Int),())=_:=h
 simp only [HE,Option.bind_some,h',LK];cases l.any fun y=>decide (y=s)<;>rfl
theorem Oo (l:List NODE) (nm:List ByteArray) (y:Int):Dd l false nm y=nm:=rfl
theorem SQ (l:List NODE) (nm:List ByteArray):∀ ys:List Int,ys.foldl (Dd l false) nm=nm
 | []=>rfl
 | y::ys=>SQ l nm ys
theorem Vn {k i j:Int} (h:JW k i j=true) (hk:k≤19) (h2:¬ ((k=16∨k=17)∧0<i)):1≤j∧j≤12:=by
 unfold JW at h;rw [decide_eq_false (show ¬ k=20 by omega),cond_false] at h;have e:((decide (k=16) || decide (k=17)) && decide (0<i))=false:=by
  rw [Bool.and_eq_false_iff]
  by_cases hi:0<i
  ·left;have:¬ (k=16∨k=17):=fun h=>h2 ⟨h,hi⟩
   rw [Bool.or_eq_false_iff];exact⟨decide_eq_false (by omega),decide_eq_false (by omega)⟩
  ·right;exact decide_eq_false hi
 rw [e,cond_false] at h
 by_cases h19:k=19
 ·rw [decide_eq_true h19,cond_true] at h;have:=of_decide_eq_true h
  omega
 ·rw [decide_eq_false h19,cond_false] at h;exact of_decide_eq_true h
theorem Re {k i j:Int} (h:JW k i j=true) (hk:k=16∨k=17) (hi:0<i):j=20:=by
 unfold JW at h;rw [decide_eq_false (show ¬ k=20 by omega),cond_false] at h;have e:((decide (k=16) || decide (k=17)) && decide (0<i))=true:=by
  rw [Bool.and_eq_true,Bool.or_eq_true];exact⟨hk.imp decide_eq_true decide_eq_true,decide_eq_true hi⟩
 rw [e,cond_true] at h;exact of_decide_eq_true h
theorem Zw {k i j:Int} (h:JW k i j=true) (hk:k=20):13≤j∧j≤19:=by
 unfold JW at h;rw [decide_eq_true hk,cond_true] at h;exact of_decide_eq_true h
theorem Xn (p:PROG) (hp:FineP p) (fn:Int):∀ (n:Nat) (k:Int) (nm:List ByteArray) (b:Bool),(0:Int)<AW p.1 k→(rd p.1 k zN).1≤12→k.toNat<n→nm.length≤16000000 →
 (CC n).1 (p,(fn,(nm,b))) k=some ((p,(fn,(nm,b || !Aw p fn k nm))),())
 | 0,_,_,_,_,_,h,_=>absurd h (by omega)
 | n+1,k,nm,b,hd,h12,hn,hnm=>by
  have hk:=(Ae hd).1
  have hok:=(Ae hd).2.1
  have hkind:=fA hok
  have htw:=LE hok
  have hkid:=fun y hy=>@Dn p.1 k hd y hy
  have hval:∀ i (hi:i<(rd p.1 k zN).2.2.2.length),(rd p.1 (rd p.1 k zN).2.2.2[i] zN).1≤12:=fun i hi=>(Vn (Tk hok hi) (by omega) (by omega)).2
  rw [SA p fn hd];show Gk (CC n).1 (p,(fn,(nm,b))) k=_
  unfold Gk;rw [AU (show 0≤k∧k<((List.length (p,(fn,(nm,b))).1.1:Nat):Int) from hk)];generalize rd p.1 k zN=x at h12 hkind htw hkid hval ⊢;have h20:¬ x.1=20:=by omega
  rw [decide_eq_false h20];have hl:=Ao (step:=Ch (CC n).1) x.2.2.2 (fun(c:List ByteArray×Bool) y=>(Dd p.1 false c.1 y,c.2 || !Aw p fn y c.1)) (fun i c=>((i:Int),(p,(fn,(c.1,c.2))),x,())) (fun c=>((p,(fn,(c.1,c.2))),x,())) (fun _ c=>c.1=nm) (fun i hi c hc=>by
   obtain⟨k1,k2,k3⟩:=hkid _ (List.getElem_mem hi);have ih:=Xn p hp fn n x.2.2.2[i] c.1 c.2 k1 (hval i hi) (by omega) (by rw [hc];exact hnm)
   refine⟨?_,by rw [Oo];exact hc⟩
   simp only [Ch,AR hi,decide_true,cond_true,AK hi,AP hi,ih,Option.bind_some,Option.map_some,AI (show i<9223372036854775807 by omega),Oo]) (fun c _=>by
   simp only [Ch,AJ,decide_false,cond_false,Option.map_some]) (nm,b) rfl
  have h1:=hl.1
  rw [QA (fun nm y=>Aw p fn y nm) (Dd p.1 false),SQ] at h1;have h1':AD (Ch (CC n).1) ((0:Int),(p,(fn,(nm,b))),x,())=_:=h1
  simp only [Option.bind_some,h1',AA];generalize (BZ (fun nm y=>Aw p fn y nm) (Dd p.1 false) x.2.2.2 nm).isSome=r;have hT:=aO nm x.2.2.1 hnm
  have hrest:CF x.1=true→some ((p,(fn,(nm,b || !r || !LK nm x.2.2.1))),())=some ((p,(fn,(nm,b || !(okH p fn x nm && r)))),()):=fun hu=>by
   have e12:¬ x.1=12:=by
    intro h;rw [h] at hu;simp [CF] at hu
   simp only [okH,hu,Bool.not_true,Bool.false_or,decide_eq_false e12,Bool.not_false,Bool.true_or,Bool.and_true];cases b<;>cases r<;>cases LK nm x.2.2.1<;>rfl
  have hcase:x.1=1∨x.1=2∨x.1=3∨x.1=4∨x.1=5∨x.1=6∨(7≤x.1∧x.1≤11)∨x.1=12:=by omega
  have hset:CF x.1=true→(bif (b || !r) then some ((p,(fn,(nm,true))),()) else (HE nm x.2.2.1).bind fun y8=>some ((p,(fn,(nm,!y8.1))),()))=some ((p,(fn,(nm,b || !(okH p fn x nm && r)))),()):=fun hu=>by
   rw [← hrest hu,hT,Option.bind_some];cases (b || !r)<;>rfl
  have huse:x.1=2∨x.1=3∨x.1=4∨x.1=5∨x.1=6→CF x.1=true:=fun h=>by
   simp only [CF,Bool.or_eq_true,decide_eq_true_eq];omega
  rcases hcase with h | h | h | h | h | h | h | h
  ·have hu:CF x.1=false:=by rw [h];rfl
   simp only [h,decide_true,decide_false,cond_true,cond_false,AA,Int.reduceEq,okH,show CF 1=false from rfl,Bool.not_false,Bool.true_or,Bool.true_and]
  ·have:=hset (huse (by omega))
   simp only [h,decide_true,decide_false,cond_true,cond_false,AA,Int.reduceEq];rw [this];rfl
  ·have:=hset (huse (by omega))
   simp only [h,decide_true,decide_false,cond_true,cond_false,AA,Int.reduceEq];rw [this];rfl
  ·have:=hset (huse (by omega))
   simp only [h,decide_true,decide_false,cond_true,cond_false,AA,Int.reduceEq];rw [this];rfl
  ·have:=hset (huse (by omega))
   simp only [h,decide_true,decide_false,cond_true,cond_false,AA,Int.reduceEq];rw [this];rfl
  ·have:=hset (huse (by omega))
   simp only [h,decide_true,decide_false,cond_true,cond_false,AA,Int.reduceEq];rw [this];rfl
  ·have hu:CF x.1=false:=by
    simp only [CF,Bool.or_eq_false_iff,decide_eq_false_iff_not];omega
   simp only [show ¬ x.1=2 by omega,show ¬ x.1=3 by omega,show ¬ x.1=4 by omega,show ¬ x.1=5 by omega,show ¬ x.1=6 by omega,show ¬ x.1=12 by omega,decide_false,cond_false,AA,okH,hu,Bool.not_false,Bool.true_or,Bool.true_and]
  ·have hF:=Me p hp x.2.2.1
   simp only [h,decide_true,decide_false,cond_true,cond_false,AA,Int.reduceEq,hF,Option.bind_some,okH,show CF 12=false from rfl,Bool.not_false,Bool.true_or,Bool.true_and,Bool.not_true,Bool.false_or];cases hb:(b || !r)
   ·simp only [cond_false];have hr:b=false∧r=true:=by revert hb;cases b<;>cases r<;>simp
    rw [hr.1,hr.2]
    by_cases h0:CH p.2 x.2.2.1<0
    ·have hc:JS p fn x=false:=by
      unfold JS;rw [Bool.and_eq_false_iff];exact .inl (decide_eq_false (by omega))
     simp only [h0,decide_true,cond_true,AA,hc];rfl
    ·by_cases h1:fn≤CH p.2 x.2.2.1
     ·have hc:JS p fn x=false:=by
       unfold JS;rw [Bool.and_eq_false_iff];exact .inl (decide_eq_false (by omega))
      simp only [h0,h1,decide_true,decide_false,cond_true,cond_false,AA,hc];rfl
     ·have hlt:=XT (l:=p.2) (s:=x.2.2.1)
      simp only [h0,h1,decide_false,cond_false];rw [AU ⟨by omega,hlt⟩];simp only [AA,JS,decide_eq_true (show 0≤CH p.2 x.2.2.1∧CH p.2 x.2.2.1≤fn - 1 by omega),Bool.true_and,Bool.and_true,Bool.false_or]
      by_cases hl:((rd p.2 (CH p.2 x.2.2.1) zF).2.1.length:Int)=(x.2.2.2.length:Int)<;>simp [hl]
   ·have hr:(b || !(JS p fn x && r))=true:=by revert hb;cases b<;>cases r<;>simp
    simp only [cond_true,AA,hr]
theorem Wf (p:PROG) (hp:FineP p) (fn:Int) (k:Int) (nm:List ByteArray) (b:Bool) (hd:(0:Int)<AW p.1 k) (h12:(rd p.1 k zN).1≤12) (hnm:nm.length≤16000000):
 FX (p,(fn,(nm,b))) k=some ((p,(fn,(nm,b || !Aw p fn k nm))),()):=
 DC.2 ⟨k.toNat+1,fun n hn=>Xn p hp fn n k nm b hd h12 (by omega) hnm⟩
set_option maxRecDepth 100000
def MO (l:List NODE) (k:Int) (nm:List ByteArray):List ByteArray:=(rd l k zN).2.2.2.foldl (Dd l true) nm
theorem Rd (l:List NODE):∀ (ys:List Int) (nm:List ByteArray),(ys.foldl (Dd l true) nm).length≤nm.length+ys.length
 | [],nm=>Nat.le_refl _
 | y::ys,nm=>by
  have h1:=Rd l ys (Dd l true nm y)
  have h2:=On l true nm y
  simp only [List.foldl_cons,List.length_cons];omega
theorem Yu {α:Type} {l:List α} (h:l.length=1):∃ a,l=[a]:=by
 match l,h with
 | [a],_=>exact⟨a,rfl⟩
theorem pN {α:Type} {l:List α} (h:l.length=2):∃ a b,l=[a,b]:=by
 match l,h with
 | [a,b],_=>exact⟨a,b,rfl⟩
theorem jg {α:Type} {l:List α} (h:l.length=3):∃ a b c,l=[a,b,c]:=by
 match l,h with
 | [a,b,c],_=>exact⟨a,b,c,rfl⟩
theorem ip (p:PROG) (hp:FineP p) (fn:Int):∀ n:Nat,
 (∀ (k:Int) (nm:List ByteArray) (b:Bool),(0:Int)<AW p.1 k→(rd p.1 k zN).1=20→k.toNat<n→nm.length+12 * (k.toNat+1)≤16000000→(Ai n).1 (p,(fn,(nm,b))) k=some ((p,(fn,(MO p.1 k nm,b || !Aw p fn k nm))),())) ∧
 (∀ (k:Int) (nm:List ByteArray) (b:Bool),(0:Int)<AW p.1 k→(13≤(rd p.1 k zN).1∧(rd p.1 k zN).1≤19)→k.toNat<n→nm.length+12 * (k.toNat+1)≤16000000→(Ai n).2.1 (p,(fn,(nm,b))) k=some ((p,(fn,(Dd p.1 true nm k,b || !Aw p fn k nm))),()))
 | 0=>⟨fun _ _ _ _ _ h=>absurd h (by omega),fun _ _ _ _ _ h=>absurd h (by omega)⟩
 | n+1=>by
  obtain⟨ihB,ihS⟩:=ip p hp fn n;have hpn:=hp.n.len
  constructor
  ·intro k nm b hd h20 hn hb;have hk:=(Ae hd).1
   have hok:=(Ae hd).2.1
   have htw:=LE hok
   have hkid:=fun y hy=>@Dn p.1 k hd y hy
   have hstep:∀ i (hi:i<(rd p.1 k zN).2.2.2.length),13≤(rd p.1 (rd p.1 k zN).2.2.2[i] zN).1∧(rd p.1 (rd p.1 k zN).2.2.2[i] zN).1≤19:=fun i hi=>Zw (Tk hok hi) h20
   rw [SA p fn hd];show Gj (Ai n).1 (Ai n).2.1 (p,(fn,(nm,b))) k=_
   unfold Gj MO;have hidx:∀ {α:Type} {K:Option α},(Cnd.idx k (List.length p.1)).run K=K:=fun {α K}=>AU hk
   have hrd:rd p.1 k zN=rd p.1 k zN:=rfl
   generalize hx:rd p.1 k zN=x at h20 htw hkid hstep hrd ⊢;have hl:=Ao (step:=Cg (Ai n).1 (Ai n).2.1) x.2.2.2 (fun(c:List ByteArray×Bool) y=>(Dd p.1 true c.1 y,c.2 || !Aw p fn y c.1)) (fun i c=>(k,(i:Int),(p,(fn,(c.1,c.2))),())) (fun c=>((p,(fn,(c.1,c.2))),())) (fun i c=>c.1.length≤nm.length+i) (fun i hi c hc=>by
    obtain⟨k1,k2,k3⟩:=hkid _ (List.getElem_mem hi);have ih:=ihS x.2.2.2[i] c.1 c.2 k1 (hstep i hi) (by omega) (by omega)
    refine⟨?_,Nat.le_trans (On ..) (by omega)⟩
    simp only [Cg,hidx,hx,AR hi,decide_true,cond_true,AK hi,AP hi,ih,Option.bind_some,Option.map_some,AI (show i<9223372036854775807 by omega)]) (fun c _=>by
    simp only [Cg,hidx,hx,AJ,decide_false,cond_false,Option.map_some]) (nm,b) (Nat.le_refl _)
   have h1:=hl.1
   rw [QA (fun nm y=>Aw p fn y nm) (Dd p.1 true)] at h1;have h1':AD (Cg (Ai n).1 (Ai n).2.1) (k,(0:Int),(p,(fn,(nm,b))),())=_:=h1
   simp only [Option.bind_some,h1',AA,okH,h20,show CF 20=false from rfl,Bool.not_false,Bool.true_or,Bool.true_and,decide_true,show((20:Int)=12)=False from by decide,decide_false]
  ·intro k nm b hd hk13 hn hb;have hk:=(Ae hd).1
   have hok:=(Ae hd).2.1
   have hlen:=QM hok
   have hkid:=fun y hy=>@Dn p.1 k hd y hy
   have hfit:=fun i hi=>@Tk p.1 k hok i hi
   rw [SA p fn hd];show HK (Ai n).1 (Ai n).2.1 (p,(fn,(nm,b))) k=_
   unfold HK;rw [show Dd p.1 true nm k=bif decide ((rd p.1 k zN).1=13) then nm++[(rd p.1 k zN).2.2.1] else nm from rfl];rw [AU (show 0≤k∧k<((List.length (p,(fn,(nm,b))).1.1:Nat):Int) from hk)];generalize rd p.1 k zN=x at hk13 hlen hkid hfit ⊢;have h20:¬ x.1=20:=by omega
   have h12:¬ x.1=12:=by omega
   have hpos:0<x.2.2.2.length:=by
    have:(kr x.1).1≥1:=by
     have hc:x.1=13∨x.1=14∨x.1=15∨x.1=16∨x.1=17∨x.1=18∨x.1=19:=by omega
     rcases hc with h | h | h | h | h | h | h<;>rw [h]<;>decide
    omega
   obtain⟨k1,k2,k3⟩:=hkid _ (List.getElem_mem hpos);have hv:=Vn (hfit 0 hpos) (by omega) (by simp)
   have hval:=Wf p hp fn x.2.2.2[0] nm b k1 hv.2 (by omega)
   have hT:=aO nm x.2.2.1 (by omega)
   rw [show(Cnd.idx (0:Int) x.2.2.2.length).run _=_ from AK (k:=0) hpos,show rd x.2.2.2 (0:Int) (0:Int)=x.2.2.2[0] from AP (k:=0) hpos];simp only [hval,Option.bind_some,okH,decide_eq_false h20,decide_eq_false h12,Bool.not_false,Bool.true_or,Bool.and_true];have one:∀ y,(BZ (fun nm y=>Aw p fn y nm) (Dd p.1 false) [y] nm).isSome=Aw p fn y nm:=fun y=>by
    simp only [BZ];cases Aw p fn y nm<;>rfl
   have hcase:x.1=13∨x.1=14∨x.1=15∨x.1=16∨x.1=17∨(x.1=18∨x.1=19):=by omega
   rcases hcase with h | h | h | h | h | h
   ·rw [h] at hlen;obtain⟨y,hy⟩:=Yu (l:=x.2.2.2) (by have:kr 13=(1,1):=rfl;rw [this] at hlen;simp at hlen;omega);simp only [hy,one];simp only [h,decide_true,decide_false,cond_true,cond_false,AA,Int.reduceEq,show CF 13=false from rfl,Bool.not_false,Bool.true_or,Bool.true_and];rw [Am (by simp;omega),Am (by simp;omega)];simp only [AA,List.nil_append,List.getElem_cons_zero]
   ·rw [h] at hlen;obtain⟨y,hy⟩:=Yu (l:=x.2.2.2) (by have:kr 14=(1,1):=rfl;rw [this] at hlen;simp at hlen;omega);simp only [hy,one];simp only [h,decide_true,decide_false,cond_true,cond_false,AA,Int.reduceEq,show CF 14=true from rfl,Bool.not_true,Bool.false_or,List.getElem_cons_zero,hT,Option.bind_some];cases b<;>cases Aw p fn y nm<;>cases LK nm x.2.2.1<;>rfl
   ·rw [h] at hlen;obtain⟨y,hy⟩:=Yu (l:=x.2.2.2) (by have:kr 15=(1,1):=rfl;rw [this] at hlen;simp at hlen;omega);simp only [hy,one];simp only [h,decide_true,decide_false,cond_true,cond_false,AA,Int.reduceEq,show CF 15=true from rfl,Bool.not_true,Bool.false_or,List.getElem_cons_zero,hT,Option.bind_some];cases b<;>cases Aw p fn y nm<;>cases LK nm x.2.2.1<;>rfl
   ·rw [h] at hlen;have hl3:x.2.2.2.length=3:=by have:kr 16=(3,3):=rfl;rw [this] at hlen;simp at hlen;omega
    have hb1:=ihB x.2.2.2[1] nm (b || !Aw p fn x.2.2.2[0] nm) (hkid _ (List.getElem_mem (by omega))).1 (Re (hfit 1 (by omega)) (.inl h) (by decide)) (by have:=hkid _ (List.getElem_mem (show 1<x.2.2.2.length by omega));omega) (by have:=hkid _ (List.getElem_mem (show 1<x.2.2.2.length by omega));omega)
    have hb2:=ihB x.2.2.2[2] nm (b || !Aw p fn x.2.2.2[0] nm || !Aw p fn x.2.2.2[1] nm) (hkid _ (List.getElem_mem (by omega))).1 (Re (hfit 2 (by omega)) (.inl h) (by decide)) (by have:=hkid _ (List.getElem_mem (show 2<x.2.2.2.length by omega));omega) (by have:=hkid _ (List.getElem_mem (show 2<x.2.2.2.length by omega));omega)
    have hl:AD (BW (Ai n).1 (Ai n).2.1) ((1:Int),(p,(fn,(nm,b || !Aw p fn x.2.2.2[0] nm))),x,())=some ((p,(fn,(nm,b || !Aw p fn x.2.2.2[0] nm || !Aw p fn x.2.2.2[1] nm || !Aw p fn x.2.2.2[2] nm))),()):=by
     rw [BF (b':=(((2:Nat):Int),(p,(fn,(nm,b || !Aw p fn x.2.2.2[0] nm || !Aw p fn x.2.2.2[1] nm))),x,())) (by
      have a1:((1:Nat):Int)<(x.2.2.2.length:Int):=by omega
      have:=AK (α:=Dm ⊕ (ie×Unit)) (k:=1) (n:=x.2.2.2.length) (by omega) (K:=some (.inl (((2:Nat):Int),(p,(fn,(nm,b || !Aw p fn x.2.2.2[0] nm || !Aw p fn x.2.2.2[1] nm))),x,())))
      simp only [BW,show(1:Int)<(x.2.2.2.length:Int) from a1,decide_true,cond_true,show rd x.2.2.2 (1:Int) (0:Int)=x.2.2.2[1] from AP (k:=1) (by omega),hb1,Option.bind_some,Option.map_some];exact this)]
     rw [BF (b':=(((3:Nat):Int),(p,(fn,(nm,b || !Aw p fn x.2.2.2[0] nm || !Aw p fn x.2.2.2[1] nm || !Aw p fn x.2.2.2[2] nm))),x,())) (by
      simp only [BW,AR (show 2<x.2.2.2.length by omega),decide_true,cond_true,AK (show 2<x.2.2.2.length by omega),AP (show 2<x.2.2.2.length by omega),hb2,Option.bind_some,Option.map_some];rfl)]
     refine Ay ?_
     simp only [BW,show ¬ (((3:Nat):Int)<(x.2.2.2.length:Int)) by omega,decide_false,cond_false,Option.map_some]
    simp only [h,decide_true,decide_false,cond_true,cond_false,AA,Int.reduceEq,show CF 16=false from rfl,Bool.not_false,Bool.true_or,Bool.true_and,Option.bind_some,hl,Bool.false_and];obtain⟨y0,y1,y2,hy⟩:=jg hl3;simp only [hy,List.getElem_cons_zero,List.getElem_cons_succ,BZ,Oo];cases b<;>cases Aw p fn y0 nm<;>cases Aw p fn y1 nm<;>cases Aw p fn y2 nm<;>rfl
   ·rw [h] at hlen;have hl2:x.2.2.2.length=2:=by have:kr 17=(2,2):=rfl;rw [this] at hlen;simp at hlen;omega
    have hb1:=ihB x.2.2.2[1] nm (b || !Aw p fn x.2.2.2[0] nm) (hkid _ (List.getElem_mem (by omega))).1 (Re (hfit 1 (by omega)) (.inr h) (by decide)) (by have:=hkid _ (List.getElem_mem (show 1<x.2.2.2.length by omega));omega) (by have:=hkid _ (List.getElem_mem (show 1<x.2.2.2.length by omega));omega)
    have hl:AD (BW (Ai n).1 (Ai n).2.1) ((1:Int),(p,(fn,(nm,b || !Aw p fn x.2.2.2[0] nm))),x,())=some ((p,(fn,(nm,b || !Aw p fn x.2.2.2[0] nm || !Aw p fn x.2.2.2[1] nm))),()):=by
     rw [BF (b':=(((2:Nat):Int),(p,(fn,(nm,b || !Aw p fn x.2.2.2[0] nm || !Aw p fn x.2.2.2[1] nm))),x,())) (by
      have a1:((1:Nat):Int)<(x.2.2.2.length:Int):=by omega
      have:=AK (α:=Dm ⊕ (ie×Unit)) (k:=1) (n:=x.2.2.2.length) (by omega) (K:=some (.inl (((2:Nat):Int),(p,(fn,(nm,b || !Aw p fn x.2.2.2[0] nm || !Aw p fn x.2.2.2[1] nm))),x,())))
      simp only [BW,show(1:Int)<(x.2.2.2.length:Int) from a1,decide_true,cond_true,show rd x.2.2.2 (1:Int) (0:Int)=x.2.2.2[1] from AP (k:=1) (by omega),hb1,Option.bind_some,Option.map_some];exact this)]
     refine Ay ?_
     simp only [BW,show ¬ (((2:Nat):Int)<(x.2.2.2.length:Int)) by omega,decide_false,cond_false,Option.map_some]
    simp only [h,decide_true,decide_false,cond_true,cond_false,AA,Int.reduceEq,show CF 17=false from rfl,Bool.not_false,Bool.true_or,Bool.true_and,Option.bind_some,hl,Bool.false_and];obtain⟨y0,y1,hy⟩:=pN hl2;simp only [hy,List.getElem_cons_zero,List.getElem_cons_succ,BZ,Oo];cases b<;>cases Aw p fn y0 nm<;>cases Aw p fn y1 nm<;>rfl
   ·have hu:CF x.1=false:=by simp only [CF,Bool.or_eq_false_iff,decide_eq_false_iff_not];omega
    obtain⟨y,hy⟩:=Yu (l:=x.2.2.2) (by
     rcases h with h | h<;>rw [h] at hlen
     ·have:kr 18=(1,1):=rfl;rw [this] at hlen;simp at hlen;omega
     ·have:kr 19=(1,1):=rfl;rw [this] at hlen;simp at hlen;omega)
    simp only [hy,one,hu];simp only [show ¬ x.1=13 by omega,show ¬ x.1=14 by omega,show ¬ x.1=15 by omega,show ¬ x.1=16 by omega,show ¬ x.1=17 by omega,decide_false,cond_false,AA,Bool.not_false,Bool.true_or,Bool.true_and,List.getElem_cons_zero,Bool.false_and,Bool.and_false]
theorem bw (p:PROG) (hp:FineP p) (fn:Int) (k:Int) (nm:List ByteArray) (b:Bool) (hd:(0:Int)<AW p.1 k) (h20:(rd p.1 k zN).1=20) (hnm:nm.length≤2000000):
 Hw (p,(fn,(nm,b))) k=some ((p,(fn,(MO p.1 k nm,b || !Aw p fn k nm))),()):=by
 have hk:=(Ae hd).1
 have hkn:=hp.n.len
 exact DC.2 ⟨k.toNat+1,fun n hn=>(ip p hp fn n).1 k nm b hd h20 (by omega) (by omega)⟩
set_option maxRecDepth 100000
def PT (l:List VAR) (s:ByteArray):Int:=match l.findIdx? (fun v=>decide (v.1=s)) with
 | some i=>(i:Int)
 | none=>-1
theorem Uo (l:List VAR) (hl:l.length≤2097152) (s:ByteArray):Lk l s=some (PT l s,()):=by
 have h:=Lc (step:=Gs) l (fun v=>decide (v.1=s)) (fun k=>(l,s,(k:Int),())) (fun k=>.inr ((k:Int),())) (.inl ()) (fun k hk=>by
  simp only [Gs,AR hk,decide_true,cond_true,AK hk,AP hk,AI (show k<9223372036854775807 by omega)];cases decide (l[k].1=s)<;>rfl) (by
  simp only [Gs,AJ,decide_false,cond_false,Option.map_some])
 have h':AD Gs (l,s,(0:Int),())=_:=h
 simp only [Lk,Option.bind_some,h',PT];cases l.findIdx? fun v=>decide (v.1=s)<;>rfl
theorem Uk (l:List VAR) (hl:l.length≤2097152) (s:ByteArray):LX l s=some (PT l s,()):=by
 have h:=Lc (step:=Gn) l (fun v=>decide (v.1=s)) (fun k=>(s,l,(l.length:Int),(k:Int),())) (fun k=>.inr ((k:Int),())) (.inl ()) (fun k hk=>by
  simp only [Gn,AR hk,decide_true,cond_true,AK hk,AP hk,AI (show k<9223372036854775807 by omega)];cases decide (l[k].1=s)<;>rfl) (by
  simp only [Gn,AJ,decide_false,cond_false,Option.map_some])
 have h':AD Gn (s,l,(l.length:Int),(0:Int),())=_:=h
 simp only [LX,Option.bind_some,h',PT];cases l.findIdx? fun v=>decide (v.1=s)<;>rfl
def Tl (l:List VAR) (k:Nat):Bool:=decide (PT l (rd l (k:Int) zV).1=(k:Int))
def OT (l:List VAR):Bool:=(List.range l.length).all (Tl l)
theorem SV (p:PROG) (hp:FineP p) (i:Int):Jf p i=some (OT (BR p i),()):=by
 have hl:=Ml hp i
 unfold Jf;rw [QD p hp,Option.bind_some];generalize BR p i=l at hl ⊢;have h:=Br (step:=Ew) (List.range l.length) (Tl l) (fun k=>(l,l,(l.length:Int),(k:Int),())) (.inl ()) (.inr (false,())) (fun k hk=>by
  have hk':k<l.length:=by simpa using hk
  simp only [Ew,AR hk',decide_true,cond_true,AK hk',Uk l hl,Option.bind_some,List.getElem_range,Tl,AI (show k<9223372036854775807 by omega)]
  by_cases hc:PT l (rd l (k:Int) zV).1=(k:Int)
  ·simp only [hc,ne_eq,not_true_eq_false,decide_false,decide_true,cond_false,cond_true,Option.map_some]
  ·simp only [hc,ne_eq,not_false_eq_true,decide_false,decide_true,cond_false,cond_true,Option.map_some]) (by
  simp only [Ew,List.length_range,AJ,decide_false,cond_false,Option.map_some])
 have h':AD Ew (l,l,(l.length:Int),(0:Int),())=_:=h
 simp only [Option.bind_some,h',OT];cases (List.range l.length).all (Tl l)<;>rfl
def Fb (x:FN):List ByteArray:=x.2.1.map fun a=>a.1
def nrF (p:PROG) (i:Nat):Bool:=OT (BR p (i:Int)) && (Aw p (i:Int) (rd p.2 (i:Int) zF).2.2.2.1 (Fb (rd p.2 (i:Int) zF)) && (bif decide (0≤(rd p.2 (i:Int) zF).2.2.2.2) then Aw p (i:Int) (rd p.2 (i:Int) zF).2.2.2.2 (MO p.1 (rd p.2 (i:Int) zF).2.2.2.1 (Fb (rd p.2 (i:Int) zF))) else true))
def BX (p:PROG):Bool:=De p && (List.range p.2.length).all (nrF p)
structure POK (p:PROG):Prop where
 n:AllN p.1
 f:Po p=true
 l:p.1.length≤300
 m:p.2.length≤8
theorem OW {p:PROG} (h:De p=true):POK p:=by
 simp only [De,Bool.and_eq_true,decide_eq_true_eq] at h;exact⟨TU h.2.2.1,h.2.2.2.1,by omega,by omega⟩
theorem POK.deep {p:PROG} (h:POK p) {k:Int} (hk:0≤k∧k<(p.1.length:Int)):(0:Int)<AW p.1 k:=by
 obtain⟨m,rfl⟩:∃ m:Nat,k=(m:Int):=⟨k.toNat,by omega⟩
 have h1:=(h.n m (by omega)).2
 refine NV ?_
 unfold AW;rw [decide_eq_true (by omega),cond_true];exact h1
structure FnIs (p:PROG) (i:Nat) (x:FN):Prop where
 par:x.2.1.length≤3
 bd:(0:Int)<AW p.1 x.2.2.2.1
 bk:(rd p.1 x.2.2.2.1 zN).1=20
 rt:0≤x.2.2.2.2→(0:Int)<AW p.1 x.2.2.2.2∧(rd p.1 x.2.2.2.2 zN).1≤12
 rm:-1≤x.2.2.2.2
theorem POK.fn {p:PROG} (h:POK p) {i:Nat} (hi:i<p.2.length):FnIs p i (rd p.2 (i:Int) zF):=by
 have h1:=List.all_eq_true.1 h.f i (by simpa using hi)
 simp only [Hg,fnI,Bool.and_eq_true,decide_eq_true_eq,Pr] at h1;obtain⟨⟨_,h2,_,_,⟨h3,h4⟩,h5⟩,_⟩:=h1;refine⟨by omega,h.deep (by omega),h4,fun h6=>?_,?_⟩
 ·unfold Ql at h5
  by_cases hz:(rd p.2 (i:Int) zF).2.2.1=0
  ·rw [decide_eq_true hz,cond_true,decide_eq_true_eq] at h5;omega
  ·rw [decide_eq_false hz,cond_false,Bool.and_eq_true,decide_eq_true_eq,decide_eq_true_eq] at h5;exact⟨h.deep (by omega),by omega⟩
 ·unfold Ql at h5
  by_cases hz:(rd p.2 (i:Int) zF).2.2.1=0
  ·rw [decide_eq_true hz,cond_true,decide_eq_true_eq] at h5;omega
  ·rw [decide_eq_false hz,cond_false,Bool.and_eq_true,decide_eq_true_eq,decide_eq_true_eq] at h5;omega
theorem Yz (p:PROG) (hp:FineP p) (i:Int) (l:List VAR) (hl:l.length≤2097152):AD DU (i,l,(0:Int),p,())=some (bif OT l then .inl (i,p,()) else .inr (.inr (.inr (.inr (false,()))))):=by
 have h:=Br (step:=DU) (List.range l.length) (Tl l) (fun k=>(i,l,(k:Int),p,())) (.inl (i,p,())) (.inr (.inr (.inr (.inr (false,()))))) (fun k hk=>by
  have hk':k<l.length:=by simpa using hk
  simp only [DU,AR hk',decide_true,cond_true,AK hk',Uo l hl,Option.bind_some,List.getElem_range,Tl,AI (show k<9223372036854775807 by omega)]
  by_cases hc:PT l (rd l (k:Int) zV).1=(k:Int)
  ·simp only [hc,ne_eq,not_true_eq_false,decide_false,decide_true,cond_false,cond_true,Option.map_some]
  ·simp only [hc,ne_eq,not_false_eq_true,decide_false,decide_true,cond_false,cond_true,Option.map_some]) (by
  simp only [DU,List.length_range,AJ,decide_false,cond_false,Option.map_some])
 exact h
theorem ZB (p:PROG) (i:Nat) (hi:i<p.2.length) (x:FN) (hx:rd p.2 (i:Int) zF=x) (hl:x.2.1.length≤1048576):AD DY ((i:Int),(0:Int),p,(p,((i:Int),([],false))),())=some ((i:Int),p,(p,((i:Int),(Fb x,false))),()):=by
 have h:=FO (step:=DY) x.2.1 (fun a=>a.1) (fun k o=>((i:Int),(k:Int),p,(p,((i:Int),(o,false))),())) (fun o=>((i:Int),p,(p,((i:Int),(o,false))),())) (fun k hk o ho=>by
  simp only [DY,AK hi,hx,AR hk,decide_true,cond_true,AK hk,AP hk];rw [Am (by simp;omega)];simp only [Option.map_some,AI (show k<9223372036854775807 by omega)]) (fun o ho=>by
  simp only [DY,AK hi,hx,AJ,decide_false,cond_false,Option.map_some])
 exact h
theorem WD (x:FN):(Fb x).length=x.2.1.length:=by simp [Fb]
theorem Pi (p:PROG) (hp:FineP p):FR p=some (BX p,()):=by
 unfold FR BX;rw [Mf p hp,Option.bind_some];cases hok:De p
 ·simp only [Bool.not_false,cond_true,Bool.false_and]
 have P:=OW hok
 have hn:=P.m
 have hnn:=P.l
 have h:=Br (step:=Db) (List.range p.2.length) (nrF p) (fun i=>((i:Int),p,())) (.inl ()) (.inr (false,())) (fun i hi=>by
  have hi':i<p.2.length:=by simpa using hi
  have F:=P.fn hi'
  simp only [Db,AR hi',decide_true,cond_true,QT p hp,Option.bind_some,Yz p hp (i:Int) _ (Ml hp _),List.getElem_range,nrF];cases OT (BR p (i:Int))
  ·simp only [cond_false,Bool.false_and,Av]
  ·generalize hx:rd p.2 (i:Int) zF=x at F ⊢;have hpl:=WD x
   have hpar:=F.par
   have hpS:=ZB p i hi' x hx (by omega)
   have hbl:=bw p hp (i:Int) x.2.2.2.1 (Fb x) false F.bd F.bk (by omega)
   simp only [cond_true,BE,hpS,AA,AK hi',hx,hbl,Option.bind_some,Bool.false_or,Bool.true_and]
   by_cases hr:0≤x.2.2.2.2
   ·obtain⟨r1,r2⟩:=F.rt hr;have hel:=Rd p.1 (rd p.1 x.2.2.2.1 zN).2.2.2 (Fb x)
    have htw:=LE (Ae F.bd).2.1
    have hv:=Wf p hp (i:Int) x.2.2.2.2 (MO p.1 x.2.2.2.1 (Fb x)) (!Aw p (i:Int) x.2.2.2.1 (Fb x)) r1 r2 (by unfold MO;omega)
    simp only [hr,decide_true,cond_true,hv,Option.bind_some,AA];cases Aw p (i:Int) x.2.2.2.1 (Fb x)<;>cases Aw p (i:Int) x.2.2.2.2 (MO p.1 x.2.2.2.1 (Fb x))<;>simp only [Bool.not_true,Bool.not_false,Bool.or_false,Bool.or_true,Bool.true_or,Bool.false_or,Bool.true_and,Bool.false_and,cond_true,cond_false,Option.map_some,Av,BE,AI (show i<9223372036854775807 by omega)]
   ·simp only [hr,decide_false,cond_false,AA];cases Aw p (i:Int) x.2.2.2.1 (Fb x)<;>simp only [Bool.not_true,Bool.not_false,Bool.and_true,Bool.true_and,Bool.false_and,cond_true,cond_false,Option.map_some,Av,BE,AI (show i<9223372036854775807 by omega)]) (by
  simp only [Db,List.length_range,AJ,decide_false,cond_false,Option.map_some])
 have h':AD Db ((0:Int),p,())=_:=h
 simp only [Bool.not_true,cond_false,Option.bind_some,h',Bool.true_and];cases (List.range p.2.length).all (nrF p)<;>rfl
theorem ZA (p:PROG) (fs:List FN) (i n k:Int) (y:List (ByteArray×Int)) (x:FN) (hl:y.length≤1048576):AD Cf (i,[],fs,n,k,y,(y.length:Int),(0:Int),p,x,())=some (i,y.map (fun a=>a.1),fs,n,k,p,x,()):=by
 have h:=FO (step:=Cf) y (fun a=>a.1) (fun j o=>(i,o,fs,n,k,y,(y.length:Int),(j:Int),p,x,())) (fun o=>(i,o,fs,n,k,p,x,())) (fun j hj o ho=>by
  simp only [Cf,AR hj,decide_true,cond_true,AK hj,AP hj];rw [Am (by simp;omega)];simp only [Option.map_some,AI (show j<9223372036854775807 by omega)]) (fun o ho=>by
  simp only [Cf,AJ,decide_false,cond_false,Option.map_some])
 exact h
theorem Yy (p:PROG) (fs:List FN) (i n k:Int) (ys:List Int) (x:FN) (nm:List ByteArray) (hnm:nm.length≤2000000) (hl:ys.length≤12) (hy:∀ y∈ys,0≤y∧y<(p.1.length:Int)):
 AD Ci (i,nm,fs,n,k,ys,(ys.length:Int),(0:Int),p,x,())=some (i,ys.foldl (Dd p.1 true) nm,fs,n,k,p,x,()):=by
 have h:=Ao (step:=Ci) ys (Dd p.1 true) (fun j o=>(i,o,fs,n,k,ys,(ys.length:Int),(j:Int),p,x,())) (fun o=>(i,o,fs,n,k,p,x,())) (fun j o=>o.length≤2000000+j) (fun j hj o ho=>by
  refine⟨?_,Nat.le_trans (On ..) (by omega)⟩
  simp only [Ci,AR hj,decide_true,cond_true,AK hj,AP hj,AU (hy _ (List.getElem_mem hj)),Dd,Gc,Bool.true_and];cases decide ((rd p.1 ys[j] zN).1=13)
  ·simp only [cond_false,AA,Option.map_some,AI (show j<9223372036854775807 by omega)]
  ·simp only [cond_true];rw [Am (by simp;omega)];simp only [AA,Option.map_some,AI (show j<9223372036854775807 by omega)]) (fun o ho=>by
  simp only [Ci,AJ,decide_false,cond_false,Option.map_some]) nm (by omega)
 exact h.1
theorem Pb (p:PROG) (hp:FineP p):FK p=some (BX p,()):=by
 unfold FK BX;rw [Vt p hp,Option.bind_some];cases hok:De p
 ·simp only [Bool.not_false,cond_true,Bool.false_and]
 have P:=OW hok
 have hn:=P.m
 have hnn:=P.l
 have h:=Br (step:=Da) (List.range p.2.length) (nrF p) (fun i=>(p.2,(p.2.length:Int),(i:Int),p,())) (.inl ()) (.inr (false,())) (fun i hi=>by
  have hi':i<p.2.length:=by simpa using hi
  have F:=P.fn hi'
  simp only [Da,AR hi',decide_true,cond_true,AK hi',SV p hp,Option.bind_some,List.getElem_range,nrF];cases OT (BR p (i:Int))
  ·simp only [Bool.not_false,cond_true,cond_false,Bool.false_and,Option.map_some,Av]
  ·have hx0:rd p.2 (i:Int) Z6=rd p.2 (i:Int) zF:=rfl
   generalize hx:rd p.2 (i:Int) zF=x at F hx0 ⊢;have hpl:=WD x
   have hpar:=F.par
   have hpI:=ZA p p.2 (i:Int) (p.2.length:Int) (i:Int) x.2.1 x (by omega)
   have hse:=QC p hp (i:Int) (by omega) x.2.2.2.1 (Fb x) F.bd (by omega)
   have htw:=LE (Ae F.bd).2.1
   have hlI:=Yy p p.2 (i:Int) (p.2.length:Int) (i:Int) (rd p.1 x.2.2.2.1 zN).2.2.2 x (Fb x) (by omega) htw (fun y hy=>by
    have:=Dn F.bd hy
    have:=(Ae F.bd).1
    omega)
   have hel:=Rd p.1 (rd p.1 x.2.2.2.1 zN).2.2.2 (Fb x)
   have hpI':AD Cf ((i:Int),[],p.2,(p.2.length:Int),(i:Int),x.2.1,(x.2.1.length:Int),(0:Int),p,x,())=some ((i:Int),Fb x,p.2,(p.2.length:Int),(i:Int),p,x,()):=hpI
   have hlI':AD Ci ((i:Int),Fb x,p.2,(p.2.length:Int),(i:Int),(rd p.1 x.2.2.2.1 zN).2.2.2,((rd p.1 x.2.2.2.1 zN).2.2.2.length:Int),(0:Int),p,x,())=some ((i:Int),MO p.1 x.2.2.2.1 (Fb x),p.2,(p.2.length:Int),(i:Int),p,x,()):=hlI
   simp only [Bool.not_true,cond_true,cond_false,hx,hpI',AA,hse,Option.bind_some,Bool.true_and];cases Aw p (i:Int) x.2.2.2.1 (Fb x)
   ·simp only [Bool.not_false,cond_true,cond_false,Bool.false_and,Option.map_some,Av]
   ·simp only [Bool.not_true,cond_false,AU (Ae F.bd).1,hlI',AA,Bool.true_and]
    by_cases hr:0≤x.2.2.2.2
    ·obtain⟨r1,r2⟩:=F.rt hr;have hs2:=QC p hp (i:Int) (by omega) x.2.2.2.2 (MO p.1 x.2.2.2.1 (Fb x)) r1 (by unfold MO;omega)
     simp only [hr,decide_true,cond_true,hs2,Option.bind_some,AA];cases Aw p (i:Int) x.2.2.2.2 (MO p.1 x.2.2.2.1 (Fb x))<;>simp only [Bool.not_true,Bool.not_false,cond_true,cond_false,Option.map_some,Av,BE,AI (show i<9223372036854775807 by omega)]
    ·simp only [hr,decide_false,cond_false,cond_true,AA,Option.map_some,BE,AI (show i<9223372036854775807 by omega)]) (by
  simp only [Da,List.length_range,AJ,decide_false,cond_false,Option.map_some])
 have h':AD Da (p.2,(p.2.length:Int),(0:Int),p,())=_:=h
 simp only [Bool.not_true,cond_false,Option.bind_some,h',Bool.true_and];cases (List.range p.2.length).all (nrF p)<;>rfl
set_option maxRecDepth 100000
theorem XK {α:Type} {f g:α→Bool}:∀ {l:List α},(∀ x∈l,f x=g x)→l.all f=l.all g
 | [],_=>rfl
 | x::l,h=>by rw [List.all_cons,List.all_cons,h x (List.mem_cons_self ..),XK fun y hy=>h y (List.mem_cons_of_mem _ hy)]
def Ov (x y:NODE):Bool:=decide (x.1=y.1) && (decide (x.2.1=y.2.1) && (decide (x.2.2.1=y.2.2.1) && decide ((x.2.2.2.length:Int)=(y.2.2.2.length:Int))))
def same (p q:List NODE):Nat→Int→Int→Bool
 | 0,_,_=>false
 | f+1,a,b=>Ov (rd p a zN) (rd q b zN) && (List.range (rd p a zN).2.2.2.length).all fun i=>same p q f ((rd p a zN).2.2.2.getD i 0) ((rd q b zN).2.2.2.getD i 0)
theorem aL {l:List NODE} {a:Int} (h:0≤a∧a<(l.length:Int)) (hl:FineN l):(rd l a zN).2.2.2.length≤1048576:=by
 obtain⟨k,rfl⟩:∃ m:Nat,a=(m:Int):=⟨a.toNat,by omega⟩
 have hk:k<l.length:=by omega
 rw [AP hk];exact hl.kid _ (List.getElem_mem hk)
theorem Bm {p:List NODE} {a:Int} (h:(0:Int)<AW p a) {i:Nat} (hi:i<(rd p a zN).2.2.2.length):(0:Int)<AW p ((rd p a zN).2.2.2.getD i 0)∧0≤(rd p a zN).2.2.2.getD i 0∧(rd p a zN).2.2.2.getD i 0<a:=by
 obtain⟨h1,h2,h3⟩:=Ae h;have h4:=Sc h2 hi
 have e:(rd p a zN).2.2.2.getD i 0=(rd p a zN).2.2.2[i]:=by
  generalize rd p a zN=x at hi ⊢;simp [hi]
 rw [e];exact⟨h3 _ h4.1 (by omega),h4⟩
theorem QS (p q:List NODE):∀ (f g:Nat) (a b:Int),(0:Int)<AW p a→a.toNat<f→a.toNat<g→same p q f a b=same p q g a b
 | 0,_,_,_,_,h,_=>absurd h (by omega)
 | _+1,0,_,_,_,_,h=>absurd h (by omega)
 | f+1,g+1,a,b,hd,hf,hg=>by
  simp only [same]
  congr 1
  refine XK fun i hi=>?_
  have hi:i<(rd p a zN).2.2.2.length:=by simpa using hi
  obtain⟨k1,k2,k3⟩:=Bm hd hi;exact QS p q f g _ _ k1 (by omega) (by omega)
theorem aB {α:Type} (x y:NODE) (K:Bool→α):(bif decide (x.1≠y.1) then K true else bif decide (x.2.1≠y.2.1) then K true else bif decide (x.2.2.1≠y.2.2.1) then K true else K (decide ((x.2.2.2.length:Int)≠(y.2.2.2.length:Int))))=K (!Ov x y):=by
 unfold Ov
 by_cases h1:x.1=y.1
 ·by_cases h2:x.2.1=y.2.1
  ·by_cases h3:x.2.2.1=y.2.2.1
   ·by_cases h4:(x.2.2.2.length:Int)=(y.2.2.2.length:Int)
    ·simp only [h1,h2,h3,h4,ne_eq,not_true_eq_false,decide_false,decide_true,cond_false,Bool.and_self,Bool.not_true]
    ·simp only [h1,h2,h3,h4,ne_eq,not_true_eq_false,not_false_eq_true,decide_false,decide_true,cond_false,Bool.and_false,Bool.not_false]
   ·simp only [h1,h2,h3,ne_eq,not_true_eq_false,not_false_eq_true,decide_false,decide_true,cond_true,cond_false,Bool.and_false,Bool.false_and,Bool.not_false]
  ·simp only [h1,h2,ne_eq,not_true_eq_false,not_false_eq_true,decide_false,decide_true,cond_true,cond_false,Bool.and_false,Bool.false_and,Bool.not_false]
 ·simp only [h1,ne_eq,not_false_eq_true,decide_false,decide_true,cond_true,Bool.false_and,Bool.not_false]
theorem Vs {x y:NODE} (h:Ov x y=true):x.2.2.2.length=y.2.2.2.length:=by
 simp only [Ov,Bool.and_eq_true,decide_eq_true_eq] at h;omega
theorem ZK (r:List NODE→Int→List NODE→Int→Option (Bool×Unit)) (p q:List NODE) (a b:Int) (ha:0≤a∧a<(p.length:Int)) (hb:0≤b∧b<(q.length:Int)) (hp:FineN p) (v:Nat→Bool)
 (hr:∀ i,i<(rd p a zN).2.2.2.length→i<(rd q b zN).2.2.2.length→r p ((rd p a zN).2.2.2.getD i 0) q ((rd q b zN).2.2.2.getD i 0)=some (v i,())):
 Kg r p a q b=some (Ov (rd p a zN) (rd q b zN) && (List.range (rd p a zN).2.2.2.length).all v,()):=by
 have hx:=aL ha hp
 unfold Kg;rw [AU ha,AU hb];generalize rd p a zN=x at hx hr ⊢;generalize rd q b zN=y at hr ⊢;have hc:=aB x y (fun t=>some (p,q,t,x,y,()))
 rw [hc,AA];cases hh:Ov x y
 ·simp only [Bool.not_false,cond_true,Bool.false_and]
 have hlen:=Vs hh
 have h:=Br (step:=FF r) (List.range x.2.2.2.length) v (fun i=>(p,q,(i:Int),x,y,())) (.inl ()) (.inr (false,())) (fun i hi=>by
  have hi':i<x.2.2.2.length:=by simpa using hi
  have hj:i<y.2.2.2.length:=by omega
  have h1:=hr i hi' hj
  have e1:rd x.2.2.2 (i:Int) (0:Int)=x.2.2.2.getD i 0:=rfl
  have e2:rd y.2.2.2 (i:Int) (0:Int)=y.2.2.2.getD i 0:=rfl
  simp only [FF,AR hi',decide_true,cond_true,AK hi',AK hj,e1,e2,h1,Option.bind_some,List.getElem_range,AI (show i<9223372036854775807 by omega)];cases v i<;>simp only [Bool.not_true,Bool.not_false,cond_true,cond_false,Option.map_some]) (by
  rw [List.length_range];simp only [FF,AJ,decide_false,cond_false,Option.map_some])
 have h':AD (FF r) (p,q,(0:Int),x,y,())=_:=h
 simp only [Bool.not_true,cond_false,Option.bind_some,h',Bool.true_and];cases (List.range x.2.2.2.length).all v<;>simp only [cond_true,cond_false,BE,Av]
theorem ZJ (r:PROG→Int→PROG→Int→Option (Bool×Unit)) (p q:PROG) (a b:Int) (ha:0≤a∧a<(p.1.length:Int)) (hb:0≤b∧b<(q.1.length:Int)) (hp:FineN p.1) (v:Nat→Bool)
 (hr:∀ i,i<(rd p.1 a zN).2.2.2.length→i<(rd q.1 b zN).2.2.2.length→r p ((rd p.1 a zN).2.2.2.getD i 0) q ((rd q.1 b zN).2.2.2.getD i 0)=some (v i,())):
 Jg r p a q b=some (Ov (rd p.1 a zN) (rd q.1 b zN) && (List.range (rd p.1 a zN).2.2.2.length).all v,()):=by
 have hx:=aL ha hp
 unfold Jg;rw [AU ha,AU hb];generalize rd p.1 a zN=x at hx hr ⊢;generalize rd q.1 b zN=y at hr ⊢;have hc:=aB x y (fun t=>some (t,p,q,x,y,()))
 rw [hc,AA];cases hh:Ov x y
 ·simp only [Bool.not_false,cond_true,Bool.false_and]
 have hlen:=Vs hh
 have h:=Br (step:=EW r) (List.range x.2.2.2.length) v (fun i=>((x.2.2.2.length:Int),(i:Int),p,q,x,y,())) (.inl ()) (.inr (false,())) (fun i hi=>by
  have hi':i<x.2.2.2.length:=by simpa using hi
  have hj:i<y.2.2.2.length:=by omega
  have h1:=hr i hi' hj
  have e1:rd x.2.2.2 (i:Int) (0:Int)=x.2.2.2.getD i 0:=rfl
  have e2:rd y.2.2.2 (i:Int) (0:Int)=y.2.2.2.getD i 0:=rfl
  simp only [EW,AR hi',decide_true,cond_true,AK hi',AK hj,e1,e2,h1,Option.bind_some,List.getElem_range,AI (show i<9223372036854775807 by omega)];cases v i<;>simp only [Bool.not_true,Bool.not_false,cond_true,cond_false,Option.map_some]) (by
  rw [List.length_range];simp only [EW,AJ,decide_false,cond_false,Option.map_some])
 have h':AD (EW r) ((x.2.2.2.length:Int),(0:Int),p,q,x,y,())=_:=h
 simp only [Bool.not_true,cond_false,Option.bind_some,h',Bool.true_and];cases (List.range x.2.2.2.length).all v<;>simp only [cond_true,cond_false,BE,Av]
theorem Xg (p q:List NODE) (hp:FineN p):∀ (n:Nat) (a b:Int),(0:Int)<AW p a→(0:Int)<AW q b→a.toNat<n→(Hz n).1 p a q b=some (same p q n a b,())
 | 0,_,_,_,_,h=>absurd h (by omega)
 | n+1,a,b,ha,hb,hn=>by
  have h:=ZK (Hz n).1 p q a b (Ae ha).1 (Ae hb).1 hp (fun i=>same p q n ((rd p a zN).2.2.2.getD i 0) ((rd q b zN).2.2.2.getD i 0)) (fun i hi hj=>by
   obtain⟨k1,k2,k3⟩:=Bm ha hi;exact Xg p q hp n _ _ k1 (Bm hb hj).1 (by omega))
  exact h
theorem Xf (p q:PROG) (hp:FineN p.1):∀ (n:Nat) (a b:Int),(0:Int)<AW p.1 a→(0:Int)<AW q.1 b→a.toNat<n→(HP n).1 p a q b=some (same p.1 q.1 n a b,())
 | 0,_,_,_,_,h=>absurd h (by omega)
 | n+1,a,b,ha,hb,hn=>by
  have h:=ZJ (HP n).1 p q a b (Ae ha).1 (Ae hb).1 hp (fun i=>same p.1 q.1 n ((rd p.1 a zN).2.2.2.getD i 0) ((rd q.1 b zN).2.2.2.getD i 0)) (fun i hi hj=>by
   obtain⟨k1,k2,k3⟩:=Bm ha hi;exact Xf p q hp n _ _ k1 (Bm hb hj).1 (by omega))
  exact h
def sm (p q:List NODE) (a b:Int):Bool:=same p q (a.toNat+1) a b
theorem WQ (p q:List NODE) (hp:FineN p) (a b:Int) (ha:(0:Int)<AW p a) (hb:(0:Int)<AW q b):Mj p a q b=some (sm p q a b,()):=by
 refine DC.2 ⟨a.toNat+1,fun n hn=>?_⟩
 rw [sm,QS p q (a.toNat+1) n a b ha (by omega) (by omega)];exact Xg p q hp n a b ha hb (by omega)
theorem QF (p q:PROG) (hp:FineN p.1) (a b:Int) (ha:(0:Int)<AW p.1 a) (hb:(0:Int)<AW q.1 b):LL p a q b=some (sm p.1 q.1 a b,()):=by
 refine DC.2 ⟨a.toNat+1,fun n hn=>?_⟩
 rw [sm,QS p.1 q.1 (a.toNat+1) n a b ha (by omega) (by omega)];exact Xf p q hp n a b ha hb (by omega)
def Qo (p q:List NODE) (a b:Int):Bool:=decide ((0:Int)<AW p a) && (decide ((0:Int)<AW q b) && sm p q a b)
theorem Mg (p q:PROG) (hp:FineN p.1) (hq:FineN q.1) (a b:Int):Iw p a q b=some (Qo p.1 q.1 a b,()):=by
 unfold Iw Qo;simp only [GL _ hp,GL _ hq,Option.bind_some]
 by_cases ha:(0:Int)<AW p.1 a
 ·by_cases hb:(0:Int)<AW q.1 b
  ·simp only [ha,hb,decide_true,cond_true,WQ p.1 q.1 hp a b ha hb,Option.bind_some,AA,Bool.true_and]
  ·simp only [ha,hb,decide_true,decide_false,cond_true,cond_false,AA,Bool.true_and,Bool.false_and]
 ·simp only [ha,decide_false,cond_false,AA,Bool.false_and]
theorem JZ (n:Int) (h0:-9223372036854775808≤n) (h1:n≤9223372036854775807):GF n=some (itb n,()):=by
 simp only [GF,KY,if_pos (And.intro h0 h1),Option.bind_some,itb]
set_option maxRecDepth 100000
def sbB (c:PROG) (n:Int):Bool:=bif decide (AW c.1 n=0) then false else bif decide ((rd c.1 n zN).1≠16) then false else sm c.1 c.1 ((rd c.1 n zN).2.2.2.getD 1 0) ((rd c.1 n zN).2.2.2.getD 2 0)
theorem Xh (c:PROG) (h:FineN c.1) (n:Int):Cv c n=some (sbB c n,())∧Cq c n=some (sbB c n,()):=by
 unfold Cv Cq sbB;simp only [GL _ h,IC _ h,Option.bind_some]
 by_cases hz:AW c.1 n=0
 ·exact⟨by simp only [hz,decide_true,cond_true,AA],by simp only [hz,decide_true,cond_true,AA]⟩
 have hp:=NV hz
 obtain⟨hr,hok,hd⟩:=Ae hp;simp only [hz,decide_false,cond_false,AU hr,AA]
 by_cases h16:(rd c.1 n zN).1=16
 case neg=>exact⟨by simp only [h16,ne_eq,not_false_eq_true,decide_true,cond_true],by simp only [h16,ne_eq,not_false_eq_true,decide_true,cond_true]⟩
 simp only [h16,ne_eq,not_true_eq_false,decide_false,cond_false];have hlen:(rd c.1 n zN).2.2.2.length=3:=by
  have:=QM hok
  rw [h16] at this;have e:kr 16=(3,3):=rfl
  rw [e] at this;simp only at this;omega
 have k1:=Bm hp (i:=1) (by omega)
 have k2:=Bm hp (i:=2) (by omega)
 have e1:rd (rd c.1 n zN).2.2.2 (1:Int) (0:Int)=(rd c.1 n zN).2.2.2.getD 1 0:=rfl
 have e2:rd (rd c.1 n zN).2.2.2 (2:Int) (0:Int)=(rd c.1 n zN).2.2.2.getD 2 0:=rfl
 have hS:=Mg c c h h ((rd c.1 n zN).2.2.2.getD 1 0) ((rd c.1 n zN).2.2.2.getD 2 0)
 have hI:=QF c c h ((rd c.1 n zN).2.2.2.getD 1 0) ((rd c.1 n zN).2.2.2.getD 2 0) k1.1 k2.1
 have eT:Qo c.1 c.1 ((rd c.1 n zN).2.2.2.getD 1 0) ((rd c.1 n zN).2.2.2.getD 2 0)=sm c.1 c.1 ((rd c.1 n zN).2.2.2.getD 1 0) ((rd c.1 n zN).2.2.2.getD 2 0):=by
  unfold Qo;rw [decide_eq_true k1.1,decide_eq_true k2.1,Bool.true_and,Bool.true_and]
 rw [eT] at hS;refine⟨?_,?_⟩
 ·rw [AU (show(0:Int)≤1∧(1:Int)<((rd c.1 n zN).2.2.2.length:Int) by omega),AU (show(0:Int)≤2∧(2:Int)<((rd c.1 n zN).2.2.2.length:Int) by omega),e1,e2,hS];rfl
 ·rw [AU (show(0:Int)≤1∧(1:Int)<((rd c.1 n zN).2.2.2.length:Int) by omega),AU (show(0:Int)≤2∧(2:Int)<((rd c.1 n zN).2.2.2.length:Int) by omega),e1,e2,hI];rfl
theorem kW {c:PROG} {n:Int} (h:¬ (rd c.1 n zN).1=16):sbB c n=false:=by
 unfold sbB;rw [decide_eq_true (p:=(rd c.1 n zN).1≠16) h];cases decide (AW c.1 n=0)<;>rfl
def bit (b:Bool):Int:=bif b then 1 else 0
def cop (k a b:Int):Int×Bool:=bif decide (k=9) then (bif decide (1000000000<a+b) then (0,false) else (a+b,true)) else bif decide (k=10) then (bit (decide (a<b)),true) else (bit (decide (a=b)),true)
def cst (l:List NODE):Nat→Int→Int×Bool
 | 0,_=>(0,false)
 | f+1,k=>bif decide ((rd l k zN).1=1) then ((rd l k zN).2.1,true) else bif decide (9≤(rd l k zN).1∧(rd l k zN).1≤11) then (bif (cst l f ((rd l k zN).2.2.2.getD 0 0)).2 && (cst l f ((rd l k zN).2.2.2.getD 1 0)).2 then cop (rd l k zN).1 (cst l f ((rd l k zN).2.2.2.getD 0 0)).1 (cst l f ((rd l k zN).2.2.2.getD 1 0)).1 else (0,false)) else (0,false)
theorem PQ {l:List NODE} {k:Int} (h:BT l k=true) (h9:9≤(rd l k zN).1∧(rd l k zN).1≤11):(rd l k zN).2.2.2.length=2:=by
 have h1:=QM h
 have e:kr (rd l k zN).1=(2,2):=by
  have:(rd l k zN).1=9∨(rd l k zN).1=10∨(rd l k zN).1=11:=by omega
  rcases this with h | h | h<;>rw [h]<;>rfl
 rw [e] at h1;simp only at h1;omega
theorem Ol (l:List NODE):∀ (f g:Nat) (a:Int),(0:Int)<AW l a→a.toNat<f→a.toNat<g→cst l f a=cst l g a
 | 0,_,_,_,h,_=>absurd h (by omega)
 | _+1,0,_,_,_,h=>absurd h (by omega)
 | f+1,g+1,a,hd,hf,hg=>by
  simp only [cst]
  by_cases h9:9≤(rd l a zN).1∧(rd l a zN).1≤11
  ·have hl:=PQ (Ae hd).2.1 h9
   have k1:=Bm hd (i:=0) (by omega)
   have k2:=Bm hd (i:=1) (by omega)
   rw [Ol l f g _ k1.1 (by omega) (by omega),Ol l f g _ k2.1 (by omega) (by omega)]
  ·rw [decide_eq_false h9];rfl
theorem XN (b:Bool):0≤bit b∧bit b≤1000000000:=by cases b<;>simp [bit,AA]
theorem KQ (l:List NODE):∀ (f:Nat) (a:Int),(0:Int)<AW l a→a.toNat<f→0≤(cst l f a).1∧(cst l f a).1≤1000000000
 | 0,_,_,h=>absurd h (by omega)
 | f+1,a,hd,hf=>by
  simp only [cst];have hok:=(Ae hd).2.1
  by_cases h1:(rd l a zN).1=1
  ·have:=OU hok
   simp only [Dx,Bool.and_eq_true] at this;have h2:=this.2.2.1
   rw [decide_eq_true h1,cond_true] at h2;rw [decide_eq_true h1,cond_true];exact of_decide_eq_true h2
  ·rw [decide_eq_false h1,cond_false]
   by_cases h9:9≤(rd l a zN).1∧(rd l a zN).1≤11
   ·have hl:=PQ hok h9
    have k1:=Bm hd (i:=0) (by omega)
    have k2:=Bm hd (i:=1) (by omega)
    have r1:=KQ l f _ k1.1 (by omega)
    have r2:=KQ l f _ k2.1 (by omega)
    rw [decide_eq_true h9,cond_true];generalize cst l f ((rd l a zN).2.2.2.getD 0 0)=u at r1 ⊢;generalize cst l f ((rd l a zN).2.2.2.getD 1 0)=v at r2 ⊢;cases u.2 && v.2
    ·exact⟨Int.le_refl 0,(by decide:(0:Int)≤1000000000)⟩
    ·simp only [cond_true,cop]
     by_cases g9:(rd l a zN).1=9
     ·rw [decide_eq_true g9,cond_true]
      by_cases hb:1000000000<u.1+v.1
      ·rw [decide_eq_true hb];exact⟨Int.le_refl 0,(by decide:(0:Int)≤1000000000)⟩
      ·rw [decide_eq_false hb,cond_false];simp only;omega
     ·rw [decide_eq_false g9,cond_false];cases decide ((rd l a zN).1=10)
      ·exact XN _
      ·exact XN _
   ·rw [decide_eq_false h9];exact⟨Int.le_refl 0,(by decide:(0:Int)≤1000000000)⟩
theorem im (b:Bool):Oy b=some (bit b,()):=by cases b<;>rfl
theorem RY (p:PROG):∀ (n:Nat) (a:Int),(0:Int)<AW p.1 a→a.toNat<n→(Hy n).1 p a=some ((cst p.1 n a).1,(cst p.1 n a).2,())
 | 0,_,_,h=>absurd h (by omega)
 | n+1,a,hd,hn=>by
  show KV (Hy n).1 p a=_
  unfold KV;obtain⟨hr,hok,_⟩:=Ae hd;rw [AU hr,iIn,Option.bind_some];simp only [cst]
  by_cases h1:(rd p.1 a zN).1=1
  ·rw [decide_eq_true h1];rfl
  by_cases h9:9≤(rd p.1 a zN).1∧(rd p.1 a zN).1≤11
  case neg=>rw [decide_eq_false h1,decide_eq_false h9];rfl
  have hl:=PQ hok h9
  have k1:=Bm hd (i:=0) (by omega)
  have k2:=Bm hd (i:=1) (by omega)
  have i1:=RY p n _ k1.1 (by omega)
  have i2:=RY p n _ k2.1 (by omega)
  have r1:=KQ p.1 n _ k1.1 (by omega)
  have r2:=KQ p.1 n _ k2.1 (by omega)
  have e1:rd (rd p.1 a zN).2.2.2 (0:Int) (0:Int)=(rd p.1 a zN).2.2.2.getD 0 0:=rfl
  have e2:rd (rd p.1 a zN).2.2.2 (1:Int) (0:Int)=(rd p.1 a zN).2.2.2.getD 1 0:=rfl
  rw [decide_eq_false h1,decide_eq_true h9,cond_false,Bool.not_true,cond_false,AU (show(0:Int)≤0∧(0:Int)<((rd p.1 a zN).2.2.2.length:Int) by omega),e1,i1,Option.bind_some,AU (show(0:Int)≤1∧(1:Int)<((rd p.1 a zN).2.2.2.length:Int) by omega),e2,i2,Option.bind_some];simp only [cond_true,cond_false];generalize cst p.1 n ((rd p.1 a zN).2.2.2.getD 0 0)=u at r1 ⊢;generalize cst p.1 n ((rd p.1 a zN).2.2.2.getD 1 0)=v at r2 ⊢;obtain⟨u1,u2⟩:=u;obtain⟨v1,v2⟩:=v;simp only at r1 r2 ⊢;cases u2
  ·rfl
  cases v2
  ·rfl
  have hw:IntKind.wrap .i64 (u1+v1)=u1+v1:=Ar (by omega) (by omega)
  simp only [Bool.not_true,cond_false,AA,Bool.and_self,cond_true,cop,hw,im,Option.bind_some]
  by_cases g9:(rd p.1 a zN).1=9
  ·simp only [g9,decide_true,cond_true];cases decide (1000000000<u1+v1)<;>rfl
  ·simp only [g9,decide_false,cond_false];cases decide ((rd p.1 a zN).1=10)<;>rfl
theorem RZ (l:List NODE):∀ (n:Nat) (a:Int),(0:Int)<AW l a→a.toNat<n→(HQ n).1 l a=some ((cst l n a).1,(cst l n a).2,())
 | 0,_,_,h=>absurd h (by omega)
 | n+1,a,hd,hn=>by
  show KA (HQ n).1 l a=_
  unfold KA;obtain⟨hr,hok,_⟩:=Ae hd;rw [AU hr];simp only [cst]
  by_cases h1:(rd l a zN).1=1
  ·rw [decide_eq_true h1];rfl
  by_cases h9:9≤(rd l a zN).1∧(rd l a zN).1≤11
  case neg=>
   rw [decide_eq_false h1,decide_eq_false h9,decide_eq_false (show ¬ (rd l a zN).1=9 by omega),decide_eq_false (show ¬ (rd l a zN).1=10 by omega),decide_eq_false (show ¬ (rd l a zN).1=11 by omega)];rfl
  have hl:=PQ hok h9
  have k1:=Bm hd (i:=0) (by omega)
  have k2:=Bm hd (i:=1) (by omega)
  have i1:=RZ l n _ k1.1 (by omega)
  have i2:=RZ l n _ k2.1 (by omega)
  have r1:=KQ l n _ k1.1 (by omega)
  have r2:=KQ l n _ k2.1 (by omega)
  have e1:rd (rd l a zN).2.2.2 (0:Int) (0:Int)=(rd l a zN).2.2.2.getD 0 0:=rfl
  have e2:rd (rd l a zN).2.2.2 (1:Int) (0:Int)=(rd l a zN).2.2.2.getD 1 0:=rfl
  have q1:(0:Int)≤0∧(0:Int)<((rd l a zN).2.2.2.length:Int):=by omega
  have q2:(0:Int)≤1∧(1:Int)<((rd l a zN).2.2.2.length:Int):=by omega
  rw [decide_eq_false h1,decide_eq_true h9];simp only [cond_true,cond_false];generalize rd l a zN=x at h1 h9 e1 e2 i1 i2 r1 r2 q1 q2 ⊢;generalize cst l n (x.2.2.2.getD 0 0)=u at r1 i1 ⊢;generalize cst l n (x.2.2.2.getD 1 0)=v at r2 i2 ⊢;obtain⟨u1,u2⟩:=u;obtain⟨v1,v2⟩:=v;simp only at r1 r2 i1 i2 ⊢;have hw:IntKind.wrap .i64 (u1+v1)=u1+v1:=Ar (by omega) (by omega)
  have hk:x.1=9∨x.1=10∨x.1=11:=by omega
  have big1:¬ ((1000000000:Int)<1):=by decide
  have big0:¬ ((1000000000:Int)<0):=by decide
  rcases hk with h | h | h
  ·simp only [h,decide_true,decide_false,cond_true,cond_false,AA,Int.reduceEq,AU q1,AU q2,e1,e2,i1,i2,Option.bind_some];cases u2
   ·rfl
   cases v2
   ·rfl
   simp only [Bool.not_true,cond_false,AA,hw,cop,decide_true,cond_true,Bool.and_self,h];cases decide (1000000000<u1+v1)<;>rfl
  ·simp only [h,decide_true,decide_false,cond_true,cond_false,AA,Int.reduceEq,AU q1,AU q2,e1,e2,i1,i2,Option.bind_some];cases u2
   ·rfl
   cases v2
   ·rfl
   simp only [Bool.not_true,cond_false,AA,cop,decide_true,decide_false,cond_true,Bool.and_self,Int.reduceEq,h];cases decide (u1<v1)<;>simp [bit,AA]
  ·simp only [h,decide_true,decide_false,cond_true,cond_false,AA,Int.reduceEq,AU q1,AU q2,e1,e2,i1,i2,Option.bind_some];cases u2
   ·rfl
   cases v2
   ·rfl
   simp only [Bool.not_true,cond_false,AA,cop,decide_true,decide_false,cond_true,Bool.and_self,Int.reduceEq,h];cases decide (u1=v1)<;>simp [bit,AA]
def GW (l:List NODE) (k:Int):Int×Bool:=cst l (k.toNat+1) k
theorem Pf (l:List NODE) {a:Int} (h:(0:Int)<AW l a):LN l a=some ((GW l a).1,(GW l a).2,()):=by
 refine DC.2 ⟨a.toNat+1,fun n hn=>?_⟩
 rw [GW,Ol l (a.toNat+1) n a h (by omega) (by omega)];exact RZ l n a h (by omega)
theorem Uj (p:PROG) {a:Int} (h:(0:Int)<AW p.1 a):MR p a=some ((GW p.1 a).1,(GW p.1 a).2,()):=by
 refine DC.2 ⟨a.toNat+1,fun n hn=>?_⟩
 rw [GW,Ol p.1 (a.toNat+1) n a h (by omega) (by omega)];exact RY p n a h (by omega)
theorem Ok {l:List NODE} {a:Int} (h:(0:Int)<AW l a):0≤(GW l a).1∧(GW l a).1≤1000000000:=KQ l _ a h (Nat.lt_succ_self _)
set_option maxRecDepth 100000
abbrev Bl:=Int×(Int×ByteArray)
abbrev eB:ByteArray:=⟨#[]⟩
def w2 (p:PROG) (fn k:Int) (o:List Bl):List Bl:=bif sbB p k then o++[((2:Int),(fn,eB))] else o
def w3 (p:PROG) (fn k:Int) (o:List Bl):List Bl:=bif decide ((rd p.1 k zN).1=17) && decide (((rd p.1 ((rd p.1 k zN).2.2.2.getD 1 0) zN).2.2.2.length:Int)=0) then o++[((3:Int),(fn,eB))] else o
def w4 (p:PROG) (fn k:Int) (o:List Bl):List Bl:=bif (decide ((rd p.1 k zN).1=16) || decide ((rd p.1 k zN).1=17)) && (GW p.1 ((rd p.1 k zN).2.2.2.getD 0 0)).2 then o++[((4:Int),(fn,itb (GW p.1 ((rd p.1 k zN).2.2.2.getD 0 0)).1))] else o
def HX (p:PROG) (fn:Int) (o:List Bl) (k:Int):List Bl:=w4 p fn k (w3 p fn k (w2 p fn k o))
theorem Wg (p:PROG) (fn k:Int) (o:List Bl):(w2 p fn k o).length≤o.length+1:=by unfold w2;cases sbB p k<;>simp
theorem Wh (p:PROG) (fn k:Int) (o:List Bl):(w3 p fn k o).length≤o.length+1:=by unfold w3;cases decide ((rd p.1 k zN).1=17) && decide (((rd p.1 ((rd p.1 k zN).2.2.2.getD 1 0) zN).2.2.2.length:Int)=0)<;>simp
theorem jy (p:PROG) (fn k:Int) (o:List Bl):(w4 p fn k o).length≤o.length+1:=by unfold w4;cases (decide ((rd p.1 k zN).1=16) || decide ((rd p.1 k zN).1=17)) && (GW p.1 ((rd p.1 k zN).2.2.2.getD 0 0)).2<;>simp
theorem Uf (p:PROG) (fn k:Int) (o:List Bl):(HX p fn o k).length≤o.length+3:=by
 have h1:=Wg p fn k o
 have h2:=Wh p fn k (w2 p fn k o)
 have h3:=jy p fn k (w3 p fn k (w2 p fn k o))
 unfold HX;omega
def w0 (p:PROG) (fn:Int):List Bl:=(Dv p fn).map fun s=>((1:Int),(fn,s))
def Gz (p:PROG) (fn:Int):List Bl:=bif BX p && GD p fn then (Fe p.1 (rd p.2 fn zF).2.2.2.1).foldl (HX p fn) (w0 p fn) else []
theorem bC (p:PROG) (fn:Int) (l:List ByteArray) (hl:l.length≤2097152):AD EQ (fn,[],l,(0:Int),p,())=some (fn,l.map (fun s=>((1:Int),(fn,s))),p,()):=by
 have h:=FO (step:=EQ) l (fun s=>((1:Int),(fn,s))) (fun i o=>(fn,o,l,(i:Int),p,())) (fun o=>(fn,o,p,())) (fun i hi o ho=>by
  simp only [EQ,AR hi,decide_true,cond_true,AK hi,AP hi];rw [Am (by simp;omega)];simp only [Option.map_some,AI (show i<9223372036854775807 by omega)]) (fun o ho=>by
  simp only [EQ,AJ,decide_false,cond_false,Option.map_some])
 exact h
theorem bB (p:PROG) (fn:Int) (l:List ByteArray) (hl:l.length≤2097152):AD EP (fn,[],l,(l.length:Int),(0:Int),p,())=some (fn,l.map (fun s=>((1:Int),(fn,s))),p,()):=by
 have h:=FO (step:=EP) l (fun s=>((1:Int),(fn,s))) (fun i o=>(fn,o,l,(l.length:Int),(i:Int),p,())) (fun o=>(fn,o,p,())) (fun i hi o ho=>by
  simp only [EP,AR hi,decide_true,cond_true,AK hi,AP hi];rw [Am (by simp;omega)];simp only [Option.map_some,AI (show i<9223372036854775807 by omega)]) (fun o ho=>by
  simp only [EP,AJ,decide_false,cond_false,Option.map_some])
 exact h
theorem Wy {α β γ:Type} (x:Option α) (f:α→Option β) (g:β→Option γ):joinP (joinP x f) g=joinP x fun a=>joinP (f a) g:=by cases x<;>rfl
structure IW (p:PROG) (k:Int):Prop where
 a:(0:Int)<AW p.1 ((rd p.1 k zN).2.2.2.getD 0 0)
 b:(0:Int)<AW p.1 ((rd p.1 k zN).2.2.2.getD 1 0)
 l:2≤(rd p.1 k zN).2.2.2.length
theorem Uy {p:PROG} {k:Int} (h:(0:Int)<AW p.1 k) (hk:(rd p.1 k zN).1=16∨(rd p.1 k zN).1=17):IW p k:=by
 have h1:=QM (Ae h).2.1
 have h2:2≤(rd p.1 k zN).2.2.2.length:=by
  rcases hk with hk | hk<;>rw [hk] at h1
  ·have e:kr 16=(3,3):=rfl
   rw [e] at h1;simp only at h1;omega
  ·have e:kr 17=(2,2):=rfl
   rw [e] at h1;simp only at h1;omega
 exact⟨(Bm h (by omega)).1,(Bm h (by omega)).1,h2⟩
theorem Za (p:PROG) (hp:FineP p) (fn:Int) (l:List Int) (hl:l.length≤300) (hd:∀ x∈l,(0:Int)<AW p.1 x) (i:Nat) (hi:i<l.length) (o:List Bl) (ho:o.length≤4000000):
 ET (fn,o,l,(i:Int),p,())=some (.inl (fn,HX p fn o l[i],l,((i+1:Nat):Int),p,())):=by
 have hk:=hd _ (List.getElem_mem hi)
 have hr:=(Ae hk).1
 have wi:=AI (show i<9223372036854775807 by omega)
 have sS:=(Xh p hp.n l[i]).1
 have l2:=Wg p fn l[i] o
 have l3:=Wh p fn l[i] (w2 p fn l[i] o)
 simp only [ET,AR hi,decide_true,cond_true,AK hi,AP hi,AU hr,sS,Option.bind_some];have e2:(bif sbB p l[i] then (Cnd.le ((List.length o+List.length [((2:Int),(fn,(⟨#[]⟩:ByteArray)))]) * 32) 140737488355328).run (some (fn,o++[((2:Int),(fn,(⟨#[]⟩:ByteArray)))],l,(i:Int),p,rd p.1 l[i] Z7,())) else some (fn,o,l,(i:Int),p,rd p.1 l[i] Z7,()))=some (fn,w2 p fn l[i] o,l,(i:Int),p,rd p.1 l[i] zN,()):=by
  unfold w2;cases sbB p l[i]
  ·rfl
  ·simp only [cond_true];rw [Am (by simp;omega)]
 rw [e2,AA];unfold HX;generalize hO:w2 p fn l[i] o=o2 at l2 l3
 by_cases h17:(rd p.1 l[i] zN).1=17
 ·have I:=Uy hk (.inr h17)
  have q1:(0:Int)≤1∧(1:Int)<((rd p.1 l[i] zN).2.2.2.length:Int):=by have:=I.l;omega
  have q0:(0:Int)≤0∧(0:Int)<((rd p.1 l[i] zN).2.2.2.length:Int):=by have:=I.l;omega
  have g0:rd (rd p.1 l[i] zN).2.2.2 (0:Int) (0:Int)=(rd p.1 l[i] zN).2.2.2.getD 0 0:=rfl
  have g1:rd (rd p.1 l[i] zN).2.2.2 (1:Int) (0:Int)=(rd p.1 l[i] zN).2.2.2.getD 1 0:=rfl
  have hc:=Pf p.1 I.a
  have hcr:=Ok I.a
  have hD:=HU (GW p.1 ((rd p.1 l[i] zN).2.2.2.getD 0 0)).1 (by omega) (by omega)
  simp only [h17,decide_true,cond_true,AU q1,g1,AU (Ae I.b).1,AA];have e3:(bif decide (((rd p.1 ((rd p.1 l[i] zN).2.2.2.getD 1 0) zN).2.2.2.length:Int)=0) then (Cnd.le ((List.length o2+List.length [((3:Int),(fn,(⟨#[]⟩:ByteArray)))]) * 32) 140737488355328).run (some (fn,o2++[((3:Int),(fn,(⟨#[]⟩:ByteArray)))],l,(i:Int),p,rd p.1 l[i] zN,())) else some (fn,o2,l,(i:Int),p,rd p.1 l[i] zN,()))=some (fn,w3 p fn l[i] o2,l,(i:Int),p,rd p.1 l[i] zN,()):=by
   unfold w3;rw [decide_eq_true h17,Bool.true_and];cases decide (((rd p.1 ((rd p.1 l[i] zN).2.2.2.getD 1 0) zN).2.2.2.length:Int)=0)
   ·rfl
   ·simp only [cond_true];rw [Am (by simp;omega)]
  rw [e3,AA];generalize w3 p fn l[i] o2=o3 at l3;simp only [h17,show((17:Int)=16)=False from by decide,decide_false,decide_true,cond_true,cond_false,AA,AU q0,g0,hc,Option.bind_some];unfold w4;rw [decide_eq_true h17,Bool.or_true,Bool.true_and];cases (GW p.1 ((rd p.1 l[i] zN).2.2.2.getD 0 0)).2
  ·simp only [cond_false,AA,Option.map_some,wi]
  ·simp only [cond_true,hD,Option.bind_some];rw [Am (by simp;omega)];simp only [AA,Option.map_some,wi]
 ·simp only [h17,decide_false,cond_false,AA];have e3:w3 p fn l[i] o2=o2:=by unfold w3;rw [decide_eq_false h17];rfl
  rw [e3]
  by_cases h16:(rd p.1 l[i] zN).1=16
  ·have I:=Uy hk (.inl h16)
   have q0:(0:Int)≤0∧(0:Int)<((rd p.1 l[i] zN).2.2.2.length:Int):=by have:=I.l;omega
   have g0:rd (rd p.1 l[i] zN).2.2.2 (0:Int) (0:Int)=(rd p.1 l[i] zN).2.2.2.getD 0 0:=rfl
   have hc:=Pf p.1 I.a
   have hcr:=Ok I.a
   have hD:=HU (GW p.1 ((rd p.1 l[i] zN).2.2.2.getD 0 0)).1 (by omega) (by omega)
   simp only [h16,decide_true,cond_true,AA,AU q0,g0,hc,Option.bind_some];unfold w4;rw [decide_eq_true h16,Bool.true_or,Bool.true_and];cases (GW p.1 ((rd p.1 l[i] zN).2.2.2.getD 0 0)).2
   ·simp only [cond_false,AA,Option.map_some,wi]
   ·simp only [cond_true,hD,Option.bind_some];rw [Am (by simp;omega)];simp only [AA,Option.map_some,wi]
  ·simp only [h16,decide_false,cond_false,AA,h17,Option.map_some,wi];unfold w4;rw [decide_eq_false h16,decide_eq_false h17];rfl
theorem ZZ (p:PROG) (hp:FineP p) (fn n:Int) (l:List Int) (hn:n=(l.length:Int)) (hl:l.length≤300) (hd:∀ x∈l,(0:Int)<AW p.1 x) (i:Nat) (hi:i<l.length) (o:List Bl) (ho:o.length≤4000000):
 ER (fn,o,l,n,(i:Int),p,())=some (.inl (fn,HX p fn o l[i],l,n,((i+1:Nat):Int),p,())):=by
 subst hn;have hk:=hd _ (List.getElem_mem hi)
 have hr:=(Ae hk).1
 have wi:=AI (show i<9223372036854775807 by omega)
 have sI:=(Xh p hp.n l[i]).2
 have l2:=Wg p fn l[i] o
 have l3:=Wh p fn l[i] (w2 p fn l[i] o)
 simp only [ER,AR hi,decide_true,cond_true,AK hi,AP hi,AU hr]
 by_cases hno:¬ (rd p.1 l[i] zN).1=16∧¬ (rd p.1 l[i] zN).1=17
 ·obtain⟨h16,h17⟩:=hno;simp only [h16,h17,ne_eq,not_false_eq_true,decide_true,cond_true,AA,Option.map_some,wi];unfold HX w4 w3 w2;rw [kW h16,decide_eq_false h16,decide_eq_false h17];rfl
 have hkk:(rd p.1 l[i] zN).1=16∨(rd p.1 l[i] zN).1=17:=by omega
 have I:=Uy hk hkk
 have q1:(0:Int)≤1∧(1:Int)<((rd p.1 l[i] zN).2.2.2.length:Int):=by have:=I.l;omega
 have q0:(0:Int)≤0∧(0:Int)<((rd p.1 l[i] zN).2.2.2.length:Int):=by have:=I.l;omega
 have g0:rd (rd p.1 l[i] zN).2.2.2 (0:Int) (0:Int)=(rd p.1 l[i] zN).2.2.2.getD 0 0:=rfl
 have g1:rd (rd p.1 l[i] zN).2.2.2 (1:Int) (0:Int)=(rd p.1 l[i] zN).2.2.2.getD 1 0:=rfl
 have hc:=Uj p I.a
 have hcr:=Ok I.a
 have hD:=JZ (GW p.1 ((rd p.1 l[i] zN).2.2.2.getD 0 0)).1 (by omega) (by omega)
 have e1:(bif decide ((rd p.1 l[i] zN).1≠(16:Int)) then some (fn,o,l[i],l,(l.length:Int),(i:Int),decide ((rd p.1 l[i] zN).1≠(17:Int)),p,rd p.1 l[i] zN,()) else some (fn,o,l[i],l,(l.length:Int),(i:Int),false,p,rd p.1 l[i] zN,()))=some (fn,o,l[i],l,(l.length:Int),(i:Int),false,p,rd p.1 l[i] zN,()):=by
  rcases hkk with h | h
  ·simp only [h,ne_eq,not_true_eq_false,decide_false,cond_false]
  ·simp only [h,ne_eq,not_true_eq_false,decide_false];cases decide (¬ ((17:Int)=16))<;>rfl
 rw [e1,AA];simp only [cond_false,sI,Option.bind_some];have e2:(bif sbB p l[i] then (Cnd.le ((List.length o+List.length [((2:Int),(fn,(⟨#[]⟩:ByteArray)))]) * 32) 140737488355328).run (some (fn,o++[((2:Int),(fn,(⟨#[]⟩:ByteArray)))],l,(l.length:Int),(i:Int),p,rd p.1 l[i] zN,())) else some (fn,o,l,(l.length:Int),(i:Int),p,rd p.1 l[i] zN,()))=some (fn,w2 p fn l[i] o,l,(l.length:Int),(i:Int),p,rd p.1 l[i] zN,()):=by
  unfold w2;cases sbB p l[i]
  ·rfl
  ·simp only [cond_true];rw [Am (by simp;omega)]
 rw [e2,AA];unfold HX;generalize hO:w2 p fn l[i] o=o2 at l2 l3;have e3:(joinP (bif decide ((rd p.1 l[i] zN).1=(17:Int)) then (Cnd.idx (1:Int) (List.length (rd p.1 l[i] zN).2.2.2)).run ((Cnd.idx (rd (rd p.1 l[i] zN).2.2.2 (1:Int) (0:Int)) (List.length p.1)).run (some (fn,o2,l,(l.length:Int),(i:Int),decide (((rd p.1 (rd (rd p.1 l[i] zN).2.2.2 (1:Int) (0:Int)) zN).2.2.2.length:Int)=0),p,rd p.1 l[i] zN,()))) else some (fn,o2,l,(l.length:Int),(i:Int),false,p,rd p.1 l[i] zN,())) fun x12=>bif x12.2.2.2.2.2.1 then (Cnd.le ((List.length x12.2.1+List.length [((3:Int),(x12.1,(⟨#[]⟩:ByteArray)))]) * 32) 140737488355328).run (some (x12.1,x12.2.1++[((3:Int),(x12.1,(⟨#[]⟩:ByteArray)))],x12.2.2.1,x12.2.2.2.1,x12.2.2.2.2.1,x12.2.2.2.2.2.2.1,x12.2.2.2.2.2.2.2.1,())) else some (x12.1,x12.2.1,x12.2.2.1,x12.2.2.2.1,x12.2.2.2.2.1,x12.2.2.2.2.2.2.1,x12.2.2.2.2.2.2.2.1,()))=some (fn,w3 p fn l[i] o2,l,(l.length:Int),(i:Int),p,rd p.1 l[i] zN,()):=by
  unfold w3
  by_cases h17:(rd p.1 l[i] zN).1=17
  ·simp only [h17,decide_true,cond_true,AU q1,g1,AU (Ae I.b).1,AA,Bool.true_and];cases decide (((rd p.1 ((rd p.1 l[i] zN).2.2.2.getD 1 0) zN).2.2.2.length:Int)=0)
   ·rfl
   ·simp only [cond_true];rw [Am (by simp;omega)]
  ·simp only [h17,decide_false,cond_false,AA,Bool.false_and]
 rw [← Wy,e3,AA];generalize w3 p fn l[i] o2=o3 at l3;simp only [AU q0,g0,hc,Option.bind_some];unfold w4;have hor:(decide ((rd p.1 l[i] zN).1=16) || decide ((rd p.1 l[i] zN).1=17))=true:=by
  rw [Bool.or_eq_true];exact hkk.imp decide_eq_true decide_eq_true
 rw [hor,Bool.true_and];cases (GW p.1 ((rd p.1 l[i] zN).2.2.2.getD 0 0)).2
 ·simp only [cond_false,AA,Option.map_some,wi]
 ·simp only [cond_true,hD,Option.bind_some];rw [Am (by simp;omega)];simp only [AA,Option.map_some,wi]
theorem Lo {p:PROG} (hp:FineP p) (fn:Int):(Dv p fn).length≤2097152:=by
 unfold Dv;rw [List.length_map];exact Nat.le_trans (IB ..) (Ml hp fn)
structure InFn (p:PROG) (fn:Int):Prop where
 k:POK p
 f:FnIs p fn.toNat (rd p.2 fn zF)
 r:0≤fn∧fn<(p.2.length:Int)
theorem Yo {p:PROG} {fn:Int} (h:BX p=true) (hf:GD p fn=true):InFn p fn:=by
 unfold BX at h;rw [Bool.and_eq_true] at h;have hr:=of_decide_eq_true hf
 have P:=OW h.1
 have F:=P.fn (i:=fn.toNat) (by omega)
 rw [show((fn.toNat:Nat):Int)=fn by omega] at F;exact⟨P,F,by omega⟩
theorem InFn.all {p:PROG} {fn:Int} (h:InFn p fn):(Fe p.1 (rd p.2 fn zF).2.2.2.1).length≤300∧∀ x∈Fe p.1 (rd p.2 fn zF).2.2.2.1,(0:Int)<AW p.1 x:=
 ⟨Nat.le_trans (Wa ..) h.k.l,fun x hx=>QY h.f.bd ((Rr h.f.bd x).1 hx)⟩
theorem QU (p:PROG) (hp:FineP p) (fn:Int):Ij p fn=some (Gz p fn,()):=by
 unfold Ij Gz;rw [Pi p hp,Option.bind_some,It hp,sIn];simp only;cases hn:BX p
 ·simp only [Bool.not_false,cond_true,AA,Bool.false_and,cond_false]
 simp only [Bool.not_true,cond_false,Option.bind_some,AA,Bool.true_and]
 by_cases hf:0≤fn∧fn≤(p.2.length:Int) - 1
 case neg=>
  have:GD p fn=false:=decide_eq_false hf
  simp only [hf,decide_false,Bool.not_false,cond_true,this,cond_false]
 have hf':GD p fn=true:=decide_eq_true hf
 have I:=Yo hn hf'
 obtain⟨a1,a2⟩:=I.all;have ul:=Lo hp fn
 have hlp:=Ao (step:=ET) (Fe p.1 (rd p.2 fn zF).2.2.2.1) (HX p fn) (fun i o=>(fn,o,Fe p.1 (rd p.2 fn zF).2.2.2.1,(i:Int),p,())) (fun o=>(o,())) (fun i o=>o.length≤2097152+3 * i) (fun i hi o ho=>⟨Za p hp fn _ a1 a2 i hi o (by omega),Nat.le_trans (Uf ..) (by omega)⟩) (fun o _=>by
  simp only [ET,AJ,decide_false,cond_false,Option.map_some]) (w0 p fn) (by unfold w0;rw [List.length_map];omega)
 have h':AD ET (fn,w0 p fn,Fe p.1 (rd p.2 fn zF).2.2.2.1,(0:Int),p,())=_:=hlp.1
 have hw:AD EQ (fn,[],Dv p fn,(0:Int),p,())=some (fn,w0 p fn,p,()):=bC p fn _ ul
 have hu:BM p.1 (rd p.2 fn zF).2.2.2.1=Fe p.1 (rd p.2 fn zF).2.2.2.1:=by
  unfold BM;rw [decide_eq_false (show ¬ AW p.1 (rd p.2 fn zF).2.2.2.1=0 by have:=I.f.bd;omega)];rfl
 simp only [hf,and_self,decide_true,Bool.not_true,cond_false,hf',cond_true,OY p hp,Option.bind_some,hw,AA,AU I.r,LM p hp.n,hu,h']
theorem QE (p:PROG) (hp:FineP p) (fn:Int):Ig p fn=some (Gz p fn,()):=by
 unfold Ig Gz;rw [Pb p hp,Option.bind_some,It hp,iIn];simp only;cases hn:BX p
 ·simp only [Bool.not_false,cond_true,AA,Bool.false_and,cond_false]
 simp only [Bool.not_true,cond_false,Option.bind_some,AA,Bool.true_and]
 by_cases hf:0≤fn∧fn≤(p.2.length:Int) - 1
 case neg=>
  have:GD p fn=false:=decide_eq_false hf
  simp only [hf,decide_false,Bool.not_false,cond_true,this,cond_false]
 have hf':GD p fn=true:=decide_eq_true hf
 have I:=Yo hn hf'
 obtain⟨a1,a2⟩:=I.all;have ul:=Lo hp fn
 have hlp:=Ao (step:=ER) (Fe p.1 (rd p.2 fn zF).2.2.2.1) (HX p fn) (fun i o=>(fn,o,Fe p.1 (rd p.2 fn zF).2.2.2.1,((Fe p.1 (rd p.2 fn zF).2.2.2.1).length:Int),(i:Int),p,())) (fun o=>(o,())) (fun i o=>o.length≤2097152+3 * i) (fun i hi o ho=>⟨ZZ p hp fn _ _ rfl a1 a2 i hi o (by omega),Nat.le_trans (Uf ..) (by omega)⟩) (fun o _=>by
  simp only [ER,AJ,decide_false,cond_false,Option.map_some]) (w0 p fn) (by unfold w0;rw [List.length_map];omega)
 have h':AD ER (fn,w0 p fn,Fe p.1 (rd p.2 fn zF).2.2.2.1,((Fe p.1 (rd p.2 fn zF).2.2.2.1).length:Int),(0:Int),p,())=_:=hlp.1
 have hw:AD EP (fn,[],Dv p fn,((Dv p fn).length:Int),(0:Int),p,())=some (fn,w0 p fn,p,()):=bB p fn _ ul
 simp only [hf,and_self,decide_true,Bool.not_true,cond_false,hf',cond_true,ON p hp,Option.bind_some,hw,AA,AU I.r,Pd p.1 hp.n _ I.f.bd,h']
set_option maxRecDepth 100000
abbrev tW:Ty:=.pair (.int .i64) (.pair (.int .i64) .str)
def wW (l:List Bl):Nat:=wt (.list 0 tW) l
theorem Ni (l:List Bl):wW l=l.length+(l.map fun w=>w.2.2.size).sum:=by
 have e:wW l=l.length+(l.map (wt tW)).sum:=rfl
 rw [e]
 congr 2
 refine List.map_congr_left fun w _=>?_
 show 0+(0+w.2.2.size)=w.2.2.size
 omega
theorem Od (a b:List Bl):wW (a++b)=wW a+wW b:=by
 simp only [Ni,List.length_append,List.map_append,List.sum_append];omega
theorem Sv (w:Bl):wW [w]=1+w.2.2.size:=by simp [Ni]
theorem kc (p:PROG) (fn k:Int) (o:List Bl):wW (w2 p fn k o)≤wW o+1:=by
 unfold w2;cases sbB p k
 ·exact Nat.le_succ _
 ·rw [cond_true,Od,Sv];exact Nat.le_refl _
theorem ke (p:PROG) (fn k:Int) (o:List Bl):wW (w3 p fn k o)≤wW o+1:=by
 unfold w3;cases decide ((rd p.1 k zN).1=17) && decide (((rd p.1 ((rd p.1 k zN).2.2.2.getD 1 0) zN).2.2.2.length:Int)=0)
 ·exact Nat.le_succ _
 ·rw [cond_true,Od,Sv];exact Nat.le_refl _
theorem kf (p:PROG) (fn k:Int) (h:(0:Int)<AW p.1 k) (o:List Bl):wW (w4 p fn k o)≤wW o+22:=by
 unfold w4
 by_cases hk:(rd p.1 k zN).1=16∨(rd p.1 k zN).1=17
 ·have I:=Uy h hk
  have hcr:=Ok I.a
  have hs:=KW (n:=(GW p.1 ((rd p.1 k zN).2.2.2.getD 0 0)).1) (by omega) (by omega)
  cases (decide ((rd p.1 k zN).1=16) || decide ((rd p.1 k zN).1=17)) && (GW p.1 ((rd p.1 k zN).2.2.2.getD 0 0)).2
  ·exact Nat.le_add_right ..
  ·rw [cond_true,Od,Sv];simp only;omega
 ·rw [decide_eq_false (fun e=>hk (.inl e)),decide_eq_false (fun e=>hk (.inr e))];exact Nat.le_add_right ..
theorem dv (p:PROG) (fn k:Int) (h:(0:Int)<AW p.1 k) (o:List Bl):wW (HX p fn o k)≤wW o+24:=by
 have h1:=kc p fn k o
 have h2:=ke p fn k (w2 p fn k o)
 have h3:=kf p fn k h (w3 p fn k (w2 p fn k o))
 unfold HX;omega
theorem Wj (p:PROG) (fn:Int):∀ (l:List Int) (o:List Bl),(∀ x∈l,(0:Int)<AW p.1 x)→wW (l.foldl (HX p fn) o)≤wW o+24 * l.length
 | [],o,_=>Nat.le_refl _
 | k::l,o,h=>by
  have h1:=Wj p fn l (HX p fn o k) fun x hx=>h x (List.mem_cons_of_mem _ hx)
  have h2:=dv p fn k (h k (List.mem_cons_self ..)) o
  simp only [List.foldl_cons,List.length_cons];omega
theorem WC {s:ByteArray} (h:Bo s=true):s.size≤8:=by
 simp only [Bo,Bool.and_eq_true,decide_eq_true_eq] at h;exact h.1.1.1.2
theorem kN {p:PROG} (P:POK p) {k:Int} (hk:0≤k∧k<(p.1.length:Int)) (h:Gc p.1 k=true):(rd p.1 k zN).2.2.1.size≤8:=by
 have:=OU (Ae (P.deep hk)).2.1
 simp only [Dx,Bool.and_eq_true] at this;have h2:=this.2.2.2.1
 have h13:(rd p.1 k zN).1=13:=of_decide_eq_true h
 rw [h13,show Iv 13=true from rfl,cond_true] at h2;exact WC h2
theorem Vp {p:PROG} (P:POK p) {i:Nat} (hi:i<p.2.length):(rd p.2 (i:Int) zF).1.size≤8∧∀ a∈(rd p.2 (i:Int) zF).2.1,a.1.size≤8:=by
 have h1:=List.all_eq_true.1 P.f i (by simpa using hi)
 simp only [Hg,fnI,Bool.and_eq_true,Tn] at h1;refine⟨WC h1.1.1,fun a ha=>?_⟩
 have:=List.all_eq_true.1 h1.1.2.2.2.1 a ha
 simp only [Qj,Bool.and_eq_true] at this;exact WC this.1
theorem jw {p:PROG} {fn:Int} (I:InFn p fn):(BR p fn).length≤303∧∀ v∈BR p fn,v.1.size≤8:=by
 have hf:GD p fn=true:=decide_eq_true (by have:=I.r;omega)
 unfold BR;rw [hf,cond_true];constructor
 ·have h1:=Gm p.1 (rd p.2 fn zF).2.2.2.1
  have h2:=IB (Gc p.1) (BM p.1 (rd p.2 fn zF).2.2.2.1)
  have h3:=I.k.l
  have h4:=I.f.par
  rw [List.length_append,List.length_map,List.length_map];omega
 ·intro v hv;rcases List.mem_append.1 hv with h | h
  ·obtain⟨a,ha,rfl⟩:=List.mem_map.1 h;have:=(Vp I.k (i:=fn.toNat) (by have:=I.r;omega)).2
   rw [show((fn.toNat:Nat):Int)=fn by have:=I.r;omega] at this;exact this a ha
  ·obtain⟨k,hk,rfl⟩:=List.mem_map.1 h;obtain⟨h1,h2⟩:=List.mem_filter.1 hk;exact kN I.k (Mk h1).1 h2
theorem aV {α:Type} (f:α→Nat) (b:Nat):∀ l:List α,(∀ x∈l,f x≤b)→(l.map f).sum≤b * l.length
 | [],_=>by simp
 | x::l,h=>by
  have h1:=aV f b l fun y hy=>h y (List.mem_cons_of_mem _ hy)
  have h2:=h x (List.mem_cons_self ..)
  simp only [List.map_cons,List.sum_cons,List.length_cons,Nat.mul_add];omega
theorem kb {p:PROG} {fn:Int} (I:InFn p fn):wW (w0 p fn)≤2727:=by
 obtain⟨h1,h2⟩:=jw I;have hl:(Dv p fn).length≤303:=by
  unfold Dv;rw [List.length_map];exact Nat.le_trans (IB ..) h1
 have hs:∀ s∈Dv p fn,s.size≤8:=fun s hs=>by
  obtain⟨v,hv,rfl⟩:=List.mem_map.1 hs;exact h2 v (List.mem_filter.1 hv).1
 rw [Ni];unfold w0;rw [List.length_map,List.map_map];have:=aV ((fun w:Bl=>w.2.2.size)∘fun s=>((1:Int),(fn,s))) 8 (Dv p fn) hs
 omega
theorem Qa (p:PROG) (fn:Int):wW (Gz p fn)≤9927:=by
 unfold Gz;cases hn:BX p
 ·rw [Bool.false_and,cond_false,Ni];simp
 cases hf:GD p fn
 ·rw [Bool.and_false,cond_false,Ni];simp
 have I:=Yo hn hf
 obtain⟨a1,a2⟩:=I.all;have h0:=kb I
 have h1:=Wj p fn _ (w0 p fn) a2
 rw [Bool.and_self,cond_true];omega
set_option maxRecDepth 100000
theorem kS (l:List Int) (n:Int) (hl:l.length≤4000000):Kp l n=some (Bi l n,()):=by
 have h:=GT (step:=Fu) l (fun y=>decide (y=n)) (fun k=>(l,n,(k:Int),())) (.inr (l,())) (.inl (l,n,())) (fun k hk=>by
  simp only [Fu,AR hk,decide_true,cond_true,AK hk,AP hk,AI (show k<9223372036854775807 by omega)];cases decide (l[k]=n)<;>rfl) (by
  simp only [Fu,AJ,decide_false,cond_false,Option.map_some])
 have h':AD Fu (l,n,(0:Int),())=_:=h
 unfold Kp Bi BK;simp only [Option.bind_some,h'];cases l.any fun y=>decide (y=n)
 ·simp only [cond_false,BE];rw [Am (by simp;omega)]
 ·rfl
theorem cv {l:List FN} {s:ByteArray} (h:(0:Int)≤CH l s):0≤CH l s∧CH l s<(l.length:Int):=by
 refine⟨h,?_⟩
 unfold CH;cases h:l.findIdx? fun f=>decide (f.1=s) with
 | none=>simp only;omega
 | some i=>
  obtain⟨h1,_⟩:=List.findIdx?_eq_some_iff_getElem.1 h;simp only;omega
def NM (p:PROG) (o:List Int) (k:Int):List Int:=bif decide ((rd p.1 k zN).1=12) then (bif decide ((0:Int)≤CH p.2 (rd p.1 k zN).2.2.1) then Bi o (CH p.2 (rd p.1 k zN).2.2.1) else o) else o
def JT (p:PROG) (fn:Int):List Int:=(fnN p fn).foldl (NM p) []
theorem RX {p:PROG} {o:List Int} (h:Rg p.2.length o) (k:Int):Rg p.2.length (NM p o k):=by
 unfold NM;cases decide ((rd p.1 k zN).1=12)
 ·exact h
 ·by_cases h0:(0:Int)≤CH p.2 (rd p.1 k zN).2.2.1
  ·rw [decide_eq_true h0,cond_true,cond_true];exact h.add (cv h0)
  ·rw [decide_eq_false h0];exact h
theorem Si (n:Nat):Rg n []:=⟨List.nodup_nil,fun x hx=>by simp at hx⟩
theorem cU (p:PROG) (fn:Int):Rg p.2.length (JT p fn):=by
 have key:∀ (l o:List Int),Rg p.2.length o→Rg p.2.length (l.foldl (NM p) o):=by
  intro l
  induction l with
  | nil=>intro o h;exact h
  | cons k l ih=>intro o h;exact ih _ (RX h k)
 exact key _ _ (Si _)
theorem Un (p:PROG) (hp:FineP p) (fn:Int):Jq p fn=some (JT p fn,()):=by
 have hlen:=OK hp (fn:=fn)
 have hf:=hp.f
 have h:=Ao (step:=Ex) (fnN p fn) (NM p) (fun i o=>(o,fnN p fn,(i:Int),p,())) (fun o=>(o,())) (fun _ o=>Rg p.2.length o) (fun i hi o ho=>by
  refine⟨?_,RX ho _⟩
  have hol:=ho.len
  have hid:∀ {α:Type} {K:Option α},(Cnd.idx (fnN p fn)[i] p.1.length).run K=K:=fun {α K}=>AU (Qd (List.getElem_mem hi)).1
  simp only [Ex,AR hi,decide_true,cond_true,AK hi,AP hi,hid,NM]
  by_cases h12:(rd p.1 (fnN p fn)[i] zN).1=12
  ·simp only [h12,ne_eq,not_true_eq_false,decide_false,decide_true,cond_true,cond_false,Me p hp,Option.bind_some]
   by_cases h0:(0:Int)≤CH p.2 (rd p.1 (fnN p fn)[i] zN).2.2.1
   ·simp only [h0,decide_true,cond_true,kS o _ (by omega),Option.bind_some,AA,Option.map_some,AI (show i<9223372036854775807 by omega)]
   ·simp only [h0,decide_false,cond_false,AA,Option.map_some,AI (show i<9223372036854775807 by omega)]
  ·simp only [h12,ne_eq,not_false_eq_true,decide_false,decide_true,cond_true,cond_false,AA,Option.map_some,AI (show i<9223372036854775807 by omega)]) (fun o ho=>by
  simp only [Ex,AJ,decide_false,cond_false,Option.map_some]) [] (Si _)
 have h':AD Ex ([],fnN p fn,(0:Int),p,())=_:=h.1
 unfold Jq JT;rw [RL p hp,Option.bind_some];simp only [Option.bind_some,h',AA]
theorem Ui (p:PROG) (hp:FineP p) (fn:Int):JX p fn=some (JT p fn,()):=by
 have hlen:=OK hp (fn:=fn)
 have hf:=hp.f
 have h:=Ao (step:=Er) (fnN p fn) (NM p) (fun i o=>(o,fnN p fn,((fnN p fn).length:Int),(i:Int),p,())) (fun o=>(o,())) (fun _ o=>Rg p.2.length o) (fun i hi o ho=>by
  refine⟨?_,RX ho _⟩
  have hol:=ho.len
  have hid:∀ {α:Type} {K:Option α},(Cnd.idx (fnN p fn)[i] p.1.length).run K=K:=fun {α K}=>AU (Qd (List.getElem_mem hi)).1
  simp only [Er,AR hi,decide_true,cond_true,AK hi,AP hi,hid,NM]
  by_cases h12:(rd p.1 (fnN p fn)[i] zN).1=12
  ·simp only [h12,decide_true,cond_true,MQ p hp,Option.bind_some]
   by_cases h0:(0:Int)≤CH p.2 (rd p.1 (fnN p fn)[i] zN).2.2.1
   ·simp only [h0,decide_true,cond_true,Rm o _ (show o.length≤4000000 by omega),Option.bind_some,AA,Bi];cases BK o (CH p.2 (rd p.1 (fnN p fn)[i] zN).2.2.1)
    ·simp only [Bool.not_false,cond_true,cond_false];rw [Am (by simp;omega)];simp only [AA,Option.map_some,AI (show i<9223372036854775807 by omega)]
    ·simp only [Bool.not_true,cond_true,cond_false,AA,Option.map_some,AI (show i<9223372036854775807 by omega)]
   ·simp only [h0,decide_false,cond_false,AA,Option.map_some,AI (show i<9223372036854775807 by omega)]
  ·simp only [h12,decide_false,cond_false,AA,Option.map_some,AI (show i<9223372036854775807 by omega)]) (fun o ho=>by
  simp only [Er,AJ,decide_false,cond_false,Option.map_some]) [] (Si _)
 have h':AD Er ([],fnN p fn,((fnN p fn).length:Int),(0:Int),p,())=_:=h.1
 unfold JX JT;rw [RG p hp,Option.bind_some];simp only [Option.bind_some,h',AA]
def Cd (n:Nat) (o:List Int):List Bool:=(List.range n).map fun(t:Nat)=>BK o (t:Int)
theorem MV (n:Nat) (o:List Int):(Cd n o).length=n:=by simp [Cd]
theorem XZ {n:Nat} {o:List Int} {t:Nat} (h:t<n):rd (Cd n o) (t:Int) false=BK o (t:Int):=by
 rw [AP (by rw [MV];exact h)];simp [Cd]
theorem WB {n:Nat} {o:List Int} {t:Nat} (h:t<n) (hh:BK o (t:Int)=false):(Cd n o).set t true=Cd n (Bi o (t:Int)):=by
 refine List.ext_getElem (by simp [Cd]) fun i h1 h2=>?_
 have hi:i<n:=by simpa [Cd] using h2
 rw [List.getElem_set];have e:(Cd n (Bi o (t:Int)))[i]=BK (Bi o (t:Int)) (i:Int):=by simp [Cd]
 have e2:(Cd n o)[i]'(by rw [MV];exact hi)=BK o (i:Int):=by simp [Cd]
 rw [e]
 by_cases hti:t=i
 ·subst hti;rw [if_pos rfl];exact(Ea.2 (MU.2 (.inr rfl))).symm
 ·rw [if_neg hti,e2];cases hb:BK o (i:Int)
  ·symm
   rw [← Bool.not_eq_true,Ea,MU]
   rintro (h | h)
   ·rw [Ea.2 h] at hb;cases hb
   ·omega
  ·exact(Ea.2 (MU.2 (.inl (Ea.1 hb)))).symm
theorem WH (p:PROG) (hp:FineP p) (i:Int) (ys o:List Int) (hy:∀ y∈ys,0≤y∧y<(p.2.length:Int)) (hyl:ys.length≤1048576) (ho:Rg p.2.length o):
 AD DV ([],Cd p.2.length o,o,i,ys,(0:Int),p,())=some ([],Cd p.2.length (ys.foldl Bi o),ys.foldl Bi o,i,p,()):=by
 have hf:=hp.f
 have h:=Ao (step:=DV) ys Bi (fun k o=>([],Cd p.2.length o,o,i,ys,(k:Int),p,())) (fun o=>([],Cd p.2.length o,o,i,p,())) (fun _ o=>Rg p.2.length o) (fun k hk o ho=>by
  have hyk:=hy _ (List.getElem_mem hk)
  refine⟨?_,ho.add hyk⟩
  have hlen:=ho.len
  obtain⟨t,ht⟩:∃ t:Nat,ys[k]=(t:Int):=⟨ys[k].toNat,by omega⟩
  have htn:t<p.2.length:=by omega
  have htm:t<(Cd p.2.length o).length:=by rw [MV];exact htn
  simp only [DV,AR hk,decide_true,cond_true,AK hk,AP hk,ht,AK htm,XZ htn,Bi];cases hh:BK o (t:Int)
  ·have hs:=WB htn hh
   rw [Bi,hh,cond_false] at hs;simp only [Bool.not_false,cond_true,cond_false,CM,Int.toNat_natCast,hs];rw [Am (by simp;omega)];simp only [AA,Option.map_some,AI (show k<9223372036854775807 by omega)]
  ·simp only [Bool.not_true,cond_true,cond_false,AA,Option.map_some,AI (show k<9223372036854775807 by omega)]) (fun o ho=>by
  simp only [DV,AJ,decide_false,cond_false,Option.map_some]) o ho
 exact h.1
theorem WG (p:PROG) (hp:FineP p) (i:Int) (ys o:List Int) (hy:∀ y∈ys,0≤y∧y<(p.2.length:Int)) (hyl:ys.length≤1048576) (ho:Rg p.2.length o):
 AD DS (o,i,ys,(ys.length:Int),(0:Int),p,())=some (ys.foldl Bi o,i,p,()):=by
 have hf:=hp.f
 have h:=Ao (step:=DS) ys Bi (fun k o=>(o,i,ys,(ys.length:Int),(k:Int),p,())) (fun o=>(o,i,p,())) (fun _ o=>Rg p.2.length o) (fun k hk o ho=>by
  refine⟨?_,ho.add (hy _ (List.getElem_mem hk))⟩
  have hlen:=ho.len
  simp only [DS,AR hk,decide_true,cond_true,AK hk,AP hk,Rm o _ (show o.length≤4000000 by omega),Option.bind_some,Bi];cases BK o ys[k]
  ·simp only [Bool.not_false,cond_true,cond_false,Am (show(o.length+[ys[k]].length) * 8≤140737488355328 by simp;omega),AA,Option.map_some,AI (show k<9223372036854775807 by omega)]
  ·simp only [Bool.not_true,cond_true,cond_false,AA,Option.map_some,AI (show k<9223372036854775807 by omega)]) (fun o ho=>by
  simp only [DS,AJ,decide_false,cond_false,Option.map_some]) o ho
 exact h.1
theorem XA (p:PROG) (hp:FineP p):∀ (m i:Nat) (o:List Int),p.2.length≤i+m→i≤o.length→Rg p.2.length o →
 ∃ o',AD Bz ([],Cd p.2.length o,o,(i:Int),p,())=some ([],Cd p.2.length o',())∧AD Bx (o,(i:Int),p,())=some (o',())∧Rg p.2.length o':=by
 have hf:=hp.f
 have done:∀ (i:Nat) (o:List Int),i=o.length→Rg p.2.length o→∃ o',AD Bz ([],Cd p.2.length o,o,(i:Int),p,())=some ([],Cd p.2.length o',())∧AD Bx (o,(i:Int),p,())=some (o',())∧Rg p.2.length o':=fun i o hi h=>by
  subst hi;refine⟨o,Ay ?_,Ay ?_,h⟩
  ·simp only [Bz,AJ,decide_false,cond_false,Option.map_some]
  ·simp only [Bx,AJ,decide_false,cond_false,Option.map_some]
 intro m
 induction m with
 | zero=>
  intro i o hm hi h;have:=h.len
  exact done i o (by omega) h
 | succ m ih=>
  intro i o hm hi h;rcases Nat.lt_or_ge i o.length with hio | hio
  ·have hc:=cU p o[i]
   have hcl:=hc.len
   have hol:=h.len
   have hS:=WH p hp (i:Int) (JT p o[i]) o hc.2 (by omega) h
   have hI:=WG p hp (i:Int) (JT p o[i]) o hc.2 (by omega) h
   have wi:=AI (show i<9223372036854775807 by omega)
   have hstS:Bz ([],Cd p.2.length o,o,(i:Int),p,())=some (.inl ([],Cd p.2.length ((JT p o[i]).foldl Bi o),(JT p o[i]).foldl Bi o,((i+1:Nat):Int),p,())):=by
    simp only [Bz,AR hio,decide_true,cond_true,AK hio,AP hio,Un p hp,Option.bind_some,hS,AA,Option.map_some,wi]
   have hstI:Bx (o,(i:Int),p,())=some (.inl ((JT p o[i]).foldl Bi o,((i+1:Nat):Int),p,())):=by
    simp only [Bx,AR hio,decide_true,cond_true,AK hio,AP hio,Ui p hp,Option.bind_some,hI,AA,Option.map_some,wi]
   rw [BF hstS,BF hstI];have hpre:=(QN (JT p o[i]) o).length_le
   exact ih (i+1) _ (by omega) (by omega) (MP _ _ hc.2 h)
  ·exact done i o (by omega) h
theorem cB {α:Type} {n a b:Nat} {K:Option α} (h:a≤b):(Cnd.both (Cnd.nn (n:Int)) (Cnd.le a b)).run K=K:=by
 show(Cnd.nn (n:Int)).run ((Cnd.le a b).run K)=K
 rw [jk,Am h]
theorem Rj {l:List Int} {n:Int}:BK l n=false↔¬ n∈l:=by rw [← Bool.not_eq_true,Ea]
structure Rch (p:PROG) (fn:Int) (r:List Int):Prop where
 s:FT p fn=some (r,())
 i:FL p fn=some (r,())
 o:r.Pairwise (· < ·)
 g:Rg p.2.length r
theorem ZG (p:PROG) (hp:FineP p) (fn:Int):∃ r,Rch p fn r:=by
 have hf:=hp.f
 by_cases hr:0≤fn∧fn≤(p.2.length:Int) - 1
 case neg=>
  refine⟨[],?_,?_,List.Pairwise.nil,Si _⟩
  ·unfold FT;rw [It hp,sIn,Option.bind_some];simp only [hr,decide_false,Bool.not_false,cond_true]
  ·unfold FL;rw [It hp,iIn,Option.bind_some];simp only [hr,decide_false,Bool.not_false,cond_true]
 obtain⟨t,rfl⟩:∃ t:Nat,fn=(t:Int):=⟨fn.toNat,by omega⟩
 have ht:t<p.2.length:=by omega
 have h0:Rg p.2.length [(t:Int)]:=⟨by simp,fun x hx=>by simp at hx;omega⟩
 obtain⟨o,h1,h2,h3⟩:=XA p hp p.2.length 0 [(t:Int)] (by omega) (by simp) h0;have hm0:(List.replicate p.2.length false).set t true=Cd p.2.length [(t:Int)]:=by
  have e:List.replicate p.2.length false=Cd p.2.length []:=by
   refine List.ext_getElem (by simp [Cd]) fun i a b=>?_
   simp [Cd,BK]
  rw [e,WB ht (by simp [BK])];rfl
 have h1':AD Bz ([],Cd p.2.length [(t:Int)],[(t:Int)],(0:Int),p,())=_:=h1
 have h2':AD Bx ([(t:Int)],(0:Int),p,())=_:=h2
 have hsrt:((List.range p.2.length).filter fun(t:Nat)=>BK o (t:Int)).map (fun(t:Nat)=>(t:Int))=srt o:=by
  refine Lj _ _ ?_ (Lm h3.1) fun x=>?_
  ·rw [List.pairwise_map];refine List.Pairwise.imp ?_ ((List.pairwise_lt_range (n:=p.2.length)).filter _)
   intro a b h;omega
  ·rw [Qh,List.mem_map];constructor
   ·rintro ⟨t,ht,rfl⟩
    exact Ea.1 (List.mem_filter.1 ht).2
   ·intro hx;have:=h3.2 x hx
    exact⟨x.toNat,List.mem_filter.2 ⟨List.mem_range.2 (by omega),by rw [show((x.toNat:Nat):Int)=x by omega];exact Ea.2 hx⟩,by omega⟩
 have hL3:AD Dc ([],Cd p.2.length o,(0:Int),())=some (srt o,()):=by
  have h:=Ao (step:=Dc) (List.range p.2.length) (fun o' t=>bif BK o (t:Int) then o'++[(t:Int)] else o') (fun i o'=>(o',Cd p.2.length o,(i:Int),())) (fun o'=>(o',())) (fun i o'=>o'.length≤i) (fun i hi o' ho'=>by
   have hi':i<p.2.length:=by simpa using hi
   have hi2:i<(Cd p.2.length o).length:=by rw [MV];exact hi'
   simp only [Dc,AR hi2,decide_true,cond_true,AK hi2,XZ hi',List.getElem_range];cases BK o (i:Int)
   ·simp only [cond_false,AA,Option.map_some,AI (show i<9223372036854775807 by omega)];exact⟨by trivial,by omega⟩
   ·simp only [cond_true];rw [Am (by simp;omega)];simp only [AA,Option.map_some,AI (show i<9223372036854775807 by omega)];exact⟨by trivial,by simp;omega⟩) (fun o' _=>by
   simp only [Dc,List.length_range,MV,AJ,decide_false,cond_false,Option.map_some]) [] (Nat.le_refl 0)
  have h':=h.1
  rw [Cn,List.nil_append,hsrt] at h';exact h'
 refine⟨srt o,?_,?_,Lm h3.1,⟨(List.mergeSort_perm o _).nodup_iff.2 h3.1,fun x hx=>h3.2 x ((Qh o x).1 hx)⟩⟩
 ·unfold FT;rw [It hp,sIn,Option.bind_some];simp only [hr,and_self,decide_true,Bool.not_true,cond_false];rw [show(List.length p.2:Int).toNat=p.2.length from Int.toNat_natCast _,cB (by omega),AK (show t<(List.replicate p.2.length false).length by simpa using ht)];simp only [CM,Int.toNat_natCast,hm0,Option.bind_some,h1',AA,hL3]
 ·unfold FL;rw [It hp,iIn,Option.bind_some];have hol:=h3.len
  simp only [hr,and_self,decide_true,Bool.not_true,cond_false,Option.bind_some,h2',AA,Qe o (by omega)]
set_option maxRecDepth 100000
def NQ (n:Nat) (r:List Int):List Int:=((List.range n).filter fun(t:Nat)=>!BK r (t:Int)).map fun(t:Nat)=>(t:Int)
theorem Zr (n:Nat) (r:List Int):(NQ n r).length≤n:=by
 unfold NQ;rw [List.length_map];exact Nat.le_trans (IB ..) (by simp)
theorem Wn (n:Nat) (r:List Int):(NQ n r).Nodup:=by
 unfold NQ;have:(((List.range n).filter fun(t:Nat)=>!BK r (t:Int)).map fun(t:Nat)=>(t:Int)).Pairwise (· < ·):=by
  rw [List.pairwise_map];refine List.Pairwise.imp ?_ ((List.pairwise_lt_range (n:=n)).filter _)
  intro a b h;omega
 exact this.imp fun {a b} h=>by omega
theorem Ye (p:PROG) (hf:p.2.length≤1048576) (r:List Int) (hr:r.Pairwise (· < ·)) (hrl:r.length≤1048576):∀ (m k:Nat) (a b out:List Int),k+m=p.2.length→r=a++b→(∀ x∈a,x<(k:Int))→(∀ x∈b,(k:Int)≤x)→out.length≤k →
 AD Bh (out,r,(a.length:Int),(k:Int),p,())=some (out++((List.range' k m).filter fun(t:Nat)=>!BK r (t:Int)).map (fun(t:Nat)=>(t:Int)),()):=by
 intro m
 induction m with
 | zero=>
  intro k a b out hk hab ha hb ho;obtain rfl:k=p.2.length:=by omega
  rw [Ay (r:=(out,())) (by simp only [Bh,AJ,decide_false,cond_false,Option.map_some])];simp
 | succ m ih=>
  intro k a b out hk hab ha hb ho;have hkl:k<p.2.length:=by omega
  have wk:=AI (show k<9223372036854775807 by omega)
  have hal:a.length≤1048576:=by rw [hab] at hrl;simp at hrl;omega
  have wa:=AI (show a.length<9223372036854775807 by omega)
  have stay:(∀ x∈b,((k+1:Nat):Int)≤x)→BK r (k:Int)=false→Bh (out,r,(a.length:Int),(k:Int),p,())=some (.inl (out++[(k:Int)],r,(a.length:Int),((k+1:Nat):Int),p,()))→AD Bh (out,r,(a.length:Int),(k:Int),p,())=some (out++((List.range' k (m+1)).filter fun(t:Nat)=>!BK r (t:Int)).map (fun(t:Nat)=>(t:Int)),()):=fun hb2 hno hst=>by
   rw [BF hst,ih (k+1) a b _ (by omega) hab (fun x hx=>by have:=ha x hx;omega) hb2 (by simp;omega),List.range'_succ,List.filter_cons];rw [hno];simp
  cases b with
  | nil=>
   have hra:r=a:=by simpa using hab
   have hno:BK r (k:Int)=false:=by
    rw [Rj,hra];intro h;have:=ha _ h;omega
   refine stay (fun x hx=>by simp at hx) hno ?_
   have hnl:¬ ((a.length:Int)<(r.length:Int)):=by rw [hra];omega
   simp only [Bh,AR hkl,decide_true,cond_true,hnl,decide_false,cond_false,AA];rw [Am (by simp;omega)];simp only [AA,Option.map_some,wk]
  | cons x b=>
   have hlt:a.length<r.length:=by rw [hab];simp
   have hget:r[a.length]=x:=by simp [hab]
   by_cases hx:x=(k:Int)
   ·have hin:BK r (k:Int)=true:=by rw [Ea,hab,← hx];simp
    have hst:Bh (out,r,(a.length:Int),(k:Int),p,())=some (.inl (out,r,((a.length+1:Nat):Int),((k+1:Nat):Int),p,())):=by
     simp only [Bh,AR hkl,decide_true,cond_true,AR hlt,AK hlt,AP hlt,hget,hx,AA,Option.map_some,wk,wa]
    have hbx:∀ y∈b,x<y:=by
     rw [hab] at hr;have:=(List.pairwise_append.1 hr).2.1
     exact(List.pairwise_cons.1 this).1
    have e:((a.length+1:Nat):Int)=((a++[x]).length:Int):=by simp
    rw [BF hst,e,ih (k+1) (a++[x]) b out (by omega) (by rw [hab];simp) (fun y hy=>by
     rcases List.mem_append.1 hy with h | h
     ·have:=ha y h;omega
     ·simp at h;omega) (fun y hy=>by have:=hbx y hy;omega) (by omega),List.range'_succ,List.filter_cons]
    rw [hin];simp
   ·have hbx:∀ y∈(x::b),x≤y:=by
     rw [hab] at hr;have:=(List.pairwise_append.1 hr).2.1
     intro y hy;rcases List.mem_cons.1 hy with h | h
     ·omega
     ·have:=(List.pairwise_cons.1 this).1 y h;omega
    have hkx:(k:Int)<x:=by have:=hb x (List.mem_cons_self ..);omega
    have hno:BK r (k:Int)=false:=by
     rw [Rj,hab];intro h;rcases List.mem_append.1 h with h | h
     ·have:=ha _ h;omega
     ·have:=hbx _ h;omega
    refine stay (fun y hy=>by have:=hbx y hy;omega) hno ?_
    simp only [Bh,AR hkl,decide_true,cond_true,AR hlt,AK hlt,AP hlt,hget,hx,decide_false,cond_false,AA];rw [Am (by simp;omega)];simp only [AA,Option.map_some,wk]
theorem Zs (p:PROG) (hp:FineP p):∃ r,Jr p=some (NQ p.2.length r,())∧JY p=some (NQ p.2.length r,()):=by
 have hf:=hp.f
 obtain⟨r,R⟩:=ZG p hp ((p.2.length:Int) - 1);have hrl:=R.g.len
 refine⟨r,?_,?_⟩
 ·have h:=Ye p hf r R.o (by omega) p.2.length 0 [] r [] (by omega) rfl (fun x hx=>by simp at hx) (fun x hx=>(R.g.2 x hx).1) (Nat.le_refl _)
  have h':AD Bh ([],r,(0:Int),(0:Int),p,())=_:=h
  unfold Jr;rw [It hp,R.s,Option.bind_some];simp only [Option.bind_some,h',AA,List.nil_append,NQ,List.range_eq_range']
 ·have h:=Ao (step:=Et) (List.range p.2.length) (fun o t=>bif !BK r (t:Int) then o++[(t:Int)] else o) (fun i o=>(r,o,(p.2.length:Int),(i:Int),())) (fun o=>(o,())) (fun i o=>o.length≤i) (fun i hi o ho=>by
   have hi':i<p.2.length:=by simpa using hi
   simp only [Et,AR hi',decide_true,cond_true,Rm r _ (show r.length≤4000000 by omega),Option.bind_some,List.getElem_range];cases BK r (i:Int)
   ·simp only [Bool.not_false,cond_true];rw [Am (by simp;omega)];simp only [AA,Option.map_some,AI (show i<9223372036854775807 by omega)];exact⟨by trivial,by simp;omega⟩
   ·simp only [Bool.not_true,cond_false,AA,Option.map_some,AI (show i<9223372036854775807 by omega)];exact⟨by trivial,by omega⟩) (fun o _=>by
   simp only [Et,List.length_range,AJ,decide_false,cond_false,Option.map_some]) [] (Nat.le_refl 0)
  have h':AD Et (r,[],(p.2.length:Int),(0:Int),())=_:=h.1
  unfold JY;rw [It hp,R.i,Option.bind_some];simp only [Option.bind_some,h',AA];rw [Cn,List.nil_append];rfl
def Qr (p:PROG) (d:List Int) (i:Nat) (o:List Bl):List Bl:=bif BK d (i:Int) then o++[((5:Int),((i:Int),(rd p.2 (i:Int) zF).1))] else o
def Nw (p:PROG) (d:List Int) (o:List Bl) (i:Nat):List Bl:=Qr p d i (o++Gz p (i:Int))
theorem Pz (w:List Bl) (i:Int):∀ (d:List Int) (o:List Bl),d.Nodup→d.foldl (fun o x=>bif decide (x=i) then o++w else o) o=bif BK d i then o++w else o
 | [],o,_=>by simp [BK]
 | x::d,o,h=>by
  rw [List.nodup_cons] at h;rw [List.foldl_cons]
  by_cases hx:x=i
  ·subst hx;rw [decide_eq_true rfl,cond_true,Pz w x d _ h.2,Rj.2 h.1];simp [BK]
  ·rw [decide_eq_false hx,cond_false,Pz w i d _ h.2];have:BK (x::d) i=BK d i:=by unfold BK;rw [List.any_cons,decide_eq_false hx,Bool.false_or]
   rw [this]
theorem PU (p:PROG) (fn:Int):(Gz p fn).length≤9927:=by
 have h1:=Qa p fn
 have h2:=Ni (Gz p fn)
 omega
theorem bA (p:PROG) (d:List Int) (i:Nat) (o:List Bl):(Qr p d i o).length≤o.length+1:=by unfold Qr;cases BK d (i:Int)<;>simp
theorem Wi (p:PROG) (d:List Int) (i:Nat) (o:List Bl):(Nw p d o i).length≤o.length+9928:=by
 have h1:=bA p d i (o++Gz p (i:Int))
 have h2:=PU p (i:Int)
 unfold Nw;rw [List.length_append] at h1;omega
theorem YN (p:PROG) (i:Nat) (hi:i<p.2.length) (d:List Int) (hd:d.Nodup) (hdl:d.length≤1048576) (o:List Bl) (ho:o.length≤10000000):
 AD Ez (o,d,(i:Int),(0:Int),p,())=some (Qr p d i o,d,(i:Int),p,()):=by
 have h:=Ao (step:=Ez) d (fun o x=>bif decide (x=(i:Int)) then o++[((5:Int),((i:Int),(rd p.2 (i:Int) zF).1))] else o) (fun k o=>(o,d,(i:Int),(k:Int),p,())) (fun o=>(o,d,(i:Int),p,())) (fun k o=>o.length≤10000000+k) (fun k hk o ho=>by
  simp only [Ez,AR hk,decide_true,cond_true,AK hk,AP hk,AK hi];cases decide (d[k]=(i:Int))
  ·simp only [cond_false,AA,Option.map_some,AI (show k<9223372036854775807 by omega)];exact⟨by trivial,by omega⟩
  ·simp only [cond_true];rw [Am (by simp;omega)];simp only [AA,Option.map_some,AI (show k<9223372036854775807 by omega)];exact⟨by trivial,by simp;omega⟩) (fun o _=>by
  simp only [Ez,AJ,decide_false,cond_false,Option.map_some]) o (by omega)
 have h':=h.1
 rw [Pz _ _ d o hd] at h';exact h'
def Kh (p:PROG) (d:List Int):List Bl:=bif BX p then (List.range p.2.length).foldl (Nw p d) [] else []
theorem bq (p:PROG) (hp:FineP p):∃ d,Jt p=some (Kh p d,())∧Jc p=some (Kh p d,()):=by
 have hf:=hp.f
 obtain⟨r,d1,d2⟩:=Zs p hp;have hnd:=Wn p.2.length r
 have hdl:=Zr p.2.length r
 generalize NQ p.2.length r=d at d1 d2 hnd hdl;refine⟨d,?_,?_⟩
 ·unfold Jt Kh;rw [Pi p hp,Option.bind_some];cases hn:BX p
  ·simp only [Bool.not_false,cond_true,cond_false]
  have P:POK p:=by
   unfold BX at hn;rw [Bool.and_eq_true] at hn;exact OW hn.1
  have h8:=P.m
  have h:=Ao (step:=FG) (List.range p.2.length) (Nw p d) (fun i o=>(o,d,(i:Int),p,())) (fun o=>(o,())) (fun i o=>o.length≤9928 * i) (fun i hi o ho=>by
   have hi':i<p.2.length:=by simpa using hi
   have hwl:=PU p (i:Int)
   have hal:=Wi p d i o
   have hin:=YN p i hi' d hnd (by omega) (o++Gz p (i:Int)) (by rw [List.length_append];omega)
   simp only [FG,AR hi',decide_true,cond_true,QU p hp,Option.bind_some,List.getElem_range];rw [Am (by omega)];simp only [hin,AA,Option.map_some,AI (show i<9223372036854775807 by omega)];exact⟨by trivial,by omega⟩) (fun o _=>by
   simp only [FG,List.length_range,AJ,decide_false,cond_false,Option.map_some]) [] (Nat.le_refl 0)
  have h':AD FG ([],d,(0:Int),p,())=_:=h.1
  simp only [Bool.not_true,cond_false,cond_true,d1,Option.bind_some,h',AA]
 ·unfold Jc Kh;rw [Pb p hp,Option.bind_some];cases hn:BX p
  ·simp only [Bool.not_false,cond_true,cond_false]
  have P:POK p:=by
   unfold BX at hn;rw [Bool.and_eq_true] at hn;exact OW hn.1
  have h8:=P.m
  have h:=Ao (step:=Eu) (List.range p.2.length) (Nw p d) (fun i o=>(d,o,p.2,(p.2.length:Int),(i:Int),p,())) (fun o=>(o,())) (fun i o=>o.length≤9928 * i) (fun i hi o ho=>by
   have hi':i<p.2.length:=by simpa using hi
   have hwl:=PU p (i:Int)
   have hal:=Wi p d i o
   simp only [Eu,AR hi',decide_true,cond_true,AK hi',QE p hp,Option.bind_some,List.getElem_range];rw [Am (by omega)];rw [Rm d _ (by omega),Option.bind_some];refine⟨?_,by omega⟩
   simp only [Nw,Qr];cases BK d (i:Int)
   ·simp only [cond_false,AA,Option.map_some,AI (show i<9223372036854775807 by omega)]
   ·simp only [cond_true];rw [Am (by rw [List.length_append];simp;omega)];simp only [AA,Option.map_some,AI (show i<9223372036854775807 by omega)]) (fun o _=>by
   simp only [Eu,List.length_range,AJ,decide_false,cond_false,Option.map_some]) [] (Nat.le_refl 0)
  have h':AD Eu (d,[],p.2,(p.2.length:Int),(0:Int),p,())=_:=h.1
  simp only [Bool.not_true,cond_false,cond_true,d2,Option.bind_some,h',AA]
theorem ZY (p:PROG) (d:List Int):wW (Kh p d)≤100000:=by
 unfold Kh;cases hn:BX p
 ·rw [cond_false,Ni];simp
 have P:POK p:=by
  unfold BX at hn;rw [Bool.and_eq_true] at hn;exact OW hn.1
 have h8:=P.m
 rw [cond_true];have key:∀ (l:List Nat) (o:List Bl),(∀ i∈l,i<p.2.length)→wW (l.foldl (Nw p d) o)≤wW o+9936 * l.length:=by
  intro l
  induction l with
  | nil=>intro o _;exact Nat.le_refl _
  | cons i l ih=>
   intro o hl;have h1:=ih (Nw p d o i) fun j hj=>hl j (List.mem_cons_of_mem _ hj)
   have h2:=Qa p (i:Int)
   have h3:=(Vp P (hl i (List.mem_cons_self ..))).1
   have h4:wW (Nw p d o i)≤wW o+9936:=by
    unfold Nw Qr;cases BK d (i:Int)
    ·rw [cond_false,Od];omega
    ·rw [cond_true,Od,Od,Sv];simp only;omega
   simp only [List.foldl_cons,List.length_cons,Nat.mul_add];omega
 have h1:=key (List.range p.2.length) [] (fun i hi=>List.mem_range.1 hi)
 have h2:wW []=0:=rfl
 rw [List.length_range] at h1;omega
namespace WarnAll
end WarnAll
set_option maxRecDepth 100000
namespace SameBlocks
theorem both (c:PROG) (h:FineN c.1) (n:Int):∃ v,Cv c n=some (v,())∧Cq c n=some (v,()):=by
 unfold Cv Cq;simp only [GL _ h,IC _ h,Option.bind_some]
 by_cases hz:AW c.1 n=0
 ·exact⟨false,by simp only [hz,decide_true,cond_true,AA],by simp only [hz,decide_true,cond_true,AA]⟩
 have hp:=NV hz
 obtain⟨hr,hok,hd⟩:=Ae hp;simp only [hz,decide_false,cond_false,AU hr,AA]
 by_cases h16:(rd c.1 n zN).1=16
 case neg=>exact⟨false,by simp only [h16,ne_eq,not_false_eq_true,decide_true,cond_true],by simp only [h16,ne_eq,not_false_eq_true,decide_true,cond_true]⟩
 simp only [h16,ne_eq,not_true_eq_false,decide_false,cond_false];have hlen:(rd c.1 n zN).2.2.2.length=3:=by
  simp only [BT,Dx,Bool.and_eq_true,decide_eq_true_eq,h16] at hok;have:=hok.2.2.1
  have e:kr 16=(3,3):=rfl
  rw [e] at this;simp only at this;omega
 have k1:=Bm hp (i:=1) (by omega)
 have k2:=Bm hp (i:=2) (by omega)
 have e1:rd (rd c.1 n zN).2.2.2 (1:Int) (0:Int)=(rd c.1 n zN).2.2.2.getD 1 0:=rfl
 have e2:rd (rd c.1 n zN).2.2.2 (2:Int) (0:Int)=(rd c.1 n zN).2.2.2.getD 2 0:=rfl
 have hS:=Mg c c h h ((rd c.1 n zN).2.2.2.getD 1 0) ((rd c.1 n zN).2.2.2.getD 2 0)
 have hI:=QF c c h ((rd c.1 n zN).2.2.2.getD 1 0) ((rd c.1 n zN).2.2.2.getD 2 0) k1.1 k2.1
 have eT:Qo c.1 c.1 ((rd c.1 n zN).2.2.2.getD 1 0) ((rd c.1 n zN).2.2.2.getD 2 0)=sm c.1 c.1 ((rd c.1 n zN).2.2.2.getD 1 0) ((rd c.1 n zN).2.2.2.getD 2 0):=by
  unfold Qo;rw [decide_eq_true k1.1,decide_eq_true k2.1,Bool.true_and,Bool.true_and]
 rw [eT] at hS;refine⟨sm c.1 c.1 ((rd c.1 n zN).2.2.2.getD 1 0) ((rd c.1 n zN).2.2.2.getD 2 0),?_,?_⟩
 ·rw [AU (show(0:Int)≤1∧(1:Int)<((rd c.1 n zN).2.2.2.length:Int) by omega),AU (show(0:Int)≤2∧(2:Int)<((rd c.1 n zN).2.2.2.length:Int) by omega),e1,e2,hS];rfl
 ·rw [AU (show(0:Int)≤1∧(1:Int)<((rd c.1 n zN).2.2.2.length:Int) by omega),AU (show(0:Int)≤2∧(2:Int)<((rd c.1 n zN).2.2.2.length:Int) by omega),e1,e2,hI];rfl
end SameBlocks
namespace ShowWarn
abbrev W:=Int×(Int×ByteArray)
def kinds:List ByteArray:=[Ke,CW,DP,Cu,Ct,DN]
def kt (k:Int):ByteArray:=if 1≤k∧k≤5 then kinds.getD k.toNat ⟨#[]⟩ else Ke
theorem XX (k:Int):(kt k).size≤10:=by
 unfold kt;split
 ·rename_i h;have:k.toNat=1∨k.toNat=2∨k.toNat=3∨k.toNat=4∨k.toNat=5:=by omega
  rcases this with h | h | h | h | h<;>rw [h]<;>decide
 ·decide
def txt (w:W):ByteArray:=((itb (if w.2.1<0 then 0 else w.2.1)++s___36a9)++kt w.1)++(if w.2.2=(⟨#[]⟩:ByteArray) then ⟨#[]⟩ else s___36a9++w.2.2)
theorem sIn (a b c:Int):Az a b c=some (decide (b≤a∧a≤c),()):=by
 unfold Az
 by_cases h:b≤a<;>simp [h,joinP]
theorem iIn (a b c:Int):BJ a b c=some (decide (b≤a∧a≤c),()):=by
 unfold BJ
 by_cases h:b≤a<;>simp [h,joinP]
theorem XL (a:ByteArray):a++(⟨#[]⟩:ByteArray)=a:=by apply ByteArray.ext;simp
theorem spec_ok (w:W) (h0:-9223372036854775808≤w.2.1) (h1:w.2.1≤9223372036854775807) (hs:w.2.2.size≤1048576):Ix w=some (txt w,()):=by
 have e1:s___36a9.size=1:=rfl
 have hnum:Il w.2.1=some (itb (if w.2.1<0 then 0 else w.2.1),()):=by
  unfold Il
  by_cases hn:w.2.1<0
  ·simp only [hn,decide_true,cond_true,if_true];have:itb 0=s_0_5fec:=by
    have:Lib.itoa 0=[48]:=by
     unfold Lib.itoa;rw [if_neg (by omega)];exact Lib.decDigits_one (by omega)
    unfold itb;rw [this];rfl
   rw [this]
  ·simp only [hn,decide_false,cond_false,if_false,HU _ h0 h1,Option.bind_some]
 have hz:(itb (if w.2.1<0 then 0 else w.2.1)).size≤21:=by
  split
  ·exact KW (by omega) (by omega)
  ·exact KW h0 h1
 have hk:=XX w.1
 have key:∀ (k:Int),kinds.getD k.toNat ⟨#[]⟩=kt w.1→0≤k→k<6→((Il w.2.1).bind fun y3=>(Cnd.le (y3.1.size+s___36a9.size) AY).run ((Cnd.idx k (List.length kinds)).run ((Cnd.le ((y3.1++s___36a9).size+(rd kinds k (⟨#[]⟩:ByteArray)).size) AY).run (joinP (bif decide (w.2.2≠(⟨#[]⟩:ByteArray)) then (Cnd.le (((y3.1++s___36a9)++(rd kinds k (⟨#[]⟩:ByteArray))).size+s___36a9.size) AY).run ((Cnd.le ((((y3.1++s___36a9)++(rd kinds k (⟨#[]⟩:ByteArray)))++s___36a9).size+w.2.2.size) AY).run (some ((((y3.1++s___36a9)++(rd kinds k (⟨#[]⟩:ByteArray)))++s___36a9)++w.2.2,()))) else some ((y3.1++s___36a9)++(rd kinds k (⟨#[]⟩:ByteArray)),())) fun x4=>some (x4.1,())))))=some (txt w,()):=by
  intro k hkt k0 k6;have hrd:rd kinds k (⟨#[]⟩:ByteArray)=kt w.1:=hkt
  rw [hnum];simp only [Option.bind_some,hrd];rw [Am (by simp only [AY];omega)];have hidx:∀ {K:Option (ByteArray×Unit)},(Cnd.idx k (List.length kinds)).run K=K:=by
   intro K;simp only [Cnd.run];rw [if_pos (by have:List.length kinds=6:=rfl;omega)]
  rw [hidx,Am (by rw [ByteArray.size_append];simp only [AY];omega)]
  by_cases hw:w.2.2=(⟨#[]⟩:ByteArray)
  ·simp only [hw,ne_eq,not_true_eq_false,decide_false,cond_false,AA,txt,if_true,XL]
  ·simp only [hw,ne_eq,not_false_eq_true,decide_true,cond_true,txt,if_false];rw [Am (by simp only [ByteArray.size_append,AY];omega),Am (by simp only [ByteArray.size_append,AY];omega)];simp only [AA,ByteArray.append_assoc]
 simp only [Ix,sIn,Option.bind_some]
 by_cases hin:1≤w.1∧w.1≤5
 ·simp only [decide_eq_true hin,cond_true,AA];exact key w.1 (by unfold kt;rw [if_pos hin]) (by omega) (by omega)
 ·simp only [decide_eq_false hin,cond_false,AA];exact key 0 (by unfold kt;rw [if_neg hin];rfl) (by omega) (by omega)
theorem impl_ok (w:W) (h0:-9223372036854775808≤w.2.1) (h1:w.2.1≤9223372036854775807) (hs:w.2.2.size≤1048576):Iq w=some (txt w,()):=by
 have e1:s___36a9.size=1:=rfl
 have hmax:(if (0:Int) > w.2.1 then (0:Int) else w.2.1)=(if w.2.1<0 then 0 else w.2.1):=rfl
 have hz:(itb (if w.2.1<0 then 0 else w.2.1)).size≤21:=by
  split
  ·exact KW (by omega) (by omega)
  ·exact KW h0 h1
 have hd:GF (if w.2.1<0 then 0 else w.2.1)=some (itb (if w.2.1<0 then 0 else w.2.1),()):=by
  split
  ·exact JZ _ (by omega) (by omega)
  ·exact JZ _ h0 h1
 have hk:=XX w.1
 have hb:(bif decide (1≤w.1∧w.1≤5) then (Cnd.idx (IntKind.wrap .i64 (w.1 - (1:Int))) (List.length [CW,DP,Cu,Ct,DN])).run (some (rd [CW,DP,Cu,Ct,DN] (IntKind.wrap .i64 (w.1 - (1:Int))) (⟨#[]⟩:ByteArray),w,())) else some (Ke,w,()))=some (kt w.1,w,()):=by
  by_cases hin:1≤w.1∧w.1≤5
  ·simp only [decide_eq_true hin,cond_true,Ar (show -9223372036854775808≤w.1 - 1 by omega) (by omega)];have hidx:∀ {K:Option (ByteArray×W×Unit)},(Cnd.idx (w.1 - 1) (List.length [CW,DP,Cu,Ct,DN])).run K=K:=by
    intro K;simp only [Cnd.run];rw [if_pos (by simp;omega)]
   rw [hidx];have:rd [CW,DP,Cu,Ct,DN] (w.1 - 1) (⟨#[]⟩:ByteArray)=kt w.1:=by
    unfold kt;rw [if_pos hin];have:w.1=1∨w.1=2∨w.1=3∨w.1=4∨w.1=5:=by omega
    rcases this with h | h | h | h | h<;>rw [h]<;>rfl
   rw [this]
  ·simp only [decide_eq_false hin,cond_false,kt,if_neg hin]
 simp only [Iq,iIn,Option.bind_some];rw [hb];simp only [AA,hmax,hd,Option.bind_some];rw [Am (by simp only [AY];omega),Am (by rw [ByteArray.size_append];simp only [AY];omega)]
 by_cases hw:w.2.2=(⟨#[]⟩:ByteArray)
 ·simp only [hw,ne_eq,not_true_eq_false,decide_false,cond_false,AA,txt,if_true,XL]
 ·simp only [hw,ne_eq,not_false_eq_true,decide_true,cond_true,txt,if_false];rw [Am (by simp only [AY];omega),Am (by simp only [ByteArray.size_append,AY];omega)];simp only [AA]
end ShowWarn
set_option maxRecDepth 100000
namespace X
theorem Hb {α:Type} {t:Ty} {x:t.D} {k:t.D→Option α} {Q:α→Prop} (h:wp (k x) Q):wp (CM x k) Q:=h
theorem jid {α β:Type} {x:Option α} {f:α→β} {Q:β→Prop} (h:wp x fun a=>Q (f a)):wp (joinP x fun a=>some (f a)) Q:=Ap (AE h fun a ha=>AC ha)
theorem VB {a:Int} {n:Nat} (h0:0≤a) (h1:1≤n):0≤Int.tmod a (n:Int)∧Int.tmod a (n:Int)<(n:Int):=⟨Int.tmod_nonneg _ h0,Int.tmod_lt_of_pos _ (by omega)⟩
theorem atH {n:Int} {m:Nat} (h:0≤n∧n<(m:Int)):(Cnd.idx n m).holds:=h
theorem kX {p:PROG} (h:De p=true):1≤p.1.length∧1≤p.2.length:=by
 unfold De at h;simp only [Bool.and_eq_true,decide_eq_true_eq] at h;omega
def GP (p:PROG):Prop:=FineP p∧De p=true∧bp p
theorem Tp (c:Cur) (h:COk c):wp (Cx c) fun y=>GP y.1∧COk y.2.1:=by
 unfold Cx;refine AH (AE (Xk c 9 (by omega) (by omega) h) fun y1 hy1=>AH (AE (Kb _) fun y2 hy2=>Ap (AE (Q:=fun x:Cur×PROG×PROG×Unit=>GP x.2.2.1∧COk x.1) (Ad (fun _=>?_) fun hb=>AC ⟨⟨hy2.1.1,hy2.2.1 (by simpa using hb),hy2.2.2⟩,hy1.2⟩) fun x hx=>AC hx)))
 refine AH (AE (Kb _) fun y3 hy3=>Ap (AE (Q:=fun x:Cur×PROG×PROG×Unit=>GP x.2.2.1∧COk x.1) (Ad (fun _=>?_) fun hb=>AC ⟨⟨hy3.1.1,?_,hy3.2.2⟩,hy1.2⟩) fun x hx=>AC hx))
 ·obtain⟨y,e,hne⟩:=kY;obtain⟨r,e2,hr⟩:=Kb DG;rw [e] at e2;cases e2
  rw [e];refine AH (AC (AC ⟨⟨hr.1.1,?_,hr.2.2⟩,hy1.2⟩))
  rcases hr.1.2 with h1 | h1
  ·exact h1
  ·rw [h1] at hne;exact absurd rfl hne
 ·rcases hy3.1.2 with h1 | h1
  ·exact h1
  ·rw [h1] at hb;exact absurd hb (by decide)
theorem ZF {p:PROG} (h:FineP p) (i:Nat) {w:NODE} (hw:w.2.2.2.length≤1048576):FineP (p.1.set i w,p.2):=by
 refine⟨⟨by simp only [List.length_set];exact h.n.len,fun x hx=>?_⟩,h.f,h.a⟩
 rcases List.mem_or_eq_of_mem_set hx with hx | hx
 ·exact h.n.kid x hx
 ·rw [hx];exact hw
theorem ZE {p:PROG} (h:FineP p) (i:Nat) {f:FN} (hf:f.2.1.length≤1048576):FineP (p.1,p.2.set i f):=by
 refine⟨h.n,by simp only [List.length_set];exact h.f,fun x hx=>?_⟩
 rcases List.mem_or_eq_of_mem_set hx with hx | hx
 ·exact h.a x hx
 ·rw [hx];exact hf
theorem ii (c:Cur) (h:COk c):wp (Ko c) fun y=>FineP y.1∧COk y.2.1:=by
 unfold Ko;refine AH (AE (CG _ _ h) fun y1 hy1=>AH (AE (CG _ _ hy1.2.2.2) fun y2 hy2=>AH (AE (Tp _ hy2.2.2.2) fun y3 hy3=>?_)))
 obtain⟨⟨hf,hok,ht⟩,hc⟩:=hy3;obtain⟨h1,h2⟩:=kX hok;rw [ZM _ hf];have hr1:=VB hy2.1 h1
 have hr2:=VB hy2.1 h2
 have hk:=ht.1 _ (OX y3.1.1 (Int.tmod y2.1 (y3.1.1.length:Int)) zN hr1.1 hr1.2)
 have hp:=ht.2 _ (OX y3.1.2 (Int.tmod y2.1 (y3.1.2.length:Int)) zF hr2.1 hr2.2)
 have hn:(Cnd.nz (y3.1.2.length:Int)).holds:=by show(_:Int)≠0;omega
 refine AH (AC (AQ (show(_:Int)≠0 by simp only;omega) ?_))
 simp only;refine Ap (AE (Q:=fun x:Cur×PROG×PROG×Unit=>FineP x.2.2.1∧COk x.1) ?_ fun x hx=>AC hx)
 refine Ad (fun _=>AQ (show(22:Int)≠0 by decide) (AQ (atH hr1) (Hb (AC ⟨ZF hf _ (Nat.le_trans hk (by omega)),hc⟩)))) fun _=>jid ?_
 refine Ad (fun _=>AQ (show(3:Int)≠0 by decide) (AQ (atH (VB (n:=3) hy2.1 (by omega))) (AQ (atH hr1) (Hb (AC ⟨ZF hf _ (Nat.le_trans hk (by omega)),hc⟩))))) fun _=>jid ?_
 refine Ad (fun _=>AQ (show(4:Int)≠0 by decide) (AQ (atH (VB (n:=4) hy2.1 (by omega))) (AQ (atH hr1) (Hb (AC ⟨ZF hf _ (Nat.le_trans hk (by omega)),hc⟩))))) fun _=>jid ?_
 refine Ad (fun _=>AQ (atH hr1) (AQ (show(9:Int)≠0 by decide) (AQ (show(_:Nat)≤_ from Nat.le_trans (Nat.mul_le_mul_right 8 (Nat.succ_le_succ hk)) (by omega)) (AQ (atH hr1) (AQ ⟨Nat.le_refl _,Nat.le_refl _,trivial⟩ (Hb (AC ⟨ZF hf _ (by simp only [List.length_append,List.length_singleton];exact Nat.le_trans (Nat.succ_le_succ hk) (by omega)),hc⟩))))))) fun _=>jid ?_
 refine Ad (fun _=>AQ hn (AQ (atH hr2) (Hb (AC ⟨ZE hf _ (Nat.le_trans hp (by omega)),hc⟩)))) fun _=>jid ?_
 refine Ad (fun _=>AQ hn (AQ (atH hr2) (Hb (AC ⟨ZE hf _ (Nat.le_trans hp (by omega)),hc⟩)))) fun _=>jid ?_
 refine Ad (fun _=>AQ hn (AQ (atH hr2) (Hb (AC ⟨ZE hf _ (Nat.le_trans hp (by omega)),hc⟩)))) fun _=>jid ?_
 exact Ad (fun _=>AQ hn (AQ hn (AQ (atH hr2) (AQ (show(6:Int)≠0 by decide) (AQ (show(_:Nat)≤_ from Nat.le_trans (Nat.mul_le_mul_right 24 (Nat.succ_le_succ hp)) (by omega)) (AQ (atH hr2) (AQ ⟨Nat.le_refl _,Nat.le_refl _,trivial⟩ (Hb (AC ⟨ZE hf _ (by simp only [List.length_append,List.length_singleton];exact Nat.le_trans (Nat.succ_le_succ hp) (by omega)),hc⟩))))))))) fun _=>AC ⟨hf,hc⟩
theorem XG:∀ s∈[LS,IR,LI,IQ,Pe,Mb,JO],s.size≤100:=by decide +kernel
theorem jm (c:Cur) (h:COk c):wp (HW c) fun y=>FineP y.1∧COk y.2.1:=by
 have s0:s_fn_idle_a__int___2050.size≤100:=by decide +kernel
 have s1:s___36a9.size≤10:=by decide +kernel
 have s2:s___d10b.size≤10:=by decide +kernel
 have hm:AY=9223372036854775807:=rfl
 unfold HW;refine Ap (AH (AC (AE (wp_loop (fun x:HG=>0≤x.2.1∧x.2.1≤4∧(x.1.size:Int)≤100+200 * x.2.1∧COk x.2.2.1) (fun x=>(4 - x.2.1).toNat) (Q:=fun x:ByteArray×Cur×PROG×Unit=>x.1.size≤2000∧COk x.2.1) (fun x hx=>?_) ⟨by simp,by simp,by simp only;omega,h⟩) fun x hx=>?_)))
 ·obtain⟨t,i,c,p,_⟩:=x;simp only at hx;obtain⟨i0,i1,hs,hc⟩:=hx;unfold Kq;simp only;refine AH (AE (CG _ _ hc) fun y2 hy2=>Ad (fun hb=>?_) fun _=>Aq (AC (Bp ⟨by simp only;omega,hy2.2.2.2⟩)))
  have hb':=of_decide_eq_true hb
  have h4:=hy2.2.1 (by omega)
  refine AH (AE (Qk _ _ (by simp) hy2.2.2.2) fun y3 hy3=>?_)
  have hz:=XG _ hy3.1
  refine AQ (show(_:Nat)≤_ by omega) (AQ (show(_:Nat)≤_ by rw [AN];omega) (Aq (AC (CV ?_))))
  rw [Ar (by omega) (by omega)];exact⟨⟨by simp only;omega,by simp only;omega,by simp only [AN];omega,hy3.2⟩,by simp only;omega⟩
 ·refine AQ (show(_:Nat)≤_ by omega) (AH (AE (Kb _) fun y5 hy5=>Ad (fun _=>AH (AE (Tp _ hx.2) fun y6 hy6=>AC ⟨hy6.1.1,hy6.2⟩)) fun _=>AC ⟨hy5.1.1,hx.2⟩))
theorem RT (c:Cur) (h:COk c):wp (HF c) fun y=>FineP y.1∧COk y.2.1:=by
 unfold HF;exact AH (AE (Lu _ _ h) fun y1 hy1=>Ad (fun _=>AH (AE (ii _ hy1) fun y2 hy2=>AC hy2)) fun _=>AH (AE (jm _ hy1) fun y3 hy3=>AC hy3))
theorem jT (code:List Int) (h:code.length≤1048576):wp (HV code) fun y=>FineP y.1:=by
 unfold HV HJ;exact AH (AH (AE (Sb code h) fun y1 hy1=>AH (AE (CG _ _ hy1) fun y2 hy2=>AH (AE (RT _ hy2.2.2.2) fun y3 hy3=>AC (AC hy3.1)))))
theorem eS (code:List Int) (h:code.length≤1048576):wp (Gg code) fun y=>FineP y.1:=by
 unfold Gg;exact AH (AE (Sb code h) fun y1 hy1=>AH (AE (RT _ hy1) fun y3 hy3=>AC hy3.1))
theorem Yc (code:List Int) (h:code.length≤1048576):wp (Eg code) fun y=>FineP y.1:=by
 unfold Eg;refine AH (AE (Sb code h) fun y1 hy1=>AH (AE (CG _ _ hy1) fun y2 hy2=>AH (AE (RT _ hy2.2.2.2) fun y3 hy3=>?_)))
 have hl:=hy3.1.n.len
 refine Mm (AH (AC (AE (wp_loop (fun x:Ei=>0≤x.2.1∧x.2.2.2.1=y3.1∧COk x.2.2.2.2.1) (fun x=>(y3.1.1.length - x.2.1).toNat) (Q:=fun s:(Int×PROG×PROG×Unit) ⊕ (PROG×Int×Unit)=>(∀ b,s=.inl b→b.2.2.1=y3.1)∧∀ r,s=.inr r→r.1=y3.1) (fun x hx=>?_) ⟨by simp,rfl,hy3.2⟩) fun s hs=>⟨fun b hb=>?_,fun r hr=>by rw [hs.2 r hr];exact hy3.1⟩)))
 ·obtain⟨x1,i,x3,p,c,_⟩:=x;simp only at hx;obtain⟨i0,rfl,hc⟩:=hx;unfold IY;simp only;refine Ad (fun hb=>?_) fun _=>Aq (Aq (AC (Bp ⟨fun b hb=>by cases hb;rfl,fun r hr=>by cases hr⟩)))
  have hb':=of_decide_eq_true hb
  refine Ap (AQ ⟨i0,hb'⟩ (AE (Q:=fun z:Int×Int×Bool×PROG×PROG×Cur×Unit=>z.2.1=i∧z.2.2.2.2.1=y3.1∧COk z.2.2.2.2.2.1) (Ad (fun _=>AH (AE (Lu _ _ hc) fun y hy=>AC ⟨rfl,rfl,hy⟩)) fun _=>AC ⟨rfl,rfl,hc⟩) fun z hz=>?_))
  obtain⟨z1,z2,z3,z4,z5,z6,_⟩:=z;simp only at hz ⊢;obtain⟨rfl,rfl,hz⟩:=hz;refine Ad (fun _=>Aq (Aq (AC (Bp ⟨fun b hb=>(by cases hb),fun r hr=>by cases hr;rfl⟩)))) fun _=>Aq (AC (CV ?_))
  rw [Ar (by omega) (by omega)];exact⟨⟨by simp only;omega,rfl,hz⟩,by simp only;omega⟩
 ·have:=hs.1 b hb
  rw [this,Ar (by omega) (by omega)];exact AQ (show(_:Int)≠0 by omega) (AC hy3.1)
theorem cf (code:List Int) (h:code.length≤1048576):wp (Ff code) fun y=>-1≤y.1.2.1∧y.1.2.1≤4∧y.1.2.2.size≤1:=by
 unfold Ff;refine AH (AE (Sb code h) fun y1 hy1=>AH (AE (CG _ _ hy1) fun y2 hy2=>AH (AE (CG _ _ hy2.2.2.2) fun y3 hy3=>AH (AE (Qk _ _ (by simp) hy3.2.2.2) fun y4 hy4=>AC ?_))))
 have h3:=hy3.2.1 (by omega)
 have h30:=hy3.1
 rw [Ar (x:=y3.1 - 1) (by omega) (by omega)];refine⟨by simp only;omega,by simp only;omega,?_⟩
 have:∀ s∈[(⟨#[]⟩:ByteArray),PM],s.size≤1:=by decide +kernel
 exact this _ hy4.1
theorem Lo (p:PROG) (hp:FineP p) (fn:Int):(Dv p fn).length≤3000000:=by
 unfold Dv;rw [List.length_map];refine Nat.le_trans (List.length_filter_le _ _) ?_
 unfold BR;cases hi:GD p fn
 ·simp
 ·have hr:=of_decide_eq_true (show decide _=true from hi)
  have h1:=SP hp (fn:=fn) ⟨hr.1,by omega⟩
  have h2:∀ k,(BM p.1 k).length≤p.1.length:=fun k=>by
   unfold BM Fe;cases decide (AW p.1 k=0)
   ·rw [cond_false,List.length_map];exact Nat.le_trans (List.length_filter_le _ _) (by simp)
   ·simp
  have h3:=hp.n.len
  have h4:=h2 (rd p.2 fn zF).2.2.2.1
  have h5:=List.length_filter_le (Gc p.1) (BM p.1 (rd p.2 fn zF).2.2.2.1)
  rw [cond_true,List.length_append,List.length_map,List.length_map];omega
theorem jr (l:List ByteArray) (hl:l.length≤3000000):IE l l=some (true,()):=by
 have h:=Br (step:=EA) l (fun _=>true) (fun k=>(l,l,(k:Int),())) (.inl ()) (.inr (false,())) (fun k hk=>by
  simp only [EA,AR hk,decide_true,cond_true,AK hk,ne_eq,not_true_eq_false,decide_false,cond_false,Option.map_some,AI (show k<9223372036854775807 by omega)]) (by
  simp only [EA,AJ,decide_false,cond_false,Option.map_some])
 have h':AD EA (l,l,(0:Int),())=_:=h
 simp only [IE,ne_eq,not_true_eq_false,decide_false,cond_false,Option.bind_some,h'];have:(l.all fun _=>true)=true:=by simp
 rw [this];rfl
theorem eqW (w:Bl):eqD (.pair (.int .i64) (.pair (.int .i64) .str)) w w=true:=by simp [eqD]
theorem aP (l:List Bl) (hl:l.length≤3000000):GH l l=some (true,()):=by
 have h:=Br (step:=EB) l (fun _=>true) (fun k=>(l,l,(k:Int),())) (.inl ()) (.inr (false,())) (fun k hk=>by
  simp only [EB,AR hk,decide_true,cond_true,AK hk,eqW,Bool.not_true,cond_false,AA,Option.map_some,AI (show k<9223372036854775807 by omega)]) (by
  simp only [EB,AJ,decide_false,cond_false,Option.map_some])
 have h':AD EB (l,l,(0:Int),())=_:=h
 simp only [GH,ne_eq,not_true_eq_false,decide_false,cond_false,Option.bind_some,h'];have:(l.all fun _=>true)=true:=by simp
 rw [this];rfl
theorem pure (code:List Int) {e:Nat} (hb:Bnd (.list e (.int .u8)) code):JI code=some (true,()):=by
 unfold JI Rn;rw [Option.bind_some]
 by_cases hbig:(1048576:Int)<(code.length:Int)
 ·rw [decide_eq_true hbig];rfl
 rw [decide_eq_false hbig];have h:code.length≤1048576:=by omega
 obtain⟨⟨p,fn,_⟩,e1,hp⟩:=jT code h;obtain⟨⟨q,k,_⟩,e2,hq⟩:=Yc code h;obtain⟨⟨x,_⟩,e3,hx⟩:=eS code h;obtain⟨⟨w,_⟩,e4,hw1,hw2,hw3⟩:=cf code h;simp only at hp hq hx hw1 hw2 hw3;obtain⟨v,vS,vI⟩:=SameBlocks.both q hq.n k;obtain⟨d,dS,dI⟩:=bq x hx;have s1:=jr _ (Lo p hp fn)
 have l2:=Qa p fn
 have l3:=ZY x d
 rw [Ni] at l2 l3;have s2:=aP (Gz p fn) (by omega)
 have s3:=aP (Kh x d) (by omega)
 have t1:=ShowWarn.spec_ok w (by omega) (by omega) (by omega)
 have t2:=ShowWarn.impl_ok w (by omega) (by omega) (by omega)
 simp only [cond_false,e1,e2,e3,e4,Option.bind_some,OY p hp,ON p hp,s1,cond_true,QU p hp,QE p hp,s2,vS,vI,beq_self_eq_true,dS,dI,s3,t1,t2,decide_true,AA]
end X
end Go.Proofs.YtmakhmoielhjeaaGreatDoorE

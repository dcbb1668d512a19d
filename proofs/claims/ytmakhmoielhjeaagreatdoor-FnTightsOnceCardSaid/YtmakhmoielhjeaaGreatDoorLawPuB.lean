/- The engine, texts Und UndI Uses Vars Sight SightS SightB Names DrawT DrawU DrawL DrawM DrawN DrawC DrawG Once X: how code is reckoned as Lean functions, and that it is sound. No condition. -/
import Derived.Test.YtmakhmoielhjeaaGreatDoorLawPuA
set_option linter.all false
namespace Go.Proofs.YtmakhmoielhjeaaGreatDoorE
set_option maxRecDepth 100000
def rc (l:List NODE):Nat→Int→Int→Bool
 | 0,_,_=>false
 | f+1,a,t=>decide (a=t) || (rd l a zN).2.2.2.any fun y=>rc l f y t
def Cj (l:List NODE) (a t:Int):Bool:=rc l (a.toNat+1) a t
theorem OE {α:Type} {f g:α→Bool}:∀ {l:List α},(∀ x∈l,f x=g x)→l.any f=l.any g
 | [],_=>rfl
 | x::l,h=>by rw [List.any_cons,List.any_cons,h x (List.mem_cons_self ..),OE fun y hy=>h y (List.mem_cons_of_mem _ hy)]
theorem DK {l:List NODE} {a:Int} (h:(0:Int)<AQ l a) {y:Int} (hy:y∈(rd l a zN).2.2.2):(0:Int)<AQ l y∧0≤y∧y<a:=by
 obtain⟨_,h2,h3⟩:=Av h;obtain⟨k1,k2⟩:=NU h2 y hy;exact⟨h3 y k1 (by omega),k1,k2⟩
theorem Ue (l:List NODE):∀ (f g:Nat) (a t:Int),(0:Int)<AQ l a→a.toNat<f→a.toNat<g→rc l f a t=rc l g a t
 | 0,_,_,_,_,h,_=>absurd h (by omega)
 | _+1,0,_,_,_,_,h=>absurd h (by omega)
 | f+1,g+1,a,t,hd,hf,hg=>by
  simp only [rc]
  congr 1
  refine OE fun y hy=>?_
  obtain⟨k1,k2,k3⟩:=DK hd hy;exact Ue l f g y t k1 (by omega) (by omega)
theorem Ng {l:List NODE} {a:Int} (h:(0:Int)<AQ l a) (t:Int):Cj l a t=(decide (a=t) || (rd l a zN).2.2.2.any fun y=>Cj l y t):=by
 unfold Cj;simp only [rc]
 congr 1
 refine OE fun y hy=>?_
 obtain⟨k1,k2,k3⟩:=DK h hy;exact Ue l a.toNat (y.toNat+1) y t k1 (by omega) (by omega)
theorem Xv (l:List NODE) (a:Int):Cj l a a=true:=by simp [Cj,rc]
theorem Oz {l:List NODE} {a y t:Int} (h:(0:Int)<AQ l a) (hy:y∈(rd l a zN).2.2.2) (ht:Cj l y t=true):Cj l a t=true:=by
 rw [Ng h,Bool.or_eq_true];exact .inr (List.any_eq_true.2 ⟨y,hy,ht⟩)
theorem Uj {l:List NODE}:∀ (n:Nat) (a t:Int),a.toNat<n→(0:Int)<AQ l a→Cj l a t=true→0≤t∧t≤a
 | 0,_,_,h,_,_=>absurd h (by omega)
 | n+1,a,t,hn,h,ht=>by
  rw [Ng h,Bool.or_eq_true] at ht;rcases ht with ht | ht
  ·have:=of_decide_eq_true ht
   have:=(Av h).1
   omega
  ·obtain⟨y,hy,hy2⟩:=List.any_eq_true.1 ht;obtain⟨k1,k2,k3⟩:=DK h hy;have:=Uj n y t (by omega) k1 hy2
   omega
theorem PA {l:List NODE} {a t:Int} (h:(0:Int)<AQ l a) (ht:Cj l a t=true):0≤t∧t≤a:=Uj _ a t (Nat.lt_succ_self _) h ht
theorem Rd {l:List NODE} {a t:Int} (h:(0:Int)<AQ l a) (ht:Cj l a t=true):(0:Int)<AQ l t:=by
 have:=PA h ht
 exact(Av h).2.2 t this.1 this.2
theorem Nz {l:List NODE}:∀ (n:Nat) (a b t:Int),a.toNat<n→(0:Int)<AQ l a→Cj l a b=true→Cj l b t=true→Cj l a t=true
 | 0,_,_,_,h,_,_,_=>absurd h (by omega)
 | n+1,a,b,t,hn,h,hb,ht=>by
  rw [Ng h,Bool.or_eq_true] at hb;rcases hb with hb | hb
  ·have:=of_decide_eq_true hb
   subst this;exact ht
  ·obtain⟨y,hy,hy2⟩:=List.any_eq_true.1 hb;obtain⟨k1,k2,k3⟩:=DK h hy;exact Oz h hy (Nz n y b t (by omega) k1 hy2 ht)
theorem Wd {l:List NODE} {a b t:Int} (h:(0:Int)<AQ l a) (hb:Cj l a b=true) (ht:Cj l b t=true):Cj l a t=true:=Nz _ a b t (Nat.lt_succ_self _) h hb ht
def mrk (l:List NODE) (k:Int) (s:List Bool):List Bool:=s.mapIdx fun t b=>b || Cj l k (t:Int)
@[simp] theorem Hr (l:List NODE) (k:Int) (s:List Bool):(mrk l k s).length=s.length:=by simp [mrk]
theorem It (l:List NODE) (k:Int) (s:List Bool) {t:Nat} (h:t<s.length):(mrk l k s).getD t false=(s.getD t false || Cj l k (t:Int)):=by
 simp [mrk,h]
def Cl (l:List NODE) (b:Int) (s:List Bool):Prop:=∀ a:Nat,(a:Int)<b→s.getD a false=true→∀ t:Nat,Cj l (a:Int) (t:Int)=true→s.getD t false=true
theorem Cl.mono {l:List NODE} {b c:Int} {s:List Bool} (h:Cl l b s) (hc:c≤b):Cl l c s:=fun a ha hs t ht=>h a (by omega) hs t ht
theorem Lo {s:List Bool} {t:Nat} (h:s.getD t false=true):t<s.length:=by
 rcases Nat.lt_or_ge t s.length with h1 | h1
 ·exact h1
 ·simp [h1] at h
theorem Cl.mrk {l:List NODE} {b k:Int} {s:List Bool} (h:Cl l b s) (hs:s.length=l.length) (hk:(0:Int)<AQ l k):Cl l b (mrk l k s):=by
 intro a ha h1 t ht;have hal:=Lo h1
 rw [Hr] at hal;rw [It _ _ _ hal,Bool.or_eq_true] at h1;rcases h1 with h1 | h1
 ·have h2:=h a ha h1 t ht
  rw [It _ _ _ (Lo h2),h2,Bool.true_or]
 ·have h2:=Wd hk h1 ht
  have h3:=PA hk h2
  have h4:=(Av hk).1
  rw [It _ _ _ (show t<s.length by omega),h2,Bool.or_true]
theorem Sr (l:List NODE):∀ (ys:List Int) (s:List Bool),(ys.foldl (fun s y=>mrk l y s) s).length=s.length∧∀ t,t<s.length→(ys.foldl (fun s y=>mrk l y s) s).getD t false=(s.getD t false || ys.any fun y=>Cj l y (t:Int))
 | [],s=>⟨rfl,fun t h=>by simp⟩
 | y::ys,s=>by
  obtain⟨h1,h2⟩:=Sr l ys (mrk l y s);rw [List.foldl_cons];refine⟨by rw [h1,Hr],fun t ht=>?_⟩
  rw [h2 t (by rw [Hr];exact ht),It _ _ _ ht,List.any_cons,Bool.or_assoc]
theorem Sl {a b:List Bool} (hl:a.length=b.length) (h:∀ t,t<b.length→a.getD t false=b.getD t false):a=b:=by
 refine List.ext_getElem hl fun t h1 h2=>?_
 have:=h t h2
 simpa [h1,h2] using this
theorem Om {s:List Bool} {m t:Nat} (hm:m<s.length) (ht:t<s.length):(s.set m true).getD t false=(s.getD t false || decide (m=t)):=by
 by_cases h:m=t
 ·subst h;simp [hm]
 ·simp [List.getElem?_set,h]
theorem XR (l:List NODE) (hl:FineN l):∀ (n:Nat) (k:Int) (s:List Bool),(0:Int)<AQ l k→k.toNat<n→s.length=l.length→Cl l (k+1) s→(Dl n).1 l k s=some (mrk l k s,())
 | 0,_,_,_,h,_,_=>absurd h (by omega)
 | n+1,k,s,hk,hn,hs,hc=>by
  show Iv (Dl n).1 l k s=_
  obtain⟨h1,h2,h3⟩:=Av hk;obtain⟨m,rfl⟩:∃ m:Nat,k=(m:Int):=⟨k.toNat,by omega⟩
  have hm:m<s.length:=by omega
  have hml:m<l.length:=by omega
  unfold Iv;rw [AU hm,AZ hm];cases hb:s[m]
  ·have hx:=hl.kid _ (List.getElem_mem hml)
   have hkid:=fun y hy=>@DK l (m:Int) hk y hy
   rw [AZ hml] at hkid;have hue:=fun t=>Ng hk t
   rw [AZ hml] at hue;have hrd:rd l (m:Int) zN=l[m]:=AZ hml
   have hcl0:Cl l (m:Int) (s.set m true):=fun a ha h1 t ht=>by
    have hal:=Lo h1
    rw [List.length_set] at hal;rw [Om hm hal] at h1;have hne:¬ m=a:=by omega
    rw [decide_eq_false hne,Bool.or_false] at h1;have h2:=hc a (by omega) h1 t ht
    rw [Om hm (Lo h2),h2,Bool.true_or]
   generalize l[m]=x at hx hkid hue hrd;have h:=CA (step:=EP (Dl n).1) x.2.2.2 (fun s y=>mrk l y s) (fun i s=>(l,(m:Int),(i:Int),s,())) (fun s=>(s,())) (fun _ s=>s.length=l.length∧Cl l (m:Int) s) (fun i hi c hI=>by
    obtain⟨g1,g2⟩:=hI;obtain⟨k1,k2,k3⟩:=hkid _ (List.getElem_mem hi);have ih:=XR l hl n x.2.2.2[i] c k1 (by omega) g1 (g2.mono (by omega))
    refine⟨?_,by rw [Hr];exact g1,g2.mrk g1 k1⟩
    simp only [EP,AU hml,hrd,Am hi,decide_true,cond_true,AU hi,AZ hi,ih,Option.bind_some,Option.map_some,Ad (show i<9223372036854775807 by omega)]) (fun c hI=>by
    simp only [EP,AU hml,hrd,Aa,decide_false,cond_false,Option.map_some]) (s.set m true) ⟨by rw [List.length_set];exact hs,hcl0⟩
   have h':AK (EP (Dl n).1) (l,(m:Int),(0:Int),s.set m true,())=_:=h.1
   simp only [cond_false,AU hm,Ba,Int.toNat_natCast,Option.bind_some,h',AD]
   congr 2
   obtain⟨f1,f2⟩:=Sr l x.2.2.2 (s.set m true);refine Sl (by rw [f1,List.length_set,Hr]) fun t ht=>?_
   rw [Hr] at ht;rw [f2 t (by rw [List.length_set];exact ht),It _ _ _ ht,Om hm ht,hue,Bool.or_assoc]
   congr 2
   exact decide_eq_decide.2 (by omega)
  ·simp only [cond_true]
   congr 2
   refine Sl (by rw [Hr]) fun t ht=>?_
   rw [Hr] at ht;rw [It _ _ _ ht];cases hu:Cj l (m:Int) (t:Int)
   ·rw [Bool.or_false]
   ·rw [hc m (by omega) (by simp [hm,hb]) t hu];rfl
def Tf (l:List NODE) (k:Int):List Int:=((List.range l.length).filter fun(t:Nat)=>Cj l k (t:Int)).map fun(t:Nat)=>(t:Int)
def Ge (l:List NODE) (k:Int):List Int:=bif decide (AQ l k=0) then [] else Tf l k
theorem LZ {α β:Type} (p:α→Bool) (f:α→β):∀ (xs:List α) (o:List β),xs.foldl (fun o x=>bif p x then o++[f x] else o) o=o++(xs.filter p).map f
 | [],o=>by simp
 | x::xs,o=>by
  rw [List.foldl_cons,LZ p f xs];cases h:p x<;>simp [h]
theorem aN (l:List NODE) (k:Int):(Tf l k).length≤l.length:=by
 unfold Tf;rw [List.length_map];exact Nat.le_trans (List.length_filter_le ..) (by simp)
theorem Ob {l:List NODE} {k:Int} (hk:(0:Int)<AQ l k) (x:Int):x∈Tf l k↔Cj l k x=true:=by
 unfold Tf;rw [List.mem_map];constructor
 ·rintro ⟨t,ht,rfl⟩
  exact(List.mem_filter.1 ht).2
 ·intro h;have h1:=PA hk h
  have h2:=(Av hk).1
  have e:((x.toNat:Nat):Int)=x:=by omega
  exact⟨x.toNat,List.mem_filter.2 ⟨List.mem_range.2 (by omega),by rw [e];exact h⟩,e⟩
theorem Rj (p:PROG) (hp:FineN p.1) (k:Int):KA p k=some (Ge p.1 k,()):=by
 unfold KA Ge;rw [Qh p.1 hp k,Option.bind_some]
 by_cases hz:AQ p.1 k=0
 ·simp only [hz,decide_true,cond_true]
 have hk:=Rt hz
 have hn:=hp.len
 have hC:Cl p.1 (k+1) (List.replicate p.1.length false):=fun a _ h t _=>by
  have:=Lo h
  simp at this;simp [this] at h
 have hm:Kf p.1 k (List.replicate p.1.length false)=some (mrk p.1 k (List.replicate p.1.length false),()):=
  JR.2 ⟨k.toNat+1,fun n hn'=>XR p.1 hp n k _ hk (by omega) (by simp) hC⟩
 have hsl:(mrk p.1 k (List.replicate p.1.length false)).length=p.1.length:=by simp
 have hsg:∀ t:Nat,t<p.1.length→rd (mrk p.1 k (List.replicate p.1.length false)) (t:Int) false=Cj p.1 k (t:Int):=fun t ht=>by
  have:=It p.1 k (List.replicate p.1.length false) (t:=t) (by simpa using ht)
  rw [show rd (mrk p.1 k (List.replicate p.1.length false)) (t:Int) false=(mrk p.1 k (List.replicate p.1.length false)).getD t false from rfl,this];simp [ht]
 generalize mrk p.1 k (List.replicate p.1.length false)=s at hm hsl hsg;have h:=CA (step:=Fg) (List.range p.1.length) (fun o t=>bif Cj p.1 k (t:Int) then o++[(t:Int)] else o) (fun i o=>(o,s,(i:Int),())) (fun o=>(o,())) (fun i o=>o.length≤i) (fun i hi o ho=>by
  have hi':i<p.1.length:=by simpa using hi
  have hi2:i<s.length:=by omega
  simp only [Fg,Am hi2,decide_true,cond_true,AU hi2,hsg i hi',List.getElem_range,Ad (show i<9223372036854775807 by omega)];cases Cj p.1 k (i:Int)
  ·simp only [cond_false,AD,Option.map_some,Ad (show i<9223372036854775807 by omega)];exact⟨by trivial,by omega⟩
  ·simp only [cond_true,DB (show(o.length+[(i:Int)].length) * 8≤140737488355328 by simp;omega),AD,Option.map_some,Ad (show i<9223372036854775807 by omega)];exact⟨by trivial,by simp;omega⟩) (fun o ho=>by
  simp only [Fg,List.length_range,hsl,Aa,decide_false,cond_false,Option.map_some]) [] (Nat.le_refl 0)
 have h':AK Fg ([],s,(0:Int),())=_:=h.1
 simp only [decide_eq_false hz,cond_false];rw [show(Cnd.both (Cnd.nn (List.length p.1:Int)) (Cnd.le ((List.length p.1:Int).toNat * 1) 140737488355328)).run _=_ from by
  simp only [Cnd.run];rw [if_pos (by omega),if_pos (by omega)]]
 rw [show(List.length p.1:Int).toNat=p.1.length from Int.toNat_natCast _,hm,Option.bind_some];simp only [Option.bind_some,h',AD];rw [LZ,List.nil_append];rfl
set_option maxRecDepth 100000
structure BIu (l:List NODE) (k:Int) (i:Nat) (o:List Int):Prop where
 nd:o.Nodup
 un:∀ x∈o,Cj l k x=true
 at_:k∈o
 le:i≤o.length
 cl:∀ x∈o.take i,∀ y∈(rd l x zN).2.2.2,y∈o
theorem Tg (l:List NODE) (k:Int):(Ge l k).length≤l.length:=by
 unfold Ge;cases decide (AQ l k=0)
 ·exact aN l k
 ·exact Nat.zero_le _
theorem aO {l:List NODE} {k x:Int} (h:x∈Ge l k):(0≤x∧x<(l.length:Int))∧(0:Int)<AQ l x:=by
 unfold Ge at h
 by_cases hz:AQ l k=0
 ·simp [hz] at h
 ·rw [decide_eq_false hz,cond_false] at h;have:=Rd (Rt hz) ((Ob (Rt hz) x).1 h)
  exact⟨(Av this).1,this⟩
set_option maxRecDepth 100000
def OP (p:PROG) (fn:Int):Bool:=decide (0≤fn∧fn≤(p.2.length:Int) - 1)
theorem gK {p:PROG} (hp:FineP p):IntKind.wrap .i64 ((p.2.length:Int) - 1)=(p.2.length:Int) - 1:=NV hp.f
set_option maxRecDepth 100000
abbrev VAR:=ByteArray×(Int×Int)
abbrev zV:VAR:=((⟨#[]⟩:ByteArray),((0:Int),(0:Int)))
def TG (x:ByteArray×Int):VAR:=(x.1,(x.2,(-1:Int)))
def MK (l:List NODE) (k:Int):Bool:=decide ((rd l k zN).1=13)
def WD (l:List NODE) (k:Int):VAR:=((rd l k zN).2.2.1,((0:Int),k))
def Ee (p:PROG) (fn:Int):List VAR:=bif OP p fn then (rd p.2 fn zF).2.1.map TG++((Ge p.1 (rd p.2 fn zF).2.2.2.1).filter (MK p.1)).map (WD p.1) else []
theorem Wz {p:PROG} (hp:FineP p) {fn:Int} (h:0≤fn∧fn<(p.2.length:Int)):(rd p.2 fn zF).2.1.length≤1048576:=by
 obtain⟨k,rfl⟩:∃ m:Nat,fn=(m:Int):=⟨fn.toNat,by omega⟩
 have hk:k<p.2.length:=by omega
 rw [AZ hk];exact hp.a _ (List.getElem_mem hk)
theorem fH {α:Type} {l:List NODE} {k x:Int} (h:x∈Ge l k) {K:Option α}:(Cnd.idx x l.length).run K=K:=Cf (aO h).1
theorem Xz (p:PROG) (hp:FineP p) (r:Int) (o:List VAR) (ho:o.length≤1048576):AK Ez (o,Ge p.1 r,(0:Int),p,())=some (o++((Ge p.1 r).filter (MK p.1)).map (WD p.1),()):=by
 have hn:=hp.n.len
 have hlen:=Tg p.1 r
 have h:=CA (step:=Ez) (Ge p.1 r) (fun o k=>bif MK p.1 k then o++[WD p.1 k] else o) (fun i o=>(o,Ge p.1 r,(i:Int),p,())) (fun o=>(o,())) (fun i o=>o.length≤1048576+i) (fun i hi o ho=>by
  have hid:∀ {α:Type} {K:Option α},(Cnd.idx (Ge p.1 r)[i] p.1.length).run K=K:=fun {α K}=>fH (List.getElem_mem hi)
  simp only [Ez,Am hi,decide_true,cond_true,AU hi,AZ hi,hid,MK];cases decide ((rd p.1 (Ge p.1 r)[i] zN).1=13)
  ·simp only [cond_false,AD,Option.map_some,Ad (show i<9223372036854775807 by omega)];exact⟨by trivial,by omega⟩
  ·simp only [cond_true];rw [DB (by simp;omega)];simp only [AD,Option.map_some,Ad (show i<9223372036854775807 by omega)];exact⟨by trivial,by simp;omega⟩) (fun o ho=>by
  simp only [Ez,Aa,decide_false,cond_false,Option.map_some]) o (by omega)
 have h':=h.1
 rw [LZ] at h';exact h'
theorem YA (p:PROG) (x:FN) (hx:x.2.1.length≤1048576):AK Et ([],(0:Int),p,x,())=some (x.2.1.map TG,p,x,()):=by
 have h:=Jr (step:=Et) x.2.1 TG (fun i o=>(o,(i:Int),p,x,())) (fun o=>(o,p,x,())) (fun i hi o ho=>by
  simp only [Et,Am hi,decide_true,cond_true,AU hi,AZ hi];rw [DB (by simp;omega)];simp only [Option.map_some,Ad (show i<9223372036854775807 by omega)];rfl) (fun o ho=>by
  simp only [Et,Aa,decide_false,cond_false,Option.map_some])
 exact h
theorem NJ (p:PROG) (hp:FineP p) (fn:Int):HI p fn=some (Ee p fn,()):=by
 unfold HI Ee OP;rw [gK hp,sIn,Option.bind_some]
 by_cases hr:0≤fn∧fn≤(p.2.length:Int) - 1
 case neg=>simp only [hr,decide_false,Bool.not_false,cond_true,cond_false]
 have hi:∀ {α:Type} {K:Option α},(Cnd.idx fn p.2.length).run K=K:=fun {α K}=>Cf (by omega)
 have hx:=Wz hp (show 0≤fn∧fn<(p.2.length:Int) by omega)
 simp only [hr,and_self,decide_true,Bool.not_true,cond_false,cond_true,hi];generalize rd p.2 fn zF=x at hx ⊢;simp only [Option.bind_some,YA p x hx,AD,Rj p hp.n,Xz p hp _ (x.2.1.map TG) (by simpa using hx)]
theorem Vq {α:Type} (q:α→Bool) (l:List α):(l.filter q).length≤l.length:=List.length_filter_le ..
theorem Tj {p:PROG} (hp:FineP p) (fn:Int):(Ee p fn).length≤2097152:=by
 unfold Ee OP
 by_cases hr:0≤fn∧fn≤(p.2.length:Int) - 1
 ·have hx:=Wz hp (show 0≤fn∧fn<(p.2.length:Int) by omega)
  have h1:=Tg p.1 (rd p.2 fn zF).2.2.2.1
  have h2:=Vq (MK p.1) (Ge p.1 (rd p.2 fn zF).2.2.2.1)
  have h3:=hp.n.len
  simp only [hr,and_self,decide_true,cond_true,List.length_append,List.length_map];omega
 ·simp [hr]
def Dg (k:Int):Bool:=decide (2≤k∧k≤6) || (decide (k=14) || decide (k=15))
set_option maxRecDepth 100000
def OU (l:List ByteArray) (s:ByteArray):Bool:=l.any fun y=>decide (y=s)
theorem Oh {γ D:Type} {q q':γ→D→Bool} {g:γ→D→γ}:∀ (l:List D) (c:γ),(∀ x∈l,∀ c,q c x=q' c x)→Fb q g l c=Fb q' g l c
 | [],_,_=>rfl
 | x::l,c,h=>by
  simp only [Fb];rw [h x (List.mem_cons_self ..),Oh l _ fun y hy=>h y (List.mem_cons_of_mem _ hy)]
theorem Mx {γ D:Type} (q:γ→D→Bool) (g:γ→D→γ):∀ (l:List D) (c:γ) (b:Bool),l.foldl (fun(s:γ×Bool) x=>(g s.1 x,s.2 || !q s.1 x)) (c,b)=(l.foldl g c,b || !(Fb q g l c).isSome)
 | [],c,b=>by simp [Fb]
 | x::l,c,b=>by
  simp only [List.foldl_cons,Fb];rw [Mx q g l];cases q c x<;>simp
theorem gJ (k:Int):(kr k).2≤12:=by unfold kr;repeat (first | split | decide)
theorem Qc {l:List NODE} {a:Int} (h:Bk l a=true):GW l a (rd l a zN)=true:=by
 simp only [Bk,Bool.and_eq_true] at h;exact h.2
theorem bP {l:List NODE} {a:Int} (h:Bk l a=true):1≤(rd l a zN).1∧(rd l a zN).1≤20:=by
 have:=Qc h
 simp only [GW,Bool.and_eq_true,decide_eq_true_eq] at this;exact this.1
theorem TF {l:List NODE} {a:Int} (h:Bk l a=true):(kr (rd l a zN).1).1≤((rd l a zN).2.2.2.length:Int)∧((rd l a zN).2.2.2.length:Int)≤(kr (rd l a zN).1).2:=by
 have:=Qc h
 simp only [GW,Bool.and_eq_true,decide_eq_true_eq] at this;exact this.2.1
theorem EW {l:List NODE} {a:Int} (h:Bk l a=true):(rd l a zN).2.2.2.length≤12:=by
 have h1:=TF h
 have h2:=gJ (rd l a zN).1
 omega
theorem NX {l:List NODE} {a:Int} (h:Bk l a=true) {i:Nat} (hi:i<(rd l a zN).2.2.2.length):Ja (rd l a zN).1 (i:Int) (rd l (rd l a zN).2.2.2[i] zN).1=true:=by
 have:=Qc h
 simp only [GW,Bool.and_eq_true] at this;have h2:=List.all_eq_true.1 this.2.2.2.2 i (by simpa using hi)
 simp only [NT,Bool.and_eq_true] at h2;have e:(rd l a zN).2.2.2.getD i 0=(rd l a zN).2.2.2[i]:=by
  generalize rd l a zN=x at hi ⊢;simp [hi]
 rw [e] at h2;exact h2.2.1
def KT (p:PROG) (fn:Int) (x:NODE):Bool:=decide (0≤Gw p.2 x.2.2.1∧Gw p.2 x.2.2.1≤fn - 1) && decide (((rd p.2 (Gw p.2 x.2.2.1) zF).2.1.length:Int)=(x.2.2.2.length:Int))
def okH (p:PROG) (fn:Int) (x:NODE) (nm:List ByteArray):Bool:=(!Dg x.1 || OU nm x.2.2.1) && (!decide (x.1=12) || KT p fn x)
def GQ (l:List NODE) (b:Bool) (nm:List ByteArray) (y:Int):List ByteArray:=bif b && MK l y then nm++[(rd l y zN).2.2.1] else nm
def sn (p:PROG) (fn:Int):Nat→Int→List ByteArray→Bool
 | 0,_,_=>false
 | f+1,k,nm=>okH p fn (rd p.1 k zN) nm && (Fb (fun nm y=>sn p fn f y nm) (GQ p.1 (decide ((rd p.1 k zN).1=20))) (rd p.1 k zN).2.2.2 nm).isSome
theorem Ug (p:PROG) (fn:Int):∀ (f g:Nat) (a:Int) (nm:List ByteArray),(0:Int)<AQ p.1 a→a.toNat<f→a.toNat<g→sn p fn f a nm=sn p fn g a nm
 | 0,_,_,_,_,h,_=>absurd h (by omega)
 | _+1,0,_,_,_,_,h=>absurd h (by omega)
 | f+1,g+1,a,nm,hd,hf,hg=>by
  simp only [sn]
  congr 2
  refine Oh _ _ fun y hy c=>?_
  obtain⟨k1,k2,k3⟩:=DK hd hy;exact Ug p fn f g y c k1 (by omega) (by omega)
def BD (p:PROG) (fn:Int) (k:Int) (nm:List ByteArray):Bool:=sn p fn (k.toNat+1) k nm
theorem On (p:PROG) (fn:Int) {k:Int} (h:(0:Int)<AQ p.1 k) (nm:List ByteArray):BD p fn k nm=(okH p fn (rd p.1 k zN) nm && (Fb (fun nm y=>BD p fn y nm) (GQ p.1 (decide ((rd p.1 k zN).1=20))) (rd p.1 k zN).2.2.2 nm).isSome):=by
 unfold BD;simp only [sn]
 congr 2
 refine Oh _ _ fun y hy c=>?_
 obtain⟨k1,k2,k3⟩:=DK h hy;exact Ug p fn k.toNat (y.toNat+1) y c k1 (by omega) (by omega)
theorem Sk (l:List NODE) (b:Bool) (nm:List ByteArray) (y:Int):(GQ l b nm y).length≤nm.length+1:=by
 unfold GQ;cases b && MK l y<;>simp
theorem US {l:List FN} {s:ByteArray}:Gw l s<(l.length:Int):=by
 unfold Gw;cases h:l.findIdx? fun f=>decide (f.1=s) with
 | none=>simp only;omega
 | some i=>
  obtain⟨h1,_⟩:=List.findIdx?_eq_some_iff_getElem.1 h;simp only;omega
set_option maxRecDepth 100000
abbrev dw:=PROG×(Int×(List ByteArray×Bool))
theorem XZ (l:List ByteArray) (s:ByteArray) (hl:l.length≤16000000):Fw l s=some (OU l s,()):=by
 have h:=JT (step:=Eu) l (fun y=>decide (y=s)) (fun k=>(l,s,(k:Int),())) (.inr (true,())) (.inl ()) (fun k hk=>by
  simp only [Eu,Am hk,decide_true,cond_true,AU hk,AZ hk,Ad (show k<9223372036854775807 by omega)];cases decide (l[k]=s)<;>rfl) (by
  simp only [Eu,Aa,decide_false,cond_false,Option.map_some])
 have h':AK Eu (l,s,(0:Int),())=_:=h
 simp only [Fw,Option.bind_some,h',OU];cases l.any fun y=>decide (y=s)<;>rfl
theorem MB (l:List NODE) (nm:List ByteArray) (y:Int):GQ l false nm y=nm:=rfl
theorem PM (l:List NODE) (nm:List ByteArray):∀ ys:List Int,ys.foldl (GQ l false) nm=nm
 | []=>rfl
 | y::ys=>PM l nm ys
theorem MF {k i j:Int} (h:Ja k i j=true) (hk:k≤19) (h2:¬ ((k=16∨k=17)∧0<i)):1≤j∧j≤12:=by
 unfold Ja at h;rw [decide_eq_false (show ¬ k=20 by omega),cond_false] at h;have e:((decide (k=16) || decide (k=17)) && decide (0<i))=false:=by
  rw [Bool.and_eq_false_iff]
  by_cases hi:0<i
  ·left;have:¬ (k=16∨k=17):=fun h=>h2 ⟨h,hi⟩
   rw [Bool.or_eq_false_iff];exact⟨decide_eq_false (by omega),decide_eq_false (by omega)⟩
  ·right;exact decide_eq_false hi
 rw [e,cond_false] at h
 by_cases h19:k=19
 ·rw [decide_eq_true h19,cond_true] at h;have:=of_decide_eq_true h
  omega
 ·rw [decide_eq_false h19,cond_false] at h;exact of_decide_eq_true h
theorem ME {k i j:Int} (h:Ja k i j=true) (hk:k=16∨k=17) (hi:0<i):j=20:=by
 unfold Ja at h;rw [decide_eq_false (show ¬ k=20 by omega),cond_false] at h;have e:((decide (k=16) || decide (k=17)) && decide (0<i))=true:=by
  rw [Bool.and_eq_true,Bool.or_eq_true];exact⟨hk.imp decide_eq_true decide_eq_true,decide_eq_true hi⟩
 rw [e,cond_true] at h;exact of_decide_eq_true h
theorem RA {k i j:Int} (h:Ja k i j=true) (hk:k=20):13≤j∧j≤19:=by
 unfold Ja at h;rw [decide_eq_true hk,cond_true] at h;exact of_decide_eq_true h
theorem Uk (p:PROG) (hp:FineP p) (fn:Int):∀ (n:Nat) (k:Int) (nm:List ByteArray) (b:Bool),(0:Int)<AQ p.1 k→(rd p.1 k zN).1≤12→k.toNat<n→nm.length≤16000000 →
 (Bz n).1 (p,(fn,(nm,b))) k=some ((p,(fn,(nm,b || !BD p fn k nm))),())
 | 0,_,_,_,_,_,h,_=>absurd h (by omega)
 | n+1,k,nm,b,hd,h12,hn,hnm=>by
  have hk:=(Av hd).1
  have hok:=(Av hd).2.1
  have hkind:=bP hok
  have htw:=EW hok
  have hkid:=fun y hy=>@DK p.1 k hd y hy
  have hval:∀ i (hi:i<(rd p.1 k zN).2.2.2.length),(rd p.1 (rd p.1 k zN).2.2.2[i] zN).1≤12:=fun i hi=>(MF (NX hok hi) (by omega) (by omega)).2
  rw [On p fn hd];show Fd (Bz n).1 (p,(fn,(nm,b))) k=_
  unfold Fd;rw [Cf (show 0≤k∧k<((List.length (p,(fn,(nm,b))).1.1:Nat):Int) from hk)];generalize rd p.1 k zN=x at h12 hkind htw hkid hval ⊢;have h20:¬ x.1=20:=by omega
  rw [decide_eq_false h20];have hl:=CA (step:=CS (Bz n).1) x.2.2.2 (fun(c:List ByteArray×Bool) y=>(GQ p.1 false c.1 y,c.2 || !BD p fn y c.1)) (fun i c=>((i:Int),(p,(fn,(c.1,c.2))),x,())) (fun c=>((p,(fn,(c.1,c.2))),x,())) (fun _ c=>c.1=nm) (fun i hi c hc=>by
   obtain⟨k1,k2,k3⟩:=hkid _ (List.getElem_mem hi);have ih:=Uk p hp fn n x.2.2.2[i] c.1 c.2 k1 (hval i hi) (by omega) (by rw [hc];exact hnm)
   refine⟨?_,by rw [MB];exact hc⟩
   simp only [CS,Am hi,decide_true,cond_true,AU hi,AZ hi,ih,Option.bind_some,Option.map_some,Ad (show i<9223372036854775807 by omega),MB]) (fun c _=>by
   simp only [CS,Aa,decide_false,cond_false,Option.map_some]) (nm,b) rfl
  have h1:=hl.1
  rw [Mx (fun nm y=>BD p fn y nm) (GQ p.1 false),PM] at h1;have h1':AK (CS (Bz n).1) ((0:Int),(p,(fn,(nm,b))),x,())=_:=h1
  simp only [Option.bind_some,h1',AD];generalize (Fb (fun nm y=>BD p fn y nm) (GQ p.1 false) x.2.2.2 nm).isSome=r;have hT:=XZ nm x.2.2.1 hnm
  have hrest:Dg x.1=true→some ((p,(fn,(nm,b || !r || !OU nm x.2.2.1))),())=some ((p,(fn,(nm,b || !(okH p fn x nm && r)))),()):=fun hu=>by
   have e12:¬ x.1=12:=by
    intro h;rw [h] at hu;simp [Dg] at hu
   simp only [okH,hu,Bool.not_true,Bool.false_or,decide_eq_false e12,Bool.not_false,Bool.true_or,Bool.and_true];cases b<;>cases r<;>cases OU nm x.2.2.1<;>rfl
  have hcase:x.1=1∨x.1=2∨x.1=3∨x.1=4∨x.1=5∨x.1=6∨(7≤x.1∧x.1≤11)∨x.1=12:=by omega
  have hset:Dg x.1=true→(bif (b || !r) then some ((p,(fn,(nm,true))),()) else (Fw nm x.2.2.1).bind fun y8=>some ((p,(fn,(nm,!y8.1))),()))=some ((p,(fn,(nm,b || !(okH p fn x nm && r)))),()):=fun hu=>by
   rw [← hrest hu,hT,Option.bind_some];cases (b || !r)<;>rfl
  have huse:x.1=2∨x.1=3∨x.1=4∨x.1=5∨x.1=6→Dg x.1=true:=fun h=>by
   simp only [Dg,Bool.or_eq_true,decide_eq_true_eq];omega
  rcases hcase with h | h | h | h | h | h | h | h
  ·have hu:Dg x.1=false:=by rw [h];rfl
   simp only [h,decide_true,decide_false,cond_true,cond_false,AD,Int.reduceEq,okH,show Dg 1=false from rfl,Bool.not_false,Bool.true_or,Bool.true_and]
  ·have:=hset (huse (by omega))
   simp only [h,decide_true,decide_false,cond_true,cond_false,AD,Int.reduceEq];rw [this];rfl
  ·have:=hset (huse (by omega))
   simp only [h,decide_true,decide_false,cond_true,cond_false,AD,Int.reduceEq];rw [this];rfl
  ·have:=hset (huse (by omega))
   simp only [h,decide_true,decide_false,cond_true,cond_false,AD,Int.reduceEq];rw [this];rfl
  ·have:=hset (huse (by omega))
   simp only [h,decide_true,decide_false,cond_true,cond_false,AD,Int.reduceEq];rw [this];rfl
  ·have:=hset (huse (by omega))
   simp only [h,decide_true,decide_false,cond_true,cond_false,AD,Int.reduceEq];rw [this];rfl
  ·have hu:Dg x.1=false:=by
    simp only [Dg,Bool.or_eq_false_iff,decide_eq_false_iff_not];omega
   simp only [show ¬ x.1=2 by omega,show ¬ x.1=3 by omega,show ¬ x.1=4 by omega,show ¬ x.1=5 by omega,show ¬ x.1=6 by omega,show ¬ x.1=12 by omega,decide_false,cond_false,AD,okH,hu,Bool.not_false,Bool.true_or,Bool.true_and]
  ·have hF:=Kc p hp x.2.2.1
   simp only [h,decide_true,decide_false,cond_true,cond_false,AD,Int.reduceEq,hF,Option.bind_some,okH,show Dg 12=false from rfl,Bool.not_false,Bool.true_or,Bool.true_and,Bool.not_true,Bool.false_or];cases hb:(b || !r)
   ·simp only [cond_false];have hr:b=false∧r=true:=by revert hb;cases b<;>cases r<;>simp
    rw [hr.1,hr.2]
    by_cases h0:Gw p.2 x.2.2.1<0
    ·have hc:KT p fn x=false:=by
      unfold KT;rw [Bool.and_eq_false_iff];exact .inl (decide_eq_false (by omega))
     simp only [h0,decide_true,cond_true,AD,hc];rfl
    ·by_cases h1:fn≤Gw p.2 x.2.2.1
     ·have hc:KT p fn x=false:=by
       unfold KT;rw [Bool.and_eq_false_iff];exact .inl (decide_eq_false (by omega))
      simp only [h0,h1,decide_true,decide_false,cond_true,cond_false,AD,hc];rfl
     ·have hlt:=US (l:=p.2) (s:=x.2.2.1)
      simp only [h0,h1,decide_false,cond_false];rw [Cf ⟨by omega,hlt⟩];simp only [AD,KT,decide_eq_true (show 0≤Gw p.2 x.2.2.1∧Gw p.2 x.2.2.1≤fn - 1 by omega),Bool.true_and,Bool.and_true,Bool.false_or]
      by_cases hl:((rd p.2 (Gw p.2 x.2.2.1) zF).2.1.length:Int)=(x.2.2.2.length:Int)<;>simp [hl]
   ·have hr:(b || !(KT p fn x && r))=true:=by revert hb;cases b<;>cases r<;>simp
    simp only [cond_true,AD,hr]
theorem Ti (p:PROG) (hp:FineP p) (fn:Int) (k:Int) (nm:List ByteArray) (b:Bool) (hd:(0:Int)<AQ p.1 k) (h12:(rd p.1 k zN).1≤12) (hnm:nm.length≤16000000):
 Ec (p,(fn,(nm,b))) k=some ((p,(fn,(nm,b || !BD p fn k nm))),()):=
 JR.2 ⟨k.toNat+1,fun n hn=>Uk p hp fn n k nm b hd h12 (by omega) hnm⟩
set_option maxRecDepth 100000
def ON (l:List NODE) (k:Int) (nm:List ByteArray):List ByteArray:=(rd l k zN).2.2.2.foldl (GQ l true) nm
theorem Sj (l:List NODE):∀ (ys:List Int) (nm:List ByteArray),(ys.foldl (GQ l true) nm).length≤nm.length+ys.length
 | [],nm=>Nat.le_refl _
 | y::ys,nm=>by
  have h1:=Sj l ys (GQ l true nm y)
  have h2:=Sk l true nm y
  simp only [List.foldl_cons,List.length_cons];omega
theorem WB {α:Type} {l:List α} (h:l.length=1):∃ a,l=[a]:=by
 match l,h with
 | [a],_=>exact⟨a,rfl⟩
theorem lV {α:Type} {l:List α} (h:l.length=2):∃ a b,l=[a,b]:=by
 match l,h with
 | [a,b],_=>exact⟨a,b,rfl⟩
theorem fJ {α:Type} {l:List α} (h:l.length=3):∃ a b c,l=[a,b,c]:=by
 match l,h with
 | [a,b,c],_=>exact⟨a,b,c,rfl⟩
theorem eG (p:PROG) (hp:FineP p) (fn:Int):∀ n:Nat,
 (∀ (k:Int) (nm:List ByteArray) (b:Bool),(0:Int)<AQ p.1 k→(rd p.1 k zN).1=20→k.toNat<n→nm.length+12 * (k.toNat+1)≤16000000→(Ak n).1 (p,(fn,(nm,b))) k=some ((p,(fn,(ON p.1 k nm,b || !BD p fn k nm))),())) ∧
 (∀ (k:Int) (nm:List ByteArray) (b:Bool),(0:Int)<AQ p.1 k→(13≤(rd p.1 k zN).1∧(rd p.1 k zN).1≤19)→k.toNat<n→nm.length+12 * (k.toNat+1)≤16000000→(Ak n).2.1 (p,(fn,(nm,b))) k=some ((p,(fn,(GQ p.1 true nm k,b || !BD p fn k nm))),()))
 | 0=>⟨fun _ _ _ _ _ h=>absurd h (by omega),fun _ _ _ _ _ h=>absurd h (by omega)⟩
 | n+1=>by
  obtain⟨ihB,ihS⟩:=eG p hp fn n;have hpn:=hp.n.len
  constructor
  ·intro k nm b hd h20 hn hb;have hk:=(Av hd).1
   have hok:=(Av hd).2.1
   have htw:=EW hok
   have hkid:=fun y hy=>@DK p.1 k hd y hy
   have hstep:∀ i (hi:i<(rd p.1 k zN).2.2.2.length),13≤(rd p.1 (rd p.1 k zN).2.2.2[i] zN).1∧(rd p.1 (rd p.1 k zN).2.2.2[i] zN).1≤19:=fun i hi=>RA (NX hok hi) h20
   rw [On p fn hd];show Fc (Ak n).1 (Ak n).2.1 (p,(fn,(nm,b))) k=_
   unfold Fc ON;have hidx:∀ {α:Type} {K:Option α},(Cnd.idx k (List.length p.1)).run K=K:=fun {α K}=>Cf hk
   have hrd:rd p.1 k zN=rd p.1 k zN:=rfl
   generalize hx:rd p.1 k zN=x at h20 htw hkid hstep hrd ⊢;have hl:=CA (step:=CR (Ak n).1 (Ak n).2.1) x.2.2.2 (fun(c:List ByteArray×Bool) y=>(GQ p.1 true c.1 y,c.2 || !BD p fn y c.1)) (fun i c=>(k,(i:Int),(p,(fn,(c.1,c.2))),())) (fun c=>((p,(fn,(c.1,c.2))),())) (fun i c=>c.1.length≤nm.length+i) (fun i hi c hc=>by
    obtain⟨k1,k2,k3⟩:=hkid _ (List.getElem_mem hi);have ih:=ihS x.2.2.2[i] c.1 c.2 k1 (hstep i hi) (by omega) (by omega)
    refine⟨?_,Nat.le_trans (Sk ..) (by omega)⟩
    simp only [CR,hidx,hx,Am hi,decide_true,cond_true,AU hi,AZ hi,ih,Option.bind_some,Option.map_some,Ad (show i<9223372036854775807 by omega)]) (fun c _=>by
    simp only [CR,hidx,hx,Aa,decide_false,cond_false,Option.map_some]) (nm,b) (Nat.le_refl _)
   have h1:=hl.1
   rw [Mx (fun nm y=>BD p fn y nm) (GQ p.1 true)] at h1;have h1':AK (CR (Ak n).1 (Ak n).2.1) (k,(0:Int),(p,(fn,(nm,b))),())=_:=h1
   simp only [Option.bind_some,h1',AD,okH,h20,show Dg 20=false from rfl,Bool.not_false,Bool.true_or,Bool.true_and,decide_true,show((20:Int)=12)=False from by decide,decide_false]
  ·intro k nm b hd hk13 hn hb;have hk:=(Av hd).1
   have hok:=(Av hd).2.1
   have hlen:=TF hok
   have hkid:=fun y hy=>@DK p.1 k hd y hy
   have hfit:=fun i hi=>@NX p.1 k hok i hi
   rw [On p fn hd];show GB (Ak n).1 (Ak n).2.1 (p,(fn,(nm,b))) k=_
   unfold GB;rw [show GQ p.1 true nm k=bif decide ((rd p.1 k zN).1=13) then nm++[(rd p.1 k zN).2.2.1] else nm from rfl];rw [Cf (show 0≤k∧k<((List.length (p,(fn,(nm,b))).1.1:Nat):Int) from hk)];generalize rd p.1 k zN=x at hk13 hlen hkid hfit ⊢;have h20:¬ x.1=20:=by omega
   have h12:¬ x.1=12:=by omega
   have hpos:0<x.2.2.2.length:=by
    have:(kr x.1).1≥1:=by
     have hc:x.1=13∨x.1=14∨x.1=15∨x.1=16∨x.1=17∨x.1=18∨x.1=19:=by omega
     rcases hc with h | h | h | h | h | h | h<;>rw [h]<;>decide
    omega
   obtain⟨k1,k2,k3⟩:=hkid _ (List.getElem_mem hpos);have hv:=MF (hfit 0 hpos) (by omega) (by simp)
   have hval:=Ti p hp fn x.2.2.2[0] nm b k1 hv.2 (by omega)
   have hT:=XZ nm x.2.2.1 (by omega)
   rw [show(Cnd.idx (0:Int) x.2.2.2.length).run _=_ from AU (k:=0) hpos,show rd x.2.2.2 (0:Int) (0:Int)=x.2.2.2[0] from AZ (k:=0) hpos];simp only [hval,Option.bind_some,okH,decide_eq_false h20,decide_eq_false h12,Bool.not_false,Bool.true_or,Bool.and_true];have one:∀ y,(Fb (fun nm y=>BD p fn y nm) (GQ p.1 false) [y] nm).isSome=BD p fn y nm:=fun y=>by
    simp only [Fb];cases BD p fn y nm<;>rfl
   have hcase:x.1=13∨x.1=14∨x.1=15∨x.1=16∨x.1=17∨(x.1=18∨x.1=19):=by omega
   rcases hcase with h | h | h | h | h | h
   ·rw [h] at hlen;obtain⟨y,hy⟩:=WB (l:=x.2.2.2) (by have:kr 13=(1,1):=rfl;rw [this] at hlen;simp at hlen;omega);simp only [hy,one];simp only [h,decide_true,decide_false,cond_true,cond_false,AD,Int.reduceEq,show Dg 13=false from rfl,Bool.not_false,Bool.true_or,Bool.true_and];rw [DB (by simp;omega),DB (by simp;omega)];simp only [AD,List.nil_append,List.getElem_cons_zero]
   ·rw [h] at hlen;obtain⟨y,hy⟩:=WB (l:=x.2.2.2) (by have:kr 14=(1,1):=rfl;rw [this] at hlen;simp at hlen;omega);simp only [hy,one];simp only [h,decide_true,decide_false,cond_true,cond_false,AD,Int.reduceEq,show Dg 14=true from rfl,Bool.not_true,Bool.false_or,List.getElem_cons_zero,hT,Option.bind_some];cases b<;>cases BD p fn y nm<;>cases OU nm x.2.2.1<;>rfl
   ·rw [h] at hlen;obtain⟨y,hy⟩:=WB (l:=x.2.2.2) (by have:kr 15=(1,1):=rfl;rw [this] at hlen;simp at hlen;omega);simp only [hy,one];simp only [h,decide_true,decide_false,cond_true,cond_false,AD,Int.reduceEq,show Dg 15=true from rfl,Bool.not_true,Bool.false_or,List.getElem_cons_zero,hT,Option.bind_some];cases b<;>cases BD p fn y nm<;>cases OU nm x.2.2.1<;>rfl
   ·rw [h] at hlen;have hl3:x.2.2.2.length=3:=by have:kr 16=(3,3):=rfl;rw [this] at hlen;simp at hlen;omega
    have hb1:=ihB x.2.2.2[1] nm (b || !BD p fn x.2.2.2[0] nm) (hkid _ (List.getElem_mem (by omega))).1 (ME (hfit 1 (by omega)) (.inl h) (by decide)) (by have:=hkid _ (List.getElem_mem (show 1<x.2.2.2.length by omega));omega) (by have:=hkid _ (List.getElem_mem (show 1<x.2.2.2.length by omega));omega)
    have hb2:=ihB x.2.2.2[2] nm (b || !BD p fn x.2.2.2[0] nm || !BD p fn x.2.2.2[1] nm) (hkid _ (List.getElem_mem (by omega))).1 (ME (hfit 2 (by omega)) (.inl h) (by decide)) (by have:=hkid _ (List.getElem_mem (show 2<x.2.2.2.length by omega));omega) (by have:=hkid _ (List.getElem_mem (show 2<x.2.2.2.length by omega));omega)
    have hl:AK (Be (Ak n).1 (Ak n).2.1) ((1:Int),(p,(fn,(nm,b || !BD p fn x.2.2.2[0] nm))),x,())=some ((p,(fn,(nm,b || !BD p fn x.2.2.2[0] nm || !BD p fn x.2.2.2[1] nm || !BD p fn x.2.2.2[2] nm))),()):=by
     rw [BW (b':=(((2:Nat):Int),(p,(fn,(nm,b || !BD p fn x.2.2.2[0] nm || !BD p fn x.2.2.2[1] nm))),x,())) (by
      have a1:((1:Nat):Int)<(x.2.2.2.length:Int):=by omega
      have:=AU (α:=DJ ⊕ (dw×Unit)) (k:=1) (n:=x.2.2.2.length) (by omega) (K:=some (.inl (((2:Nat):Int),(p,(fn,(nm,b || !BD p fn x.2.2.2[0] nm || !BD p fn x.2.2.2[1] nm))),x,())))
      simp only [Be,show(1:Int)<(x.2.2.2.length:Int) from a1,decide_true,cond_true,show rd x.2.2.2 (1:Int) (0:Int)=x.2.2.2[1] from AZ (k:=1) (by omega),hb1,Option.bind_some,Option.map_some];exact this)]
     rw [BW (b':=(((3:Nat):Int),(p,(fn,(nm,b || !BD p fn x.2.2.2[0] nm || !BD p fn x.2.2.2[1] nm || !BD p fn x.2.2.2[2] nm))),x,())) (by
      simp only [Be,Am (show 2<x.2.2.2.length by omega),decide_true,cond_true,AU (show 2<x.2.2.2.length by omega),AZ (show 2<x.2.2.2.length by omega),hb2,Option.bind_some,Option.map_some];rfl)]
     refine BA ?_
     simp only [Be,show ¬ (((3:Nat):Int)<(x.2.2.2.length:Int)) by omega,decide_false,cond_false,Option.map_some]
    simp only [h,decide_true,decide_false,cond_true,cond_false,AD,Int.reduceEq,show Dg 16=false from rfl,Bool.not_false,Bool.true_or,Bool.true_and,Option.bind_some,hl,Bool.false_and];obtain⟨y0,y1,y2,hy⟩:=fJ hl3;simp only [hy,List.getElem_cons_zero,List.getElem_cons_succ,Fb,MB];cases b<;>cases BD p fn y0 nm<;>cases BD p fn y1 nm<;>cases BD p fn y2 nm<;>rfl
   ·rw [h] at hlen;have hl2:x.2.2.2.length=2:=by have:kr 17=(2,2):=rfl;rw [this] at hlen;simp at hlen;omega
    have hb1:=ihB x.2.2.2[1] nm (b || !BD p fn x.2.2.2[0] nm) (hkid _ (List.getElem_mem (by omega))).1 (ME (hfit 1 (by omega)) (.inr h) (by decide)) (by have:=hkid _ (List.getElem_mem (show 1<x.2.2.2.length by omega));omega) (by have:=hkid _ (List.getElem_mem (show 1<x.2.2.2.length by omega));omega)
    have hl:AK (Be (Ak n).1 (Ak n).2.1) ((1:Int),(p,(fn,(nm,b || !BD p fn x.2.2.2[0] nm))),x,())=some ((p,(fn,(nm,b || !BD p fn x.2.2.2[0] nm || !BD p fn x.2.2.2[1] nm))),()):=by
     rw [BW (b':=(((2:Nat):Int),(p,(fn,(nm,b || !BD p fn x.2.2.2[0] nm || !BD p fn x.2.2.2[1] nm))),x,())) (by
      have a1:((1:Nat):Int)<(x.2.2.2.length:Int):=by omega
      have:=AU (α:=DJ ⊕ (dw×Unit)) (k:=1) (n:=x.2.2.2.length) (by omega) (K:=some (.inl (((2:Nat):Int),(p,(fn,(nm,b || !BD p fn x.2.2.2[0] nm || !BD p fn x.2.2.2[1] nm))),x,())))
      simp only [Be,show(1:Int)<(x.2.2.2.length:Int) from a1,decide_true,cond_true,show rd x.2.2.2 (1:Int) (0:Int)=x.2.2.2[1] from AZ (k:=1) (by omega),hb1,Option.bind_some,Option.map_some];exact this)]
     refine BA ?_
     simp only [Be,show ¬ (((2:Nat):Int)<(x.2.2.2.length:Int)) by omega,decide_false,cond_false,Option.map_some]
    simp only [h,decide_true,decide_false,cond_true,cond_false,AD,Int.reduceEq,show Dg 17=false from rfl,Bool.not_false,Bool.true_or,Bool.true_and,Option.bind_some,hl,Bool.false_and];obtain⟨y0,y1,hy⟩:=lV hl2;simp only [hy,List.getElem_cons_zero,List.getElem_cons_succ,Fb,MB];cases b<;>cases BD p fn y0 nm<;>cases BD p fn y1 nm<;>rfl
   ·have hu:Dg x.1=false:=by simp only [Dg,Bool.or_eq_false_iff,decide_eq_false_iff_not];omega
    obtain⟨y,hy⟩:=WB (l:=x.2.2.2) (by
     rcases h with h | h<;>rw [h] at hlen
     ·have:kr 18=(1,1):=rfl;rw [this] at hlen;simp at hlen;omega
     ·have:kr 19=(1,1):=rfl;rw [this] at hlen;simp at hlen;omega)
    simp only [hy,one,hu];simp only [show ¬ x.1=13 by omega,show ¬ x.1=14 by omega,show ¬ x.1=15 by omega,show ¬ x.1=16 by omega,show ¬ x.1=17 by omega,decide_false,cond_false,AD,Bool.not_false,Bool.true_or,Bool.true_and,List.getElem_cons_zero,Bool.false_and,Bool.and_false]
theorem Yt (p:PROG) (hp:FineP p) (fn:Int) (k:Int) (nm:List ByteArray) (b:Bool) (hd:(0:Int)<AQ p.1 k) (h20:(rd p.1 k zN).1=20) (hnm:nm.length≤2000000):
 Gb (p,(fn,(nm,b))) k=some ((p,(fn,(ON p.1 k nm,b || !BD p fn k nm))),()):=by
 have hk:=(Av hd).1
 have hkn:=hp.n.len
 exact JR.2 ⟨k.toNat+1,fun n hn=>(eG p hp fn n).1 k nm b hd h20 (by omega) (by omega)⟩
set_option maxRecDepth 100000
def KE (l:List VAR) (s:ByteArray):Int:=match l.findIdx? (fun v=>decide (v.1=s)) with
 | some i=>(i:Int)
 | none=>-1
theorem Ch (l:List VAR) (hl:l.length≤2097152) (s:ByteArray):Ca l s=some (KE l s,()):=by
 have h:=PS (step:=Fh) l (fun v=>decide (v.1=s)) (fun k=>(l,s,(k:Int),())) (fun k=>.inr ((k:Int),())) (.inl ()) (fun k hk=>by
  simp only [Fh,Am hk,decide_true,cond_true,AU hk,AZ hk,Ad (show k<9223372036854775807 by omega)];cases decide (l[k].1=s)<;>rfl) (by
  simp only [Fh,Aa,decide_false,cond_false,Option.map_some])
 have h':AK Fh (l,s,(0:Int),())=_:=h
 simp only [Ca,Option.bind_some,h',KE];cases l.findIdx? fun v=>decide (v.1=s)<;>rfl
def Zq (l:List VAR) (k:Nat):Bool:=decide (KE l (rd l (k:Int) zV).1=(k:Int))
def TC (l:List VAR):Bool:=(List.range l.length).all (Zq l)
def Jb (x:FN):List ByteArray:=x.2.1.map fun a=>a.1
def nrF (p:PROG) (i:Nat):Bool:=TC (Ee p (i:Int)) && (BD p (i:Int) (rd p.2 (i:Int) zF).2.2.2.1 (Jb (rd p.2 (i:Int) zF)) && (bif decide (0≤(rd p.2 (i:Int) zF).2.2.2.2) then BD p (i:Int) (rd p.2 (i:Int) zF).2.2.2.2 (ON p.1 (rd p.2 (i:Int) zF).2.2.2.1 (Jb (rd p.2 (i:Int) zF))) else true))
def Jt (p:PROG):Bool:=GX p && (List.range p.2.length).all (nrF p)
structure POK (p:PROG):Prop where
 n:AllN p.1
 f:SS p=true
 l:p.1.length≤300
 m:p.2.length≤8
theorem TJ {p:PROG} (h:GX p=true):POK p:=by
 simp only [GX,Bool.and_eq_true,decide_eq_true_eq] at h;exact⟨UI h.2.2.1,h.2.2.2.1,by omega,by omega⟩
theorem POK.deep {p:PROG} (h:POK p) {k:Int} (hk:0≤k∧k<(p.1.length:Int)):(0:Int)<AQ p.1 k:=by
 obtain⟨m,rfl⟩:∃ m:Nat,k=(m:Int):=⟨k.toNat,by omega⟩
 have h1:=(h.n m (by omega)).2
 refine Rt ?_
 unfold AQ;rw [decide_eq_true (by omega),cond_true];exact h1
structure FnIs (p:PROG) (i:Nat) (x:FN):Prop where
 par:x.2.1.length≤3
 bd:(0:Int)<AQ p.1 x.2.2.2.1
 bk:(rd p.1 x.2.2.2.1 zN).1=20
 rt:0≤x.2.2.2.2→(0:Int)<AQ p.1 x.2.2.2.2∧(rd p.1 x.2.2.2.2 zN).1≤12
 rm:-1≤x.2.2.2.2
theorem POK.fn {p:PROG} (h:POK p) {i:Nat} (hi:i<p.2.length):FnIs p i (rd p.2 (i:Int) zF):=by
 have h1:=List.all_eq_true.1 h.f i (by simpa using hi)
 simp only [MG,fnI,Bool.and_eq_true,decide_eq_true_eq,PF] at h1;obtain⟨⟨_,h2,_,_,⟨h3,h4⟩,h5⟩,_⟩:=h1;refine⟨by omega,h.deep (by omega),h4,fun h6=>?_,?_⟩
 ·unfold PY at h5
  by_cases hz:(rd p.2 (i:Int) zF).2.2.1=0
  ·rw [decide_eq_true hz,cond_true,decide_eq_true_eq] at h5;omega
  ·rw [decide_eq_false hz,cond_false,Bool.and_eq_true,decide_eq_true_eq,decide_eq_true_eq] at h5;exact⟨h.deep (by omega),by omega⟩
 ·unfold PY at h5
  by_cases hz:(rd p.2 (i:Int) zF).2.2.1=0
  ·rw [decide_eq_true hz,cond_true,decide_eq_true_eq] at h5;omega
  ·rw [decide_eq_false hz,cond_false,Bool.and_eq_true,decide_eq_true_eq,decide_eq_true_eq] at h5;omega
theorem WG (p:PROG) (hp:FineP p) (i:Int) (l:List VAR) (hl:l.length≤2097152):AK Cy (i,l,(0:Int),p,())=some (bif TC l then .inl (i,p,()) else .inr (.inr (.inr (.inr (false,()))))):=by
 have h:=Bj (step:=Cy) (List.range l.length) (Zq l) (fun k=>(i,l,(k:Int),p,())) (.inl (i,p,())) (.inr (.inr (.inr (.inr (false,()))))) (fun k hk=>by
  have hk':k<l.length:=by simpa using hk
  simp only [Cy,Am hk',decide_true,cond_true,AU hk',Ch l hl,Option.bind_some,List.getElem_range,Zq,Ad (show k<9223372036854775807 by omega)]
  by_cases hc:KE l (rd l (k:Int) zV).1=(k:Int)
  ·simp only [hc,ne_eq,not_true_eq_false,decide_false,decide_true,cond_false,cond_true,Option.map_some]
  ·simp only [hc,ne_eq,not_false_eq_true,decide_false,decide_true,cond_false,cond_true,Option.map_some]) (by
  simp only [Cy,List.length_range,Aa,decide_false,cond_false,Option.map_some])
 exact h
theorem WH (p:PROG) (i:Nat) (hi:i<p.2.length) (x:FN) (hx:rd p.2 (i:Int) zF=x) (hl:x.2.1.length≤1048576):AK Cz ((i:Int),(0:Int),p,(p,((i:Int),([],false))),())=some ((i:Int),p,(p,((i:Int),(Jb x,false))),()):=by
 have h:=Jr (step:=Cz) x.2.1 (fun a=>a.1) (fun k o=>((i:Int),(k:Int),p,(p,((i:Int),(o,false))),())) (fun o=>((i:Int),p,(p,((i:Int),(o,false))),())) (fun k hk o ho=>by
  simp only [Cz,AU hi,hx,Am hk,decide_true,cond_true,AU hk,AZ hk];rw [DB (by simp;omega)];simp only [Option.map_some,Ad (show k<9223372036854775807 by omega)]) (fun o ho=>by
  simp only [Cz,AU hi,hx,Aa,decide_false,cond_false,Option.map_some])
 exact h
theorem Zs (x:FN):(Jb x).length=x.2.1.length:=by simp [Jb]
theorem Ri (p:PROG) (hp:FineP p):GF p=some (Jt p,()):=by
 unfold GF Jt;rw [NI p hp,Option.bind_some];cases hok:GX p
 ·simp only [Bool.not_false,cond_true,Bool.false_and]
 have P:=TJ hok
 have hn:=P.m
 have hnn:=P.l
 have h:=Bj (step:=DA) (List.range p.2.length) (nrF p) (fun i=>((i:Int),p,())) (.inl ()) (.inr (false,())) (fun i hi=>by
  have hi':i<p.2.length:=by simpa using hi
  have F:=P.fn hi'
  simp only [DA,Am hi',decide_true,cond_true,NJ p hp,Option.bind_some,WG p hp (i:Int) _ (Tj hp _),List.getElem_range,nrF];cases TC (Ee p (i:Int))
  ·simp only [cond_false,Bool.false_and,Bg]
  ·generalize hx:rd p.2 (i:Int) zF=x at F ⊢;have hpl:=Zs x
   have hpar:=F.par
   have hpS:=WH p i hi' x hx (by omega)
   have hbl:=Yt p hp (i:Int) x.2.2.2.1 (Jb x) false F.bd F.bk (by omega)
   simp only [cond_true,BV,hpS,AD,AU hi',hx,hbl,Option.bind_some,Bool.false_or,Bool.true_and]
   by_cases hr:0≤x.2.2.2.2
   ·obtain⟨r1,r2⟩:=F.rt hr;have hel:=Sj p.1 (rd p.1 x.2.2.2.1 zN).2.2.2 (Jb x)
    have htw:=EW (Av F.bd).2.1
    have hv:=Ti p hp (i:Int) x.2.2.2.2 (ON p.1 x.2.2.2.1 (Jb x)) (!BD p (i:Int) x.2.2.2.1 (Jb x)) r1 r2 (by unfold ON;omega)
    simp only [hr,decide_true,cond_true,hv,Option.bind_some,AD];cases BD p (i:Int) x.2.2.2.1 (Jb x)<;>cases BD p (i:Int) x.2.2.2.2 (ON p.1 x.2.2.2.1 (Jb x))<;>simp only [Bool.not_true,Bool.not_false,Bool.or_false,Bool.or_true,Bool.true_or,Bool.false_or,Bool.true_and,Bool.false_and,cond_true,cond_false,Option.map_some,Bg,BV,Ad (show i<9223372036854775807 by omega)]
   ·simp only [hr,decide_false,cond_false,AD];cases BD p (i:Int) x.2.2.2.1 (Jb x)<;>simp only [Bool.not_true,Bool.not_false,Bool.and_true,Bool.true_and,Bool.false_and,cond_true,cond_false,Option.map_some,Bg,BV,Ad (show i<9223372036854775807 by omega)]) (by
  simp only [DA,List.length_range,Aa,decide_false,cond_false,Option.map_some])
 have h':AK DA ((0:Int),p,())=_:=h
 simp only [Bool.not_true,cond_false,Option.bind_some,h',Bool.true_and];cases (List.range p.2.length).all (nrF p)<;>rfl
set_option maxRecDepth 100000
section
variable {α β γ:Type} {Q:α→Prop}
theorem KF {b:Bool} {x y x' y':Option β} {k k':β→Option α} (h1:b=true→wq (AB x k) (AB x' k') Q) (h2:b=false→wq (AB y k) (AB y' k') Q):wq (AB (bif b then x else y) k) (AB (bif b then x' else y') k') Q:=by
 cases b
 ·exact h2 rfl
 ·exact h1 rfl
theorem Ff {a:β} {k k':β→Option α} (h:wq (k a) (k' a) Q):wq (AB (some a) k) (AB (some a) k') Q:=h
theorem Pn {x x':Option γ} {f f':γ→Option β} {k k':β→Option α} (h:wq x x' fun a=>wq (AB (f a) k) (AB (f' a) k') Q):wq (AB (x.bind f) k) (AB (x'.bind f') k') Q:=by
 obtain⟨r,rfl,rfl,h2⟩:=h;exact h2
theorem Po {c:Cnd} {x x':Option β} {k k':β→Option α} (hc:c.holds) (h:wq (AB x k) (AB x' k') Q):wq (AB (c.run x) k) (AB (c.run x') k') Q:=by
 have e:∀ y:Option β,c.run y=y:=fun y=>by
  cases y with
  | none=>
   have key:∀ (c:Cnd),c.run (none:Option β)=none:=by
    intro c
    induction c with
    | tt=>rfl
    | idx n len=>simp only [Cnd.run];split<;>rfl
    | nz b=>simp only [Cnd.run];split<;>rfl
    | nn b=>simp only [Cnd.run];split<;>rfl
    | cut lo hi len=>simp only [Cnd.run];split<;>rfl
    | le a b=>simp only [Cnd.run];split<;>rfl
    | both a b iha ihb=>simp only [Cnd.run];rw [ihb,iha]
   exact key c
  | some v=>
   obtain⟨r,h1,h2⟩:=AM (c:=c) (K:=some v) (Q:=fun r=>r=v) hc (AA rfl);rw [h1,h2]
 rw [e,e];exact h
theorem LX {x x':Option (β ⊕ α)} {k k':β→Option α} (h:wq x x' fun _=>True) (hk:∀ b,wq (k b) (k' b) fun _=>True):wq (Ax x k) (Ax x' k') fun _=>True:=by
 obtain⟨s,rfl,rfl,_⟩:=h;cases s with
 | inl b=>exact hk b
 | inr r=>exact⟨r,rfl,rfl,trivial⟩
theorem BQ {x x':Option β} {f:β→α} (h:wq x x' fun _=>True):wq (x.map f) (x'.map f) fun _=>True:=by
 obtain⟨r,rfl,rfl,_⟩:=h;exact⟨f r,rfl,rfl,trivial⟩
theorem Ni {x x':Option β} {k k':β→Option α} (h:wq x x' fun _=>True) (hk:∀ b,wq (k b) (k' b) fun _=>True):wq (x.bind k) (x'.bind k') fun _=>True:=by
 obtain⟨r,rfl,rfl,_⟩:=h;exact hk r
theorem BP {r:α}:wq (some r) (some r) fun _=>True:=⟨r,rfl,rfl,trivial⟩
end
theorem Gf {α:Type} {t:Ty} {x:t.D} {k:t.D→Option α} {Q:α→Prop} (h:wp (k x) Q):wp (Ba x k) Q:=h
theorem PB {α:Type} {t:Ty} {x:t.D} {k k':t.D→Option α} {Q:α→Prop} (h:wq (k x) (k' x) Q):wq (Ba x k) (Ba x k') Q:=h
theorem BL {n:Int} {m:Nat} (h0:0≤n) (h1:n<(m:Int)):(Cnd.idx n m).holds:=by
 exact⟨h0,h1⟩
def du (l:List VAR) (s:ByteArray):Prop:=s∈l.map fun v=>v.1
theorem Re (l:List VAR) (s:ByteArray):-1≤KE l s∧KE l s<(l.length:Int):=by
 unfold KE;split
 next i h=>have:=(List.findIdx?_eq_some_iff_getElem.1 h).1;omega
 next=>omega
theorem Xx {l:List VAR} {s:ByteArray} (h:du l s):0≤KE l s:=by
 unfold KE;split
 ·omega
 next hn=>
  rw [List.findIdx?_eq_none_iff] at hn;obtain⟨v,hv,he⟩:=List.mem_map.1 h;have:=hn v hv
  simp [he] at this
theorem Ru {l:List NODE} {k:Int} (h:(0:Int)<AQ l k) {i:Int} (h0:0≤i) (h1:i<((rd l k zN).2.2.2.length:Int)):(0:Int)<AQ l (rd (rd l k zN).2.2.2 i 0)∧(0≤rd (rd l k zN).2.2.2 i 0∧rd (rd l k zN).2.2.2 i 0<k)∧Ja (rd l k zN).1 i (rd l (rd (rd l k zN).2.2.2 i 0) zN).1=true:=by
 obtain⟨m,rfl⟩:∃ m:Nat,i=(m:Int):=⟨i.toNat,by omega⟩
 have hm:m<(rd l k zN).2.2.2.length:=by omega
 rw [AZ hm];exact⟨(DK h (List.getElem_mem hm)).1,(DK h (List.getElem_mem hm)).2,NX (Av h).2.1 hm⟩
theorem Xy (l:List VAR) (hl:l.length≤2097152) (s:ByteArray):wp (HJ l s) fun _=>True:=by
 unfold HJ;rw [Ch l hl];have hr:=Re l s
 refine AG (AA (AP (fun _=>AA trivial) fun hb=>AM (BL ?_ hr.2) (AA trivial)))
 simpa using hb
abbrev FT:=PROG→List VAR→Int→Option (Int×Unit)
abbrev FB:=PROG→List VAR→Int→Option (Bool×Unit)
abbrev FG:=PROG→List VAR→Int→Option (FN×Bool×Unit)
section
variable {p:PROG} (hp:FineP p) {l:List VAR} (hl:l.length≤2097152)
theorem Tk {k:Int} (h:(0:Int)<AQ p.1 k) (h12:(rd p.1 k zN).1≤12) {i:Int} (h0:0≤i) (h1:i<((rd p.1 k zN).2.2.2.length:Int)):(0:Int)<AQ p.1 (rd (rd p.1 k zN).2.2.2 i 0)∧(0≤rd (rd p.1 k zN).2.2.2 i 0∧rd (rd p.1 k zN).2.2.2 i 0<k)∧(rd p.1 (rd (rd p.1 k zN).2.2.2 i 0) zN).1≤12:=by
 obtain⟨a,b,c⟩:=Ru h h0 h1;obtain⟨m,rfl⟩:∃ m:Nat,i=(m:Int):=⟨i.toNat,by omega⟩
 exact⟨a,b,(MF c (by omega) (by omega)).2⟩
theorem kr1 {k:Int} (h:(0:Int)<AQ p.1 k) {K:Int} (hK:(rd p.1 k zN).1=K):(kr K).1≤((rd p.1 k zN).2.2.2.length:Int)∧((rd p.1 k zN).2.2.2.length:Int)≤(kr K).2:=by
 have:=TF (Av h).2.1
 rwa [hK] at this
theorem gX {r0 r0':FT} {r1 r1':FB} {r2 r2':FG} (k:Int) (h:(0:Int)<AQ p.1 k) (hk:9≤(rd p.1 k zN).1∧(rd p.1 k zN).1≤11) (H:∀ y,(0:Int)<AQ p.1 y→(rd p.1 y zN).1≤12→0≤y∧y<k→wq (r0 p l y) (r0' p l y) fun _=>True):wq (HU r0 r1 r2 p l k) (HU r0' r1' r2' p l k) fun _=>True:=by
 unfold HU;have hkr:=Av h
 have hlen:(2:Int)≤((rd p.1 k zN).2.2.2.length:Int):=by
  have h9:(rd p.1 k zN).1=9∨(rd p.1 k zN).1=10∨(rd p.1 k zN).1=11:=by omega
  rcases h9 with e | e | e<;>exact(kr1 h e).1
 have g0:=Tk h (by omega) (i:=0) (by omega) (by omega)
 have g1:=Tk h (by omega) (i:=1) (by omega) (by omega)
 have i0:(0:Int)<((rd p.1 k zN).2.2.2.length:Int):=by omega
 have i1:(1:Int)<((rd p.1 k zN).2.2.2.length:Int):=by omega
 refine Ap (BL hkr.1.1 hkr.1.2) (Po (BL (by omega) i0) (Pn (AF (H _ g0.1 g0.2.2 g0.2.1) fun _ _=>KF (fun _=>Po (BL (by omega) i1) (Pn (AF (H _ g1.1 g1.2.2 g1.2.1) fun _ _=>Ff BP))) fun _=>Ff BP)))
include hp in
theorem af {r0 r0':FT} {r1 r1':FB} {r2 r2':FG} (k:Int) (h:(0:Int)<AQ p.1 k) (hk:(rd p.1 k zN).1≤12) (H:∀ y,(0:Int)<AQ p.1 y→(rd p.1 y zN).1≤12→0≤y∧y<k→wq (r0 p l y) (r0' p l y) fun _=>True):wq (HT r0 r1 r2 p l k) (HT r0' r1' r2' p l k) fun _=>True:=by
 unfold HT;have hkr:=Av h
 have hlt:=US (l:=p.2) (s:=(rd p.1 k zN).2.2.1)
 have h12:=EW hkr.2.1
 refine Ap (BL hkr.1.1 hkr.1.2) ?_
 rw [Kc p hp];refine AJ (AI (BC (AF (Q:=fun x:List VAR×Int×Bool×PROG×FN×NODE×Unit=>x.1=l∧x.2.2.2.1=p∧x.2.2.2.2.2.1=rd p.1 k zN∧(x.2.2.1=false→0≤x.2.1∧x.2.1<(p.2.length:Int)∧(rd p.2 x.2.1 zF).2.1.length=(rd p.1 k zN).2.2.2.length)) ?_ fun x hx=>?_)))
 ·refine Ab (fun _=>AI ⟨rfl,rfl,rfl,fun h=>by cases h⟩) fun hb=>Ap (BL (by simpa using hb) hlt) (AI ⟨rfl,rfl,rfl,fun h=>⟨by simpa using hb,hlt,?_⟩⟩)
  have h2:=of_decide_eq_false h
  exact Int.ofNat_inj.1 (Classical.not_not.1 h2)
 ·obtain⟨x1,x2,x3,x4,x5,x6,_⟩:=x;simp only at hx ⊢;obtain⟨e1,e2,e3,hx⟩:=hx;subst e1 e2 e3;refine Ab (fun _=>BP) fun hb=>?_
  obtain⟨a1,a2,a3⟩:=hx hb;refine aV (AJ (AI (AF (Hs (fun x:Hx=>x.1=x1∧x.2.1=x2∧0≤x.2.2.1∧x.2.2.2.1=x4∧x.2.2.2.2.2.1=rd x4.1 k zN) (fun x=>((rd x4.1 k zN).2.2.2.length - x.2.2.1).toNat) (Q:=fun s:(Int×PROG×FN×Unit) ⊕ (FN×Bool×Unit)=>∀ b,s=.inl b→b.1=x2∧b.2.1=x4) (fun x hx=>?_) ⟨rfl,rfl,by simp,rfl,rfl⟩) fun s hs=>⟨fun b hb=>?_,fun _ _=>trivial⟩)))
  ·obtain⟨b1,b2,b3,b4,b5,b6,_⟩:=x;simp only at hx;obtain⟨e1,e2,b30,e4,e5⟩:=hx;subst e1 e2 e4 e5;unfold Lf;simp only;refine Ab (fun hi=>?_) fun hi=>Bv (Bv (AI (BK fun b hb=>?_)))
   ·have hi':=of_decide_eq_true hi
    have g0:=Tk h hk (i:=b3) (by omega) (by omega)
    have i2:b3<(((rd b4.2 b2 zF).2.1.length:Nat):Int):=by omega
    refine Ap (BL b30 hi') (AJ (AF (H _ g0.1 g0.2.2 g0.2.1) fun y _=>Ap (BL a1 a2) (Ap (BL b30 i2) (Ab (fun _=>Bv (Bv (AI (BK fun b hb=>by cases hb)))) fun _=>Bv (AI (Bc ?_))))))
    rw [Aq (by omega) (by omega)];exact⟨⟨rfl,rfl,by simp only;omega,rfl,rfl⟩,by simp only;omega⟩
   ·cases hb
    exact⟨rfl,rfl⟩
  ·obtain⟨f1,f2⟩:=hs b hb;refine Ap (BL ?_ ?_) BP
   ·rw [f1];exact a1
   ·rw [f1,f2];exact a2
include hl in
theorem fj {r0 r0':FT} {r1 r1':FB} {r2 r2':FG} (k:Int) (h:(0:Int)<AQ p.1 k) (hk:(rd p.1 k zN).1≤12) (H:∀ y,(0:Int)<AQ p.1 y→(rd p.1 y zN).1≤12→0≤y∧y<k→wq (r0 p l y) (r0' p l y) fun _=>True) (H1:9≤(rd p.1 k zN).1∧(rd p.1 k zN).1≤11→wq (r1 p l k) (r1' p l k) fun _=>True) (H2:wq (r2 p l k) (r2' p l k) fun _=>True):wq (Gn r0 r1 r2 p l k) (Gn r0' r1' r2' p l k) fun _=>True:=by
 unfold Gn;have hkr:=Av h
 refine Ap (BL hkr.1.1 hkr.1.2) (AJ (AF (Ae (Xy l hl _)) fun y1 _=>BC (AF (Q:=fun x:List VAR×Int×Int×Bool×PROG×NODE×Unit=>x.1=l∧x.2.1=k∧x.2.2.2.2.1=p∧x.2.2.2.2.2.1=rd p.1 k zN) (Ab (fun _=>AI ⟨rfl,rfl,rfl,rfl⟩) fun _=>Ab (fun _=>AI ⟨rfl,rfl,rfl,rfl⟩) fun _=>AI ⟨rfl,rfl,rfl,rfl⟩) fun x hx=>?_)))
 obtain⟨x1,x2,x3,x4,x5,x6,_⟩:=x;simp only at hx ⊢;obtain⟨e1,e2,e3,e4⟩:=hx;subst e1 e2 e3 e4;refine BC (AF (Q:=fun x:List VAR×Int×Int×Bool×Int×Bool×PROG×NODE×Unit=>x.1=x1∧x.2.1=x2∧x.2.2.2.2.1=(rd x5.1 x2 zN).1∧x.2.2.2.2.2.2.1=x5∧x.2.2.2.2.2.2.2.1=rd x5.1 x2 zN) (Ab (fun _=>AI ⟨rfl,rfl,rfl,rfl,rfl⟩) fun _=>AI ⟨rfl,rfl,rfl,rfl,rfl⟩) fun x hx=>?_)
 obtain⟨z1,z2,z3,z4,z5,z6,z7,z8,_⟩:=x;simp only at hx ⊢;obtain⟨e1,e2,e3,e4,e5⟩:=hx;subst e1 e2 e3 e4 e5;refine Ab (fun _=>BP) fun _=>Ab (fun _=>BP) fun _=>LX (Ab (fun _=>Ab (fun _=>BQ BP) fun _=>BQ BP) fun _=>?_) fun _=>BP
 refine LX (Ab (fun _=>Ab (fun _=>BQ (BQ BP)) fun _=>BQ BP) fun _=>?_) fun _=>BQ BP
 refine LX (Ab (fun _=>Ab (fun _=>BQ (BQ (BQ BP))) fun _=>BQ BP) fun _=>?_) fun _=>BQ BP
 refine LX (Ab (fun _=>Ab (fun _=>BQ (BQ (BQ (BQ BP)))) fun _=>BQ BP) fun _=>?_) fun _=>BQ BP
 refine LX (Ab (fun hb=>?_) fun _=>?_) fun _=>BQ BP
 ·have hb':=of_decide_eq_true hb
  have hlen:=(kr1 h hb').1
  have e8:(kr 8).1=1:=by decide
  have g0:=Tk h hk (i:=0) (by omega) (by omega)
  refine Ap (BL (by omega) (by omega)) (Ni (H _ g0.1 g0.2.2 g0.2.1) fun _=>Ab (fun _=>BQ (BQ (BQ (BQ (BQ BP))))) fun _=>BQ BP)
 ·refine BC (AF (Q:=fun x:List VAR×Int×Int×Bool×PROG×Unit=>x.1=z1∧x.2.1=z2∧x.2.2.2.2.1=z7∧(x.2.2.2.1=true→9≤(rd z7.1 z2 zN).1∧(rd z7.1 z2 zN).1≤11)) ?_ fun x hx=>?_)
  ·refine Ab (fun hb=>?_) fun _=>KF (fun hb=>?_) fun _=>?_
   ·exact AI ⟨rfl,rfl,rfl,fun _=>by have:=of_decide_eq_true hb;omega⟩
   ·exact Ff (AI ⟨rfl,rfl,rfl,fun _=>by have:=of_decide_eq_true hb;omega⟩)
   ·exact Ff (AI ⟨rfl,rfl,rfl,fun hb=>by have:=of_decide_eq_true hb;omega⟩)
  ·obtain⟨w1,w2,w3,w4,w5,_⟩:=x;simp only at hx ⊢;obtain⟨e1,e2,e3,hx⟩:=hx;subst e1 e2 e3;exact LX (Ab (fun hb=>Ni (H1 (hx hb)) fun _=>Ab (fun _=>BQ (BQ (BQ (BQ (BQ (BQ BP)))))) fun _=>BQ BP) fun _=>LX (Ab (fun _=>Ni H2 fun _=>Ab (fun _=>BQ (BQ (BQ (BQ (BQ (BQ (BQ BP))))))) fun _=>BQ BP) fun _=>BQ BP) fun _=>BQ BP) fun _=>BQ BP
end
set_option maxRecDepth 100000
section
variable {p:PROG} (hp:FineP p) {l:List VAR} (hl:l.length≤2097152)
include hp hl
theorem Xt:∀ m:Nat,∀ n n' k,(0:Int)<AQ p.1 k→(rd p.1 k zN).1≤12→k.toNat<m→2 * k.toNat+2≤n→2 * k.toNat+2≤n'→wq ((AY n).1 p l k) ((AY n').1 p l k) fun _=>True:=by
 intro m
 induction m with
 | zero=>intro n n' k _ _ h;omega
 | succ m ih=>
  intro n n' k h hk hm hn hn';have H:∀ j j',2 * k.toNat≤j→2 * k.toNat≤j'→∀ y,(0:Int)<AQ p.1 y→(rd p.1 y zN).1≤12→0≤y∧y<k→wq ((AY j).1 p l y) ((AY j').1 p l y) fun _=>True:=
   fun j j' hj hj' y hy h12 hyk=>ih j j' y hy h12 (by omega) (by omega) (by omega)
  obtain⟨n,rfl⟩:∃ j,n=j+1:=⟨n - 1,by omega⟩
  obtain⟨n',rfl⟩:∃ j,n'=j+1:=⟨n' - 1,by omega⟩
  have T:9≤(rd p.1 k zN).1∧(rd p.1 k zN).1≤11→wq ((AY n).2.1 p l k) ((AY n').2.1 p l k) fun _=>True:=fun h9=>by
   obtain⟨n,rfl⟩:∃ j,n=j+1:=⟨n - 1,by omega⟩
   obtain⟨n',rfl⟩:∃ j,n'=j+1:=⟨n' - 1,by omega⟩
   exact gX (r0:=(AY n).1) (r0':=(AY n').1) (r1:=(AY n).2.1) (r1':=(AY n').2.1) (r2:=(AY n).2.2.1) (r2':=(AY n').2.2.1) k h h9 (H n n' (by omega) (by omega))
  have G:wq ((AY n).2.2.1 p l k) ((AY n').2.2.1 p l k) fun _=>True:=by
   obtain⟨n,rfl⟩:∃ j,n=j+1:=⟨n - 1,by omega⟩
   obtain⟨n',rfl⟩:∃ j,n'=j+1:=⟨n' - 1,by omega⟩
   exact af hp (r0:=(AY n).1) (r0':=(AY n').1) (r1:=(AY n).2.1) (r1':=(AY n').2.1) (r2:=(AY n).2.2.1) (r2':=(AY n').2.2.1) k h hk (H n n' (by omega) (by omega))
  exact fj hl (r0:=(AY n).1) (r0':=(AY n').1) (r1:=(AY n).2.1) (r1':=(AY n').2.1) (r2:=(AY n).2.2.1) (r2':=(AY n').2.2.1) k h hk (H n n' (by omega) (by omega)) T G
theorem Nf (k:Int) (h:(0:Int)<AQ p.1 k) (hk:(rd p.1 k zN).1≤12):wp (Dw p l k) fun _=>True:=by
 unfold Dw;exact JX (2 * k.toNat+2) fun n hn=>Xt hp hl _ n _ k h hk (Nat.lt_succ_self _) hn (Nat.le_refl _)
theorem fe (k:Int) (h:(0:Int)<AQ p.1 k) (hk:(rd p.1 k zN).1≤12):wp (JD p l k) fun _=>True:=by
 unfold JD;refine JX (2 * k.toNat+1) fun n hn=>?_
 obtain⟨n,rfl⟩:∃ j,n=j+1:=⟨n - 1,by omega⟩
 exact af hp (r0:=(AY n).1) (r0':=(AY (2 * k.toNat)).1) (r1:=(AY n).2.1) (r1':=(AY (2 * k.toNat)).2.1) (r2:=(AY n).2.2.1) (r2':=(AY (2 * k.toNat)).2.2.1) k h hk fun y hy h12 hyk=>Xt hp hl _ n _ y hy h12 (Nat.lt_succ_self _) (by omega) (by omega)
end
section
variable {p:PROG} (hp:FineP p) {l:List VAR} (hl:l.length≤2097152)
theorem aA {k:Int} (h:(0:Int)<AQ p.1 k) (h13:13≤(rd p.1 k zN).1) (h19:(rd p.1 k zN).1≤19):(0:Int)<((rd p.1 k zN).2.2.2.length:Int)∧(0:Int)<AQ p.1 (rd (rd p.1 k zN).2.2.2 0 0)∧(0≤rd (rd p.1 k zN).2.2.2 0 0∧rd (rd p.1 k zN).2.2.2 0 0<k)∧(rd p.1 (rd (rd p.1 k zN).2.2.2 0 0) zN).1≤12:=by
 have hlen:(0:Int)<((rd p.1 k zN).2.2.2.length:Int):=by
  have e:(rd p.1 k zN).1=13∨(rd p.1 k zN).1=14∨(rd p.1 k zN).1=15∨(rd p.1 k zN).1=16∨(rd p.1 k zN).1=17∨(rd p.1 k zN).1=18∨(rd p.1 k zN).1=19:=by omega
  rcases e with e | e | e | e | e | e | e<;>exact Int.lt_of_lt_of_le (by decide) (kr1 h e).1
 obtain⟨a,b,c⟩:=Ru h (i:=0) (by omega) hlen;exact⟨hlen,a,b,(MF (i:=0) c (by omega) (by omega)).2⟩
theorem Qe {k:Int} (h:(0:Int)<AQ p.1 k) (h16:(rd p.1 k zN).1=16∨(rd p.1 k zN).1=17) {i:Int} (h0:0<i) (hi:i≤(kr (rd p.1 k zN).1).1 - 1):i<((rd p.1 k zN).2.2.2.length:Int)∧(0:Int)<AQ p.1 (rd (rd p.1 k zN).2.2.2 i 0)∧(0≤rd (rd p.1 k zN).2.2.2 i 0∧rd (rd p.1 k zN).2.2.2 i 0<k)∧(rd p.1 (rd (rd p.1 k zN).2.2.2 i 0) zN).1=20:=by
 have hlen:i<((rd p.1 k zN).2.2.2.length:Int):=by
  have:=(kr1 h rfl).1
  omega
 obtain⟨a,b,c⟩:=Ru h (i:=i) (by omega) hlen;obtain⟨m,rfl⟩:∃ m:Nat,i=(m:Int):=⟨i.toNat,by omega⟩
 exact⟨hlen,a,b,ME c h16 (by omega)⟩
theorem eE {k:Int} (h:(0:Int)<AQ p.1 k) (h20:(rd p.1 k zN).1=20) {i:Int} (h0:0≤i) (hi:i<((rd p.1 k zN).2.2.2.length:Int)):(0:Int)<AQ p.1 (rd (rd p.1 k zN).2.2.2 i 0)∧(0≤rd (rd p.1 k zN).2.2.2 i 0∧rd (rd p.1 k zN).2.2.2 i 0<k)∧13≤(rd p.1 (rd (rd p.1 k zN).2.2.2 i 0) zN).1∧(rd p.1 (rd (rd p.1 k zN).2.2.2 i 0) zN).1≤19:=by
 obtain⟨a,b,c⟩:=Ru h h0 hi;obtain⟨m,rfl⟩:∃ m:Nat,i=(m:Int):=⟨i.toNat,by omega⟩
 exact⟨a,b,RA c h20⟩
theorem fw {r0 r0' r1 r1':FB} (k:Int) (h:(0:Int)<AQ p.1 k) (h20:(rd p.1 k zN).1=20) (H:∀ y,(0:Int)<AQ p.1 y→13≤(rd p.1 y zN).1∧(rd p.1 y zN).1≤19→0≤y∧y<k→wq (r1 p l y) (r1' p l y) fun _=>True):wq (GK r0 r1 p l k) (GK r0' r1' p l k) fun _=>True:=by
 unfold GK;have hkr:=Av h
 have h12:=EW hkr.2.1
 refine LX (AJ (AI (Hs (fun x:Gu=>x.1=l∧x.2.1=k∧0≤x.2.2.1∧x.2.2.2.1=p) (fun x=>((rd p.1 k zN).2.2.2.length - x.2.2.1).toNat) (fun x hx=>?_) ⟨rfl,rfl,by simp,rfl⟩))) fun _=>BP
 obtain⟨b1,b2,b3,b4,_⟩:=x;simp only at hx;obtain⟨e1,e2,b30,e4⟩:=hx;subst e1 e2 e4;unfold KL;simp only;refine Ap (BL hkr.1.1 hkr.1.2) (Ab (fun hi=>?_) fun hi=>Bv (Bv (AI (BK trivial))))
 have hi':b3<((rd b4.1 b2 zN).2.2.2.length:Int):=of_decide_eq_true hi
 have g0:=eE h h20 b30 hi'
 refine Ap (BL hkr.1.1 hkr.1.2) (Ap (BL b30 hi') (AJ (AF (H _ g0.1 g0.2.2 g0.2.1) fun y _=>Ab (fun _=>Bv (Bv (AI (BK trivial)))) fun _=>Bv (AI (Bc ?_)))))
 rw [Aq (by omega) (by omega)];exact⟨⟨rfl,rfl,by simp only;omega,rfl⟩,by simp only;omega⟩
include hp hl in
theorem gW {r0 r0' r1 r1':FB} (k:Int) (h:(0:Int)<AQ p.1 k) (h13:13≤(rd p.1 k zN).1∧(rd p.1 k zN).1≤19) (H:∀ y,(0:Int)<AQ p.1 y→(rd p.1 y zN).1=20→0≤y∧y<k→wq (r0 p l y) (r0' p l y) fun _=>True):wq (Gm r0 r1 p l k) (Gm r0' r1' p l k) fun _=>True:=by
 unfold Gm;have hkr:=Av h
 have g:=aA h h13.1 h13.2
 refine Ap (BL hkr.1.1 hkr.1.2) (Ab (fun _=>Ap (BL (by omega) g.1) (Ni (Ae (fe hp hl _ g.2.1 g.2.2.2)) fun _=>BP)) fun _=>Ap (BL (by omega) g.1) (Ni (Ae (Nf hp hl _ g.2.1 g.2.2.2)) fun _=>Ni (Ae (Xy l hl _)) fun _=>?_))
 refine Ab (fun _=>BP) fun _=>Ab (fun _=>?_) fun _=>Ab (fun _=>?_) fun _=>Ab (fun e=>?_) fun _=>Ab (fun e=>?_) fun _=>BP
 ·exact KF (fun _=>KF (fun _=>Ff BP) fun _=>Ff BP) fun _=>Ff BP
 ·exact KF (fun _=>KF (fun _=>Ff BP) fun _=>Ff BP) fun _=>Ff BP
 ·have e':(rd p.1 k zN).1=16:=of_decide_eq_true e
  have i1:=Qe h (.inl e') (i:=1) (by omega) (by rw [e'];decide)
  have i2:=Qe h (.inl e') (i:=2) (by omega) (by rw [e'];decide)
  exact KF (fun _=>Po (BL (by omega) i1.1) (Pn (AF (H _ i1.2.1 i1.2.2.2 i1.2.2.1) fun _ _=>KF (fun _=>Po (BL (by omega) i2.1) (Pn (AF (H _ i2.2.1 i2.2.2.2 i2.2.2.1) fun _ _=>Ff BP))) fun _=>Ff BP))) fun _=>Ff BP
 ·have e':(rd p.1 k zN).1=17:=of_decide_eq_true e
  have i1:=Qe h (.inr e') (i:=1) (by omega) (by rw [e'];decide)
  exact KF (fun _=>Po (BL (by omega) i1.1) (Pn (AF (H _ i1.2.1 i1.2.2.2 i1.2.2.1) fun _ _=>Ff BP))) fun _=>Ff BP
include hp hl in
theorem fv:∀ m:Nat,∀ n n' k,(0:Int)<AQ p.1 k→(rd p.1 k zN).1=20→k.toNat<m→2 * k.toNat+1≤n→2 * k.toNat+1≤n'→wq ((BM n).1 p l k) ((BM n').1 p l k) fun _=>True:=by
 intro m
 induction m with
 | zero=>intro n n' k _ _ h;omega
 | succ m ih=>
  intro n n' k h hk hm hn hn';obtain⟨n,rfl⟩:∃ j,n=j+1:=⟨n - 1,by omega⟩
  obtain⟨n',rfl⟩:∃ j,n'=j+1:=⟨n' - 1,by omega⟩
  refine fw (r0:=(BM n).1) (r0':=(BM n').1) (r1:=(BM n).2.1) (r1':=(BM n').2.1) k h hk fun y hy h13 hyk=>?_
  obtain⟨n,rfl⟩:∃ j,n=j+1:=⟨n - 1,by omega⟩
  obtain⟨n',rfl⟩:∃ j,n'=j+1:=⟨n' - 1,by omega⟩
  exact gW hp hl (r0:=(BM n).1) (r0':=(BM n').1) (r1:=(BM n).2.1) (r1':=(BM n').2.1) y hy h13 fun z hz h20 hzy=>ih n n' z hz h20 (by omega) (by omega) (by omega)
include hp hl in
theorem eF (k:Int) (h:(0:Int)<AQ p.1 k) (hk:(rd p.1 k zN).1=20):wp (HS p l k) fun _=>True:=by
 unfold HS;exact JX (2 * k.toNat+1) fun n hn=>fv hp hl _ n _ k h hk (Nat.lt_succ_self _) hn (Nat.le_refl _)
end
def Eh (l:List VAR):List ByteArray:=l.map fun v=>v.1
theorem XT {l:List VAR} {i:Nat} (h:i<l.length) (t:Int×Int):Eh (l.set i (l[i].1,t))=Eh l:=by
 unfold Eh;rw [List.map_set];apply List.ext_getElem (by simp)
 intro k h1 h2;rw [List.getElem_set];split
 ·next e=>subst e;simp
 ·rfl
def Yo (p:PROG) (l:List VAR):Prop:=∀ v∈l,0≤(v:VAR).2.2→(0:Int)<AQ p.1 v.2.2∧(rd p.1 v.2.2 zN).1=13
theorem XN {p:PROG} (P:POK p) (fn:Int):Yo p (Ee p fn):=by
 intro v hv h0;unfold Ee at hv;cases hf:OP p fn
 ·rw [hf] at hv;cases hv
 ·rw [hf,cond_true] at hv;have hr:0≤fn∧fn≤(p.2.length:Int) - 1:=by simpa [OP] using hf
  obtain⟨m,rfl⟩:∃ m:Nat,fn=(m:Int):=⟨fn.toNat,by omega⟩
  have F:=P.fn (i:=m) (by omega)
  rcases List.mem_append.1 hv with hv | hv
  ·obtain⟨x,_,rfl⟩:=List.mem_map.1 hv;exact absurd h0 (by simp [TG])
  ·obtain⟨x,hx,rfl⟩:=List.mem_map.1 hv;obtain⟨h1,h2⟩:=List.mem_filter.1 hx;have hd:=F.bd
   unfold Ge at h1;rw [decide_eq_false (by omega),cond_false] at h1;exact⟨Rd hd ((Ob hd x).1 h1),of_decide_eq_true h2⟩
theorem Ul {p:PROG} (hp:FineP p) (P:POK p) (fn:Int):wp (FH p fn) fun y=>y.1.length≤2097152∧(y.2.1=true→Eh y.1=Eh (Ee p fn)):=by
 unfold FH;rw [NJ p hp fn];have hvl:=Tj hp fn
 refine AG (AA (Hi (AG (AA (AE (wp_loop (fun x:Ha=>x.1.length≤2097152∧Eh x.1=Eh (Ee p fn)∧0≤x.2.1∧x.2.2.1=p∧Yo p x.1) (fun x=>(x.1.length - x.2.1).toNat) (Q:=fun s:(List VAR×Unit) ⊕ (List VAR×Bool×Unit)=>(∀ b,s=.inl b→b.1.length≤2097152∧Eh b.1=Eh (Ee p fn))∧∀ r,s=.inr r→r.1.length≤2097152∧(r.2.1=true→Eh r.1=Eh (Ee p fn))) (fun x hx=>?_) ⟨hvl,rfl,by simp,rfl,XN P fn⟩) fun s hs=>⟨fun b hb=>AA ⟨(hs.1 b hb).1,fun _=>(hs.1 b hb).2⟩,hs.2⟩)))))
 obtain⟨b1,b2,b3,_⟩:=x;simp only at hx;obtain⟨hle,hnm,b20,e3,hlv⟩:=hx;subst e3;unfold Km;simp only;refine AP (fun hi=>?_) fun hi=>Aj (Aj (AA (BK ⟨fun b hb=>by cases hb;exact⟨hle,hnm⟩,fun r hr=>by cases hr⟩)))
 have hi':=of_decide_eq_true hi
 refine AM (BL b20 hi') (Ah (AE (Q:=fun x:List VAR×Int×PROG×Unit=>x.1.length=b1.length∧Eh x.1=Eh b1∧x.2.1=b2∧x.2.2.1=b3∧Yo b3 x.1) (AP (fun hb=>?_) fun _=>AA ⟨rfl,rfl,rfl,rfl,hlv⟩) fun x hx=>?_))
 ·have hb':0≤(rd b1 b2 zV).2.2:=of_decide_eq_true hb
  obtain⟨g1,g2⟩:=hlv _ (Cm b1 b2 zV b20 hi') hb';have gr:=Av g1
  have gs:=aA g1 (by omega) (by omega)
  refine AM (BL b20 hi') (AM (BL gr.1.1 gr.1.2) (AM (BL (by omega) gs.1) (AG (AE (Nf hp (by omega) _ gs.2.1 gs.2.2.2) fun y _=>AM (BL b20 hi') (Gf (AA ⟨?_,?_,rfl,rfl,?_⟩))))))
  ·simp
  ·obtain⟨m,rfl⟩:∃ m:Nat,b2=(m:Int):=⟨b2.toNat,by omega⟩
   have hm:m<b1.length:=by omega
   simp only [AZ hm,Int.toNat_natCast];exact XT hm _
  ·intro v hv h0;rcases List.mem_or_eq_of_mem_set hv with hv | hv
   ·exact hlv v hv h0
   ·subst hv;exact⟨g1,g2⟩
 ·obtain⟨x1,x2,x3,_⟩:=x;simp only at hx ⊢;obtain⟨f1,f2,f3,f4,f5⟩:=hx;subst f3 f4;refine AM (BL b20 (by omega)) (AP (fun _=>Aj (Aj (AA (BK ⟨fun b hb=>(by cases hb),fun r hr=>by cases hr;exact⟨by simp,fun h=>by cases h⟩⟩)))) fun _=>Aj (AA (Bc ?_)))
  rw [Aq (by omega) (by omega)];exact⟨⟨by simp only;omega,by simp only;rw [f2,hnm],by simp only;omega,rfl,f5⟩,by simp only;omega⟩
def Ro (p:PROG) (i:Int):Prop:=∃ v,FH p i=some (v,true,())
theorem aM {p:PROG} (hp:FineP p):wp (GG p) fun y=>y.1=true→GX p=true∧∀ i:Int,0≤i∧i<(p.2.length:Int)→Ro p i:=by
 unfold GG;rw [Ri p hp];refine AG (AA (AP (fun _=>AA fun h=>by cases h) fun hb=>?_))
 have hok:GX p=true:=by
  have:Jt p=true:=by simpa using hb
  unfold Jt at this;exact(Bool.and_eq_true_iff.1 this).1
 have P:=TJ hok
 have hm:=P.m
 refine Hi (AG (AA (AE (wp_loop (fun x:Fx=>0≤x.1∧x.2.1=p∧∀ i:Int,0≤i∧i<x.1→Ro p i) (fun x=>(p.2.length - x.1).toNat) (Q:=fun s:Unit ⊕ (Bool×Unit)=>(s=.inl ()→∀ i:Int,0≤i∧i<(p.2.length:Int)→Ro p i)∧∀ r,s=.inr r→r.1=false) (fun x hx=>?_) ⟨by simp,rfl,fun i hi=>by simp only at hi;omega⟩) fun s hs=>⟨fun b hb=>AA fun _=>⟨hok,hs.1 hb⟩,fun r hr h=>by rw [hs.2 r hr] at h;cases h⟩)))
 obtain⟨b1,b2,_⟩:=x;simp only at hx;obtain⟨b10,e2,hall⟩:=hx;subst e2;unfold JH;simp only;refine AP (fun hi=>?_) fun hi=>Aj (Aj (AA (BK ⟨fun _ i hi2=>hall i ?_,fun r hr=>by cases hr⟩)))
 ·have hi':=of_decide_eq_true hi
  have F:=P.fn (i:=b1.toNat) (by omega)
  rw [show((b1.toNat:Nat):Int)=b1 by omega] at F;obtain⟨y,hy0,hy⟩:=Ul hp P b1;rw [hy0];refine AG (AA (AM (BL b10 hi') (Ah (AE (Q:=fun x:Int×Bool×PROG×Unit=>x.1=b1∧x.2.2.1=b2∧(x.2.1=false→y.2.1=true)) (AP (fun _=>AA ⟨rfl,rfl,fun h=>by cases h⟩) fun hv=>AG (AE (eF hp hy.1 _ F.bd F.bk) fun z _=>AP (fun _=>AA ⟨rfl,rfl,fun h=>by cases h⟩) fun _=>AP (fun hr=>?_) fun _=>AA ⟨rfl,rfl,fun _=>by simpa using hv⟩)) fun x hx=>?_))))
  ·have hr':=F.rt (of_decide_eq_true hr)
   exact AG (AE (Nf hp hy.1 _ hr'.1 hr'.2) fun z _=>AA ⟨rfl,rfl,fun _=>by simpa using hv⟩)
  ·obtain⟨x1,x2,x3,_⟩:=x;simp only at hx ⊢;obtain⟨f1,f2,f3⟩:=hx;subst f1 f2;refine AP (fun _=>Aj (Aj (AA (BK ⟨fun h=>(by cases h),fun r hr=>by cases hr;rfl⟩)))) fun hf=>Aj (AA (Bc ?_))
   rw [Aq (by omega) (by omega)];refine⟨⟨by simp only;omega,rfl,fun i hi2=>?_⟩,by simp only;omega⟩
   by_cases e:i=x1
   ·subst e;obtain⟨y1,y2,_⟩:=y;have:=f3 hf
    simp only at this;subst this;exact⟨y1,hy0⟩
   ·exact hall i (by simp only at hi2;omega)
 ·have:=of_decide_eq_false hi
  omega
set_option maxRecDepth 100000
theorem PL (ds:List Int):∀ (ys:List Int) (d:Int),d≤ys.foldl (EV ds) d∧∀ y∈ys,rd ds y (0:Int)+1≤ys.foldl (EV ds) d
 | [],d=>⟨Int.le_refl _,by simp⟩
 | y::ys,d=>by
  have h:=PL ds ys (EV ds d y)
  have h1:d≤EV ds d y∧rd ds y (0:Int)+1≤EV ds d y:=by
   unfold EV;split<;>omega
  rw [List.foldl_cons];refine⟨by omega,fun z hz=>?_⟩
  rcases List.mem_cons.1 hz with hz | hz
  ·subst hz;omega
  ·exact h.2 z hz
theorem Ik {l:List NODE} {k:Int} (h:(0:Int)<AQ l k) {y:Int} (hy:y∈(rd l k zN).2.2.2):AQ l y+1≤AQ l k:=by
 have hp:=Av h
 have hk:=DK h hy
 obtain⟨n,rfl⟩:∃ m:Nat,k=(m:Int):=⟨k.toNat,by omega⟩
 obtain⟨m,rfl⟩:∃ m:Nat,y=(m:Int):=⟨y.toNat,by omega⟩
 unfold AQ at h ⊢;rw [decide_eq_true (by omega),cond_true] at h;rw [decide_eq_true (by omega),decide_eq_true (by omega),cond_true,cond_true];rw [Int.toNat_natCast] at h ⊢;rw [Int.toNat_natCast];have e:dAt l n=Jm (Az l n) (rd l (n:Int) zN):=by
  unfold dAt LD at h ⊢;cases hc:Bk l (n:Int) && (decide (n=0) || decide (rd (Az l n) ((n:Int) - 1) (0:Int)≠0))
  ·rw [hc] at h;cases h
  ·rw [hc,cond_true] at h;rw [cond_true];unfold Sd at h ⊢;cases hd:decide ((10:Int)<Jm (Az l n) (rd l (n:Int) zN))
   ·rfl
   ·rw [hd] at h;cases h
 have h2:=(PL (Az l n) (rd l (n:Int) zN).2.2.2 1).2 _ hy
 rw [GP l n m (by omega)] at h2;rw [e];exact h2
theorem Se (l:List NODE) (k:Int):AQ l k≤10:=by
 unfold AQ;cases decide (0≤k∧k≤(l.length:Int) - 1)
 ·show(0:Int)≤10;omega
 ·exact(Ms l k.toNat).2
def W:Nat→Nat
 | 0=>0
 | n+1=>12 * W n+22
theorem jo {n:Nat} (h:n≤10):W n≤123834728446:=by
 have:∀ n:Fin 11,W n.1≤123834728446:=by decide
 exact this ⟨n,by omega⟩
abbrev LOW:=PROG×(List VAR×CODE)
def AO (l:LOW):Prop:=∀ w∈l.2.2.2.2.2,(w:INS).2.2.2.2.2.2.length≤1048576
structure Grw (n:Nat) (l l':LOW):Prop where
 p:l'.1=l.1
 v:l'.2.1=l.2.1
 lo:l.2.2.2.2.1.length≤l'.2.2.2.2.1.length
 lo':l'.2.2.2.2.1.length≤l.2.2.2.2.1.length+n
 wo:l.2.2.2.2.2.length≤l'.2.2.2.2.2.length
 wo':l'.2.2.2.2.2.length≤l.2.2.2.2.2.length+n
 ar:AO l→AO l'
theorem Grw.rfl' {l:LOW}:Grw 0 l l:=⟨rfl,rfl,Nat.le_refl _,Nat.le_refl _,Nat.le_refl _,Nat.le_refl _,id⟩
theorem Grw.trans {a b:Nat} {x y z:LOW} (h:Grw a x y) (g:Grw b y z):Grw (a+b) x z:=⟨g.p.trans h.p,g.v.trans h.v,Nat.le_trans h.lo g.lo,by have:=h.lo';have:=g.lo';omega,Nat.le_trans h.wo g.wo,by have:=h.wo';have:=g.wo';omega,fun e=>g.ar (h.ar e)⟩
theorem Grw.le {a b:Nat} {x y:LOW} (h:Grw a x y) (hl:a≤b):Grw b x y:=⟨h.p,h.v,h.lo,by have:=h.lo';omega,h.wo,by have:=h.wo';omega,h.ar⟩
def Sz (n:Nat) (l:LOW):Prop:=l.2.2.2.2.1.length+n≤1000000000000∧l.2.2.2.2.2.length+n≤1000000000000
theorem Grw.sz {a b:Nat} {x y:LOW} (h:Grw a x y) (hs:Sz (a+b) x):Sz b y:=⟨by have:=h.lo';have:=hs.1;omega,by have:=h.wo';have:=hs.2;omega⟩
theorem Sz.le {a b:Nat} {x:LOW} (h:Sz a x) (hl:b≤a):Sz b x:=⟨by have:=h.1;omega,by have:=h.2;omega⟩
theorem bf (l:LOW) (t:Int) (h:Sz 1 l):wp (CT l t) fun y=>Grw 1 l y.2.1∧y.1<(y.2.1.2.2.2.2.1.length:Int):=by
 have h1:=h.1
 unfold CT;refine AM (show(_:Nat)≤_ by simp only [List.length_singleton];omega) (AA ⟨⟨rfl,rfl,by simp,by simp,Nat.le_refl _,by simp,id⟩,?_⟩)
 simp only [List.length_append,List.length_singleton];rw [Aq (by omega) (by omega)];omega
theorem ET (l:LOW) (w:INS) (h:Sz 1 l) (hw:w.2.2.2.2.2.2.length≤1048576):wp (Ay l w) fun y=>Grw 1 l y.2.1∧0≤y.1∧y.1<(y.2.1.2.2.2.2.2.length:Int):=by
 have h1:=h.2
 unfold Ay;refine AM (show(_:Nat)≤_ by simp only [List.length_singleton];omega) (AA ⟨⟨rfl,rfl,Nat.le_refl _,by simp,by simp,by simp,fun e x hx=>?_⟩,?_⟩)
 ·rcases List.mem_append.1 hx with hx | hx
  ·exact e x hx
  ·rw [List.mem_singleton.1 hx];exact hw
 ·simp only [List.length_append,List.length_singleton];rw [Aq (by omega) (by omega)];omega
theorem TQ (l:LOW) (i:Int) (h0:0≤i) (h1:i<(l.2.2.2.2.2.length:Int)) (w:INS) (hw:w.2.2.2.2.2.2=(rd l.2.2.2.2.2 i zI).2.2.2.2.2.2):Grw 0 l (l.1,(l.2.1,(l.2.2.1,(l.2.2.2.1,(l.2.2.2.2.1,l.2.2.2.2.2.set i.toNat w))))):=by
 refine⟨rfl,rfl,Nat.le_refl _,Nat.le_refl _,by simp,by simp,fun e x hx=>?_⟩
 rcases List.mem_or_eq_of_mem_set hx with hx | hx
 ·exact e x hx
 ·subst hx;rw [hw];exact e _ (Cm _ _ _ h0 h1)
theorem Kh {α β:Type} {x x':Option α} {f:α→β} {Q:β→Prop} (h:wq x x' fun a=>Q (f a)):wq (AB x fun a=>some (f a)) (AB x' fun a=>some (f a)) Q:=BC (AF h fun a ha=>AI ha)
abbrev FLV:=LOW→Int→Option (Int×LOW×Unit)
abbrev FL:=LOW→Int→Option (LOW×Unit)
section
variable {p:PROG} (hp:FineP p) {vs:List VAR} (hl:vs.length≤2097152)
include hp hl
theorem fT {r0 r0':FLV} (k:Int) (e:Nat) (h:(0:Int)<AQ p.1 k) (hk:(rd p.1 k zN).1≤12) (hd:AQ p.1 k≤(e:Int)+1) (l:LOW) (e1:l.1=p) (e2:l.2.1=vs) (hs:Sz (W (e+1)) l)
 (H:∀ y,(0:Int)<AQ p.1 y→(rd p.1 y zN).1≤12→0≤y∧y<k→AQ p.1 y≤(e:Int)→∀ l':LOW,l'.1=p→l'.2.1=vs→Sz (W e) l'→wq (r0 l' y) (r0' l' y) fun z=>Grw (W e) l' z.2.1∧z.1<(z.2.1.2.2.2.2.1.length:Int)):
 wq (DQ r0 l k) (DQ r0' l k) fun z=>Grw (W (e+1)) l z.2.1∧z.1<(z.2.1.2.2.2.2.1.length:Int):=by
 unfold DQ;have hkr:=Av h
 have h12:=EW hkr.2.1
 have hW:W (e+1)=12 * W e+22:=rfl
 refine Ap (by rw [e1];exact BL hkr.1.1 hkr.1.2) (BC (AJ (AI (AF (Hs (fun x:EH=>x.1=k∧0≤x.2.2.1∧x.2.2.1≤((rd p.1 k zN).2.2.2.length:Int)∧x.2.1.length=x.2.2.1.toNat∧Grw (x.2.2.1.toNat * W e) l x.2.2.2.1∧x.2.2.2.2.1=rd p.1 k zN) (fun x=>((rd p.1 k zN).2.2.2.length - x.2.2.1).toNat) (Q:=fun x:Int×List Int×LOW×NODE×Unit=>x.1=k∧x.2.1.length≤12∧Grw (12 * W e) l x.2.2.1∧x.2.2.2.1=rd p.1 k zN) (fun x hx=>?_) ⟨rfl,by simp,by simp only;omega,rfl,?_,by rw [e1]⟩) fun x hx=>?_))))
 ·obtain⟨b1,b2,b3,b4,b5,_⟩:=x;simp only at hx;obtain⟨f1,b30,b3l,f2,g,f5⟩:=hx;subst f1 f5;unfold HC;simp only;have hmul:b3.toNat * W e≤12 * W e:=Nat.mul_le_mul_right _ (by omega)
  refine Ab (fun hi=>?_) fun hi=>Bv (AI (BK ⟨rfl,by simp only;omega,g.le hmul,rfl⟩))
  have hi':=of_decide_eq_true hi
  have g0:=Tk h hk (i:=b3) b30 hi'
  have hdk:=Ik h (Cm (rd p.1 b1 zN).2.2.2 b3 (0:Int) b30 hi')
  have hmul2:(b3.toNat+1) * W e≤12 * W e:=Nat.mul_le_mul_right _ (by omega)
  rw [Nat.succ_mul] at hmul2;refine Ap (BL b30 hi') (AJ (AF (H _ g0.1 g0.2.2 g0.2.1 (by omega) b4 (g.p.trans e1) (g.v.trans e2) (g.sz (hs.le (by omega)))) fun y hy=>Ap (show(_:Nat)≤_ by simp only [List.length_singleton];omega) (Bv (AI (Bc ?_)))))
  rw [Aq (by omega) (by omega)];refine⟨⟨rfl,by simp only;omega,by simp only;omega,by simp only [List.length_append,List.length_singleton];omega,?_,rfl⟩,by simp only;omega⟩
  simp only;rw [show(b3+1).toNat * W e=b3.toNat * W e+W e by rw [show(b3+1).toNat=b3.toNat+1 by omega,Nat.succ_mul]];exact g.trans hy.1
 ·simp only [Int.toNat_zero,Nat.zero_mul];exact Grw.rfl'
 ·obtain⟨z1,z2,z3,z4,_⟩:=x;simp only at hx ⊢;obtain⟨f1,f2,g,f4⟩:=hx;subst f1 f4;rw [g.p,g.v,e1,e2];have hs2:Sz 2 z3:=(g.sz (b:=22) (hs.le (by omega))).le (by omega)
  refine AJ (AF (Ae (Nf hp hl _ h hk)) fun y4 _=>BC (AF (Q:=fun x:List Int×Int×Int×LOW×NODE×Unit=>x.1.length≤12∧Grw 1 z3 x.2.2.2.1∧x.2.2.1<(x.2.2.2.1.2.2.2.2.1.length:Int)) (Ab (fun _=>AJ (AF (Ae (bf z3 _ (hs2.le (by omega)))) fun y hy=>AI ⟨f2,hy.1,hy.2⟩)) fun _=>AI ⟨f2,Grw.rfl'.le (by omega),by simp only;omega⟩) fun x hx=>?_))
  obtain⟨a1,a2,a3,a4,a5,_⟩:=x;simp only at hx ⊢;obtain⟨f2,g2,ha⟩:=hx;have hs3:Sz 1 a4:=g2.sz (b:=1) hs2
  have fin:∀ a:LOW,Grw 1 a4 a→Grw (W (e+1)) l a∧a3<(a.2.2.2.2.1.length:Int):=fun a g3=>⟨((g.trans g2).trans g3).le (by omega),by have:=g3.lo;omega⟩
  refine Ab (fun _=>AJ (AF (Ae (ET a4 _ hs3 (by simp only;omega))) fun y hy=>AI (fin _ hy.1))) fun _=>Ab (fun _=>?_) fun _=>?_
  ·refine AJ (AF (Ae (Q:=fun _=>True) (by unfold Jc;exact Ah (AE (AP (Q:=fun _=>True) (fun _=>AA trivial) fun _=>AA trivial) fun _ _=>AA trivial))) fun y8 _=>BC (AF (Q:=fun x:Int×Int×LOW×NODE×Unit=>x.1=a3∧x.2.2.1=a4) (Ab (fun _=>AI ⟨rfl,rfl⟩) fun _=>AI ⟨rfl,rfl⟩) fun x hx=>?_))
   obtain⟨c1,c2,c3,c4,_⟩:=x;simp only at hx ⊢;obtain⟨q1,q2⟩:=hx;subst q1 q2;rw [Ch _ (by rw [g2.v,g.v,e2];exact hl)];exact AJ (AI (AJ (AF (Ae (ET _ _ hs3 (by simp))) fun y hy=>AI (fin _ hy.1))))
  ·refine AJ (AF (Ae (Q:=fun _=>True) (by unfold MY;repeat (first | exact AA trivial | refine AP (fun _=>AA trivial) fun _=>?_))) fun y12 _=>BC (AF (Q:=fun x:List Int×Int×LOW×INS×Unit=>x.1=a1∧x.2.1=a3∧x.2.2.1=a4∧x.2.2.2.1.2.2.2.2.2.2=[]) (Ab (fun _=>?_) fun _=>AI ⟨rfl,rfl,rfl,rfl⟩) fun x hx=>?_))
   ·rw [Ch _ (by rw [g2.v,g.v,e2];exact hl)];exact AJ (AI (AI ⟨rfl,rfl,rfl,rfl⟩))
   obtain⟨c1,c2,c3,c4,_⟩:=x;simp only at hx ⊢;obtain⟨q1,q2,q3,q4⟩:=hx;subst q1 q2 q3;refine BC (AF (Q:=fun x:List Int×Int×LOW×INS×Unit=>x.1=c1∧x.2.1=c2∧x.2.2.1=c3∧x.2.2.2.1.2.2.2.2.2.2=[]) (Ab (fun hb=>Ap (BL (by omega) (of_decide_eq_true hb)) (AI ⟨rfl,rfl,rfl,q4⟩)) fun _=>AI ⟨rfl,rfl,rfl,q4⟩) fun x hx=>?_)
   obtain⟨d1,d2,d3,d4,_⟩:=x;simp only at hx ⊢;obtain⟨q1,q2,q3,q5⟩:=hx;subst q1 q2 q3;refine BC (AF (Q:=fun x:Int×LOW×INS×Unit=>x.1=d2∧x.2.1=d3∧x.2.2.1.2.2.2.2.2.2=[]) (Ab (fun hb=>Ap (BL (by omega) (of_decide_eq_true hb)) (AI ⟨rfl,rfl,q5⟩)) fun _=>AI ⟨rfl,rfl,q5⟩) fun x hx=>?_)
   obtain⟨k1,k2,k3,_⟩:=x;simp only at hx ⊢;obtain⟨q1,q2,q6⟩:=hx;subst q1 q2;exact AJ (AF (Ae (ET _ _ hs3 (by rw [q6];simp))) fun y hy=>AI (fin _ hy.1))
end
set_option maxRecDepth 100000
def Vis (p:PROG) (vs:List VAR) (k:Int):Prop:=∀ t,Cj p.1 k t=true→(rd p.1 t zN).1=13→du vs (rd p.1 t zN).2.2.1
theorem Vis.kid {p:PROG} {vs:List VAR} {k y:Int} (h:Vis p vs k) (hd:(0:Int)<AQ p.1 k) (hy:y∈(rd p.1 k zN).2.2.2):Vis p vs y:=fun t ht=>h t (Oz hd hy ht)
section
variable {p:PROG} (hp:FineP p) {vs:List VAR} (hl:vs.length≤2097152)
include hp hl
theorem fS:∀ m:Nat,∀ n n' k (e:Nat),(0:Int)<AQ p.1 k→(rd p.1 k zN).1≤12→AQ p.1 k≤(e:Int)→k.toNat<m→k.toNat+1≤n→k.toNat+1≤n'→∀ l:LOW,l.1=p→l.2.1=vs→Sz (W e) l →
 wq ((Bo n).1 l k) ((Bo n').1 l k) fun z=>Grw (W e) l z.2.1∧z.1<(z.2.1.2.2.2.2.1.length:Int):=by
 intro m
 induction m with
 | zero=>intro n n' k _ _ _ _ h;omega
 | succ m ih=>
  intro n n' k e h hk hd hm hn hn' l e1 e2 hs;obtain⟨n,rfl⟩:∃ j,n=j+1:=⟨n - 1,by omega⟩
  obtain⟨n',rfl⟩:∃ j,n'=j+1:=⟨n' - 1,by omega⟩
  obtain⟨e,rfl⟩:∃ j,e=j+1:=⟨e - 1,by omega⟩
  exact fT hp hl (r0:=(Bo n).1) (r0':=(Bo n').1) k e h hk (by omega) l e1 e2 hs fun y hy h12 hyk hdy l' e1' e2' hs'=>ih n n' y e hy h12 hdy (by omega) (by omega) (by omega) l' e1' e2' hs'
theorem UZ (k:Int) (e:Nat) (h:(0:Int)<AQ p.1 k) (hk:(rd p.1 k zN).1≤12) (hd:AQ p.1 k≤(e:Int)) (l:LOW) (e1:l.1=p) (e2:l.2.1=vs) (hs:Sz (W e) l):wp (Cp l k) fun z=>Grw (W e) l z.2.1∧z.1<(z.2.1.2.2.2.2.1.length:Int):=by
 unfold Cp;exact JX (k.toNat+1) fun n hn=>fS hp hl _ n _ k e h hk hd (Nat.lt_succ_self _) hn (Nat.le_refl _) l e1 e2 hs
theorem Sh (k:Int) (h:(0:Int)<AQ p.1 k) (hv:Vis p vs k) (l:LOW) (e1:l.1=p) (e2:l.2.1=vs) (hs:Sz 12 l):wp (Co l k) fun y=>Grw 12 l y.1:=by
 unfold Co;have hkr:=Av h
 have h12:=EW hkr.2.1
 rw [e1];have hi:IntKind.wrap .i64 (((rd p.1 k zN).2.2.2.length:Int) - 1)=((rd p.1 k zN).2.2.2.length:Int) - 1:=Aq (by omega) (by omega)
 refine AM (BL hkr.1.1 hkr.1.2) (Ah (AG (AA (AE (wp_loop (fun x:EF=>x.1=(rd p.1 k zN).2.2.2∧-1≤x.2.1∧x.2.1<((rd p.1 k zN).2.2.2.length:Int)∧Grw (((rd p.1 k zN).2.2.2.length:Int) - 1 - x.2.1).toNat l x.2.2.1) (fun x=>(x.2.1+1).toNat) (Q:=fun x:LOW×Unit=>Grw 12 l x.1) (fun x hx=>?_) ⟨rfl,?_,?_,?_⟩) fun x hx=>AA hx))))
 ·obtain⟨b1,b2,b3,_⟩:=x;simp only at hx;obtain⟨f1,hb0,hb1,g⟩:=hx;subst f1;unfold HA;simp only;refine AP (fun hi=>?_) fun hi=>Aj (AA (BK (g.le (by omega))))
  have hi':=of_decide_eq_true hi
  have hmem:=Cm (rd p.1 k zN).2.2.2 b2 (0:Int) hi' hb1
  have hkp:=DK h hmem
  have hkr2:=Av hkp.1
  have hsz:Sz 1 b3:=g.sz (hs.le (by omega))
  rw [g.p,g.v,e1,e2];refine AM (BL hi' hb1) (AM (BL hkr2.1.1 hkr2.1.2) (Ah (AE (Q:=fun x:List Int×Int×Bool×LOW×NODE×Unit=>x.1=(rd p.1 k zN).2.2.2∧x.2.1=b2∧x.2.2.2.1=b3) (AP (fun hb=>?_) fun _=>AA ⟨rfl,rfl,rfl⟩) fun x hx=>?_)))
  ·have hb':=of_decide_eq_true hb
   have hLA:=hv _ (Oz h hmem (Xv _ _)) hb'
   have hvp:=Xx hLA
   rw [Ch _ hl];exact AG (AA (AM (BL hvp (Re _ _).2) (AA ⟨rfl,rfl,rfl⟩)))
  ·obtain⟨c1,c2,c3,c4,c5,_⟩:=x;simp only at hx ⊢;obtain⟨f1,f2,f3⟩:=hx;subst f2 f3;refine Ah (AE (Q:=fun x:List Int×Int×LOW×Unit=>x.1=(rd p.1 k zN).2.2.2∧x.2.1=c2∧Grw 1 c4 x.2.2.1) (AP (fun _=>?_) fun _=>AA ⟨f1,rfl,Grw.rfl'.le (by omega)⟩) fun x hx=>?_)
   ·rw [Ch _ (by rw [g.v,e2];exact hl)];exact AG (AA (AG (AE (ET _ _ hsz (by simp)) fun y hy=>AA ⟨f1,rfl,hy.1⟩)))
   ·obtain⟨d1,d2,d3,_⟩:=x;simp only at hx ⊢;obtain⟨q1,q2,q3⟩:=hx;subst q2;refine Aj (AA (Bc ?_))
    rw [Aq (by omega) (by omega)];exact⟨⟨q1,by simp only;omega,by simp only;omega,(g.trans q3).le (by simp only;omega)⟩,by simp only;omega⟩
 ·simp only;rw [hi];omega
 ·simp only;rw [hi];omega
 ·simp only;rw [hi];exact Grw.rfl'.le (by omega)
theorem fR {r0 r0' r1 r1' r2 r2':FL} (k:Int) (e:Nat) (h:(0:Int)<AQ p.1 k) (h20:(rd p.1 k zN).1=20) (hd:AQ p.1 k≤(e:Int)+1) (hv:Vis p vs k) (l:LOW) (e1:l.1=p) (e2:l.2.1=vs) (hs:Sz (12 * W e) l)
 (H:∀ y,(0:Int)<AQ p.1 y→13≤(rd p.1 y zN).1∧(rd p.1 y zN).1≤19→0≤y∧y<k→AQ p.1 y≤(e:Int)→Vis p vs y→∀ l':LOW,l'.1=p→l'.2.1=vs→Sz (W e) l'→wq (r1 l' y) (r1' l' y) fun z=>Grw (W e) l' z.1):
 wq (DP r0 r1 r2 l k) (DP r0' r1' r2' l k) fun z=>Grw (12 * W e) l z.1:=by
 unfold DP;have hkr:=Av h
 have h12:=EW hkr.2.1
 rw [e1];refine Ap (BL hkr.1.1 hkr.1.2) (BC (AJ (AI (AF (Hs (fun x:EG=>x.1=(rd p.1 k zN).2.2.2∧0≤x.2.1∧x.2.1≤((rd p.1 k zN).2.2.2.length:Int)∧Grw (x.2.1.toNat * W e) l x.2.2.1) (fun x=>((rd p.1 k zN).2.2.2.length - x.2.1).toNat) (Q:=fun x:LOW×Unit=>Grw (12 * W e) l x.1) (fun x hx=>?_) ⟨rfl,by simp,by simp only;omega,?_⟩) fun x hx=>AI hx))))
 ·obtain⟨b1,b2,b3,_⟩:=x;simp only at hx;obtain⟨f1,b20,b2l,g⟩:=hx;subst f1;unfold HB;simp only;have hmul:b2.toNat * W e≤12 * W e:=Nat.mul_le_mul_right _ (by omega)
  refine Ab (fun hi=>?_) fun hi=>Bv (AI (BK (g.le hmul)))
  have hi':=of_decide_eq_true hi
  have g0:=eE h h20 b20 hi'
  have hmem:=Cm (rd p.1 k zN).2.2.2 b2 (0:Int) b20 hi'
  have hdk:=Ik h hmem
  have hmul2:(b2.toNat+1) * W e≤12 * W e:=Nat.mul_le_mul_right _ (by omega)
  rw [Nat.succ_mul] at hmul2;refine Ap (BL b20 hi') (AJ (AF (H _ g0.1 g0.2.2 g0.2.1 (by omega) (hv.kid h hmem) b3 (g.p.trans e1) (g.v.trans e2) (g.sz (hs.le (by omega)))) fun y hy=>Bv (AI (Bc ?_))))
  rw [Aq (by omega) (by omega)];refine⟨⟨rfl,by simp only;omega,by simp only;omega,?_⟩,by simp only;omega⟩
  simp only;rw [show(b2+1).toNat * W e=b2.toNat * W e+W e by rw [show(b2+1).toNat=b2.toNat+1 by omega,Nat.succ_mul]];exact g.trans hy
 ·simp only [Int.toNat_zero,Nat.zero_mul];exact Grw.rfl'
theorem fL {r0 r0' r1 r1' r2 r2':FL} (k:Int) (e:Nat) (h:(0:Int)<AQ p.1 k) (hv:Vis p vs k) (l:LOW) (e1:l.1=p) (e2:l.2.1=vs) (hs:Sz (W (e+1)) l)
 (H:wq (r0 l k) (r0' l k) fun z=>Grw (12 * W e) l z.1):
 wq (DN r0 r1 r2 l k) (DN r0' r1' r2' l k) fun z=>Grw (W (e+1)) l z.1:=by
 unfold DN;have hW:W (e+1)=12 * W e+22:=rfl
 exact AJ (AF H fun y hy=>AJ (AF (Ae (Sh hp hl k h hv y.1 (hy.p.trans e1) (hy.v.trans e2) (hy.sz (hs.le (by omega))))) fun z hz=>AI ((hy.trans hz).le (by omega))))
end
set_option maxRecDepth 100000
abbrev aP (ws:List INS) (i:Int):INS:=((rd ws i zI).1,((rd ws i zI).2.1,((rd ws i zI).2.2.1,((rd ws i zI).2.2.2.1,((ws.length:Int),(rd ws i zI).2.2.2.2.2)))))
section
variable {p:PROG} (hp:FineP p) {vs:List VAR} (hl:vs.length≤2097152)
include hp hl
theorem fP {r0 r0' r1 r1' r2 r2':FL} (k:Int) (e:Nat) (h:(0:Int)<AQ p.1 k) (h13:13≤(rd p.1 k zN).1∧(rd p.1 k zN).1≤19) (hd:AQ p.1 k≤(e:Int)+1) (hv:Vis p vs k) (l:LOW) (e1:l.1=p) (e2:l.2.1=vs) (hs:Sz (W (e+1)) l)
 (H:∀ y,(0:Int)<AQ p.1 y→(rd p.1 y zN).1=20→0≤y∧y<k→AQ p.1 y≤(e:Int)→Vis p vs y→∀ l':LOW,l'.1=p→l'.2.1=vs→Sz (W e) l'→wq (r2 l' y) (r2' l' y) fun z=>Grw (W e) l' z.1):
 wq (Df r0 r1 r2 l k) (Df r0' r1' r2' l k) fun z=>Grw (W (e+1)) l z.1:=by
 unfold Df;have hkr:=Av h
 have h12:=EW hkr.2.1
 have hW:W (e+1)=12 * W e+22:=rfl
 have g:=aA h h13.1 h13.2
 have hmem:=Cm (rd p.1 k zN).2.2.2 0 (0:Int) (by omega) g.1
 have hdk:=Ik h hmem
 rw [e1];refine Ap (BL hkr.1.1 hkr.1.2) (Ap (BL (by omega) g.1) (AJ (AF (Ae (UZ hp hl _ e g.2.1 g.2.2.2 (by omega) l e1 e2 (hs.le (by omega)))) fun y1 hy1=>BC (AF (Q:=fun x:Int×Int×Int×Bool×LOW×NODE×Unit=>x.2.1=y1.1∧x.2.2.1=(rd p.1 k zN).1∧x.2.2.2.2.1=y1.2.1∧x.2.2.2.2.2.1=rd p.1 k zN) (Ab (fun _=>AI ⟨rfl,rfl,rfl,rfl⟩) fun _=>AI ⟨rfl,rfl,rfl,rfl⟩) fun x hx=>?_))))
 obtain⟨x1,x2,x3,x4,x5,x6,_⟩:=x;obtain⟨y11,y12,_⟩:=y1;simp only at hx hy1 ⊢;obtain⟨f1,f2,f3,f4⟩:=hx;subst f1 f2 f3 f4;obtain⟨gv,hlt⟩:=hy1;have p5:=gv.p.trans e1
 have v5:=gv.v.trans e2
 have hsz:∀ n,n≤11 * W e+22→Sz n x5:=fun n hn=>gv.sz (hs.le (by omega))
 have fin:∀ {n} {a:LOW},Grw n x5 a→n≤11 * W e+22→Grw (W (e+1)) l a:=fun g hn=>(gv.trans g).le (by omega)
 refine Kh (Ab (fun _=>?_) fun _=>Kh (Ab (fun _=>?_) fun _=>Kh (Ab (fun _=>?_) fun _=>Kh (Ab (fun _=>?_) fun _=>Kh (Ab (fun hb=>?_) fun _=>Kh (Ab (fun hb=>?_) fun _=>AI (fin Grw.rfl' (by omega))))))))
 ·rw [Ch _ (by rw [v5];exact hl)];exact AJ (AI (AJ (AF (Ae (ET _ _ (hsz 1 (by omega)) (by simp))) fun y hy=>AI (fin hy.1 (by omega)))))
 ·rw [Ch _ (by rw [v5];exact hl)];exact AJ (AI (AJ (AF (Ae (ET _ _ (hsz 1 (by omega)) (by simp))) fun y hy=>AI (fin hy.1 (by omega)))))
 ·exact AJ (AF (Ae (ET _ _ (hsz 1 (by omega)) (by simp))) fun y hy=>AI (fin hy.1 (by omega)))
 ·refine BC (AF (Q:=fun x:Int×Bool×LOW×Unit=>x.2.2.1=x5) (Ab (fun hb=>Ap (BL (of_decide_eq_true hb) hlt) (AI rfl)) fun _=>AI rfl) fun x hx=>?_)
  rw [hx];exact Kh (Ab (fun _=>AJ (AF (Ae (ET _ _ (hsz 1 (by omega)) (by simp))) fun y hy=>AI (fin hy.1 (by omega)))) fun _=>AI (fin Grw.rfl' (by omega)))
 ·have e':(rd p.1 k zN).1=16:=of_decide_eq_true hb
  have i1:=Qe h (.inl e') (i:=1) (by omega) (by rw [e'];decide)
  have i2:=Qe h (.inl e') (i:=2) (by omega) (by rw [e'];decide)
  have m1:=Cm (rd p.1 k zN).2.2.2 1 (0:Int) (by omega) i1.1
  have m2:=Cm (rd p.1 k zN).2.2.2 2 (0:Int) (by omega) i2.1
  have d1:=Ik h m1
  have d2:=Ik h m2
  refine AJ (AF (Ae (ET _ _ (hsz 1 (by omega)) (by simp))) fun y11 hy11=>Ap (BL (by omega) i1.1) (AJ (AF (H _ i1.2.1 i1.2.2.2 i1.2.2.1 (by omega) (hv.kid h m1) y11.2.1 (hy11.1.p.trans p5) (hy11.1.v.trans v5) (hy11.1.sz (hsz _ (by omega)))) fun y12 hy12=>?_)))
  have g12:=hy11.1.trans hy12
  refine AJ (AF (Ae (ET _ _ (g12.sz (hsz _ (by omega))) (by simp))) fun y13 hy13=>?_)
  have g13:=g12.trans hy13.1
  have l1:y11.1<(y13.2.1.2.2.2.2.2.length:Int):=by have:=hy11.2.2;have:=hy12.wo;have:=hy13.1.wo;omega
  have s1:=TQ y13.2.1 y11.1 hy11.2.1 l1 (aP y13.2.1.2.2.2.2.2 y11.1) rfl
  refine Ap (BL hy11.2.1 l1) (PB (Ap (BL (by omega) i2.1) (AJ (AF (H _ i2.2.1 i2.2.2.2 i2.2.2.1 (by omega) (hv.kid h m2) _ (s1.p.trans (g13.p.trans p5)) (s1.v.trans (g13.v.trans v5)) ((g13.trans s1).sz (b:=W e) (hsz _ (by omega)))) fun y15 hy15=>?_))))
  have l2:y13.1<(y15.1.2.2.2.2.2.length:Int):=by
   have h1:=hy15.wo
   simp only [List.length_set] at h1;have:=hy13.2.2
   omega
  exact Ap (BL hy13.2.1 l2) (PB (AI (fin ((((g13.trans s1).trans hy15)).trans (TQ y15.1 y13.1 hy13.2.1 l2 (aP y15.1.2.2.2.2.2 y13.1) rfl)) (by omega))))
 ·have e':(rd p.1 k zN).1=17:=of_decide_eq_true hb
  have i1:=Qe h (.inr e') (i:=1) (by omega) (by rw [e'];decide)
  have m1:=Cm (rd p.1 k zN).2.2.2 1 (0:Int) (by omega) i1.1
  have d1:=Ik h m1
  refine AJ (AF (Ae (ET _ _ (hsz 1 (by omega)) (by simp))) fun y11 hy11=>Ap (BL (by omega) i1.1) (AJ (AF (H _ i1.2.1 i1.2.2.2 i1.2.2.1 (by omega) (hv.kid h m1) y11.2.1 (hy11.1.p.trans p5) (hy11.1.v.trans v5) (hy11.1.sz (hsz _ (by omega)))) fun y12 hy12=>?_)))
  have g12:=hy11.1.trans hy12
  refine AJ (AF (Ae (ET _ _ (g12.sz (hsz _ (by omega))) (by simp))) fun y13 hy13=>?_)
  have g13:=g12.trans hy13.1
  have l1:y11.1<(y13.2.1.2.2.2.2.2.length:Int):=by have:=hy11.2.2;have:=hy12.wo;have:=hy13.1.wo;omega
  exact Ap (BL hy11.2.1 l1) (PB (AI (fin (g13.trans (TQ y13.2.1 y11.1 hy11.2.1 l1 (aP y13.2.1.2.2.2.2.2 y11.1) rfl)) (by omega))))
theorem fQ:∀ m:Nat,∀ n n' k (e:Nat),(0:Int)<AQ p.1 k→(rd p.1 k zN).1=20→AQ p.1 k≤(e:Int)+1→Vis p vs k→k.toNat<m→3 * k.toNat+1≤n→3 * k.toNat+1≤n'→∀ l:LOW,l.1=p→l.2.1=vs→Sz (12 * W e) l →
 wq ((AW n).1 l k) ((AW n').1 l k) fun z=>Grw (12 * W e) l z.1:=by
 intro m
 induction m with
 | zero=>intro n n' k _ _ _ _ _ h;omega
 | succ m ih=>
  intro n n' k e h h20 hd hv hm hn hn' l e1 e2 hs;obtain⟨n,rfl⟩:∃ j,n=j+1:=⟨n - 1,by omega⟩
  obtain⟨n',rfl⟩:∃ j,n'=j+1:=⟨n' - 1,by omega⟩
  refine fR hp hl (r0:=(AW n).1) (r0':=(AW n').1) (r1:=(AW n).2.1) (r1':=(AW n').2.1) (r2:=(AW n).2.2.1) (r2':=(AW n').2.2.1) k e h h20 hd hv l e1 e2 hs fun y hy h13 hyk hdy hvy l' e1' e2' hs'=>?_
  obtain⟨n,rfl⟩:∃ j,n=j+1:=⟨n - 1,by omega⟩
  obtain⟨n',rfl⟩:∃ j,n'=j+1:=⟨n' - 1,by omega⟩
  obtain⟨e,rfl⟩:∃ j,e=j+1:=⟨e - 1,by omega⟩
  refine fP hp hl (r0:=(AW n).1) (r0':=(AW n').1) (r1:=(AW n).2.1) (r1':=(AW n').2.1) (r2:=(AW n).2.2.1) (r2':=(AW n').2.2.1) y e hy h13 hdy hvy l' e1' e2' hs' fun z hz h20z hzy hdz hvz l2 e12 e22 hs2=>?_
  obtain⟨n,rfl⟩:∃ j,n=j+1:=⟨n - 1,by omega⟩
  obtain⟨n',rfl⟩:∃ j,n'=j+1:=⟨n' - 1,by omega⟩
  obtain⟨e,rfl⟩:∃ j,e=j+1:=⟨e - 1,by omega⟩
  have hW:W (e+1)=12 * W e+22:=rfl
  exact fL hp hl (r0:=(AW n).1) (r0':=(AW n').1) (r1:=(AW n).2.1) (r1':=(AW n').2.1) (r2:=(AW n).2.2.1) (r2':=(AW n').2.2.1) z e hz hvz l2 e12 e22 hs2 (ih n n' z e hz h20z hdz hvz (by omega) (by omega) (by omega) l2 e12 e22 (hs2.le (by omega)))
theorem bM (k:Int) (h:(0:Int)<AQ p.1 k) (h20:(rd p.1 k zN).1=20) (hv:Vis p vs k) (l:LOW) (e1:l.1=p) (e2:l.2.1=vs) (hs:Sz (W 10) l):wp (ED l k) fun z=>Grw (W 10) l z.1:=by
 unfold ED;have hW:W 10=12 * W 9+22:=rfl
 have h10:=Se p.1 k
 exact AE (JX (3 * k.toNat+1) fun n hn=>fQ hp hl _ n _ k 9 h h20 (by omega) hv (Nat.lt_succ_self _) hn (Nat.le_refl _) l e1 e2 (hs.le (by omega))) fun z hz=>hz.le (by omega)
end
theorem Wt (c:CODE) (hn:c.2.2.2.length≤1000000000000) (ha:∀ w∈c.2.2.2,(w:INS).2.2.2.2.2.2.length≤1048576):wp (CG c) fun y=>y.1=true→FineC c∧BU c=true:=by
 by_cases hb:c.2.2.1.length≤200∧c.2.2.2.length≤400
 ·have hf:FineC c:=⟨⟨by omega,by omega⟩,ha⟩
  rw [Dm c hf];exact AA fun h=>⟨hf,h⟩
 ·refine⟨(false,()),?_,fun h=>by cases h⟩
  unfold CG;simp only [Cs,sIn,Option.bind_some];cases Bh c.1
  ·rfl
  by_cases h2:c.2.2.1.length≤200
  ·have h4:¬ (c.2.2.2.length≤400):=fun h=>hb ⟨h2,h⟩
   rw [show decide ((200:Int)<(c.2.2.1.length:Int))=false from decide_eq_false (by omega),show decide ((1:Int)≤(c.2.2.2.length:Int)∧(c.2.2.2.length:Int)≤400)=false from decide_eq_false (by omega)];cases decide ((0:Int)≤c.2.1∧c.2.1≤(c.2.2.1.length:Int))<;>rfl
  ·rw [show decide ((200:Int)<(c.2.2.1.length:Int))=true from decide_eq_true (by omega)];rfl
theorem fq {p:PROG} {vs:List VAR} {fn:Nat} (P:POK p) (hfn:fn<p.2.length) (hn:Eh vs=Eh (Ee p (fn:Int))):Vis p vs (rd p.2 (fn:Int) zF).2.2.2.1:=by
 intro t ht h13;have F:=P.fn hfn
 have hd:=F.bd
 show(rd p.1 t zN).2.2.1∈Eh vs
 rw [hn];have hin:OP p (fn:Int)=true:=by simp only [OP];exact decide_eq_true (by omega)
 refine List.mem_map.2 ⟨WD p.1 t,?_,rfl⟩
 unfold Ee;rw [hin,cond_true];refine List.mem_append_right _ (List.mem_map.2 ⟨t,List.mem_filter.2 ⟨?_,decide_eq_true h13⟩,rfl⟩)
 unfold Ge;rw [decide_eq_false (by omega),cond_false];exact(Ob hd t).2 ht
def Lv (c:CODE):Prop:=FineC c∧BU c=true
theorem fM {p:PROG} (hp:FineP p) (P:POK p) (fn:Nat) (hfn:fn<p.2.length) (hv:Ro p (fn:Int)):wp (KC p (fn:Int)) fun y=>y.2.1=true→Lv y.1:=by
 unfold KC;obtain⟨v,hv0⟩:=hv;obtain⟨y,hy0,hy1,hy2⟩:=Ul hp P (fn:Int);rw [hv0] at hy0;cases hy0
 simp only at hy1 hy2;have hvis:=fq P hfn (hy2 trivial)
 have F:=P.fn hfn
 have h10:W 10≤123834728446:=jo (Nat.le_refl _)
 rw [hv0];refine AM (BL (by omega) (by omega)) (AG (AA (Ah (AG (AA (AE (wp_loop (fun x:Ii=>x.1=v∧0≤x.2.1∧x.2.2.2.1=rd p.2 (fn:Int) zF∧x.2.2.2.2.1.1=p∧x.2.2.2.2.1.2.1=v∧AO x.2.2.2.2.1∧x.2.2.2.2.1.2.2.2.2.2.length=0∧(x.2.2.2.2.1.2.2.2.2.1.length:Int)=x.2.1∧x.2.1≤(v.length:Int)) (fun x=>(v.length - x.2.1).toNat) (Q:=fun x:CODE×FN×LOW×Unit=>x.2.1=rd p.2 (fn:Int) zF∧x.2.2.1.1=p∧x.2.2.1.2.1=v∧AO x.2.2.1∧Sz 200000000000 x.2.2.1∧Sz 400000000000 x.2.2.1) (fun x hx=>?_) ⟨rfl,by simp,rfl,rfl,rfl,fun w hw=>by simp at hw,rfl,by simp,by simp only;omega⟩) fun x hx=>?_))))))
 ·obtain⟨b1,b2,b3,b4,b5,_⟩:=x;simp only at hx;obtain⟨f1,b20,f4,f5,f6,ha,hw,hlo,hle⟩:=hx;subst f1 f4;unfold Mc;simp only;refine AP (fun hi=>?_) fun hi=>Aj (AA (BK ⟨rfl,f5,f6,ha,⟨by simp only;omega,by simp only;omega⟩,⟨by simp only;omega,by simp only;omega⟩⟩))
  have hi':=of_decide_eq_true hi
  refine AM (BL b20 hi') (AG (AE (Q:=fun y:Int×LOW×Unit=>y.2.1.1=b5.1∧y.2.1.2.1=b5.2.1∧y.2.1.2.2.2.2.2=b5.2.2.2.2.2∧y.2.1.2.2.2.2.1.length=b5.2.2.2.2.1.length+1) ?_ fun y hy=>Aj (AA (Bc ?_))))
  ·unfold CT;exact AM (show(_:Nat)≤_ by simp only [List.length_singleton];omega) (AA ⟨rfl,rfl,rfl,by simp⟩)
  ·obtain⟨g1,g2,g3,g4⟩:=hy;rw [Aq (by omega) (by omega)];exact⟨⟨rfl,by simp only;omega,rfl,g1.trans f5,g2.trans f6,by unfold AO;simp only;rw [g3];exact ha,by simp only;rw [g3];exact hw,by simp only;omega,by simp only;omega⟩,by simp only;omega⟩
 ·obtain⟨x1,x2,x3,_⟩:=x;simp only at hx ⊢;obtain⟨f1,e1,e2,ha,hs,hs4⟩:=hx;subst f1;refine AG (AE (bM hp hy1 _ F.bd F.bk hvis x3 e1 e2 (hs.le (by omega))) fun y5 hy5=>Ah (AE (Q:=fun x:Int×CODE×FN×LOW×Unit=>x.2.2.1=rd p.2 (fn:Int) zF∧Grw (W 10+W 10) x3 x.2.2.2.1) (AP (fun hb=>?_) fun _=>AA ⟨rfl,hy5.le (by omega)⟩) fun x hx=>?_))
  ·have hr:=F.rt (of_decide_eq_true hb)
   exact AG (AE (UZ hp hy1 _ 10 hr.1 hr.2 (Se _ _) y5.1 (hy5.p.trans e1) (hy5.v.trans e2) (hy5.sz (hs4.le (by omega)))) fun y6 hy6=>AA ⟨rfl,hy5.trans hy6.1⟩)
  ·obtain⟨z1,z2,z3,z4,_⟩:=x;simp only at hx ⊢;obtain⟨f1,g⟩:=hx;subst f1;refine AG (AE (Sh hp hy1 _ F.bd hvis z4 (g.p.trans e1) (g.v.trans e2) (g.sz (hs4.le (by omega)))) fun y8 hy8=>?_)
   have g8:=g.trans hy8
   have hpar:=F.par
   have hi:IntKind.wrap .i64 (((rd p.2 (fn:Int) zF).2.1.length:Int) - 1)=((rd p.2 (fn:Int) zF).2.1.length:Int) - 1:=Aq (by omega) (by omega)
   refine Ah (AG (AA (AE (wp_loop (fun x:Ij=>-1≤x.2.1∧x.2.1<((rd p.2 (fn:Int) zF).2.1.length:Int)∧x.2.2.2.1=rd p.2 (fn:Int) zF∧Grw (((rd p.2 (fn:Int) zF).2.1.length:Int) - 1 - x.2.1).toNat y8.1 x.2.2.2.2.1) (fun x=>(x.2.1+1).toNat) (Q:=fun x:Int×CODE×LOW×Unit=>Grw 3 y8.1 x.2.2.1) (fun x hx=>?_) ⟨?_,?_,rfl,?_⟩) fun x hx=>?_)))
   ·obtain⟨b1,b2,b3,b4,b5,_⟩:=x;simp only at hx;obtain⟨hb0,hb1,f4,gg⟩:=hx;subst f4;unfold Me;simp only;refine AP (fun hi=>?_) fun hi=>Aj (AA (BK (gg.le (by omega))))
    have hi':=of_decide_eq_true hi
    have hsz:Sz 1 b5:=(g8.trans gg).sz (hs4.le (by omega))
    refine AM (BL hi' hb1) (Ah (AE (Q:=fun x:Int×Int×CODE×FN×LOW×Unit=>x.2.1=b2∧x.2.2.2.1=rd p.2 (fn:Int) zF∧Grw 1 b5 x.2.2.2.2.1) (AP (fun _=>AG (AE (ET _ _ hsz (by simp)) fun y hy=>AA ⟨rfl,rfl,hy.1⟩)) fun _=>AA ⟨rfl,rfl,Grw.rfl'.le (by omega)⟩) fun x hx=>?_))
    obtain⟨c1,c2,c3,c4,c5,_⟩:=x;simp only at hx ⊢;obtain⟨q1,q2,q3⟩:=hx;subst q1;refine Aj (AA (Bc ?_))
    rw [Aq (by omega) (by omega)];exact⟨⟨by simp only;omega,by simp only;omega,q2,(gg.trans q3).le (by simp only;omega)⟩,by simp only;omega⟩
   ·simp only;rw [hi];omega
   ·simp only;rw [hi];omega
   ·simp only;rw [hi];exact Grw.rfl'.le (by omega)
   ·have g9:=g8.trans hx
    refine AG (AE (ET _ _ (g9.sz (hs4.le (by omega))) (by simp)) fun y13 hy13=>?_)
    have ga:=g9.trans hy13.1
    refine AG (AE (Wt y13.2.1.2.2 ?_ (ga.ar ha)) fun y14 hy14=>AP (fun _=>AA fun h=>by cases h) fun hb=>AA fun _=>hy14 (by simpa using hb))
    have:=ga.wo'
    have:=hs4.2
    omega
theorem UX {p:PROG} (hp:FineP p):wp (HQ p) fun y=>y.2.1=true→y.1≠[]∧y.1.length≤8∧∀ c∈y.1,Lv c:=by
 unfold HQ;refine AG (AE (aM hp) fun y1 hy1=>AP (fun _=>AA fun h=>by cases h) fun hb=>?_)
 obtain⟨hok,hvr⟩:=hy1 (by simpa using hb);have P:=TJ hok
 have hm:=P.m
 have hm1:1≤p.2.length:=by
  simp only [GX,Bool.and_eq_true,decide_eq_true_eq] at hok;omega
 refine Hi (AG (AA (AE (wp_loop (fun x:Gt=>0≤x.2.1∧x.2.1≤(p.2.length:Int)∧(x.1.length:Int)=x.2.1∧x.2.2.1=p∧∀ c∈x.1,Lv c) (fun x=>(p.2.length - x.2.1).toNat) (Q:=fun s:(List CODE×Unit) ⊕ (List CODE×Bool×Unit)=>(∀ b,s=.inl b→b.1.length=p.2.length∧∀ c∈b.1,Lv c)∧∀ r,s=.inr r→r.2.1=false) (fun x hx=>?_) ⟨by simp,by simp only;omega,rfl,rfl,by simp⟩) fun s hs=>⟨fun b hb=>AA fun _=>⟨?_,?_,(hs.1 b hb).2⟩,fun r hr h=>by rw [hs.2 r hr] at h;cases h⟩)))
 ·obtain⟨b1,b2,b3,_⟩:=x;simp only at hx;obtain⟨b20,b2l,hlen,f3,hall⟩:=hx;subst f3;unfold KK;simp only;refine AP (fun hi=>?_) fun hi=>Aj (Aj (AA (BK ⟨fun b hb=>by cases hb;exact⟨by have:=of_decide_eq_false hi;simp only;omega,hall⟩,fun r hr=>by cases hr⟩)))
  ·have hi':=of_decide_eq_true hi
   obtain⟨m,rfl⟩:∃ m:Nat,b2=(m:Int):=⟨b2.toNat,by omega⟩
   refine AG (AE (fM hp P m (by omega) (hvr _ ⟨b20,hi'⟩)) fun y hy=>AP (fun _=>Aj (Aj (AA (BK ⟨fun b hb=>(by cases hb),fun r hr=>by cases hr;rfl⟩)))) fun hf=>AM (show(_:Nat)≤_ by simp only [List.length_singleton];omega) (Aj (AA (Bc ?_))))
   rw [Aq (by omega) (by omega)];refine⟨⟨by simp only;omega,by simp only;omega,by simp only [List.length_append,List.length_singleton];omega,rfl,fun c hc=>?_⟩,by simp only;omega⟩
   rcases List.mem_append.1 hc with hc | hc
   ·exact hall c hc
   ·rw [List.mem_singleton.1 hc];exact hy (by simpa using hf)
 ·intro h;have:=(hs.1 b hb).1
  simp only at h;rw [h] at this;simp only [List.length_nil] at this;omega
 ·have:=(hs.1 b hb).1
  simp only;omega
set_option maxRecDepth 100000
def QP (w:INS):Prop:=(-1000000000000≤w.2.1∧w.2.1≤1000000000000)∧(-1000000000000≤w.2.2.1∧w.2.2.1≤1000000000000)∧(-1000000000000≤w.2.2.2.1∧w.2.2.2.1≤1000000000000)∧(-1000000000000≤w.2.2.2.2.1∧w.2.2.2.2.1≤1000000000000)∧∀ n∈w.2.2.2.2.2.2,-1000000000000≤n∧n≤1000000000000
structure DrC (n:Nat) (c:CODE):Prop where
 nm:c.1.size≤8
 lo:c.2.2.1.length≤200+n
 w1:1≤c.2.2.2.length
 wo:c.2.2.2.length≤400
 a:∀ w∈c.2.2.2,(w:INS).2.2.2.2.2.1.size≤8∧(w:INS).2.2.2.2.2.2.length≤3+n∧QP w
theorem DrC.le {n m:Nat} {c:CODE} (h:DrC n c) (hl:n≤m):DrC m c:=⟨h.nm,by have:=h.lo;omega,h.w1,h.wo,fun w hw=>by obtain⟨a,b,c⟩:=h.a w hw;exact⟨a,by omega,c⟩⟩
theorem DrC.fine {c:CODE} (h:DrC 1 c):FineC c:=⟨⟨by have:=h.lo;omega,by have:=h.wo;omega⟩,fun w hw=>by obtain⟨a,b,c⟩:=h.a w hw;omega⟩
theorem RT {s:ByteArray} (h:Bh s=true):s.size≤8:=by
 simp only [Bh,Bool.and_eq_true,decide_eq_true_eq] at h;exact h.1.1.1.2
theorem LL {c:CODE} (hl:c.2.2.1.length≤200) {n:Int} (h:place c n=true):-1000000000000≤n∧n≤1000000000000:=by
 unfold place at h;have:=of_decide_eq_true h
 omega
theorem fb {c:CODE} (hl:c.2.2.1.length≤200) (hw4:c.2.2.2.length≤400) {w:INS} (h:Bu c w=true):QP w:=by
 simp only [Bu,Bool.and_eq_true] at h;obtain⟨_,hA,hB,hC,hN,hR⟩:=h;refine⟨?_,?_,?_,?_,?_⟩
 ·unfold okA at hA;cases hd:decide (w.1=18)
  ·rw [hd,cond_false,Bool.or_eq_true,Bool.and_eq_true] at hA;rcases hA with hA | hA
   ·have:=of_decide_eq_true hA.2;omega
   ·exact LL hl hA
  ·rw [hd,cond_true] at hA;have:=of_decide_eq_true hA;omega
 ·unfold okB at hB;cases hd:IB w.1
  ·rw [hd,cond_false] at hB;have:=of_decide_eq_true hB;omega
  ·rw [hd,cond_true] at hB;exact LL hl hB
 ·unfold okC at hC;cases hd:IC w.1
  ·rw [hd,cond_false] at hC;have:=of_decide_eq_true hC;omega
  ·rw [hd,cond_true] at hC;exact LL hl hC
 ·unfold okN at hN;cases hd:decide (w.1=1)
  ·rw [hd,cond_false] at hN;cases he:(decide (w.1=18) || decide (w.1=19))
   ·rw [he,cond_false] at hN;have:=of_decide_eq_true hN;omega
   ·rw [he,cond_true] at hN;have:=of_decide_eq_true hN;omega
  ·rw [hd,cond_true] at hN;have:=of_decide_eq_true hN;omega
 ·unfold okR at hR;cases hd:decide (w.1=13)
  ·rw [hd,cond_false,Bool.and_eq_true] at hR;have h0:=of_decide_eq_true hR.2
   intro n hn;rw [List.eq_nil_of_length_eq_zero (show w.2.2.2.2.2.2.length=0 by omega)] at hn;cases hn
  ·rw [hd,cond_true,Bool.and_eq_true] at hR;intro n hn;exact LL hl (List.all_eq_true.1 hR.1 n hn)
theorem Wx {c:CODE} (h:Lv c):DrC 0 c:=by
 have h2:=h.2
 simp only [BU,Bool.and_eq_true,decide_eq_true_eq] at h2;obtain⟨a1,a2,a3,a4,a5,a6,a7⟩:=h2;refine⟨RT a1,by omega,a4.1,a4.2,fun w hw=>?_⟩
 have h3:=List.all_eq_true.1 a7 w hw
 have hrg:=fb a2 a4.2 h3
 simp only [Bu,Bool.and_eq_true] at h3;have h4:=h3.2.2.2.2.2
 unfold okR at h4;cases hd:decide (w.1=13)
 ·rw [hd,cond_false,Bool.and_eq_true,decide_eq_true_eq,decide_eq_true_eq] at h4;rw [h4.1];exact⟨by show(0:Nat)≤8;omega,by omega,hrg⟩
 ·rw [hd,cond_true,Bool.and_eq_true,Bool.and_eq_true,decide_eq_true_eq] at h4;exact⟨RT h4.2.1,by omega,hrg⟩
theorem DrC.put {n:Nat} {c:CODE} (h:DrC n c) (i:Nat) (w:INS) (hw:w.2.2.2.2.2.1.size≤8∧w.2.2.2.2.2.2.length≤3+n∧QP w):DrC n (c.1,(c.2.1,(c.2.2.1,c.2.2.2.set i w))):=by
 refine⟨h.nm,h.lo,by simp only [List.length_set];exact h.w1,by simp only [List.length_set];exact h.wo,fun x hx=>?_⟩
 rcases List.mem_or_eq_of_mem_set hx with hx | hx
 ·exact h.a x hx
 ·subst hx;exact hw
theorem UO (c:Cur) (h:COk c):wp (DG c) fun y=>DrC 0 y.1∧COk y.2.1:=by
 unfold DG;refine AG (AE (Uc c h) fun y1 hy1=>AG (AE (UX hy1.1.1) fun y2 hy2=>AP (fun _=>AA ⟨⟨?_,by simp,by simp,by simp,fun w hw=>?_⟩,hy1.2⟩) fun hb=>?_))
 ·have:s_main_0d6e.size=4:=by kernel_rfl
  rw [this];omega
 ·simp only [List.mem_cons,List.not_mem_nil,or_false] at hw;rcases hw with hw | hw | hw<;>subst hw<;>exact⟨by show(0:Nat)≤8;omega,by show(0:Nat)≤3;omega,by unfold QP;simp⟩
 ·obtain⟨hne,h8,hall⟩:=hy2 (by simpa using hb);have hpos:0<y2.1.length:=List.length_pos_iff.2 hne
  refine AG (AE (Iu _ _ hy1.2) fun y3 hy3=>AP (fun _=>AG (AE (Br _ _ hy3) fun y4 hy4=>?_)) fun _=>?_)
  ·have hlt:=hy4.2.1 (by omega)
   exact AM (BL hy4.1 hlt) (AA ⟨Wx (hall _ (Cm _ _ _ hy4.1 hlt)),hy4.2.2.2⟩)
  ·rw [Aq (by omega) (by omega)];have h0:(0:Int)≤(y2.1.length:Int) - 1:=by omega
   have hlt:(y2.1.length:Int) - 1<(y2.1.length:Int):=by omega
   exact AM (BL h0 hlt) (AA ⟨Wx (hall _ (Cm _ _ _ h0 hlt)),hy3⟩)
theorem Kg {α β:Type} {x:Option α} {f:α→β} {Q:β→Prop} (h:wp x fun a=>Q (f a)):wp (AB x fun a=>some (f a)) Q:=Ah (AE h fun a ha=>AA ha)
theorem Oy {a:Int} {n:Nat} (h0:0≤a) (h1:1≤n):0≤Int.tmod a (n:Int)∧Int.tmod a (n:Int)<(n:Int):=⟨Int.tmod_nonneg _ h0,Int.tmod_lt_of_pos _ (by omega)⟩
theorem dy (c:Cur) (h:COk c):wp (JF c) fun y=>DrC 1 y.1∧COk y.2.1:=by
 unfold JF;refine AG (AE (Br _ _ h) fun y1 hy1=>AG (AE (Br _ _ hy1.2.2.2) fun y2 hy2=>AG (AE (UO _ hy2.2.2.2) fun y3 hy3=>?_)))
 have hd:=hy3.1
 have hf:=(hd.le (by omega:0≤1)).fine
 rw [RY _ hf];have hr:=Oy hy2.1 hd.w1
 have hi:(Cnd.idx (Int.tmod y2.1 (y3.1.2.2.2.length:Int)) y3.1.2.2.2.length).holds:=BL hr.1 hr.2
 have ha:=hd.a _ (Cm y3.1.2.2.2 (Int.tmod y2.1 (y3.1.2.2.2.length:Int)) zI hr.1 hr.2)
 have ha1:(rd y3.1.2.2.2 (Int.tmod y2.1 (y3.1.2.2.2.length:Int)) zI).2.2.2.2.2.2.length≤3+1:=by omega
 have ha5:∀ t,((rd y3.1.2.2.2 (Int.tmod y2.1 (y3.1.2.2.2.length:Int)) zI).2.2.2.2.2.2++[t]).length≤3+1:=fun t=>by simp only [List.length_append,List.length_singleton];omega
 have ha6:∀ t:Int,((rd y3.1.2.2.2 (Int.tmod y2.1 (y3.1.2.2.2.length:Int)) zI).2.2.2.2.2.2.length+List.length [t]) * 8≤140737488355328:=fun t=>by simp only [List.length_singleton];omega
 have hrg:=ha.2.2
 have hm22:0≤Int.tmod y2.1 22∧Int.tmod y2.1 22<22:=Oy (n:=22) hy2.1 (by omega)
 have hm30:0≤Int.tmod y2.1 30∧Int.tmod y2.1 30<30:=Oy (n:=30) hy2.1 (by omega)
 have hy200:=hy2.2.1 (by omega)
 have hl:=hd.lo
 have hc:=hy3.2
 have hd1:DrC 1 y3.1:=hd.le (by omega)
 refine AG (AA (AM (show(_:Int)≠0 by have:=hd.w1;simp only;omega) ?_))
 simp only;refine Ah (AE (Q:=fun x:Cur×CODE×CODE×Unit=>DrC 1 x.2.2.1∧COk x.1) ?_ fun x hx=>AA hx)
 refine AP (fun _=>AM (show(22:Int)≠0 by decide) (AM hi (Gf (AA ⟨hd1.put _ _ ⟨ha.1,ha1,hrg⟩,hc⟩)))) fun _=>Kg ?_
 refine AP (fun _=>AM (show(30:Int)≠0 by decide) (AM hi (Gf (AA ⟨hd1.put _ _ ⟨ha.1,ha1,by rw [Aq (by omega) (by omega)];exact⟨by simp only;omega,hrg.2⟩⟩,hc⟩)))) fun _=>Kg ?_
 refine AP (fun _=>AM (show(30:Int)≠0 by decide) (AM hi (Gf (AA ⟨hd1.put _ _ ⟨ha.1,ha1,hrg.1,by simp only;omega,hrg.2.2⟩,hc⟩)))) fun _=>Kg ?_
 refine AP (fun _=>AM hi (Gf (AA ⟨hd1.put _ _ ⟨ha.1,ha1,hrg.1,hrg.2.1,hrg.2.2.1,by simp only;omega,hrg.2.2.2.2⟩,hc⟩))) fun _=>Kg ?_
 refine AP (fun _=>AM hi (AM (show(30:Int)≠0 by decide) (AM (ha6 _) (AM hi (AM ⟨Nat.le_refl _,Nat.le_refl _,trivial⟩ (Gf (AA ⟨hd1.put _ _ ⟨ha.1,ha5 _,hrg.1,hrg.2.1,hrg.2.2.1,hrg.2.2.2.1,fun n hn=>(List.mem_append.1 hn).elim (hrg.2.2.2.2 n) fun hn=>by rw [List.mem_singleton.1 hn];omega⟩,hc⟩))))))) fun _=>Kg ?_
 refine AP (fun _=>AM (show(9:Int)≠0 by decide) (AA ⟨⟨hd1.nm,hd1.lo,hd1.w1,hd1.wo,hd1.a⟩,hc⟩)) fun _=>Kg ?_
 refine AP (fun _=>AM (show(6:Int)≠0 by decide) (AM (show(_:Nat)≤_ by simp only [List.length_singleton];omega) (AA ⟨⟨hd1.nm,by simp only [List.length_append,List.length_singleton];omega,hd1.w1,hd1.wo,hd1.a⟩,hc⟩))) fun _=>Kg ?_
 exact AP (fun _=>AM hi (Gf (AA ⟨hd1.put _ _ ⟨by show(0:Nat)≤8;omega,by show(0:Nat)≤4;omega,by unfold QP;simp⟩,hc⟩))) fun _=>AA ⟨hd1,hc⟩
theorem Zu (c:Cur) (l:List Int) (hl:l≠[]) (h:COk c):wp (GH c l) fun r=>COk r.2.1:=by
 unfold GH;have hpos:0<l.length:=List.length_pos_iff.2 hl
 exact AG (AE (Br _ _ h) fun y hy=>AM (BL hy.1 (hy.2.1 (by omega))) (AA hy.2.2.2))
theorem Yp (c:Cur) (h:COk c):wp (JG c) fun y=>DrC 1 y.1∧COk y.2.1:=by
 unfold JG;refine AG (AE (Iu _ _ h) fun y1 hy1=>AP (fun _=>AG (AE (dy _ hy1) fun y2 hy2=>AA hy2)) fun _=>AG (AE (UO _ hy1) fun y3 hy3=>?_))
 have hd:=hy3.1
 have hf:=(hd.le (by omega:0≤1)).fine
 rw [RY _ hf];have hw:=hd.w1
 have hw4:=hd.wo
 refine AG (AA (Ah (AG (AA (AE (wp_loop (fun x:Hy=>x.1=(y3.1.2.2.2.length:Int)∧0≤x.2.1∧x.2.1≤4∧COk x.2.2.1∧DrC 0 x.2.2.2.2.1∧x.2.2.2.2.1.2.2.2.length=y3.1.2.2.2.length) (fun x=>(4 - x.2.1).toNat) (Q:=fun x:Cur×CODE×CODE×Unit=>DrC 1 x.2.2.1∧COk x.1) (fun x hx=>?_) ⟨rfl,by simp,by simp,hy3.2,hd,rfl⟩) fun x hx=>AA hx)))))
 obtain⟨b1,b2,b3,b4,b5,_⟩:=x;simp only at hx;obtain⟨f1,b20,b24,hc,hdc,hlen⟩:=hx;subst f1;unfold Lg;simp only;refine AG (AE (Br _ _ hc) fun y6 hy6=>AP (fun hb=>?_) fun _=>Aj (AA (BK ⟨hdc.le (by omega),hy6.2.2.2⟩)))
 have hb':=of_decide_eq_true hb
 have h4:=hy6.2.1 (by omega)
 refine AG (AE (Br _ _ hy6.2.2.2) fun y7 hy7=>?_)
 have h7:=hy7.2.1 (by omega)
 refine Ah (AE (Q:=fun x:Int×Int×Int×Bool×Cur×CODE×CODE×Unit=>x.1=(y3.1.2.2.2.length:Int)∧x.2.1=b2∧x.2.2.1=y7.1∧COk x.2.2.2.2.1∧x.2.2.2.2.2.2.1=b5) (AP (fun _=>AA ⟨rfl,rfl,rfl,hy7.2.2.2,rfl⟩) fun _=>AA ⟨rfl,rfl,rfl,hy7.2.2.2,rfl⟩) fun x hx=>?_)
 obtain⟨c1,c2,c3,c4,c5,c6,c7,_⟩:=x;simp only at hx ⊢;obtain⟨q1,q2,q3,q4,q5⟩:=hx;subst q1 q2 q3 q5;refine Ah (AE (Q:=fun x:Int×Int×Cur×CODE×CODE×Unit=>x.1=(y3.1.2.2.2.length:Int)∧x.2.1=c2∧COk x.2.2.1∧DrC 0 x.2.2.2.2.1∧x.2.2.2.2.1.2.2.2.length=y3.1.2.2.2.length) (AP (fun _=>AG (AE (Zu _ _ (by simp) q4) fun y9 hy9=>AG (AE (Br _ _ hy9) fun y10 hy10=>have h10:=hy10.2.1 (by omega);have h100:=hy10.1;AM (BL hy7.1 (by rw [hlen];exact h7)) (Gf (AA ⟨rfl,rfl,hy10.2.2.2,hdc.put _ _ ⟨by show(0:Nat)≤8;omega,by show(0:Nat)≤3;omega,(by unfold QP;simp only [List.not_mem_nil,false_imp_iff,implies_true,and_true];omega)⟩,by simp only [List.length_set];exact hlen⟩))))) fun _=>AA ⟨rfl,rfl,q4,hdc,hlen⟩) fun x hx=>?_)
 obtain⟨d1,d2,d3,d4,d5,_⟩:=x;simp only at hx ⊢;obtain⟨q1,q2,q6,q7,q8⟩:=hx;subst q1 q2;refine Aj (AA (Bc ?_))
 rw [Aq (by omega) (by omega)];exact⟨⟨rfl,by simp only;omega,by simp only;omega,q6,q7,q8⟩,by simp only;omega⟩
set_option maxRecDepth 100000
theorem ZK (c:Cur) (h:COk c):wp (DG c) fun y=>Lv y.1:=by
 unfold DG;refine AG (AE (Uc c h) fun y1 hy1=>AG (AE (UX hy1.1.1) fun y2 hy2=>AP (fun _=>AA ⟨⟨⟨by simp,by simp⟩,fun w hw=>?_⟩,by kernel_rfl⟩) fun hb=>?_))
 ·simp only [List.mem_cons,List.not_mem_nil,or_false] at hw;rcases hw with hw | hw | hw<;>subst hw<;>simp
 ·obtain⟨hne,h8,hall⟩:=hy2 (by simpa using hb);have hpos:0<y2.1.length:=List.length_pos_iff.2 hne
  refine AG (AE (Iu _ _ hy1.2) fun y3 hy3=>AP (fun _=>AG (AE (Br _ _ hy3) fun y4 hy4=>?_)) fun _=>?_)
  ·have hlt:=hy4.2.1 (by omega)
   exact AM (BL hy4.1 hlt) (AA (hall _ (Cm _ _ _ hy4.1 hlt)))
  ·rw [Aq (by omega) (by omega)];have h0:(0:Int)≤(y2.1.length:Int) - 1:=by omega
   have hlt:(y2.1.length:Int) - 1<(y2.1.length:Int):=by omega
   exact AM (BL h0 hlt) (AA (hall _ (Cm _ _ _ h0 hlt)))
theorem Zh (code:List Int) (h:code.length≤1048576):wp (Gk code) fun y=>Lv y.1:=by
 unfold Gk;refine AG (AE (fV code h) fun y1 hy1=>AG (AE (Yp _ hy1) fun y2 hy2=>?_))
 rw [Dm _ hy2.1.fine];refine AG (AA (AP (fun _=>AG (AE (ZK _ hy2.2) fun y4 hy4=>AA hy4)) fun hb=>AA ⟨hy2.1.fine,by simpa using hb⟩))
set_option maxRecDepth 100000
namespace Once
open Threaded Tight
def wth (c:CODE) (ws:List INS):CODE:=(c.1,(c.2.1,(c.2.2.1,ws)))
theorem wok {c:CODE} {ws:List INS} {w w':INS} (h1:w'.1=w.1) (h2:w'.2.1=w.2.1) (h3:w'.2.2.1=w.2.2.1) (h4:w'.2.2.2.1=w.2.2.2.1) (h5:w'.2.2.2.2.2=w.2.2.2.2.2)
 (hn:w.1=18∨w.1=19→0≤w'.2.2.2.2.1∧w'.2.2.2.2.1≤(ws.length:Int) - 1) (ho:¬ (w.1=18∨w.1=19)→w'.2.2.2.2.1=w.2.2.2.2.1) (h:Bu c w=true):Bu (wth c ws) w'=true:=by
 have hp:place (wth c ws)=place c:=rfl
 simp only [Bu,Bool.and_eq_true] at h ⊢;obtain⟨a1,a2,a3,a4,a5,a6⟩:=h;refine⟨by rw [h1];exact a1,?_,?_,?_,?_,?_⟩
 ·unfold okA at *;rw [h1,h2,hp];exact a2
 ·unfold okB at *;rw [h1,h3,hp];exact a3
 ·unfold okC at *;rw [h1,h4,hp];exact a4
 ·unfold okN at *;rw [h1]
  by_cases hj:w.1=18∨w.1=19
  ·have e1:decide (w.1=1)=false:=decide_eq_false (by omega)
   have e2:(decide (w.1=18) || decide (w.1=19))=true:=by simpa using hj
   rw [e1,e2,cond_false,cond_true,decide_eq_true_eq];exact hn hj
  ·have e2:(decide (w.1=18) || decide (w.1=19))=false:=by simpa using hj
   rw [e2,cond_false] at a5 ⊢;rw [ho hj];exact a5
 ·unfold okR at *;rw [h1,h5,hp];exact a6
theorem cok {c:CODE} {ws:List INS} (h1:1≤ws.length) (h2:ws.length≤400) (hl:(ws.getD (ws.length - 1) (0,0,0,0,0,⟨#[]⟩,[])).1=20) (hw:∀ w∈ws,Bu (wth c ws) w=true) (h:BU c=true):BU (wth c ws)=true:=by
 simp only [BU,Bool.and_eq_true] at h ⊢;obtain⟨a1,a2,a3,a4,a5,a6,a7⟩:=h;exact⟨a1,a2,a3,decide_eq_true ⟨h1,h2⟩,decide_eq_true hl,a6,List.all_eq_true.2 hw⟩
theorem parts {c:CODE} (h:BU c=true):1≤c.2.2.2.length∧c.2.2.2.length≤400∧(c.2.2.2.getD (c.2.2.2.length - 1) (0,0,0,0,0,⟨#[]⟩,[])).1=20∧(∀ w∈c.2.2.2,Bu c w=true)∧c.2.2.1.length≤200:=by
 simp only [BU,Bool.and_eq_true,decide_eq_true_eq] at h;obtain⟨a1,a2,a3,a4,a5,a6,a7⟩:=h;exact⟨a4.1,a4.2,a5,List.all_eq_true.1 a7,a2⟩
theorem Gi {c:CODE} (h:BU c=true):FineC c:=by
 obtain⟨h1,h2,h3,h4,h5⟩:=parts h;refine⟨⟨by omega,by omega⟩,fun w hw=>?_⟩
 have h6:=h4 w hw
 simp only [Bu,Bool.and_eq_true] at h6;have h7:=h6.2.2.2.2.2
 unfold okR at h7;cases hd:decide (w.1=13)
 ·rw [hd,cond_false,Bool.and_eq_true,decide_eq_true_eq,decide_eq_true_eq] at h7;omega
 ·rw [hd,cond_true,Bool.and_eq_true,Bool.and_eq_true,decide_eq_true_eq] at h7;omega
theorem UT {l m:List INS} (hlen:m.length=l.length) (hop:∀ i (h:i<m.length) (h':i<l.length),(m[i]).1=(l[i]).1) (k:Nat) (z:INS):(m.getD k z).1=(l.getD k z).1:=by
 rw [List.getD_eq_getElem?_getD,List.getD_eq_getElem?_getD]
 by_cases hk:k<l.length
 ·rw [List.getElem?_eq_getElem hk,List.getElem?_eq_getElem (by omega)];exact hop k (by omega) hk
 ·rw [List.getElem?_eq_none (by omega),List.getElem?_eq_none (by omega)]
theorem Xw {c:CODE} (h:BU c=true):BU (val c)=true:=by
 obtain⟨h1,h2,h3,h4,h5⟩:=parts h;have hj:=KW h
 have e:val c=wth c (c.2.2.2.map (thr c.2.2.2)):=by unfold val;rw [h];rfl
 rw [e];have hlen:(c.2.2.2.map (thr c.2.2.2)).length=c.2.2.2.length:=List.length_map ..
 refine cok (by omega) (by omega) ?_ (fun w hw=>?_) h
 ·rw [hlen,UT hlen (fun i hi hi'=>by rw [List.getElem_map];exact(Ib _ _).1)];exact h3
 ·obtain⟨v,hv,rfl⟩:=List.mem_map.1 hw;obtain⟨f1,f2,f3,f4,f5⟩:=Ib c.2.2.2 v;refine wok f1 f2 f3 f4 f5 (fun hjj=>?_) (fun hjj=>by rw [thr,if_neg hjj]) (h4 v hv)
  rw [hlen];obtain⟨t,ht,htl⟩:=hj v hv hjj;rw [thr,if_pos hjj,ht];cases hc:CE c.2.2.2 (c.2.2.2.length+1) (t:Int) with
  | none=>simp only;omega
  | some u=>
   obtain⟨x,rfl,hx,_⟩:=Mp hj _ t u htl hc;simp only;omega
open Trimmed
theorem OK (R:List Bool) (l:List INS):∀ k,k≤l.length→∀ w∈((List.range k).foldl (Trimmed.cut R l) ([],[])).2,w∈l
 | 0,_,w,hw=>by cases hw
 | k+1,hk,w,hw=>by
  rw [List.range_succ,List.foldl_append,List.foldl_cons,List.foldl_nil] at hw;have ih:=OK R l k (by omega)
  generalize (List.range k).foldl (Trimmed.cut R l) ([],[])=s at hw ih;unfold Trimmed.cut at hw;cases hkp:keep R l k
  ·rw [hkp,cond_false] at hw;exact ih w hw
  ·rw [hkp,cond_true] at hw;rcases List.mem_append.1 hw with hw | hw
   ·exact ih w hw
   ·rw [List.mem_singleton.1 hw,AZ (show k<l.length by omega)];exact List.getElem_mem _
theorem UP (R:List Bool) (l:List INS):∀ k,k≤l.length→((List.range k).foldl (Trimmed.cut R l) ([],[])).1.length=k∧∀ j,j<k→0≤((List.range k).foldl (Trimmed.cut R l) ([],[])).1.getD j 0∧((List.range k).foldl (Trimmed.cut R l) ([],[])).1.getD j 0≤(((List.range k).foldl (Trimmed.cut R l) ([],[])).2.length:Int)
 | 0,_=>⟨rfl,fun j hj=>absurd hj (Nat.not_lt_zero j)⟩
 | k+1,hk=>by
  obtain⟨h1,h2⟩:=UP R l k (by omega);rw [List.range_succ,List.foldl_append,List.foldl_cons,List.foldl_nil];generalize (List.range k).foldl (Trimmed.cut R l) ([],[])=s at h1 h2 ⊢;have hle:s.2.length≤(Trimmed.cut R l s k).2.length:=by
   unfold Trimmed.cut;cases keep R l k
   ·simp only [cond_false];omega
   ·simp only [cond_true,List.length_append,List.length_singleton];omega
  have h1':(Trimmed.cut R l s k).1=s.1++[(s.2.length:Int)]:=rfl
  rw [h1'];refine⟨by simp only [List.length_append,List.length_singleton,h1],fun j hj=>?_⟩
  rw [List.getD_eq_getElem?_getD]
  by_cases e:j=k
  ·subst e;rw [List.getElem?_append_right (by omega),h1];simp;omega
  ·have hjk:j<k:=by omega
   have:=h2 j hjk
   rw [List.getD_eq_getElem?_getD] at this;rw [List.getElem?_append_left (by omega)];omega
theorem Qy (R:List Bool) (l:List INS) (hl:1≤l.length):(Bn R l).1.length=l.length∧(∀ j,j<l.length→0≤(Bn R l).1.getD j 0∧(Bn R l).1.getD j 0≤((Bn R l).2.length:Int) - 1)∧∃ K,(Bn R l).2=K++[rd l ((l.length - 1:Nat):Int) zI]:=by
 obtain⟨h1,h2⟩:=UP R l (l.length - 1) (by omega);have e:Bn R l=Trimmed.cut R l ((List.range (l.length - 1)).foldl (Trimmed.cut R l) ([],[])) (l.length - 1):=by
  unfold Bn;rw [show l.length=(l.length - 1)+1 by omega,List.range_succ,List.foldl_append,List.foldl_cons,List.foldl_nil];rfl
 have hk:keep R l (l.length - 1)=true:=by
  unfold keep;rw [decide_eq_true (show((l.length - 1:Nat):Int)=(l.length:Int) - 1 by omega),Bool.true_or]
 generalize (List.range (l.length - 1)).foldl (Trimmed.cut R l) ([],[])=s at h1 h2 e;unfold Trimmed.cut at e;rw [hk,cond_true] at e;rw [e];refine⟨by simp only [List.length_append,List.length_singleton,h1];omega,fun j hj=>?_,s.2,rfl⟩
 simp only [List.length_append,List.length_singleton];rw [List.getD_eq_getElem?_getD]
 by_cases ej:j=l.length - 1
 ·subst ej;rw [List.getElem?_append_right (by omega),h1];simp
 ·have:=h2 j (by omega)
  rw [List.getD_eq_getElem?_getD] at this;rw [List.getElem?_append_left (by omega)];omega
theorem PW (a:List Int) (w:INS):(put a w).1=w.1∧(put a w).2.1=w.2.1∧(put a w).2.2.1=w.2.2.1∧(put a w).2.2.2.1=w.2.2.2.1∧(put a w).2.2.2.2.2=w.2.2.2.2.2:=by
 unfold put;cases decide (w.1=18) || decide (w.1=19)<;>exact⟨rfl,rfl,rfl,rfl,rfl⟩
theorem Ui {c:CODE} (h:BU c=true) (R:List Bool):BU (trim R c)=true∧(trim R c).2.2.2.length≤c.2.2.2.length:=by
 obtain⟨h1,h2,h3,h4,h5⟩:=parts h;have hj:=KW h
 obtain⟨a1,a2,K,a3⟩:=Qy R c.2.2.2 h1;have hmem:=OK R c.2.2.2 c.2.2.2.length (Nat.le_refl _)
 have hlen:=(KU R c.2.2.2 c.2.2.2.length (Nat.le_refl _)).2.1
 have hlen':(Bn R c.2.2.2).2.length≤c.2.2.2.length:=hlen
 have hmem':∀ w∈(Bn R c.2.2.2).2,w∈c.2.2.2:=hmem
 have hml:((Bn R c.2.2.2).2.map (put (Bn R c.2.2.2).1)).length=(Bn R c.2.2.2).2.length:=List.length_map ..
 have hpos:1≤(Bn R c.2.2.2).2.length:=by rw [a3];simp
 have e:trim R c=wth c ((Bn R c.2.2.2).2.map (put (Bn R c.2.2.2).1)):=rfl
 rw [e];refine⟨cok (by omega) (by omega) ?_ (fun w hw=>?_) h,by simp only [wth];omega⟩
 ·rw [hml,UT hml (fun i hi hi'=>by rw [List.getElem_map];exact(PW _ _).1)];rw [a3];simp only [List.length_append,List.length_singleton,Nat.add_sub_cancel];rw [List.getD_eq_getElem?_getD,List.getElem?_append_right (Nat.le_refl _),Nat.sub_self];have hlt:c.2.2.2.length - 1<c.2.2.2.length:=by omega
  rw [List.getD_eq_getElem?_getD,List.getElem?_eq_getElem hlt] at h3;rw [AZ hlt];exact h3
 ·obtain⟨v,hv,rfl⟩:=List.mem_map.1 hw;obtain⟨f1,f2,f3,f4,f5⟩:=PW (Bn R c.2.2.2).1 v;refine wok f1 f2 f3 f4 f5 (fun hjj=>?_) (fun hjj=>?_) (h4 v (hmem' v hv))
  ·obtain⟨t,ht,htl⟩:=hj v (hmem' v hv) hjj;have e2:(decide (v.1=18) || decide (v.1=19))=true:=by simpa using hjj
   have e3:(put (Bn R c.2.2.2).1 v).2.2.2.2.1=(Bn R c.2.2.2).1.getD t 0:=by
    unfold put;rw [e2,cond_true];simp only;rw [ht];simp [rd]
   rw [e3,hml];exact a2 t htl
  ·have e2:(decide (v.1=18) || decide (v.1=19))=false:=by simpa using hjj
   unfold put;rw [e2,cond_false]
theorem fu {c:CODE} (hok:BU c=true):∃ R:List Bool,R.length=c.2.2.2.length∧CC c=some (R,())∧CX c=some (trim R c,true,()):=by
 have h:=Gi hok
 have hw:=h.s.w
 obtain⟨h1,h2,_⟩:=parts hok;obtain⟨R,hR,rS,rI⟩:=gO c h hok;have hj:=KW hok
 obtain⟨a1,_⟩:=Qy R c.2.2.2 h1;have hmem:∀ w∈(Bn R c.2.2.2).2,w∈c.2.2.2:=OK R c.2.2.2 c.2.2.2.length (Nat.le_refl _)
 have hlen:(Bn R c.2.2.2).2.length≤c.2.2.2.length:=(KU R c.2.2.2 c.2.2.2.length (Nat.le_refl _)).2.1
 have pI:=fun y=>gM (Bn R c.2.2.2).1 Trimmed.zC y (Bn R c.2.2.2).2 (by omega) (fun w hm ho=>by rw [a1];exact hj w (hmem w hm) ho)
 have hb:∀ {α:Type} {K:Option α},(Cnd.both (Cnd.nn (c.2.2.2.length:Int)) (Cnd.le (c.2.2.2.length * 8) 140737488355328)).run K=K:=fun {α} {K}=>by
  simp only [Cnd.run];rw [if_pos (by omega),if_pos (by omega)]
 refine⟨R,hR,rS,?_⟩
 simp only [CX,Im c h,hok,Option.bind_some,Bool.not_true,cond_false,rI,LG c h,Int.toNat_natCast,hb,Iq hw,gC c h R hR,AD,pI,trim]
theorem fI (R:List Bool) (l:List INS):∀ k,k≤l.length→((List.range k).foldl (Trimmed.cut R l) ([],[])).2.length=k→∀ j,j<k→keep R l j=true
 | 0,_,_,j,hj=>absurd hj (Nat.not_lt_zero j)
 | k+1,hk,hl,j,hj=>by
  have hle:=(KU R l k (by omega)).2.1
  have ih:=fI R l k (by omega)
  rw [List.range_succ,List.foldl_append,List.foldl_cons,List.foldl_nil] at hl;generalize (List.range k).foldl (Trimmed.cut R l) ([],[])=s at hl hle ih;unfold Trimmed.cut at hl;cases hkp:keep R l k
  ·rw [hkp,cond_false] at hl;simp only at hl;omega
  ·rw [hkp,cond_true] at hl;simp only [List.length_append,List.length_singleton] at hl
   by_cases e:j=k
   ·rw [e];exact hkp
   ·exact ih (by omega) j (by omega)
theorem Tz {R:List Bool} {c:CODE} (hl:(trim R c).2.2.2.length=c.2.2.2.length):∀ i:Nat,i+1<c.2.2.2.length→rd R (i:Int) false=true:=by
 intro i hi;have hl':(Bn R c.2.2.2).2.length=c.2.2.2.length:=by simpa only [trim,List.length_map] using hl
 have:=fI R c.2.2.2 c.2.2.2.length (Nat.le_refl _) hl' i (by omega)
 unfold keep at this;rw [decide_eq_false (show ¬ (i:Int)=(c.2.2.2.length:Int) - 1 by omega),Bool.false_or,Bool.and_eq_true] at this;exact this.1
theorem Zy {a b:List INS} (h:Like a b) (hs:LS a b=true):a=b:=by
 refine List.ext_getElem h.len fun i h1 h2=>?_
 obtain⟨f1,f2,f3,f4,f5⟩:=h.f i h1 h2;unfold LS at hs;have:=List.all_eq_true.1 hs i (List.mem_range.2 h1)
 unfold Nb at this;have hn:=of_decide_eq_true this
 rw [AZ h1,AZ h2] at hn;exact Prod.ext f1 (Prod.ext f2 (Prod.ext f3 (Prod.ext f4 (Prod.ext hn f5))))
theorem aR {c:CODE} (h:(val c).2.2.2=c.2.2.2):val c=c:=by
 cases hc:BU c
 ·unfold val;rw [hc];rfl
 ·have e:val c=wth c (c.2.2.2.map (thr c.2.2.2)):=by unfold val;rw [hc];rfl
  rw [e] at h ⊢;unfold wth at *;simp only at h;rw [h]
structure Done (r:CODE):Prop where
 ok:BU r=true
 v:val r=r
 t:∃ R:List Bool,R.length=r.2.2.2.length∧CC r=some (R,())∧CX r=some (r,true,())∧∀ i:Nat,i+1<r.2.2.2.length→rd R (i:Int) false=true
theorem Done.of {o:CODE} (hok:BU o=true) (hv:val o=o) {R:List Bool} (hR:R.length=o.2.2.2.length) (hs:CC o=some (R,())) (ht:CX o=some (trim R o,true,())) (hl:(trim R o).2.2.2.length=o.2.2.2.length):Done o:=
 ⟨hok,hv,R,hR,hs,by rw [ht,Rc R o (KW hok) hl],Tz hl⟩
theorem Done.step {r:CODE} (h:Done r):DV (Tight.zC,r,())=some (.inr (r,())):=by
 have hf:=Gi h.ok
 obtain⟨R,_,_,ht,_⟩:=h.t;have q:=impl_ok r hf
 rw [h.v] at q;exact WS r r true true (by rw [h.v];exact q) (by rw [h.v];exact ht) (fun _=>by rw [Pc _ _ (XO _) hf.s.w hf.a,WO])
theorem loop:∀ (m:Nat) (o:CODE),BU o=true→o.2.2.2.length≤m→∃ r:CODE,AK DV (Tight.zC,o,())=some (r,())∧r.2.2.2.length≤o.2.2.2.length∧Done r
 | m,o,hok,hm=>by
  have hf:=Gi hok
  have hvok:=Xw hok
  have hfv:=Gi hvok
  obtain⟨R,hR,rS,tI⟩:=fu hvok;have hlv:=(like_val o).len
  obtain⟨tok,tlen⟩:=Ui hvok R
  by_cases hlen:(trim R (val o)).2.2.2.length=(val o).2.2.2.length
  ·have e:=Rc R (val o) (KW hvok) hlen
   have dv:Done (val o):=Done.of hvok (aQ o) hR rS tI hlen
   rw [e] at tI;have s2:=WS o (val o) true (LS (val o).2.2.2 o.2.2.2) (impl_ok o hf) tI (fun _=>Pc _ _ (like_val o) hfv.s.w hf.a)
   cases hb:LS (val o).2.2.2 o.2.2.2
   ·rw [hb] at s2;exact⟨val o,by rw [BW s2];exact BA dv.step,by omega,dv⟩
   ·rw [hb] at s2;have ev:val o=o:=aR (Zy (like_val o) hb)
    rw [ev] at dv;exact⟨o,BA s2,Nat.le_refl _,dv⟩
  ·have s2:=WS o _ true false (impl_ok o hf) tI (fun _=>gD _ _ (by omega))
   match m,hm with
   | 0,hm=>have:=(parts hok).1;omega
   | m+1,hm=>
    obtain⟨r,r1,r2,r3⟩:=loop m (trim R (val o)) tok (by omega);exact⟨r,by rw [BW s2];exact r1,by omega,r3⟩
theorem Xs {c:CODE} (hok:BU c=true):∃ r:CODE,Cq c=some (r,())∧r.2.2.2.length≤c.2.2.2.length∧Done r:=by
 obtain⟨r,r1,r2,r3⟩:=loop c.2.2.2.length c hok (Nat.le_refl _);refine⟨r,?_,r2,r3⟩
 simp only [Cq,LG c (Gi hok),Option.bind_some,r1]
theorem Wc {r:CODE} (h:Done r):Cq r=some (r,()):=by
 simp only [Cq,LG r (Gi h.ok),Option.bind_some,BA h.step]
end Once
set_option maxRecDepth 100000
namespace X
open Threaded Once
theorem Pc (l:List Int) (hl:l.length≤1048576):Fn l l=some (true,()):=by
 have h:=Bj (step:=Dr) l (fun _=>true) (fun k=>(l,l,(k:Int),())) (.inl ()) (.inr (false,())) (fun k hk=>by
  simp only [Dr,Am hk,decide_true,cond_true,AU hk,ne_eq,not_true_eq_false,decide_false,cond_false,Option.map_some,Ad (show k<9223372036854775807 by omega)]) (by
  simp only [Dr,Aa,decide_false,cond_false,Option.map_some])
 have h':AK Dr (l,l,(0:Int),())=_:=h
 simp only [Fn,ne_eq,not_true_eq_false,decide_false,cond_false,Option.bind_some,h'];have:(l.all fun _=>true)=true:=by simp
 rw [this];rfl
theorem gU (c:CODE) (h:FineC c):Fm c c=some (true,()):=by
 have hl:=h.s.w
 have h':AK Dq ((0:Int),c,c,())=_:=Bj (step:=Dq) c.2.2.2 (fun _=>true) (fun k=>((k:Int),c,c,())) (.inl ()) (.inr (false,())) (fun k hk=>by
  simp only [Dq,Am hk,decide_true,cond_true,AU hk,AZ hk,ne_eq,not_true_eq_false,decide_false,cond_false,Pc _ (h.a _ (List.getElem_mem hk)),Option.bind_some,Bool.not_true,AD,Option.map_some,Ad (show k<9223372036854775807 by omega)]) (by
  simp only [Dq,Aa,decide_false,cond_false,Option.map_some])
 have:(c.2.2.2.all fun _=>true)=true:=by simp
 simp only [Fm,ne_eq,not_true_eq_false,decide_false,cond_false,Pc _ h.s.l,Option.bind_some,Bool.not_true,AD,h',this,cond_true,BV]
theorem Nq (R:List Bool) (hR:R.length≤400) (h:∀ i:Nat,i+1<R.length→rd R (i:Int) false=true) (u v:Bool) (c a b d e:CODE):
 ∀ (m i:Nat),i+m=R.length→AK Bx (u,v,R,(i:Int),c,a,b,d,e,())=some (.inl (u,v,c,a,b,d,e,()))
 | 0,i,hi=>by
  refine BA ?_
  have wi:=Ad (show i<9223372036854775807 by omega)
  simp only [Bx,wi,show ¬ (((i+1:Nat):Int)<(R.length:Int)) by omega,decide_false,cond_false,Option.map_some]
 | m+1,i,hi=>by
  have wi:=Ad (show i<9223372036854775807 by omega)
  by_cases hlt:i+1<R.length
  ·rw [← Nq R hR h u v c a b d e m (i+1) (by omega)];refine BW ?_
   simp only [Bx,wi,show(((i+1:Nat):Int)<(R.length:Int)) by omega,decide_true,cond_true,AU (show i<R.length by omega),h i hlt,Bool.not_true,cond_false,Option.map_some]
  ·refine BA ?_
   simp only [Bx,wi,show ¬ (((i+1:Nat):Int)<(R.length:Int)) by omega,decide_false,cond_false,Option.map_some]
theorem pure (code:List Int) {e:Nat} (hb:Bnd (.list e (.int .u8)) code):Gx code=some (true,()):=by
 unfold Gx OW;rw [Option.bind_some]
 by_cases hbig:(1048576:Int)<(code.length:Int)
 ·rw [decide_eq_true hbig];rfl
 rw [decide_eq_false hbig];have h:code.length≤1048576:=by omega
 obtain⟨⟨c,_⟩,e1,hgc⟩:=Zh code h;simp only at hgc;obtain⟨hf,hok⟩:=hgc;have hvok:=Xw hok
 have hvl:=(Tight.like_val c).len
 obtain⟨R,_,_,tI⟩:=fu hok;obtain⟨tok,tlen⟩:=Ui hok R;obtain⟨r,r1,r2,r3⟩:=Xs hok;have fr:=Gi r3.ok
 have q:=Threaded.impl_ok r fr
 rw [r3.v] at q;obtain⟨Rr,w1,w2,w3,w4⟩:=r3.t;have hpr:=parts r3.ok
 have hl:=fun u v a b e=>Nq Rr (by omega) (by rw [w1];exact w4) u v c a b r e Rr.length 0 (by omega)
 have hl':∀ u v a b e,AK Bx (u,v,Rr,(0:Int),c,a,b,r,e,())=_:=hl
 have s1:=gU r fr
 have c1:=Dm (val c) (Gi hvok)
 have c2:=Dm (Trimmed.trim R c) (Gi tok)
 have c3:=Dm r fr
 rw [hvok] at c1;rw [tok] at c2;rw [r3.ok] at c3;have l1:decide (((val c).2.2.2.length:Int)=(c.2.2.2.length:Int))=true:=decide_eq_true (by omega)
 have l2:decide (((Trimmed.trim R c).2.2.2.length:Int)≤(c.2.2.2.length:Int))=true:=decide_eq_true (by omega)
 have l3:decide ((r.2.2.2.length:Int)≤(c.2.2.2.length:Int))=true:=decide_eq_true (by omega)
 simp only [cond_false,e1,Option.bind_some,Threaded.impl_ok c hf,tI,r1,q,w3,w2,hl',BV,cond_true,c1,c2,c3,s1,l1,l2,l3,Wc r3,AD]
end X
end Go.Proofs.YtmakhmoielhjeaaGreatDoorE

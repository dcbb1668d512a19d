/- The engine, texts SightB Names DrawT DrawU DrawL DrawM DrawN DrawC Flow1 Flow2 Flow3 Flow4 Flow5 Flow6 Flow7 Flow8 X: how code is reckoned as Lean functions, and that it is sound. No condition. -/
import Derived.Test.YtmakhmoielhjeaaGreatDoorLawPuA
set_option linter.all false
namespace Go.Proofs.YtmakhmoielhjeaaGreatDoorE
set_option linter.all false
set_option maxRecDepth 100000
def Pj (l:List NODE) (k:Int) (nm:List ByteArray):List ByteArray:=(rd l k zN).2.2.2.foldl (HE l true) nm
theorem UQ (l:List NODE):∀ (ys:List Int) (nm:List ByteArray),(ys.foldl (HE l true) nm).length≤nm.length+ys.length
 | [],nm=>Nat.le_refl _
 | y::ys,nm=>by
  have h1:=UQ l ys (HE l true nm y)
  have h2:=UR l true nm y
  simp only [List.foldl_cons,List.length_cons]
  omega
theorem Xc {α:Type} {l:List α} (h:l.length=1):∃ a,l=[a]:=by
 match l,h with
 | [a],_=>exact⟨a,rfl⟩
theorem nc {α:Type} {l:List α} (h:l.length=2):∃ a b,l=[a,b]:=by
 match l,h with
 | [a,b],_=>exact⟨a,b,rfl⟩
theorem iU {α:Type} {l:List α} (h:l.length=3):∃ a b c,l=[a,b,c]:=by
 match l,h with
 | [a,b,c],_=>exact⟨a,b,c,rfl⟩
theorem gM (p:PROG) (hp:FineP p) (fn:Int):∀ n:Nat,
 (∀ (k:Int) (nm:List ByteArray) (b:Bool),(0:Int)<AU p.1 k→(rd p.1 k zN).1=20→k.toNat<n→nm.length+12 * (k.toNat+1)≤16000000→(An n).1 (p,(fn,(nm,b))) k=some ((p,(fn,(Pj p.1 k nm,b || !BJ p fn k nm))),())) ∧
 (∀ (k:Int) (nm:List ByteArray) (b:Bool),(0:Int)<AU p.1 k→(13≤(rd p.1 k zN).1∧(rd p.1 k zN).1≤19)→k.toNat<n→nm.length+12 * (k.toNat+1)≤16000000→(An n).2.1 (p,(fn,(nm,b))) k=some ((p,(fn,(HE p.1 true nm k,b || !BJ p fn k nm))),()))
 | 0=>⟨fun _ _ _ _ _ h=>absurd h (by omega),fun _ _ _ _ _ h=>absurd h (by omega)⟩
 | n+1=>by
  obtain⟨ihB,ihS⟩:=gM p hp fn n
  have hpn:=hp.n.len
  constructor
  ·intro k nm b hd h20 hn hb
   have hk:=(Ay hd).1
   have hok:=(Ay hd).2.1
   have htw:=Eh hok
   have hkid:=fun y hy=>@DR p.1 k hd y hy
   have hstep:∀ i (hi:i<(rd p.1 k zN).2.2.2.length),13≤(rd p.1 (rd p.1 k zN).2.2.2[i] zN).1∧(rd p.1 (rd p.1 k zN).2.2.2[i] zN).1≤19:=fun i hi=>SY (Ox hok hi) h20
   rw [QJ p fn hd]
   show GI (An n).1 (An n).2.1 (p,(fn,(nm,b))) k=_
   unfold GI Pj
   have hidx:∀ {α:Type} {K:Option α},(Cnd.idx k (List.length p.1)).run K=K:=fun {α K}=>Cm hk
   have hrd:rd p.1 k zN=rd p.1 k zN:=rfl
   generalize hx:rd p.1 k zN=x at h20 htw hkid hstep hrd ⊢
   have hl:=CM (step:=CU (An n).1 (An n).2.1) x.2.2.2 (fun(c:List ByteArray×Bool) y=>(HE p.1 true c.1 y,c.2 || !BJ p fn y c.1)) (fun i c=>(k,(i:Int),(p,(fn,(c.1,c.2))),())) (fun c=>((p,(fn,(c.1,c.2))),())) (fun i c=>c.1.length≤nm.length+i) (fun i hi c hc=>by
    obtain⟨k1,k2,k3⟩:=hkid _ (List.getElem_mem hi)
    have ih:=ihS x.2.2.2[i] c.1 c.2 k1 (hstep i hi) (by omega) (by omega)
    refine⟨?_,Nat.le_trans (UR ..) (by omega)⟩
    simp only [CU,hidx,hx,Au hi,decide_true,cond_true,AY hi,Ad hi,ih,Option.bind_some,Option.map_some,Ag (show i<9223372036854775807 by omega)]) (fun c _=>by
    simp only [CU,hidx,hx,Ab,decide_false,cond_false,Option.map_some]) (nm,b) (Nat.le_refl _)
   have h1:=hl.1
   rw [OO (fun nm y=>BJ p fn y nm) (HE p.1 true)] at h1
   have h1':AH (CU (An n).1 (An n).2.1) (k,(0:Int),(p,(fn,(nm,b))),())=_:=h1
   simp only [Option.bind_some,h1',AC,okH,h20,show Dm 20=false from rfl,Bool.not_false,Bool.true_or,Bool.true_and,decide_true,show((20:Int)=12)=False from by decide,decide_false]
  ·intro k nm b hd hk13 hn hb
   have hk:=(Ay hd).1
   have hok:=(Ay hd).2.1
   have hlen:=Ui hok
   have hkid:=fun y hy=>@DR p.1 k hd y hy
   have hfit:=fun i hi=>@Ox p.1 k hok i hi
   rw [QJ p fn hd]
   show Gg (An n).1 (An n).2.1 (p,(fn,(nm,b))) k=_
   unfold Gg
   rw [show HE p.1 true nm k=bif decide ((rd p.1 k zN).1=13) then nm++[(rd p.1 k zN).2.2.1] else nm from rfl]
   rw [Cm (show 0≤k∧k<((List.length (p,(fn,(nm,b))).1.1:Nat):Int) from hk)]
   generalize rd p.1 k zN=x at hk13 hlen hkid hfit ⊢
   have h20:¬ x.1=20:=by omega
   have h12:¬ x.1=12:=by omega
   have hpos:0<x.2.2.2.length:=by
    have:(kr x.1).1≥1:=by
     have hc:x.1=13∨x.1=14∨x.1=15∨x.1=16∨x.1=17∨x.1=18∨x.1=19:=by omega
     rcases hc with h | h | h | h | h | h | h<;>rw [h]<;>decide
    omega
   obtain⟨k1,k2,k3⟩:=hkid _ (List.getElem_mem hpos)
   have hv:=NQ (hfit 0 hpos) (by omega) (by simp)
   have hval:=VN p hp fn x.2.2.2[0] nm b k1 hv.2 (by omega)
   have hT:=Yw nm x.2.2.1 (by omega)
   rw [show(Cnd.idx (0:Int) x.2.2.2.length).run _=_ from AY (k:=0) hpos,show rd x.2.2.2 (0:Int) (0:Int)=x.2.2.2[0] from Ad (k:=0) hpos]
   simp only [hval,Option.bind_some,okH,decide_eq_false h20,decide_eq_false h12,Bool.not_false,Bool.true_or,Bool.and_true]
   have one:∀ y,(GG (fun nm y=>BJ p fn y nm) (HE p.1 false) [y] nm).isSome=BJ p fn y nm:=fun y=>by
    simp only [GG];cases BJ p fn y nm<;>rfl
   have hcase:x.1=13∨x.1=14∨x.1=15∨x.1=16∨x.1=17∨(x.1=18∨x.1=19):=by omega
   rcases hcase with h | h | h | h | h | h
   ·rw [h] at hlen
    obtain⟨y,hy⟩:=Xc (l:=x.2.2.2) (by have:kr 13=(1,1):=rfl;rw [this] at hlen;simp at hlen;omega)
    simp only [hy,one]
    simp only [h,decide_true,decide_false,cond_true,cond_false,AC,Int.reduceEq,show Dm 13=false from rfl,Bool.not_false,Bool.true_or,Bool.true_and]
    rw [Bx (by simp;omega),Bx (by simp;omega)]
    simp only [AC,List.nil_append,List.getElem_cons_zero]
   ·rw [h] at hlen
    obtain⟨y,hy⟩:=Xc (l:=x.2.2.2) (by have:kr 14=(1,1):=rfl;rw [this] at hlen;simp at hlen;omega)
    simp only [hy,one]
    simp only [h,decide_true,decide_false,cond_true,cond_false,AC,Int.reduceEq,show Dm 14=true from rfl,Bool.not_true,Bool.false_or,List.getElem_cons_zero,hT,Option.bind_some]
    cases b<;>cases BJ p fn y nm<;>cases Pr nm x.2.2.1<;>rfl
   ·rw [h] at hlen
    obtain⟨y,hy⟩:=Xc (l:=x.2.2.2) (by have:kr 15=(1,1):=rfl;rw [this] at hlen;simp at hlen;omega)
    simp only [hy,one]
    simp only [h,decide_true,decide_false,cond_true,cond_false,AC,Int.reduceEq,show Dm 15=true from rfl,Bool.not_true,Bool.false_or,List.getElem_cons_zero,hT,Option.bind_some]
    cases b<;>cases BJ p fn y nm<;>cases Pr nm x.2.2.1<;>rfl
   ·rw [h] at hlen
    have hl3:x.2.2.2.length=3:=by have:kr 16=(3,3):=rfl;rw [this] at hlen;simp at hlen;omega
    have hb1:=ihB x.2.2.2[1] nm (b || !BJ p fn x.2.2.2[0] nm) (hkid _ (List.getElem_mem (by omega))).1 (NP (hfit 1 (by omega)) (.inl h) (by decide)) (by have:=hkid _ (List.getElem_mem (show 1<x.2.2.2.length by omega));omega) (by have:=hkid _ (List.getElem_mem (show 1<x.2.2.2.length by omega));omega)
    have hb2:=ihB x.2.2.2[2] nm (b || !BJ p fn x.2.2.2[0] nm || !BJ p fn x.2.2.2[1] nm) (hkid _ (List.getElem_mem (by omega))).1 (NP (hfit 2 (by omega)) (.inl h) (by decide)) (by have:=hkid _ (List.getElem_mem (show 2<x.2.2.2.length by omega));omega) (by have:=hkid _ (List.getElem_mem (show 2<x.2.2.2.length by omega));omega)
    have hl:AH (Bg (An n).1 (An n).2.1) ((1:Int),(p,(fn,(nm,b || !BJ p fn x.2.2.2[0] nm))),x,())=some ((p,(fn,(nm,b || !BJ p fn x.2.2.2[0] nm || !BJ p fn x.2.2.2[1] nm || !BJ p fn x.2.2.2[2] nm))),()):=by
     rw [Bi (b':=(((2:Nat):Int),(p,(fn,(nm,b || !BJ p fn x.2.2.2[0] nm || !BJ p fn x.2.2.2[1] nm))),x,())) (by
      have a1:((1:Nat):Int)<(x.2.2.2.length:Int):=by omega
      have:=AY (α:=DQ ⊕ (gG×Unit)) (k:=1) (n:=x.2.2.2.length) (by omega) (K:=some (.inl (((2:Nat):Int),(p,(fn,(nm,b || !BJ p fn x.2.2.2[0] nm || !BJ p fn x.2.2.2[1] nm))),x,())))
      simp only [Bg,show(1:Int)<(x.2.2.2.length:Int) from a1,decide_true,cond_true,show rd x.2.2.2 (1:Int) (0:Int)=x.2.2.2[1] from Ad (k:=1) (by omega),hb1,Option.bind_some,Option.map_some]
      exact this)]
     rw [Bi (b':=(((3:Nat):Int),(p,(fn,(nm,b || !BJ p fn x.2.2.2[0] nm || !BJ p fn x.2.2.2[1] nm || !BJ p fn x.2.2.2[2] nm))),x,())) (by
      simp only [Bg,Au (show 2<x.2.2.2.length by omega),decide_true,cond_true,AY (show 2<x.2.2.2.length by omega),Ad (show 2<x.2.2.2.length by omega),hb2,Option.bind_some,Option.map_some]
      rfl)]
     refine BH ?_
     simp only [Bg,show ¬ (((3:Nat):Int)<(x.2.2.2.length:Int)) by omega,decide_false,cond_false,Option.map_some]
    simp only [h,decide_true,decide_false,cond_true,cond_false,AC,Int.reduceEq,show Dm 16=false from rfl,Bool.not_false,Bool.true_or,Bool.true_and,Option.bind_some,hl,Bool.false_and]
    obtain⟨y0,y1,y2,hy⟩:=iU hl3
    simp only [hy,List.getElem_cons_zero,List.getElem_cons_succ,GG,NM]
    cases b<;>cases BJ p fn y0 nm<;>cases BJ p fn y1 nm<;>cases BJ p fn y2 nm<;>rfl
   ·rw [h] at hlen
    have hl2:x.2.2.2.length=2:=by have:kr 17=(2,2):=rfl;rw [this] at hlen;simp at hlen;omega
    have hb1:=ihB x.2.2.2[1] nm (b || !BJ p fn x.2.2.2[0] nm) (hkid _ (List.getElem_mem (by omega))).1 (NP (hfit 1 (by omega)) (.inr h) (by decide)) (by have:=hkid _ (List.getElem_mem (show 1<x.2.2.2.length by omega));omega) (by have:=hkid _ (List.getElem_mem (show 1<x.2.2.2.length by omega));omega)
    have hl:AH (Bg (An n).1 (An n).2.1) ((1:Int),(p,(fn,(nm,b || !BJ p fn x.2.2.2[0] nm))),x,())=some ((p,(fn,(nm,b || !BJ p fn x.2.2.2[0] nm || !BJ p fn x.2.2.2[1] nm))),()):=by
     rw [Bi (b':=(((2:Nat):Int),(p,(fn,(nm,b || !BJ p fn x.2.2.2[0] nm || !BJ p fn x.2.2.2[1] nm))),x,())) (by
      have a1:((1:Nat):Int)<(x.2.2.2.length:Int):=by omega
      have:=AY (α:=DQ ⊕ (gG×Unit)) (k:=1) (n:=x.2.2.2.length) (by omega) (K:=some (.inl (((2:Nat):Int),(p,(fn,(nm,b || !BJ p fn x.2.2.2[0] nm || !BJ p fn x.2.2.2[1] nm))),x,())))
      simp only [Bg,show(1:Int)<(x.2.2.2.length:Int) from a1,decide_true,cond_true,show rd x.2.2.2 (1:Int) (0:Int)=x.2.2.2[1] from Ad (k:=1) (by omega),hb1,Option.bind_some,Option.map_some]
      exact this)]
     refine BH ?_
     simp only [Bg,show ¬ (((2:Nat):Int)<(x.2.2.2.length:Int)) by omega,decide_false,cond_false,Option.map_some]
    simp only [h,decide_true,decide_false,cond_true,cond_false,AC,Int.reduceEq,show Dm 17=false from rfl,Bool.not_false,Bool.true_or,Bool.true_and,Option.bind_some,hl,Bool.false_and]
    obtain⟨y0,y1,hy⟩:=nc hl2
    simp only [hy,List.getElem_cons_zero,List.getElem_cons_succ,GG,NM]
    cases b<;>cases BJ p fn y0 nm<;>cases BJ p fn y1 nm<;>rfl
   ·have hu:Dm x.1=false:=by simp only [Dm,Bool.or_eq_false_iff,decide_eq_false_iff_not];omega
    obtain⟨y,hy⟩:=Xc (l:=x.2.2.2) (by
     rcases h with h | h<;>rw [h] at hlen
     ·have:kr 18=(1,1):=rfl;rw [this] at hlen;simp at hlen;omega
     ·have:kr 19=(1,1):=rfl;rw [this] at hlen;simp at hlen;omega)
    simp only [hy,one,hu]
    simp only [show ¬ x.1=13 by omega,show ¬ x.1=14 by omega,show ¬ x.1=15 by omega,show ¬ x.1=16 by omega,show ¬ x.1=17 by omega,decide_false,cond_false,AC,Bool.not_false,Bool.true_or,Bool.true_and,List.getElem_cons_zero,Bool.false_and,Bool.and_false]
theorem aL (p:PROG) (hp:FineP p) (fn:Int) (k:Int) (nm:List ByteArray) (b:Bool) (hd:(0:Int)<AU p.1 k) (h20:(rd p.1 k zN).1=20) (hnm:nm.length≤2000000):
 HS (p,(fn,(nm,b))) k=some ((p,(fn,(Pj p.1 k nm,b || !BJ p fn k nm))),()):=by
 have hk:=(Ay hd).1
 have hkn:=hp.n.len
 exact KW.2 ⟨k.toNat+1,fun n hn=>(gM p hp fn n).1 k nm b hd h20 (by omega) (by omega)⟩
end Go.Proofs.YtmakhmoielhjeaaGreatDoorE
namespace Go.Proofs.YtmakhmoielhjeaaGreatDoorE
set_option linter.all false
set_option maxRecDepth 100000
def LL (l:List VAR) (s:ByteArray):Int:=match l.findIdx? (fun v=>decide (v.1=s)) with
 | some i=>(i:Int)
 | none=>-1
theorem Co (l:List VAR) (hl:l.length≤2097152) (s:ByteArray):Cd l s=some (LL l s,()):=by
 have h:=Qk (step:=GN) l (fun v=>decide (v.1=s)) (fun k=>(l,s,(k:Int),())) (fun k=>.inr ((k:Int),())) (.inl ()) (fun k hk=>by
  simp only [GN,Au hk,decide_true,cond_true,AY hk,Ad hk,Ag (show k<9223372036854775807 by omega)]
  cases decide (l[k].1=s)<;>rfl) (by
  simp only [GN,Ab,decide_false,cond_false,Option.map_some])
 have h':AH GN (l,s,(0:Int),())=_:=h
 simp only [Cd,Option.bind_some,h',LL]
 cases l.findIdx? fun v=>decide (v.1=s)<;>rfl
def bW (l:List VAR) (k:Nat):Bool:=decide (LL l (rd l (k:Int) zV).1=(k:Int))
def Uh (l:List VAR):Bool:=(List.range l.length).all (bW l)
def Kg (x:FN):List ByteArray:=x.2.1.map fun a=>a.1
def nrF (p:PROG) (i:Nat):Bool:=Uh (Er p (i:Int)) && (BJ p (i:Int) (rd p.2 (i:Int) zF).2.2.2.1 (Kg (rd p.2 (i:Int) zF)) && (bif decide (0≤(rd p.2 (i:Int) zF).2.2.2.2) then BJ p (i:Int) (rd p.2 (i:Int) zF).2.2.2.2 (Pj p.1 (rd p.2 (i:Int) zF).2.2.2.1 (Kg (rd p.2 (i:Int) zF))) else true))
def Kz (p:PROG):Bool:=HK p && (List.range p.2.length).all (nrF p)
structure POK (p:PROG):Prop where
 n:AllN p.1
 f:Tv p=true
 l:p.1.length≤300
 m:p.2.length≤8
theorem Um {p:PROG} (h:HK p=true):POK p:=by
 simp only [HK,Bool.and_eq_true,decide_eq_true_eq] at h
 exact⟨Vm h.2.2.1,h.2.2.2.1,by omega,by omega⟩
theorem POK.deep {p:PROG} (h:POK p) {k:Int} (hk:0≤k∧k<(p.1.length:Int)):(0:Int)<AU p.1 k:=by
 obtain⟨m,rfl⟩:∃ m:Nat,k=(m:Int):=⟨k.toNat,by omega⟩
 have h1:=(h.n m (by omega)).2
 refine TT ?_
 unfold AU
 rw [decide_eq_true (by omega),cond_true]
 exact h1
structure FnIs (p:PROG) (i:Nat) (x:FN):Prop where
 par:x.2.1.length≤3
 bd:(0:Int)<AU p.1 x.2.2.2.1
 bk:(rd p.1 x.2.2.2.1 zN).1=20
 rt:0≤x.2.2.2.2→(0:Int)<AU p.1 x.2.2.2.2∧(rd p.1 x.2.2.2.2 zN).1≤12
 rm:-1≤x.2.2.2.2
theorem POK.fn {p:PROG} (h:POK p) {i:Nat} (hi:i<p.2.length):FnIs p i (rd p.2 (i:Int) zF):=by
 have h1:=List.all_eq_true.1 h.f i (by simpa using hi)
 simp only [NR,fnI,Bool.and_eq_true,decide_eq_true_eq,QZ] at h1
 obtain⟨⟨_,h2,_,_,⟨h3,h4⟩,h5⟩,_⟩:=h1
 refine⟨by omega,h.deep (by omega),h4,fun h6=>?_,?_⟩
 ·unfold Qr at h5
  by_cases hz:(rd p.2 (i:Int) zF).2.2.1=0
  ·rw [decide_eq_true hz,cond_true,decide_eq_true_eq] at h5
   omega
  ·rw [decide_eq_false hz,cond_false,Bool.and_eq_true,decide_eq_true_eq,decide_eq_true_eq] at h5
   exact⟨h.deep (by omega),by omega⟩
 ·unfold Qr at h5
  by_cases hz:(rd p.2 (i:Int) zF).2.2.1=0
  ·rw [decide_eq_true hz,cond_true,decide_eq_true_eq] at h5
   omega
  ·rw [decide_eq_false hz,cond_false,Bool.and_eq_true,decide_eq_true_eq,decide_eq_true_eq] at h5
   omega
theorem Xh (p:PROG) (hp:FineP p) (i:Int) (l:List VAR) (hl:l.length≤2097152):AH DC (i,l,(0:Int),p,())=some (bif Uh l then .inl (i,p,()) else .inr (.inr (.inr (.inr (false,()))))):=by
 have h:=Bn (step:=DC) (List.range l.length) (bW l) (fun k=>(i,l,(k:Int),p,())) (.inl (i,p,())) (.inr (.inr (.inr (.inr (false,()))))) (fun k hk=>by
  have hk':k<l.length:=by simpa using hk
  simp only [DC,Au hk',decide_true,cond_true,AY hk',Co l hl,Option.bind_some,List.getElem_range,bW,Ag (show k<9223372036854775807 by omega)]
  by_cases hc:LL l (rd l (k:Int) zV).1=(k:Int)
  ·simp only [hc,ne_eq,not_true_eq_false,decide_false,decide_true,cond_false,cond_true,Option.map_some]
  ·simp only [hc,ne_eq,not_false_eq_true,decide_false,decide_true,cond_false,cond_true,Option.map_some]) (by
  simp only [DC,List.length_range,Ab,decide_false,cond_false,Option.map_some])
 exact h
theorem Xi (p:PROG) (i:Nat) (hi:i<p.2.length) (x:FN) (hx:rd p.2 (i:Int) zF=x) (hl:x.2.1.length≤1048576):AH DD ((i:Int),(0:Int),p,(p,((i:Int),([],false))),())=some ((i:Int),p,(p,((i:Int),(Kg x,false))),()):=by
 have h:=NZ (step:=DD) x.2.1 (fun a=>a.1) (fun k o=>((i:Int),(k:Int),p,(p,((i:Int),(o,false))),())) (fun o=>((i:Int),p,(p,((i:Int),(o,false))),())) (fun k hk o ho=>by
  simp only [DD,AY hi,hx,Au hk,decide_true,cond_true,AY hk,Ad hk]
  rw [Bx (by simp;omega)]
  simp only [Option.map_some,Ag (show k<9223372036854775807 by omega)]) (fun o ho=>by
  simp only [DD,AY hi,hx,Ab,decide_false,cond_false,Option.map_some])
 exact h
theorem bZ (x:FN):(Kg x).length=x.2.1.length:=by simp [Kg]
theorem TI (p:PROG) (hp:FineP p):Gq p=some (Kz p,()):=by
 unfold Gq Kz
 rw [Oc p hp,Option.bind_some]
 cases hok:HK p
 ·simp only [Bool.not_false,cond_true,Bool.false_and]
 have P:=Um hok
 have hn:=P.m
 have hnn:=P.l
 have h:=Bn (step:=DE) (List.range p.2.length) (nrF p) (fun i=>((i:Int),p,())) (.inl ()) (.inr (false,())) (fun i hi=>by
  have hi':i<p.2.length:=by simpa using hi
  have F:=P.fn hi'
  simp only [DE,Au hi',decide_true,cond_true,Od p hp,Option.bind_some,Xh p hp (i:Int) _ (VO hp _),List.getElem_range,nrF]
  cases Uh (Er p (i:Int))
  ·simp only [cond_false,Bool.false_and,Bd]
  ·generalize hx:rd p.2 (i:Int) zF=x at F ⊢
   have hpl:=bZ x
   have hpar:=F.par
   have hpS:=Xi p i hi' x hx (by omega)
   have hbl:=aL p hp (i:Int) x.2.2.2.1 (Kg x) false F.bd F.bk (by omega)
   simp only [cond_true,Bc,hpS,AC,AY hi',hx,hbl,Option.bind_some,Bool.false_or,Bool.true_and]
   by_cases hr:0≤x.2.2.2.2
   ·obtain⟨r1,r2⟩:=F.rt hr
    have hel:=UQ p.1 (rd p.1 x.2.2.2.1 zN).2.2.2 (Kg x)
    have htw:=Eh (Ay F.bd).2.1
    have hv:=VN p hp (i:Int) x.2.2.2.2 (Pj p.1 x.2.2.2.1 (Kg x)) (!BJ p (i:Int) x.2.2.2.1 (Kg x)) r1 r2 (by unfold Pj;omega)
    simp only [hr,decide_true,cond_true,hv,Option.bind_some,AC]
    cases BJ p (i:Int) x.2.2.2.1 (Kg x)<;>cases BJ p (i:Int) x.2.2.2.2 (Pj p.1 x.2.2.2.1 (Kg x))<;>simp only [Bool.not_true,Bool.not_false,Bool.or_false,Bool.or_true,Bool.true_or,Bool.false_or,Bool.true_and,Bool.false_and,cond_true,cond_false,Option.map_some,Bd,Bc,Ag (show i<9223372036854775807 by omega)]
   ·simp only [hr,decide_false,cond_false,AC]
    cases BJ p (i:Int) x.2.2.2.1 (Kg x)<;>simp only [Bool.not_true,Bool.not_false,Bool.and_true,Bool.true_and,Bool.false_and,cond_true,cond_false,Option.map_some,Bd,Bc,Ag (show i<9223372036854775807 by omega)]) (by
  simp only [DE,List.length_range,Ab,decide_false,cond_false,Option.map_some])
 have h':AH DE ((0:Int),p,())=_:=h
 simp only [Bool.not_true,cond_false,Option.bind_some,h',Bool.true_and]
 cases (List.range p.2.length).all (nrF p)<;>rfl
end Go.Proofs.YtmakhmoielhjeaaGreatDoorE
namespace Go.Proofs.YtmakhmoielhjeaaGreatDoorE
set_option linter.all false
set_option maxRecDepth 100000
section
variable {α β γ:Type} {Q:α→Prop}
theorem LM {b:Bool} {x y x' y':Option β} {k k':β→Option α} (h1:b=true→wq (AB x k) (AB x' k') Q) (h2:b=false→wq (AB y k) (AB y' k') Q):wq (AB (bif b then x else y) k) (AB (bif b then x' else y') k') Q:=by
 cases b
 ·exact h2 rfl
 ·exact h1 rfl
theorem GL {a:β} {k k':β→Option α} (h:wq (k a) (k' a) Q):wq (AB (some a) k) (AB (some a) k') Q:=h
theorem RG {x x':Option γ} {f f':γ→Option β} {k k':β→Option α} (h:wq x x' fun a=>wq (AB (f a) k) (AB (f' a) k') Q):wq (AB (x.bind f) k) (AB (x'.bind f') k') Q:=by
 obtain⟨r,rfl,rfl,h2⟩:=h;exact h2
theorem RH {c:Cnd} {x x':Option β} {k k':β→Option α} (hc:c.holds) (h:wq (AB x k) (AB x' k') Q):wq (AB (c.run x) k) (AB (c.run x') k') Q:=by
 have e:∀ y:Option β,c.run y=y:=fun y=>by
  cases y with
  | none=>
   have key:∀ (c:Cnd),c.run (none:Option β)=none:=by
    intro c
    induction c with
    | tt=>rfl
    | idx n len=>simp only [Cnd.run];split<;>rfl
    | nz b=>simp only [Cnd.run];split<;>rfl
    | nn b=>simp only [Cnd.run];split<;>rfl
    | cut lo hi len=>simp only [Cnd.run];split<;>rfl
    | le a b=>simp only [Cnd.run];split<;>rfl
    | both a b iha ihb=>simp only [Cnd.run];rw [ihb,iha]
   exact key c
  | some v=>
   obtain⟨r,h1,h2⟩:=AL (c:=c) (K:=some v) (Q:=fun r=>r=v) hc (AA rfl)
   rw [h1,h2]
 rw [e,e];exact h
theorem Mc {x x':Option (β ⊕ α)} {k k':β→Option α} (h:wq x x' fun _=>True) (hk:∀ b,wq (k b) (k' b) fun _=>True):wq (BA x k) (BA x' k') fun _=>True:=by
 obtain⟨s,rfl,rfl,_⟩:=h
 cases s with
 | inl b=>exact hk b
 | inr r=>exact⟨r,rfl,rfl,trivial⟩
theorem BT {x x':Option β} {f:β→α} (h:wq x x' fun _=>True):wq (x.map f) (x'.map f) fun _=>True:=by
 obtain⟨r,rfl,rfl,_⟩:=h;exact⟨f r,rfl,rfl,trivial⟩
theorem PF {x x':Option β} {k k':β→Option α} (h:wq x x' fun _=>True) (hk:∀ b,wq (k b) (k' b) fun _=>True):wq (x.bind k) (x'.bind k') fun _=>True:=by
 obtain⟨r,rfl,rfl,_⟩:=h;exact hk r
theorem BS {r:α}:wq (some r) (some r) fun _=>True:=⟨r,rfl,rfl,trivial⟩
end
theorem Cf {α:Type} {t:Ty} {x:t.D} {k:t.D→Option α} {Q:α→Prop} (h:wp (k x) Q):wp (Av x k) Q:=h
theorem QU {α:Type} {t:Ty} {x:t.D} {k k':t.D→Option α} {Q:α→Prop} (h:wq (k x) (k' x) Q):wq (Av x k) (Av x k') Q:=h
theorem BG {n:Int} {m:Nat} (h0:0≤n) (h1:n<(m:Int)):(Cnd.idx n m).holds:=by
 exact⟨h0,h1⟩
def gF (l:List VAR) (s:ByteArray):Prop:=s∈l.map fun v=>v.1
theorem TD (l:List VAR) (s:ByteArray):-1≤LL l s∧LL l s<(l.length:Int):=by
 unfold LL
 split
 next i h=>have:=(List.findIdx?_eq_some_iff_getElem.1 h).1;omega
 next=>omega
theorem ZS {l:List VAR} {s:ByteArray} (h:gF l s):0≤LL l s:=by
 unfold LL
 split
 ·omega
 next hn=>
  rw [List.findIdx?_eq_none_iff] at hn
  obtain⟨v,hv,he⟩:=List.mem_map.1 h
  have:=hn v hv
  simp [he] at this
theorem TU {l:List NODE} {k:Int} (h:(0:Int)<AU l k) {i:Int} (h0:0≤i) (h1:i<((rd l k zN).2.2.2.length:Int)):(0:Int)<AU l (rd (rd l k zN).2.2.2 i 0)∧(0≤rd (rd l k zN).2.2.2 i 0∧rd (rd l k zN).2.2.2 i 0<k)∧Ke (rd l k zN).1 i (rd l (rd (rd l k zN).2.2.2 i 0) zN).1=true:=by
 obtain⟨m,rfl⟩:∃ m:Nat,i=(m:Int):=⟨i.toNat,by omega⟩
 have hm:m<(rd l k zN).2.2.2.length:=by omega
 rw [Ad hm]
 exact⟨(DR h (List.getElem_mem hm)).1,(DR h (List.getElem_mem hm)).2,Ox (Ay h).2.1 hm⟩
theorem ZT (l:List VAR) (hl:l.length≤2097152) (s:ByteArray):wp (IJ l s) fun _=>True:=by
 unfold IJ
 rw [Co l hl]
 have hr:=TD l s
 refine AF (AA (AM (fun _=>AA trivial) fun hb=>AL (BG ?_ hr.2) (AA trivial)))
 simpa using hb
abbrev FT:=PROG→List VAR→Int→Option (Int×Unit)
abbrev FB:=PROG→List VAR→Int→Option (Bool×Unit)
abbrev FG:=PROG→List VAR→Int→Option (FN×Bool×Unit)
section
variable {p:PROG} (hp:FineP p) {l:List VAR} (hl:l.length≤2097152)
theorem VP {k:Int} (h:(0:Int)<AU p.1 k) (h12:(rd p.1 k zN).1≤12) {i:Int} (h0:0≤i) (h1:i<((rd p.1 k zN).2.2.2.length:Int)):(0:Int)<AU p.1 (rd (rd p.1 k zN).2.2.2 i 0)∧(0≤rd (rd p.1 k zN).2.2.2 i 0∧rd (rd p.1 k zN).2.2.2 i 0<k)∧(rd p.1 (rd (rd p.1 k zN).2.2.2 i 0) zN).1≤12:=by
 obtain⟨a,b,c⟩:=TU h h0 h1
 obtain⟨m,rfl⟩:∃ m:Nat,i=(m:Int):=⟨i.toNat,by omega⟩
 exact⟨a,b,(NQ c (by omega) (by omega)).2⟩
theorem kr1 {k:Int} (h:(0:Int)<AU p.1 k) {K:Int} (hK:(rd p.1 k zN).1=K):(kr K).1≤((rd p.1 k zN).2.2.2.length:Int)∧((rd p.1 k zN).2.2.2.length:Int)≤(kr K).2:=by
 have:=Ui (Ay h).2.1
 rwa [hK] at this
theorem jj {r0 r0':FT} {r1 r1':FB} {r2 r2':FG} (k:Int) (h:(0:Int)<AU p.1 k) (hk:9≤(rd p.1 k zN).1∧(rd p.1 k zN).1≤11) (H:∀ y,(0:Int)<AU p.1 y→(rd p.1 y zN).1≤12→0≤y∧y<k→wq (r0 p l y) (r0' p l y) fun _=>True):wq (IT r0 r1 r2 p l k) (IT r0' r1' r2' p l k) fun _=>True:=by
 unfold IT
 have hkr:=Ay h
 have hlen:(2:Int)≤((rd p.1 k zN).2.2.2.length:Int):=by
  have h9:(rd p.1 k zN).1=9∨(rd p.1 k zN).1=10∨(rd p.1 k zN).1=11:=by omega
  rcases h9 with e | e | e<;>exact(kr1 h e).1
 have g0:=VP h (by omega) (i:=0) (by omega) (by omega)
 have g1:=VP h (by omega) (i:=1) (by omega) (by omega)
 have i0:(0:Int)<((rd p.1 k zN).2.2.2.length:Int):=by omega
 have i1:(1:Int)<((rd p.1 k zN).2.2.2.length:Int):=by omega
 refine Ar (BG hkr.1.1 hkr.1.2) (RH (BG (by omega) i0) (RG (AG (H _ g0.1 g0.2.2 g0.2.1) fun _ _=>LM (fun _=>RH (BG (by omega) i1) (RG (AG (H _ g1.1 g1.2.2 g1.2.1) fun _ _=>GL BS))) fun _=>GL BS)))
include hp in
theorem cR {r0 r0':FT} {r1 r1':FB} {r2 r2':FG} (k:Int) (h:(0:Int)<AU p.1 k) (hk:(rd p.1 k zN).1≤12) (H:∀ y,(0:Int)<AU p.1 y→(rd p.1 y zN).1≤12→0≤y∧y<k→wq (r0 p l y) (r0' p l y) fun _=>True):wq (IR r0 r1 r2 p l k) (IR r0' r1' r2' p l k) fun _=>True:=by
 unfold IR
 have hkr:=Ay h
 have hlt:=Vv (l:=p.2) (s:=(rd p.1 k zN).2.2.1)
 have h12:=Eh hkr.2.1
 refine Ar (BG hkr.1.1 hkr.1.2) ?_
 rw [Li p hp]
 refine AK (AJ (BE (AG (Q:=fun x:List VAR×Int×Bool×PROG×FN×NODE×Unit=>x.1=l∧x.2.2.2.1=p∧x.2.2.2.2.2.1=rd p.1 k zN∧(x.2.2.1=false→0≤x.2.1∧x.2.1<(p.2.length:Int)∧(rd p.2 x.2.1 zF).2.1.length=(rd p.1 k zN).2.2.2.length)) ?_ fun x hx=>?_)))
 ·refine Ae (fun _=>AJ ⟨rfl,rfl,rfl,fun h=>by cases h⟩) fun hb=>Ar (BG (by simpa using hb) hlt) (AJ ⟨rfl,rfl,rfl,fun h=>⟨by simpa using hb,hlt,?_⟩⟩)
  have h2:=of_decide_eq_false h
  exact Int.ofNat_inj.1 (Classical.not_not.1 h2)
 ·obtain⟨x1,x2,x3,x4,x5,x6,_⟩:=x
  simp only at hx ⊢
  obtain⟨e1,e2,e3,hx⟩:=hx
  subst e1 e2 e3
  refine Ae (fun _=>BS) fun hb=>?_
  obtain⟨a1,a2,a3⟩:=hx hb
  refine cF (AK (AJ (AG (Ix (fun x:JC=>x.1=x1∧x.2.1=x2∧0≤x.2.2.1∧x.2.2.2.1=x4∧x.2.2.2.2.2.1=rd x4.1 k zN) (fun x=>((rd x4.1 k zN).2.2.2.length - x.2.2.1).toNat) (Q:=fun s:(Int×PROG×FN×Unit) ⊕ (FN×Bool×Unit)=>∀ b,s=.inl b→b.1=x2∧b.2.1=x4) (fun x hx=>?_) ⟨rfl,rfl,by simp,rfl,rfl⟩) fun s hs=>⟨fun b hb=>?_,fun _ _=>trivial⟩)))
  ·obtain⟨b1,b2,b3,b4,b5,b6,_⟩:=x
   simp only at hx
   obtain⟨e1,e2,b30,e4,e5⟩:=hx
   subst e1 e2 e4 e5
   unfold Mn
   simp only
   refine Ae (fun hi=>?_) fun hi=>CB (CB (AJ (Ak fun b hb=>?_)))
   ·have hi':=of_decide_eq_true hi
    have g0:=VP h hk (i:=b3) (by omega) (by omega)
    have i2:b3<(((rd b4.2 b2 zF).2.1.length:Nat):Int):=by omega
    refine Ar (BG b30 hi') (AK (AG (H _ g0.1 g0.2.2 g0.2.1) fun y _=>Ar (BG a1 a2) (Ar (BG b30 i2) (Ae (fun _=>CB (CB (AJ (Ak fun b hb=>by cases hb)))) fun _=>CB (AJ (Al ?_))))))
    rw [Af (by omega) (by omega)]
    exact⟨⟨rfl,rfl,by simp only;omega,rfl,rfl⟩,by simp only;omega⟩
   ·cases hb
    exact⟨rfl,rfl⟩
  ·obtain⟨f1,f2⟩:=hs b hb
   refine Ar (BG ?_ ?_) BS
   ·rw [f1];exact a1
   ·rw [f1,f2];exact a2
include hl in
theorem jE {r0 r0':FT} {r1 r1':FB} {r2 r2':FG} (k:Int) (h:(0:Int)<AU p.1 k) (hk:(rd p.1 k zN).1≤12) (H:∀ y,(0:Int)<AU p.1 y→(rd p.1 y zN).1≤12→0≤y∧y<k→wq (r0 p l y) (r0' p l y) fun _=>True) (H1:9≤(rd p.1 k zN).1∧(rd p.1 k zN).1≤11→wq (r1 p l k) (r1' p l k) fun _=>True) (H2:wq (r2 p l k) (r2' p l k) fun _=>True):wq (Hc r0 r1 r2 p l k) (Hc r0' r1' r2' p l k) fun _=>True:=by
 unfold Hc
 have hkr:=Ay h
 refine Ar (BG hkr.1.1 hkr.1.2) (AK (AG (Ah (ZT l hl _)) fun y1 _=>BE (AG (Q:=fun x:List VAR×Int×Int×Bool×PROG×NODE×Unit=>x.1=l∧x.2.1=k∧x.2.2.2.2.1=p∧x.2.2.2.2.2.1=rd p.1 k zN) (Ae (fun _=>AJ ⟨rfl,rfl,rfl,rfl⟩) fun _=>Ae (fun _=>AJ ⟨rfl,rfl,rfl,rfl⟩) fun _=>AJ ⟨rfl,rfl,rfl,rfl⟩) fun x hx=>?_)))
 obtain⟨x1,x2,x3,x4,x5,x6,_⟩:=x
 simp only at hx ⊢
 obtain⟨e1,e2,e3,e4⟩:=hx
 subst e1 e2 e3 e4
 refine BE (AG (Q:=fun x:List VAR×Int×Int×Bool×Int×Bool×PROG×NODE×Unit=>x.1=x1∧x.2.1=x2∧x.2.2.2.2.1=(rd x5.1 x2 zN).1∧x.2.2.2.2.2.2.1=x5∧x.2.2.2.2.2.2.2.1=rd x5.1 x2 zN) (Ae (fun _=>AJ ⟨rfl,rfl,rfl,rfl,rfl⟩) fun _=>AJ ⟨rfl,rfl,rfl,rfl,rfl⟩) fun x hx=>?_)
 obtain⟨z1,z2,z3,z4,z5,z6,z7,z8,_⟩:=x
 simp only at hx ⊢
 obtain⟨e1,e2,e3,e4,e5⟩:=hx
 subst e1 e2 e3 e4 e5
 refine Ae (fun _=>BS) fun _=>Ae (fun _=>BS) fun _=>Mc (Ae (fun _=>Ae (fun _=>BT BS) fun _=>BT BS) fun _=>?_) fun _=>BS
 refine Mc (Ae (fun _=>Ae (fun _=>BT (BT BS)) fun _=>BT BS) fun _=>?_) fun _=>BT BS
 refine Mc (Ae (fun _=>Ae (fun _=>BT (BT (BT BS))) fun _=>BT BS) fun _=>?_) fun _=>BT BS
 refine Mc (Ae (fun _=>Ae (fun _=>BT (BT (BT (BT BS)))) fun _=>BT BS) fun _=>?_) fun _=>BT BS
 refine Mc (Ae (fun hb=>?_) fun _=>?_) fun _=>BT BS
 ·have hb':=of_decide_eq_true hb
  have hlen:=(kr1 h hb').1
  have e8:(kr 8).1=1:=by decide
  have g0:=VP h hk (i:=0) (by omega) (by omega)
  refine Ar (BG (by omega) (by omega)) (PF (H _ g0.1 g0.2.2 g0.2.1) fun _=>Ae (fun _=>BT (BT (BT (BT (BT BS))))) fun _=>BT BS)
 ·refine BE (AG (Q:=fun x:List VAR×Int×Int×Bool×PROG×Unit=>x.1=z1∧x.2.1=z2∧x.2.2.2.2.1=z7∧(x.2.2.2.1=true→9≤(rd z7.1 z2 zN).1∧(rd z7.1 z2 zN).1≤11)) ?_ fun x hx=>?_)
  ·refine Ae (fun hb=>?_) fun _=>LM (fun hb=>?_) fun _=>?_
   ·exact AJ ⟨rfl,rfl,rfl,fun _=>by have:=of_decide_eq_true hb;omega⟩
   ·exact GL (AJ ⟨rfl,rfl,rfl,fun _=>by have:=of_decide_eq_true hb;omega⟩)
   ·exact GL (AJ ⟨rfl,rfl,rfl,fun hb=>by have:=of_decide_eq_true hb;omega⟩)
  ·obtain⟨w1,w2,w3,w4,w5,_⟩:=x
   simp only at hx ⊢
   obtain⟨e1,e2,e3,hx⟩:=hx
   subst e1 e2 e3
   exact Mc (Ae (fun hb=>PF (H1 (hx hb)) fun _=>Ae (fun _=>BT (BT (BT (BT (BT (BT BS)))))) fun _=>BT BS) fun _=>Mc (Ae (fun _=>PF H2 fun _=>Ae (fun _=>BT (BT (BT (BT (BT (BT (BT BS))))))) fun _=>BT BS) fun _=>BT BS) fun _=>BT BS) fun _=>BT BS
end
end Go.Proofs.YtmakhmoielhjeaaGreatDoorE
namespace Go.Proofs.YtmakhmoielhjeaaGreatDoorE
set_option linter.all false
set_option maxRecDepth 100000
section
variable {p:PROG} (hp:FineP p) {l:List VAR} (hl:l.length≤2097152)
include hp hl
theorem ZP:∀ m:Nat,∀ n n' k,(0:Int)<AU p.1 k→(rd p.1 k zN).1≤12→k.toNat<m→2 * k.toNat+2≤n→2 * k.toNat+2≤n'→wq ((Aa n).1 p l k) ((Aa n').1 p l k) fun _=>True:=by
 intro m
 induction m with
 | zero=>intro n n' k _ _ h;omega
 | succ m ih=>
  intro n n' k h hk hm hn hn'
  have H:∀ j j',2 * k.toNat≤j→2 * k.toNat≤j'→∀ y,(0:Int)<AU p.1 y→(rd p.1 y zN).1≤12→0≤y∧y<k→wq ((Aa j).1 p l y) ((Aa j').1 p l y) fun _=>True:=
   fun j j' hj hj' y hy h12 hyk=>ih j j' y hy h12 (by omega) (by omega) (by omega)
  obtain⟨n,rfl⟩:∃ j,n=j+1:=⟨n - 1,by omega⟩
  obtain⟨n',rfl⟩:∃ j,n'=j+1:=⟨n' - 1,by omega⟩
  have T:9≤(rd p.1 k zN).1∧(rd p.1 k zN).1≤11→wq ((Aa n).2.1 p l k) ((Aa n').2.1 p l k) fun _=>True:=fun h9=>by
   obtain⟨n,rfl⟩:∃ j,n=j+1:=⟨n - 1,by omega⟩
   obtain⟨n',rfl⟩:∃ j,n'=j+1:=⟨n' - 1,by omega⟩
   exact jj (r0:=(Aa n).1) (r0':=(Aa n').1) (r1:=(Aa n).2.1) (r1':=(Aa n').2.1) (r2:=(Aa n).2.2.1) (r2':=(Aa n').2.2.1) k h h9 (H n n' (by omega) (by omega))
  have G:wq ((Aa n).2.2.1 p l k) ((Aa n').2.2.1 p l k) fun _=>True:=by
   obtain⟨n,rfl⟩:∃ j,n=j+1:=⟨n - 1,by omega⟩
   obtain⟨n',rfl⟩:∃ j,n'=j+1:=⟨n' - 1,by omega⟩
   exact cR hp (r0:=(Aa n).1) (r0':=(Aa n').1) (r1:=(Aa n).2.1) (r1':=(Aa n').2.1) (r2:=(Aa n).2.2.1) (r2':=(Aa n').2.2.1) k h hk (H n n' (by omega) (by omega))
  exact jE hl (r0:=(Aa n).1) (r0':=(Aa n').1) (r1:=(Aa n).2.1) (r1':=(Aa n').2.1) (r2:=(Aa n).2.2.1) (r2':=(Aa n').2.2.1) k h hk (H n n' (by omega) (by omega)) T G
theorem PC (k:Int) (h:(0:Int)<AU p.1 k) (hk:(rd p.1 k zN).1≤12):wp (EF p l k) fun _=>True:=by
 unfold EF
 exact Kc (2 * k.toNat+2) fun n hn=>ZP hp hl _ n _ k h hk (Nat.lt_succ_self _) hn (Nat.le_refl _)
theorem iz (k:Int) (h:(0:Int)<AU p.1 k) (hk:(rd p.1 k zN).1≤12):wp (KI p l k) fun _=>True:=by
 unfold KI
 refine Kc (2 * k.toNat+1) fun n hn=>?_
 obtain⟨n,rfl⟩:∃ j,n=j+1:=⟨n - 1,by omega⟩
 exact cR hp (r0:=(Aa n).1) (r0':=(Aa (2 * k.toNat)).1) (r1:=(Aa n).2.1) (r1':=(Aa (2 * k.toNat)).2.1) (r2:=(Aa n).2.2.1) (r2':=(Aa (2 * k.toNat)).2.2.1) k h hk fun y hy h12 hyk=>ZP hp hl _ n _ y hy h12 (Nat.lt_succ_self _) (by omega) (by omega)
end
section
variable {p:PROG} (hp:FineP p) {l:List VAR} (hl:l.length≤2097152)
theorem bm {k:Int} (h:(0:Int)<AU p.1 k) (h13:13≤(rd p.1 k zN).1) (h19:(rd p.1 k zN).1≤19):(0:Int)<((rd p.1 k zN).2.2.2.length:Int)∧(0:Int)<AU p.1 (rd (rd p.1 k zN).2.2.2 0 0)∧(0≤rd (rd p.1 k zN).2.2.2 0 0∧rd (rd p.1 k zN).2.2.2 0 0<k)∧(rd p.1 (rd (rd p.1 k zN).2.2.2 0 0) zN).1≤12:=by
 have hlen:(0:Int)<((rd p.1 k zN).2.2.2.length:Int):=by
  have e:(rd p.1 k zN).1=13∨(rd p.1 k zN).1=14∨(rd p.1 k zN).1=15∨(rd p.1 k zN).1=16∨(rd p.1 k zN).1=17∨(rd p.1 k zN).1=18∨(rd p.1 k zN).1=19:=by omega
  rcases e with e | e | e | e | e | e | e<;>exact Int.lt_of_lt_of_le (by decide) (kr1 h e).1
 obtain⟨a,b,c⟩:=TU h (i:=0) (by omega) hlen
 exact⟨hlen,a,b,(NQ (i:=0) c (by omega) (by omega)).2⟩
theorem Ry {k:Int} (h:(0:Int)<AU p.1 k) (h16:(rd p.1 k zN).1=16∨(rd p.1 k zN).1=17) {i:Int} (h0:0<i) (hi:i≤(kr (rd p.1 k zN).1).1 - 1):i<((rd p.1 k zN).2.2.2.length:Int)∧(0:Int)<AU p.1 (rd (rd p.1 k zN).2.2.2 i 0)∧(0≤rd (rd p.1 k zN).2.2.2 i 0∧rd (rd p.1 k zN).2.2.2 i 0<k)∧(rd p.1 (rd (rd p.1 k zN).2.2.2 i 0) zN).1=20:=by
 have hlen:i<((rd p.1 k zN).2.2.2.length:Int):=by
  have:=(kr1 h rfl).1
  omega
 obtain⟨a,b,c⟩:=TU h (i:=i) (by omega) hlen
 obtain⟨m,rfl⟩:∃ m:Nat,i=(m:Int):=⟨i.toNat,by omega⟩
 exact⟨hlen,a,b,NP c h16 (by omega)⟩
theorem gK {k:Int} (h:(0:Int)<AU p.1 k) (h20:(rd p.1 k zN).1=20) {i:Int} (h0:0≤i) (hi:i<((rd p.1 k zN).2.2.2.length:Int)):(0:Int)<AU p.1 (rd (rd p.1 k zN).2.2.2 i 0)∧(0≤rd (rd p.1 k zN).2.2.2 i 0∧rd (rd p.1 k zN).2.2.2 i 0<k)∧13≤(rd p.1 (rd (rd p.1 k zN).2.2.2 i 0) zN).1∧(rd p.1 (rd (rd p.1 k zN).2.2.2 i 0) zN).1≤19:=by
 obtain⟨a,b,c⟩:=TU h h0 hi
 obtain⟨m,rfl⟩:∃ m:Nat,i=(m:Int):=⟨i.toNat,by omega⟩
 exact⟨a,b,SY c h20⟩
theorem jL {r0 r0' r1 r1':FB} (k:Int) (h:(0:Int)<AU p.1 k) (h20:(rd p.1 k zN).1=20) (H:∀ y,(0:Int)<AU p.1 y→13≤(rd p.1 y zN).1∧(rd p.1 y zN).1≤19→0≤y∧y<k→wq (r1 p l y) (r1' p l y) fun _=>True):wq (Gw r0 r1 p l k) (Gw r0' r1' p l k) fun _=>True:=by
 unfold Gw
 have hkr:=Ay h
 have h12:=Eh hkr.2.1
 refine Mc (AK (AJ (Ix (fun x:Hm=>x.1=l∧x.2.1=k∧0≤x.2.2.1∧x.2.2.2.1=p) (fun x=>((rd p.1 k zN).2.2.2.length - x.2.2.1).toNat) (fun x hx=>?_) ⟨rfl,rfl,by simp,rfl⟩))) fun _=>BS
 obtain⟨b1,b2,b3,b4,_⟩:=x
 simp only at hx
 obtain⟨e1,e2,b30,e4⟩:=hx
 subst e1 e2 e4
 unfold LT
 simp only
 refine Ar (BG hkr.1.1 hkr.1.2) (Ae (fun hi=>?_) fun hi=>CB (CB (AJ (Ak trivial))))
 have hi':b3<((rd b4.1 b2 zN).2.2.2.length:Int):=of_decide_eq_true hi
 have g0:=gK h h20 b30 hi'
 refine Ar (BG hkr.1.1 hkr.1.2) (Ar (BG b30 hi') (AK (AG (H _ g0.1 g0.2.2 g0.2.1) fun y _=>Ae (fun _=>CB (CB (AJ (Ak trivial)))) fun _=>CB (AJ (Al ?_)))))
 rw [Af (by omega) (by omega)]
 exact⟨⟨rfl,rfl,by simp only;omega,rfl⟩,by simp only;omega⟩
include hp hl in
theorem ji {r0 r0' r1 r1':FB} (k:Int) (h:(0:Int)<AU p.1 k) (h13:13≤(rd p.1 k zN).1∧(rd p.1 k zN).1≤19) (H:∀ y,(0:Int)<AU p.1 y→(rd p.1 y zN).1=20→0≤y∧y<k→wq (r0 p l y) (r0' p l y) fun _=>True):wq (Hb r0 r1 p l k) (Hb r0' r1' p l k) fun _=>True:=by
 unfold Hb
 have hkr:=Ay h
 have g:=bm h h13.1 h13.2
 refine Ar (BG hkr.1.1 hkr.1.2) (Ae (fun _=>Ar (BG (by omega) g.1) (PF (Ah (iz hp hl _ g.2.1 g.2.2.2)) fun _=>BS)) fun _=>Ar (BG (by omega) g.1) (PF (Ah (PC hp hl _ g.2.1 g.2.2.2)) fun _=>PF (Ah (ZT l hl _)) fun _=>?_))
 refine Ae (fun _=>BS) fun _=>Ae (fun _=>?_) fun _=>Ae (fun _=>?_) fun _=>Ae (fun e=>?_) fun _=>Ae (fun e=>?_) fun _=>BS
 ·exact LM (fun _=>LM (fun _=>GL BS) fun _=>GL BS) fun _=>GL BS
 ·exact LM (fun _=>LM (fun _=>GL BS) fun _=>GL BS) fun _=>GL BS
 ·have e':(rd p.1 k zN).1=16:=of_decide_eq_true e
  have i1:=Ry h (.inl e') (i:=1) (by omega) (by rw [e'];decide)
  have i2:=Ry h (.inl e') (i:=2) (by omega) (by rw [e'];decide)
  exact LM (fun _=>RH (BG (by omega) i1.1) (RG (AG (H _ i1.2.1 i1.2.2.2 i1.2.2.1) fun _ _=>LM (fun _=>RH (BG (by omega) i2.1) (RG (AG (H _ i2.2.1 i2.2.2.2 i2.2.2.1) fun _ _=>GL BS))) fun _=>GL BS))) fun _=>GL BS
 ·have e':(rd p.1 k zN).1=17:=of_decide_eq_true e
  have i1:=Ry h (.inr e') (i:=1) (by omega) (by rw [e'];decide)
  exact LM (fun _=>RH (BG (by omega) i1.1) (RG (AG (H _ i1.2.1 i1.2.2.2 i1.2.2.1) fun _ _=>GL BS))) fun _=>GL BS
include hp hl in
theorem jK:∀ m:Nat,∀ n n' k,(0:Int)<AU p.1 k→(rd p.1 k zN).1=20→k.toNat<m→2 * k.toNat+1≤n→2 * k.toNat+1≤n'→wq ((BO n).1 p l k) ((BO n').1 p l k) fun _=>True:=by
 intro m
 induction m with
 | zero=>intro n n' k _ _ h;omega
 | succ m ih=>
  intro n n' k h hk hm hn hn'
  obtain⟨n,rfl⟩:∃ j,n=j+1:=⟨n - 1,by omega⟩
  obtain⟨n',rfl⟩:∃ j,n'=j+1:=⟨n' - 1,by omega⟩
  refine jL (r0:=(BO n).1) (r0':=(BO n').1) (r1:=(BO n).2.1) (r1':=(BO n').2.1) k h hk fun y hy h13 hyk=>?_
  obtain⟨n,rfl⟩:∃ j,n=j+1:=⟨n - 1,by omega⟩
  obtain⟨n',rfl⟩:∃ j,n'=j+1:=⟨n' - 1,by omega⟩
  exact ji hp hl (r0:=(BO n).1) (r0':=(BO n').1) (r1:=(BO n).2.1) (r1':=(BO n').2.1) y hy h13 fun z hz h20 hzy=>ih n n' z hz h20 (by omega) (by omega) (by omega)
include hp hl in
theorem gL (k:Int) (h:(0:Int)<AU p.1 k) (hk:(rd p.1 k zN).1=20):wp (IQ p l k) fun _=>True:=by
 unfold IQ
 exact Kc (2 * k.toNat+1) fun n hn=>jK hp hl _ n _ k h hk (Nat.lt_succ_self _) hn (Nat.le_refl _)
end
def FC (l:List VAR):List ByteArray:=l.map fun v=>v.1
theorem Yr {l:List VAR} {i:Nat} (h:i<l.length) (t:Int×Int):FC (l.set i (l[i].1,t))=FC l:=by
 unfold FC
 rw [List.map_set]
 apply List.ext_getElem (by simp)
 intro k h1 h2
 rw [List.getElem_set]
 split
 ·next e=>subst e;simp
 ·rfl
def aH (p:PROG) (l:List VAR):Prop:=∀ v∈l,0≤(v:VAR).2.2→(0:Int)<AU p.1 v.2.2∧(rd p.1 v.2.2 zN).1=13
theorem Ym {p:PROG} (P:POK p) (fn:Int):aH p (Er p fn):=by
 intro v hv h0
 unfold Er at hv
 cases hf:Pn p fn
 ·rw [hf] at hv;cases hv
 ·rw [hf,cond_true] at hv
  have hr:0≤fn∧fn≤(p.2.length:Int) - 1:=by simpa [Pn] using hf
  obtain⟨m,rfl⟩:∃ m:Nat,fn=(m:Int):=⟨fn.toNat,by omega⟩
  have F:=P.fn (i:=m) (by omega)
  rcases List.mem_append.1 hv with hv | hv
  ·obtain⟨x,_,rfl⟩:=List.mem_map.1 hv
   exact absurd h0 (by simp [Uk])
  ·obtain⟨x,hx,rfl⟩:=List.mem_map.1 hv
   obtain⟨h1,h2⟩:=List.mem_filter.1 hx
   have hd:=F.bd
   unfold HV at h1
   rw [decide_eq_false (by omega),cond_false] at h1
   exact⟨TC hd ((Py hd x).1 h1),of_decide_eq_true h2⟩
theorem WN {p:PROG} (hp:FineP p) (P:POK p) (fn:Int):wp (Fj p fn) fun y=>y.1.length≤2097152∧(y.2.1=true→FC y.1=FC (Er p fn)):=by
 unfold Fj
 rw [Od p hp fn]
 have hvl:=VO hp fn
 refine AF (AA (Il (AF (AA (AD (wp_loop (fun x:Ib=>x.1.length≤2097152∧FC x.1=FC (Er p fn)∧0≤x.2.1∧x.2.2.1=p∧aH p x.1) (fun x=>(x.1.length - x.2.1).toNat) (Q:=fun s:(List VAR×Unit) ⊕ (List VAR×Bool×Unit)=>(∀ b,s=.inl b→b.1.length≤2097152∧FC b.1=FC (Er p fn))∧∀ r,s=.inr r→r.1.length≤2097152∧(r.2.1=true→FC r.1=FC (Er p fn))) (fun x hx=>?_) ⟨hvl,rfl,by simp,rfl,Ym P fn⟩) fun s hs=>⟨fun b hb=>AA ⟨(hs.1 b hb).1,fun _=>(hs.1 b hb).2⟩,hs.2⟩)))))
 obtain⟨b1,b2,b3,_⟩:=x
 simp only at hx
 obtain⟨hle,hnm,b20,e3,hlv⟩:=hx
 subst e3
 unfold Ls
 simp only
 refine AM (fun hi=>?_) fun hi=>AN (AN (AA (Ak ⟨fun b hb=>by cases hb;exact⟨hle,hnm⟩,fun r hr=>by cases hr⟩)))
 have hi':=of_decide_eq_true hi
 refine AL (BG b20 hi') (AR (AD (Q:=fun x:List VAR×Int×PROG×Unit=>x.1.length=b1.length∧FC x.1=FC b1∧x.2.1=b2∧x.2.2.1=b3∧aH b3 x.1) (AM (fun hb=>?_) fun _=>AA ⟨rfl,rfl,rfl,rfl,hlv⟩) fun x hx=>?_))
 ·have hb':0≤(rd b1 b2 zV).2.2:=of_decide_eq_true hb
  obtain⟨g1,g2⟩:=hlv _ (CE b1 b2 zV b20 hi') hb'
  have gr:=Ay g1
  have gs:=bm g1 (by omega) (by omega)
  refine AL (BG b20 hi') (AL (BG gr.1.1 gr.1.2) (AL (BG (by omega) gs.1) (AF (AD (PC hp (by omega) _ gs.2.1 gs.2.2.2) fun y _=>AL (BG b20 hi') (Cf (AA ⟨?_,?_,rfl,rfl,?_⟩))))))
  ·simp
  ·obtain⟨m,rfl⟩:∃ m:Nat,b2=(m:Int):=⟨b2.toNat,by omega⟩
   have hm:m<b1.length:=by omega
   simp only [Ad hm,Int.toNat_natCast]
   exact Yr hm _
  ·intro v hv h0
   rcases List.mem_or_eq_of_mem_set hv with hv | hv
   ·exact hlv v hv h0
   ·subst hv;exact⟨g1,g2⟩
 ·obtain⟨x1,x2,x3,_⟩:=x
  simp only at hx ⊢
  obtain⟨f1,f2,f3,f4,f5⟩:=hx
  subst f3 f4
  refine AL (BG b20 (by omega)) (AM (fun _=>AN (AN (AA (Ak ⟨fun b hb=>(by cases hb),fun r hr=>by cases hr;exact⟨by simp,fun h=>by cases h⟩⟩)))) fun _=>AN (AA (Al ?_)))
  rw [Af (by omega) (by omega)]
  exact⟨⟨by simp only;omega,by simp only;rw [f2,hnm],by simp only;omega,rfl,f5⟩,by simp only;omega⟩
def TP (p:PROG) (i:Int):Prop:=∃ v,Fj p i=some (v,true,())
theorem cA {p:PROG} (hp:FineP p):wp (Gs p) fun y=>y.1=true→HK p=true∧∀ i:Int,0≤i∧i<(p.2.length:Int)→TP p i:=by
 unfold Gs
 rw [TI p hp]
 refine AF (AA (AM (fun _=>AA fun h=>by cases h) fun hb=>?_))
 have hok:HK p=true:=by
  have:Kz p=true:=by simpa using hb
  unfold Kz at this
  exact(Bool.and_eq_true_iff.1 this).1
 have P:=Um hok
 have hm:=P.m
 refine Il (AF (AA (AD (wp_loop (fun x:GY=>0≤x.1∧x.2.1=p∧∀ i:Int,0≤i∧i<x.1→TP p i) (fun x=>(p.2.length - x.1).toNat) (Q:=fun s:Unit ⊕ (Bool×Unit)=>(s=.inl ()→∀ i:Int,0≤i∧i<(p.2.length:Int)→TP p i)∧∀ r,s=.inr r→r.1=false) (fun x hx=>?_) ⟨by simp,rfl,fun i hi=>by simp only at hi;omega⟩) fun s hs=>⟨fun b hb=>AA fun _=>⟨hok,hs.1 hb⟩,fun r hr h=>by rw [hs.2 r hr] at h;cases h⟩)))
 obtain⟨b1,b2,_⟩:=x
 simp only at hx
 obtain⟨b10,e2,hall⟩:=hx
 subst e2
 unfold KL
 simp only
 refine AM (fun hi=>?_) fun hi=>AN (AN (AA (Ak ⟨fun _ i hi2=>hall i ?_,fun r hr=>by cases hr⟩)))
 ·have hi':=of_decide_eq_true hi
  have F:=P.fn (i:=b1.toNat) (by omega)
  rw [show((b1.toNat:Nat):Int)=b1 by omega] at F
  obtain⟨y,hy0,hy⟩:=WN hp P b1
  rw [hy0]
  refine AF (AA (AL (BG b10 hi') (AR (AD (Q:=fun x:Int×Bool×PROG×Unit=>x.1=b1∧x.2.2.1=b2∧(x.2.1=false→y.2.1=true)) (AM (fun _=>AA ⟨rfl,rfl,fun h=>by cases h⟩) fun hv=>AF (AD (gL hp hy.1 _ F.bd F.bk) fun z _=>AM (fun _=>AA ⟨rfl,rfl,fun h=>by cases h⟩) fun _=>AM (fun hr=>?_) fun _=>AA ⟨rfl,rfl,fun _=>by simpa using hv⟩)) fun x hx=>?_))))
  ·have hr':=F.rt (of_decide_eq_true hr)
   exact AF (AD (PC hp hy.1 _ hr'.1 hr'.2) fun z _=>AA ⟨rfl,rfl,fun _=>by simpa using hv⟩)
  ·obtain⟨x1,x2,x3,_⟩:=x
   simp only at hx ⊢
   obtain⟨f1,f2,f3⟩:=hx
   subst f1 f2
   refine AM (fun _=>AN (AN (AA (Ak ⟨fun h=>(by cases h),fun r hr=>by cases hr;rfl⟩)))) fun hf=>AN (AA (Al ?_))
   rw [Af (by omega) (by omega)]
   refine⟨⟨by simp only;omega,rfl,fun i hi2=>?_⟩,by simp only;omega⟩
   by_cases e:i=x1
   ·subst e
    obtain⟨y1,y2,_⟩:=y
    have:=f3 hf
    simp only at this
    subst this
    exact⟨y1,hy0⟩
   ·exact hall i (by simp only at hi2;omega)
 ·have:=of_decide_eq_false hi
  omega
end Go.Proofs.YtmakhmoielhjeaaGreatDoorE
namespace Go.Proofs.YtmakhmoielhjeaaGreatDoorE
set_option linter.all false
set_option maxRecDepth 100000
theorem Qd (ds:List Int):∀ (ys:List Int) (d:Int),d≤ys.foldl (Eg ds) d∧∀ y∈ys,rd ds y (0:Int)+1≤ys.foldl (Eg ds) d
 | [],d=>⟨Int.le_refl _,by simp⟩
 | y::ys,d=>by
  have h:=Qd ds ys (Eg ds d y)
  have h1:d≤Eg ds d y∧rd ds y (0:Int)+1≤Eg ds d y:=by
   unfold Eg
   split<;>omega
  rw [List.foldl_cons]
  refine⟨by omega,fun z hz=>?_⟩
  rcases List.mem_cons.1 hz with hz | hz
  ·subst hz;omega
  ·exact h.2 z hz
theorem Jw {l:List NODE} {k:Int} (h:(0:Int)<AU l k) {y:Int} (hy:y∈(rd l k zN).2.2.2):AU l y+1≤AU l k:=by
 have hp:=Ay h
 have hk:=DR h hy
 obtain⟨n,rfl⟩:∃ m:Nat,k=(m:Int):=⟨k.toNat,by omega⟩
 obtain⟨m,rfl⟩:∃ m:Nat,y=(m:Int):=⟨y.toNat,by omega⟩
 unfold AU at h ⊢
 rw [decide_eq_true (by omega),cond_true] at h
 rw [decide_eq_true (by omega),decide_eq_true (by omega),cond_true,cond_true]
 rw [Int.toNat_natCast] at h ⊢
 rw [Int.toNat_natCast]
 have e:dAt l n=Kt (BC l n) (rd l (n:Int) zN):=by
  unfold dAt MK at h ⊢
  cases hc:Bo l (n:Int) && (decide (n=0) || decide (rd (BC l n) ((n:Int) - 1) (0:Int)≠0))
  ·rw [hc] at h;cases h
  ·rw [hc,cond_true] at h
   rw [cond_true]
   unfold UK at h ⊢
   cases hd:decide ((10:Int)<Kt (BC l n) (rd l (n:Int) zN))
   ·rfl
   ·rw [hd] at h;cases h
 have h2:=(Qd (BC l n) (rd l (n:Int) zN).2.2.2 1).2 _ hy
 rw [HD l n m (by omega)] at h2
 rw [e];exact h2
theorem UL (l:List NODE) (k:Int):AU l k≤10:=by
 unfold AU
 cases decide (0≤k∧k≤(l.length:Int) - 1)
 ·show(0:Int)≤10;omega
 ·exact(OK l k.toNat).2
def W:Nat→Nat
 | 0=>0
 | n+1=>12 * W n+22
theorem lp {n:Nat} (h:n≤10):W n≤123834728446:=by
 have:∀ n:Fin 11,W n.1≤123834728446:=by decide
 exact this ⟨n,by omega⟩
abbrev LOW:=PROG×(List VAR×CODE)
def AO (l:LOW):Prop:=∀ w∈l.2.2.2.2.2,(w:INS).2.2.2.2.2.2.length≤1048576
structure Grw (n:Nat) (l l':LOW):Prop where
 p:l'.1=l.1
 v:l'.2.1=l.2.1
 lo:l.2.2.2.2.1.length≤l'.2.2.2.2.1.length
 lo':l'.2.2.2.2.1.length≤l.2.2.2.2.1.length+n
 wo:l.2.2.2.2.2.length≤l'.2.2.2.2.2.length
 wo':l'.2.2.2.2.2.length≤l.2.2.2.2.2.length+n
 ar:AO l→AO l'
theorem Grw.rfl' {l:LOW}:Grw 0 l l:=⟨rfl,rfl,Nat.le_refl _,Nat.le_refl _,Nat.le_refl _,Nat.le_refl _,id⟩
theorem Grw.trans {a b:Nat} {x y z:LOW} (h:Grw a x y) (g:Grw b y z):Grw (a+b) x z:=⟨g.p.trans h.p,g.v.trans h.v,Nat.le_trans h.lo g.lo,by have:=h.lo';have:=g.lo';omega,Nat.le_trans h.wo g.wo,by have:=h.wo';have:=g.wo';omega,fun e=>g.ar (h.ar e)⟩
theorem Grw.le {a b:Nat} {x y:LOW} (h:Grw a x y) (hl:a≤b):Grw b x y:=⟨h.p,h.v,h.lo,by have:=h.lo';omega,h.wo,by have:=h.wo';omega,h.ar⟩
def Sz (n:Nat) (l:LOW):Prop:=l.2.2.2.2.1.length+n≤1000000000000∧l.2.2.2.2.2.length+n≤1000000000000
theorem Grw.sz {a b:Nat} {x y:LOW} (h:Grw a x y) (hs:Sz (a+b) x):Sz b y:=⟨by have:=h.lo';have:=hs.1;omega,by have:=h.wo';have:=hs.2;omega⟩
theorem Sz.le {a b:Nat} {x:LOW} (h:Sz a x) (hl:b≤a):Sz b x:=⟨by have:=h.1;omega,by have:=h.2;omega⟩
theorem dh (l:LOW) (t:Int) (h:Sz 1 l):wp (CW l t) fun y=>Grw 1 l y.2.1∧y.1<(y.2.1.2.2.2.2.1.length:Int):=by
 have h1:=h.1
 unfold CW
 refine AL (show(_:Nat)≤_ by simp only [List.length_singleton];omega) (AA ⟨⟨rfl,rfl,by simp,by simp,Nat.le_refl _,by simp,id⟩,?_⟩)
 simp only [List.length_append,List.length_singleton]
 rw [Af (by omega) (by omega)]
 omega
theorem Ee (l:LOW) (w:INS) (h:Sz 1 l) (hw:w.2.2.2.2.2.2.length≤1048576):wp (BB l w) fun y=>Grw 1 l y.2.1∧0≤y.1∧y.1<(y.2.1.2.2.2.2.2.length:Int):=by
 have h1:=h.2
 unfold BB
 refine AL (show(_:Nat)≤_ by simp only [List.length_singleton];omega) (AA ⟨⟨rfl,rfl,Nat.le_refl _,by simp,by simp,by simp,fun e x hx=>?_⟩,?_⟩)
 ·rcases List.mem_append.1 hx with hx | hx
  ·exact e x hx
  ·rw [List.mem_singleton.1 hx];exact hw
 ·simp only [List.length_append,List.length_singleton]
  rw [Af (by omega) (by omega)]
  omega
theorem Uv (l:LOW) (i:Int) (h0:0≤i) (h1:i<(l.2.2.2.2.2.length:Int)) (w:INS) (hw:w.2.2.2.2.2.2=(rd l.2.2.2.2.2 i zI).2.2.2.2.2.2):Grw 0 l (l.1,(l.2.1,(l.2.2.1,(l.2.2.2.1,(l.2.2.2.2.1,l.2.2.2.2.2.set i.toNat w))))):=by
 refine⟨rfl,rfl,Nat.le_refl _,Nat.le_refl _,by simp,by simp,fun e x hx=>?_⟩
 rcases List.mem_or_eq_of_mem_set hx with hx | hx
 ·exact e x hx
 ·subst hx;rw [hw];exact e _ (CE _ _ _ h0 h1)
theorem Ln {α β:Type} {x x':Option α} {f:α→β} {Q:β→Prop} (h:wq x x' fun a=>Q (f a)):wq (AB x fun a=>some (f a)) (AB x' fun a=>some (f a)) Q:=BE (AG h fun a ha=>AJ ha)
abbrev FLV:=LOW→Int→Option (Int×LOW×Unit)
abbrev FL:=LOW→Int→Option (LOW×Unit)
section
variable {p:PROG} (hp:FineP p) {vs:List VAR} (hl:vs.length≤2097152)
include hp hl
theorem ii {r0 r0':FLV} (k:Int) (e:Nat) (h:(0:Int)<AU p.1 k) (hk:(rd p.1 k zN).1≤12) (hd:AU p.1 k≤(e:Int)+1) (l:LOW) (e1:l.1=p) (e2:l.2.1=vs) (hs:Sz (W (e+1)) l)
 (H:∀ y,(0:Int)<AU p.1 y→(rd p.1 y zN).1≤12→0≤y∧y<k→AU p.1 y≤(e:Int)→∀ l':LOW,l'.1=p→l'.2.1=vs→Sz (W e) l'→wq (r0 l' y) (r0' l' y) fun z=>Grw (W e) l' z.2.1∧z.1<(z.2.1.2.2.2.2.1.length:Int)):
 wq (DX r0 l k) (DX r0' l k) fun z=>Grw (W (e+1)) l z.2.1∧z.1<(z.2.1.2.2.2.2.1.length:Int):=by
 unfold DX
 have hkr:=Ay h
 have h12:=Eh hkr.2.1
 have hW:W (e+1)=12 * W e+22:=rfl
 refine Ar (by rw [e1];exact BG hkr.1.1 hkr.1.2) (BE (AK (AJ (AG (Ix (fun x:ER=>x.1=k∧0≤x.2.2.1∧x.2.2.1≤((rd p.1 k zN).2.2.2.length:Int)∧x.2.1.length=x.2.2.1.toNat∧Grw (x.2.2.1.toNat * W e) l x.2.2.2.1∧x.2.2.2.2.1=rd p.1 k zN) (fun x=>((rd p.1 k zN).2.2.2.length - x.2.2.1).toNat) (Q:=fun x:Int×List Int×LOW×NODE×Unit=>x.1=k∧x.2.1.length≤12∧Grw (12 * W e) l x.2.2.1∧x.2.2.2.1=rd p.1 k zN) (fun x hx=>?_) ⟨rfl,by simp,by simp only;omega,rfl,?_,by rw [e1]⟩) fun x hx=>?_))))
 ·obtain⟨b1,b2,b3,b4,b5,_⟩:=x
  simp only at hx
  obtain⟨f1,b30,b3l,f2,g,f5⟩:=hx
  subst f1 f5
  unfold Hz
  simp only
  have hmul:b3.toNat * W e≤12 * W e:=Nat.mul_le_mul_right _ (by omega)
  refine Ae (fun hi=>?_) fun hi=>CB (AJ (Ak ⟨rfl,by simp only;omega,g.le hmul,rfl⟩))
  have hi':=of_decide_eq_true hi
  have g0:=VP h hk (i:=b3) b30 hi'
  have hdk:=Jw h (CE (rd p.1 b1 zN).2.2.2 b3 (0:Int) b30 hi')
  have hmul2:(b3.toNat+1) * W e≤12 * W e:=Nat.mul_le_mul_right _ (by omega)
  rw [Nat.succ_mul] at hmul2
  refine Ar (BG b30 hi') (AK (AG (H _ g0.1 g0.2.2 g0.2.1 (by omega) b4 (g.p.trans e1) (g.v.trans e2) (g.sz (hs.le (by omega)))) fun y hy=>Ar (show(_:Nat)≤_ by simp only [List.length_singleton];omega) (CB (AJ (Al ?_)))))
  rw [Af (by omega) (by omega)]
  refine⟨⟨rfl,by simp only;omega,by simp only;omega,by simp only [List.length_append,List.length_singleton];omega,?_,rfl⟩,by simp only;omega⟩
  simp only
  rw [show(b3+1).toNat * W e=b3.toNat * W e+W e by rw [show(b3+1).toNat=b3.toNat+1 by omega,Nat.succ_mul]]
  exact g.trans hy.1
 ·simp only [Int.toNat_zero,Nat.zero_mul];exact Grw.rfl'
 ·obtain⟨z1,z2,z3,z4,_⟩:=x
  simp only at hx ⊢
  obtain⟨f1,f2,g,f4⟩:=hx
  subst f1 f4
  rw [g.p,g.v,e1,e2]
  have hs2:Sz 2 z3:=(g.sz (b:=22) (hs.le (by omega))).le (by omega)
  refine AK (AG (Ah (PC hp hl _ h hk)) fun y4 _=>BE (AG (Q:=fun x:List Int×Int×Int×LOW×NODE×Unit=>x.1.length≤12∧Grw 1 z3 x.2.2.2.1∧x.2.2.1<(x.2.2.2.1.2.2.2.2.1.length:Int)) (Ae (fun _=>AK (AG (Ah (dh z3 _ (hs2.le (by omega)))) fun y hy=>AJ ⟨f2,hy.1,hy.2⟩)) fun _=>AJ ⟨f2,Grw.rfl'.le (by omega),by simp only;omega⟩) fun x hx=>?_))
  obtain⟨a1,a2,a3,a4,a5,_⟩:=x
  simp only at hx ⊢
  obtain⟨f2,g2,ha⟩:=hx
  have hs3:Sz 1 a4:=g2.sz (b:=1) hs2
  have fin:∀ a:LOW,Grw 1 a4 a→Grw (W (e+1)) l a∧a3<(a.2.2.2.2.1.length:Int):=fun a g3=>⟨((g.trans g2).trans g3).le (by omega),by have:=g3.lo;omega⟩
  refine Ae (fun _=>AK (AG (Ah (Ee a4 _ hs3 (by simp only;omega))) fun y hy=>AJ (fin _ hy.1))) fun _=>Ae (fun _=>?_) fun _=>?_
  ·refine AK (AG (Ah (Q:=fun _=>True) (by unfold Kh;exact AR (AD (AM (Q:=fun _=>True) (fun _=>AA trivial) fun _=>AA trivial) fun _ _=>AA trivial))) fun y8 _=>BE (AG (Q:=fun x:Int×Int×LOW×NODE×Unit=>x.1=a3∧x.2.2.1=a4) (Ae (fun _=>AJ ⟨rfl,rfl⟩) fun _=>AJ ⟨rfl,rfl⟩) fun x hx=>?_))
   obtain⟨c1,c2,c3,c4,_⟩:=x
   simp only at hx ⊢
   obtain⟨q1,q2⟩:=hx
   subst q1 q2
   rw [Co _ (by rw [g2.v,g.v,e2];exact hl)]
   exact AK (AJ (AK (AG (Ah (Ee _ _ hs3 (by simp))) fun y hy=>AJ (fin _ hy.1))))
  ·refine AK (AG (Ah (Q:=fun _=>True) (by unfold Nl;repeat (first | exact AA trivial | refine AM (fun _=>AA trivial) fun _=>?_))) fun y12 _=>BE (AG (Q:=fun x:List Int×Int×LOW×INS×Unit=>x.1=a1∧x.2.1=a3∧x.2.2.1=a4∧x.2.2.2.1.2.2.2.2.2.2=[]) (Ae (fun _=>?_) fun _=>AJ ⟨rfl,rfl,rfl,rfl⟩) fun x hx=>?_))
   ·rw [Co _ (by rw [g2.v,g.v,e2];exact hl)]
    exact AK (AJ (AJ ⟨rfl,rfl,rfl,rfl⟩))
   obtain⟨c1,c2,c3,c4,_⟩:=x
   simp only at hx ⊢
   obtain⟨q1,q2,q3,q4⟩:=hx
   subst q1 q2 q3
   refine BE (AG (Q:=fun x:List Int×Int×LOW×INS×Unit=>x.1=c1∧x.2.1=c2∧x.2.2.1=c3∧x.2.2.2.1.2.2.2.2.2.2=[]) (Ae (fun hb=>Ar (BG (by omega) (of_decide_eq_true hb)) (AJ ⟨rfl,rfl,rfl,q4⟩)) fun _=>AJ ⟨rfl,rfl,rfl,q4⟩) fun x hx=>?_)
   obtain⟨d1,d2,d3,d4,_⟩:=x
   simp only at hx ⊢
   obtain⟨q1,q2,q3,q5⟩:=hx
   subst q1 q2 q3
   refine BE (AG (Q:=fun x:Int×LOW×INS×Unit=>x.1=d2∧x.2.1=d3∧x.2.2.1.2.2.2.2.2.2=[]) (Ae (fun hb=>Ar (BG (by omega) (of_decide_eq_true hb)) (AJ ⟨rfl,rfl,q5⟩)) fun _=>AJ ⟨rfl,rfl,q5⟩) fun x hx=>?_)
   obtain⟨k1,k2,k3,_⟩:=x
   simp only at hx ⊢
   obtain⟨q1,q2,q6⟩:=hx
   subst q1 q2
   exact AK (AG (Ah (Ee _ _ hs3 (by rw [q6];simp))) fun y hy=>AJ (fin _ hy.1))
end
end Go.Proofs.YtmakhmoielhjeaaGreatDoorE
namespace Go.Proofs.YtmakhmoielhjeaaGreatDoorE
set_option linter.all false
set_option maxRecDepth 100000
def Vis (p:PROG) (vs:List VAR) (k:Int):Prop:=∀ t,Cq p.1 k t=true→(rd p.1 t zN).1=13→gF vs (rd p.1 t zN).2.2.1
theorem Vis.kid {p:PROG} {vs:List VAR} {k y:Int} (h:Vis p vs k) (hd:(0:Int)<AU p.1 k) (hy:y∈(rd p.1 k zN).2.2.2):Vis p vs y:=fun t ht=>h t (QS hd hy ht)
section
variable {p:PROG} (hp:FineP p) {vs:List VAR} (hl:vs.length≤2097152)
include hp hl
theorem ig:∀ m:Nat,∀ n n' k (e:Nat),(0:Int)<AU p.1 k→(rd p.1 k zN).1≤12→AU p.1 k≤(e:Int)→k.toNat<m→k.toNat+1≤n→k.toNat+1≤n'→∀ l:LOW,l.1=p→l.2.1=vs→Sz (W e) l →
 wq ((Bs n).1 l k) ((Bs n').1 l k) fun z=>Grw (W e) l z.2.1∧z.1<(z.2.1.2.2.2.2.1.length:Int):=by
 intro m
 induction m with
 | zero=>intro n n' k _ _ _ _ h;omega
 | succ m ih=>
  intro n n' k e h hk hd hm hn hn' l e1 e2 hs
  obtain⟨n,rfl⟩:∃ j,n=j+1:=⟨n - 1,by omega⟩
  obtain⟨n',rfl⟩:∃ j,n'=j+1:=⟨n' - 1,by omega⟩
  obtain⟨e,rfl⟩:∃ j,e=j+1:=⟨e - 1,by omega⟩
  exact ii hp hl (r0:=(Bs n).1) (r0':=(Bs n').1) k e h hk (by omega) l e1 e2 hs fun y hy h12 hyk hdy l' e1' e2' hs'=>ih n n' y e hy h12 hdy (by omega) (by omega) (by omega) l' e1' e2' hs'
theorem WB (k:Int) (e:Nat) (h:(0:Int)<AU p.1 k) (hk:(rd p.1 k zN).1≤12) (hd:AU p.1 k≤(e:Int)) (l:LOW) (e1:l.1=p) (e2:l.2.1=vs) (hs:Sz (W e) l):wp (Cu l k) fun z=>Grw (W e) l z.2.1∧z.1<(z.2.1.2.2.2.2.1.length:Int):=by
 unfold Cu
 exact Kc (k.toNat+1) fun n hn=>ig hp hl _ n _ k e h hk hd (Nat.lt_succ_self _) hn (Nat.le_refl _) l e1 e2 hs
theorem UO (k:Int) (h:(0:Int)<AU p.1 k) (hv:Vis p vs k) (l:LOW) (e1:l.1=p) (e2:l.2.1=vs) (hs:Sz 12 l):wp (Ct l k) fun y=>Grw 12 l y.1:=by
 unfold Ct
 have hkr:=Ay h
 have h12:=Eh hkr.2.1
 rw [e1]
 have hi:IntKind.wrap .i64 (((rd p.1 k zN).2.2.2.length:Int) - 1)=((rd p.1 k zN).2.2.2.length:Int) - 1:=Af (by omega) (by omega)
 refine AL (BG hkr.1.1 hkr.1.2) (AR (AF (AA (AD (wp_loop (fun x:EP=>x.1=(rd p.1 k zN).2.2.2∧-1≤x.2.1∧x.2.1<((rd p.1 k zN).2.2.2.length:Int)∧Grw (((rd p.1 k zN).2.2.2.length:Int) - 1 - x.2.1).toNat l x.2.2.1) (fun x=>(x.2.1+1).toNat) (Q:=fun x:LOW×Unit=>Grw 12 l x.1) (fun x hx=>?_) ⟨rfl,?_,?_,?_⟩) fun x hx=>AA hx))))
 ·obtain⟨b1,b2,b3,_⟩:=x
  simp only at hx
  obtain⟨f1,hb0,hb1,g⟩:=hx
  subst f1
  unfold Hx
  simp only
  refine AM (fun hi=>?_) fun hi=>AN (AA (Ak (g.le (by omega))))
  have hi':=of_decide_eq_true hi
  have hmem:=CE (rd p.1 k zN).2.2.2 b2 (0:Int) hi' hb1
  have hkp:=DR h hmem
  have hkr2:=Ay hkp.1
  have hsz:Sz 1 b3:=g.sz (hs.le (by omega))
  rw [g.p,g.v,e1,e2]
  refine AL (BG hi' hb1) (AL (BG hkr2.1.1 hkr2.1.2) (AR (AD (Q:=fun x:List Int×Int×Bool×LOW×NODE×Unit=>x.1=(rd p.1 k zN).2.2.2∧x.2.1=b2∧x.2.2.2.1=b3) (AM (fun hb=>?_) fun _=>AA ⟨rfl,rfl,rfl⟩) fun x hx=>?_)))
  ·have hb':=of_decide_eq_true hb
   have hLA:=hv _ (QS h hmem (ZR _ _)) hb'
   have hvp:=ZS hLA
   rw [Co _ hl]
   exact AF (AA (AL (BG hvp (TD _ _).2) (AA ⟨rfl,rfl,rfl⟩)))
  ·obtain⟨c1,c2,c3,c4,c5,_⟩:=x
   simp only at hx ⊢
   obtain⟨f1,f2,f3⟩:=hx
   subst f2 f3
   refine AR (AD (Q:=fun x:List Int×Int×LOW×Unit=>x.1=(rd p.1 k zN).2.2.2∧x.2.1=c2∧Grw 1 c4 x.2.2.1) (AM (fun _=>?_) fun _=>AA ⟨f1,rfl,Grw.rfl'.le (by omega)⟩) fun x hx=>?_)
   ·rw [Co _ (by rw [g.v,e2];exact hl)]
    exact AF (AA (AF (AD (Ee _ _ hsz (by simp)) fun y hy=>AA ⟨f1,rfl,hy.1⟩)))
   ·obtain⟨d1,d2,d3,_⟩:=x
    simp only at hx ⊢
    obtain⟨q1,q2,q3⟩:=hx
    subst q2
    refine AN (AA (Al ?_))
    rw [Af (by omega) (by omega)]
    exact⟨⟨q1,by simp only;omega,by simp only;omega,(g.trans q3).le (by simp only;omega)⟩,by simp only;omega⟩
 ·simp only;rw [hi];omega
 ·simp only;rw [hi];omega
 ·simp only;rw [hi];exact Grw.rfl'.le (by omega)
theorem ie {r0 r0' r1 r1' r2 r2':FL} (k:Int) (e:Nat) (h:(0:Int)<AU p.1 k) (h20:(rd p.1 k zN).1=20) (hd:AU p.1 k≤(e:Int)+1) (hv:Vis p vs k) (l:LOW) (e1:l.1=p) (e2:l.2.1=vs) (hs:Sz (12 * W e) l)
 (H:∀ y,(0:Int)<AU p.1 y→13≤(rd p.1 y zN).1∧(rd p.1 y zN).1≤19→0≤y∧y<k→AU p.1 y≤(e:Int)→Vis p vs y→∀ l':LOW,l'.1=p→l'.2.1=vs→Sz (W e) l'→wq (r1 l' y) (r1' l' y) fun z=>Grw (W e) l' z.1):
 wq (DW r0 r1 r2 l k) (DW r0' r1' r2' l k) fun z=>Grw (12 * W e) l z.1:=by
 unfold DW
 have hkr:=Ay h
 have h12:=Eh hkr.2.1
 rw [e1]
 refine Ar (BG hkr.1.1 hkr.1.2) (BE (AK (AJ (AG (Ix (fun x:EQ=>x.1=(rd p.1 k zN).2.2.2∧0≤x.2.1∧x.2.1≤((rd p.1 k zN).2.2.2.length:Int)∧Grw (x.2.1.toNat * W e) l x.2.2.1) (fun x=>((rd p.1 k zN).2.2.2.length - x.2.1).toNat) (Q:=fun x:LOW×Unit=>Grw (12 * W e) l x.1) (fun x hx=>?_) ⟨rfl,by simp,by simp only;omega,?_⟩) fun x hx=>AJ hx))))
 ·obtain⟨b1,b2,b3,_⟩:=x
  simp only at hx
  obtain⟨f1,b20,b2l,g⟩:=hx
  subst f1
  unfold Hy
  simp only
  have hmul:b2.toNat * W e≤12 * W e:=Nat.mul_le_mul_right _ (by omega)
  refine Ae (fun hi=>?_) fun hi=>CB (AJ (Ak (g.le hmul)))
  have hi':=of_decide_eq_true hi
  have g0:=gK h h20 b20 hi'
  have hmem:=CE (rd p.1 k zN).2.2.2 b2 (0:Int) b20 hi'
  have hdk:=Jw h hmem
  have hmul2:(b2.toNat+1) * W e≤12 * W e:=Nat.mul_le_mul_right _ (by omega)
  rw [Nat.succ_mul] at hmul2
  refine Ar (BG b20 hi') (AK (AG (H _ g0.1 g0.2.2 g0.2.1 (by omega) (hv.kid h hmem) b3 (g.p.trans e1) (g.v.trans e2) (g.sz (hs.le (by omega)))) fun y hy=>CB (AJ (Al ?_))))
  rw [Af (by omega) (by omega)]
  refine⟨⟨rfl,by simp only;omega,by simp only;omega,?_⟩,by simp only;omega⟩
  simp only
  rw [show(b2+1).toNat * W e=b2.toNat * W e+W e by rw [show(b2+1).toNat=b2.toNat+1 by omega,Nat.succ_mul]]
  exact g.trans hy
 ·simp only [Int.toNat_zero,Nat.zero_mul];exact Grw.rfl'
theorem iX {r0 r0' r1 r1' r2 r2':FL} (k:Int) (e:Nat) (h:(0:Int)<AU p.1 k) (hv:Vis p vs k) (l:LOW) (e1:l.1=p) (e2:l.2.1=vs) (hs:Sz (W (e+1)) l)
 (H:wq (r0 l k) (r0' l k) fun z=>Grw (12 * W e) l z.1):
 wq (DV r0 r1 r2 l k) (DV r0' r1' r2' l k) fun z=>Grw (W (e+1)) l z.1:=by
 unfold DV
 have hW:W (e+1)=12 * W e+22:=rfl
 exact AK (AG H fun y hy=>AK (AG (Ah (UO hp hl k h hv y.1 (hy.p.trans e1) (hy.v.trans e2) (hy.sz (hs.le (by omega))))) fun z hz=>AJ ((hy.trans hz).le (by omega))))
end
end Go.Proofs.YtmakhmoielhjeaaGreatDoorE
namespace Go.Proofs.YtmakhmoielhjeaaGreatDoorE
set_option linter.all false
set_option maxRecDepth 100000
abbrev cD (ws:List INS) (i:Int):INS:=((rd ws i zI).1,((rd ws i zI).2.1,((rd ws i zI).2.2.1,((rd ws i zI).2.2.2.1,((ws.length:Int),(rd ws i zI).2.2.2.2.2)))))
section
variable {p:PROG} (hp:FineP p) {vs:List VAR} (hl:vs.length≤2097152)
include hp hl
theorem ib {r0 r0' r1 r1' r2 r2':FL} (k:Int) (e:Nat) (h:(0:Int)<AU p.1 k) (h13:13≤(rd p.1 k zN).1∧(rd p.1 k zN).1≤19) (hd:AU p.1 k≤(e:Int)+1) (hv:Vis p vs k) (l:LOW) (e1:l.1=p) (e2:l.2.1=vs) (hs:Sz (W (e+1)) l)
 (H:∀ y,(0:Int)<AU p.1 y→(rd p.1 y zN).1=20→0≤y∧y<k→AU p.1 y≤(e:Int)→Vis p vs y→∀ l':LOW,l'.1=p→l'.2.1=vs→Sz (W e) l'→wq (r2 l' y) (r2' l' y) fun z=>Grw (W e) l' z.1):
 wq (Dl r0 r1 r2 l k) (Dl r0' r1' r2' l k) fun z=>Grw (W (e+1)) l z.1:=by
 unfold Dl
 have hkr:=Ay h
 have h12:=Eh hkr.2.1
 have hW:W (e+1)=12 * W e+22:=rfl
 have g:=bm h h13.1 h13.2
 have hmem:=CE (rd p.1 k zN).2.2.2 0 (0:Int) (by omega) g.1
 have hdk:=Jw h hmem
 rw [e1]
 refine Ar (BG hkr.1.1 hkr.1.2) (Ar (BG (by omega) g.1) (AK (AG (Ah (WB hp hl _ e g.2.1 g.2.2.2 (by omega) l e1 e2 (hs.le (by omega)))) fun y1 hy1=>BE (AG (Q:=fun x:Int×Int×Int×Bool×LOW×NODE×Unit=>x.2.1=y1.1∧x.2.2.1=(rd p.1 k zN).1∧x.2.2.2.2.1=y1.2.1∧x.2.2.2.2.2.1=rd p.1 k zN) (Ae (fun _=>AJ ⟨rfl,rfl,rfl,rfl⟩) fun _=>AJ ⟨rfl,rfl,rfl,rfl⟩) fun x hx=>?_))))
 obtain⟨x1,x2,x3,x4,x5,x6,_⟩:=x
 obtain⟨y11,y12,_⟩:=y1
 simp only at hx hy1 ⊢
 obtain⟨f1,f2,f3,f4⟩:=hx
 subst f1 f2 f3 f4
 obtain⟨gv,hlt⟩:=hy1
 have p5:=gv.p.trans e1
 have v5:=gv.v.trans e2
 have hsz:∀ n,n≤11 * W e+22→Sz n x5:=fun n hn=>gv.sz (hs.le (by omega))
 have fin:∀ {n} {a:LOW},Grw n x5 a→n≤11 * W e+22→Grw (W (e+1)) l a:=fun g hn=>(gv.trans g).le (by omega)
 refine Ln (Ae (fun _=>?_) fun _=>Ln (Ae (fun _=>?_) fun _=>Ln (Ae (fun _=>?_) fun _=>Ln (Ae (fun _=>?_) fun _=>Ln (Ae (fun hb=>?_) fun _=>Ln (Ae (fun hb=>?_) fun _=>AJ (fin Grw.rfl' (by omega))))))))
 ·rw [Co _ (by rw [v5];exact hl)]
  exact AK (AJ (AK (AG (Ah (Ee _ _ (hsz 1 (by omega)) (by simp))) fun y hy=>AJ (fin hy.1 (by omega)))))
 ·rw [Co _ (by rw [v5];exact hl)]
  exact AK (AJ (AK (AG (Ah (Ee _ _ (hsz 1 (by omega)) (by simp))) fun y hy=>AJ (fin hy.1 (by omega)))))
 ·exact AK (AG (Ah (Ee _ _ (hsz 1 (by omega)) (by simp))) fun y hy=>AJ (fin hy.1 (by omega)))
 ·refine BE (AG (Q:=fun x:Int×Bool×LOW×Unit=>x.2.2.1=x5) (Ae (fun hb=>Ar (BG (of_decide_eq_true hb) hlt) (AJ rfl)) fun _=>AJ rfl) fun x hx=>?_)
  rw [hx]
  exact Ln (Ae (fun _=>AK (AG (Ah (Ee _ _ (hsz 1 (by omega)) (by simp))) fun y hy=>AJ (fin hy.1 (by omega)))) fun _=>AJ (fin Grw.rfl' (by omega)))
 ·have e':(rd p.1 k zN).1=16:=of_decide_eq_true hb
  have i1:=Ry h (.inl e') (i:=1) (by omega) (by rw [e'];decide)
  have i2:=Ry h (.inl e') (i:=2) (by omega) (by rw [e'];decide)
  have m1:=CE (rd p.1 k zN).2.2.2 1 (0:Int) (by omega) i1.1
  have m2:=CE (rd p.1 k zN).2.2.2 2 (0:Int) (by omega) i2.1
  have d1:=Jw h m1
  have d2:=Jw h m2
  refine AK (AG (Ah (Ee _ _ (hsz 1 (by omega)) (by simp))) fun y11 hy11=>Ar (BG (by omega) i1.1) (AK (AG (H _ i1.2.1 i1.2.2.2 i1.2.2.1 (by omega) (hv.kid h m1) y11.2.1 (hy11.1.p.trans p5) (hy11.1.v.trans v5) (hy11.1.sz (hsz _ (by omega)))) fun y12 hy12=>?_)))
  have g12:=hy11.1.trans hy12
  refine AK (AG (Ah (Ee _ _ (g12.sz (hsz _ (by omega))) (by simp))) fun y13 hy13=>?_)
  have g13:=g12.trans hy13.1
  have l1:y11.1<(y13.2.1.2.2.2.2.2.length:Int):=by have:=hy11.2.2;have:=hy12.wo;have:=hy13.1.wo;omega
  have s1:=Uv y13.2.1 y11.1 hy11.2.1 l1 (cD y13.2.1.2.2.2.2.2 y11.1) rfl
  refine Ar (BG hy11.2.1 l1) (QU (Ar (BG (by omega) i2.1) (AK (AG (H _ i2.2.1 i2.2.2.2 i2.2.2.1 (by omega) (hv.kid h m2) _ (s1.p.trans (g13.p.trans p5)) (s1.v.trans (g13.v.trans v5)) ((g13.trans s1).sz (b:=W e) (hsz _ (by omega)))) fun y15 hy15=>?_))))
  have l2:y13.1<(y15.1.2.2.2.2.2.length:Int):=by
   have h1:=hy15.wo
   simp only [List.length_set] at h1
   have:=hy13.2.2
   omega
  exact Ar (BG hy13.2.1 l2) (QU (AJ (fin ((((g13.trans s1).trans hy15)).trans (Uv y15.1 y13.1 hy13.2.1 l2 (cD y15.1.2.2.2.2.2 y13.1) rfl)) (by omega))))
 ·have e':(rd p.1 k zN).1=17:=of_decide_eq_true hb
  have i1:=Ry h (.inr e') (i:=1) (by omega) (by rw [e'];decide)
  have m1:=CE (rd p.1 k zN).2.2.2 1 (0:Int) (by omega) i1.1
  have d1:=Jw h m1
  refine AK (AG (Ah (Ee _ _ (hsz 1 (by omega)) (by simp))) fun y11 hy11=>Ar (BG (by omega) i1.1) (AK (AG (H _ i1.2.1 i1.2.2.2 i1.2.2.1 (by omega) (hv.kid h m1) y11.2.1 (hy11.1.p.trans p5) (hy11.1.v.trans v5) (hy11.1.sz (hsz _ (by omega)))) fun y12 hy12=>?_)))
  have g12:=hy11.1.trans hy12
  refine AK (AG (Ah (Ee _ _ (g12.sz (hsz _ (by omega))) (by simp))) fun y13 hy13=>?_)
  have g13:=g12.trans hy13.1
  have l1:y11.1<(y13.2.1.2.2.2.2.2.length:Int):=by have:=hy11.2.2;have:=hy12.wo;have:=hy13.1.wo;omega
  exact Ar (BG hy11.2.1 l1) (QU (AJ (fin (g13.trans (Uv y13.2.1 y11.1 hy11.2.1 l1 (cD y13.2.1.2.2.2.2.2 y11.1) rfl)) (by omega))))
theorem ic:∀ m:Nat,∀ n n' k (e:Nat),(0:Int)<AU p.1 k→(rd p.1 k zN).1=20→AU p.1 k≤(e:Int)+1→Vis p vs k→k.toNat<m→3 * k.toNat+1≤n→3 * k.toNat+1≤n'→∀ l:LOW,l.1=p→l.2.1=vs→Sz (12 * W e) l →
 wq ((AZ n).1 l k) ((AZ n').1 l k) fun z=>Grw (12 * W e) l z.1:=by
 intro m
 induction m with
 | zero=>intro n n' k _ _ _ _ _ h;omega
 | succ m ih=>
  intro n n' k e h h20 hd hv hm hn hn' l e1 e2 hs
  obtain⟨n,rfl⟩:∃ j,n=j+1:=⟨n - 1,by omega⟩
  obtain⟨n',rfl⟩:∃ j,n'=j+1:=⟨n' - 1,by omega⟩
  refine ie hp hl (r0:=(AZ n).1) (r0':=(AZ n').1) (r1:=(AZ n).2.1) (r1':=(AZ n').2.1) (r2:=(AZ n).2.2.1) (r2':=(AZ n').2.2.1) k e h h20 hd hv l e1 e2 hs fun y hy h13 hyk hdy hvy l' e1' e2' hs'=>?_
  obtain⟨n,rfl⟩:∃ j,n=j+1:=⟨n - 1,by omega⟩
  obtain⟨n',rfl⟩:∃ j,n'=j+1:=⟨n' - 1,by omega⟩
  obtain⟨e,rfl⟩:∃ j,e=j+1:=⟨e - 1,by omega⟩
  refine ib hp hl (r0:=(AZ n).1) (r0':=(AZ n').1) (r1:=(AZ n).2.1) (r1':=(AZ n').2.1) (r2:=(AZ n).2.2.1) (r2':=(AZ n').2.2.1) y e hy h13 hdy hvy l' e1' e2' hs' fun z hz h20z hzy hdz hvz l2 e12 e22 hs2=>?_
  obtain⟨n,rfl⟩:∃ j,n=j+1:=⟨n - 1,by omega⟩
  obtain⟨n',rfl⟩:∃ j,n'=j+1:=⟨n' - 1,by omega⟩
  obtain⟨e,rfl⟩:∃ j,e=j+1:=⟨e - 1,by omega⟩
  have hW:W (e+1)=12 * W e+22:=rfl
  exact iX hp hl (r0:=(AZ n).1) (r0':=(AZ n').1) (r1:=(AZ n).2.1) (r1':=(AZ n').2.1) (r2:=(AZ n).2.2.1) (r2':=(AZ n').2.2.1) z e hz hvz l2 e12 e22 hs2 (ih n n' z e hz h20z hdz hvz (by omega) (by omega) (by omega) l2 e12 e22 (hs2.le (by omega)))
theorem dI (k:Int) (h:(0:Int)<AU p.1 k) (h20:(rd p.1 k zN).1=20) (hv:Vis p vs k) (l:LOW) (e1:l.1=p) (e2:l.2.1=vs) (hs:Sz (W 10) l):wp (EM l k) fun z=>Grw (W 10) l z.1:=by
 unfold EM
 have hW:W 10=12 * W 9+22:=rfl
 have h10:=UL p.1 k
 exact AD (Kc (3 * k.toNat+1) fun n hn=>ic hp hl _ n _ k 9 h h20 (by omega) hv (Nat.lt_succ_self _) hn (Nat.le_refl _) l e1 e2 (hs.le (by omega))) fun z hz=>hz.le (by omega)
end
theorem YS (c:CODE) (hn:c.2.2.2.length≤1000000000000) (ha:∀ w∈c.2.2.2,(w:INS).2.2.2.2.2.2.length≤1048576):wp (Dq c) fun y=>y.1=true→FineC c∧EB c=true:=by
 by_cases hb:c.2.2.1.length≤200∧c.2.2.2.length≤400
 ·have hf:FineC c:=⟨⟨by omega,by omega⟩,ha⟩
  rw [Fh c hf]
  exact AA fun h=>⟨hf,h⟩
 ·refine⟨(false,()),?_,fun h=>by cases h⟩
  unfold Dq
  simp only [Cv,sIn,Option.bind_some]
  cases Bl c.1
  ·rfl
  by_cases h2:c.2.2.1.length≤200
  ·have h4:¬ (c.2.2.2.length≤400):=fun h=>hb ⟨h2,h⟩
   rw [show decide ((200:Int)<(c.2.2.1.length:Int))=false from decide_eq_false (by omega),show decide ((1:Int)≤(c.2.2.2.length:Int)∧(c.2.2.2.length:Int)≤400)=false from decide_eq_false (by omega)]
   cases decide ((0:Int)≤c.2.1∧c.2.1≤(c.2.2.1.length:Int))<;>rfl
  ·rw [show decide ((200:Int)<(c.2.2.1.length:Int))=true from decide_eq_true (by omega)]
   rfl
theorem jI {p:PROG} {vs:List VAR} {fn:Nat} (P:POK p) (hfn:fn<p.2.length) (hn:FC vs=FC (Er p (fn:Int))):Vis p vs (rd p.2 (fn:Int) zF).2.2.2.1:=by
 intro t ht h13
 have F:=P.fn hfn
 have hd:=F.bd
 show(rd p.1 t zN).2.2.1∈FC vs
 rw [hn]
 have hin:Pn p (fn:Int)=true:=by simp only [Pn];exact decide_eq_true (by omega)
 refine List.mem_map.2 ⟨Xe p.1 t,?_,rfl⟩
 unfold Er
 rw [hin,cond_true]
 refine List.mem_append_right _ (List.mem_map.2 ⟨t,List.mem_filter.2 ⟨?_,decide_eq_true h13⟩,rfl⟩)
 unfold HV
 rw [decide_eq_false (by omega),cond_false]
 exact(Py hd t).2 ht
def QW (c:CODE):Prop:=FineC c∧EB c=true
theorem iY {p:PROG} (hp:FineP p) (P:POK p) (fn:Nat) (hfn:fn<p.2.length) (hv:TP p (fn:Int)):wp (LI p (fn:Int)) fun y=>y.2.1=true→QW y.1:=by
 unfold LI
 obtain⟨v,hv0⟩:=hv
 obtain⟨y,hy0,hy1,hy2⟩:=WN hp P (fn:Int)
 rw [hv0] at hy0
 cases hy0
 simp only at hy1 hy2
 have hvis:=jI P hfn (hy2 trivial)
 have F:=P.fn hfn
 have h10:W 10≤123834728446:=lp (Nat.le_refl _)
 rw [hv0]
 refine AL (BG (by omega) (by omega)) (AF (AA (AR (AF (AA (AD (wp_loop (fun x:Jt=>x.1=v∧0≤x.2.1∧x.2.2.2.1=rd p.2 (fn:Int) zF∧x.2.2.2.2.1.1=p∧x.2.2.2.2.1.2.1=v∧AO x.2.2.2.2.1∧x.2.2.2.2.1.2.2.2.2.2.length=0∧(x.2.2.2.2.1.2.2.2.2.1.length:Int)=x.2.1∧x.2.1≤(v.length:Int)) (fun x=>(v.length - x.2.1).toNat) (Q:=fun x:CODE×FN×LOW×Unit=>x.2.1=rd p.2 (fn:Int) zF∧x.2.2.1.1=p∧x.2.2.1.2.1=v∧AO x.2.2.1∧Sz 200000000000 x.2.2.1∧Sz 400000000000 x.2.2.1) (fun x hx=>?_) ⟨rfl,by simp,rfl,rfl,rfl,fun w hw=>by simp at hw,rfl,by simp,by simp only;omega⟩) fun x hx=>?_))))))
 ·obtain⟨b1,b2,b3,b4,b5,_⟩:=x
  simp only at hx
  obtain⟨f1,b20,f4,f5,f6,ha,hw,hlo,hle⟩:=hx
  subst f1 f4
  unfold Nr
  simp only
  refine AM (fun hi=>?_) fun hi=>AN (AA (Ak ⟨rfl,f5,f6,ha,⟨by simp only;omega,by simp only;omega⟩,⟨by simp only;omega,by simp only;omega⟩⟩))
  have hi':=of_decide_eq_true hi
  refine AL (BG b20 hi') (AF (AD (Q:=fun y:Int×LOW×Unit=>y.2.1.1=b5.1∧y.2.1.2.1=b5.2.1∧y.2.1.2.2.2.2.2=b5.2.2.2.2.2∧y.2.1.2.2.2.2.1.length=b5.2.2.2.2.1.length+1) ?_ fun y hy=>AN (AA (Al ?_))))
  ·unfold CW
   exact AL (show(_:Nat)≤_ by simp only [List.length_singleton];omega) (AA ⟨rfl,rfl,rfl,by simp⟩)
  ·obtain⟨g1,g2,g3,g4⟩:=hy
   rw [Af (by omega) (by omega)]
   exact⟨⟨rfl,by simp only;omega,rfl,g1.trans f5,g2.trans f6,by unfold AO;simp only;rw [g3];exact ha,by simp only;rw [g3];exact hw,by simp only;omega,by simp only;omega⟩,by simp only;omega⟩
 ·obtain⟨x1,x2,x3,_⟩:=x
  simp only at hx ⊢
  obtain⟨f1,e1,e2,ha,hs,hs4⟩:=hx
  subst f1
  refine AF (AD (dI hp hy1 _ F.bd F.bk hvis x3 e1 e2 (hs.le (by omega))) fun y5 hy5=>AR (AD (Q:=fun x:Int×CODE×FN×LOW×Unit=>x.2.2.1=rd p.2 (fn:Int) zF∧Grw (W 10+W 10) x3 x.2.2.2.1) (AM (fun hb=>?_) fun _=>AA ⟨rfl,hy5.le (by omega)⟩) fun x hx=>?_))
  ·have hr:=F.rt (of_decide_eq_true hb)
   exact AF (AD (WB hp hy1 _ 10 hr.1 hr.2 (UL _ _) y5.1 (hy5.p.trans e1) (hy5.v.trans e2) (hy5.sz (hs4.le (by omega)))) fun y6 hy6=>AA ⟨rfl,hy5.trans hy6.1⟩)
  ·obtain⟨z1,z2,z3,z4,_⟩:=x
   simp only at hx ⊢
   obtain⟨f1,g⟩:=hx
   subst f1
   refine AF (AD (UO hp hy1 _ F.bd hvis z4 (g.p.trans e1) (g.v.trans e2) (g.sz (hs4.le (by omega)))) fun y8 hy8=>?_)
   have g8:=g.trans hy8
   have hpar:=F.par
   have hi:IntKind.wrap .i64 (((rd p.2 (fn:Int) zF).2.1.length:Int) - 1)=((rd p.2 (fn:Int) zF).2.1.length:Int) - 1:=Af (by omega) (by omega)
   refine AR (AF (AA (AD (wp_loop (fun x:Jv=>-1≤x.2.1∧x.2.1<((rd p.2 (fn:Int) zF).2.1.length:Int)∧x.2.2.2.1=rd p.2 (fn:Int) zF∧Grw (((rd p.2 (fn:Int) zF).2.1.length:Int) - 1 - x.2.1).toNat y8.1 x.2.2.2.2.1) (fun x=>(x.2.1+1).toNat) (Q:=fun x:Int×CODE×LOW×Unit=>Grw 3 y8.1 x.2.2.1) (fun x hx=>?_) ⟨?_,?_,rfl,?_⟩) fun x hx=>?_)))
   ·obtain⟨b1,b2,b3,b4,b5,_⟩:=x
    simp only at hx
    obtain⟨hb0,hb1,f4,gg⟩:=hx
    subst f4
    unfold Nt
    simp only
    refine AM (fun hi=>?_) fun hi=>AN (AA (Ak (gg.le (by omega))))
    have hi':=of_decide_eq_true hi
    have hsz:Sz 1 b5:=(g8.trans gg).sz (hs4.le (by omega))
    refine AL (BG hi' hb1) (AR (AD (Q:=fun x:Int×Int×CODE×FN×LOW×Unit=>x.2.1=b2∧x.2.2.2.1=rd p.2 (fn:Int) zF∧Grw 1 b5 x.2.2.2.2.1) (AM (fun _=>AF (AD (Ee _ _ hsz (by simp)) fun y hy=>AA ⟨rfl,rfl,hy.1⟩)) fun _=>AA ⟨rfl,rfl,Grw.rfl'.le (by omega)⟩) fun x hx=>?_))
    obtain⟨c1,c2,c3,c4,c5,_⟩:=x
    simp only at hx ⊢
    obtain⟨q1,q2,q3⟩:=hx
    subst q1
    refine AN (AA (Al ?_))
    rw [Af (by omega) (by omega)]
    exact⟨⟨by simp only;omega,by simp only;omega,q2,(gg.trans q3).le (by simp only;omega)⟩,by simp only;omega⟩
   ·simp only;rw [hi];omega
   ·simp only;rw [hi];omega
   ·simp only;rw [hi];exact Grw.rfl'.le (by omega)
   ·have g9:=g8.trans hx
    refine AF (AD (Ee _ _ (g9.sz (hs4.le (by omega))) (by simp)) fun y13 hy13=>?_)
    have ga:=g9.trans hy13.1
    refine AF (AD (YS y13.2.1.2.2 ?_ (ga.ar ha)) fun y14 hy14=>AM (fun _=>AA fun h=>by cases h) fun hb=>AA fun _=>hy14 (by simpa using hb))
    have:=ga.wo'
    have:=hs4.2
    omega
theorem dB {p:PROG} (hp:FineP p):wp (IOq p) fun y=>y.2.1=true→y.1≠[]∧y.1.length≤8∧∀ c∈y.1,QW c:=by
 unfold IOq
 refine AF (AD (cA hp) fun y1 hy1=>AM (fun _=>AA fun h=>by cases h) fun hb=>?_)
 obtain⟨hok,hvr⟩:=hy1 (by simpa using hb)
 have P:=Um hok
 have hm:=P.m
 have hm1:1≤p.2.length:=by
  simp only [HK,Bool.and_eq_true,decide_eq_true_eq] at hok
  omega
 refine Il (AF (AA (AD (wp_loop (fun x:Hl=>0≤x.2.1∧x.2.1≤(p.2.length:Int)∧(x.1.length:Int)=x.2.1∧x.2.2.1=p∧∀ c∈x.1,QW c) (fun x=>(p.2.length - x.2.1).toNat) (Q:=fun s:(List CODE×Unit) ⊕ (List CODE×Bool×Unit)=>(∀ b,s=.inl b→b.1.length=p.2.length∧∀ c∈b.1,QW c)∧∀ r,s=.inr r→r.2.1=false) (fun x hx=>?_) ⟨by simp,by simp only;omega,rfl,rfl,by simp⟩) fun s hs=>⟨fun b hb=>AA fun _=>⟨?_,?_,(hs.1 b hb).2⟩,fun r hr h=>by rw [hs.2 r hr] at h;cases h⟩)))
 ·obtain⟨b1,b2,b3,_⟩:=x
  simp only at hx
  obtain⟨b20,b2l,hlen,f3,hall⟩:=hx
  subst f3
  unfold LS
  simp only
  refine AM (fun hi=>?_) fun hi=>AN (AN (AA (Ak ⟨fun b hb=>by cases hb;exact⟨by have:=of_decide_eq_false hi;simp only;omega,hall⟩,fun r hr=>by cases hr⟩)))
  ·have hi':=of_decide_eq_true hi
   obtain⟨m,rfl⟩:∃ m:Nat,b2=(m:Int):=⟨b2.toNat,by omega⟩
   refine AF (AD (iY hp P m (by omega) (hvr _ ⟨b20,hi'⟩)) fun y hy=>AM (fun _=>AN (AN (AA (Ak ⟨fun b hb=>(by cases hb),fun r hr=>by cases hr;rfl⟩)))) fun hf=>AL (show(_:Nat)≤_ by simp only [List.length_singleton];omega) (AN (AA (Al ?_))))
   rw [Af (by omega) (by omega)]
   refine⟨⟨by simp only;omega,by simp only;omega,by simp only [List.length_append,List.length_singleton];omega,rfl,fun c hc=>?_⟩,by simp only;omega⟩
   rcases List.mem_append.1 hc with hc | hc
   ·exact hall c hc
   ·rw [List.mem_singleton.1 hc];exact hy (by simpa using hf)
 ·intro h
  have:=(hs.1 b hb).1
  simp only at h
  rw [h] at this
  simp only [List.length_nil] at this
  omega
 ·have:=(hs.1 b hb).1
  simp only
  omega
end Go.Proofs.YtmakhmoielhjeaaGreatDoorE
namespace Go.Proofs.YtmakhmoielhjeaaGreatDoorE
set_option linter.all false
set_option maxRecDepth 100000
def Rk (w:INS):Prop:=(-1000000000000≤w.2.1∧w.2.1≤1000000000000)∧(-1000000000000≤w.2.2.1∧w.2.2.1≤1000000000000)∧(-1000000000000≤w.2.2.2.1∧w.2.2.2.1≤1000000000000)∧(-1000000000000≤w.2.2.2.2.1∧w.2.2.2.2.1≤1000000000000)∧∀ n∈w.2.2.2.2.2.2,-1000000000000≤n∧n≤1000000000000
structure DrC (n:Nat) (c:CODE):Prop where
 nm:c.1.size≤8
 lo:c.2.2.1.length≤200+n
 w1:1≤c.2.2.2.length
 wo:c.2.2.2.length≤400
 a:∀ w∈c.2.2.2,(w:INS).2.2.2.2.2.1.size≤8∧(w:INS).2.2.2.2.2.2.length≤3+n∧Rk w
theorem DrC.le {n m:Nat} {c:CODE} (h:DrC n c) (hl:n≤m):DrC m c:=⟨h.nm,by have:=h.lo;omega,h.w1,h.wo,fun w hw=>by obtain⟨a,b,c⟩:=h.a w hw;exact⟨a,by omega,c⟩⟩
theorem DrC.fine {c:CODE} (h:DrC 1 c):FineC c:=⟨⟨by have:=h.lo;omega,by have:=h.wo;omega⟩,fun w hw=>by obtain⟨a,b,c⟩:=h.a w hw;omega⟩
theorem So {s:ByteArray} (h:Bl s=true):s.size≤8:=by
 simp only [Bl,Bool.and_eq_true,decide_eq_true_eq] at h
 exact h.1.1.1.2
theorem MR {c:CODE} (hl:c.2.2.1.length≤200) {n:Int} (h:place c n=true):-1000000000000≤n∧n≤1000000000000:=by
 unfold place at h
 have:=of_decide_eq_true h
 omega
theorem iv {c:CODE} (hl:c.2.2.1.length≤200) (hw4:c.2.2.2.length≤400) {w:INS} (h:DK c w=true):Rk w:=by
 simp only [DK,Bool.and_eq_true] at h
 obtain⟨_,hA,hB,hC,hN,hR⟩:=h
 refine⟨?_,?_,?_,?_,?_⟩
 ·unfold okA at hA
  cases hd:decide (w.1=18)
  ·rw [hd,cond_false,Bool.or_eq_true,Bool.and_eq_true] at hA
   rcases hA with hA | hA
   ·have:=of_decide_eq_true hA.2;omega
   ·exact MR hl hA
  ·rw [hd,cond_true] at hA
   have:=of_decide_eq_true hA;omega
 ·unfold okB at hB
  cases hd:JL w.1
  ·rw [hd,cond_false] at hB
   have:=of_decide_eq_true hB;omega
  ·rw [hd,cond_true] at hB;exact MR hl hB
 ·unfold okC at hC
  cases hd:JM w.1
  ·rw [hd,cond_false] at hC
   have:=of_decide_eq_true hC;omega
  ·rw [hd,cond_true] at hC;exact MR hl hC
 ·unfold okN at hN
  cases hd:decide (w.1=1)
  ·rw [hd,cond_false] at hN
   cases he:(decide (w.1=18) || decide (w.1=19))
   ·rw [he,cond_false] at hN
    have:=of_decide_eq_true hN;omega
   ·rw [he,cond_true] at hN
    have:=of_decide_eq_true hN;omega
  ·rw [hd,cond_true] at hN
   have:=of_decide_eq_true hN;omega
 ·unfold okR at hR
  cases hd:decide (w.1=13)
  ·rw [hd,cond_false,Bool.and_eq_true] at hR
   have h0:=of_decide_eq_true hR.2
   intro n hn
   rw [List.eq_nil_of_length_eq_zero (show w.2.2.2.2.2.2.length=0 by omega)] at hn
   cases hn
  ·rw [hd,cond_true,Bool.and_eq_true] at hR
   intro n hn
   exact MR hl (List.all_eq_true.1 hR.1 n hn)
theorem YX {c:CODE} (h:QW c):DrC 0 c:=by
 have h2:=h.2
 simp only [EB,Bool.and_eq_true,decide_eq_true_eq] at h2
 obtain⟨a1,a2,a3,a4,a5,a6,a7⟩:=h2
 refine⟨So a1,by omega,a4.1,a4.2,fun w hw=>?_⟩
 have h3:=List.all_eq_true.1 a7 w hw
 have hrg:=iv a2 a4.2 h3
 simp only [DK,Bool.and_eq_true] at h3
 have h4:=h3.2.2.2.2.2
 unfold okR at h4
 cases hd:decide (w.1=13)
 ·rw [hd,cond_false,Bool.and_eq_true,decide_eq_true_eq,decide_eq_true_eq] at h4
  rw [h4.1]
  exact⟨by show(0:Nat)≤8;omega,by omega,hrg⟩
 ·rw [hd,cond_true,Bool.and_eq_true,Bool.and_eq_true,decide_eq_true_eq] at h4
  exact⟨So h4.2.1,by omega,hrg⟩
theorem DrC.put {n:Nat} {c:CODE} (h:DrC n c) (i:Nat) (w:INS) (hw:w.2.2.2.2.2.1.size≤8∧w.2.2.2.2.2.2.length≤3+n∧Rk w):DrC n (c.1,(c.2.1,(c.2.2.1,c.2.2.2.set i w))):=by
 refine⟨h.nm,h.lo,by simp only [List.length_set];exact h.w1,by simp only [List.length_set];exact h.wo,fun x hx=>?_⟩
 rcases List.mem_or_eq_of_mem_set hx with hx | hx
 ·exact h.a x hx
 ·subst hx;exact hw
theorem Vt (c:Cur) (h:COk c):wp (HT c) fun y=>DrC 0 y.1∧COk y.2.1:=by
 unfold HT
 refine AF (AD (dR c h) fun y1 hy1=>AF (AD (dB hy1.1.1) fun y2 hy2=>AM (fun _=>AA ⟨⟨?_,by simp,by simp,by simp,fun w hw=>?_⟩,hy1.2⟩) fun hb=>?_))
 ·have:s_main_0d6e.size=4:=by kernel_rfl
  rw [this];omega
 ·simp only [List.mem_cons,List.not_mem_nil,or_false] at hw
  rcases hw with hw | hw | hw<;>subst hw<;>exact⟨by show(0:Nat)≤8;omega,by show(0:Nat)≤3;omega,by unfold Rk;simp⟩
 ·obtain⟨hne,h8,hall⟩:=hy2 (by simpa using hb)
  have hpos:0<y2.1.length:=List.length_pos_iff.2 hne
  refine AF (AD (LR _ _ hy1.2) fun y3 hy3=>AM (fun _=>AF (AD (Bv _ _ hy3) fun y4 hy4=>?_)) fun _=>?_)
  ·have hlt:=hy4.2.1 (by omega)
   exact AL (BG hy4.1 hlt) (AA ⟨YX (hall _ (CE _ _ _ hy4.1 hlt)),hy4.2.2.2⟩)
  ·rw [Af (by omega) (by omega)]
   have h0:(0:Int)≤(y2.1.length:Int) - 1:=by omega
   have hlt:(y2.1.length:Int) - 1<(y2.1.length:Int):=by omega
   exact AL (BG h0 hlt) (AA ⟨YX (hall _ (CE _ _ _ h0 hlt)),hy3⟩)
theorem Lm {α β:Type} {x:Option α} {f:α→β} {Q:β→Prop} (h:wp x fun a=>Q (f a)):wp (AB x fun a=>some (f a)) Q:=AR (AD h fun a ha=>AA ha)
theorem QR {a:Int} {n:Nat} (h0:0≤a) (h1:1≤n):0≤Int.tmod a (n:Int)∧Int.tmod a (n:Int)<(n:Int):=⟨Int.tmod_nonneg _ h0,Int.tmod_lt_of_pos _ (by omega)⟩
theorem gH (c:Cur) (h:COk c):wp (KK c) fun y=>DrC 1 y.1∧COk y.2.1:=by
 unfold KK
 refine AF (AD (Bv _ _ h) fun y1 hy1=>AF (AD (Bv _ _ hy1.2.2.2) fun y2 hy2=>AF (AD (Vt _ hy2.2.2.2) fun y3 hy3=>?_)))
 have hd:=hy3.1
 have hf:=(hd.le (by omega:0≤1)).fine
 rw [Sw _ hf]
 have hr:=QR hy2.1 hd.w1
 have hi:(Cnd.idx (Int.tmod y2.1 (y3.1.2.2.2.length:Int)) y3.1.2.2.2.length).holds:=BG hr.1 hr.2
 have ha:=hd.a _ (CE y3.1.2.2.2 (Int.tmod y2.1 (y3.1.2.2.2.length:Int)) zI hr.1 hr.2)
 have ha1:(rd y3.1.2.2.2 (Int.tmod y2.1 (y3.1.2.2.2.length:Int)) zI).2.2.2.2.2.2.length≤3+1:=by omega
 have ha5:∀ t,((rd y3.1.2.2.2 (Int.tmod y2.1 (y3.1.2.2.2.length:Int)) zI).2.2.2.2.2.2++[t]).length≤3+1:=fun t=>by simp only [List.length_append,List.length_singleton];omega
 have ha6:∀ t:Int,((rd y3.1.2.2.2 (Int.tmod y2.1 (y3.1.2.2.2.length:Int)) zI).2.2.2.2.2.2.length+List.length [t]) * 8≤140737488355328:=fun t=>by simp only [List.length_singleton];omega
 have hrg:=ha.2.2
 have hm22:0≤Int.tmod y2.1 22∧Int.tmod y2.1 22<22:=QR (n:=22) hy2.1 (by omega)
 have hm30:0≤Int.tmod y2.1 30∧Int.tmod y2.1 30<30:=QR (n:=30) hy2.1 (by omega)
 have hy200:=hy2.2.1 (by omega)
 have hl:=hd.lo
 have hc:=hy3.2
 have hd1:DrC 1 y3.1:=hd.le (by omega)
 refine AF (AA (AL (show(_:Int)≠0 by have:=hd.w1;simp only;omega) ?_))
 simp only
 refine AR (AD (Q:=fun x:Cur×CODE×CODE×Unit=>DrC 1 x.2.2.1∧COk x.1) ?_ fun x hx=>AA hx)
 refine AM (fun _=>AL (show(22:Int)≠0 by decide) (AL hi (Cf (AA ⟨hd1.put _ _ ⟨ha.1,ha1,hrg⟩,hc⟩)))) fun _=>Lm ?_
 refine AM (fun _=>AL (show(30:Int)≠0 by decide) (AL hi (Cf (AA ⟨hd1.put _ _ ⟨ha.1,ha1,by rw [Af (by omega) (by omega)];exact⟨by simp only;omega,hrg.2⟩⟩,hc⟩)))) fun _=>Lm ?_
 refine AM (fun _=>AL (show(30:Int)≠0 by decide) (AL hi (Cf (AA ⟨hd1.put _ _ ⟨ha.1,ha1,hrg.1,by simp only;omega,hrg.2.2⟩,hc⟩)))) fun _=>Lm ?_
 refine AM (fun _=>AL hi (Cf (AA ⟨hd1.put _ _ ⟨ha.1,ha1,hrg.1,hrg.2.1,hrg.2.2.1,by simp only;omega,hrg.2.2.2.2⟩,hc⟩))) fun _=>Lm ?_
 refine AM (fun _=>AL hi (AL (show(30:Int)≠0 by decide) (AL (ha6 _) (AL hi (AL ⟨Nat.le_refl _,Nat.le_refl _,trivial⟩ (Cf (AA ⟨hd1.put _ _ ⟨ha.1,ha5 _,hrg.1,hrg.2.1,hrg.2.2.1,hrg.2.2.2.1,fun n hn=>(List.mem_append.1 hn).elim (hrg.2.2.2.2 n) fun hn=>by rw [List.mem_singleton.1 hn];omega⟩,hc⟩))))))) fun _=>Lm ?_
 refine AM (fun _=>AL (show(9:Int)≠0 by decide) (AA ⟨⟨hd1.nm,hd1.lo,hd1.w1,hd1.wo,hd1.a⟩,hc⟩)) fun _=>Lm ?_
 refine AM (fun _=>AL (show(6:Int)≠0 by decide) (AL (show(_:Nat)≤_ by simp only [List.length_singleton];omega) (AA ⟨⟨hd1.nm,by simp only [List.length_append,List.length_singleton];omega,hd1.w1,hd1.wo,hd1.a⟩,hc⟩))) fun _=>Lm ?_
 exact AM (fun _=>AL hi (Cf (AA ⟨hd1.put _ _ ⟨by show(0:Nat)≤8;omega,by show(0:Nat)≤4;omega,by unfold Rk;simp⟩,hc⟩))) fun _=>AA ⟨hd1,hc⟩
theorem bc (c:Cur) (l:List Int) (hl:l≠[]) (h:COk c):wp (Gt c l) fun r=>COk r.2.1:=by
 unfold Gt
 have hpos:0<l.length:=List.length_pos_iff.2 hl
 exact AF (AD (Bv _ _ h) fun y hy=>AL (BG hy.1 (hy.2.1 (by omega))) (AA hy.2.2.2))
theorem NH (c:Cur) (h:COk c):wp (Ez c) fun y=>DrC 1 y.1∧COk y.2.1:=by
 unfold Ez
 refine AF (AD (LR _ _ h) fun y1 hy1=>AM (fun _=>AF (AD (gH _ hy1) fun y2 hy2=>AA hy2)) fun _=>AF (AD (Vt _ hy1) fun y3 hy3=>?_))
 have hd:=hy3.1
 have hf:=(hd.le (by omega:0≤1)).fine
 rw [Sw _ hf]
 have hw:=hd.w1
 have hw4:=hd.wo
 refine AF (AA (AR (AF (AA (AD (wp_loop (fun x:JD=>x.1=(y3.1.2.2.2.length:Int)∧0≤x.2.1∧x.2.1≤4∧COk x.2.2.1∧DrC 0 x.2.2.2.2.1∧x.2.2.2.2.1.2.2.2.length=y3.1.2.2.2.length) (fun x=>(4 - x.2.1).toNat) (Q:=fun x:Cur×CODE×CODE×Unit=>DrC 1 x.2.2.1∧COk x.1) (fun x hx=>?_) ⟨rfl,by simp,by simp,hy3.2,hd,rfl⟩) fun x hx=>AA hx)))))
 obtain⟨b1,b2,b3,b4,b5,_⟩:=x
 simp only at hx
 obtain⟨f1,b20,b24,hc,hdc,hlen⟩:=hx
 subst f1
 unfold Mo
 simp only
 refine AF (AD (Bv _ _ hc) fun y6 hy6=>AM (fun hb=>?_) fun _=>AN (AA (Ak ⟨hdc.le (by omega),hy6.2.2.2⟩)))
 have hb':=of_decide_eq_true hb
 have h4:=hy6.2.1 (by omega)
 refine AF (AD (Bv _ _ hy6.2.2.2) fun y7 hy7=>?_)
 have h7:=hy7.2.1 (by omega)
 refine AR (AD (Q:=fun x:Int×Int×Int×Bool×Cur×CODE×CODE×Unit=>x.1=(y3.1.2.2.2.length:Int)∧x.2.1=b2∧x.2.2.1=y7.1∧COk x.2.2.2.2.1∧x.2.2.2.2.2.2.1=b5) (AM (fun _=>AA ⟨rfl,rfl,rfl,hy7.2.2.2,rfl⟩) fun _=>AA ⟨rfl,rfl,rfl,hy7.2.2.2,rfl⟩) fun x hx=>?_)
 obtain⟨c1,c2,c3,c4,c5,c6,c7,_⟩:=x
 simp only at hx ⊢
 obtain⟨q1,q2,q3,q4,q5⟩:=hx
 subst q1 q2 q3 q5
 refine AR (AD (Q:=fun x:Int×Int×Cur×CODE×CODE×Unit=>x.1=(y3.1.2.2.2.length:Int)∧x.2.1=c2∧COk x.2.2.1∧DrC 0 x.2.2.2.2.1∧x.2.2.2.2.1.2.2.2.length=y3.1.2.2.2.length) (AM (fun _=>AF (AD (bc _ _ (by simp) q4) fun y9 hy9=>AF (AD (Bv _ _ hy9) fun y10 hy10=>have h10:=hy10.2.1 (by omega);have h100:=hy10.1;AL (BG hy7.1 (by rw [hlen];exact h7)) (Cf (AA ⟨rfl,rfl,hy10.2.2.2,hdc.put _ _ ⟨by show(0:Nat)≤8;omega,by show(0:Nat)≤3;omega,(by unfold Rk;simp only [List.not_mem_nil,false_imp_iff,implies_true,and_true];omega)⟩,by simp only [List.length_set];exact hlen⟩))))) fun _=>AA ⟨rfl,rfl,q4,hdc,hlen⟩) fun x hx=>?_)
 obtain⟨d1,d2,d3,d4,d5,_⟩:=x
 simp only at hx ⊢
 obtain⟨q1,q2,q6,q7,q8⟩:=hx
 subst q1 q2
 refine AN (AA (Al ?_))
 rw [Af (by omega) (by omega)]
 exact⟨⟨rfl,by simp only;omega,by simp only;omega,q6,q7,q8⟩,by simp only;omega⟩
end Go.Proofs.YtmakhmoielhjeaaGreatDoorE
namespace Go.Proofs.YtmakhmoielhjeaaGreatDoorE
set_option linter.all false
set_option maxRecDepth 100000
abbrev BLK:=Int×(Int×List Int)
abbrev zB:BLK:=((0:Int),((0:Int),[]))
theorem Bh {α:Type} {n:Int} {m:Nat} {K:Option α} (h0:0≤n) (h1:n<(m:Int)):(Cnd.idx n m).run K=K:=if_pos ⟨h0,h1⟩
theorem HN {D:Type} (l:List D) (n i:Int) (v z:D) (h0:0≤n) (h1:n<(l.length:Int)) (hi:0≤i):rd (l.set n.toNat v) i z=if i=n then v else rd l i z:=by
 have hn:n.toNat<l.length:=by omega
 unfold rd
 rw [List.getD_eq_getElem?_getD,List.getD_eq_getElem?_getD,List.getElem?_set]
 by_cases e:i=n
 ·subst e;simp [hn]
 ·rw [if_neg e,if_neg (show ¬ n.toNat=i.toNat by omega)]
theorem NC (n:Nat) (i:Int) (b:Bool) (hi:b=false):rd (List.replicate n b) i false=false:=by
 subst hi
 unfold rd
 rw [List.getD_eq_getElem?_getD,List.getElem?_replicate]
 split<;>rfl
theorem cO {D:Type} (l:List D) (i:Int) (z:D):rd l i z∈l∨rd l i z=z:=by
 by_cases h:i.toNat<l.length
 ·left
  have:rd l i z=l[i.toNat]:=by simp [rd,List.getD_eq_getElem?_getD,List.getElem?_eq_getElem h]
  rw [this];exact List.getElem_mem h
 ·right
  simp only [rd,List.getD_eq_getElem?_getD]
  rw [List.getElem?_eq_none (by omega)];rfl
theorem rd_mem {D:Type} (l:List D) (x z:D) (h:x∈l):∃ i:Int,0≤i∧i<(l.length:Int)∧rd l i z=x:=by
 obtain⟨k,hk,rfl⟩:=List.mem_iff_getElem.1 h
 exact⟨(k:Int),by omega,by omega,Ad hk⟩
theorem Ij {l:List Int} {j n:Int} (h0:0≤j) (h1:j<(l.length:Int)) (h:n∈l.take (j+1).toNat):n∈l.take j.toNat∨n=rd l j 0:=by
 have hj:j.toNat<l.length:=by omega
 rw [show(j+1).toNat=j.toNat+1 by omega,List.take_succ_eq_append_getElem hj] at h
 rcases List.mem_append.1 h with h | h
 ·exact .inl h
 ·right
  rw [List.mem_singleton.1 h]
  simp [rd,List.getD_eq_getElem?_getD,List.getElem?_eq_getElem hj]
theorem Ll {l:List Int} {j:Int} (h:(l.length:Int)≤j):l.take j.toNat=l:=List.take_of_length_le (by omega)
structure GOk (l:List BLK):Prop where
 n:l.length≤400
 b:∀ b∈l,(b:BLK).2.2.length≤400∧∀ n∈b.2.2,0≤n∧n<(l.length:Int)
theorem GOk.nx {l:List BLK} (h:GOk l) (i:Int):∀ n∈(rd l i zB).2.2,0≤n∧n<(l.length:Int):=by
 rcases cO l i zB with e | e
 ·exact(h.b _ e).2
 ·rw [e];intro n hn;cases hn
theorem GOk.nl {l:List BLK} (h:GOk l) (i:Int):(rd l i zB).2.2.length≤400:=by
 rcases cO l i zB with e | e
 ·exact(h.b _ e).1
 ·rw [e];exact Nat.zero_le _
inductive Rea (l:List BLK) (w:Int):Int→Prop
 | base:w≠0→0<l.length→Rea l w 0
 | step {k n:Int}:Rea l w k→n∈(rd l k zB).2.2→n≠w→Rea l w n
theorem Rea.rng {l:List BLK} {w i:Int} (hg:GOk l) (h:Rea l w i):0≤i∧i<(l.length:Int):=by
 cases h with
 | base _ hp=>omega
 | step _ hn _=>exact hg.nx _ _ hn
structure BW (l:List BLK) (w:Int) (P:Int→Prop) (out:List Bool) (todo:List Int):Prop where
 len:out.length=l.length
 rng:∀ t∈todo,Rea l w t
 snd:∀ i,0≤i→i<(l.length:Int)→rd out i false=true→Rea l w i
 bas:rd out 0 false=true
 clo:∀ i,0≤i→i<(l.length:Int)→rd out i false=true→¬ P i→i ∉ todo→∀ n∈(rd l i zB).2.2,n≠w→rd out n false=true
 sz:todo.length+fls out≤1000
theorem Pm {h:List Bool} {n:Int} (h0:0≤n) (h1:n<(h.length:Int)) (hf:rd h n false=false):fls (h.set n.toNat true)+1=fls h:=by
 have hn:n.toNat<h.length:=by omega
 refine On h n.toNat hn ?_
 rw [← hf];simp [rd,List.getD_eq_getElem?_getD,List.getElem?_eq_getElem hn]
theorem BW.vis {l:List BLK} {w:Int} {P:Int→Prop} {out:List Bool} {todo:List Int} {n:Int} (hg:GOk l) (h:BW l w P out todo) (hn:Rea l w n) (ho:rd out n false=false):
 BW l w P (out.set n.toNat true) (todo++[n])∧(todo++[n]).length+2 * fls (out.set n.toNat true)≤todo.length+2 * fls out:=by
 obtain⟨g0,g1⟩:=hn.rng hg
 have g1':n<(out.length:Int):=by rw [h.len];exact g1
 have hf:=Pm g0 g1' ho
 have hup:∀ i,0≤i→rd out i false=true→rd (out.set n.toNat true) i false=true:=fun i hi e=>by
  rw [HN out n i _ _ g0 g1' hi];split
  ·rfl
  ·exact e
 refine⟨⟨by rw [List.length_set];exact h.len,fun t ht=>?_,fun i i0 i1 e=>?_,hup 0 (by omega) h.bas,fun i i0 i1 e hp hm m hm1 hm2=>?_,by
  have:=h.sz
  simp only [List.length_append,List.length_singleton];omega⟩,by simp only [List.length_append,List.length_singleton];omega⟩
 ·rcases List.mem_append.1 ht with ht | ht
  ·exact h.rng t ht
  ·rw [List.mem_singleton.1 ht];exact hn
 ·rw [HN out n i _ _ g0 g1' i0] at e
  by_cases e2:i=n
  ·subst e2;exact hn
  ·rw [if_neg e2] at e;exact h.snd i i0 i1 e
 ·have hin:i≠n:=fun e2=>hm (List.mem_append.2 (.inr (List.mem_singleton.2 e2)))
  rw [HN out n i _ _ g0 g1' i0,if_neg hin] at e
  exact hup m (hg.nx _ _ hm1).1 (h.clo i i0 i1 e hp (fun hh=>hm (List.mem_append.2 (.inl hh))) m hm1 hm2)
theorem BW.done {l:List BLK} {w:Int} {out:List Bool} (hg:GOk l) (h:BW l w (fun _=>False) out []):∀ i,0≤i→i<(l.length:Int)→(rd out i false=true↔Rea l w i):=by
 intro i i0 i1
 refine⟨h.snd i i0 i1,fun hr=>?_⟩
 clear i0 i1
 induction hr with
 | base _ _=>exact h.bas
 | step hk hn hw ih=>
  obtain⟨k0,k1⟩:=hk.rng hg
  exact h.clo _ k0 k1 ih (fun x=>x) (by simp) _ hn hw
theorem BW.pop {l:List BLK} {w k:Int} {out:List Bool} {t:List Int} (h:BW l w (fun _=>False) out (k::t)):BW l w (fun i=>i=k) out t:=
 ⟨h.len,fun x hx=>h.rng x (List.mem_cons_of_mem _ hx),h.snd,h.bas,fun i i0 i1 e hp hm=>h.clo i i0 i1 e (fun x=>x) (fun hh=>by
  rcases List.mem_cons.1 hh with hh | hh
  ·exact hp hh
  ·exact hm hh),by have:=h.sz;simp only [List.length_cons] at this;omega⟩
theorem BW.close {l:List BLK} {w k:Int} {out:List Bool} {t:List Int} (h:BW l w (fun i=>i=k) out t) (hc:∀ n∈(rd l k zB).2.2,n≠w→rd out n false=true):BW l w (fun _=>False) out t:=
 ⟨h.len,h.rng,h.snd,h.bas,fun i i0 i1 e _ hm=>by
  by_cases e2:i=k
  ·subst e2;exact hc
  ·exact h.clo i i0 i1 e e2 hm,h.sz⟩
theorem BW.zero {l:List BLK} {w:Int} (hg:GOk l) (hw:w≠0) (hp:0<l.length):BW l w (fun _=>False) ((List.replicate l.length false).set (0:Int).toNat true) [(0:Int)]:=by
 have hl:(0:Int)<((List.replicate l.length false).length:Int):=by rw [List.length_replicate];omega
 have hr:=fun i (i0:0≤i)=>HN (List.replicate l.length false) 0 i true false (by omega) hl i0
 have hn:=hg.n
 have hone:∀ i,0≤i→rd ((List.replicate l.length false).set (0:Int).toNat true) i false=true→i=0:=fun i i0 e=>by
  rw [hr i i0] at e
  by_cases e2:i=0
  ·exact e2
  ·rw [if_neg e2,NC _ _ _ rfl] at e;cases e
 refine⟨by simp,fun t ht=>by rw [List.mem_singleton.1 ht];exact .base hw hp,fun i i0 i1 e=>by rw [hone i i0 e];exact .base hw hp,by rw [hr 0 (by omega)];rfl,fun i i0 i1 e _ hm=>absurd (List.mem_singleton.2 (hone i i0 e)) hm,?_⟩
 have:=Pm (h:=List.replicate l.length false) (n:=0) (by omega) hl (NC _ _ _ rfl)
 rw [Rp] at this
 simp only [List.length_singleton];omega
def BQ (l:List BLK) (w:Int) (M:Nat) (out:List Bool) (todo:List Int):Prop:=BW l w (fun _=>False) out todo∧todo.length+2 * fls out≤M
theorem Un {l:List BLK} {w k:Int} (hg:GOk l) (hk:Rea l w k) {out:List Bool} {todo:List Int} (h:BW l w (fun i=>i=k) out todo) {M:Nat} (hM:todo.length+2 * fls out≤M):
 wp (AH FM (l,w,out,todo,(rd l k zB).2.2,((rd l k zB).2.2.length:Int),(0:Int),())) fun y=>y.1=l∧y.2.1=w∧BQ l w M y.2.2.1 y.2.2.2.1:=by
 have hnl:=hg.nl k
 have hnx:=hg.nx k
 generalize hN:(rd l k zB).2.2=N at *
 refine wp_loop (fun x:Et=>x.1=l∧x.2.1=w∧BW l w (fun i=>i=k) x.2.2.1 x.2.2.2.1∧x.2.2.2.2.1=N∧x.2.2.2.2.2.1=(N.length:Int)∧0≤x.2.2.2.2.2.2.1∧x.2.2.2.2.2.2.1≤(N.length:Int)∧x.2.2.2.1.length+2 * fls x.2.2.1≤M∧∀ n∈N.take x.2.2.2.2.2.2.1.toNat,n≠w→rd x.2.2.1 n false=true) (fun x=>(N.length - x.2.2.2.2.2.2.1).toNat) (fun x hx=>?_) ⟨rfl,rfl,h,rfl,rfl,by simp,by simp,hM,by simp⟩
 obtain⟨x1,x2,o,t,x5,x6,j,_⟩:=x
 simp only at hx
 obtain⟨rfl,rfl,hb,rfl,rfl,j0,j1,hm,hc⟩:=hx
 unfold FM
 simp only
 refine AM (fun hj=>?_) fun hj=>AN (AA (Ak ⟨rfl,rfl,hb.close (by
  have:=of_decide_eq_false hj
  rw [Ll (by omega)] at hc
  rw [hN];exact hc),hm⟩))
 have hj':=of_decide_eq_true hj
 have hmem:=CE x5 j 0 j0 hj'
 obtain⟨n0,n1⟩:=hnx _ hmem
 have wj:IntKind.wrap .i64 (j+1)=j+1:=Af (by omega) (by omega)
 have hlen:=hb.len
 rw [Bh j0 hj']
 by_cases e:rd x5 j 0=x2
 ·simp only [ne_eq,e,not_true_eq_false,decide_false,cond_false,AC,wj]
  refine AN (AA (Al ⟨⟨rfl,rfl,hb,rfl,rfl,by simp only;omega,by simp only;omega,hm,fun n hn hw=>?_⟩,by simp only;omega⟩))
  rcases Ij j0 hj' hn with hn | hn
  ·exact hc n hn hw
  ·exact absurd (hn.trans e) hw
 ·have hre:Rea x1 x2 (rd x5 j 0):=.step hk (by rw [hN];exact hmem) e
  have hi:∀ {α:Type} {K:Option α},(Cnd.idx (rd x5 j 0) (List.length o)).run K=K:=fun {α} {K}=>Bh n0 (by omega)
  simp only [ne_eq,e,not_false_eq_true,decide_true,cond_true,hi,AC]
  cases ho:rd o (rd x5 j 0) false
  ·obtain⟨hv1,hv2⟩:=hb.vis hg hre ho
   have hsz:=hv1.sz
   have hle:∀ {α:Type} {K:Option α},(Cnd.le ((List.length t+List.length [rd x5 j 0]) * 8) 140737488355328).run K=K:=fun {α} {K}=>Bx (by simp only [List.length_append,List.length_singleton] at hsz ⊢;omega)
   simp only [Bool.not_false,cond_true,Av,hle,AC,wj]
   refine AN (AA (Al ⟨⟨rfl,rfl,hv1,rfl,rfl,by simp only;omega,by simp only;omega,by simp only;omega,fun n hn hw=>?_⟩,by simp only;omega⟩))
   have hr:=HN o (rd x5 j 0) n true false n0 (by omega)
   rcases Ij j0 hj' hn with hn | hn
   ·rw [hr (hnx n (List.mem_of_mem_take hn)).1];split
    ·rfl
    ·exact hc n hn hw
   ·rw [hr (by rw [hn];exact n0),if_pos hn]
  ·simp only [Bool.not_true,cond_false,AC,wj]
   refine AN (AA (Al ⟨⟨rfl,rfl,hb,rfl,rfl,by simp only;omega,by simp only;omega,hm,fun n hn hw=>?_⟩,by simp only;omega⟩))
   rcases Ij j0 hj' hn with hn | hn
   ·exact hc n hn hw
   ·rw [hn];exact ho
def RB (l:List BLK) (w:Int) (out:List Bool):Prop:=out.length=l.length∧∀ i,0≤i→i<(l.length:Int)→(rd out i false=true↔Rea l w i)
theorem RB.uniq {l:List BLK} {w:Int} {a b:List Bool} (ha:RB l w a) (hb:RB l w b):a=b:=by
 refine List.ext_getElem (by rw [ha.1,hb.1]) fun i h1 h2=>?_
 have e1:=ha.2 (i:Int) (by omega) (by have:=ha.1;omega)
 have e2:=hb.2 (i:Int) (by omega) (by have:=ha.1;omega)
 rw [Ad h1] at e1
 rw [Ad h2] at e2
 rw [Bool.eq_iff_iff,e1,e2]
theorem OX {l:List BLK} (hg:GOk l) (w:Int):wp (Bw l w) fun y=>RB l w y.1:=by
 have hn:=hg.n
 unfold Bw
 refine AL ⟨by show(0:Int)≤_;omega,by show _≤_;omega⟩ ?_
 simp only [Int.toNat_natCast]
 have empty:(w=0∨l.length=0)→RB l w (List.replicate l.length false):=fun hh=>⟨by simp,fun i i0 i1=>by
  rw [NC _ _ _ rfl]
  refine⟨fun e=>(by cases e),fun hr=>absurd hr ?_⟩
  intro hr
  rcases hh with rfl | hh
  ·clear i0 i1
   induction hr with
   | base h _=>exact h rfl
   | step a _ _ ih=>exact ih a
  ·omega⟩
 by_cases h0:w=0
 ·simp only [h0,decide_true,cond_true,AC]
  exact AA (by rw [← h0];exact empty (.inl h0))
 simp only [h0,decide_false,cond_false,AC]
 by_cases h1:l.length=0
 ·have e:decide ((l.length:Int)=0)=true:=decide_eq_true (by omega)
  simp only [e,cond_true]
  exact AA (empty (.inr h1))
 have e:decide ((l.length:Int)=0)=false:=decide_eq_false (by omega)
 simp only [e,cond_false]
 refine AL (BG (by omega) (by rw [List.length_replicate];omega)) (Cf (AR (AF (AA (AD (wp_loop (fun x:Ev=>x.1=l∧x.2.1=w∧BW l w (fun _=>False) x.2.2.1 x.2.2.2.1) (fun x=>x.2.2.2.1.length+2 * fls x.2.2.1) (Q:=fun x:List Bool×Unit=>RB l w x.1) (fun x hx=>?_) ⟨rfl,rfl,BW.zero hg h0 (by omega)⟩) fun x hx=>AA hx)))))
 obtain⟨x1,x2,o,t,_⟩:=x
 simp only at hx
 obtain⟨rfl,rfl,hb⟩:=hx
 unfold Io
 simp only
 cases t with
 | nil=>
  refine AM (fun hj=>?_) fun hj=>AN (AA (Ak ⟨hb.len,hb.done hg⟩))
  have:=of_decide_eq_true hj
  simp at this
 | cons k t=>
  have hp:0<((k::t).length:Int):=by simp only [List.length_cons];omega
  have hk:=hb.rng k (List.mem_cons_self ..)
  obtain⟨k0,k1⟩:=hk.rng hg
  have hsub:Gf (k::t) (1:Int) (List.length (k::t):Int)=t:=by simp [Gf]
  have hg0:rd (k::t) (0:Int) (0:Int)=k:=rfl
  refine AM (fun _=>?_) fun hj=>absurd hp (of_decide_eq_false hj)
  rw [hg0,hsub]
  refine AR (AL (BG (by omega) hp) (AL ⟨by omega,by omega,by omega⟩ (AL (BG k0 k1) (AR (AF (AA (AD (Un (M:=t.length+2 * fls o) hg hk hb.pop (Nat.le_refl _)) fun y hy=>AA (AN (AA (Al ⟨⟨hy.1,hy.2.1,hy.2.2.1⟩,?_⟩))))))))))
  have:=hy.2.2.2
  simp only [List.length_cons];omega
end Go.Proofs.YtmakhmoielhjeaaGreatDoorE
namespace Go.Proofs.YtmakhmoielhjeaaGreatDoorE
set_option linter.all false
set_option maxRecDepth 100000
theorem SW {l:List Int} {i:Int} (h0:0≤i) (h1:i<(l.length:Int)):l.drop i.toNat=rd l i 0::l.drop (i+1).toNat:=by
 have hi:i.toNat<l.length:=by omega
 rw [List.drop_eq_getElem_cons hi,show(i+1).toNat=i.toNat+1 by omega]
 simp [rd,List.getD_eq_getElem?_getD,List.getElem?_eq_getElem hi]
theorem UN {l:List Int} {i n:Int} (h0:0≤i) (h1:i<(l.length:Int)):(l++[n]).drop (i+1).toNat=l.drop (i+1).toNat++[n]:=List.drop_append_of_le_length (by omega)
theorem Uo {l:List BLK} {i k:Int} (hg:GOk l) (hk:Rea l (-1) k) {out:List Bool} {all:List Int} (i0:0≤i) (i1:i<(all.length:Int)) (hal:all.length+fls out≤1000) (h:BW l (-1) (fun i=>i=k) out (all.drop (i+1).toNat)) {M:Nat} (hM:(all.drop (i+1).toNat).length+2 * fls out≤M):
 wp (AH HA (l,out,all,i,(rd l k zB).2.2,(0:Int),())) fun y=>y.1=l∧y.2.2.2.1=i∧i<(y.2.2.1.length:Int)∧y.2.2.1.length+fls y.2.1≤1000∧BQ l (-1) M y.2.1 (y.2.2.1.drop (i+1).toNat):=by
 have hnl:=hg.nl k
 have hnx:=hg.nx k
 generalize hN:(rd l k zB).2.2=N at *
 refine wp_loop (fun x:Ga=>x.1=l∧BW l (-1) (fun i=>i=k) x.2.1 (x.2.2.1.drop (i+1).toNat)∧x.2.2.2.1=i∧x.2.2.2.2.1=N∧0≤x.2.2.2.2.2.1∧x.2.2.2.2.2.1≤(N.length:Int)∧(x.2.2.1.drop (i+1).toNat).length+2 * fls x.2.1≤M∧i<(x.2.2.1.length:Int)∧x.2.2.1.length+fls x.2.1≤1000∧∀ n∈N.take x.2.2.2.2.2.1.toNat,rd x.2.1 n false=true) (fun x=>(N.length - x.2.2.2.2.2.1).toNat) (fun x hx=>?_) ⟨rfl,h,rfl,rfl,by simp,by simp,hM,i1,hal,by simp⟩
 obtain⟨x1,o,t,x4,x5,j,_⟩:=x
 simp only at hx
 obtain⟨rfl,hb,rfl,rfl,j0,j1,hm,hit,hsz0,hc⟩:=hx
 unfold HA
 simp only
 refine AM (fun hj=>?_) fun hj=>AN (AA (Ak ⟨rfl,rfl,hit,hsz0,hb.close (by
  have:=of_decide_eq_false hj
  rw [Ll (by omega)] at hc
  rw [hN];exact fun n hn _=>hc n hn),hm⟩))
 have hj':=of_decide_eq_true hj
 have hmem:=CE x5 j 0 j0 hj'
 obtain⟨n0,n1⟩:=hnx _ hmem
 have wj:IntKind.wrap .i64 (j+1)=j+1:=Af (by omega) (by omega)
 have hlen:=hb.len
 have hij:∀ {α:Type} {K:Option α},(Cnd.idx j (List.length x5)).run K=K:=fun {α} {K}=>Bh j0 hj'
 have hre:Rea x1 (-1) (rd x5 j 0):=.step hk (by rw [hN];exact hmem) (by omega)
 have hi:∀ {α:Type} {K:Option α},(Cnd.idx (rd x5 j 0) (List.length o)).run K=K:=fun {α} {K}=>Bh n0 (by omega)
 simp only [hij,wj,hi]
 cases ho:rd o (rd x5 j 0) false
 ·obtain⟨hv1,hv2⟩:=hb.vis hg hre ho
  have hf:=Pm n0 (by omega) ho
  have hle:∀ {α:Type} {K:Option α},(Cnd.le ((List.length t+List.length [rd x5 j 0]) * 8) 140737488355328).run K=K:=fun {α} {K}=>Bx (by simp only [List.length_singleton];omega)
  simp only [Bool.not_false,cond_true,Av,hle,AC,wj]
  refine AN (AA (Al ⟨⟨rfl,by simp only;rw [UN i0 hit];exact hv1,rfl,rfl,by simp only;omega,by simp only;omega,by simp only;rw [UN i0 hit];omega,by simp only [List.length_append,List.length_singleton];omega,by simp only [List.length_append,List.length_singleton];omega,fun n hn=>?_⟩,by simp only;omega⟩))
  have hr:=HN o (rd x5 j 0) n true false n0 (by omega)
  rcases Ij j0 hj' hn with hn | hn
  ·rw [hr (hnx n (List.mem_of_mem_take hn)).1];split
   ·rfl
   ·exact hc n hn
  ·rw [hr (by rw [hn];exact n0),if_pos hn]
 ·simp only [Bool.not_true,cond_false,AC,wj]
  refine AN (AA (Al ⟨⟨rfl,hb,rfl,rfl,by simp only;omega,by simp only;omega,hm,hit,hsz0,fun n hn=>?_⟩,by simp only;omega⟩))
  rcases Ij j0 hj' hn with hn | hn
  ·exact hc n hn
  ·rw [hn];exact ho
theorem Sr {l:List BLK} (hg:GOk l) (hp:0<l.length):wp (DY l) fun y=>RB l (-1) y.1:=by
 have hn:=hg.n
 unfold DY
 refine AL ⟨by show(0:Int)≤_;omega,by show _≤_;omega⟩ ?_
 simp only [Int.toNat_natCast]
 have hz:=BW.zero (w:=-1) hg (by omega) hp
 have hsz:=hz.sz
 refine AL (BG (by omega) (by rw [List.length_replicate];omega)) (Cf (AR (AF (AA (AD (wp_loop (fun x:Gb=>x.1=l∧0≤x.2.2.2.1∧x.2.2.2.1≤(x.2.2.1.length:Int)∧x.2.2.1.length+fls x.2.1≤1000∧BW l (-1) (fun _=>False) x.2.1 (x.2.2.1.drop x.2.2.2.1.toNat)) (fun x=>(x.2.2.1.drop x.2.2.2.1.toNat).length+2 * fls x.2.1) (Q:=fun x:List Bool×Unit=>RB l (-1) x.1) (fun x hx=>?_) ⟨rfl,by simp,by simp,hsz,hz⟩) fun x hx=>AA hx)))))
 obtain⟨x1,o,t,i,_⟩:=x
 simp only at hx
 obtain⟨rfl,i0,i1,hs,hb⟩:=hx
 unfold KN
 simp only
 refine AM (fun hj=>?_) fun hj=>AN (AA (Ak ⟨hb.len,?_⟩))
 ·have hj':=of_decide_eq_true hj
  have wi:IntKind.wrap .i64 (i+1)=i+1:=Af (by omega) (by omega)
  rw [SW i0 hj'] at hb
  have hk:=hb.rng _ (List.mem_cons_self ..)
  obtain⟨k0,k1⟩:=hk.rng hg
  refine AR (AL (BG i0 hj') (AL (BG k0 k1) (AR (AF (AA (AD (Uo (M:=(t.drop (i+1).toNat).length+2 * fls o) hg hk i0 hj' hs hb.pop (Nat.le_refl _)) fun y hy=>AA (AN (AA (Al ?_)))))))))
  obtain⟨y1,y2,y3,y4,_⟩:=y
  simp only at hy ⊢
  obtain⟨rfl,rfl,g1,g2,g3,g4⟩:=hy
  rw [SW i0 hj',wi]
  exact⟨⟨rfl,by omega,by omega,g2,g3⟩,by simp only [List.length_cons];omega⟩
 ·have hj':=of_decide_eq_false hj
  rw [List.drop_of_length_le (by omega)] at hb
  exact hb.done hg
def tbl (d:List (List Bool)) (i k:Int):Bool:=rd (rd d i []) k false
structure Sq (d:List (List Bool)) (m:Nat):Prop where
 h:d.length=m
 w:∀ r∈d,(r:List Bool).length=m
theorem Sq.row {d:List (List Bool)} {m:Nat} (h:Sq d m) {i:Int} (i0:0≤i) (i1:i<(m:Int)):(rd d i []).length=m:=h.w _ (CE d i [] i0 (by have:=h.h;omega))
theorem Sq.set {d:List (List Bool)} {m:Nat} (h:Sq d m) {r:List Bool} (hr:r.length=m) (n:Nat):Sq (d.set n r) m:=
 ⟨by rw [List.length_set];exact h.h,fun x hx=>by
  rcases List.mem_or_eq_of_mem_set hx with hx | hx
  ·exact h.w x hx
  ·rw [hx];exact hr⟩
theorem WK {d:List (List Bool)} {m:Nat} (h:Sq d m) {i k:Int} (i0:0≤i) (i1:i<(m:Int)) (k0:0≤k) (k1:k<(m:Int)) (v:Bool) {a b:Int} (a0:0≤a) (b0:0≤b):
 tbl (d.set i.toNat ((rd d i []).set k.toNat v)) a b=if a=i∧b=k then v else tbl d a b:=by
 unfold tbl
 rw [HN d i a _ _ i0 (by have:=h.h;omega) a0]
 by_cases e:a=i
 ·subst e
  rw [if_pos rfl,HN (rd d a []) k b _ _ k0 (by have:=h.row i0 i1;omega) b0]
  by_cases e2:b=k
  ·rw [if_pos e2,if_pos ⟨rfl,e2⟩]
  ·rw [if_neg e2,if_neg (fun h=>e2 h.2)]
 ·rw [if_neg e,if_neg (fun h=>e h.1)]
theorem Sq.ext {d e:List (List Bool)} {m:Nat} (hd:Sq d m) (he:Sq e m) (h:∀ i k:Int,0≤i→i<(m:Int)→0≤k→k<(m:Int)→tbl d i k=tbl e i k):d=e:=by
 refine List.ext_getElem (by rw [hd.h,he.h]) fun i h1 h2=>?_
 have r1:=hd.row (i:=(i:Int)) (by omega) (by have:=hd.h;omega)
 have r2:=he.row (i:=(i:Int)) (by omega) (by have:=hd.h;omega)
 have hh:=fun k=>h (i:Int) k (by omega) (by have:=hd.h;omega)
 unfold tbl at hh
 rw [Ad h1] at r1 hh
 rw [Ad h2] at r2 hh
 refine List.ext_getElem (by rw [r1,r2]) fun k g1 g2=>?_
 have:=hh (k:Int) (by omega) (by omega)
 rwa [Ad g1,Ad g2] at this
def t1 (b:Bool):Nat:=bif b then 1 else 0
def trw (r:List Bool):Nat:=(r.map t1).sum
def tT (d:List (List Bool)):Nat:=(d.map trw).sum
theorem jA {d:List (List Bool)} {m:Nat} (h:Sq d m) {i k:Int} (i0:0≤i) (i1:i<(m:Int)) (k0:0≤k) (k1:k<(m:Int)) (hv:tbl d i k=true):tT (d.set i.toNat ((rd d i []).set k.toNat false))+1=tT d:=by
 have hi:i.toNat<d.length:=by have:=h.h;omega
 have hrw:=h.row i0 i1
 have hk:k.toNat<(rd d i []).length:=by omega
 have e1:rd d i []=d[i.toNat]:=by simp [rd,List.getD_eq_getElem?_getD,List.getElem?_eq_getElem hi]
 have e2:(rd d i [])[k.toNat]=true:=by
  rw [← hv];unfold tbl;generalize rd d i []=r at hk ⊢;simp [rd,List.getD_eq_getElem?_getD,List.getElem?_eq_getElem hk]
 have s1:=SG trw d i.toNat ((rd d i []).set k.toNat false) hi
 have s2:=SG t1 (rd d i []) k.toNat false hk
 rw [e2] at s2
 rw [← e1] at s1
 unfold tT
 have s2':trw ((rd d i []).set k.toNat false)+1=trw (rd d i []):=by
  unfold trw;simpa [t1] using s2
 omega
structure MQ (d:List (List Bool)) (m:Nat) (to fr:Int) (some:Bool) (e:List (List Bool)) (j:Int):Prop where
 sq:Sq e m
 oth:∀ i k,0≤i→0≤k→i≠to→tbl e i k=tbl d i k
 lo:∀ k,0≤k→k<j→tbl e to k=(tbl d to k && (decide (k=to) || tbl d fr k))
 hi:∀ k,j≤k→tbl e to k=tbl d to k
 no:some=false→e=d
 ys:some=true→tT e<tT d
 le:tT e≤tT d
theorem dK {d:List (List Bool)} {m:Nat} (h:Sq d m) (hm:m≤400) {to fr:Int} (t0:0≤to) (t1':to<(m:Int)) (f0:0≤fr) (f1:fr<(m:Int)):wp (Ji d to fr) fun y=>MQ d m to fr y.1 y.2.1 (m:Int):=by
 unfold Ji
 refine AR (AF (AA (AD (wp_loop (fun x:GB=>x.1=to∧x.2.1=fr∧0≤x.2.2.2.1∧x.2.2.2.1≤(m:Int)∧MQ d m to fr x.2.2.1 x.2.2.2.2.1 x.2.2.2.1) (fun x=>(m - x.2.2.2.1).toNat) (Q:=fun y:Bool×List (List Bool)×Unit=>MQ d m to fr y.1 y.2.1 (m:Int)) (fun x hx=>?_) ⟨rfl,rfl,by simp,by simp,⟨h,fun _ _ _ _ _=>rfl,fun k h1 h2=>by simp only at h2;omega,fun _ _=>rfl,fun _=>rfl,fun e=>(by cases e),Nat.le_refl _⟩⟩) fun y hy=>AA hy)))
 obtain⟨x1,x2,s,j,e,_⟩:=x
 simp only at hx
 obtain⟨rfl,rfl,j0,j1,hq⟩:=hx
 have hlen:=hq.sq.h
 unfold Lt
 simp only
 refine AM (fun hj=>?_) fun hj=>AN (AA (Ak ?_))
 ·have hj':=of_decide_eq_true hj
  have j1':j<(m:Int):=by omega
  have wj:IntKind.wrap .i64 (j+1)=j+1:=Af (by omega) (by omega)
  have r1:=hq.sq.row t0 t1'
  have r2:=hq.sq.row f0 f1
  have i1:∀ {α:Type} {K:Option α},(Cnd.idx x1 (List.length e)).run K=K:=fun {α} {K}=>Bh t0 (by omega)
  have i2:∀ {α:Type} {K:Option α},(Cnd.idx x2 (List.length e)).run K=K:=fun {α} {K}=>Bh f0 (by omega)
  have i3:∀ {α:Type} {K:Option α},(Cnd.idx j (List.length (rd e x1 []))).run K=K:=fun {α} {K}=>Bh j0 (by omega)
  have i4:∀ {α:Type} {K:Option α},(Cnd.idx j (List.length (rd e x2 []))).run K=K:=fun {α} {K}=>Bh j0 (by omega)
  have hfr:tbl e x2 j=tbl d x2 j:=by
   by_cases e2:x2=x1
   ·rw [e2];exact hq.hi j (by omega)
   ·exact hq.oth x2 j f0 j0 e2
  have keep:(tbl d x1 j && (decide (j=x1) || tbl d x2 j))=tbl d x1 j→MQ d m x1 x2 s e (j+1):=fun hk=>⟨hq.sq,hq.oth,fun k k0 k1=>by
   by_cases e2:k=j
   ·subst e2;rw [hk];exact hq.hi k (by omega)
   ·exact hq.lo k k0 (by omega),fun k hk=>hq.hi k (by omega),hq.no,hq.ys,hq.le⟩
  have he1:rd (rd e x1 []) j false=tbl e x1 j:=rfl
  have he2:rd (rd e x2 []) j false=tbl e x2 j:=rfl
  simp only [i1,i2,i3,i4,wj,he1,he2,hfr,hq.hi j (by omega)]
  have fin:∀ s' e',MQ d m x1 x2 s' e' (j+1)→wp (Option.map Sum.inl (some (x1,x2,s',j+1,e',()))) fun z:GB ⊕ (Bool×List (List Bool)×Unit)=>(∀ b',z=Sum.inl b'→(b'.1=x1∧b'.2.1=x2∧0≤b'.2.2.2.1∧b'.2.2.2.1≤(m:Int)∧MQ d m x1 x2 b'.2.2.1 b'.2.2.2.2.1 b'.2.2.2.1)∧((m:Int) - b'.2.2.2.1).toNat<((m:Int) - j).toNat)∧∀ r,z=Sum.inr r→MQ d m x1 x2 r.1 r.2.1 (m:Int):=fun s' e' h=>AN (AA (Al ⟨⟨rfl,rfl,by simp only;omega,by simp only;omega,h⟩,by simp only;omega⟩))
  by_cases ej:j=x1
  ·subst ej
   simp only [ne_eq,eq_self,not_true_eq_false,decide_false,cond_false,AC,wj]
   exact fin _ _ (keep (by simp))
  ·have ej':decide (j=x1)=false:=decide_eq_false ej
   simp only [ne_eq,ej,not_false_eq_true,decide_true,cond_true]
   cases c1:tbl d x1 j
   ·simp only [cond_false,AC,wj]
    exact fin _ _ (keep (by rw [c1];rfl))
   ·cases c2:tbl d x2 j
    ·simp only [Bool.not_false,cond_true,AC,Av,wj,i1,i3]
     refine fin _ _ ?_
     have hts:=fun {a b:Int}=>WK (a:=a) (b:=b) hq.sq t0 t1' j0 j1' false
     have htt:=jA hq.sq t0 t1' j0 j1' (by rw [hq.hi j (by omega)];exact c1)
     refine⟨hq.sq.set (by rw [List.length_set];exact r1) _,fun i k i0 k0 hi=>?_,fun k k0 k1=>?_,fun k hk=>?_,fun e=>(by cases e),fun _=>?_,?_⟩
     ·rw [hts i0 k0,if_neg (fun h=>hi h.1)];exact hq.oth i k i0 k0 hi
     ·rw [hts t0 k0]
      by_cases e2:k=j
      ·subst e2;rw [if_pos ⟨rfl,rfl⟩,c1,c2,ej'];rfl
      ·rw [if_neg (fun h=>e2 h.2)];exact hq.lo k k0 (by omega)
     ·rw [hts t0 (by omega),if_neg (fun h=>by omega)];exact hq.hi k (by omega)
     ·have:=hq.le;omega
     ·have:=hq.le;omega
    ·simp only [Bool.not_true,cond_true,cond_false,AC,wj]
     exact fin _ _ (keep (by rw [c1,c2];simp))
 ·have hj':=of_decide_eq_false hj
  have:j=(m:Int):=by omega
  subst this;exact hq
end Go.Proofs.YtmakhmoielhjeaaGreatDoorE
namespace Go.Proofs.YtmakhmoielhjeaaGreatDoorE
set_option linter.all false
set_option maxRecDepth 100000
theorem Rea.all {l:List BLK} (hg:GOk l) {w i:Int} (h:Rea l w i):Rea l (-1) i:=by
 induction h with
 | base _ hp=>exact .base (by omega) hp
 | step _ hn _ ih=>exact .step ih hn (by have:=hg.nx _ _ hn;omega)
structure DM (l:List BLK) (d:List (List Bool)):Prop where
 sq:Sq d l.length
 v:∀ i k:Int,0≤i→i<(l.length:Int)→0≤k→k<(l.length:Int)→(tbl d i k=false↔Rea l k i)
theorem DM.uniq {l:List BLK} {d e:List (List Bool)} (hd:DM l d) (he:DM l e):d=e:=
 hd.sq.ext he.sq fun i k i0 i1 k0 k1=>by
  have h1:=hd.v i k i0 i1 k0 k1
  have h2:=he.v i k i0 i1 k0 k1
  cases a:tbl d i k<;>cases b:tbl e i k<;>rw [a] at h1<;>rw [b] at h2<;>simp_all
theorem iq {D:Type} (l:List D) (x z:D) (a:Int) (h0:0≤a):rd (l++[x]) a z=if a=(l.length:Int) then x else rd l a z:=by
 unfold rd
 rw [List.getD_eq_getElem?_getD,List.getD_eq_getElem?_getD]
 by_cases e:a=(l.length:Int)
 ·rw [if_pos e,List.getElem?_append_right (by omega)]
  rw [show a.toNat - l.length=0 by omega];rfl
 ·rw [if_neg e]
  by_cases e2:a.toNat<l.length
  ·rw [List.getElem?_append_left e2]
  ·rw [List.getElem?_eq_none (by simp;omega),List.getElem?_eq_none (by omega)]
def r0 (i k:Int):Bool:=decide (0<i) || decide (k=0)
theorem dX {l:List BLK} {m:Nat} (hm:m≤400) {d:List (List Bool)} {i:Int}:wp (AH Jp (l,(m:Int),d,i,List.replicate m false,(0:Int),())) fun y=>y.1=l∧y.2.1=(m:Int)∧y.2.2.1=d∧y.2.2.2.1=i∧y.2.2.2.2.1.length=m∧∀ k,0≤k→k<(m:Int)→rd y.2.2.2.2.1 k false=r0 i k:=by
 refine wp_loop (fun x:Gj=>x.1=l∧x.2.1=(m:Int)∧x.2.2.1=d∧x.2.2.2.1=i∧x.2.2.2.2.1.length=m∧0≤x.2.2.2.2.2.1∧x.2.2.2.2.2.1≤(m:Int)∧∀ k,0≤k→k<x.2.2.2.2.2.1→rd x.2.2.2.2.1 k false=r0 i k) (fun x=>(m - x.2.2.2.2.2.1).toNat) (fun x hx=>?_) ⟨rfl,rfl,rfl,rfl,by simp,by simp,by simp,fun k h1 h2=>by simp only at h2;omega⟩
 obtain⟨x1,x2,x3,x4,r,j,_⟩:=x
 simp only at hx
 obtain⟨rfl,rfl,rfl,rfl,hl,j0,j1,hv⟩:=hx
 unfold Jp
 simp only
 refine AM (fun hj=>?_) fun hj=>AN (AA (Ak ⟨rfl,rfl,rfl,rfl,hl,fun k k0 k1=>hv k k0 (by have:=of_decide_eq_false hj;omega)⟩))
 have hj':=of_decide_eq_true hj
 have wj:IntKind.wrap .i64 (j+1)=j+1:=Af (by omega) (by omega)
 have hi:∀ {α:Type} {K:Option α},(Cnd.idx j (List.length r)).run K=K:=fun {α} {K}=>Bh j0 (by omega)
 have fin:∀ v,v=r0 x4 j→wp (Option.map Sum.inl (some (x1,(m:Int),x3,x4,r.set j.toNat v,j+1,()))) fun z:Gj ⊕ (List BLK×Int×List (List Bool)×Int×List Bool×Unit)=>(∀ b',z=Sum.inl b'→(b'.1=x1∧b'.2.1=(m:Int)∧b'.2.2.1=x3∧b'.2.2.2.1=x4∧b'.2.2.2.2.1.length=m∧0≤b'.2.2.2.2.2.1∧b'.2.2.2.2.2.1≤(m:Int)∧∀ k,0≤k→k<b'.2.2.2.2.2.1→rd b'.2.2.2.2.1 k false=r0 x4 k)∧((m:Int) - b'.2.2.2.2.2.1).toNat<((m:Int) - j).toNat)∧∀ y,z=Sum.inr y→y.1=x1∧y.2.1=(m:Int)∧y.2.2.1=x3∧y.2.2.2.1=x4∧y.2.2.2.2.1.length=m∧∀ k,0≤k→k<(m:Int)→rd y.2.2.2.2.1 k false=r0 x4 k:=fun v hvv=>
  AN (AA (Al ⟨⟨rfl,rfl,rfl,rfl,by simp only [List.length_set];exact hl,by simp only;omega,by simp only;omega,fun k k0 k1=>by
   simp only at k1 ⊢
   rw [HN r j k _ _ j0 (by omega) k0]
   split
   ·rename_i e;rw [e];exact hvv
   ·exact hv k k0 (by omega)⟩,by simp only;omega⟩))
 simp only [hi,wj,Av]
 by_cases e:(0:Int)<x4
 ·simp only [e,decide_true,cond_true,AC,wj]
  exact fin true (by simp [r0,e])
 ·simp only [e,decide_false,cond_false,AC,wj]
  exact fin _ (by simp [r0,e])
structure PI (l:List BLK) (d:List (List Bool)):Prop where
 sq:Sq d l.length
 r0:∀ k,0≤k→k<(l.length:Int)→tbl d 0 k=decide (k=0)
 snd:∀ i k,0≤i→i<(l.length:Int)→0≤k→k<(l.length:Int)→tbl d i k=false→Rea l k i
theorem PI.meet {l:List BLK} (hg:GOk l) {d e:List (List Bool)} {s:Bool} {to fr:Int} (hp:PI l d) (hn:to∈(rd l fr zB).2.2) (f0:0≤fr) (f1:fr<(l.length:Int)) (ht:0<to) (h:MQ d l.length to fr s e (l.length:Int)):PI l e:=by
 refine⟨h.sq,fun k k0 k1=>by rw [h.oth 0 k (by omega) k0 (by omega)];exact hp.r0 k k0 k1,fun i k i0 i1 k0 k1 hf=>?_⟩
 by_cases e2:i=to
 ·subst e2
  rw [h.lo k k0 k1] at hf
  cases c:tbl d i k
  ·exact hp.snd i k i0 i1 k0 k1 c
  ·rw [c,Bool.true_and,Bool.or_eq_false_iff] at hf
   exact .step (hp.snd fr k f0 f1 k0 k1 hf.2) hn (fun e=>by have:=of_decide_eq_false hf.1;omega)
 ·rw [h.oth i k i0 k0 e2] at hf
  exact hp.snd i k i0 i1 k0 k1 hf
def ClW (m:Nat) (d:List (List Bool)) (a n:Int):Prop:=∀ k,0≤k→k<(m:Int)→k≠n→tbl d n k=true→tbl d a k=true
structure PV (l:List BLK) (d0 d:List (List Bool)) (s:Bool) (C:Int→Int→Prop):Prop where
 pi:PI l d
 le:tT d≤tT d0
 ys:s=true→tT d<tT d0
 no:s=false→d=d0∧∀ a n,C a n→ClW l.length d0 a n
theorem PV.same {l:List BLK} {d0 d:List (List Bool)} {s:Bool} {C C':Int→Int→Prop} (h:PV l d0 d s C) (hc:∀ a n,C' a n→C a n):PV l d0 d s C':=⟨h.pi,h.le,h.ys,fun e=>⟨(h.no e).1,fun a n x=>(h.no e).2 a n (hc a n x)⟩⟩
theorem PV.meet {l:List BLK} (hg:GOk l) {d0 d e:List (List Bool)} {s s':Bool} {C C':Int→Int→Prop} {to fr:Int} (h:PV l d0 d s C) (hn:to∈(rd l fr zB).2.2) (f0:0≤fr) (f1:fr<(l.length:Int)) (ht:0<to) (hq:MQ d l.length to fr s' e (l.length:Int))
 (hc:∀ a n,C' a n→C a n∨(a=fr∧n=to)):PV l d0 e (bif s' then true else s) C':=by
 have hle:=hq.le
 have hle2:=h.le
 refine⟨h.pi.meet hg hn f0 f1 ht hq,by omega,fun hs=>?_,fun hs=>?_⟩
 ·cases hs':s'
  ·rw [hs',cond_false] at hs
   have:=h.ys hs;omega
  ·have:=hq.ys hs';omega
 ·cases hs':s'
  ·rw [hs',cond_false] at hs
   have e1:=hq.no hs'
   obtain⟨e2,e3⟩:=h.no hs
   subst e1
   refine⟨e2,fun a n ha=>?_⟩
   rcases hc a n ha with ha | ⟨rfl,rfl⟩
   ·exact e3 a n ha
   ·intro k k0 k1 hk ht2
    rw [← e2] at ht2 ⊢
    have:=hq.lo k k0 k1
    rw [ht2,Bool.true_and,decide_eq_false hk,Bool.false_or] at this
    exact this.symm
  ·rw [hs',cond_true] at hs;cases hs
def CP3 (l:List BLK) (r:List Bool) (i:Int) (j:Nat) (a n:Int):Prop:=rd r a false=true∧0<n∧0≤a∧((a<i∧n∈(rd l a zB).2.2)∨(a=i∧n∈(rd l a zB).2.2.take j))
def CP4 (l:List BLK) (r:List Bool) (i:Int) (a n:Int):Prop:=rd r a false=true∧0<n∧0≤a∧a<i∧n∈(rd l a zB).2.2
theorem ao {l:List BLK} (hg:GOk l) {r:List Bool} (hr:r.length=l.length) {d0 d:List (List Bool)} {s:Bool} {i:Int} (i0:0≤i) (i1:i<(l.length:Int)) (h:PV l d0 d s (CP4 l r i)):
 wp (AH Jq (l,(l.length:Int),d,r,s,i,(0:Int),())) fun y=>y.1=l∧y.2.1=(l.length:Int)∧y.2.2.2.1=r∧y.2.2.2.2.2.1=i∧PV l d0 y.2.2.1 y.2.2.2.2.1 (CP4 l r (i+1)):=by
 have hn:=hg.n
 have hnl:=hg.nl i
 have hnx:=hg.nx i
 refine wp_loop (fun x:JG=>x.1=l∧x.2.1=(l.length:Int)∧x.2.2.2.1=r∧x.2.2.2.2.2.1=i∧0≤x.2.2.2.2.2.2.1∧x.2.2.2.2.2.2.1≤((rd l i zB).2.2.length:Int)∧PV l d0 x.2.2.1 x.2.2.2.2.1 (CP3 l r i x.2.2.2.2.2.2.1.toNat)) (fun x=>((rd l i zB).2.2.length - x.2.2.2.2.2.2.1).toNat) (fun x hx=>?_) ⟨rfl,rfl,rfl,rfl,by simp,by simp,h.same fun a n hc=>?_⟩
 ·obtain⟨x1,x2,x3,x4,x5,x6,j,_⟩:=x
  simp only at hx
  obtain⟨rfl,rfl,rfl,rfl,j0,j1,hv⟩:=hx
  have wj:IntKind.wrap .i64 (j+1)=j+1:=Af (by omega) (by omega)
  have hi1:∀ {α:Type} {K:Option α},(Cnd.idx x6 (List.length x1)).run K=K:=fun {α} {K}=>Bh i0 i1
  have hi2:∀ {α:Type} {K:Option α},(Cnd.idx x6 (List.length x4)).run K=K:=fun {α} {K}=>Bh i0 (by omega)
  unfold Jq
  simp only [hi1,hi2,wj]
  by_cases hj:j<((rd x1 x6 zB).2.2.length:Int)
  ·have hj3:∀ {α:Type} {K:Option α},(Cnd.idx j (List.length (rd x1 x6 zB).2.2)).run K=K:=fun {α} {K}=>Bh j0 hj
   have hmem:=CE (rd x1 x6 zB).2.2 j 0 j0 hj
   obtain⟨n0,n1⟩:=hnx _ hmem
   simp only [hj,decide_true,cond_true,AC,hj3,hi1,hi2,wj]
   refine AM (fun hre=>?_) fun hre=>AN (AA (Ak ⟨rfl,rfl,rfl,rfl,hv.same fun a n hc=>?_⟩))
   ·by_cases h0:0<rd (rd x1 x6 zB).2.2 j 0
    ·simp only [h0,decide_true,cond_true]
     refine AR (AF (AD (dK hv.pi.sq hn n0 n1 i0 i1) fun y hy=>AA ?_))
     have hpv:=hv.meet (C':=CP3 x1 x4 x6 (j+1).toNat) hg hmem i0 i1 h0 hy (fun a n hc=>by
      obtain⟨g1,g2,g3,g4⟩:=hc
      rcases g4 with g4 | ⟨rfl,g4⟩
      ·exact .inl ⟨g1,g2,g3,.inl g4⟩
      ·rcases Ij j0 hj g4 with g4 | g4
       ·exact .inl ⟨g1,g2,g3,.inr ⟨rfl,g4⟩⟩
       ·exact .inr ⟨rfl,g4⟩)
     simp only
     cases hy1:y.1
     ·rw [hy1,cond_false] at hpv
      simp only [cond_false,AC,wj]
      exact AN (AA (Al ⟨⟨rfl,rfl,rfl,rfl,by simp only;omega,by simp only;omega,hpv⟩,by simp only;omega⟩))
     ·rw [hy1,cond_true] at hpv
      simp only [cond_true,AC,wj]
      exact AN (AA (Al ⟨⟨rfl,rfl,rfl,rfl,by simp only;omega,by simp only;omega,hpv⟩,by simp only;omega⟩))
    ·simp only [h0,decide_false,cond_false,AC,wj]
     refine AN (AA (Al ⟨⟨rfl,rfl,rfl,rfl,by simp only;omega,by simp only;omega,hv.same fun a n hc=>?_⟩,by simp only;omega⟩))
     obtain⟨g1,g2,g3,g4⟩:=hc
     rcases g4 with g4 | ⟨rfl,g4⟩
     ·exact⟨g1,g2,g3,.inl g4⟩
     ·rcases Ij j0 hj g4 with g4 | g4
      ·exact⟨g1,g2,g3,.inr ⟨rfl,g4⟩⟩
      ·rw [g4] at g2;exact absurd g2 h0
   ·obtain⟨g1,g2,g3,g4,g5⟩:=hc
    refine⟨g1,g2,g3,.inl ⟨?_,g5⟩⟩
    rcases Int.lt_or_eq_of_le (Int.le_of_lt_add_one g4) with h | h
    ·exact h
    ·rw [h,hre] at g1;cases g1
  ·simp only [hj,decide_false,cond_false,AC,wj]
   refine AN (AA (Ak ⟨rfl,rfl,rfl,rfl,hv.same fun a n hc=>?_⟩))
   obtain⟨g1,g2,g3,g4,g5⟩:=hc
   rcases Int.lt_or_eq_of_le (Int.le_of_lt_add_one g4) with h | h
   ·exact⟨g1,g2,g3,.inl ⟨h,g5⟩⟩
   ·refine⟨g1,g2,g3,.inr ⟨h,?_⟩⟩
    rw [h,Ll (by omega)];rw [h] at g5;exact g5
 ·obtain⟨g1,g2,g3,g4⟩:=hc
  rcases g4 with g4 | ⟨_,g4⟩
  ·exact⟨g1,g2,g3,g4⟩
  ·simp at g4
theorem aq {l:List BLK} (hg:GOk l) {r:List Bool} (hr:r.length=l.length) {d0:List (List Bool)} (h:PI l d0):
 wp (AH Jr (l,(l.length:Int),d0,r,false,(0:Int),())) fun y=>y.1=l∧y.2.1=(l.length:Int)∧y.2.2.2.1=r∧PV l d0 y.2.2.1 y.2.2.2.2.1 (CP4 l r (l.length:Int)):=by
 have hn:=hg.n
 refine wp_loop (fun x:JH=>x.1=l∧x.2.1=(l.length:Int)∧x.2.2.2.1=r∧0≤x.2.2.2.2.2.1∧x.2.2.2.2.2.1≤(l.length:Int)∧PV l d0 x.2.2.1 x.2.2.2.2.1 (CP4 l r x.2.2.2.2.2.1)) (fun x=>(l.length - x.2.2.2.2.2.1).toNat) (fun x hx=>?_) ⟨rfl,rfl,rfl,by simp,by simp,⟨h,Nat.le_refl _,fun e=>(by cases e),fun _=>⟨rfl,fun a n hc=>by have:=hc.2.2.1;have:=hc.2.2.2.1;simp only at this;omega⟩⟩⟩
 obtain⟨x1,x2,x3,x4,x5,i,_⟩:=x
 simp only at hx
 obtain⟨rfl,rfl,rfl,i0,i1,hv⟩:=hx
 unfold Jr
 simp only
 refine AM (fun hj=>?_) fun hj=>AN (AA (Ak ⟨rfl,rfl,rfl,?_⟩))
 ·have hj':=of_decide_eq_true hj
  have wi:IntKind.wrap .i64 (i+1)=i+1:=Af (by omega) (by omega)
  refine AR (AR (AF (AA (AD (ao hg hr i0 hj' hv) fun y hy=>AA ?_))))
  obtain⟨y1,y2,y3,y4,y5,y6,_⟩:=y
  simp only at hy ⊢
  obtain⟨rfl,rfl,rfl,rfl,hy⟩:=hy
  rw [wi]
  exact AN (AA (Al ⟨⟨rfl,rfl,rfl,by simp only;omega,by simp only;omega,hy⟩,by simp only;omega⟩))
 ·have hj':=of_decide_eq_false hj
  have:i=(x1.length:Int):=by omega
  subst this;exact hv
theorem cg {c:CODE} {l:List BLK} (hg:GOk l) (hB:Bf c=some (l,())):wp (Ex c) fun y=>DM l y.1:=by
 have hn:=hg.n
 unfold Ex
 rw [hB,Option.bind_some]
 refine AR (AF (AA (AD (wp_loop (fun x:JF=>x.1=l∧x.2.1=(l.length:Int)∧0≤x.2.2.2.1∧x.2.2.2.1≤(l.length:Int)∧(x.2.2.1.length:Int)=x.2.2.2.1∧(∀ r∈x.2.2.1,(r:List Bool).length=l.length)∧∀ a k,0≤a→a<x.2.2.2.1→0≤k→k<(l.length:Int)→tbl x.2.2.1 a k=r0 a k) (fun x=>(l.length - x.2.2.2.1).toNat) (Q:=fun x:List BLK×Int×List (List Bool)×Unit=>x.1=l∧x.2.1=(l.length:Int)∧Sq x.2.2.1 l.length∧∀ a k,0≤a→a<(l.length:Int)→0≤k→k<(l.length:Int)→tbl x.2.2.1 a k=r0 a k) (fun x hx=>?_) ⟨rfl,rfl,by simp,by simp,rfl,by simp,fun a k h1 h2=>by simp only at h2;omega⟩) fun x hx=>?_)))
 ·obtain⟨x1,x2,d,i,_⟩:=x
  simp only at hx
  obtain⟨rfl,rfl,i0,i1,hl,hw,hv⟩:=hx
  unfold Mq
  simp only
  refine AM (fun hj=>?_) fun hj=>AN (AA (Ak ?_))
  ·have hj':=of_decide_eq_true hj
   have wi:IntKind.wrap .i64 (i+1)=i+1:=Af (by omega) (by omega)
   refine AR (AL ⟨by show(0:Int)≤_;omega,by show _≤_;omega⟩ (AR (AF (AA ?_))))
   simp only [Int.toNat_natCast]
   refine AD (dX hn) fun y hy=>?_
   obtain⟨y1,y2,y3,y4,row,_⟩:=y
   simp only at hy ⊢
   obtain⟨rfl,rfl,rfl,rfl,g1,g2⟩:=hy
   refine AL (show(_:Nat)≤_ by simp only [List.length_singleton];omega) (AA ?_)
   simp only [wi]
   refine AN (AA (Al ⟨⟨rfl,rfl,by simp only;omega,by simp only;omega,by simp only [List.length_append,List.length_singleton];omega,fun r hr=>?_,fun a k a0 a1 k0 k1=>?_⟩,by simp only;omega⟩))
   ·rcases List.mem_append.1 hr with hr | hr
    ·exact hw r hr
    ·rw [List.mem_singleton.1 hr];exact g1
   ·simp only at a1
    simp only [tbl]
    rw [iq y3 row [] a a0]
    split
    ·rename_i e
     rw [g2 k k0 k1,show a=y4 by omega]
    ·exact hv a k a0 (by omega) k0 k1
  ·have hj':=of_decide_eq_false hj
   have e:i=(x1.length:Int):=by omega
   subst e
   exact⟨rfl,rfl,⟨by simp only;omega,hw⟩,hv⟩
 ·obtain⟨x1,x2,d,_⟩:=x
  simp only at hx ⊢
  obtain⟨rfl,rfl,hsq,hv⟩:=hx
  refine AM (fun h0=>AA ⟨hsq,fun i k i0 i1=>by have:=of_decide_eq_true h0;omega⟩) fun h0=>?_
  have h0':=of_decide_eq_false h0
  have hp:0<x1.length:=by omega
  have hpi:PI x1 d:=⟨hsq,fun k k0 k1=>by rw [hv 0 k (by omega) (by omega) k0 k1];simp [r0],fun i k i0 i1 k0 k1 hf=>by
   rw [hv i k i0 i1 k0 k1] at hf
   simp only [r0,Bool.or_eq_false_iff,decide_eq_false_iff_not] at hf
   have:i=0:=by omega
   subst this
   exact .base hf.2 hp⟩
  refine AF (AD (Sr hg hp) fun y hy=>AR (AF (AA (AD (wp_loop (fun x:JI=>x.1=x1∧x.2.1=(x1.length:Int)∧x.2.2.2.1=y.1∧PI x1 x.2.2.1∧(x.2.2.2.2.1=false→∀ a n,CP4 x1 y.1 (x1.length:Int) a n→ClW x1.length x.2.2.1 a n)) (fun x=>2 * tT x.2.2.1+t1 x.2.2.2.2.1) (Q:=fun x:List (List Bool)×Unit=>DM x1 x.1) (fun x hx=>?_) ⟨rfl,rfl,rfl,hpi,fun e=>by cases e⟩) fun x hx=>AA hx))))
  obtain⟨z1,z2,e,r,s,_⟩:=x
  simp only at hx
  obtain⟨rfl,rfl,rfl,hpi,hcl⟩:=hx
  unfold Mr
  simp only
  refine AM (fun hs=>?_) fun hs=>AN (AA (Ak ⟨hpi.sq,fun i k i0 i1 k0 k1=>⟨hpi.snd i k i0 i1 k0 k1,fun hr=>?_⟩⟩))
  ·subst hs
   refine AR (AR (AF (AA (AD (aq hg hy.1 hpi) fun u hu=>AA (AN (AA (Al ⟨⟨hu.1,hu.2.1,hu.2.2.1,hu.2.2.2.pi,fun e2 a n hc=>?_⟩,?_⟩)))))))
   ·obtain⟨q1,q2⟩:=hu.2.2.2.no e2
    rw [q1];exact q2 a n hc
   ·have hle:=hu.2.2.2.le
    simp only
    cases hs2:u.2.2.2.2.1
    ·simp only [t1,cond_true,cond_false];omega
    ·have:=hu.2.2.2.ys hs2
     simp only [t1,cond_true];omega
  ·clear i0 i1
   have hc:=hcl hs
   induction hr with
   | base hk _=>rw [hpi.r0 k k0 k1];exact decide_eq_false hk
   | step hk hn hw ih=>
    rename_i a n
    obtain⟨n0,n1⟩:=hg.nx _ _ hn
    obtain⟨a0,a1⟩:=hk.rng hg
    by_cases e0:n=0
    ·subst e0;rw [hpi.r0 k k0 k1];exact decide_eq_false (fun e=>hw e.symm)
    ·have hr2:=(hy.2 a a0 a1).2 (hk.all hg)
     cases hf:tbl e n k
     ·rfl
     ·have:=hc a n ⟨hr2,by omega,a0,a1,hn⟩ k k0 k1 (fun e=>hw e.symm) hf
      rw [ih] at this;cases this
end Go.Proofs.YtmakhmoielhjeaaGreatDoorE
namespace Go.Proofs.YtmakhmoielhjeaaGreatDoorE
set_option linter.all false
set_option maxRecDepth 100000
theorem ZO {m:Nat} (hm:m≤400) (b:Bool):wp (Kx (m:Int) (m:Int) b) fun y=>Sq y.1 m:=by
 unfold Kx
 refine AR (AF (AA (AD (wp_loop (fun x:Ju=>x.1=(m:Int)∧x.2.1=b∧x.2.2.2.1=(m:Int)∧0≤x.2.2.2.2.1∧x.2.2.2.2.1≤(m:Int)∧(x.2.2.1.length:Int)=x.2.2.2.2.1∧∀ r∈x.2.2.1,(r:List Bool).length=m) (fun x=>(m - x.2.2.2.2.1).toNat) (Q:=fun x:List (List Bool)×Unit=>Sq x.1 m) (fun x hx=>?_) ⟨rfl,rfl,rfl,by simp,by simp,rfl,by simp⟩) fun y hy=>AA hy)))
 obtain⟨x1,x2,d,x4,i,_⟩:=x
 simp only at hx
 obtain⟨rfl,rfl,rfl,i0,i1,hl,hw⟩:=hx
 unfold Ns
 simp only
 refine AM (fun hj=>?_) fun hj=>AN (AA (Ak ⟨by have:=of_decide_eq_false hj;simp only;omega,hw⟩))
 have hj':=of_decide_eq_true hj
 have wi:IntKind.wrap .i64 (i+1)=i+1:=Af (by omega) (by omega)
 refine AR (AL ⟨by show(0:Int)≤_;omega,by show _≤_;omega⟩ (AR (AF (AA (AD (wp_loop (fun x:Js=>x.1=(m:Int)∧x.2.1=x2∧x.2.2.1=d∧x.2.2.2.1.length=m∧x.2.2.2.2.1=(m:Int)∧x.2.2.2.2.2.1=i∧x.2.2.2.2.2.2.1=(m:Int)∧0≤x.2.2.2.2.2.2.2.1) (fun x=>(m - x.2.2.2.2.2.2.2.1).toNat) (Q:=fun x:Int×Bool×List (List Bool)×List Bool×Int×Int×Unit=>x.1=(m:Int)∧x.2.1=x2∧x.2.2.1=d∧x.2.2.2.1.length=m∧x.2.2.2.2.1=(m:Int)∧x.2.2.2.2.2.1=i) (fun x hx=>?_) ⟨rfl,rfl,rfl,by simp,rfl,rfl,by simp,by simp⟩) fun y hy=>?_)))))
 ·obtain⟨z1,z2,z3,r,z5,z6,z7,j,_⟩:=x
  simp only at hx
  obtain⟨rfl,rfl,rfl,g1,rfl,rfl,rfl,j0⟩:=hx
  unfold Nq
  simp only
  refine AM (fun hk=>?_) fun hk=>AN (AA (Ak ⟨rfl,rfl,rfl,g1,rfl,rfl⟩))
  have hk':=of_decide_eq_true hk
  have wj:IntKind.wrap .i64 (j+1)=j+1:=Af (by omega) (by omega)
  rw [wj]
  exact AL (BG j0 (by omega)) (Cf (AN (AA (Al ⟨⟨rfl,rfl,rfl,by simp only [List.length_set];exact g1,rfl,rfl,rfl,by simp only;omega⟩,by simp only;omega⟩))))
 ·obtain⟨y1,y2,y3,r,y5,y6,_⟩:=y
  simp only at hy ⊢
  obtain⟨rfl,rfl,rfl,g1,rfl,rfl⟩:=hy
  refine AL (show(_:Nat)≤_ by simp only [List.length_singleton];omega) (AA ?_)
  simp only [wi]
  refine AN (AA (Al ⟨⟨rfl,rfl,rfl,by simp only;omega,by simp only;omega,by simp only [List.length_append,List.length_singleton];omega,fun r hr=>?_⟩,by simp only;omega⟩))
  rcases List.mem_append.1 hr with hr | hr
  ·exact hw r hr
  ·rw [List.mem_singleton.1 hr];exact g1
theorem cf {c:CODE} {l:List BLK} (hg:GOk l) (hB:Bk c=some (l,())):wp (Ew c) fun y=>DM l y.1:=by
 have hn:=hg.n
 unfold Ew
 rw [hB,Option.bind_some]
 simp only
 refine AF (AD (OX hg (-1)) fun r hr=>AF (AD (ZO hn true) fun t ht=>AR (AF (AA (AD (wp_loop (fun x:JE=>x.1=l∧x.2.1=r.1∧Sq x.2.2.1 l.length∧x.2.2.2.1=(l.length:Int)∧0≤x.2.2.2.2.1∧x.2.2.2.2.1≤(l.length:Int)∧∀ i k,0≤i→i<(l.length:Int)→0≤k→k<x.2.2.2.2.1→(tbl x.2.2.1 i k=false↔Rea l k i)) (fun x=>(l.length - x.2.2.2.2.1).toNat) (Q:=fun x:List (List Bool)×Unit=>DM l x.1) (fun x hx=>?_) ⟨rfl,rfl,ht,rfl,by simp,by simp,fun i k _ _ h1 h2=>by simp only at h2;omega⟩) fun y hy=>AA hy)))))
 obtain⟨x1,x2,d,x4,b,_⟩:=x
 simp only at hx
 obtain⟨rfl,rfl,hsq,rfl,b0,b1,hv⟩:=hx
 unfold Mp
 simp only
 refine AM (fun hj=>?_) fun hj=>AN (AA (Ak ⟨hsq,fun i k i0 i1 k0 k1=>hv i k i0 i1 k0 (by have:=of_decide_eq_false hj;omega)⟩))
 have hj':=of_decide_eq_true hj
 have wb:IntKind.wrap .i64 (b+1)=b+1:=Af (by omega) (by omega)
 refine AR (AF (AD (OX hg b) fun u hu=>AR (AF (AA (AD (wp_loop (fun x:Gi=>x.1=x1∧x.2.1=r.1∧Sq x.2.2.1 x1.length∧x.2.2.2.1=b∧x.2.2.2.2.1=u.1∧x.2.2.2.2.2.1=(x1.length:Int)∧x.2.2.2.2.2.2.1=b∧x.2.2.2.2.2.2.2.1=(x1.length:Int)∧0≤x.2.2.2.2.2.2.2.2.1∧x.2.2.2.2.2.2.2.2.1≤(x1.length:Int)∧(∀ i k,0≤i→i<(x1.length:Int)→0≤k→k<b→(tbl x.2.2.1 i k=false↔Rea x1 k i))∧∀ i,0≤i→i<x.2.2.2.2.2.2.2.2.1→(tbl x.2.2.1 i b=false↔Rea x1 b i)) (fun x=>(x1.length - x.2.2.2.2.2.2.2.2.1).toNat) (Q:=fun x:List BLK×List Bool×List (List Bool)×Int×Int×Unit=>x.1=x1∧x.2.1=r.1∧Sq x.2.2.1 x1.length∧x.2.2.2.1=(x1.length:Int)∧x.2.2.2.2.1=b∧(∀ i k,0≤i→i<(x1.length:Int)→0≤k→k<b+1→(tbl x.2.2.1 i k=false↔Rea x1 k i))) (fun x hx=>?_) ⟨rfl,rfl,hsq,rfl,rfl,rfl,rfl,rfl,by simp,by simp,hv,fun i h1 h2=>by simp only at h2;omega⟩) fun y hy=>AA ?_)))))
 ·obtain⟨z1,z2,e,z4,z5,z6,z7,z8,a,_⟩:=x
  simp only at hx
  obtain⟨rfl,rfl,hq,rfl,rfl,rfl,rfl,rfl,a0,a1,h1,h2⟩:=hx
  have hlr:=hr.1
  have hlu:=hu.1
  have hle:=hq.h
  unfold Ml
  simp only
  refine AM (fun hk=>?_) fun hk=>AN (AA (Ak ⟨rfl,rfl,hq,rfl,rfl,fun i k i0 i1 k0 k1=>?_⟩))
  ·have hk':=of_decide_eq_true hk
   have wa:IntKind.wrap .i64 (a+1)=a+1:=Af (by omega) (by omega)
   have hrow:=hq.row a0 hk'
   have q1:∀ {α:Type} {K:Option α},(Cnd.idx a (List.length e)).run K=K:=fun {α} {K}=>Bh a0 (by omega)
   have q2:∀ {α:Type} {K:Option α},(Cnd.idx a (List.length r.1)).run K=K:=fun {α} {K}=>Bh a0 (by omega)
   have q3:∀ {α:Type} {K:Option α},(Cnd.idx a (List.length u.1)).run K=K:=fun {α} {K}=>Bh a0 (by omega)
   have q4:∀ {α:Type} {K:Option α},(Cnd.idx z7 (List.length (rd e a []))).run K=K:=fun {α} {K}=>Bh b0 (by omega)
   simp only [q1,q2,q3,q4,wa,Av]
   have key:∀ v,(v=false↔Rea z1 z7 a)→wp (Option.map Sum.inl (some (z1,r.1,e.set a.toNat ((rd e a []).set z7.toNat v),z7,u.1,(z1.length:Int),z7,(z1.length:Int),a+1,()))) fun z:Gi ⊕ (List BLK×List Bool×List (List Bool)×Int×Int×Unit)=>(∀ x,z=Sum.inl x→(x.1=z1∧x.2.1=r.1∧Sq x.2.2.1 z1.length∧x.2.2.2.1=z7∧x.2.2.2.2.1=u.1∧x.2.2.2.2.2.1=(z1.length:Int)∧x.2.2.2.2.2.2.1=z7∧x.2.2.2.2.2.2.2.1=(z1.length:Int)∧0≤x.2.2.2.2.2.2.2.2.1∧x.2.2.2.2.2.2.2.2.1≤(z1.length:Int)∧(∀ i k,0≤i→i<(z1.length:Int)→0≤k→k<z7→(tbl x.2.2.1 i k=false↔Rea z1 k i))∧∀ i,0≤i→i<x.2.2.2.2.2.2.2.2.1→(tbl x.2.2.1 i z7=false↔Rea z1 z7 i))∧((z1.length:Int) - x.2.2.2.2.2.2.2.2.1).toNat<((z1.length:Int) - a).toNat)∧∀ x,z=Sum.inr x→x.1=z1∧x.2.1=r.1∧Sq x.2.2.1 z1.length∧x.2.2.2.1=(z1.length:Int)∧x.2.2.2.2.1=z7∧(∀ i k,0≤i→i<(z1.length:Int)→0≤k→k<z7+1→(tbl x.2.2.1 i k=false↔Rea z1 k i)):=fun v hvv=>by
    have hts:=fun {p q:Int}=>WK (a:=p) (b:=q) hq a0 hk' b0 hj' v
    refine AN (AA (Al ⟨⟨rfl,rfl,hq.set (by rw [List.length_set];exact hrow) _,rfl,rfl,rfl,rfl,rfl,by simp only;omega,by simp only;omega,fun i k i0 i1 k0 k1=>?_,fun i i0 i1=>?_⟩,by simp only;omega⟩))
    ·simp only
     rw [hts i0 k0,if_neg (fun h=>by omega)]
     exact h1 i k i0 i1 k0 k1
    ·simp only at i1 ⊢
     rw [hts i0 b0]
     split
     ·rename_i h;rw [h.1];exact hvv
     ·rename_i h
      exact h2 i i0 (by have:i≠a:=fun e=>h ⟨e,rfl⟩;omega)
   cases c:rd r.1 a false
   ·simp only [Bool.not_false,cond_true,AC,wb,wa]
    refine key true ⟨fun e=>(by cases e),fun hh=>?_⟩
    rw [(hr.2 a a0 hk').2 (hh.all hg)] at c;cases c
   ·simp only [Bool.not_true,cond_false,AC,wb,wa]
    refine key _ ?_
    rw [← hu.2 a a0 hk']
    cases rd u.1 a false<;>simp
  ·have hk':=of_decide_eq_false hk
   simp only
   rcases Int.lt_or_eq_of_le (Int.le_of_lt_add_one k1) with h | h
   ·exact h1 i k i0 i1 k0 h
   ·rw [h];exact h2 i i0 (by omega)
 ·obtain⟨y1,y2,y3,y4,y5,_⟩:=y
  simp only at hy ⊢
  obtain⟨rfl,rfl,g1,rfl,rfl,g2⟩:=hy
  rw [wb]
  exact AN (AA (Al ⟨⟨rfl,rfl,g1,rfl,by simp only;omega,by simp only;omega,g2⟩,by simp only;omega⟩))
theorem Vw (l:List Int) (n:Int) (hl:l.length≤4000000):IH l n=some (l.any (fun y=>decide (y=n)),()):=by
 have h:=Iv (step:=FK) l (fun y=>decide (y=n)) (fun k=>(n,l,(l.length:Int),(k:Int),())) (.inr (true,())) (.inl ()) (fun k hk=>by
  simp only [FK,Au hk,decide_true,cond_true,AY hk,Ad hk,Ag (show k<9223372036854775807 by omega)]
  cases decide (l[k]=n)<;>rfl) (by
  simp only [FK,Ab,decide_false,cond_false,Option.map_some])
 have h':AH FK (n,l,(l.length:Int),(0:Int),())=_:=h
 simp only [IH,Option.bind_some,h']
 cases l.any fun y=>decide (y=n)
 ·simp only [cond_false,Bc]
 ·simp only [cond_true,Bd]
def EN (l:List BLK) (r:List Bool) (d:List (List Bool)) (h:Int) (b:Int):Bool:=rd r b false && ((rd l b zB).2.2.any (fun n=>decide (n=h)) && tbl d b h)
def Br (n:Int):List Int:=(List.range n.toNat).map fun k:Nat=>(k:Int)
theorem Mb {n:Int} (h:0≤n):Br (n+1)=Br n++[n]:=by
 unfold Br
 rw [show(n+1).toNat=n.toNat+1 by omega,List.range_succ,List.map_append]
 congr 1
 simp only [List.map_cons,List.map_nil]
 rw [Int.toNat_of_nonneg h]
theorem VL (n:Int):(Br n).length=n.toNat:=by simp [Br]
theorem VM {n i:Int}:i∈Br n↔0≤i∧i<n:=by
 unfold Br
 simp only [List.mem_map,List.mem_range]
 refine⟨fun⟨k,h1,h2⟩=>by omega,fun h=>⟨i.toNat,by omega,by omega⟩⟩
def isH (l:List BLK) (r:List Bool) (d:List (List Bool)) (h:Int):Bool:=rd r h false && (Br (l.length:Int)).any (EN l r d h)
def hds (l:List BLK) (r:List Bool) (d:List (List Bool)) (n:Int):List Int:=(Br n).filter (isH l r d)
theorem Qi (l:List BLK) (r:List Bool) (d:List (List Bool)) {n:Int} (h:0≤n):hds l r d (n+1)=hds l r d n++(bif isH l r d n then [n] else []):=by
 unfold hds
 rw [Mb h,List.filter_append]
 congr 1
theorem OQ (l:List BLK) (r:List Bool) (d:List (List Bool)) (n:Int):(hds l r d n).length≤n.toNat:=by
 rw [← VL];exact List.length_filter_le _ _
theorem Yg {c:CODE} {l:List BLK} {r:List Bool} {d:List (List Bool)} (hg:GOk l) (hB:Bk c=some (l,())) (hr:Bw l (-1)=some (r,())) (hd:Ew c=some (d,())) (hlr:r.length=l.length) (hq:Sq d l.length):wp (Ff c) fun y=>y.1=hds l r d (l.length:Int):=by
 have hn:=hg.n
 unfold Ff
 rw [hB,Option.bind_some]
 simp only
 rw [hr,Option.bind_some,hd,Option.bind_some]
 refine AR (AF (AA (AD (wp_loop (fun x:Ec=>x.1=l∧x.2.1=r∧x.2.2.1=d∧x.2.2.2.1=hds l r d x.2.2.2.2.2.1∧x.2.2.2.2.1=(l.length:Int)∧0≤x.2.2.2.2.2.1∧x.2.2.2.2.2.1≤(l.length:Int)) (fun x=>(l.length - x.2.2.2.2.2.1).toNat) (Q:=fun x:List Int×Unit=>x.1=hds l r d (l.length:Int)) (fun x hx=>?_) ⟨rfl,rfl,rfl,rfl,rfl,by simp,by simp⟩) fun y hy=>AA hy)))
 obtain⟨x1,x2,x3,o,x5,h,_⟩:=x
 simp only at hx
 obtain⟨rfl,rfl,rfl,rfl,rfl,h0,h1⟩:=hx
 unfold Kk
 simp only
 refine AM (fun hj=>?_) fun hj=>AN (AA (Ak (by have:=of_decide_eq_false hj;rw [show h=(x1.length:Int) by omega])))
 have hj':=of_decide_eq_true hj
 have wh:IntKind.wrap .i64 (h+1)=h+1:=Af (by omega) (by omega)
 refine AR (AR (AF (AA (AD (wp_loop (fun x:Ea=>x.1=x1∧x.2.1=x2∧x.2.2.1=x3∧x.2.2.2.1=hds x1 x2 x3 h∧x.2.2.2.2.1=h∧x.2.2.2.2.2.1=(Br x.2.2.2.2.2.2.2.2.2.1).any (EN x1 x2 x3 h)∧x.2.2.2.2.2.2.1=(x1.length:Int)∧x.2.2.2.2.2.2.2.1=h∧x.2.2.2.2.2.2.2.2.1=(x1.length:Int)∧0≤x.2.2.2.2.2.2.2.2.2.1∧x.2.2.2.2.2.2.2.2.2.1≤(x1.length:Int)) (fun x=>(x1.length - x.2.2.2.2.2.2.2.2.2.1).toNat) (Q:=fun x:List BLK×List Bool×List (List Bool)×List Int×Int×Bool×Int×Int×Unit=>x.1=x1∧x.2.1=x2∧x.2.2.1=x3∧x.2.2.2.1=hds x1 x2 x3 h∧x.2.2.2.2.1=h∧x.2.2.2.2.2.1=(Br (x1.length:Int)).any (EN x1 x2 x3 h)∧x.2.2.2.2.2.2.1=(x1.length:Int)∧x.2.2.2.2.2.2.2.1=h) (fun x hx=>?_) ⟨rfl,rfl,rfl,rfl,rfl,rfl,rfl,rfl,rfl,by simp,by simp⟩) fun y hy=>?_))))
 ·obtain⟨z1,z2,z3,z4,z5,s,z7,z8,z9,b,_⟩:=x
  simp only at hx
  obtain⟨rfl,rfl,rfl,rfl,rfl,rfl,rfl,rfl,rfl,b0,b1⟩:=hx
  unfold Kj
  simp only
  refine AM (fun hk=>?_) fun hk=>AN (AA (Ak ⟨rfl,rfl,rfl,rfl,rfl,by have:=of_decide_eq_false hk;simp only;rw [show b=(z1.length:Int) by omega],rfl,rfl⟩))
  have hk':=of_decide_eq_true hk
  have wb:IntKind.wrap .i64 (b+1)=b+1:=Af (by omega) (by omega)
  have hrow:=hq.row b0 hk'
  have hqh:=hq.h
  have q1:∀ {α:Type} {K:Option α},(Cnd.idx b (List.length z1)).run K=K:=fun {α} {K}=>Bh b0 (by omega)
  have q2:∀ {α:Type} {K:Option α},(Cnd.idx b (List.length z2)).run K=K:=fun {α} {K}=>Bh b0 (by omega)
  have q3:∀ {α:Type} {K:Option α},(Cnd.idx b (List.length z3)).run K=K:=fun {α} {K}=>Bh b0 (by omega)
  have q4:∀ {α:Type} {K:Option α},(Cnd.idx z8 (List.length (rd z3 b []))).run K=K:=fun {α} {K}=>Bh h0 (by omega)
  have hhas:=Vw (rd z1 b zB).2.2 z8 (by have:=hg.nl b;omega)
  have hany:(Br (b+1)).any (EN z1 z2 z3 z8)=((Br b).any (EN z1 z2 z3 z8) || EN z1 z2 z3 z8 b):=by
   rw [Mb b0,List.any_append];simp
  have fin:∀ v,v=(Br (b+1)).any (EN z1 z2 z3 z8)→wp (Option.map Sum.inl (some (z1,z2,z3,hds z1 z2 z3 z8,z8,v,(z1.length:Int),z8,(z1.length:Int),b+1,()))) fun z:Ea ⊕ (List BLK×List Bool×List (List Bool)×List Int×Int×Bool×Int×Int×Unit)=>(∀ x,z=Sum.inl x→(x.1=z1∧x.2.1=z2∧x.2.2.1=z3∧x.2.2.2.1=hds z1 z2 z3 z8∧x.2.2.2.2.1=z8∧x.2.2.2.2.2.1=(Br x.2.2.2.2.2.2.2.2.2.1).any (EN z1 z2 z3 z8)∧x.2.2.2.2.2.2.1=(z1.length:Int)∧x.2.2.2.2.2.2.2.1=z8∧x.2.2.2.2.2.2.2.2.1=(z1.length:Int)∧0≤x.2.2.2.2.2.2.2.2.2.1∧x.2.2.2.2.2.2.2.2.2.1≤(z1.length:Int))∧((z1.length:Int) - x.2.2.2.2.2.2.2.2.2.1).toNat<((z1.length:Int) - b).toNat)∧∀ x,z=Sum.inr x→x.1=z1∧x.2.1=z2∧x.2.2.1=z3∧x.2.2.2.1=hds z1 z2 z3 z8∧x.2.2.2.2.1=z8∧x.2.2.2.2.2.1=(Br (z1.length:Int)).any (EN z1 z2 z3 z8)∧x.2.2.2.2.2.2.1=(z1.length:Int)∧x.2.2.2.2.2.2.2.1=z8:=fun v hv=>AN (AA (Al ⟨⟨rfl,rfl,rfl,rfl,rfl,hv,rfl,rfl,rfl,by simp only;omega,by simp only;omega⟩,by simp only;omega⟩))
  have hway:EN z1 z2 z3 z8 b=(rd z2 b false && ((rd z1 b zB).2.2.any (fun n=>decide (n=z8)) && rd (rd z3 b []) z8 false)):=rfl
  rw [hway] at hany
  simp only [q1,q2,q3,q4,wb,hhas,Option.bind_some]
  cases c1:(Br b).any (EN z1 z2 z3 z8)
  ·simp only [cond_false]
   cases c2:rd z2 b false
   ·simp only [cond_false,AC,wh,wb]
    exact fin _ (by rw [hany,c1,c2];rfl)
   ·simp only [cond_true]
    cases c3:(rd z1 b zB).2.2.any (fun n=>decide (n=z8))
    ·simp only [cond_false,AC,wh,wb]
     exact fin _ (by rw [hany,c1,c2,c3];rfl)
    ·simp only [cond_true,AC,wh,wb]
     exact fin _ (by rw [hany,c1,c2,c3];rfl)
  ·simp only [cond_true,AC,wh,wb]
   exact fin _ (by rw [hany,c1];rfl)
 ·obtain⟨y1,y2,y3,y4,y5,s,y7,y8,_⟩:=y
  simp only at hy ⊢
  obtain⟨rfl,rfl,rfl,rfl,rfl,rfl,rfl,rfl⟩:=hy
  have q2:∀ {α:Type} {K:Option α},(Cnd.idx y8 (List.length y2)).run K=K:=fun {α} {K}=>Bh h0 (by omega)
  have hlen:=OQ y1 y2 y3 y8
  have hle:∀ {α:Type} {K:Option α},(Cnd.le ((List.length (hds y1 y2 y3 y8)+List.length [y8]) * 8) 140737488355328).run K=K:=fun {α} {K}=>Bx (by simp only [List.length_singleton];omega)
  have hs:=Qi y1 y2 y3 h0
  have hih:isH y1 y2 y3 y8=(rd y2 y8 false && (Br (y1.length:Int)).any (EN y1 y2 y3 y8)):=rfl
  have fin:∀ o,o=hds y1 y2 y3 (y8+1)→wp (Option.map Sum.inl (some (y1,y2,y3,o,(y1.length:Int),y8+1,()))) fun z:Ec ⊕ (List Int×Unit)=>(∀ x,z=Sum.inl x→(x.1=y1∧x.2.1=y2∧x.2.2.1=y3∧x.2.2.2.1=hds y1 y2 y3 x.2.2.2.2.2.1∧x.2.2.2.2.1=(y1.length:Int)∧0≤x.2.2.2.2.2.1∧x.2.2.2.2.2.1≤(y1.length:Int))∧((y1.length:Int) - x.2.2.2.2.2.1).toNat<((y1.length:Int) - y8).toNat)∧∀ x,z=Sum.inr x→x.1=hds y1 y2 y3 (y1.length:Int):=fun o ho=>AN (AA (Al ⟨⟨rfl,rfl,rfl,ho,rfl,by simp only;omega,by simp only;omega⟩,by simp only;omega⟩))
  simp only [q2]
  cases c1:(Br (y1.length:Int)).any (EN y1 y2 y3 y8)
  ·simp only [cond_false,AC,wh]
   refine AA ?_
   simp only [wh]
   exact fin _ (by rw [hs,hih,c1,Bool.and_false,cond_false,List.append_nil]<;>rfl)
  ·cases c2:rd y2 y8 false
   ·simp only [cond_true,cond_false,AC,wh]
    refine AA ?_
    simp only [wh]
    exact fin _ (by rw [hs,hih,c2,Bool.false_and,cond_false,List.append_nil]<;>rfl)
   ·simp only [cond_true,AC,hle,wh]
    refine AA ?_
    simp only [wh]
    exact fin _ (by rw [hs,hih,c1,c2]<;>rfl)
end Go.Proofs.YtmakhmoielhjeaaGreatDoorE
namespace Go.Proofs.YtmakhmoielhjeaaGreatDoorE
set_option linter.all false
set_option maxRecDepth 100000
theorem UB {l:List Int} {j:Int} (f:Int→Bool) (h0:0≤j) (h1:j<(l.length:Int)):(l.take (j+1).toNat).any f=((l.take j.toNat).any f || f (rd l j 0)):=by
 have hj:j.toNat<l.length:=by omega
 rw [show(j+1).toNat=j.toNat+1 by omega,List.take_succ_eq_append_getElem hj,List.any_append]
 have:rd l j 0=l[j.toNat]:=by simp [rd,List.getD_eq_getElem?_getD,List.getElem?_eq_getElem hj]
 rw [this];simp
theorem Yf {l:List BLK} {o:List Int} {d:List (List Bool)} {r:List Bool} {h i:Int} {s0:Bool} (hg:GOk l) (hlr:r.length=l.length) (hq:Sq d l.length) (h0:0≤h) (h1:h<(l.length:Int)) (i0:0≤i) (i1:i<(l.length:Int)):
 wp (AH Hi (l,o,d,r,h,s0,i,(0:Int),())) fun y=>y.1=l∧y.2.1=o∧y.2.2.1=d∧y.2.2.2.1=r∧y.2.2.2.2.1=h∧y.2.2.2.2.2.1=(s0 || EN l r d h i)∧y.2.2.2.2.2.2.1=i:=by
 have hn:=hg.n
 have hnl:=hg.nl i
 have hqh:=hq.h
 have hrow:=hq.row i0 i1
 have hway:EN l r d h i=(rd r i false && ((rd l i zB).2.2.any (fun n=>decide (n=h)) && tbl d i h)):=rfl
 refine wp_loop (fun x:Eb=>x.1=l∧x.2.1=o∧x.2.2.1=d∧x.2.2.2.1=r∧x.2.2.2.2.1=h∧x.2.2.2.2.2.1=(s0 || (rd r i false && (((rd l i zB).2.2.take x.2.2.2.2.2.2.2.1.toNat).any (fun n=>decide (n=h)) && tbl d i h)))∧x.2.2.2.2.2.2.1=i∧0≤x.2.2.2.2.2.2.2.1∧x.2.2.2.2.2.2.2.1≤((rd l i zB).2.2.length:Int)) (fun x=>((rd l i zB).2.2.length - x.2.2.2.2.2.2.2.1).toNat) (fun x hx=>?_) ⟨rfl,rfl,rfl,rfl,rfl,by simp,rfl,by simp,by simp⟩
 obtain⟨z1,z2,z3,z4,z5,s,z7,j,_⟩:=x
 simp only at hx
 obtain⟨rfl,rfl,rfl,rfl,rfl,hs,rfl,j0,j1⟩:=hx
 have wj:IntKind.wrap .i64 (j+1)=j+1:=Af (by omega) (by omega)
 have q1:∀ {α:Type} {K:Option α},(Cnd.idx z7 (List.length z1)).run K=K:=fun {α} {K}=>Bh i0 i1
 have q2:∀ {α:Type} {K:Option α},(Cnd.idx z7 (List.length z4)).run K=K:=fun {α} {K}=>Bh i0 (by omega)
 have q3:∀ {α:Type} {K:Option α},(Cnd.idx z7 (List.length z3)).run K=K:=fun {α} {K}=>Bh i0 (by omega)
 have q4:∀ {α:Type} {K:Option α},(Cnd.idx z5 (List.length (rd z3 z7 []))).run K=K:=fun {α} {K}=>Bh h0 (by omega)
 unfold Hi
 simp only [q1,q2,q3,q4,wj]
 by_cases hj:j<((rd z1 z7 zB).2.2.length:Int)
 ·have q5:∀ {α:Type} {K:Option α},(Cnd.idx j (List.length (rd z1 z7 zB).2.2)).run K=K:=fun {α} {K}=>Bh j0 hj
  simp only [hj,decide_true,cond_true,AC,q1,q2,q3,q4,q5,wj]
  cases c:rd z4 z7 false
  ·simp only [cond_false]
   exact AN (AA (Ak ⟨rfl,rfl,rfl,rfl,rfl,by rw [hs,hway,c];simp,rfl⟩))
  ·simp only [cond_true]
   have hany:=UB (l:=(rd z1 z7 zB).2.2) (fun n=>decide (n=z5)) j0 hj
   have fin:∀ v,v=(s0 || (true && (((rd z1 z7 zB).2.2.take (j+1).toNat).any (fun n=>decide (n=z5)) && tbl z3 z7 z5)))→wp (Option.map Sum.inl (some (z1,z2,z3,z4,z5,v,z7,j+1,()))) fun z:Eb ⊕ (List BLK×List Int×List (List Bool)×List Bool×Int×Bool×Int×Unit)=>(∀ x,z=Sum.inl x→(x.1=z1∧x.2.1=z2∧x.2.2.1=z3∧x.2.2.2.1=z4∧x.2.2.2.2.1=z5∧x.2.2.2.2.2.1=(s0 || (true && (((rd z1 z7 zB).2.2.take x.2.2.2.2.2.2.2.1.toNat).any (fun n=>decide (n=z5)) && tbl z3 z7 z5)))∧x.2.2.2.2.2.2.1=z7∧0≤x.2.2.2.2.2.2.2.1∧x.2.2.2.2.2.2.2.1≤((rd z1 z7 zB).2.2.length:Int))∧(((rd z1 z7 zB).2.2.length:Int) - x.2.2.2.2.2.2.2.1).toNat<(((rd z1 z7 zB).2.2.length:Int) - j).toNat)∧∀ x,z=Sum.inr x→x.1=z1∧x.2.1=z2∧x.2.2.1=z3∧x.2.2.2.1=z4∧x.2.2.2.2.1=z5∧x.2.2.2.2.2.1=(s0 || EN z1 z4 z3 z5 z7)∧x.2.2.2.2.2.2.1=z7:=fun v hv=>AN (AA (Al ⟨⟨rfl,rfl,rfl,rfl,rfl,by simp only;exact hv,rfl,by simp only;omega,by simp only;omega⟩,by simp only;omega⟩))
   rw [hany] at fin
   rw [c] at hs
   have htb:rd (rd z3 z7 []) z5 false=tbl z3 z7 z5:=rfl
   cases hs2:s
   ·rw [hs2] at hs
    have hs':=hs.symm
    simp only [Bool.true_and,Bool.or_eq_false_iff] at hs'
    obtain⟨e1,e2⟩:=hs'
    simp only [cond_false]
    by_cases e:rd (rd z1 z7 zB).2.2 j 0=z5
    ·simp only [e,decide_true,cond_true,AC,q3,q4,htb,wj]
     exact fin _ (by rw [e1,e];simp)
    ·simp only [e,decide_false,cond_false,AC,wj]
     refine fin _ ?_
     rw [e1]
     simp only [e,decide_false,Bool.or_false,Bool.true_and,Bool.false_or]
     exact e2.symm
   ·rw [hs2] at hs
    simp only [cond_true,AC,wj]
    refine fin _ ?_
    have hs':=hs.symm
    simp only [Bool.true_and,Bool.or_eq_true,Bool.and_eq_true] at hs'
    symm
    simp only [Bool.true_and,Bool.or_eq_true,Bool.and_eq_true]
    rcases hs' with h | h
    ·exact .inl h
    ·exact .inr ⟨.inl h.1,h.2⟩
 ·simp only [hj,decide_false,cond_false,AC,wj]
  refine AN (AA (Ak ⟨rfl,rfl,rfl,rfl,rfl,?_,rfl⟩))
  simp only
  rw [hs,Ll (by omega),hway]
theorem Yh {c:CODE} {l:List BLK} {r:List Bool} {d:List (List Bool)} (hg:GOk l) (hB:Bf c=some (l,())) (hp:0<l.length) (hr:DY l=some (r,())) (hd:Ex c=some (d,())) (hlr:r.length=l.length) (hq:Sq d l.length):wp (Dv c) fun y=>y.1=hds l r d (l.length:Int):=by
 have hn:=hg.n
 unfold Dv
 rw [hB,Option.bind_some]
 have e0:decide ((l.length:Int)=0)=false:=decide_eq_false (by omega)
 simp only [e0,cond_false]
 rw [hd,Option.bind_some]
 simp only
 rw [hr,Option.bind_some]
 refine AR (AF (AA (AD (wp_loop (fun x:Ed=>x.1=l∧x.2.1=hds l r d x.2.2.2.2.1∧x.2.2.1=d∧x.2.2.2.1=r∧0≤x.2.2.2.2.1∧x.2.2.2.2.1≤(l.length:Int)) (fun x=>(l.length - x.2.2.2.2.1).toNat) (Q:=fun x:List Int×Unit=>x.1=hds l r d (l.length:Int)) (fun x hx=>?_) ⟨rfl,rfl,rfl,rfl,by simp,by simp⟩) fun y hy=>AA hy)))
 obtain⟨x1,o,x3,x4,h,_⟩:=x
 simp only at hx
 obtain⟨rfl,rfl,rfl,rfl,h0,h1⟩:=hx
 unfold Km
 simp only
 refine AM (fun hj=>?_) fun hj=>AN (AA (Ak (by have:=of_decide_eq_false hj;rw [show h=(x1.length:Int) by omega])))
 have hj':=of_decide_eq_true hj
 have wh:IntKind.wrap .i64 (h+1)=h+1:=Af (by omega) (by omega)
 have hih:isH x1 x4 x3 h=(rd x4 h false && (Br (x1.length:Int)).any (EN x1 x4 x3 h)):=rfl
 have hlen:=OQ x1 x4 x3 h
 have hle:∀ {α:Type} {K:Option α},(Cnd.le ((List.length (hds x1 x4 x3 h)+List.length [h]) * 8) 140737488355328).run K=K:=fun {α} {K}=>Bx (by simp only [List.length_singleton];omega)
 have hs:=Qi x1 x4 x3 h0
 refine AR (AR (AF (AA (AD (wp_loop (fun x:HB=>x.1=x1∧x.2.1=hds x1 x4 x3 h∧x.2.2.1=x3∧x.2.2.2.1=x4∧x.2.2.2.2.1=h∧x.2.2.2.2.2.1=(rd x4 h false && (Br x.2.2.2.2.2.2.1).any (EN x1 x4 x3 h))∧0≤x.2.2.2.2.2.2.1∧x.2.2.2.2.2.2.1≤(x1.length:Int)) (fun x=>(x1.length - x.2.2.2.2.2.2.1).toNat) (Q:=fun x:List BLK×List Int×List (List Bool)×List Bool×Int×Bool×Unit=>x.1=x1∧x.2.1=hds x1 x4 x3 h∧x.2.2.1=x3∧x.2.2.2.1=x4∧x.2.2.2.2.1=h∧x.2.2.2.2.2.1=isH x1 x4 x3 h) (fun x hx=>?_) ⟨rfl,rfl,rfl,rfl,rfl,by simp [Br],by simp,by simp⟩) fun y hy=>?_))))
 ·obtain⟨z1,z2,z3,z4,z5,s,i,_⟩:=x
  simp only at hx
  obtain⟨rfl,rfl,rfl,rfl,rfl,hs,i0,i1⟩:=hx
  have q1:∀ {α:Type} {K:Option α},(Cnd.idx z5 (List.length z4)).run K=K:=fun {α} {K}=>Bh h0 (by omega)
  have wi:IntKind.wrap .i64 (i+1)=i+1:=Af (by omega) (by omega)
  unfold Kl
  simp only [q1,wi]
  by_cases hi:i<(z1.length:Int)
  ·simp only [hi,decide_true,cond_true,AC,wh,wi]
   cases c:rd z4 z5 false
   ·simp only [cond_false]
    refine AN (AA (Ak ⟨rfl,rfl,rfl,rfl,rfl,?_⟩))
    simp only
    rw [hs,hih,c];rfl
   ·simp only [cond_true]
    refine AR (AR (AF (AA (AD (Yf hg hlr hq h0 hj' i0 hi) fun y hy=>AA ?_))))
    obtain⟨y1,y2,y3,y4,y5,y6,y7,_⟩:=y
    simp only at hy ⊢
    obtain⟨rfl,rfl,rfl,rfl,rfl,rfl,rfl⟩:=hy
    refine AN (AA (Al ⟨⟨rfl,rfl,rfl,rfl,rfl,?_,by simp only [wi];omega,by simp only [wi];omega⟩,by simp only [wi];omega⟩))
    simp only [wi]
    rw [hs,c,Mb i0,List.any_append]
    simp
  ·simp only [hi,decide_false,cond_false,AC,wh,wi]
   refine AN (AA (Ak ⟨rfl,rfl,rfl,rfl,rfl,?_⟩))
   simp only
   rw [hs,hih,show i=(z1.length:Int) by omega]
 ·obtain⟨y1,y2,y3,y4,y5,s,_⟩:=y
  simp only at hy ⊢
  obtain⟨rfl,rfl,rfl,rfl,rfl,rfl⟩:=hy
  have fin:∀ o,o=hds y1 y4 y3 (y5+1)→wp (Option.map Sum.inl (some (y1,o,y3,y4,y5+1,()))) fun z:Ed ⊕ (List Int×Unit)=>(∀ x,z=Sum.inl x→(x.1=y1∧x.2.1=hds y1 y4 y3 x.2.2.2.2.1∧x.2.2.1=y3∧x.2.2.2.1=y4∧0≤x.2.2.2.2.1∧x.2.2.2.2.1≤(y1.length:Int))∧((y1.length:Int) - x.2.2.2.2.1).toNat<((y1.length:Int) - y5).toNat)∧∀ x,z=Sum.inr x→x.1=hds y1 y4 y3 (y1.length:Int):=fun o ho=>AN (AA (Al ⟨⟨rfl,ho,rfl,rfl,by simp only;omega,by simp only;omega⟩,by simp only;omega⟩))
  cases c:isH y1 y4 y3 y5
  ·simp only [cond_false,AC,wh]
   refine AA ?_
   simp only [wh]
   exact fin _ (by rw [hs,c,cond_false,List.append_nil])
  ·simp only [cond_true,AC,hle,wh]
   refine AA ?_
   simp only [wh]
   exact fin _ (by rw [hs,c]<;>rfl)
def Fd:List BLK→Int→Int→Int
 | [],_,_=>-1
 | b::l,i,k=>bif decide (b.1≤i∧i<b.2.1) then k else Fd l i (k+1)
end Go.Proofs.YtmakhmoielhjeaaGreatDoorE
namespace Go.Proofs.YtmakhmoielhjeaaGreatDoorE
set_option linter.all false
set_option maxRecDepth 100000
theorem SQ (l:List BLK) (k:Nat) (hk:k<l.length) (i:Int) (n:Int):Fd (l.drop k) i n=bif decide (l[k].1≤i∧i<l[k].2.1) then n else Fd (l.drop (k+1)) i (n+1):=by
 rw [List.drop_eq_getElem_cons hk];rfl
theorem SR (l:List BLK) (i:Int) (hl:l.length≤1048576):HP l i=some (Fd l i 0,()):=by
 have key:∀ m k,k+m=l.length→AH DN (l,i,(k:Int),())=some (bif decide (Fd (l.drop k) i (k:Int) = -1) then .inl () else .inr (Fd (l.drop k) i (k:Int),())):=by
  intro m
  induction m with
  | zero=>
   intro k hk
   obtain rfl:k=l.length:=by omega
   rw [List.drop_length,BH (r:=.inl ()) (by simp only [DN,Ab,decide_false,cond_false,Option.map_some])]
   rfl
  | succ m ih=>
   intro k hk
   have hkl:k<l.length:=by omega
   have wk:=Ag (show k<9223372036854775807 by omega)
   rw [SQ l k hkl]
   cases h:decide (l[k].1≤i∧i<l[k].2.1)
   ·rw [cond_false,show((k:Int)+1)=((k+1:Nat):Int) by omega,← ih (k+1) (by omega)]
    refine Bi ?_
    have h':=of_decide_eq_false h
    simp only [DN,Au hkl,decide_true,cond_true,AY hkl,Ad hkl,wk]
    by_cases h1:l[k].1≤i
    ·simp only [h1,decide_true,cond_true,AC,decide_eq_false (show ¬ i<l[k].2.1 from fun h2=>h' ⟨h1,h2⟩),cond_false,Option.map_some,wk]
    ·simp only [h1,decide_false,cond_false,AC,Option.map_some,wk]
   ·rw [cond_true]
    have h':=of_decide_eq_true h
    have e:decide ((k:Int) = -1)=false:=decide_eq_false (by omega)
    rw [e,cond_false]
    refine BH ?_
    simp only [DN,Au hkl,decide_true,cond_true,AY hkl,Ad hkl,wk,h'.1,h'.2,AC,Option.map_some]
 have h:=key l.length 0 (by omega)
 simp only [List.drop_zero] at h
 have h':AH DN (l,i,(0:Int),())=_:=h
 simp only [HP,Option.bind_some,h']
 cases hb:decide (Fd l i ((0:Nat):Int) = -1)
 ·rw [cond_false,Bd];rfl
 ·rw [cond_true,Bc]
  have:=of_decide_eq_true hb
  rw [show Fd l i 0 = -1 from this]
theorem YL (l:List BLK) (i:Int) (hl:l.length≤1048576):JN l i=some (Fd l i 0,()):=by
 have key:∀ m k,k+m=l.length→AH DL (i,l,(l.length:Int),(k:Int),())=some (bif decide (Fd (l.drop k) i (k:Int) = -1) then .inl () else .inr (Fd (l.drop k) i (k:Int),())):=by
  intro m
  induction m with
  | zero=>
   intro k hk
   obtain rfl:k=l.length:=by omega
   rw [List.drop_length,BH (r:=.inl ()) (by simp only [DL,Ab,decide_false,cond_false,Option.map_some])]
   rfl
  | succ m ih=>
   intro k hk
   have hkl:k<l.length:=by omega
   have wk:=Ag (show k<9223372036854775807 by omega)
   rw [SQ l k hkl]
   cases h:decide (l[k].1≤i∧i<l[k].2.1)
   ·rw [cond_false,show((k:Int)+1)=((k+1:Nat):Int) by omega,← ih (k+1) (by omega)]
    refine Bi ?_
    have h':=of_decide_eq_false h
    simp only [DL,Au hkl,decide_true,cond_true,AY hkl,Ad hkl,wk]
    by_cases h1:l[k].1≤i
    ·simp only [h1,decide_true,cond_true,AC,decide_eq_false (show ¬ i<l[k].2.1 from fun h2=>h' ⟨h1,h2⟩),cond_false,Option.map_some,wk]
    ·simp only [h1,decide_false,cond_false,AC,Option.map_some,wk]
   ·rw [cond_true]
    have h':=of_decide_eq_true h
    have e:decide ((k:Int) = -1)=false:=decide_eq_false (by omega)
    rw [e,cond_false]
    refine BH ?_
    simp only [DL,Au hkl,decide_true,cond_true,AY hkl,Ad hkl,wk,h'.1,h'.2,AC,Option.map_some]
 have h:=key l.length 0 (by omega)
 simp only [List.drop_zero] at h
 have h':AH DL (i,l,(l.length:Int),(0:Int),())=_:=h
 simp only [JN,Option.bind_some,h']
 cases hb:decide (Fd l i ((0:Nat):Int) = -1)
 ·rw [cond_false,Bd];rfl
 ·rw [cond_true,Bc]
  have:=of_decide_eq_true hb
  rw [show Fd l i 0 = -1 from this]
def Mk (n:Nat) (out:List Bool) (S:Int→Prop):Prop:=out.length=n+1∧∀ i,0≤i→i≤(n:Int)→(rd out i false=true↔S i)
theorem Mk.set {n:Nat} {out:List Bool} {S:Int→Prop} (h:Mk n out S) {k:Int} (k0:0≤k) (k1:k≤(n:Int)):Mk n (out.set k.toNat true) (fun i=>S i∨i=k):=by
 refine⟨by rw [List.length_set];exact h.1,fun i i0 i1=>?_⟩
 rw [HN out k i _ _ k0 (by have:=h.1;omega) i0]
 by_cases e:i=k
 ·simp [e]
 ·rw [if_neg e,h.2 i i0 i1];simp [e]
theorem Mk.iff {n:Nat} {out:List Bool} {S T:Int→Prop} (h:Mk n out S) (hst:∀ i,0≤i→i≤(n:Int)→(S i↔T i)):Mk n out T:=⟨h.1,fun i i0 i1=>(h.2 i i0 i1).trans (hst i i0 i1)⟩
theorem Mk.uniq {n:Nat} {a b:List Bool} {S:Int→Prop} (ha:Mk n a S) (hb:Mk n b S):a=b:=by
 refine List.ext_getElem (by rw [ha.1,hb.1]) fun i h1 h2=>?_
 have e1:=ha.2 (i:Int) (by omega) (by have:=ha.1;omega)
 have e2:=hb.2 (i:Int) (by omega) (by have:=ha.1;omega)
 rw [Ad h1] at e1
 rw [Ad h2] at e2
 rw [Bool.eq_iff_iff,e1,e2]
def HdW (c:CODE) (k i:Int):Prop:=((rd c.2.2.2 k zI).1=18∨(rd c.2.2.2 k zI).1=19)∧i=(rd c.2.2.2 k zI).2.2.2.2.1∨((rd c.2.2.2 k zI).1=18∨(rd c.2.2.2 k zI).1=19∨(rd c.2.2.2 k zI).1=20)∧i=k+1
def HdS (c:CODE) (j i:Int):Prop:=∃ k,0≤k∧k<j∧HdW c k i
theorem HdS.succ {c:CODE} {j i:Int} (h0:0≤j):HdS c (j+1) i↔HdS c j i∨HdW c j i:=by
 constructor
 ·rintro ⟨k,k0,k1,hk⟩
  by_cases e:k=j
  ·subst e;exact .inr hk
  ·exact .inl ⟨k,k0,by omega,hk⟩
 ·rintro (⟨k,k0,k1,hk⟩ | hk)
  ·exact⟨k,k0,by omega,hk⟩
  ·exact⟨j,h0,by omega,hk⟩
def OC (c:CODE) (o:List Bool) (j:Int):List Bool:=
 let o1:=bif decide ((rd c.2.2.2 j zI).1=18) || decide ((rd c.2.2.2 j zI).1=19) then o.set (rd c.2.2.2 j zI).2.2.2.2.1.toNat true else o
 bif decide ((rd c.2.2.2 j zI).1=18) || (decide ((rd c.2.2.2 j zI).1=19) || decide ((rd c.2.2.2 j zI).1=20)) then o1.set (j+1).toNat true else o1
theorem bK {c:CODE} (hj:Jmp c.2.2.2) {j:Int} (j0:0≤j) (j1:j<(c.2.2.2.length:Int)) (h:(rd c.2.2.2 j zI).1=18∨(rd c.2.2.2 j zI).1=19):0≤(rd c.2.2.2 j zI).2.2.2.2.1∧(rd c.2.2.2 j zI).2.2.2.2.1<(c.2.2.2.length:Int):=by
 obtain⟨t,h1,h2⟩:=hj _ (CE c.2.2.2 j zI j0 j1) h
 omega
theorem Vk {c:CODE} (hj:Jmp c.2.2.2) {o:List Bool} {S:Int→Prop} {j:Int} (j0:0≤j) (j1:j<(c.2.2.2.length:Int)) (h:Mk c.2.2.2.length o S):Mk c.2.2.2.length (OC c o j) (fun i=>S i∨HdW c j i):=by
 have hn:=fun h=>bK hj j0 j1 h
 unfold OC HdW
 generalize (rd c.2.2.2 j zI).2.2.2.2.1=n at *
 generalize (rd c.2.2.2 j zI).1=op at *
 by_cases e18:op=18
 ·subst e18
  have:=hn (.inl rfl)
  simp only [decide_true,Bool.true_or,cond_true]
  refine((h.set this.1 (by omega)).set (k:=j+1) (by omega) (by omega)).iff fun i _ _=>?_
  simp only [true_or,true_and,or_assoc]
 by_cases e19:op=19
 ·subst e19
  have:=hn (.inr rfl)
  simp only [decide_true,Bool.true_or,Bool.or_true,cond_true]
  refine((h.set this.1 (by omega)).set (k:=j+1) (by omega) (by omega)).iff fun i _ _=>?_
  simp only [true_or,or_true,true_and,or_assoc]
 by_cases e20:op=20
 ·subst e20
  have e1:decide ((20:Int)=18)=false:=by decide
  have e2:decide ((20:Int)=19)=false:=by decide
  simp only [e1,e2,decide_true,Bool.or_false,Bool.or_true,cond_false,cond_true]
  refine(h.set (k:=j+1) (by omega) (by omega)).iff fun i _ _=>?_
  simp
 ·simp only [e18,e19,e20,decide_false,Bool.or_false,cond_false]
  exact h.iff fun i _ _=>by simp
theorem addH_len (c:CODE) (o:List Bool) (j:Int):(OC c o j).length=o.length:=by
 simp only [OC]
 cases decide ((rd c.2.2.2 j zI).1=18)<;>cases decide ((rd c.2.2.2 j zI).1=19)<;>cases decide ((rd c.2.2.2 j zI).1=20)<;>simp
theorem Ve {c:CODE} (hf:FineC c) (hj:Jmp c.2.2.2) {o:List Bool} {j:Int} (j0:0≤j) (j1:j<(c.2.2.2.length:Int)) (ho:o.length=c.2.2.2.length+1):Fu (o,j,c,())=some (.inl (OC c o j,j+1,c,())):=by
 have hw:=hf.s.w
 have wj:IntKind.wrap .i64 (j+1)=j+1:=Af (by omega) (by omega)
 have q1:∀ {α:Type} {K:Option α},(Cnd.idx j (List.length c.2.2.2)).run K=K:=fun {α} {K}=>Bh j0 j1
 have hn:=fun h=>bK hj j0 j1 h
 unfold Fu OC
 simp only [decide_eq_true j1,cond_true,q1,wj]
 generalize (rd c.2.2.2 j zI)=w at *
 obtain⟨op,a,b,cc,n,nm,az⟩:=w
 simp only at hn ⊢
 have q3:∀ {α:Type} {K:Option α},(Cnd.idx (j+1) (List.length o)).run K=K:=fun {α} {K}=>Bh (by omega) (by omega)
 have q4:∀ {α:Type} {K:Option α},(Cnd.idx (j+1) (List.length (o.set n.toNat true))).run K=K:=fun {α} {K}=>Bh (by omega) (by rw [List.length_set];omega)
 by_cases e18:op=18
 ·subst e18
  have:=hn (.inl rfl)
  have q2:∀ {α:Type} {K:Option α},(Cnd.idx n (List.length o)).run K=K:=fun {α} {K}=>Bh this.1 (by omega)
  simp only [decide_true,Bool.true_or,cond_true,AC,q2,Av,q4,Option.map_some,wj]
 by_cases e19:op=19
 ·subst e19
  have:=hn (.inr rfl)
  have q2:∀ {α:Type} {K:Option α},(Cnd.idx n (List.length o)).run K=K:=fun {α} {K}=>Bh this.1 (by omega)
  have e1:decide ((19:Int)=18)=false:=by decide
  simp only [e1,decide_true,Bool.true_or,Bool.or_true,Bool.false_or,cond_true,cond_false,AC,q2,Av,q4,Option.map_some,wj]
 by_cases e20:op=20
 ·subst e20
  have e1:decide ((20:Int)=18)=false:=by decide
  have e2:decide ((20:Int)=19)=false:=by decide
  simp only [e1,e2,decide_true,Bool.or_false,Bool.or_true,cond_false,cond_true,AC,Av,q3,Option.map_some,wj]
 ·simp only [e18,e19,e20,decide_false,Bool.or_false,cond_false,AC,Option.map_some,wj]
theorem Vd {c:CODE} (hf:FineC c) (hj:Jmp c.2.2.2) {o:List Bool} {j n0:Int} (j0:0≤j) (j1:j<(c.2.2.2.length:Int)) (ho:o.length=c.2.2.2.length+1):Dw (n0,o,c.2.2.2,(c.2.2.2.length:Int),j,c,())=some (.inl (n0,OC c o j,c.2.2.2,(c.2.2.2.length:Int),j+1,c,())):=by
 have hw:=hf.s.w
 have wj:IntKind.wrap .i64 (j+1)=j+1:=Af (by omega) (by omega)
 have q1:∀ {α:Type} {K:Option α},(Cnd.idx j (List.length c.2.2.2)).run K=K:=fun {α} {K}=>Bh j0 j1
 have hn:=fun h=>bK hj j0 j1 h
 unfold Dw OC
 simp only [decide_eq_true j1,cond_true,q1,wj]
 generalize (rd c.2.2.2 j zI)=w at *
 obtain⟨op,a,b,cc,n,nm,az⟩:=w
 simp only at hn ⊢
 have q3:∀ {α:Type} {K:Option α},(Cnd.idx (j+1) (List.length o)).run K=K:=fun {α} {K}=>Bh (by omega) (by omega)
 have q4:∀ {α:Type} {K:Option α},(Cnd.idx (j+1) (List.length (o.set n.toNat true))).run K=K:=fun {α} {K}=>Bh (by omega) (by rw [List.length_set];omega)
 by_cases e18:op=18
 ·subst e18
  have:=hn (.inl rfl)
  have q2:∀ {α:Type} {K:Option α},(Cnd.idx n (List.length o)).run K=K:=fun {α} {K}=>Bh this.1 (by omega)
  simp only [decide_true,Bool.true_or,cond_true,AC,q2,Av,q4,wj,Option.map_some]
 by_cases e19:op=19
 ·subst e19
  have:=hn (.inr rfl)
  have q2:∀ {α:Type} {K:Option α},(Cnd.idx n (List.length o)).run K=K:=fun {α} {K}=>Bh this.1 (by omega)
  have e1:decide ((19:Int)=18)=false:=by decide
  simp only [e1,decide_true,Bool.true_or,Bool.or_true,Bool.false_or,cond_true,cond_false,AC,q2,Av,q4,wj,Option.map_some]
 by_cases e20:op=20
 ·subst e20
  have e1:decide ((20:Int)=18)=false:=by decide
  have e2:decide ((20:Int)=19)=false:=by decide
  simp only [e1,e2,decide_true,Bool.or_false,Bool.or_true,cond_false,cond_true,AC,Av,q3,wj,Option.map_some]
 ·simp only [e18,e19,e20,decide_false,Bool.or_false,cond_false,AC,wj,Option.map_some]
def HM (c:CODE) (H:List Bool):Prop:=Mk c.2.2.2.length H fun i=>i=0∨i=(c.2.2.2.length:Int)∨HdS c (c.2.2.2.length:Int) i
theorem HdS.zero {c:CODE} {i:Int}:¬ HdS c 0 i:=fun⟨k,h1,h2,_⟩=>by omega
theorem iM (c:CODE) (hf:FineC c) (hj:Jmp c.2.2.2):wp (IV c) fun y=>HM c y.1:=by
 have hw:=hf.s.w
 unfold IV
 have wn:IntKind.wrap .i64 ((c.2.2.2.length:Int)+1)=((c.2.2.2.length+1:Nat):Int):=Ag (by omega)
 rw [wn]
 simp only [Int.toNat_natCast]
 have hz:Mk c.2.2.2.length (List.replicate (c.2.2.2.length+1) false) fun _=>False:=⟨by simp,fun i _ _=>by rw [NC _ _ _ rfl];simp⟩
 refine AL ⟨by show(0:Int)≤_;omega,by show _≤_;omega⟩ (AL (BG (by omega) (by rw [List.length_replicate];omega)) (Cf (AR (AF (AA (AD (wp_loop (fun x:Ho=>0≤x.2.1∧x.2.1≤(c.2.2.2.length:Int)∧x.2.2.1=c∧Mk c.2.2.2.length x.1 fun i=>i=0∨HdS c x.2.1 i) (fun x=>(c.2.2.2.length - x.2.1).toNat) (Q:=fun x:List Bool×CODE×Unit=>x.2.1=c∧Mk c.2.2.2.length x.1 fun i=>i=0∨HdS c (c.2.2.2.length:Int) i) (fun x hx=>?_) ⟨by simp,by simp,rfl,(hz.set (k:=0) (by omega) (by omega)).iff fun i _ _=>by simp [HdS.zero]⟩) fun x hx=>?_))))))
 ·obtain⟨o,j,c',_⟩:=x
  simp only at hx
  obtain⟨j0,j1,rfl,hm⟩:=hx
  by_cases hjl:j<(c'.2.2.2.length:Int)
  ·rw [Ve hf hj j0 hjl hm.1]
   exact AA (Al ⟨⟨by simp only;omega,by simp only;omega,rfl,(Vk hj j0 hjl hm).iff fun i _ _=>by rw [HdS.succ j0,or_assoc]⟩,by simp only;omega⟩)
  ·have e:j=(c'.2.2.2.length:Int):=by omega
   subst e
   unfold Fu
   simp only [Ab,decide_false,cond_false]
   exact AN (AA (Ak ⟨rfl,hm⟩))
 ·obtain⟨o,c',_⟩:=x
  simp only at hx ⊢
  obtain⟨rfl,hm⟩:=hx
  refine AL (BG (by omega) (by rw [hm.1];omega)) (Cf (AA ?_))
  exact(hm.set (k:=(c'.2.2.2.length:Int)) (by omega) (by omega)).iff fun i _ _=>by
   constructor
   ·rintro ((h | h) | h)
    ·exact .inl h
    ·exact .inr (.inr h)
    ·exact .inr (.inl h)
   ·rintro (h | h | h)
    ·exact .inl (.inl h)
    ·exact .inr h
    ·exact .inl (.inr h)
theorem iL (c:CODE) (hf:FineC c) (hj:Jmp c.2.2.2) {o:List Bool} {n0:Int} (h:Mk c.2.2.2.length o fun i=>i=0∨i=(c.2.2.2.length:Int)):wp (AH Dw (n0,o,c.2.2.2,(c.2.2.2.length:Int),(0:Int),c,())) fun y=>y.1=n0∧HM c y.2.1∧y.2.2.1=c:=by
 refine wp_loop (fun x:Hj=>x.1=n0∧x.2.2.1=c.2.2.2∧x.2.2.2.1=(c.2.2.2.length:Int)∧0≤x.2.2.2.2.1∧x.2.2.2.2.1≤(c.2.2.2.length:Int)∧x.2.2.2.2.2.1=c∧Mk c.2.2.2.length x.2.1 fun i=>(i=0∨i=(c.2.2.2.length:Int))∨HdS c x.2.2.2.2.1 i) (fun x=>(c.2.2.2.length - x.2.2.2.2.1).toNat) (fun x hx=>?_) ⟨rfl,rfl,rfl,by simp,by simp,rfl,h.iff fun i _ _=>by simp [HdS.zero]⟩
 obtain⟨x1,o,x3,x4,j,c',_⟩:=x
 simp only at hx
 obtain⟨rfl,rfl,rfl,j0,j1,rfl,hm⟩:=hx
 by_cases hjl:j<(c'.2.2.2.length:Int)
 ·rw [Vd hf hj j0 hjl hm.1]
  exact AA (Al ⟨⟨rfl,rfl,rfl,by simp only;omega,by simp only;omega,rfl,(Vk hj j0 hjl hm).iff fun i _ _=>by rw [HdS.succ j0,or_assoc]⟩,by simp only;omega⟩)
 ·have e:j=(c'.2.2.2.length:Int):=by omega
  subst e
  unfold Dw
  simp only [Ab,decide_false,cond_false]
  exact AN (AA (Ak ⟨rfl,hm.iff fun i _ _=>by rw [or_assoc],rfl⟩))
end Go.Proofs.YtmakhmoielhjeaaGreatDoorE
namespace Go.Proofs.YtmakhmoielhjeaaGreatDoorE
set_option linter.all false
set_option maxRecDepth 100000
abbrev CS:=List BLK×Int
def cut (H:List Bool) (s:CS) (j:Int):CS:=bif rd H j false then (s.1++[(s.2,(j,[]))],j) else s
def EC (H:List Bool):Nat→CS
 | 0=>([],0)
 | n+1=>cut H (EC H n) ((n+1:Nat):Int)
structure CI (H:List Bool) (s:CS) (j:Int):Prop where
 f:0≤s.2∧s.2≤j
 hf:rd H s.2 false=true
 len:(s.1.length:Int)≤j
 b:∀ b∈s.1,0≤(b:BLK).1∧b.1<b.2.1∧b.2.1≤s.2∧b.2.2=[]∧rd H b.1 false=true∧rd H b.2.1 false=true
 srt:s.1.Pairwise fun a b=>a.2.1≤b.1
 cov:∀ h,0≤h→h≤j→rd H h false=true→h=s.2∨∃ b∈s.1,(b:BLK).1=h
theorem CI.step {H:List Bool} {s:CS} {j:Int} (h:CI H s j) (j0:0≤j):CI H (cut H s (j+1)) (j+1):=by
 unfold cut
 have hfj:=h.f
 cases c:rd H (j+1) false
 ·rw [cond_false]
  refine⟨⟨hfj.1,by omega⟩,h.hf,by have:=h.len;omega,h.b,h.srt,fun x x0 x1 hx=>?_⟩
  by_cases e:x=j+1
  ·subst e;rw [hx] at c;cases c
  ·exact h.cov x x0 (by omega) hx
 ·rw [cond_true]
  refine⟨⟨by simp only;omega,by simp only;omega⟩,c,by have:=h.len;simp only [List.length_append,List.length_singleton];omega,fun b hb=>?_,?_,fun x x0 x1 hx=>?_⟩
  ·rcases List.mem_append.1 hb with hb | hb
   ·obtain⟨b1,b2,b3,b4,b5,b6⟩:=h.b b hb
    exact⟨b1,b2,by simp only;omega,b4,b5,b6⟩
   ·rw [List.mem_singleton.1 hb]
    exact⟨hfj.1,by simp only;omega,Int.le_refl _,rfl,h.hf,c⟩
  ·refine List.pairwise_append.2 ⟨h.srt,List.pairwise_singleton _ _,fun a ha b hb=>?_⟩
   rw [List.mem_singleton.1 hb]
   exact(h.b a ha).2.2.1
  ·by_cases e:x=j+1
   ·exact .inl e
   ·right
    rcases h.cov x x0 (by omega) hx with h1 | ⟨b,h1,h2⟩
    ·exact⟨(s.2,(j+1,[])),List.mem_append.2 (.inr (List.mem_singleton.2 rfl)),h1.symm⟩
    ·exact⟨b,List.mem_append.2 (.inl h1),h2⟩
theorem Ol {H:List Bool} (h0:rd H 0 false=true):∀ n:Nat,CI H (EC H n) (n:Int)
 | 0=>⟨⟨by simp [EC],by simp [EC]⟩,h0,by simp [EC],fun b hb=>(by cases hb),List.Pairwise.nil,fun h a b _=>.inl (by simp only [EC];omega)⟩
 | n+1=>by
  have:=(Ol h0 n).step (by omega)
  rw [show((n:Int)+1)=((n+1:Nat):Int) by omega] at this
  exact this
structure LK (c:CODE) (H:List Bool) (l:List BLK):Prop where
 len:l.length≤400
 b:∀ b∈l,0≤(b:BLK).1∧b.1<b.2.1∧b.2.1≤(c.2.2.2.length:Int)∧b.2.2=[]∧rd H b.1 false=true∧rd H b.2.1 false=true
 srt:l.Pairwise fun a b=>a.2.1≤b.1
 cov:∀ h,0≤h→h<(c.2.2.2.length:Int)→rd H h false=true→∃ b∈l,(b:BLK).1=h
theorem jZ {c:CODE} {H:List Bool} (hm:HM c H) (hw:c.2.2.2.length≤400):LK c H (EC H c.2.2.2.length).1:=by
 have h0:rd H 0 false=true:=(hm.2 0 (by omega) (by omega)).2 (.inl rfl)
 have hN:rd H (c.2.2.2.length:Int) false=true:=(hm.2 _ (by omega) (by omega)).2 (.inr (.inl rfl))
 have h:=Ol h0 c.2.2.2.length
 have hf:=h.f
 have hfN:(EC H c.2.2.2.length).2=(c.2.2.2.length:Int):=by
  rcases h.cov _ (by omega) (Int.le_refl _) hN with h1 | ⟨b,h1,h2⟩
  ·exact h1.symm
  ·have:=h.b b h1;omega
 refine⟨by have:=h.len;omega,fun b hb=>?_,h.srt,fun x x0 x1 hx=>?_⟩
 ·have:=h.b b hb
  rw [hfN] at this;exact this
 ·rcases h.cov x x0 (by omega) hx with h1 | h1
  ·omega
  ·exact h1
theorem jR (c:CODE) {H:List Bool} (hm:HM c H) (hw:c.2.2.2.length≤400):AH Fs ([],H,(0:Int),(1:Int),c,())=some ((EC H c.2.2.2.length).1,c,()):=by
 have h0:rd H 0 false=true:=(hm.2 0 (by omega) (by omega)).2 (.inl rfl)
 have hl:=hm.1
 have:=wp_loop (step:=Fs) (Q:=fun x:List BLK×CODE×Unit=>x=((EC H c.2.2.2.length).1,c,())) (fun x:Hk=>1≤x.2.2.2.1∧x.2.2.2.1≤(c.2.2.2.length:Int)+1∧x.2.1=H∧(x.1,x.2.2.1)=EC H (x.2.2.2.1 - 1).toNat∧x.2.2.2.2.1=c) (fun x=>(c.2.2.2.length+1 - x.2.2.2.1).toNat) (fun x hx=>?_) (b:=([],H,(0:Int),(1:Int),c,())) ⟨by simp,by simp only;omega,rfl,rfl,rfl⟩
 ·obtain⟨r,e1,e2⟩:=this
  rw [e1,e2]
 obtain⟨o,x2,f,j,x5,_⟩:=x
 simp only at hx
 obtain⟨j0,j1,rfl,hc,rfl⟩:=hx
 unfold Fs
 simp only
 refine AM (fun hj=>?_) fun hj=>AN (AA (Ak ?_))
 ·have hj':=of_decide_eq_true hj
  have wj:IntKind.wrap .i64 (j+1)=j+1:=Af (by omega) (by omega)
  have hn:EC x2 (j+1 - 1).toNat=cut x2 (EC x2 (j - 1).toNat) j:=by
   rw [show(j+1 - 1).toNat=(j - 1).toNat+1 by omega]
   show cut x2 (EC x2 (j - 1).toNat) (((j - 1).toNat+1:Nat):Int)=_
   rw [show(((j - 1).toNat+1:Nat):Int)=j by omega]
  have hci:=Ol h0 (j - 1).toNat
  rw [← hc] at hn hci
  have hlen:=hci.len
  simp only at hlen
  rw [Bh (by omega) hj']
  unfold cut at hn
  cases c1:rd x2 j false
  ·rw [c1,cond_false] at hn
   simp only [cond_false,AC,wj]
   exact AN (AA (Al ⟨⟨by simp only;omega,by simp only;omega,rfl,hn.symm,rfl⟩,by simp only;omega⟩))
  ·rw [c1,cond_true] at hn
   have hle:∀ {α:Type} {K:Option α},(Cnd.le ((List.length o+List.length [((f,(j,[])):BLK)]) * 40) 140737488355328).run K=K:=fun {α} {K}=>Bx (by simp only [List.length_singleton];omega)
   simp only [cond_true,hle,AC,wj]
   exact AN (AA (Al ⟨⟨by simp only;omega,by simp only;omega,rfl,hn.symm,rfl⟩,by simp only;omega⟩))
 ·have hj':=of_decide_eq_false hj
  rw [show(j - 1).toNat=x5.2.2.2.length by omega] at hc
  rw [← hc]
theorem jQ (c:CODE) {H:List Bool} (hm:HM c H) (hw:c.2.2.2.length≤400):AH Fv ((c.2.2.2.length:Int),H,[],(0:Int),(1:Int),c,())=some ((EC H c.2.2.2.length).1,c,()):=by
 have h0:rd H 0 false=true:=(hm.2 0 (by omega) (by omega)).2 (.inl rfl)
 have hl:=hm.1
 have:=wp_loop (step:=Fv) (Q:=fun x:List BLK×CODE×Unit=>x=((EC H c.2.2.2.length).1,c,())) (fun x:Hp=>1≤x.2.2.2.2.1∧x.2.2.2.2.1≤(c.2.2.2.length:Int)+1∧x.1=(c.2.2.2.length:Int)∧x.2.1=H∧(x.2.2.1,x.2.2.2.1)=EC H (x.2.2.2.2.1 - 1).toNat∧x.2.2.2.2.2.1=c) (fun x=>(c.2.2.2.length+1 - x.2.2.2.2.1).toNat) (fun x hx=>?_) (b:=((c.2.2.2.length:Int),H,[],(0:Int),(1:Int),c,())) ⟨by simp,by simp only;omega,rfl,rfl,rfl,rfl⟩
 ·obtain⟨r,e1,e2⟩:=this
  rw [e1,e2]
 obtain⟨x1,x2,o,f,j,x5,_⟩:=x
 simp only at hx
 obtain⟨j0,j1,rfl,rfl,hc,rfl⟩:=hx
 unfold Fv
 simp only
 refine AM (fun hj=>?_) fun hj=>AN (AA (Ak ?_))
 ·have hj':=of_decide_eq_true hj
  have wj:IntKind.wrap .i64 (j+1)=j+1:=Af (by omega) (by omega)
  have hn:EC x2 (j+1 - 1).toNat=cut x2 (EC x2 (j - 1).toNat) j:=by
   rw [show(j+1 - 1).toNat=(j - 1).toNat+1 by omega]
   show cut x2 (EC x2 (j - 1).toNat) (((j - 1).toNat+1:Nat):Int)=_
   rw [show(((j - 1).toNat+1:Nat):Int)=j by omega]
  have hci:=Ol h0 (j - 1).toNat
  rw [← hc] at hn hci
  have hlen:=hci.len
  simp only at hlen
  rw [Bh (by omega) (by omega)]
  unfold cut at hn
  cases c1:rd x2 j false
  ·rw [c1,cond_false] at hn
   simp only [cond_false,AC,wj]
   exact AN (AA (Al ⟨⟨by simp only;omega,by simp only;omega,rfl,rfl,hn.symm,rfl⟩,by simp only;omega⟩))
  ·rw [c1,cond_true] at hn
   have hle:∀ {α:Type} {K:Option α},(Cnd.le ((List.length o+List.length [((f,(j,[])):BLK)]) * 40) 140737488355328).run K=K:=fun {α} {K}=>Bx (by simp only [List.length_singleton];omega)
   simp only [cond_true,hle,AC,wj]
   exact AN (AA (Al ⟨⟨by simp only;omega,by simp only;omega,rfl,rfl,hn.symm,rfl⟩,by simp only;omega⟩))
 ·have hj':=of_decide_eq_false hj
  rw [show(j - 1).toNat=x5.2.2.2.length by omega] at hc
  rw [← hc]
theorem OG:∀ (l:List BLK) (k:Nat) (hk:k<l.length) (n:Int),(∀ b∈l,(b:BLK).1<b.2.1)→(l.Pairwise fun a b=>a.2.1≤b.1)→Fd l l[k].1 n=n+(k:Int)
 | b::l,0,_,n,hb,_=>by
  have:=hb b (List.mem_cons_self ..)
  simp only [Fd,List.getElem_cons_zero]
  rw [decide_eq_true ⟨Int.le_refl _,this⟩,cond_true];simp
 | b::l,k+1,hk,n,hb,hs=>by
  have hs':=List.pairwise_cons.1 hs
  have hkl:k<l.length:=by simpa using hk
  have:=hs'.1 l[k] (List.getElem_mem hkl)
  simp only [Fd,List.getElem_cons_succ]
  rw [decide_eq_false (fun h=>by omega),cond_false,OG l k hkl (n+1) (fun x hx=>hb x (List.mem_cons_of_mem _ hx)) hs'.2]
  omega
def ft (b:BLK):Int×Int:=(b.1,b.2.1)
def FTo (o l:List BLK):Prop:=o.map ft=l.map ft
theorem Vo:∀ {o l:List BLK} (i n:Int),FTo o l→Fd o i n=Fd l i n
 | [],[],_,_,_=>rfl
 | [],b::l,_,_,h=>by simp [FTo] at h
 | a::o,[],_,_,h=>by simp [FTo] at h
 | a::o,b::l,i,n,h=>by
  simp only [FTo,List.map_cons,List.cons.injEq] at h
  obtain⟨h1,h2⟩:=h
  have e1:a.1=b.1:=congrArg (fun z:Int×Int=>z.1) h1
  have e2:a.2.1=b.2.1:=congrArg (fun z:Int×Int=>z.2) h1
  simp only [Fd,e1,e2]
  rw [Vo i (n+1) h2]
theorem FTo.len {o l:List BLK} (h:FTo o l):o.length=l.length:=by
 have:=congrArg List.length h
 simpa using this
theorem FTo.rd {o l:List BLK} (h:FTo o l) (i:Int):(Go.Proofs.YtmakhmoielhjeaaGreatDoorE.rd o i zB).1=(Go.Proofs.YtmakhmoielhjeaaGreatDoorE.rd l i zB).1∧(Go.Proofs.YtmakhmoielhjeaaGreatDoorE.rd o i zB).2.1=(Go.Proofs.YtmakhmoielhjeaaGreatDoorE.rd l i zB).2.1:=by
 have key:∀ x:List BLK,ft (Go.Proofs.YtmakhmoielhjeaaGreatDoorE.rd x i zB)=Go.Proofs.YtmakhmoielhjeaaGreatDoorE.rd (x.map ft) i (0,0):=fun x=>by
  simp only [Go.Proofs.YtmakhmoielhjeaaGreatDoorE.rd,List.getD_eq_getElem?_getD,List.getElem?_map]
  cases x[i.toNat]?<;>rfl
 have:=(key o).trans ((congrArg (fun z=>Go.Proofs.YtmakhmoielhjeaaGreatDoorE.rd z i ((0,0):Int×Int)) h).trans (key l).symm)
 exact⟨congrArg (fun z:Int×Int=>z.1) this,congrArg (fun z:Int×Int=>z.2) this⟩
theorem FTo.set {o l:List BLK} (h:FTo o l) {k:Nat} (hk:k<o.length) (x:List Int):FTo (o.set k (o[k].1,(o[k].2.1,x))) l:=by
 unfold FTo at *
 rw [List.map_set,h]
 have hk':k<(l.map ft).length:=by rw [← h];simpa using hk
 have:ft (o[k].1,(o[k].2.1,x))=(l.map ft)[k]:=by
  have e:(o.map ft)[k]'(by simpa using hk)=(l.map ft)[k]:=by simp only [h]
  rw [← e,List.getElem_map];rfl
 rw [this,List.set_getElem_self]
theorem bR (c:CODE) (n:Int):∀ (l o:List Int),n∈l.foldl (Ie c) o↔n∈o∨(n∈l∧inR c n=true)
 | [],o=>by simp
 | x::l,o=>by
  rw [List.foldl_cons,bR c n l]
  have:n∈Ie c o x↔n∈o∨(n=x∧inR c n=true):=by
   unfold Ie
   cases hr:inR c x
   ·rw [cond_false]
    refine⟨.inl,fun h=>h.elim id fun⟨h1,h2⟩=>?_⟩
    rw [h1,hr] at h2;cases h2
   ·rw [cond_true]
    cases ha:o.any fun y=>decide (y=x)
    ·rw [cond_false,List.mem_append,List.mem_singleton]
     refine or_congr_right ⟨fun h=>⟨h,by rw [h];exact hr⟩,fun h=>h.1⟩
    ·rw [cond_true]
     refine⟨.inl,fun h=>h.elim id fun⟨h1,_⟩=>?_⟩
     obtain⟨y,hy,e⟩:=List.any_eq_true.1 ha
     rw [h1,← of_decide_eq_true e];exact hy
  rw [this,List.mem_cons]
  constructor
  ·rintro ((h | ⟨h,h2⟩) | ⟨h,h2⟩)
   ·exact .inl h
   ·exact .inr ⟨.inl h,h2⟩
   ·exact .inr ⟨.inr h,h2⟩
  ·rintro (h | ⟨h | h,h2⟩)
   ·exact .inl (.inl h)
   ·exact .inl (.inr ⟨h,h2⟩)
   ·exact .inr ⟨h,h2⟩
theorem ik (c:CODE) (n:Int):∀ (l o:List Int),n∈l.foldl (Id c) o↔n∈o∨(n∈l∧inR c n=true)
 | [],o=>by simp
 | x::l,o=>by
  rw [List.foldl_cons,ik c n l]
  have:n∈Id c o x↔n∈o∨(n=x∧inR c n=true):=by
   unfold Id
   cases hr:inR c x
   ·rw [cond_false]
    refine⟨.inl,fun h=>h.elim id fun⟨h1,h2⟩=>?_⟩
    rw [h1,hr] at h2;cases h2
   ·rw [cond_true,List.mem_append,List.mem_singleton]
    exact or_congr_right ⟨fun h=>⟨h,by rw [h];exact hr⟩,fun h=>h.1⟩
  rw [this,List.mem_cons]
  constructor
  ·rintro ((h | ⟨h,h2⟩) | ⟨h,h2⟩)
   ·exact .inl h
   ·exact .inr ⟨.inl h,h2⟩
   ·exact .inr ⟨.inr h,h2⟩
  ·rintro (h | ⟨h | h,h2⟩)
   ·exact .inl (.inl h)
   ·exact .inl (.inr ⟨h,h2⟩)
   ·exact .inr ⟨h,h2⟩
theorem io (c:CODE) (i:Nat) (p:Int→Bool):(nxS c i).any p=(nxI c i).any p:=by
 rw [Bool.eq_iff_iff,List.any_eq_true,List.any_eq_true]
 have h:∀ n,n∈nxS c i↔n∈nxI c i:=fun n=>by unfold nxS nxI;rw [bR,ik]
 exact⟨fun⟨x,h1,h2⟩=>⟨x,(h x).1 h1,h2⟩,fun⟨x,h1,h2⟩=>⟨x,(h x).2 h1,h2⟩⟩
theorem dP {c:CODE} {H:List Bool} (hm:HM c H) {i:Nat} (hi:i<c.2.2.2.length) (ht:rd H ((i+1:Nat):Int) false=true) {n:Int} (hn:n∈nxS c i):0≤n∧n<(c.2.2.2.length:Int)∧rd H n false=true:=by
 unfold nxS at hn
 rw [bR] at hn
 obtain⟨hn,hr⟩:=hn.resolve_left (by simp)
 simp only [inR,decide_eq_true_eq] at hr
 refine⟨hr.1,by omega,?_⟩
 unfold DF at hn
 by_cases e20:(rd c.2.2.2 (i:Int) zI).1=20
 ·rw [decide_eq_true e20,cond_true] at hn;cases hn
 rw [decide_eq_false e20,cond_false] at hn
 have hd:∀ (h:(rd c.2.2.2 (i:Int) zI).1=18∨(rd c.2.2.2 (i:Int) zI).1=19),n=(rd c.2.2.2 (i:Int) zI).2.2.2.2.1→rd H n false=true:=fun h e=>(hm.2 n hr.1 (by omega)).2 (.inr (.inr ⟨(i:Int),by omega,by omega,.inl ⟨h,e⟩⟩))
 by_cases e18:(rd c.2.2.2 (i:Int) zI).1=18
 ·rw [decide_eq_true e18,cond_true,List.mem_singleton] at hn
  exact hd (.inl e18) hn
 rw [decide_eq_false e18,cond_false] at hn
 by_cases e19:(rd c.2.2.2 (i:Int) zI).1=19
 ·rw [decide_eq_true e19,cond_true] at hn
  rcases List.mem_cons.1 hn with hn | hn
  ·rw [hn];exact ht
  ·exact hd (.inr e19) (List.mem_singleton.1 hn)
 ·rw [decide_eq_false e19,cond_false,List.mem_singleton] at hn
  rw [hn];exact ht
end Go.Proofs.YtmakhmoielhjeaaGreatDoorE
namespace Go.Proofs.YtmakhmoielhjeaaGreatDoorE
set_option linter.all false
set_option maxRecDepth 100000
theorem Ql {α β D:Type} {step:β→Option (β ⊕ α)} (l:List D) (f:D→D) (J:List D→Prop) (S:Nat→List D→β) (r:List D→α) (hJ:J l)
 (H:∀ k (h:k<l.length) (o:List D) (ho:o.length=l.length),J o→o[k]'(by omega)=l[k]→step (S k o)=some (.inl (S (k+1) (o.set k (f l[k]))))∧J (o.set k (f l[k])))
 (He:∀ o:List D,o.length=l.length→step (S l.length o)=some (.inr (r o))):AH step (S 0 l)=some (r (l.map f)):=by
 have key:∀ m k,k+m=l.length→J ((l.take k).map f++l.drop k)→AH step (S k ((l.take k).map f++l.drop k))=some (r (l.map f)):=by
  intro m
  induction m with
  | zero=>
   intro k hk _
   obtain rfl:k=l.length:=by omega
   rw [List.take_length,List.drop_length,List.append_nil]
   exact BH (He _ (by simp))
  | succ m ih=>
   intro k hk hj
   have hkl:k<l.length:=by omega
   have hlen:((l.take k).map f++l.drop k).length=l.length:=by simp;omega
   have hget:((l.take k).map f++l.drop k)[k]'(by omega)=l[k]:=by
    rw [List.getElem_append_right (by simp;omega)]
    simp [Nat.min_eq_left (Nat.le_of_lt hkl)]
   obtain⟨h1,h2⟩:=H k hkl _ hlen hj hget
   rw [Bi h1]
   have e:((l.take k).map f++l.drop k).set k (f l[k])=(l.take (k+1)).map f++l.drop (k+1):=by
    rw [List.set_append_right _ _ (by simp;omega),List.take_succ_eq_append_getElem hkl,List.map_append,List.append_assoc]
    congr 1
    rw [List.length_map,List.length_take,Nat.min_eq_left (Nat.le_of_lt hkl),Nat.sub_self,List.drop_eq_getElem_cons hkl]
    rfl
   rw [e] at h2 ⊢
   exact ih (k+1) (by omega) h2
 simpa using key l.length 0 (by omega) (by simpa using hJ)
def nxB (l:List BLK) (ns:List Int) (j:Int):Bool:=ns.any fun n=>decide (n=(rd l j zB).1)
def Cc (o:List BLK) (k:Nat) (b:BLK) (x:List Int):List BLK:=o.set k (b.1,(b.2.1,x))
theorem WH {o:List BLK} {k:Nat} {b:BLK} (hk:k<o.length) (hb:o[k]=b) (he:b.2.2=[]):Cc o k b []=o:=by
 unfold Cc
 have:((b.1,(b.2.1,[])):BLK)=o[k]:=by rw [hb,← he]
 rw [this,List.set_getElem_self]
theorem SX (P:Int→Bool) {n:Int} (h:0≤n):(Br (n+1)).filter P=(Br n).filter P++(bif P n then [n] else []):=by
 rw [Mb h,List.filter_append]
 congr 1
theorem Pk (P:Int→Bool) (n:Int):((Br n).filter P).length≤n.toNat:=by
 rw [← VL];exact List.length_filter_le _ _
section
variable {l o:List BLK} {k:Nat} {b:BLK}
theorem bh (hl:l.length≤400) (hft:FTo o l) (hk:k<o.length) (hb:o[k]=b) (he:b.2.2=[]) (c:CODE) {has:List Bool} (hh:has.length=l.length):
 AH Fy (o,(k:Int),has,(0:Int),c,())=some (Cc o k b ((Br (l.length:Int)).filter fun j=>rd has j false),(k:Int),c,()):=by
 have:=wp_loop (step:=Fy) (Q:=fun x:List BLK×Int×CODE×Unit=>x=(Cc o k b ((Br (l.length:Int)).filter fun j=>rd has j false),(k:Int),c,())) (fun x:Hs=>0≤x.2.2.2.1∧x.2.2.2.1≤(l.length:Int)∧x.1=Cc o k b ((Br x.2.2.2.1).filter fun j=>rd has j false)∧x.2.1=(k:Int)∧x.2.2.1=has∧x.2.2.2.2.1=c) (fun x=>(l.length - x.2.2.2.1).toNat) (fun x hx=>?_) (b:=(o,(k:Int),has,(0:Int),c,())) ⟨by simp,by simp,(WH hk hb he).symm,rfl,rfl,rfl⟩
 ·obtain⟨r,e1,e2⟩:=this
  rw [e1,e2]
 obtain⟨x1,x2,x3,i,x5,_⟩:=x
 simp only at hx
 obtain⟨i0,i1,rfl,rfl,rfl,rfl⟩:=hx
 have hlen:=hft.len
 unfold Fy
 simp only
 refine AM (fun hj=>?_) fun hj=>AN (AA (Ak ?_))
 ·have hj':=of_decide_eq_true hj
  have wi:IntKind.wrap .i64 (i+1)=i+1:=Af (by omega) (by omega)
  have hfl:=Pk (fun j=>rd x3 j false) i
  have hs:=SX (fun j=>rd x3 j false) i0
  generalize hF:(Br i).filter (fun j=>rd x3 j false)=F at *
  have hks:k<(Cc o k b F).length:=by unfold Cc;rw [List.length_set];exact hk
  have hrd:rd (Cc o k b F) (k:Int) zB=(b.1,(b.2.1,F)):=by rw [Ad hks];simp [Cc]
  have q1:∀ {α:Type} {K:Option α},(Cnd.idx i (List.length x3)).run K=K:=fun {α} {K}=>Bh i0 hj'
  have q2:∀ {α:Type} {K:Option α},(Cnd.idx (k:Int) (List.length (Cc o k b F))).run K=K:=fun {α} {K}=>AY hks
  have hle:∀ {α:Type} {K:Option α},(Cnd.le ((List.length F+List.length [i]) * 8) 140737488355328).run K=K:=fun {α} {K}=>Bx (by simp only [List.length_singleton];omega)
  have hb2:∀ {α:Type} {K:Option α},(Cnd.both (Cnd.le k k) (Cnd.both (Cnd.le k k) (Cnd.tt))).run K=K:=fun {α} {K}=>by
   simp only [Cnd.run];rw [if_pos (Nat.le_refl _),if_pos (Nat.le_refl _)]
  have hset:List.set (Cc o k b F) k (b.1,(b.2.1,F++[i]))=Cc o k b (F++[i]):=by unfold Cc;rw [List.set_set]
  simp only [q1,wi]
  cases c1:rd x3 i false
  ·simp only [cond_false,AC,wi]
   refine AN (AA (Al ⟨⟨by simp only;omega,by simp only;omega,?_,rfl,rfl,rfl⟩,by simp only;omega⟩))
   simp only
   rw [hs,c1,cond_false,List.append_nil]
  ·simp only [cond_true,q2,hrd,hle,hb2,Int.toNat_natCast,Av,hset,AC,wi]
   refine AN (AA (Al ⟨⟨by simp only;omega,by simp only;omega,?_,rfl,rfl,rfl⟩,by simp only;omega⟩))
   simp only
   rw [hs,c1,cond_true]
 ·have hj':=of_decide_eq_false hj
  rw [show i=(l.length:Int) by omega]
theorem bg (hl:l.length≤400) (hft:FTo o l) (hk:k<o.length) (hb:o[k]=b) (he:b.2.2=[]) (c:CODE) {ns:List Int} (hns:ns.length≤1000) {u v:Int}:
 AH Fx (o,(k:Int),ns,u,v,(o.length:Int),(0:Int),c,())=some (Cc o k b ((Br (l.length:Int)).filter (nxB l ns)),u,v,c,()):=by
 have:=wp_loop (step:=Fx) (Q:=fun x:List BLK×Int×Int×CODE×Unit=>x=(Cc o k b ((Br (l.length:Int)).filter (nxB l ns)),u,v,c,())) (fun x:Hr=>0≤x.2.2.2.2.2.2.1∧x.2.2.2.2.2.2.1≤(l.length:Int)∧x.1=Cc o k b ((Br x.2.2.2.2.2.2.1).filter (nxB l ns))∧x.2.1=(k:Int)∧x.2.2.1=ns∧x.2.2.2.1=u∧x.2.2.2.2.1=v∧x.2.2.2.2.2.1=(o.length:Int)∧x.2.2.2.2.2.2.2.1=c) (fun x=>(l.length - x.2.2.2.2.2.2.1).toNat) (fun x hx=>?_) (b:=(o,(k:Int),ns,u,v,(o.length:Int),(0:Int),c,())) ⟨by simp,by simp,(WH hk hb he).symm,rfl,rfl,rfl,rfl,rfl,rfl⟩
 ·obtain⟨r,e1,e2⟩:=this
  rw [e1,e2]
 obtain⟨x1,x2,x3,x4,x5,x6,i,x8,_⟩:=x
 simp only at hx
 obtain⟨i0,i1,rfl,rfl,rfl,rfl,rfl,rfl,rfl⟩:=hx
 have hlen:=hft.len
 unfold Fx
 simp only
 refine AM (fun hj=>?_) fun hj=>AN (AA (Ak ?_))
 ·have hj':=of_decide_eq_true hj
  have wi:IntKind.wrap .i64 (i+1)=i+1:=Af (by omega) (by omega)
  have hfl:=Pk (nxB l x3) i
  have hs:=SX (nxB l x3) i0
  generalize hF:(Br i).filter (nxB l x3)=F at *
  have hks:k<(Cc o k b F).length:=by unfold Cc;rw [List.length_set];exact hk
  have hrd:rd (Cc o k b F) (k:Int) zB=(b.1,(b.2.1,F)):=by rw [Ad hks];simp [Cc]
  have hft2:FTo (Cc o k b F) l:=by unfold Cc;rw [← hb];exact hft.set hk F
  have hfr:=(hft2.rd i).1
  have q1:∀ {α:Type} {K:Option α},(Cnd.idx i (List.length (Cc o k b F))).run K=K:=fun {α} {K}=>Bh i0 (by have:=hft2.len;omega)
  have q2:∀ {α:Type} {K:Option α},(Cnd.idx (k:Int) (List.length (Cc o k b F))).run K=K:=fun {α} {K}=>AY hks
  have hle:∀ {α:Type} {K:Option α},(Cnd.le ((List.length F+List.length [i]) * 8) 140737488355328).run K=K:=fun {α} {K}=>Bx (by simp only [List.length_singleton];omega)
  have hb2:∀ {α:Type} {K:Option α},(Cnd.both (Cnd.le k k) (Cnd.both (Cnd.le k k) (Cnd.tt))).run K=K:=fun {α} {K}=>by
   simp only [Cnd.run];rw [if_pos (Nat.le_refl _),if_pos (Nat.le_refl _)]
  have hset:List.set (Cc o k b F) k (b.1,(b.2.1,F++[i]))=Cc o k b (F++[i]):=by unfold Cc;rw [List.set_set]
  have hnb:nxB l x3 i=x3.any fun n=>decide (n=(rd l i zB).1):=rfl
  simp only [q1,wi,hfr,Vw x3 _ (show x3.length≤4000000 by omega),Option.bind_some,← hnb]
  cases c1:nxB l x3 i
  ·simp only [cond_false,AC,wi]
   refine AN (AA (Al ⟨⟨by simp only [wi];omega,by simp only [wi];omega,?_,rfl,rfl,rfl,rfl,rfl,rfl⟩,by simp only [wi];omega⟩))
   simp only [wi]
   rw [hs,c1,cond_false,List.append_nil]
  ·simp only [cond_true,q2,hrd,hle,hb2,Int.toNat_natCast,Av,hset,AC,wi]
   refine AN (AA (Al ⟨⟨by simp only [wi];omega,by simp only [wi];omega,?_,rfl,rfl,rfl,rfl,rfl,rfl⟩,by simp only [wi];omega⟩))
   simp only [wi]
   rw [hs,c1,cond_true]
 ·have hj':=of_decide_eq_false hj
  rw [show i=(l.length:Int) by omega]
theorem co {H:List Bool} {c:CODE} (hlk:LK c H l) (hft:FTo o l) {ns:List Int} (hn:ns.length≤1000) (hns:∀ n∈ns,0≤n∧n<(c.2.2.2.length:Int)∧rd H n false=true) (kk:Int):
 wp (AH IX (o,kk,ns,List.replicate l.length false,(0:Int),c,())) fun y=>y.1=o∧y.2.1=kk∧y.2.2.2.1=c∧y.2.2.1.length=l.length∧∀ j,0≤j→j<(l.length:Int)→rd y.2.2.1 j false=nxB l ns j:=by
 have hl:=hlk.len
 have hlen:=hft.len
 refine wp_loop (fun x:Hq=>0≤x.2.2.2.2.1∧x.2.2.2.2.1≤(ns.length:Int)∧x.1=o∧x.2.1=kk∧x.2.2.1=ns∧x.2.2.2.2.2.1=c∧x.2.2.2.1.length=l.length∧∀ j,0≤j→j<(l.length:Int)→rd x.2.2.2.1 j false=nxB l (ns.take x.2.2.2.2.1.toNat) j) (fun x=>(ns.length - x.2.2.2.2.1).toNat) (fun x hx=>?_) ⟨by simp,by simp,rfl,rfl,rfl,rfl,by simp,fun j _ _=>by rw [NC _ _ _ rfl];simp [nxB]⟩
 obtain⟨x1,x2,x3,h,i,x6,_⟩:=x
 simp only at hx
 obtain⟨i0,i1,rfl,rfl,rfl,rfl,hh,hv⟩:=hx
 unfold IX
 simp only
 refine AM (fun hj=>?_) fun hj=>AN (AA (Ak ⟨rfl,rfl,rfl,hh,fun j j0 j1=>?_⟩))
 ·have hj':=of_decide_eq_true hj
  have wi:IntKind.wrap .i64 (i+1)=i+1:=Af (by omega) (by omega)
  have hmem:=CE x3 i 0 i0 hj'
  obtain⟨n0,n1,n2⟩:=hns _ hmem
  obtain⟨b,hb1,hb2⟩:=hlk.cov _ n0 n1 n2
  obtain⟨p,hp,hpe⟩:=List.mem_iff_getElem.1 hb1
  have hlt:∀ b∈l,(b:BLK).1<b.2.1:=fun b hb=>(hlk.b b hb).2.1
  have hat:Fd l (rd x3 i 0) 0=(p:Int):=by
   rw [← hb2,← hpe,OG l p hp 0 hlt hlk.srt];omega
  have hinj:∀ j,0≤j→j<(l.length:Int)→(rd l j zB).1=rd x3 i 0→j=(p:Int):=fun j j0 j1 e=>by
   have hq:j.toNat<l.length:=by omega
   have e1:rd l j zB=l[j.toNat]:=by simp [rd,List.getD_eq_getElem?_getD,List.getElem?_eq_getElem hq]
   have:=OG l j.toNat hq 0 hlt hlk.srt
   rw [← e1,e,hat] at this
   omega
  have hpl:(rd l (p:Int) zB).1=rd x3 i 0:=by rw [Ad hp,hpe,hb2]
  simp only [Bh i0 hj',wi,SR x1 _ (show x1.length≤1048576 by omega),Vo (rd x3 i 0) 0 hft,hat,Option.bind_some,Int.toNat_natCast]
  refine AL (BG (by omega) (by omega)) (Cf (AN (AA (Al ⟨⟨by simp only;omega,by simp only;omega,rfl,rfl,rfl,rfl,by simp only [List.length_set];exact hh,fun j j0 j1=>?_⟩,by simp only;omega⟩))))
  have hr:=HN h (p:Int) j true false (by omega) (by omega) j0
  rw [Int.toNat_natCast] at hr
  simp only
  rw [hr]
  have hat2:nxB l (x3.take (i+1).toNat) j=(nxB l (x3.take i.toNat) j || decide (rd x3 i 0=(rd l j zB).1)):=UB (fun n=>decide (n=(rd l j zB).1)) i0 hj'
  rw [hat2]
  by_cases e:j=(p:Int)
  ·rw [if_pos e,e,decide_eq_true hpl.symm,Bool.or_true]
  ·rw [if_neg e,hv j j0 j1,decide_eq_false (fun e2=>e (hinj j j0 j1 e2.symm)),Bool.or_false]
 ·have hj':=of_decide_eq_false hj
  simp only
  rw [hv j j0 j1,Ll (by omega)]
end
def nxF (c:CODE) (l:List BLK) (b:BLK):BLK:=(b.1,(b.2.1,(Br (l.length:Int)).filter (nxB l (nxI c (b.2.1 - 1).toNat))))
theorem bU {c:CODE} (hf:FineC c) {H:List Bool} (hm:HM c H) {l:List BLK} (hlk:LK c H l):AH EA (l,(0:Int),c,())=some (l.map (nxF c l),()):=by
 have hw:=hf.s.w
 have hl:=hlk.len
 refine Ql (step:=EA) l (nxF c l) (fun o=>FTo o l) (fun k o=>(o,(k:Int),c,())) (fun o=>(o,())) rfl (fun k hk o ho hft hget=>?_) (fun o ho=>?_)
 ·have hk':k<o.length:=by omega
  obtain⟨b1,b2,b3,b4,b5,b6⟩:=hlk.b _ (List.getElem_mem hk)
  have hset:=hft.set hk' ((Br (l.length:Int)).filter (nxB l (nxI c (l[k].2.1 - 1).toNat)))
  rw [hget] at hset
  refine⟨?_,hset⟩
  have wt:IntKind.wrap .i64 (l[k].2.1 - 1)=(((l[k].2.1 - 1).toNat:Nat):Int):=by rw [Af (by omega) (by omega)];omega
  have hi:(l[k].2.1 - 1).toNat<c.2.2.2.length:=by omega
  have hnx:=Sx c hf (l[k].2.1 - 1).toNat hi
  have hnl:=(Uj c (l[k].2.1 - 1).toNat).1
  have hns:∀ n∈nxS c (l[k].2.1 - 1).toNat,0≤n∧n<(c.2.2.2.length:Int)∧rd H n false=true:=fun n hn=>dP hm hi (by rw [show(((l[k].2.1 - 1).toNat+1:Nat):Int)=l[k].2.1 by omega];exact b6) hn
  obtain⟨⟨y1,y2,has,y4,_⟩,h1,h2⟩:=co hlk hft hnl hns (k:Int)
  simp only at h2
  obtain⟨rfl,rfl,rfl,h3,h4⟩:=h2
  have hp:=bh hl hft hk' hget b4 y4 h3
  have hfil:((Br (l.length:Int)).filter fun j=>rd has j false)=(Br (l.length:Int)).filter (nxB l (nxI y4 (l[k].2.1 - 1).toNat)):=by
   refine List.filter_congr fun j hj=>?_
   obtain⟨j0,j1⟩:=VM.1 hj
   rw [h4 j j0 j1]
   exact io y4 _ _
  rw [hfil] at hp
  have hnn:∀ {α:Type} {K:Option α},(Cnd.both (Cnd.nn (l.length:Int)) (Cnd.le (l.length * 1) 140737488355328)).run K=K:=fun {α} {K}=>by
   simp only [Cnd.run];rw [if_pos (by omega),if_pos (by omega)]
  have hlt:((k:Int)<(y1.length:Int)):=by omega
  have hlt2:((k:Int)<(l.length:Int)):=by omega
  simp only [EA,decide_eq_true hlt,decide_eq_true hlt2,AY hk,cond_true,AY hk',Ad hk',hget,wt,hnx,Option.bind_some,ho,hnn,Int.toNat_natCast,h1,AC,hp,Ag (show k<9223372036854775807 by omega),Option.map_some,Cc,nxF]
 ·have:¬ ((l.length:Int)<(o.length:Int)):=by omega
  simp only [EA,decide_eq_false this,cond_false,Option.map_some]
theorem bT {c:CODE} (hf:FineC c) {H:List Bool} (hm:HM c H) {l:List BLK} (hlk:LK c H l):AH Dz (l,(l.length:Int),(0:Int),c,())=some (l.map (nxF c l),()):=by
 have hw:=hf.s.w
 have hl:=hlk.len
 refine Ql (step:=Dz) l (nxF c l) (fun o=>FTo o l) (fun k o=>(o,(l.length:Int),(k:Int),c,())) (fun o=>(o,())) rfl (fun k hk o ho hft hget=>?_) (fun o ho=>?_)
 ·have hk':k<o.length:=by omega
  obtain⟨b1,b2,b3,b4,b5,b6⟩:=hlk.b _ (List.getElem_mem hk)
  have hset:=hft.set hk' ((Br (l.length:Int)).filter (nxB l (nxI c (l[k].2.1 - 1).toNat)))
  rw [hget] at hset
  refine⟨?_,hset⟩
  have wt:IntKind.wrap .i64 (l[k].2.1 - 1)=(((l[k].2.1 - 1).toNat:Nat):Int):=by rw [Af (by omega) (by omega)];omega
  have hi:(l[k].2.1 - 1).toNat<c.2.2.2.length:=by omega
  have hnx:=Sk c hf (l[k].2.1 - 1).toNat hi
  have hnl:=(Uj c (l[k].2.1 - 1).toNat).2
  have hp:=fun u v=>bg (u:=u) (v:=v) hl hft hk' hget b4 c hnl
  have hlt:((k:Int)<(l.length:Int)):=by omega
  simp only [Dz,decide_eq_true hlt,cond_true,AY hk',Ad hk',hget,wt,hnx,Option.bind_some,AC,hp,Ag (show k<9223372036854775807 by omega),Option.map_some,Cc,nxF]
 ·simp only [Dz,Ab,decide_false,cond_false,Option.map_some]
theorem YM (c:CODE) (hf:FineC c) (hok:EB c=true):∃ H l0,HM c H∧LK c H l0∧GOk (l0.map (nxF c l0))∧0<l0.length∧Bf c=some (l0.map (nxF c l0),())∧Bk c=some (l0.map (nxF c l0),()):=by
 have hw:=hf.s.w
 have hj:=iR hok
 have hN:1≤c.2.2.2.length∧c.2.2.2.length≤400:=by
  have h2:=hok
  simp only [EB,Bool.and_eq_true,decide_eq_true_eq] at h2
  exact h2.2.2.2.1
 obtain⟨⟨H,_⟩,e1,hm⟩:=iM c hf hj
 simp only at hm
 have hlk:=jZ hm hN.2
 have h0:rd H 0 false=true:=(hm.2 0 (by omega) (by omega)).2 (.inl rfl)
 have wn:IntKind.wrap .i64 ((c.2.2.2.length:Int)+1)=((c.2.2.2.length+1:Nat):Int):=Ag (by omega)
 have hz:Mk c.2.2.2.length (List.replicate (c.2.2.2.length+1) false) fun _=>False:=⟨by simp,fun i _ _=>by rw [NC _ _ _ rfl];simp⟩
 have hz2:=(hz.set (k:=0) (by omega) (by omega)).set (k:=(c.2.2.2.length:Int)) (by omega) (by omega)
 obtain⟨⟨y1,H2,y3,_⟩,e2,h2⟩:=iL c hf hj (n0:=(c.2.2.2.length:Int)) (hz2.iff fun i _ _=>by simp)
 simp only at h2
 obtain⟨rfl,hm2,rfl⟩:=h2
 have hHe:H2=H:=Mk.uniq hm2 hm
 subst hHe
 refine⟨H2,(EC H2 y3.2.2.2.length).1,hm,hlk,⟨by rw [List.length_map];exact hlk.len,fun b hb=>?_⟩,?_,?_,?_⟩
 ·obtain⟨a,_,rfl⟩:=List.mem_map.1 hb
  refine⟨?_,fun n hn=>?_⟩
  ·have:=Pk (nxB (EC H2 y3.2.2.2.length).1 (nxI y3 (a.2.1 - 1).toNat)) ((EC H2 y3.2.2.2.length).1.length:Int)
   have hl:=hlk.len
   simp only [nxF];omega
  ·simp only [nxF] at hn
   have:=VM.1 (List.mem_filter.1 hn).1
   rw [List.length_map];exact this
 ·obtain⟨b,hb,_⟩:=hlk.cov 0 (by omega) (by omega) h0
  exact List.length_pos_of_mem hb
 ·simp only [Bf,Fh y3 hf,hok,Option.bind_some,Bool.not_true,cond_false,e1,jR y3 hm hN.2,AC,bU hf hm hlk]
 ·have hnn:∀ {α:Type} {K:Option α},(Cnd.both (Cnd.nn ((y3.2.2.2.length+1:Nat):Int)) (Cnd.le ((y3.2.2.2.length+1) * 1) 140737488355328)).run K=K:=fun {α} {K}=>by
   simp only [Cnd.run];rw [if_pos (by omega),if_pos (by omega)]
  have q1:∀ {α:Type} {K:Option α},(Cnd.idx (0:Int) (List.length (List.replicate (y3.2.2.2.length+1) false))).run K=K:=fun {α} {K}=>Bh (by omega) (by rw [List.length_replicate];omega)
  have q2:∀ {α:Type} {K:Option α},(Cnd.idx (y3.2.2.2.length:Int) (List.length ((List.replicate (y3.2.2.2.length+1) false).set (0:Int).toNat true))).run K=K:=fun {α} {K}=>Bh (by omega) (by rw [List.length_set,List.length_replicate];omega)
  simp only [Bk,HX y3 hf,hok,Option.bind_some,Bool.not_true,cond_false,wn,hnn,Int.toNat_natCast,q1,Av,q2]
  have e2':=e2
  simp only [Int.toNat_natCast] at e2'
  simp only [e2',AC,jQ y3 hm hN.2,bT hf hm hlk]
end Go.Proofs.YtmakhmoielhjeaaGreatDoorE
namespace Go.Proofs.YtmakhmoielhjeaaGreatDoorE
set_option linter.all false
set_option maxRecDepth 100000
namespace X
theorem cQ (l:List Int) (hl:l.length≤1048576):GQ l l=some (true,()):=by
 have h:=Bn (step:=Dx) l (fun _=>true) (fun k=>(l,l,(k:Int),())) (.inl ()) (.inr (false,())) (fun k hk=>by
  simp only [Dx,Au hk,decide_true,cond_true,AY hk,ne_eq,not_true_eq_false,decide_false,cond_false,Option.map_some,Ag (show k<9223372036854775807 by omega)]) (by
  simp only [Dx,Ab,decide_false,cond_false,Option.map_some])
 have h':AH Dx (l,l,(0:Int),())=_:=h
 simp only [GQ,ne_eq,not_true_eq_false,decide_false,cond_false,Option.bind_some,h']
 have:(l.all fun _=>true)=true:=by simp
 rw [this];rfl
theorem cP (l:List Bool) (hl:l.length≤1048576):Fg l l=some (true,()):=by
 have h:=Bn (step:=Db) l (fun _=>true) (fun k=>(l,l,(k:Int),())) (.inl ()) (.inr (false,())) (fun k hk=>by
  simp only [Db,Au hk,decide_true,cond_true,AY hk,beq_self_eq_true,Bool.not_true,cond_false,Option.map_some,Ag (show k<9223372036854775807 by omega)]) (by
  simp only [Db,Ab,decide_false,cond_false,Option.map_some])
 have h':AH Db (l,l,(0:Int),())=_:=h
 simp only [Fg,ne_eq,not_true_eq_false,decide_false,cond_false,Option.bind_some,h']
 have:(l.all fun _=>true)=true:=by simp
 rw [this];rfl
theorem jh (l:List (List Bool)) (hl:l.length≤1048576) (hr:∀ r∈l,(r:List Bool).length≤1048576):HY l l=some (true,()):=by
 have h:=Bn (step:=Dc) l (fun _=>true) (fun k=>(l,l,(k:Int),())) (.inl ()) (.inr (false,())) (fun k hk=>by
  simp only [Dc,Au hk,decide_true,cond_true,AY hk,Ad hk,cP _ (hr _ (List.getElem_mem hk)),Option.bind_some,Bool.not_true,cond_false,Option.map_some,Ag (show k<9223372036854775807 by omega)]) (by
  simp only [Dc,Ab,decide_false,cond_false,Option.map_some])
 have h':AH Dc (l,l,(0:Int),())=_:=h
 simp only [HY,ne_eq,not_true_eq_false,decide_false,cond_false,Option.bind_some,h']
 have:(l.all fun _=>true)=true:=by simp
 rw [this];rfl
theorem iy (l:List BLK) (hl:l.length≤1048576) (hr:∀ r∈l,(r:BLK).2.2.length≤1048576):Gn l l=some (true,()):=by
 have h:=Bn (step:=DB) l (fun _=>true) (fun k=>(l,l,(k:Int),())) (.inl ()) (.inr (false,())) (fun k hk=>by
  simp only [DB,Au hk,decide_true,cond_true,AY hk,Ad hk,ne_eq,not_true_eq_false,decide_false,cond_false,cQ _ (hr _ (List.getElem_mem hk)),Option.bind_some,Bool.not_true,AC,Option.map_some,Ag (show k<9223372036854775807 by omega)]) (by
  simp only [DB,Ab,decide_false,cond_false,Option.map_some])
 have h':AH DB (l,l,(0:Int),())=_:=h
 simp only [Gn,ne_eq,not_true_eq_false,decide_false,cond_false,Option.bind_some,h']
 have:(l.all fun _=>true)=true:=by simp
 rw [this];rfl
theorem UD (c:CODE) (hf:FineC c):∃ l,Bf c=some (l,())∧Bk c=some (l,())∧GOk l:=by
 cases hok:EB c
 ·refine⟨[],?_,?_,⟨by simp,by simp⟩⟩
  ·simp only [Bf,Fh c hf,hok,Option.bind_some,Bool.not_false,cond_true]
  ·simp only [Bk,HX c hf,hok,Option.bind_some,Bool.not_false,cond_true]
 ·obtain⟨H,l0,_,_,hg,_,h1,h2⟩:=YM c hf hok
  exact⟨_,h1,h2,hg⟩
theorem dT (c:CODE) (hf:FineC c):∃ R:List Bool,R.length≤1048576∧Cj c=some (R,())∧Ch c=some (R,()):=by
 cases hok:EB c
 ·refine⟨[],by simp,?_,?_⟩
  ·simp only [Cj,Fh c hf,hok,Option.bind_some,Bool.not_false,cond_true]
  ·simp only [Ch,HX c hf,hok,Option.bind_some,Bool.not_false,cond_true]
 ·obtain⟨R,h0,h1,h2⟩:=jc c hf hok
  exact⟨R,by have:=hf.s.w;omega,h1,h2⟩
theorem hY (c:CODE) (l:List BLK) (hg:GOk l) (h1:Bf c=some (l,())) (h2:Bk c=some (l,())):∃ d,Ex c=some (d,())∧Ew c=some (d,())∧DM l d:=by
 obtain⟨⟨d,_⟩,e1,hd⟩:=cg hg h1
 obtain⟨⟨e,_⟩,e2,he⟩:=cf hg h2
 simp only at hd he
 have:=hd.uniq he
 subst this
 exact⟨d,e1,e2,hd⟩
theorem ia (c:CODE) (l:List BLK) (hg:GOk l) (h1:Bf c=some (l,())) (h2:Bk c=some (l,())):∃ o,Dv c=some (o,())∧Ff c=some (o,())∧o.length≤1048576:=by
 obtain⟨d,s1,s2,hd⟩:=hY c l hg h1 h2
 obtain⟨⟨r,_⟩,r1,hr⟩:=OX hg (-1)
 simp only at hr
 obtain⟨⟨o,_⟩,o1,ho⟩:=Yg hg h2 r1 s2 hr.1 hd.sq
 simp only at ho
 have hlen:=OQ l r d (l.length:Int)
 have hn:=hg.n
 refine⟨o,?_,o1,by rw [ho];omega⟩
 by_cases h0:l.length=0
 ·have e0:l=[]:=List.eq_nil_of_length_eq_zero h0
  subst e0
  rw [ho]
  simp only [Dv,h1,Option.bind_some,List.length_nil,Int.natCast_zero,decide_true,cond_true]
  rfl
 ·obtain⟨⟨r',_⟩,r2,hr'⟩:=Sr hg (by omega)
  simp only at hr'
  have:=hr.uniq hr'
  subst this
  obtain⟨⟨o',_⟩,o2,ho'⟩:=Yh hg h1 (by omega) r2 s1 hr.1 hd.sq
  simp only at ho'
  rw [ho,← ho'];exact o2
theorem YU (code:List Int) (h:code.length≤1048576):wp (DS code) fun y=>DrC 1 y.1:=by
 unfold DS
 exact AF (AD (Qo code h) fun y1 hy1=>AF (AD (NH _ hy1) fun y2 hy2=>AA hy2.1))
theorem XO (code:List Int) (h:code.length≤1048576):wp (FD code) fun y=>DrC 1 y.1:=by
 unfold FD
 exact AF (AD (Qo code h) fun y1 hy1=>AF (AD (NH _ hy1) fun y2 hy2=>AA hy2.1))
theorem ai (code:List Int) (h:code.length≤1048576):wp (Gp code) fun y=>DrC 1 y.1:=by
 unfold Gp
 exact AF (AD (Qo code h) fun y1 hy1=>AF (AD (NH _ hy1) fun y2 hy2=>AA hy2.1))
theorem hO (code:List Int) (h:code.length≤1048576):wp (GH code) fun y=>GOk y.1:=by
 unfold GH
 refine AF (AD (Qo code h) fun y1 hy1=>AF (AD (Bv _ _ hy1) fun y2 hy2=>AF (AD (NH _ hy2.2.2.2) fun y3 hy3=>?_)))
 obtain⟨l,e,_,hg⟩:=UD y3.1 hy3.1.fine
 rw [e]
 exact AF (AA (AA hg))
theorem pure (code:List Int) {e:Nat} (hb:Bnd (.list e (.int .u8)) code):Ih code=some (true,()):=by
 unfold Ih Pt
 rw [Option.bind_some]
 by_cases hbig:(1048576:Int)<(code.length:Int)
 ·rw [decide_eq_true hbig];rfl
 rw [decide_eq_false hbig]
 have h:code.length≤1048576:=by omega
 obtain⟨⟨a,_⟩,e1,ha⟩:=YU code h
 obtain⟨⟨b,_⟩,e2,hb2⟩:=XO code h
 obtain⟨⟨c,_⟩,e3,hc⟩:=ai code h
 obtain⟨⟨l,i,_⟩,e4,hl⟩:=hO code h
 simp only at ha hb2 hc hl
 obtain⟨R,R0,R1,R2⟩:=dT a ha.fine
 obtain⟨bl,B1,B2,B3⟩:=UD b hb2.fine
 obtain⟨cl,C1,C2,CP3⟩:=UD c hc.fine
 obtain⟨d,D1,D2,D3⟩:=hY c cl CP3 C1 C2
 obtain⟨o,O1,O2,O3⟩:=ia c cl CP3 C1 C2
 have s1:=cP R R0
 have s2:=iy bl (by have:=B3.n;omega) (fun r hr=>by have:=(B3.b r hr).1;omega)
 have s3:=jh d (by have:=D3.sq.h;have:=CP3.n;omega) (fun r hr=>by have:=D3.sq.w r hr;have:=CP3.n;omega)
 have s4:=cQ o O3
 have hln:=hl.n
 simp only [cond_false,e1,e2,e3,e4,Option.bind_some,R1,R2,B1,B2,D1,D2,O1,O2,s1,s2,s3,s4,SR l i (show l.length≤1048576 by omega),YL l i (show l.length≤1048576 by omega),cond_true,decide_true,AC]
end X
end Go.Proofs.YtmakhmoielhjeaaGreatDoorE

/- The engine, texts I1 I2 I3 I4 I5 I6 I7 I8 I9: how code is reckoned as Lean functions, and that it is sound. No condition. -/
import Derived.Test.YtmakhmoielhjeaaGreatDoorPackBb
import Derived.Laws.IdiomCopy
import Derived.Deep.AppendSrc
import Derived.Deep.Upon
import Derived.Lib.LaidTab
import Derived.Lib.ItoaNum
set_option linter.all false
namespace Go.Proofs.YtmakhmoielhjeaaGreatDoorE
def DR:Lab→Lab→Option Lab
 | [],l=>some l
 | a::p,b::l=>if a=b then DR p l else none
 | _::_,[]=>none
theorem CJ:∀ {p l s:Lab},DR p l=some s↔l=p++s
 | [],l,s=>by simp [DR]
 | a::p,[],s=>by simp [DR]
 | a::p,b::l,s=>by
  simp only [DR,List.cons_append,List.cons.injEq];split
  ·rename_i h;subst h;rw [CJ];simp
  ·rename_i h;simp only [reduceCtorEq,false_iff,not_and];intro h2;exact absurd h2.symm h
def Bb (own:Own) (p q:Lab):Own:=fun b=>match own b with
 | some l=>match DR p l with
  | some s=>some (q++s)
  | none=>some l
 | none=>none
theorem DU {own:Own} {p q s:Lab} {b:Nat} (h:own b=some (p++s)):Bb own p q b=some (q++s):=by
 unfold Bb;rw [h];simp only;rw [CJ.2 rfl]
theorem BN {own:Own} {p q l:Lab} {b:Nat} (h:own b=some l) (hl:¬ Lab.le p l):Bb own p q b=some l:=by
 unfold Bb;rw [h];simp only;cases hs:DR p l with
 | none=>rfl
 | some s=>exact absurd ⟨s,CJ.1 hs⟩ hl
theorem Cg {own:Own} {p q:Lab} {b:Nat} (h:own b=some []) (hp:p≠[]):Bb own p q b=some []:=
 BN h (fun⟨s,hs⟩=>by cases p<;>simp at hs hp)
theorem BO {own:Own} {p q:Lab} {b:Nat}:Bb own p q b=none↔own b=none:=by
 unfold Bb;cases own b with
 | none=>simp
 | some l=>simp only [reduceCtorEq,iff_false];split<;>simp
theorem Cx {own:Own} {p q l:Lab} {b:Nat} (h:Bb own p q b=some l):∃ l',own b=some l':=by
 cases ho:own b with
 | none=>rw [BO.2 ho] at h;cases h
 | some l'=>exact⟨l',rfl⟩
def Gp (own:Own) (p:Lab):Own:=fun b=>match own b with
 | some l=>match DR p l with
  | some _=>none
  | none=>some l
 | none=>none
theorem Th {own:Own} {p s:Lab} {b:Nat} (h:own b=some (p++s)):Gp own p b=none:=by
 unfold Gp;rw [h];simp only;rw [CJ.2 rfl]
theorem FQ {own:Own} {p l:Lab} {b:Nat} (h:own b=some l) (hl:¬ Lab.le p l):Gp own p b=some l:=by
 unfold Gp;rw [h];simp only;cases hs:DR p l with
 | none=>rfl
 | some s=>exact absurd ⟨s,CJ.1 hs⟩ hl
theorem LW {own:Own} {p:Lab} {b:Nat} (h:own b=some []) (hp:p≠[]):Gp own p b=some []:=
 FQ h (fun⟨s,hs⟩=>by cases p<;>simp at hs hp)
theorem KD {own:Own} {p l:Lab} {b:Nat} (h:Gp own p b=some l):own b=some l:=by
 unfold Gp at h;cases ho:own b with
 | none=>rw [ho] at h;cases h
 | some l'=>
  rw [ho] at h;simp only at h;split at h
  ·cases h
  ·exact h
theorem Gq {own:Own} {p:Lab} {b:Nat} (h:own b=none):Gp own p b=none:=by
 unfold Gp;rw [h]
def hol:Ty→Md→Md
 | .list _ _,.own _=>.hole
 | .list _ _,m=>m
 | .pair a b,m=>.mk2 (hol a m.fst) (hol b m.snd)
 | _,_=>.ro
theorem RepO.hol {w w':World} {own own':Own} (h2:∀ b,own b=none→b<w.heap.size→own' b=none∧b<w'.heap.size∧w'.heap[b]?=w.heap[b]?):
 ∀ {t:Ty} {m:Md} {p q:Lab} {cs:List Value} {x:t.D},RepO w own t m p cs x→RepO w' own' t (hol t m) q cs x
 | .int _,_,_,_,_,_,h=>h
 | .bool,_,_,_,_,_,h=>h
 | .str,_,_,_,_,_,h=>h
 | .list e t,.own m,p,q,_,_,h=>by
  obtain⟨A,c,rfl,_,_⟩:=h;exact⟨_,rfl,rfl⟩
 | .list _ _,.hole,_,_,_,_,h=>h
 | .list _ _,.ro,_,_,_,_,h=>RepV.mono (fun b hb=>⟨⟨(h2 b hb.1 hb.2).1,(h2 b hb.1 hb.2).2.1⟩,(h2 b hb.1 hb.2).2.2⟩) h
 | .list _ _,.pr _ _,_,_,_,_,h=>RepV.mono (fun b hb=>⟨⟨(h2 b hb.1 hb.2).1,(h2 b hb.1 hb.2).2.1⟩,(h2 b hb.1 hb.2).2.2⟩) h
 | .pair a b,m,p,q,_,_,h=>by
  obtain⟨c1,c2,rfl,ha,hb⟩:=h;exact RepO.mk2 (RepO.hol h2 ha) (RepO.hol h2 hb)
theorem PZ {w:World} {own own2:Own} {ρ:Lab} (O1:∀ b l,own b=some l→¬ Lab.le ρ l→own2 b=some l) (O2:∀ b,own b=none→own2 b=none):
 ∀ (π:Path) {t:Ty} {m:Md} {p:Lab} {cs cs':List Value} {x:t.D} {L L':Option Addr} {d0 d:Dat} {M:Md} {X:t.D},
 RepO w own t m p cs x→AH π t m x=some d0→EK π t m x d=some (M,X)→Al w π t L cs=some (L',cs')→ρ=p++π.lab→RepO w own2 d.t d.m ρ cs' d.x→RepO w own2 t M p cs X
 | [],t,m,p,cs,cs',x,L,L',d0,d,M,X,hr,hg,hs,hl,hρ,hd=>by
  simp only [EK] at hs;split at hs
  ·rename_i ht;obtain⟨dt,dm,dx⟩:=d;simp only at ht;subst ht;simp only [Option.some.injEq,Prod.mk.injEq] at hs;obtain⟨rfl,rfl⟩:=hs;simp only [Al,Option.some.injEq,Prod.mk.injEq] at hl;obtain⟨rfl,rfl⟩:=hl;simp only [Path.lab,List.map_nil,List.append_nil] at hρ;subst hρ;exact hd
  ·simp at hs
 | .f::π,.pair a b,m,p,cs,cs',x,L,L',d0,d,M,X,hr,hg,hs,hl,hρ,hd=>by
  obtain⟨c1,c2,rfl,h1,h2⟩:=hr;have e:(c1++c2).take a.sz=c1:=by rw [← RepO.len h1];simp
  simp only [Al,e] at hl;simp only [AH] at hg;simp only [EK,Option.map_eq_some_iff] at hs;obtain⟨⟨M1,X1⟩,hs1,hs2⟩:=hs;simp only [Prod.mk.injEq] at hs2;obtain⟨rfl,rfl⟩:=hs2;have hρ':ρ=(p++[0])++Path.lab π:=by rw [hρ];simp [Path.lab,St.lab]
  have g1:=PZ O1 O2 π h1 hg hs1 hl hρ' hd
  refine RepO.mk2 (x:=(_,_)) g1 (RepO.move (q:=p++[1]) (fun b h1 h2=>⟨O2 b h1,h2,rfl⟩) h2 (fun b s hb=>?_))
  have hb':own b=some (p++1::s):=by rw [hb];simp
  have np:¬ Lab.le ρ (p++1::s):=by
   rw [hρ',show(p++[0])++Path.lab π=p++0::Path.lab π by simp];exact Lab.part (by omega) _ _
  exact⟨by have:=O1 b _ hb' np;simpa using this,rfl⟩
 | .s::π,.pair a b,m,p,cs,cs',x,L,L',d0,d,M,X,hr,hg,hs,hl,hρ,hd=>by
  obtain⟨c1,c2,rfl,h1,h2⟩:=hr;have e:(c1++c2).drop a.sz=c2:=by rw [← RepO.len h1];simp
  simp only [Al,e] at hl;simp only [AH] at hg;simp only [EK,Option.map_eq_some_iff] at hs;obtain⟨⟨M1,X1⟩,hs1,hs2⟩:=hs;simp only [Prod.mk.injEq] at hs2;obtain⟨rfl,rfl⟩:=hs2;have hρ':ρ=(p++[1])++Path.lab π:=by rw [hρ];simp [Path.lab,St.lab]
  have g1:=PZ O1 O2 π h2 hg hs1 hl hρ' hd
  refine RepO.mk2 (x:=(_,_)) (RepO.move (q:=p++[0]) (fun b h1 h2=>⟨O2 b h1,h2,rfl⟩) h1 (fun b s hb=>?_)) g1
  have hb':own b=some (p++0::s):=by rw [hb];simp
  have np:¬ Lab.le ρ (p++0::s):=by
   rw [hρ',show(p++[1])++Path.lab π=p++1::Path.lab π by simp];exact Lab.part (by omega) _ _
  exact⟨by have:=O1 b _ hb' np;simpa using this,rfl⟩
 | .i n::π,.list e t,.own m,p,cs,cs',x,L,L',d0,d,M,X,hr,hg,hs,hl,hρ,hd=>by
  simp only [AH] at hg;simp only [EK] at hs;split at hg
  ·rename_i h0;rw [if_pos h0] at hs;split at hg
   ·rename_i hn;rw [if_pos hn] at hs;simp only [Option.bind_eq_some_iff] at hs;obtain⟨⟨M1,X1⟩,hs1,hs2⟩:=hs;simp only at hs2;split at hs2
    ·rename_i hm;subst hm;simp only [Option.some.injEq,Prod.mk.injEq] at hs2;obtain⟨rfl,rfl⟩:=hs2;obtain⟨A,c,rfl,hle,hr⟩:=hr;have hlt:n.toNat<List.length x:=by omega
     rcases hr with⟨_,rfl⟩ | ⟨b,o,arr,rfl,ho,hh,hs',hi⟩
     ·omega
     ·have hρ':ρ=(p++[n.toNat])++Path.lab π:=by rw [hρ];simp [Path.lab,St.lab]
      have ex:rd x n t.zero=List.get x ⟨n.toNat,hlt⟩:=by simp [rd,List.getD_eq_getElem?_getD,List.getElem?_eq_getElem hlt]
      refine⟨_,c,by rw [List.length_set],by rw [List.length_set];exact hle,.inr ⟨b,o,arr,rfl,?_,hh,hs',fun i hi2=>?_⟩⟩
      ·refine O1 b p ho (fun hle2=>?_)
       have:=Lab.le_len hle2
       rw [hρ'] at this;simp at this;omega
      ·rw [List.length_set] at hi2;obtain⟨ci,hc1,hc2⟩:=hi i hi2;refine⟨ci,?_,hc2⟩
       by_cases hin:i=n.toNat
       ·subst hin;have hca:CellsAt w ((⟨b,o,none⟩:Addr).add (n.toNat * t.sz)) ci:=by
         intro j hj;rw [Addr.add_add,Ao hh,← Nat.add_assoc];exact hc2 j hj
        simp only [Al] at hl;rw [← RepO.len hc1,GY (by rw [RepO.len hc1];exact hca),RepO.len hc1] at hl;rw [ex] at hg hs1;have g1:=PZ O1 O2 π hc1 hg hs1 hl hρ' hd
        simpa using g1
       ·have e1:List.get (List.set x n.toNat X1) ⟨i,by rw [List.length_set];exact hi2⟩=List.get x ⟨i,hi2⟩:=by
         simp [List.getElem_set,Ne.symm hin]
        rw [e1];refine RepO.move (fun b h1 h2=>⟨O2 b h1,h2,rfl⟩) hc1 (fun b s hb=>?_)
        have hb':own b=some (p++i::s):=by rw [hb];simp
        have np:¬ Lab.le ρ (p++i::s):=by
         rw [hρ',show(p++[n.toNat])++Path.lab π=p++n.toNat::Path.lab π by simp];exact Lab.part (Ne.symm hin) _ _
        exact⟨by have:=O1 b _ hb' np;simpa using this,rfl⟩
    ·simp at hs2
   ·simp at hg
  ·simp at hg
 | .f::_,.int _,_,_,_,_,_,_,_,_,_,_,_,_,hg,_,_,_,_=>by simp [AH] at hg
 | .f::_,.bool,_,_,_,_,_,_,_,_,_,_,_,_,hg,_,_,_,_=>by simp [AH] at hg
 | .f::_,.str,_,_,_,_,_,_,_,_,_,_,_,_,hg,_,_,_,_=>by simp [AH] at hg
 | .f::_,.list _ _,_,_,_,_,_,_,_,_,_,_,_,_,hg,_,_,_,_=>by simp [AH] at hg
 | .s::_,.int _,_,_,_,_,_,_,_,_,_,_,_,_,hg,_,_,_,_=>by simp [AH] at hg
 | .s::_,.bool,_,_,_,_,_,_,_,_,_,_,_,_,hg,_,_,_,_=>by simp [AH] at hg
 | .s::_,.str,_,_,_,_,_,_,_,_,_,_,_,_,hg,_,_,_,_=>by simp [AH] at hg
 | .s::_,.list _ _,_,_,_,_,_,_,_,_,_,_,_,_,hg,_,_,_,_=>by simp [AH] at hg
 | .i _::_,.int _,_,_,_,_,_,_,_,_,_,_,_,_,hg,_,_,_,_=>by simp [AH] at hg
 | .i _::_,.bool,_,_,_,_,_,_,_,_,_,_,_,_,hg,_,_,_,_=>by simp [AH] at hg
 | .i _::_,.str,_,_,_,_,_,_,_,_,_,_,_,_,hg,_,_,_,_=>by simp [AH] at hg
 | .i _::_,.pair _ _,_,_,_,_,_,_,_,_,_,_,_,_,hg,_,_,_,_=>by simp [AH] at hg
 | .i _::_,.list _ _,.ro,_,_,_,_,_,_,_,_,_,_,_,hg,_,_,_,_=>by simp [AH] at hg
 | .i _::_,.list _ _,.hole,_,_,_,_,_,_,_,_,_,_,_,hg,_,_,_,_=>by simp [AH] at hg
 | .i _::_,.list _ _,.pr _ _,_,_,_,_,_,_,_,_,_,_,_,hg,_,_,_,_=>by simp [AH] at hg
theorem NF {w w2:World} {own own2:Own} {ρ p0:Lab} (O1:∀ b l,own b=some l→Lab.le p0 l→¬ Lab.le ρ l→own2 b=some l∧w2.heap[b]?=w.heap[b]?) (O2:∀ b,own b=none→b<w.heap.size→own2 b=none∧b<w2.heap.size∧w2.heap[b]?=w.heap[b]?):
 ∀ (π:Path) {t:Ty} {m:Md} {p:Lab} {cs cs':List Value} {x:t.D} {L L':Option Addr} {d0 d:Dat} {M:Md} {X:t.D},
 Lab.le p0 p→RepO w own t m p cs x→AH π t m x=some d0→EK π t m x d=some (M,X)→Al w π t L cs=some (L',cs')→ρ=p++π.lab→RepO w2 own2 d.t d.m ρ cs' d.x→RepO w2 own2 t M p cs X
 | [],t,m,p,cs,cs',x,L,L',d0,d,M,X,hp,hr,hg,hs,hl,hρ,hd=>by
  simp only [EK] at hs;split at hs
  ·rename_i ht;obtain⟨dt,dm,dx⟩:=d;simp only at ht;subst ht;simp only [Option.some.injEq,Prod.mk.injEq] at hs;obtain⟨rfl,rfl⟩:=hs;simp only [Al,Option.some.injEq,Prod.mk.injEq] at hl;obtain⟨rfl,rfl⟩:=hl;simp only [Path.lab,List.map_nil,List.append_nil] at hρ;subst hρ;exact hd
  ·simp at hs
 | .f::π,.pair a b,m,p,cs,cs',x,L,L',d0,d,M,X,hp,hr,hg,hs,hl,hρ,hd=>by
  obtain⟨c1,c2,rfl,h1,h2⟩:=hr;have e:(c1++c2).take a.sz=c1:=by rw [← RepO.len h1];simp
  simp only [Al,e] at hl;simp only [AH] at hg;simp only [EK,Option.map_eq_some_iff] at hs;obtain⟨⟨M1,X1⟩,hs1,hs2⟩:=hs;simp only [Prod.mk.injEq] at hs2;obtain⟨rfl,rfl⟩:=hs2;have hρ':ρ=(p++[0])++Path.lab π:=by rw [hρ];simp [Path.lab,St.lab]
  have g1:=NF O1 O2 π (Lab.le_trans hp (Lab.le_app _ _)) h1 hg hs1 hl hρ' hd
  refine RepO.mk2 (x:=(_,_)) g1 (RepO.move (q:=p++[1]) (fun b h1 h2=>O2 b h1 h2) h2 (fun b s hb=>?_))
  have hb':own b=some (p++1::s):=by rw [hb];simp
  have np:¬ Lab.le ρ (p++1::s):=by
   rw [hρ',show(p++[0])++Path.lab π=p++0::Path.lab π by simp];exact Lab.part (by omega) _ _
  obtain⟨y1,y2⟩:=O1 b _ hb' (Lab.le_trans hp (Lab.le_app _ _)) np;exact⟨by simpa using y1,y2⟩
 | .s::π,.pair a b,m,p,cs,cs',x,L,L',d0,d,M,X,hp,hr,hg,hs,hl,hρ,hd=>by
  obtain⟨c1,c2,rfl,h1,h2⟩:=hr;have e:(c1++c2).drop a.sz=c2:=by rw [← RepO.len h1];simp
  simp only [Al,e] at hl;simp only [AH] at hg;simp only [EK,Option.map_eq_some_iff] at hs;obtain⟨⟨M1,X1⟩,hs1,hs2⟩:=hs;simp only [Prod.mk.injEq] at hs2;obtain⟨rfl,rfl⟩:=hs2;have hρ':ρ=(p++[1])++Path.lab π:=by rw [hρ];simp [Path.lab,St.lab]
  have g1:=NF O1 O2 π (Lab.le_trans hp (Lab.le_app _ _)) h2 hg hs1 hl hρ' hd
  refine RepO.mk2 (x:=(_,_)) (RepO.move (q:=p++[0]) (fun b h1 h2=>O2 b h1 h2) h1 (fun b s hb=>?_)) g1
  have hb':own b=some (p++0::s):=by rw [hb];simp
  have np:¬ Lab.le ρ (p++0::s):=by
   rw [hρ',show(p++[1])++Path.lab π=p++1::Path.lab π by simp];exact Lab.part (by omega) _ _
  obtain⟨y1,y2⟩:=O1 b _ hb' (Lab.le_trans hp (Lab.le_app _ _)) np;exact⟨by simpa using y1,y2⟩
 | .i n::π,.list e t,.own m,p,cs,cs',x,L,L',d0,d,M,X,hp,hr,hg,hs,hl,hρ,hd=>by
  simp only [AH] at hg;simp only [EK] at hs;split at hg
  ·rename_i h0;rw [if_pos h0] at hs;split at hg
   ·rename_i hn;rw [if_pos hn] at hs;simp only [Option.bind_eq_some_iff] at hs;obtain⟨⟨M1,X1⟩,hs1,hs2⟩:=hs;simp only at hs2;split at hs2
    ·rename_i hm;subst hm;simp only [Option.some.injEq,Prod.mk.injEq] at hs2;obtain⟨rfl,rfl⟩:=hs2;obtain⟨A,c,rfl,hle,hr⟩:=hr;have hlt:n.toNat<List.length x:=by omega
     rcases hr with⟨_,rfl⟩ | ⟨b,o,arr,rfl,ho,hh,hs',hi⟩
     ·omega
     ·have hρ':ρ=(p++[n.toNat])++Path.lab π:=by rw [hρ];simp [Path.lab,St.lab]
      have ex:rd x n t.zero=List.get x ⟨n.toNat,hlt⟩:=by simp [rd,List.getD_eq_getElem?_getD,List.getElem?_eq_getElem hlt]
      obtain⟨z1,z2⟩:=O1 b p ho hp (fun hle2=>by
       have:=Lab.le_len hle2
       rw [hρ'] at this;simp at this;omega)
      refine⟨_,c,by rw [List.length_set],by rw [List.length_set];exact hle,.inr ⟨b,o,arr,rfl,z1,by rw [z2];exact hh,hs',fun i hi2=>?_⟩⟩
      ·rw [List.length_set] at hi2;obtain⟨ci,hc1,hc2⟩:=hi i hi2;refine⟨ci,?_,hc2⟩
       by_cases hin:i=n.toNat
       ·subst hin;have hca:CellsAt w ((⟨b,o,none⟩:Addr).add (n.toNat * t.sz)) ci:=by
         intro j hj;rw [Addr.add_add,Ao hh,← Nat.add_assoc];exact hc2 j hj
        simp only [Al] at hl;rw [← RepO.len hc1,GY (by rw [RepO.len hc1];exact hca),RepO.len hc1] at hl;rw [ex] at hg hs1;have g1:=NF O1 O2 π (Lab.le_trans hp (Lab.le_app _ _)) hc1 hg hs1 hl hρ' hd
        simpa using g1
       ·have e1:List.get (List.set x n.toNat X1) ⟨i,by rw [List.length_set];exact hi2⟩=List.get x ⟨i,hi2⟩:=by
         simp [List.getElem_set,Ne.symm hin]
        rw [e1];refine RepO.move (fun b h1 h2=>O2 b h1 h2) hc1 (fun b s hb=>?_)
        have hb':own b=some (p++i::s):=by rw [hb];simp
        have np:¬ Lab.le ρ (p++i::s):=by
         rw [hρ',show(p++[n.toNat])++Path.lab π=p++n.toNat::Path.lab π by simp];exact Lab.part (Ne.symm hin) _ _
        obtain⟨y1,y2⟩:=O1 b _ hb' (Lab.le_trans hp (Lab.le_app _ _)) np;exact⟨by simpa using y1,y2⟩
    ·simp at hs2
   ·simp at hg
  ·simp at hg
 | .f::_,.int _,_,_,_,_,_,_,_,_,_,_,_,_,_,hg,_,_,_,_=>by simp [AH] at hg
 | .f::_,.bool,_,_,_,_,_,_,_,_,_,_,_,_,_,hg,_,_,_,_=>by simp [AH] at hg
 | .f::_,.str,_,_,_,_,_,_,_,_,_,_,_,_,_,hg,_,_,_,_=>by simp [AH] at hg
 | .f::_,.list _ _,_,_,_,_,_,_,_,_,_,_,_,_,_,hg,_,_,_,_=>by simp [AH] at hg
 | .s::_,.int _,_,_,_,_,_,_,_,_,_,_,_,_,_,hg,_,_,_,_=>by simp [AH] at hg
 | .s::_,.bool,_,_,_,_,_,_,_,_,_,_,_,_,_,hg,_,_,_,_=>by simp [AH] at hg
 | .s::_,.str,_,_,_,_,_,_,_,_,_,_,_,_,_,hg,_,_,_,_=>by simp [AH] at hg
 | .s::_,.list _ _,_,_,_,_,_,_,_,_,_,_,_,_,_,hg,_,_,_,_=>by simp [AH] at hg
 | .i _::_,.int _,_,_,_,_,_,_,_,_,_,_,_,_,_,hg,_,_,_,_=>by simp [AH] at hg
 | .i _::_,.bool,_,_,_,_,_,_,_,_,_,_,_,_,_,hg,_,_,_,_=>by simp [AH] at hg
 | .i _::_,.str,_,_,_,_,_,_,_,_,_,_,_,_,_,hg,_,_,_,_=>by simp [AH] at hg
 | .i _::_,.pair _ _,_,_,_,_,_,_,_,_,_,_,_,_,_,hg,_,_,_,_=>by simp [AH] at hg
 | .i _::_,.list _ _,.ro,_,_,_,_,_,_,_,_,_,_,_,_,hg,_,_,_,_=>by simp [AH] at hg
 | .i _::_,.list _ _,.hole,_,_,_,_,_,_,_,_,_,_,_,_,hg,_,_,_,_=>by simp [AH] at hg
 | .i _::_,.list _ _,.pr _ _,_,_,_,_,_,_,_,_,_,_,_,_,hg,_,_,_,_=>by simp [AH] at hg
def AV.kills (rs:List Nat) (av:AV):AV:=rs.foldl (fun a r=>a.kill r) av
def S.killA (σ:S) (rs:List Nat):S:={ σ with sl:=MO (AV.kills rs) σ.sl }
def S.setSlot (σ:S) (i:Nat) (av:AV):S:={ σ with sl:=σ.sl.set i av }
def S.setBox (σ:S) (k:Nat) (bx:Option (Bool×Dat)):S:={ σ with bx:=(if k<σ.bx.length then σ.bx else σ.bx++List.replicate (k+1 - σ.bx.length) none).set k bx }
def S.setRoot (σ:S) (r:Nat) (d:Dat):S:=if r % 2=0 then σ.setSlot (r / 2) (.dat d) else match σ.box (r / 2) with
 | some (b,_)=>σ.setBox (r / 2) (some (b,d))
 | none=>σ
theorem AV.kills_or:∀ (rs:List Nat) (av:AV),av.kills rs=.none∨av.kills rs=av
 | [],_=>.inr rfl
 | r::rs,av=>by
  have e:av.kills (r::rs)=(av.kill r).kills rs:=rfl
  rw [e];rcases AV.kill_or r av with h | h<;>rw [h]
  ·rcases AV.kills_or rs .none with h2 | h2
   ·exact .inl h2
   ·exact .inl h2
  ·exact AV.kills_or rs av
theorem AV.kills_none (rs:List Nat):AV.kills rs .none=.none:=by
 rcases AV.kills_or rs .none with h | h<;>exact h
theorem AV.kills_all:∀ (rs:List Nat) (av:AV),av.kills rs=av→av≠.none→∀ r∈rs,av.kill r=av
 | [],_,_,_,r,hr=>by cases hr
 | q::rs,av,h,hn,r,hr=>by
  have e:av.kills (q::rs)=(av.kill q).kills rs:=rfl
  rw [e] at h;rcases AV.kill_or q av with h1 | h1
  ·rw [h1,AV.kills_none] at h;exact absurd h.symm hn
  ·rw [h1] at h;rcases List.mem_cons.1 hr with rfl | hr
   ·exact h1
   ·exact AV.kills_all rs av h hn r hr
def AV.isD:AV→Bool
 | .dat _=>true
 | _=>false
theorem AV.kills_dat (rs:List Nat) {av:AV} (h:av.isD=true):av.kills rs=av:=by
 have:∀ (rs:List Nat),av.kills rs=av:=fun rs=>by
  induction rs with
  | nil=>rfl
  | cons r rs ih=>
   have e:av.kills (r::rs)=(av.kill r).kills rs:=rfl
   have e2:av.kill r=av:=by cases av<;>simp [AV.isD] at h<;>rfl
   rw [e,e2,ih]
 exact this rs
theorem AV.kills_hk (rs:List Nat) {av:AV} {k:Nat} (h:(av.kills rs).hk=some k):av.hk=some k:=by
 rcases AV.kills_or rs av with h1 | h1
 ·rw [h1] at h;cases h
 ·rw [h1] at h;exact h
theorem S.killA_slot (σ:S) (rs:List Nat) (i:Nat):(σ.killA rs).slot i=(σ.slot i).kills rs:=by
 simp only [S.killA,S.slot,List.getD_eq_getElem?_getD,MP (AV.kills_none rs)];cases σ.sl[i]?<;>simp [AV.kills_none]
theorem S.setSlot_slot (σ:S) (i j:Nat) (av:AV):(σ.setSlot i av).slot j=if i=j∧i<σ.sl.length then av else σ.slot j:=by
 simp only [S.setSlot,S.slot,List.getD_eq_getElem?_getD,List.getElem?_set];split
 ·rename_i h;subst h;split
  ·simp [*]
  ·rename_i h2;simp [h2]
 ·rename_i h;simp [h]
theorem S.setSlot_box (σ:S) (i k:Nat) (av:AV):(σ.setSlot i av).box k=σ.box k:=rfl
theorem S.killA_box (σ:S) (rs:List Nat) (k:Nat):(σ.killA rs).box k=σ.box k:=rfl
theorem S.setBox_box (σ:S) (k j:Nat) (bx:Option (Bool×Dat)):(σ.setBox k bx).box j=if k=j then bx else σ.box j:=by
 simp only [S.setBox,S.box,List.getD_eq_getElem?_getD]
 by_cases hk:k<σ.bx.length
 ·rw [if_pos hk,List.getElem?_set]
  by_cases e:k=j
  ·subst e;simp [hk]
  ·simp [e]
 ·rw [if_neg hk,List.getElem?_set]
  by_cases e:k=j
  ·subst e;have:k<(σ.bx++List.replicate (k+1 - σ.bx.length) none).length:=by simp;omega
   simp only [if_true,if_pos this,Option.getD_some]
  ·simp only [if_neg e]
   by_cases hj:j<σ.bx.length
   ·rw [List.getElem?_append_left hj]
   ·rw [List.getElem?_append_right (by omega),List.getElem?_eq_none (l:=σ.bx) (by omega),List.getElem?_replicate];split<;>rfl
theorem S.setBox_slot (σ:S) (k i:Nat) (bx:Option (Bool×Dat)):(σ.setBox k bx).slot i=σ.slot i:=rfl
theorem S.killA_len (σ:S) (rs:List Nat):(σ.killA rs).sl.length=σ.sl.length:=by simp [S.killA]
theorem S.setSlot_len (σ:S) (i:Nat) (av:AV):(σ.setSlot i av).sl.length=σ.sl.length:=by simp [S.setSlot]
theorem S.setRoot_slot {σ:S} {r:Nat} {d0:Dat} (d:Dat) (hr:σ.rt r=some d0) (j:Nat):(σ.setRoot r d).slot j=if r=2 * j then .dat d else σ.slot j:=by
 unfold S.setRoot;unfold S.rt at hr;split
 ·rename_i he;rw [if_pos he] at hr;rw [S.setSlot_slot];have hlt:r / 2<σ.sl.length:=by
   rcases Nat.lt_or_ge (r / 2) σ.sl.length with h | h
   ·exact h
   ·simp only [S.slot,List.getD_eq_getElem?_getD,List.getElem?_eq_none h] at hr;cases hr
  by_cases e:r=2 * j
  ·rw [if_pos ⟨by omega,hlt⟩,if_pos e]
  ·rw [if_neg (fun h=>e (by omega)),if_neg e]
 ·rename_i he;rw [if_neg (by omega:¬ r=2 * j)];split<;>rfl
theorem S.setRoot_box {σ:S} {r:Nat} {d0:Dat} (d:Dat) (hr:σ.rt r=some d0) (k:Nat):(σ.setRoot r d).box k=if r=2 * k+1 then (σ.box k).map (fun p=>(p.1,d)) else σ.box k:=by
 unfold S.setRoot;unfold S.rt at hr;split
 ·rename_i he;rw [if_neg (by omega:¬ r=2 * k+1)];rfl
 ·rename_i he;rw [if_neg he] at hr;split
  ·rename_i b d1 hb;rw [S.setBox_box]
   by_cases e:r=2 * k+1
   ·rw [if_pos (by omega),if_pos e];have:r / 2=k:=by omega
    rw [this] at hb;rw [hb];rfl
   ·rw [if_neg (fun h=>e (by omega)),if_neg e]
  ·rename_i hb;rw [hb] at hr;cases hr
theorem S.setRoot_len (σ:S) (r:Nat) (d:Dat):(σ.setRoot r d).sl.length=σ.sl.length:=by
 unfold S.setRoot;split
 ·exact S.setSlot_len _ _ _
 ·split<;>rfl
theorem RootR.slot_inv {G:Gh} {σ:S} {tmps:Array Value} {w:World} {r j:Nat} {d:Dat} {L:Option Addr} {cs:List Value} (h:RootR G σ tmps w r d L cs) (hr:r=2 * j):σ.slot j=.dat d∧L=none∧Val d.t (tmps.getD j undef) cs:=by
 cases h with
 | slot i d cs hs hv=>
  have:i=j:=by omega
  subst this;exact⟨hs,rfl,hv⟩
 | box k d cs _ _ _=>omega
 | hdr k d _=>omega
theorem RootR.box_inv {G:Gh} {σ:S} {tmps:Array Value} {w:World} {r k:Nat} {d:Dat} {L:Option Addr} {cs:List Value} (h:RootR G σ tmps w r d L cs) (hr:r=2 * k+1):
 (σ.box k=some (true,d)∧L=some ⟨(G.bl k).1,(G.bl k).2,none⟩∧cs.length=d.t.sz∧CellsAt w ⟨(G.bl k).1,(G.bl k).2,none⟩ cs)∨(σ.box k=some (false,d)∧L=none∧cs=(G.hv k).2):=by
 cases h with
 | slot i d cs hs hv=>omega
 | box k' d cs hb hl hc=>
  have:k'=k:=by omega
  subst this;exact .inl ⟨hb,rfl,hl,hc⟩
 | hdr k' d hb=>
  have:k'=k:=by omega
  subst this;exact .inr ⟨hb,rfl,rfl⟩
def S.grab (σ:S) (i:Nat):Option S:=match σ.slot i with
 | .snp _ _ _ (some p)=>match σ.rt p.root with
  | some d=>match BG p.path d.t d.m d.x with
   | some d'=>match Fe p.path d.t d.m d.x ⟨d'.t,hol d'.t d'.m,d'.x⟩ with
    | some (M,X)=>some (((σ.killA [p.root,2 * i]).setRoot p.root ⟨d.t,M,X⟩).setSlot i (.dat d'))
    | none=>none
   | none=>none
  | none=>none
 | _=>none
def S.grabR (σ:S) (i:Nat):List Nat:=match σ.slot i with
 | .snp _ _ _ (some p)=>[p.root,2 * i]
 | _=>[]
theorem Rel.grab {w0:World} {G0:Gh} {np:Nat} {σ:S} {a:Act} {w:World} {G:Gh} (h:Rel w0 G0 np σ a w G) {i:Nat} {σ':S} (hg:σ.grab i=some σ'):∃ G',Rel w0 G0 np σ' a w G'∧Ft w w G G' (σ.grabR i):=by
 unfold S.grab at hg;split at hg
 ·rename_i t x deps p hs;split at hg
  ·rename_i d hd;split at hg
   ·rename_i d' hd';split at hg
    ·rename_i M X hset;obtain⟨rfl⟩:=hg;have hsl:=h.slots i
     rw [hs] at hsl;obtain⟨cs,hval,hV,hsrc⟩:=hsl;obtain⟨L,cr,hroot⟩:=h.rt hd;obtain⟨m,L',g1,g2⟩:=hsrc p rfl d L cr hroot;have e1:=FE _ g1
     rw [hd'] at e1;obtain⟨rfl⟩:=e1;have hset':=JV _ g1 hset
     have hR:=h.root hroot
     obtain⟨L2,cs2,f1,f2,f3,_,_⟩:=GE p.path (L:=L) hR.1 (fun A hA=>(hR.2 A hA).1) g1;rw [g2] at f1;simp only [Option.some.injEq,Prod.mk.injEq] at f1;obtain⟨rfl,rfl⟩:=f1;have hne:p.root≠2 * i:=by
      intro e;rw [e] at hd;have:2 * i / 2=i:=by omega
      simp [S.rt,this,hs] at hd
     have hilt:i<σ.sl.length:=by
      rcases Nat.lt_or_ge i σ.sl.length with h | h
      ·exact h
      ·simp only [S.slot,List.getD_eq_getElem?_getD,List.getElem?_eq_none h] at hs;cases hs
     let own':=Bb G.own (Ai p.root++p.path.lab) [2 * i]
     have hO2:∀ b,G.own b=none→own' b=none:=fun b hb=>BO.2 hb
     have hroot':=PZ (own2:=own') (ρ:=Ai p.root++p.path.lab) (fun b l hb hl=>BN hb hl) hO2 p.path hR.1 g1 hset' g2 rfl
      (RepO.hol (fun b h1 h2=>⟨hO2 b h1,h2,rfl⟩) f2)
     have hnew:RepO w own' t m [2 * i] cs x:=RepO.move (fun b h1 h2=>⟨hO2 b h1,h2,rfl⟩) f2 (fun b s hb=>⟨DU hb,rfl⟩)
     have hkrt:((σ.killA [p.root,2 * i])).rt p.root=some d:=by
      unfold S.rt at hd ⊢;split
      ·rename_i he;rw [if_pos he] at hd;rw [S.killA_slot];cases hsp:σ.slot (p.root / 2)<;>rw [hsp] at hd<;>simp at hd
       rw [AV.kills_dat _ rfl];simp [hd]
      ·rename_i he;rw [if_neg he] at hd;exact hd
     have hslot:∀ j,(((σ.killA [p.root,2 * i]).setRoot p.root ⟨d.t,M,X⟩).setSlot i (.dat ⟨t,m,x⟩)).slot j=if i=j then .dat ⟨t,m,x⟩ else if p.root=2 * j then .dat ⟨d.t,M,X⟩ else (σ.slot j).kills [p.root,2 * i]:=by
      intro j;rw [S.setSlot_slot,S.setRoot_len,S.killA_len,S.setRoot_slot _ hkrt,S.killA_slot]
      by_cases e:i=j
      ·rw [if_pos ⟨e,hilt⟩,if_pos e]
      ·rw [if_neg (fun h=>e h.1),if_neg e]
     have hbox:∀ k,(((σ.killA [p.root,2 * i]).setRoot p.root ⟨d.t,M,X⟩).setSlot i (.dat ⟨t,m,x⟩)).box k=if p.root=2 * k+1 then (σ.box k).map (fun q=>(q.1,⟨d.t,M,X⟩)) else σ.box k:=by
      intro k;rw [S.setSlot_box,S.setRoot_box _ hkrt];rfl
     have hgr:σ.grabR i=[p.root,2 * i]:=by simp only [S.grabR,hs]
     rw [hgr];refine⟨{ G with own:=own' },h.step2 [p.root,2 * i] (fun _ _=>⟨rfl,rfl,rfl,rfl⟩) ⟨Nat.le_refl _,fun b hb _=>⟨hO2 b hb,rfl⟩,fun b r s hb hr=>⟨BN hb ?_,rfl⟩,fun b hb=>⟨Cg hb (by rw [(Bi p.root).choose_spec];simp),rfl⟩⟩ rfl rfl rfl ?_ (fun _ _=>⟨rfl,rfl,rfl,rfl⟩) ?_ h.defers (fun j=>?_) (fun k bx hb=>?_) (fun k b d1 hk hb=>?_) (fun j k hj=>?_)⟩
     ·rintro ⟨s',hs'⟩
      obtain⟨s0,e0⟩:=Bi p.root;rw [e0] at hs';simp at hs';simp [hs'.1] at hr
     ·intro b l hb;obtain⟨l',hl'⟩:=Cx hb;exact h.live b l' hl'
     ·rw [S.setSlot_len,S.setRoot_len,S.killA_len];exact h.tmps
     ·rw [hslot j]
      by_cases e:i=j
      ·subst e;right;rw [if_pos rfl];exact⟨⟨cs,hval,hnew⟩,fun _=>by simp⟩
      ·rw [if_neg e]
       by_cases e2:p.root=2 * j
       ·right;rw [if_pos e2];refine⟨?_,fun _=>by simp [e2]⟩
        obtain⟨_,_,hv'⟩:=hroot.slot_inv e2;refine⟨cr,hv',?_⟩
        rw [Ai,if_pos (by omega),e2] at hroot';exact hroot'
       ·left;refine⟨⟨?_⟩,rfl⟩
        rw [hslot j,if_neg e,if_neg e2];rcases AV.kills_or [p.root,2 * i] (σ.slot j) with k1 | k1
        ·exact .inl k1
        ·by_cases hn:σ.slot j=.none
         ·left;rw [k1,hn]
         ·exact .inr ⟨k1,AV.kills_all _ _ k1 hn,fun _=>by simp;exact⟨fun h=>e2 h.symm,fun h=>e (by omega)⟩⟩
     ·rw [hbox k] at hb
      by_cases e:p.root=2 * k+1
      ·rw [if_pos e] at hb;right;refine⟨?_,by simp [e]⟩
       obtain⟨q,hq,rfl⟩:=Option.map_eq_some_iff.1 hb;obtain⟨bb,dq⟩:=q;have hB:=h.boxes k _ hq
       have e0:Ai p.root=[2 * k+1,0]:=by rw [Ai,if_neg (by omega),e]
       rw [e0] at hroot';rcases hroot.box_inv e with⟨hb',hL',hl',hc'⟩ | ⟨hb',hL',hc'⟩
       ·rw [hq] at hb';simp only [Option.some.injEq,Prod.mk.injEq] at hb';obtain⟨rfl,rfl⟩:=hb';obtain⟨arr,q1,q2,q3,q4,q5,csb,q6,q7⟩:=hB;refine⟨arr,q1,?_,q3,q4,q5,cr,hroot',fun j hj=>?_⟩
        ·exact BN q2 (fun hle=>by
          have:=Lab.le_len hle
          rw [e0] at this;simp at this)
        ·have:=hc' j hj
         rwa [Ao q1] at this
       ·rw [hq] at hb';simp only [Option.some.injEq,Prod.mk.injEq] at hb';obtain⟨rfl,rfl⟩:=hb';obtain⟨q1,q2⟩:=hB;rw [hc'] at hroot';exact⟨q1,hroot'⟩
      ·rw [if_neg e] at hb;left;exact⟨hb,by simp;exact⟨fun h=>e h.symm,by omega⟩,rfl,rfl,rfl,rfl⟩
     ·have hk':p.root=2 * k+1:=by simp at hk;omega
      rw [hbox k,if_pos hk'] at hb;obtain⟨q,hq,hq2⟩:=Option.map_eq_some_iff.1 hb;obtain⟨bb,dq⟩:=q;simp only [Prod.mk.injEq] at hq2;obtain⟨rfl,rfl⟩:=hq2;left;refine⟨dq,hq,?_,rfl,rfl⟩
      have:σ.rt (2 * k+1)=some dq:=by
       have e1:(2 * k+1) / 2=k:=by omega
       have e2:¬ (2 * k+1) % 2=0:=by omega
       simp only [S.rt,if_neg e2,e1,hq,Option.map_some]
      rw [hk',this] at hd;rw [Option.some.inj hd]
     ·rw [hslot j] at hj
      by_cases e:i=j
      ·rw [if_pos e] at hj;cases hj
      ·rw [if_neg e] at hj
       by_cases e2:p.root=2 * j
       ·rw [if_pos e2] at hj;cases hj
       ·rw [if_neg e2] at hj;obtain⟨dk,hdk⟩:=(h.slots j).hk (AV.kills_hk _ hj);rw [hbox k,hdk]
        by_cases e3:p.root=2 * k+1
        ·rw [if_pos e3];exact⟨_,rfl⟩
        ·rw [if_neg e3];exact⟨_,rfl⟩
    ·cases hg
   ·cases hg
  ·cases hg
 ·cases hg
def S.emptyA (σ:S) (ms:List Nat):S:=ms.foldl (fun σ i=>σ.setSlot i .none) σ
theorem S.emptyA_slot:∀ (ms:List Nat) (σ:S) (j:Nat),(σ.emptyA ms).slot j=if j∈ms then .none else σ.slot j
 | [],σ,j=>by simp [S.emptyA]
 | i::ms,σ,j=>by
  have e:σ.emptyA (i::ms)=(σ.setSlot i .none).emptyA ms:=rfl
  rw [e,S.emptyA_slot ms,S.setSlot_slot]
  by_cases h:j∈ms
  ·rw [if_pos h,if_pos (by simp [h])]
  ·rw [if_neg h]
   by_cases h2:i=j
   ·subst h2;rw [if_pos (by simp:i∈i::ms)];split
    ·rfl
    ·rename_i h3;have:¬ i<σ.sl.length:=fun h4=>h3 ⟨rfl,h4⟩
     simp only [S.slot,List.getD_eq_getElem?_getD,List.getElem?_eq_none (Nat.le_of_not_lt this)];rfl
   ·rw [if_neg (fun h4=>h2 h4.1),if_neg (by simp [h];exact fun h5=>h2 h5.symm)]
theorem S.emptyA_len:∀ (ms:List Nat) (σ:S),(σ.emptyA ms).sl.length=σ.sl.length
 | [],σ=>rfl
 | i::ms,σ=>by
  have e:σ.emptyA (i::ms)=(σ.setSlot i .none).emptyA ms:=rfl
  rw [e,S.emptyA_len ms,S.setSlot_len]
theorem S.emptyA_box:∀ (ms:List Nat) (σ:S) (k:Nat),(σ.emptyA ms).box k=σ.box k
 | [],σ,k=>rfl
 | i::ms,σ,k=>by
  have e:σ.emptyA (i::ms)=(σ.setSlot i .none).emptyA ms:=rfl
  rw [e,S.emptyA_box ms];rfl
def S.newA (σ:S) (d:Nat) (av:AV) (ms:List Nat):S:=((σ.emptyA ms).killA (2 * d::ms.map (2 * ·))).setSlot d av
theorem S.newA_slot (σ:S) (d:Nat) (av:AV) (ms:List Nat) (hd:d<σ.sl.length) (j:Nat):(σ.newA d av ms).slot j=if d=j then av else if j∈ms then .none else (σ.slot j).kills (2 * d::ms.map (2 * ·)):=by
 rw [S.newA,S.setSlot_slot,S.killA_len,S.emptyA_len,S.killA_slot,S.emptyA_slot]
 by_cases e:d=j
 ·rw [if_pos ⟨e,hd⟩,if_pos e]
 ·rw [if_neg (fun h=>e h.1),if_neg e];split
  ·exact AV.kills_none _
  ·rfl
theorem S.newA_box (σ:S) (d:Nat) (av:AV) (ms:List Nat) (k:Nat):(σ.newA d av ms).box k=σ.box k:=by
 rw [S.newA,S.setSlot_box,S.killA_box,S.emptyA_box]
theorem S.newA_len (σ:S) (d:Nat) (av:AV) (ms:List Nat):(σ.newA d av ms).sl.length=σ.sl.length:=by
 rw [S.newA,S.setSlot_len,S.killA_len,S.emptyA_len]
theorem Rel.newA3 {w0:World} {G0:Gh} {np:Nat} {σ:S} {a:Act} {w:World} {G:Gh} (h:Rel w0 G0 np σ a w G) {d:Nat} (hd:d<σ.sl.length) {av:AV} {v:Value} {ms:List Nat} {w':World} {own':Own}
 (hc:Chg w w' G.own own' (2 * d::ms.map (2 * ·))) (hos:w'.os=w.os) (htape:w'.tape=w.tape) (hout:w'.output=w.output) (hlive:∀ b l,own' b=some l→b<w'.heap.size)
 (hd':∀ k,av.hk=some k→∃ dk,σ.box k=some (false,dk)) (hv:∀ σ' tmps,(∀ k,σ'.box k=σ.box k)→SlotR { G with own:=own' } σ' tmps w' d av v):Rel w0 G0 np (σ.newA d av ms) (a.put (some d) v) w' { G with own:=own' }:=by
 have hda:d<a.tmps.size:=by rw [← h.tmps];exact hd
 have hsl:=S.newA_slot σ d av ms hd
 refine h.step (2 * d::ms.map (2 * ·)) hc hos htape hout hlive (fun _ _=>⟨rfl,rfl,rfl,rfl⟩) (by rw [S.newA_len];simp [Act.put,h.tmps]) h.defers (fun j=>?_) (fun k bx hb=>?_) (fun k b d1 hk hb=>?_) (fun j k hj=>?_)
 ·by_cases e:d=j
  ·subst e;right;rw [hsl d,if_pos rfl,Act.put_getD _ _ _ _ hda,if_pos rfl];exact⟨hv _ _ (fun k=>S.newA_box _ _ _ _ _),fun _=>by simp⟩
  ·left;refine⟨⟨?_⟩,by rw [Act.put_getD _ _ _ _ hda,if_neg e]⟩
   rw [hsl j,if_neg e]
   by_cases hm:j∈ms
   ·rw [if_pos hm];exact .inl rfl
   ·rw [if_neg hm];rcases AV.kills_or (2 * d::ms.map (2 * ·)) (σ.slot j) with k1 | k1
    ·exact .inl k1
    ·by_cases hn:σ.slot j=.none
     ·left;rw [k1,hn]
     ·refine .inr ⟨k1,AV.kills_all _ _ k1 hn,fun _ hmem=>?_⟩
      rcases List.mem_cons.1 hmem with h1 | h1
      ·exact e (by omega)
      ·obtain⟨m,hm1,hm2⟩:=List.mem_map.1 h1;have:m=j:=by omega
       subst this;exact hm hm1
 ·rw [S.newA_box] at hb;refine .inl ⟨hb,?_,rfl,rfl,rfl,rfl⟩
  intro hmem;rcases List.mem_cons.1 hmem with h1 | h1
  ·omega
  ·obtain⟨m,_,hm2⟩:=List.mem_map.1 h1;omega
 ·exfalso
  rcases List.mem_cons.1 hk with h1 | h1
  ·omega
  ·obtain⟨m,_,hm2⟩:=List.mem_map.1 h1;omega
 ·rw [hsl j] at hj
  by_cases e:d=j
  ·rw [if_pos e] at hj;rw [S.newA_box];exact hd' k hj
  ·rw [if_neg e] at hj;split at hj
   ·cases hj
   ·rw [S.newA_box];exact(h.slots j).hk (AV.kills_hk _ hj)
theorem Rel.newA {w0:World} {G0:Gh} {np:Nat} {σ:S} {a:Act} {w:World} {G:Gh} (h:Rel w0 G0 np σ a w G) {d:Nat} (hd:d<σ.sl.length) {av:AV} {v:Value} {ms:List Nat} {w':World} {own':Own}
 (hc:Chg w w' G.own own' (2 * d::ms.map (2 * ·))) (hos:w'.os=w.os) (htape:w'.tape=w.tape) (hout:w'.output=w.output) (hlive:∀ b l,own' b=some l→b<w'.heap.size)
 (hd':∀ k,av.hk≠some k) (hv:∀ σ' tmps,SlotR { G with own:=own' } σ' tmps w' d av v):Rel w0 G0 np (σ.newA d av ms) (a.put (some d) v) w' { G with own:=own' }:=
 h.newA3 hd hc hos htape hout hlive (fun k hk=>absurd hk (hd' k)) (fun σ' tmps _=>hv σ' tmps)
theorem Rel.newA2 {w0:World} {G0:Gh} {np:Nat} {σ:S} {a:Act} {w:World} {G:Gh} (h:Rel w0 G0 np σ a w G) {d:Nat} (hd:d<σ.sl.length) {av:AV} {v:Value} {ms:List Nat} {w':World} {own':Own}
 (hc:Chg w w' G.own own' (2 * d::ms.map (2 * ·))) (hos:w'.os=w.os) (htape:w'.tape=w.tape) (hout:w'.output=w.output) (hlive:∀ b l,own' b=some l→b<w'.heap.size)
 (hd':∀ k,av.hk≠some k) (hv:∀ σ' tmps,SlotR { G with own:=own' } σ' tmps w' d av v):Rel w0 G0 np (σ.newA d av ms) (a.put (some d) v) w' { G with own:=own' }∧Ft w w' G { G with own:=own' } (2 * d::ms.map (2 * ·)):=
 ⟨h.newA hd hc hos htape hout hlive hd' hv,⟨hc,hos,htape,hout,fun _ _=>⟨rfl,rfl,rfl,rfl⟩⟩⟩
def S.goneA (σ:S) (r:Nat):S:={ σ with sl:=MO (AV.gone r) σ.sl }
theorem AV.gone_or (r:Nat) (av:AV):av.gone r=.none∨av.gone r=av:=by
 cases av<;>simp only [AV.gone]<;>(try split)<;>first | exact AV.kill_or _ _ | simp
theorem S.goneA_slot (σ:S) (r j:Nat):(σ.goneA r).slot j=(σ.slot j).gone r:=by
 simp only [S.goneA,S.slot,List.getD_eq_getElem?_getD,MP (show AV.gone r .none=.none from rfl)];cases σ.sl[j]?<;>rfl
theorem AV.gone_kill {r:Nat} {av:AV} (h:av.gone r=av):av.kill r=av:=by
 cases av with
 | ptr p=>
  simp only [AV.gone] at h;simp only [AV.kill];split
  ·rename_i hp;rw [if_pos hp.1] at h;exact h
  ·rfl
 | hdr k=>rfl
 | vw k π=>rfl
 | mp k k'=>rfl
 | hs t x k=>rfl
 | hc k n=>rfl
 | lk k o k' n=>
  simp only [AV.gone] at h;simp only [AV.kill];split
  ·rename_i hp;rw [if_pos (.inl hp)] at h;exact h
  ·rfl
 | mr t x deps k=>
  simp only [AV.gone] at h;simp only [AV.kill];split
  ·rename_i hp;rw [if_pos (.inl hp)] at h;exact h
  ·rfl
 | _=>all_goals exact h
theorem AV.gone_mb {d k:Nat} {av:AV} (h:av.gone (2 * d+1)=av) (hk:k∈av.mb):k≠d:=by
 intro e;subst e;cases av<;>simp only [AV.mb,List.not_mem_nil] at hk
 case mp a b=>
  simp only [AV.gone] at h;split at h
  ·cases h
  ·rename_i hn;simp only [List.mem_cons,List.not_mem_nil,or_false] at hk;rcases hk with e | e<;>subst e<;>exact hn (by simp)
 case mr t x deps b=>
  simp only [AV.gone] at h;split at h
  ·cases h
  ·rename_i hn;simp only [List.mem_cons,List.not_mem_nil,or_false] at hk;subst hk;exact hn (by simp)
 case hs t x b=>
  simp only [AV.gone] at h;split at h
  ·cases h
  ·rename_i hn;simp only [List.mem_cons,List.not_mem_nil,or_false] at hk;subst hk;exact hn (by simp)
 case hc b n=>
  simp only [AV.gone] at h;split at h
  ·cases h
  ·rename_i hn;simp only [List.mem_cons,List.not_mem_nil,or_false] at hk;subst hk;exact hn (by simp)
 case lk a o b n=>
  simp only [AV.gone] at h;split at h
  ·cases h
  ·rename_i hn;simp only [List.mem_cons,List.not_mem_nil,or_false] at hk;rcases hk with e | e<;>subst e<;>exact hn (by simp)
theorem AV.gone_hk {d k:Nat} {av:AV} (h:av.gone (2 * d+1)=av) (hk:av.hk=some k):k≠d:=by
 intro e;subst e;cases av<;>simp_all [AV.gone]
def S.newB (σ:S) (d:Nat) (D:Dat) (ms:List Nat):S:=(((((σ.emptyA ms).killA (2 * d::ms.map (2 * ·))).goneA (2 * d+1)).setBox d (some (true,D))).setSlot d (.ptr ⟨2 * d+1,[]⟩))
theorem S.newB_slot (σ:S) (d:Nat) (D:Dat) (ms:List Nat) (hd:d<σ.sl.length) (j:Nat):(σ.newB d D ms).slot j=if d=j then .ptr ⟨2 * d+1,[]⟩ else if j∈ms then .none else ((σ.slot j).kills (2 * d::ms.map (2 * ·))).gone (2 * d+1):=by
 rw [S.newB,S.setSlot_slot];have hl:(((((σ.emptyA ms).killA (2 * d::ms.map (2 * ·))).goneA (2 * d+1)).setBox d (some (true,D)))).sl.length=σ.sl.length:=by
  simp only [S.setBox,S.goneA,Hg];rw [S.killA_len,S.emptyA_len]
 rw [hl,S.setBox_slot,S.goneA_slot,S.killA_slot,S.emptyA_slot]
 by_cases e:d=j
 ·rw [if_pos ⟨e,hd⟩,if_pos e]
 ·rw [if_neg (fun h=>e h.1),if_neg e];split
  ·rw [AV.kills_none];rfl
  ·rfl
theorem S.newB_box (σ:S) (d:Nat) (D:Dat) (ms:List Nat) (k:Nat):(σ.newB d D ms).box k=if d=k then some (true,D) else σ.box k:=by
 rw [S.newB,S.setSlot_box,S.setBox_box]
 by_cases e:d=k
 ·rw [if_pos e,if_pos e]
 ·rw [if_neg e,if_neg e];have:((((σ.emptyA ms).killA (2 * d::ms.map (2 * ·))).goneA (2 * d+1))).box k=((σ.emptyA ms).killA (2 * d::ms.map (2 * ·))).box k:=rfl
  rw [this,S.killA_box,S.emptyA_box]
theorem S.newB_len (σ:S) (d:Nat) (D:Dat) (ms:List Nat):(σ.newB d D ms).sl.length=σ.sl.length:=by
 rw [S.newB,S.setSlot_len];simp only [S.setBox,S.goneA,Hg];rw [S.killA_len,S.emptyA_len]
theorem World.heap_alloc_new (w:World) (o:Obj):(w.alloc o).heap[w.heap.size]?=some o:=by
 unfold World.alloc;simp
theorem Rel.newBG {w0:World} {G0:Gh} {np:Nat} {σ:S} {a:Act} {w:World} {G:Gh} (h:Rel w0 G0 np σ a w G) {d:Nat} (hd:d<σ.sl.length) (hnp:np≤d) {D:Dat} {ms:List Nat} {own':Own} {T:Nat} {cs:List Value} {w':World} {b0 o:Nat} {arr:Array Value}
 (hc:Chg w w' G.own own' (2 * d::(2 * d+1)::ms.map (2 * ·))) (hos:w'.os=w.os) (htape:w'.tape=w.tape) (hout:w'.output=w.output) (hlive:∀ b l,own' b=some l→b<w'.heap.size) (hheap:w'.heap[b0]?=some (.cells arr T (0,0))) (hown:own' b0=some [2 * d+1]) (hsz:o+D.t.sz≤arr.size)
 (hv:RepO w' own' D.t D.m [2 * d+1,0] cs D.x) (hcs:∀ j (hj:j<cs.length),arr[o+j]?=some cs[j]):
 ∃ G',Rel w0 G0 np (σ.newB d D ms) (a.put (some d) (.pointer (some ⟨b0,o,none⟩))) w' G'∧Ft w w' G G' (2 * d::(2 * d+1)::ms.map (2 * ·))∧G'.bl d=(b0,o)∧G'.arr0 d=arr∧∀ k,d≠k→G'.bl k=G.bl k:=by
 have hda:d<a.tmps.size:=by rw [← h.tmps];exact hd
 have hsl:=S.newB_slot σ d D ms hd
 have hbx:=S.newB_box σ d D ms
 let G':Gh:={ own:=own',bl:=fun k=>if d=k then (b0,o) else G.bl k,hv:=G.hv,arr0:=fun k=>if d=k then arr else G.arr0 k,T0:=fun k=>if d=k then T else G.T0 k }
 have hself:SlotR G' (σ.newB d D ms) (a.put (some d) (.pointer (some ⟨b0,o,none⟩))).tmps w' d ((σ.newB d D ms).slot d) ((a.put (some d) (.pointer (some ⟨b0,o,none⟩))).tmps.getD d undef) ∧
  (((σ.newB d D ms).slot d).isDat=true→2 * d∈(2 * d::(2 * d+1)::ms.map (2 * ·))):=by
  rw [hsl d,if_pos rfl,Act.put_getD _ _ _ _ hda,if_pos rfl];refine⟨fun d1 L cr hroot=>?_,fun hh=>by cases hh⟩
  have hroot1:RootR G' (σ.newB d D ms) (a.put (some d) (.pointer (some ⟨b0,o,none⟩))).tmps w' (2 * d+1) d1 L cr:=hroot
  rcases hroot1.box_inv rfl with⟨_,hL,_,_⟩ | ⟨hb,_,_⟩
  ·subst hL;refine⟨d1,⟨b0,o,none⟩,cr,rfl,?_,rfl⟩
   simp [Al,G']
  ·rw [hbx d,if_pos rfl] at hb;cases hb
 suffices hmain:Rel w0 G0 np (σ.newB d D ms) (a.put (some d) (.pointer (some ⟨b0,o,none⟩))) w' G'∧Ft w w' G G' (2 * d::(2 * d+1)::ms.map (2 * ·)) from ⟨G',hmain.1,hmain.2,if_pos rfl,if_pos rfl,fun k hk=>if_neg hk⟩
 refine h.step2 (2 * d::(2 * d+1)::ms.map (2 * ·)) (fun k hk=>(by have:d≠k:=(fun e=>by subst e;simp at hk);exact⟨if_neg this,rfl,if_neg this,if_neg this⟩)) hc hos htape hout hlive (fun k hk=>?_) (by rw [S.newB_len];simp [Act.put,h.tmps]) h.defers (fun j=>?_) (fun k bx hb=>?_) (fun k b d1 hk hb=>?_) (fun j k hj=>?_) (hmp:=fun j k h1 h2 _=>?_)
 ·have:d≠k:=by omega
  exact⟨if_neg this,rfl,if_neg this,if_neg this⟩
 ·by_cases e:d=j
  ·subst e;exact .inr hself
  ·left;refine⟨⟨?_⟩,by rw [Act.put_getD _ _ _ _ hda,if_neg e]⟩
   rw [hsl j,if_neg e]
   by_cases hm:j∈ms
   ·rw [if_pos hm];exact .inl rfl
   ·rw [if_neg hm];rcases AV.kills_or (2 * d::ms.map (2 * ·)) (σ.slot j) with k1 | k1
    ·left;rw [k1];rfl
    ·rw [k1];rcases AV.gone_or (2 * d+1) (σ.slot j) with k2 | k2
     ·exact .inl k2
     ·by_cases hn:σ.slot j=.none
      ·left;rw [k2,hn]
      ·refine .inr ⟨k2,fun r hr=>?_,fun _ hmem=>?_⟩
       ·rcases List.mem_cons.1 hr with h1 | h1
        ·exact AV.kills_all _ _ k1 hn r (by simp [h1])
        ·rcases List.mem_cons.1 h1 with h2 | h2
         ·subst h2;exact AV.gone_kill k2
         ·exact AV.kills_all _ _ k1 hn r (List.mem_cons_of_mem _ h2)
       ·rcases List.mem_cons.1 hmem with h1 | h1
        ·exact e (by omega)
        ·rcases List.mem_cons.1 h1 with h2 | h2
         ·omega
         ·obtain⟨m,hm1,hm2⟩:=List.mem_map.1 h2;have:m=j:=by omega
          subst this;exact hm hm1
 ·rw [hbx k] at hb
  by_cases e:d=k
  ·subst e;rw [if_pos rfl] at hb;obtain⟨rfl⟩:=hb;right;have e1:G'.bl d=(b0,o):=if_pos rfl
   have e2:G'.T0 d=T:=if_pos rfl
   have e3:G'.arr0 d=arr:=if_pos rfl
   refine⟨⟨arr,?_,?_,?_,?_,?_,cs,hv,fun j hj=>?_⟩,by simp⟩
   ·rw [e1,e2];exact hheap
   ·rw [e1];exact hown
   ·rw [e3]
   ·rw [e1];exact hsz
   ·intro j _;rw [e3]
   ·rw [e1];exact hcs j hj
  ·rw [if_neg e] at hb;refine .inl ⟨hb,?_,?_,?_,?_,?_⟩
   ·intro hmem;rcases List.mem_cons.1 hmem with h1 | h1
    ·omega
    ·rcases List.mem_cons.1 h1 with h2 | h2
     ·omega
     ·obtain⟨m,_,hm2⟩:=List.mem_map.1 h2;omega
   ·exact if_neg e
   ·rfl
   ·exact if_neg e
   ·exact if_neg e
 ·right;have hkd:k=d:=by
   rcases List.mem_cons.1 hk with h1 | h1
   ·omega
   ·rcases List.mem_cons.1 h1 with h2 | h2
    ·omega
    ·obtain⟨m,_,hm2⟩:=List.mem_map.1 h2;omega
  subst hkd;intro i hK hright
  by_cases e:k=i
  ·exfalso
   subst e;exact hright hself
  ·rw [hsl i,if_neg e];split
   ·refine⟨fun p hp=>?_,fun hh=>?_⟩
    ·cases hp
    ·cases hh
   ·refine⟨fun p hp hr=>?_,fun hh=>?_⟩
    ·rcases AV.gone_or (2 * k+1) ((σ.slot i).kills (2 * k::ms.map (2 * ·))) with h1 | h1
     ·rw [h1] at hp;cases hp
     ·rw [h1] at hp;rw [hp] at h1;simp only [AV.gone,if_pos hr] at h1;cases h1
    ·rcases AV.gone_or (2 * k+1) ((σ.slot i).kills (2 * k::ms.map (2 * ·))) with h1 | h1
     ·rw [h1] at hh;cases hh
     ·rw [h1] at hh;exact AV.gone_hk h1 hh rfl
 ·rw [hsl j] at hj
  by_cases e:d=j
  ·rw [if_pos e] at hj;cases hj
  ·rw [if_neg e] at hj;split at hj
   ·cases hj
   ·rename_i hm;rcases AV.gone_or (2 * d+1) ((σ.slot j).kills (2 * d::ms.map (2 * ·))) with h1 | h1
    ·rw [h1] at hj;cases hj
    ·rw [h1] at hj;have hne:k≠d:=AV.gone_hk h1 hj
     rw [hbx k,if_neg (fun hh=>hne hh.symm)];exact(h.slots j).hk (AV.kills_hk _ hj)
 ·rw [hsl j] at h1
  by_cases e:d=j
  ·rw [if_pos e] at h1;rw [← h1] at h2;simp at h2
  ·rw [if_neg e] at h1;split at h1
   ·rw [← h1] at h2;simp at h2
   ·have h3:(σ.slot j).gone (2 * d+1)=σ.slot j:=by
     rcases AV.kills_or (2 * d::ms.map (2 * ·)) (σ.slot j) with q | q
     ·rw [q] at h1;rw [← h1];rfl
     ·rw [q] at h1;exact h1
    have a1:=AV.gone_mb h3 h2
    exact⟨if_neg fun e=>a1 e.symm,if_neg fun e=>a1 e.symm,rfl⟩
theorem Rel.newB {w0:World} {G0:Gh} {np:Nat} {σ:S} {a:Act} {w:World} {G:Gh} (h:Rel w0 G0 np σ a w G) {d:Nat} (hd:d<σ.sl.length) (hnp:np≤d) {D:Dat} {ms:List Nat} {own':Own} {T:Nat} {cs:List Value}
 (hc:Chg w (w.alloc (.cells cs.toArray T)) G.own own' (2 * d::(2 * d+1)::ms.map (2 * ·))) (hlive:∀ b l,own' b=some l→b<w.heap.size+1) (hown:own' w.heap.size=some [2 * d+1])
 (hv:RepO (w.alloc (.cells cs.toArray T)) own' D.t D.m [2 * d+1,0] cs D.x):
 ∃ G',Rel w0 G0 np (σ.newB d D ms) (a.put (some d) (.pointer (some ⟨w.heap.size,0,none⟩))) (w.alloc (.cells cs.toArray T)) G'∧Ft w (w.alloc (.cells cs.toArray T)) G G' (2 * d::(2 * d+1)::ms.map (2 * ·)):=by
 obtain⟨G',h1,h2,_⟩:=h.newBG hd hnp (D:=D) (ms:=ms) (own':=own') (T:=T) (cs:=cs) (b0:=w.heap.size) (o:=0) (arr:=cs.toArray) hc rfl rfl rfl (by intro b l hb;rw [World.size_alloc];exact hlive b l hb) (World.heap_alloc_new _ _) hown (by simp;rw [RepO.len hv];omega) hv (fun j hj=>by simp [hj]);exact⟨G',h1,h2⟩
theorem Fo (b:Nat):∀ (vs:List Value) (o:Nat) (w:World) (arr:Array Value) (T:TypeId) (fz:Nat×Nat),w.heap[b]?=some (.cells arr T fz)→o+vs.length≤arr.size →
 (w.setCells b o vs).os=w.os∧(w.setCells b o vs).tape=w.tape∧(w.setCells b o vs).output=w.output∧(w.setCells b o vs).heap.size=w.heap.size∧(∀ c,c≠b→(w.setCells b o vs).heap[c]?=w.heap[c]?) ∧
 ∃ arr2,(w.setCells b o vs).heap[b]?=some (.cells arr2 T fz)∧arr2.size=arr.size∧(∀ j,(j<o∨o+vs.length≤j)→arr2[j]?=arr[j]?)∧∀ j (h:j<vs.length),arr2[o+j]?=some vs[j]
 | [],o,w,arr,T,fz,hh,_=>⟨rfl,rfl,rfl,rfl,fun _ _=>rfl,arr,hh,rfl,fun _ _=>rfl,fun j hj=>by simp at hj⟩
 | v::vs,o,w,arr,T,fz,hh,hle=>by
  simp only [List.length_cons] at hle;have hlt:b<w.heap.size:=NR hh
  have h1:(w.setCell ⟨b,o,none⟩ v).heap[b]?=some (.cells (arr.setIfInBounds o v) T fz):=by
   have hg:w.heap[b]=.cells arr T fz:=by
    rw [Array.getElem?_eq_getElem hlt] at hh;exact Option.some.inj hh
   simp only [World.setCell,Array.getElem?_modify,if_pos,hh,Option.map_some];rfl
  have h2:∀ c,c≠b→(w.setCell ⟨b,o,none⟩ v).heap[c]?=w.heap[c]?:=fun c hc=>by
   simp only [World.setCell,Array.getElem?_modify,if_neg (Ne.symm hc)]
  obtain⟨a1,a2,a3,a4,a5,arr2,e1,e2,e3,e4⟩:=Fo b vs (o+1) (w.setCell ⟨b,o,none⟩ v) _ T fz h1 (by simp;omega);have es:(w.setCells b o (v::vs))=(w.setCell ⟨b,o,none⟩ v).setCells b (o+1) vs:=rfl
  rw [es];refine⟨a1,a2,a3,by rw [a4];simp [World.setCell],fun c hc=>by rw [a5 c hc,h2 c hc],arr2,e1,by rw [e2];simp,fun j hj=>?_,fun j hj=>?_⟩
  ·simp only [List.length_cons] at hj;rw [e3 j (by omega),Array.getElem?_setIfInBounds_ne (by omega)]
  ·cases j with
   | zero=>
    rw [Nat.add_zero,e3 o (by omega),Array.getElem?_setIfInBounds_self_of_lt (by omega)];rfl
   | succ j=>
    have:=e4 j (by simpa using hj)
    rw [show o+(j+1)=o+1+j by omega,this];rfl
theorem Qf {w:World} {A:Addr} {vs:List Value} {arr:Array Value} {T:TypeId} (hs:A.spot=none) (hh:w.heap[A.block]?=some (.cells arr T (0,0))) (hle:A.off+vs.length≤arr.size):
 Wrote w (w.setCells A.block A.off vs) A vs.length vs:=by
 obtain⟨_,_,_,_,_,arr2,e1,e2,e3,e4⟩:=Fo A.block vs A.off w arr T (0,0) hh hle;exact⟨rfl,⟨arr,arr2,T,hh,e1,e2,e3,e4⟩,hs⟩
theorem Ny {P:Program} {w:World} {T n:Nat} {A:Addr} {v:Value} {arr:Array Value} {Tb:TypeId} (hsz:(sizeOf T).run P w=.ok n w) (hn:v.cells.size=n) (hone:∀ u∈v.cells.toList,u.oneCell'=true)
 (hs:A.spot=none) (hh:w.heap[A.block]?=some (.cells arr Tb (0,0))) (hle:A.off+n≤arr.size):
 (Instr.storeAt T (.pointer (some A)) v).run P w=.ok () (w.setCells A.block A.off v.cells.toList):=by
 have hA:A=⟨A.block,A.off,none⟩:=by cases A;simp_all
 have hl:v.cells.toList.length=n:=by simpa using hn
 have:=run_storeCells_cells (P:=P) A.block A.off v.cells.toList 0 w (fun j hj=>by
  have h1:(A.off+0+j)<arr.size:=by omega
  simp only [World.cell?,hh];simp only [Option.isSome_none,Bool.false_eq_true,if_false];rw [Array.getElem?_eq_getElem h1];rfl) (fun j hj=>by
  simp only [World.frozen?,hh];simp) hone
 rw [Nat.add_zero,← hA] at this;simp only [Instr.storeAt,Instr.sureAddr,storeVar,Sem.run_bind,Sem.run_pure,Result.andThen,hsz];rw [if_neg (by simpa using hn)];exact this
theorem MN {w:World}:∀ (π:Path) {t:Ty} {L L':Option Addr} {cs cs':List Value},π.deep=false→Al w π t L cs=some (L',cs')→∃ k,L'=L.map (·.add k)
 | [],t,L,L',cs,cs',_,h=>by
  simp only [Al,Option.some.injEq,Prod.mk.injEq] at h;obtain⟨rfl,rfl⟩:=h;exact⟨0,by cases L<;>simp [Addr.add_zero]⟩
 | .f::π,.pair a b,L,L',cs,cs',hd,h=>MN π (by simpa [Path.deep] using hd) (by simpa only [Al] using h)
 | .s::π,.pair a b,L,L',cs,cs',hd,h=>by
  simp only [Al] at h;obtain⟨k,e⟩:=MN π (by simpa [Path.deep] using hd) h;refine⟨a.sz+k,?_⟩
  rw [e];cases L<;>simp [Addr.add_add]
 | .i _::_,_,_,_,_,_,hd,_=>by simp [Path.deep] at hd
 | .f::_,.int _,_,_,_,_,_,h=>by simp [Al] at h
 | .f::_,.bool,_,_,_,_,_,h=>by simp [Al] at h
 | .f::_,.str,_,_,_,_,_,h=>by simp [Al] at h
 | .f::_,.list _ _,_,_,_,_,_,h=>by simp [Al] at h
 | .s::_,.int _,_,_,_,_,_,h=>by simp [Al] at h
 | .s::_,.bool,_,_,_,_,_,h=>by simp [Al] at h
 | .s::_,.str,_,_,_,_,_,h=>by simp [Al] at h
 | .s::_,.list _ _,_,_,_,_,_,h=>by simp [Al] at h
theorem MM {w:World} {own:Own}:∀ (π:Path) {t:Ty} {m:Md} {p:Lab} {cs cs':List Value} {x:t.D} {L L':Option Addr} {d:Dat},
 RepO w own t m p cs x→AH π t m x=some d→Al w π t L cs=some (L',cs')→(∀ A,L=some A→A.spot=none∧∃ arr T,w.heap[A.block]?=some (.cells arr T (0,0))∧A.off+t.sz≤arr.size) →
 ∀ A',L'=some A'→A'.spot=none∧∃ arr T,w.heap[A'.block]?=some (.cells arr T (0,0))∧A'.off+d.t.sz≤arr.size
 | [],t,m,p,cs,cs',x,L,L',d,hr,hg,hl,hL,A',hA=>by
  simp only [Al,Option.some.injEq,Prod.mk.injEq] at hl;simp only [AH,Option.some.injEq] at hg;obtain⟨rfl,rfl⟩:=hl;subst hg;exact hL A' hA
 | .f::π,.pair a b,m,p,cs,cs',x,L,L',d,hr,hg,hl,hL,A',hA=>by
  obtain⟨c1,c2,rfl,h1,h2⟩:=hr;have e:(c1++c2).take a.sz=c1:=by rw [← RepO.len h1];simp
  simp only [Al,e] at hl;exact MM π h1 hg hl (fun A hA=>by
   obtain⟨k1,arr,T,k2,k3⟩:=hL A hA;exact⟨k1,arr,T,k2,by simp only [Ty.sz] at k3;omega⟩) A' hA
 | .s::π,.pair a b,m,p,cs,cs',x,L,L',d,hr,hg,hl,hL,A',hA=>by
  obtain⟨c1,c2,rfl,h1,h2⟩:=hr;have e:(c1++c2).drop a.sz=c2:=by rw [← RepO.len h1];simp
  simp only [Al,e] at hl;exact MM π h2 hg hl (fun A hA=>by
   obtain⟨A0,rfl,rfl⟩:=Option.map_eq_some_iff.1 hA;obtain⟨k1,arr,T,k2,k3⟩:=hL A0 rfl;rw [Addr.add_off k1];exact⟨rfl,arr,T,k2,by simp only [Ty.sz] at k3;simp only;omega⟩) A' hA
 | .i n::π,.list e t,.own m,p,cs,cs',x,L,L',d,hr,hg,hl,hL,A',hA=>by
  simp only [AH] at hg;split at hg
  ·split at hg
   ·rename_i h0 hn;obtain⟨A,c,rfl,hle,hr⟩:=hr;have hlt:n.toNat<List.length x:=by omega
    rcases hr with⟨rfl,rfl⟩ | ⟨b,o,arr,rfl,ho,hh,hs,hi⟩
    ·omega
    ·obtain⟨ci,hc1,hc2⟩:=hi n.toNat hlt;have ex:rd x n t.zero=List.get x ⟨n.toNat,hlt⟩:=by simp [rd,List.getD_eq_getElem?_getD,List.getElem?_eq_getElem hlt]
     have hca:CellsAt w ((⟨b,o,none⟩:Addr).add (n.toNat * t.sz)) ci:=by
      intro j hj;rw [Addr.add_add,Ao hh,← Nat.add_assoc];exact hc2 j hj
     rw [ex] at hg;simp only [Al] at hl;rw [← RepO.len hc1,GY (by rw [RepO.len hc1];exact hca),RepO.len hc1] at hl;refine MM π hc1 hg hl (fun A hA=>?_) A' hA
     rw [← Option.some.inj hA,Addr.add_off rfl];refine⟨rfl,arr,e,hh,?_⟩
     have h2:(n.toNat+1) * t.sz≤c * t.sz:=Nat.mul_le_mul_right _ (by omega)
     rw [Nat.add_mul,Nat.one_mul] at h2;simp only;omega
   ·simp at hg
  ·simp at hg
 | .f::_,.int _,_,_,_,_,_,_,_,_,_,hg,_,_,_,_=>by simp [AH] at hg
 | .f::_,.bool,_,_,_,_,_,_,_,_,_,hg,_,_,_,_=>by simp [AH] at hg
 | .f::_,.str,_,_,_,_,_,_,_,_,_,hg,_,_,_,_=>by simp [AH] at hg
 | .f::_,.list _ _,_,_,_,_,_,_,_,_,_,hg,_,_,_,_=>by simp [AH] at hg
 | .s::_,.int _,_,_,_,_,_,_,_,_,_,hg,_,_,_,_=>by simp [AH] at hg
 | .s::_,.bool,_,_,_,_,_,_,_,_,_,hg,_,_,_,_=>by simp [AH] at hg
 | .s::_,.str,_,_,_,_,_,_,_,_,_,hg,_,_,_,_=>by simp [AH] at hg
 | .s::_,.list _ _,_,_,_,_,_,_,_,_,_,hg,_,_,_,_=>by simp [AH] at hg
 | .i _::_,.int _,_,_,_,_,_,_,_,_,_,hg,_,_,_,_=>by simp [AH] at hg
 | .i _::_,.bool,_,_,_,_,_,_,_,_,_,hg,_,_,_,_=>by simp [AH] at hg
 | .i _::_,.str,_,_,_,_,_,_,_,_,_,hg,_,_,_,_=>by simp [AH] at hg
 | .i _::_,.pair _ _,_,_,_,_,_,_,_,_,_,hg,_,_,_,_=>by simp [AH] at hg
 | .i _::_,.list _ _,.ro,_,_,_,_,_,_,_,_,hg,_,_,_,_=>by simp [AH] at hg
 | .i _::_,.list _ _,.hole,_,_,_,_,_,_,_,_,hg,_,_,_,_=>by simp [AH] at hg
 | .i _::_,.list _ _,.pr _ _,_,_,_,_,_,_,_,_,hg,_,_,_,_=>by simp [AH] at hg
def Take (w:World) (own:Own) (t:Ty) (m:Md) (x:t.D) (cs:List Value) (ms:List Nat):Prop:=
 cs.length=t.sz∧(∀ u∈cs,u.oneCell'=true)∧∀ (q:Lab) (w':World) (own':Own),(∀ b,own b=none→b<w.heap.size→own' b=none∧b<w'.heap.size∧w'.heap[b]?=w.heap[b]?) →
  (∀ i∈ms,∀ b s,own b=some (2 * i::s)→own' b=some (q++s)∧w'.heap[b]?=w.heap[b]?)→RepO w' own' t m q cs x
def S.st (σ:S) (p:Place) (dN:Dat) (ms:List Nat):Option S:=match σ.rt p.root with
 | some d=>match Fe p.path d.t d.m d.x dN with
  | some (M,X)=>some (((σ.emptyA ms).killA (p.root::ms.map (2 * ·))).setRoot p.root ⟨d.t,M,X⟩)
  | none=>none
 | none=>none
theorem Rel.st {w0:World} {G0:Gh} {np:Nat} {σ:S} {a:Act} {w:World} {G:Gh} (h:Rel w0 G0 np σ a w G) {p:Place} {dN:Dat} {ms:List Nat} {σ':S} (hst:σ.st p dN ms=some σ') {i:Nat} {va:Value}
 (hv:SlotR G σ a.tmps w i (.ptr p) va) {cs2:List Value} (hdst:∀ d0 d,σ.rt p.root=some d→AH p.path d.t d.m d.x=some d0→d0.t=dN.t)
 (hT:Take w G.own dN.t dN.m dN.x cs2 ms∨(ms=[]∧RepO w G.own dN.t dN.m (Ai p.root++p.path.lab) cs2 dN.x)) (hms:ms=[]∨∃ m,ms=[m]∧p.root≠2 * m) (hroot0:∀ m∈ms,p.root≠2 * m) (dst:Option Nat) (hdst0:dst=none):
 ∃ A arr T,va=.pointer (some A)∧A.spot=none∧w.heap[A.block]?=some (.cells arr T (0,0))∧A.off+dN.t.sz≤arr.size∧∃ G',Rel w0 G0 np σ' (a.put dst undef) (w.setCells A.block A.off cs2) G'∧Ft w (w.setCells A.block A.off cs2) G G' (p.root::ms.map (2 * ·)):=by
 subst hdst0;unfold S.st at hst;split at hst
 ·rename_i d hd;split at hst
  ·rename_i M X hset;obtain⟨rfl⟩:=hst;obtain⟨L,cr,hroot⟩:=h.rt hd;obtain⟨d0,A,cs0,g1,g2,rfl⟩:=hv d L cr hroot;have hset':=JV _ g1 hset
   have hR:=h.root hroot
   have ht0:=hdst d0 d hd g1
   obtain⟨L2,cs',f1,f2,f3,_,_⟩:=GE p.path (L:=L) hR.1 (fun A hA=>(hR.2 A hA).1) g1;rw [g2] at f1;simp only [Option.some.injEq,Prod.mk.injEq] at f1;obtain⟨rfl,rfl⟩:=f1;have hLa:∀ A,L=some A→A.spot=none∧∃ q,G.own A.block=some q∧Lab.lt q (Ai p.root):=fun A hA=>(hR.2 A hA).2
   obtain⟨hspot,q,hq1,hq2,hqd⟩:=GU p.path hR.1 g1 g2 hLa A rfl;obtain⟨arr,Tb,hh,hsz⟩:=(MM p.path hR.1 g1 g2 (fun A hA=>by
    refine⟨(hLa A hA).1,?_⟩
    rcases Nat.mod_two_eq_zero_or_one p.root with he | he
    ·obtain⟨_,hL,_⟩:=hroot.slot_inv (j:=p.root / 2) (by omega);rw [hL] at hA;cases hA
    ·rcases hroot.box_inv (k:=p.root / 2) (by omega) with⟨hb,hL,_⟩ | ⟨_,hL,_⟩
     ·rw [hL] at hA;obtain⟨arr,q1,q2,q3,q4,_⟩:=h.boxes _ _ hb;rw [← Option.some.inj hA];exact⟨arr,_,q1,q4⟩
     ·rw [hL] at hA;cases hA) A rfl).2
   rw [ht0] at hsz;refine⟨A,arr,Tb,rfl,hspot,hh,hsz,?_⟩
   have hlen2:cs2.length=dN.t.sz:=by
    rcases hT with hT | ⟨_,hT⟩
    ·exact hT.1
    ·exact RepO.len hT
   have W:Wrote w (w.setCells A.block A.off cs2) A dN.t.sz cs2:=by
    have:=Qf (vs:=cs2) hspot hh (by rw [hlen2];exact hsz)
    rw [hlen2] at this;exact this
   obtain⟨z1,z2,z3,z4,z5,_⟩:=Fo A.block cs2 A.off w arr Tb (0,0) hh (by rw [hlen2];exact hsz)
   -- whose what is afterwards
   obtain⟨s0,hs0⟩:=Bi p.root
   let ρ:Lab:=Ai p.root++p.path.lab
   have hρ:∀ l,Lab.le ρ l→∃ s,l=p.root::s:=fun l ⟨s,hs⟩=>⟨s0++p.path.lab++s,by rw [hs];simp only [ρ,hs0];simp⟩
   have hflat:p.path.deep=false→∃ k,p.root=2 * k+1∧σ.box k=some (true,d)∧A.block=(G.bl k).1∧G.own A.block=some [2 * k+1]:=by
    intro hdp;obtain⟨k,hk⟩:=MN p.path hdp g2;rcases Nat.mod_two_eq_zero_or_one p.root with he | he
    ·obtain⟨_,hL,_⟩:=hroot.slot_inv (j:=p.root / 2) (by omega);rw [hL] at hk;cases hk
    ·rcases hroot.box_inv (k:=p.root / 2) (by omega) with⟨hb,hL,_⟩ | ⟨_,hL,_⟩
     ·rw [hL] at hk;obtain⟨arr',q1,q2,_⟩:=h.boxes _ _ hb;have e1:=Option.some.inj hk
      have e2:A.block=(G.bl (p.root / 2)).1:=by rw [e1,Addr.add_block]
      exact⟨p.root / 2,by omega,hb,e2,by rw [e2];exact q2⟩
     ·rw [hL] at hk;cases hk
   have hρn:ρ≠[]:=by simp only [ρ,hs0];simp
   obtain⟨s1,hqc⟩:∃ s1,q=p.root::s1:=by
    cases hdp:p.path.deep with
    | true=>
     obtain⟨s2,e⟩:=hqd hdp;exact⟨s0++s2,by rw [e,hs0];rfl⟩
    | false=>
     obtain⟨k,e1,_,_,e2⟩:=hflat hdp;rw [hq1] at e2;exact⟨[],by rw [Option.some.inj e2,e1]⟩
   have hqρ:¬ Lab.le ρ q:=fun hle=>by
    have:=Lab.le_len hle
    have:=Lab.lt_len hq2
    simp only [ρ] at *;omega
   -- the new owners
   obtain⟨own2,ownX,hX1,hX2,hX3,hX4,hXn,hX5,hX6⟩:∃ own2 ownX:Own,
    (∀ b l,G.own b=some l→(∃ s,l=p.root::s)→ownX b=some l)∧(∀ b,(G.own b=none→own2 b=none)∧(ownX b=none↔G.own b=none)) ∧
    (∀ b l,ownX b=some l→¬ Lab.le ρ l→own2 b=some l∧(b≠A.block→(w.setCells A.block A.off cs2).heap[b]?=w.heap[b]?)) ∧
    (∀ b r0 s,G.own b=some (r0::s)→r0 ∉ p.root::ms.map (2 * ·)→own2 b=some (r0::s))∧(∀ b,G.own b=some []→own2 b=some [])∧(∀ b l,own2 b=some l→∃ l',G.own b=some l') ∧
    RepO (w.setCells A.block A.off cs2) own2 dN.t dN.m ρ cs2 dN.x:=by
    rcases hT with hT | ⟨hms0,hT⟩
    case inr=>
     subst hms0;refine⟨G.own,G.own,fun b l hb _=>hb,fun b=>⟨fun hb=>hb,Iff.rfl⟩,fun b l hb _=>⟨hb,fun hne=>z5 b hne⟩,fun b r0 s hb _=>hb,fun b hb=>hb,fun b l hb=>⟨l,hb⟩,RepO.move (fun b h1 h2=>⟨h1,by rw [z4];exact h2,z5 b (fun e=>by rw [e,hq1] at h1;cases h1)⟩) hT (fun b s hb=>⟨hb,z5 b (fun e=>?_)⟩)⟩
     rw [e,hq1] at hb;exact hqρ ⟨s,Option.some.inj hb⟩
    rcases hms with rfl | ⟨m,rfl,hne⟩
    ·refine⟨Gp G.own ρ,G.own,fun b l hb _=>hb,fun b=>⟨fun hb=>Gq hb,Iff.rfl⟩,fun b l hb hl=>⟨FQ hb hl,fun hne=>z5 b hne⟩,fun b r0 s hb hr=>FQ hb (fun hle=>?_),fun b hb=>LW hb hρn,fun b l hb=>⟨l,KD hb⟩,?_⟩
     ·obtain⟨s',e⟩:=hρ _ hle;simp at e hr;exact hr e.1
     ·exact hT.2.2 ρ _ _ (fun b h1 h2=>⟨Gq h1,by rw [z4];exact h2,z5 b (fun e=>by rw [e,hq1] at h1;cases h1)⟩) (fun i hi=>by cases hi)
    ·have hsm:∀ l s,l=p.root::s→DR [2 * m] l=none:=fun l s e=>by
      cases hst:DR [2 * m] l with
      | none=>rfl
      | some s'=>
       have:=CJ.1 hst
       rw [e] at this;simp at this;exact absurd this.1 hne
     have hρm:∀ l,Lab.le ρ l→DR [2 * m] l=none:=fun l hl=>by
      obtain⟨s,e⟩:=hρ l hl;exact hsm l s e
     refine⟨Bb (Gp G.own ρ) [2 * m] ρ,Bb G.own [2 * m] ρ,fun b l hb ⟨s,e⟩=>?_,fun b=>⟨fun hb=>BO.2 (Gq hb),BO⟩,fun b l hb hl=>⟨?_,fun hne=>z5 b hne⟩,fun b r0 s hb hr=>?_,fun b hb=>Cg (LW hb hρn) (by simp),fun b l hb=>?_,?_⟩
     ·refine BN hb (fun⟨s',e'⟩=>?_)
      have:=hsm l s e
      rw [CJ.2 e'] at this;cases this
     ·unfold Bb at hb ⊢;cases hob:G.own b with
      | none=>rw [hob] at hb;cases hb
      | some l'=>
       rw [hob] at hb;simp only at hb;cases hst:DR [2 * m] l' with
       | some s=>
        rw [hst] at hb;simp only [Option.some.injEq] at hb;exact absurd ⟨s,hb.symm⟩ hl
       | none=>
        rw [hst] at hb;simp only [Option.some.injEq] at hb;subst hb;rw [FQ hob hl];simp only [hst]
     ·simp only [List.map_cons,List.map_nil,List.mem_cons,List.not_mem_nil,or_false,not_or] at hr;refine BN (FQ hb (fun hle=>?_)) (fun⟨s',e'⟩=>?_)
      ·obtain⟨s',e⟩:=hρ _ hle;simp at e;exact hr.1 e.1
      ·simp at e';exact hr.2 e'.1
     ·obtain⟨l',hl'⟩:=Cx hb;exact⟨l',KD hl'⟩
     ·refine hT.2.2 ρ _ _ (fun b h1 h2=>⟨BO.2 (Gq h1),by rw [z4];exact h2,z5 b (fun e=>by rw [e,hq1] at h1;cases h1)⟩) (fun i hi b s hb=>?_)
      simp only [List.mem_singleton] at hi;subst hi;refine⟨DU (p:=[2 * i]) (FQ hb (fun hle=>?_)),z5 b (fun e=>?_)⟩
      ·obtain⟨s',e⟩:=hρ _ hle;simp at e;exact hne e.1.symm
      ·rw [e,hq1,hqc] at hb;simp at hb;exact hne hb.1
   have hlen0:cs0.length=d0.t.sz:=RepO.len f2
   have hrX:RepO w ownX d.t d.m (Ai p.root) cr d.x:=RepO.move (fun b h1 h2=>⟨(hX2 b).2.2 h1,h2,rfl⟩) hR.1 (fun b s hb=>⟨hX1 b _ hb ⟨s0++s,by rw [hs0];rfl⟩,rfl⟩)
   have hblk:∀ b,G.own b=none→b≠A.block:=fun b hb e=>by rw [e,hq1] at hb;cases hb
   obtain⟨csN,u1,u2,u3⟩:=Pl (own2:=own2) (ρ:=ρ) W hX3 (fun b hb hlt=>by
    have hob:=(hX2 b).2.1 hb
    exact⟨(hX2 b).1 hob,by rw [z4];exact hlt,z5 b (hblk b hob)⟩) ⟨q,hX1 _ _ hq1 ⟨s1,hqc⟩,hq2⟩ p.path hrX g1 hset' g2 (by rw [hlen0,ht0]) rfl (fun A' hA'=>by
    obtain⟨k1,q',k2,k3⟩:=hLa A' hA';refine⟨k1,q',hX1 _ _ k2 ?_,k3⟩
    rcases Nat.mod_two_eq_zero_or_one p.root with he | he
    ·obtain⟨_,hL,_⟩:=hroot.slot_inv (j:=p.root / 2) (by omega);rw [hL] at hA';cases hA'
    ·rcases hroot.box_inv (k:=p.root / 2) (by omega) with⟨hb,hL,_⟩ | ⟨_,hL,_⟩
     ·rw [hL] at hA';obtain⟨arr',q1,q2,_⟩:=h.boxes _ _ hb;rw [← Option.some.inj hA'] at k2;simp only at k2;rw [q2] at k2;exact⟨[],by rw [← Option.some.inj k2];congr 1;omega⟩
     ·rw [hL] at hA';cases hA') hX6
   have hkrt:((σ.emptyA ms).killA (p.root::ms.map (2 * ·))).rt p.root=some d:=by
    unfold S.rt at hd ⊢;split
    ·rename_i he;rw [if_pos he] at hd;rw [S.killA_slot,S.emptyA_slot,if_neg (fun hm=>hroot0 _ hm (by omega))];cases hsp:σ.slot (p.root / 2)<;>rw [hsp] at hd<;>simp at hd
     rw [AV.kills_dat _ rfl];simp [hd]
    ·rename_i he;rw [if_neg he] at hd;rw [S.killA_box,S.emptyA_box];exact hd
   have hslot:∀ j,(((σ.emptyA ms).killA (p.root::ms.map (2 * ·))).setRoot p.root ⟨d.t,M,X⟩).slot j=if p.root=2 * j then .dat ⟨d.t,M,X⟩ else if j∈ms then .none else (σ.slot j).kills (p.root::ms.map (2 * ·)):=by
    intro j;rw [S.setRoot_slot _ hkrt,S.killA_slot,S.emptyA_slot];split
    ·rfl
    ·split
     ·exact AV.kills_none _
     ·rfl
   have hbox:∀ k,(((σ.emptyA ms).killA (p.root::ms.map (2 * ·))).setRoot p.root ⟨d.t,M,X⟩).box k=if p.root=2 * k+1 then (σ.box k).map (fun q=>(q.1,⟨d.t,M,X⟩)) else σ.box k:=by
    intro k;rw [S.setRoot_box _ hkrt,S.killA_box,S.emptyA_box]
   have hmem:∀ r,r∈p.root::ms.map (2 * ·)→r=p.root∨∃ m∈ms,r=2 * m:=by
    intro r hr;rcases List.mem_cons.1 hr with h1 | h1
    ·exact .inl h1
    ·obtain⟨m,hm1,hm2⟩:=List.mem_map.1 h1;exact .inr ⟨m,hm1,hm2.symm⟩
   have hr0:∀ b r0 s,G.own b=some (r0::s)→r0 ∉ p.root::ms.map (2 * ·)→b≠A.block:=fun b r0 s hb hr e=>by
    rw [e,hq1,hqc] at hb;simp at hb hr;exact hr.1 hb.1.symm
   refine⟨{ G with own:=own2 },h.step2 (p.root::ms.map (2 * ·)) (fun _ _=>⟨rfl,rfl,rfl,rfl⟩) ⟨by rw [z4];exact Nat.le_refl _,fun b hb _=>⟨(hX2 b).1 hb,z5 b (hblk b hb)⟩,fun b r s hb hr=>⟨hX4 b r s hb hr,z5 b (hr0 b r s hb hr)⟩,fun b hb=>⟨hXn b hb,z5 b (fun e=>by rw [e,hq1,hqc] at hb;cases hb)⟩⟩ z1 z2 z3 ?_ (fun _ _=>⟨rfl,rfl,rfl,rfl⟩) ?_ h.defers (fun j=>?_) (fun k bx hb=>?_) (fun k b d1 hk hb=>?_) (fun j k hj=>?_)⟩
   ·intro b l hb;obtain⟨l',hl'⟩:=hX5 b l hb;rw [z4];exact h.live b l' hl'
   ·rw [S.setRoot_len,S.killA_len,S.emptyA_len];exact h.tmps
   ·rw [hslot j]
    by_cases e2:p.root=2 * j
    ·right;rw [if_pos e2];refine⟨?_,fun _=>by simp [e2]⟩
     obtain⟨_,_,hv'⟩:=hroot.slot_inv e2;have hdp:p.path.deep=true:=by
      cases hdp:p.path.deep with
      | true=>rfl
      | false=>obtain⟨k,hk,_⟩:=hflat hdp;omega
     refine⟨csN,?_,?_⟩
     ·rw [u2 hdp];exact hv'
     ·have e0:Ai p.root=[2 * j]:=by rw [Ai,if_pos (by omega),e2]
      rw [e0] at u1;exact u1
    ·left;refine⟨⟨?_⟩,rfl⟩
     rw [hslot j,if_neg e2]
     by_cases hm:j∈ms
     ·rw [if_pos hm];exact .inl rfl
     ·rw [if_neg hm];rcases AV.kills_or (p.root::ms.map (2 * ·)) (σ.slot j) with k1 | k1
      ·exact .inl k1
      ·by_cases hn:σ.slot j=.none
       ·left;rw [k1,hn]
       ·refine .inr ⟨k1,AV.kills_all _ _ k1 hn,fun _ hmm=>?_⟩
        rcases hmem _ hmm with h1 | ⟨m,h1,h2⟩
        ·exact e2 h1.symm
        ·have:m=j:=by omega
         subst this;exact hm h1
   ·rw [hbox k] at hb
    by_cases e:p.root=2 * k+1
    ·rw [if_pos e] at hb;right;refine⟨?_,by simp [e]⟩
     obtain⟨q',hq',rfl⟩:=Option.map_eq_some_iff.1 hb;obtain⟨bb,dq⟩:=q';have hB:=h.boxes k _ hq'
     have e0:Ai p.root=[2 * k+1,0]:=by rw [Ai,if_neg (by omega),e]
     rw [e0] at u1;rcases hroot.box_inv e with⟨hb',hL',hl',hc'⟩ | ⟨hb',hL',hc'⟩
     ·rw [hq'] at hb';simp only [Option.some.injEq,Prod.mk.injEq] at hb';obtain⟨rfl,rfl⟩:=hb';obtain⟨arr',q1,q2,q3,q4,q5,csb,q6,q7⟩:=hB;have hown2:own2 (G.bl k).1=some [2 * k+1]:=by
       refine(hX3 _ _ (hX1 _ _ q2 ⟨[],by rw [e]⟩) (fun hle=>?_)).1
       have:=Lab.le_len hle
       simp only [ρ,e0] at this;simp at this
      have hcN:=u3 _ hL' hc'
      by_cases hbA:(G.bl k).1=A.block
      ·obtain⟨arr1,arr2,T1,w1,w2,w3,w4,w5⟩:=W.at_;rw [hbA] at q1;rw [q1] at w1;simp only [Option.some.injEq,Obj.cells.injEq] at w1;obtain⟨rfl,rfl,_⟩:=w1;refine⟨arr2,by rw [hbA];exact w2,hown2,by rw [w3];exact q3,by rw [w3];exact q4,fun j hj=>?_,csN,u1,fun j hj=>?_⟩
       ·rw [← q5 j hj];apply w4
        -- outside of the box
        have hdp:p.path.deep=false:=by
         cases hdp:p.path.deep with
         | false=>rfl
         | true=>
          exfalso
          have:=hqd hdp
          rw [e0] at this;rw [← hbA,q2] at hq1;rw [← Option.some.inj hq1] at this;have:=Lab.le_len this
          simp at this
        rw [hL'] at g2;obtain⟨kk,f1',f2'⟩:=FP p.path hdp hl' g2;have f3':=Option.some.inj f1'
        rw [Addr.add_off rfl] at f3';rw [f3'];simp only;rw [hlen0,ht0] at f2';have hj':j<(G.bl k).2∨(G.bl k).2+dq.t.sz≤j:=hj
        omega
       ·have:=hcN j hj
        have hw2:(w.setCells A.block A.off cs2).heap[(G.bl k).1]?=some (.cells arr2 (G.T0 k) (0,0)):=by rw [hbA];exact w2
        rwa [Ao hw2] at this
      ·have hsame:=z5 _ hbA
       refine⟨arr',by rw [← q1];exact hsame,hown2,q3,q4,q5,csN,u1,fun j hj=>?_⟩
       have:=hcN j hj
       have hw2:(w.setCells A.block A.off cs2).heap[(G.bl k).1]?=some (.cells arr' (G.T0 k) (0,0)):=by rw [← q1];exact hsame
       rwa [Ao hw2] at this
     ·rw [hq'] at hb';simp only [Option.some.injEq,Prod.mk.injEq] at hb';obtain⟨rfl,rfl⟩:=hb';obtain⟨q1,q2⟩:=hB;have hdp:p.path.deep=true:=by
       cases hdp:p.path.deep with
       | true=>rfl
       | false=>
        obtain⟨k',hk',hb2,_⟩:=hflat hdp;have:k'=k:=by omega
        subst this;rw [hq'] at hb2;cases hb2
      rw [u2 hdp,hc'] at u1;exact⟨q1,u1⟩
    ·rw [if_neg e] at hb;left;refine⟨hb,fun hmm=>?_,rfl,rfl,rfl,rfl⟩
     rcases hmem _ hmm with h1 | ⟨m,_,h2⟩
     ·exact e h1.symm
     ·omega
   ·have hk':p.root=2 * k+1:=by
     rcases hmem _ hk with h1 | ⟨m,_,h2⟩
     ·exact h1.symm
     ·omega
    rw [hbox k,if_pos hk'] at hb;obtain⟨q',hq',hq2'⟩:=Option.map_eq_some_iff.1 hb;obtain⟨bb,dq⟩:=q';simp only [Prod.mk.injEq] at hq2';obtain⟨rfl,rfl⟩:=hq2';left;refine⟨dq,hq',?_,rfl,rfl⟩
    have:σ.rt (2 * k+1)=some dq:=by
     have e1:(2 * k+1) / 2=k:=by omega
     have e2:¬ (2 * k+1) % 2=0:=by omega
     simp only [S.rt,if_neg e2,e1,hq',Option.map_some]
    rw [hk',this] at hd;rw [Option.some.inj hd]
   ·rw [hslot j] at hj
    by_cases e2:p.root=2 * j
    ·rw [if_pos e2] at hj;cases hj
    ·rw [if_neg e2] at hj;split at hj
     ·cases hj
     ·obtain⟨dk,hdk⟩:=(h.slots j).hk (AV.kills_hk _ hj);rw [hbox k,hdk]
      by_cases e3:p.root=2 * k+1
      ·rw [if_pos e3];exact⟨_,rfl⟩
      ·rw [if_neg e3];exact⟨_,rfl⟩
  ·cases hst
 ·cases hst
def Ma (t:Ty) (want:Md):AV→Option (Md×t.D×List Nat)
 | .snp t' x deps _=>if h:t'=t then (if deps=[] then some (.ro,h ▸ x,[]) else none) else none
 | .nilS=>match t with
  | .list _ _=>some (want,[],[])
  | _=>none
 | _=>none
def S.take (σ:S) (t:Ty) (want:Md) (o:Operand):Option (Md×t.D×List Nat):=match o with
 | .tmp i=>match σ.slot i with
  | .dat d=>if d.m.noOwn then Ma t want (σ.ev o) else if h:d.t=t then (if d.m.full then some (d.m,h ▸ d.x,[i]) else none) else none
  | _=>Ma t want (σ.ev o)
 | _=>Ma t want (σ.ev o)
theorem RepO.nil {w:World} {own:Own} {e:Nat} {t:Ty}:∀ (m:Md) (p:Lab),RepO w own (.list e t) m p [.slice none 0 0] []
 | .own _,_=>⟨none,0,rfl,Nat.le_refl _,.inl ⟨rfl,rfl⟩⟩
 | .hole,_=>⟨_,rfl,rfl⟩
 | .ro,_=>⟨none,0,rfl,Nat.le_refl _,fun h=>absurd h (Nat.lt_irrefl 0)⟩
 | .pr _ _,_=>⟨none,0,rfl,Nat.le_refl _,fun h=>absurd h (Nat.lt_irrefl 0)⟩
theorem RepO.one {w:World} {own:Own}:∀ {t:Ty} {m:Md} {p:Lab} {cs:List Value} {x:t.D},RepO w own t m p cs x→∀ u∈cs,u.oneCell'=true
 | .int _,_,_,_,_,h,u,hu=>by rw [h] at hu;rw [List.mem_singleton.1 hu];rfl
 | .bool,_,_,_,_,h,u,hu=>by rw [h] at hu;rw [List.mem_singleton.1 hu];rfl
 | .str,_,_,_,_,h,u,hu=>by rw [h] at hu;rw [List.mem_singleton.1 hu];rfl
 | .list _ _,.own _,_,_,_,h,u,hu=>by obtain⟨A,c,rfl,_⟩:=h;rw [List.mem_singleton.1 hu];rfl
 | .list _ _,.hole,_,_,_,h,u,hu=>by obtain⟨v,rfl,h1⟩:=h;rw [List.mem_singleton.1 hu];exact h1
 | .list _ _,.ro,_,_,_,h,u,hu=>RepV.one h u hu
 | .list _ _,.pr _ _,_,_,_,h,u,hu=>RepV.one h u hu
 | .pair a b,m,_,_,_,h,u,hu=>by
  obtain⟨c1,c2,rfl,h1,h2⟩:=h;rcases List.mem_append.1 hu with hu | hu
  ·exact RepO.one h1 u hu
  ·exact RepO.one h2 u hu
section
variable {w0:World} {G0:Gh} {np:Nat} {σ:S} {a:Act} {w:World} {G:Gh} (h:Rel w0 G0 np σ a w G)
include h
theorem Ox {t:Ty} {want m:Md} {o:Operand} {x:t.D} {ms:List Nat} (ht:Ma t want (σ.ev o)=some (m,x,ms)):ms=[]∧∃ cs,Val t (a.eval o) cs∧Take w G.own t m x cs ms:=by
 have hev:=(h.ev 0 o).1
 unfold Ma at ht;split at ht
 ·rename_i t' x' deps src hx;split at ht
  ·rename_i htt;subst htt;split at ht
   ·rename_i hd;subst hd;simp only [Option.some.injEq,Prod.mk.injEq] at ht;obtain⟨rfl,rfl,rfl⟩:=ht;rw [hx] at hev;obtain⟨cs,h1,h2,_⟩:=hev;refine⟨rfl,cs,h1,RepV.len h2,RepV.one h2,fun q w' own' hn _=>?_⟩
    refine RepO.ofV (RepV.mono (fun b hb=>?_) h2)
    have hb3:G.own b=none:=by
     rcases hb.2 with hb2 | ⟨r,hr,_⟩
     ·exact hb2
     ·simp at hr
    have:=hn b hb3 hb.1
    exact⟨⟨this.1,this.2.1⟩,this.2.2⟩
   ·cases ht
  ·cases ht
 ·rename_i hx;rw [hx] at hev;have hv:a.eval o=.slice none 0 0:=hev
  split at ht
  ·simp only [Option.some.injEq,Prod.mk.injEq] at ht;obtain⟨rfl,rfl,rfl⟩:=ht;refine⟨rfl,[.slice none 0 0],by rw [hv];rfl,rfl,fun u hu=>by rw [List.mem_singleton.1 hu];rfl,fun q w' own' _ _=>RepO.nil _ _⟩
  ·cases ht
 ·cases ht
theorem Rel.take {t:Ty} {want m:Md} {o:Operand} {x:t.D} {ms:List Nat} (ht:σ.take t want o=some (m,x,ms)):
 (ms=[]∨∃ i,ms=[i]∧∃ d,σ.slot i=.dat d)∧∃ cs,Val t (a.eval o) cs∧Take w G.own t m x cs ms:=by
 unfold S.take at ht;split at ht
 ·rename_i i;split at ht
  ·rename_i d hd;split at ht
   ·have:=Ox h ht
    exact⟨.inl this.1,this.2⟩
   ·split at ht
    ·rename_i htt;subst htt;split at ht
     ·simp only [Option.some.injEq,Prod.mk.injEq] at ht;obtain⟨rfl,rfl,rfl⟩:=ht;have hs:=h.slots i
      rw [hd] at hs;obtain⟨cs,h1,h2⟩:=hs;refine⟨.inr ⟨i,rfl,d,hd⟩,cs,h1,RepO.len h2,RepO.one h2,fun q w' own' hn hm=>RepO.move hn h2 (fun b s hb=>hm i (by simp) b s (by simpa using hb))⟩
     ·cases ht
    ·cases ht
  ·have:=Ox h ht
   exact⟨.inl this.1,this.2⟩
 ·have:=Ox h ht
  exact⟨.inl this.1,this.2⟩
end
theorem Take.size {w:World} {own:Own} {t:Ty} {m:Md} {x:t.D} {cs:List Value} {ms:List Nat} {v:Value} (hv:Val t v cs) (hT:Take w own t m x cs ms):v.cells.toList=cs∧v.cells.size=t.sz:=by
 have e:=hv.cells hT.2.1
 exact⟨e,by rw [← hT.1,← e];simp⟩
def DD (own:Own):List (Nat×Lab)→Own
 | []=>own
 | (i,q)::l=>DD (Bb own [2 * i] q) l
theorem Di:∀ (l:List (Nat×Lab)) {own:Own} {b:Nat},DD own l b=none↔own b=none
 | [],_,_=>Iff.rfl
 | (i,q)::l,own,b=>by
  have e:DD own ((i,q)::l)=DD (Bb own [2 * i] q) l:=rfl
  rw [e,Di l,BO]
theorem IG:∀ (l:List (Nat×Lab)) {own:Own} {b r:Nat} {s:Lab},own b=some (r::s)→(∀ p∈l,r≠2 * p.1)→DD own l b=some (r::s)
 | [],_,_,_,_,h,_=>h
 | (i,q)::l,own,b,r,s,h,hl=>by
  have e:DD own ((i,q)::l)=DD (Bb own [2 * i] q) l:=rfl
  rw [e];refine IG l (BN h (fun⟨s',hs'⟩=>?_)) (fun p hp=>hl p (by simp [hp]))
  simp at hs';exact hl (i,q) (by simp) hs'.1
theorem LN:∀ (l:List (Nat×Lab)) {own:Own} {b i:Nat} {q s:Lab},own b=some (2 * i::s)→(i,q)∈l→(l.map (·.1)).Nodup→(∀ p∈l,∃ r s0,p.2=r::s0∧∀ p'∈l,r≠2 * p'.1)→DD own l b=some (q++s)
 | [],_,_,_,_,_,_,h,_,_=>by cases h
 | (j,q')::l,own,b,i,q,s,h,hm,hn,ht=>by
  have e:DD own ((j,q')::l)=DD (Bb own [2 * j] q') l:=rfl
  rw [e];simp only [List.map_cons,List.nodup_cons] at hn
  by_cases hij:i=j
  ·subst hij;have hq:q=q':=by
    rcases List.mem_cons.1 hm with h1 | h1
    ·exact(Prod.mk.inj h1).2
    ·exact absurd (List.mem_map.2 ⟨(i,q),h1,rfl⟩) hn.1
   subst hq;obtain⟨r,s0,e1,e2⟩:=ht (i,q) (by simp);simp only at e1;have h1:Bb own [2 * i] q b=some (r::(s0++s)):=by
    rw [DU (p:=[2 * i]) h,e1];rfl
   rw [IG l h1 (fun p hp=>e2 p (by simp [hp])),e1];rfl
  ·rcases List.mem_cons.1 hm with h1 | h1
   ·exact absurd (Prod.mk.inj h1).1 hij
   ·refine LN l (BN h (fun⟨s',hs'⟩=>?_)) h1 hn.2 (fun p hp=>?_)
    ·simp at hs';omega
    ·obtain⟨r,s0,e1,e2⟩:=ht p (by simp [hp]);exact⟨r,s0,e1,fun p' hp'=>e2 p' (by simp [hp'])⟩
theorem Jv:∀ (l:List (Nat×Lab)) {own:Own} {b:Nat},own b=some []→DD own l b=some []
 | [],_,_,h=>h
 | (i,q)::l,own,b,h=>by
  have e:DD own ((i,q)::l)=DD (Bb own [2 * i] q) l:=rfl
  rw [e];exact Jv l (Cg h (by simp))
theorem Lb {l:List (Nat×Lab)} {own:Own} {b:Nat} {x:Lab} (h:DD own l b=some x):∃ l',own b=some l':=by
 cases ho:own b with
 | none=>rw [(Di l).2 ho] at h;cases h
 | some l'=>exact⟨l',rfl⟩
theorem World.heap_alloc_old (w:World) (o:Obj) {b:Nat} (hb:b<w.heap.size):(w.alloc o).heap[b]?=w.heap[b]?:=by
 unfold World.alloc;simp only [Array.getElem?_push];rw [if_neg (by omega)]
theorem Rel.chead {w0:World} {G0:Gh} {np:Nat} {σ:S} {a:Act} {w:World} {G:Gh} (h:Rel w0 G0 np σ a w G) (b:Nat) (hb:w.heap.size≤b):G.own b=none:=by
 cases ho:G.own b with
 | none=>rfl
 | some l=>have:=h.live b l ho;omega
section
variable {P:Program} {τ:List TE} (hτ:TabOk P τ) {w0:World} {G0:Gh} {np:Nat} {σ:S} {a:Act} {w:World} {G:Gh} (h:Rel w0 G0 np σ a w G)
include h
theorem Wn {d:Nat} (hd:d<σ.sl.length) (hnp:np≤d) {t:Ty} {m:Md} {x:t.D} {cs:List Value} {ms:List Nat} (T:Nat) (hT:Take w G.own t m x cs ms) (hms:ms=[]∨∃ i,ms=[i]∧∃ dd,σ.slot i=.dat dd):
 ∃ G',Rel w0 G0 np (σ.newB d ⟨t,m,x⟩ ms) (a.put (some d) (.pointer (some ⟨w.heap.size,0,none⟩))) (w.alloc (.cells cs.toArray T)) G'∧Ft w (w.alloc (.cells cs.toArray T)) G G' (2 * d::(2 * d+1)::ms.map (2 * ·)):=by
 let lab:Lab:=[2 * d+1,0]
 let own0:=DD G.own (ms.map fun i=>(i,lab))
 let own':Own:=fun b=>if b=w.heap.size then some [2 * d+1] else own0 b
 have hown':∀ b,b≠w.heap.size→own' b=own0 b:=fun b hb=>if_neg hb
 have hnd:((ms.map fun i=>(i,lab)).map (·.1)).Nodup:=by
  rcases hms with rfl | ⟨i,rfl,_⟩<;>simp
 have hlab:∀ p∈(ms.map fun i=>(i,lab)),∃ r s0,p.2=r::s0∧∀ p'∈(ms.map fun i=>(i,lab)),r≠2 * p'.1:=by
  intro p hp;obtain⟨i,_,rfl⟩:=List.mem_map.1 hp;exact⟨2 * d+1,[0],rfl,fun p' _=>by omega⟩
 have hheap:∀ b,b<w.heap.size→(w.alloc (.cells cs.toArray T)).heap[b]?=w.heap[b]?:=fun b hb=>World.heap_alloc_old w _ hb
 refine h.newB hd hnp (own':=own') ⟨by rw [World.size_alloc];omega,fun b hb hlt=>⟨by rw [hown' b (by omega)];exact(Di _).2 hb,hheap b hlt⟩,fun b r s hb hr=>?_,fun b hb=>⟨by rw [hown' b (by have:=h.live b _ hb;omega)];exact Jv _ hb,hheap b (h.live b _ hb)⟩⟩ (fun b l hb=>?_) (by simp [own']) ?_
 ·have hlt:=h.live b _ hb
  refine⟨?_,hheap b hlt⟩
  rw [hown' b (by omega)];refine IG _ hb (fun p hp=>?_)
  obtain⟨i,hi,rfl⟩:=List.mem_map.1 hp;simp only;intro e;apply hr
  rw [e];exact List.mem_cons_of_mem _ (List.mem_cons_of_mem _ (List.mem_map.2 ⟨i,hi,rfl⟩))
 ·by_cases hbs:b=w.heap.size
  ·omega
  ·rw [hown' b hbs] at hb;obtain⟨l',hl'⟩:=Lb hb;have:=h.live b l' hl'
   omega
 ·refine hT.2.2 lab _ _ (fun b hb hlt=>⟨by rw [hown' b (by omega)];exact(Di _).2 hb,by rw [World.size_alloc];omega,hheap b hlt⟩) (fun i hi b s hb=>?_)
  have hlt:=h.live b _ hb
  refine⟨?_,hheap b hlt⟩
  rw [hown' b (by omega)];exact LN _ hb (List.mem_map.2 ⟨i,hi,rfl⟩) hnd hlab
end
def S.takes (σ:S) (t:Ty) (em:Md):Nat→List Operand→Option (List t.D×List (Nat×Nat))
 | _,[]=>some ([],[])
 | j,o::os=>match σ.take t em o with
  | some (m,x,ms)=>if m=em then (match σ.takes t em (j+1) os with
   | some (xs,l)=>some (x::xs,ms.map (·,j)++l)
   | none=>none) else none
  | none=>none
section
variable {w0:World} {G0:Gh} {np:Nat} {σ:S} {a:Act} {w:World} {G:Gh} (h:Rel w0 G0 np σ a w G)
include h
theorem Te {t:Ty} {em:Md}:∀ (os:List Operand) (j:Nat) {xs:List t.D} {l:List (Nat×Nat)},σ.takes t em j os=some (xs,l) →
 ∃ css:List (List Value),css.length=os.length∧xs.length=os.length∧(∀ k (h1:k<xs.length) (h2:k<css.length) (h3:k<os.length),Val t (a.eval os[k]) css[k]∧∃ ms,Take w G.own t em xs[k] css[k] ms∧∀ i∈ms,(i,j+k)∈l) ∧
  ∀ p∈l,∃ d,σ.slot p.1=.dat d
 | [],j,xs,l,ht=>by
  simp only [S.takes,Option.some.injEq,Prod.mk.injEq] at ht;obtain⟨rfl,rfl⟩:=ht;exact⟨[],rfl,rfl,fun k h1=>by simp at h1,fun p hp=>by cases hp⟩
 | o::os,j,xs,l,ht=>by
  simp only [S.takes] at ht;split at ht
  ·rename_i m x ms hx;split at ht
   ·rename_i hm;subst hm;split at ht
    ·rename_i xs' l' hrec;simp only [Option.some.injEq,Prod.mk.injEq] at ht;obtain⟨rfl,rfl⟩:=ht;obtain⟨css,c1,c2,c3,c4⟩:=Te os (j+1) hrec;obtain⟨hms,cs,hval,hT⟩:=h.take hx;refine⟨cs::css,by simp [c1],by simp [c2],fun k h1 h2 h3=>?_,fun p hp=>?_⟩
     ·cases k with
      | zero=>exact⟨hval,ms,hT,fun i hi=>List.mem_append_left _ (List.mem_map.2 ⟨i,hi,by simp⟩)⟩
      | succ k=>
       simp only [List.length_cons] at h1 h2 h3;obtain⟨g1,ms',g2,g3⟩:=c3 k (by omega) (by omega) (by omega);refine⟨g1,ms',g2,fun i hi=>List.mem_append_right _ ?_⟩
       have:=g3 i hi
       rwa [show j+(k+1)=j+1+k by omega]
     ·rcases List.mem_append.1 hp with h1 | h1
      ·obtain⟨i,hi,rfl⟩:=List.mem_map.1 h1;rcases hms with rfl | ⟨i',rfl,d,hd⟩
       ·cases hi
       ·simp only [List.mem_singleton] at hi;subst hi;exact⟨d,hd⟩
      ·exact c4 p h1
    ·cases ht
   ·cases ht
  ·cases ht
theorem KI {sz:Nat}:∀ (css:List (List Value)),(∀ c∈css,c.length=sz)→∀ (k:Nat) (hk:k<css.length) (j:Nat) (hj:j<css[k].length),css.flatten[k * sz+j]?=some css[k][j]
 | [],_,k,hk,_,_=>by simp at hk
 | c::css,hc,0,hk,j,hj=>by
  simp only [List.getElem_cons_zero] at hj;simp only [List.flatten_cons,Nat.zero_mul,Nat.zero_add,List.getElem_cons_zero];rw [List.getElem?_append_left hj,List.getElem?_eq_getElem hj]
 | c::css,hc,k+1,hk,j,hj=>by
  have hl:=hc c (by simp)
  simp only [List.getElem_cons_succ] at hj;simp only [List.flatten_cons,List.getElem_cons_succ];have:(k+1) * sz=sz+k * sz:=by rw [Nat.add_mul,Nat.one_mul,Nat.add_comm]
  rw [List.getElem?_append_right (by rw [hl,this];omega),hl,this,show sz+k * sz+j - sz=k * sz+j by omega];exact KI css (fun c' hc'=>hc c' (by simp [hc'])) k (by simpa using hk) j hj
theorem Dh {sz:Nat}:∀ (css:List (List Value)),(∀ c∈css,c.length=sz)→css.flatten.length=css.length * sz
 | [],_=>by simp
 | c::css,hc=>by
  rw [List.flatten_cons,List.length_append,hc c (by simp),Dh css (fun c' hc'=>hc c' (by simp [hc'])),List.length_cons,Nat.add_mul,Nat.one_mul,Nat.add_comm]
theorem PU {d:Nat} (hd:d<σ.sl.length) {e:Nat} {t:Ty} {em:Md} {xs:List t.D} {css:List (List Value)} {l:List (Nat×Nat)} (hlen:css.length=xs.length)
 (hel:∀ k (h1:k<xs.length) (h2:k<css.length),∃ ms,Take w G.own t em xs[k] css[k] ms∧∀ i∈ms,(i,k)∈l) (hn:(l.map (·.1)).Nodup) (hdl:d ∉ l.map (·.1)) (c:Nat) (rest:List Value) (hc:xs.length≤c) (hr:c * t.sz≤xs.length * t.sz+rest.length):
 ∃ G',Rel w0 G0 np (σ.newA d (.dat ⟨.list e t,.own em,xs⟩) (l.map (·.1))) (a.put (some d) (.slice (some ⟨w.heap.size,0,none⟩) xs.length c)) (w.alloc (.cells (css.flatten++rest).toArray e)) G'∧Ft w (w.alloc (.cells (css.flatten++rest).toArray e)) G G' (2 * d::(l.map (·.1)).map (2 * ·)):=by
 let rl:List (Nat×Lab):=l.map fun p=>(p.1,[2 * d,p.2])
 let own0:=DD G.own rl
 let own':Own:=fun b=>if b=w.heap.size then some [2 * d] else own0 b
 have hown':∀ b,b≠w.heap.size→own' b=own0 b:=fun b hb=>if_neg hb
 have hrl:rl.map (·.1)=l.map (·.1):=by simp only [rl,List.map_map];rfl
 have hheap:∀ b,b<w.heap.size→(w.alloc (.cells (css.flatten++rest).toArray e)).heap[b]?=w.heap[b]?:=fun b hb=>World.heap_alloc_old w _ hb
 have hhead:∀ p∈rl,∃ r s0,p.2=r::s0∧∀ p'∈rl,r≠2 * p'.1:=by
  intro p hp;obtain⟨q,hq,rfl⟩:=List.mem_map.1 hp;refine⟨2 * d,[q.2],rfl,fun p' hp' e=>hdl ?_⟩
  obtain⟨q',hq',rfl⟩:=List.mem_map.1 hp';simp only at e;have:d=q'.1:=by omega
  rw [this];exact List.mem_map.2 ⟨q',hq',rfl⟩
 refine⟨{ G with own:=own' },h.newA2 hd (own':=own') ⟨by rw [World.size_alloc];exact Nat.le_succ _,fun b hb hlt=>⟨by rw [hown' b (by omega)];exact(Di _).2 hb,hheap b hlt⟩,fun b r s hb hr=>?_,fun b hb=>⟨by rw [hown' b (by have:=h.live b _ hb;omega)];exact Jv _ hb,hheap b (h.live b _ hb)⟩⟩ rfl rfl rfl (fun b l' hb=>?_) (by simp) (fun σ' tmps=>?_)⟩
 ·have hlt:=h.live b _ hb
  refine⟨?_,hheap b hlt⟩
  rw [hown' b (by omega)];refine IG _ hb (fun p hp e=>hr ?_)
  obtain⟨q,hq,rfl⟩:=List.mem_map.1 hp;rw [e];exact List.mem_cons_of_mem _ (List.mem_map.2 ⟨q.1,List.mem_map.2 ⟨q,hq,rfl⟩,rfl⟩)
 ·rw [World.size_alloc]
  by_cases hbs:b=w.heap.size
  ·omega
  ·rw [hown' b hbs] at hb;obtain⟨l',hl'⟩:=Lb hb;have:=h.live b l' hl'
   omega
 ·refine⟨[_],rfl,some ⟨w.heap.size,0,none⟩,c,rfl,hc,.inr ⟨w.heap.size,0,(css.flatten++rest).toArray,rfl,if_pos rfl,World.heap_alloc_new w _,?_,fun k hk=>?_⟩⟩
  ·have hcl:∀ c'∈css,c'.length=t.sz:=by
    intro c' hc';obtain⟨k,hk,rfl⟩:=List.mem_iff_getElem.1 hc';obtain⟨ms,hT,_⟩:=hel k (by omega) hk;exact hT.1
   rw [List.size_toArray,List.length_append,Dh h css hcl,hlen];omega
  ·have hk':k<xs.length:=hk
   have hk2:k<css.length:=by omega
   obtain⟨ms,hT,hi⟩:=hel k hk' hk2;refine⟨css[k],?_,fun j hj=>?_⟩
   ·refine hT.2.2 [2 * d,k] _ own' (fun b hb hlt=>⟨by rw [hown' b (by omega)];exact(Di _).2 hb,by rw [World.size_alloc];omega,hheap b hlt⟩) (fun i him b s hb=>?_)
    have hlt:=h.live b _ hb
    refine⟨?_,hheap b hlt⟩
    rw [hown' b (by omega)];exact LN _ hb (List.mem_map.2 ⟨(i,k),hi i him,rfl⟩) (by rw [hrl];exact hn) hhead
   ·have hcl:∀ c'∈css,c'.length=t.sz:=by
     intro c' hc';obtain⟨k,hk,rfl⟩:=List.mem_iff_getElem.1 hc';obtain⟨ms,hT,_⟩:=hel k (by omega) hk;exact hT.1
    have hfl:=KI h css hcl k hk2 j hj
    have hlt:=(List.getElem?_eq_some_iff.1 hfl).1
    simp only [Nat.zero_add,List.getElem?_toArray];rw [List.getElem?_append_left hlt];exact hfl
end
theorem HG {α:Type}:∀ {n:Nat} {p:Nat→α→Prop},(∀ i,i<n→∃ x,p i x)→∃ l:List α,l.length=n∧∀ i (hi:i<l.length),p i l[i]
 | 0,_,_=>⟨[],rfl,fun i hi=>by simp at hi⟩
 | n+1,p,h=>by
  obtain⟨x,hx⟩:=h 0 (by omega);obtain⟨l,h1,h2⟩:=HG (n:=n) (p:=fun i x=>p (i+1) x) (fun i hi=>h (i+1) (by omega));refine⟨x::l,by simp [h1],fun i hi=>?_⟩
  cases i with
  | zero=>exact hx
  | succ i=>exact h2 i (by simpa using hi)
theorem RG (newLen:Nat):∀ (r c:Nat),256≤c→c≤2 * newLen→Builtin.growBy newLen r c≤2 * newLen
 | 0,c,_,h=>h
 | r+1,c,h1,h=>by
  simp only [Builtin.growBy];split
  ·exact h
  ·exact RG newLen r _ (by omega) (by omega)
theorem LJ {newLen oldCap:Nat} (h:oldCap<newLen):Builtin.nextslicecap newLen oldCap≤2 * newLen:=by
 unfold Builtin.nextslicecap;split
 ·omega
 ·split
  ·omega
  ·exact RG newLen 4 oldCap (by omega) (by omega)
structure Els (w:World) (own:Own) (t:Ty) (em:Md) (ys:List t.D) (i1:Option Nat) (v:Value) (css:List (List Value)):Prop where
 len:css.length=ys.length
 val:∃ A c,v=.slice A ys.length c∧(A=none→ys=[])∧∀ a,A=some a→CellsAt w a css.flatten
 sz:∀ c∈css,c.length=t.sz
 one:∀ c∈css,∀ u∈c,u.oneCell'=true
 el:∀ (q:Lab) (w':World) (own':Own),(∀ b,own b=none→b<w.heap.size→own' b=none∧b<w'.heap.size∧w'.heap[b]?=w.heap[b]?)→∀ k (h1:k<ys.length) (h2:k<css.length),
  (∀ i,i1=some i→∀ b s,own b=some (2 * i::k::s)→own' b=some (q++s)∧w'.heap[b]?=w.heap[b]?)→RepO w' own' t em q css[k] ys[k]
theorem CellsAt.flatten {w:World} {a:Addr} {sz:Nat}:∀ (css:List (List Value)) (k:Nat),(∀ c∈css,c.length=sz)→(∀ i (h:i<css.length),CellsAt w (a.add ((k+i) * sz)) css[i])→CellsAt w (a.add (k * sz)) css.flatten
 | [],k,_,_=>fun j hj=>by simp at hj
 | c::css,k,hc,h=>by
  have h0:=h 0 (by simp)
  simp only [Nat.add_zero,List.getElem_cons_zero] at h0;have ih:=CellsAt.flatten css (k+1) (fun c' hc'=>hc c' (by simp [hc'])) (fun i hi=>by
   have:=h (i+1) (by simp;omega)
   simp only [List.getElem_cons_succ] at this;rwa [show k+1+i=k+(i+1) by omega])
  intro j hj;simp only [List.flatten_cons,List.length_append] at hj;simp only [List.flatten_cons];have hl:=hc c (by simp)
  by_cases hlt:j<c.length
  ·rw [List.getElem_append_left hlt];exact h0 j hlt
  ·rw [List.getElem_append_right (by omega)];have:=ih (j - c.length) (by omega)
   rw [Addr.add_add] at this ⊢;rw [← this]
   congr 2
   rw [Nat.add_mul,Nat.one_mul,hl];omega
theorem Els.ofV {w:World} {own:Own} {ok:Nat→Prop} {e:Nat} {t:Ty} {em:Md} {ys:List t.D} {v:Value} (hR:RepV w ok (.list e t) [v] ys) (hf:(∀ b,ok b→b<w.heap.size∧own b=none)∨t.flat=true) (hem:em=.ro):
 ∃ css,Els w own t em ys none v css:=by
 obtain⟨A,c,e1,hle,hrow⟩:=hR;obtain⟨rfl⟩:=List.cons.inj e1
 by_cases hp:0<List.length ys
 ·obtain⟨a,rfl,_,hel⟩:=hrow hp;obtain⟨css,c1,c2⟩:=HG (n:=List.length ys) (p:=fun i ci=>∃ h:i<List.length ys,RepV w ok t ci (List.get ys ⟨i,h⟩)∧CellsAt w (a.add (i * t.sz)) ci) (fun i hi=>by
   obtain⟨ci,h1,h2⟩:=hel i hi;exact⟨ci,hi,h1,h2⟩)
  have hsz:∀ c'∈css,c'.length=t.sz:=fun c' hc'=>by
   obtain⟨k,hk,rfl⟩:=List.mem_iff_getElem.1 hc';obtain⟨_,h1,_⟩:=c2 k hk;exact RepV.len h1
  refine⟨css,⟨c1,⟨some a,c,rfl,(fun hA=>nomatch hA),fun a' ha'=>?_⟩,hsz,fun c' hc'=>?_,fun q w' own' hn k h1 h2 _=>?_⟩⟩
  ·obtain⟨rfl⟩:=ha';have:=CellsAt.flatten (w:=w) (a:=a) css 0 hsz (fun i hi=>by
    obtain⟨_,_,h2⟩:=c2 i hi;simpa using h2)
   simpa [Addr.add_zero] using this
  ·obtain⟨k,hk,rfl⟩:=List.mem_iff_getElem.1 hc';obtain⟨_,h1,_⟩:=c2 k hk;exact RepV.one h1
  ·obtain⟨_,h3,_⟩:=c2 k h2;subst hem;rcases hf with hf | hf
   ·exact RepO.ofV (RepV.mono (fun b hb=>by
     obtain⟨g1,g2⟩:=hf b hb;have:=hn b g2 g1
     exact⟨⟨this.1,this.2.1⟩,this.2.2⟩) h3)
   ·exact RepO.ofV (RepV.flat hf h3)
 ·have hy:ys=[]:=List.eq_nil_of_length_eq_zero (by omega)
  subst hy;exact⟨[],⟨rfl,⟨A,c,rfl,fun _=>rfl,fun a _ j hj=>by simp at hj⟩,fun c' hc'=>by simp at hc',fun c' hc'=>by simp at hc',fun q w' own' _ k h1=>by simp at h1⟩⟩
theorem Els.ofO {w:World} {own:Own} {e i:Nat} {t:Ty} {em:Md} {ys:List t.D} {v:Value} (hR:RepO w own (.list e t) (.own em) [2 * i] [v] ys):∃ css,Els w own t em ys (some i) v css:=by
 obtain⟨A,c,e1,hle,hrow⟩:=hR;obtain⟨rfl⟩:=List.cons.inj e1;rcases hrow with⟨rfl,rfl⟩ | ⟨b,o,arr,rfl,ho,hh,hs,hel⟩
 ·have hy:ys=[]:=List.eq_nil_of_length_eq_zero (by omega)
  subst hy;exact⟨[],⟨rfl,⟨none,0,rfl,fun _=>rfl,(fun a ha=>nomatch ha)⟩,fun c' hc'=>by simp at hc',fun c' hc'=>by simp at hc',fun q w' own' _ k h1=>by simp at h1⟩⟩
 ·obtain⟨css,c1,c2⟩:=HG (n:=List.length ys) (p:=fun k ci=>∃ h:k<List.length ys,RepO w own t em ([2 * i]++[k]) ci (List.get ys ⟨k,h⟩)∧∀ j (hj:j<ci.length),arr[o+k * t.sz+j]?=some ci[j]) (fun k hk=>by
   obtain⟨ci,h1,h2⟩:=hel k hk;exact⟨ci,hk,h1,h2⟩)
  have hsz:∀ c'∈css,c'.length=t.sz:=fun c' hc'=>by
   obtain⟨k,hk,rfl⟩:=List.mem_iff_getElem.1 hc';obtain⟨_,h1,_⟩:=c2 k hk;exact RepO.len h1
  refine⟨css,⟨c1,⟨_,c,rfl,(fun hA=>nomatch hA),fun a' ha'=>?_⟩,hsz,fun c' hc'=>?_,fun q w' own' hn k h1 h2 hm=>?_⟩⟩
  ·obtain⟨rfl⟩:=ha';have:=CellsAt.flatten (w:=w) (a:=⟨b,o,none⟩) css 0 hsz (fun k hk=>by
    obtain⟨_,_,h2⟩:=c2 k hk;intro j hj;rw [Addr.add_add,Ao hh,Nat.zero_add,← Nat.add_assoc];exact h2 j hj)
   simpa [Addr.add_zero] using this
  ·obtain⟨k,hk,rfl⟩:=List.mem_iff_getElem.1 hc';obtain⟨_,h1,_⟩:=c2 k hk;exact RepO.one h1
  ·obtain⟨_,h3,_⟩:=c2 k h2;exact RepO.move hn h3 (fun b s hb=>hm i rfl b s (by simpa using hb))
theorem Els.src {P:Program} {w:World} {own:Own} {t:Ty} {em:Md} {ys:List t.D} {i1:Option Nat} {v:Value} {css:List (List Value)} (h:Els w own t em ys i1 v css) {tx e':TypeId} (hk:P.underlying tx=some (.slice e')):
 Src P t.sz tx v ys.length css.flatten w:=by
 obtain⟨A,c,rfl,h1,h2⟩:=h.val;have hfl:css.flatten.length=ys.length * t.sz:=by
  have:∀ (css:List (List Value)),(∀ c∈css,c.length=t.sz)→css.flatten.length=css.length * t.sz:=by
   intro css
   induction css with
   | nil=>simp
   | cons c css ih=>
    intro hc;rw [List.flatten_cons,List.length_append,hc c (by simp),ih (fun c' hc'=>hc c' (by simp [hc'])),List.length_cons,Nat.add_mul,Nat.one_mul,Nat.add_comm]
  rw [this css h.sz,h.len]
 cases A with
 | none=>
  have hy:=h1 rfl
  subst hy;have:css=[]:=List.eq_nil_of_length_eq_zero (by rw [h.len];rfl)
  subst this;exact Src.ofNil w hk c
 | some a=>
  refine Src.ofSlice w hk a ys.length c css.flatten hfl (fun j u hj=>?_) (fun u hu=>?_)
  ·obtain⟨g1,g2⟩:=List.getElem?_eq_some_iff.1 hj;rw [h2 a rfl j g1,g2]
  ·obtain⟨c',hc',hu'⟩:=List.mem_flatten.1 hu;exact h.one c' hc' u hu'
def HM (own:Own) (i0 i1:Option Nat) (d n:Nat):Own:=fun b=>match own b with
 | some (r::s)=>if i0.map (2 * ·)=some r then some (2 * d::s) else if i1.map (2 * ·)=some r then (match s with
  | j::s'=>some (2 * d::(n+j)::s')
  | []=>some [r]) else some (r::s)
 | o=>o
theorem Gg {own:Own} {i0 i1:Option Nat} {d n b:Nat}:HM own i0 i1 d n b=none↔own b=none:=by
 unfold HM;split
 ·rename_i r s h;rw [h];split
  ·simp
  ·split
   ·split<;>simp
   ·simp
 ·rfl
theorem VV {own:Own} {i0 i1:Option Nat} {d n b:Nat} {l:Lab} (h:HM own i0 i1 d n b=some l):∃ l',own b=some l':=by
 cases ho:own b with
 | none=>rw [Gg.2 ho] at h;cases h
 | some l'=>exact⟨l',rfl⟩
theorem OG {own:Own} {i:Nat} {i1:Option Nat} {d n b:Nat} {s:Lab} (h:own b=some (2 * i::s)):HM own (some i) i1 d n b=some (2 * d::s):=by
 unfold HM;rw [h];simp
theorem Yq {own:Own} {i:Nat} {i0:Option Nat} {d n b j:Nat} {s:Lab} (h:own b=some (2 * i::j::s)) (hne:i0≠some i):HM own i0 (some i) d n b=some (2 * d::(n+j)::s):=by
 unfold HM;rw [h];have:¬ i0.map (2 * ·)=some (2 * i):=by
  cases i0 with
  | none=>simp
  | some k=>simp at hne ⊢;omega
 simp [this]
theorem Mo {own:Own} {i0 i1:Option Nat} {d n b r:Nat} {s:Lab} (h:own b=some (r::s)) (h0:∀ i,i0=some i→r≠2 * i) (h1:∀ i,i1=some i→r≠2 * i):HM own i0 i1 d n b=some (r::s):=by
 unfold HM;rw [h];have e0:¬ i0.map (2 * ·)=some r:=by
  cases i0 with
  | none=>simp
  | some k=>simp;exact fun e=>h0 k rfl e.symm
 have e1:¬ i1.map (2 * ·)=some r:=by
  cases i1 with
  | none=>simp
  | some k=>simp;exact fun e=>h1 k rfl e.symm
 simp [e0,e1]
theorem Mn {own:Own} {i0 i1:Option Nat} {d n b:Nat} (h:own b=some []):HM own i0 i1 d n b=some []:=by
 unfold HM;rw [h]
theorem NP {α:Type} (xs ys:List α) (k:Nat) (hk:k<(xs++ys).length):(∃ h:k<xs.length,(xs++ys).get ⟨k,hk⟩=xs.get ⟨k,h⟩)∨(∃ h:k - xs.length<ys.length,xs.length≤k∧(xs++ys).get ⟨k,hk⟩=ys.get ⟨k - xs.length,h⟩):=by
 by_cases h:k<xs.length
 ·exact .inl ⟨h,by simp [List.getElem_append_left h]⟩
 ·simp only [List.length_append] at hk;exact .inr ⟨by omega,by omega,by simp [List.getElem_append_right (Nat.le_of_not_lt h)]⟩
theorem Wj {P:Program} {τ:List TE} (hτ:TabOk P τ) {w0:World} {G0:Gh} {np:Nat} {σ:S} {a:Act} {w:World} {G:Gh} (h:Rel w0 G0 np σ a w G) {d:Nat} (hd:d<σ.sl.length)
 {T tx e e':Nat} {te tl:TE} (hT:tat τ T=some te) {t:Ty} (ht:te.t=.list e t) (htl:tat τ e=some tl) (hx:P.underlying tx=some (.slice e')) {em:Md} {xs ys:List t.D} {i0 i1:Option Nat} {vs vx:Value} {css:List (List Value)}
 (h0:(∃ i,i0=some i∧RepO w G.own (.list e t) (.own em) [2 * i] [vs] xs)∨(i0=none∧vs=.slice none 0 0∧xs=[])) (h1:Els w G.own t em ys i1 vx css)
 (hd0:i0≠some d) (hd1:i1≠some d) (h01:i0=none∨i0≠i1) (hb:0<tl.by_) (hroom:(xs.length+ys.length) * tl.by_≤140737488355328) (ty:TypeId):
 ∃ w' v G',(Builtin.append_ #[T,tx] ty #[vs,vx]).run P w=.ok v w'∧Rel w0 G0 np (σ.newA d (.dat ⟨.list e t,.own em,xs++ys⟩) (i0.toList++i1.toList)) (a.put (some d) v) w' G'∧Ft w w' G G' (2 * d::(i0.toList++i1.toList).map (2 * ·)):=by
 obtain⟨hu,tl',htl',htt⟩:=hτ.slice hT ht;rw [htl] at htl';obtain⟨rfl⟩:=htl';obtain⟨⟨⟨it,z,hi,hz,hzv,hsz,hby,_⟩,_⟩,hid⟩:=hτ _ _ htl;rw [hid] at hi;have hsrc:=h1.src (P:=P) hx
 rw [htt] at hsz
 -- the old elements
 obtain⟨A0,c0,hvs,hle0,hel0⟩:∃ A0 c0,vs=.slice A0 (List.length xs) c0∧List.length xs≤c0 ∧
  ((A0=none∧c0=0)∨∃ i b o arr,i0=some i∧A0=some ⟨b,o,none⟩∧G.own b=some [2 * i]∧w.heap[b]?=some (.cells arr e (0,0))∧o+c0 * t.sz≤arr.size ∧
    ∀ k (hk:k<List.length xs),∃ ci,RepO w G.own t em [2 * i,k] ci (List.get xs ⟨k,hk⟩)∧∀ j (hj:j<ci.length),arr[o+k * t.sz+j]?=some ci[j]):=by
  rcases h0 with⟨i,rfl,A,c,e1,e2,e3⟩ | ⟨rfl,rfl,rfl⟩
  ·obtain⟨rfl⟩:=List.cons.inj e1;refine⟨A,c,rfl,e2,?_⟩
   rcases e3 with e3 | ⟨b,o,arr,f1,f2,f3,f4,f5⟩
   ·exact .inl e3
   ·exact .inr ⟨i,b,o,arr,rfl,f1,f2,f3,f4,f5⟩
  ·exact⟨none,0,rfl,Nat.le_refl _,.inl ⟨rfl,rfl⟩⟩
 let own1:=HM G.own i0 i1 d (List.length xs)
 have hrs:∀ r,r ∉ 2 * d::(i0.toList++i1.toList).map (2 * ·)→(∀ i,i0=some i→r≠2 * i)∧(∀ i,i1=some i→r≠2 * i):=by
  intro r hr;refine⟨fun i hi e=>hr ?_,fun i hi e=>hr ?_⟩
  ·rw [e];exact List.mem_cons_of_mem _ (List.mem_map.2 ⟨i,by simp [hi],rfl⟩)
  ·rw [e];exact List.mem_cons_of_mem _ (List.mem_map.2 ⟨i,by simp [hi],rfl⟩)
 -- an element, wherever it then lies
 have hold:∀ (w':World) (own':Own),(∀ b,G.own b=none→b<w.heap.size→own' b=none∧b<w'.heap.size∧w'.heap[b]?=w.heap[b]?)→(∀ b r s,G.own b=some (r::s)→s≠[]→own' b=own1 b∧w'.heap[b]?=w.heap[b]?) →
  ∀ i,i0=some i→∀ k ci (x:t.D),RepO w G.own t em [2 * i,k] ci x→RepO w' own' t em [2 * d,k] ci x:=by
  intro w' own' hn hs i hi k ci x hR;refine RepO.move hn hR (fun b s hb=>?_)
  have hb':G.own b=some (2 * i::k::s):=by simpa using hb
  obtain⟨g1,g2⟩:=hs b _ _ hb' (by simp);refine⟨?_,g2⟩
  rw [g1];simp only [own1,hi];rw [OG hb'];simp
 have hnew:∀ (w':World) (own':Own),(∀ b,G.own b=none→b<w.heap.size→own' b=none∧b<w'.heap.size∧w'.heap[b]?=w.heap[b]?)→(∀ b r s,G.own b=some (r::s)→s≠[]→own' b=own1 b∧w'.heap[b]?=w.heap[b]?) →
  ∀ k (g1:k<ys.length) (g2:k<css.length),RepO w' own' t em [2 * d,List.length xs+k] css[k] ys[k]:=by
  intro w' own' hn hs k g1 g2;refine h1.el _ w' own' hn k g1 g2 (fun i hi b s hb=>?_)
  obtain⟨q1,q2⟩:=hs b _ _ hb (by simp);refine⟨?_,q2⟩
  rw [q1];simp only [own1];rw [hi];rw [Yq hb (fun e=>by
   rcases h01 with h01 | h01
   ·rw [h01] at e;cases e
   ·exact h01 (by rw [e,hi]))]
  simp
 have hlive1:∀ b l,own1 b=some l→b<w.heap.size:=fun b l hb=>by
  obtain⟨l',hl'⟩:=VV hb;exact h.live b l' hl'
 have hy:List.length ys=0∨0<List.length ys:=Nat.eq_zero_or_pos _
 rcases hy with hy | hy
 ·-- nothing
  have hy':ys=[]:=List.eq_nil_of_length_eq_zero hy
  subst hy';have hc':css=[]:=List.eq_nil_of_length_eq_zero (by rw [h1.len];rfl)
  subst hc';have hrun:=run_append_nothing w T tx ty e it hu hi A0 (List.length xs) c0 hle0 vx (by rw [hsz];exact hsrc)
  refine⟨w,.slice A0 (List.length xs) c0,{ G with own:=own1 },by rw [hvs];exact hrun,h.newA2 hd ⟨Nat.le_refl _,fun b hb _=>⟨Gg.2 hb,rfl⟩,fun b r s hb hr=>⟨Mo hb (hrs r hr).1 (hrs r hr).2,rfl⟩,fun b hb=>⟨Mn hb,rfl⟩⟩ rfl rfl rfl hlive1 (by simp) (fun σ' tmps=>?_)⟩
  refine⟨[_],rfl,A0,c0,by simp,by simpa using hle0,?_⟩
  rcases hel0 with hel0 | ⟨i,b,o,arr,hi0,f1,f2,f3,f4,f5⟩
  ·exact .inl hel0
  ·refine .inr ⟨b,o,arr,f1,?_,f3,f4,fun k hk=>?_⟩
   ·simp only [own1,hi0];exact OG f2
   ·have hk':k<List.length xs:=by simpa using hk
    obtain⟨ci,g1,g2⟩:=f5 k hk';refine⟨ci,?_,g2⟩
    have:=hold w own1 (fun b hb hlt=>⟨Gg.2 hb,hlt,rfl⟩) (fun b r s hb hs=>⟨rfl,rfl⟩) i hi0 k ci _ g1
    simpa using this
 ·by_cases hfit:List.length xs+List.length ys≤c0
  ·-- there is room
   rcases hel0 with⟨_,hc0⟩ | ⟨i,b,o,arr,hi0,f1,f2,f3,f4,f5⟩
   ·omega
   ·subst f1;have hnl:=hsrc.newsLen
    have hsp:(List.length xs+List.length ys) * t.sz≤c0 * t.sz:=Nat.mul_le_mul_right _ hfit
    rw [Nat.add_mul] at hsp;have hrun:=run_append_room_src w T tx ty e it hu hi b o (List.length xs) c0 vx (List.length ys) css.flatten (by rw [hsz];exact hsrc) hfit (fun j hj=>by
     have hlt:o+List.length xs * t.sz+j<arr.size:=by omega
     simp only [hsz,World.cell?,f3,Option.isSome_none,Bool.false_eq_true,if_false];rw [Array.getElem?_eq_getElem hlt];rfl) (fun j hj=>by
     simp only [World.frozen?,f3];simp)
    rw [hsz] at hrun;obtain⟨z1,z2,z3,z4,z5,arr2,y1,y2,y3,y4⟩:=Fo b css.flatten (o+List.length xs * t.sz) w arr e (0,0) f3 (by omega);have hkeep:∀ c,G.own c=none→c<w.heap.size→own1 c=none∧c<(w.setCells b (o+List.length xs * t.sz) css.flatten).heap.size∧(w.setCells b (o+List.length xs * t.sz) css.flatten).heap[c]?=w.heap[c]?:=fun c hc hlt=>
     ⟨Gg.2 hc,by rw [z4];exact hlt,z5 c (fun e=>by rw [e,f2] at hc;cases hc)⟩
    have hkeep2:∀ c r s,G.own c=some (r::s)→s≠[]→own1 c=own1 c∧(w.setCells b (o+List.length xs * t.sz) css.flatten).heap[c]?=w.heap[c]?:=fun c r s hc hs=>
     ⟨rfl,z5 c (fun e=>by
      rw [e,f2] at hc;simp at hc;exact hs hc.2)⟩
    refine⟨_,.slice (some ⟨b,o,none⟩) (List.length xs+List.length ys) c0,{ G with own:=own1 },by rw [hvs];exact hrun,h.newA2 hd ⟨by rw [z4];exact Nat.le_refl _,fun c hc hlt=>⟨(hkeep c hc hlt).1,(hkeep c hc hlt).2.2⟩,fun c r s hc hr=>⟨Mo hc (hrs r hr).1 (hrs r hr).2,z5 c (fun e=>?_)⟩,fun c hc=>⟨Mn hc,z5 c (fun e=>by rw [e,f2] at hc;cases hc)⟩⟩ z1 z2 z3 (fun c l hc=>by rw [z4];exact hlive1 c l hc) (by simp) (fun σ' tmps=>?_)⟩
    ·rw [e,f2] at hc;simp at hc;exact(hrs r hr).1 i hi0 hc.1.symm
    ·refine⟨[_],rfl,some ⟨b,o,none⟩,c0,by simp,by simpa using hfit,.inr ⟨b,o,arr2,rfl,?_,y1,by rw [y2];exact f4,fun k hk=>?_⟩⟩
     ·simp only [own1,hi0];exact OG f2
     ·rcases NP xs ys k hk with⟨hk',ek⟩ | ⟨hk',hk2,ek⟩
      ·obtain⟨ci,g1,g2⟩:=f5 k hk';refine⟨ci,?_,fun j hj=>?_⟩
       ·rw [ek];exact hold _ own1 hkeep hkeep2 i hi0 k ci _ g1
       ·rw [y3 _ (.inl ?_)]
        ·exact g2 j hj
        ·have hci:=RepO.len g1
         have:(k+1) * t.sz≤List.length xs * t.sz:=Nat.mul_le_mul_right _ hk'
         rw [Nat.add_mul,Nat.one_mul] at this;omega
      ·have hk3:k - List.length xs<css.length:=by rw [h1.len];exact hk'
       refine⟨css[k - List.length xs],?_,fun j hj=>?_⟩
       ·rw [ek];have:=hnew _ own1 hkeep hkeep2 (k - List.length xs) hk' hk3
        rw [show List.length xs+(k - List.length xs)=k by omega] at this;exact this
       ·have hfl:=KI h css h1.sz (k - List.length xs) hk3 j hj
        obtain⟨hlt,hge⟩:=List.getElem?_eq_some_iff.1 hfl;have e1:o+k * t.sz+j=o+List.length xs * t.sz+((k - List.length xs) * t.sz+j):=by
         have:k * t.sz=List.length xs * t.sz+(k - List.length xs) * t.sz:=by rw [← Nat.add_mul];congr 1;omega
         omega
        rw [e1,y4 _ hlt,hge]
  ·-- there is none
   have hcap:c0<List.length xs+List.length ys:=by omega
   have hneed:List.length xs+List.length ys≤140737488355328:=by
    have:(List.length xs+List.length ys) * 1≤(List.length xs+List.length ys) * tl.by_:=Nat.mul_le_mul_left _ hb
    omega
   have hnext:Builtin.nextslicecap (List.length xs+List.length ys) c0 * it.bytes≤281474976710656:=by
    have h2:=LJ hcap
    have:Builtin.nextslicecap (List.length xs+List.length ys) c0 * tl.by_≤2 * (List.length xs+List.length ys) * tl.by_:=Nat.mul_le_mul_right _ h2
    rw [hby];rw [Nat.mul_assoc] at this;omega
   -- the old cells
   obtain⟨olds,o1,o2,o3,o4⟩:∃ olds:List (List Value),olds.length=List.length xs∧(∀ c∈olds,c.length=t.sz)∧(∀ k (hk:k<olds.length) (hk2:k<List.length xs) i,i0=some i→RepO w G.own t em [2 * i,k] olds[k] (List.get xs ⟨k,hk2⟩)) ∧
    (Builtin.firstCells it.size (List.length xs) (.slice A0 (List.length xs) c0)).run P w.drew=.ok olds.flatten.toArray w.drew:=by
    rcases hel0 with⟨rfl,rfl⟩ | ⟨i,b,o,arr,hi0,rfl,f2,f3,f4,f5⟩
    ·have:xs=[]:=List.eq_nil_of_length_eq_zero (by omega)
     subst this;exact⟨[],rfl,fun c hc=>by simp at hc,fun k hk=>by simp at hk,run_firstCells_none w.drew it.size 0 0 0⟩
    ·obtain⟨olds,c1,c2⟩:=HG (n:=List.length xs) (p:=fun k ci=>∃ hk:k<List.length xs,RepO w G.own t em [2 * i,k] ci (List.get xs ⟨k,hk⟩)∧∀ j (hj:j<ci.length),arr[o+k * t.sz+j]?=some ci[j]) (fun k hk=>by
      obtain⟨ci,g1,g2⟩:=f5 k hk;exact⟨ci,hk,g1,g2⟩)
     have hszs:∀ c'∈olds,c'.length=t.sz:=fun c' hc'=>by
      obtain⟨k,hk,rfl⟩:=List.mem_iff_getElem.1 hc';obtain⟨_,g1,_⟩:=c2 k hk;exact RepO.len g1
     refine⟨olds,c1,hszs,fun k hk hk2 i' hi'=>?_,?_⟩
     ·obtain⟨_,g1,_⟩:=c2 k hk;rw [hi0] at hi';obtain⟨rfl⟩:=hi';exact g1
     ·refine run_firstCells_some w.drew it.size (List.length xs) ⟨b,o,none⟩ (List.length xs) c0 olds.flatten ?_ (fun j u hj=>?_)
      ·rw [Dh h olds hszs,c1,hsz]
      ·obtain⟨hlt,hge⟩:=List.getElem?_eq_some_iff.1 hj;have hcat:=CellsAt.flatten (w:=w) (a:=⟨b,o,none⟩) olds 0 hszs (fun k hk=>by
        obtain⟨_,_,g2⟩:=c2 k hk;intro j hj;rw [Addr.add_add,Ao f3,Nat.zero_add,← Nat.add_assoc];exact g2 j hj)
       simp only [Nat.zero_mul,Addr.add_zero] at hcat;rw [World.cell?_drew,hcat j hlt,hge]
   have hrun:=run_append_grow_src w T tx ty e it z hu hi hz A0 (List.length xs) c0 olds.flatten o4 vx (List.length ys) css.flatten (by rw [hsz];exact hsrc) hcap (by omega) hnext
   let own':Own:=fun b=>if b=w.heap.size then some [2 * d] else own1 b
   let rest:=Builtin.zeroCells z.cells (grownCap w (List.length xs+List.length ys) c0 e - (List.length xs+List.length ys))
   have hgc:=grownCap_ge w (List.length xs+List.length ys) c0 e
   have hheap:∀ ob b,b<w.heap.size→(w.drew.alloc ob).heap[b]?=w.heap[b]?:=fun ob b hb=>World.heap_alloc_old w.drew ob hb
   have hown':∀ b,b≠w.heap.size→own' b=own1 b:=fun b hb=>if_neg hb
   have hsize:∀ ob,(w.drew.alloc ob).heap.size=w.heap.size+1:=fun ob=>by rw [World.size_alloc];rfl
   have hkeep:∀ ob c,G.own c=none→c<w.heap.size→own' c=none∧c<(w.drew.alloc ob).heap.size∧(w.drew.alloc ob).heap[c]?=w.heap[c]?:=fun ob c hc hlt=>
    ⟨by rw [hown' c (by omega)];exact Gg.2 hc,by rw [hsize];omega,hheap ob c hlt⟩
   have hkeep2:∀ ob c r s,G.own c=some (r::s)→s≠[]→own' c=own1 c∧(w.drew.alloc ob).heap[c]?=w.heap[c]?:=fun ob c r s hc _=>by
    have:=h.live c _ hc
    exact⟨hown' c (by omega),hheap ob c this⟩
   refine⟨_,_,{ G with own:=own' },by rw [hvs];exact hrun,h.newA2 hd (own':=own') ⟨by rw [hsize];exact Nat.le_succ _,fun c hc hlt=>⟨by rw [hown' c (by omega)];exact Gg.2 hc,hheap _ c hlt⟩,fun c r s hc hr=>?_,fun c hc=>⟨by rw [hown' c (by have:=h.live c _ hc;omega)];exact Mn hc,hheap _ c (h.live c _ hc)⟩⟩ rfl rfl rfl (fun c l hc=>?_) (by simp) (fun σ' tmps=>?_)⟩
   ·have hlt:=h.live c _ hc
    refine⟨?_,hheap _ c hlt⟩
    rw [hown' c (by omega)];exact Mo hc (hrs r hr).1 (hrs r hr).2
   ·rw [hsize]
    by_cases hcs:c=w.heap.size
    ·omega
    ·rw [hown' c hcs] at hc;have:=hlive1 c l hc
     omega
   ·have hzl:z.cells.size=t.sz:=by
     have:=hzv.cells (fun u hu=>RepV.one (RepV.zero (ok:=fun _=>True) h tl.t) u hu)
     rw [← htt,← Ty.zc_len,← this];simp
    refine⟨[_],rfl,some ⟨w.heap.size,0,none⟩,_,by rw [List.length_append],by rw [List.length_append];exact hgc,.inr ⟨w.heap.size,0,_,rfl,if_pos rfl,World.heap_alloc_new w.drew _,?_,fun k hk=>?_⟩⟩
    ·rw [Array.size_append,List.size_toArray,List.length_append,Dh h olds o2,Dh h css h1.sz,o1,h1.len,size_zeroCells,hzl,← Nat.add_mul,← Nat.add_mul];rw [Nat.zero_add,Nat.add_sub_cancel' hgc];exact Nat.le_refl _
    ·have hcl:∀ c∈olds++css,c.length=t.sz:=fun c hc=>by
      rcases List.mem_append.1 hc with hc | hc
      ·exact o2 c hc
      ·exact h1.sz c hc
     have hget:∀ (kk:Nat) (hkk:kk<(olds++css).length) (j:Nat) (hj:j<(olds++css)[kk].length),((olds.flatten++css.flatten).toArray++rest)[0+kk * t.sz+j]?=some ((olds++css)[kk][j]):=by
      intro kk hkk j hj;have hfl:=KI h (olds++css) hcl kk hkk j hj
      rw [List.flatten_append] at hfl;have hlt:=(List.getElem?_eq_some_iff.1 hfl).1
      rw [Nat.zero_add,Array.getElem?_append_left (by simpa using hlt),List.getElem?_toArray];exact hfl
     rcases NP xs ys k hk with⟨hk',ek⟩ | ⟨hk',hk2,ek⟩
     ·have hko:k<olds.length:=by omega
      refine⟨olds[k],?_,fun j hj=>?_⟩
      ·rw [ek];rcases hel0 with⟨rfl,rfl⟩ | ⟨i,b,o,arr,hi0,rfl,f2,f3,f4,f5⟩
       ·omega
       ·exact hold _ own' (hkeep _) (hkeep2 _) i hi0 k _ _ (o3 k hko hk' i hi0)
      ·have e1:(olds++css)[k]'(by simp;omega)=olds[k]:=List.getElem_append_left hko
       have:=hget k (by simp;omega) j (by rw [e1];exact hj)
       rw [this];simp only [e1]
     ·have hk3:k - List.length xs<css.length:=by rw [h1.len];exact hk'
      have e1:(olds++css)[k]'(by simp;omega)=css[k - List.length xs]:=by
       rw [List.getElem_append_right (by omega)];simp [o1]
      refine⟨css[k - List.length xs],?_,fun j hj=>?_⟩
      ·rw [ek];have:=fun ob=>hnew (w.drew.alloc ob) own' (hkeep ob) (hkeep2 ob) (k - List.length xs) hk' hk3
       simp only [show List.length xs+(k - List.length xs)=k by omega] at this;exact this _
      ·have:=hget k (by simp;omega) j (by rw [e1];exact hj)
       rw [this];simp only [e1]
inductive PK where
 | ro
 | mov (m:Md)
 | inp (m:Md)
 | ptr (m:Md)
structure Prm where
 k:PK
 t:Ty
structure Ret where
 t:Ty
 m:Md
@[reducible] def HL:List Ty→Type
 | []=>Unit
 | t::ts=>t.D×HL ts
@[reducible] def pts (ps:List Prm):List Ty:=ps.map (·.t)
@[reducible] def rts (rs:List Ret):List Ty:=rs.map (·.t)
@[reducible] def fts:List Prm→List Ty
 | []=>[]
 | ⟨.ro,_⟩::ps=>fts ps
 | ⟨.mov _,_⟩::ps=>fts ps
 | ⟨.inp _,t⟩::ps=>t::fts ps
 | ⟨.ptr _,t⟩::ps=>t::fts ps
def HL.left:(as bs:List Ty)→HL (as++bs)→HL as
 | [],_,_=>()
 | _::as,bs,x=>(x.1,HL.left as bs x.2)
def HL.right:(as bs:List Ty)→HL (as++bs)→HL bs
 | [],_,x=>x
 | _::as,bs,x=>HL.right as bs x.2
structure Cal where
 f:Nat
 ps:List Prm
 rs:List Ret
 F:HL (pts ps)→Option (HL (rts rs++fts ps))
 md:Nat:=0
def CZ:Nat:=1000000001
def gb (w:World) (own:Own) (i:Nat) (p:Prm) (v:Value) (x:p.t.D):Prop:=match p.k with
 | .ro=>∃ cs,Val p.t v cs∧RepV w (fun b=>own b=none∧b<w.heap.size) p.t cs x
 | .mov m=>∃ cs,Val p.t v cs∧RepO w own p.t m [2 * i] cs x
 | .inp m=>∃ cs,Val p.t v cs∧RepO w own p.t m [2 * i] cs x
 | .ptr m=>∃ b o arr T cs,v=.pointer (some ⟨b,o,none⟩)∧own b=some [2 * i]∧w.heap[b]?=some (.cells arr T (0,0))∧o+p.t.sz≤arr.size∧RepO w own p.t m [2 * i,0] cs x∧∀ j (hj:j<cs.length),arr[o+j]?=some cs[j]
def ArgsR (w:World) (own:Own):(i:Nat)→(ps:List Prm)→List Value→HL (pts ps)→Prop
 | _,[],vs,_=>vs=[]
 | i,p::ps,v::vs,x=>gb w own i p v x.1∧ArgsR w own (i+1) ps vs x.2
 | _,_::_,[],_=>False
def VU (w:World) (own:Own) (arr:Array Value):(j:Nat)→(rs:List Ret)→HL (rts rs)→Prop
 | _,[],_=>True
 | j,r::rs,y=>(∃ cs,Val r.t (arr.getD j undef) cs∧RepO w own r.t r.m [CZ,j] cs y.1)∧VU w own arr (j+1) rs y.2
def aX (w:World) (own:Own):(rs:List Ret)→Value→HL (rts rs)→Prop
 | [],_,_=>True
 | [r],v,y=>∃ cs,Val r.t v cs∧RepO w own r.t r.m [CZ] cs y.1
 | r::r2::rs,v,y=>∃ arr,v=.tuple arr∧arr.size=rs.length+2∧VU w own arr 0 (r::r2::rs) y
def OB (w w':World) (own':Own):(i:Nat)→(ps:List Prm)→List Value→HL (fts ps)→Prop
 | _,[],_,_=>True
 | i,⟨.ro,_⟩::ps,vs,z=>OB w w' own' (i+1) ps vs.tail z
 | i,⟨.mov _,_⟩::ps,vs,z=>OB w w' own' (i+1) ps vs.tail z
 | i,⟨.inp m,t⟩::ps,vs,z=>(∃ cs,Val t (vs.headD undef) cs∧RepO w' own' t m [2 * i] cs z.1)∧OB w w' own' (i+1) ps vs.tail z.2
 | i,⟨.ptr m,t⟩::ps,vs,z=>(∃ b o arr arr' T cs,vs.headD undef=.pointer (some ⟨b,o,none⟩)∧w.heap[b]?=some (.cells arr T (0,0))∧w'.heap[b]?=some (.cells arr' T (0,0))∧arr'.size=arr.size∧(∀ j,(j<o∨o+t.sz≤j)→arr'[j]?=arr[j]?) ∧
  own' b=some [2 * i]∧RepO w' own' t m [2 * i,0] cs z.1∧∀ j (hj:j<cs.length),arr'[o+j]?=some cs[j])∧OB w w' own' (i+1) ps vs.tail z.2
def OD (w:World) (own:Own) (ps:List Prm) (vs:List Value) (rs:List Ret) (y:HL (rts rs++fts ps)) (e:Ending) (w':World):Prop:=
 ∃ v own',e=.returned v∧w'.os=w.os∧w'.tape=w.tape∧w'.output=w.output∧w.heap.size≤w'.heap.size∧(∀ b l,own' b=some l→b<w'.heap.size) ∧
  (∀ b,b<w.heap.size→own b=none→own' b=none∧w'.heap[b]?=w.heap[b]?)∧(∀ b,b<w.heap.size→own b=some []→own' b=some []∧w'.heap[b]?=w.heap[b]?)∧aX w' own' rs v (HL.left _ _ y)∧OB w w' own' 0 ps vs (HL.right _ _ y)
def libTabs : List (String × IntKind × List Int) := []
def NW : List String := ["internal/bytealg.MaxLen"]
structure Inv (P:Program) (w:World) (own:Own):Prop where
 tab:∀ x∈libTabs,∀ g,P.globalNamed x.1=some g→own g=none∧Lib.TabIs P w x.1 x.2.1 x.2.2
 int:∀ n∈NW,∀ g,P.globalNamed n=some g→own g=none∧∃ m,w.cell? ⟨g,0,none⟩=some (.int .i64 m)
theorem Inv.of {P:Program} {w w':World} {own own':Own} (h:Inv P w own) (hk:∀ b,b<w.heap.size→own b=none→own' b=none∧w'.heap[b]?=w.heap[b]?):Inv P w' own':=by
 constructor
 ·intro x hx g hg;obtain⟨h1,h2⟩:=h.tab x hx g hg;have h3:g<w.heap.size:=by
   rcases Nat.lt_or_ge g w.heap.size with h | h
   ·exact h
   ·unfold Lib.TabIs World.var? at h2;rw [hg] at h2;simp only [Option.bind_some,Array.getElem?_eq_none h] at h2;cases h2
  obtain⟨a1,a2⟩:=hk g h3 h1;refine⟨a1,?_⟩
  unfold Lib.TabIs World.var? at h2 ⊢;rw [hg] at h2 ⊢;simp only [Option.bind_some] at h2 ⊢;rw [a2];exact h2
 ·intro n hn g hg;obtain⟨h1,m,h2⟩:=h.int n hn g hg;have h3:g<w.heap.size:=by
   rcases Nat.lt_or_ge g w.heap.size with h | h
   ·exact h
   ·unfold World.cell? at h2;simp only [Array.getElem?_eq_none h] at h2;cases h2
  obtain⟨a1,a2⟩:=hk g h3 h1;refine⟨a1,m,?_⟩
  unfold World.cell? at h2 ⊢;simp only at h2 ⊢;rw [a2];exact h2
/-- How the arguments that the function gets (ra) are told from those that the contract speaks of (vs).
md 1: the first is a pointer to a struct that begins with a pointer, what lies behind is written in; md 2: it is only read. The contract speaks of what lies behind, and of the pointer as one more argument at the end. md 3: nothing is one's own; what comes back is a pointer to something new. -/
def PD (md:Nat) (w:World) (own:Own) (vs ra:List Value):Prop:=match md with
 | 1=>∃ b o A mid,vs=.pointer (some ⟨b,o+1,none⟩)::(mid++[.pointer (some A)])∧ra=.pointer (some ⟨b,o,none⟩)::mid∧w.cell? ⟨b,o,none⟩=some (.pointer (some A))
 | 2=>∃ b o A cs mid,vs=.agg cs.toArray::(mid++[.pointer (some A)])∧ra=.pointer (some ⟨b,o,none⟩)::mid∧w.cell? ⟨b,o,none⟩=some (.pointer (some A))∧CellsAt w ⟨b,o+1,none⟩ cs∧(own b=none∨own b=some [])∧b<w.heap.size
 | 3=>ra=vs∧∀ b l,own b=some l→l=[]
 | _=>ra=vs
def Uv (w:World) (own:Own):(rs:List Ret)→(fs:List Ty)→HL (rts rs++fs)→Ending→World→Prop
 | [r],_,y,e,w'=>∃ (b o:Nat) (arr:Array Value) (T:TypeId) (cs:List Value) (own':Own),e=.returned (.pointer (some ⟨b,o,none⟩))∧w'.os=w.os∧w'.tape=w.tape∧w'.output=w.output∧w.heap.size≤w'.heap.size ∧
  (∀ b l,own' b=some l→b<w'.heap.size)∧(∀ b,b<w.heap.size→own b=none→own' b=none∧w'.heap[b]?=w.heap[b]?)∧(∀ b,b<w.heap.size→own b=some []→own' b=some []∧w'.heap[b]?=w.heap[b]?) ∧
  w.heap.size≤b∧own' b≠none∧w'.heap[b]?=some (.cells arr T (0,0))∧o+r.t.sz≤arr.size∧RepV w' (fun b=>own' b=none∧b<w'.heap.size) r.t cs y.1∧∀ j (hj:j<cs.length),arr[o+j]?=some cs[j]
 | _,_,_,_,_=>False
def Uu (c:Cal) (w:World) (own:Own) (vs:List Value) (y:HL (rts c.rs++fts c.ps)):Ending→World→Prop:=
 if c.md=3 then Uv w own c.rs (fts c.ps) y else OD w own c.ps vs c.rs y
def FOK (P:Program) (c:Cal):Prop:=∀ (w:World) (own:Own) (args:List Value) (x:HL (pts c.ps)) (y:HL (rts c.rs++fts c.ps)),(∀ b l,own b=some l→b<w.heap.size)→Inv P w own→ArgsR w own 0 c.ps args x→c.F x=some y →
 ∀ ra,PD c.md w own args ra→Calls P c.f ra.toArray w (Uu c w own args y)
def cov:Ty→Md→Bool
 | .list _ t,.own m=>cov t m
 | .list _ _,_=>false
 | .pair a b,m=>cov a m.fst && cov b m.snd
 | _,_=>true
theorem RepO.moveC {w w':World} {own own':Own}:∀ {t:Ty} {m:Md} {p q:Lab} {cs:List Value} {x:t.D},cov t m=true→RepO w own t m p cs x→(∀ b s,own b=some (p++s)→own' b=some (q++s)∧w'.heap[b]?=w.heap[b]?)→RepO w' own' t m q cs x
 | .int _,_,_,_,_,_,_,h,_=>h
 | .bool,_,_,_,_,_,_,h,_=>h
 | .str,_,_,_,_,_,_,h,_=>h
 | .list e t,.own m,p,q,_,_,hc,h,h1=>by
  obtain⟨A,c,rfl,hl,hr⟩:=h;refine⟨A,c,rfl,hl,?_⟩
  rcases hr with hr | ⟨b,o,arr,rfl,ho,hh,hs,hi⟩
  ·exact .inl hr
  ·have hb:=h1 b [] (by simpa using ho)
   refine .inr ⟨b,o,arr,rfl,by simpa using hb.1,hb.2.trans hh,hs,fun i h=>?_⟩
   obtain⟨ci,hc1,hc2⟩:=hi i h;exact⟨ci,RepO.moveC (by simpa [cov] using hc) hc1 (fun b s hb=>by
    have:=h1 b (i::s) (by simpa using hb)
    simpa using this),hc2⟩
 | .list _ _,.hole,_,_,_,_,hc,_,_=>by simp [cov] at hc
 | .list _ _,.ro,_,_,_,_,hc,_,_=>by simp [cov] at hc
 | .list _ _,.pr _ _,_,_,_,_,hc,_,_=>by simp [cov] at hc
 | .pair a b,m,p,q,_,_,hc,h,h1=>by
  simp only [cov,Bool.and_eq_true] at hc;obtain⟨c1,c2,rfl,ha,hb⟩:=h;exact⟨c1,c2,rfl,RepO.moveC hc.1 ha (fun b s hb=>by have:=h1 b (0::s) (by simpa using hb);simpa using this),
   RepO.moveC hc.2 hb (fun b s hb=>by have:=h1 b (1::s) (by simpa using hb);simpa using this)⟩
def roV (t:Ty):AV→Option (t.D×List Nat)
 | .snp t' x deps _=>if h:t'=t then some (h ▸ x,deps) else none
 | .nilS=>match t with
  | .list _ _=>some ([],[])
  | _=>none
 | _=>none
structure Fl where
 i:Nat
 p:Place
 b:Bool
def Zc (σ:S) (t:Ty) (m:Md):AV→Option (t.D×Place)
 | .snp t' _ _ (some p)=>match σ.rt p.root with
  | some d=>match BG p.path d.t d.m d.x with
   | some d'=>if h:d'.t=t then (if t'=t∧d'.m=m then some ((h ▸ d'.x:t.D),p) else none) else none
   | none=>none
  | none=>none
 | _=>none
def Zw (σ:S) (t:Ty) (m:Md):AV→Option (t.D×Place)
 | .ptr p=>match p.path with
  | []=>if p.root % 2=1 then (match σ.box (p.root / 2) with
   | some (true,d)=>if h:d.t=t then (if d.m=m then some ((h ▸ d.x:t.D),p) else none) else none
   | _=>none) else none
  | _=>none
 | _=>none
def S.args (σ:S):(i:Nat)→(ps:List Prm)→List Operand→Option (HL (pts ps)×List Nat×List (Nat×Nat)×List Fl)
 | _,[],[]=>some ((),[],[],[])
 | i,⟨.ro,t⟩::ps,o::os=>match roV t (σ.ev o),σ.args (i+1) ps os with
  | some (x,d),some (xs,ds,l,fl)=>some ((x,xs),d++ds,l,fl)
  | _,_=>none
 | i,⟨.mov m,t⟩::ps,o::os=>match σ.take t m o,σ.args (i+1) ps os with
  | some (m',x,ms),some (xs,ds,l,fl)=>if m'=m then some ((x,xs),ds,ms.map (·,i)++l,fl) else none
  | _,_=>none
 | i,⟨.inp m,t⟩::ps,o::os=>match Zc σ t m (σ.ev o),σ.args (i+1) ps os with
  | some (x,p),some (xs,ds,l,fl)=>some ((x,xs),ds,l,⟨i,p,false⟩::fl)
  | _,_=>none
 | i,⟨.ptr m,t⟩::ps,o::os=>match Zw σ t m (σ.ev o),σ.args (i+1) ps os with
  | some (x,p),some (xs,ds,l,fl)=>some ((x,xs),ds,l,⟨i,p,true⟩::fl)
  | _,_=>none
 | _,_,_=>none
def Fl.lab (e:Fl):Lab:=if e.b then [e.p.root] else Ai e.p.root++e.p.path.lab
theorem Fl.lab_cons (e:Fl):∃ s,e.lab=e.p.root::s:=by
 unfold Fl.lab;split
 ·exact⟨[],rfl⟩
 ·obtain⟨s,hs⟩:=Bi e.p.root;exact⟨s++e.p.path.lab,by rw [hs];rfl⟩
def GD:List Fl→Lab→Option (Nat×Lab)
 | [],_=>none
 | e::fl,L=>match DR e.lab L with
  | some s=>some (e.i,s)
  | none=>GD fl L
theorem MD {L:Lab}:∀ {fl:List Fl},(∀ e∈fl,¬ Lab.le e.lab L)→GD fl L=none
 | [],_=>rfl
 | e::fl,h=>by
  simp only [GD];have:DR e.lab L=none:=by
   cases hs:DR e.lab L with
   | none=>rfl
   | some s=>exact absurd ⟨s,CJ.1 hs⟩ (h e (by simp))
  rw [this];exact MD fun e' he=>h e' (by simp [he])
theorem Sp {e:Fl} {s:Lab}:∀ {fl:List Fl},(fl.map (·.p.root)).Nodup→e∈fl→GD fl (e.lab++s)=some (e.i,s)
 | e'::fl,hn,he=>by
  simp only [GD];simp only [List.map_cons,List.nodup_cons] at hn;rcases List.mem_cons.1 he with rfl | he
  ·rw [CJ.2 rfl]
  ·have:DR e'.lab (e.lab++s)=none:=by
    cases hs:DR e'.lab (e.lab++s) with
    | none=>rfl
    | some s'=>
     exfalso
     have h1:=CJ.1 hs
     obtain⟨q,hq⟩:=e.lab_cons;obtain⟨q',hq'⟩:=e'.lab_cons;rw [hq,hq'] at h1;simp at h1;exact hn.1 (by rw [← h1.1];exact List.mem_map.2 ⟨e,he,rfl⟩)
   rw [this];exact Sp hn.2 he
section
variable {w0:World} {G0:Gh} {np:Nat} {σ:S} {a:Act} {w:World} {G:Gh} (h:Rel w0 G0 np σ a w G)
include h
theorem Pa {t:Ty} {o:Operand} {x:t.D} {deps:List Nat} (ht:roV t (σ.ev o)=some (x,deps)):∃ cs,Val t (a.eval o) cs∧RepV w (okd w G.own deps) t cs x:=by
 have hev:=(h.ev 0 o).1
 unfold roV at ht;split at ht
 ·rename_i t' x' deps' src hx;split at ht
  ·rename_i htt;subst htt;simp only [Option.some.injEq,Prod.mk.injEq] at ht;obtain⟨rfl,rfl⟩:=ht;rw [hx] at hev;obtain⟨cs,h1,h2,_⟩:=hev;exact⟨cs,h1,h2⟩
  ·cases ht
 ·rename_i hx;rw [hx] at hev;have hv:a.eval o=.slice none 0 0:=hev
  split at ht
  ·simp only [Option.some.injEq,Prod.mk.injEq] at ht;obtain⟨rfl,rfl⟩:=ht;exact⟨[.slice none 0 0],by rw [hv];rfl,none,0,rfl,Nat.le_refl _,fun h=>absurd h (Nat.lt_irrefl 0)⟩
  ·cases ht
 ·cases ht
theorem UV {t:Ty} {m:Md} {o:Operand} {x:t.D} {p:Place} (ht:Zc σ t m (σ.ev o)=some (x,p)):∃ L cr d cs,RootR G σ a.tmps w p.root d L cr∧AH p.path d.t d.m d.x=some ⟨t,m,x⟩∧(∃ L',Al w p.path d.t L cr=some (L',cs))∧Val t (a.eval o) cs∧RepO w G.own t m (Ai p.root++p.path.lab) cs x:=by
 have hev:=(h.ev 0 o).1
 unfold Zc at ht;split at ht
 ·rename_i t' x' deps p' hx;rw [hx] at hev;obtain⟨cs,hval,_,hsrc⟩:=hev;split at ht
  ·rename_i d hd;split at ht
   ·rename_i d' hd';split at ht
    ·rename_i he;split at ht
     ·rename_i hcd;obtain⟨rfl,hm⟩:=hcd;obtain⟨dt,dm,dx⟩:=d';simp only at he hm;subst he hm;simp only [Option.some.injEq,Prod.mk.injEq] at ht;obtain⟨rfl,rfl⟩:=ht;obtain⟨L,cr,hroot⟩:=h.rt hd;obtain⟨m2,L',g1,g2⟩:=hsrc p' rfl d L cr hroot;have e1:=FE _ g1
      rw [hd'] at e1;simp only [Option.some.injEq,Dat.mk.injEq,heq_eq_eq,true_and] at e1;obtain⟨rfl,rfl⟩:=e1;have hR:=h.root hroot
      obtain⟨L2,cs2,f1,f2,_⟩:=GE p'.path (L:=L) hR.1 (fun A hA=>(hR.2 A hA).1) g1;rw [g2] at f1;simp only [Option.some.injEq,Prod.mk.injEq] at f1;obtain⟨rfl,rfl⟩:=f1;exact⟨L,cr,d,cs,hroot,g1,⟨L',g2⟩,hval,f2⟩
     ·cases ht
    ·cases ht
   ·cases ht
  ·cases ht
 ·cases ht
theorem Ud {t:Ty} {m:Md} {o:Operand} {x:t.D} {p:Place} (ht:Zw σ t m (σ.ev o)=some (x,p)):∃ k,p=⟨2 * k+1,[]⟩∧σ.box k=some (true,⟨t,m,x⟩)∧a.eval o=.pointer (some ⟨(G.bl k).1,(G.bl k).2,none⟩):=by
 have hev:=(h.ev 0 o).1
 unfold Zw at ht;split at ht
 ·rename_i p' hx;rw [hx] at hev;split at ht
  ·rename_i hpath;split at ht
   ·rename_i hodd;split at ht
    ·rename_i d hb;split at ht
     ·rename_i he;split at ht
      ·rename_i hm;obtain⟨dt,dm,dx⟩:=d;simp only at he hm;subst he hm;simp only [Option.some.injEq,Prod.mk.injEq] at ht;obtain⟨rfl,rfl⟩:=ht;obtain⟨r,π⟩:=p';simp only at hpath hodd hb;subst hpath;obtain⟨cs,hroot⟩:=h.rootOf.2 _ _ hb;have er:2 * (r / 2)+1=r:=by omega
       rw [er] at hroot;obtain⟨d0,A,cs0,g1,g2,g3⟩:=hev _ _ _ hroot;simp only [Al,Option.some.injEq,Prod.mk.injEq] at g2;refine⟨r / 2,by rw [er],hb,?_⟩
       rw [g3,← g2.1]
      ·cases ht
     ·cases ht
    ·cases ht
   ·cases ht
  ·cases ht
 ·cases ht
theorem KG {own':Own}:∀ (ps:List Prm) (i:Nat) (os:List Operand) {xs:HL (pts ps)} {ds:List Nat} {l:List (Nat×Nat)} {fl:List Fl},σ.args i ps os=some (xs,ds,l,fl) →
 (∀ b,b<w.heap.size→(G.own b=none∨∃ r∈ds,∃ s,G.own b=some (r::s))→own' b=none)→(∀ p∈l,∀ b s,G.own b=some (2 * p.1::s)→own' b=some (2 * p.2::s))→(∀ e∈fl,∀ b s,G.own b=some (e.lab++s)→own' b=some (2 * e.i::s)) →
 ArgsR w own' i ps (os.map a.eval) xs∧∀ p∈l,∃ d,σ.slot p.1=.dat d
 | [],i,os,xs,ds,l,fl,ha,_,_,_=>by
  cases os with
  | nil=>
   simp only [S.args,Option.some.injEq,Prod.mk.injEq] at ha;obtain⟨_,_,rfl,_⟩:=ha;exact⟨rfl,fun p hp=>by cases hp⟩
  | cons o os=>simp [S.args] at ha
 | ⟨.ro,t⟩::ps,i,os,xs,ds,l,fl,ha,h1,h2,h3=>by
  cases os with
  | nil=>simp [S.args] at ha
  | cons o os=>
   simp only [S.args] at ha;split at ha
   ·rename_i x d xs' ds' l' fl' hx hr;simp only [Option.some.injEq,Prod.mk.injEq] at ha;obtain⟨rfl,rfl,rfl,rfl⟩:=ha;obtain⟨g1,g2⟩:=KG ps (i+1) os hr (fun b hb hh=>h1 b hb (by
     rcases hh with hh | ⟨r,hr,s,hs⟩
     ·exact .inl hh
     ·exact .inr ⟨r,List.mem_append_right _ hr,s,hs⟩)) h2 h3
    refine⟨⟨?_,g1⟩,g2⟩
    obtain⟨cs,q1,q2⟩:=Pa h hx;refine⟨cs,q1,RepV.mono (fun b hb=>⟨⟨h1 b hb.1 ?_,hb.1⟩,rfl⟩) q2⟩
    rcases hb.2 with hh | ⟨r,hr,s,hs⟩
    ·exact .inl hh
    ·exact .inr ⟨r,List.mem_append_left _ hr,s,hs⟩
   ·cases ha
 | ⟨.mov m,t⟩::ps,i,os,xs,ds,l,fl,ha,h1,h2,h3=>by
  cases os with
  | nil=>simp [S.args] at ha
  | cons o os=>
   simp only [S.args] at ha;split at ha
   ·rename_i m' x ms xs' ds' l' fl' hx hr;split at ha
    ·rename_i hm;subst hm;simp only [Option.some.injEq,Prod.mk.injEq] at ha;obtain⟨rfl,rfl,rfl,rfl⟩:=ha;obtain⟨g1,g2⟩:=KG ps (i+1) os hr h1 (fun p hp=>h2 p (List.mem_append_right _ hp)) h3;obtain⟨hms,cs,q1,q2⟩:=h.take hx;refine⟨⟨⟨cs,q1,q2.2.2 [2 * i] w own' (fun b hb hlt=>⟨h1 b hlt (.inl hb),hlt,rfl⟩) (fun k hk b s hb=>⟨h2 (k,i) (List.mem_append_left _ (List.mem_map.2 ⟨k,hk,rfl⟩)) b s hb,rfl⟩)⟩,g1⟩,fun p hp=>?_⟩
     rcases List.mem_append.1 hp with h3 | h3
     ·obtain⟨k,hk,rfl⟩:=List.mem_map.1 h3;rcases hms with rfl | ⟨i',rfl,d,hd⟩
      ·cases hk
      ·simp only [List.mem_singleton] at hk;subst hk;exact⟨d,hd⟩
     ·exact g2 p h3
    ·cases ha
   ·cases ha
 | ⟨.inp m,t⟩::ps,i,os,xs,ds,l,fl,ha,h1,h2,h3=>by
  cases os with
  | nil=>simp [S.args] at ha
  | cons o os=>
   simp only [S.args] at ha;split at ha
   ·rename_i x p xs' ds' l' fl' hx hr;simp only [Option.some.injEq,Prod.mk.injEq] at ha;obtain⟨rfl,rfl,rfl,rfl⟩:=ha;obtain⟨g1,g2⟩:=KG ps (i+1) os hr h1 h2 (fun e he=>h3 e (by simp [he]));obtain⟨_,_,_,cs,_,_,_,q1,q2⟩:=UV h hx;refine⟨⟨⟨cs,q1,RepO.move (fun b hb hlt=>⟨h1 b hlt (.inl hb),hlt,rfl⟩) q2 (fun b s hb=>⟨?_,rfl⟩)⟩,g1⟩,g2⟩
    exact h3 ⟨i,p,false⟩ (by simp) b s hb
   ·cases ha
 | ⟨.ptr m,t⟩::ps,i,os,xs,ds,l,fl,ha,h1,h2,h3=>by
  cases os with
  | nil=>simp [S.args] at ha
  | cons o os=>
   simp only [S.args] at ha;split at ha
   ·rename_i x p xs' ds' l' fl' hx hr;simp only [Option.some.injEq,Prod.mk.injEq] at ha;obtain⟨rfl,rfl,rfl,rfl⟩:=ha;obtain⟨g1,g2⟩:=KG ps (i+1) os hr h1 h2 (fun e he=>h3 e (by simp [he]));obtain⟨k,rfl,hb,hv⟩:=Ud h hx;obtain⟨arr,e1,e2,e3,e4,e5,cs,e6,e7⟩:=h.boxes k _ hb;have hl:∀ b s,G.own b=some ((2 * k+1)::s)→own' b=some ((2 * i)::s):=fun b s hb=>h3 ⟨i,⟨2 * k+1,[]⟩,true⟩ (by simp) b s hb
    refine⟨⟨⟨_,_,arr,_,cs,hv,hl _ [] e2,e1,e4,?_,e7⟩,g1⟩,g2⟩
    exact RepO.move (fun b hb hlt=>⟨h1 b hlt (.inl hb),hlt,rfl⟩) e6 (fun b s hb=>⟨hl b (0::s) hb,rfl⟩)
   ·cases ha
end
def EI (own:Own) (ds:List Nat) (l:List (Nat×Nat)) (fl:List Fl):Own:=fun b=>match own b with
 | none=>none
 | some []=>some []
 | some (r::s)=>match GD fl (r::s) with
  | some (i,s')=>some (2 * i::s')
  | none=>match l.find? (fun p=>r == 2 * p.1) with
   | some p=>some (2 * p.2::s)
   | none=>if r∈ds then none else some []
def Lw (own:Own) (n:Nat) (ms:List Nat) (fl:List Fl) (b:Nat):Option Lab:=if b<n then (match own b with
 | some (r::s)=>if r∈ms.map (2 * ·)∨(GD fl (r::s)).isSome=true then none else some (r::s)
 | o=>o) else none
def Lx (own:Own) (n:Nat) (ms:List Nat) (fl:List Fl) (d:Nat) (own':Own):Own:=fun b=>match own' b with
 | some (r::s)=>if r=CZ then some (2 * d::s) else (match fl.find? (fun e=>2 * e.i == r) with
  | some e=>some (e.lab++s)
  | none=>Lw own n ms fl b)
 | _=>Lw own n ms fl b
end Go.Proofs.YtmakhmoielhjeaaGreatDoorE

/- The engine, texts AX Base Code CodeTy CodeW Copy Reach Wp Draw1 DrawR Node DrawP DecS Draw5 Draw5s Deep Tree FnAt POk FnOk ProgOk ProgEq DrawQ DeepS Und UndI Uses Vars Sight SightS: how code is reckoned as Lean functions, and that it is sound. No condition. -/
import Derived.Test.YtmakhmoielhjeaaGreatDoorPackP
import Derived.Test.YtmakhmoielhjeaaGreatDoorLawFX
import Derived.Lib.ItoaLen
set_option linter.all false
namespace Go.Proofs.YtmakhmoielhjeaaGreatDoorE
set_option maxRecDepth 100000
set_option linter.all false
end Go.Proofs.YtmakhmoielhjeaaGreatDoorE
namespace Go.Proofs.YtmakhmoielhjeaaGreatDoorE
set_option linter.all false
theorem sIn (a b c:Int):Aw a b c=some (decide (b≤a∧a≤c),()):=by
 unfold Aw
 by_cases h:b≤a<;>simp [h,AB]
theorem iIn (a b c:Int):Ci a b c=some (decide (b≤a∧a≤c),()):=by
 unfold Ci
 by_cases h:b≤a<;>simp [h,AB]
theorem Bn {α β D:Type} {step:β→Option (β ⊕ α)} (l:List D) (q:D→Bool) (S:Nat→β) (rt rf:α) (H:∀ k (h:k<l.length),step (S k)=bif q l[k] then some (.inl (S (k+1))) else some (.inr rf)) (He:step (S l.length)=some (.inr rt)):
 AH step (S 0)=some (bif l.all q then rt else rf):=by
 have key:∀ m k,k+m=l.length→AH step (S k)=some (bif (l.drop k).all q then rt else rf):=by
  intro m
  induction m with
  | zero=>
   intro k hk
   obtain rfl:k=l.length:=by omega
   rw [BH He,List.drop_length];rfl
  | succ m ih=>
   intro k hk
   have hkl:k<l.length:=by omega
   have h1:=H k hkl
   rw [List.drop_eq_getElem_cons hkl,List.all_cons]
   cases hq:q l[k]
   ·rw [hq,cond_false] at h1
    rw [BH h1];rfl
   ·rw [hq,cond_true] at h1
    rw [Bi h1,ih (k+1) (by omega),Bool.true_and]
 have:=key l.length 0 (by omega)
 rwa [List.drop_zero] at this
theorem Iv {α β D:Type} {step:β→Option (β ⊕ α)} (l:List D) (q:D→Bool) (S:Nat→β) (rt rf:α) (H:∀ k (h:k<l.length),step (S k)=bif q l[k] then some (.inr rt) else some (.inl (S (k+1)))) (He:step (S l.length)=some (.inr rf)):
 AH step (S 0)=some (bif l.any q then rt else rf):=by
 have key:∀ m k,k+m=l.length→AH step (S k)=some (bif (l.drop k).any q then rt else rf):=by
  intro m
  induction m with
  | zero=>
   intro k hk
   obtain rfl:k=l.length:=by omega
   rw [BH He,List.drop_length];rfl
  | succ m ih=>
   intro k hk
   have hkl:k<l.length:=by omega
   have h1:=H k hkl
   rw [List.drop_eq_getElem_cons hkl,List.any_cons]
   cases hq:q l[k]
   ·rw [hq,cond_false] at h1
    rw [Bi h1,ih (k+1) (by omega),Bool.false_or]
   ·rw [hq,cond_true] at h1
    rw [BH h1];rfl
 have:=key l.length 0 (by omega)
 rwa [List.drop_zero] at this
theorem CM {α β D γ:Type} {step:β→Option (β ⊕ α)} (l:List D) (g:γ→D→γ) (S:Nat→γ→β) (r:γ→α) (I:Nat→γ→Prop) (H:∀ k (h:k<l.length) c,I k c→step (S k c)=some (.inl (S (k+1) (g c l[k])))∧I (k+1) (g c l[k])) (He:∀ c,I l.length c→step (S l.length c)=some (.inr (r c))) (c:γ) (hc:I 0 c):
 AH step (S 0 c)=some (r (l.foldl g c))∧I l.length (l.foldl g c):=by
 have key:∀ m k c,k+m=l.length→I k c→AH step (S k c)=some (r ((l.drop k).foldl g c))∧I l.length ((l.drop k).foldl g c):=by
  intro m
  induction m with
  | zero=>
   intro k c hk hI
   obtain rfl:k=l.length:=by omega
   rw [BH (He c hI),List.drop_length];exact⟨rfl,hI⟩
  | succ m ih=>
   intro k c hk hI
   have hkl:k<l.length:=by omega
   obtain⟨h1,h2⟩:=H k hkl c hI
   rw [List.drop_eq_getElem_cons hkl,List.foldl_cons,Bi h1]
   exact ih (k+1) _ (by omega) h2
 have:=key l.length 0 c (by omega) hc
 rwa [List.drop_zero] at this
theorem Au {k n:Nat} (h:k<n):((k:Int)<(n:Int)):=by omega
theorem Ab (n:Nat):¬ ((n:Int)<(n:Int)):=by omega
theorem aJ (s:ByteArray) (i:Nat):bAt s (i:Int)=((s.data.getD i 0).toNat:Int):=by simp [bAt]
theorem NZ {α β D E:Type} {step:β→Option (β ⊕ α)} (l:List D) (g:D→E) (S:Nat→List E→β) (r:List E→α)
 (H:∀ k (h:k<l.length) (o:List E),o.length=k→step (S k o)=some (.inl (S (k+1) (o++[g l[k]]))))
 (He:∀ o:List E,o.length=l.length→step (S l.length o)=some (.inr (r o))):AH step (S 0 [])=some (r (l.map g)):=by
 have key:∀ m k,k+m=l.length→AH step (S k ((l.take k).map g))=some (r (l.map g)):=by
  intro m
  induction m with
  | zero=>
   intro k hk
   obtain rfl:k=l.length:=by omega
   rw [List.take_length]
   exact BH (He _ (by simp))
  | succ m ih=>
   intro k hk
   have hkl:k<l.length:=by omega
   rw [Bi (H k hkl _ (by simp;omega))]
   have e:(l.take k).map g++[g l[k]]=(l.take (k+1)).map g:=by
    rw [List.take_succ_eq_append_getElem hkl,List.map_append];rfl
   rw [e]
   exact ih (k+1) (by omega)
 simpa using key l.length 0 (by omega)
end Go.Proofs.YtmakhmoielhjeaaGreatDoorE
namespace Go.Proofs.YtmakhmoielhjeaaGreatDoorE
set_option linter.all false
set_option maxRecDepth 100000
def keys:List ByteArray:=[MW,LE,MX,KE,JY,JW,MV,LF,JU,JV,s_input_c96c,LD,JT,JX]
def Oq (s:ByteArray):Bool:=keys.any fun k=>decide (k=s)
theorem Qw (s:ByteArray):Jb s=some (Oq s,()):=by
 simp only [Jb,Lj,Option.bind_some]
 have h:=Iv (step:=EW) keys (fun k=>decide (k=s)) (fun k=>(s,keys,(k:Int),())) (.inr (true,())) (.inl ()) (fun k hk=>by
  have hk14:k<14:=hk
  simp only [EW,Au hk,decide_true,cond_true,AY hk,Ad hk]
  by_cases e:keys[k]=s<;>simp only [e,decide_true,decide_false,cond_true,cond_false,cond_true,cond_false,Option.map_some,Ag (show k<9223372036854775807 by omega)]) (by
  simp only [EW,Ab,decide_false,cond_false,Option.map_some])
 have h':AH EW (s,[MW,LE,MX,KE,JY,JW,MV,LF,JU,JV,s_input_c96c,LD,JT,JX],(0:Int),())=_:=h
 rw [h']
 show BA (some (bif Oq s then Sum.inr (true,()) else Sum.inl ())) _=_
 cases Oq s<;>rfl
theorem Xr:HG Hh s___36a9=some (keys,()):=by kernel_rfl
theorem TH (s t:ByteArray) (l:List ByteArray) (hl:l.length≤1000) (h:HG t s___36a9=some (l,())):Kw s t=some (l.any (fun k=>decide (k=s)),()):=by
 simp only [Kw,h,Option.bind_some]
 have h:=Iv (step:=IK) l (fun k=>decide (k=s)) (fun k=>(s,l,(l.length:Int),(k:Int),())) (.inr (true,())) (.inl ()) (fun k hk=>by
  simp only [IK,Au hk,decide_true,cond_true,AY hk,Ad hk]
  by_cases e:l[k]=s<;>simp only [e,decide_true,decide_false,cond_true,cond_false,cond_true,cond_false,Option.map_some,Ag (show k<9223372036854775807 by omega)]) (by
  simp only [IK,Ab,decide_false,cond_false,Option.map_some])
 rw [show((s,l,(l.length:Int),(0:Int),()):ByteArray×List ByteArray×Int×Int×Unit)=(fun k:Nat=>(s,l,(l.length:Int),(k:Int),())) 0 from rfl,h]
 cases l.any fun k=>decide (k=s)<;>rfl
theorem Qj (s:ByteArray):JO s=some (Oq s,()):=by
 simp only [JO,TH s _ keys (by decide) Xr,Option.bind_some]
 rfl
def HF (c:Int):Bool:=decide (97≤c∧c≤122)
def KS (c:Int):Bool:=decide (48≤c∧c≤57)
theorem PA (c:Int):Cy c=some (HF c,()):=by
 unfold Cy HF
 by_cases h:97≤c<;>simp [h,AB]
theorem Oz (c:Int):Cx c=some (KS c,()):=by
 unfold Cx KS
 by_cases h:48≤c<;>simp [h,AB]
theorem Vx (c:Int):GP c=some (HF c,()):=by
 unfold GP HF
 by_cases h:97≤c<;>simp [h,AB]
theorem cu (c:Int):IM c=some (KS c,()):=by
 unfold IM KS
 by_cases h:48≤c<;>simp [h,AB]
def JZ (b:UInt8):Bool:=HF (b.toNat:Int) || KS (b.toNat:Int)
def Bl (s:ByteArray):Bool:=decide (1≤s.size∧s.size≤8) && HF (bAt s 0) && !Oq s && s.data.toList.all JZ
theorem UC {s:ByteArray} {k:Nat} (h:k<s.data.toList.length):bAt s (k:Int)=((s.data.toList[k].toNat:Nat):Int):=by
 have h':k<s.data.size:=by simpa using h
 rw [aJ,Array.getD_eq_getD_getElem?,Array.getElem?_eq_getElem h']
 simp
theorem Sv (s:ByteArray):s.data.toList.length=s.size:=by rw [Array.length_toList];rfl
theorem Xg (s:ByteArray) (hs:s.size≤8):AH FP (s,(0:Int),())=some (bif s.data.toList.all JZ then .inl () else .inr (false,())):=by
 have hsz:=Sv s
 have h:=Bn (step:=FP) s.data.toList JZ (fun k=>(s,(k:Int),())) (.inl ()) (.inr (false,())) (fun k hk=>by
  have hk':k<s.size:=by omega
  have hb:=UC hk
  simp only [FP,Au hk',decide_true,cond_true,AY hk',PA,Oz,Option.bind_some,hb,JZ]
  generalize ((s.data.toList[k].toNat:Nat):Int)=x
  cases HF x<;>cases KS x<;>simp only [Bool.not_false,Bool.not_true,cond_true,cond_false,AC,Option.map_some,Bool.or_false,Bool.or_true,Bool.true_or,Bool.false_or,cond_true,cond_false,Ag (show k<9223372036854775807 by omega)]) (by
  rw [hsz]
  simp only [FP,Ab,decide_false,cond_false,Option.map_some])
 exact h
theorem Xf (s:ByteArray) (hs:s.size≤8):AH FI (s,(0:Int),())=some (bif s.data.toList.all JZ then .inl (s,()) else .inr (false,())):=by
 have hsz:=Sv s
 have h:=Bn (step:=FI) s.data.toList JZ (fun k=>(s,(k:Int),())) (.inl (s,())) (.inr (false,())) (fun k hk=>by
  have hk':k<s.size:=by omega
  have hb:=UC hk
  simp only [FI,Au hk',decide_true,cond_true,AY hk',Vx,cu,Option.bind_some,hb,JZ]
  generalize ((s.data.toList[k].toNat:Nat):Int)=x
  cases HF x<;>cases KS x<;>simp only [Bool.not_false,Bool.not_true,cond_true,cond_false,AC,Option.map_some,Bool.or_false,Bool.or_true,Bool.true_or,Bool.false_or,cond_true,cond_false,Ag (show k<9223372036854775807 by omega)]) (by
  rw [hsz]
  simp only [FI,Ab,decide_false,cond_false,Option.map_some])
 exact h
theorem iP {α:Type} {n:Nat} {K:Option α} (h:0<n):(Cnd.idx (0:Int) n).run K=K:=AY (k:=0) h
theorem Cv (s:ByteArray):CJ s=some (Bl s,()):=by
 unfold CJ Bl
 rw [sIn]
 simp only [Option.bind_some]
 by_cases h:(1:Int)≤(s.size:Int)∧(s.size:Int)≤8
 ·have h':1≤s.size∧s.size≤8:=by omega
  simp only [h,h',and_self,decide_true,Bool.not_true,cond_false,iP (show 0<s.size by omega),PA,Option.bind_some,Bool.true_and]
  cases HF (bAt s 0)
  ·simp only [Bool.not_false,cond_true,AC,Bool.false_and]
  ·simp only [Bool.not_true,cond_false,Qw,Option.bind_some,AC,Bool.true_and]
   cases Oq s
   ·simp only [cond_false,Option.bind_some,Xg s h'.2,Bool.not_false,Bool.true_and]
    cases s.data.toList.all JZ<;>simp only [cond_true,cond_false,Bc,Bd]
   ·simp only [cond_true,Bool.not_true,Bool.false_and]
 ·have h':¬ (1≤s.size∧s.size≤8):=by omega
  simp only [h,h',decide_false,Bool.not_false,cond_true,AC,Bool.false_and]
theorem NA (s:ByteArray):IG s=some (Bl s,()):=by
 unfold IG Bl
 rw [iIn]
 simp only [Option.bind_some]
 by_cases h:(1:Int)≤(s.size:Int)∧(s.size:Int)≤8
 ·have h':1≤s.size∧s.size≤8:=by omega
  simp only [h,h',and_self,decide_true,Bool.not_true,cond_false,iP (show 0<s.size by omega),Vx,Option.bind_some,Bool.true_and]
  cases HF (bAt s 0)
  ·simp only [Bool.not_false,AC,cond_true,Bool.false_and]
  ·simp only [Bool.not_true,AC,cond_false,Option.bind_some,Xf s h'.2,Bool.true_and]
   cases s.data.toList.all JZ
   ·simp only [cond_false,Bd,Bool.and_false]
   ·simp only [cond_true,Bc,Qj,Option.bind_some,Bool.and_true]
 ·have h':¬ (1≤s.size∧s.size≤8):=by omega
  simp only [h,h',decide_false,Bool.not_false,cond_true,AC,Bool.false_and]
end Go.Proofs.YtmakhmoielhjeaaGreatDoorE
namespace Go.Proofs.YtmakhmoielhjeaaGreatDoorE
end Go.Proofs.YtmakhmoielhjeaaGreatDoorE
namespace Go.Proofs.YtmakhmoielhjeaaGreatDoorE
set_option linter.all false
set_option maxRecDepth 100000
abbrev INS:=Int×(Int×(Int×(Int×(Int×(ByteArray×List Int)))))
abbrev CODE:=ByteArray×(Int×(List Int×List INS))
structure Small (c:CODE):Prop where
 l:c.2.2.1.length≤1048576
 w:c.2.2.2.length≤1048576
def place (c:CODE) (n:Int):Bool:=decide (0≤n∧n≤(c.2.2.1.length:Int) - 1)
theorem Kf {n:Nat} (h:n≤1048576):IntKind.wrap .i64 ((n:Int) - 1)=(n:Int) - 1:=Af (by omega) (by omega)
theorem ND (c:CODE) (h:Small c) (n:Int):Cp c n=some (place c n,()):=by
 simp only [Cp,Kf h.l,sIn,Option.bind_some,place]
theorem Yi (c:CODE) (h:Small c) (n:Int) (b:Bool):Ca c n b=some (bif b then place c n else decide (n=0),()):=by
 cases b<;>simp only [Ca,Kf h.l,iIn,Option.bind_some,place,cond_true,cond_false]
def JL (k:Int):Bool:=decide (2≤k∧k≤7) || (decide (9≤k∧k≤12) || (decide (k=14) || decide (k=15)))
def JM (k:Int):Bool:=decide (10≤k∧k≤12)
theorem je (k:Int):Fk k=some (JL k,()):=by
 simp only [Fk,sIn,Option.bind_some,JL]
 cases decide (2≤k∧k≤7)<;>cases decide (9≤k∧k≤12)<;>cases decide (k=14)<;>rfl
theorem jV (k:Int):KU k=some (JL k,()):=by
 simp only [KU,iIn,Option.bind_some,JL]
 cases decide (2≤k∧k≤7)<;>cases decide (9≤k∧k≤12)<;>cases decide (k=14)<;>rfl
theorem jf (k:Int):Fm k=some (JM k,()):=by simp only [Fm,sIn,Option.bind_some,JM]
theorem jW (k:Int):KV k=some (JM k,()):=by simp only [KV,iIn,Option.bind_some,JM]
theorem jU (k:Int) (h:1≤k∧k≤20):MM k=some (decide (k≠18),()):=by
 simp only [MM,iIn,Option.bind_some]
 by_cases h1:1≤k∧k≤17
 ·simp only [h1,and_self,decide_true,cond_true,AC]
  simp;omega
 ·simp only [h1,decide_false,cond_false]
  by_cases h2:k=19
  ·simp only [h2,decide_true,cond_true,AC];rfl
  ·simp only [h2,decide_false,cond_false,AC]
   simp only [Option.some.injEq,Prod.mk.injEq,and_true]
   by_cases h3:k=20
   ·subst h3;rfl
   ·have:k=18:=by omega
    subst this;rfl
def okA (c:CODE) (w:INS):Bool:=bif decide (w.1=18) then decide (w.2.1=0) else (decide (w.1=13) || decide (w.1=20)) && decide (w.2.1 = -1) || place c w.2.1
def okB (c:CODE) (w:INS):Bool:=bif JL w.1 then place c w.2.2.1 else decide (w.2.2.1=0)
def okC (c:CODE) (w:INS):Bool:=bif JM w.1 then place c w.2.2.2.1 else decide (w.2.2.2.1=0)
def okN (c:CODE) (w:INS):Bool:=bif decide (w.1=1) then decide (0≤w.2.2.2.2.1∧w.2.2.2.2.1≤1000000000) else bif decide (w.1=18) || decide (w.1=19) then decide (0≤w.2.2.2.2.1∧w.2.2.2.2.1≤(c.2.2.2.length:Int) - 1) else decide (w.2.2.2.2.1=0)
def okR (c:CODE) (w:INS):Bool:=bif decide (w.1=13) then w.2.2.2.2.2.2.all (place c) && (Bl w.2.2.2.2.2.1 && decide ((w.2.2.2.2.2.2.length:Int)≤3)) else decide (w.2.2.2.2.2.1=(⟨#[]⟩:ByteArray)) && decide ((w.2.2.2.2.2.2.length:Int)=0)
def DK (c:CODE) (w:INS):Bool:=decide (1≤w.1∧w.1≤20) && (okA c w && (okB c w && (okC c w && (okN c w && okR c w))))
theorem sA (c:CODE) (h:Small c) (w:INS):MZ c w=some (okA c w,()):=by
 simp only [MZ,okA]
 by_cases h1:w.1=13
 ·simp only [h1,decide_true,cond_true,AC,show ¬ ((13:Int)=18) by decide,decide_false,cond_false,Bool.true_or,Bool.true_and,ND c h,Option.bind_some]
  cases decide (w.2.1 = -1)<;>rfl
 ·by_cases h2:w.1=20
  ·simp only [h2,show ¬ ((20:Int)=13) by decide,decide_true,decide_false,cond_true,cond_false,AC,show ¬ ((20:Int)=18) by decide,Bool.or_true,Bool.true_and,ND c h,Option.bind_some]
   cases decide (w.2.1 = -1)<;>rfl
  ·simp only [h1,h2,decide_false,cond_false,AC,Bool.or_self,Bool.false_and,Bool.false_or,ND c h,Option.bind_some]
   cases decide (w.1=18)<;>rfl
theorem Wx (c:CODE) (h:Small c) (w:INS) (hl:w.2.2.2.2.2.2.length≤1048576):AH Dt ((0:Int),c,w,())=some (bif w.2.2.2.2.2.2.all (place c) then .inl (w,()) else .inr (false,())):=by
 exact Bn (step:=Dt) w.2.2.2.2.2.2 (place c) (fun k=>((k:Int),c,w,())) (.inl (w,())) (.inr (false,())) (fun k hk=>by
  simp only [Dt,Au hk,decide_true,cond_true,AY hk,Ad hk,ND c h,Option.bind_some,Ag (show k<9223372036854775807 by omega)]
  cases place c w.2.2.2.2.2.2[k]<;>rfl) (by
  simp only [Dt,Ab,decide_false,cond_false,Option.map_some])
theorem Ww (c:CODE) (h:Small c) (w:INS) (hl:w.2.2.2.2.2.2.length≤1048576):AH FJ (w.2.2.2.2.2.2,(w.2.2.2.2.2.2.length:Int),(0:Int),c,w,())=some (bif w.2.2.2.2.2.2.all (place c) then .inl (w,()) else .inr (false,())):=by
 exact Bn (step:=FJ) w.2.2.2.2.2.2 (place c) (fun k=>(w.2.2.2.2.2.2,(w.2.2.2.2.2.2.length:Int),(k:Int),c,w,())) (.inl (w,())) (.inr (false,())) (fun k hk=>by
  simp only [FJ,Au hk,decide_true,cond_true,AY hk,Ad hk,Yi c h,Option.bind_some,Ag (show k<9223372036854775807 by omega)]
  cases place c w.2.2.2.2.2.2[k]<;>rfl) (by
  simp only [FJ,Ab,decide_false,cond_false,Option.map_some])
theorem SD (c:CODE) (h:Small c) (w:INS) (hl:w.2.2.2.2.2.2.length≤1048576):KH c w=some (DK c w,()):=by
 unfold KH DK
 simp only [sIn,sA c h,Option.bind_some]
 by_cases h1:1≤w.1∧w.1≤20
 case neg=>simp only [h1,decide_false,Bool.not_false,cond_true,AC,Bool.false_and]
 simp only [h1,and_self,decide_true,Bool.not_true,cond_false,AC,Bool.true_and]
 cases okA c w
 case false=>simp only [Bool.not_false,cond_true,Bool.false_and]
 simp only [Bool.not_true,cond_false,Bool.true_and,je,ND c h,Option.bind_some]
 have eB:(bif JL w.1 then bif !place c w.2.2.1 then some (true,c,w,()) else bif !JL w.1 then some (decide (w.2.2.1≠0),c,w,()) else some (false,c,w,()) else bif !JL w.1 then some (decide (w.2.2.1≠0),c,w,()) else some (false,c,w,()))=some (!okB c w,c,w,()):=by
  simp only [okB]
  cases JL w.1<;>cases place c w.2.2.1<;>by_cases e:w.2.2.1=0<;>simp [e]
 rw [eB,AC]
 cases okB c w
 case false=>simp only [Bool.not_false,cond_true,Bool.false_and]
 simp only [Bool.not_true,cond_false,Bool.true_and,jf,ND c h,Option.bind_some]
 have eC:(bif JM w.1 then bif !place c w.2.2.2.1 then some (true,c,w,()) else bif !JM w.1 then some (decide (w.2.2.2.1≠0),c,w,()) else some (false,c,w,()) else bif !JM w.1 then some (decide (w.2.2.2.1≠0),c,w,()) else some (false,c,w,()))=some (!okC c w,c,w,()):=by
  simp only [okC]
  cases JM w.1<;>cases place c w.2.2.2.1<;>by_cases e:w.2.2.2.1=0<;>simp [e]
 rw [eC,AC]
 cases okC c w
 case false=>simp only [Bool.not_false,cond_true,Bool.false_and]
 simp only [Bool.not_true,cond_false,Bool.true_and,sIn,Option.bind_some,Kf h.w]
 have fin:(bif decide (w.1≠13) then AB (bif decide (w.2.2.2.2.2.1=(⟨#[]⟩:ByteArray)) then some (decide ((w.2.2.2.2.2.2.length:Int)=0),()) else some (false,())) fun x19=>some (x19.1,()) else BA ((some ((0:Int),c,w,())).bind fun x200=>AH Dt x200) fun x22=>AB ((CJ x22.1.2.2.2.2.2.1).bind fun y23=>bif y23.1 then some (decide ((x22.1.2.2.2.2.2.2.length:Int)≤3),()) else some (false,())) fun x24=>some (x24.1,()))=some (okR c w,()):=by
  simp only [okR]
  by_cases h13:w.1=13
  ·simp only [h13,ne_eq,not_true_eq_false,decide_false,cond_false,Option.bind_some,Wx c h w hl,decide_true,cond_true]
   cases w.2.2.2.2.2.2.all (place c)
   ·simp only [cond_false,Bd,Bool.false_and]
   ·simp only [cond_true,Bc,Cv,Option.bind_some,Bool.true_and]
    cases Bl w.2.2.2.2.2.1<;>rfl
  ·simp only [h13,ne_eq,not_false_eq_true,decide_true,cond_true,decide_false,cond_false]
   cases decide (w.2.2.2.2.2.1=(⟨#[]⟩:ByteArray))<;>rfl
 simp only [okN]
 by_cases hk1:w.1=1
 ·simp only [hk1,decide_true,cond_true]
  cases decide (0≤w.2.2.2.2.1∧w.2.2.2.2.1≤1000000000)
  ·simp only [Bool.not_false,cond_true,Option.map_some,Bd,Bool.false_and]
  ·simp only [Bool.not_true,cond_false,Option.map_some,Bc,Bool.true_and]
   exact fin
 ·have e15:(bif decide (w.1=18) then some (decide (w.1=18),c,w,()) else some (decide (w.1=19),c,w,()))=some (decide (w.1=18) || decide (w.1=19),c,w,()):=by
   cases decide (w.1=18)<;>rfl
  simp only [hk1,decide_false,cond_false]
  rw [e15,AC]
  cases decide (w.1=18) || decide (w.1=19)
  ·simp only [cond_false]
   by_cases hz:w.2.2.2.2.1=0
   ·simp only [hz,ne_eq,not_true_eq_false,decide_false,cond_false,Bc,Option.map_some,decide_true,Bool.true_and]
    exact fin
   ·simp only [hz,ne_eq,not_false_eq_true,decide_true,cond_true,Option.map_some,Bd,decide_false,Bool.false_and]
  ·simp only [cond_true,sIn,Option.bind_some,Kf h.w]
   cases decide (0≤w.2.2.2.2.1∧w.2.2.2.2.1≤(c.2.2.2.length:Int) - 1)
   ·simp only [Bool.not_false,cond_true,Option.map_some,Bd,Bool.false_and]
   ·simp only [Bool.not_true,cond_false,Bc,Option.map_some,Bool.true_and]
    exact fin
theorem YE (x:Int):decide (0≤x∧x≤0)=decide (x=0):=by
 by_cases e:x=0
 ·simp [e]
 ·rw [decide_eq_false e,decide_eq_false (by omega)]
theorem Rv (c:CODE) (h:Small c) (w:INS) (hl:w.2.2.2.2.2.2.length≤1048576):KC c w=some (DK c w,()):=by
 unfold KC DK
 simp only [iIn,Option.bind_some]
 by_cases h1:1≤w.1∧w.1≤20
 case neg=>simp only [h1,decide_false,Bool.not_false,cond_true,Bool.false_and]
 simp only [h1,and_self,decide_true,Bool.not_true,cond_false,Bool.true_and]
 have e0:(bif decide (w.1=13) then some (decide (w.2.1 = -1),c,w,()) else bif decide (w.1=20) then some (decide (w.2.1 = -1),c,w,()) else some (false,c,w,()))=some ((decide (w.1=13) || decide (w.1=20)) && decide (w.2.1 = -1),c,w,()):=by
  cases decide (w.1=13)<;>cases decide (w.1=20)<;>rfl
 rw [e0,AC]
 simp only [jU w.1 h1,jV,jW,Yi c h,Option.bind_some]
 have eA:(bif !((decide (w.1=13) || decide (w.1=20)) && decide (w.2.1 = -1)) then bif !(bif decide (w.1≠18) then place c w.2.1 else decide (w.2.1=0)) then some (true,c,w,()) else bif !(bif JL w.1 then place c w.2.2.1 else decide (w.2.2.1=0)) then some (true,c,w,()) else some (!(bif JM w.1 then place c w.2.2.2.1 else decide (w.2.2.2.1=0)),c,w,())
  else bif !(bif JL w.1 then place c w.2.2.1 else decide (w.2.2.1=0)) then some (true,c,w,()) else some (!(bif JM w.1 then place c w.2.2.2.1 else decide (w.2.2.2.1=0)),c,w,()))=some (!(okA c w && (okB c w && okC c w)),c,w,()):=by
  have hA:okA c w=(((decide (w.1=13) || decide (w.1=20)) && decide (w.2.1 = -1)) || (bif decide (w.1≠18) then place c w.2.1 else decide (w.2.1=0))):=by
   simp only [okA]
   by_cases e:w.1=18
   ·simp [e]
   ·simp [e]
  rw [hA]
  show _=some (!(_ && ((bif JL w.1 then place c w.2.2.1 else decide (w.2.2.1=0)) && (bif JM w.1 then place c w.2.2.2.1 else decide (w.2.2.2.1=0)))),c,w,())
  cases ((decide (w.1=13) || decide (w.1=20)) && decide (w.2.1 = -1))<;>cases (bif decide (w.1≠18) then place c w.2.1 else decide (w.2.1=0))<;>cases (bif JL w.1 then place c w.2.2.1 else decide (w.2.2.1=0))<;>cases (bif JM w.1 then place c w.2.2.2.1 else decide (w.2.2.2.1=0))<;>rfl
 rw [eA,AC]
 have hsp:(okA c w && (okB c w && (okC c w && (okN c w && okR c w))))=((okA c w && (okB c w && okC c w)) && (okN c w && okR c w)):=by
  cases okA c w<;>cases okB c w<;>cases okC c w<;>rfl
 rw [hsp]
 cases okA c w && (okB c w && okC c w)
 case false=>simp only [Bool.not_false,cond_true,Bool.false_and]
 simp only [Bool.not_true,cond_false,Bool.true_and,Kf h.w]
 have e15:(bif decide (w.1=18) then some ((0:Int),decide (w.1=18),c,w,()) else some ((0:Int),decide (w.1=19),c,w,()))=some ((0:Int),decide (w.1=18) || decide (w.1=19),c,w,()):=by
  cases decide (w.1=18)<;>rfl
 rw [e15,AC]
 simp only [Kf h.w]
 have eN:(bif decide (w.1=1) then some ((1000000000:Int),c,w,()) else AB (bif decide (w.1=18) || decide (w.1=19) then some ((c.2.2.2.length:Int) - 1,c,w,()) else some ((0:Int),c,w,())) fun x15:Int×CODE×INS×Unit=>some (x15.1,x15.2.1,x15.2.2.1,())) =
  some ((bif decide (w.1=1) then (1000000000:Int) else bif decide (w.1=18) || decide (w.1=19) then (c.2.2.2.length:Int) - 1 else 0),c,w,()):=by
  cases decide (w.1=1)<;>cases (decide (w.1=18) || decide (w.1=19))<;>rfl
 rw [eN,AC]
 simp only [iIn,Option.bind_some]
 have eK:decide (0≤w.2.2.2.2.1∧w.2.2.2.2.1≤(bif decide (w.1=1) then (1000000000:Int) else bif decide (w.1=18) || decide (w.1=19) then (c.2.2.2.length:Int) - 1 else 0))=okN c w:=by
  simp only [okN]
  cases decide (w.1=1)<;>cases (decide (w.1=18) || decide (w.1=19))<;>simp only [cond_true,cond_false]
  exact YE _
 rw [eK]
 cases okN c w
 case false=>simp only [Bool.not_false,cond_true,Bool.false_and]
 simp only [Bool.not_true,cond_false,Bool.true_and,okR]
 by_cases h13:w.1=13
 ·simp only [h13,ne_eq,not_true_eq_false,decide_false,cond_false,Ww c h w hl,decide_true,cond_true]
  cases w.2.2.2.2.2.2.all (place c)
  ·simp only [cond_false,Bd,Bool.false_and]
  ·simp only [cond_true,Bc,NA,Option.bind_some,Bool.true_and]
   cases Bl w.2.2.2.2.2.1<;>rfl
 ·simp only [h13,ne_eq,not_false_eq_true,decide_true,cond_true,decide_false,cond_false]
  cases decide (w.2.2.2.2.2.1=(⟨#[]⟩:ByteArray))<;>rfl
structure FineC (c:CODE):Prop where
 s:Small c
 a:∀ w∈c.2.2.2,(w:INS).2.2.2.2.2.2.length≤1048576
def HZ (n:Int):Bool:=decide (1≤n∧n≤4)
def EB (c:CODE):Bool:=Bl c.1 && (decide (c.2.2.1.length≤200) && (decide (0≤c.2.1∧c.2.1≤(c.2.2.1.length:Int)) && (decide (1≤c.2.2.2.length∧c.2.2.2.length≤400) && (decide ((c.2.2.2.getD (c.2.2.2.length - 1) (0,0,0,0,0,⟨#[]⟩,[])).1=20) && (c.2.2.1.all HZ && c.2.2.2.all (DK c))))))
theorem Ud (c:CODE) (h:FineC c):AH FO ((0:Int),c,())=some (bif c.2.2.1.all HZ then .inl (c,()) else .inr (false,())):=by
 have hl:=h.s.l
 exact Bn (step:=FO) c.2.2.1 HZ (fun k=>((k:Int),c,())) (.inl (c,())) (.inr (false,())) (fun k hk=>by
  simp only [FO,Au hk,decide_true,cond_true,AY hk,Ad hk,sIn,Option.bind_some,Ag (show k<9223372036854775807 by omega),HZ]
  cases decide (1≤c.2.2.1[k]∧c.2.2.1[k]≤4)<;>rfl) (by
  simp only [FO,Ab,decide_false,cond_false,Option.map_some])
theorem Uc (c:CODE) (h:FineC c):AH FH (c.2.2.1,(c.2.2.1.length:Int),(0:Int),c,())=some (bif c.2.2.1.all HZ then .inl (c,()) else .inr (false,())):=by
 have hl:=h.s.l
 exact Bn (step:=FH) c.2.2.1 HZ (fun k=>(c.2.2.1,(c.2.2.1.length:Int),(k:Int),c,())) (.inl (c,())) (.inr (false,())) (fun k hk=>by
  simp only [FH,Au hk,decide_true,cond_true,AY hk,Ad hk,iIn,Option.bind_some,Ag (show k<9223372036854775807 by omega),HZ]
  cases decide (1≤c.2.2.1[k]∧c.2.2.1[k]≤4)<;>rfl) (by
  simp only [FH,Ab,decide_false,cond_false,Option.map_some])
theorem Vj (c:CODE) (h:FineC c):AH FY ((0:Int),c,())=some (bif c.2.2.2.all (DK c) then .inl () else .inr (false,())):=by
 have hl:=h.s.w
 exact Bn (step:=FY) c.2.2.2 (DK c) (fun k=>((k:Int),c,())) (.inl ()) (.inr (false,())) (fun k hk=>by
  simp only [FY,Au hk,decide_true,cond_true,AY hk,Ad hk,SD c h.s _ (h.a _ (List.getElem_mem hk)),Option.bind_some,Ag (show k<9223372036854775807 by omega)]
  cases DK c c.2.2.2[k]<;>rfl) (by
  simp only [FY,Ab,decide_false,cond_false,Option.map_some])
theorem Vi (c:CODE) (h:FineC c):AH FX (c.2.2.2,(c.2.2.2.length:Int),(0:Int),c,())=some (bif c.2.2.2.all (DK c) then .inl () else .inr (false,())):=by
 have hl:=h.s.w
 exact Bn (step:=FX) c.2.2.2 (DK c) (fun k=>(c.2.2.2,(c.2.2.2.length:Int),(k:Int),c,())) (.inl ()) (.inr (false,())) (fun k hk=>by
  simp only [FX,Au hk,decide_true,cond_true,AY hk,Ad hk,Rv c h.s _ (h.a _ (List.getElem_mem hk)),Option.bind_some,Ag (show k<9223372036854775807 by omega)]
  cases DK c c.2.2.2[k]<;>rfl) (by
  simp only [FX,Ab,decide_false,cond_false,Option.map_some])
theorem Yk {n:Nat} (h:1≤n):(n:Int) - 1=((n - 1:Nat):Int):=by omega
theorem dS {α:Type} (l:List α) (k:Nat) (z:α):rd l (k:Int) z=l.getD k z:=by simp [rd]
theorem Sh (c:CODE) (h:FineC c) (nm:Bool) (r:Bool×CODE×Unit→Option (Bool×Unit)):
 (AB (bif !nm then some (true,c,()) else bif decide ((200:Int)<(c.2.2.1.length:Int)) then some (true,c,()) else bif !decide ((0:Int)≤c.2.1∧c.2.1≤(c.2.2.1.length:Int)) then some (true,c,()) else bif !decide ((1:Int)≤(c.2.2.2.length:Int)∧(c.2.2.2.length:Int)≤400) then some (true,c,()) else
  (Cnd.idx ((c.2.2.2.length:Int) - 1) (c.2.2.2.length)).run (some (decide ((rd c.2.2.2 ((c.2.2.2.length:Int) - 1) (0,0,0,0,0,⟨#[]⟩,[])).1≠(20:Int)),c,()))) r) =
 r (!(nm && (decide (c.2.2.1.length≤200) && (decide (0≤c.2.1∧c.2.1≤(c.2.2.1.length:Int)) && (decide (1≤c.2.2.2.length∧c.2.2.2.length≤400) && decide ((c.2.2.2.getD (c.2.2.2.length - 1) (0,0,0,0,0,⟨#[]⟩,[])).1=20))))),c,()):=by
 have e1:decide ((200:Int)<(c.2.2.1.length:Int)) = !decide (c.2.2.1.length≤200):=by
  by_cases e:c.2.2.1.length≤200
  ·rw [decide_eq_true e,decide_eq_false (by omega)];rfl
  ·rw [decide_eq_false e,decide_eq_true (by omega)];rfl
 have e2:decide ((1:Int)≤(c.2.2.2.length:Int)∧(c.2.2.2.length:Int)≤400)=decide (1≤c.2.2.2.length∧c.2.2.2.length≤400):=by
  by_cases e:1≤c.2.2.2.length∧c.2.2.2.length≤400
  ·rw [decide_eq_true e,decide_eq_true (by omega)]
  ·rw [decide_eq_false e,decide_eq_false (by omega)]
 rw [e1,e2]
 cases nm
 ·rfl
 cases decide (c.2.2.1.length≤200)
 ·rfl
 cases decide (0≤c.2.1∧c.2.1≤(c.2.2.1.length:Int))
 ·rfl
 by_cases e:1≤c.2.2.2.length∧c.2.2.2.length≤400
 ·have hlt:c.2.2.2.length - 1<c.2.2.2.length:=by omega
  simp only [e,and_self,decide_true,Bool.not_true,cond_false,Yk e.1,AY hlt,dS,AC,Bool.true_and]
  by_cases e3:(c.2.2.2.getD (c.2.2.2.length - 1) (0,0,0,0,0,⟨#[]⟩,[])).1=20
  ·simp [e3]
  ·simp [e3]
 ·rw [decide_eq_false e];rfl
theorem Fh (c:CODE) (h:FineC c):Dq c=some (EB c,()):=by
 unfold Dq EB
 simp only [Cv,sIn,Option.bind_some,Kf h.s.w]
 rw [Sh c h]
 have hsp:∀ a b d e f g i:Bool,(a && (b && (d && (e && (f && (g && i))))))=((a && (b && (d && (e && f)))) && (g && i)):=by decide
 rw [hsp]
 cases Bl c.1 && (decide (c.2.2.1.length≤200) && (decide (0≤c.2.1∧c.2.1≤(c.2.2.1.length:Int)) && (decide (1≤c.2.2.2.length∧c.2.2.2.length≤400) && decide ((c.2.2.2.getD (c.2.2.2.length - 1) (0,0,0,0,0,⟨#[]⟩,[])).1=20))))
 ·rfl
 simp only [Bool.not_true,cond_false,Bool.true_and,Ud c h]
 cases c.2.2.1.all HZ
 ·rfl
 simp only [cond_true,Bc,Option.bind_some,Vj c h,Bool.true_and]
 cases c.2.2.2.all (DK c)<;>rfl
theorem HX (c:CODE) (h:FineC c):IE c=some (EB c,()):=by
 unfold IE EB
 simp only [NA,iIn,Option.bind_some,Kf h.s.w]
 rw [Sh c h]
 have hsp:∀ a b d e f g i:Bool,(a && (b && (d && (e && (f && (g && i))))))=((a && (b && (d && (e && f)))) && (g && i)):=by decide
 rw [hsp]
 cases Bl c.1 && (decide (c.2.2.1.length≤200) && (decide (0≤c.2.1∧c.2.1≤(c.2.2.1.length:Int)) && (decide (1≤c.2.2.2.length∧c.2.2.2.length≤400) && decide ((c.2.2.2.getD (c.2.2.2.length - 1) (0,0,0,0,0,⟨#[]⟩,[])).1=20))))
 ·rfl
 simp only [Bool.not_true,cond_false,Bool.true_and,Uc c h]
 cases c.2.2.1.all HZ
 ·rfl
 simp only [cond_true,Bc,Option.bind_some,Vi c h,Bool.true_and]
 cases c.2.2.2.all (DK c)<;>rfl
end Go.Proofs.YtmakhmoielhjeaaGreatDoorE
namespace Go.Proofs.YtmakhmoielhjeaaGreatDoorE
set_option linter.all false
set_option maxRecDepth 100000
theorem Ys {α β:Type} {l:List α} {n m:Nat} {K:Option β} (h:l.length * n≤m):(Cnd.le ((List.length ([]:List α)+l.length) * n) m).run K=K:=by
 rw [Bx];simpa using h
theorem Xq (l:List INS) (hl:l.length≤1048576) (ha:∀ w∈l,(w:INS).2.2.2.2.2.2.length≤1048576):IU l=some (l,()):=by
 have h:=NZ (step:=Dy) l (fun w=>w) (fun k o=>(l,o,(k:Int),())) (fun o=>(o,())) (fun k hk o ho=>by
  have h1:=ha _ (List.getElem_mem hk)
  simp only [Dy,Au hk,decide_true,cond_true,AY hk,Ad hk,List.nil_append,Option.map_some,Ag (show k<9223372036854775807 by omega)]
  rw [Ys (by omega),Bx (by rw [ho];simp;omega)]) (fun o ho=>by
  simp only [Dy,Ab,decide_false,cond_false,Option.map_some])
 have h':AH Dy (l,[],(0:Int),())=_:=h
 simp only [IU,Option.bind_some,h',AC,List.map_id']
theorem Sw (c:CODE) (h:FineC c):HU c=some (c,()):=by
 have h1:=h.s.l
 simp only [HU,Xq _ h.s.w h.a,Option.bind_some,List.nil_append]
 rw [Ys (by omega)]
abbrev zI:INS:=((0:Int),((0:Int),((0:Int),((0:Int),((0:Int),((⟨#[]⟩:ByteArray),[]))))))
def Jmp (l:List INS):Prop:=∀ w∈l,(w:INS).1=18∨(w:INS).1=19→∃ t:Nat,(w:INS).2.2.2.2.1=(t:Int)∧t<l.length
theorem iR {c:CODE} (h:EB c=true):Jmp c.2.2.2:=by
 intro w hw hj
 simp only [EB,Bool.and_eq_true,List.all_eq_true] at h
 have h1:=h.2.2.2.2.2.2 w hw
 simp only [DK,Bool.and_eq_true] at h1
 have h2:=h1.2.2.2.2.1
 simp only [okN] at h2
 have hne:¬ w.1=1:=by omega
 have hd:(decide (w.1=18) || decide (w.1=19))=true:=by simpa using hj
 rw [decide_eq_false hne,hd,cond_false,cond_true,decide_eq_true_eq] at h2
 generalize hn:(w.2.2.2.2.1:Int)=n at h2
 exact⟨n.toNat,by omega,by omega⟩
end Go.Proofs.YtmakhmoielhjeaaGreatDoorE
namespace Go.Proofs.YtmakhmoielhjeaaGreatDoorE
set_option linter.all false
set_option maxRecDepth 100000
def inR (c:CODE) (n:Int):Bool:=decide (0≤n∧n≤(c.2.2.2.length:Int) - 1)
def DF (c:CODE) (i:Nat):List Int:=bif decide ((rd c.2.2.2 (i:Int) zI).1=20) then [] else bif decide ((rd c.2.2.2 (i:Int) zI).1=18) then [(rd c.2.2.2 (i:Int) zI).2.2.2.2.1] else bif decide ((rd c.2.2.2 (i:Int) zI).1=19) then [((i+1:Nat):Int),(rd c.2.2.2 (i:Int) zI).2.2.2.2.1] else [((i+1:Nat):Int)]
def Ie (c:CODE) (o:List Int) (n:Int):List Int:=bif inR c n then (bif o.any (fun y=>decide (y=n)) then o else o++[n]) else o
def Id (c:CODE) (o:List Int) (n:Int):List Int:=bif inR c n then o++[n] else o
def nxS (c:CODE) (i:Nat):List Int:=(DF c i).foldl (Ie c) []
def nxI (c:CODE) (i:Nat):List Int:=(DF c i).foldl (Id c) []
theorem Pe (c:CODE) (i:Nat):(DF c i).length≤2:=by
 unfold DF
 cases decide ((rd c.2.2.2 (i:Int) zI).1=20)<;>cases decide ((rd c.2.2.2 (i:Int) zI).1=18)<;>cases decide ((rd c.2.2.2 (i:Int) zI).1=19)<;>simp
theorem bn (l:List Int) (n:Int) (hl:l.length≤4000000):KJ l n=some (bif l.any (fun y=>decide (y=n)) then l else l++[n],()):=by
 have h:=Iv (step:=FW) l (fun y=>decide (y=n)) (fun k=>(l,n,(k:Int),())) (.inr (l,())) (.inl (l,n,())) (fun k hk=>by
  simp only [FW,Au hk,decide_true,cond_true,AY hk,Ad hk,Ag (show k<9223372036854775807 by omega)]
  cases decide (l[k]=n)<;>rfl) (by
  simp only [FW,Ab,decide_false,cond_false,Option.map_some])
 have h':AH FW (l,n,(0:Int),())=_:=h
 simp only [KJ,Option.bind_some,h']
 cases l.any fun y=>decide (y=n)
 ·simp only [cond_false,Bc]
  rw [Bx (by simp;omega)]
 ·simp only [cond_true,Bd]
theorem Sx (c:CODE) (h:FineC c) (i:Nat) (hi:i<c.2.2.2.length):Ka c (i:Int)=some (nxS c i,()):=by
 have hw:=h.s.w
 have hcl:=Pe c i
 have wi:=Ag (show i<9223372036854775807 by omega)
 have h1:=CM (step:=Gz) (DF c i) (Ie c) (fun k o=>(o,DF c i,(k:Int),c,())) (fun o=>(o,())) (fun k o=>o.length≤k) (fun k hk o ho=>by
  refine⟨?_,?_⟩
  ·simp only [Gz,Au hk,decide_true,cond_true,AY hk,Ad hk,Kf hw,sIn,Option.bind_some,Ag (show k<9223372036854775807 by omega),bn o _ (show o.length≤4000000 by omega),Ie,inR]
   generalize (DF c i)[k]=n
   have wk:=Ag (show k<9223372036854775807 by omega)
   cases decide (0≤n∧n≤(c.2.2.2.length:Int) - 1)<;>simp only [cond_true,cond_false,AC,Option.map_some,wk]
  ·unfold Ie
   cases inR c (DF c i)[k]
   ·simp only [cond_false];omega
   ·cases o.any fun y=>decide (y=(DF c i)[k])
    ·simp only [cond_true,cond_false,List.length_append,List.length_cons,List.length_nil];omega
    ·simp only [cond_true];omega) (fun o ho=>by
  simp only [Gz,Ab,decide_false,cond_false,Option.map_some]) [] (Nat.zero_le _)
 have h2:AH Gz ([],DF c i,(0:Int),c,())=some (nxS c i,()):=h1.1
 unfold Ka
 simp only [Kf hw,sIn,Option.bind_some]
 rw [decide_eq_true (show(0:Int)≤(i:Int)∧(i:Int)≤(c.2.2.2.length:Int) - 1 by omega)]
 simp only [Bool.not_true,cond_false,AY hi,wi]
 unfold DF at h2
 cases e20:decide ((rd c.2.2.2 (i:Int) zI).1=20)<;>cases e18:decide ((rd c.2.2.2 (i:Int) zI).1=18)<;>cases e19:decide ((rd c.2.2.2 (i:Int) zI).1=19)<;>simp only [e20,e18,e19,cond_true,cond_false] at h2<;>simp only [e20,e18,e19,cond_true,cond_false,AC,Option.bind_some,h2]
theorem Sk (c:CODE) (h:FineC c) (i:Nat) (hi:i<c.2.2.2.length):KT c (i:Int)=some (nxI c i,()):=by
 have hw:=h.s.w
 have hcl:=Pe c i
 have wi:=Ag (show i<9223372036854775807 by omega)
 have h1:=CM (step:=Gx) (DF c i) (Id c) (fun k o=>(o,DF c i,((DF c i).length:Int),(k:Int),c,())) (fun o=>(o,())) (fun k o=>o.length≤k) (fun k hk o ho=>by
  refine⟨?_,?_⟩
  ·have hle:(Cnd.le ((o.length+List.length [(DF c i)[k]]) * 8) 140737488355328).holds:=by simp only [Cnd.holds,List.length_cons,List.length_nil];omega
   simp only [Gx,Au hk,decide_true,cond_true,AY hk,Ad hk,Kf hw,iIn,Option.bind_some,Ag (show k<9223372036854775807 by omega),Id,inR]
   generalize (DF c i)[k]=n at hle
   rw [Bx hle]
   have wk:=Ag (show k<9223372036854775807 by omega)
   cases decide (0≤n∧n≤(c.2.2.2.length:Int) - 1)<;>simp only [cond_true,cond_false,AC,Option.map_some,wk]
  ·unfold Id
   cases inR c (DF c i)[k]
   ·simp only [cond_false];omega
   ·simp only [cond_true,List.length_append,List.length_cons,List.length_nil];omega) (fun o ho=>by
  simp only [Gx,Ab,decide_false,cond_false,Option.map_some]) [] (Nat.zero_le _)
 have h2:AH Gx ([],DF c i,((DF c i).length:Int),(0:Int),c,())=some (nxI c i,()):=h1.1
 unfold KT
 simp only [Kf hw,iIn,Option.bind_some]
 rw [decide_eq_true (show(0:Int)≤(i:Int)∧(i:Int)≤(c.2.2.2.length:Int) - 1 by omega)]
 simp only [Bool.not_true,cond_false,AY hi,wi]
 unfold DF at h2
 cases e20:decide ((rd c.2.2.2 (i:Int) zI).1=20)<;>cases e18:decide ((rd c.2.2.2 (i:Int) zI).1=18)<;>cases e19:decide ((rd c.2.2.2 (i:Int) zI).1=19)<;>simp only [e20,e18,e19,cond_true,cond_false] at h2<;>(try rw [Bx (by simp)])<;>simp only [e20,e18,e19,cond_true,cond_false,AC,Option.bind_some,List.cons_append,List.nil_append,h2]
def Rng (c:CODE) (n:Int):Prop:=∃ k:Nat,n=(k:Int)∧k<c.2.2.2.length
theorem Ua {c:CODE} {n:Int} (h:inR c n=true):Rng c n:=by
 simp only [inR,decide_eq_true_eq] at h
 exact⟨n.toNat,by omega,by omega⟩
theorem NS {α β:Type} (P:β→Prop) (g:β→α→β) (hg:∀ o n,P o→P (g o n)):∀ (l:List α) (o:β),P o→P (l.foldl g o)
 | [],o,h=>h
 | x::l,o,h=>NS P g hg l (g o x) (hg o x h)
theorem im (c:CODE) (i:Nat):∀ n∈nxS c i,Rng c n:=
 NS (fun o=>∀ n∈o,Rng c n) (Ie c) (fun o n ho x hx=>by
  unfold Ie at hx
  cases hr:inR c n
  ·rw [hr,cond_false] at hx;exact ho x hx
  ·rw [hr,cond_true] at hx
   cases ha:o.any fun y=>decide (y=n)
   ·rw [ha,cond_false] at hx
    rcases List.mem_append.1 hx with hx | hx
    ·exact ho x hx
    ·rw [List.mem_singleton.1 hx];exact Ua hr
   ·rw [ha,cond_true] at hx;exact ho x hx) (DF c i) [] (fun n hn=>by cases hn)
theorem Yt (c:CODE) (i:Nat):∀ n∈nxI c i,Rng c n:=
 NS (fun o=>∀ n∈o,Rng c n) (Id c) (fun o n ho x hx=>by
  unfold Id at hx
  cases hr:inR c n
  ·rw [hr,cond_false] at hx;exact ho x hx
  ·rw [hr,cond_true] at hx
   rcases List.mem_append.1 hx with hx | hx
   ·exact ho x hx
   ·rw [List.mem_singleton.1 hx];exact Ua hr) (DF c i) [] (fun n hn=>by cases hn)
def fls:List Bool→Nat
 | []=>0
 | b::l=>(bif b then 0 else 1)+fls l
theorem On:∀ (h:List Bool) (n:Nat) (hn:n<h.length),h[n]=false→fls (h.set n true)+1=fls h
 | b::l,0,_,h0=>by
  have:b=false:=h0
  subst this
  simp only [List.set_cons_zero,fls,cond_true,cond_false];omega
 | b::l,n+1,hn,h0=>by
  have:=On l n (by simpa using hn) (by simpa using h0)
  simp only [List.set_cons_succ,fls];omega
abbrev VS:=List Bool×List Int
def vis (s:VS) (n:Int):VS:=bif rd s.1 n false then s else (s.1.set n.toNat true,s.2++[n])
theorem du {W:Nat} {s:VS} (hs:s.1.length=W) {n:Nat} (hn:n<W):(vis s (n:Int)).1.length=W∧(vis s (n:Int)).2.length+fls (vis s (n:Int)).1=s.2.length+fls s.1∧fls (vis s (n:Int)).1≤fls s.1:=by
 have hl:n<s.1.length:=by omega
 unfold vis
 rw [Ad hl]
 cases hb:s.1[n]
 ·have:=On s.1 n hl hb
  simp only [cond_false,Int.toNat_natCast,List.length_set,List.length_append,List.length_cons,List.length_nil]
  omega
 ·exact⟨hs,rfl,Nat.le_refl _⟩
theorem cE {W:Nat} {s:VS} (hs:s.1.length=W) {n:Nat} (hn:n<W):vis (vis s (n:Int)) (n:Int)=vis s (n:Int):=by
 have hl:n<s.1.length:=by omega
 unfold vis
 rw [Ad hl]
 cases hb:s.1[n]
 ·simp only [cond_false,Int.toNat_natCast]
  rw [Ad (by rw [List.length_set];exact hl),List.getElem_set_self]
  rfl
 ·simp only [cond_true]
  rw [Ad hl,hb];rfl
theorem jJ (c:CODE) (i:Nat) (s:VS) (hs:s.1.length=c.2.2.2.length):(nxS c i).foldl vis s=(nxI c i).foldl vis s:=by
 have key:∀ a b:Int,([a,b].foldl (Ie c) []).foldl vis s=([a,b].foldl (Id c) []).foldl vis s:=fun a b=>by
  simp only [List.foldl_cons,List.foldl_nil,Ie,Id]
  cases ha:inR c a<;>cases hb:inR c b<;>simp only [cond_true,cond_false,List.any_nil,List.nil_append,List.foldl_cons,List.foldl_nil,List.any_cons,Bool.or_false]
  by_cases e:a=b
  ·subst e
   obtain⟨n,rfl,hn⟩:=Ua ha
   simp only [decide_true,cond_true,List.foldl_cons,List.foldl_nil,List.cons_append,List.nil_append]
   exact(cE hs hn).symm
  ·simp only [e,decide_false,cond_false]
 have key1:∀ a:Int,([a].foldl (Ie c) []).foldl vis s=([a].foldl (Id c) []).foldl vis s:=fun a=>by
  simp only [List.foldl_cons,List.foldl_nil,Ie,Id]
  cases ha:inR c a<;>simp only [cond_true,cond_false,List.any_nil,List.nil_append]
 unfold nxS nxI DF
 cases decide ((rd c.2.2.2 (i:Int) zI).1=20)<;>cases decide ((rd c.2.2.2 (i:Int) zI).1=18)<;>cases decide ((rd c.2.2.2 (i:Int) zI).1=19)<;>simp only [cond_true,cond_false]<;>first | exact key _ _ | exact key1 _ | rfl
theorem SJ (a:List Int):∀ (ns:List Int) (h:List Bool) (t:List Int),ns.foldl vis (h,a++t)=((ns.foldl vis (h,t)).1,a++(ns.foldl vis (h,t)).2)
 | [],h,t=>rfl
 | n::ns,h,t=>by
  simp only [List.foldl_cons,vis]
  cases rd h n false
  ·simp only [cond_false,List.append_assoc]
   exact SJ a ns _ _
  ·simp only [cond_true]
   exact SJ a ns _ _
def VI (W B F:Nat) (s:VS):Prop:=s.1.length=W∧s.2.length+fls s.1=B∧fls s.1≤F
theorem VI.step {W B F:Nat} {s:VS} (h:VI W B F s) {n:Nat} (hn:n<W):VI W B F (vis s (n:Int)):=by
 obtain⟨h1,h2,h3⟩:=h
 obtain⟨g1,g2,g3⟩:=du h1 hn
 exact⟨g1,by omega,by omega⟩
theorem cw (c:CODE) (i:Int) (ns:List Int) (hns:∀ n∈ns,Rng c n) (hl:ns.length≤1000) (s:VS) {B F:Nat} (hB:B≤4000000) (hs:VI c.2.2.2.length B F s):
 AH CY (s.1,s.2,i,ns,(0:Int),c,())=some ((ns.foldl vis s).1,(ns.foldl vis s).2,i,c,())∧VI c.2.2.2.length B F (ns.foldl vis s):=by
 have h:=CM (step:=CY) ns vis (fun k s=>(s.1,s.2,i,ns,(k:Int),c,())) (fun s=>(s.1,s.2,i,c,())) (fun _ s=>VI c.2.2.2.length B F s) (fun k hk s hs=>by
  obtain⟨n,hn,hlt⟩:=hns _ (List.getElem_mem hk)
  refine⟨?_,by rw [hn];exact hs.step hlt⟩
  obtain⟨h1,h2,h3⟩:=hs
  have hl:n<s.1.length:=by omega
  have hle:∀ {α:Type} {K:Option α},(Cnd.le ((s.2.length+List.length [(n:Int)]) * 8) 140737488355328).run K=K:=fun {α} {K}=>Bx (by simp only [List.length_cons,List.length_nil];omega)
  have wi:=Ag (show k<9223372036854775807 by omega)
  simp only [CY,Au hk,decide_true,cond_true,AY hk,Ad hk,hn,AY hl,Ad hl,vis,Int.toNat_natCast,Av,hle]
  cases s.1[n]<;>simp only [Bool.not_false,Bool.not_true,cond_true,cond_false,AC,Option.map_some,wi]) (fun s hs=>by
  simp only [CY,Ab,decide_false,cond_false,Option.map_some]) s hs
 exact h
theorem cv (c:CODE) (ns:List Int) (hns:∀ n∈ns,Rng c n) (hl:ns.length≤1000) (s:VS) {B F:Nat} (hB:B≤4000000) (hs:VI c.2.2.2.length B F s):
 AH CC (s.1,s.2,ns,(ns.length:Int),(0:Int),c,())=some ((ns.foldl vis s).1,(ns.foldl vis s).2,c,())∧VI c.2.2.2.length B F (ns.foldl vis s):=by
 have h:=CM (step:=CC) ns vis (fun k s=>(s.1,s.2,ns,(ns.length:Int),(k:Int),c,())) (fun s=>(s.1,s.2,c,())) (fun _ s=>VI c.2.2.2.length B F s) (fun k hk s hs=>by
  obtain⟨n,hn,hlt⟩:=hns _ (List.getElem_mem hk)
  refine⟨?_,by rw [hn];exact hs.step hlt⟩
  obtain⟨h1,h2,h3⟩:=hs
  have hl:n<s.1.length:=by omega
  have hle:∀ {α:Type} {K:Option α},(Cnd.le ((s.2.length+List.length [(n:Int)]) * 8) 140737488355328).run K=K:=fun {α} {K}=>Bx (by simp only [List.length_cons,List.length_nil];omega)
  have wi:=Ag (show k<9223372036854775807 by omega)
  simp only [CC,Au hk,decide_true,cond_true,AY hk,Ad hk,hn,AY hl,Ad hl,vis,Int.toNat_natCast,Av,hle]
  cases s.1[n]<;>simp only [Bool.not_false,Bool.not_true,cond_true,cond_false,AC,Option.map_some,wi]) (fun s hs=>by
  simp only [CC,Ab,decide_false,cond_false,Option.map_some]) s hs
 exact h
theorem Po {c:CODE} (g:List Int→Int→List Int) (hg:∀ o n,(g o n).length≤o.length+1):∀ (l o:List Int),(l.foldl g o).length≤o.length+l.length
 | [],o=>by simp
 | x::l,o=>by
  have h1:=Po (c:=c) g hg l (g o x)
  have h2:=hg o x
  simp only [List.foldl_cons,List.length_cons];omega
theorem Uj (c:CODE) (i:Nat):(nxS c i).length≤1000∧(nxI c i).length≤1000:=by
 have h:=Pe c i
 have h1:=Po (c:=c) (Ie c) (fun o n=>by
  unfold Ie;cases inR c n<;>cases (o.any fun y=>decide (y=n))<;>simp) (DF c i) []
 have h2:=Po (c:=c) (Id c) (fun o n=>by
  unfold Id;cases inR c n<;>simp) (DF c i) []
 unfold nxS nxI
 simp only [List.length_nil] at h1 h2
 omega
theorem dv (c:CODE) (ns:List Int) (hns:∀ n∈ns,Rng c n):∀ s:VS,(∀ x∈s.2,Rng c x)→∀ x∈(ns.foldl vis s).2,Rng c x:=by
 induction ns with
 | nil=>intro s hs;exact hs
 | cons n ns ih=>
  intro s hs
  rw [List.foldl_cons]
  refine ih (fun m hm=>hns m (List.mem_cons_of_mem _ hm)) _ (fun x hx=>?_)
  unfold vis at hx
  cases hb:rd s.1 n false
  ·rw [hb,cond_false] at hx
   rcases List.mem_append.1 hx with hx | hx
   ·exact hs x hx
   ·rw [List.mem_singleton.1 hx];exact hns n (List.mem_cons_self ..)
  ·rw [hb,cond_true] at hx;exact hs x hx
theorem bfs (c:CODE) (hc:FineC c):∀ (M:Nat) (h:List Bool) (pre t:List Int),t.length+2 * fls h≤M→h.length=c.2.2.2.length→(∀ x∈t,Rng c x)→pre.length+t.length+fls h≤2000000 →
 ∃ res:List Bool,res.length=c.2.2.2.length∧AH CZ (h,pre++t,(pre.length:Int),c,())=some (res,())∧AH Fw (h,t,c,())=some (res,())
 | M,h,pre,[],_,hh,_,_=>by
  refine⟨h,hh,BH ?_,BH rfl⟩
  rw [List.append_nil]
  simp only [CZ,Ab,decide_false,cond_false,Option.map_some]
 | 0,h,pre,x::t,hM,_,_,_=>by simp at hM
 | M+1,h,pre,x::t,hM,hh,ht,hB=>by
  obtain⟨n,rfl,hn⟩:=ht x (List.mem_cons_self ..)
  simp only [List.length_cons] at hM hB
  have hw:=hc.s.w
  have hl:=Uj c n
  have hvi:VI c.2.2.2.length (t.length+fls h) (fls h) (h,t):=⟨hh,rfl,Nat.le_refl _⟩
  have hvs:VI c.2.2.2.length ((pre++(n:Int)::t).length+fls h) (fls h) (h,pre++(n:Int)::t):=⟨hh,rfl,Nat.le_refl _⟩
  obtain⟨i1,j1,j2,j3⟩:=cv c (nxI c n) (Yt c n) hl.2 (h,t) (by omega) hvi
  obtain⟨s1,_⟩:=cw c (pre.length:Int) (nxS c n) (im c n) hl.1 (h,pre++(n:Int)::t) (by simp only [List.length_append,List.length_cons];omega) hvs
  have e1:pre++(n:Int)::t=(pre++[(n:Int)])++t:=by simp
  rw [jJ c n _ hh,e1,SJ] at s1
  generalize hs0:(nxI c n).foldl vis (h,t)=s0 at i1 j1 j2 j3 s1
  have hrng:∀ x∈s0.2,Rng c x:=by
   rw [← hs0]
   exact dv c _ (Yt c n) _ (fun x hx=>ht x (List.mem_cons_of_mem _ hx))
  obtain⟨res,r1,r2,r3⟩:=bfs c hc M s0.1 (pre++[(n:Int)]) s0.2 (by omega) j1 hrng (by simp only [List.length_append,List.length_cons,List.length_nil];omega)
  refine⟨res,r1,?_,?_⟩
  ·rw [← r2]
   refine Bi ?_
   have hp:pre.length<(pre++(n:Int)::t).length:=by simp
   have hg:rd (pre++(n:Int)::t) (pre.length:Int) (0:Int)=(n:Int):=by rw [Ad hp];simp
   have e2:((pre++[(n:Int)]).length:Int)=((pre.length+1:Nat):Int):=by simp
   simp only [CZ,Au hp,decide_true,cond_true,AY hp,hg,Sx c hc n hn,Option.bind_some,Ag (show pre.length<9223372036854775807 by omega),e2]
   rw [e1,s1]
   simp only [AC,Option.map_some,Ag (show pre.length<9223372036854775807 by omega)]
  ·rw [← r3]
   refine Bi ?_
   have hp:0<((n:Int)::t).length:=by simp
   have h0:(0:Int)<(((n:Int)::t).length:Int):=by simp
   have hg:rd ((n:Int)::t) (0:Int) (0:Int)=(n:Int):=rfl
   have hi:∀ {α:Type} {K:Option α},(Cnd.idx (0:Int) (List.length ((n:Int)::t))).run K=K:=fun {α} {K}=>AY (k:=0) hp
   have hcut:∀ {α:Type} {K:Option α},(Cnd.cut (1:Int) (List.length ((n:Int)::t):Int) (List.length ((n:Int)::t))).run K=K:=fun {α} {K}=>by
    simp only [Cnd.run]
    rw [if_pos ⟨by omega,by simp only [List.length_cons];omega,by omega⟩]
   have hsub:Gf ((n:Int)::t) (1:Int) (List.length ((n:Int)::t):Int)=t:=by simp [Gf]
   simp only [Fw,h0,decide_true,cond_true,hi,hcut,hg,Sk c hc n hn,Option.bind_some,hsub]
   have i1':AH CC (h,t,nxI c n,((nxI c n).length:Int),(0:Int),c,())=_:=i1
   rw [i1']
   simp only [AC,Option.map_some]
theorem Rp:∀ n:Nat,fls (List.replicate n false)=n
 | 0=>rfl
 | n+1=>by simp only [List.replicate_succ,fls,cond_false,Rp n];omega
theorem jc (c:CODE) (hc:FineC c) (hok:EB c=true):∃ R:List Bool,R.length=c.2.2.2.length∧Cj c=some (R,())∧Ch c=some (R,()):=by
 have hw:=hc.s.w
 have h1:1≤c.2.2.2.length:=by
  simp only [EB,Bool.and_eq_true,decide_eq_true_eq] at hok
  exact hok.2.2.2.1.1
 have hz:0<(List.replicate c.2.2.2.length false).length:=by simp;omega
 have hf:=On (List.replicate c.2.2.2.length false) 0 hz (by simp)
 rw [Rp] at hf
 obtain⟨res,r1,r2,r3⟩:=bfs c hc (2 * c.2.2.2.length+1) ((List.replicate c.2.2.2.length false).set 0 true) [] [(0:Int)] (by simp only [List.length_cons,List.length_nil];omega) (by simp) (fun x hx=>by
  rw [List.mem_singleton.1 hx];exact⟨0,rfl,by omega⟩) (by simp only [List.length_cons,List.length_nil];omega)
 have r2':AH CZ ((List.replicate c.2.2.2.length false).set 0 true,[(0:Int)],(0:Int),c,())=_:=r2
 have hb:∀ {α:Type} {K:Option α},(Cnd.both (Cnd.nn (c.2.2.2.length:Int)) (Cnd.le (c.2.2.2.length * 1) 140737488355328)).run K=K:=fun {α} {K}=>by
  simp only [Cnd.run]
  rw [if_pos (by omega),if_pos (by omega)]
 have hi:∀ {α:Type} {K:Option α},(Cnd.idx (0:Int) (List.length (List.replicate c.2.2.2.length false))).run K=K:=fun {α} {K}=>AY (k:=0) hz
 refine⟨res,r1,?_,?_⟩
 ·simp only [Cj,Fh c hc,hok,Option.bind_some,Bool.not_true,cond_false,Int.toNat_natCast,hb,hi,Av,Int.toNat_zero,r2',AC]
 ·simp only [Ch,HX c hc,hok,Option.bind_some,Bool.not_true,cond_false,Int.toNat_natCast,hb,hi,Av,Int.toNat_zero,r3,AC]
end Go.Proofs.YtmakhmoielhjeaaGreatDoorE
namespace Go.Proofs.YtmakhmoielhjeaaGreatDoorE
set_option linter.all false
def wp {α:Type} (x:Option α) (Q:α→Prop):Prop:=∃ r,x=some r∧Q r
theorem AA {α:Type} {r:α} {Q:α→Prop} (h:Q r):wp (some r) Q:=⟨r,rfl,h⟩
theorem AD {α:Type} {x:Option α} {Q Q':α→Prop} (h:wp x Q) (hq:∀ r,Q r→Q' r):wp x Q':=by
 obtain⟨r,h1,h2⟩:=h;exact⟨r,h1,hq r h2⟩
theorem AF {α β:Type} {x:Option α} {k:α→Option β} {Q:β→Prop} (h:wp x fun a=>wp (k a) Q):wp (x.bind k) Q:=by
 obtain⟨r,rfl,h2⟩:=h;exact h2
theorem AR {α β:Type} {x:Option β} {k:β→Option α} {Q:α→Prop} (h:wp x fun a=>wp (k a) Q):wp (AB x k) Q:=AF h
theorem Il {α β:Type} {x:Option (β ⊕ α)} {k:β→Option α} {Q:α→Prop} (h:wp x fun s=>(∀ b,s=.inl b→wp (k b) Q)∧∀ r,s=.inr r→Q r):wp (BA x k) Q:=by
 obtain⟨s,rfl,h1,h2⟩:=h
 cases s with
 | inl b=>exact h1 b rfl
 | inr r=>exact⟨r,rfl,h2 r rfl⟩
theorem AN {α β:Type} {x:Option α} {f:α→β} {Q:β→Prop} (h:wp x fun a=>Q (f a)):wp (x.map f) Q:=by
 obtain⟨r,rfl,h2⟩:=h;exact⟨f r,rfl,h2⟩
theorem AM {α:Type} {b:Bool} {x y:Option α} {Q:α→Prop} (h1:b=true→wp x Q) (h2:b=false→wp y Q):wp (bif b then x else y) Q:=by
 cases b with
 | true=>exact h1 rfl
 | false=>exact h2 rfl
theorem AL {α:Type} {c:Cnd} {K:Option α} {Q:α→Prop} (hc:c.holds) (h:wp K Q):wp (c.run K) Q:=by
 have key:∀ (c:Cnd) (K:Option α),c.holds→c.run K=K:=by
  intro c
  induction c with
  | tt=>intro K _;rfl
  | idx n len=>intro K h;exact if_pos h
  | nz b=>intro K h;exact if_neg h
  | nn b=>intro K h;exact if_pos h
  | cut lo hi len=>intro K h;exact if_pos h
  | le a b=>intro K h;exact if_pos h
  | both a b iha ihb=>intro K h;simp only [Cnd.run];rw [iha _ h.1,ihb _ h.2]
 rw [key c K hc];exact h
theorem wp_loop {α β:Type} {step:β→Option (β ⊕ α)} {Q:α→Prop} (I:β→Prop) (μ:β→Nat) (H:∀ b,I b→wp (step b) fun s=>(∀ b',s=.inl b'→I b'∧μ b'<μ b)∧∀ r,s=.inr r→Q r) {b:β} (h:I b):wp (AH step b) Q:=by
 refine Yn I μ Q (fun b hb=>?_) b h
 obtain⟨s,h1,h2,h3⟩:=H b hb
 cases s with
 | inl b'=>exact .inr ⟨b',h1,h2 b' rfl⟩
 | inr r=>exact .inl ⟨r,h1,h3 r rfl⟩
theorem Al {α β:Type} {b:β} {P:β→Prop} {Q:α→Prop} (h:P b):(∀ b',(Sum.inl b:β ⊕ α)=.inl b'→P b')∧∀ r,(Sum.inl b:β ⊕ α)=.inr r→Q r:=⟨fun b' e=>(by cases e;exact h),fun r e=>(by cases e)⟩
theorem Ak {α β:Type} {r:α} {P:β→Prop} {Q:α→Prop} (h:Q r):(∀ b',(Sum.inr r:β ⊕ α)=.inl b'→P b')∧∀ r',(Sum.inr r:β ⊕ α)=.inr r'→Q r':=⟨fun b' e=>(by cases e),fun r' e=>(by cases e;exact h)⟩
def wq {α:Type} (x x':Option α) (Q:α→Prop):Prop:=∃ r,x=some r∧x'=some r∧Q r
theorem Ah {α:Type} {x:Option α} {Q:α→Prop} (h:wp x Q):wq x x Q:=by
 obtain⟨r,h1,h2⟩:=h;exact⟨r,h1,h1,h2⟩
theorem AJ {α:Type} {r:α} {Q:α→Prop} (h:Q r):wq (some r) (some r) Q:=⟨r,rfl,rfl,h⟩
theorem AG {α:Type} {x x':Option α} {Q Q':α→Prop} (h:wq x x' Q) (hq:∀ r,Q r→Q' r):wq x x' Q':=by
 obtain⟨r,h1,h2,h3⟩:=h;exact⟨r,h1,h2,hq r h3⟩
theorem AK {α β:Type} {x x':Option α} {k k':α→Option β} {Q:β→Prop} (h:wq x x' fun a=>wq (k a) (k' a) Q):wq (x.bind k) (x'.bind k') Q:=by
 obtain⟨r,rfl,rfl,h2⟩:=h;exact h2
theorem BE {α β:Type} {x x':Option β} {k k':β→Option α} {Q:α→Prop} (h:wq x x' fun a=>wq (k a) (k' a) Q):wq (AB x k) (AB x' k') Q:=AK h
theorem cF {α β:Type} {x x':Option (β ⊕ α)} {k k':β→Option α} {Q:α→Prop} (h:wq x x' fun s=>(∀ b,s=.inl b→wq (k b) (k' b) Q)∧∀ r,s=.inr r→Q r):wq (BA x k) (BA x' k') Q:=by
 obtain⟨s,rfl,rfl,h1,h2⟩:=h
 cases s with
 | inl b=>exact h1 b rfl
 | inr r=>exact⟨r,rfl,rfl,h2 r rfl⟩
theorem CB {α β:Type} {x x':Option α} {f:α→β} {Q:β→Prop} (h:wq x x' fun a=>Q (f a)):wq (x.map f) (x'.map f) Q:=by
 obtain⟨r,rfl,rfl,h2⟩:=h;exact⟨f r,rfl,rfl,h2⟩
theorem Ae {α:Type} {b:Bool} {x x' y y':Option α} {Q:α→Prop} (h1:b=true→wq x x' Q) (h2:b=false→wq y y' Q):wq (bif b then x else y) (bif b then x' else y') Q:=by
 cases b with
 | true=>exact h1 rfl
 | false=>exact h2 rfl
theorem Ar {α:Type} {c:Cnd} {K K':Option α} {Q:α→Prop} (hc:c.holds) (h:wq K K' Q):wq (c.run K) (c.run K') Q:=by
 have h1:=AL (c:=c) (K:=K) (Q:=fun r=>K=some r) hc (by obtain⟨r,h,_⟩:=h;exact⟨r,h,h⟩)
 have h2:=AL (c:=c) (K:=K') (Q:=fun r=>K'=some r) hc (by obtain⟨r,_,h,_⟩:=h;exact⟨r,h,h⟩)
 obtain⟨r,e1,e2,e3⟩:=h
 obtain⟨r1,f1,f2⟩:=h1
 obtain⟨r2,f3,f4⟩:=h2
 rw [e1] at f2
 rw [e2] at f4
 rw [f1,f3,← f2,← f4]
 exact⟨r,rfl,rfl,e3⟩
theorem Ix {α β:Type} {step step':β→Option (β ⊕ α)} {Q:α→Prop} (I:β→Prop) (μ:β→Nat) (H:∀ b,I b→wq (step b) (step' b) fun s=>(∀ b',s=.inl b'→I b'∧μ b'<μ b)∧∀ r,s=.inr r→Q r) {b:β} (h:I b):wq (AH step b) (AH step' b) Q:=by
 have key:∀ n b,μ b≤n→I b→wq (AH step b) (AH step' b) Q:=by
  intro n
  induction n with
  | zero=>
   intro b hn hb
   obtain⟨s,h1,h1',h2,h3⟩:=H b hb
   cases s with
   | inl b'=>have:=(h2 b' rfl).2;omega
   | inr r=>exact⟨r,BH h1,BH h1',h3 r rfl⟩
  | succ n ih=>
   intro b hn hb
   obtain⟨s,h1,h1',h2,h3⟩:=H b hb
   cases s with
   | inl b'=>
    rw [Bi h1,Bi h1']
    exact ih b' (by have:=(h2 b' rfl).2;omega) (h2 b' rfl).1
   | inr r=>exact⟨r,BH h1,BH h1',h3 r rfl⟩
 exact key _ b (Nat.le_refl _) h
theorem Kc {α β:Type} {F:Nat→α→Option β} {x:α} {Q:β→Prop} (N:Nat) (h:∀ n,N≤n→wq (F n x) (F N x) Q):wp (DG F x) Q:=by
 obtain⟨r,_,h2,h3⟩:=h N (Nat.le_refl _)
 refine⟨r,KW.2 ⟨N,fun n hn=>?_⟩,h3⟩
 obtain⟨r',g1,g2,_⟩:=h n hn
 rw [h2] at g2
 rw [g1,← g2]
theorem AQ (a b:ByteArray):(a++b).size=a.size+b.size:=ByteArray.size_append
theorem NU (x:Int):0≤NT .i64 x 255∧NT .i64 x 255≤255:=by
 unfold NT
 have h1:(BitVec.ofInt IntKind.i64.bits x &&& BitVec.ofInt IntKind.i64.bits 255).toNat≤255:=by
  rw [BitVec.toNat_and]
  have:(BitVec.ofInt IntKind.i64.bits 255).toNat=255:=by decide
  rw [this]
  exact Nat.and_le_right
 rw [Af (by omega) (by omega)]
 omega
end Go.Proofs.YtmakhmoielhjeaaGreatDoorE
namespace Go.Proofs.YtmakhmoielhjeaaGreatDoorE
set_option linter.all false
abbrev Cur:=List Int×(Int×Int)
def COk (c:Cur):Prop:=List.length c.1≤1048576∧0≤c.2.1∧c.2.1≤List.length c.1
theorem Qo (code:List Int) (h:code.length≤1048576):wp (Ey code) fun r=>COk r.1:=by
 unfold Ey
 refine AR (AF (AA ?_))
 refine AD (wp_loop (fun b:List Int×Int×Int×Unit=>b.1=code∧0≤b.2.2.1∧b.2.2.1≤code.length) (fun b=>code.length - b.2.2.1.toNat) (Q:=fun r=>r.1=code) (fun b hb=>?_) ⟨rfl,by simp,by simp⟩) (fun r hr=>AA ⟨by simp [hr];exact h,by simp,by simp⟩)
 obtain⟨b1,b2,b3,_⟩:=b
 obtain⟨rfl,h0,h1⟩:=hb
 simp only at h0 h1
 unfold Mm
 simp only
 by_cases hlt:b3<(b1.length:Int)
 ·simp only [hlt,decide_true,cond_true,AC]
  by_cases h4:b3<4000
  ·simp only [h4,decide_true,cond_true]
   have e:IntKind.wrap .i64 (b3+1)=b3+1:=Af (by omega) (by omega)
   rw [e]
   exact AL ⟨h0,hlt⟩ (AN (AA (Al ⟨⟨rfl,by simp only;omega,by simp only;omega⟩,by simp only;omega⟩)))
  ·simp only [h4,decide_false,cond_false]
   exact AN (AA (Ak rfl))
 ·simp only [hlt,decide_false,cond_false,AC]
  exact AN (AA (Ak rfl))
theorem Mx (c:Cur) (h:COk c):wp (DJ c) fun r=>0≤r.1∧r.1≤255∧COk r.2.1:=by
 obtain⟨b,i,hh⟩:=c
 obtain⟨h1,h2,h3⟩:=h
 simp only at h1 h2 h3
 unfold DJ
 refine AL (by simp [Cnd.holds]) (AL (by simp [Cnd.holds]) (AR (AM (fun hb=>?_) (fun hb=>?_))))
 ·have hlt:i<(b.length:Int):=by simpa using hb
  refine AL ⟨h2,hlt⟩ (AA (AA ⟨(NU _).1,(NU _).2,h1,?_,?_⟩))
  ·simp only
   rw [Af (by omega) (by omega)];omega
  ·simp only
   rw [Af (by omega) (by omega)];omega
 ·exact AA (AA ⟨(NU _).1,(NU _).2,h1,h2,h3⟩)
theorem Bv (c:Cur) (n:Int) (h:COk c):wp (BF c n) fun r=>0≤r.1∧(0<n→r.1<n)∧(n≤0→r.1=0)∧COk r.2.1:=by
 unfold BF
 refine AM (fun hb=>AA ?_) (fun hb=>AM (fun hb2=>?_) (fun hb2=>?_))
 ·have hn:n≤0:=by simpa using hb
  exact⟨by simp,fun h=>by omega,fun _=>rfl,h⟩
 ·have hn:0<n:=by simpa using hb
  refine AF (AD (Mx c h) fun y hy=>AL (by show n≠0;omega) (AA ⟨Int.tmod_nonneg _ hy.1,fun _=>Int.tmod_lt_of_pos _ hn,fun h=>by omega,hy.2.2⟩))
 ·have hn:0<n:=by simpa using hb
  refine AF (AD (Mx c h) fun y hy=>AF (AD (Mx _ hy.2.2) fun y2 hy2=>AF (AD (Mx _ hy2.2.2) fun y3 hy3=>AF (AD (Mx _ hy3.2.2) fun y4 hy4=>?_))))
  have e1:IntKind.wrap .i64 (y.1 * 16777216)=y.1 * 16777216:=Af (by omega) (by omega)
  have e2:IntKind.wrap .i64 (y2.1 * 65536)=y2.1 * 65536:=Af (by omega) (by omega)
  have e3:IntKind.wrap .i64 (y3.1 * 256)=y3.1 * 256:=Af (by omega) (by omega)
  rw [e1,e2,e3,Af (x:=y.1 * 16777216+y2.1 * 65536) (by omega) (by omega),Af (x:=y.1 * 16777216+y2.1 * 65536+y3.1 * 256) (by omega) (by omega),Af (x:=y.1 * 16777216+y2.1 * 65536+y3.1 * 256+y4.1) (by omega) (by omega)]
  exact AL (by show n≠0;omega) (AA ⟨Int.tmod_nonneg _ (by omega),fun _=>Int.tmod_lt_of_pos _ hn,fun h=>by omega,hy4.2.2⟩)
theorem LR (c:Cur) (n:Int) (h:COk c):wp (Ce c n) fun r=>COk r.2.1:=by
 unfold Ce
 exact AF (AD (Bv c n h) fun y hy=>AA hy.2.2.2)
theorem CE {D:Type} (l:List D) (n:Int) (z:D) (h0:0≤n) (h1:n<l.length):rd l n z∈l:=by
 have hlt:n.toNat<l.length:=by omega
 have:rd l n z=l[n.toNat]:=by simp [rd,List.getD_eq_getElem?_getD,List.getElem?_eq_getElem hlt]
 rw [this];exact List.getElem_mem hlt
theorem WD (c:Cur) (l:List ByteArray) (hl:l≠[]) (h:COk c):wp (HR c l) fun r=>r.1∈l∧COk r.2.1:=by
 unfold HR
 have hp:0<(l.length:Int):=by have:=List.length_pos_iff.2 hl;omega
 exact AF (AD (Bv c _ h) fun y hy=>AL ⟨hy.1,hy.2.1 hp⟩ (AA ⟨CE _ _ _ hy.1 (hy.2.1 hp),hy.2.2.2⟩))
end Go.Proofs.YtmakhmoielhjeaaGreatDoorE
namespace Go.Proofs.YtmakhmoielhjeaaGreatDoorE
set_option linter.all false
set_option maxRecDepth 100000
abbrev SIGN:=Int×(ByteArray×Int)
theorem dJ (t:ByteArray) (at_:Int) (h0:0≤at_) (h1:at_≤t.size) (ht:t.size≤3000):wp (Jd t at_) fun r=>r.1=(⟨#[]⟩:ByteArray)∨(0<r.1.size∧at_+r.1.size≤t.size):=by
 unfold Jd Ki
 refine AF (AA (Il (AF (AA ?_))))
 simp only
 generalize hL:[Oa,Ob,s___32eb,s___ba5e,Nh,s___d10b,Ni,QG,Nk,Nj,s___6848,Lg,QE,QF]=L
 have hlen:L.length=14:=by rw [← hL];rfl
 have hsz:∀ s∈L,0<s.size∧s.size≤2:=by
  rw [← hL]
  intro s hs
  simp only [List.mem_cons,List.not_mem_nil,or_false] at hs
  rcases hs with e | e | e | e | e | e | e | e | e | e | e | e | e | e<;>rw [e]<;>decide
 clear hL
 refine AD (wp_loop (fun x:IZ=>x.1=t∧x.2.1=at_∧x.2.2.1=L∧0≤x.2.2.2.1∧x.2.2.2.1≤14) (fun x=>14 - x.2.2.2.1.toNat) (Q:=fun s:Unit ⊕ (ByteArray×Unit)=>∀ r,s=.inr r→0<r.1.size∧at_+r.1.size≤t.size) (fun x hx=>?_) ⟨rfl,rfl,rfl,by simp,by simp⟩) (fun s hs=>⟨fun b hb=>AA (.inl rfl),fun r hr=>.inr (hs r hr)⟩)
 obtain⟨x0,x1,x2,x3,_⟩:=x
 simp only at hx
 obtain⟨e1,e2,e3,g1,g2⟩:=hx
 subst e1 e2 e3
 unfold Lq
 simp only
 refine AM (fun hb=>?_) fun _=>AN (AN (AA (Ak (fun r hr=>by cases hr))))
 have hlt:x3<(x2.length:Int):=by simpa using hb
 have hm:=hsz _ (CE x2 x3 (⟨#[]⟩:ByteArray) g1 hlt)
 have e:IntKind.wrap .i64 (x1+((rd x2 x3 (⟨#[]⟩:ByteArray)).size:Int))=x1+((rd x2 x3 (⟨#[]⟩:ByteArray)).size:Int):=Af (by omega) (by omega)
 rw [e]
 refine AL ⟨g1,hlt⟩ (AR (AD (Q:=fun z:ByteArray×Int×List ByteArray×Int×Bool×Unit=>z.1=x0∧z.2.1=x1∧z.2.2.1=x2∧z.2.2.2.1=x3∧(z.2.2.2.2.1=true→x1+((rd x2 x3 (⟨#[]⟩:ByteArray)).size:Int)≤x0.size)) (AM (fun hb2=>?_) fun _=>AA ⟨rfl,rfl,rfl,rfl,fun h=>by cases h⟩) fun z hz=>?_))
 ·have h2:x1+((rd x2 x3 (⟨#[]⟩:ByteArray)).size:Int)≤(x0.size:Int):=by simpa using hb2
  exact AL ⟨h0,by omega,h2⟩ (AL ⟨g1,hlt⟩ (AA ⟨rfl,rfl,rfl,rfl,fun _=>h2⟩))
 ·obtain⟨z0,z1,z2,z3,z4,_⟩:=z
  simp only at hz
  obtain⟨e1,e2,e3,e4,g3⟩:=hz
  subst e1 e2 e3 e4
  simp only
  refine AM (fun hb3=>AL ⟨g1,hlt⟩ (AN (AN (AA (Ak (fun r hr=>by cases hr;exact⟨hm.1,g3 hb3⟩)))))) fun _=>?_
  rw [Af (x:=z3+1) (by omega) (by omega)]
  exact AN (AA (Al ⟨⟨rfl,rfl,rfl,by simp only;omega,by simp only;omega⟩,by simp only;omega⟩))
theorem bD (t:ByteArray) (n o:List SIGN) (at_:Int) (h0:0≤at_) (h1:at_<t.size) (ht:t.size≤3000) (hl:HF (bAt t at_)=true):
 wp (AH Iy (t,n,o,at_,at_,())) fun r=>r.1=t∧r.2.1=n∧r.2.2.1=o∧r.2.2.2.1=at_∧at_<r.2.2.2.2.1∧r.2.2.2.2.1≤t.size:=by
 refine wp_loop (fun x:IY=>x.1=t∧x.2.1=n∧x.2.2.1=o∧x.2.2.2.1=at_∧at_≤x.2.2.2.2.1∧x.2.2.2.2.1≤t.size) (fun x=>t.size - x.2.2.2.2.1.toNat) (fun x hx=>?_) ⟨rfl,rfl,rfl,rfl,by simp,by simp only;omega⟩
 obtain⟨x0,x1,x2,x3,x4,_⟩:=x
 simp only at hx
 obtain⟨e1,e2,e3,e4,g1,g2⟩:=hx
 subst e1 e2 e3 e4
 unfold Iy
 simp only
 refine AR (AD (Q:=fun z:ByteArray×List SIGN×List SIGN×Int×Int×Bool×Unit=>z.1=x0∧z.2.1=x1∧z.2.2.1=x2∧z.2.2.2.1=x3∧z.2.2.2.2.1=x4∧(z.2.2.2.2.2.1=true→x4<x0.size)∧(z.2.2.2.2.2.1=false→x4≠x3)) (AM (fun hb=>?_) fun hb=>AA ⟨rfl,rfl,rfl,rfl,rfl,fun h=>(by cases h),fun _ e=>?_⟩) fun z hz=>?_)
 ·have hlt:x4<(x0.size:Int):=by simpa using hb
  rw [PA,Oz]
  refine AL ⟨by omega,hlt⟩ (AF (AA (AM (fun _=>AA ⟨rfl,rfl,rfl,rfl,rfl,fun _=>hlt,fun h=>by cases h⟩) fun hb2=>AL ⟨by omega,hlt⟩ (AF (AA (AA ⟨rfl,rfl,rfl,rfl,rfl,fun _=>hlt,fun _ e=>?_⟩))))))
  simp only at hb2
  rw [e,hl] at hb2;cases hb2
 ·have:¬ x4<(x0.size:Int):=by simpa using hb
  omega
 ·obtain⟨z0,z1,z2,z3,z4,z5,_⟩:=z
  simp only at hz
  obtain⟨e1,e2,e3,e4,e5,g3,g4⟩:=hz
  subst e1 e2 e3 e4 e5
  simp only
  refine AM (fun hb=>?_) fun hb=>AN (AA (Ak ⟨rfl,rfl,rfl,rfl,by have:=g4 hb;simp only;omega,g2⟩))
  have:=g3 hb
  rw [Af (x:=z4+1) (by omega) (by omega)]
  exact AN (AA (Al ⟨⟨rfl,rfl,rfl,rfl,by simp only;omega,by simp only;omega⟩,by simp only;omega⟩))
theorem YW (t:ByteArray) (n o:List SIGN) (at_:Int) (h0:0≤at_) (h1:at_<t.size) (ht:t.size≤3000) (hl:KS (bAt t at_)=true):
 wp (AH JB (t,n,o,at_,at_,(0:Int),())) fun r=>r.1=t∧r.2.1=n∧r.2.2.1=o∧r.2.2.2.1=at_∧at_<r.2.2.2.2.1∧r.2.2.2.2.1≤t.size:=by
 refine wp_loop (fun x:Ic=>x.1=t∧x.2.1=n∧x.2.2.1=o∧x.2.2.2.1=at_∧at_≤x.2.2.2.2.1∧x.2.2.2.2.1≤t.size) (fun x=>t.size - x.2.2.2.2.1.toNat) (fun x hx=>?_) ⟨rfl,rfl,rfl,rfl,by simp,by simp only;omega⟩
 obtain⟨x0,x1,x2,x3,x4,x5,_⟩:=x
 simp only at hx
 obtain⟨e1,e2,e3,e4,g1,g2⟩:=hx
 subst e1 e2 e3 e4
 unfold JB
 simp only
 refine AR (AD (Q:=fun z:ByteArray×List SIGN×List SIGN×Int×Int×Int×Bool×Unit=>z.1=x0∧z.2.1=x1∧z.2.2.1=x2∧z.2.2.2.1=x3∧z.2.2.2.2.1=x4∧(z.2.2.2.2.2.2.1=true→x4<x0.size)∧(z.2.2.2.2.2.2.1=false→x4≠x3)) (AM (fun hb=>?_) fun hb=>AA ⟨rfl,rfl,rfl,rfl,rfl,fun h=>(by cases h),fun _ e=>?_⟩) fun z hz=>?_)
 ·have hlt:x4<(x0.size:Int):=by simpa using hb
  rw [Oz]
  refine AL ⟨by omega,hlt⟩ (AF (AA (AM (fun _=>AA ⟨rfl,rfl,rfl,rfl,rfl,fun _=>hlt,fun h e=>?_⟩) fun hb2=>AA ⟨rfl,rfl,rfl,rfl,rfl,fun h=>(by cases h),fun _ e=>?_⟩)))
  ·rw [e] at h
   simp only [Int.sub_self] at h
   exact absurd h (by decide)
  ·simp only at hb2
   rw [e,hl] at hb2;cases hb2
 ·have:¬ x4<(x0.size:Int):=by simpa using hb
  omega
 ·obtain⟨z0,z1,z2,z3,z4,z5,z6,_⟩:=z
  simp only at hz
  obtain⟨e1,e2,e3,e4,e5,g3,g4⟩:=hz
  subst e1 e2 e3 e4 e5
  simp only
  refine AM (fun hb=>?_) fun hb=>AN (AA (Ak ⟨rfl,rfl,rfl,rfl,by have:=g4 hb;simp only;omega,g2⟩))
  have:=g3 hb
  rw [Af (x:=z4+1) (by omega) (by omega)]
  exact AL ⟨by omega,this⟩ (AN (AA (Al ⟨⟨rfl,rfl,rfl,rfl,by simp only;omega,by simp only;omega⟩,by simp only;omega⟩)))
theorem bj (t:ByteArray):wp (Jc t) fun r=>r.1.length≤3000:=by
 unfold Jc
 refine AM (fun _=>AA (by simp)) fun hb=>Il (AF (AA ?_))
 have ht:t.size≤3000:=by
  have:¬ (3000:Int)<(t.size:Int):=by simpa using hb
  omega
 refine AD (wp_loop (fun x:GC=>x.1=t∧x.2.1=[]∧0≤x.2.2.2.1∧x.2.2.2.1≤t.size∧(x.2.2.1.length:Int)≤x.2.2.2.1) (fun x=>t.size - x.2.2.2.1.toNat)
  (Q:=fun s:(List SIGN×Unit) ⊕ (List SIGN×Bool×Unit)=>(∀ b,s=.inl b→b.1.length≤3000)∧∀ r,s=.inr r→r.1.length≤3000) (fun x hx=>?_) ⟨rfl,rfl,by simp,by simp,by simp⟩) (fun s hs=>⟨fun b hb=>AA (hs.1 b hb),hs.2⟩)
 obtain⟨x0,x1,x2,x3,_⟩:=x
 simp only at hx
 obtain⟨e1,e2,g1,g2,g3⟩:=hx
 subst e1 e2
 unfold Lu
 simp only
 refine AM (fun hb=>?_) fun _=>AN (AN (AA (Ak ⟨fun b hb=>by cases hb;simp only;omega,fun r hr=>by cases hr⟩)))
 have hlt:x3<(x0.size:Int):=by simpa using hb
 refine Il (AD (Q:=fun s:(ByteArray×List SIGN×List SIGN×Int×Unit) ⊕ (GC ⊕ ((List SIGN×Unit) ⊕ (List SIGN×Bool×Unit)))=>(∀ b,s=.inl b→b.1=x0∧b.2.1=[]∧x3<b.2.2.2.1∧b.2.2.2.1≤x0.size∧(b.2.2.1.length:Int)≤b.2.2.2.1)∧∀ r,s=.inr r→r=.inr (.inr ([],false,()))) (AR (AD (Q:=fun z:ByteArray×List SIGN×List SIGN×Int×Bool×Unit=>z.1=x0∧z.2.1=[]∧z.2.2.1=x2∧z.2.2.2.1=x3) (AL ⟨g1,hlt⟩ (AM (fun _=>AA ⟨rfl,rfl,rfl,rfl⟩) fun _=>AL ⟨g1,hlt⟩ (AA ⟨rfl,rfl,rfl,rfl⟩))) fun z hz=>?_)) fun s hs=>⟨fun b hb=>?_,fun r hr=>?_⟩)
 ·obtain⟨z0,z1,z2,z3,z4,_⟩:=z
  simp only at hz
  obtain⟨e1,e2,e3,e4⟩:=hz
  subst e1 e2 e3 e4
  simp only
  refine AM (fun _=>?_) fun _=>AL ⟨g1,hlt⟩ ?_
  ·rw [Af (x:=z3+1) (by omega) (by omega)]
   exact AN (AA (Al ⟨rfl,rfl,by simp only;omega,by simp only;omega,by simp only;omega⟩))
  rw [PA,Oz]
  refine AF (AA (AM (fun hl=>?_) fun _=>AL ⟨g1,hlt⟩ (AF (AA (AM (fun hf=>?_) fun _=>?_)))))
  ·refine AR (AF (AA (AD (bD z0 [] z2 z3 g1 hlt ht hl) fun r hr=>?_)))
   obtain⟨r0,r1,r2,r3,r4,_⟩:=r
   simp only at hr
   obtain⟨e1,e2,e3,e4,g4,g5⟩:=hr
   subst e1 e2 e3 e4
   refine AM (fun _=>AN (AN (AN (AA (Ak rfl))))) fun _=>AL ⟨g1,by simp only;omega,g5⟩ (AL (by simp only [Cnd.holds,List.length_singleton];omega) (AN (AA (Al ⟨rfl,rfl,g4,g5,by simp only [List.length_append,List.length_singleton];omega⟩))))
  ·refine AR (AF (AA (AD (YW z0 [] z2 z3 g1 hlt ht hf) fun r hr=>?_)))
   obtain⟨r0,r1,r2,r3,r4,r5,_⟩:=r
   simp only at hr
   obtain⟨e1,e2,e3,e4,g4,g5⟩:=hr
   subst e1 e2 e3 e4
   simp only
   refine AR (AD (Q:=fun u:ByteArray×List SIGN×List SIGN×Int×Int×Bool×Unit=>u.1=r0∧u.2.1=[]∧u.2.2.1=r2∧u.2.2.2.1=r4) (AM (fun _=>AA ⟨rfl,rfl,rfl,rfl⟩) fun _=>AA ⟨rfl,rfl,rfl,rfl⟩) fun u hu=>?_)
   obtain⟨u0,u1,u2,u3,u4,u5,_⟩:=u
   simp only at hu
   obtain⟨e1,e2,e3,e4⟩:=hu
   subst e1 e2 e3 e4
   refine AM (fun _=>AN (AN (AN (AA (Ak rfl))))) fun _=>AL (by simp only [Cnd.holds,List.length_singleton];omega) (AN (AA (Al ⟨rfl,rfl,g4,g5,by simp only [List.length_append,List.length_singleton];omega⟩)))
  ·refine AF (AD (dJ z0 z3 g1 (by omega) ht) fun y hy=>AM (fun _=>AN (AN (AN (AA (Ak rfl))))) fun hn=>?_)
   have hne:y.1≠(⟨#[]⟩:ByteArray):=by simpa using hn
   rcases hy with hy | ⟨hy1,hy2⟩
   ·exact absurd hy hne
   rw [Af (x:=z3+(y.1.size:Int)) (by omega) (by omega)]
   exact AL (by simp only [Cnd.holds,List.length_singleton];omega) (AN (AA (Al ⟨rfl,rfl,by simp only;omega,by simp only;omega,by simp only [List.length_append,List.length_singleton];omega⟩)))
 ·have:=hs.1 b hb
  obtain⟨b0,b1,b2,b3,_⟩:=b
  simp only at this
  obtain⟨e1,e2,k1,k2,k3⟩:=this
  subst e1 e2
  exact AN (AA (Al ⟨⟨rfl,rfl,by simp only;omega,k2,k3⟩,by simp only;omega⟩))
 ·rw [hs.2 r hr]
  exact Ak ⟨fun b hb=>(by cases hb),fun r hr=>(by cases hr;simp)⟩
end Go.Proofs.YtmakhmoielhjeaaGreatDoorE
namespace Go.Proofs.YtmakhmoielhjeaaGreatDoorE
set_option linter.all false
set_option maxRecDepth 100000
abbrev NODE:=Int×(Int×(ByteArray×List Int))
abbrev FN:=ByteArray×(List (ByteArray×Int)×(Int×(Int×Int)))
abbrev PROG:=List NODE×List FN
abbrev zN:NODE:=((0:Int),((0:Int),((⟨#[]⟩:ByteArray),[])))
structure FineN (l:List NODE):Prop where
 len:l.length≤1048576
 kid:∀ x∈l,(x:NODE).2.2.2.length≤1048576
theorem Ov {n:Nat} (h:n≤1048576):IntKind.wrap .i64 ((n:Int) - 1)=(n:Int) - 1:=Af (by omega) (by omega)
def kr (k:Int):Int×Int:=if k=8∨k=13∨k=14∨k=15∨k=18∨k=19 then (1,1) else if k=9∨k=10∨k=11∨k=17 then (2,2) else if k=12 then (0,3) else if k=16 then (3,3) else if k=20 then (0,12) else (0,0)
theorem jg (k:Int):Jf k=some ((kr k).1,(kr k).2,()):=by
 unfold Jf kr
 by_cases h8:k=8
 ·subst h8;rfl
 by_cases h13:k=13
 ·subst h13;rfl
 by_cases h14:k=14
 ·subst h14;rfl
 by_cases h15:k=15
 ·subst h15;rfl
 by_cases h18:k=18
 ·subst h18;rfl
 by_cases h19:k=19
 ·subst h19;rfl
 by_cases h9:k=9
 ·subst h9;rfl
 by_cases h10:k=10
 ·subst h10;rfl
 by_cases h11:k=11
 ·subst h11;rfl
 by_cases h17:k=17
 ·subst h17;rfl
 by_cases h12:k=12
 ·subst h12;rfl
 by_cases h16:k=16
 ·subst h16;rfl
 by_cases h20:k=20
 ·subst h20;rfl
 simp only [h8,h13,h14,h15,h18,h19,h9,h10,h11,h17,h12,h16,h20,decide_false,cond_false,AC,or_self,if_false]
def MN (k:Int):Bool:=decide (2≤k∧k≤6) || decide (12≤k∧k≤15)
theorem iw (k:Int):IP k=some (MN k,()):=by
 unfold IP
 by_cases h2:k=2
 ·subst h2;rfl
 by_cases h3:k=3
 ·subst h3;rfl
 by_cases h4:k=4
 ·subst h4;rfl
 by_cases h5:k=5
 ·subst h5;rfl
 by_cases h6:k=6
 ·subst h6;rfl
 by_cases h12:k=12
 ·subst h12;rfl
 by_cases h13:k=13
 ·subst h13;rfl
 by_cases h14:k=14
 ·subst h14;rfl
 by_cases h15:k=15
 ·subst h15;rfl
 simp only [h2,h3,h4,h5,h6,h12,h13,h14,h15,decide_false,cond_false,AC,MN]
 rw [decide_eq_false (by omega),decide_eq_false (by omega)];rfl
def Ke (k i j:Int):Bool:=bif decide (k=20) then decide (13≤j∧j≤19) else bif (decide (k=16) || decide (k=17)) && decide (0<i) then decide (j=20) else bif decide (k=19) then decide (j=12) else decide (1≤j∧j≤12)
theorem jd (k i j:Int):Je k i j=some (Ke k i j,()):=by
 simp only [Je,Hv,GT,sIn,Option.bind_some,Ke]
 cases decide (k=20)
 ·simp only [cond_false]
  by_cases h16:k=16
  ·subst h16
   simp only [decide_true,cond_true,AC,Bool.true_or,Bool.true_and]
   cases decide (0<i)<;>rfl
  ·by_cases h17:k=17
   ·subst h17
    simp only [show ¬ ((17:Int)=16) by decide,decide_true,decide_false,cond_true,cond_false,AC,Bool.or_true,Bool.true_and]
    cases decide (0<i)<;>rfl
   ·simp only [h16,h17,decide_false,cond_false,AC,Bool.or_self,Bool.false_and]
    cases decide (k=19)<;>rfl
 ·rfl
def UZ (l:List Int) (n:Int):Bool:=l.any fun y=>decide (y=n)
def Ot (l:List NODE) (k:Int) (x:NODE) (i:Nat):Bool:=decide (0≤x.2.2.2.getD i 0∧x.2.2.2.getD i 0≤k - 1) && (Ke x.1 (i:Int) (rd l (x.2.2.2.getD i 0) zN).1 && !UZ (x.2.2.2.take i) (x.2.2.2.getD i 0))
def OT (l:List NODE) (k:Int) (x:NODE):Bool:=(List.range x.2.2.2.length).all (Ot l k x)
def HJ (l:List NODE) (k:Int) (x:NODE):Bool:=decide (1≤x.1∧x.1≤20) && (decide ((kr x.1).1≤(x.2.2.2.length:Int)∧(x.2.2.2.length:Int)≤(kr x.1).2) && ((bif decide (x.1=1) then decide (0≤x.2.1∧x.2.1≤1000000000) else decide (x.2.1=0)) && ((bif MN x.1 then Bl x.2.2.1 else decide (x.2.2.1=(⟨#[]⟩:ByteArray))) && OT l k x)))
def Bo (l:List NODE) (k:Int):Bool:=decide (0≤k∧k≤(l.length:Int) - 1) && HJ l k (rd l k zN)
theorem Cm {α:Type} {n:Int} {m:Nat} {K:Option α} (h:0≤n∧n<(m:Int)):(Cnd.idx n m).run K=K:=by
 simp only [Cnd.run];rw [if_pos h]
theorem aw (l:List NODE) (k:Int) (x:NODE) (i:Nat) (hi:i<x.2.2.2.length) (hx:x.2.2.2.length≤1048576):
 AH FQ (l,k,(i:Int),(0:Int),x,())=some (bif UZ (x.2.2.2.take i) (x.2.2.2.getD i 0) then .inr (.inr (.inr (.inr (false,())))) else .inl (l,k,(i:Int),x,())):=by
 have hlen:(x.2.2.2.take i).length=i:=by rw [List.length_take];omega
 have h:=Iv (step:=FQ) (x.2.2.2.take i) (fun y=>decide (y=x.2.2.2.getD i 0)) (fun j=>(l,k,(i:Int),(j:Int),x,())) (.inr (.inr (.inr (.inr (false,()))))) (.inl (l,k,(i:Int),x,())) (fun j hj=>by
  have hj':j<i:=by omega
  have hjl:j<x.2.2.2.length:=by omega
  have hg:x.2.2.2.getD i 0=x.2.2.2[i]:=by simp [hi]
  have e:decide (x.2.2.2[i]=x.2.2.2[j])=decide (x.2.2.2[j]=x.2.2.2[i]):=by
   by_cases h:x.2.2.2[i]=x.2.2.2[j]
   ·rw [decide_eq_true h,decide_eq_true h.symm]
   ·rw [decide_eq_false h,decide_eq_false (fun h'=>h h'.symm)]
  simp only [FQ,Au hj',decide_true,cond_true,AY hi,AY hjl,Ad hi,Ad hjl,Ag (show j<9223372036854775807 by omega),hg,e,List.getElem_take]
  cases decide (x.2.2.2[j]=x.2.2.2[i])<;>rfl) (by
  rw [hlen]
  simp only [FQ,Ab,decide_false,cond_false,Option.map_some])
 exact h
theorem Xa (l:List NODE) (k:Nat) (hk:k<l.length) (hl:FineN l) (x:NODE) (hx:x.2.2.2.length≤1048576):
 AH FZ (l,(k:Int),(0:Int),x,())=some (bif OT l k x then .inl () else .inr (false,())):=by
 have hlen:=hl.len
 have h:=Bn (step:=FZ) (List.range x.2.2.2.length) (Ot l k x) (fun i=>(l,(k:Int),(i:Int),x,())) (.inl ()) (.inr (false,())) (fun i hi=>by
  have hi':i<x.2.2.2.length:=by simpa using hi
  have wi:=Ag (show i<9223372036854775807 by omega)
  have hg:x.2.2.2.getD i 0=x.2.2.2[i]:=by simp [hi']
  have wk:IntKind.wrap .i64 ((k:Int) - 1)=(k:Int) - 1:=Af (by omega) (by omega)
  have hd:=aw l (k:Int) x i hi' hx
  rw [hg] at hd
  simp only [FZ,Au hi',decide_true,cond_true,AY hi',Ad hi',sIn,Option.bind_some,wk,List.getElem_range,Ot,hg]
  generalize x.2.2.2[i]=kid at hd ⊢
  by_cases hr:0≤kid∧kid≤(k:Int) - 1
  ·simp only [hr,and_self,decide_true,Bool.not_true,cond_false,Option.bind_some,Bool.true_and,Cm (show 0≤kid∧kid<(l.length:Int) by omega),jd]
   cases Ke x.1 (i:Int) (rd l kid zN).1
   ·simp only [Bool.not_false,AC,cond_true,Option.map_some,Bd,Bool.false_and,cond_false]
   ·simp only [Bool.not_true,AC,cond_false,hd,Bool.true_and]
    cases UZ (x.2.2.2.take i) kid<;>simp only [cond_true,cond_false,Bc,Bd,Bool.not_true,Bool.not_false,Option.map_some,wi]
  ·simp only [hr,decide_false,Bool.not_false,cond_true,AC,Bool.false_and,cond_false,Option.map_some,Bd]) (by
  rw [List.length_range]
  simp only [FZ,Ab,decide_false,cond_false,Option.map_some])
 exact h
theorem dL {s:ByteArray} (h:Bl s=true):s≠(⟨#[]⟩:ByteArray):=by
 rintro rfl
 simp only [Bl,Bool.and_eq_true,decide_eq_true_eq] at h
 have:=h.1.1.1.1
 have e:(⟨#[]⟩:ByteArray).size=0:=rfl
 omega
theorem SC (l:List NODE) (hl:FineN l) (k:Int):KG l k=some (Bo l k,()):=by
 unfold KG Bo
 simp only [Ov hl.len,sIn,Option.bind_some]
 by_cases hr:0≤k∧k≤(l.length:Int) - 1
 case neg=>simp only [hr,decide_false,Bool.not_false,cond_true,AC,Bool.false_and]
 obtain⟨k,rfl⟩:∃ n:Nat,k=(n:Int):=⟨k.toNat,by omega⟩
 have hk:k<l.length:=by omega
 simp only [hr,and_self,decide_true,Bool.not_true,cond_false,AY hk,Bool.true_and,Ad hk,HJ,AC]
 have hx:=hl.kid _ (List.getElem_mem hk)
 have hloop:=Xa l k hk hl l[k] hx
 generalize l[k]=x at hx hloop ⊢
 cases decide (1≤x.1∧x.1≤20)
 ·simp only [Bool.not_false,cond_true,Bool.false_and]
 simp only [Bool.not_true,cond_false,Bool.true_and,AY hk,jg,Option.bind_some,sIn]
 have eN:(bif !decide ((kr x.1).1≤(x.2.2.2.length:Int)∧(x.2.2.2.length:Int)≤(kr x.1).2) then some (l,(k:Int),true,x,()) else bif !decide (0≤x.2.1∧x.2.1≤1000000000) then some (l,(k:Int),true,x,()) else bif decide (x.1≠1) then some (l,(k:Int),decide (x.2.1≠0),x,()) else some (l,(k:Int),false,x,())) =
  some (l,(k:Int),!(decide ((kr x.1).1≤(x.2.2.2.length:Int)∧(x.2.2.2.length:Int)≤(kr x.1).2) && (bif decide (x.1=1) then decide (0≤x.2.1∧x.2.1≤1000000000) else decide (x.2.1=0))),x,()):=by
  cases decide ((kr x.1).1≤(x.2.2.2.length:Int)∧(x.2.2.2.length:Int)≤(kr x.1).2)
  ·rfl
  by_cases e:x.1=1
  ·simp only [e,decide_true,cond_true,ne_eq,not_true_eq_false,decide_false,cond_false,Bool.not_true,Bool.true_and]
   cases decide (0≤x.2.1∧x.2.1≤1000000000)<;>rfl
  ·by_cases e2:x.2.1=0
   ·simp [e,e2]
   ·by_cases e3:0≤x.2.1∧x.2.1≤1000000000<;>simp [e,e2,e3]
 rw [eN,AC]
 cases decide ((kr x.1).1≤(x.2.2.2.length:Int)∧(x.2.2.2.length:Int)≤(kr x.1).2)
 ·simp only [Bool.false_and,Bool.not_false,cond_true]
 simp only [Bool.true_and]
 cases (bif decide (x.1=1) then decide (0≤x.2.1∧x.2.1≤1000000000) else decide (x.2.1=0))
 ·simp only [Bool.not_false,cond_true,Bool.false_and]
 simp only [Bool.not_true,cond_false,Bool.true_and,iw,Cv,Option.bind_some]
 have eM:(bif !(MN x.1 == decide (x.2.2.1≠(⟨#[]⟩:ByteArray))) then some (l,(k:Int),true,x,()) else bif decide (x.2.2.1≠(⟨#[]⟩:ByteArray)) then some (l,(k:Int),!Bl x.2.2.1,x,()) else some (l,(k:Int),false,x,())) =
  some (l,(k:Int),!(bif MN x.1 then Bl x.2.2.1 else decide (x.2.2.1=(⟨#[]⟩:ByteArray))),x,()):=by
  by_cases e:x.2.2.1=(⟨#[]⟩:ByteArray)
  ·have hn:Bl x.2.2.1=false:=by
    cases h:Bl x.2.2.1
    ·rfl
    ·exact absurd e (dL h)
   rw [hn]
   cases MN x.1<;>simp [e]
  ·cases MN x.1<;>simp [e]
 rw [eM,AC]
 cases (bif MN x.1 then Bl x.2.2.1 else decide (x.2.2.1=(⟨#[]⟩:ByteArray)))
 ·simp only [Bool.not_false,cond_true,Bool.false_and]
 simp only [Bool.not_true,cond_false,Bool.true_and,hloop]
 cases OT l k x<;>rfl
end Go.Proofs.YtmakhmoielhjeaaGreatDoorE
namespace Go.Proofs.YtmakhmoielhjeaaGreatDoorE
set_option linter.all false
set_option maxRecDepth 100000
abbrev RD:=List SIGN×(Int×(Bool×(Int×List NODE)))
structure ROk (L:List SIGN) (r:RD):Prop where
 l:r.1=L
 a0:0≤r.2.1
 a1:r.2.1≤L.length
 n:r.2.2.2.2.length≤300
 k:∀ x∈r.2.2.2.2,(x:NODE).2.2.2.length≤100000
structure Mv (L:List SIGN) (r r':RD):Prop where
 ok:ROk L r'
 le:r.2.1≤r'.2.1
 bd:r.2.2.1=true→r'.2.2.1=true
structure Pg (L:List SIGN) (r r':RD):Prop extends Mv L r r' where
 pg:r'.2.2.1=true∨r.2.1<r'.2.1
theorem Mv.rfl' {L:List SIGN} {r:RD} (h:ROk L r):Mv L r r:=⟨h,Int.le_refl _,fun e=>e⟩
theorem Mv.trans {L:List SIGN} {a b c:RD} (h:Mv L a b) (h':Mv L b c):Mv L a c:=⟨h'.ok,Int.le_trans h.le h'.le,fun e=>h'.bd (h.bd e)⟩
theorem Mv.pg {L:List SIGN} {a b c:RD} (h:Mv L a b) (h':Pg L b c):Pg L a c:=⟨h.trans h'.toMv,h'.pg.imp id fun e=>by have:=h.le;omega⟩
theorem Pg.mv {L:List SIGN} {a b c:RD} (h:Pg L a b) (h':Mv L b c):Pg L a c:=⟨h.toMv.trans h',h.pg.imp h'.bd fun e=>by have:=h'.le;omega⟩
theorem Mv.deep {L:List SIGN} {a b:RD} (h:Mv L a b) (d:Int):Mv L a (b.1,(b.2.1,(b.2.2.1,(d,b.2.2.2.2)))):=⟨⟨h.ok.l,h.ok.a0,h.ok.a1,h.ok.n,h.ok.k⟩,h.le,h.bd⟩
theorem Pg.deep {L:List SIGN} {a b:RD} (h:Pg L a b) (d:Int):Pg L a (b.1,(b.2.1,(b.2.2.1,(d,b.2.2.2.2)))):=⟨h.toMv.deep d,h.pg⟩
theorem Mv.bad {L:List SIGN} {a b:RD} (h:Mv L a b):Pg L a (b.1,(b.2.1,(true,b.2.2.2))):=⟨⟨⟨h.ok.l,h.ok.a0,h.ok.a1,h.ok.n,h.ok.k⟩,h.le,fun _=>rfl⟩,.inl rfl⟩
theorem Mv.next {L:List SIGN} {a b:RD} (h:Mv L a b) (hlt:b.2.1<L.length):Pg L a (b.1,(b.2.1+1,b.2.2)):=⟨⟨⟨h.ok.l,by have:=h.ok.a0;simp only;omega,by simp only;omega,h.ok.n,h.ok.k⟩,by have:=h.le;simp only;omega,h.bd⟩,.inr (by have:=h.le;simp only;omega)⟩
section
variable {L:List SIGN} (hL:L.length≤3000)
include hL
theorem YC {r:RD} (h:ROk L r):IntKind.wrap .i64 (r.2.1+1)=r.2.1+1:=Af (by have:=h.a0;omega) (by have:=h.a1;omega)
theorem XZ (r:RD) (k:Int) (s:ByteArray) (h:ROk L r):wp (DU r k s) fun y=>y.2.1=r∧(y.1=true→r.2.1<L.length):=by
 unfold DU
 refine AR (AD (Q:=fun y:Bool×RD×Unit=>y.2.1=r∧(y.1=true→r.2.1<L.length)) (AM (fun _=>AM (fun hb=>?_) fun _=>AA ⟨rfl,fun h=>by cases h⟩) fun _=>AA ⟨rfl,fun h=>by cases h⟩) fun y hy=>AA hy)
 have hlt:r.2.1<(List.length r.1:Int):=by simpa using hb
 have hlt':r.2.1<(L.length:Int):=by rw [h.l] at hlt;exact hlt
 exact AL ⟨h.a0,hlt⟩ (AM (fun _=>AL ⟨h.a0,hlt⟩ (AA ⟨rfl,fun _=>hlt'⟩)) fun _=>AA ⟨rfl,fun h=>by cases h⟩)
theorem BK (r:RD) (k:Int) (s:ByteArray) (h:ROk L r):wp (AW r k s) fun y=>Mv L r y.2.1∧(y.1=true→Pg L r y.2.1∧r.2.1<y.2.1.2.1):=by
 unfold AW
 refine AF (AD (XZ hL r k s h) fun y hy=>?_)
 obtain⟨e,hlt⟩:=hy
 rw [e,YC hL h]
 refine AM (fun hb=>AA ?_) fun _=>AA ⟨.rfl' h,fun h=>by cases h⟩
 have:=(Mv.rfl' h).next (hlt hb)
 exact⟨this.toMv,fun _=>⟨this,by simp only;omega⟩⟩
theorem CR (r:RD) (s:ByteArray) (h:ROk L r):wp (Ax r s) fun y=>Pg L r y.1:=by
 unfold Ax
 refine AF (AD (BK hL r 3 s h) fun y hy=>AR (AM (fun _=>AA (AA hy.1.bad)) fun hb=>AA (AA (hy.2 ?_).1)))
 cases hy1:y.1
 ·rw [hy1] at hb;cases hb
 ·rfl
theorem GV (r:RD) (h:ROk L r):wp (BN r) fun y=>Pg L r y.2.1:=by
 unfold BN
 refine AR (AD (Q:=fun x:Bool×RD×Unit=>x.2.1=r∧(x.1=false→r.2.1<L.length)) (AM (fun _=>AA ⟨rfl,fun h=>by cases h⟩) fun _=>AM (fun _=>AA ⟨rfl,fun h=>by cases h⟩) fun hb=>?_) fun x hx=>?_)
 ·have hlt:r.2.1<(List.length r.1:Int):=by
   have:¬ (List.length r.1:Int)≤r.2.1:=by simpa using hb
   omega
  have hlt':r.2.1<(L.length:Int):=by rw [h.l] at hlt;exact hlt
  refine AL ⟨h.a0,hlt⟩ (AM (fun _=>AA ⟨rfl,fun h=>by cases h⟩) fun _=>AL ⟨h.a0,hlt⟩ ?_)
  rw [Cv]
  exact AF (AA (AA ⟨rfl,fun _=>hlt'⟩))
 ·obtain⟨x0,x1,_⟩:=x
  simp only at hx
  obtain⟨e,hlt⟩:=hx
  subst e
  simp only
  refine AM (fun _=>AA (Mv.rfl' h).bad) fun hb=>?_
  rw [YC hL h,show x1.2.1+1 - 1=x1.2.1 by omega,Af (x:=x1.2.1) (by have:=h.a0;omega) (by have:=h.a1;omega)]
  exact AL ⟨h.a0,by rw [h.l];exact hlt hb⟩ (AA ((Mv.rfl' h).next (hlt hb)))
theorem De (r:RD) (x:NODE) (hx:x.2.2.2.length≤100000) (h:ROk L r):wp (Az r x) fun y=>Mv L r y.2.1:=by
 unfold Az
 refine AR (AD (Q:=fun z:Bool×RD×NODE×Unit=>z.2.1=r∧z.2.2.1=x∧(z.1=false→r.2.2.2.2.length<300)) (AM (fun _=>AA ⟨rfl,rfl,fun h=>by cases h⟩) fun _=>AA ⟨rfl,rfl,fun hb=>?_⟩) fun z hz=>?_)
 ·have:¬ (300:Int)≤(List.length r.2.2.2.2:Int):=by simpa using hb
  omega
 ·obtain⟨z0,z1,z2,_⟩:=z
  simp only at hz
  obtain⟨e1,e2,hlt⟩:=hz
  subst e1 e2
  simp only
  refine AM (fun _=>AA (Mv.rfl' h).bad.toMv) fun hb=>AL ?_ (AA ⟨⟨h.l,h.a0,h.a1,?_,fun y hy=>?_⟩,Int.le_refl _,fun e=>e⟩)
  ·have:=hlt hb
   simp only [Cnd.holds,List.length_singleton];omega
  ·have:=hlt hb
   simp only [List.length_append,List.length_singleton];omega
  ·rcases List.mem_append.1 hy with hy | hy
   ·exact h.k y hy
   ·rw [List.mem_singleton.1 hy];exact hx
theorem dE (r:RD) (h:ROk L r):wp (FF r) fun y=>Pg L r y.2.1:=by
 unfold FF
 refine AF (AD (BK hL r 1 _ h) fun y hy=>AM (fun _=>?_) fun _=>?_)
 ·exact AF (AD (GV hL _ hy.1.ok) fun n hn=>AF (AD (De hL _ _ (by simp) hn.ok) fun p hp=>AA (hy.1.pg (hn.mv hp))))
 ·exact AF (AD (GV hL _ hy.1.ok) fun n hn=>AF (AD (De hL _ _ (by simp) hn.ok) fun p hp=>AA (hy.1.pg (hn.mv hp))))
abbrev FV:=RD→Option (Int×RD×Unit)
abbrev FA:=RD→ByteArray→Option (Int×RD×Unit)
theorem RF {r0 r0' r1 r1' r2 r2':FV} {r3 r3':FA} (r:RD) (h:ROk L r) (H1:∀ q,ROk L q→r.2.1≤q.2.1→wq (r1 q) (r1' q) fun y=>Pg L q y.2.1):wq (Dk r0 r1 r2 r3 r) (Dk r0' r1' r2' r3' r) fun y=>Pg L r y.2.1:=by
 unfold Dk
 refine AK (AG (H1 r h (Int.le_refl _)) fun y1 hy1=>AK (AG (Ah (BK hL _ 3 _ hy1.ok)) fun y2 hy2=>BE (AG (Q:=fun x:Int×Int×RD×Unit=>Pg L r x.2.2.1) (Ae (fun _=>AJ (hy1.mv hy2.1)) fun _=>AK (AG (Ah (BK hL _ 3 _ hy2.1.ok)) fun y3 hy3=>BE (Ae (fun _=>AJ (AJ ((hy1.mv hy2.1).mv hy3.1))) fun _=>AJ (AJ ((hy1.mv hy2.1).mv hy3.1))))) fun x hx=>BE (AG (Q:=fun z:Int×RD×Unit=>Pg L r z.2.1) (Ae (fun _=>?_) fun _=>AJ hx) fun z hz=>AJ hz))))
 exact AK (AG (H1 _ hx.ok hx.le) fun y6 hy6=>AK (AG (Ah (De hL _ _ (by simp) hy6.ok)) fun y7 hy7=>AJ ((hx.mv hy6.toMv).mv hy7)))
theorem VC {r0 r0' r1 r1' r2 r2':FV} {r3 r3':FA} (r:RD) (h:ROk L r) (H2:∀ q,ROk L q→r.2.1≤q.2.1→wq (r2 q) (r2' q) fun y=>Pg L q y.2.1):wq (Em r0 r1 r2 r3 r) (Em r0' r1' r2' r3' r) fun y=>Pg L r y.2.1:=by
 unfold Em
 refine AK (AG (H2 r h (Int.le_refl _)) fun y1 hy1=>BE (AK (AJ (AG (Ix (fun x:GA=>Pg L r x.2.1) (fun x=>(L.length - x.2.1.2.1).toNat) (Q:=fun z:Int×RD×Unit=>Pg L r z.2.1) (fun x hx=>?_) hy1) fun z hz=>AJ hz))))
 unfold Jk
 refine AK (AG (Ah (BK hL _ 3 _ hx.ok)) fun y3 hy3=>Ae (fun hb=>?_) fun _=>CB (AJ (Ak (hx.mv hy3.1))))
 have hlt:=(hy3.2 hb).2
 refine AK (AG (H2 _ hy3.1.ok (Int.le_trans hx.le hy3.1.le)) fun y4 hy4=>AK (AG (Ah (De hL _ _ (by simp) hy4.ok)) fun y5 hy5=>CB (AJ (Al ⟨(hx.mv hy3.1).mv (hy4.toMv.trans hy5),?_⟩))))
 have h4:=hy4.le
 have h5:=hy5.le
 have h6:=hy5.ok.a1
 simp only
 omega
theorem SL {r0 r0' r1 r1' r2 r2':FV} {r3 r3':FA} (r:RD) (nm:ByteArray) (h:ROk L r) (H0:∀ q,ROk L q→r.2.1≤q.2.1→wq (r0 q) (r0' q) fun y=>Pg L q y.2.1):wq (EJ r0 r1 r2 r3 r nm) (EJ r0' r1' r2' r3' r nm) fun y=>Mv L r y.2.1:=by
 unfold EJ
 refine AK (AG (Ah (BK hL _ 3 _ h)) fun y hy=>BE (AG (Q:=fun x:ByteArray×List Int×RD×Unit=>Mv L r x.2.2.1∧x.2.1.length≤100000) (Ae (fun _=>?_) fun _=>AJ ⟨hy.1,by simp⟩) fun x hx=>AK (AG (Ah (De hL _ _ hx.2 hx.1.ok)) fun p hp=>AJ (hx.1.trans hp))))
 refine BE (AK (AJ (AG (Ix (fun x:Fc=>Mv L r x.2.2.1∧((x.2.1.length:Int)≤x.2.2.1.2.1∨(x.2.2.1.2.2.1=true∧(x.2.1.length:Int)≤x.2.2.1.2.1+1))) (fun x=>2 * (L.length - x.2.2.1.2.1).toNat+(bif x.2.2.1.2.2.1 then 0 else 1)) (Q:=fun x:ByteArray×List Int×RD×Unit=>Mv L r x.2.2.1∧x.2.1.length≤100000) (fun x hx=>?_) ⟨hy.1,.inl (by have:=hy.1.ok.a0;simpa using this)⟩) fun z hz=>AJ hz)))
 obtain⟨x0,x1,x2,_⟩:=x
 simp only at hx
 obtain⟨g1,g2⟩:=hx
 have ga:=g1.ok.a1
 unfold JA
 simp only
 refine Ae (fun hb=>?_) fun _=>CB (AJ (Ak ⟨g1,by simp only;omega⟩))
 have hbad:x2.2.2.1=false:=by
  cases hc:x2.2.2.1
  ·rfl
  ·rw [hc] at hb;cases hb
 have gl:(x1.length:Int)≤x2.2.1:=by
  rcases g2 with g2 | ⟨g2,_⟩
  ·exact g2
  ·rw [hbad] at g2;cases g2
 refine AK (AG (H0 _ g1.ok g1.le) fun y3 hy3=>Ar (by simp only [Cnd.holds,List.length_singleton];omega) (AK (AG (Ah (BK hL _ 3 _ hy3.ok)) fun y4 hy4=>Ae (fun _=>CB (AJ (Ak ⟨(g1.pg hy3).toMv.trans hy4.1,by simp only [List.length_append,List.length_singleton];omega⟩))) fun _=>AK (AG (Ah (CR hL _ _ hy4.1.ok)) fun y5 hy5=>CB (AJ (Al ⟨⟨((g1.pg hy3).toMv.trans hy4.1).trans hy5.toMv,?_⟩,?_⟩))))))
 ·have h1:=(hy3.mv (hy4.1.trans hy5.toMv)).pg
  have h2:=(hy3.mv (hy4.1.trans hy5.toMv)).le
  simp only [List.length_append,List.length_singleton]
  rcases h1 with h1 | h1
  ·exact .inr ⟨h1,by omega⟩
  ·exact .inl (by omega)
 ·have h1:=(hy3.mv (hy4.1.trans hy5.toMv)).pg
  have h2:=(hy3.mv (hy4.1.trans hy5.toMv)).le
  have h3:=hy5.ok.a1
  simp only [hbad,cond_false]
  rcases h1 with h1 | h1
  ·rw [h1,cond_true];omega
  ·cases y5.1.2.2.1<;>simp only [cond_true,cond_false]<;>omega
theorem Jy {Q:Int×RD×Unit→Prop} {b:Bool} {x x' y y':Option (Int×RD×Unit)} (h1:b=true→wq x x' Q) (h2:b=false→wq y y' Q) (hQ:∀ z:Int×RD×Unit,Q z→Q (z.1,z.2.1,())):wq (AB (bif b then x else y) fun z=>some (z.1,z.2.1,())) (AB (bif b then x' else y') fun z=>some (z.1,z.2.1,())) Q:=
 BE (AG (Ae h1 h2) fun z hz=>AJ (hQ z hz))
theorem TB {r0 r0' r1 r1' r2 r2':FV} {r3 r3':FA} (r:RD) (h:ROk L r) (H0:∀ q,ROk L q→r.2.1<q.2.1→wq (r0 q) (r0' q) fun y=>Pg L q y.2.1) (H2:∀ q,ROk L q→r.2.1<q.2.1→wq (r2 q) (r2' q) fun y=>Pg L q y.2.1)
 (H3:∀ q nm,ROk L q→r.2.1<q.2.1→wq (r3 q nm) (r3' q nm) fun y=>Mv L q y.2.1):wq (EL r0 r1 r2 r3 r) (EL r0' r1' r2' r3' r) fun y=>Pg L r y.2.1:=by
 unfold EL
 refine BE (AG (Q:=fun x:Bool×RD×Unit=>x.2.1=r∧(x.1=false→r.2.1<L.length)) (Ae (fun _=>AJ ⟨rfl,fun h=>by cases h⟩) fun _=>Ae (fun _=>AJ ⟨rfl,fun h=>by cases h⟩) fun hb=>AJ ⟨rfl,fun _=>?_⟩) fun x hx=>?_)
 ·have:¬ (List.length r.1:Int)≤r.2.1:=by simpa using hb
  rw [h.l] at this;omega
 obtain⟨x0,x1,_⟩:=x
 simp only at hx
 obtain⟨e,hlt⟩:=hx
 subst e
 simp only
 refine Ae (fun _=>AJ (Mv.rfl' h).bad) fun hb=>?_
 have hlt:=hlt hb
 have hi:(Cnd.idx x1.2.1 (List.length x1.1)).holds:=⟨h.a0,by rw [h.l];exact hlt⟩
 have fin:∀ z:Int×RD×Unit,Pg L x1 z.2.1→Pg L x1 ((z.1,z.2.1,()):Int×RD×Unit).2.1:=fun z hz=>hz
 refine Ar hi (BE (AG (Q:=fun z:Int×RD×Unit=>Pg L x1 z.2.1) (Ae (fun _=>?_) fun _=>?_) fun z hz=>AJ (hz.deep _)))
 ·rw [YC hL h,show x1.2.1+1 - 1=x1.2.1 by omega,Af (x:=x1.2.1) (by have:=h.a0;omega) (by have:=h.a1;omega)]
  have hn:=((Mv.rfl' h).next hlt).deep (IntKind.wrap .i64 (x1.2.2.2.1+1))
  exact Ar hi (AK (AG (Ah (De hL _ _ (by simp) hn.ok)) fun y hy=>AJ (hn.mv hy)))
 have m0:=(Mv.rfl' h).deep (IntKind.wrap .i64 (x1.2.2.2.1+1))
 have nx:∀ {a b:RD},Mv L x1 a→a.2.1<b.2.1→x1.2.1<b.2.1:=fun h1 h2=>by have:=h1.le;omega
 refine AK (AG (Ah (BK hL _ 3 _ m0.ok)) fun y3 hy3=>Jy hL (fun hb=>?_) (fun _=>?_) fin)
 ·have p:=m0.pg (hy3.2 hb).1
  exact AK (AG (Ah (GV hL _ p.ok)) fun n hn=>AK (AG (Ah (De hL _ _ (by simp) hn.ok)) fun q hq=>AJ ((p.mv hn.toMv).mv hq)))
 have m1:=m0.trans hy3.1
 refine AK (AG (Ah (BK hL _ 3 _ m1.ok)) fun y6 hy6=>Jy hL (fun hb=>?_) (fun _=>?_) fin)
 ·have p:=m1.pg (hy6.2 hb).1
  exact AK (AG (Ah (dE hL _ p.ok)) fun q hq=>AJ (p.mv hq.toMv))
 have m2:=m1.trans hy6.1
 refine AK (AG (Ah (BK hL _ 3 _ m2.ok)) fun y8 hy8=>Jy hL (fun hb=>?_) (fun _=>?_) fin)
 ·have p:=m2.pg (hy8.2 hb).1
  exact AK (AG (H0 _ p.ok (nx m2 (hy8.2 hb).2)) fun v hv=>AK (AG (Ah (CR hL _ _ hv.ok)) fun q hq=>AJ ((p.mv hv.toMv).mv hq.toMv)))
 have m3:=m2.trans hy8.1
 refine AK (AG (Ah (BK hL _ 1 _ m3.ok)) fun y11 hy11=>Jy hL (fun hb=>?_) (fun _=>?_) fin)
 ·have p:=m3.pg (hy11.2 hb).1
  exact AK (AG (Ah (GV hL _ p.ok)) fun n hn=>AK (AG (Ah (De hL _ _ (by simp) hn.ok)) fun q hq=>AJ ((p.mv hn.toMv).mv hq)))
 have m4:=m3.trans hy11.1
 refine AK (AG (Ah (BK hL _ 1 _ m4.ok)) fun y14 hy14=>Jy hL (fun hb=>?_) (fun _=>?_) fin)
 ·have p:=m4.pg (hy14.2 hb).1
  exact AK (AG (Ah (De hL _ _ (by simp) p.ok)) fun q hq=>AJ (p.mv hq))
 have m5:=m4.trans hy14.1
 refine AK (AG (Ah (BK hL _ 1 _ m5.ok)) fun y16 hy16=>Jy hL (fun hb=>?_) (fun _=>?_) fin)
 ·have p:=m5.pg (hy16.2 hb).1
  exact AK (AG (H2 _ p.ok (nx m5 (hy16.2 hb).2)) fun v hv=>AK (AG (Ah (De hL _ _ (by simp) hv.ok)) fun q hq=>AJ ((p.mv hv.toMv).mv hq)))
 have m6:=m5.trans hy16.1
 refine AK (AG (Ah (GV hL _ m6.ok)) fun n hn=>AK (AG (Ah (BK hL _ 3 _ hn.ok)) fun y20 hy20=>Jy hL (fun hb=>?_) (fun _=>?_) fin))
 ·have p:=(m6.pg hn).mv hy20.1
  exact AK (AG (H3 _ _ p.ok (nx (m6.trans hn.toMv) (hy20.2 hb).2)) fun q hq=>AJ (p.mv hq))
 ·have p:=(m6.pg hn).mv hy20.1
  exact AK (AG (Ah (De hL _ _ (by simp) p.ok)) fun q hq=>AJ (p.mv hq))
theorem dn:∀ k:Nat,(∀ n n',4 * k+2≤n→4 * k+2≤n'→∀ r,ROk L r→L.length - r.2.1≤k→wq ((AE n).2.2.1 r) ((AE n').2.2.1 r) fun y=>Pg L r y.2.1) ∧
 (∀ n n',4 * k+3≤n→4 * k+3≤n'→∀ r,ROk L r→L.length - r.2.1≤k→wq ((AE n).2.1 r) ((AE n').2.1 r) fun y=>Pg L r y.2.1) ∧
 (∀ n n',4 * k+4≤n→4 * k+4≤n'→∀ r,ROk L r→L.length - r.2.1≤k→wq ((AE n).1 r) ((AE n').1 r) fun y=>Pg L r y.2.1) ∧
 (∀ n n',4 * k+5≤n→4 * k+5≤n'→∀ r nm,ROk L r→L.length - r.2.1≤k→wq ((AE n).2.2.2.1 r nm) ((AE n').2.2.2.1 r nm) fun y=>Mv L r y.2.1):=by
 intro k
 induction k with
 | zero=>
  have hT:∀ n n',4 * 0+2≤n→4 * 0+2≤n'→∀ r,ROk L r→L.length - r.2.1≤(0:Nat)→wq ((AE n).2.2.1 r) ((AE n').2.2.1 r) fun y=>Pg L r y.2.1:=by
   intro n n' hn hn' r h hk
   obtain⟨n,rfl⟩:∃ j,n=j+1:=⟨n - 1,by omega⟩
   obtain⟨n',rfl⟩:∃ j,n'=j+1:=⟨n' - 1,by omega⟩
   exact TB hL (r1:=(AE n).2.1) (r1':=(AE n').2.1) r h (fun q hq hlt=>by have:=hq.a1;omega) (fun q hq hlt=>by have:=hq.a1;omega) (fun q nm hq hlt=>by have:=hq.a1;omega)
  have hS:∀ n n',4 * 0+3≤n→4 * 0+3≤n'→∀ r,ROk L r→L.length - r.2.1≤(0:Nat)→wq ((AE n).2.1 r) ((AE n').2.1 r) fun y=>Pg L r y.2.1:=by
   intro n n' hn hn' r h hk
   obtain⟨n,rfl⟩:∃ j,n=j+1:=⟨n - 1,by omega⟩
   obtain⟨n',rfl⟩:∃ j,n'=j+1:=⟨n' - 1,by omega⟩
   exact VC hL (r0:=(AE n).1) (r0':=(AE n').1) (r1:=(AE n).2.1) (r1':=(AE n').2.1) (r3:=(AE n).2.2.2.1) (r3':=(AE n').2.2.2.1) r h (fun q hq hle=>hT n n' (by omega) (by omega) q hq (by omega))
  have hV:∀ n n',4 * 0+4≤n→4 * 0+4≤n'→∀ r,ROk L r→L.length - r.2.1≤(0:Nat)→wq ((AE n).1 r) ((AE n').1 r) fun y=>Pg L r y.2.1:=by
   intro n n' hn hn' r h hk
   obtain⟨n,rfl⟩:∃ j,n=j+1:=⟨n - 1,by omega⟩
   obtain⟨n',rfl⟩:∃ j,n'=j+1:=⟨n' - 1,by omega⟩
   exact RF hL (r0:=(AE n).1) (r0':=(AE n').1) (r2:=(AE n).2.2.1) (r2':=(AE n').2.2.1) (r3:=(AE n).2.2.2.1) (r3':=(AE n').2.2.2.1) r h (fun q hq hle=>hS n n' (by omega) (by omega) q hq (by omega))
  refine⟨hT,hS,hV,fun n n' hn hn' r nm h hk=>?_⟩
  obtain⟨n,rfl⟩:∃ j,n=j+1:=⟨n - 1,by omega⟩
  obtain⟨n',rfl⟩:∃ j,n'=j+1:=⟨n' - 1,by omega⟩
  exact SL hL (r1:=(AE n).2.1) (r1':=(AE n').2.1) (r2:=(AE n).2.2.1) (r2':=(AE n').2.2.1) (r3:=(AE n).2.2.2.1) (r3':=(AE n').2.2.2.1) r nm h (fun q hq hle=>hV n n' (by omega) (by omega) q hq (by omega))
 | succ k ih=>
  obtain⟨iT,iS,iV,iA⟩:=ih
  have hT:∀ n n',4 * (k+1)+2≤n→4 * (k+1)+2≤n'→∀ r,ROk L r→L.length - r.2.1≤(k+1:Nat)→wq ((AE n).2.2.1 r) ((AE n').2.2.1 r) fun y=>Pg L r y.2.1:=by
   intro n n' hn hn' r h hk
   obtain⟨n,rfl⟩:∃ j,n=j+1:=⟨n - 1,by omega⟩
   obtain⟨n',rfl⟩:∃ j,n'=j+1:=⟨n' - 1,by omega⟩
   exact TB hL (r1:=(AE n).2.1) (r1':=(AE n').2.1) r h (fun q hq hlt=>iV n n' (by omega) (by omega) q hq (by omega)) (fun q hq hlt=>iT n n' (by omega) (by omega) q hq (by omega)) (fun q nm hq hlt=>iA n n' (by omega) (by omega) q nm hq (by omega))
  have hS:∀ n n',4 * (k+1)+3≤n→4 * (k+1)+3≤n'→∀ r,ROk L r→L.length - r.2.1≤(k+1:Nat)→wq ((AE n).2.1 r) ((AE n').2.1 r) fun y=>Pg L r y.2.1:=by
   intro n n' hn hn' r h hk
   obtain⟨n,rfl⟩:∃ j,n=j+1:=⟨n - 1,by omega⟩
   obtain⟨n',rfl⟩:∃ j,n'=j+1:=⟨n' - 1,by omega⟩
   exact VC hL (r0:=(AE n).1) (r0':=(AE n').1) (r1:=(AE n).2.1) (r1':=(AE n').2.1) (r3:=(AE n).2.2.2.1) (r3':=(AE n').2.2.2.1) r h (fun q hq hle=>hT n n' (by omega) (by omega) q hq (by omega))
  have hV:∀ n n',4 * (k+1)+4≤n→4 * (k+1)+4≤n'→∀ r,ROk L r→L.length - r.2.1≤(k+1:Nat)→wq ((AE n).1 r) ((AE n').1 r) fun y=>Pg L r y.2.1:=by
   intro n n' hn hn' r h hk
   obtain⟨n,rfl⟩:∃ j,n=j+1:=⟨n - 1,by omega⟩
   obtain⟨n',rfl⟩:∃ j,n'=j+1:=⟨n' - 1,by omega⟩
   exact RF hL (r0:=(AE n).1) (r0':=(AE n').1) (r2:=(AE n).2.2.1) (r2':=(AE n').2.2.1) (r3:=(AE n).2.2.2.1) (r3':=(AE n').2.2.2.1) r h (fun q hq hle=>hS n n' (by omega) (by omega) q hq (by omega))
  refine⟨hT,hS,hV,fun n n' hn hn' r nm h hk=>?_⟩
  obtain⟨n,rfl⟩:∃ j,n=j+1:=⟨n - 1,by omega⟩
  obtain⟨n',rfl⟩:∃ j,n'=j+1:=⟨n' - 1,by omega⟩
  exact SL hL (r1:=(AE n).2.1) (r1':=(AE n').2.1) (r2:=(AE n).2.2.1) (r2':=(AE n').2.2.1) (r3:=(AE n).2.2.2.1) (r3':=(AE n').2.2.2.1) r nm h (fun q hq hle=>hV n n' (by omega) (by omega) q hq (by omega))
theorem MU (r:RD) (h:ROk L r):wp (CA r) fun y=>Pg L r y.2.1:=by
 unfold CA
 exact Kc (4 * 3000+4) fun n hn=>(dn hL 3000).2.2.1 n _ hn (Nat.le_refl _) r h (by have:=h.a0;omega)
end
end Go.Proofs.YtmakhmoielhjeaaGreatDoorE
namespace Go.Proofs.YtmakhmoielhjeaaGreatDoorE
set_option linter.all false
def dd (u:Nat):ByteArray:=if u=0 then ⟨#[]⟩ else ⟨(Lib.decDigits u).toArray⟩
theorem SO (a b:List UInt8):(⟨a.toArray⟩:ByteArray)++⟨b.toArray⟩=⟨(a++b).toArray⟩:=by
 apply ByteArray.ext
 simp
theorem YO {d:Nat} (h:d<10):bts [((48+d:Nat):Int)]=⟨[UInt8.ofNat (48+d)].toArray⟩:=rfl
theorem ce {u:Nat} (h:u≠0):dd u=dd (u / 10)++bts [((48+u % 10:Nat):Int)]:=by
 rw [YO (Nat.mod_lt _ (by omega))]
 unfold dd
 rw [if_neg h,Lib.decDigits]
 split
 ·rename_i h10
  rw [if_pos (by omega),Nat.mod_eq_of_lt h10]
  apply ByteArray.ext;simp
 ·rename_i h10
  rw [if_neg (by omega),SO]
theorem dw {n:Nat} (h:n<256):IntKind.wrap .u8 (n:Int)=n:=by
 have e:(2:Int) ^ IntKind.u8.bits=256:=by decide
 simp only [IntKind.wrap,e,show IntKind.u8.signed=false from rfl,Bool.false_and,Bool.false_eq_true,if_false]
 omega
theorem OL {d:Nat} (h:d<10):Ha (d:Int)=some (((48+d:Nat):Int),()):=by
 have e:(48:Int)+(d:Int)=((48+d:Nat):Int):=by omega
 simp only [Ha,show((d:Int)<10) by omega,decide_true,cond_true,e,WO (show 48+d<9223372036854775808 by omega),dw (show 48+d<256 by omega)]
theorem Vp (x:Int):(bts [x]).size=1:=rfl
theorem ip {α:Type} {K:Option α}:(Cnd.nz (10:Int)).run K=K:=by
 simp only [Cnd.run];rw [if_neg (by decide)]
theorem am (neg:Bool):∀ (k:Nat) (n:Int) (out:ByteArray),n.natAbs<10 ^ k→-9223372036854775808≤n→n≤9223372036854775807→out.size+k≤1000→AH DP (n,neg,out,())=some (neg,dd n.natAbs++out,()):=by
 intro k
 induction k with
 | zero=>
  intro n out hn _ _ _
  have h0:n=0:=by simp at hn;omega
  subst h0
  rw [BH (r:=(neg,out,()))]
  ·have:dd (Int.natAbs 0)++out=out:=by
    apply ByteArray.ext;simp [dd]
   rw [this]
  ·simp [DP]
 | succ k ih=>
  intro n out hn h1 h2 hs
  by_cases h0:n=0
  ·subst h0
   rw [BH (r:=(neg,out,()))]
   ·have:dd (Int.natAbs 0)++out=out:=by
     apply ByteArray.ext;simp [dd]
    rw [this]
   ·simp [DP]
  ·have hm:n.natAbs % 10<10:=Nat.mod_lt _ (by omega)
   have hq:(Int.tdiv n 10).natAbs=n.natAbs / 10:=by rw [Int.natAbs_tdiv];rfl
   have hqb:-9223372036854775808≤Int.tdiv n 10∧Int.tdiv n 10≤9223372036854775807:=by
    have:(Int.tdiv n 10).natAbs≤922337203685477580:=by rw [hq];omega
    omega
   have hw:IntKind.wrap .i64 (Int.tdiv n 10)=Int.tdiv n 10:=Af hqb.1 (by omega)
   rw [Bi (b':=(Int.tdiv n 10,neg,bts [((48+n.natAbs % 10:Nat):Int)]++out,())),ih _ _ (by rw [hq];rw [Nat.pow_succ] at hn;omega) hqb.1 hqb.2 (by rw [ByteArray.size_append,Vp];omega),hq,ce (u:=n.natAbs) (by omega),ByteArray.append_assoc]
   have hmod:(if Int.tmod n 10<0 then - Int.tmod n 10 else Int.tmod n 10)=((n.natAbs % 10:Nat):Int):=by
    have h3:(Int.tmod n 10).natAbs=n.natAbs % 10:=by rw [Int.natAbs_tmod];rfl
    split<;>omega
   have hle:∀ {α:Type} {K:Option α},(Cnd.le ((bts [((48+n.natAbs % 10:Nat):Int)]).size+out.size) Ai).run K=K:=fun {α} {K}=>Bx (by rw [Vp];simp only [Ai];omega)
   by_cases hneg:Int.tmod n 10<0
   ·rw [if_pos hneg] at hmod
    have hw2:IntKind.wrap .i64 (0 - Int.tmod n 10)=((n.natAbs % 10:Nat):Int):=by
     rw [show(0:Int) - Int.tmod n 10=((n.natAbs % 10:Nat):Int) by omega]
     exact WO (by omega)
    simp only [DP,ne_eq,h0,not_false_eq_true,decide_true,cond_true,ip,hneg,hw2,AC,OL hm,Option.bind_some,hle,hw,Option.map_some]
   ·rw [if_neg hneg] at hmod
    simp only [DP,ne_eq,h0,not_false_eq_true,decide_true,cond_true,ip,hmod,show ¬ (((n.natAbs % 10:Nat):Int)<0) by omega,decide_false,cond_false,AC,OL hm,Option.bind_some,hle,hw,Option.map_some]
def itb (n:Int):ByteArray:=⟨(Lib.itoa n).toArray⟩
theorem bI {n:Int} (h0:-9223372036854775808≤n) (h1:n≤9223372036854775807):(itb n).size≤21:=by
 have:=Lib.itoa_length_le n h0 h1
 simpa [itb,ByteArray.size] using this
theorem Qv (n:Int) (h0:-9223372036854775808≤n) (h1:n≤9223372036854775807):Ja n=some (itb n,()):=by
 simp only [Ja,itb]
 by_cases hz:n=0
 ·subst hz
  simp only [decide_true,cond_true]
  have:Lib.itoa 0=[48]:=by
   unfold Lib.itoa;rw [if_neg (by omega)];exact Lib.decDigits_one (by omega)
  rw [this];rfl
 ·have h3:=am (decide (n<0)) 20 n ⟨#[]⟩ (by
   have:(10:Nat) ^ 20=100000000000000000000:=by decide
   omega) h0 h1 (by decide)
  have h4:dd n.natAbs++⟨#[]⟩=(⟨(Lib.decDigits n.natAbs).toArray⟩:ByteArray):=by
   unfold dd
   rw [if_neg (by omega)]
   apply ByteArray.ext;simp
  rw [h4] at h3
  have hsz:(⟨(Lib.decDigits n.natAbs).toArray⟩:ByteArray).size≤21:=by
   have:=Lib.itoa_length_le n h0 h1
   unfold Lib.itoa at this
   simp only [ByteArray.size,List.size_toArray]
   split at this
   ·simp at this;omega
   ·rename_i hn
    rw [show n.natAbs=n.toNat by omega];omega
  simp only [hz,decide_false,cond_false,Option.bind_some,h3,AC,Lib.itoa]
  by_cases hn:n<0
  ·have e1:s___3973.size=1:=rfl
   simp only [hn,decide_true,cond_true,if_true]
   rw [Bx (by simp only [Ai];omega)]
   have e2:s___3973=⟨[(45:UInt8)].toArray⟩:=rfl
   rw [e2,SO];rfl
  ·simp only [hn,decide_false,cond_false,if_false]
   rw [show n.natAbs=n.toNat by omega]
end Go.Proofs.YtmakhmoielhjeaaGreatDoorE
namespace Go.Proofs.YtmakhmoielhjeaaGreatDoorE
set_option linter.all false
abbrev Made:=List ByteArray×(List ByteArray×(Int×(ByteArray×Bool)))
structure MOk (k:Nat) (m:Made):Prop where
 i:∀ s∈m.1,s.size≤30
 b:∀ s∈m.2.1,s.size≤30
 il:m.1.length≤k
 bl:m.2.1.length≤k
 n0:0≤m.2.2.1
 n1:m.2.2.1≤k
 t:m.2.2.2.1.size≤1000 * k
theorem MOk.mono {k k':Nat} {m:Made} (h:MOk k m) (hk:k≤k'):MOk k' m:=⟨h.i,h.b,by have:=h.il;omega,by have:=h.bl;omega,h.n0,by have:=h.n1;omega,by have:=h.t;omega⟩
theorem cle {a b:Nat} (h:a+b≤1000000000000):(Cnd.le (a+b) Ai).holds:=by simp only [Cnd.holds,Ai];omega
theorem ZA:s_0_5fec.size=1:=by decide
theorem Xu:s_10_4a44.size=2:=by decide
theorem ZB:s_1_6b86.size=1:=by decide
theorem ZC:s_2_d473.size=1:=by decide
theorem ZD:s_3_4e07.size=1:=by decide
theorem PM:s_500000000_ee3f.size=9:=by decide
theorem ZE:s_7_7902.size=1:=by decide
theorem br:s___32eb.size=1:=by decide
theorem bt:s___36a9.size=1:=by decide
theorem bu:s___3973.size=1:=by decide
theorem QN:s___6848.size=1:=by decide
theorem OA:s____0__while__874d.size=12:=by decide
theorem ZF:s____0a07.size=2:=by decide
theorem ZG:s____0a2d.size=2:=by decide
theorem TK:s____1___e636.size=6:=by decide
theorem ZH:s____73db.size=2:=by decide
theorem Xv:s_____0a45.size=3:=by decide
theorem Xw:s_____2591.size=3:=by decide
theorem Xx:s_____4620.size=3:=by decide
theorem Xy:s_____7bac.size=3:=by decide
theorem Vf:s______17ce.size=4:=by decide
theorem Vg:s______737d.size=4:=by decide
theorem Xz:s_____fe90.size=3:=by decide
theorem Qz:s_____mut__b552.size=8:=by decide
theorem QO:s____clone__9670.size=9:=by decide
theorem ZI:s____e220.size=2:=by decide
theorem SH:s____new__f832.size=7:=by decide
theorem bv:s___ba5e.size=1:=by decide
theorem QP:s___print___4de9.size=9:=by decide
theorem ZJ:s_b_3e23.size=1:=by decide
theorem NE:s_do_bump__mut__fbff.size=13:=by decide
theorem RA:s_do_eat__d60f.size=7:=by decide
theorem PN:s_do_show___6204.size=9:=by decide
theorem TL:s_else__8873.size=5:=by decide
theorem ZK:s_i_de7d.size=1:=by decide
theorem Vh:s_if__9889.size=3:=by decide
theorem TM:s_input_c96c.size=5:=by decide
theorem VD:s_let__de0c.size=4:=by decide
theorem ZL:s_m_62c6.size=1:=by decide
theorem TN:s_make__0b50.size=5:=by decide
theorem VE:s_new__e703.size=4:=by decide
theorem SI:s_print__5b23.size=6:=by decide
theorem ZM:s_r_4543.size=1:=by decide
theorem VF:s_sum__4072.size=4:=by decide
theorem ZN:s_w_50e7.size=1:=by decide
theorem szs:s_0_5fec.size=1∧s_10_4a44.size=2∧s_1_6b86.size=1∧s_2_d473.size=1∧s_3_4e07.size=1∧s_500000000_ee3f.size=9∧s_7_7902.size=1∧s___32eb.size=1∧s___36a9.size=1∧s___3973.size=1∧s___6848.size=1∧s____0__while__874d.size=12∧s____0a07.size=2∧s____0a2d.size=2∧s____1___e636.size=6∧s____73db.size=2∧s_____0a45.size=3∧s_____2591.size=3∧s_____4620.size=3∧s_____7bac.size=3∧s______17ce.size=4∧s______737d.size=4∧s_____fe90.size=3∧s_____mut__b552.size=8∧s____clone__9670.size=9∧s____e220.size=2∧s____new__f832.size=7∧s___ba5e.size=1∧s___print___4de9.size=9∧s_b_3e23.size=1∧s_do_bump__mut__fbff.size=13∧s_do_eat__d60f.size=7∧s_do_show___6204.size=9∧s_else__8873.size=5∧s_i_de7d.size=1∧s_if__9889.size=3∧s_input_c96c.size=5∧s_let__de0c.size=4∧s_m_62c6.size=1∧s_make__0b50.size=5∧s_new__e703.size=4∧s_print__5b23.size=6∧s_r_4543.size=1∧s_sum__4072.size=4∧s_w_50e7.size=1:=⟨ZA,Xu,ZB,ZC,ZD,PM,ZE,br,bt,bu,QN,OA,ZF,ZG,TK,ZH,Xv,Xw,Xx,Xy,Vf,Vg,Xz,Qz,QO,ZI,SH,bv,QP,ZJ,NE,RA,PN,TL,ZK,Vh,TM,VD,ZL,TN,VE,SI,ZM,VF,ZN⟩
theorem Nd (m:Made) (l:List ByteArray) (c:Cur) (hl:l≠[]) (h:COk c):wp (CG m l c) fun r=>r.1∈l∧COk r.2.1:=by
 unfold CG
 have hp:0<(l.length:Int):=by have:=List.length_pos_iff.2 hl;omega
 exact AF (AD (Bv c _ h) fun y hy=>AL ⟨hy.1,hy.2.1 hp⟩ (AA ⟨CE _ _ _ hy.1 (hy.2.1 hp),hy.2.2.2⟩))
theorem Sp (m:Made) (c:Cur) (h:COk c):wp (Cs m c) fun r=>r.1.size≤30∧COk r.2.1:=by
 unfold Cs
 refine AF (AD (WD c _ (by simp) h) fun y hy=>AA ⟨?_,hy.2⟩)
 have h1:=hy.1
 simp only [List.mem_cons,List.not_mem_nil,or_false] at h1
 rcases h1 with e | e | e | e | e | e | e<;>rw [e]<;>decide
theorem OW {D:Type} {l:List D} (h:(0:Int)<(l.length:Int)):l≠[]:=by
 intro e;rw [e] at h;simp at h
theorem CF {k:Nat} (m:Made) (c:Cur) (hm:MOk k m) (h:COk c):wp (Ap m c) fun r=>r.1.size≤40∧COk r.2.1:=by
 unfold Ap
 refine AF (AD (Bv c 5 h) fun y hy=>AR (AD (Q:=fun x:Made×Int×Bool×Cur×Unit=>x.1=m∧COk x.2.2.2.1∧(x.2.2.1=true→m.1≠[])) (AM (fun _=>AA ⟨rfl,hy.2.2.2,fun hb=>OW (by simpa using hb)⟩) (fun _=>AA ⟨rfl,hy.2.2.2,fun hb=>by cases hb⟩)) fun x hx=>?_))
 obtain⟨x1,x2,x3,x4,_⟩:=x
 obtain⟨rfl,hc,hi⟩:=hx
 refine AM (fun hb=>AF (AD (Nd _ _ _ (hi hb) hc) fun y hy=>AA ⟨by have:=hm.i _ hy.1;simp only;omega,hy.2⟩)) (fun _=>AR (AD (Q:=fun x:Made×Bool×Cur×Unit=>x.1=x1∧COk x.2.2.1∧(x.2.1=true→x1.2.1≠[])) (AM (fun _=>AA ⟨rfl,hc,fun hb=>OW (by simpa using hb)⟩) (fun _=>AA ⟨rfl,hc,fun hb=>by cases hb⟩)) fun x hx=>?_))
 obtain⟨z1,z2,z3,_⟩:=x
 obtain⟨rfl,hc,hi⟩:=hx
 refine AM (fun hb=>AF (AD (Nd _ _ _ (hi hb) hc) fun y hy=>?_)) (fun _=>AF (AD (Sp _ _ hc) fun y hy=>AA ⟨by simp only;omega,hy.2⟩))
 have h1:=hm.b _ hy.1
 exact AL (cle (by simp only [QN];omega)) (AA ⟨by simp only [AQ,QN];omega,hy.2⟩)
theorem Np {k:Nat} (m:Made) (c:Cur) (hm:MOk k m) (h:COk c):wp (Bz m c) fun r=>r.1.size≤150∧COk r.2.1:=by
 unfold Bz
 refine AF (AD (Bv c 7 h) fun y hy=>?_)
 have h:=hy.2.2.2
 refine AM (fun _=>?_) fun _=>AM (fun _=>?_) fun _=>AM (fun _=>?_) fun _=>AM (fun _=>?_) fun _=>?_
 ·refine AF (AD (CF m _ hm h) fun a ha=>AL (cle (by first | omega | (simp only [AQ,szs];omega))) (AF (AD (CF m _ hm ha.2) fun b hb=>AL (cle (by first | omega | (simp only [AQ,szs];omega))) (AA ⟨by simp only [AQ,szs];omega,hb.2⟩))))
 ·refine AF (AD (CF m _ hm h) fun a ha=>AL (cle (by first | omega | (simp only [AQ,szs];omega))) (AF (AD (CF m _ hm ha.2) fun b hb=>AL (cle (by first | omega | (simp only [AQ,szs];omega))) (AA ⟨by simp only [AQ,szs];omega,hb.2⟩))))
 ·refine AF (AD (CF m _ hm h) fun a ha=>AL (cle (by first | omega | (simp only [AQ,szs];omega))) (AL (cle (by first | omega | (simp only [AQ,szs];omega))) (AF (AD (CF m _ hm ha.2) fun b hb=>AL (cle (by first | omega | (simp only [AQ,szs];omega))) (AL (cle (by first | omega | (simp only [AQ,szs];omega))) (AF (AD (CF m _ hm hb.2) fun d hd=>AL (cle (by first | omega | (simp only [AQ,szs];omega))) (AA ⟨by simp only [AQ,szs];omega,hd.2⟩))))))))
 ·refine AF (AD (CF m _ hm h) fun a ha=>AL (cle (by first | omega | (simp only [AQ,szs];omega))) (AL (cle (by first | omega | (simp only [AQ,szs];omega))) (AF (AD (CF m _ hm ha.2) fun b hb=>AL (cle (by first | omega | (simp only [AQ,szs];omega))) (AL (cle (by first | omega | (simp only [AQ,szs];omega))) (AA ⟨by simp only [AQ,szs];omega,hb.2⟩))))))
 ·refine Il (AD (Q:=fun s:(Made×Cur×Unit) ⊕ (ByteArray×Cur×Unit)=>(∀ b,s=.inl b→b.1=m∧COk b.2.1)∧∀ r,s=.inr r→r.1.size≤150∧COk r.2.1) (AM (fun _=>?_) fun _=>AN (AA (Al ⟨rfl,h⟩))) fun s hs=>⟨fun b hb=>?_,hs.2⟩)
  ·exact AF (AD (LR _ 3 h) fun y hy=>AM (fun _=>AN (AA (Ak ⟨by simp only [AQ,szs];omega,hy⟩))) fun _=>AN (AA (Al ⟨rfl,hy⟩)))
  ·obtain⟨e,hc⟩:=hs.1 b hb
   rw [e]
   exact AF (AD (CF m _ hm hc) fun y hy=>AA ⟨by simp only;omega,hy.2⟩)
theorem Ig {k:Nat} (m:Made) (s:ByteArray) (c:Cur) (hk:k≤1000000) (hs:s.size≤5) (hm:MOk k m) (h:COk c):wp (BZ m s c) fun r=>r.1.size≤30∧r.2.1=(m.1,(m.2.1,(m.2.2.1+1,m.2.2.2)))∧COk r.2.2.1:=by
 unfold BZ
 have h0:=hm.n0
 have h1:=hm.n1
 rw [Af (x:=m.2.2.1+1) (by omega) (by omega),Qv _ (by omega) (by omega)]
 have:=bI (n:=m.2.2.1+1) (by omega) (by omega)
 exact AF (AA (AL (cle (by simp only;omega)) (AA ⟨by simp only [AQ];omega,rfl,h⟩)))
theorem Ru {k:Nat} (m:Made) (s:ByteArray) (c:Cur) (hk:k≤2000000) (hm:MOk k m) (h:COk c):wp (Ck m s c) fun r=>(∃ bs,r.1=(m.1,(bs,m.2.2))∧(∀ s∈bs,s.size≤30)∧bs.length≤m.2.1.length)∧COk r.2.1:=by
 unfold Ck
 have hbl:=hm.bl
 refine AR (AF (AA ?_))
 refine AD (wp_loop (fun x:Fb=>(∀ s∈x.2.2.1,s.size≤30)∧x.2.2.1.length≤x.2.2.2.1.toNat∧0≤x.2.2.2.1∧x.2.2.2.1≤m.2.1.length∧x.2.2.2.2.1=m∧COk x.2.2.2.2.2.1) (fun x=>m.2.1.length - x.2.2.2.1.toNat)
  (Q:=fun r:Int×List ByteArray×Made×Cur×Unit=>(∀ s∈r.2.1,s.size≤30)∧r.2.1.length≤m.2.1.length∧r.2.2.1=m∧COk r.2.2.2.1) (fun x hx=>?_) ⟨by simp,by simp,by simp,by simp,rfl,h⟩) (fun r hr=>AA ⟨⟨r.2.1,by rw [hr.2.2.1],hr.1,hr.2.1⟩,hr.2.2.2⟩)
 obtain⟨x0,x1,x2,x3,x4,x5,_⟩:=x
 simp only at hx
 obtain⟨g1,g2,g3,g4,g5,g6⟩:=hx
 subst g5
 unfold Iz
 refine AM (fun hb=>?_) (fun hb=>AN (AA (Ak ⟨g1,by simp only;omega,rfl,g6⟩)))
 have hlt:x3<(x4.2.1.length:Int):=by simpa using hb
 have e:IntKind.wrap .i64 (x3+1)=x3+1:=Af (by omega) (by omega)
 refine AR (AD (Q:=fun z:Int×ByteArray×List ByteArray×Int×Bool×Made×Cur×Unit=>z.2.2.1=x2∧z.2.2.2.1=x3∧z.2.2.2.2.2.1=x4∧COk z.2.2.2.2.2.2.1) (AL ⟨g3,hlt⟩ (AM (fun _=>AA ⟨rfl,rfl,rfl,g6⟩) fun _=>AA ⟨rfl,rfl,rfl,g6⟩)) fun z hz=>?_)
 obtain⟨z0,z1,z2,z3,z4,z5,z6,_⟩:=z
 simp only at hz
 obtain⟨q1,q2,q3,g7⟩:=hz
 subst q1 q2 q3
 refine AR (AD (Q:=fun u:Int×ByteArray×List ByteArray×Int×Made×Cur×Unit=>(∀ s∈u.2.2.1,s.size≤30)∧u.2.2.1.length≤z3.toNat+1∧u.2.2.2.1=z3∧u.2.2.2.2.1=z5∧COk u.2.2.2.2.2.1) (AM (fun _=>AL ⟨g3,hlt⟩ (AL ?_ (AA ⟨fun s hs=>?_,by simp;omega,rfl,rfl,g7⟩))) fun _=>AA ⟨g1,by simp only;omega,rfl,rfl,g7⟩) fun u hu=>?_)
 ·simp only [Cnd.holds,List.length_singleton];omega
 ·rcases List.mem_append.1 hs with hs | hs
  ·exact g1 s hs
  ·rw [List.mem_singleton.1 hs]
   exact hm.b _ (CE _ _ _ g3 hlt)
 ·obtain⟨u0,u1,u2,u3,u4,u5,_⟩:=u
  simp only at hu
  obtain⟨k1,k2,k3,k4,k5⟩:=hu
  subst k3 k4
  simp only
  rw [e]
  exact AN (AA (Al ⟨⟨k1,by simp only;omega,by simp only;omega,by simp only;omega,rfl,k5⟩,by simp only;omega⟩))
def RM (k:Nat) (r:Made×Cur×Unit):Prop:=MOk k r.1∧COk r.2.1
theorem GU {k:Nat} {b:Bool} {x y:Option (Made×Cur×Unit)} (h1:b=true→wp x (RM k)) (h2:b=false→wp y (RM k)):wp (AB (bif b then x else y) fun z=>some (z.1,z.2.1,())) (RM k):=
 AR (AD (AM h1 h2) fun z hz=>AA hz)
theorem MOk.mk' {k:Nat} {i bs:List ByteArray} {n:Int} {t:ByteArray} {w:Bool} (h1:∀ s∈i,s.size≤30) (h2:∀ s∈bs,s.size≤30) (h3:i.length≤k) (h4:bs.length≤k) (h5:0≤n) (h6:n≤k) (h7:t.size≤1000 * k):MOk k (i,(bs,(n,(t,w)))):=⟨h1,h2,h3,h4,h5,h6,h7⟩
theorem MOk.txt {k:Nat} {m:Made} (hm:MOk k m) {n:Int} {t:ByteArray} {w:Bool} (h5:0≤n) (h6:n≤(k:Int)+1) (h7:t.size≤1000 * k+1000):MOk (k+1) (m.1,(m.2.1,(n,(t,w)))):=.mk' hm.i hm.b (by have:=hm.il;omega) (by have:=hm.bl;omega) h5 (by omega) (by omega)
theorem MOk.fr {k:Nat} {m:Made} (hm:MOk k m) (h5:0≤m.2.2.1):MOk (k+1) (m.1,(m.2.1,(m.2.2.1+1,m.2.2.2))):=⟨hm.i,hm.b,by have:=hm.il;simp only;omega,by have:=hm.bl;simp only;omega,by simp only;omega,by have:=hm.n1;simp only;omega,by have:=hm.t;simp only;omega⟩
theorem Nc {l:List ByteArray} {x:ByteArray} (h:∀ s∈l,s.size≤30) (hx:x.size≤30):∀ s∈([]:List ByteArray)++l++[x],s.size≤30:=fun s hs=>by
 simp only [List.nil_append] at hs
 rcases List.mem_append.1 hs with hs | hs
 ·exact h s hs
 ·rw [List.mem_singleton.1 hs];exact hx
theorem bN {k:Nat} (m:Made) (g:Bool) (c:Cur) (hk:k≤1000000) (hm:MOk k m) (hb:m.2.1≠[]) (h:COk c):wp (Ek m g c) (RM (k+1)):=by
 unfold Ek
 have ht:=hm.t
 have hn0:=hm.n0
 have hn1:=hm.n1
 have hbl:=hm.bl
 refine AF (AD (Nd m m.2.1 c hb h) fun b hb=>AF (AD (Bv _ 9 hb.2) fun y hy=>?_))
 have hbs:=hm.b _ hb.1
 have h:=hy.2.2.2
 refine GU (fun _=>?_) fun _=>GU (fun _=>?_) fun _=>GU (fun _=>?_) fun _=>GU (fun _=>?_) fun _=>GU (fun _=>?_) fun _=>GU (fun _=>?_) fun _=>GU (fun _=>?_) fun _=>GU (fun _=>?_) fun _=>?_
 ·refine AF (AD (Ig _ s_r_4543 _ hk (by simp only [AQ,szs];omega) hm h) fun f hf=>?_)
  obtain⟨fn,fm,fc,_⟩:=f
  simp only at hf
  obtain⟨f1,f2,f3⟩:=hf
  subst f2
  simp only
  repeat refine AL (cle (by first | omega | (simp only [AQ,szs];omega))) ?_
  exact AA ⟨(hm.txt (by omega) (by omega) (by simp only [AQ,szs];omega)),f3⟩
 ·refine AF (AD (Ig _ s_m_62c6 _ hk (by simp only [AQ,szs];omega) hm h) fun f hf=>?_)
  obtain⟨fn,fm,fc,_⟩:=f
  simp only at hf
  obtain⟨f1,f2,f3⟩:=hf
  subst f2
  simp only
  repeat refine AL (cle (by first | omega | (simp only [AQ,szs];omega))) ?_
  refine AF (AD (CF _ _ (hm.fr hn0) f3) fun a ha=>?_)
  repeat refine AL (cle (by first | omega | (simp only [AQ,szs];omega))) ?_
  exact AA ⟨(hm.txt (by omega) (by omega) (by simp only [AQ,szs];omega)),ha.2⟩
 ·repeat refine AL (cle (by first | omega | (simp only [AQ,szs];omega))) ?_
  exact AA ⟨(hm.txt (by omega) (by omega) (by simp only [AQ,szs];omega)),h⟩
 ·repeat refine AL (cle (by first | omega | (simp only [AQ,szs];omega))) ?_
  refine AF (AD (Sp _ _ h) fun a ha=>?_)
  repeat refine AL (cle (by first | omega | (simp only [AQ,szs];omega))) ?_
  exact AA ⟨(hm.txt (by omega) (by omega) (by simp only [AQ,szs];omega)),ha.2⟩
 ·refine AF (AD (Ig _ s_b_3e23 _ hk (by simp only [AQ,szs];omega) hm h) fun f hf=>?_)
  obtain⟨fn,fm,fc,_⟩:=f
  simp only at hf
  obtain⟨f1,f2,f3⟩:=hf
  subst f2
  simp only
  repeat refine AL (cle (by first | omega | (simp only [AQ,szs];omega))) ?_
  refine AF (AD (LR _ 3 f3) fun o ho=>AR (AD (Q:=fun x:Int×ByteArray×Made×Cur×Unit=>MOk (k+1) x.2.2.1∧x.2.2.1.2.1.length≤k∧x.2.1=fn∧COk x.2.2.2.1) (AM (fun _=>?_) fun _=>AA ⟨(hm.txt (by omega) (by omega) (by simp only [AQ,szs];omega)),by simp only;omega,rfl,ho⟩) fun x hx=>?_))
  ·refine AF (AD (Ru (k:=k+1) _ _ _ (by omega) (hm.txt (by omega) (by omega) (by simp only [AQ,szs];omega)) ho) fun z hz=>?_)
   obtain⟨⟨bs,z1,z2,z3⟩,z4⟩:=hz
   simp only at z1 z3
   rw [z1]
   exact AA ⟨.mk' hm.i z2 (by have:=hm.il;omega) (by omega) (by omega) (by omega) (by simp only [AQ,szs];omega),by simp only;omega,rfl,z4⟩
  ·obtain⟨x1,x2,x3,x4⟩:=hx
   have e3:x.2.1.size≤30:=by rw [x3];exact f1
   refine AL (by simp only [Cnd.holds,List.length_nil];omega) (AL (by simp only [Cnd.holds,List.length_append,List.length_nil,List.length_singleton];omega) (AA ⟨.mk' x1.i (Nc x1.b e3) x1.il (by simp only [List.length_append,List.length_nil,List.length_singleton];omega) x1.n0 x1.n1 x1.t,x4⟩))
 ·repeat refine AL (cle (by first | omega | (simp only [AQ,szs];omega))) ?_
  refine AF (AD (Np m _ hm h) fun a ha=>?_)
  repeat refine AL (cle (by first | omega | (simp only [AQ,szs];omega))) ?_
  exact AA ⟨(hm.txt (by omega) (by omega) (by simp only [AQ,szs];omega)),ha.2⟩
 ·repeat refine AL (cle (by first | omega | (simp only [AQ,szs];omega))) ?_
  repeat refine AL (cle (by first | omega | (simp only [AQ,szs];omega))) ?_
  refine AF (AD (CF m _ hm h) fun a ha=>?_)
  repeat refine AL (cle (by first | omega | (simp only [AQ,szs];omega))) ?_
  exact AA ⟨(hm.txt (by omega) (by omega) (by simp only [AQ,szs];omega)),ha.2⟩
 ·refine GU (fun _=>?_) fun _=>AA ⟨hm.mono (by omega),h⟩
  repeat refine AL (cle (by first | omega | (simp only [AQ,szs];omega))) ?_
  refine AF (AD (Ru (k:=k+1) _ _ _ (by omega) (hm.txt (by omega) (by omega) (by simp only [AQ,szs];omega)) h) fun z hz=>?_)
  obtain⟨⟨bs,z1,z2,z3⟩,z4⟩:=hz
  simp only at z1 z3
  rw [z1]
  exact AA ⟨.mk' hm.i z2 (by have:=hm.il;omega) (by omega) (by omega) (by omega) (by simp only [AQ,szs];omega),z4⟩
 ·refine GU (fun _=>?_) fun _=>AA ⟨hm.mono (by omega),h⟩
  refine AF (AD (Ig _ s_b_3e23 _ hk (by simp only [AQ,szs];omega) hm h) fun f hf=>?_)
  obtain⟨fn,fm,fc,_⟩:=f
  simp only at hf
  obtain⟨f1,f2,f3⟩:=hf
  subst f2
  simp only
  repeat refine AL (cle (by first | omega | (simp only [AQ,szs];omega))) ?_
  refine AF (AD (Ru (k:=k+1) _ _ _ (by omega) (hm.txt (by omega) (by omega) (by simp only [AQ,szs];omega)) f3) fun z hz=>?_)
  obtain⟨⟨bs,z1,z2,z3⟩,z4⟩:=hz
  simp only at z1 z3
  rw [z1]
  refine AL (by simp only [Cnd.holds,List.length_nil];omega) (AL (by simp only [Cnd.holds,List.length_append,List.length_nil,List.length_singleton];omega) (AA ⟨.mk' hm.i (Nc z2 f1) (by have:=hm.il;simp only;omega) (by simp only [List.length_append,List.length_nil,List.length_singleton];omega) (by omega) (by omega) (by simp only [AQ,szs];omega),z4⟩))
end Go.Proofs.YtmakhmoielhjeaaGreatDoorE
namespace Go.Proofs.YtmakhmoielhjeaaGreatDoorE
set_option linter.all false
set_option maxRecDepth 100000
theorem Yl {D:Type} {l:List D} (h:(decide ((List.length l:Int)=(0:Int)))=false):l≠[]:=by
 intro e;rw [e] at h;simp at h
theorem LO {k:Nat} {b:Bool} {x x' y y':Option (Made×Cur×Unit)} (h1:b=true→wq x x' (RM k)) (h2:b=false→wq y y' (RM k)):wq (AB (bif b then x else y) fun z=>some (z.1,z.2.1,())) (AB (bif b then x' else y') fun z=>some (z.1,z.2.1,())) (RM k):=
 BE (AG (Ae h1 h2) fun z hz=>AJ hz)
theorem TA {r0 r0':Made→Int→Bool→Cur→Option (Made×Cur×Unit)} {r1 r1':Made→Int→ByteArray→Cur→Option (Made×Cur×Unit)} {D:Nat} (deep:Int) (H:0<deep→∀ k m last c,k+D≤1000000→MOk k m→last.size≤100→COk c→wq (r1 m deep last c) (r1' m deep last c) (RM (k+D)))
 {k:Nat} (m:Made) (g:Bool) (c:Cur) (hk:k+2 * D+2≤1000000) (hm:MOk k m) (h:COk c):wq (EI r0 r1 m deep g c) (EI r0' r1' m deep g c) (RM (k+2 * D+2)):=by
 unfold EI
 have ht:=hm.t
 have hn0:=hm.n0
 have hn1:=hm.n1
 have hbl:=hm.bl
 have hil:=hm.il
 have fin:∀ r:Made×Cur×Unit,RM (k+1) r→RM (k+2 * D+2) r:=fun r hr=>⟨hr.1.mono (by omega),hr.2⟩
 refine AK (AG (Ah (Bv c 14 h)) fun y hy=>?_)
 have h:=hy.2.2.2
 refine BE (AG (Q:=fun x:Int×Int×Bool×Int×Bool×Made×Cur×Unit=>x.2.1=deep∧x.2.2.2.2.2.1=m∧COk x.2.2.2.2.2.2.1∧(x.2.2.2.2.1=false→m.1≠[])) (Ae (fun _=>AJ ⟨rfl,rfl,h,fun e=>by cases e⟩) fun _=>AJ ⟨rfl,rfl,h,fun e=>Yl e⟩) fun x hx=>?_)
 obtain⟨x0,x1,x2,x3,x4,x5,x6,_⟩:=x
 simp only at hx
 obtain⟨e1,e2,h,hi⟩:=hx
 subst e1 e2
 simp only
 clear hy
 refine LO (fun _=>AG ?_ fin) fun hf1=>?_
 ·refine AK (AG (Ah (Np _ _ hm h)) fun v hv=>?_)
  have h:=hv.2
  refine AK (AG (Ah (Ig _ s_i_de7d _ (by omega) (by simp only [AQ,szs];omega) hm h)) fun f hf=>?_)
  obtain⟨fn,fm,fc,_⟩:=f
  simp only at hf
  obtain⟨f1,f2,f3⟩:=hf
  subst f2
  simp only
  repeat refine Ar (cle (by first | omega | (simp only [AQ,szs];omega))) ?_
  refine Ar (by simp only [Cnd.holds,List.length_nil];omega) (Ar (by simp only [Cnd.holds,List.length_append,List.length_nil,List.length_singleton];omega) (AJ ⟨.mk' (Nc hm.i f1) hm.b (by simp only [List.length_append,List.length_nil,List.length_singleton];omega) (by first | omega | (simp only;omega)) (by omega) (by omega) (by simp only [AQ,szs];omega),f3⟩))
 have hne1:=hi hf1
 refine BE (AG (Q:=fun x:Int×Int×Bool×Int×Bool×Made×Cur×Unit=>x.2.1=x1∧x.2.2.2.2.2.1=x5∧COk x.2.2.2.2.2.2.1∧(x.2.2.2.2.1=false→x5.2.1≠[])) (Ae (fun _=>AJ ⟨rfl,rfl,h,fun e=>by cases e⟩) fun _=>AJ ⟨rfl,rfl,h,fun e=>Yl e⟩) fun x hx=>?_)
 obtain⟨z0,z1,z2,z3,z4,z5,z6,_⟩:=x
 simp only at hx
 obtain⟨e1,e2,h,hi⟩:=hx
 subst e1 e2
 simp only
 refine LO (fun _=>AG ?_ fin) fun hf2=>?_
 ·refine AK (AG (Ah (CF _ _ hm h)) fun v hv=>?_)
  repeat refine Ar (cle (by first | omega | (simp only [AQ,szs];omega))) ?_
  refine AK (AG (Ah (LR _ 3 hv.2)) fun o ho=>BE (AG (Q:=fun x:Int×ByteArray×Made×Cur×Unit=>x.2.1.size≤60∧x.2.2.1=z5∧COk x.2.2.2.1) (Ae (fun _=>AK (AG (Ah (CF _ _ hm ho)) fun v2 hv2=>?_)) fun _=>AJ ⟨by simp only [AQ,szs];omega,rfl,ho⟩) fun x hx=>?_))
  ·repeat refine Ar (cle (by first | omega | (simp only [AQ,szs];omega))) ?_
   exact AJ ⟨by simp only [AQ,szs];omega,rfl,hv2.2⟩
  obtain⟨w0,w1,w2,w3,_⟩:=x
  simp only at hx
  obtain⟨hw,e2,h⟩:=hx
  subst e2
  simp only
  refine AK (AG (Ah (Ig _ s_b_3e23 _ (by omega) (by simp only [AQ,szs];omega) hm h)) fun f hf=>?_)
  obtain⟨fn,fm,fc,_⟩:=f
  simp only at hf
  obtain⟨f1,f2,f3⟩:=hf
  subst f2
  simp only
  repeat refine Ar (cle (by first | omega | (simp only [AQ,szs];omega))) ?_
  refine Ar (by simp only [Cnd.holds,List.length_nil];omega) (Ar (by simp only [Cnd.holds,List.length_append,List.length_nil,List.length_singleton];omega) (AJ ⟨.mk' hm.i (Nc hm.b f1) (by first | omega | (simp only;omega)) (by simp only [List.length_append,List.length_nil,List.length_singleton];omega) (by omega) (by omega) (by simp only [AQ,szs];omega),f3⟩))
 have hne2:=hi hf2
 refine LO (fun _=>AG ?_ fin) fun _=>?_
 ·repeat refine Ar (cle (by first | omega | (simp only [AQ,szs];omega))) ?_
  refine AK (AG (Ah (Np _ _ hm h)) fun v hv=>?_)
  repeat refine Ar (cle (by first | omega | (simp only [AQ,szs];omega))) ?_
  exact AJ ⟨(hm.txt (by omega) (by omega) (by simp only [AQ,szs];omega)),hv.2⟩
 refine LO (fun _=>AG ?_ fin) fun _=>?_
 ·refine AK (AG (Ah (Nd _ _ _ hne1 h)) fun v hv=>?_)
  have hvs:=hm.i _ hv.1
  repeat refine Ar (cle (by first | omega | (simp only [AQ,szs];omega))) ?_
  refine AK (AG (Ah (Np _ _ hm hv.2)) fun v2 hv2=>?_)
  repeat refine Ar (cle (by first | omega | (simp only [AQ,szs];omega))) ?_
  exact AJ ⟨(hm.txt (by omega) (by omega) (by simp only [AQ,szs];omega)),hv2.2⟩
 refine BE (AG (Q:=fun x:Int×Int×Bool×Int×Bool×Made×Cur×Unit=>x.2.1=z1∧x.2.2.2.2.2.1=z5∧COk x.2.2.2.2.2.2.1∧(x.2.2.2.2.1=true→0<z1)) (Ae (fun _=>AJ ⟨rfl,rfl,h,fun e=>by simpa using e⟩) fun _=>AJ ⟨rfl,rfl,h,fun e=>by cases e⟩) fun x hx=>?_)
 obtain⟨u0,u1,u2,u3,u4,u5,u6,_⟩:=x
 simp only at hx
 obtain⟨e1,e2,h,hi3⟩:=hx
 subst e1 e2
 simp only
 refine LO (fun hd=>?_) fun _=>?_
 ·repeat refine Ar (cle (by first | omega | (simp only [AQ,szs];omega))) ?_
  refine AK (AG (Ah (CF _ _ hm h)) fun v hv=>?_)
  repeat refine Ar (cle (by first | omega | (simp only [AQ,szs];omega))) ?_
  refine AK (AG (Ah (CF _ _ hm hv.2)) fun v2 hv2=>?_)
  repeat refine Ar (cle (by first | omega | (simp only [AQ,szs];omega))) ?_
  refine AK (AG (H (hi3 hd) (k+1) _ _ _ (by omega) (hm.txt (by omega) (by omega) (by simp only [AQ,szs];omega)) (by decide) hv2.2) fun q hq=>?_)
  have ht2:=hq.1.t
  have hn2:=hq.1.n0
  have hn3:=hq.1.n1
  repeat refine Ar (cle (by first | omega | (simp only [AQ,szs];omega))) ?_
  refine AK (AG (H (hi3 hd) (k+1+D+1) _ _ _ (by omega) (hq.1.txt (by omega) (by omega) (by simp only [AQ,szs];omega)) (by decide) hq.2) fun q2 hq2=>AJ ⟨hq2.1.mono (by omega),hq2.2⟩)
 refine BE (AG (Q:=fun x:Int×Int×Bool×Bool×Made×Cur×Unit=>x.2.1=u1∧x.2.2.2.2.1=u5∧COk x.2.2.2.2.2.1∧(x.2.2.2.1=true→0<u1)) (Ae (fun _=>AJ ⟨rfl,rfl,h,fun e=>by simpa using e⟩) fun _=>AJ ⟨rfl,rfl,h,fun e=>by cases e⟩) fun x hx=>?_)
 obtain⟨q0,q1,q2,q3,q4,q5,_⟩:=x
 simp only at hx
 obtain⟨e1,e2,h,hi4⟩:=hx
 subst e1 e2
 simp only
 refine LO (fun hd=>?_) fun _=>?_
 ·refine AK (AG (Ah (Ig _ s_w_50e7 _ (by omega) (by simp only [AQ,szs];omega) hm h)) fun f hf=>?_)
  obtain⟨fn,fm,fc,_⟩:=f
  simp only at hf
  obtain⟨f1,f2,f3⟩:=hf
  subst f2
  simp only
  repeat refine Ar (cle (by first | omega | (simp only [AQ,szs];omega))) ?_
  refine AK (AG (Ah (WD _ _ (by simp) f3)) fun v hv=>?_)
  have hvs:v.1.size≤1:=by
   have h1:=hv.1
   simp only [List.mem_cons,List.not_mem_nil,or_false] at h1
   rcases h1 with e | e | e | e<;>rw [e]<;>decide
  repeat refine Ar (cle (by first | omega | (simp only [AQ,szs];omega))) ?_
  exact AK (AG (H (hi4 hd) (k+1) _ _ _ (by omega) (hm.txt (by omega) (by omega) (by simp only [AQ,szs];omega)) (by simp only [AQ,szs];omega) hv.2) fun q hq=>AJ ⟨hq.1.mono (by omega),hq.2⟩)
 ·exact AK (AG (Ah (bN _ _ _ (by omega) hm hne2 h)) fun q hq=>AJ (fin _ hq))
theorem VY {r0 r0':Made→Int→Bool→Cur→Option (Made×Cur×Unit)} {r1 r1':Made→Int→ByteArray→Cur→Option (Made×Cur×Unit)} {A:Nat} (deep:Int) (hd0:0<deep) (hd1:deep≤1000) (H:∀ k m c,k+A≤1000000→MOk k m→COk c→wq (r0 m (deep - 1) false c) (r0' m (deep - 1) false c) (RM (k+A)))
 {k:Nat} (m:Made) (last:ByteArray) (c:Cur) (hk:k+3 * A+2≤1000000) (hm:MOk k m) (hl:last.size≤100) (h:COk c):wq (DT r0 r1 m deep last c) (DT r0' r1' m deep last c) (RM (k+3 * A+2)):=by
 unfold DT
 have ht:=hm.t
 have hn0:=hm.n0
 have hn1:=hm.n1
 have hbl:=hm.bl
 have hil:=hm.il
 refine Ar (by simp only [Cnd.holds,List.length_nil];omega) (Ar (by simp only [Cnd.holds,List.length_nil];omega) ?_)
 repeat refine Ar (cle (by first | omega | (simp only [AQ,szs];omega))) ?_
 refine BE (AK (AJ ?_))
 simp only [List.nil_append]
 refine AG (Ix (fun x:EO=>x.2.1=deep∧x.2.2.1=last∧x.2.2.2.1=m.1∧x.2.2.2.2.1=m.2.1∧0≤x.2.2.2.2.2.1∧x.2.2.2.2.2.1≤3∧MOk (k+1+x.2.2.2.2.2.1.toNat * A) x.2.2.2.2.2.2.1∧COk x.2.2.2.2.2.2.2.1) (fun x=>3 - x.2.2.2.2.2.1.toNat)
  (Q:=fun r:Int×ByteArray×List ByteArray×List ByteArray×Made×Cur×Unit=>r.2.1=last∧r.2.2.1=m.1∧r.2.2.2.1=m.2.1∧MOk (k+1+3 * A) r.2.2.2.2.1∧COk r.2.2.2.2.2.1) (fun x hx=>?_) ⟨rfl,rfl,rfl,rfl,by simp,by simp,by
   simp only [Int.toNat_zero,Nat.zero_mul,Nat.add_zero]
   exact hm.txt (by omega) (by omega) (by simp only [AQ,szs];omega),h⟩) (fun r hr=>?_)
 ·obtain⟨x0,x1,x2,x3,x4,x5,x6,x7,_⟩:=x
  simp only at hx
  obtain⟨e1,e2,e3,e4,g1,g2,g3,g4⟩:=hx
  subst e1 e2
  unfold Hw
  simp only
  refine AK (AG (Ah (Bv _ 3 g4)) fun y hy=>Ae (fun hb=>?_) fun _=>CB (AJ (Ak ⟨rfl,e3,e4,g3.mono ?_,hy.2.2.2⟩)))
  ·have hlt:x5<y.1:=by simpa using hb
   have hy3:=hy.2.1 (by omega)
   rw [Af (x:=x1 - 1) (by omega) (by omega),Af (x:=x5+1) (by omega) (by omega)]
   have hA:x5.toNat * A≤2 * A:=Nat.mul_le_mul_right _ (by omega)
   refine AK (AG (H (k+1+x5.toNat * A) _ _ (by omega) g3 hy.2.2.2) fun q hq=>CB (AJ (Al ⟨⟨rfl,rfl,e3,e4,by simp only;omega,by simp only;omega,?_,hq.2⟩,by simp only;omega⟩)))
   simp only
   rw [show(x5+1).toNat=x5.toNat+1 by omega,Nat.add_mul,Nat.one_mul]
   exact hq.1.mono (by omega)
  ·have hA:x5.toNat * A≤3 * A:=Nat.mul_le_mul_right _ (by omega)
   omega
 ·obtain⟨x0,x1,x2,x3,x4,x5,_⟩:=r
  simp only at hr
  obtain⟨e1,e2,e3,g1,g2⟩:=hr
  subst e1 e2 e3
  simp only
  have ht2:=g1.t
  have hn2:=g1.n0
  have hn3:=g1.n1
  repeat refine Ar (cle (by first | omega | (simp only [AQ,szs];omega))) ?_
  exact AJ ⟨.mk' hm.i hm.b (by omega) (by omega) (by omega) (by omega) (by simp only [AQ,szs];omega),g2⟩
def Ac:Nat→Nat
 | 0=>2
 | d+1=>2 * (3 * Ac d+2)+2
theorem bQ:∀ (d:Nat),d≤1000→∀ n n',2 * d+1≤n→2 * d+1≤n'→∀ k m g c,k+Ac d≤1000000→MOk k m→COk c→wq ((BU n).1 m (d:Int) g c) ((BU n').1 m (d:Int) g c) (RM (k+Ac d)):=by
 intro d
 induction d with
 | zero=>
  intro _ n n' hn hn' k m g c hk hm h
  obtain⟨n,rfl⟩:∃ j,n=j+1:=⟨n - 1,by omega⟩
  obtain⟨n',rfl⟩:∃ j,n'=j+1:=⟨n' - 1,by omega⟩
  exact TA (r0:=(BU n).1) (r0':=(BU n').1) (D:=0) (0:Int) (fun h=>by omega) m g c (by simp only [Ac] at hk;omega) hm h
 | succ d ih=>
  intro hd n n' hn hn' k m g c hk hm h
  obtain⟨n,rfl⟩:∃ j,n=j+2:=⟨n - 2,by omega⟩
  obtain⟨n',rfl⟩:∃ j,n'=j+2:=⟨n' - 2,by omega⟩
  have hA:Ac (d+1)=2 * (3 * Ac d+2)+2:=rfl
  rw [hA] at hk ⊢
  rw [show k+(2 * (3 * Ac d+2)+2)=k+2 * (3 * Ac d+2)+2 by omega]
  refine TA (r0:=(BU (n+1)).1) (r0':=(BU (n'+1)).1) (D:=3 * Ac d+2) ((d+1:Nat):Int) (fun _ k m last c hk hm hl h=>?_) m g c (by omega) hm h
  rw [show k+(3 * Ac d+2)=k+3 * Ac d+2 by omega]
  refine VY (A:=Ac d) ((d+1:Nat):Int) (by omega) (by omega) (fun k m c hk hm h=>?_) m last c (by omega) hm hl h
  rw [show((d+1:Nat):Int) - 1=(d:Int) by omega]
  exact ih (by omega) n n' (by omega) (by omega) k m false c hk hm h
theorem bS {k:Nat} (m:Made) (g:Bool) (c:Cur) (hk:k+200≤1000000) (hm:MOk k m) (h:COk c):wp (FE m 2 g c) (RM (k+200)):=by
 unfold FE
 have hA:Ac 2=114:=rfl
 exact Kc 5 fun n hn=>AG (bQ 2 (by omega) n 5 (by omega) (by omega) k m g c (by omega) hm h) fun r hr=>⟨hr.1.mono (by omega),hr.2⟩
theorem dj (c:Cur) (most:Int) (hm0:0≤most) (hm1:most≤1000) (h:COk c):wp (Jh c most) fun r=>r.1.size≤1000000000∧COk r.2.1:=by
 unfold Jh
 refine AF (AD (LR c 6 h) fun y hy=>AR (AF (AA ?_)))
 refine AD (wp_loop (fun x:Ia=>x.1=most∧0≤x.2.2.1∧x.2.2.1≤most+2∧COk x.2.2.2.1∧MOk (1+x.2.2.1.toNat * 200) x.2.2.2.2.1) (fun x=>(most+2).toNat - x.2.2.1.toNat)
  (Q:=fun r:Int×Cur×Made×Unit=>COk r.2.1∧MOk 300000 r.2.2.1) (fun x hx=>?_) ⟨rfl,by simp,by simp only;omega,hy,?_⟩) (fun r hr=>?_)
 ·obtain⟨x0,x1,x2,x3,x4,_⟩:=x
  simp only at hx
  obtain⟨e1,g1,g2,g3,g4⟩:=hx
  subst e1
  unfold Lr
  simp only
  refine AF (AD (Bv _ x0 g3) fun z hz=>?_)
  have hz1:z.1≤x0:=by
   rcases Int.lt_or_le 0 x0 with h1 | h1
   ·have:=hz.2.1 h1;omega
   ·have:=hz.2.2.1 h1;omega
  have hz0:=hz.1
  rw [Af (x:=2+z.1) (by omega) (by omega)]
  refine AM (fun hb=>?_) fun _=>AN (AA (Ak ⟨hz.2.2.2,g4.mono ?_⟩))
  ·have hlt:x2<2+z.1:=by simpa using hb
   rw [Af (x:=x2+1) (by omega) (by omega)]
   have hA:x2.toNat * 200≤1002 * 200:=Nat.mul_le_mul_right _ (by omega)
   refine AF (AD (bS _ true _ (by omega) g4 hz.2.2.2) fun q hq=>AN (AA (Al ⟨⟨rfl,by simp only;omega,by simp only;omega,hq.2,?_⟩,by simp only;omega⟩)))
   simp only
   rw [show(x2+1).toNat=x2.toNat+1 by omega,Nat.add_mul,Nat.one_mul]
   exact hq.1.mono (by omega)
  ·have hA:x2.toNat * 200≤1002 * 200:=Nat.mul_le_mul_right _ (by omega)
   omega
 ·exact⟨by simp,by simp,by simp,by simp,by simp,by simp,by show s_fn_sum_a__int__b_4b95.size≤1000;decide⟩
 ·have ht:=hr.2.t
  have e:s___d10b.size=1:=by decide
  exact AL (cle (by omega)) (AA ⟨by simp only [AQ];omega,hr.1⟩)
end Go.Proofs.YtmakhmoielhjeaaGreatDoorE
namespace Go.Proofs.YtmakhmoielhjeaaGreatDoorE
set_option linter.all false
set_option maxRecDepth 100000
theorem Va {α β:Type} {step:β→Option (β ⊕ α)} (S:Nat→β) (m:Nat) (H:∀ k,k<m→step (S k)=some (.inl (S (k+1)))):AH step (S 0)=AH step (S m):=by
 have key:∀ j,j≤m→AH step (S 0)=AH step (S j):=by
  intro j
  induction j with
  | zero=>intro _;rfl
  | succ j ih=>intro hj;rw [ih (by omega),Bi (H j (by omega))]
 exact key m (Nat.le_refl m)
def Eg (ds:List Int) (d kid:Int):Int:=if d<rd ds kid (0:Int)+1 then rd ds kid (0:Int)+1 else d
def Kt (ds:List Int) (x:NODE):Int:=x.2.2.2.foldl (Eg ds) 1
def UK (d:Int):Int:=bif decide ((10:Int)<d) then 0 else d
def MK (l:List NODE) (ds:List Int) (k:Nat):Int:=bif Bo l (k:Int) && (decide (k=0) || decide (rd ds ((k:Int) - 1) (0:Int)≠0)) then UK (Kt ds (rd l (k:Int) zN)) else 0
def BC (l:List NODE):Nat→List Int
 | 0=>[]
 | k+1=>BC l k++[MK l (BC l k) k]
def dAt (l:List NODE) (k:Nat):Int:=MK l (BC l k) k
theorem Fo (l:List NODE):∀ k,(BC l k).length=k
 | 0=>rfl
 | k+1=>by simp [BC,Fo l k]
theorem HD (l:List NODE):∀ (k j:Nat) (h:j<k),rd (BC l k) (j:Int) (0:Int)=dAt l j
 | k+1,j,h=>by
  have hl:=Fo l k
  rw [Ad (show j<(BC l (k+1)).length by rw [Fo];exact h)]
  simp only [BC]
  by_cases e:j=k
  ·subst e
   rw [List.getElem_append_right (by omega)]
   simp [hl,dAt]
  ·have h':j<k:=by omega
   rw [List.getElem_append_left (by omega),← Ad (z:=(0:Int)) (show j<(BC l k).length by omega)]
   exact HD l k j h'
theorem Xj {l:List NODE} {k:Int} (h:Bo l k=true) {i:Nat} (hi:i<(rd l k zN).2.2.2.length):0≤(rd l k zN).2.2.2[i]∧(rd l k zN).2.2.2[i]<k:=by
 simp only [Bo,HJ,OT,Bool.and_eq_true,List.all_eq_true] at h
 have:=h.2.2.2.2.2 i (by simpa using hi)
 simp only [Ot,Bool.and_eq_true,decide_eq_true_eq] at this
 have e:(rd l k zN).2.2.2.getD i 0=(rd l k zN).2.2.2[i]:=by
  generalize rd l k zN=x at hi ⊢
  simp [hi]
 rw [e] at this
 omega
theorem aj (l:List NODE) (k:Nat) (ds:List Int) (H:∀ j:Nat,j<k→0≤rd ds (j:Int) (0:Int)∧rd ds (j:Int) (0:Int)≤10) (x:NODE) (hx:∀ y∈x.2.2.2,(0:Int)≤y∧y<(k:Int)):1≤Kt ds x∧Kt ds x≤11:=by
 have key:∀ (m:List Int) (d:Int),(∀ y∈m,(0:Int)≤y∧y<(k:Int))→1≤d∧d≤11→1≤m.foldl (Eg ds) d∧m.foldl (Eg ds) d≤11:=by
  intro m
  induction m with
  | nil=>intro d _ h;exact h
  | cons y m ih=>
   intro d hm hd
   rw [List.foldl_cons]
   refine ih _ (fun z hz=>hm z (List.mem_cons_of_mem _ hz)) ?_
   have hy:=hm y (List.mem_cons_self ..)
   have:=H y.toNat (by omega)
   rw [show((y.toNat:Nat):Int)=y by omega] at this
   unfold Eg
   split<;>omega
 exact key x.2.2.2 1 hx ⟨by omega,by omega⟩
theorem Ou {l:List NODE} {k:Int} (h:Bo l k=true):∀ y∈(rd l k zN).2.2.2,(0:Int)≤y∧y<k:=by
 intro y hy
 obtain⟨i,hi,rfl⟩:=List.getElem_of_mem hy
 exact Xj h hi
theorem OK (l:List NODE):∀ k,0≤dAt l k∧dAt l k≤10:=by
 intro k
 induction k using Nat.strongRecOn with
 | _ k ih=>
  unfold dAt MK
  cases h:Bo l (k:Int)
  ·simp
  cases (decide (k=0) || decide (rd (BC l k) ((k:Int) - 1) (0:Int)≠0))
  ·simp
  simp only [Bool.and_self,cond_true]
  have:=aj l k (BC l k) (fun j hj=>by rw [HD l k j hj];exact ih j hj) (rd l (k:Int) zN) (Ou h)
  unfold UK
  generalize Kt (BC l k) (rd l (k:Int) zN)=v at this ⊢
  by_cases h10:(10:Int)<v
  ·simp [h10]
  ·simp [h10];omega
theorem ag (l:List NODE) (k:Nat) (h:dAt l k=0):dAt l (k+1)=0:=by
 have e:rd (BC l (k+1)) (((k+1:Nat):Int) - 1) (0:Int)=0:=by
  rw [show((k+1:Nat):Int) - 1=(k:Int) by omega,HD l (k+1) k (by omega),h]
 rw [dAt,MK,e]
 simp
theorem ah (l:List NODE) (k n:Nat) (hkn:k≤n) (h:dAt l k=0):dAt l n=0:=by
 induction n with
 | zero=>obtain rfl:k=0:=by omega
         exact h
 | succ n ih=>
  by_cases e:k=n+1
  ·subst e;exact h
  ·exact ag l n (ih (by omega))
theorem hH {l:List NODE} {k:Nat} (h:dAt l k≠0):Bo l (k:Int)=true:=by
 cases e:Bo l (k:Int)
 ·exact absurd (by unfold dAt MK;rw [e];rfl) h
 ·rfl
theorem SV (l:List NODE) (k:Nat) (y:Int) (hy:0≤y∧y<(k:Int)):0≤rd (BC l k) y (0:Int)∧rd (BC l k) y (0:Int)≤10:=by
 have:=HD l k y.toNat (by omega)
 rw [show((y.toNat:Nat):Int)=y by omega] at this
 rw [this];exact OK l _
theorem ak (l:List NODE) (k:Nat) (y:Int) (hy:0≤y∧y<(k:Int)) (d:Int) (hd:1≤d∧d≤11):1≤Eg (BC l k) d y∧Eg (BC l k) d y≤11:=by
 have:=SV l k y hy
 unfold Eg
 split<;>omega
theorem VT (l:List NODE) (hl:FineN l) (n:Int) (k:Nat) (hk:k<l.length) (hok:Bo l (k:Int)=true):
 AH CP (l,n,BC l k,(k:Int),(1:Int),(0:Int),())=some (l,n,BC l k,(k:Int),Kt (BC l k) l[k],()):=by
 have hkid:∀ i (hi:i<l[k].2.2.2.length),(0:Int)≤l[k].2.2.2[i]∧l[k].2.2.2[i]<(k:Int):=by
  have:=Ou hok
  rw [Ad hk] at this
  exact fun i hi=>this _ (List.getElem_mem hi)
 have hx:=hl.kid _ (List.getElem_mem hk)
 have hlen:=Fo l k
 have hrd:∀ i (hi:i<l[k].2.2.2.length),(0:Int)≤rd (BC l k) l[k].2.2.2[i] (0:Int)∧rd (BC l k) l[k].2.2.2[i] (0:Int)≤10:=fun i hi=>SV l k _ (hkid i hi)
 have hst:∀ i (hi:i<l[k].2.2.2.length) d,1≤d∧d≤11→1≤Eg (BC l k) d l[k].2.2.2[i]∧Eg (BC l k) d l[k].2.2.2[i]≤11:=fun i hi d hd=>ak l k _ (hkid i hi) d hd
 have e1:∀ i:Int,(Cnd.idx (k:Int) l.length).run (α:=(List NODE×Int×List Int×Int×Int×Int×Bool×Unit))=fun K=>K:=fun i=>by funext K;exact AY hk
 have hr:rd l (k:Int) zN=l[k]:=Ad hk
 generalize l[k]=x at hkid hx hrd hst hr ⊢
 have h:=CM (step:=CP) x.2.2.2 (Eg (BC l k)) (fun i d=>(l,n,BC l k,(k:Int),d,(i:Int),())) (fun d=>(l,n,BC l k,(k:Int),d,())) (fun _ d=>1≤d∧d≤11) (fun i hi d hd=>by
  refine⟨?_,hst i hi d hd⟩
  have a1:=hkid i hi
  have a2:=hrd i hi
  have wi:=Ag (show i<9223372036854775807 by omega)
  simp only [CP,show(0:Int)<d by omega,decide_true,cond_true,AY hk,hr,Au hi,AC,AY hi,Ad hi]
  generalize x.2.2.2[i]=y at a1 a2 ⊢
  rw [Cm (show 0≤y∧y<((BC l k).length:Int) by omega)]
  unfold Eg
  generalize rd (BC l k) y (0:Int)=v at a2 ⊢
  rw [show IntKind.wrap .i64 (v+1)=v+1 from Af (by omega) (by omega)]
  by_cases hlt:d<v+1
  ·simp only [hlt,decide_true,cond_true,if_true,Cm (show 0≤y∧y<((BC l k).length:Int) by omega),AC,wi,Option.map_some]
  ·simp only [hlt,decide_false,cond_false,if_false,AC,wi,Option.map_some]) (fun d hd=>by
  simp only [CP,show(0:Int)<d by omega,decide_true,cond_true,AY hk,hr,Ab,decide_false,AC,cond_false,Option.map_some]) 1 ⟨by omega,by omega⟩
 exact h.1
theorem QC {α:Type} {l:List NODE} (hl:FineN l) {k:Nat} (hk:k<l.length) {d:Int} {K:Option α}:(Cnd.le (((BC l k).length+List.length [d]) * 8) 140737488355328).run K=K:=by
 have:=hl.len
 have e:=Fo l k
 simp only [Cnd.run]
 rw [if_pos]
 simp only [List.length_cons,List.length_nil]
 omega
theorem VU (l:List NODE) (hl:FineN l) (n:Int) (k:Nat) (hk:k<l.length) (hn:(k:Int)≤n):
 CQ (l,n,BC l k,(k:Int),())=some (.inl (l,n,BC l (k+1),((k+1:Nat):Int),())):=by
 have hlen:=hl.len
 have wi:=Ag (show k<9223372036854775807 by omega)
 have e0:BC l (k+1)=BC l k++[dAt l k]:=rfl
 have h1:∀ z,AH CP (l,n,BC l k,(k:Int),(0:Int),z,())=some (l,n,BC l k,(k:Int),(0:Int),()):=fun z=>BH (by
  simp only [CP,show ¬ ((0:Int)<0) by decide,decide_false,cond_false,AC,Option.map_some])
 have hdl:=Fo l k
 unfold CQ
 simp only [hn,decide_true,cond_true,Au hk,AC,SC l hl,Option.bind_some]
 have e1:(bif !Bo l (k:Int) then some (l,n,BC l k,(k:Int),(1:Int),true,()) else bif decide ((0:Int)<(k:Int)) then (Cnd.idx (IntKind.wrap .i64 ((k:Int) - 1)) (BC l k).length).run (some (l,n,BC l k,(k:Int),(1:Int),decide (rd (BC l k) (IntKind.wrap .i64 ((k:Int) - 1)) (0:Int)=0),())) else some (l,n,BC l k,(k:Int),(1:Int),false,())) =
  some (l,n,BC l k,(k:Int),(1:Int),!(Bo l (k:Int) && (decide (k=0) || decide (rd (BC l k) ((k:Int) - 1) (0:Int)≠0))),()):=by
  cases Bo l (k:Int)
  ·rfl
  by_cases hz:k=0
  ·subst hz;rfl
  ·rw [Af (show -9223372036854775808≤(k:Int) - 1 by omega) (by omega),Cm (show 0≤(k:Int) - 1∧(k:Int) - 1<((BC l k).length:Int) by omega)]
   rw [decide_eq_true (show(0:Int)<(k:Int) by omega),decide_eq_false hz]
   generalize rd (BC l k) ((k:Int) - 1) (0:Int)=v
   by_cases hr:v=0<;>simp [hr]
 rw [e1,AC]
 cases hc:Bo l (k:Int) && (decide (k=0) || decide (rd (BC l k) ((k:Int) - 1) (0:Int)≠0))
 ·have hd:dAt l k=0:=by unfold dAt MK;rw [hc];rfl
  simp only [Bool.not_false,cond_true,AC,h1,Option.bind_some,show ¬ ((10:Int)<0) by decide,decide_false,cond_false,QC hl hk,Option.map_some,wi,e0,hd]
 ·have hok:Bo l (k:Int)=true:=by
   rw [Bool.and_eq_true] at hc;exact hc.1
  have hd:dAt l k=UK (Kt (BC l k) l[k]):=by unfold dAt MK;rw [hc,Ad hk];rfl
  simp only [Bool.not_true,cond_false,AC,Option.bind_some,VT l hl n k hk hok,QC hl hk,Option.map_some,wi,e0,hd,UK]
  cases decide ((10:Int)<Kt (BC l k) l[k])<;>simp only [cond_true,cond_false,AC,QC hl hk,Option.map_some,wi]
def AU (l:List NODE) (n:Int):Int:=bif decide (0≤n∧n≤(l.length:Int) - 1) then dAt l n.toNat else 0
theorem Nx (l:List NODE) (hl:FineN l) (k:Nat) (hk:k<l.length):GS l (k:Int)=some (BC l (k+1),()):=by
 have h:=Va (step:=CQ) (fun j=>(l,(k:Int),BC l j,(j:Int),())) (k+1) (fun j hj=>VU l hl k j (by omega) (by omega))
 have h2:AH CQ (l,(k:Int),BC l (k+1),((k+1:Nat):Int),())=some (BC l (k+1),()):=BH (by
  simp only [CQ,show ¬ (((k+1:Nat):Int)≤(k:Int)) by omega,decide_false,cond_false,AC,Option.map_some])
 have h3:AH CQ (l,(k:Int),[],(0:Int),())=some (BC l (k+1),()):=h.trans h2
 simp only [GS,Option.bind_some,h3,AC]
theorem Ay {l:List NODE} {n:Int} (h:(0:Int)<AU l n):(0≤n∧n<(l.length:Int))∧Bo l n=true∧∀ m,0≤m→m≤n→(0:Int)<AU l m:=by
 unfold AU at h
 by_cases hr:0≤n∧n≤(l.length:Int) - 1
 case neg=>simp [hr] at h
 rw [decide_eq_true hr,cond_true] at h
 refine⟨by omega,?_,fun m h0 hm=>?_⟩
 ·have:=hH (l:=l) (k:=n.toNat) (by omega)
  rwa [show((n.toNat:Nat):Int)=n by omega] at this
 ·unfold AU
  rw [decide_eq_true (by omega),cond_true]
  have h1:=OK l m.toNat
  by_cases hz:dAt l m.toNat=0
  ·have:=ah l m.toNat n.toNat (by omega) hz
   omega
  ·omega
end Go.Proofs.YtmakhmoielhjeaaGreatDoorE
namespace Go.Proofs.YtmakhmoielhjeaaGreatDoorE
set_option linter.all false
set_option maxRecDepth 100000
abbrev zF:FN:=((⟨#[]⟩:ByteArray),([],((0:Int),((0:Int),(0:Int)))))
structure FineP (c:PROG):Prop where
 n:FineN c.1
 f:c.2.length≤1048576
 a:∀ w∈c.2,(w:FN).2.1.length≤1048576
theorem TT {l:List NODE} {n:Int} (h:AU l n≠0):(0:Int)<AU l n:=by
 have:0≤AU l n:=by
  unfold AU
  cases decide (0≤n∧n≤(l.length:Int) - 1)
  ·exact Int.le_refl 0
  ·exact(OK l _).1
 omega
end Go.Proofs.YtmakhmoielhjeaaGreatDoorE
namespace Go.Proofs.YtmakhmoielhjeaaGreatDoorE
set_option linter.all false
set_option maxRecDepth 100000
theorem Qk {α β D:Type} {step:β→Option (β ⊕ α)} (l:List D) (q:D→Bool) (S:Nat→β) (rt:Nat→α) (rf:α) (H:∀ k (h:k<l.length),step (S k)=bif q l[k] then some (.inr (rt k)) else some (.inl (S (k+1)))) (He:step (S l.length)=some (.inr rf)):
 AH step (S 0)=some (match l.findIdx? q with | some i=>rt i | none=>rf):=by
 have key:∀ m k,k+m=l.length→AH step (S k)=some (match (l.drop k).findIdx? q with | some i=>rt (k+i) | none=>rf):=by
  intro m
  induction m with
  | zero=>
   intro k hk
   obtain rfl:k=l.length:=by omega
   rw [BH He,List.drop_length];rfl
  | succ m ih=>
   intro k hk
   have hkl:k<l.length:=by omega
   have h1:=H k hkl
   rw [List.drop_eq_getElem_cons hkl,List.findIdx?_cons]
   cases hq:q l[k]
   ·rw [hq,cond_false] at h1
    rw [Bi h1,ih (k+1) (by omega)]
    cases hf:(l.drop (k+1)).findIdx? q with
    | none=>simp [hf]
    | some i=>simp [hf,Nat.add_assoc,Nat.add_comm 1 i]
   ·rw [hq,cond_true] at h1
    rw [BH h1];simp
 have:=key l.length 0 (by omega)
 rw [List.drop_zero] at this
 rw [this]
 cases l.findIdx? q<;>simp
def Hu (l:List FN) (s:ByteArray):Int:=match l.findIdx? (fun f=>decide (f.1=s)) with
 | some i=>(i:Int)
 | none=>-1
theorem Li (p:PROG) (hp:FineP p) (s:ByteArray):HQ p s=some (Hu p.2 s,()):=by
 have hl:=hp.f
 have h:=Qk (step:=Gy) p.2 (fun f=>decide (f.1=s)) (fun k=>(s,(k:Int),p,())) (fun k=>.inr ((k:Int),())) (.inl ()) (fun k hk=>by
  simp only [Gy,Au hk,decide_true,cond_true,AY hk,Ad hk,Ag (show k<9223372036854775807 by omega)]
  cases decide (p.2[k].1=s)<;>rfl) (by
  simp only [Gy,Ab,decide_false,cond_false,Option.map_some])
 have h':AH Gy (s,(0:Int),p,())=_:=h
 simp only [HQ,Option.bind_some,h',Hu]
 cases p.2.findIdx? fun f=>decide (f.1=s)<;>rfl
end Go.Proofs.YtmakhmoielhjeaaGreatDoorE
namespace Go.Proofs.YtmakhmoielhjeaaGreatDoorE
set_option linter.all false
set_option maxRecDepth 100000
def tb (n:Nat) (f:Nat→Int):List Int:=(List.range n).map f
theorem Kb (n:Nat) (f:Nat→Int):(tb n f).length=n:=by simp [tb]
theorem TX {n:Nat} {f:Nat→Int} {k:Nat} (h:k<n):rd (tb n f) (k:Int) (0:Int)=f k:=by
 rw [Ad (by rw [Kb];exact h)]
 simp [tb]
def upd (f:Nat→Int) (k:Nat) (v:Int):Nat→Int:=fun t=>if t=k then v else f t
theorem RC {n:Nat} {f:Nat→Int} {k:Nat} (h:k<n) (v:Int):(tb n f).set k v=tb n (upd f k v):=by
 apply List.ext_getElem
 ·rw [List.length_set,Kb,Kb]
 ·intro i h1 h2
  rw [List.getElem_set]
  simp only [tb,List.getElem_map,List.getElem_range,upd]
  by_cases e:k=i
  ·rw [if_pos e,if_pos e.symm]
  ·rw [if_neg e,if_neg (fun h=>e h.symm)]
theorem jC (n:Nat):List.replicate n (0:Int)=tb n (fun _=>0):=by
 apply List.ext_getElem
 ·rw [List.length_replicate,Kb]
 ·intro i h1 h2;simp [tb]
def cnO:List Int→Nat→Nat
 | [],_=>0
 | y::l,t=>(bif decide (y=(t:Int)) then 1 else 0)+cnO l t
theorem gz (a b:List Int) (t:Nat):cnO (a++b) t=cnO a t+cnO b t:=by
 induction a with
 | nil=>simp [cnO]
 | cons y a ih=>simp only [List.cons_append,cnO,ih];omega
theorem cL (l:List Int) (t:Nat):cnO l t≤l.length:=by
 induction l with
 | nil=>exact Nat.le_refl _
 | cons y l ih=>
  simp only [cnO,List.length_cons]
  cases decide (y=(t:Int))<;>simp only [cond_true,cond_false]<;>omega
def bump (f:Nat→Int) (y:Int):Nat→Int:=upd f y.toNat (f y.toNat+1)
theorem Vq (f:Nat→Int) {y:Int} (hy:0≤y) (t:Nat):bump f y t=f t+(bif decide (y=(t:Int)) then 1 else 0):=by
 unfold bump upd
 by_cases e:t=y.toNat
 ·have:y=(t:Int):=by omega
  rw [if_pos e,decide_eq_true this,cond_true,e]
 ·have:¬ y=(t:Int):=by omega
  rw [if_neg e,decide_eq_false this,cond_false];omega
theorem jM (ks:List Int) (hk:∀ y∈ks,(0:Int)≤y):∀ f:Nat→Int,ks.foldl bump f=fun t=>f t+(cnO ks t:Int):=by
 induction ks with
 | nil=>intro f;funext t;simp [cnO]
 | cons y ks ih=>
  intro f
  rw [List.foldl_cons,ih (fun z hz=>hk z (List.mem_cons_of_mem _ hz))]
  funext t
  rw [Vq f (hk y (List.mem_cons_self ..)) t]
  simp only [cnO]
  cases decide (y=(t:Int))<;>simp only [cond_true,cond_false]<;>omega
def us:List NODE→Nat→Nat
 | [],_=>0
 | x::l,t=>cnO x.2.2.2 t+us l t
theorem jF (a b:List NODE) (t:Nat):us (a++b) t=us a t+us b t:=by
 induction a with
 | nil=>simp [us]
 | cons y a ih=>simp only [List.cons_append,us,ih];omega
structure Kd (l:List NODE):Prop where
 k:∀ x∈l,∀ y∈(x:NODE).2.2.2,(0:Int)≤y∧y<(l.length:Int)
def BI (B:Int) (f:Nat→Int):Prop:=∀ t,0≤f t∧f t≤B
theorem BI.bump {B:Int} {f:Nat→Int} (h:BI B f) {y:Int} (hy:0≤y):BI (B+1) (bump f y):=by
 intro t
 rw [Vq f hy t]
 have:=h t
 cases decide (y=(t:Int))<;>simp only [cond_true,cond_false]<;>omega
theorem dl (l:List NODE) (hl:FineN l) (hk:Kd l) (i:Nat) (hi:i<l.length) (f:Nat→Int) {B:Int} (hB:B≤1000000000000) (hf:BI B f):
 AH EY (l,tb l.length f,(i:Int),(0:Int),())=some (l,tb l.length (l[i].2.2.2.foldl bump f),(i:Int),()):=by
 have hx:=hl.kid _ (List.getElem_mem hi)
 have hkk:=hk.k _ (List.getElem_mem hi)
 have hr:rd l (i:Int) zN=l[i]:=Ad hi
 generalize l[i]=x at hx hkk hr
 have h:=CM (step:=EY) x.2.2.2 bump (fun j f=>(l,tb l.length f,(i:Int),(j:Int),())) (fun f=>(l,tb l.length f,(i:Int),())) (fun j f=>BI (B+(j:Int)) f) (fun j hj f hf=>by
  obtain⟨h1,h2⟩:=hkk _ (List.getElem_mem hj)
  refine⟨?_,by rw [show B+((j+1:Nat):Int)=B+(j:Int)+1 by omega];exact hf.bump h1⟩
  have wj:=Ag (show j<9223372036854775807 by omega)
  obtain⟨y,hy⟩:∃ y:Nat,x.2.2.2[j]=(y:Int):=⟨x.2.2.2[j].toNat,by omega⟩
  rw [hy] at h2 ⊢
  have hyl:y<l.length:=by omega
  have hyt:y<(tb l.length f).length:=by rw [Kb];exact hyl
  have hb:=hf y
  simp only [EY,AY hi,hr,Au hj,decide_true,cond_true,AY hj,Ad hj,hy,AY hyt,TX hyl,Int.toNat_natCast,RC hyl,Av,Option.map_some,wj,Af (show -9223372036854775808≤f y+1 by omega) (show f y+1<9223372036854775808 by omega),bump]) (fun f hf=>by
  simp only [EY,AY hi,hr,Ab,decide_false,cond_false,Option.map_some]) f (by simpa using hf)
 exact h.1
def bumpN (f:Nat→Int) (x:NODE):Nat→Int:=x.2.2.2.foldl bump f
theorem UE (f:Nat→Int) (x:NODE) (hx:∀ y∈x.2.2.2,(0:Int)≤y):bumpN f x=fun t=>f t+(cnO x.2.2.2 t:Int):=jM _ hx f
theorem gN (l:List NODE) (hk:∀ x∈l,∀ y∈(x:NODE).2.2.2,(0:Int)≤y):∀ f:Nat→Int,l.foldl bumpN f=fun t=>f t+(us l t:Int):=by
 induction l with
 | nil=>intro f;funext t;simp [us]
 | cons x l ih=>
  intro f
  rw [List.foldl_cons,ih (fun z hz=>hk z (List.mem_cons_of_mem _ hz)),UE f x (hk x (List.mem_cons_self ..))]
  funext t
  simp only [us];omega
theorem BI.bumpN {B:Int} {f:Nat→Int} (h:BI B f) {x:NODE} (hx:∀ y∈x.2.2.2,(0:Int)≤y) (hl:x.2.2.2.length≤1048576):BI (B+1048576) (bumpN f x):=by
 intro t
 rw [UE f x hx]
 have:=h t
 have:=cL x.2.2.2 t
 simp only;omega
def U (l:List NODE):Nat→Int:=fun t=>(us l t:Int)
theorem jl (l:List NODE) (hl:FineN l) (hk:Kd l) (h300:l.length≤300):Jg l=some (tb l.length (U l),()):=by
 have h:=CM (step:=EZ) l bumpN (fun i f=>(l,tb l.length f,(i:Int),())) (fun f=>(tb l.length f,())) (fun i f=>BI ((i:Int) * 1048576) f) (fun i hi f hf=>by
  have hx:=hl.kid _ (List.getElem_mem hi)
  have hkk:=hk.k _ (List.getElem_mem hi)
  refine⟨?_,by rw [show((i+1:Nat):Int) * 1048576=(i:Int) * 1048576+1048576 by omega];exact hf.bumpN (fun y hy=>(hkk y hy).1) hx⟩
  simp only [EZ,Au hi,decide_true,cond_true,Option.bind_some,dl l hl hk i hi f (show(i:Int) * 1048576≤1000000000000 by omega) hf,AC,Option.map_some,Ag (show i<9223372036854775807 by omega),bumpN]) (fun f hf=>by
  simp only [EZ,Ab,decide_false,cond_false,Option.map_some]) (fun _=>0) (fun t=>by simp)
 have h1:=h.1
 rw [gN l (fun x hx y hy=>(hk.k x hx y hy).1)] at h1
 have h':AH EZ (l,List.replicate l.length (0:Int),(0:Int),())=some (tb l.length (U l),()):=by
  rw [jC]
  refine h1.trans ?_
  have:(fun t=>(0:Int)+(us l t:Int))=U l:=by funext t;simp [U]
  rw [this]
 have hb:∀ {α:Type} {K:Option α},(Cnd.both (Cnd.nn (l.length:Int)) (Cnd.le (l.length * 8) 140737488355328)).run K=K:=fun {α} {K}=>by
  simp only [Cnd.run]
  rw [if_pos (by omega),if_pos (by omega)]
 simp only [Jg,Int.toNat_natCast,hb,Option.bind_some,h',AC]
end Go.Proofs.YtmakhmoielhjeaaGreatDoorE
namespace Go.Proofs.YtmakhmoielhjeaaGreatDoorE
set_option linter.all false
set_option maxRecDepth 100000
def Xk (q:ByteArray×Int):Bool:=Bl q.1 && decide (1≤q.2∧q.2≤4)
def ba (x:FN):Bool:=x.2.1.all Xk
def QZ (l:List NODE) (x:FN):Bool:=decide (0≤x.2.2.2.1∧x.2.2.2.1≤(l.length:Int) - 1) && decide ((rd l x.2.2.2.1 zN).1=20)
def Qr (l:List NODE) (x:FN):Bool:=bif decide (x.2.2.1=0) then decide (x.2.2.2.2 = -1) else decide (0≤x.2.2.2.2∧x.2.2.2.2≤(l.length:Int) - 1) && decide (1≤(rd l x.2.2.2.2 zN).1∧(rd l x.2.2.2.2 zN).1≤12)
def fnI (l:List NODE) (x:FN):Bool:=Bl x.1 && (decide ((x.2.1.length:Int)≤3) && (decide (0≤x.2.2.1∧x.2.2.1≤2) && (ba x && (QZ l x && Qr l x))))
def NR (p:PROG) (i:Int):Bool:=fnI p.1 (rd p.2 i zF) && decide (Hu p.2 (rd p.2 i zF).1=i)
theorem ja (p:PROG) (x:FN) (hx:x.2.1.length≤1048576):AH GO ((0:Int),p,x,())=some (bif ba x then .inl (p,x,()) else .inr (false,())):=by
 exact Bn (step:=GO) x.2.1 Xk (fun k=>((k:Int),p,x,())) (.inl (p,x,())) (.inr (false,())) (fun k hk=>by
  have wk:=Ag (show k<9223372036854775807 by omega)
  simp only [GO,Au hk,decide_true,cond_true,AY hk,Ad hk,Cv,sIn,Option.bind_some,Xk]
  cases Bl x.2.1[k].1
  ·simp only [Bool.not_false,cond_true,AC,Option.map_some,Bool.false_and,cond_false]
  ·cases decide (1≤x.2.1[k].2∧x.2.1[k].2≤4)<;>simp only [Bool.not_true,Bool.not_false,cond_true,cond_false,AC,Option.map_some,Bool.and_self,Bool.and_false,wk]) (by
  simp only [GO,Ab,decide_false,cond_false,Option.map_some])
theorem Xp (p:PROG) (hp:FineP p) (i:Nat) (hi:i<p.2.length):LH p (i:Int)=some (NR p (i:Int),()):=by
 unfold LH NR fnI
 have hx:=hp.a _ (List.getElem_mem hi)
 rw [AY hi]
 have hr:rd p.2 (i:Int) zF=p.2[i]:=Ad hi
 rw [hr]
 generalize p.2[i]=x at hx
 have e:((CJ x.1).bind fun y1=>bif !y1.1 then some (true,p,x,()) else (HQ p x.1).bind fun y2=>bif decide (y2.1≠(i:Int)) then some (true,p,x,()) else bif decide ((3:Int)<(x.2.1.length:Int)) then some (true,p,x,()) else (Aw x.2.2.1 (0:Int) (2:Int)).bind fun y3=>some (!y3.1,p,x,())) =
  some (!(Bl x.1 && (decide (Hu p.2 x.1=(i:Int)) && (decide ((x.2.1.length:Int)≤3) && decide (0≤x.2.2.1∧x.2.2.1≤2)))),p,x,()):=by
  simp only [Cv,Li p hp,sIn,Option.bind_some]
  cases Bl x.1
  ·rfl
  by_cases h2:Hu p.2 x.1=(i:Int)
  ·by_cases h3:(3:Int)<(x.2.1.length:Int)
   ·simp only [h2,h3,show ¬ ((x.2.1.length:Int)≤3) by omega,ne_eq,not_true_eq_false,decide_true,decide_false,cond_true,cond_false,Bool.not_true,Bool.false_and,Bool.and_false,Bool.not_false]
   ·simp only [h2,h3,show((x.2.1.length:Int)≤3) by omega,ne_eq,not_true_eq_false,decide_true,decide_false,cond_false,Bool.not_true,Bool.true_and]
  ·simp only [h2,ne_eq,not_false_eq_true,decide_true,decide_false,cond_true,cond_false,Bool.not_true,Bool.false_and,Bool.and_false,Bool.not_false]
 rw [e,AC]
 cases hA:Bl x.1
 ·simp only [Bool.false_and,Bool.not_false,cond_true]
 cases hB:decide (Hu p.2 x.1=(i:Int))
 ·simp only [Bool.false_and,Bool.and_false,Bool.not_false,cond_true]
 cases hC:decide ((x.2.1.length:Int)≤3)
 ·simp only [Bool.false_and,Bool.and_false,Bool.not_false,cond_true]
 cases hD:decide (0≤x.2.2.1∧x.2.2.1≤2)
 ·simp only [Bool.false_and,Bool.and_false,Bool.not_false,cond_true]
 simp only [Bool.and_self,Bool.not_true,cond_false,Option.bind_some,ja p x hx,Bool.true_and,Bool.and_true]
 cases hP:ba x
 ·simp only [cond_false,Bd,Bool.false_and]
 simp only [cond_true,Bc,Bool.true_and,Ov hp.n.len,sIn,Option.bind_some,GT,QZ,Qr]
 by_cases hb:0≤x.2.2.2.1∧x.2.2.2.1≤(p.1.length:Int) - 1
 ·simp only [hb,and_self,decide_true,Bool.not_true,cond_false,Cm (show 0≤x.2.2.2.1∧x.2.2.2.1<(p.1.length:Int) by omega),AC,Bool.true_and]
  by_cases h20:(rd p.1 x.2.2.2.1 zN).1=20
  ·simp only [h20,ne_eq,not_true_eq_false,decide_true,decide_false,cond_false,Bool.true_and]
   cases decide (x.2.2.1=0)
   ·simp only [cond_false]
    by_cases hc:0≤x.2.2.2.2∧x.2.2.2.2≤(p.1.length:Int) - 1
    ·simp only [Ov hp.n.len,hc,and_self,decide_true,cond_true,Cm (show 0≤x.2.2.2.2∧x.2.2.2.2<(p.1.length:Int) by omega),AC,Bool.true_and]
    ·simp only [Ov hp.n.len,hc,decide_false,cond_false,AC,Bool.false_and]
   ·simp only [cond_true]
  ·simp only [h20,ne_eq,not_false_eq_true,decide_true,decide_false,cond_true,Bool.false_and]
 ·simp only [hb,decide_false,Bool.not_false,cond_true,AC,Bool.false_and]
end Go.Proofs.YtmakhmoielhjeaaGreatDoorE
namespace Go.Proofs.YtmakhmoielhjeaaGreatDoorE
set_option linter.all false
set_option maxRecDepth 100000
def GG {γ D:Type} (q:γ→D→Bool) (g:γ→D→γ):List D→γ→Option γ
 | [],c=>some c
 | x::l,c=>bif q c x then GG q g l (g c x) else none
theorem Yo {α β γ D:Type} {step:β→Option (β ⊕ α)} (l:List D) (q:γ→D→Bool) (g:γ→D→γ) (S:Nat→γ→β) (r:γ→α) (rf:α) (I:Nat→γ→Prop)
 (H:∀ k (h:k<l.length) c,I k c→(step (S k c)=bif q c l[k] then some (.inl (S (k+1) (g c l[k]))) else some (.inr rf))∧(q c l[k]=true→I (k+1) (g c l[k])))
 (He:∀ c,I l.length c→step (S l.length c)=some (.inr (r c))) (c:γ) (hc:I 0 c):
 AH step (S 0 c)=some ((GG q g l c).elim rf r):=by
 have key:∀ m k c,k+m=l.length→I k c→AH step (S k c)=some ((GG q g (l.drop k) c).elim rf r):=by
  intro m
  induction m with
  | zero=>
   intro k c hk hI
   obtain rfl:k=l.length:=by omega
   rw [BH (He c hI),List.drop_length];rfl
  | succ m ih=>
   intro k c hk hI
   have hkl:k<l.length:=by omega
   obtain⟨h1,h2⟩:=H k hkl c hI
   rw [List.drop_eq_getElem_cons hkl,GG]
   cases hq:q c l[k]
   ·rw [hq,cond_false] at h1
    rw [BH h1];rfl
   ·rw [hq,cond_true] at h1
    rw [Bi h1,ih (k+1) _ (by omega) (h2 hq)];rfl
 have:=key l.length 0 c (by omega) hc
 rwa [List.drop_zero] at this
theorem bi {α:Type} (l:List α) (z:α):(List.range l.length).map (fun(i:Nat)=>rd l (i:Int) z)=l:=by
 apply List.ext_getElem
 ·simp
 ·intro i h1 h2
  rw [List.getElem_map,List.getElem_range,Ad h2]
def roots (x:FN):List Int:=x.2.2.2.1::bif decide (0≤x.2.2.2.2) then [x.2.2.2.2] else []
def Le:List FN→List Int
 | []=>[]
 | x::l=>roots x++Le l
def add (f:Nat→Int) (y:Int):Nat→Int:=upd f y.toNat (f y.toNat+1000)
theorem lq (rs:List Int) (hr:∀ y∈rs,(0:Int)≤y):∀ f:Nat→Int,rs.foldl add f=fun t=>f t+1000 * (cnO rs t:Int):=by
 induction rs with
 | nil=>intro f;funext t;simp [cnO]
 | cons y rs ih=>
  intro f
  rw [List.foldl_cons,ih (fun z hz=>hr z (List.mem_cons_of_mem _ hz))]
  funext t
  have hy:=hr y (List.mem_cons_self ..)
  simp only [add,upd,cnO]
  by_cases e:t=y.toNat
  ·have:y=(t:Int):=by omega
   rw [if_pos e,decide_eq_true this,cond_true,← e];omega
  ·have:¬ y=(t:Int):=by omega
   rw [if_neg e,decide_eq_false this,cond_false];omega
theorem Sb {p:PROG} {i:Int} (h:NR p i=true):∀ y∈roots (rd p.2 i zF),(0:Int)≤y∧y<(p.1.length:Int):=by
 simp only [NR,fnI,QZ,Bool.and_eq_true,decide_eq_true_eq] at h
 obtain⟨⟨_,_,_,_,⟨hb,_⟩,hr⟩,_⟩:=h
 intro y hy
 unfold roots at hy
 rcases List.mem_cons.1 hy with rfl | hy
 ·omega
 ·cases hd:decide ((0:Int)≤(rd p.2 i zF).2.2.2.2)
  ·rw [hd,cond_false] at hy;cases hy
  ·rw [hd,cond_true] at hy
   obtain rfl:=List.mem_singleton.1 hy
   have hd:=of_decide_eq_true hd
   unfold Qr at hr
   cases h0:decide ((rd p.2 i zF).2.2.1=0)
   ·rw [h0,cond_false,Bool.and_eq_true,decide_eq_true_eq] at hr
    omega
   ·rw [h0,cond_true,decide_eq_true_eq] at hr
    omega
def Tv (p:PROG):Bool:=(List.range p.2.length).all fun i=>NR p (i:Int)
def gS (p:PROG) (f:Nat→Int) (i:Nat):Nat→Int:=(roots (rd p.2 (i:Int) zF)).foldl add f
theorem Qu {γ D:Type} (q:D→Bool) (g:γ→D→γ):∀ (l:List D) (c:γ),GG (fun _ x=>q x) g l c=bif l.all q then some (l.foldl g c) else none
 | [],c=>rfl
 | x::l,c=>by
  simp only [GG,List.all_cons,List.foldl_cons]
  cases q x
  ·rfl
  ·simp only [cond_true,Bool.true_and];exact Qu q g l _
theorem PR (p:PROG):∀ (l:List FN) (f:Nat→Int),l.foldl (fun f x=>(roots x).foldl add f) f=(Le l).foldl add f
 | [],f=>rfl
 | x::l,f=>by
  simp only [List.foldl_cons,Le,List.foldl_append]
  exact PR p l _
theorem iK (p:PROG) (f:Nat→Int):(List.range p.2.length).foldl (gS p) f=(Le p.2).foldl add f:=by
 have h:=List.foldl_map (f:=fun i:Nat=>rd p.2 (i:Int) zF) (g:=fun(f:Nat→Int) x=>(roots x).foldl add f) (l:=List.range p.2.length) (init:=f)
 rw [bi] at h
 rw [PR p] at h
 exact h.symm
theorem nb (p:PROG) (hp:FineP p) (f:Nat→Int) (hf:BI 1000000000 f):
 AH Cg (tb p.1.length f,(0:Int),p,())=some (bif Tv p then .inl (tb p.1.length ((Le p.2).foldl add f),()) else .inr (false,())):=by
 have hl:=hp.f
 have hr:(List.range p.2.length).length=p.2.length:=List.length_range
 have h:=Yo (step:=Cg) (List.range p.2.length) (fun _ (i:Nat)=>NR p (i:Int)) (gS p) (fun i f=>(tb p.1.length f,(i:Int),p,())) (fun f=>.inl (tb p.1.length f,())) (.inr (false,())) (fun k f=>BI (1000000000+(k:Int) * 2000) f) (fun k hk f hf=>by
  have hk':k<p.2.length:=by omega
  rw [List.getElem_range]
  have wk:=Ag (show k<9223372036854775807 by omega)
  refine⟨?_,fun hq=>?_⟩
  ·simp only [Cg,Au hk',decide_true,cond_true,Xp p hp k hk',Option.bind_some,AY hk']
   cases hq:NR p (k:Int)
   ·simp only [Bool.not_false,cond_true,cond_false,Option.map_some]
   ·have hro:=Sb hq
    simp only [Bool.not_true,cond_false,cond_true,gS]
    generalize rd p.2 (k:Int) zF=x at hro
    obtain⟨b0,b1⟩:=hro x.2.2.2.1 (List.mem_cons_self ..)
    obtain⟨b,hb⟩:∃ b:Nat,x.2.2.2.1=(b:Int):=⟨x.2.2.2.1.toNat,by omega⟩
    have hbl:b<p.1.length:=by omega
    have hbt:b<(tb p.1.length f).length:=by rw [Kb];exact hbl
    have hfb:=hf b
    have w1:IntKind.wrap .i64 (f b+1000)=f b+1000:=Af (by omega) (by omega)
    by_cases hc:(0:Int)≤x.2.2.2.2
    ·obtain⟨c0,c1⟩:=hro x.2.2.2.2 (by unfold roots;rw [decide_eq_true hc];simp)
     obtain⟨c,hcc⟩:∃ c:Nat,x.2.2.2.2=(c:Int):=⟨x.2.2.2.2.toNat,by omega⟩
     have hcl:c<p.1.length:=by omega
     have hct:∀ f,c<(tb p.1.length f).length:=fun f=>by rw [Kb];exact hcl
     have hfc:=hf c
     have hu:0≤upd f b (f b+1000) c∧upd f b (f b+1000) c≤2000000000000:=by
      unfold upd;split<;>omega
     have w2:IntKind.wrap .i64 (upd f b (f b+1000) c+1000)=upd f b (f b+1000) c+1000:=Af (by omega) (by omega)
     simp only [hb,hcc,AY hbt,TX hbl,w1,Int.toNat_natCast,RC hbl,Av,show(0:Int)≤(c:Int) by omega,decide_true,cond_true,AY (hct _),TX hcl,w2,RC hcl,AC,Option.map_some,wk,roots,List.foldl_cons,List.foldl_nil,add]
    ·simp only [hb,hc,AY hbt,TX hbl,w1,Int.toNat_natCast,RC hbl,Av,decide_false,cond_false,AC,Option.map_some,wk,roots,List.foldl_cons,List.foldl_nil,add]
  ·have hro:=Sb hq
   unfold gS
   rw [lq _ (fun y hy=>(hro y hy).1)]
   intro t
   have h1:=hf t
   have h2:=cL (roots (rd p.2 (k:Int) zF)) t
   have h3:(roots (rd p.2 (k:Int) zF)).length≤2:=by
    unfold roots
    cases decide ((0:Int)≤(rd p.2 (k:Int) zF).2.2.2.2)<;>simp
   simp only
   omega) (fun f hf=>by
  rw [hr]
  simp only [Cg,Ab,decide_false,cond_false,Option.map_some]) f (by simpa using hf)
 have h':AH Cg (tb p.1.length f,(0:Int),p,())=_:=h
 rw [h',Qu,iK]
 unfold Tv
 cases (List.range p.2.length).all fun i=>NR p (i:Int)<;>rfl
def bB (b:Int) (l:List Int):Bool:=l.all fun v=>decide (v=1) || decide (v=b)
theorem jT (l:List Int) (hl:l.length≤1048576):AH Dd (l,(0:Int),())=some (bif bB 1000 l then .inl () else .inr (false,())):=by
 exact Bn (step:=Dd) l (fun v=>decide (v=1) || decide (v=1000)) (fun k=>(l,(k:Int),())) (.inl ()) (.inr (false,())) (fun k hk=>by
  have wk:=Ag (show k<9223372036854775807 by omega)
  simp only [Dd,Au hk,decide_true,cond_true,AY hk,Ad hk]
  generalize l[k]=v
  by_cases h1:v=1
  ·simp only [h1,ne_eq,not_true_eq_false,decide_false,decide_true,cond_false,AC,Option.map_some,wk,Bool.true_or,cond_true]
  ·by_cases h2:v=1000
   ·simp only [h2,show ¬ ((1000:Int)=1) by decide,ne_eq,not_true_eq_false,not_false_eq_true,decide_false,decide_true,cond_false,cond_true,AC,Option.map_some,wk,Bool.or_true]
   ·simp only [h1,h2,ne_eq,not_false_eq_true,decide_false,decide_true,cond_false,cond_true,AC,Option.map_some,Bool.or_self]) (by
  simp only [Dd,Ab,decide_false,cond_false,Option.map_some])
end Go.Proofs.YtmakhmoielhjeaaGreatDoorE
namespace Go.Proofs.YtmakhmoielhjeaaGreatDoorE
set_option linter.all false
set_option maxRecDepth 100000
theorem Vs:∀ (l:List Int) (n:Int) (t:Nat),UZ l n=false→n=(t:Int)→cnO l t=0
 | [],_,_,_,_=>rfl
 | y::l,n,t,h,e=>by
  simp only [UZ,List.any_cons,Bool.or_eq_false_iff] at h
  have h1:decide (y=(t:Int))=false:=by rw [← e];exact h.1
  simp only [cnO,h1,cond_false,Vs l n t h.2 e]
theorem bL {l:List NODE} {k:Int} (h:Bo l k=true) (t:Nat):cnO (rd l k zN).2.2.2 t≤1:=by
 simp only [Bo,HJ,OT,Bool.and_eq_true,List.all_eq_true] at h
 have hd:=h.2.2.2.2.2
 generalize rd l k zN=x at hd
 have key:∀ i,i≤x.2.2.2.length→cnO (x.2.2.2.take i) t≤1:=by
  intro i
  induction i with
  | zero=>intro _;simp [cnO]
  | succ i ih=>
   intro hi
   have hi':i<x.2.2.2.length:=by omega
   have:=hd i (by simpa using hi')
   simp only [Ot,Bool.and_eq_true,Bool.not_eq_true'] at this
   have hh:=this.2.2
   have e:x.2.2.2.getD i 0=x.2.2.2[i]:=by simp [hi']
   rw [e] at hh
   rw [List.take_succ_eq_append_getElem hi',gz]
   by_cases et:x.2.2.2[i]=(t:Int)
   ·rw [Vs _ _ t hh et]
    simp only [cnO,decide_eq_true et,cond_true];omega
   ·simp only [cnO,decide_eq_false et,cond_false]
    have:=ih (by omega)
    omega
 have:=key x.2.2.2.length (Nat.le_refl _)
 rwa [List.take_length] at this
def AllN (l:List NODE):Prop:=∀ k:Nat,k<l.length→Bo l (k:Int)=true∧dAt l k≠0
theorem Vm {l:List NODE} (h:(0:Int)<AU l ((l.length:Int) - 1)):AllN l:=fun k hk=>by
 obtain⟨h1,h2,h3⟩:=Ay h
 have h4:=h3 (k:Int) (by omega) (by omega)
 refine⟨(Ay h4).2.1,?_⟩
 unfold AU at h4
 rw [decide_eq_true (by omega),cond_true,Int.toNat_natCast] at h4
 omega
theorem AllN.kd {l:List NODE} (h:AllN l):Kd l:=⟨fun x hx y hy=>by
 obtain⟨k,hk,rfl⟩:=List.getElem_of_mem hx
 have h1:=Ou (h k hk).1
 rw [Ad hk] at h1
 have:=h1 y hy
 omega⟩
theorem jk {l:List NODE} (h:AllN l) (t:Nat):us l t≤l.length:=by
 have key:∀ k,k≤l.length→us (l.take k) t≤k:=by
  intro k
  induction k with
  | zero=>intro _;simp [us]
  | succ k ih=>
   intro hk
   have hk':k<l.length:=by omega
   have h1:=bL (h k hk').1 t
   rw [Ad hk'] at h1
   rw [List.take_succ_eq_append_getElem hk',jF]
   have:=ih (by omega)
   simp only [us];omega
 have:=key l.length (Nat.le_refl _)
 rwa [List.take_length] at this
def HK (p:PROG):Bool:=decide (1≤(p.1.length:Int)∧(p.1.length:Int)≤300) && (decide (1≤(p.2.length:Int)∧(p.2.length:Int)≤8) && (decide ((0:Int)<AU p.1 ((p.1.length:Int) - 1)) && (Tv p && bB 1000 (tb p.1.length ((Le p.2).foldl add (U p.1))))))
theorem Oc (p:PROG) (hp:FineP p):Fi p=some (HK p,()):=by
 unfold Fi HK
 simp only [sIn,Option.bind_some]
 by_cases h1:1≤(p.1.length:Int)∧(p.1.length:Int)≤300
 case neg=>simp only [h1,decide_false,Bool.not_false,cond_true,AC,Bool.false_and]
 by_cases h2:1≤(p.2.length:Int)∧(p.2.length:Int)≤8
 case neg=>simp only [h1,h2,and_self,decide_true,decide_false,Bool.not_true,Bool.not_false,cond_true,cond_false,AC,Bool.false_and,Bool.and_false]
 have hlast:p.1.length - 1<p.1.length:=by omega
 have ec:(p.1.length:Int) - 1=((p.1.length - 1:Nat):Int):=by omega
 have hD:=Nx p.1 hp.n (p.1.length - 1) hlast
 have hsucc:p.1.length - 1+1=p.1.length:=by omega
 rw [hsucc] at hD
 have hlen:=Fo p.1 p.1.length
 have hg:=HD p.1 p.1.length (p.1.length - 1) hlast
 have hdA:AU p.1 ((p.1.length - 1:Nat):Int)=dAt p.1 (p.1.length - 1):=by
  unfold AU;rw [decide_eq_true (by omega),cond_true,Int.toNat_natCast]
 have hdl:=OK p.1 (p.1.length - 1)
 have wr2:IntKind.wrap .i64 ((p.1.length - 1:Nat):Int)=((p.1.length - 1:Nat):Int):=Af (by omega) (by omega)
 simp only [h1,h2,and_self,decide_true,Bool.not_true,cond_false,AC,Bool.true_and,ec,wr2,hD,Option.bind_some,hlen,AY hlast,hg,hdA]
 by_cases hz:dAt p.1 (p.1.length - 1)=0
 ·simp only [hz,decide_true,cond_true,show ¬ ((0:Int)<0) by decide,decide_false,Bool.false_and]
 have hpos:(0:Int)<dAt p.1 (p.1.length - 1):=by omega
 have hA:AllN p.1:=Vm (by rw [ec,hdA];exact hpos)
 simp only [hz,hpos,decide_false,decide_true,cond_false,jl p.1 hp.n hA.kd (by omega),Option.bind_some,Bool.true_and]
 have hU:BI 1000000000 (U p.1):=fun t=>by
  have:=jk hA t
  unfold U;omega
 rw [nb p hp _ hU]
 cases Tv p
 ·simp only [cond_false,Bd,Bool.false_and]
 ·simp only [cond_true,Bc,Option.bind_some,Bool.true_and]
  rw [jT _ (by rw [Kb];omega)]
  cases bB 1000 (tb p.1.length ((Le p.2).foldl add (U p.1)))<;>simp only [cond_true,cond_false,Bc,Bd]
end Go.Proofs.YtmakhmoielhjeaaGreatDoorE
namespace Go.Proofs.YtmakhmoielhjeaaGreatDoorE
set_option linter.all false
set_option maxRecDepth 100000
section
variable {L:List SIGN} (hL:L.length≤3000)
include hL
theorem Lc (r:RD) (k:Int) (s:ByteArray) (h:ROk L r):wp (Bp r k s) fun y=>Pg L r y.2.1:=by
 unfold Bp
 exact AF (AD (MU hL r h) fun v hv=>AF (AD (CR hL _ _ hv.ok) fun m hm=>AF (AD (De hL _ _ (by simp) hm.ok) fun p hp=>AA (hv.mv (hm.toMv.trans hp)))))
abbrev FS:=RD→Option (List Int×RD×Unit)
theorem Xt {r0 r0':FS} {r1 r1' r2 r2':FV} (r:RD) (h:ROk L r) (H1:∀ q,ROk L q→r.2.1≤q.2.1→wq (r1 q) (r1' q) fun y=>Pg L q y.2.1):wq (Dj r0 r1 r2 r) (Dj r0' r1' r2' r) fun y=>Mv L r y.2.1∧y.1.length≤100000:=by
 unfold Dj
 refine BE (AK (AJ (AG (Ix (fun x:Eu=>Mv L r x.2.1∧((x.1.length:Int)≤x.2.1.2.1∨(x.2.1.2.2.1=true∧(x.1.length:Int)≤x.2.1.2.1+1))) (fun x=>2 * (L.length - x.2.1.2.1).toNat+(bif x.2.1.2.2.1 then 0 else 1)) (Q:=fun x:List Int×RD×Unit=>Mv L r x.2.1∧x.1.length≤100000) (fun x hx=>?_) ⟨.rfl' h,.inl (by have:=h.a0;simpa using this)⟩) fun z hz=>AJ hz)))
 obtain⟨x1,x2,_⟩:=x
 simp only at hx
 obtain⟨g1,g2⟩:=hx
 have ga:=g1.ok.a1
 unfold Im
 simp only
 refine BE (AG (Q:=fun z:List Int×Bool×RD×Unit=>z.1=x1∧z.2.2.1=x2∧(z.2.1=true→x2.2.2.1=false)) (Ae (fun hb=>?_) fun _=>AJ ⟨rfl,rfl,fun h=>by cases h⟩) fun z hz=>?_)
 ·have hbad:x2.2.2.1=false:=by
   cases hc:x2.2.2.1
   ·rfl
   ·rw [hc] at hb;cases hb
  refine AK (AG (Ah (XZ hL x2 3 _ g1.ok)) fun y hy=>Ae (fun _=>?_) fun _=>AJ ⟨rfl,hy.1,fun h=>by cases h⟩)
  rw [hy.1]
  exact AK (AG (Ah (XZ hL x2 1 _ g1.ok)) fun y2 hy2=>AJ ⟨rfl,hy2.1,fun _=>hbad⟩)
 obtain⟨z1,z2,z3,_⟩:=z
 simp only at hz
 obtain⟨e1,e2,hb⟩:=hz
 subst e1 e2
 simp only
 refine Ae (fun hb2=>?_) fun _=>CB (AJ (Ak ⟨g1,by simp only;omega⟩))
 have hbad:=hb hb2
 have gl:(z1.length:Int)≤z3.2.1:=by
  rcases g2 with g2 | ⟨g2,_⟩
  ·exact g2
  ·rw [hbad] at g2;cases g2
 refine AK (AG (H1 _ g1.ok g1.le) fun y5 hy5=>Ar (by simp only [Cnd.holds,List.length_singleton];omega) (CB (AJ (Al ⟨⟨(g1.pg hy5).toMv,?_⟩,?_⟩))))
 ·have h2:=hy5.le
  simp only [List.length_append,List.length_singleton]
  rcases hy5.pg with h1 | h1
  ·exact .inr ⟨h1,by omega⟩
  ·exact .inl (by omega)
 ·have h2:=hy5.le
  have h3:=hy5.ok.a1
  simp only [hbad,cond_false]
  rcases hy5.pg with h1 | h1
  ·rw [h1,cond_true];omega
  ·cases y5.2.1.2.2.1<;>simp only [cond_true,cond_false]<;>omega
theorem Wz {r0 r0':FS} {r1 r1' r2 r2':FV} (r:RD) (h:ROk L r) (H0:∀ q,ROk L q→r.2.1≤q.2.1→wq (r0 q) (r0' q) fun y=>Mv L q y.2.1∧y.1.length≤100000):wq (Di r0 r1 r2 r) (Di r0' r1' r2' r) fun y=>Pg L r y.2.1:=by
 unfold Di
 have m0:=(Mv.rfl' h).deep (IntKind.wrap .i64 (r.2.2.2.1+1))
 refine BE (AG (Q:=fun x:RD×Unit=>Mv L r x.1) (Ae (fun _=>AJ ⟨⟨m0.ok.l,m0.ok.a0,m0.ok.a1,m0.ok.n,m0.ok.k⟩,Int.le_refl _,fun _=>rfl⟩) fun _=>AJ m0) fun x hx=>?_)
 refine AK (AG (Ah (CR hL _ _ hx.ok)) fun y2 hy2=>AK (AG (H0 _ hy2.ok (Int.le_trans hx.le hy2.le)) fun y3 hy3=>AK (AG (Ah (CR hL _ _ hy3.1.ok)) fun y4 hy4=>?_)))
 have p:=((hx.pg hy2).mv (hy3.1.trans hy4.toMv)).deep (IntKind.wrap .i64 (y4.1.2.2.2.1 - 1))
 exact AK (AG (Ah (De hL _ _ hy3.2 p.ok)) fun y5 hy5=>AJ (p.mv hy5))
theorem Xs {r0 r0':FS} {r1 r1' r2 r2':FV} (r:RD) (h:ROk L r) (H2:∀ q,ROk L q→r.2.1<q.2.1→wq (r2 q) (r2' q) fun y=>Pg L q y.2.1):wq (EK r0 r1 r2 r) (EK r0' r1' r2' r) fun y=>Pg L r y.2.1:=by
 unfold EK
 have nx:∀ {a b:RD},Mv L r a→a.2.1<b.2.1→r.2.1<b.2.1:=fun h1 h2=>by have:=h1.le;omega
 refine AK (AG (Ah (BK hL _ 1 _ h)) fun y1 hy1=>Ae (fun hb=>?_) (fun _=>?_))
 ·have p:=(hy1.2 hb).1
  exact AK (AG (Ah (GV hL _ p.ok)) fun n hn=>AK (AG (Ah (CR hL _ _ hn.ok)) fun m hm=>AK (AG (Ah (Lc hL _ _ _ hm.ok)) fun q hq=>AJ (p.mv (hn.toMv.trans (hm.toMv.trans hq.toMv))))))
 have m1:=hy1.1
 refine AK (AG (Ah (BK hL _ 3 _ m1.ok)) fun y5 hy5=>Ae (fun hb=>?_) (fun _=>?_))
 ·have p:=m1.pg (hy5.2 hb).1
  exact AK (AG (Ah (GV hL _ p.ok)) fun n hn=>AK (AG (Ah (CR hL _ _ hn.ok)) fun m hm=>AK (AG (Ah (Lc hL _ _ _ hm.ok)) fun q hq=>AJ (p.mv (hn.toMv.trans (hm.toMv.trans hq.toMv))))))
 have m2:=m1.trans hy5.1
 refine AK (AG (Ah (BK hL _ 1 _ m2.ok)) fun y9 hy9=>Ae (fun hb=>?_) (fun _=>?_))
 ·have p:=m2.pg (hy9.2 hb).1
  have pl:=nx m2 (hy9.2 hb).2
  refine AK (AG (Ah (MU hL _ p.ok)) fun v hv=>AK (AG (H2 _ hv.ok (by have:=hv.le;omega)) fun b hb2=>AK (AG (Ah (BK hL _ 1 _ hb2.ok)) fun e he=>BE (AG (Q:=fun x:Int×Int×RD×Unit=>Pg L r x.2.2.1∧r.2.1<x.2.2.1.2.1) (Ae (fun _=>?_) fun _=>?_) fun x hx=>?_))))
  ·have q:=(p.mv (hv.toMv.trans (hb2.toMv.trans he.1)))
   exact AJ ⟨q.toMv.bad,by have:=hv.le;have:=hb2.le;have:=he.1.le;simp only;omega⟩
  ·exact AJ ⟨p.mv (hv.toMv.trans (hb2.toMv.trans he.1)),by have:=hv.le;have:=hb2.le;have:=he.1.le;simp only;omega⟩
  ·exact AK (AG (H2 _ hx.1.ok hx.2) fun d hd=>AK (AG (Ah (De hL _ _ (by simp) hd.ok)) fun q hq=>AJ (hx.1.mv (hd.toMv.trans hq))))
 have m3:=m2.trans hy9.1
 refine AK (AG (Ah (BK hL _ 1 _ m3.ok)) fun y16 hy16=>Ae (fun hb=>?_) (fun _=>?_))
 ·have p:=m3.pg (hy16.2 hb).1
  have pl:=nx m3 (hy16.2 hb).2
  exact AK (AG (Ah (MU hL _ p.ok)) fun v hv=>AK (AG (H2 _ hv.ok (by have:=hv.le;omega)) fun b hb2=>AK (AG (Ah (De hL _ _ (by simp) hb2.ok)) fun q hq=>AJ (p.mv (hv.toMv.trans (hb2.toMv.trans hq))))))
 have m4:=m3.trans hy16.1
 refine AK (AG (Ah (BK hL _ 1 _ m4.ok)) fun y20 hy20=>Ae (fun hb=>?_) (fun _=>?_))
 ·have p:=m4.pg (hy20.2 hb).1
  exact AK (AG (Ah (Lc hL _ _ _ p.ok)) fun q hq=>AJ (p.mv hq.toMv))
 have m5:=m4.trans hy20.1
 refine AK (AG (Ah (BK hL _ 1 _ m5.ok)) fun y22 hy22=>Ae (fun hb=>?_) (fun _=>?_))
 ·have p:=m5.pg (hy22.2 hb).1
  exact AK (AG (Ah (Lc hL _ _ _ p.ok)) fun q hq=>AJ (p.mv hq.toMv))
 have m6:=m5.trans hy22.1
 exact AK (AG (Ah (GV hL _ m6.ok)) fun n hn=>AK (AG (Ah (CR hL _ _ hn.ok)) fun m hm=>AK (AG (Ah (Lc hL _ _ _ hm.ok)) fun q hq=>AJ ((m6.pg hn).mv (hm.toMv.trans hq.toMv)))))
theorem cV:∀ k:Nat,(∀ n n',3 * k+2≤n→3 * k+2≤n'→∀ r,ROk L r→L.length - r.2.1≤k→wq ((AP n).2.1 r) ((AP n').2.1 r) fun y=>Pg L r y.2.1) ∧
 (∀ n n',3 * k+3≤n→3 * k+3≤n'→∀ r,ROk L r→L.length - r.2.1≤k→wq ((AP n).1 r) ((AP n').1 r) fun y=>Mv L r y.2.1∧y.1.length≤100000) ∧
 (∀ n n',3 * k+4≤n→3 * k+4≤n'→∀ r,ROk L r→L.length - r.2.1≤k→wq ((AP n).2.2.1 r) ((AP n').2.2.1 r) fun y=>Pg L r y.2.1):=by
 have main:∀ k:Nat,(∀ n n',3 * k+1≤n→3 * k+1≤n'→∀ r,ROk L r→L.length - r.2.1<k→wq ((AP n).2.2.1 r) ((AP n').2.2.1 r) fun y=>Pg L r y.2.1) →
  (∀ n n',3 * k+2≤n→3 * k+2≤n'→∀ r,ROk L r→L.length - r.2.1≤k→wq ((AP n).2.1 r) ((AP n').2.1 r) fun y=>Pg L r y.2.1) ∧
  (∀ n n',3 * k+3≤n→3 * k+3≤n'→∀ r,ROk L r→L.length - r.2.1≤k→wq ((AP n).1 r) ((AP n').1 r) fun y=>Mv L r y.2.1∧y.1.length≤100000) ∧
  (∀ n n',3 * k+4≤n→3 * k+4≤n'→∀ r,ROk L r→L.length - r.2.1≤k→wq ((AP n).2.2.1 r) ((AP n').2.2.1 r) fun y=>Pg L r y.2.1):=by
  intro k iB
  have hT:∀ n n',3 * k+2≤n→3 * k+2≤n'→∀ r,ROk L r→L.length - r.2.1≤k→wq ((AP n).2.1 r) ((AP n').2.1 r) fun y=>Pg L r y.2.1:=by
   intro n n' hn hn' r h hk
   obtain⟨n,rfl⟩:∃ j,n=j+1:=⟨n - 1,by omega⟩
   obtain⟨n',rfl⟩:∃ j,n'=j+1:=⟨n' - 1,by omega⟩
   exact Xs hL (r0:=(AP n).1) (r0':=(AP n').1) (r1:=(AP n).2.1) (r1':=(AP n').2.1) r h (fun q hq hlt=>iB n n' (by omega) (by omega) q hq (by omega))
  have hS:∀ n n',3 * k+3≤n→3 * k+3≤n'→∀ r,ROk L r→L.length - r.2.1≤k→wq ((AP n).1 r) ((AP n').1 r) fun y=>Mv L r y.2.1∧y.1.length≤100000:=by
   intro n n' hn hn' r h hk
   obtain⟨n,rfl⟩:∃ j,n=j+1:=⟨n - 1,by omega⟩
   obtain⟨n',rfl⟩:∃ j,n'=j+1:=⟨n' - 1,by omega⟩
   exact Xt hL (r0:=(AP n).1) (r0':=(AP n').1) (r2:=(AP n).2.2.1) (r2':=(AP n').2.2.1) r h (fun q hq hle=>hT n n' (by omega) (by omega) q hq (by omega))
  refine⟨hT,hS,fun n n' hn hn' r h hk=>?_⟩
  obtain⟨n,rfl⟩:∃ j,n=j+1:=⟨n - 1,by omega⟩
  obtain⟨n',rfl⟩:∃ j,n'=j+1:=⟨n' - 1,by omega⟩
  exact Wz hL (r1:=(AP n).2.1) (r1':=(AP n').2.1) (r2:=(AP n).2.2.1) (r2':=(AP n').2.2.1) r h (fun q hq hle=>hS n n' (by omega) (by omega) q hq (by omega))
 intro k
 induction k with
 | zero=>exact main 0 fun n n' hn hn' r h hk=>by have:=h.a1;omega
 | succ k ih=>exact main (k+1) fun n n' hn hn' r h hk=>ih.2.2 n n' (by omega) (by omega) r h (by omega)
theorem Yu (r:RD) (h:ROk L r):wp (El r) fun y=>Mv L r y.2.1∧y.1.length≤100000:=by
 unfold El
 exact Kc (3 * 3000+3) fun n hn=>(cV hL 3000).2.1 n _ hn (Nat.le_refl _) r h (by have:=h.a0;omega)
theorem Vz (r:RD) (h:ROk L r):wp (Df r) fun y=>Mv L r y.2.1:=by
 unfold Df
 refine AF (AD (BK hL _ 1 _ h) fun y1 hy1=>AM (fun _=>AA hy1.1) fun _=>AF (AD (BK hL _ 1 _ hy1.1.ok) fun y2 hy2=>AM (fun _=>AA (hy1.1.trans hy2.1)) fun _=>?_))
 have m2:=hy1.1.trans hy2.1
 refine AF (AD (CR hL _ _ m2.ok) fun y3 hy3=>AF (AD (BK hL _ 1 _ hy3.ok) fun y4 hy4=>AR (AD (Q:=fun x:Int×RD×Unit=>Mv L r x.2.1) (AM (fun _=>AA (m2.trans (hy3.toMv.trans hy4.1))) fun _=>AA (m2.trans (hy3.toMv.trans hy4.1))) fun x hx=>?_)))
 refine AF (AD (BK hL _ 1 _ hx.ok) fun y6 hy6=>AR (AD (Q:=fun x:Int×RD×Unit=>Mv L r x.2.1) (AM (fun _=>AA (hx.trans hy6.1).bad.toMv) fun _=>AA (hx.trans hy6.1)) fun z hz=>AA hz))
theorem iu (r:RD) (h:ROk L r):wp (Gv r) fun y=>Pg L r y.2.1∧(y.1:FN).2.1.length≤100000:=by
 unfold Gv
 refine AF (AD (BK hL _ 1 _ h) fun y1 hy1=>AR (AD (Q:=fun x:RD×FN×Unit=>Pg L r x.1) (AM (fun _=>AA hy1.1.bad) fun hb=>AA (hy1.2 ?_).1) fun x2 hx2=>?_))
 ·cases hc:y1.1
  ·rw [hc] at hb;cases hb
  ·rfl
 refine AF (AD (GV hL _ hx2.ok) fun y3 hy3=>AF (AD (CR hL _ _ hy3.ok) fun y4 hy4=>AF (AD (BK hL _ 3 _ hy4.ok) fun y5 hy5=>?_)))
 have p5:=hx2.mv (hy3.toMv.trans (hy4.toMv.trans hy5.1))
 refine AR (AD (Q:=fun x:RD×FN×FN×Unit=>Pg L r x.1∧x.2.2.1.2.1.length≤100000) (AM (fun _=>?_) fun _=>AA ⟨p5,by simp⟩) fun x13 hx13=>?_)
 ·refine AR (AF (AA (AD (wp_loop (fun x:GZ=>Pg L r x.1∧((x.2.2.1.2.1.length:Int)≤x.1.2.1∨(x.1.2.2.1=true∧(x.2.2.1.2.1.length:Int)≤x.1.2.1+1))) (fun x=>2 * (L.length - x.1.2.1).toNat+(bif x.1.2.2.1 then 0 else 1)) (Q:=fun x:RD×FN×FN×Unit=>Pg L r x.1∧x.2.2.1.2.1.length≤100000) (fun x hx=>?_) ⟨p5,.inl (by have:=p5.ok.a0;simpa using this)⟩) fun z hz=>AA hz)))
  obtain⟨x1,x2,x3,_⟩:=x
  simp only at hx
  obtain⟨g1,g2⟩:=hx
  have ga:=g1.ok.a1
  unfold KM
  simp only
  refine AM (fun hb=>?_) fun _=>AN (AA (Ak ⟨g1,by simp only;omega⟩))
  have hbad:x1.2.2.1=false:=by
   cases hc:x1.2.2.1
   ·rfl
   ·rw [hc] at hb;cases hb
  have gl:(x3.2.1.length:Int)≤x1.2.1:=by
   rcases g2 with g2 | ⟨g2,_⟩
   ·exact g2
   ·rw [hbad] at g2;cases g2
  refine AF (AD (GV hL _ g1.ok) fun y7 hy7=>AF (AD (CR hL _ _ hy7.ok) fun y8 hy8=>AF (AD (Vz hL _ hy8.ok) fun y9 hy9=>AL (by simp only [Cnd.holds,List.length_singleton];omega) (AF (AD (BK hL _ 3 _ hy9.ok) fun y10 hy10=>?_)))))
  have m10:=hy7.mv (hy8.toMv.trans (hy9.trans hy10.1))
  refine AM (fun _=>AN (AA (Ak ⟨g1.mv m10.toMv,by simp only [List.length_append,List.length_singleton];omega⟩))) fun _=>AF (AD (CR hL _ _ hy10.1.ok) fun y11 hy11=>AN (AA (Al ⟨⟨g1.mv (m10.mv hy11.toMv).toMv,?_⟩,?_⟩)))
  ·have h2:=(m10.mv hy11.toMv).le
   simp only [List.length_append,List.length_singleton]
   rcases(m10.mv hy11.toMv).pg with h1 | h1
   ·exact .inr ⟨h1,by omega⟩
   ·exact .inl (by omega)
  ·have h2:=(m10.mv hy11.toMv).le
   have h3:=hy11.ok.a1
   simp only [hbad,cond_false]
   rcases(m10.mv hy11.toMv).pg with h1 | h1
   ·rw [h1,cond_true];omega
   ·cases y11.1.2.2.1<;>simp only [cond_true,cond_false]<;>omega
 refine AF (AD (BK hL _ 3 _ hx13.1.ok) fun y14 hy14=>AR (AD (Q:=fun x:RD×FN×FN×Unit=>Pg L r x.1∧x.2.2.1.2.1.length≤100000) (AM (fun _=>AF (AD (Vz hL _ hy14.1.ok) fun k hk=>AA ⟨hx13.1.mv (hy14.1.trans hk),hx13.2⟩)) fun _=>AA ⟨hx13.1.mv hy14.1,hx13.2⟩) fun x16 hx16=>?_))
 refine AF (AD (CR hL _ _ hx16.1.ok) fun y17 hy17=>AF (AD (Yu hL _ hy17.ok) fun y18 hy18=>AF (AD (De hL _ _ hy18.2 hy18.1.ok) fun y19 hy19=>AF (AD (BK hL _ 1 _ hy19.ok) fun y20 hy20=>?_))))
 have p20:=hx16.1.mv (hy17.toMv.trans (hy18.1.trans (hy19.trans hy20.1)))
 refine AR (AD (Q:=fun x:RD×FN×FN×Unit=>Pg L r x.1∧x.2.2.1.2.1.length≤100000) (AM (fun _=>AF (AD (MU hL _ p20.ok) fun v hv=>AF (AD (CR hL _ _ hv.ok) fun m hm=>AA ⟨p20.mv (hv.toMv.trans hm.toMv),hx16.2⟩))) fun _=>AA ⟨p20,hx16.2⟩) fun x23 hx23=>?_)
 exact AF (AD (CR hL _ _ hx23.1.ok) fun y24 hy24=>AA ⟨hx23.1.mv hy24.toMv,hx23.2⟩)
end
def PRd (p:PROG):Prop:=FineP p∧(HK p=true∨p=([],[]))
theorem Rx (t:ByteArray):wp (Cw t) fun y=>PRd y.1:=by
 unfold Cw
 have hnil:PRd ([],[]):=⟨⟨⟨by simp,by simp⟩,by simp,by simp⟩,.inr rfl⟩
 refine AF (AD (bj t) fun y1 hL=>AM (fun _=>AA hnil) fun _=>?_)
 refine AR (AF (AA ?_))
 refine AD (wp_loop (fun x:Fz=>x.1=([],[])∧ROk y1.1 x.2.2.1∧x.2.1.2.length≤10∧∀ f∈x.2.1.2,(f:FN).2.1.length≤100000) (fun x=>2 * (y1.1.length - x.2.2.1.2.1).toNat+(bif x.2.2.1.2.2.1 then 0 else 1)) (Q:=fun x:PROG×PROG×RD×Unit=>ROk y1.1 x.2.2.1∧x.2.1.2.length≤10∧∀ f∈x.2.1.2,(f:FN).2.1.length≤100000) (fun x hx=>?_) ⟨rfl,⟨rfl,by simp,by simp,by simp,by simp⟩,by simp,by simp⟩) (fun x hx=>?_)
 ·obtain⟨x0,x1,x2,_⟩:=x
  simp only at hx
  obtain⟨g0,g1,g2,g3⟩:=hx
  subst g0
  have ga:=g1.a1
  unfold Jj
  simp only
  refine AR (AD (Q:=fun z:Bool×PROG×PROG×RD×Unit=>z.2.1=([],[])∧z.2.2.1=x1∧z.2.2.2.1=x2∧(z.1=true→x2.2.2.1=false∧x1.2.length≤8)) (AM (fun hb=>AM (fun _=>AA ⟨rfl,rfl,rfl,fun h=>⟨?_,?_⟩⟩) fun _=>AA ⟨rfl,rfl,rfl,fun h=>by cases h⟩) fun _=>AA ⟨rfl,rfl,rfl,fun h=>by cases h⟩) fun z hz=>?_)
  ·cases hc:x2.2.2.1
   ·rfl
   ·rw [hc] at hb;cases hb
  ·have:(List.length x1.2:Int)≤8:=by simpa using h
   omega
  obtain⟨z0,z1,z2,z3,_⟩:=z
  simp only at hz
  obtain⟨e1,e2,e3,hb⟩:=hz
  subst e1 e2 e3
  simp only
  refine AM (fun hb2=>?_) fun _=>AN (AA (Ak ⟨g1,g2,g3⟩))
  obtain⟨hbad,h8⟩:=hb hb2
  refine AF (AD (iu hL _ g1) fun y4 hy4=>AL (by simp only [Cnd.holds,List.length_singleton];omega) (AN (AA (Al ⟨⟨rfl,hy4.1.ok,by simp only [List.length_append,List.length_singleton];omega,fun f hf=>?_⟩,?_⟩))))
  ·rcases List.mem_append.1 hf with hf | hf
   ·exact g3 f hf
   ·rw [List.mem_singleton.1 hf];exact hy4.2
  ·have h2:=hy4.1.le
   have h3:=hy4.1.ok.a1
   simp only [hbad,cond_false]
   rcases hy4.1.pg with h1 | h1
   ·rw [h1,cond_true];omega
   ·cases y4.2.1.2.2.1<;>simp only [cond_true,cond_false]<;>omega
 ·obtain⟨x0,x1,x2,_⟩:=x
  simp only at hx
  obtain⟨g1,g2,g3⟩:=hx
  have hf:FineP (x2.2.2.2.2,x1.2):=⟨⟨by have:=g1.n;simp only;omega,fun x hx=>by have:=g1.k x hx;omega⟩,by simp only;omega,fun f hf=>by have:=g3 f hf;omega⟩
  simp only
  refine AR (AD (Q:=fun z:Bool×PROG×PROG×Unit=>z.2.2.1=(x2.2.2.2.2,x1.2)∧(z.1=false→HK (x2.2.2.2.2,x1.2)=true)) (AM (fun _=>AA ⟨rfl,fun h=>by cases h⟩) fun _=>?_) fun z hz=>AM (fun _=>AA hnil) fun hb=>AA ?_)
  ·rw [Oc _ hf]
   exact AF (AA (AA ⟨rfl,fun h=>by simpa using h⟩))
  ·obtain⟨z0,z1,z2,_⟩:=z
   simp only at hz hb
   obtain⟨e1,h1⟩:=hz
   subst e1
   exact⟨hf,.inl (h1 hb)⟩
theorem dR (c:Cur) (h:COk c):wp (Gu c) fun y=>PRd y.1∧COk y.2.1:=by
 unfold Gu
 refine AF (AD (dj c 9 (by omega) (by omega) h) fun y1 hy1=>AF (AD (Rx _) fun y2 hy2=>AR (AD (Q:=fun x:Cur×PROG×PROG×Unit=>PRd x.2.2.1∧COk x.1) (AM (fun _=>?_) fun _=>AA ⟨hy2,hy1.2⟩) fun x hx=>AA hx)))
 exact AF (AD (Rx _) fun y3 hy3=>AR (AD (Q:=fun x:Cur×PROG×PROG×Unit=>PRd x.2.2.1∧COk x.1) (AM (fun _=>AF (AD (Rx _) fun y4 hy4=>AA ⟨hy4,hy1.2⟩)) fun _=>AA ⟨hy3,hy1.2⟩) fun x hx=>AA hx))
end Go.Proofs.YtmakhmoielhjeaaGreatDoorE
namespace Go.Proofs.YtmakhmoielhjeaaGreatDoorE
set_option linter.all false
set_option maxRecDepth 100000
theorem SB (l:List NODE) (hl:FineN l) (n:Int):KF l n=some (AU l n,()):=by
 unfold KF AU
 simp only [Ov hl.len,sIn,Option.bind_some]
 by_cases hr:0≤n∧n≤(l.length:Int) - 1
 case neg=>simp only [hr,decide_false,Bool.not_false,cond_true,cond_false]
 obtain⟨k,rfl⟩:∃ m:Nat,n=(m:Int):=⟨n.toNat,by omega⟩
 have hk:k<l.length:=by omega
 simp only [hr,and_self,decide_true,Bool.not_true,cond_false,cond_true,Nx l hl k hk,Option.bind_some]
 rw [AY (show k<(BC l (k+1)).length by rw [Fo];omega),HD l (k+1) k (by omega)]
 rfl
end Go.Proofs.YtmakhmoielhjeaaGreatDoorE
namespace Go.Proofs.YtmakhmoielhjeaaGreatDoorE
set_option linter.all false
set_option maxRecDepth 100000
def rc (l:List NODE):Nat→Int→Int→Bool
 | 0,_,_=>false
 | f+1,a,t=>decide (a=t) || (rd l a zN).2.2.2.any fun y=>rc l f y t
def Cq (l:List NODE) (a t:Int):Bool:=rc l (a.toNat+1) a t
theorem Pc {α:Type} {f g:α→Bool}:∀ {l:List α},(∀ x∈l,f x=g x)→l.any f=l.any g
 | [],_=>rfl
 | x::l,h=>by rw [List.any_cons,List.any_cons,h x (List.mem_cons_self ..),Pc fun y hy=>h y (List.mem_cons_of_mem _ hy)]
theorem DR {l:List NODE} {a:Int} (h:(0:Int)<AU l a) {y:Int} (hy:y∈(rd l a zN).2.2.2):(0:Int)<AU l y∧0≤y∧y<a:=by
 obtain⟨_,h2,h3⟩:=Ay h
 obtain⟨k1,k2⟩:=Ou h2 y hy
 exact⟨h3 y k1 (by omega),k1,k2⟩
theorem WF (l:List NODE):∀ (f g:Nat) (a t:Int),(0:Int)<AU l a→a.toNat<f→a.toNat<g→rc l f a t=rc l g a t
 | 0,_,_,_,_,h,_=>absurd h (by omega)
 | _+1,0,_,_,_,_,h=>absurd h (by omega)
 | f+1,g+1,a,t,hd,hf,hg=>by
  simp only [rc]
  congr 1
  refine Pc fun y hy=>?_
  obtain⟨k1,k2,k3⟩:=DR hd hy
  exact WF l f g y t k1 (by omega) (by omega)
theorem PD {l:List NODE} {a:Int} (h:(0:Int)<AU l a) (t:Int):Cq l a t=(decide (a=t) || (rd l a zN).2.2.2.any fun y=>Cq l y t):=by
 unfold Cq
 simp only [rc]
 congr 1
 refine Pc fun y hy=>?_
 obtain⟨k1,k2,k3⟩:=DR h hy
 exact WF l a.toNat (y.toNat+1) y t k1 (by omega) (by omega)
theorem ZR (l:List NODE) (a:Int):Cq l a a=true:=by simp [Cq,rc]
theorem QS {l:List NODE} {a y t:Int} (h:(0:Int)<AU l a) (hy:y∈(rd l a zN).2.2.2) (ht:Cq l y t=true):Cq l a t=true:=by
 rw [PD h,Bool.or_eq_true]
 exact .inr (List.any_eq_true.2 ⟨y,hy,ht⟩)
theorem WL {l:List NODE}:∀ (n:Nat) (a t:Int),a.toNat<n→(0:Int)<AU l a→Cq l a t=true→0≤t∧t≤a
 | 0,_,_,h,_,_=>absurd h (by omega)
 | n+1,a,t,hn,h,ht=>by
  rw [PD h,Bool.or_eq_true] at ht
  rcases ht with ht | ht
  ·have:=of_decide_eq_true ht
   have:=(Ay h).1
   omega
  ·obtain⟨y,hy,hy2⟩:=List.any_eq_true.1 ht
   obtain⟨k1,k2,k3⟩:=DR h hy
   have:=WL n y t (by omega) k1 hy2
   omega
theorem QT {l:List NODE} {a t:Int} (h:(0:Int)<AU l a) (ht:Cq l a t=true):0≤t∧t≤a:=WL _ a t (Nat.lt_succ_self _) h ht
theorem TC {l:List NODE} {a t:Int} (h:(0:Int)<AU l a) (ht:Cq l a t=true):(0:Int)<AU l t:=by
 have:=QT h ht
 exact(Ay h).2.2 t this.1 this.2
theorem PX {l:List NODE}:∀ (n:Nat) (a b t:Int),a.toNat<n→(0:Int)<AU l a→Cq l a b=true→Cq l b t=true→Cq l a t=true
 | 0,_,_,_,h,_,_,_=>absurd h (by omega)
 | n+1,a,b,t,hn,h,hb,ht=>by
  rw [PD h,Bool.or_eq_true] at hb
  rcases hb with hb | hb
  ·have:=of_decide_eq_true hb
   subst this
   exact ht
  ·obtain⟨y,hy,hy2⟩:=List.any_eq_true.1 hb
   obtain⟨k1,k2,k3⟩:=DR h hy
   exact QS h hy (PX n y b t (by omega) k1 hy2 ht)
theorem YB {l:List NODE} {a b t:Int} (h:(0:Int)<AU l a) (hb:Cq l a b=true) (ht:Cq l b t=true):Cq l a t=true:=PX _ a b t (Nat.lt_succ_self _) h hb ht
def mrk (l:List NODE) (k:Int) (s:List Bool):List Bool:=s.mapIdx fun t b=>b || Cq l k (t:Int)
@[simp] theorem Iw (l:List NODE) (k:Int) (s:List Bool):(mrk l k s).length=s.length:=by simp [mrk]
theorem KA (l:List NODE) (k:Int) (s:List Bool) {t:Nat} (h:t<s.length):(mrk l k s).getD t false=(s.getD t false || Cq l k (t:Int)):=by
 simp [mrk,h]
def Cl (l:List NODE) (b:Int) (s:List Bool):Prop:=∀ a:Nat,(a:Int)<b→s.getD a false=true→∀ t:Nat,Cq l (a:Int) (t:Int)=true→s.getD t false=true
theorem Cl.mono {l:List NODE} {b c:Int} {s:List Bool} (h:Cl l b s) (hc:c≤b):Cl l c s:=fun a ha hs t ht=>h a (by omega) hs t ht
theorem Mz {s:List Bool} {t:Nat} (h:s.getD t false=true):t<s.length:=by
 rcases Nat.lt_or_ge t s.length with h1 | h1
 ·exact h1
 ·simp [h1] at h
theorem Cl.mrk {l:List NODE} {b k:Int} {s:List Bool} (h:Cl l b s) (hs:s.length=l.length) (hk:(0:Int)<AU l k):Cl l b (mrk l k s):=by
 intro a ha h1 t ht
 have hal:=Mz h1
 rw [Iw] at hal
 rw [KA _ _ _ hal,Bool.or_eq_true] at h1
 rcases h1 with h1 | h1
 ·have h2:=h a ha h1 t ht
  rw [KA _ _ _ (Mz h2),h2,Bool.true_or]
 ·have h2:=YB hk h1 ht
  have h3:=QT hk h2
  have h4:=(Ay hk).1
  rw [KA _ _ _ (show t<s.length by omega),h2,Bool.or_true]
theorem UY (l:List NODE):∀ (ys:List Int) (s:List Bool),(ys.foldl (fun s y=>mrk l y s) s).length=s.length∧∀ t,t<s.length→(ys.foldl (fun s y=>mrk l y s) s).getD t false=(s.getD t false || ys.any fun y=>Cq l y (t:Int))
 | [],s=>⟨rfl,fun t h=>by simp⟩
 | y::ys,s=>by
  obtain⟨h1,h2⟩:=UY l ys (mrk l y s)
  rw [List.foldl_cons]
  refine⟨by rw [h1,Iw],fun t ht=>?_⟩
  rw [h2 t (by rw [Iw];exact ht),KA _ _ _ ht,List.any_cons,Bool.or_assoc]
theorem US {a b:List Bool} (hl:a.length=b.length) (h:∀ t,t<b.length→a.getD t false=b.getD t false):a=b:=by
 refine List.ext_getElem hl fun t h1 h2=>?_
 have:=h t h2
 simpa [h1,h2] using this
theorem QI {s:List Bool} {m t:Nat} (hm:m<s.length) (ht:t<s.length):(s.set m true).getD t false=(s.getD t false || decide (m=t)):=by
 by_cases h:m=t
 ·subst h;simp [hm]
 ·simp [List.getElem?_set,h]
theorem Yp (l:List NODE) (hl:FineN l):∀ (n:Nat) (k:Int) (s:List Bool),(0:Int)<AU l k→k.toNat<n→s.length=l.length→Cl l (k+1) s→(Du n).1 l k s=some (mrk l k s,())
 | 0,_,_,_,h,_,_=>absurd h (by omega)
 | n+1,k,s,hk,hn,hs,hc=>by
  show KB (Du n).1 l k s=_
  obtain⟨h1,h2,h3⟩:=Ay hk
  obtain⟨m,rfl⟩:∃ m:Nat,k=(m:Int):=⟨k.toNat,by omega⟩
  have hm:m<s.length:=by omega
  have hml:m<l.length:=by omega
  unfold KB
  rw [AY hm,Ad hm]
  cases hb:s[m]
  ·have hx:=hl.kid _ (List.getElem_mem hml)
   have hkid:=fun y hy=>@DR l (m:Int) hk y hy
   rw [Ad hml] at hkid
   have hue:=fun t=>PD hk t
   rw [Ad hml] at hue
   have hrd:rd l (m:Int) zN=l[m]:=Ad hml
   have hcl0:Cl l (m:Int) (s.set m true):=fun a ha h1 t ht=>by
    have hal:=Mz h1
    rw [List.length_set] at hal
    rw [QI hm hal] at h1
    have hne:¬ m=a:=by omega
    rw [decide_eq_false hne,Bool.or_false] at h1
    have h2:=hc a (by omega) h1 t ht
    rw [QI hm (Mz h2),h2,Bool.true_or]
   generalize l[m]=x at hx hkid hue hrd
   have h:=CM (step:=EX (Du n).1) x.2.2.2 (fun s y=>mrk l y s) (fun i s=>(l,(m:Int),(i:Int),s,())) (fun s=>(s,())) (fun _ s=>s.length=l.length∧Cl l (m:Int) s) (fun i hi c hI=>by
    obtain⟨g1,g2⟩:=hI
    obtain⟨k1,k2,k3⟩:=hkid _ (List.getElem_mem hi)
    have ih:=Yp l hl n x.2.2.2[i] c k1 (by omega) g1 (g2.mono (by omega))
    refine⟨?_,by rw [Iw];exact g1,g2.mrk g1 k1⟩
    simp only [EX,AY hml,hrd,Au hi,decide_true,cond_true,AY hi,Ad hi,ih,Option.bind_some,Option.map_some,Ag (show i<9223372036854775807 by omega)]) (fun c hI=>by
    simp only [EX,AY hml,hrd,Ab,decide_false,cond_false,Option.map_some]) (s.set m true) ⟨by rw [List.length_set];exact hs,hcl0⟩
   have h':AH (EX (Du n).1) (l,(m:Int),(0:Int),s.set m true,())=_:=h.1
   simp only [cond_false,AY hm,Av,Int.toNat_natCast,Option.bind_some,h',AC]
   congr 2
   obtain⟨f1,f2⟩:=UY l x.2.2.2 (s.set m true)
   refine US (by rw [f1,List.length_set,Iw]) fun t ht=>?_
   rw [Iw] at ht
   rw [f2 t (by rw [List.length_set];exact ht),KA _ _ _ ht,QI hm ht,hue,Bool.or_assoc]
   congr 2
   exact decide_eq_decide.2 (by omega)
  ·simp only [cond_true]
   congr 2
   refine US (by rw [Iw]) fun t ht=>?_
   rw [Iw] at ht
   rw [KA _ _ _ ht]
   cases hu:Cq l (m:Int) (t:Int)
   ·rw [Bool.or_false]
   ·rw [hc m (by omega) (by simp [hm,hb]) t hu];rfl
def VH (l:List NODE) (k:Int):List Int:=((List.range l.length).filter fun(t:Nat)=>Cq l k (t:Int)).map fun(t:Nat)=>(t:Int)
def HV (l:List NODE) (k:Int):List Int:=bif decide (AU l k=0) then [] else VH l k
theorem Mf {α β:Type} (p:α→Bool) (f:α→β):∀ (xs:List α) (o:List β),xs.foldl (fun o x=>bif p x then o++[f x] else o) o=o++(xs.filter p).map f
 | [],o=>by simp
 | x::xs,o=>by
  rw [List.foldl_cons,Mf p f xs]
  cases h:p x<;>simp [h]
theorem cB (l:List NODE) (k:Int):(VH l k).length≤l.length:=by
 unfold VH
 rw [List.length_map]
 exact Nat.le_trans (List.length_filter_le ..) (by simp)
theorem Py {l:List NODE} {k:Int} (hk:(0:Int)<AU l k) (x:Int):x∈VH l k↔Cq l k x=true:=by
 unfold VH
 rw [List.mem_map]
 constructor
 ·rintro ⟨t,ht,rfl⟩
  exact(List.mem_filter.1 ht).2
 ·intro h
  have h1:=QT hk h
  have h2:=(Ay hk).1
  have e:((x.toNat:Nat):Int)=x:=by omega
  exact⟨x.toNat,List.mem_filter.2 ⟨List.mem_range.2 (by omega),by rw [e];exact h⟩,e⟩
theorem TJ (p:PROG) (hp:FineN p.1) (k:Int):LG p k=some (HV p.1 k,()):=by
 unfold LG HV
 rw [SB p.1 hp k,Option.bind_some]
 by_cases hz:AU p.1 k=0
 ·simp only [hz,decide_true,cond_true]
 have hk:=TT hz
 have hn:=hp.len
 have hC:Cl p.1 (k+1) (List.replicate p.1.length false):=fun a _ h t _=>by
  have:=Mz h
  simp at this
  simp [this] at h
 have hm:Lk p.1 k (List.replicate p.1.length false)=some (mrk p.1 k (List.replicate p.1.length false),()):=
  KW.2 ⟨k.toNat+1,fun n hn'=>Yp p.1 hp n k _ hk (by omega) (by simp) hC⟩
 have hsl:(mrk p.1 k (List.replicate p.1.length false)).length=p.1.length:=by simp
 have hsg:∀ t:Nat,t<p.1.length→rd (mrk p.1 k (List.replicate p.1.length false)) (t:Int) false=Cq p.1 k (t:Int):=fun t ht=>by
  have:=KA p.1 k (List.replicate p.1.length false) (t:=t) (by simpa using ht)
  rw [show rd (mrk p.1 k (List.replicate p.1.length false)) (t:Int) false=(mrk p.1 k (List.replicate p.1.length false)).getD t false from rfl,this]
  simp [ht]
 generalize mrk p.1 k (List.replicate p.1.length false)=s at hm hsl hsg
 have h:=CM (step:=GM) (List.range p.1.length) (fun o t=>bif Cq p.1 k (t:Int) then o++[(t:Int)] else o) (fun i o=>(o,s,(i:Int),())) (fun o=>(o,())) (fun i o=>o.length≤i) (fun i hi o ho=>by
  have hi':i<p.1.length:=by simpa using hi
  have hi2:i<s.length:=by omega
  simp only [GM,Au hi2,decide_true,cond_true,AY hi2,hsg i hi',List.getElem_range,Ag (show i<9223372036854775807 by omega)]
  cases Cq p.1 k (i:Int)
  ·simp only [cond_false,AC,Option.map_some,Ag (show i<9223372036854775807 by omega)]
   exact⟨by trivial,by omega⟩
  ·simp only [cond_true,Bx (show(o.length+[(i:Int)].length) * 8≤140737488355328 by simp;omega),AC,Option.map_some,Ag (show i<9223372036854775807 by omega)]
   exact⟨by trivial,by simp;omega⟩) (fun o ho=>by
  simp only [GM,List.length_range,hsl,Ab,decide_false,cond_false,Option.map_some]) [] (Nat.le_refl 0)
 have h':AH GM ([],s,(0:Int),())=_:=h.1
 simp only [decide_eq_false hz,cond_false]
 rw [show(Cnd.both (Cnd.nn (List.length p.1:Int)) (Cnd.le ((List.length p.1:Int).toNat * 1) 140737488355328)).run _=_ from by
  simp only [Cnd.run]
  rw [if_pos (by omega),if_pos (by omega)]]
 rw [show(List.length p.1:Int).toNat=p.1.length from Int.toNat_natCast _,hm,Option.bind_some]
 simp only [Option.bind_some,h',AC]
 rw [Mf,List.nil_append]
 rfl
end Go.Proofs.YtmakhmoielhjeaaGreatDoorE
namespace Go.Proofs.YtmakhmoielhjeaaGreatDoorE
set_option linter.all false
set_option maxRecDepth 100000
def srt (l:List Int):List Int:=l.mergeSort fun a b=>decide (a≤b)
structure BIu (l:List NODE) (k:Int) (i:Nat) (o:List Int):Prop where
 nd:o.Nodup
 un:∀ x∈o,Cq l k x=true
 at_:k∈o
 le:i≤o.length
 cl:∀ x∈o.take i,∀ y∈(rd l x zN).2.2.2,y∈o
theorem VJ (l:List NODE) (k:Int):(HV l k).length≤l.length:=by
 unfold HV
 cases decide (AU l k=0)
 ·exact cB l k
 ·exact Nat.zero_le _
theorem cC {l:List NODE} {k x:Int} (h:x∈HV l k):(0≤x∧x<(l.length:Int))∧(0:Int)<AU l x:=by
 unfold HV at h
 by_cases hz:AU l k=0
 ·simp [hz] at h
 ·rw [decide_eq_false hz,cond_false] at h
  have:=TC (TT hz) ((Py (TT hz) x).1 h)
  exact⟨(Ay this).1,this⟩
end Go.Proofs.YtmakhmoielhjeaaGreatDoorE
namespace Go.Proofs.YtmakhmoielhjeaaGreatDoorE
set_option linter.all false
set_option maxRecDepth 100000
def Pn (p:PROG) (fn:Int):Bool:=decide (0≤fn∧fn≤(p.2.length:Int) - 1)
theorem jY {p:PROG} (hp:FineP p):IntKind.wrap .i64 ((p.2.length:Int) - 1)=(p.2.length:Int) - 1:=Ov hp.f
end Go.Proofs.YtmakhmoielhjeaaGreatDoorE
namespace Go.Proofs.YtmakhmoielhjeaaGreatDoorE
set_option linter.all false
set_option maxRecDepth 100000
abbrev VAR:=ByteArray×(Int×Int)
abbrev zV:VAR:=((⟨#[]⟩:ByteArray),((0:Int),(0:Int)))
def Uk (x:ByteArray×Int):VAR:=(x.1,(x.2,(-1:Int)))
def NV (l:List NODE) (k:Int):Bool:=decide ((rd l k zN).1=13)
def Xe (l:List NODE) (k:Int):VAR:=((rd l k zN).2.2.1,((0:Int),k))
def Er (p:PROG) (fn:Int):List VAR:=bif Pn p fn then (rd p.2 fn zF).2.1.map Uk++((HV p.1 (rd p.2 fn zF).2.2.2.1).filter (NV p.1)).map (Xe p.1) else []
theorem YZ {p:PROG} (hp:FineP p) {fn:Int} (h:0≤fn∧fn<(p.2.length:Int)):(rd p.2 fn zF).2.1.length≤1048576:=by
 obtain⟨k,rfl⟩:∃ m:Nat,fn=(m:Int):=⟨fn.toNat,by omega⟩
 have hk:k<p.2.length:=by omega
 rw [Ad hk]
 exact hp.a _ (List.getElem_mem hk)
theorem iQ {α:Type} {l:List NODE} {k x:Int} (h:x∈HV l k) {K:Option α}:(Cnd.idx x l.length).run K=K:=Cm (cC h).1
theorem ZU (p:PROG) (hp:FineP p) (r:Int) (o:List VAR) (ho:o.length≤1048576):AH Fa (o,HV p.1 r,(0:Int),p,())=some (o++((HV p.1 r).filter (NV p.1)).map (Xe p.1),()):=by
 have hn:=hp.n.len
 have hlen:=VJ p.1 r
 have h:=CM (step:=Fa) (HV p.1 r) (fun o k=>bif NV p.1 k then o++[Xe p.1 k] else o) (fun i o=>(o,HV p.1 r,(i:Int),p,())) (fun o=>(o,())) (fun i o=>o.length≤1048576+i) (fun i hi o ho=>by
  have hid:∀ {α:Type} {K:Option α},(Cnd.idx (HV p.1 r)[i] p.1.length).run K=K:=fun {α K}=>iQ (List.getElem_mem hi)
  simp only [Fa,Au hi,decide_true,cond_true,AY hi,Ad hi,hid,NV]
  cases decide ((rd p.1 (HV p.1 r)[i] zN).1=13)
  ·simp only [cond_false,AC,Option.map_some,Ag (show i<9223372036854775807 by omega)]
   exact⟨by trivial,by omega⟩
  ·simp only [cond_true]
   rw [Bx (by simp;omega)]
   simp only [AC,Option.map_some,Ag (show i<9223372036854775807 by omega)]
   exact⟨by trivial,by simp;omega⟩) (fun o ho=>by
  simp only [Fa,Ab,decide_false,cond_false,Option.map_some]) o (by omega)
 have h':=h.1
 rw [Mf] at h'
 exact h'
theorem ZV (p:PROG) (x:FN) (hx:x.2.1.length≤1048576):AH FR ([],(0:Int),p,x,())=some (x.2.1.map Uk,p,x,()):=by
 have h:=NZ (step:=FR) x.2.1 Uk (fun i o=>(o,(i:Int),p,x,())) (fun o=>(o,p,x,())) (fun i hi o ho=>by
  simp only [FR,Au hi,decide_true,cond_true,AY hi,Ad hi]
  rw [Bx (by simp;omega)]
  simp only [Option.map_some,Ag (show i<9223372036854775807 by omega)]
  rfl) (fun o ho=>by
  simp only [FR,Ab,decide_false,cond_false,Option.map_some])
 exact h
theorem Od (p:PROG) (hp:FineP p) (fn:Int):II p fn=some (Er p fn,()):=by
 unfold II Er Pn
 rw [jY hp,sIn,Option.bind_some]
 by_cases hr:0≤fn∧fn≤(p.2.length:Int) - 1
 case neg=>simp only [hr,decide_false,Bool.not_false,cond_true,cond_false]
 have hi:∀ {α:Type} {K:Option α},(Cnd.idx fn p.2.length).run K=K:=fun {α K}=>Cm (by omega)
 have hx:=YZ hp (show 0≤fn∧fn<(p.2.length:Int) by omega)
 simp only [hr,and_self,decide_true,Bool.not_true,cond_false,cond_true,hi]
 generalize rd p.2 fn zF=x at hx ⊢
 simp only [Option.bind_some,ZV p x hx,AC,TJ p hp.n,ZU p hp _ (x.2.1.map Uk) (by simpa using hx)]
theorem XR {α:Type} (q:α→Bool) (l:List α):(l.filter q).length≤l.length:=List.length_filter_le ..
theorem VO {p:PROG} (hp:FineP p) (fn:Int):(Er p fn).length≤2097152:=by
 unfold Er Pn
 by_cases hr:0≤fn∧fn≤(p.2.length:Int) - 1
 ·have hx:=YZ hp (show 0≤fn∧fn<(p.2.length:Int) by omega)
  have h1:=VJ p.1 (rd p.2 fn zF).2.2.2.1
  have h2:=XR (NV p.1) (HV p.1 (rd p.2 fn zF).2.2.2.1)
  have h3:=hp.n.len
  simp only [hr,and_self,decide_true,cond_true,List.length_append,List.length_map]
  omega
 ·simp [hr]
def Dm (k:Int):Bool:=decide (2≤k∧k≤6) || (decide (k=14) || decide (k=15))
end Go.Proofs.YtmakhmoielhjeaaGreatDoorE
namespace Go.Proofs.YtmakhmoielhjeaaGreatDoorE
set_option linter.all false
set_option maxRecDepth 100000
def Pr (l:List ByteArray) (s:ByteArray):Bool:=l.any fun y=>decide (y=s)
theorem QD {γ D:Type} {q q':γ→D→Bool} {g:γ→D→γ}:∀ (l:List D) (c:γ),(∀ x∈l,∀ c,q c x=q' c x)→GG q g l c=GG q' g l c
 | [],_,_=>rfl
 | x::l,c,h=>by
  simp only [GG]
  rw [h x (List.mem_cons_self ..),QD l _ fun y hy=>h y (List.mem_cons_of_mem _ hy)]
theorem OO {γ D:Type} (q:γ→D→Bool) (g:γ→D→γ):∀ (l:List D) (c:γ) (b:Bool),l.foldl (fun(s:γ×Bool) x=>(g s.1 x,s.2 || !q s.1 x)) (c,b)=(l.foldl g c,b || !(GG q g l c).isSome)
 | [],c,b=>by simp [GG]
 | x::l,c,b=>by
  simp only [List.foldl_cons,GG]
  rw [OO q g l]
  cases q c x<;>simp
theorem jX (k:Int):(kr k).2≤12:=by unfold kr;repeat (first | split | decide)
theorem Rw {l:List NODE} {a:Int} (h:Bo l a=true):HJ l a (rd l a zN)=true:=by
 simp only [Bo,Bool.and_eq_true] at h
 exact h.2
theorem dM {l:List NODE} {a:Int} (h:Bo l a=true):1≤(rd l a zN).1∧(rd l a zN).1≤20:=by
 have:=Rw h
 simp only [HJ,Bool.and_eq_true,decide_eq_true_eq] at this
 exact this.1
theorem Ui {l:List NODE} {a:Int} (h:Bo l a=true):(kr (rd l a zN).1).1≤((rd l a zN).2.2.2.length:Int)∧((rd l a zN).2.2.2.length:Int)≤(kr (rd l a zN).1).2:=by
 have:=Rw h
 simp only [HJ,Bool.and_eq_true,decide_eq_true_eq] at this
 exact this.2.1
theorem Eh {l:List NODE} {a:Int} (h:Bo l a=true):(rd l a zN).2.2.2.length≤12:=by
 have h1:=Ui h
 have h2:=jX (rd l a zN).1
 omega
theorem Ox {l:List NODE} {a:Int} (h:Bo l a=true) {i:Nat} (hi:i<(rd l a zN).2.2.2.length):Ke (rd l a zN).1 (i:Int) (rd l (rd l a zN).2.2.2[i] zN).1=true:=by
 have:=Rw h
 simp only [HJ,Bool.and_eq_true] at this
 have h2:=List.all_eq_true.1 this.2.2.2.2 i (by simpa using hi)
 simp only [Ot,Bool.and_eq_true] at h2
 have e:(rd l a zN).2.2.2.getD i 0=(rd l a zN).2.2.2[i]:=by
  generalize rd l a zN=x at hi ⊢
  simp [hi]
 rw [e] at h2
 exact h2.2.1
def Lb (p:PROG) (fn:Int) (x:NODE):Bool:=decide (0≤Hu p.2 x.2.2.1∧Hu p.2 x.2.2.1≤fn - 1) && decide (((rd p.2 (Hu p.2 x.2.2.1) zF).2.1.length:Int)=(x.2.2.2.length:Int))
def okH (p:PROG) (fn:Int) (x:NODE) (nm:List ByteArray):Bool:=(!Dm x.1 || Pr nm x.2.2.1) && (!decide (x.1=12) || Lb p fn x)
def HE (l:List NODE) (b:Bool) (nm:List ByteArray) (y:Int):List ByteArray:=bif b && NV l y then nm++[(rd l y zN).2.2.1] else nm
def sn (p:PROG) (fn:Int):Nat→Int→List ByteArray→Bool
 | 0,_,_=>false
 | f+1,k,nm=>okH p fn (rd p.1 k zN) nm && (GG (fun nm y=>sn p fn f y nm) (HE p.1 (decide ((rd p.1 k zN).1=20))) (rd p.1 k zN).2.2.2 nm).isSome
theorem WI (p:PROG) (fn:Int):∀ (f g:Nat) (a:Int) (nm:List ByteArray),(0:Int)<AU p.1 a→a.toNat<f→a.toNat<g→sn p fn f a nm=sn p fn g a nm
 | 0,_,_,_,_,h,_=>absurd h (by omega)
 | _+1,0,_,_,_,_,h=>absurd h (by omega)
 | f+1,g+1,a,nm,hd,hf,hg=>by
  simp only [sn]
  congr 2
  refine QD _ _ fun y hy c=>?_
  obtain⟨k1,k2,k3⟩:=DR hd hy
  exact WI p fn f g y c k1 (by omega) (by omega)
def BJ (p:PROG) (fn:Int) (k:Int) (nm:List ByteArray):Bool:=sn p fn (k.toNat+1) k nm
theorem QJ (p:PROG) (fn:Int) {k:Int} (h:(0:Int)<AU p.1 k) (nm:List ByteArray):BJ p fn k nm=(okH p fn (rd p.1 k zN) nm && (GG (fun nm y=>BJ p fn y nm) (HE p.1 (decide ((rd p.1 k zN).1=20))) (rd p.1 k zN).2.2.2 nm).isSome):=by
 unfold BJ
 simp only [sn]
 congr 2
 refine QD _ _ fun y hy c=>?_
 obtain⟨k1,k2,k3⟩:=DR h hy
 exact WI p fn k.toNat (y.toNat+1) y c k1 (by omega) (by omega)
theorem UR (l:List NODE) (b:Bool) (nm:List ByteArray) (y:Int):(HE l b nm y).length≤nm.length+1:=by
 unfold HE
 cases b && NV l y<;>simp
theorem Vv {l:List FN} {s:ByteArray}:Hu l s<(l.length:Int):=by
 unfold Hu
 cases h:l.findIdx? fun f=>decide (f.1=s) with
 | none=>simp only;omega
 | some i=>
  obtain⟨h1,_⟩:=List.findIdx?_eq_some_iff_getElem.1 h
  simp only;omega
end Go.Proofs.YtmakhmoielhjeaaGreatDoorE
namespace Go.Proofs.YtmakhmoielhjeaaGreatDoorE
set_option linter.all false
set_option maxRecDepth 100000
abbrev gG:=PROG×(Int×(List ByteArray×Bool))
theorem Yw (l:List ByteArray) (s:ByteArray) (hl:l.length≤16000000):GX l s=some (Pr l s,()):=by
 have h:=Iv (step:=FU) l (fun y=>decide (y=s)) (fun k=>(l,s,(k:Int),())) (.inr (true,())) (.inl ()) (fun k hk=>by
  simp only [FU,Au hk,decide_true,cond_true,AY hk,Ad hk,Ag (show k<9223372036854775807 by omega)]
  cases decide (l[k]=s)<;>rfl) (by
  simp only [FU,Ab,decide_false,cond_false,Option.map_some])
 have h':AH FU (l,s,(0:Int),())=_:=h
 simp only [GX,Option.bind_some,h',Pr]
 cases l.any fun y=>decide (y=s)<;>rfl
theorem NM (l:List NODE) (nm:List ByteArray) (y:Int):HE l false nm y=nm:=rfl
theorem Qe (l:List NODE) (nm:List ByteArray):∀ ys:List Int,ys.foldl (HE l false) nm=nm
 | []=>rfl
 | y::ys=>Qe l nm ys
theorem NQ {k i j:Int} (h:Ke k i j=true) (hk:k≤19) (h2:¬ ((k=16∨k=17)∧0<i)):1≤j∧j≤12:=by
 unfold Ke at h
 rw [decide_eq_false (show ¬ k=20 by omega),cond_false] at h
 have e:((decide (k=16) || decide (k=17)) && decide (0<i))=false:=by
  rw [Bool.and_eq_false_iff]
  by_cases hi:0<i
  ·left
   have:¬ (k=16∨k=17):=fun h=>h2 ⟨h,hi⟩
   rw [Bool.or_eq_false_iff]
   exact⟨decide_eq_false (by omega),decide_eq_false (by omega)⟩
  ·right;exact decide_eq_false hi
 rw [e,cond_false] at h
 by_cases h19:k=19
 ·rw [decide_eq_true h19,cond_true] at h
  have:=of_decide_eq_true h
  omega
 ·rw [decide_eq_false h19,cond_false] at h
  exact of_decide_eq_true h
theorem NP {k i j:Int} (h:Ke k i j=true) (hk:k=16∨k=17) (hi:0<i):j=20:=by
 unfold Ke at h
 rw [decide_eq_false (show ¬ k=20 by omega),cond_false] at h
 have e:((decide (k=16) || decide (k=17)) && decide (0<i))=true:=by
  rw [Bool.and_eq_true,Bool.or_eq_true]
  exact⟨hk.imp decide_eq_true decide_eq_true,decide_eq_true hi⟩
 rw [e,cond_true] at h
 exact of_decide_eq_true h
theorem SY {k i j:Int} (h:Ke k i j=true) (hk:k=20):13≤j∧j≤19:=by
 unfold Ke at h
 rw [decide_eq_true hk,cond_true] at h
 exact of_decide_eq_true h
theorem WM (p:PROG) (hp:FineP p) (fn:Int):∀ (n:Nat) (k:Int) (nm:List ByteArray) (b:Bool),(0:Int)<AU p.1 k→(rd p.1 k zN).1≤12→k.toNat<n→nm.length≤16000000 →
 (CD n).1 (p,(fn,(nm,b))) k=some ((p,(fn,(nm,b || !BJ p fn k nm))),())
 | 0,_,_,_,_,_,h,_=>absurd h (by omega)
 | n+1,k,nm,b,hd,h12,hn,hnm=>by
  have hk:=(Ay hd).1
  have hok:=(Ay hd).2.1
  have hkind:=dM hok
  have htw:=Eh hok
  have hkid:=fun y hy=>@DR p.1 k hd y hy
  have hval:∀ i (hi:i<(rd p.1 k zN).2.2.2.length),(rd p.1 (rd p.1 k zN).2.2.2[i] zN).1≤12:=fun i hi=>(NQ (Ox hok hi) (by omega) (by omega)).2
  rw [QJ p fn hd]
  show GJ (CD n).1 (p,(fn,(nm,b))) k=_
  unfold GJ
  rw [Cm (show 0≤k∧k<((List.length (p,(fn,(nm,b))).1.1:Nat):Int) from hk)]
  generalize rd p.1 k zN=x at h12 hkind htw hkid hval ⊢
  have h20:¬ x.1=20:=by omega
  rw [decide_eq_false h20]
  have hl:=CM (step:=CV (CD n).1) x.2.2.2 (fun(c:List ByteArray×Bool) y=>(HE p.1 false c.1 y,c.2 || !BJ p fn y c.1)) (fun i c=>((i:Int),(p,(fn,(c.1,c.2))),x,())) (fun c=>((p,(fn,(c.1,c.2))),x,())) (fun _ c=>c.1=nm) (fun i hi c hc=>by
   obtain⟨k1,k2,k3⟩:=hkid _ (List.getElem_mem hi)
   have ih:=WM p hp fn n x.2.2.2[i] c.1 c.2 k1 (hval i hi) (by omega) (by rw [hc];exact hnm)
   refine⟨?_,by rw [NM];exact hc⟩
   simp only [CV,Au hi,decide_true,cond_true,AY hi,Ad hi,ih,Option.bind_some,Option.map_some,Ag (show i<9223372036854775807 by omega),NM]) (fun c _=>by
   simp only [CV,Ab,decide_false,cond_false,Option.map_some]) (nm,b) rfl
  have h1:=hl.1
  rw [OO (fun nm y=>BJ p fn y nm) (HE p.1 false),Qe] at h1
  have h1':AH (CV (CD n).1) ((0:Int),(p,(fn,(nm,b))),x,())=_:=h1
  simp only [Option.bind_some,h1',AC]
  generalize (GG (fun nm y=>BJ p fn y nm) (HE p.1 false) x.2.2.2 nm).isSome=r
  have hT:=Yw nm x.2.2.1 hnm
  have hrest:Dm x.1=true→some ((p,(fn,(nm,b || !r || !Pr nm x.2.2.1))),())=some ((p,(fn,(nm,b || !(okH p fn x nm && r)))),()):=fun hu=>by
   have e12:¬ x.1=12:=by
    intro h;rw [h] at hu;simp [Dm] at hu
   simp only [okH,hu,Bool.not_true,Bool.false_or,decide_eq_false e12,Bool.not_false,Bool.true_or,Bool.and_true]
   cases b<;>cases r<;>cases Pr nm x.2.2.1<;>rfl
  have hcase:x.1=1∨x.1=2∨x.1=3∨x.1=4∨x.1=5∨x.1=6∨(7≤x.1∧x.1≤11)∨x.1=12:=by omega
  have hset:Dm x.1=true→(bif (b || !r) then some ((p,(fn,(nm,true))),()) else (GX nm x.2.2.1).bind fun y8=>some ((p,(fn,(nm,!y8.1))),()))=some ((p,(fn,(nm,b || !(okH p fn x nm && r)))),()):=fun hu=>by
   rw [← hrest hu,hT,Option.bind_some]
   cases (b || !r)<;>rfl
  have huse:x.1=2∨x.1=3∨x.1=4∨x.1=5∨x.1=6→Dm x.1=true:=fun h=>by
   simp only [Dm,Bool.or_eq_true,decide_eq_true_eq];omega
  rcases hcase with h | h | h | h | h | h | h | h
  ·have hu:Dm x.1=false:=by rw [h];rfl
   simp only [h,decide_true,decide_false,cond_true,cond_false,AC,Int.reduceEq,okH,show Dm 1=false from rfl,Bool.not_false,Bool.true_or,Bool.true_and]
  ·have:=hset (huse (by omega))
   simp only [h,decide_true,decide_false,cond_true,cond_false,AC,Int.reduceEq]
   rw [this];rfl
  ·have:=hset (huse (by omega))
   simp only [h,decide_true,decide_false,cond_true,cond_false,AC,Int.reduceEq]
   rw [this];rfl
  ·have:=hset (huse (by omega))
   simp only [h,decide_true,decide_false,cond_true,cond_false,AC,Int.reduceEq]
   rw [this];rfl
  ·have:=hset (huse (by omega))
   simp only [h,decide_true,decide_false,cond_true,cond_false,AC,Int.reduceEq]
   rw [this];rfl
  ·have:=hset (huse (by omega))
   simp only [h,decide_true,decide_false,cond_true,cond_false,AC,Int.reduceEq]
   rw [this];rfl
  ·have hu:Dm x.1=false:=by
    simp only [Dm,Bool.or_eq_false_iff,decide_eq_false_iff_not];omega
   simp only [show ¬ x.1=2 by omega,show ¬ x.1=3 by omega,show ¬ x.1=4 by omega,show ¬ x.1=5 by omega,show ¬ x.1=6 by omega,show ¬ x.1=12 by omega,decide_false,cond_false,AC,okH,hu,Bool.not_false,Bool.true_or,Bool.true_and]
  ·have hF:=Li p hp x.2.2.1
   simp only [h,decide_true,decide_false,cond_true,cond_false,AC,Int.reduceEq,hF,Option.bind_some,okH,show Dm 12=false from rfl,Bool.not_false,Bool.true_or,Bool.true_and,Bool.not_true,Bool.false_or]
   cases hb:(b || !r)
   ·simp only [cond_false]
    have hr:b=false∧r=true:=by revert hb;cases b<;>cases r<;>simp
    rw [hr.1,hr.2]
    by_cases h0:Hu p.2 x.2.2.1<0
    ·have hc:Lb p fn x=false:=by
      unfold Lb;rw [Bool.and_eq_false_iff];exact .inl (decide_eq_false (by omega))
     simp only [h0,decide_true,cond_true,AC,hc];rfl
    ·by_cases h1:fn≤Hu p.2 x.2.2.1
     ·have hc:Lb p fn x=false:=by
       unfold Lb;rw [Bool.and_eq_false_iff];exact .inl (decide_eq_false (by omega))
      simp only [h0,h1,decide_true,decide_false,cond_true,cond_false,AC,hc];rfl
     ·have hlt:=Vv (l:=p.2) (s:=x.2.2.1)
      simp only [h0,h1,decide_false,cond_false]
      rw [Cm ⟨by omega,hlt⟩]
      simp only [AC,Lb,decide_eq_true (show 0≤Hu p.2 x.2.2.1∧Hu p.2 x.2.2.1≤fn - 1 by omega),Bool.true_and,Bool.and_true,Bool.false_or]
      by_cases hl:((rd p.2 (Hu p.2 x.2.2.1) zF).2.1.length:Int)=(x.2.2.2.length:Int)<;>simp [hl]
   ·have hr:(b || !(Lb p fn x && r))=true:=by revert hb;cases b<;>cases r<;>simp
    simp only [cond_true,AC,hr]
theorem VN (p:PROG) (hp:FineP p) (fn:Int) (k:Int) (nm:List ByteArray) (b:Bool) (hd:(0:Int)<AU p.1 k) (h12:(rd p.1 k zN).1≤12) (hnm:nm.length≤16000000):
 Eo (p,(fn,(nm,b))) k=some ((p,(fn,(nm,b || !BJ p fn k nm))),()):=
 KW.2 ⟨k.toNat+1,fun n hn=>WM p hp fn n k nm b hd h12 (by omega) hnm⟩
end Go.Proofs.YtmakhmoielhjeaaGreatDoorE

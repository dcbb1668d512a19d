/- The engine, texts AX Base Code CodeTy CodeW Copy Reach Wp Draw1 DrawR Node DrawP DecS Draw5 Draw5s Deep Tree FnAt POk FnOk ProgOk ProgEq DrawQ DeepS Und UndI Uses Vars Sight SightS: how code is reckoned as Lean functions, and that it is sound. No condition. -/
import Derived.Test.YtmakhmoielhjeaaGreatDoorPackP
import Derived.Test.YtmakhmoielhjeaaGreatDoorLawFX
import Derived.Lib.ItoaLen
set_option linter.all false
namespace Go.Proofs.YtmakhmoielhjeaaGreatDoorE
set_option maxRecDepth 100000
theorem sIn (a b c:Int):Av a b c=some (decide (b≤a∧a≤c),()):=by
 unfold Av
 by_cases h:b≤a<;>simp [h,AC]
theorem iIn (a b c:Int):Cg a b c=some (decide (b≤a∧a≤c),()):=by
 unfold Cg
 by_cases h:b≤a<;>simp [h,AC]
theorem CF {α β D:Type} {step:β→Option (β ⊕ α)} (l:List D) (q:D→Bool) (S:Nat→β) (rt rf:α) (H:∀ k (h:k<l.length),step (S k)=bif q l[k] then some (.inl (S (k+1))) else some (.inr rf)) (He:step (S l.length)=some (.inr rt)):
 AH step (S 0)=some (bif l.all q then rt else rf):=by
 have key:∀ m k,k+m=l.length→AH step (S k)=some (bif (l.drop k).all q then rt else rf):=by
  intro m
  induction m with
  | zero=>
   intro k hk;obtain rfl:k=l.length:=by omega
   rw [BO He,List.drop_length];rfl
  | succ m ih=>
   intro k hk;have hkl:k<l.length:=by omega
   have h1:=H k hkl
   rw [List.drop_eq_getElem_cons hkl,List.all_cons];cases hq:q l[k]
   ·rw [hq,cond_false] at h1;rw [BO h1];rfl
   ·rw [hq,cond_true] at h1;rw [Br h1,ih (k+1) (by omega),Bool.true_and]
 have:=key l.length 0 (by omega)
 rwa [List.drop_zero] at this
theorem Il {α β D:Type} {step:β→Option (β ⊕ α)} (l:List D) (q:D→Bool) (S:Nat→β) (rt rf:α) (H:∀ k (h:k<l.length),step (S k)=bif q l[k] then some (.inr rt) else some (.inl (S (k+1)))) (He:step (S l.length)=some (.inr rf)):
 AH step (S 0)=some (bif l.any q then rt else rf):=by
 have key:∀ m k,k+m=l.length→AH step (S k)=some (bif (l.drop k).any q then rt else rf):=by
  intro m
  induction m with
  | zero=>
   intro k hk;obtain rfl:k=l.length:=by omega
   rw [BO He,List.drop_length];rfl
  | succ m ih=>
   intro k hk;have hkl:k<l.length:=by omega
   have h1:=H k hkl
   rw [List.drop_eq_getElem_cons hkl,List.any_cons];cases hq:q l[k]
   ·rw [hq,cond_false] at h1;rw [Br h1,ih (k+1) (by omega),Bool.false_or]
   ·rw [hq,cond_true] at h1;rw [BO h1];rfl
 have:=key l.length 0 (by omega)
 rwa [List.drop_zero] at this
theorem CZ {α β D γ:Type} {step:β→Option (β ⊕ α)} (l:List D) (g:γ→D→γ) (S:Nat→γ→β) (r:γ→α) (I:Nat→γ→Prop) (H:∀ k (h:k<l.length) c,I k c→step (S k c)=some (.inl (S (k+1) (g c l[k])))∧I (k+1) (g c l[k])) (He:∀ c,I l.length c→step (S l.length c)=some (.inr (r c))) (c:γ) (hc:I 0 c):
 AH step (S 0 c)=some (r (l.foldl g c))∧I l.length (l.foldl g c):=by
 have key:∀ m k c,k+m=l.length→I k c→AH step (S k c)=some (r ((l.drop k).foldl g c))∧I l.length ((l.drop k).foldl g c):=by
  intro m
  induction m with
  | zero=>
   intro k c hk hI;obtain rfl:k=l.length:=by omega
   rw [BO (He c hI),List.drop_length];exact⟨rfl,hI⟩
  | succ m ih=>
   intro k c hk hI;have hkl:k<l.length:=by omega
   obtain⟨h1,h2⟩:=H k hkl c hI;rw [List.drop_eq_getElem_cons hkl,List.foldl_cons,Br h1];exact ih (k+1) _ (by omega) h2
 have:=key l.length 0 c (by omega) hc
 rwa [List.drop_zero] at this
theorem BC {k n:Nat} (h:k<n):((k:Int)<(n:Int)):=by omega
theorem Ae (n:Nat):¬ ((n:Int)<(n:Int)):=by omega
theorem aI (s:ByteArray) (i:Nat):bAt s (i:Int)=((s.data.getD i 0).toNat:Int):=by simp [bAt]
theorem NX {α β D E:Type} {step:β→Option (β ⊕ α)} (l:List D) (g:D→E) (S:Nat→List E→β) (r:List E→α)
 (H:∀ k (h:k<l.length) (o:List E),o.length=k→step (S k o)=some (.inl (S (k+1) (o++[g l[k]]))))
 (He:∀ o:List E,o.length=l.length→step (S l.length o)=some (.inr (r o))):AH step (S 0 [])=some (r (l.map g)):=by
 have key:∀ m k,k+m=l.length→AH step (S k ((l.take k).map g))=some (r (l.map g)):=by
  intro m
  induction m with
  | zero=>
   intro k hk;obtain rfl:k=l.length:=by omega
   rw [List.take_length];exact BO (He _ (by simp))
  | succ m ih=>
   intro k hk;have hkl:k<l.length:=by omega
   rw [Br (H k hkl _ (by simp;omega))];have e:(l.take k).map g++[g l[k]]=(l.take (k+1)).map g:=by
    rw [List.take_succ_eq_append_getElem hkl,List.map_append];rfl
   rw [e];exact ih (k+1) (by omega)
 simpa using key l.length 0 (by omega)
set_option maxRecDepth 100000
def keys:List ByteArray:=[MU,LA,MV,Jz,JQ,JO,MT,LB,JM,JN,s_input_c96c,Kz,JL,JP]
def Om (s:ByteArray):Bool:=keys.any fun k=>decide (k=s)
theorem Qo (s:ByteArray):JU s=some (Om s,()):=by
 simp only [JU,Lg,Option.bind_some];have h:=Il (step:=EV) keys (fun k=>decide (k=s)) (fun k=>(s,keys,(k:Int),())) (.inr (true,())) (.inl ()) (fun k hk=>by
  have hk14:k<14:=hk
  simp only [EV,BC hk,decide_true,cond_true,Ab hk,Ag hk]
  by_cases e:keys[k]=s<;>simp only [e,decide_true,decide_false,cond_true,cond_false,cond_true,cond_false,Option.map_some,Al (show k<9223372036854775807 by omega)]) (by
  simp only [EV,Ae,decide_false,cond_false,Option.map_some])
 have h':AH EV (s,[MU,LA,MV,Jz,JQ,JO,MT,LB,JM,JN,s_input_c96c,Kz,JL,JP],(0:Int),())=_:=h
 rw [h'];show Az (some (bif Om s then Sum.inr (true,()) else Sum.inl ())) _=_
 cases Om s<;>rfl
theorem Xi:HD HZ s___36a9=some (keys,()):=by kernel_rfl
theorem Ss (s t:ByteArray) (l:List ByteArray) (hl:l.length≤1000) (h:HD t s___36a9=some (l,())):Ks s t=some (l.any (fun k=>decide (k=s)),()):=by
 simp only [Ks,h,Option.bind_some];have h:=Il (step:=ID) l (fun k=>decide (k=s)) (fun k=>(s,l,(l.length:Int),(k:Int),())) (.inr (true,())) (.inl ()) (fun k hk=>by
  simp only [ID,BC hk,decide_true,cond_true,Ab hk,Ag hk]
  by_cases e:l[k]=s<;>simp only [e,decide_true,decide_false,cond_true,cond_false,cond_true,cond_false,Option.map_some,Al (show k<9223372036854775807 by omega)]) (by
  simp only [ID,Ae,decide_false,cond_false,Option.map_some])
 rw [show((s,l,(l.length:Int),(0:Int),()):ByteArray×List ByteArray×Int×Int×Unit)=(fun k:Nat=>(s,l,(l.length:Int),(k:Int),())) 0 from rfl,h];cases l.any fun k=>decide (k=s)<;>rfl
theorem Qc (s:ByteArray):JG s=some (Om s,()):=by
 simp only [JG,Ss s _ keys (by decide) Xi,Option.bind_some];rfl
def HC (c:Int):Bool:=decide (97≤c∧c≤122)
def KO (c:Int):Bool:=decide (48≤c∧c≤57)
theorem Ox (c:Int):Cz c=some (HC c,()):=by
 unfold Cz HC
 by_cases h:97≤c<;>simp [h,AC]
theorem Ow (c:Int):Cy c=some (KO c,()):=by
 unfold Cy KO
 by_cases h:48≤c<;>simp [h,AC]
theorem Vk (c:Int):GL c=some (HC c,()):=by
 unfold GL HC
 by_cases h:97≤c<;>simp [h,AC]
theorem cu (c:Int):IG c=some (KO c,()):=by
 unfold IG KO
 by_cases h:48≤c<;>simp [h,AC]
def JR (b:UInt8):Bool:=HC (b.toNat:Int) || KO (b.toNat:Int)
def Bj (s:ByteArray):Bool:=decide (1≤s.size∧s.size≤8) && HC (bAt s 0) && !Om s && s.data.toList.all JR
theorem Tm {s:ByteArray} {k:Nat} (h:k<s.data.toList.length):bAt s (k:Int)=((s.data.toList[k].toNat:Nat):Int):=by
 have h':k<s.data.size:=by simpa using h
 rw [aI,Array.getD_eq_getD_getElem?,Array.getElem?_eq_getElem h'];simp
theorem Sh (s:ByteArray):s.data.toList.length=s.size:=by rw [Array.length_toList];rfl
theorem XX (s:ByteArray) (hs:s.size≤8):AH FJ (s,(0:Int),())=some (bif s.data.toList.all JR then .inl () else .inr (false,())):=by
 have hsz:=Sh s
 have h:=CF (step:=FJ) s.data.toList JR (fun k=>(s,(k:Int),())) (.inl ()) (.inr (false,())) (fun k hk=>by
  have hk':k<s.size:=by omega
  have hb:=Tm hk
  simp only [FJ,BC hk',decide_true,cond_true,Ab hk',Ox,Ow,Option.bind_some,hb,JR];generalize ((s.data.toList[k].toNat:Nat):Int)=x;cases HC x<;>cases KO x<;>simp only [Bool.not_false,Bool.not_true,cond_true,cond_false,AB,Option.map_some,Bool.or_false,Bool.or_true,Bool.true_or,Bool.false_or,cond_true,cond_false,Al (show k<9223372036854775807 by omega)]) (by
  rw [hsz];simp only [FJ,Ae,decide_false,cond_false,Option.map_some])
 exact h
theorem XW (s:ByteArray) (hs:s.size≤8):AH FD (s,(0:Int),())=some (bif s.data.toList.all JR then .inl (s,()) else .inr (false,())):=by
 have hsz:=Sh s
 have h:=CF (step:=FD) s.data.toList JR (fun k=>(s,(k:Int),())) (.inl (s,())) (.inr (false,())) (fun k hk=>by
  have hk':k<s.size:=by omega
  have hb:=Tm hk
  simp only [FD,BC hk',decide_true,cond_true,Ab hk',Vk,cu,Option.bind_some,hb,JR];generalize ((s.data.toList[k].toNat:Nat):Int)=x;cases HC x<;>cases KO x<;>simp only [Bool.not_false,Bool.not_true,cond_true,cond_false,AB,Option.map_some,Bool.or_false,Bool.or_true,Bool.true_or,Bool.false_or,cond_true,cond_false,Al (show k<9223372036854775807 by omega)]) (by
  rw [hsz];simp only [FD,Ae,decide_false,cond_false,Option.map_some])
 exact h
theorem iG {α:Type} {n:Nat} {K:Option α} (h:0<n):(Cnd.idx (0:Int) n).run K=K:=Ab (k:=0) h
theorem Cw (s:ByteArray):CH s=some (Bj s,()):=by
 unfold CH Bj;rw [sIn];simp only [Option.bind_some]
 by_cases h:(1:Int)≤(s.size:Int)∧(s.size:Int)≤8
 ·have h':1≤s.size∧s.size≤8:=by omega
  simp only [h,h',and_self,decide_true,Bool.not_true,cond_false,iG (show 0<s.size by omega),Ox,Option.bind_some,Bool.true_and];cases HC (bAt s 0)
  ·simp only [Bool.not_false,cond_true,AB,Bool.false_and]
  ·simp only [Bool.not_true,cond_false,Qo,Option.bind_some,AB,Bool.true_and];cases Om s
   ·simp only [cond_false,Option.bind_some,XX s h'.2,Bool.not_false,Bool.true_and];cases s.data.toList.all JR<;>simp only [cond_true,cond_false,Bd,Bh]
   ·simp only [cond_true,Bool.not_true,Bool.false_and]
 ·have h':¬ (1≤s.size∧s.size≤8):=by omega
  simp only [h,h',decide_false,Bool.not_false,cond_true,AB,Bool.false_and]
theorem Mx (s:ByteArray):Hy s=some (Bj s,()):=by
 unfold Hy Bj;rw [iIn];simp only [Option.bind_some]
 by_cases h:(1:Int)≤(s.size:Int)∧(s.size:Int)≤8
 ·have h':1≤s.size∧s.size≤8:=by omega
  simp only [h,h',and_self,decide_true,Bool.not_true,cond_false,iG (show 0<s.size by omega),Vk,Option.bind_some,Bool.true_and];cases HC (bAt s 0)
  ·simp only [Bool.not_false,AB,cond_true,Bool.false_and]
  ·simp only [Bool.not_true,AB,cond_false,Option.bind_some,XW s h'.2,Bool.true_and];cases s.data.toList.all JR
   ·simp only [cond_false,Bh,Bool.and_false]
   ·simp only [cond_true,Bd,Qc,Option.bind_some,Bool.and_true]
 ·have h':¬ (1≤s.size∧s.size≤8):=by omega
  simp only [h,h',decide_false,Bool.not_false,cond_true,AB,Bool.false_and]
set_option maxRecDepth 100000
abbrev INS:=Int×(Int×(Int×(Int×(Int×(ByteArray×List Int)))))
abbrev CODE:=ByteArray×(Int×(List Int×List INS))
structure Small (c:CODE):Prop where
 l:c.2.2.1.length≤1048576
 w:c.2.2.2.length≤1048576
def place (c:CODE) (n:Int):Bool:=decide (0≤n∧n≤(c.2.2.1.length:Int) - 1)
theorem Ka {n:Nat} (h:n≤1048576):IntKind.wrap .i64 ((n:Int) - 1)=(n:Int) - 1:=Aa (by omega) (by omega)
theorem Mz (c:CODE) (h:Small c) (n:Int):Cm c n=some (place c n,()):=by
 simp only [Cm,Ka h.l,sIn,Option.bind_some,place]
theorem YY (c:CODE) (h:Small c) (n:Int) (b:Bool):CY c n b=some (bif b then place c n else decide (n=0),()):=by
 cases b<;>simp only [CY,Ka h.l,iIn,Option.bind_some,place,cond_true,cond_false]
def JE (k:Int):Bool:=decide (2≤k∧k≤7) || (decide (9≤k∧k≤12) || (decide (k=14) || decide (k=15)))
def JF (k:Int):Bool:=decide (10≤k∧k≤12)
theorem jW (k:Int):Fg k=some (JE k,()):=by
 simp only [Fg,sIn,Option.bind_some,JE];cases decide (2≤k∧k≤7)<;>cases decide (9≤k∧k≤12)<;>cases decide (k=14)<;>rfl
theorem jL (k:Int):KP k=some (JE k,()):=by
 simp only [KP,iIn,Option.bind_some,JE];cases decide (2≤k∧k≤7)<;>cases decide (9≤k∧k≤12)<;>cases decide (k=14)<;>rfl
theorem jX (k:Int):Fh k=some (JF k,()):=by simp only [Fh,sIn,Option.bind_some,JF]
theorem jM (k:Int):KQ k=some (JF k,()):=by simp only [KQ,iIn,Option.bind_some,JF]
theorem jK (k:Int) (h:1≤k∧k≤20):MJ k=some (decide (k≠18),()):=by
 simp only [MJ,iIn,Option.bind_some]
 by_cases h1:1≤k∧k≤17
 ·simp only [h1,and_self,decide_true,cond_true,AB];simp;omega
 ·simp only [h1,decide_false,cond_false]
  by_cases h2:k=19
  ·simp only [h2,decide_true,cond_true,AB];rfl
  ·simp only [h2,decide_false,cond_false,AB];simp only [Option.some.injEq,Prod.mk.injEq,and_true]
   by_cases h3:k=20
   ·subst h3;rfl
   ·have:k=18:=by omega
    subst this;rfl
def okA (c:CODE) (w:INS):Bool:=bif decide (w.1=18) then decide (w.2.1=0) else (decide (w.1=13) || decide (w.1=20)) && decide (w.2.1 = -1) || place c w.2.1
def okB (c:CODE) (w:INS):Bool:=bif JE w.1 then place c w.2.2.1 else decide (w.2.2.1=0)
def okC (c:CODE) (w:INS):Bool:=bif JF w.1 then place c w.2.2.2.1 else decide (w.2.2.2.1=0)
def okN (c:CODE) (w:INS):Bool:=bif decide (w.1=1) then decide (0≤w.2.2.2.2.1∧w.2.2.2.2.1≤1000000000) else bif decide (w.1=18) || decide (w.1=19) then decide (0≤w.2.2.2.2.1∧w.2.2.2.2.1≤(c.2.2.2.length:Int) - 1) else decide (w.2.2.2.2.1=0)
def okR (c:CODE) (w:INS):Bool:=bif decide (w.1=13) then w.2.2.2.2.2.2.all (place c) && (Bj w.2.2.2.2.2.1 && decide ((w.2.2.2.2.2.2.length:Int)≤3)) else decide (w.2.2.2.2.2.1=(⟨#[]⟩:ByteArray)) && decide ((w.2.2.2.2.2.2.length:Int)=0)
def DK (c:CODE) (w:INS):Bool:=decide (1≤w.1∧w.1≤20) && (okA c w && (okB c w && (okC c w && (okN c w && okR c w))))
theorem sA (c:CODE) (h:Small c) (w:INS):MX c w=some (okA c w,()):=by
 simp only [MX,okA]
 by_cases h1:w.1=13
 ·simp only [h1,decide_true,cond_true,AB,show ¬ ((13:Int)=18) by decide,decide_false,cond_false,Bool.true_or,Bool.true_and,Mz c h,Option.bind_some];cases decide (w.2.1 = -1)<;>rfl
 ·by_cases h2:w.1=20
  ·simp only [h2,show ¬ ((20:Int)=13) by decide,decide_true,decide_false,cond_true,cond_false,AB,show ¬ ((20:Int)=18) by decide,Bool.or_true,Bool.true_and,Mz c h,Option.bind_some];cases decide (w.2.1 = -1)<;>rfl
  ·simp only [h1,h2,decide_false,cond_false,AB,Bool.or_self,Bool.false_and,Bool.false_or,Mz c h,Option.bind_some];cases decide (w.1=18)<;>rfl
theorem Wm (c:CODE) (h:Small c) (w:INS) (hl:w.2.2.2.2.2.2.length≤1048576):AH Dr ((0:Int),c,w,())=some (bif w.2.2.2.2.2.2.all (place c) then .inl (w,()) else .inr (false,())):=by
 exact CF (step:=Dr) w.2.2.2.2.2.2 (place c) (fun k=>((k:Int),c,w,())) (.inl (w,())) (.inr (false,())) (fun k hk=>by
  simp only [Dr,BC hk,decide_true,cond_true,Ab hk,Ag hk,Mz c h,Option.bind_some,Al (show k<9223372036854775807 by omega)];cases place c w.2.2.2.2.2.2[k]<;>rfl) (by
  simp only [Dr,Ae,decide_false,cond_false,Option.map_some])
theorem Wl (c:CODE) (h:Small c) (w:INS) (hl:w.2.2.2.2.2.2.length≤1048576):AH FE (w.2.2.2.2.2.2,(w.2.2.2.2.2.2.length:Int),(0:Int),c,w,())=some (bif w.2.2.2.2.2.2.all (place c) then .inl (w,()) else .inr (false,())):=by
 exact CF (step:=FE) w.2.2.2.2.2.2 (place c) (fun k=>(w.2.2.2.2.2.2,(w.2.2.2.2.2.2.length:Int),(k:Int),c,w,())) (.inl (w,())) (.inr (false,())) (fun k hk=>by
  simp only [FE,BC hk,decide_true,cond_true,Ab hk,Ag hk,YY c h,Option.bind_some,Al (show k<9223372036854775807 by omega)];cases place c w.2.2.2.2.2.2[k]<;>rfl) (by
  simp only [FE,Ae,decide_false,cond_false,Option.map_some])
theorem Rw (c:CODE) (h:Small c) (w:INS) (hl:w.2.2.2.2.2.2.length≤1048576):KC c w=some (DK c w,()):=by
 unfold KC DK;simp only [sIn,sA c h,Option.bind_some]
 by_cases h1:1≤w.1∧w.1≤20
 case neg=>simp only [h1,decide_false,Bool.not_false,cond_true,AB,Bool.false_and]
 simp only [h1,and_self,decide_true,Bool.not_true,cond_false,AB,Bool.true_and];cases okA c w
 case false=>simp only [Bool.not_false,cond_true,Bool.false_and]
 simp only [Bool.not_true,cond_false,Bool.true_and,jW,Mz c h,Option.bind_some];have eB:(bif JE w.1 then bif !place c w.2.2.1 then some (true,c,w,()) else bif !JE w.1 then some (decide (w.2.2.1≠0),c,w,()) else some (false,c,w,()) else bif !JE w.1 then some (decide (w.2.2.1≠0),c,w,()) else some (false,c,w,()))=some (!okB c w,c,w,()):=by
  simp only [okB];cases JE w.1<;>cases place c w.2.2.1<;>by_cases e:w.2.2.1=0<;>simp [e]
 rw [eB,AB];cases okB c w
 case false=>simp only [Bool.not_false,cond_true,Bool.false_and]
 simp only [Bool.not_true,cond_false,Bool.true_and,jX,Mz c h,Option.bind_some];have eC:(bif JF w.1 then bif !place c w.2.2.2.1 then some (true,c,w,()) else bif !JF w.1 then some (decide (w.2.2.2.1≠0),c,w,()) else some (false,c,w,()) else bif !JF w.1 then some (decide (w.2.2.2.1≠0),c,w,()) else some (false,c,w,()))=some (!okC c w,c,w,()):=by
  simp only [okC];cases JF w.1<;>cases place c w.2.2.2.1<;>by_cases e:w.2.2.2.1=0<;>simp [e]
 rw [eC,AB];cases okC c w
 case false=>simp only [Bool.not_false,cond_true,Bool.false_and]
 simp only [Bool.not_true,cond_false,Bool.true_and,sIn,Option.bind_some,Ka h.w];have fin:(bif decide (w.1≠13) then AC (bif decide (w.2.2.2.2.2.1=(⟨#[]⟩:ByteArray)) then some (decide ((w.2.2.2.2.2.2.length:Int)=0),()) else some (false,())) fun x19=>some (x19.1,()) else Az ((some ((0:Int),c,w,())).bind fun x200=>AH Dr x200) fun x22=>AC ((CH x22.1.2.2.2.2.2.1).bind fun y23=>bif y23.1 then some (decide ((x22.1.2.2.2.2.2.2.length:Int)≤3),()) else some (false,())) fun x24=>some (x24.1,()))=some (okR c w,()):=by
  simp only [okR]
  by_cases h13:w.1=13
  ·simp only [h13,ne_eq,not_true_eq_false,decide_false,cond_false,Option.bind_some,Wm c h w hl,decide_true,cond_true];cases w.2.2.2.2.2.2.all (place c)
   ·simp only [cond_false,Bh,Bool.false_and]
   ·simp only [cond_true,Bd,Cw,Option.bind_some,Bool.true_and];cases Bj w.2.2.2.2.2.1<;>rfl
  ·simp only [h13,ne_eq,not_false_eq_true,decide_true,cond_true,decide_false,cond_false];cases decide (w.2.2.2.2.2.1=(⟨#[]⟩:ByteArray))<;>rfl
 simp only [okN]
 by_cases hk1:w.1=1
 ·simp only [hk1,decide_true,cond_true];cases decide (0≤w.2.2.2.2.1∧w.2.2.2.2.1≤1000000000)
  ·simp only [Bool.not_false,cond_true,Option.map_some,Bh,Bool.false_and]
  ·simp only [Bool.not_true,cond_false,Option.map_some,Bd,Bool.true_and];exact fin
 ·have e15:(bif decide (w.1=18) then some (decide (w.1=18),c,w,()) else some (decide (w.1=19),c,w,()))=some (decide (w.1=18) || decide (w.1=19),c,w,()):=by
   cases decide (w.1=18)<;>rfl
  simp only [hk1,decide_false,cond_false];rw [e15,AB];cases decide (w.1=18) || decide (w.1=19)
  ·simp only [cond_false]
   by_cases hz:w.2.2.2.2.1=0
   ·simp only [hz,ne_eq,not_true_eq_false,decide_false,cond_false,Bd,Option.map_some,decide_true,Bool.true_and];exact fin
   ·simp only [hz,ne_eq,not_false_eq_true,decide_true,cond_true,Option.map_some,Bh,decide_false,Bool.false_and]
  ·simp only [cond_true,sIn,Option.bind_some,Ka h.w];cases decide (0≤w.2.2.2.2.1∧w.2.2.2.2.1≤(c.2.2.2.length:Int) - 1)
   ·simp only [Bool.not_false,cond_true,Option.map_some,Bh,Bool.false_and]
   ·simp only [Bool.not_true,cond_false,Bd,Option.map_some,Bool.true_and];exact fin
theorem Xv (x:Int):decide (0≤x∧x≤0)=decide (x=0):=by
 by_cases e:x=0
 ·simp [e]
 ·rw [decide_eq_false e,decide_eq_false (by omega)]
theorem Ro (c:CODE) (h:Small c) (w:INS) (hl:w.2.2.2.2.2.2.length≤1048576):Jx c w=some (DK c w,()):=by
 unfold Jx DK;simp only [iIn,Option.bind_some]
 by_cases h1:1≤w.1∧w.1≤20
 case neg=>simp only [h1,decide_false,Bool.not_false,cond_true,Bool.false_and]
 simp only [h1,and_self,decide_true,Bool.not_true,cond_false,Bool.true_and];have e0:(bif decide (w.1=13) then some (decide (w.2.1 = -1),c,w,()) else bif decide (w.1=20) then some (decide (w.2.1 = -1),c,w,()) else some (false,c,w,()))=some ((decide (w.1=13) || decide (w.1=20)) && decide (w.2.1 = -1),c,w,()):=by
  cases decide (w.1=13)<;>cases decide (w.1=20)<;>rfl
 rw [e0,AB];simp only [jK w.1 h1,jL,jM,YY c h,Option.bind_some];have eA:(bif !((decide (w.1=13) || decide (w.1=20)) && decide (w.2.1 = -1)) then bif !(bif decide (w.1≠18) then place c w.2.1 else decide (w.2.1=0)) then some (true,c,w,()) else bif !(bif JE w.1 then place c w.2.2.1 else decide (w.2.2.1=0)) then some (true,c,w,()) else some (!(bif JF w.1 then place c w.2.2.2.1 else decide (w.2.2.2.1=0)),c,w,())
  else bif !(bif JE w.1 then place c w.2.2.1 else decide (w.2.2.1=0)) then some (true,c,w,()) else some (!(bif JF w.1 then place c w.2.2.2.1 else decide (w.2.2.2.1=0)),c,w,()))=some (!(okA c w && (okB c w && okC c w)),c,w,()):=by
  have hA:okA c w=(((decide (w.1=13) || decide (w.1=20)) && decide (w.2.1 = -1)) || (bif decide (w.1≠18) then place c w.2.1 else decide (w.2.1=0))):=by
   simp only [okA]
   by_cases e:w.1=18
   ·simp [e]
   ·simp [e]
  rw [hA];show _=some (!(_ && ((bif JE w.1 then place c w.2.2.1 else decide (w.2.2.1=0)) && (bif JF w.1 then place c w.2.2.2.1 else decide (w.2.2.2.1=0)))),c,w,())
  cases ((decide (w.1=13) || decide (w.1=20)) && decide (w.2.1 = -1))<;>cases (bif decide (w.1≠18) then place c w.2.1 else decide (w.2.1=0))<;>cases (bif JE w.1 then place c w.2.2.1 else decide (w.2.2.1=0))<;>cases (bif JF w.1 then place c w.2.2.2.1 else decide (w.2.2.2.1=0))<;>rfl
 rw [eA,AB];have hsp:(okA c w && (okB c w && (okC c w && (okN c w && okR c w))))=((okA c w && (okB c w && okC c w)) && (okN c w && okR c w)):=by
  cases okA c w<;>cases okB c w<;>cases okC c w<;>rfl
 rw [hsp];cases okA c w && (okB c w && okC c w)
 case false=>simp only [Bool.not_false,cond_true,Bool.false_and]
 simp only [Bool.not_true,cond_false,Bool.true_and,Ka h.w];have e15:(bif decide (w.1=18) then some ((0:Int),decide (w.1=18),c,w,()) else some ((0:Int),decide (w.1=19),c,w,()))=some ((0:Int),decide (w.1=18) || decide (w.1=19),c,w,()):=by
  cases decide (w.1=18)<;>rfl
 rw [e15,AB];simp only [Ka h.w];have eN:(bif decide (w.1=1) then some ((1000000000:Int),c,w,()) else AC (bif decide (w.1=18) || decide (w.1=19) then some ((c.2.2.2.length:Int) - 1,c,w,()) else some ((0:Int),c,w,())) fun x15:Int×CODE×INS×Unit=>some (x15.1,x15.2.1,x15.2.2.1,())) =
  some ((bif decide (w.1=1) then (1000000000:Int) else bif decide (w.1=18) || decide (w.1=19) then (c.2.2.2.length:Int) - 1 else 0),c,w,()):=by
  cases decide (w.1=1)<;>cases (decide (w.1=18) || decide (w.1=19))<;>rfl
 rw [eN,AB];simp only [iIn,Option.bind_some];have eK:decide (0≤w.2.2.2.2.1∧w.2.2.2.2.1≤(bif decide (w.1=1) then (1000000000:Int) else bif decide (w.1=18) || decide (w.1=19) then (c.2.2.2.length:Int) - 1 else 0))=okN c w:=by
  simp only [okN];cases decide (w.1=1)<;>cases (decide (w.1=18) || decide (w.1=19))<;>simp only [cond_true,cond_false]
  exact Xv _
 rw [eK];cases okN c w
 case false=>simp only [Bool.not_false,cond_true,Bool.false_and]
 simp only [Bool.not_true,cond_false,Bool.true_and,okR]
 by_cases h13:w.1=13
 ·simp only [h13,ne_eq,not_true_eq_false,decide_false,cond_false,Wl c h w hl,decide_true,cond_true];cases w.2.2.2.2.2.2.all (place c)
  ·simp only [cond_false,Bh,Bool.false_and]
  ·simp only [cond_true,Bd,Mx,Option.bind_some,Bool.true_and];cases Bj w.2.2.2.2.2.1<;>rfl
 ·simp only [h13,ne_eq,not_false_eq_true,decide_true,cond_true,decide_false,cond_false];cases decide (w.2.2.2.2.2.1=(⟨#[]⟩:ByteArray))<;>rfl
structure FineC (c:CODE):Prop where
 s:Small c
 a:∀ w∈c.2.2.2,(w:INS).2.2.2.2.2.2.length≤1048576
def HR (n:Int):Bool:=decide (1≤n∧n≤4)
def Ef (c:CODE):Bool:=Bj c.1 && (decide (c.2.2.1.length≤200) && (decide (0≤c.2.1∧c.2.1≤(c.2.2.1.length:Int)) && (decide (1≤c.2.2.2.length∧c.2.2.2.length≤400) && (decide ((c.2.2.2.getD (c.2.2.2.length - 1) (0,0,0,0,0,⟨#[]⟩,[])).1=20) && (c.2.2.1.all HR && c.2.2.2.all (DK c))))))
theorem UP (c:CODE) (h:FineC c):AH FI ((0:Int),c,())=some (bif c.2.2.1.all HR then .inl (c,()) else .inr (false,())):=by
 have hl:=h.s.l
 exact CF (step:=FI) c.2.2.1 HR (fun k=>((k:Int),c,())) (.inl (c,())) (.inr (false,())) (fun k hk=>by
  simp only [FI,BC hk,decide_true,cond_true,Ab hk,Ag hk,sIn,Option.bind_some,Al (show k<9223372036854775807 by omega),HR];cases decide (1≤c.2.2.1[k]∧c.2.2.1[k]≤4)<;>rfl) (by
  simp only [FI,Ae,decide_false,cond_false,Option.map_some])
theorem UO (c:CODE) (h:FineC c):AH FC (c.2.2.1,(c.2.2.1.length:Int),(0:Int),c,())=some (bif c.2.2.1.all HR then .inl (c,()) else .inr (false,())):=by
 have hl:=h.s.l
 exact CF (step:=FC) c.2.2.1 HR (fun k=>(c.2.2.1,(c.2.2.1.length:Int),(k:Int),c,())) (.inl (c,())) (.inr (false,())) (fun k hk=>by
  simp only [FC,BC hk,decide_true,cond_true,Ab hk,Ag hk,iIn,Option.bind_some,Al (show k<9223372036854775807 by omega),HR];cases decide (1≤c.2.2.1[k]∧c.2.2.1[k]≤4)<;>rfl) (by
  simp only [FC,Ae,decide_false,cond_false,Option.map_some])
theorem VV (c:CODE) (h:FineC c):AH FR ((0:Int),c,())=some (bif c.2.2.2.all (DK c) then .inl () else .inr (false,())):=by
 have hl:=h.s.w
 exact CF (step:=FR) c.2.2.2 (DK c) (fun k=>((k:Int),c,())) (.inl ()) (.inr (false,())) (fun k hk=>by
  simp only [FR,BC hk,decide_true,cond_true,Ab hk,Ag hk,Rw c h.s _ (h.a _ (List.getElem_mem hk)),Option.bind_some,Al (show k<9223372036854775807 by omega)];cases DK c c.2.2.2[k]<;>rfl) (by
  simp only [FR,Ae,decide_false,cond_false,Option.map_some])
theorem VU (c:CODE) (h:FineC c):AH FQ (c.2.2.2,(c.2.2.2.length:Int),(0:Int),c,())=some (bif c.2.2.2.all (DK c) then .inl () else .inr (false,())):=by
 have hl:=h.s.w
 exact CF (step:=FQ) c.2.2.2 (DK c) (fun k=>(c.2.2.2,(c.2.2.2.length:Int),(k:Int),c,())) (.inl ()) (.inr (false,())) (fun k hk=>by
  simp only [FQ,BC hk,decide_true,cond_true,Ab hk,Ag hk,Ro c h.s _ (h.a _ (List.getElem_mem hk)),Option.bind_some,Al (show k<9223372036854775807 by omega)];cases DK c c.2.2.2[k]<;>rfl) (by
  simp only [FQ,Ae,decide_false,cond_false,Option.map_some])
theorem Yb {n:Nat} (h:1≤n):(n:Int) - 1=((n - 1:Nat):Int):=by omega
theorem dM {α:Type} (l:List α) (k:Nat) (z:α):rd l (k:Int) z=l.getD k z:=by simp [rd]
theorem SV (c:CODE) (h:FineC c) (nm:Bool) (r:Bool×CODE×Unit→Option (Bool×Unit)):
 (AC (bif !nm then some (true,c,()) else bif decide ((200:Int)<(c.2.2.1.length:Int)) then some (true,c,()) else bif !decide ((0:Int)≤c.2.1∧c.2.1≤(c.2.2.1.length:Int)) then some (true,c,()) else bif !decide ((1:Int)≤(c.2.2.2.length:Int)∧(c.2.2.2.length:Int)≤400) then some (true,c,()) else
  (Cnd.idx ((c.2.2.2.length:Int) - 1) (c.2.2.2.length)).run (some (decide ((rd c.2.2.2 ((c.2.2.2.length:Int) - 1) (0,0,0,0,0,⟨#[]⟩,[])).1≠(20:Int)),c,()))) r) =
 r (!(nm && (decide (c.2.2.1.length≤200) && (decide (0≤c.2.1∧c.2.1≤(c.2.2.1.length:Int)) && (decide (1≤c.2.2.2.length∧c.2.2.2.length≤400) && decide ((c.2.2.2.getD (c.2.2.2.length - 1) (0,0,0,0,0,⟨#[]⟩,[])).1=20))))),c,()):=by
 have e1:decide ((200:Int)<(c.2.2.1.length:Int)) = !decide (c.2.2.1.length≤200):=by
  by_cases e:c.2.2.1.length≤200
  ·rw [decide_eq_true e,decide_eq_false (by omega)];rfl
  ·rw [decide_eq_false e,decide_eq_true (by omega)];rfl
 have e2:decide ((1:Int)≤(c.2.2.2.length:Int)∧(c.2.2.2.length:Int)≤400)=decide (1≤c.2.2.2.length∧c.2.2.2.length≤400):=by
  by_cases e:1≤c.2.2.2.length∧c.2.2.2.length≤400
  ·rw [decide_eq_true e,decide_eq_true (by omega)]
  ·rw [decide_eq_false e,decide_eq_false (by omega)]
 rw [e1,e2];cases nm
 ·rfl
 cases decide (c.2.2.1.length≤200)
 ·rfl
 cases decide (0≤c.2.1∧c.2.1≤(c.2.2.1.length:Int))
 ·rfl
 by_cases e:1≤c.2.2.2.length∧c.2.2.2.length≤400
 ·have hlt:c.2.2.2.length - 1<c.2.2.2.length:=by omega
  simp only [e,and_self,decide_true,Bool.not_true,cond_false,Yb e.1,Ab hlt,dM,AB,Bool.true_and]
  by_cases e3:(c.2.2.2.getD (c.2.2.2.length - 1) (0,0,0,0,0,⟨#[]⟩,[])).1=20
  ·simp [e3]
  ·simp [e3]
 ·rw [decide_eq_false e];rfl
theorem HS (c:CODE) (h:FineC c):DC c=some (Ef c,()):=by
 unfold DC Ef;simp only [Cw,sIn,Option.bind_some,Ka h.s.w];rw [SV c h];have hsp:∀ a b d e f g i:Bool,(a && (b && (d && (e && (f && (g && i))))))=((a && (b && (d && (e && f)))) && (g && i)):=by decide
 rw [hsp];cases Bj c.1 && (decide (c.2.2.1.length≤200) && (decide (0≤c.2.1∧c.2.1≤(c.2.2.1.length:Int)) && (decide (1≤c.2.2.2.length∧c.2.2.2.length≤400) && decide ((c.2.2.2.getD (c.2.2.2.length - 1) (0,0,0,0,0,⟨#[]⟩,[])).1=20))))
 ·rfl
 simp only [Bool.not_true,cond_false,Bool.true_and,UP c h];cases c.2.2.1.all HR
 ·rfl
 simp only [cond_true,Bd,Option.bind_some,VV c h,Bool.true_and];cases c.2.2.2.all (DK c)<;>rfl
theorem Rn (c:CODE) (h:FineC c):Jw c=some (Ef c,()):=by
 unfold Jw Ef;simp only [Mx,iIn,Option.bind_some,Ka h.s.w];rw [SV c h];have hsp:∀ a b d e f g i:Bool,(a && (b && (d && (e && (f && (g && i))))))=((a && (b && (d && (e && f)))) && (g && i)):=by decide
 rw [hsp];cases Bj c.1 && (decide (c.2.2.1.length≤200) && (decide (0≤c.2.1∧c.2.1≤(c.2.2.1.length:Int)) && (decide (1≤c.2.2.2.length∧c.2.2.2.length≤400) && decide ((c.2.2.2.getD (c.2.2.2.length - 1) (0,0,0,0,0,⟨#[]⟩,[])).1=20))))
 ·rfl
 simp only [Bool.not_true,cond_false,Bool.true_and,UO c h];cases c.2.2.1.all HR
 ·rfl
 simp only [cond_true,Bd,Option.bind_some,VU c h,Bool.true_and];cases c.2.2.2.all (DK c)<;>rfl
set_option maxRecDepth 100000
theorem Yl {α β:Type} {l:List α} {n m:Nat} {K:Option β} (h:l.length * n≤m):(Cnd.le ((List.length ([]:List α)+l.length) * n) m).run K=K:=by
 rw [Bp];simpa using h
theorem Xh (l:List INS) (hl:l.length≤1048576) (ha:∀ w∈l,(w:INS).2.2.2.2.2.2.length≤1048576):IM l=some (l,()):=by
 have h:=NX (step:=Dx) l (fun w=>w) (fun k o=>(l,o,(k:Int),())) (fun o=>(o,())) (fun k hk o ho=>by
  have h1:=ha _ (List.getElem_mem hk)
  simp only [Dx,BC hk,decide_true,cond_true,Ab hk,Ag hk,List.nil_append,Option.map_some,Al (show k<9223372036854775807 by omega)];rw [Yl (by omega),Bp (by rw [ho];simp;omega)]) (fun o ho=>by
  simp only [Dx,Ae,decide_false,cond_false,Option.map_some])
 have h':AH Dx (l,[],(0:Int),())=_:=h
 simp only [IM,Option.bind_some,h',AB,List.map_id']
theorem Si (c:CODE) (h:FineC c):HO c=some (c,()):=by
 have h1:=h.s.l
 simp only [HO,Xh _ h.s.w h.a,Option.bind_some,List.nil_append];rw [Yl (by omega)]
abbrev zI:INS:=((0:Int),((0:Int),((0:Int),((0:Int),((0:Int),((⟨#[]⟩:ByteArray),[]))))))
def Jmp (l:List INS):Prop:=∀ w∈l,(w:INS).1=18∨(w:INS).1=19→∃ t:Nat,(w:INS).2.2.2.2.1=(t:Int)∧t<l.length
theorem iI {c:CODE} (h:Ef c=true):Jmp c.2.2.2:=by
 intro w hw hj;simp only [Ef,Bool.and_eq_true,List.all_eq_true] at h;have h1:=h.2.2.2.2.2.2 w hw
 simp only [DK,Bool.and_eq_true] at h1;have h2:=h1.2.2.2.2.1
 simp only [okN] at h2;have hne:¬ w.1=1:=by omega
 have hd:(decide (w.1=18) || decide (w.1=19))=true:=by simpa using hj
 rw [decide_eq_false hne,hd,cond_false,cond_true,decide_eq_true_eq] at h2;generalize hn:(w.2.2.2.2.1:Int)=n at h2;exact⟨n.toNat,by omega,by omega⟩
set_option maxRecDepth 100000
def inR (c:CODE) (n:Int):Bool:=decide (0≤n∧n≤(c.2.2.2.length:Int) - 1)
def Cn (c:CODE) (i:Nat):List Int:=bif decide ((rd c.2.2.2 (i:Int) zI).1=20) then [] else bif decide ((rd c.2.2.2 (i:Int) zI).1=18) then [(rd c.2.2.2 (i:Int) zI).2.2.2.2.1] else bif decide ((rd c.2.2.2 (i:Int) zI).1=19) then [((i+1:Nat):Int),(rd c.2.2.2 (i:Int) zI).2.2.2.2.1] else [((i+1:Nat):Int)]
def Gy (c:CODE) (o:List Int) (n:Int):List Int:=bif inR c n then (bif o.any (fun y=>decide (y=n)) then o else o++[n]) else o
def IX (c:CODE) (o:List Int) (n:Int):List Int:=bif inR c n then o++[n] else o
def nxS (c:CODE) (i:Nat):List Int:=(Cn c i).foldl (Gy c) []
def nxI (c:CODE) (i:Nat):List Int:=(Cn c i).foldl (IX c) []
theorem NH (c:CODE) (i:Nat):(Cn c i).length≤2:=by
 unfold Cn;cases decide ((rd c.2.2.2 (i:Int) zI).1=20)<;>cases decide ((rd c.2.2.2 (i:Int) zI).1=18)<;>cases decide ((rd c.2.2.2 (i:Int) zI).1=19)<;>simp
theorem bo (l:List Int) (n:Int) (hl:l.length≤4000000):KE l n=some (bif l.any (fun y=>decide (y=n)) then l else l++[n],()):=by
 have h:=Il (step:=FP) l (fun y=>decide (y=n)) (fun k=>(l,n,(k:Int),())) (.inr (l,())) (.inl (l,n,())) (fun k hk=>by
  simp only [FP,BC hk,decide_true,cond_true,Ab hk,Ag hk,Al (show k<9223372036854775807 by omega)];cases decide (l[k]=n)<;>rfl) (by
  simp only [FP,Ae,decide_false,cond_false,Option.map_some])
 have h':AH FP (l,n,(0:Int),())=_:=h
 simp only [KE,Option.bind_some,h'];cases l.any fun y=>decide (y=n)
 ·simp only [cond_false,Bd];rw [Bp (by simp;omega)]
 ·simp only [cond_true,Bh]
theorem Sj (c:CODE) (h:FineC c) (i:Nat) (hi:i<c.2.2.2.length):KW c (i:Int)=some (nxS c i,()):=by
 have hw:=h.s.w
 have hcl:=NH c i
 have wi:=Al (show i<9223372036854775807 by omega)
 have h1:=CZ (step:=Gv) (Cn c i) (Gy c) (fun k o=>(o,Cn c i,(k:Int),c,())) (fun o=>(o,())) (fun k o=>o.length≤k) (fun k hk o ho=>by
  refine⟨?_,?_⟩
  ·simp only [Gv,BC hk,decide_true,cond_true,Ab hk,Ag hk,Ka hw,sIn,Option.bind_some,Al (show k<9223372036854775807 by omega),bo o _ (show o.length≤4000000 by omega),Gy,inR];generalize (Cn c i)[k]=n;have wk:=Al (show k<9223372036854775807 by omega)
   cases decide (0≤n∧n≤(c.2.2.2.length:Int) - 1)<;>simp only [cond_true,cond_false,AB,Option.map_some,wk]
  ·unfold Gy;cases inR c (Cn c i)[k]
   ·simp only [cond_false];omega
   ·cases o.any fun y=>decide (y=(Cn c i)[k])
    ·simp only [cond_true,cond_false,List.length_append,List.length_cons,List.length_nil];omega
    ·simp only [cond_true];omega) (fun o ho=>by
  simp only [Gv,Ae,decide_false,cond_false,Option.map_some]) [] (Nat.zero_le _)
 have h2:AH Gv ([],Cn c i,(0:Int),c,())=some (nxS c i,()):=h1.1
 unfold KW;simp only [Ka hw,sIn,Option.bind_some];rw [decide_eq_true (show(0:Int)≤(i:Int)∧(i:Int)≤(c.2.2.2.length:Int) - 1 by omega)];simp only [Bool.not_true,cond_false,Ab hi,wi];unfold Cn at h2;cases e20:decide ((rd c.2.2.2 (i:Int) zI).1=20)<;>cases e18:decide ((rd c.2.2.2 (i:Int) zI).1=18)<;>cases e19:decide ((rd c.2.2.2 (i:Int) zI).1=19)<;>simp only [e20,e18,e19,cond_true,cond_false] at h2<;>simp only [e20,e18,e19,cond_true,cond_false,AB,Option.bind_some,h2]
theorem YZ (c:CODE) (h:FineC c) (i:Nat) (hi:i<c.2.2.2.length):MI c (i:Int)=some (nxI c i,()):=by
 have hw:=h.s.w
 have hcl:=NH c i
 have wi:=Al (show i<9223372036854775807 by omega)
 have h1:=CZ (step:=Gt) (Cn c i) (IX c) (fun k o=>(o,Cn c i,((Cn c i).length:Int),(k:Int),c,())) (fun o=>(o,())) (fun k o=>o.length≤k) (fun k hk o ho=>by
  refine⟨?_,?_⟩
  ·have hle:(Cnd.le ((o.length+List.length [(Cn c i)[k]]) * 8) 140737488355328).holds:=by simp only [Cnd.holds,List.length_cons,List.length_nil];omega
   simp only [Gt,BC hk,decide_true,cond_true,Ab hk,Ag hk,Ka hw,iIn,Option.bind_some,Al (show k<9223372036854775807 by omega),IX,inR];generalize (Cn c i)[k]=n at hle;rw [Bp hle];have wk:=Al (show k<9223372036854775807 by omega)
   cases decide (0≤n∧n≤(c.2.2.2.length:Int) - 1)<;>simp only [cond_true,cond_false,AB,Option.map_some,wk]
  ·unfold IX;cases inR c (Cn c i)[k]
   ·simp only [cond_false];omega
   ·simp only [cond_true,List.length_append,List.length_cons,List.length_nil];omega) (fun o ho=>by
  simp only [Gt,Ae,decide_false,cond_false,Option.map_some]) [] (Nat.zero_le _)
 have h2:AH Gt ([],Cn c i,((Cn c i).length:Int),(0:Int),c,())=some (nxI c i,()):=h1.1
 unfold MI;simp only [Ka hw,iIn,Option.bind_some];rw [decide_eq_true (show(0:Int)≤(i:Int)∧(i:Int)≤(c.2.2.2.length:Int) - 1 by omega)];simp only [Bool.not_true,cond_false,Ab hi,wi];unfold Cn at h2;cases e20:decide ((rd c.2.2.2 (i:Int) zI).1=20)<;>cases e18:decide ((rd c.2.2.2 (i:Int) zI).1=18)<;>cases e19:decide ((rd c.2.2.2 (i:Int) zI).1=19)<;>simp only [e20,e18,e19,cond_true,cond_false] at h2<;>(try rw [Bp (by simp)])<;>simp only [e20,e18,e19,cond_true,cond_false,AB,Option.bind_some,List.cons_append,List.nil_append,h2]
def Rng (c:CODE) (n:Int):Prop:=∃ k:Nat,n=(k:Int)∧k<c.2.2.2.length
theorem UM {c:CODE} {n:Int} (h:inR c n=true):Rng c n:=by
 simp only [inR,decide_eq_true_eq] at h;exact⟨n.toNat,by omega,by omega⟩
theorem NQ {α β:Type} (P:β→Prop) (g:β→α→β) (hg:∀ o n,P o→P (g o n)):∀ (l:List α) (o:β),P o→P (l.foldl g o)
 | [],o,h=>h
 | x::l,o,h=>NQ P g hg l (g o x) (hg o x h)
theorem Yn (c:CODE) (i:Nat):∀ n∈nxS c i,Rng c n:=
 NQ (fun o=>∀ n∈o,Rng c n) (Gy c) (fun o n ho x hx=>by
  unfold Gy at hx;cases hr:inR c n
  ·rw [hr,cond_false] at hx;exact ho x hx
  ·rw [hr,cond_true] at hx;cases ha:o.any fun y=>decide (y=n)
   ·rw [ha,cond_false] at hx;rcases List.mem_append.1 hx with hx | hx
    ·exact ho x hx
    ·rw [List.mem_singleton.1 hx];exact UM hr
   ·rw [ha,cond_true] at hx;exact ho x hx) (Cn c i) [] (fun n hn=>by cases hn)
theorem nxI_in (c:CODE) (i:Nat):∀ n∈nxI c i,Rng c n:=
 NQ (fun o=>∀ n∈o,Rng c n) (IX c) (fun o n ho x hx=>by
  unfold IX at hx;cases hr:inR c n
  ·rw [hr,cond_false] at hx;exact ho x hx
  ·rw [hr,cond_true] at hx;rcases List.mem_append.1 hx with hx | hx
   ·exact ho x hx
   ·rw [List.mem_singleton.1 hx];exact UM hr) (Cn c i) [] (fun n hn=>by cases hn)
def fls:List Bool→Nat
 | []=>0
 | b::l=>(bif b then 0 else 1)+fls l
theorem Rh:∀ (h:List Bool) (n:Nat) (hn:n<h.length),h[n]=false→fls (h.set n true)+1=fls h
 | b::l,0,_,h0=>by
  have:b=false:=h0
  subst this;simp only [List.set_cons_zero,fls,cond_true,cond_false];omega
 | b::l,n+1,hn,h0=>by
  have:=Rh l n (by simpa using hn) (by simpa using h0)
  simp only [List.set_cons_succ,fls];omega
abbrev VS:=List Bool×List Int
def vis (s:VS) (n:Int):VS:=bif rd s.1 n false then s else (s.1.set n.toNat true,s.2++[n])
theorem dg {W:Nat} {s:VS} (hs:s.1.length=W) {n:Nat} (hn:n<W):(vis s (n:Int)).1.length=W∧(vis s (n:Int)).2.length+fls (vis s (n:Int)).1=s.2.length+fls s.1∧fls (vis s (n:Int)).1≤fls s.1:=by
 have hl:n<s.1.length:=by omega
 unfold vis;rw [Ag hl];cases hb:s.1[n]
 ·have:=Rh s.1 n hl hb
  simp only [cond_false,Int.toNat_natCast,List.length_set,List.length_append,List.length_cons,List.length_nil];omega
 ·exact⟨hs,rfl,Nat.le_refl _⟩
theorem cF {W:Nat} {s:VS} (hs:s.1.length=W) {n:Nat} (hn:n<W):vis (vis s (n:Int)) (n:Int)=vis s (n:Int):=by
 have hl:n<s.1.length:=by omega
 unfold vis;rw [Ag hl];cases hb:s.1[n]
 ·simp only [cond_false,Int.toNat_natCast];rw [Ag (by rw [List.length_set];exact hl),List.getElem_set_self];rfl
 ·simp only [cond_true];rw [Ag hl,hb];rfl
theorem visits (c:CODE) (i:Nat) (s:VS) (hs:s.1.length=c.2.2.2.length):(nxS c i).foldl vis s=(nxI c i).foldl vis s:=by
 have key:∀ a b:Int,([a,b].foldl (Gy c) []).foldl vis s=([a,b].foldl (IX c) []).foldl vis s:=fun a b=>by
  simp only [List.foldl_cons,List.foldl_nil,Gy,IX];cases ha:inR c a<;>cases hb:inR c b<;>simp only [cond_true,cond_false,List.any_nil,List.nil_append,List.foldl_cons,List.foldl_nil,List.any_cons,Bool.or_false]
  by_cases e:a=b
  ·subst e;obtain⟨n,rfl,hn⟩:=UM ha;simp only [decide_true,cond_true,List.foldl_cons,List.foldl_nil,List.cons_append,List.nil_append];exact(cF hs hn).symm
  ·simp only [e,decide_false,cond_false]
 have key1:∀ a:Int,([a].foldl (Gy c) []).foldl vis s=([a].foldl (IX c) []).foldl vis s:=fun a=>by
  simp only [List.foldl_cons,List.foldl_nil,Gy,IX];cases ha:inR c a<;>simp only [cond_true,cond_false,List.any_nil,List.nil_append]
 unfold nxS nxI Cn;cases decide ((rd c.2.2.2 (i:Int) zI).1=20)<;>cases decide ((rd c.2.2.2 (i:Int) zI).1=18)<;>cases decide ((rd c.2.2.2 (i:Int) zI).1=19)<;>simp only [cond_true,cond_false]<;>first | exact key _ _ | exact key1 _ | rfl
theorem WD (a:List Int):∀ (ns:List Int) (h:List Bool) (t:List Int),ns.foldl vis (h,a++t)=((ns.foldl vis (h,t)).1,a++(ns.foldl vis (h,t)).2)
 | [],h,t=>rfl
 | n::ns,h,t=>by
  simp only [List.foldl_cons,vis];cases rd h n false
  ·simp only [cond_false,List.append_assoc];exact WD a ns _ _
  ·simp only [cond_true];exact WD a ns _ _
def VI (W B F:Nat) (s:VS):Prop:=s.1.length=W∧s.2.length+fls s.1=B∧fls s.1≤F
theorem VI.step {W B F:Nat} {s:VS} (h:VI W B F s) {n:Nat} (hn:n<W):VI W B F (vis s (n:Int)):=by
 obtain⟨h1,h2,h3⟩:=h;obtain⟨g1,g2,g3⟩:=dg h1 hn;exact⟨g1,by omega,by omega⟩
theorem inner_S (c:CODE) (i:Int) (ns:List Int) (hns:∀ n∈ns,Rng c n) (hl:ns.length≤1000) (s:VS) {B F:Nat} (hB:B≤4000000) (hs:VI c.2.2.2.length B F s):
 AH Bo (s.1,s.2,i,ns,(0:Int),c,())=some ((ns.foldl vis s).1,(ns.foldl vis s).2,i,c,())∧VI c.2.2.2.length B F (ns.foldl vis s):=by
 have h:=CZ (step:=Bo) ns vis (fun k s=>(s.1,s.2,i,ns,(k:Int),c,())) (fun s=>(s.1,s.2,i,c,())) (fun _ s=>VI c.2.2.2.length B F s) (fun k hk s hs=>by
  obtain⟨n,hn,hlt⟩:=hns _ (List.getElem_mem hk);refine⟨?_,by rw [hn];exact hs.step hlt⟩
  obtain⟨h1,h2,h3⟩:=hs;have hl:n<s.1.length:=by omega
  have hle:∀ {α:Type} {K:Option α},(Cnd.le ((s.2.length+List.length [(n:Int)]) * 8) 140737488355328).run K=K:=fun {α} {K}=>Bp (by simp only [List.length_cons,List.length_nil];omega)
  have wi:=Al (show k<9223372036854775807 by omega)
  simp only [Bo,BC hk,decide_true,cond_true,Ab hk,Ag hk,hn,Ab hl,Ag hl,vis,Int.toNat_natCast,Au,hle];cases s.1[n]<;>simp only [Bool.not_false,Bool.not_true,cond_true,cond_false,AB,Option.map_some,wi]) (fun s hs=>by
  simp only [Bo,Ae,decide_false,cond_false,Option.map_some]) s hs
 exact h
theorem NP {c:CODE} (g:List Int→Int→List Int) (hg:∀ o n,(g o n).length≤o.length+1):∀ (l o:List Int),(l.foldl g o).length≤o.length+l.length
 | [],o=>by simp
 | x::l,o=>by
  have h1:=NP (c:=c) g hg l (g o x)
  have h2:=hg o x
  simp only [List.foldl_cons,List.length_cons];omega
theorem Yo (c:CODE) (i:Nat):(nxS c i).length≤1000∧(nxI c i).length≤1000:=by
 have h:=NH c i
 have h1:=NP (c:=c) (Gy c) (fun o n=>by
  unfold Gy;cases inR c n<;>cases (o.any fun y=>decide (y=n))<;>simp) (Cn c i) []
 have h2:=NP (c:=c) (IX c) (fun o n=>by
  unfold IX;cases inR c n<;>simp) (Cn c i) []
 unfold nxS nxI;simp only [List.length_nil] at h1 h2;omega
theorem vis_rng (c:CODE) (ns:List Int) (hns:∀ n∈ns,Rng c n):∀ s:VS,(∀ x∈s.2,Rng c x)→∀ x∈(ns.foldl vis s).2,Rng c x:=by
 induction ns with
 | nil=>intro s hs;exact hs
 | cons n ns ih=>
  intro s hs;rw [List.foldl_cons];refine ih (fun m hm=>hns m (List.mem_cons_of_mem _ hm)) _ (fun x hx=>?_)
  unfold vis at hx;cases hb:rd s.1 n false
  ·rw [hb,cond_false] at hx;rcases List.mem_append.1 hx with hx | hx
   ·exact hs x hx
   ·rw [List.mem_singleton.1 hx];exact hns n (List.mem_cons_self ..)
  ·rw [hb,cond_true] at hx;exact hs x hx
theorem Vh:∀ n:Nat,fls (List.replicate n false)=n
 | 0=>rfl
 | n+1=>by simp only [List.replicate_succ,fls,cond_false,Vh n];omega
def wp {α:Type} (x:Option α) (Q:α→Prop):Prop:=∃ r,x=some r∧Q r
theorem AA {α:Type} {r:α} {Q:α→Prop} (h:Q r):wp (some r) Q:=⟨r,rfl,h⟩
theorem AD {α:Type} {x:Option α} {Q Q':α→Prop} (h:wp x Q) (hq:∀ r,Q r→Q' r):wp x Q':=by
 obtain⟨r,h1,h2⟩:=h;exact⟨r,h1,hq r h2⟩
theorem AF {α β:Type} {x:Option α} {k:α→Option β} {Q:β→Prop} (h:wp x fun a=>wp (k a) Q):wp (x.bind k) Q:=by
 obtain⟨r,rfl,h2⟩:=h;exact h2
theorem AQ {α β:Type} {x:Option β} {k:β→Option α} {Q:α→Prop} (h:wp x fun a=>wp (k a) Q):wp (AC x k) Q:=AF h
theorem Ig {α β:Type} {x:Option (β ⊕ α)} {k:β→Option α} {Q:α→Prop} (h:wp x fun s=>(∀ b,s=.inl b→wp (k b) Q)∧∀ r,s=.inr r→Q r):wp (Az x k) Q:=by
 obtain⟨s,rfl,h1,h2⟩:=h;cases s with
 | inl b=>exact h1 b rfl
 | inr r=>exact⟨r,rfl,h2 r rfl⟩
theorem AL {α β:Type} {x:Option α} {f:α→β} {Q:β→Prop} (h:wp x fun a=>Q (f a)):wp (x.map f) Q:=by
 obtain⟨r,rfl,h2⟩:=h;exact⟨f r,rfl,h2⟩
theorem AM {α:Type} {b:Bool} {x y:Option α} {Q:α→Prop} (h1:b=true→wp x Q) (h2:b=false→wp y Q):wp (bif b then x else y) Q:=by
 cases b with
 | true=>exact h1 rfl
 | false=>exact h2 rfl
theorem AN {α:Type} {c:Cnd} {K:Option α} {Q:α→Prop} (hc:c.holds) (h:wp K Q):wp (c.run K) Q:=by
 have key:∀ (c:Cnd) (K:Option α),c.holds→c.run K=K:=by
  intro c
  induction c with
  | tt=>intro K _;rfl
  | idx n len=>intro K h;exact if_pos h
  | nz b=>intro K h;exact if_neg h
  | nn b=>intro K h;exact if_pos h
  | cut lo hi len=>intro K h;exact if_pos h
  | le a b=>intro K h;exact if_pos h
  | both a b iha ihb=>intro K h;simp only [Cnd.run];rw [iha _ h.1,ihb _ h.2]
 rw [key c K hc];exact h
theorem wp_loop {α β:Type} {step:β→Option (β ⊕ α)} {Q:α→Prop} (I:β→Prop) (μ:β→Nat) (H:∀ b,I b→wp (step b) fun s=>(∀ b',s=.inl b'→I b'∧μ b'<μ b)∧∀ r,s=.inr r→Q r) {b:β} (h:I b):wp (AH step b) Q:=by
 refine Yf I μ Q (fun b hb=>?_) b h
 obtain⟨s,h1,h2,h3⟩:=H b hb;cases s with
 | inl b'=>exact .inr ⟨b',h1,h2 b' rfl⟩
 | inr r=>exact .inl ⟨r,h1,h3 r rfl⟩
theorem Aj {α β:Type} {b:β} {P:β→Prop} {Q:α→Prop} (h:P b):(∀ b',(Sum.inl b:β ⊕ α)=.inl b'→P b')∧∀ r,(Sum.inl b:β ⊕ α)=.inr r→Q r:=⟨fun b' e=>(by cases e;exact h),fun r e=>(by cases e)⟩
theorem Ah {α β:Type} {r:α} {P:β→Prop} {Q:α→Prop} (h:Q r):(∀ b',(Sum.inr r:β ⊕ α)=.inl b'→P b')∧∀ r',(Sum.inr r:β ⊕ α)=.inr r'→Q r':=⟨fun b' e=>(by cases e),fun r' e=>(by cases e;exact h)⟩
def wq {α:Type} (x x':Option α) (Q:α→Prop):Prop:=∃ r,x=some r∧x'=some r∧Q r
theorem Af {α:Type} {x:Option α} {Q:α→Prop} (h:wp x Q):wq x x Q:=by
 obtain⟨r,h1,h2⟩:=h;exact⟨r,h1,h1,h2⟩
theorem AJ {α:Type} {r:α} {Q:α→Prop} (h:Q r):wq (some r) (some r) Q:=⟨r,rfl,rfl,h⟩
theorem AG {α:Type} {x x':Option α} {Q Q':α→Prop} (h:wq x x' Q) (hq:∀ r,Q r→Q' r):wq x x' Q':=by
 obtain⟨r,h1,h2,h3⟩:=h;exact⟨r,h1,h2,hq r h3⟩
theorem AK {α β:Type} {x x':Option α} {k k':α→Option β} {Q:β→Prop} (h:wq x x' fun a=>wq (k a) (k' a) Q):wq (x.bind k) (x'.bind k') Q:=by
 obtain⟨r,rfl,rfl,h2⟩:=h;exact h2
theorem BF {α β:Type} {x x':Option β} {k k':β→Option α} {Q:α→Prop} (h:wq x x' fun a=>wq (k a) (k' a) Q):wq (AC x k) (AC x' k') Q:=AK h
theorem cG {α β:Type} {x x':Option (β ⊕ α)} {k k':β→Option α} {Q:α→Prop} (h:wq x x' fun s=>(∀ b,s=.inl b→wq (k b) (k' b) Q)∧∀ r,s=.inr r→Q r):wq (Az x k) (Az x' k') Q:=by
 obtain⟨s,rfl,rfl,h1,h2⟩:=h;cases s with
 | inl b=>exact h1 b rfl
 | inr r=>exact⟨r,rfl,rfl,h2 r rfl⟩
theorem CA {α β:Type} {x x':Option α} {f:α→β} {Q:β→Prop} (h:wq x x' fun a=>Q (f a)):wq (x.map f) (x'.map f) Q:=by
 obtain⟨r,rfl,rfl,h2⟩:=h;exact⟨f r,rfl,rfl,h2⟩
theorem Ad {α:Type} {b:Bool} {x x' y y':Option α} {Q:α→Prop} (h1:b=true→wq x x' Q) (h2:b=false→wq y y' Q):wq (bif b then x else y) (bif b then x' else y') Q:=by
 cases b with
 | true=>exact h1 rfl
 | false=>exact h2 rfl
theorem Ar {α:Type} {c:Cnd} {K K':Option α} {Q:α→Prop} (hc:c.holds) (h:wq K K' Q):wq (c.run K) (c.run K') Q:=by
 have h1:=AN (c:=c) (K:=K) (Q:=fun r=>K=some r) hc (by obtain⟨r,h,_⟩:=h;exact⟨r,h,h⟩)
 have h2:=AN (c:=c) (K:=K') (Q:=fun r=>K'=some r) hc (by obtain⟨r,_,h,_⟩:=h;exact⟨r,h,h⟩)
 obtain⟨r,e1,e2,e3⟩:=h;obtain⟨r1,f1,f2⟩:=h1;obtain⟨r2,f3,f4⟩:=h2;rw [e1] at f2;rw [e2] at f4;rw [f1,f3,← f2,← f4];exact⟨r,rfl,rfl,e3⟩
theorem Io {α β:Type} {step step':β→Option (β ⊕ α)} {Q:α→Prop} (I:β→Prop) (μ:β→Nat) (H:∀ b,I b→wq (step b) (step' b) fun s=>(∀ b',s=.inl b'→I b'∧μ b'<μ b)∧∀ r,s=.inr r→Q r) {b:β} (h:I b):wq (AH step b) (AH step' b) Q:=by
 have key:∀ n b,μ b≤n→I b→wq (AH step b) (AH step' b) Q:=by
  intro n
  induction n with
  | zero=>
   intro b hn hb;obtain⟨s,h1,h1',h2,h3⟩:=H b hb;cases s with
   | inl b'=>have:=(h2 b' rfl).2;omega
   | inr r=>exact⟨r,BO h1,BO h1',h3 r rfl⟩
  | succ n ih=>
   intro b hn hb;obtain⟨s,h1,h1',h2,h3⟩:=H b hb;cases s with
   | inl b'=>
    rw [Br h1,Br h1'];exact ih b' (by have:=(h2 b' rfl).2;omega) (h2 b' rfl).1
   | inr r=>exact⟨r,BO h1,BO h1',h3 r rfl⟩
 exact key _ b (Nat.le_refl _) h
theorem KY {α β:Type} {F:Nat→α→Option β} {x:α} {Q:β→Prop} (N:Nat) (h:∀ n,N≤n→wq (F n x) (F N x) Q):wp (DG F x) Q:=by
 obtain⟨r,_,h2,h3⟩:=h N (Nat.le_refl _);refine⟨r,KR.2 ⟨N,fun n hn=>?_⟩,h3⟩
 obtain⟨r',g1,g2,_⟩:=h n hn;rw [h2] at g2;rw [g1,← g2]
theorem AR (a b:ByteArray):(a++b).size=a.size+b.size:=ByteArray.size_append
theorem NS (x:Int):0≤NR .i64 x 255∧NR .i64 x 255≤255:=by
 unfold NR;have h1:(BitVec.ofInt IntKind.i64.bits x &&& BitVec.ofInt IntKind.i64.bits 255).toNat≤255:=by
  rw [BitVec.toNat_and];have:(BitVec.ofInt IntKind.i64.bits 255).toNat=255:=by decide
  rw [this];exact Nat.and_le_right
 rw [Aa (by omega) (by omega)];omega
abbrev Cur:=List Int×(Int×Int)
def COk (c:Cur):Prop:=List.length c.1≤1048576∧0≤c.2.1∧c.2.1≤List.length c.1
theorem Yk (code:List Int) (h:code.length≤1048576):wp (IB code) fun r=>COk r.1:=by
 unfold IB;refine AQ (AF (AA ?_))
 refine AD (wp_loop (fun b:List Int×Int×Int×Unit=>b.1=code∧0≤b.2.2.1∧b.2.2.1≤code.length) (fun b=>code.length - b.2.2.1.toNat) (Q:=fun r=>r.1=code) (fun b hb=>?_) ⟨rfl,by simp,by simp⟩) (fun r hr=>AA ⟨by simp [hr];exact h,by simp,by simp⟩)
 obtain⟨b1,b2,b3,_⟩:=b;obtain⟨rfl,h0,h1⟩:=hb;simp only at h0 h1;unfold Mj;simp only
 by_cases hlt:b3<(b1.length:Int)
 ·simp only [hlt,decide_true,cond_true,AB]
  by_cases h4:b3<4000
  ·simp only [h4,decide_true,cond_true];have e:IntKind.wrap .i64 (b3+1)=b3+1:=Aa (by omega) (by omega)
   rw [e];exact AN ⟨h0,hlt⟩ (AL (AA (Aj ⟨⟨rfl,by simp only;omega,by simp only;omega⟩,by simp only;omega⟩)))
  ·simp only [h4,decide_false,cond_false];exact AL (AA (Ah rfl))
 ·simp only [hlt,decide_false,cond_false,AB];exact AL (AA (Ah rfl))
theorem LJ (c:Cur) (h:COk c):wp (Cd c) fun r=>0≤r.1∧r.1≤255∧COk r.2.1:=by
 obtain⟨b,i,hh⟩:=c;obtain⟨h1,h2,h3⟩:=h;simp only at h1 h2 h3;unfold Cd;refine AN (by simp [Cnd.holds]) (AN (by simp [Cnd.holds]) (AQ (AM (fun hb=>?_) (fun hb=>?_))))
 ·have hlt:i<(b.length:Int):=by simpa using hb
  refine AN ⟨h2,hlt⟩ (AA (AA ⟨(NS _).1,(NS _).2,h1,?_,?_⟩))
  ·simp only;rw [Aa (by omega) (by omega)];omega
  ·simp only;rw [Aa (by omega) (by omega)];omega
 ·exact AA (AA ⟨(NS _).1,(NS _).2,h1,h2,h3⟩)
theorem Bs (c:Cur) (n:Int) (h:COk c):wp (BG c n) fun r=>0≤r.1∧(0<n→r.1<n)∧(n≤0→r.1=0)∧COk r.2.1:=by
 unfold BG;refine AM (fun hb=>AA ?_) (fun hb=>AM (fun hb2=>?_) (fun hb2=>?_))
 ·have hn:n≤0:=by simpa using hb
  exact⟨by simp,fun h=>by omega,fun _=>rfl,h⟩
 ·have hn:0<n:=by simpa using hb
  refine AF (AD (LJ c h) fun y hy=>AN (by show n≠0;omega) (AA ⟨Int.tmod_nonneg _ hy.1,fun _=>Int.tmod_lt_of_pos _ hn,fun h=>by omega,hy.2.2⟩))
 ·have hn:0<n:=by simpa using hb
  refine AF (AD (LJ c h) fun y hy=>AF (AD (LJ _ hy.2.2) fun y2 hy2=>AF (AD (LJ _ hy2.2.2) fun y3 hy3=>AF (AD (LJ _ hy3.2.2) fun y4 hy4=>?_))))
  have e1:IntKind.wrap .i64 (y.1 * 16777216)=y.1 * 16777216:=Aa (by omega) (by omega)
  have e2:IntKind.wrap .i64 (y2.1 * 65536)=y2.1 * 65536:=Aa (by omega) (by omega)
  have e3:IntKind.wrap .i64 (y3.1 * 256)=y3.1 * 256:=Aa (by omega) (by omega)
  rw [e1,e2,e3,Aa (x:=y.1 * 16777216+y2.1 * 65536) (by omega) (by omega),Aa (x:=y.1 * 16777216+y2.1 * 65536+y3.1 * 256) (by omega) (by omega),Aa (x:=y.1 * 16777216+y2.1 * 65536+y3.1 * 256+y4.1) (by omega) (by omega)];exact AN (by show n≠0;omega) (AA ⟨Int.tmod_nonneg _ (by omega),fun _=>Int.tmod_lt_of_pos _ hn,fun h=>by omega,hy4.2.2⟩)
theorem Ju (c:Cur) (n:Int) (h:COk c):wp (Ce c n) fun r=>COk r.2.1:=by
 unfold Ce;exact AF (AD (Bs c n h) fun y hy=>AA hy.2.2.2)
theorem Be {D:Type} (l:List D) (n:Int) (z:D) (h0:0≤n) (h1:n<l.length):rd l n z∈l:=by
 have hlt:n.toNat<l.length:=by omega
 have:rd l n z=l[n.toNat]:=by simp [rd,List.getD_eq_getElem?_getD,List.getElem?_eq_getElem hlt]
 rw [this];exact List.getElem_mem hlt
theorem Vr (c:Cur) (l:List ByteArray) (hl:l≠[]) (h:COk c):wp (HK c l) fun r=>r.1∈l∧COk r.2.1:=by
 unfold HK;have hp:0<(l.length:Int):=by have:=List.length_pos_iff.2 hl;omega
 exact AF (AD (Bs c _ h) fun y hy=>AN ⟨hy.1,hy.2.1 hp⟩ (AA ⟨Be _ _ _ hy.1 (hy.2.1 hp),hy.2.2.2⟩))
set_option maxRecDepth 100000
abbrev SIGN:=Int×(ByteArray×Int)
theorem dG (t:ByteArray) (at_:Int) (h0:0≤at_) (h1:at_≤t.size) (ht:t.size≤3000):wp (JW t at_) fun r=>r.1=(⟨#[]⟩:ByteArray)∨(0<r.1.size∧at_+r.1.size≤t.size):=by
 unfold JW Ke;refine AF (AA (Ig (AF (AA ?_))))
 simp only;generalize hL:[OY,OZ,s___32eb,s___ba5e,Nf,s___d10b,Ng,QA,Ni,Nh,s___6848,Ld,Py,Pz]=L;have hlen:L.length=14:=by rw [← hL];rfl
 have hsz:∀ s∈L,0<s.size∧s.size≤2:=by
  rw [← hL];intro s hs;simp only [List.mem_cons,List.not_mem_nil,or_false] at hs;rcases hs with e | e | e | e | e | e | e | e | e | e | e | e | e | e<;>rw [e]<;>decide
 clear hL
 refine AD (wp_loop (fun x:IT=>x.1=t∧x.2.1=at_∧x.2.2.1=L∧0≤x.2.2.2.1∧x.2.2.2.1≤14) (fun x=>14 - x.2.2.2.1.toNat) (Q:=fun s:Unit ⊕ (ByteArray×Unit)=>∀ r,s=.inr r→0<r.1.size∧at_+r.1.size≤t.size) (fun x hx=>?_) ⟨rfl,rfl,rfl,by simp,by simp⟩) (fun s hs=>⟨fun b hb=>AA (.inl rfl),fun r hr=>.inr (hs r hr)⟩)
 obtain⟨x0,x1,x2,x3,_⟩:=x;simp only at hx;obtain⟨e1,e2,e3,g1,g2⟩:=hx;subst e1 e2 e3;unfold Lm;simp only;refine AM (fun hb=>?_) fun _=>AL (AL (AA (Ah (fun r hr=>by cases hr))))
 have hlt:x3<(x2.length:Int):=by simpa using hb
 have hm:=hsz _ (Be x2 x3 (⟨#[]⟩:ByteArray) g1 hlt)
 have e:IntKind.wrap .i64 (x1+((rd x2 x3 (⟨#[]⟩:ByteArray)).size:Int))=x1+((rd x2 x3 (⟨#[]⟩:ByteArray)).size:Int):=Aa (by omega) (by omega)
 rw [e];refine AN ⟨g1,hlt⟩ (AQ (AD (Q:=fun z:ByteArray×Int×List ByteArray×Int×Bool×Unit=>z.1=x0∧z.2.1=x1∧z.2.2.1=x2∧z.2.2.2.1=x3∧(z.2.2.2.2.1=true→x1+((rd x2 x3 (⟨#[]⟩:ByteArray)).size:Int)≤x0.size)) (AM (fun hb2=>?_) fun _=>AA ⟨rfl,rfl,rfl,rfl,fun h=>by cases h⟩) fun z hz=>?_))
 ·have h2:x1+((rd x2 x3 (⟨#[]⟩:ByteArray)).size:Int)≤(x0.size:Int):=by simpa using hb2
  exact AN ⟨h0,by omega,h2⟩ (AN ⟨g1,hlt⟩ (AA ⟨rfl,rfl,rfl,rfl,fun _=>h2⟩))
 ·obtain⟨z0,z1,z2,z3,z4,_⟩:=z;simp only at hz;obtain⟨e1,e2,e3,e4,g3⟩:=hz;subst e1 e2 e3 e4;simp only;refine AM (fun hb3=>AN ⟨g1,hlt⟩ (AL (AL (AA (Ah (fun r hr=>by cases hr;exact⟨hm.1,g3 hb3⟩)))))) fun _=>?_
  rw [Aa (x:=z3+1) (by omega) (by omega)];exact AL (AA (Aj ⟨⟨rfl,rfl,rfl,by simp only;omega,by simp only;omega⟩,by simp only;omega⟩))
theorem bC (t:ByteArray) (n o:List SIGN) (at_:Int) (h0:0≤at_) (h1:at_<t.size) (ht:t.size≤3000) (hl:HC (bAt t at_)=true):
 wp (AH Ip (t,n,o,at_,at_,())) fun r=>r.1=t∧r.2.1=n∧r.2.2.1=o∧r.2.2.2.1=at_∧at_<r.2.2.2.2.1∧r.2.2.2.2.1≤t.size:=by
 refine wp_loop (fun x:IR=>x.1=t∧x.2.1=n∧x.2.2.1=o∧x.2.2.2.1=at_∧at_≤x.2.2.2.2.1∧x.2.2.2.2.1≤t.size) (fun x=>t.size - x.2.2.2.2.1.toNat) (fun x hx=>?_) ⟨rfl,rfl,rfl,rfl,by simp,by simp only;omega⟩
 obtain⟨x0,x1,x2,x3,x4,_⟩:=x;simp only at hx;obtain⟨e1,e2,e3,e4,g1,g2⟩:=hx;subst e1 e2 e3 e4;unfold Ip;simp only;refine AQ (AD (Q:=fun z:ByteArray×List SIGN×List SIGN×Int×Int×Bool×Unit=>z.1=x0∧z.2.1=x1∧z.2.2.1=x2∧z.2.2.2.1=x3∧z.2.2.2.2.1=x4∧(z.2.2.2.2.2.1=true→x4<x0.size)∧(z.2.2.2.2.2.1=false→x4≠x3)) (AM (fun hb=>?_) fun hb=>AA ⟨rfl,rfl,rfl,rfl,rfl,fun h=>(by cases h),fun _ e=>?_⟩) fun z hz=>?_)
 ·have hlt:x4<(x0.size:Int):=by simpa using hb
  rw [Ox,Ow];refine AN ⟨by omega,hlt⟩ (AF (AA (AM (fun _=>AA ⟨rfl,rfl,rfl,rfl,rfl,fun _=>hlt,fun h=>by cases h⟩) fun hb2=>AN ⟨by omega,hlt⟩ (AF (AA (AA ⟨rfl,rfl,rfl,rfl,rfl,fun _=>hlt,fun _ e=>?_⟩))))))
  simp only at hb2;rw [e,hl] at hb2;cases hb2
 ·have:¬ x4<(x0.size:Int):=by simpa using hb
  omega
 ·obtain⟨z0,z1,z2,z3,z4,z5,_⟩:=z;simp only at hz;obtain⟨e1,e2,e3,e4,e5,g3,g4⟩:=hz;subst e1 e2 e3 e4 e5;simp only;refine AM (fun hb=>?_) fun hb=>AL (AA (Ah ⟨rfl,rfl,rfl,rfl,by have:=g4 hb;simp only;omega,g2⟩))
  have:=g3 hb
  rw [Aa (x:=z4+1) (by omega) (by omega)];exact AL (AA (Aj ⟨⟨rfl,rfl,rfl,rfl,by simp only;omega,by simp only;omega⟩,by simp only;omega⟩))
theorem YN (t:ByteArray) (n o:List SIGN) (at_:Int) (h0:0≤at_) (h1:at_<t.size) (ht:t.size≤3000) (hl:KO (bAt t at_)=true):
 wp (AH Iu (t,n,o,at_,at_,(0:Int),())) fun r=>r.1=t∧r.2.1=n∧r.2.2.1=o∧r.2.2.2.1=at_∧at_<r.2.2.2.2.1∧r.2.2.2.2.1≤t.size:=by
 refine wp_loop (fun x:IW=>x.1=t∧x.2.1=n∧x.2.2.1=o∧x.2.2.2.1=at_∧at_≤x.2.2.2.2.1∧x.2.2.2.2.1≤t.size) (fun x=>t.size - x.2.2.2.2.1.toNat) (fun x hx=>?_) ⟨rfl,rfl,rfl,rfl,by simp,by simp only;omega⟩
 obtain⟨x0,x1,x2,x3,x4,x5,_⟩:=x;simp only at hx;obtain⟨e1,e2,e3,e4,g1,g2⟩:=hx;subst e1 e2 e3 e4;unfold Iu;simp only;refine AQ (AD (Q:=fun z:ByteArray×List SIGN×List SIGN×Int×Int×Int×Bool×Unit=>z.1=x0∧z.2.1=x1∧z.2.2.1=x2∧z.2.2.2.1=x3∧z.2.2.2.2.1=x4∧(z.2.2.2.2.2.2.1=true→x4<x0.size)∧(z.2.2.2.2.2.2.1=false→x4≠x3)) (AM (fun hb=>?_) fun hb=>AA ⟨rfl,rfl,rfl,rfl,rfl,fun h=>(by cases h),fun _ e=>?_⟩) fun z hz=>?_)
 ·have hlt:x4<(x0.size:Int):=by simpa using hb
  rw [Ow];refine AN ⟨by omega,hlt⟩ (AF (AA (AM (fun _=>AA ⟨rfl,rfl,rfl,rfl,rfl,fun _=>hlt,fun h e=>?_⟩) fun hb2=>AA ⟨rfl,rfl,rfl,rfl,rfl,fun h=>(by cases h),fun _ e=>?_⟩)))
  ·rw [e] at h;simp only [Int.sub_self] at h;exact absurd h (by decide)
  ·simp only at hb2;rw [e,hl] at hb2;cases hb2
 ·have:¬ x4<(x0.size:Int):=by simpa using hb
  omega
 ·obtain⟨z0,z1,z2,z3,z4,z5,z6,_⟩:=z;simp only at hz;obtain⟨e1,e2,e3,e4,e5,g3,g4⟩:=hz;subst e1 e2 e3 e4 e5;simp only;refine AM (fun hb=>?_) fun hb=>AL (AA (Ah ⟨rfl,rfl,rfl,rfl,by have:=g4 hb;simp only;omega,g2⟩))
  have:=g3 hb
  rw [Aa (x:=z4+1) (by omega) (by omega)];exact AN ⟨by omega,this⟩ (AL (AA (Aj ⟨⟨rfl,rfl,rfl,rfl,by simp only;omega,by simp only;omega⟩,by simp only;omega⟩)))
theorem bm (t:ByteArray):wp (JV t) fun r=>r.1.length≤3000:=by
 unfold JV;refine AM (fun _=>AA (by simp)) fun hb=>Ig (AF (AA ?_))
 have ht:t.size≤3000:=by
  have:¬ (3000:Int)<(t.size:Int):=by simpa using hb
  omega
 refine AD (wp_loop (fun x:Fy=>x.1=t∧x.2.1=[]∧0≤x.2.2.2.1∧x.2.2.2.1≤t.size∧(x.2.2.1.length:Int)≤x.2.2.2.1) (fun x=>t.size - x.2.2.2.1.toNat)
  (Q:=fun s:(List SIGN×Unit) ⊕ (List SIGN×Bool×Unit)=>(∀ b,s=.inl b→b.1.length≤3000)∧∀ r,s=.inr r→r.1.length≤3000) (fun x hx=>?_) ⟨rfl,rfl,by simp,by simp,by simp⟩) (fun s hs=>⟨fun b hb=>AA (hs.1 b hb),hs.2⟩)
 obtain⟨x0,x1,x2,x3,_⟩:=x;simp only at hx;obtain⟨e1,e2,g1,g2,g3⟩:=hx;subst e1 e2;unfold Lq;simp only;refine AM (fun hb=>?_) fun _=>AL (AL (AA (Ah ⟨fun b hb=>by cases hb;simp only;omega,fun r hr=>by cases hr⟩)))
 have hlt:x3<(x0.size:Int):=by simpa using hb
 refine Ig (AD (Q:=fun s:(ByteArray×List SIGN×List SIGN×Int×Unit) ⊕ (Fy ⊕ ((List SIGN×Unit) ⊕ (List SIGN×Bool×Unit)))=>(∀ b,s=.inl b→b.1=x0∧b.2.1=[]∧x3<b.2.2.2.1∧b.2.2.2.1≤x0.size∧(b.2.2.1.length:Int)≤b.2.2.2.1)∧∀ r,s=.inr r→r=.inr (.inr ([],false,()))) (AQ (AD (Q:=fun z:ByteArray×List SIGN×List SIGN×Int×Bool×Unit=>z.1=x0∧z.2.1=[]∧z.2.2.1=x2∧z.2.2.2.1=x3) (AN ⟨g1,hlt⟩ (AM (fun _=>AA ⟨rfl,rfl,rfl,rfl⟩) fun _=>AN ⟨g1,hlt⟩ (AA ⟨rfl,rfl,rfl,rfl⟩))) fun z hz=>?_)) fun s hs=>⟨fun b hb=>?_,fun r hr=>?_⟩)
 ·obtain⟨z0,z1,z2,z3,z4,_⟩:=z;simp only at hz;obtain⟨e1,e2,e3,e4⟩:=hz;subst e1 e2 e3 e4;simp only;refine AM (fun _=>?_) fun _=>AN ⟨g1,hlt⟩ ?_
  ·rw [Aa (x:=z3+1) (by omega) (by omega)];exact AL (AA (Aj ⟨rfl,rfl,by simp only;omega,by simp only;omega,by simp only;omega⟩))
  rw [Ox,Ow];refine AF (AA (AM (fun hl=>?_) fun _=>AN ⟨g1,hlt⟩ (AF (AA (AM (fun hf=>?_) fun _=>?_)))))
  ·refine AQ (AF (AA (AD (bC z0 [] z2 z3 g1 hlt ht hl) fun r hr=>?_)))
   obtain⟨r0,r1,r2,r3,r4,_⟩:=r;simp only at hr;obtain⟨e1,e2,e3,e4,g4,g5⟩:=hr;subst e1 e2 e3 e4;refine AM (fun _=>AL (AL (AL (AA (Ah rfl))))) fun _=>AN ⟨g1,by simp only;omega,g5⟩ (AN (by simp only [Cnd.holds,List.length_singleton];omega) (AL (AA (Aj ⟨rfl,rfl,g4,g5,by simp only [List.length_append,List.length_singleton];omega⟩))))
  ·refine AQ (AF (AA (AD (YN z0 [] z2 z3 g1 hlt ht hf) fun r hr=>?_)))
   obtain⟨r0,r1,r2,r3,r4,r5,_⟩:=r;simp only at hr;obtain⟨e1,e2,e3,e4,g4,g5⟩:=hr;subst e1 e2 e3 e4;simp only;refine AQ (AD (Q:=fun u:ByteArray×List SIGN×List SIGN×Int×Int×Bool×Unit=>u.1=r0∧u.2.1=[]∧u.2.2.1=r2∧u.2.2.2.1=r4) (AM (fun _=>AA ⟨rfl,rfl,rfl,rfl⟩) fun _=>AA ⟨rfl,rfl,rfl,rfl⟩) fun u hu=>?_)
   obtain⟨u0,u1,u2,u3,u4,u5,_⟩:=u;simp only at hu;obtain⟨e1,e2,e3,e4⟩:=hu;subst e1 e2 e3 e4;refine AM (fun _=>AL (AL (AL (AA (Ah rfl))))) fun _=>AN (by simp only [Cnd.holds,List.length_singleton];omega) (AL (AA (Aj ⟨rfl,rfl,g4,g5,by simp only [List.length_append,List.length_singleton];omega⟩)))
  ·refine AF (AD (dG z0 z3 g1 (by omega) ht) fun y hy=>AM (fun _=>AL (AL (AL (AA (Ah rfl))))) fun hn=>?_)
   have hne:y.1≠(⟨#[]⟩:ByteArray):=by simpa using hn
   rcases hy with hy | ⟨hy1,hy2⟩
   ·exact absurd hy hne
   rw [Aa (x:=z3+(y.1.size:Int)) (by omega) (by omega)];exact AN (by simp only [Cnd.holds,List.length_singleton];omega) (AL (AA (Aj ⟨rfl,rfl,by simp only;omega,by simp only;omega,by simp only [List.length_append,List.length_singleton];omega⟩)))
 ·have:=hs.1 b hb
  obtain⟨b0,b1,b2,b3,_⟩:=b;simp only at this;obtain⟨e1,e2,k1,k2,k3⟩:=this;subst e1 e2;exact AL (AA (Aj ⟨⟨rfl,rfl,by simp only;omega,k2,k3⟩,by simp only;omega⟩))
 ·rw [hs.2 r hr];exact Ah ⟨fun b hb=>(by cases hb),fun r hr=>(by cases hr;simp)⟩
set_option maxRecDepth 100000
abbrev NODE:=Int×(Int×(ByteArray×List Int))
abbrev FN:=ByteArray×(List (ByteArray×Int)×(Int×(Int×Int)))
abbrev PROG:=List NODE×List FN
abbrev zN:NODE:=((0:Int),((0:Int),((⟨#[]⟩:ByteArray),[])))
structure FineN (l:List NODE):Prop where
 len:l.length≤1048576
 kid:∀ x∈l,(x:NODE).2.2.2.length≤1048576
theorem Oq {n:Nat} (h:n≤1048576):IntKind.wrap .i64 ((n:Int) - 1)=(n:Int) - 1:=Aa (by omega) (by omega)
def kr (k:Int):Int×Int:=if k=8∨k=13∨k=14∨k=15∨k=18∨k=19 then (1,1) else if k=9∨k=10∨k=11∨k=17 then (2,2) else if k=12 then (0,3) else if k=16 then (3,3) else if k=20 then (0,12) else (0,0)
theorem jY (k:Int):JY k=some ((kr k).1,(kr k).2,()):=by
 unfold JY kr
 by_cases h8:k=8
 ·subst h8;rfl
 by_cases h13:k=13
 ·subst h13;rfl
 by_cases h14:k=14
 ·subst h14;rfl
 by_cases h15:k=15
 ·subst h15;rfl
 by_cases h18:k=18
 ·subst h18;rfl
 by_cases h19:k=19
 ·subst h19;rfl
 by_cases h9:k=9
 ·subst h9;rfl
 by_cases h10:k=10
 ·subst h10;rfl
 by_cases h11:k=11
 ·subst h11;rfl
 by_cases h17:k=17
 ·subst h17;rfl
 by_cases h12:k=12
 ·subst h12;rfl
 by_cases h16:k=16
 ·subst h16;rfl
 by_cases h20:k=20
 ·subst h20;rfl
 simp only [h8,h13,h14,h15,h18,h19,h9,h10,h11,h17,h12,h16,h20,decide_false,cond_false,AB,or_self,if_false]
def MK (k:Int):Bool:=decide (2≤k∧k≤6) || decide (12≤k∧k≤15)
theorem ii (k:Int):II k=some (MK k,()):=by
 unfold II
 by_cases h2:k=2
 ·subst h2;rfl
 by_cases h3:k=3
 ·subst h3;rfl
 by_cases h4:k=4
 ·subst h4;rfl
 by_cases h5:k=5
 ·subst h5;rfl
 by_cases h6:k=6
 ·subst h6;rfl
 by_cases h12:k=12
 ·subst h12;rfl
 by_cases h13:k=13
 ·subst h13;rfl
 by_cases h14:k=14
 ·subst h14;rfl
 by_cases h15:k=15
 ·subst h15;rfl
 simp only [h2,h3,h4,h5,h6,h12,h13,h14,h15,decide_false,cond_false,AB,MK];rw [decide_eq_false (by omega),decide_eq_false (by omega)];rfl
def KZ (k i j:Int):Bool:=bif decide (k=20) then decide (13≤j∧j≤19) else bif (decide (k=16) || decide (k=17)) && decide (0<i) then decide (j=20) else bif decide (k=19) then decide (j=12) else decide (1≤j∧j≤12)
theorem jV (k i j:Int):JX k i j=some (KZ k i j,()):=by
 simp only [JX,Hp,GP,sIn,Option.bind_some,KZ];cases decide (k=20)
 ·simp only [cond_false]
  by_cases h16:k=16
  ·subst h16;simp only [decide_true,cond_true,AB,Bool.true_or,Bool.true_and];cases decide (0<i)<;>rfl
  ·by_cases h17:k=17
   ·subst h17;simp only [show ¬ ((17:Int)=16) by decide,decide_true,decide_false,cond_true,cond_false,AB,Bool.or_true,Bool.true_and];cases decide (0<i)<;>rfl
   ·simp only [h16,h17,decide_false,cond_false,AB,Bool.or_self,Bool.false_and];cases decide (k=19)<;>rfl
 ·rfl
def UL (l:List Int) (n:Int):Bool:=l.any fun y=>decide (y=n)
def On (l:List NODE) (k:Int) (x:NODE) (i:Nat):Bool:=decide (0≤x.2.2.2.getD i 0∧x.2.2.2.getD i 0≤k - 1) && (KZ x.1 (i:Int) (rd l (x.2.2.2.getD i 0) zN).1 && !UL (x.2.2.2.take i) (x.2.2.2.getD i 0))
def OS (l:List NODE) (k:Int) (x:NODE):Bool:=(List.range x.2.2.2.length).all (On l k x)
def HG (l:List NODE) (k:Int) (x:NODE):Bool:=decide (1≤x.1∧x.1≤20) && (decide ((kr x.1).1≤(x.2.2.2.length:Int)∧(x.2.2.2.length:Int)≤(kr x.1).2) && ((bif decide (x.1=1) then decide (0≤x.2.1∧x.2.1≤1000000000) else decide (x.2.1=0)) && ((bif MK x.1 then Bj x.2.2.1 else decide (x.2.2.1=(⟨#[]⟩:ByteArray))) && OS l k x)))
def Bl (l:List NODE) (k:Int):Bool:=decide (0≤k∧k≤(l.length:Int) - 1) && HG l k (rd l k zN)
theorem Ci {α:Type} {n:Int} {m:Nat} {K:Option α} (h:0≤n∧n<(m:Int)):(Cnd.idx n m).run K=K:=by
 simp only [Cnd.run];rw [if_pos h]
theorem au (l:List NODE) (k:Int) (x:NODE) (i:Nat) (hi:i<x.2.2.2.length) (hx:x.2.2.2.length≤1048576):
 AH FK (l,k,(i:Int),(0:Int),x,())=some (bif UL (x.2.2.2.take i) (x.2.2.2.getD i 0) then .inr (.inr (.inr (.inr (false,())))) else .inl (l,k,(i:Int),x,())):=by
 have hlen:(x.2.2.2.take i).length=i:=by rw [List.length_take];omega
 have h:=Il (step:=FK) (x.2.2.2.take i) (fun y=>decide (y=x.2.2.2.getD i 0)) (fun j=>(l,k,(i:Int),(j:Int),x,())) (.inr (.inr (.inr (.inr (false,()))))) (.inl (l,k,(i:Int),x,())) (fun j hj=>by
  have hj':j<i:=by omega
  have hjl:j<x.2.2.2.length:=by omega
  have hg:x.2.2.2.getD i 0=x.2.2.2[i]:=by simp [hi]
  have e:decide (x.2.2.2[i]=x.2.2.2[j])=decide (x.2.2.2[j]=x.2.2.2[i]):=by
   by_cases h:x.2.2.2[i]=x.2.2.2[j]
   ·rw [decide_eq_true h,decide_eq_true h.symm]
   ·rw [decide_eq_false h,decide_eq_false (fun h'=>h h'.symm)]
  simp only [FK,BC hj',decide_true,cond_true,Ab hi,Ab hjl,Ag hi,Ag hjl,Al (show j<9223372036854775807 by omega),hg,e,List.getElem_take];cases decide (x.2.2.2[j]=x.2.2.2[i])<;>rfl) (by
  rw [hlen];simp only [FK,Ae,decide_false,cond_false,Option.map_some])
 exact h
theorem XQ (l:List NODE) (k:Nat) (hk:k<l.length) (hl:FineN l) (x:NODE) (hx:x.2.2.2.length≤1048576):
 AH FU (l,(k:Int),(0:Int),x,())=some (bif OS l k x then .inl () else .inr (false,())):=by
 have hlen:=hl.len
 have h:=CF (step:=FU) (List.range x.2.2.2.length) (On l k x) (fun i=>(l,(k:Int),(i:Int),x,())) (.inl ()) (.inr (false,())) (fun i hi=>by
  have hi':i<x.2.2.2.length:=by simpa using hi
  have wi:=Al (show i<9223372036854775807 by omega)
  have hg:x.2.2.2.getD i 0=x.2.2.2[i]:=by simp [hi']
  have wk:IntKind.wrap .i64 ((k:Int) - 1)=(k:Int) - 1:=Aa (by omega) (by omega)
  have hd:=au l (k:Int) x i hi' hx
  rw [hg] at hd;simp only [FU,BC hi',decide_true,cond_true,Ab hi',Ag hi',sIn,Option.bind_some,wk,List.getElem_range,On,hg];generalize x.2.2.2[i]=kid at hd ⊢
  by_cases hr:0≤kid∧kid≤(k:Int) - 1
  ·simp only [hr,and_self,decide_true,Bool.not_true,cond_false,Option.bind_some,Bool.true_and,Ci (show 0≤kid∧kid<(l.length:Int) by omega),jV];cases KZ x.1 (i:Int) (rd l kid zN).1
   ·simp only [Bool.not_false,AB,cond_true,Option.map_some,Bh,Bool.false_and,cond_false]
   ·simp only [Bool.not_true,AB,cond_false,hd,Bool.true_and];cases UL (x.2.2.2.take i) kid<;>simp only [cond_true,cond_false,Bd,Bh,Bool.not_true,Bool.not_false,Option.map_some,wi]
  ·simp only [hr,decide_false,Bool.not_false,cond_true,AB,Bool.false_and,cond_false,Option.map_some,Bh]) (by
  rw [List.length_range];simp only [FU,Ae,decide_false,cond_false,Option.map_some])
 exact h
theorem dI {s:ByteArray} (h:Bj s=true):s≠(⟨#[]⟩:ByteArray):=by
 rintro rfl
 simp only [Bj,Bool.and_eq_true,decide_eq_true_eq] at h;have:=h.1.1.1.1
 have e:(⟨#[]⟩:ByteArray).size=0:=rfl
 omega
theorem Rv (l:List NODE) (hl:FineN l) (k:Int):KB l k=some (Bl l k,()):=by
 unfold KB Bl;simp only [Oq hl.len,sIn,Option.bind_some]
 by_cases hr:0≤k∧k≤(l.length:Int) - 1
 case neg=>simp only [hr,decide_false,Bool.not_false,cond_true,AB,Bool.false_and]
 obtain⟨k,rfl⟩:∃ n:Nat,k=(n:Int):=⟨k.toNat,by omega⟩
 have hk:k<l.length:=by omega
 simp only [hr,and_self,decide_true,Bool.not_true,cond_false,Ab hk,Bool.true_and,Ag hk,HG,AB];have hx:=hl.kid _ (List.getElem_mem hk)
 have hloop:=XQ l k hk hl l[k] hx
 generalize l[k]=x at hx hloop ⊢;cases decide (1≤x.1∧x.1≤20)
 ·simp only [Bool.not_false,cond_true,Bool.false_and]
 simp only [Bool.not_true,cond_false,Bool.true_and,Ab hk,jY,Option.bind_some,sIn];have eN:(bif !decide ((kr x.1).1≤(x.2.2.2.length:Int)∧(x.2.2.2.length:Int)≤(kr x.1).2) then some (l,(k:Int),true,x,()) else bif !decide (0≤x.2.1∧x.2.1≤1000000000) then some (l,(k:Int),true,x,()) else bif decide (x.1≠1) then some (l,(k:Int),decide (x.2.1≠0),x,()) else some (l,(k:Int),false,x,())) =
  some (l,(k:Int),!(decide ((kr x.1).1≤(x.2.2.2.length:Int)∧(x.2.2.2.length:Int)≤(kr x.1).2) && (bif decide (x.1=1) then decide (0≤x.2.1∧x.2.1≤1000000000) else decide (x.2.1=0))),x,()):=by
  cases decide ((kr x.1).1≤(x.2.2.2.length:Int)∧(x.2.2.2.length:Int)≤(kr x.1).2)
  ·rfl
  by_cases e:x.1=1
  ·simp only [e,decide_true,cond_true,ne_eq,not_true_eq_false,decide_false,cond_false,Bool.not_true,Bool.true_and];cases decide (0≤x.2.1∧x.2.1≤1000000000)<;>rfl
  ·by_cases e2:x.2.1=0
   ·simp [e,e2]
   ·by_cases e3:0≤x.2.1∧x.2.1≤1000000000<;>simp [e,e2,e3]
 rw [eN,AB];cases decide ((kr x.1).1≤(x.2.2.2.length:Int)∧(x.2.2.2.length:Int)≤(kr x.1).2)
 ·simp only [Bool.false_and,Bool.not_false,cond_true]
 simp only [Bool.true_and];cases (bif decide (x.1=1) then decide (0≤x.2.1∧x.2.1≤1000000000) else decide (x.2.1=0))
 ·simp only [Bool.not_false,cond_true,Bool.false_and]
 simp only [Bool.not_true,cond_false,Bool.true_and,ii,Cw,Option.bind_some];have eM:(bif !(MK x.1 == decide (x.2.2.1≠(⟨#[]⟩:ByteArray))) then some (l,(k:Int),true,x,()) else bif decide (x.2.2.1≠(⟨#[]⟩:ByteArray)) then some (l,(k:Int),!Bj x.2.2.1,x,()) else some (l,(k:Int),false,x,())) =
  some (l,(k:Int),!(bif MK x.1 then Bj x.2.2.1 else decide (x.2.2.1=(⟨#[]⟩:ByteArray))),x,()):=by
  by_cases e:x.2.2.1=(⟨#[]⟩:ByteArray)
  ·have hn:Bj x.2.2.1=false:=by
    cases h:Bj x.2.2.1
    ·rfl
    ·exact absurd e (dI h)
   rw [hn];cases MK x.1<;>simp [e]
  ·cases MK x.1<;>simp [e]
 rw [eM,AB];cases (bif MK x.1 then Bj x.2.2.1 else decide (x.2.2.1=(⟨#[]⟩:ByteArray)))
 ·simp only [Bool.not_false,cond_true,Bool.false_and]
 simp only [Bool.not_true,cond_false,Bool.true_and,hloop];cases OS l k x<;>rfl
set_option maxRecDepth 100000
abbrev RD:=List SIGN×(Int×(Bool×(Int×List NODE)))
structure ROk (L:List SIGN) (r:RD):Prop where
 l:r.1=L
 a0:0≤r.2.1
 a1:r.2.1≤L.length
 n:r.2.2.2.2.length≤300
 k:∀ x∈r.2.2.2.2,(x:NODE).2.2.2.length≤100000
structure Mv (L:List SIGN) (r r':RD):Prop where
 ok:ROk L r'
 le:r.2.1≤r'.2.1
 bd:r.2.2.1=true→r'.2.2.1=true
structure Pg (L:List SIGN) (r r':RD):Prop extends Mv L r r' where
 pg:r'.2.2.1=true∨r.2.1<r'.2.1
theorem Mv.rfl' {L:List SIGN} {r:RD} (h:ROk L r):Mv L r r:=⟨h,Int.le_refl _,fun e=>e⟩
theorem Mv.trans {L:List SIGN} {a b c:RD} (h:Mv L a b) (h':Mv L b c):Mv L a c:=⟨h'.ok,Int.le_trans h.le h'.le,fun e=>h'.bd (h.bd e)⟩
theorem Mv.pg {L:List SIGN} {a b c:RD} (h:Mv L a b) (h':Pg L b c):Pg L a c:=⟨h.trans h'.toMv,h'.pg.imp id fun e=>by have:=h.le;omega⟩
theorem Pg.mv {L:List SIGN} {a b c:RD} (h:Pg L a b) (h':Mv L b c):Pg L a c:=⟨h.toMv.trans h',h.pg.imp h'.bd fun e=>by have:=h'.le;omega⟩
theorem Mv.deep {L:List SIGN} {a b:RD} (h:Mv L a b) (d:Int):Mv L a (b.1,(b.2.1,(b.2.2.1,(d,b.2.2.2.2)))):=⟨⟨h.ok.l,h.ok.a0,h.ok.a1,h.ok.n,h.ok.k⟩,h.le,h.bd⟩
theorem Pg.deep {L:List SIGN} {a b:RD} (h:Pg L a b) (d:Int):Pg L a (b.1,(b.2.1,(b.2.2.1,(d,b.2.2.2.2)))):=⟨h.toMv.deep d,h.pg⟩
theorem Mv.bad {L:List SIGN} {a b:RD} (h:Mv L a b):Pg L a (b.1,(b.2.1,(true,b.2.2.2))):=⟨⟨⟨h.ok.l,h.ok.a0,h.ok.a1,h.ok.n,h.ok.k⟩,h.le,fun _=>rfl⟩,.inl rfl⟩
theorem Mv.next {L:List SIGN} {a b:RD} (h:Mv L a b) (hlt:b.2.1<L.length):Pg L a (b.1,(b.2.1+1,b.2.2)):=⟨⟨⟨h.ok.l,by have:=h.ok.a0;simp only;omega,by simp only;omega,h.ok.n,h.ok.k⟩,by have:=h.le;simp only;omega,h.bd⟩,.inr (by have:=h.le;simp only;omega)⟩
section
variable {L:List SIGN} (hL:L.length≤3000)
include hL
theorem Xt {r:RD} (h:ROk L r):IntKind.wrap .i64 (r.2.1+1)=r.2.1+1:=Aa (by have:=h.a0;omega) (by have:=h.a1;omega)
theorem XP (r:RD) (k:Int) (s:ByteArray) (h:ROk L r):wp (DS r k s) fun y=>y.2.1=r∧(y.1=true→r.2.1<L.length):=by
 unfold DS;refine AQ (AD (Q:=fun y:Bool×RD×Unit=>y.2.1=r∧(y.1=true→r.2.1<L.length)) (AM (fun _=>AM (fun hb=>?_) fun _=>AA ⟨rfl,fun h=>by cases h⟩) fun _=>AA ⟨rfl,fun h=>by cases h⟩) fun y hy=>AA hy)
 have hlt:r.2.1<(List.length r.1:Int):=by simpa using hb
 have hlt':r.2.1<(L.length:Int):=by rw [h.l] at hlt;exact hlt
 exact AN ⟨h.a0,hlt⟩ (AM (fun _=>AN ⟨h.a0,hlt⟩ (AA ⟨rfl,fun _=>hlt'⟩)) fun _=>AA ⟨rfl,fun h=>by cases h⟩)
theorem BJ (r:RD) (k:Int) (s:ByteArray) (h:ROk L r):wp (AW r k s) fun y=>Mv L r y.2.1∧(y.1=true→Pg L r y.2.1∧r.2.1<y.2.1.2.1):=by
 unfold AW;refine AF (AD (XP hL r k s h) fun y hy=>?_)
 obtain⟨e,hlt⟩:=hy;rw [e,Xt hL h];refine AM (fun hb=>AA ?_) fun _=>AA ⟨.rfl' h,fun h=>by cases h⟩
 have:=(Mv.rfl' h).next (hlt hb)
 exact⟨this.toMv,fun _=>⟨this,by simp only;omega⟩⟩
theorem CQ (r:RD) (s:ByteArray) (h:ROk L r):wp (Aw r s) fun y=>Pg L r y.1:=by
 unfold Aw;refine AF (AD (BJ hL r 3 s h) fun y hy=>AQ (AM (fun _=>AA (AA hy.1.bad)) fun hb=>AA (AA (hy.2 ?_).1)))
 cases hy1:y.1
 ·rw [hy1] at hb;cases hb
 ·rfl
theorem GR (r:RD) (h:ROk L r):wp (BN r) fun y=>Pg L r y.2.1:=by
 unfold BN;refine AQ (AD (Q:=fun x:Bool×RD×Unit=>x.2.1=r∧(x.1=false→r.2.1<L.length)) (AM (fun _=>AA ⟨rfl,fun h=>by cases h⟩) fun _=>AM (fun _=>AA ⟨rfl,fun h=>by cases h⟩) fun hb=>?_) fun x hx=>?_)
 ·have hlt:r.2.1<(List.length r.1:Int):=by
   have:¬ (List.length r.1:Int)≤r.2.1:=by simpa using hb
   omega
  have hlt':r.2.1<(L.length:Int):=by rw [h.l] at hlt;exact hlt
  refine AN ⟨h.a0,hlt⟩ (AM (fun _=>AA ⟨rfl,fun h=>by cases h⟩) fun _=>AN ⟨h.a0,hlt⟩ ?_)
  rw [Cw];exact AF (AA (AA ⟨rfl,fun _=>hlt'⟩))
 ·obtain⟨x0,x1,_⟩:=x;simp only at hx;obtain⟨e,hlt⟩:=hx;subst e;simp only;refine AM (fun _=>AA (Mv.rfl' h).bad) fun hb=>?_
  rw [Xt hL h,show x1.2.1+1 - 1=x1.2.1 by omega,Aa (x:=x1.2.1) (by have:=h.a0;omega) (by have:=h.a1;omega)];exact AN ⟨h.a0,by rw [h.l];exact hlt hb⟩ (AA ((Mv.rfl' h).next (hlt hb)))
theorem Da (r:RD) (x:NODE) (hx:x.2.2.2.length≤100000) (h:ROk L r):wp (Ay r x) fun y=>Mv L r y.2.1:=by
 unfold Ay;refine AQ (AD (Q:=fun z:Bool×RD×NODE×Unit=>z.2.1=r∧z.2.2.1=x∧(z.1=false→r.2.2.2.2.length<300)) (AM (fun _=>AA ⟨rfl,rfl,fun h=>by cases h⟩) fun _=>AA ⟨rfl,rfl,fun hb=>?_⟩) fun z hz=>?_)
 ·have:¬ (300:Int)≤(List.length r.2.2.2.2:Int):=by simpa using hb
  omega
 ·obtain⟨z0,z1,z2,_⟩:=z;simp only at hz;obtain⟨e1,e2,hlt⟩:=hz;subst e1 e2;simp only;refine AM (fun _=>AA (Mv.rfl' h).bad.toMv) fun hb=>AN ?_ (AA ⟨⟨h.l,h.a0,h.a1,?_,fun y hy=>?_⟩,Int.le_refl _,fun e=>e⟩)
  ·have:=hlt hb
   simp only [Cnd.holds,List.length_singleton];omega
  ·have:=hlt hb
   simp only [List.length_append,List.length_singleton];omega
  ·rcases List.mem_append.1 hy with hy | hy
   ·exact h.k y hy
   ·rw [List.mem_singleton.1 hy];exact hx
theorem dB (r:RD) (h:ROk L r):wp (Ez r) fun y=>Pg L r y.2.1:=by
 unfold Ez;refine AF (AD (BJ hL r 1 _ h) fun y hy=>AM (fun _=>?_) fun _=>?_)
 ·exact AF (AD (GR hL _ hy.1.ok) fun n hn=>AF (AD (Da hL _ _ (by simp) hn.ok) fun p hp=>AA (hy.1.pg (hn.mv hp))))
 ·exact AF (AD (GR hL _ hy.1.ok) fun n hn=>AF (AD (Da hL _ _ (by simp) hn.ok) fun p hp=>AA (hy.1.pg (hn.mv hp))))
abbrev FV:=RD→Option (Int×RD×Unit)
abbrev FA:=RD→ByteArray→Option (Int×RD×Unit)
theorem Qv {r0 r0' r1 r1' r2 r2':FV} {r3 r3':FA} (r:RD) (h:ROk L r) (H1:∀ q,ROk L q→r.2.1≤q.2.1→wq (r1 q) (r1' q) fun y=>Pg L q y.2.1):wq (Dj r0 r1 r2 r3 r) (Dj r0' r1' r2' r3' r) fun y=>Pg L r y.2.1:=by
 unfold Dj;refine AK (AG (H1 r h (Int.le_refl _)) fun y1 hy1=>AK (AG (Af (BJ hL _ 3 _ hy1.ok)) fun y2 hy2=>BF (AG (Q:=fun x:Int×Int×RD×Unit=>Pg L r x.2.2.1) (Ad (fun _=>AJ (hy1.mv hy2.1)) fun _=>AK (AG (Af (BJ hL _ 3 _ hy2.1.ok)) fun y3 hy3=>BF (Ad (fun _=>AJ (AJ ((hy1.mv hy2.1).mv hy3.1))) fun _=>AJ (AJ ((hy1.mv hy2.1).mv hy3.1))))) fun x hx=>BF (AG (Q:=fun z:Int×RD×Unit=>Pg L r z.2.1) (Ad (fun _=>?_) fun _=>AJ hx) fun z hz=>AJ hz))))
 exact AK (AG (H1 _ hx.ok hx.le) fun y6 hy6=>AK (AG (Af (Da hL _ _ (by simp) hy6.ok)) fun y7 hy7=>AJ ((hx.mv hy6.toMv).mv hy7)))
theorem Uo {r0 r0' r1 r1' r2 r2':FV} {r3 r3':FA} (r:RD) (h:ROk L r) (H2:∀ q,ROk L q→r.2.1≤q.2.1→wq (r2 q) (r2' q) fun y=>Pg L q y.2.1):wq (Em r0 r1 r2 r3 r) (Em r0' r1' r2' r3' r) fun y=>Pg L r y.2.1:=by
 unfold Em;refine AK (AG (H2 r h (Int.le_refl _)) fun y1 hy1=>BF (AK (AJ (AG (Io (fun x:Fv=>Pg L r x.2.1) (fun x=>(L.length - x.2.1.2.1).toNat) (Q:=fun z:Int×RD×Unit=>Pg L r z.2.1) (fun x hx=>?_) hy1) fun z hz=>AJ hz))))
 unfold Jd;refine AK (AG (Af (BJ hL _ 3 _ hx.ok)) fun y3 hy3=>Ad (fun hb=>?_) fun _=>CA (AJ (Ah (hx.mv hy3.1))))
 have hlt:=(hy3.2 hb).2
 refine AK (AG (H2 _ hy3.1.ok (Int.le_trans hx.le hy3.1.le)) fun y4 hy4=>AK (AG (Af (Da hL _ _ (by simp) hy4.ok)) fun y5 hy5=>CA (AJ (Aj ⟨(hx.mv hy3.1).mv (hy4.toMv.trans hy5),?_⟩))))
 have h4:=hy4.le
 have h5:=hy5.le
 have h6:=hy5.ok.a1
 simp only;omega
theorem SD {r0 r0' r1 r1' r2 r2':FV} {r3 r3':FA} (r:RD) (nm:ByteArray) (h:ROk L r) (H0:∀ q,ROk L q→r.2.1≤q.2.1→wq (r0 q) (r0' q) fun y=>Pg L q y.2.1):wq (EI r0 r1 r2 r3 r nm) (EI r0' r1' r2' r3' r nm) fun y=>Mv L r y.2.1:=by
 unfold EI;refine AK (AG (Af (BJ hL _ 3 _ h)) fun y hy=>BF (AG (Q:=fun x:ByteArray×List Int×RD×Unit=>Mv L r x.2.2.1∧x.2.1.length≤100000) (Ad (fun _=>?_) fun _=>AJ ⟨hy.1,by simp⟩) fun x hx=>AK (AG (Af (Da hL _ _ hx.2 hx.1.ok)) fun p hp=>AJ (hx.1.trans hp))))
 refine BF (AK (AJ (AG (Io (fun x:FZ=>Mv L r x.2.2.1∧((x.2.1.length:Int)≤x.2.2.1.2.1∨(x.2.2.1.2.2.1=true∧(x.2.1.length:Int)≤x.2.2.1.2.1+1))) (fun x=>2 * (L.length - x.2.2.1.2.1).toNat+(bif x.2.2.1.2.2.1 then 0 else 1)) (Q:=fun x:ByteArray×List Int×RD×Unit=>Mv L r x.2.2.1∧x.2.1.length≤100000) (fun x hx=>?_) ⟨hy.1,.inl (by have:=hy.1.ok.a0;simpa using this)⟩) fun z hz=>AJ hz)))
 obtain⟨x0,x1,x2,_⟩:=x;simp only at hx;obtain⟨g1,g2⟩:=hx;have ga:=g1.ok.a1
 unfold Ir;simp only;refine Ad (fun hb=>?_) fun _=>CA (AJ (Ah ⟨g1,by simp only;omega⟩))
 have hbad:x2.2.2.1=false:=by
  cases hc:x2.2.2.1
  ·rfl
  ·rw [hc] at hb;cases hb
 have gl:(x1.length:Int)≤x2.2.1:=by
  rcases g2 with g2 | ⟨g2,_⟩
  ·exact g2
  ·rw [hbad] at g2;cases g2
 refine AK (AG (H0 _ g1.ok g1.le) fun y3 hy3=>Ar (by simp only [Cnd.holds,List.length_singleton];omega) (AK (AG (Af (BJ hL _ 3 _ hy3.ok)) fun y4 hy4=>Ad (fun _=>CA (AJ (Ah ⟨(g1.pg hy3).toMv.trans hy4.1,by simp only [List.length_append,List.length_singleton];omega⟩))) fun _=>AK (AG (Af (CQ hL _ _ hy4.1.ok)) fun y5 hy5=>CA (AJ (Aj ⟨⟨((g1.pg hy3).toMv.trans hy4.1).trans hy5.toMv,?_⟩,?_⟩))))))
 ·have h1:=(hy3.mv (hy4.1.trans hy5.toMv)).pg
  have h2:=(hy3.mv (hy4.1.trans hy5.toMv)).le
  simp only [List.length_append,List.length_singleton];rcases h1 with h1 | h1
  ·exact .inr ⟨h1,by omega⟩
  ·exact .inl (by omega)
 ·have h1:=(hy3.mv (hy4.1.trans hy5.toMv)).pg
  have h2:=(hy3.mv (hy4.1.trans hy5.toMv)).le
  have h3:=hy5.ok.a1
  simp only [hbad,cond_false];rcases h1 with h1 | h1
  ·rw [h1,cond_true];omega
  ·cases y5.1.2.2.1<;>simp only [cond_true,cond_false]<;>omega
theorem Jr {Q:Int×RD×Unit→Prop} {b:Bool} {x x' y y':Option (Int×RD×Unit)} (h1:b=true→wq x x' Q) (h2:b=false→wq y y' Q) (hQ:∀ z:Int×RD×Unit,Q z→Q (z.1,z.2.1,())):wq (AC (bif b then x else y) fun z=>some (z.1,z.2.1,())) (AC (bif b then x' else y') fun z=>some (z.1,z.2.1,())) Q:=
 BF (AG (Ad h1 h2) fun z hz=>AJ (hQ z hz))
theorem Sm {r0 r0' r1 r1' r2 r2':FV} {r3 r3':FA} (r:RD) (h:ROk L r) (H0:∀ q,ROk L q→r.2.1<q.2.1→wq (r0 q) (r0' q) fun y=>Pg L q y.2.1) (H2:∀ q,ROk L q→r.2.1<q.2.1→wq (r2 q) (r2' q) fun y=>Pg L q y.2.1)
 (H3:∀ q nm,ROk L q→r.2.1<q.2.1→wq (r3 q nm) (r3' q nm) fun y=>Mv L q y.2.1):wq (EK r0 r1 r2 r3 r) (EK r0' r1' r2' r3' r) fun y=>Pg L r y.2.1:=by
 unfold EK;refine BF (AG (Q:=fun x:Bool×RD×Unit=>x.2.1=r∧(x.1=false→r.2.1<L.length)) (Ad (fun _=>AJ ⟨rfl,fun h=>by cases h⟩) fun _=>Ad (fun _=>AJ ⟨rfl,fun h=>by cases h⟩) fun hb=>AJ ⟨rfl,fun _=>?_⟩) fun x hx=>?_)
 ·have:¬ (List.length r.1:Int)≤r.2.1:=by simpa using hb
  rw [h.l] at this;omega
 obtain⟨x0,x1,_⟩:=x;simp only at hx;obtain⟨e,hlt⟩:=hx;subst e;simp only;refine Ad (fun _=>AJ (Mv.rfl' h).bad) fun hb=>?_
 have hlt:=hlt hb
 have hi:(Cnd.idx x1.2.1 (List.length x1.1)).holds:=⟨h.a0,by rw [h.l];exact hlt⟩
 have fin:∀ z:Int×RD×Unit,Pg L x1 z.2.1→Pg L x1 ((z.1,z.2.1,()):Int×RD×Unit).2.1:=fun z hz=>hz
 refine Ar hi (BF (AG (Q:=fun z:Int×RD×Unit=>Pg L x1 z.2.1) (Ad (fun _=>?_) fun _=>?_) fun z hz=>AJ (hz.deep _)))
 ·rw [Xt hL h,show x1.2.1+1 - 1=x1.2.1 by omega,Aa (x:=x1.2.1) (by have:=h.a0;omega) (by have:=h.a1;omega)];have hn:=((Mv.rfl' h).next hlt).deep (IntKind.wrap .i64 (x1.2.2.2.1+1))
  exact Ar hi (AK (AG (Af (Da hL _ _ (by simp) hn.ok)) fun y hy=>AJ (hn.mv hy)))
 have m0:=(Mv.rfl' h).deep (IntKind.wrap .i64 (x1.2.2.2.1+1))
 have nx:∀ {a b:RD},Mv L x1 a→a.2.1<b.2.1→x1.2.1<b.2.1:=fun h1 h2=>by have:=h1.le;omega
 refine AK (AG (Af (BJ hL _ 3 _ m0.ok)) fun y3 hy3=>Jr hL (fun hb=>?_) (fun _=>?_) fin)
 ·have p:=m0.pg (hy3.2 hb).1
  exact AK (AG (Af (GR hL _ p.ok)) fun n hn=>AK (AG (Af (Da hL _ _ (by simp) hn.ok)) fun q hq=>AJ ((p.mv hn.toMv).mv hq)))
 have m1:=m0.trans hy3.1
 refine AK (AG (Af (BJ hL _ 3 _ m1.ok)) fun y6 hy6=>Jr hL (fun hb=>?_) (fun _=>?_) fin)
 ·have p:=m1.pg (hy6.2 hb).1
  exact AK (AG (Af (dB hL _ p.ok)) fun q hq=>AJ (p.mv hq.toMv))
 have m2:=m1.trans hy6.1
 refine AK (AG (Af (BJ hL _ 3 _ m2.ok)) fun y8 hy8=>Jr hL (fun hb=>?_) (fun _=>?_) fin)
 ·have p:=m2.pg (hy8.2 hb).1
  exact AK (AG (H0 _ p.ok (nx m2 (hy8.2 hb).2)) fun v hv=>AK (AG (Af (CQ hL _ _ hv.ok)) fun q hq=>AJ ((p.mv hv.toMv).mv hq.toMv)))
 have m3:=m2.trans hy8.1
 refine AK (AG (Af (BJ hL _ 1 _ m3.ok)) fun y11 hy11=>Jr hL (fun hb=>?_) (fun _=>?_) fin)
 ·have p:=m3.pg (hy11.2 hb).1
  exact AK (AG (Af (GR hL _ p.ok)) fun n hn=>AK (AG (Af (Da hL _ _ (by simp) hn.ok)) fun q hq=>AJ ((p.mv hn.toMv).mv hq)))
 have m4:=m3.trans hy11.1
 refine AK (AG (Af (BJ hL _ 1 _ m4.ok)) fun y14 hy14=>Jr hL (fun hb=>?_) (fun _=>?_) fin)
 ·have p:=m4.pg (hy14.2 hb).1
  exact AK (AG (Af (Da hL _ _ (by simp) p.ok)) fun q hq=>AJ (p.mv hq))
 have m5:=m4.trans hy14.1
 refine AK (AG (Af (BJ hL _ 1 _ m5.ok)) fun y16 hy16=>Jr hL (fun hb=>?_) (fun _=>?_) fin)
 ·have p:=m5.pg (hy16.2 hb).1
  exact AK (AG (H2 _ p.ok (nx m5 (hy16.2 hb).2)) fun v hv=>AK (AG (Af (Da hL _ _ (by simp) hv.ok)) fun q hq=>AJ ((p.mv hv.toMv).mv hq)))
 have m6:=m5.trans hy16.1
 refine AK (AG (Af (GR hL _ m6.ok)) fun n hn=>AK (AG (Af (BJ hL _ 3 _ hn.ok)) fun y20 hy20=>Jr hL (fun hb=>?_) (fun _=>?_) fin))
 ·have p:=(m6.pg hn).mv hy20.1
  exact AK (AG (H3 _ _ p.ok (nx (m6.trans hn.toMv) (hy20.2 hb).2)) fun q hq=>AJ (p.mv hq))
 ·have p:=(m6.pg hn).mv hy20.1
  exact AK (AG (Af (Da hL _ _ (by simp) p.ok)) fun q hq=>AJ (p.mv hq))
theorem df:∀ k:Nat,(∀ n n',4 * k+2≤n→4 * k+2≤n'→∀ r,ROk L r→L.length - r.2.1≤k→wq ((AE n).2.2.1 r) ((AE n').2.2.1 r) fun y=>Pg L r y.2.1) ∧
 (∀ n n',4 * k+3≤n→4 * k+3≤n'→∀ r,ROk L r→L.length - r.2.1≤k→wq ((AE n).2.1 r) ((AE n').2.1 r) fun y=>Pg L r y.2.1) ∧
 (∀ n n',4 * k+4≤n→4 * k+4≤n'→∀ r,ROk L r→L.length - r.2.1≤k→wq ((AE n).1 r) ((AE n').1 r) fun y=>Pg L r y.2.1) ∧
 (∀ n n',4 * k+5≤n→4 * k+5≤n'→∀ r nm,ROk L r→L.length - r.2.1≤k→wq ((AE n).2.2.2.1 r nm) ((AE n').2.2.2.1 r nm) fun y=>Mv L r y.2.1):=by
 intro k
 induction k with
 | zero=>
  have hT:∀ n n',4 * 0+2≤n→4 * 0+2≤n'→∀ r,ROk L r→L.length - r.2.1≤(0:Nat)→wq ((AE n).2.2.1 r) ((AE n').2.2.1 r) fun y=>Pg L r y.2.1:=by
   intro n n' hn hn' r h hk;obtain⟨n,rfl⟩:∃ j,n=j+1:=⟨n - 1,by omega⟩
   obtain⟨n',rfl⟩:∃ j,n'=j+1:=⟨n' - 1,by omega⟩
   exact Sm hL (r1:=(AE n).2.1) (r1':=(AE n').2.1) r h (fun q hq hlt=>by have:=hq.a1;omega) (fun q hq hlt=>by have:=hq.a1;omega) (fun q nm hq hlt=>by have:=hq.a1;omega)
  have hS:∀ n n',4 * 0+3≤n→4 * 0+3≤n'→∀ r,ROk L r→L.length - r.2.1≤(0:Nat)→wq ((AE n).2.1 r) ((AE n').2.1 r) fun y=>Pg L r y.2.1:=by
   intro n n' hn hn' r h hk;obtain⟨n,rfl⟩:∃ j,n=j+1:=⟨n - 1,by omega⟩
   obtain⟨n',rfl⟩:∃ j,n'=j+1:=⟨n' - 1,by omega⟩
   exact Uo hL (r0:=(AE n).1) (r0':=(AE n').1) (r1:=(AE n).2.1) (r1':=(AE n').2.1) (r3:=(AE n).2.2.2.1) (r3':=(AE n').2.2.2.1) r h (fun q hq hle=>hT n n' (by omega) (by omega) q hq (by omega))
  have hV:∀ n n',4 * 0+4≤n→4 * 0+4≤n'→∀ r,ROk L r→L.length - r.2.1≤(0:Nat)→wq ((AE n).1 r) ((AE n').1 r) fun y=>Pg L r y.2.1:=by
   intro n n' hn hn' r h hk;obtain⟨n,rfl⟩:∃ j,n=j+1:=⟨n - 1,by omega⟩
   obtain⟨n',rfl⟩:∃ j,n'=j+1:=⟨n' - 1,by omega⟩
   exact Qv hL (r0:=(AE n).1) (r0':=(AE n').1) (r2:=(AE n).2.2.1) (r2':=(AE n').2.2.1) (r3:=(AE n).2.2.2.1) (r3':=(AE n').2.2.2.1) r h (fun q hq hle=>hS n n' (by omega) (by omega) q hq (by omega))
  refine⟨hT,hS,hV,fun n n' hn hn' r nm h hk=>?_⟩
  obtain⟨n,rfl⟩:∃ j,n=j+1:=⟨n - 1,by omega⟩
  obtain⟨n',rfl⟩:∃ j,n'=j+1:=⟨n' - 1,by omega⟩
  exact SD hL (r1:=(AE n).2.1) (r1':=(AE n').2.1) (r2:=(AE n).2.2.1) (r2':=(AE n').2.2.1) (r3:=(AE n).2.2.2.1) (r3':=(AE n').2.2.2.1) r nm h (fun q hq hle=>hV n n' (by omega) (by omega) q hq (by omega))
 | succ k ih=>
  obtain⟨iT,iS,iV,iA⟩:=ih;have hT:∀ n n',4 * (k+1)+2≤n→4 * (k+1)+2≤n'→∀ r,ROk L r→L.length - r.2.1≤(k+1:Nat)→wq ((AE n).2.2.1 r) ((AE n').2.2.1 r) fun y=>Pg L r y.2.1:=by
   intro n n' hn hn' r h hk;obtain⟨n,rfl⟩:∃ j,n=j+1:=⟨n - 1,by omega⟩
   obtain⟨n',rfl⟩:∃ j,n'=j+1:=⟨n' - 1,by omega⟩
   exact Sm hL (r1:=(AE n).2.1) (r1':=(AE n').2.1) r h (fun q hq hlt=>iV n n' (by omega) (by omega) q hq (by omega)) (fun q hq hlt=>iT n n' (by omega) (by omega) q hq (by omega)) (fun q nm hq hlt=>iA n n' (by omega) (by omega) q nm hq (by omega))
  have hS:∀ n n',4 * (k+1)+3≤n→4 * (k+1)+3≤n'→∀ r,ROk L r→L.length - r.2.1≤(k+1:Nat)→wq ((AE n).2.1 r) ((AE n').2.1 r) fun y=>Pg L r y.2.1:=by
   intro n n' hn hn' r h hk;obtain⟨n,rfl⟩:∃ j,n=j+1:=⟨n - 1,by omega⟩
   obtain⟨n',rfl⟩:∃ j,n'=j+1:=⟨n' - 1,by omega⟩
   exact Uo hL (r0:=(AE n).1) (r0':=(AE n').1) (r1:=(AE n).2.1) (r1':=(AE n').2.1) (r3:=(AE n).2.2.2.1) (r3':=(AE n').2.2.2.1) r h (fun q hq hle=>hT n n' (by omega) (by omega) q hq (by omega))
  have hV:∀ n n',4 * (k+1)+4≤n→4 * (k+1)+4≤n'→∀ r,ROk L r→L.length - r.2.1≤(k+1:Nat)→wq ((AE n).1 r) ((AE n').1 r) fun y=>Pg L r y.2.1:=by
   intro n n' hn hn' r h hk;obtain⟨n,rfl⟩:∃ j,n=j+1:=⟨n - 1,by omega⟩
   obtain⟨n',rfl⟩:∃ j,n'=j+1:=⟨n' - 1,by omega⟩
   exact Qv hL (r0:=(AE n).1) (r0':=(AE n').1) (r2:=(AE n).2.2.1) (r2':=(AE n').2.2.1) (r3:=(AE n).2.2.2.1) (r3':=(AE n').2.2.2.1) r h (fun q hq hle=>hS n n' (by omega) (by omega) q hq (by omega))
  refine⟨hT,hS,hV,fun n n' hn hn' r nm h hk=>?_⟩
  obtain⟨n,rfl⟩:∃ j,n=j+1:=⟨n - 1,by omega⟩
  obtain⟨n',rfl⟩:∃ j,n'=j+1:=⟨n' - 1,by omega⟩
  exact SD hL (r1:=(AE n).2.1) (r1':=(AE n').2.1) (r2:=(AE n).2.2.1) (r2':=(AE n').2.2.1) (r3:=(AE n).2.2.2.1) (r3':=(AE n').2.2.2.1) r nm h (fun q hq hle=>hV n n' (by omega) (by omega) q hq (by omega))
theorem MS (r:RD) (h:ROk L r):wp (Bz r) fun y=>Pg L r y.2.1:=by
 unfold Bz;exact KY (4 * 3000+4) fun n hn=>(df hL 3000).2.2.1 n _ hn (Nat.le_refl _) r h (by have:=h.a0;omega)
end
def dd (u:Nat):ByteArray:=if u=0 then ⟨#[]⟩ else ⟨(Lib.decDigits u).toArray⟩
theorem SG (a b:List UInt8):(⟨a.toArray⟩:ByteArray)++⟨b.toArray⟩=⟨(a++b).toArray⟩:=by
 apply ByteArray.ext
 simp
theorem YG {d:Nat} (h:d<10):bts [((48+d:Nat):Int)]=⟨[UInt8.ofNat (48+d)].toArray⟩:=rfl
theorem ce {u:Nat} (h:u≠0):dd u=dd (u / 10)++bts [((48+u % 10:Nat):Int)]:=by
 rw [YG (Nat.mod_lt _ (by omega))];unfold dd;rw [if_neg h,Lib.decDigits];split
 ·rename_i h10;rw [if_pos (by omega),Nat.mod_eq_of_lt h10];apply ByteArray.ext;simp
 ·rename_i h10;rw [if_neg (by omega),SG]
theorem dh {n:Nat} (h:n<256):IntKind.wrap .u8 (n:Int)=n:=by
 have e:(2:Int) ^ IntKind.u8.bits=256:=by decide
 simp only [IntKind.wrap,e,show IntKind.u8.signed=false from rfl,Bool.false_and,Bool.false_eq_true,if_false];omega
theorem OK {d:Nat} (h:d<10):HU (d:Int)=some (((48+d:Nat):Int),()):=by
 have e:(48:Int)+(d:Int)=((48+d:Nat):Int):=by omega
 simp only [HU,show((d:Int)<10) by omega,decide_true,cond_true,e,WE (show 48+d<9223372036854775808 by omega),dh (show 48+d<256 by omega)]
theorem Vb (x:Int):(bts [x]).size=1:=rfl
theorem ia {α:Type} {K:Option α}:(Cnd.nz (10:Int)).run K=K:=by
 simp only [Cnd.run];rw [if_neg (by decide)]
theorem al (neg:Bool):∀ (k:Nat) (n:Int) (out:ByteArray),n.natAbs<10 ^ k→-9223372036854775808≤n→n≤9223372036854775807→out.size+k≤1000→AH DN (n,neg,out,())=some (neg,dd n.natAbs++out,()):=by
 intro k
 induction k with
 | zero=>
  intro n out hn _ _ _;have h0:n=0:=by simp at hn;omega
  subst h0;rw [BO (r:=(neg,out,()))]
  ·have:dd (Int.natAbs 0)++out=out:=by
    apply ByteArray.ext;simp [dd]
   rw [this]
  ·simp [DN]
 | succ k ih=>
  intro n out hn h1 h2 hs
  by_cases h0:n=0
  ·subst h0;rw [BO (r:=(neg,out,()))]
   ·have:dd (Int.natAbs 0)++out=out:=by
     apply ByteArray.ext;simp [dd]
    rw [this]
   ·simp [DN]
  ·have hm:n.natAbs % 10<10:=Nat.mod_lt _ (by omega)
   have hq:(Int.tdiv n 10).natAbs=n.natAbs / 10:=by rw [Int.natAbs_tdiv];rfl
   have hqb:-9223372036854775808≤Int.tdiv n 10∧Int.tdiv n 10≤9223372036854775807:=by
    have:(Int.tdiv n 10).natAbs≤922337203685477580:=by rw [hq];omega
    omega
   have hw:IntKind.wrap .i64 (Int.tdiv n 10)=Int.tdiv n 10:=Aa hqb.1 (by omega)
   rw [Br (b':=(Int.tdiv n 10,neg,bts [((48+n.natAbs % 10:Nat):Int)]++out,())),ih _ _ (by rw [hq];rw [Nat.pow_succ] at hn;omega) hqb.1 hqb.2 (by rw [ByteArray.size_append,Vb];omega),hq,ce (u:=n.natAbs) (by omega),ByteArray.append_assoc];have hmod:(if Int.tmod n 10<0 then - Int.tmod n 10 else Int.tmod n 10)=((n.natAbs % 10:Nat):Int):=by
    have h3:(Int.tmod n 10).natAbs=n.natAbs % 10:=by rw [Int.natAbs_tmod];rfl
    split<;>omega
   have hle:∀ {α:Type} {K:Option α},(Cnd.le ((bts [((48+n.natAbs % 10:Nat):Int)]).size+out.size) Ai).run K=K:=fun {α} {K}=>Bp (by rw [Vb];simp only [Ai];omega)
   by_cases hneg:Int.tmod n 10<0
   ·rw [if_pos hneg] at hmod;have hw2:IntKind.wrap .i64 (0 - Int.tmod n 10)=((n.natAbs % 10:Nat):Int):=by
     rw [show(0:Int) - Int.tmod n 10=((n.natAbs % 10:Nat):Int) by omega];exact WE (by omega)
    simp only [DN,ne_eq,h0,not_false_eq_true,decide_true,cond_true,ia,hneg,hw2,AB,OK hm,Option.bind_some,hle,hw,Option.map_some]
   ·rw [if_neg hneg] at hmod;simp only [DN,ne_eq,h0,not_false_eq_true,decide_true,cond_true,ia,hmod,show ¬ (((n.natAbs % 10:Nat):Int)<0) by omega,decide_false,cond_false,AB,OK hm,Option.bind_some,hle,hw,Option.map_some]
def itb (n:Int):ByteArray:=⟨(Lib.itoa n).toArray⟩
theorem bH {n:Int} (h0:-9223372036854775808≤n) (h1:n≤9223372036854775807):(itb n).size≤21:=by
 have:=Lib.itoa_length_le n h0 h1
 simpa [itb,ByteArray.size] using this
theorem Qn (n:Int) (h0:-9223372036854775808≤n) (h1:n≤9223372036854775807):JT n=some (itb n,()):=by
 simp only [JT,itb]
 by_cases hz:n=0
 ·subst hz;simp only [decide_true,cond_true];have:Lib.itoa 0=[48]:=by
   unfold Lib.itoa;rw [if_neg (by omega)];exact Lib.decDigits_one (by omega)
  rw [this];rfl
 ·have h3:=al (decide (n<0)) 20 n ⟨#[]⟩ (by
   have:(10:Nat) ^ 20=100000000000000000000:=by decide
   omega) h0 h1 (by decide)
  have h4:dd n.natAbs++⟨#[]⟩=(⟨(Lib.decDigits n.natAbs).toArray⟩:ByteArray):=by
   unfold dd;rw [if_neg (by omega)];apply ByteArray.ext;simp
  rw [h4] at h3;have hsz:(⟨(Lib.decDigits n.natAbs).toArray⟩:ByteArray).size≤21:=by
   have:=Lib.itoa_length_le n h0 h1
   unfold Lib.itoa at this;simp only [ByteArray.size,List.size_toArray];split at this
   ·simp at this;omega
   ·rename_i hn;rw [show n.natAbs=n.toNat by omega];omega
  simp only [hz,decide_false,cond_false,Option.bind_some,h3,AB,Lib.itoa]
  by_cases hn:n<0
  ·have e1:s___3973.size=1:=rfl
   simp only [hn,decide_true,cond_true,if_true];rw [Bp (by simp only [Ai];omega)];have e2:s___3973=⟨[(45:UInt8)].toArray⟩:=rfl
   rw [e2,SG];rfl
  ·simp only [hn,decide_false,cond_false,if_false];rw [show n.natAbs=n.toNat by omega]
abbrev Made:=List ByteArray×(List ByteArray×(Int×(ByteArray×Bool)))
structure MOk (k:Nat) (m:Made):Prop where
 i:∀ s∈m.1,s.size≤30
 b:∀ s∈m.2.1,s.size≤30
 il:m.1.length≤k
 bl:m.2.1.length≤k
 n0:0≤m.2.2.1
 n1:m.2.2.1≤k
 t:m.2.2.2.1.size≤1000 * k
theorem MOk.mono {k k':Nat} {m:Made} (h:MOk k m) (hk:k≤k'):MOk k' m:=⟨h.i,h.b,by have:=h.il;omega,by have:=h.bl;omega,h.n0,by have:=h.n1;omega,by have:=h.t;omega⟩
theorem cle {a b:Nat} (h:a+b≤1000000000000):(Cnd.le (a+b) Ai).holds:=by simp only [Cnd.holds,Ai];omega
theorem Yy:s_0_5fec.size=1:=by decide
theorem Xl:s_10_4a44.size=2:=by decide
theorem Yz:s_1_6b86.size=1:=by decide
theorem ZA:s_2_d473.size=1:=by decide
theorem ZB:s_3_4e07.size=1:=by decide
theorem PH:s_500000000_ee3f.size=9:=by decide
theorem ZC:s_7_7902.size=1:=by decide
theorem bt:s___32eb.size=1:=by decide
theorem bu:s___36a9.size=1:=by decide
theorem bv:s___3973.size=1:=by decide
theorem QH:s___6848.size=1:=by decide
theorem Nz:s____0__while__874d.size=12:=by decide
theorem ZD:s____0a07.size=2:=by decide
theorem ZE:s____0a2d.size=2:=by decide
theorem Sw:s____1___e636.size=6:=by decide
theorem ZF:s____73db.size=2:=by decide
theorem Xm:s_____0a45.size=3:=by decide
theorem Xn:s_____2591.size=3:=by decide
theorem Xo:s_____4620.size=3:=by decide
theorem Xp:s_____7bac.size=3:=by decide
theorem VQ:s______17ce.size=4:=by decide
theorem VR:s______737d.size=4:=by decide
theorem Xq:s_____fe90.size=3:=by decide
theorem Qr:s_____mut__b552.size=8:=by decide
theorem QI:s____clone__9670.size=9:=by decide
theorem ZG:s____e220.size=2:=by decide
theorem SA:s____new__f832.size=7:=by decide
theorem bw:s___ba5e.size=1:=by decide
theorem QJ:s___print___4de9.size=9:=by decide
theorem ZH:s_b_3e23.size=1:=by decide
theorem NA:s_do_bump__mut__fbff.size=13:=by decide
theorem Qs:s_do_eat__d60f.size=7:=by decide
theorem PJ:s_do_show___6204.size=9:=by decide
theorem Sx:s_else__8873.size=5:=by decide
theorem ZI:s_i_de7d.size=1:=by decide
theorem VT:s_if__9889.size=3:=by decide
theorem Sy:s_input_c96c.size=5:=by decide
theorem Up:s_let__de0c.size=4:=by decide
theorem ZJ:s_m_62c6.size=1:=by decide
theorem TA:s_make__0b50.size=5:=by decide
theorem Uq:s_new__e703.size=4:=by decide
theorem SB:s_print__5b23.size=6:=by decide
theorem ZK:s_r_4543.size=1:=by decide
theorem Ur:s_sum__4072.size=4:=by decide
theorem ZL:s_w_50e7.size=1:=by decide
theorem szs:s_0_5fec.size=1∧s_10_4a44.size=2∧s_1_6b86.size=1∧s_2_d473.size=1∧s_3_4e07.size=1∧s_500000000_ee3f.size=9∧s_7_7902.size=1∧s___32eb.size=1∧s___36a9.size=1∧s___3973.size=1∧s___6848.size=1∧s____0__while__874d.size=12∧s____0a07.size=2∧s____0a2d.size=2∧s____1___e636.size=6∧s____73db.size=2∧s_____0a45.size=3∧s_____2591.size=3∧s_____4620.size=3∧s_____7bac.size=3∧s______17ce.size=4∧s______737d.size=4∧s_____fe90.size=3∧s_____mut__b552.size=8∧s____clone__9670.size=9∧s____e220.size=2∧s____new__f832.size=7∧s___ba5e.size=1∧s___print___4de9.size=9∧s_b_3e23.size=1∧s_do_bump__mut__fbff.size=13∧s_do_eat__d60f.size=7∧s_do_show___6204.size=9∧s_else__8873.size=5∧s_i_de7d.size=1∧s_if__9889.size=3∧s_input_c96c.size=5∧s_let__de0c.size=4∧s_m_62c6.size=1∧s_make__0b50.size=5∧s_new__e703.size=4∧s_print__5b23.size=6∧s_r_4543.size=1∧s_sum__4072.size=4∧s_w_50e7.size=1:=⟨Yy,Xl,Yz,ZA,ZB,PH,ZC,bt,bu,bv,QH,Nz,ZD,ZE,Sw,ZF,Xm,Xn,Xo,Xp,VQ,VR,Xq,Qr,QI,ZG,SA,bw,QJ,ZH,NA,Qs,PJ,Sx,ZI,VT,Sy,Up,ZJ,TA,Uq,SB,ZK,Ur,ZL⟩
theorem Nb (m:Made) (l:List ByteArray) (c:Cur) (hl:l≠[]) (h:COk c):wp (CE m l c) fun r=>r.1∈l∧COk r.2.1:=by
 unfold CE;have hp:0<(l.length:Int):=by have:=List.length_pos_iff.2 hl;omega
 exact AF (AD (Bs c _ h) fun y hy=>AN ⟨hy.1,hy.2.1 hp⟩ (AA ⟨Be _ _ _ hy.1 (hy.2.1 hp),hy.2.2.2⟩))
theorem Sc (m:Made) (c:Cur) (h:COk c):wp (Ct m c) fun r=>r.1.size≤30∧COk r.2.1:=by
 unfold Ct;refine AF (AD (Vr c _ (by simp) h) fun y hy=>AA ⟨?_,hy.2⟩)
 have h1:=hy.1
 simp only [List.mem_cons,List.not_mem_nil,or_false] at h1;rcases h1 with e | e | e | e | e | e | e<;>rw [e]<;>decide
theorem OV {D:Type} {l:List D} (h:(0:Int)<(l.length:Int)):l≠[]:=by
 intro e;rw [e] at h;simp at h
theorem CD {k:Nat} (m:Made) (c:Cur) (hm:MOk k m) (h:COk c):wp (Ap m c) fun r=>r.1.size≤40∧COk r.2.1:=by
 unfold Ap;refine AF (AD (Bs c 5 h) fun y hy=>AQ (AD (Q:=fun x:Made×Int×Bool×Cur×Unit=>x.1=m∧COk x.2.2.2.1∧(x.2.2.1=true→m.1≠[])) (AM (fun _=>AA ⟨rfl,hy.2.2.2,fun hb=>OV (by simpa using hb)⟩) (fun _=>AA ⟨rfl,hy.2.2.2,fun hb=>by cases hb⟩)) fun x hx=>?_))
 obtain⟨x1,x2,x3,x4,_⟩:=x;obtain⟨rfl,hc,hi⟩:=hx;refine AM (fun hb=>AF (AD (Nb _ _ _ (hi hb) hc) fun y hy=>AA ⟨by have:=hm.i _ hy.1;simp only;omega,hy.2⟩)) (fun _=>AQ (AD (Q:=fun x:Made×Bool×Cur×Unit=>x.1=x1∧COk x.2.2.1∧(x.2.1=true→x1.2.1≠[])) (AM (fun _=>AA ⟨rfl,hc,fun hb=>OV (by simpa using hb)⟩) (fun _=>AA ⟨rfl,hc,fun hb=>by cases hb⟩)) fun x hx=>?_))
 obtain⟨z1,z2,z3,_⟩:=x;obtain⟨rfl,hc,hi⟩:=hx;refine AM (fun hb=>AF (AD (Nb _ _ _ (hi hb) hc) fun y hy=>?_)) (fun _=>AF (AD (Sc _ _ hc) fun y hy=>AA ⟨by simp only;omega,hy.2⟩))
 have h1:=hm.b _ hy.1
 exact AN (cle (by simp only [QH];omega)) (AA ⟨by simp only [AR,QH];omega,hy.2⟩)
theorem Nn {k:Nat} (m:Made) (c:Cur) (hm:MOk k m) (h:COk c):wp (Bx m c) fun r=>r.1.size≤150∧COk r.2.1:=by
 unfold Bx;refine AF (AD (Bs c 7 h) fun y hy=>?_)
 have h:=hy.2.2.2
 refine AM (fun _=>?_) fun _=>AM (fun _=>?_) fun _=>AM (fun _=>?_) fun _=>AM (fun _=>?_) fun _=>?_
 ·refine AF (AD (CD m _ hm h) fun a ha=>AN (cle (by first | omega | (simp only [AR,szs];omega))) (AF (AD (CD m _ hm ha.2) fun b hb=>AN (cle (by first | omega | (simp only [AR,szs];omega))) (AA ⟨by simp only [AR,szs];omega,hb.2⟩))))
 ·refine AF (AD (CD m _ hm h) fun a ha=>AN (cle (by first | omega | (simp only [AR,szs];omega))) (AF (AD (CD m _ hm ha.2) fun b hb=>AN (cle (by first | omega | (simp only [AR,szs];omega))) (AA ⟨by simp only [AR,szs];omega,hb.2⟩))))
 ·refine AF (AD (CD m _ hm h) fun a ha=>AN (cle (by first | omega | (simp only [AR,szs];omega))) (AN (cle (by first | omega | (simp only [AR,szs];omega))) (AF (AD (CD m _ hm ha.2) fun b hb=>AN (cle (by first | omega | (simp only [AR,szs];omega))) (AN (cle (by first | omega | (simp only [AR,szs];omega))) (AF (AD (CD m _ hm hb.2) fun d hd=>AN (cle (by first | omega | (simp only [AR,szs];omega))) (AA ⟨by simp only [AR,szs];omega,hd.2⟩))))))))
 ·refine AF (AD (CD m _ hm h) fun a ha=>AN (cle (by first | omega | (simp only [AR,szs];omega))) (AN (cle (by first | omega | (simp only [AR,szs];omega))) (AF (AD (CD m _ hm ha.2) fun b hb=>AN (cle (by first | omega | (simp only [AR,szs];omega))) (AN (cle (by first | omega | (simp only [AR,szs];omega))) (AA ⟨by simp only [AR,szs];omega,hb.2⟩))))))
 ·refine Ig (AD (Q:=fun s:(Made×Cur×Unit) ⊕ (ByteArray×Cur×Unit)=>(∀ b,s=.inl b→b.1=m∧COk b.2.1)∧∀ r,s=.inr r→r.1.size≤150∧COk r.2.1) (AM (fun _=>?_) fun _=>AL (AA (Aj ⟨rfl,h⟩))) fun s hs=>⟨fun b hb=>?_,hs.2⟩)
  ·exact AF (AD (Ju _ 3 h) fun y hy=>AM (fun _=>AL (AA (Ah ⟨by simp only [AR,szs];omega,hy⟩))) fun _=>AL (AA (Aj ⟨rfl,hy⟩)))
  ·obtain⟨e,hc⟩:=hs.1 b hb;rw [e];exact AF (AD (CD m _ hm hc) fun y hy=>AA ⟨by simp only;omega,hy.2⟩)
theorem IZ {k:Nat} (m:Made) (s:ByteArray) (c:Cur) (hk:k≤1000000) (hs:s.size≤5) (hm:MOk k m) (h:COk c):wp (Ba m s c) fun r=>r.1.size≤30∧r.2.1=(m.1,(m.2.1,(m.2.2.1+1,m.2.2.2)))∧COk r.2.2.1:=by
 unfold Ba;have h0:=hm.n0
 have h1:=hm.n1
 rw [Aa (x:=m.2.2.1+1) (by omega) (by omega),Qn _ (by omega) (by omega)];have:=bH (n:=m.2.2.1+1) (by omega) (by omega)
 exact AF (AA (AN (cle (by simp only;omega)) (AA ⟨by simp only [AR];omega,rfl,h⟩)))
theorem Rm {k:Nat} (m:Made) (s:ByteArray) (c:Cur) (hk:k≤2000000) (hm:MOk k m) (h:COk c):wp (Ch m s c) fun r=>(∃ bs,r.1=(m.1,(bs,m.2.2))∧(∀ s∈bs,s.size≤30)∧bs.length≤m.2.1.length)∧COk r.2.1:=by
 unfold Ch;have hbl:=hm.bl
 refine AQ (AF (AA ?_))
 refine AD (wp_loop (fun x:FY=>(∀ s∈x.2.2.1,s.size≤30)∧x.2.2.1.length≤x.2.2.2.1.toNat∧0≤x.2.2.2.1∧x.2.2.2.1≤m.2.1.length∧x.2.2.2.2.1=m∧COk x.2.2.2.2.2.1) (fun x=>m.2.1.length - x.2.2.2.1.toNat)
  (Q:=fun r:Int×List ByteArray×Made×Cur×Unit=>(∀ s∈r.2.1,s.size≤30)∧r.2.1.length≤m.2.1.length∧r.2.2.1=m∧COk r.2.2.2.1) (fun x hx=>?_) ⟨by simp,by simp,by simp,by simp,rfl,h⟩) (fun r hr=>AA ⟨⟨r.2.1,by rw [hr.2.2.1],hr.1,hr.2.1⟩,hr.2.2.2⟩)
 obtain⟨x0,x1,x2,x3,x4,x5,_⟩:=x;simp only at hx;obtain⟨g1,g2,g3,g4,g5,g6⟩:=hx;subst g5;unfold Iq;refine AM (fun hb=>?_) (fun hb=>AL (AA (Ah ⟨g1,by simp only;omega,rfl,g6⟩)))
 have hlt:x3<(x4.2.1.length:Int):=by simpa using hb
 have e:IntKind.wrap .i64 (x3+1)=x3+1:=Aa (by omega) (by omega)
 refine AQ (AD (Q:=fun z:Int×ByteArray×List ByteArray×Int×Bool×Made×Cur×Unit=>z.2.2.1=x2∧z.2.2.2.1=x3∧z.2.2.2.2.2.1=x4∧COk z.2.2.2.2.2.2.1) (AN ⟨g3,hlt⟩ (AM (fun _=>AA ⟨rfl,rfl,rfl,g6⟩) fun _=>AA ⟨rfl,rfl,rfl,g6⟩)) fun z hz=>?_)
 obtain⟨z0,z1,z2,z3,z4,z5,z6,_⟩:=z;simp only at hz;obtain⟨q1,q2,q3,g7⟩:=hz;subst q1 q2 q3;refine AQ (AD (Q:=fun u:Int×ByteArray×List ByteArray×Int×Made×Cur×Unit=>(∀ s∈u.2.2.1,s.size≤30)∧u.2.2.1.length≤z3.toNat+1∧u.2.2.2.1=z3∧u.2.2.2.2.1=z5∧COk u.2.2.2.2.2.1) (AM (fun _=>AN ⟨g3,hlt⟩ (AN ?_ (AA ⟨fun s hs=>?_,by simp;omega,rfl,rfl,g7⟩))) fun _=>AA ⟨g1,by simp only;omega,rfl,rfl,g7⟩) fun u hu=>?_)
 ·simp only [Cnd.holds,List.length_singleton];omega
 ·rcases List.mem_append.1 hs with hs | hs
  ·exact g1 s hs
  ·rw [List.mem_singleton.1 hs];exact hm.b _ (Be _ _ _ g3 hlt)
 ·obtain⟨u0,u1,u2,u3,u4,u5,_⟩:=u;simp only at hu;obtain⟨k1,k2,k3,k4,k5⟩:=hu;subst k3 k4;simp only;rw [e];exact AL (AA (Aj ⟨⟨k1,by simp only;omega,by simp only;omega,by simp only;omega,rfl,k5⟩,by simp only;omega⟩))
def RM (k:Nat) (r:Made×Cur×Unit):Prop:=MOk k r.1∧COk r.2.1
theorem GQ {k:Nat} {b:Bool} {x y:Option (Made×Cur×Unit)} (h1:b=true→wp x (RM k)) (h2:b=false→wp y (RM k)):wp (AC (bif b then x else y) fun z=>some (z.1,z.2.1,())) (RM k):=
 AQ (AD (AM h1 h2) fun z hz=>AA hz)
theorem MOk.mk' {k:Nat} {i bs:List ByteArray} {n:Int} {t:ByteArray} {w:Bool} (h1:∀ s∈i,s.size≤30) (h2:∀ s∈bs,s.size≤30) (h3:i.length≤k) (h4:bs.length≤k) (h5:0≤n) (h6:n≤k) (h7:t.size≤1000 * k):MOk k (i,(bs,(n,(t,w)))):=⟨h1,h2,h3,h4,h5,h6,h7⟩
theorem MOk.txt {k:Nat} {m:Made} (hm:MOk k m) {n:Int} {t:ByteArray} {w:Bool} (h5:0≤n) (h6:n≤(k:Int)+1) (h7:t.size≤1000 * k+1000):MOk (k+1) (m.1,(m.2.1,(n,(t,w)))):=.mk' hm.i hm.b (by have:=hm.il;omega) (by have:=hm.bl;omega) h5 (by omega) (by omega)
theorem MOk.fr {k:Nat} {m:Made} (hm:MOk k m) (h5:0≤m.2.2.1):MOk (k+1) (m.1,(m.2.1,(m.2.2.1+1,m.2.2.2))):=⟨hm.i,hm.b,by have:=hm.il;simp only;omega,by have:=hm.bl;simp only;omega,by simp only;omega,by have:=hm.n1;simp only;omega,by have:=hm.t;simp only;omega⟩
theorem Na {l:List ByteArray} {x:ByteArray} (h:∀ s∈l,s.size≤30) (hx:x.size≤30):∀ s∈([]:List ByteArray)++l++[x],s.size≤30:=fun s hs=>by
 simp only [List.nil_append] at hs;rcases List.mem_append.1 hs with hs | hs
 ·exact h s hs
 ·rw [List.mem_singleton.1 hs];exact hx
theorem bN {k:Nat} (m:Made) (g:Bool) (c:Cur) (hk:k≤1000000) (hm:MOk k m) (hb:m.2.1≠[]) (h:COk c):wp (Ek m g c) (RM (k+1)):=by
 unfold Ek;have ht:=hm.t
 have hn0:=hm.n0
 have hn1:=hm.n1
 have hbl:=hm.bl
 refine AF (AD (Nb m m.2.1 c hb h) fun b hb=>AF (AD (Bs _ 9 hb.2) fun y hy=>?_))
 have hbs:=hm.b _ hb.1
 have h:=hy.2.2.2
 refine GQ (fun _=>?_) fun _=>GQ (fun _=>?_) fun _=>GQ (fun _=>?_) fun _=>GQ (fun _=>?_) fun _=>GQ (fun _=>?_) fun _=>GQ (fun _=>?_) fun _=>GQ (fun _=>?_) fun _=>GQ (fun _=>?_) fun _=>?_
 ·refine AF (AD (IZ _ s_r_4543 _ hk (by simp only [AR,szs];omega) hm h) fun f hf=>?_)
  obtain⟨fn,fm,fc,_⟩:=f;simp only at hf;obtain⟨f1,f2,f3⟩:=hf;subst f2;simp only
  repeat refine AN (cle (by first | omega | (simp only [AR,szs];omega))) ?_
  exact AA ⟨(hm.txt (by omega) (by omega) (by simp only [AR,szs];omega)),f3⟩
 ·refine AF (AD (IZ _ s_m_62c6 _ hk (by simp only [AR,szs];omega) hm h) fun f hf=>?_)
  obtain⟨fn,fm,fc,_⟩:=f;simp only at hf;obtain⟨f1,f2,f3⟩:=hf;subst f2;simp only
  repeat refine AN (cle (by first | omega | (simp only [AR,szs];omega))) ?_
  refine AF (AD (CD _ _ (hm.fr hn0) f3) fun a ha=>?_)
  repeat refine AN (cle (by first | omega | (simp only [AR,szs];omega))) ?_
  exact AA ⟨(hm.txt (by omega) (by omega) (by simp only [AR,szs];omega)),ha.2⟩
 ·repeat refine AN (cle (by first | omega | (simp only [AR,szs];omega))) ?_
  exact AA ⟨(hm.txt (by omega) (by omega) (by simp only [AR,szs];omega)),h⟩
 ·repeat refine AN (cle (by first | omega | (simp only [AR,szs];omega))) ?_
  refine AF (AD (Sc _ _ h) fun a ha=>?_)
  repeat refine AN (cle (by first | omega | (simp only [AR,szs];omega))) ?_
  exact AA ⟨(hm.txt (by omega) (by omega) (by simp only [AR,szs];omega)),ha.2⟩
 ·refine AF (AD (IZ _ s_b_3e23 _ hk (by simp only [AR,szs];omega) hm h) fun f hf=>?_)
  obtain⟨fn,fm,fc,_⟩:=f;simp only at hf;obtain⟨f1,f2,f3⟩:=hf;subst f2;simp only
  repeat refine AN (cle (by first | omega | (simp only [AR,szs];omega))) ?_
  refine AF (AD (Ju _ 3 f3) fun o ho=>AQ (AD (Q:=fun x:Int×ByteArray×Made×Cur×Unit=>MOk (k+1) x.2.2.1∧x.2.2.1.2.1.length≤k∧x.2.1=fn∧COk x.2.2.2.1) (AM (fun _=>?_) fun _=>AA ⟨(hm.txt (by omega) (by omega) (by simp only [AR,szs];omega)),by simp only;omega,rfl,ho⟩) fun x hx=>?_))
  ·refine AF (AD (Rm (k:=k+1) _ _ _ (by omega) (hm.txt (by omega) (by omega) (by simp only [AR,szs];omega)) ho) fun z hz=>?_)
   obtain⟨⟨bs,z1,z2,z3⟩,z4⟩:=hz;simp only at z1 z3;rw [z1];exact AA ⟨.mk' hm.i z2 (by have:=hm.il;omega) (by omega) (by omega) (by omega) (by simp only [AR,szs];omega),by simp only;omega,rfl,z4⟩
  ·obtain⟨x1,x2,x3,x4⟩:=hx;have e3:x.2.1.size≤30:=by rw [x3];exact f1
   refine AN (by simp only [Cnd.holds,List.length_nil];omega) (AN (by simp only [Cnd.holds,List.length_append,List.length_nil,List.length_singleton];omega) (AA ⟨.mk' x1.i (Na x1.b e3) x1.il (by simp only [List.length_append,List.length_nil,List.length_singleton];omega) x1.n0 x1.n1 x1.t,x4⟩))
 ·repeat refine AN (cle (by first | omega | (simp only [AR,szs];omega))) ?_
  refine AF (AD (Nn m _ hm h) fun a ha=>?_)
  repeat refine AN (cle (by first | omega | (simp only [AR,szs];omega))) ?_
  exact AA ⟨(hm.txt (by omega) (by omega) (by simp only [AR,szs];omega)),ha.2⟩
 ·repeat refine AN (cle (by first | omega | (simp only [AR,szs];omega))) ?_
  repeat refine AN (cle (by first | omega | (simp only [AR,szs];omega))) ?_
  refine AF (AD (CD m _ hm h) fun a ha=>?_)
  repeat refine AN (cle (by first | omega | (simp only [AR,szs];omega))) ?_
  exact AA ⟨(hm.txt (by omega) (by omega) (by simp only [AR,szs];omega)),ha.2⟩
 ·refine GQ (fun _=>?_) fun _=>AA ⟨hm.mono (by omega),h⟩
  repeat refine AN (cle (by first | omega | (simp only [AR,szs];omega))) ?_
  refine AF (AD (Rm (k:=k+1) _ _ _ (by omega) (hm.txt (by omega) (by omega) (by simp only [AR,szs];omega)) h) fun z hz=>?_)
  obtain⟨⟨bs,z1,z2,z3⟩,z4⟩:=hz;simp only at z1 z3;rw [z1];exact AA ⟨.mk' hm.i z2 (by have:=hm.il;omega) (by omega) (by omega) (by omega) (by simp only [AR,szs];omega),z4⟩
 ·refine GQ (fun _=>?_) fun _=>AA ⟨hm.mono (by omega),h⟩
  refine AF (AD (IZ _ s_b_3e23 _ hk (by simp only [AR,szs];omega) hm h) fun f hf=>?_)
  obtain⟨fn,fm,fc,_⟩:=f;simp only at hf;obtain⟨f1,f2,f3⟩:=hf;subst f2;simp only
  repeat refine AN (cle (by first | omega | (simp only [AR,szs];omega))) ?_
  refine AF (AD (Rm (k:=k+1) _ _ _ (by omega) (hm.txt (by omega) (by omega) (by simp only [AR,szs];omega)) f3) fun z hz=>?_)
  obtain⟨⟨bs,z1,z2,z3⟩,z4⟩:=hz;simp only at z1 z3;rw [z1];refine AN (by simp only [Cnd.holds,List.length_nil];omega) (AN (by simp only [Cnd.holds,List.length_append,List.length_nil,List.length_singleton];omega) (AA ⟨.mk' hm.i (Na z2 f1) (by have:=hm.il;simp only;omega) (by simp only [List.length_append,List.length_nil,List.length_singleton];omega) (by omega) (by omega) (by simp only [AR,szs];omega),z4⟩))
set_option maxRecDepth 100000
theorem Yc {D:Type} {l:List D} (h:(decide ((List.length l:Int)=(0:Int)))=false):l≠[]:=by
 intro e;rw [e] at h;simp at h
theorem LL {k:Nat} {b:Bool} {x x' y y':Option (Made×Cur×Unit)} (h1:b=true→wq x x' (RM k)) (h2:b=false→wq y y' (RM k)):wq (AC (bif b then x else y) fun z=>some (z.1,z.2.1,())) (AC (bif b then x' else y') fun z=>some (z.1,z.2.1,())) (RM k):=
 BF (AG (Ad h1 h2) fun z hz=>AJ hz)
theorem Sl {r0 r0':Made→Int→Bool→Cur→Option (Made×Cur×Unit)} {r1 r1':Made→Int→ByteArray→Cur→Option (Made×Cur×Unit)} {D:Nat} (deep:Int) (H:0<deep→∀ k m last c,k+D≤1000000→MOk k m→last.size≤100→COk c→wq (r1 m deep last c) (r1' m deep last c) (RM (k+D)))
 {k:Nat} (m:Made) (g:Bool) (c:Cur) (hk:k+2 * D+2≤1000000) (hm:MOk k m) (h:COk c):wq (EH r0 r1 m deep g c) (EH r0' r1' m deep g c) (RM (k+2 * D+2)):=by
 unfold EH;have ht:=hm.t
 have hn0:=hm.n0
 have hn1:=hm.n1
 have hbl:=hm.bl
 have hil:=hm.il
 have fin:∀ r:Made×Cur×Unit,RM (k+1) r→RM (k+2 * D+2) r:=fun r hr=>⟨hr.1.mono (by omega),hr.2⟩
 refine AK (AG (Af (Bs c 14 h)) fun y hy=>?_)
 have h:=hy.2.2.2
 refine BF (AG (Q:=fun x:Int×Int×Bool×Int×Bool×Made×Cur×Unit=>x.2.1=deep∧x.2.2.2.2.2.1=m∧COk x.2.2.2.2.2.2.1∧(x.2.2.2.2.1=false→m.1≠[])) (Ad (fun _=>AJ ⟨rfl,rfl,h,fun e=>by cases e⟩) fun _=>AJ ⟨rfl,rfl,h,fun e=>Yc e⟩) fun x hx=>?_)
 obtain⟨x0,x1,x2,x3,x4,x5,x6,_⟩:=x;simp only at hx;obtain⟨e1,e2,h,hi⟩:=hx;subst e1 e2;simp only;clear hy
 refine LL (fun _=>AG ?_ fin) fun hf1=>?_
 ·refine AK (AG (Af (Nn _ _ hm h)) fun v hv=>?_)
  have h:=hv.2
  refine AK (AG (Af (IZ _ s_i_de7d _ (by omega) (by simp only [AR,szs];omega) hm h)) fun f hf=>?_)
  obtain⟨fn,fm,fc,_⟩:=f;simp only at hf;obtain⟨f1,f2,f3⟩:=hf;subst f2;simp only
  repeat refine Ar (cle (by first | omega | (simp only [AR,szs];omega))) ?_
  refine Ar (by simp only [Cnd.holds,List.length_nil];omega) (Ar (by simp only [Cnd.holds,List.length_append,List.length_nil,List.length_singleton];omega) (AJ ⟨.mk' (Na hm.i f1) hm.b (by simp only [List.length_append,List.length_nil,List.length_singleton];omega) (by first | omega | (simp only;omega)) (by omega) (by omega) (by simp only [AR,szs];omega),f3⟩))
 have hne1:=hi hf1
 refine BF (AG (Q:=fun x:Int×Int×Bool×Int×Bool×Made×Cur×Unit=>x.2.1=x1∧x.2.2.2.2.2.1=x5∧COk x.2.2.2.2.2.2.1∧(x.2.2.2.2.1=false→x5.2.1≠[])) (Ad (fun _=>AJ ⟨rfl,rfl,h,fun e=>by cases e⟩) fun _=>AJ ⟨rfl,rfl,h,fun e=>Yc e⟩) fun x hx=>?_)
 obtain⟨z0,z1,z2,z3,z4,z5,z6,_⟩:=x;simp only at hx;obtain⟨e1,e2,h,hi⟩:=hx;subst e1 e2;simp only;refine LL (fun _=>AG ?_ fin) fun hf2=>?_
 ·refine AK (AG (Af (CD _ _ hm h)) fun v hv=>?_)
  repeat refine Ar (cle (by first | omega | (simp only [AR,szs];omega))) ?_
  refine AK (AG (Af (Ju _ 3 hv.2)) fun o ho=>BF (AG (Q:=fun x:Int×ByteArray×Made×Cur×Unit=>x.2.1.size≤60∧x.2.2.1=z5∧COk x.2.2.2.1) (Ad (fun _=>AK (AG (Af (CD _ _ hm ho)) fun v2 hv2=>?_)) fun _=>AJ ⟨by simp only [AR,szs];omega,rfl,ho⟩) fun x hx=>?_))
  ·repeat refine Ar (cle (by first | omega | (simp only [AR,szs];omega))) ?_
   exact AJ ⟨by simp only [AR,szs];omega,rfl,hv2.2⟩
  obtain⟨w0,w1,w2,w3,_⟩:=x;simp only at hx;obtain⟨hw,e2,h⟩:=hx;subst e2;simp only;refine AK (AG (Af (IZ _ s_b_3e23 _ (by omega) (by simp only [AR,szs];omega) hm h)) fun f hf=>?_)
  obtain⟨fn,fm,fc,_⟩:=f;simp only at hf;obtain⟨f1,f2,f3⟩:=hf;subst f2;simp only
  repeat refine Ar (cle (by first | omega | (simp only [AR,szs];omega))) ?_
  refine Ar (by simp only [Cnd.holds,List.length_nil];omega) (Ar (by simp only [Cnd.holds,List.length_append,List.length_nil,List.length_singleton];omega) (AJ ⟨.mk' hm.i (Na hm.b f1) (by first | omega | (simp only;omega)) (by simp only [List.length_append,List.length_nil,List.length_singleton];omega) (by omega) (by omega) (by simp only [AR,szs];omega),f3⟩))
 have hne2:=hi hf2
 refine LL (fun _=>AG ?_ fin) fun _=>?_
 ·repeat refine Ar (cle (by first | omega | (simp only [AR,szs];omega))) ?_
  refine AK (AG (Af (Nn _ _ hm h)) fun v hv=>?_)
  repeat refine Ar (cle (by first | omega | (simp only [AR,szs];omega))) ?_
  exact AJ ⟨(hm.txt (by omega) (by omega) (by simp only [AR,szs];omega)),hv.2⟩
 refine LL (fun _=>AG ?_ fin) fun _=>?_
 ·refine AK (AG (Af (Nb _ _ _ hne1 h)) fun v hv=>?_)
  have hvs:=hm.i _ hv.1
  repeat refine Ar (cle (by first | omega | (simp only [AR,szs];omega))) ?_
  refine AK (AG (Af (Nn _ _ hm hv.2)) fun v2 hv2=>?_)
  repeat refine Ar (cle (by first | omega | (simp only [AR,szs];omega))) ?_
  exact AJ ⟨(hm.txt (by omega) (by omega) (by simp only [AR,szs];omega)),hv2.2⟩
 refine BF (AG (Q:=fun x:Int×Int×Bool×Int×Bool×Made×Cur×Unit=>x.2.1=z1∧x.2.2.2.2.2.1=z5∧COk x.2.2.2.2.2.2.1∧(x.2.2.2.2.1=true→0<z1)) (Ad (fun _=>AJ ⟨rfl,rfl,h,fun e=>by simpa using e⟩) fun _=>AJ ⟨rfl,rfl,h,fun e=>by cases e⟩) fun x hx=>?_)
 obtain⟨u0,u1,u2,u3,u4,u5,u6,_⟩:=x;simp only at hx;obtain⟨e1,e2,h,hi3⟩:=hx;subst e1 e2;simp only;refine LL (fun hd=>?_) fun _=>?_
 ·repeat refine Ar (cle (by first | omega | (simp only [AR,szs];omega))) ?_
  refine AK (AG (Af (CD _ _ hm h)) fun v hv=>?_)
  repeat refine Ar (cle (by first | omega | (simp only [AR,szs];omega))) ?_
  refine AK (AG (Af (CD _ _ hm hv.2)) fun v2 hv2=>?_)
  repeat refine Ar (cle (by first | omega | (simp only [AR,szs];omega))) ?_
  refine AK (AG (H (hi3 hd) (k+1) _ _ _ (by omega) (hm.txt (by omega) (by omega) (by simp only [AR,szs];omega)) (by decide) hv2.2) fun q hq=>?_)
  have ht2:=hq.1.t
  have hn2:=hq.1.n0
  have hn3:=hq.1.n1
  repeat refine Ar (cle (by first | omega | (simp only [AR,szs];omega))) ?_
  refine AK (AG (H (hi3 hd) (k+1+D+1) _ _ _ (by omega) (hq.1.txt (by omega) (by omega) (by simp only [AR,szs];omega)) (by decide) hq.2) fun q2 hq2=>AJ ⟨hq2.1.mono (by omega),hq2.2⟩)
 refine BF (AG (Q:=fun x:Int×Int×Bool×Bool×Made×Cur×Unit=>x.2.1=u1∧x.2.2.2.2.1=u5∧COk x.2.2.2.2.2.1∧(x.2.2.2.1=true→0<u1)) (Ad (fun _=>AJ ⟨rfl,rfl,h,fun e=>by simpa using e⟩) fun _=>AJ ⟨rfl,rfl,h,fun e=>by cases e⟩) fun x hx=>?_)
 obtain⟨q0,q1,q2,q3,q4,q5,_⟩:=x;simp only at hx;obtain⟨e1,e2,h,hi4⟩:=hx;subst e1 e2;simp only;refine LL (fun hd=>?_) fun _=>?_
 ·refine AK (AG (Af (IZ _ s_w_50e7 _ (by omega) (by simp only [AR,szs];omega) hm h)) fun f hf=>?_)
  obtain⟨fn,fm,fc,_⟩:=f;simp only at hf;obtain⟨f1,f2,f3⟩:=hf;subst f2;simp only
  repeat refine Ar (cle (by first | omega | (simp only [AR,szs];omega))) ?_
  refine AK (AG (Af (Vr _ _ (by simp) f3)) fun v hv=>?_)
  have hvs:v.1.size≤1:=by
   have h1:=hv.1
   simp only [List.mem_cons,List.not_mem_nil,or_false] at h1;rcases h1 with e | e | e | e<;>rw [e]<;>decide
  repeat refine Ar (cle (by first | omega | (simp only [AR,szs];omega))) ?_
  exact AK (AG (H (hi4 hd) (k+1) _ _ _ (by omega) (hm.txt (by omega) (by omega) (by simp only [AR,szs];omega)) (by simp only [AR,szs];omega) hv.2) fun q hq=>AJ ⟨hq.1.mono (by omega),hq.2⟩)
 ·exact AK (AG (Af (bN _ _ _ (by omega) hm hne2 h)) fun q hq=>AJ (fin _ hq))
theorem VJ {r0 r0':Made→Int→Bool→Cur→Option (Made×Cur×Unit)} {r1 r1':Made→Int→ByteArray→Cur→Option (Made×Cur×Unit)} {A:Nat} (deep:Int) (hd0:0<deep) (hd1:deep≤1000) (H:∀ k m c,k+A≤1000000→MOk k m→COk c→wq (r0 m (deep - 1) false c) (r0' m (deep - 1) false c) (RM (k+A)))
 {k:Nat} (m:Made) (last:ByteArray) (c:Cur) (hk:k+3 * A+2≤1000000) (hm:MOk k m) (hl:last.size≤100) (h:COk c):wq (DR r0 r1 m deep last c) (DR r0' r1' m deep last c) (RM (k+3 * A+2)):=by
 unfold DR;have ht:=hm.t
 have hn0:=hm.n0
 have hn1:=hm.n1
 have hbl:=hm.bl
 have hil:=hm.il
 refine Ar (by simp only [Cnd.holds,List.length_nil];omega) (Ar (by simp only [Cnd.holds,List.length_nil];omega) ?_)
 repeat refine Ar (cle (by first | omega | (simp only [AR,szs];omega))) ?_
 refine BF (AK (AJ ?_))
 simp only [List.nil_append];refine AG (Io (fun x:EN=>x.2.1=deep∧x.2.2.1=last∧x.2.2.2.1=m.1∧x.2.2.2.2.1=m.2.1∧0≤x.2.2.2.2.2.1∧x.2.2.2.2.2.1≤3∧MOk (k+1+x.2.2.2.2.2.1.toNat * A) x.2.2.2.2.2.2.1∧COk x.2.2.2.2.2.2.2.1) (fun x=>3 - x.2.2.2.2.2.1.toNat)
  (Q:=fun r:Int×ByteArray×List ByteArray×List ByteArray×Made×Cur×Unit=>r.2.1=last∧r.2.2.1=m.1∧r.2.2.2.1=m.2.1∧MOk (k+1+3 * A) r.2.2.2.2.1∧COk r.2.2.2.2.2.1) (fun x hx=>?_) ⟨rfl,rfl,rfl,rfl,by simp,by simp,by
   simp only [Int.toNat_zero,Nat.zero_mul,Nat.add_zero];exact hm.txt (by omega) (by omega) (by simp only [AR,szs];omega),h⟩) (fun r hr=>?_)
 ·obtain⟨x0,x1,x2,x3,x4,x5,x6,x7,_⟩:=x;simp only at hx;obtain⟨e1,e2,e3,e4,g1,g2,g3,g4⟩:=hx;subst e1 e2;unfold Hq;simp only;refine AK (AG (Af (Bs _ 3 g4)) fun y hy=>Ad (fun hb=>?_) fun _=>CA (AJ (Ah ⟨rfl,e3,e4,g3.mono ?_,hy.2.2.2⟩)))
  ·have hlt:x5<y.1:=by simpa using hb
   have hy3:=hy.2.1 (by omega)
   rw [Aa (x:=x1 - 1) (by omega) (by omega),Aa (x:=x5+1) (by omega) (by omega)];have hA:x5.toNat * A≤2 * A:=Nat.mul_le_mul_right _ (by omega)
   refine AK (AG (H (k+1+x5.toNat * A) _ _ (by omega) g3 hy.2.2.2) fun q hq=>CA (AJ (Aj ⟨⟨rfl,rfl,e3,e4,by simp only;omega,by simp only;omega,?_,hq.2⟩,by simp only;omega⟩)))
   simp only;rw [show(x5+1).toNat=x5.toNat+1 by omega,Nat.add_mul,Nat.one_mul];exact hq.1.mono (by omega)
  ·have hA:x5.toNat * A≤3 * A:=Nat.mul_le_mul_right _ (by omega)
   omega
 ·obtain⟨x0,x1,x2,x3,x4,x5,_⟩:=r;simp only at hr;obtain⟨e1,e2,e3,g1,g2⟩:=hr;subst e1 e2 e3;simp only;have ht2:=g1.t
  have hn2:=g1.n0
  have hn3:=g1.n1
  repeat refine Ar (cle (by first | omega | (simp only [AR,szs];omega))) ?_
  exact AJ ⟨.mk' hm.i hm.b (by omega) (by omega) (by omega) (by omega) (by simp only [AR,szs];omega),g2⟩
def Ac:Nat→Nat
 | 0=>2
 | d+1=>2 * (3 * Ac d+2)+2
theorem bQ:∀ (d:Nat),d≤1000→∀ n n',2 * d+1≤n→2 * d+1≤n'→∀ k m g c,k+Ac d≤1000000→MOk k m→COk c→wq ((BV n).1 m (d:Int) g c) ((BV n').1 m (d:Int) g c) (RM (k+Ac d)):=by
 intro d
 induction d with
 | zero=>
  intro _ n n' hn hn' k m g c hk hm h;obtain⟨n,rfl⟩:∃ j,n=j+1:=⟨n - 1,by omega⟩
  obtain⟨n',rfl⟩:∃ j,n'=j+1:=⟨n' - 1,by omega⟩
  exact Sl (r0:=(BV n).1) (r0':=(BV n').1) (D:=0) (0:Int) (fun h=>by omega) m g c (by simp only [Ac] at hk;omega) hm h
 | succ d ih=>
  intro hd n n' hn hn' k m g c hk hm h;obtain⟨n,rfl⟩:∃ j,n=j+2:=⟨n - 2,by omega⟩
  obtain⟨n',rfl⟩:∃ j,n'=j+2:=⟨n' - 2,by omega⟩
  have hA:Ac (d+1)=2 * (3 * Ac d+2)+2:=rfl
  rw [hA] at hk ⊢;rw [show k+(2 * (3 * Ac d+2)+2)=k+2 * (3 * Ac d+2)+2 by omega];refine Sl (r0:=(BV (n+1)).1) (r0':=(BV (n'+1)).1) (D:=3 * Ac d+2) ((d+1:Nat):Int) (fun _ k m last c hk hm hl h=>?_) m g c (by omega) hm h
  rw [show k+(3 * Ac d+2)=k+3 * Ac d+2 by omega];refine VJ (A:=Ac d) ((d+1:Nat):Int) (by omega) (by omega) (fun k m c hk hm h=>?_) m last c (by omega) hm hl h
  rw [show((d+1:Nat):Int) - 1=(d:Int) by omega];exact ih (by omega) n n' (by omega) (by omega) k m false c hk hm h
theorem bS {k:Nat} (m:Made) (g:Bool) (c:Cur) (hk:k+200≤1000000) (hm:MOk k m) (h:COk c):wp (Ey m 2 g c) (RM (k+200)):=by
 unfold Ey;have hA:Ac 2=114:=rfl
 exact KY 5 fun n hn=>AG (bQ 2 (by omega) n 5 (by omega) (by omega) k m g c (by omega) hm h) fun r hr=>⟨hr.1.mono (by omega),hr.2⟩
theorem dc (c:Cur) (most:Int) (hm0:0≤most) (hm1:most≤1000) (h:COk c):wp (Ja c most) fun r=>r.1.size≤1000000000∧COk r.2.1:=by
 unfold Ja;refine AF (AD (Ju c 6 h) fun y hy=>AQ (AF (AA ?_)))
 refine AD (wp_loop (fun x:IU=>x.1=most∧0≤x.2.2.1∧x.2.2.1≤most+2∧COk x.2.2.2.1∧MOk (1+x.2.2.1.toNat * 200) x.2.2.2.2.1) (fun x=>(most+2).toNat - x.2.2.1.toNat)
  (Q:=fun r:Int×Cur×Made×Unit=>COk r.2.1∧MOk 300000 r.2.2.1) (fun x hx=>?_) ⟨rfl,by simp,by simp only;omega,hy,?_⟩) (fun r hr=>?_)
 ·obtain⟨x0,x1,x2,x3,x4,_⟩:=x;simp only at hx;obtain⟨e1,g1,g2,g3,g4⟩:=hx;subst e1;unfold Ln;simp only;refine AF (AD (Bs _ x0 g3) fun z hz=>?_)
  have hz1:z.1≤x0:=by
   rcases Int.lt_or_le 0 x0 with h1 | h1
   ·have:=hz.2.1 h1;omega
   ·have:=hz.2.2.1 h1;omega
  have hz0:=hz.1
  rw [Aa (x:=2+z.1) (by omega) (by omega)];refine AM (fun hb=>?_) fun _=>AL (AA (Ah ⟨hz.2.2.2,g4.mono ?_⟩))
  ·have hlt:x2<2+z.1:=by simpa using hb
   rw [Aa (x:=x2+1) (by omega) (by omega)];have hA:x2.toNat * 200≤1002 * 200:=Nat.mul_le_mul_right _ (by omega)
   refine AF (AD (bS _ true _ (by omega) g4 hz.2.2.2) fun q hq=>AL (AA (Aj ⟨⟨rfl,by simp only;omega,by simp only;omega,hq.2,?_⟩,by simp only;omega⟩)))
   simp only;rw [show(x2+1).toNat=x2.toNat+1 by omega,Nat.add_mul,Nat.one_mul];exact hq.1.mono (by omega)
  ·have hA:x2.toNat * 200≤1002 * 200:=Nat.mul_le_mul_right _ (by omega)
   omega
 ·exact⟨by simp,by simp,by simp,by simp,by simp,by simp,by show s_fn_sum_a__int__b_4b95.size≤1000;decide⟩
 ·have ht:=hr.2.t
  have e:s___d10b.size=1:=by decide
  exact AN (cle (by omega)) (AA ⟨by simp only [AR];omega,hr.1⟩)
set_option maxRecDepth 100000
theorem VL {α β:Type} {step:β→Option (β ⊕ α)} (S:Nat→β) (m:Nat) (H:∀ k,k<m→step (S k)=some (.inl (S (k+1)))):AH step (S 0)=AH step (S m):=by
 have key:∀ j,j≤m→AH step (S 0)=AH step (S j):=by
  intro j
  induction j with
  | zero=>intro _;rfl
  | succ j ih=>intro hj;rw [ih (by omega),Br (H j (by omega))]
 exact key m (Nat.le_refl m)
def Eg (ds:List Int) (d kid:Int):Int:=if d<rd ds kid (0:Int)+1 then rd ds kid (0:Int)+1 else d
def Kp (ds:List Int) (x:NODE):Int:=x.2.2.2.foldl (Eg ds) 1
def Tv (d:Int):Int:=bif decide ((10:Int)<d) then 0 else d
def MG (l:List NODE) (ds:List Int) (k:Nat):Int:=bif Bl l (k:Int) && (decide (k=0) || decide (rd ds ((k:Int) - 1) (0:Int)≠0)) then Tv (Kp ds (rd l (k:Int) zN)) else 0
def BB (l:List NODE):Nat→List Int
 | 0=>[]
 | k+1=>BB l k++[MG l (BB l k) k]
def dAt (l:List NODE) (k:Nat):Int:=MG l (BB l k) k
theorem Fj (l:List NODE):∀ k,(BB l k).length=k
 | 0=>rfl
 | k+1=>by simp [BB,Fj l k]
theorem HA (l:List NODE):∀ (k j:Nat) (h:j<k),rd (BB l k) (j:Int) (0:Int)=dAt l j
 | k+1,j,h=>by
  have hl:=Fj l k
  rw [Ag (show j<(BB l (k+1)).length by rw [Fj];exact h)];simp only [BB]
  by_cases e:j=k
  ·subst e;rw [List.getElem_append_right (by omega)];simp [hl,dAt]
  ·have h':j<k:=by omega
   rw [List.getElem_append_left (by omega),← Ag (z:=(0:Int)) (show j<(BB l k).length by omega)];exact HA l k j h'
theorem Xa {l:List NODE} {k:Int} (h:Bl l k=true) {i:Nat} (hi:i<(rd l k zN).2.2.2.length):0≤(rd l k zN).2.2.2[i]∧(rd l k zN).2.2.2[i]<k:=by
 simp only [Bl,HG,OS,Bool.and_eq_true,List.all_eq_true] at h;have:=h.2.2.2.2.2 i (by simpa using hi)
 simp only [On,Bool.and_eq_true,decide_eq_true_eq] at this;have e:(rd l k zN).2.2.2.getD i 0=(rd l k zN).2.2.2[i]:=by
  generalize rd l k zN=x at hi ⊢;simp [hi]
 rw [e] at this;omega
theorem ai (l:List NODE) (k:Nat) (ds:List Int) (H:∀ j:Nat,j<k→0≤rd ds (j:Int) (0:Int)∧rd ds (j:Int) (0:Int)≤10) (x:NODE) (hx:∀ y∈x.2.2.2,(0:Int)≤y∧y<(k:Int)):1≤Kp ds x∧Kp ds x≤11:=by
 have key:∀ (m:List Int) (d:Int),(∀ y∈m,(0:Int)≤y∧y<(k:Int))→1≤d∧d≤11→1≤m.foldl (Eg ds) d∧m.foldl (Eg ds) d≤11:=by
  intro m
  induction m with
  | nil=>intro d _ h;exact h
  | cons y m ih=>
   intro d hm hd;rw [List.foldl_cons];refine ih _ (fun z hz=>hm z (List.mem_cons_of_mem _ hz)) ?_
   have hy:=hm y (List.mem_cons_self ..)
   have:=H y.toNat (by omega)
   rw [show((y.toNat:Nat):Int)=y by omega] at this;unfold Eg;split<;>omega
 exact key x.2.2.2 1 hx ⟨by omega,by omega⟩
theorem Oo {l:List NODE} {k:Int} (h:Bl l k=true):∀ y∈(rd l k zN).2.2.2,(0:Int)≤y∧y<k:=by
 intro y hy;obtain⟨i,hi,rfl⟩:=List.getElem_of_mem hy;exact Xa h hi
theorem OJ (l:List NODE):∀ k,0≤dAt l k∧dAt l k≤10:=by
 intro k
 induction k using Nat.strongRecOn with
 | _ k ih=>
  unfold dAt MG;cases h:Bl l (k:Int)
  ·simp
  cases (decide (k=0) || decide (rd (BB l k) ((k:Int) - 1) (0:Int)≠0))
  ·simp
  simp only [Bool.and_self,cond_true];have:=ai l k (BB l k) (fun j hj=>by rw [HA l k j hj];exact ih j hj) (rd l (k:Int) zN) (Oo h)
  unfold Tv;generalize Kp (BB l k) (rd l (k:Int) zN)=v at this ⊢
  by_cases h10:(10:Int)<v
  ·simp [h10]
  ·simp [h10];omega
theorem ag (l:List NODE) (k:Nat) (h:dAt l k=0):dAt l (k+1)=0:=by
 have e:rd (BB l (k+1)) (((k+1:Nat):Int) - 1) (0:Int)=0:=by
  rw [show((k+1:Nat):Int) - 1=(k:Int) by omega,HA l (k+1) k (by omega),h]
 rw [dAt,MG,e];simp
theorem ah (l:List NODE) (k n:Nat) (hkn:k≤n) (h:dAt l k=0):dAt l n=0:=by
 induction n with
 | zero=>obtain rfl:k=0:=by omega
         exact h
 | succ n ih=>
  by_cases e:k=n+1
  ·subst e;exact h
  ·exact ag l n (ih (by omega))
theorem gq {l:List NODE} {k:Nat} (h:dAt l k≠0):Bl l (k:Int)=true:=by
 cases e:Bl l (k:Int)
 ·exact absurd (by unfold dAt MG;rw [e];rfl) h
 ·rfl
theorem SL (l:List NODE) (k:Nat) (y:Int) (hy:0≤y∧y<(k:Int)):0≤rd (BB l k) y (0:Int)∧rd (BB l k) y (0:Int)≤10:=by
 have:=HA l k y.toNat (by omega)
 rw [show((y.toNat:Nat):Int)=y by omega] at this;rw [this];exact OJ l _
theorem aj (l:List NODE) (k:Nat) (y:Int) (hy:0≤y∧y<(k:Int)) (d:Int) (hd:1≤d∧d≤11):1≤Eg (BB l k) d y∧Eg (BB l k) d y≤11:=by
 have:=SL l k y hy
 unfold Eg;split<;>omega
theorem VD (l:List NODE) (hl:FineN l) (n:Int) (k:Nat) (hk:k<l.length) (hok:Bl l (k:Int)=true):
 AH CO (l,n,BB l k,(k:Int),(1:Int),(0:Int),())=some (l,n,BB l k,(k:Int),Kp (BB l k) l[k],()):=by
 have hkid:∀ i (hi:i<l[k].2.2.2.length),(0:Int)≤l[k].2.2.2[i]∧l[k].2.2.2[i]<(k:Int):=by
  have:=Oo hok
  rw [Ag hk] at this;exact fun i hi=>this _ (List.getElem_mem hi)
 have hx:=hl.kid _ (List.getElem_mem hk)
 have hlen:=Fj l k
 have hrd:∀ i (hi:i<l[k].2.2.2.length),(0:Int)≤rd (BB l k) l[k].2.2.2[i] (0:Int)∧rd (BB l k) l[k].2.2.2[i] (0:Int)≤10:=fun i hi=>SL l k _ (hkid i hi)
 have hst:∀ i (hi:i<l[k].2.2.2.length) d,1≤d∧d≤11→1≤Eg (BB l k) d l[k].2.2.2[i]∧Eg (BB l k) d l[k].2.2.2[i]≤11:=fun i hi d hd=>aj l k _ (hkid i hi) d hd
 have e1:∀ i:Int,(Cnd.idx (k:Int) l.length).run (α:=(List NODE×Int×List Int×Int×Int×Int×Bool×Unit))=fun K=>K:=fun i=>by funext K;exact Ab hk
 have hr:rd l (k:Int) zN=l[k]:=Ag hk
 generalize l[k]=x at hkid hx hrd hst hr ⊢;have h:=CZ (step:=CO) x.2.2.2 (Eg (BB l k)) (fun i d=>(l,n,BB l k,(k:Int),d,(i:Int),())) (fun d=>(l,n,BB l k,(k:Int),d,())) (fun _ d=>1≤d∧d≤11) (fun i hi d hd=>by
  refine⟨?_,hst i hi d hd⟩
  have a1:=hkid i hi
  have a2:=hrd i hi
  have wi:=Al (show i<9223372036854775807 by omega)
  simp only [CO,show(0:Int)<d by omega,decide_true,cond_true,Ab hk,hr,BC hi,AB,Ab hi,Ag hi];generalize x.2.2.2[i]=y at a1 a2 ⊢;rw [Ci (show 0≤y∧y<((BB l k).length:Int) by omega)];unfold Eg;generalize rd (BB l k) y (0:Int)=v at a2 ⊢;rw [show IntKind.wrap .i64 (v+1)=v+1 from Aa (by omega) (by omega)]
  by_cases hlt:d<v+1
  ·simp only [hlt,decide_true,cond_true,if_true,Ci (show 0≤y∧y<((BB l k).length:Int) by omega),AB,wi,Option.map_some]
  ·simp only [hlt,decide_false,cond_false,if_false,AB,wi,Option.map_some]) (fun d hd=>by
  simp only [CO,show(0:Int)<d by omega,decide_true,cond_true,Ab hk,hr,Ae,decide_false,AB,cond_false,Option.map_some]) 1 ⟨by omega,by omega⟩
 exact h.1
theorem Pw {α:Type} {l:List NODE} (hl:FineN l) {k:Nat} (hk:k<l.length) {d:Int} {K:Option α}:(Cnd.le (((BB l k).length+List.length [d]) * 8) 140737488355328).run K=K:=by
 have:=hl.len
 have e:=Fj l k
 simp only [Cnd.run];rw [if_pos];simp only [List.length_cons,List.length_nil];omega
theorem VE (l:List NODE) (hl:FineN l) (n:Int) (k:Nat) (hk:k<l.length) (hn:(k:Int)≤n):
 CP (l,n,BB l k,(k:Int),())=some (.inl (l,n,BB l (k+1),((k+1:Nat):Int),())):=by
 have hlen:=hl.len
 have wi:=Al (show k<9223372036854775807 by omega)
 have e0:BB l (k+1)=BB l k++[dAt l k]:=rfl
 have h1:∀ z,AH CO (l,n,BB l k,(k:Int),(0:Int),z,())=some (l,n,BB l k,(k:Int),(0:Int),()):=fun z=>BO (by
  simp only [CO,show ¬ ((0:Int)<0) by decide,decide_false,cond_false,AB,Option.map_some])
 have hdl:=Fj l k
 unfold CP;simp only [hn,decide_true,cond_true,BC hk,AB,Rv l hl,Option.bind_some];have e1:(bif !Bl l (k:Int) then some (l,n,BB l k,(k:Int),(1:Int),true,()) else bif decide ((0:Int)<(k:Int)) then (Cnd.idx (IntKind.wrap .i64 ((k:Int) - 1)) (BB l k).length).run (some (l,n,BB l k,(k:Int),(1:Int),decide (rd (BB l k) (IntKind.wrap .i64 ((k:Int) - 1)) (0:Int)=0),())) else some (l,n,BB l k,(k:Int),(1:Int),false,())) =
  some (l,n,BB l k,(k:Int),(1:Int),!(Bl l (k:Int) && (decide (k=0) || decide (rd (BB l k) ((k:Int) - 1) (0:Int)≠0))),()):=by
  cases Bl l (k:Int)
  ·rfl
  by_cases hz:k=0
  ·subst hz;rfl
  ·rw [Aa (show -9223372036854775808≤(k:Int) - 1 by omega) (by omega),Ci (show 0≤(k:Int) - 1∧(k:Int) - 1<((BB l k).length:Int) by omega)];rw [decide_eq_true (show(0:Int)<(k:Int) by omega),decide_eq_false hz];generalize rd (BB l k) ((k:Int) - 1) (0:Int)=v
   by_cases hr:v=0<;>simp [hr]
 rw [e1,AB];cases hc:Bl l (k:Int) && (decide (k=0) || decide (rd (BB l k) ((k:Int) - 1) (0:Int)≠0))
 ·have hd:dAt l k=0:=by unfold dAt MG;rw [hc];rfl
  simp only [Bool.not_false,cond_true,AB,h1,Option.bind_some,show ¬ ((10:Int)<0) by decide,decide_false,cond_false,Pw hl hk,Option.map_some,wi,e0,hd]
 ·have hok:Bl l (k:Int)=true:=by
   rw [Bool.and_eq_true] at hc;exact hc.1
  have hd:dAt l k=Tv (Kp (BB l k) l[k]):=by unfold dAt MG;rw [hc,Ag hk];rfl
  simp only [Bool.not_true,cond_false,AB,Option.bind_some,VD l hl n k hk hok,Pw hl hk,Option.map_some,wi,e0,hd,Tv];cases decide ((10:Int)<Kp (BB l k) l[k])<;>simp only [cond_true,cond_false,AB,Pw hl hk,Option.map_some,wi]
def AU (l:List NODE) (n:Int):Int:=bif decide (0≤n∧n≤(l.length:Int) - 1) then dAt l n.toNat else 0
theorem Nw (l:List NODE) (hl:FineN l) (k:Nat) (hk:k<l.length):GO l (k:Int)=some (BB l (k+1),()):=by
 have h:=VL (step:=CP) (fun j=>(l,(k:Int),BB l j,(j:Int),())) (k+1) (fun j hj=>VE l hl k j (by omega) (by omega))
 have h2:AH CP (l,(k:Int),BB l (k+1),((k+1:Nat):Int),())=some (BB l (k+1),()):=BO (by
  simp only [CP,show ¬ (((k+1:Nat):Int)≤(k:Int)) by omega,decide_false,cond_false,AB,Option.map_some])
 have h3:AH CP (l,(k:Int),[],(0:Int),())=some (BB l (k+1),()):=h.trans h2
 simp only [GO,Option.bind_some,h3,AB]
theorem Ax {l:List NODE} {n:Int} (h:(0:Int)<AU l n):(0≤n∧n<(l.length:Int))∧Bl l n=true∧∀ m,0≤m→m≤n→(0:Int)<AU l m:=by
 unfold AU at h
 by_cases hr:0≤n∧n≤(l.length:Int) - 1
 case neg=>simp [hr] at h
 rw [decide_eq_true hr,cond_true] at h;refine⟨by omega,?_,fun m h0 hm=>?_⟩
 ·have:=gq (l:=l) (k:=n.toNat) (by omega)
  rwa [show((n.toNat:Nat):Int)=n by omega] at this
 ·unfold AU;rw [decide_eq_true (by omega),cond_true];have h1:=OJ l m.toNat
  by_cases hz:dAt l m.toNat=0
  ·have:=ah l m.toNat n.toNat (by omega) hz
   omega
  ·omega
set_option maxRecDepth 100000
abbrev zF:FN:=((⟨#[]⟩:ByteArray),([],((0:Int),((0:Int),(0:Int)))))
structure FineP (c:PROG):Prop where
 n:FineN c.1
 f:c.2.length≤1048576
 a:∀ w∈c.2,(w:FN).2.1.length≤1048576
theorem TG {l:List NODE} {n:Int} (h:AU l n≠0):(0:Int)<AU l n:=by
 have:0≤AU l n:=by
  unfold AU;cases decide (0≤n∧n≤(l.length:Int) - 1)
  ·exact Int.le_refl 0
  ·exact(OJ l _).1
 omega
set_option maxRecDepth 100000
theorem Qd {α β D:Type} {step:β→Option (β ⊕ α)} (l:List D) (q:D→Bool) (S:Nat→β) (rt:Nat→α) (rf:α) (H:∀ k (h:k<l.length),step (S k)=bif q l[k] then some (.inr (rt k)) else some (.inl (S (k+1)))) (He:step (S l.length)=some (.inr rf)):
 AH step (S 0)=some (match l.findIdx? q with | some i=>rt i | none=>rf):=by
 have key:∀ m k,k+m=l.length→AH step (S k)=some (match (l.drop k).findIdx? q with | some i=>rt (k+i) | none=>rf):=by
  intro m
  induction m with
  | zero=>
   intro k hk;obtain rfl:k=l.length:=by omega
   rw [BO He,List.drop_length];rfl
  | succ m ih=>
   intro k hk;have hkl:k<l.length:=by omega
   have h1:=H k hkl
   rw [List.drop_eq_getElem_cons hkl,List.findIdx?_cons];cases hq:q l[k]
   ·rw [hq,cond_false] at h1;rw [Br h1,ih (k+1) (by omega)];cases hf:(l.drop (k+1)).findIdx? q with
    | none=>simp [hf]
    | some i=>simp [hf,Nat.add_assoc,Nat.add_comm 1 i]
   ·rw [hq,cond_true] at h1;rw [BO h1];simp
 have:=key l.length 0 (by omega)
 rw [List.drop_zero] at this;rw [this];cases l.findIdx? q<;>simp
def Ho (l:List FN) (s:ByteArray):Int:=match l.findIdx? (fun f=>decide (f.1=s)) with
 | some i=>(i:Int)
 | none=>-1
theorem Lf (p:PROG) (hp:FineP p) (s:ByteArray):HJ p s=some (Ho p.2 s,()):=by
 have hl:=hp.f
 have h:=Qd (step:=Gu) p.2 (fun f=>decide (f.1=s)) (fun k=>(s,(k:Int),p,())) (fun k=>.inr ((k:Int),())) (.inl ()) (fun k hk=>by
  simp only [Gu,BC hk,decide_true,cond_true,Ab hk,Ag hk,Al (show k<9223372036854775807 by omega)];cases decide (p.2[k].1=s)<;>rfl) (by
  simp only [Gu,Ae,decide_false,cond_false,Option.map_some])
 have h':AH Gu (s,(0:Int),p,())=_:=h
 simp only [HJ,Option.bind_some,h',Ho];cases p.2.findIdx? fun f=>decide (f.1=s)<;>rfl
set_option maxRecDepth 100000
def tb (n:Nat) (f:Nat→Int):List Int:=(List.range n).map f
theorem KX (n:Nat) (f:Nat→Int):(tb n f).length=n:=by simp [tb]
theorem TK {n:Nat} {f:Nat→Int} {k:Nat} (h:k<n):rd (tb n f) (k:Int) (0:Int)=f k:=by
 rw [Ag (by rw [KX];exact h)];simp [tb]
def upd (f:Nat→Int) (k:Nat) (v:Int):Nat→Int:=fun t=>if t=k then v else f t
theorem Qt {n:Nat} {f:Nat→Int} {k:Nat} (h:k<n) (v:Int):(tb n f).set k v=tb n (upd f k v):=by
 apply List.ext_getElem
 ·rw [List.length_set,KX,KX]
 ·intro i h1 h2;rw [List.getElem_set];simp only [tb,List.getElem_map,List.getElem_range,upd]
  by_cases e:k=i
  ·rw [if_pos e,if_pos e.symm]
  ·rw [if_neg e,if_neg (fun h=>e h.symm)]
theorem io (n:Nat):List.replicate n (0:Int)=tb n (fun _=>0):=by
 apply List.ext_getElem
 ·rw [List.length_replicate,KX]
 ·intro i h1 h2;simp [tb]
def cnO:List Int→Nat→Nat
 | [],_=>0
 | y::l,t=>(bif decide (y=(t:Int)) then 1 else 0)+cnO l t
theorem gp (a b:List Int) (t:Nat):cnO (a++b) t=cnO a t+cnO b t:=by
 induction a with
 | nil=>simp [cnO]
 | cons y a ih=>simp only [List.cons_append,cnO,ih];omega
theorem cM (l:List Int) (t:Nat):cnO l t≤l.length:=by
 induction l with
 | nil=>exact Nat.le_refl _
 | cons y l ih=>
  simp only [cnO,List.length_cons];cases decide (y=(t:Int))<;>simp only [cond_true,cond_false]<;>omega
def bump (f:Nat→Int) (y:Int):Nat→Int:=upd f y.toNat (f y.toNat+1)
theorem Vc (f:Nat→Int) {y:Int} (hy:0≤y) (t:Nat):bump f y t=f t+(bif decide (y=(t:Int)) then 1 else 0):=by
 unfold bump upd
 by_cases e:t=y.toNat
 ·have:y=(t:Int):=by omega
  rw [if_pos e,decide_eq_true this,cond_true,e]
 ·have:¬ y=(t:Int):=by omega
  rw [if_neg e,decide_eq_false this,cond_false];omega
theorem jC (ks:List Int) (hk:∀ y∈ks,(0:Int)≤y):∀ f:Nat→Int,ks.foldl bump f=fun t=>f t+(cnO ks t:Int):=by
 induction ks with
 | nil=>intro f;funext t;simp [cnO]
 | cons y ks ih=>
  intro f;rw [List.foldl_cons,ih (fun z hz=>hk z (List.mem_cons_of_mem _ hz))]
  funext t
  rw [Vc f (hk y (List.mem_cons_self ..)) t];simp only [cnO];cases decide (y=(t:Int))<;>simp only [cond_true,cond_false]<;>omega
def us:List NODE→Nat→Nat
 | [],_=>0
 | x::l,t=>cnO x.2.2.2 t+us l t
theorem iu (a b:List NODE) (t:Nat):us (a++b) t=us a t+us b t:=by
 induction a with
 | nil=>simp [us]
 | cons y a ih=>simp only [List.cons_append,us,ih];omega
structure Kd (l:List NODE):Prop where
 k:∀ x∈l,∀ y∈(x:NODE).2.2.2,(0:Int)≤y∧y<(l.length:Int)
def BI (B:Int) (f:Nat→Int):Prop:=∀ t,0≤f t∧f t≤B
theorem BI.bump {B:Int} {f:Nat→Int} (h:BI B f) {y:Int} (hy:0≤y):BI (B+1) (bump f y):=by
 intro t;rw [Vc f hy t];have:=h t
 cases decide (y=(t:Int))<;>simp only [cond_true,cond_false]<;>omega
theorem de (l:List NODE) (hl:FineN l) (hk:Kd l) (i:Nat) (hi:i<l.length) (f:Nat→Int) {B:Int} (hB:B≤1000000000000) (hf:BI B f):
 AH EX (l,tb l.length f,(i:Int),(0:Int),())=some (l,tb l.length (l[i].2.2.2.foldl bump f),(i:Int),()):=by
 have hx:=hl.kid _ (List.getElem_mem hi)
 have hkk:=hk.k _ (List.getElem_mem hi)
 have hr:rd l (i:Int) zN=l[i]:=Ag hi
 generalize l[i]=x at hx hkk hr;have h:=CZ (step:=EX) x.2.2.2 bump (fun j f=>(l,tb l.length f,(i:Int),(j:Int),())) (fun f=>(l,tb l.length f,(i:Int),())) (fun j f=>BI (B+(j:Int)) f) (fun j hj f hf=>by
  obtain⟨h1,h2⟩:=hkk _ (List.getElem_mem hj);refine⟨?_,by rw [show B+((j+1:Nat):Int)=B+(j:Int)+1 by omega];exact hf.bump h1⟩
  have wj:=Al (show j<9223372036854775807 by omega)
  obtain⟨y,hy⟩:∃ y:Nat,x.2.2.2[j]=(y:Int):=⟨x.2.2.2[j].toNat,by omega⟩
  rw [hy] at h2 ⊢;have hyl:y<l.length:=by omega
  have hyt:y<(tb l.length f).length:=by rw [KX];exact hyl
  have hb:=hf y
  simp only [EX,Ab hi,hr,BC hj,decide_true,cond_true,Ab hj,Ag hj,hy,Ab hyt,TK hyl,Int.toNat_natCast,Qt hyl,Au,Option.map_some,wj,Aa (show -9223372036854775808≤f y+1 by omega) (show f y+1<9223372036854775808 by omega),bump]) (fun f hf=>by
  simp only [EX,Ab hi,hr,Ae,decide_false,cond_false,Option.map_some]) f (by simpa using hf)
 exact h.1
def bumpN (f:Nat→Int) (x:NODE):Nat→Int:=x.2.2.2.foldl bump f
theorem Tn (f:Nat→Int) (x:NODE) (hx:∀ y∈x.2.2.2,(0:Int)≤y):bumpN f x=fun t=>f t+(cnO x.2.2.2 t:Int):=jC _ hx f
theorem gH (l:List NODE) (hk:∀ x∈l,∀ y∈(x:NODE).2.2.2,(0:Int)≤y):∀ f:Nat→Int,l.foldl bumpN f=fun t=>f t+(us l t:Int):=by
 induction l with
 | nil=>intro f;funext t;simp [us]
 | cons x l ih=>
  intro f;rw [List.foldl_cons,ih (fun z hz=>hk z (List.mem_cons_of_mem _ hz)),Tn f x (hk x (List.mem_cons_self ..))]
  funext t
  simp only [us];omega
theorem BI.bumpN {B:Int} {f:Nat→Int} (h:BI B f) {x:NODE} (hx:∀ y∈x.2.2.2,(0:Int)≤y) (hl:x.2.2.2.length≤1048576):BI (B+1048576) (bumpN f x):=by
 intro t;rw [Tn f x hx];have:=h t
 have:=cM x.2.2.2 t
 simp only;omega
def U (l:List NODE):Nat→Int:=fun t=>(us l t:Int)
theorem jd (l:List NODE) (hl:FineN l) (hk:Kd l) (h300:l.length≤300):JZ l=some (tb l.length (U l),()):=by
 have h:=CZ (step:=EY) l bumpN (fun i f=>(l,tb l.length f,(i:Int),())) (fun f=>(tb l.length f,())) (fun i f=>BI ((i:Int) * 1048576) f) (fun i hi f hf=>by
  have hx:=hl.kid _ (List.getElem_mem hi)
  have hkk:=hk.k _ (List.getElem_mem hi)
  refine⟨?_,by rw [show((i+1:Nat):Int) * 1048576=(i:Int) * 1048576+1048576 by omega];exact hf.bumpN (fun y hy=>(hkk y hy).1) hx⟩
  simp only [EY,BC hi,decide_true,cond_true,Option.bind_some,de l hl hk i hi f (show(i:Int) * 1048576≤1000000000000 by omega) hf,AB,Option.map_some,Al (show i<9223372036854775807 by omega),bumpN]) (fun f hf=>by
  simp only [EY,Ae,decide_false,cond_false,Option.map_some]) (fun _=>0) (fun t=>by simp)
 have h1:=h.1
 rw [gH l (fun x hx y hy=>(hk.k x hx y hy).1)] at h1;have h':AH EY (l,List.replicate l.length (0:Int),(0:Int),())=some (tb l.length (U l),()):=by
  rw [io];refine h1.trans ?_
  have:(fun t=>(0:Int)+(us l t:Int))=U l:=by funext t;simp [U]
  rw [this]
 have hb:∀ {α:Type} {K:Option α},(Cnd.both (Cnd.nn (l.length:Int)) (Cnd.le (l.length * 8) 140737488355328)).run K=K:=fun {α} {K}=>by
  simp only [Cnd.run];rw [if_pos (by omega),if_pos (by omega)]
 simp only [JZ,Int.toNat_natCast,hb,Option.bind_some,h',AB]
set_option maxRecDepth 100000
def Xb (q:ByteArray×Int):Bool:=Bj q.1 && decide (1≤q.2∧q.2≤4)
def bc (x:FN):Bool:=x.2.1.all Xb
def QS (l:List NODE) (x:FN):Bool:=decide (0≤x.2.2.2.1∧x.2.2.2.1≤(l.length:Int) - 1) && decide ((rd l x.2.2.2.1 zN).1=20)
def Qj (l:List NODE) (x:FN):Bool:=bif decide (x.2.2.1=0) then decide (x.2.2.2.2 = -1) else decide (0≤x.2.2.2.2∧x.2.2.2.2≤(l.length:Int) - 1) && decide (1≤(rd l x.2.2.2.2 zN).1∧(rd l x.2.2.2.2 zN).1≤12)
def fnI (l:List NODE) (x:FN):Bool:=Bj x.1 && (decide ((x.2.1.length:Int)≤3) && (decide (0≤x.2.2.1∧x.2.2.1≤2) && (bc x && (QS l x && Qj l x))))
def NO (p:PROG) (i:Int):Bool:=fnI p.1 (rd p.2 i zF) && decide (Ho p.2 (rd p.2 i zF).1=i)
theorem jT (p:PROG) (x:FN) (hx:x.2.1.length≤1048576):AH GK ((0:Int),p,x,())=some (bif bc x then .inl (p,x,()) else .inr (false,())):=by
 exact CF (step:=GK) x.2.1 Xb (fun k=>((k:Int),p,x,())) (.inl (p,x,())) (.inr (false,())) (fun k hk=>by
  have wk:=Al (show k<9223372036854775807 by omega)
  simp only [GK,BC hk,decide_true,cond_true,Ab hk,Ag hk,Cw,sIn,Option.bind_some,Xb];cases Bj x.2.1[k].1
  ·simp only [Bool.not_false,cond_true,AB,Option.map_some,Bool.false_and,cond_false]
  ·cases decide (1≤x.2.1[k].2∧x.2.1[k].2≤4)<;>simp only [Bool.not_true,Bool.not_false,cond_true,cond_false,AB,Option.map_some,Bool.and_self,Bool.and_false,wk]) (by
  simp only [GK,Ae,decide_false,cond_false,Option.map_some])
theorem Xg (p:PROG) (hp:FineP p) (i:Nat) (hi:i<p.2.length):LD p (i:Int)=some (NO p (i:Int),()):=by
 unfold LD NO fnI;have hx:=hp.a _ (List.getElem_mem hi)
 rw [Ab hi];have hr:rd p.2 (i:Int) zF=p.2[i]:=Ag hi
 rw [hr];generalize p.2[i]=x at hx;have e:((CH x.1).bind fun y1=>bif !y1.1 then some (true,p,x,()) else (HJ p x.1).bind fun y2=>bif decide (y2.1≠(i:Int)) then some (true,p,x,()) else bif decide ((3:Int)<(x.2.1.length:Int)) then some (true,p,x,()) else (Av x.2.2.1 (0:Int) (2:Int)).bind fun y3=>some (!y3.1,p,x,())) =
  some (!(Bj x.1 && (decide (Ho p.2 x.1=(i:Int)) && (decide ((x.2.1.length:Int)≤3) && decide (0≤x.2.2.1∧x.2.2.1≤2)))),p,x,()):=by
  simp only [Cw,Lf p hp,sIn,Option.bind_some];cases Bj x.1
  ·rfl
  by_cases h2:Ho p.2 x.1=(i:Int)
  ·by_cases h3:(3:Int)<(x.2.1.length:Int)
   ·simp only [h2,h3,show ¬ ((x.2.1.length:Int)≤3) by omega,ne_eq,not_true_eq_false,decide_true,decide_false,cond_true,cond_false,Bool.not_true,Bool.false_and,Bool.and_false,Bool.not_false]
   ·simp only [h2,h3,show((x.2.1.length:Int)≤3) by omega,ne_eq,not_true_eq_false,decide_true,decide_false,cond_false,Bool.not_true,Bool.true_and]
  ·simp only [h2,ne_eq,not_false_eq_true,decide_true,decide_false,cond_true,cond_false,Bool.not_true,Bool.false_and,Bool.and_false,Bool.not_false]
 rw [e,AB];cases hA:Bj x.1
 ·simp only [Bool.false_and,Bool.not_false,cond_true]
 cases hB:decide (Ho p.2 x.1=(i:Int))
 ·simp only [Bool.false_and,Bool.and_false,Bool.not_false,cond_true]
 cases hC:decide ((x.2.1.length:Int)≤3)
 ·simp only [Bool.false_and,Bool.and_false,Bool.not_false,cond_true]
 cases hD:decide (0≤x.2.2.1∧x.2.2.1≤2)
 ·simp only [Bool.false_and,Bool.and_false,Bool.not_false,cond_true]
 simp only [Bool.and_self,Bool.not_true,cond_false,Option.bind_some,jT p x hx,Bool.true_and,Bool.and_true];cases hP:bc x
 ·simp only [cond_false,Bh,Bool.false_and]
 simp only [cond_true,Bd,Bool.true_and,Oq hp.n.len,sIn,Option.bind_some,GP,QS,Qj]
 by_cases hb:0≤x.2.2.2.1∧x.2.2.2.1≤(p.1.length:Int) - 1
 ·simp only [hb,and_self,decide_true,Bool.not_true,cond_false,Ci (show 0≤x.2.2.2.1∧x.2.2.2.1<(p.1.length:Int) by omega),AB,Bool.true_and]
  by_cases h20:(rd p.1 x.2.2.2.1 zN).1=20
  ·simp only [h20,ne_eq,not_true_eq_false,decide_true,decide_false,cond_false,Bool.true_and];cases decide (x.2.2.1=0)
   ·simp only [cond_false]
    by_cases hc:0≤x.2.2.2.2∧x.2.2.2.2≤(p.1.length:Int) - 1
    ·simp only [Oq hp.n.len,hc,and_self,decide_true,cond_true,Ci (show 0≤x.2.2.2.2∧x.2.2.2.2<(p.1.length:Int) by omega),AB,Bool.true_and]
    ·simp only [Oq hp.n.len,hc,decide_false,cond_false,AB,Bool.false_and]
   ·simp only [cond_true]
  ·simp only [h20,ne_eq,not_false_eq_true,decide_true,decide_false,cond_true,Bool.false_and]
 ·simp only [hb,decide_false,Bool.not_false,cond_true,AB,Bool.false_and]
set_option maxRecDepth 100000
def GD {γ D:Type} (q:γ→D→Bool) (g:γ→D→γ):List D→γ→Option γ
 | [],c=>some c
 | x::l,c=>bif q c x then GD q g l (g c x) else none
theorem Yg {α β γ D:Type} {step:β→Option (β ⊕ α)} (l:List D) (q:γ→D→Bool) (g:γ→D→γ) (S:Nat→γ→β) (r:γ→α) (rf:α) (I:Nat→γ→Prop)
 (H:∀ k (h:k<l.length) c,I k c→(step (S k c)=bif q c l[k] then some (.inl (S (k+1) (g c l[k]))) else some (.inr rf))∧(q c l[k]=true→I (k+1) (g c l[k])))
 (He:∀ c,I l.length c→step (S l.length c)=some (.inr (r c))) (c:γ) (hc:I 0 c):
 AH step (S 0 c)=some ((GD q g l c).elim rf r):=by
 have key:∀ m k c,k+m=l.length→I k c→AH step (S k c)=some ((GD q g (l.drop k) c).elim rf r):=by
  intro m
  induction m with
  | zero=>
   intro k c hk hI;obtain rfl:k=l.length:=by omega
   rw [BO (He c hI),List.drop_length];rfl
  | succ m ih=>
   intro k c hk hI;have hkl:k<l.length:=by omega
   obtain⟨h1,h2⟩:=H k hkl c hI;rw [List.drop_eq_getElem_cons hkl,GD];cases hq:q c l[k]
   ·rw [hq,cond_false] at h1;rw [BO h1];rfl
   ·rw [hq,cond_true] at h1;rw [Br h1,ih (k+1) _ (by omega) (h2 hq)];rfl
 have:=key l.length 0 c (by omega) hc
 rwa [List.drop_zero] at this
theorem bj {α:Type} (l:List α) (z:α):(List.range l.length).map (fun(i:Nat)=>rd l (i:Int) z)=l:=by
 apply List.ext_getElem
 ·simp
 ·intro i h1 h2;rw [List.getElem_map,List.getElem_range,Ag h2]
def roots (x:FN):List Int:=x.2.2.2.1::bif decide (0≤x.2.2.2.2) then [x.2.2.2.2] else []
def Lb:List FN→List Int
 | []=>[]
 | x::l=>roots x++Lb l
def add (f:Nat→Int) (y:Int):Nat→Int:=upd f y.toNat (f y.toNat+1000)
theorem lh (rs:List Int) (hr:∀ y∈rs,(0:Int)≤y):∀ f:Nat→Int,rs.foldl add f=fun t=>f t+1000 * (cnO rs t:Int):=by
 induction rs with
 | nil=>intro f;funext t;simp [cnO]
 | cons y rs ih=>
  intro f;rw [List.foldl_cons,ih (fun z hz=>hr z (List.mem_cons_of_mem _ hz))]
  funext t
  have hy:=hr y (List.mem_cons_self ..)
  simp only [add,upd,cnO]
  by_cases e:t=y.toNat
  ·have:y=(t:Int):=by omega
   rw [if_pos e,decide_eq_true this,cond_true,← e];omega
  ·have:¬ y=(t:Int):=by omega
   rw [if_neg e,decide_eq_false this,cond_false];omega
theorem SQ {p:PROG} {i:Int} (h:NO p i=true):∀ y∈roots (rd p.2 i zF),(0:Int)≤y∧y<(p.1.length:Int):=by
 simp only [NO,fnI,QS,Bool.and_eq_true,decide_eq_true_eq] at h;obtain⟨⟨_,_,_,_,⟨hb,_⟩,hr⟩,_⟩:=h;intro y hy;unfold roots at hy;rcases List.mem_cons.1 hy with rfl | hy
 ·omega
 ·cases hd:decide ((0:Int)≤(rd p.2 i zF).2.2.2.2)
  ·rw [hd,cond_false] at hy;cases hy
  ·rw [hd,cond_true] at hy;obtain rfl:=List.mem_singleton.1 hy;have hd:=of_decide_eq_true hd
   unfold Qj at hr;cases h0:decide ((rd p.2 i zF).2.2.1=0)
   ·rw [h0,cond_false,Bool.and_eq_true,decide_eq_true_eq] at hr;omega
   ·rw [h0,cond_true,decide_eq_true_eq] at hr;omega
def Th (p:PROG):Bool:=(List.range p.2.length).all fun i=>NO p (i:Int)
def gS (p:PROG) (f:Nat→Int) (i:Nat):Nat→Int:=(roots (rd p.2 (i:Int) zF)).foldl add f
theorem Qm {γ D:Type} (q:D→Bool) (g:γ→D→γ):∀ (l:List D) (c:γ),GD (fun _ x=>q x) g l c=bif l.all q then some (l.foldl g c) else none
 | [],c=>rfl
 | x::l,c=>by
  simp only [GD,List.all_cons,List.foldl_cons];cases q x
  ·rfl
  ·simp only [cond_true,Bool.true_and];exact Qm q g l _
theorem PO (p:PROG):∀ (l:List FN) (f:Nat→Int),l.foldl (fun f x=>(roots x).foldl add f) f=(Lb l).foldl add f
 | [],f=>rfl
 | x::l,f=>by
  simp only [List.foldl_cons,Lb,List.foldl_append];exact PO p l _
theorem hZ (p:PROG) (f:Nat→Int):(List.range p.2.length).foldl (gS p) f=(Lb p.2).foldl add f:=by
 have h:=List.foldl_map (f:=fun i:Nat=>rd p.2 (i:Int) zF) (g:=fun(f:Nat→Int) x=>(roots x).foldl add f) (l:=List.range p.2.length) (init:=f)
 rw [bj] at h;rw [PO p] at h;exact h.symm
theorem nW (p:PROG) (hp:FineP p) (f:Nat→Int) (hf:BI 1000000000 f):
 AH Cf (tb p.1.length f,(0:Int),p,())=some (bif Th p then .inl (tb p.1.length ((Lb p.2).foldl add f),()) else .inr (false,())):=by
 have hl:=hp.f
 have hr:(List.range p.2.length).length=p.2.length:=List.length_range
 have h:=Yg (step:=Cf) (List.range p.2.length) (fun _ (i:Nat)=>NO p (i:Int)) (gS p) (fun i f=>(tb p.1.length f,(i:Int),p,())) (fun f=>.inl (tb p.1.length f,())) (.inr (false,())) (fun k f=>BI (1000000000+(k:Int) * 2000) f) (fun k hk f hf=>by
  have hk':k<p.2.length:=by omega
  rw [List.getElem_range];have wk:=Al (show k<9223372036854775807 by omega)
  refine⟨?_,fun hq=>?_⟩
  ·simp only [Cf,BC hk',decide_true,cond_true,Xg p hp k hk',Option.bind_some,Ab hk'];cases hq:NO p (k:Int)
   ·simp only [Bool.not_false,cond_true,cond_false,Option.map_some]
   ·have hro:=SQ hq
    simp only [Bool.not_true,cond_false,cond_true,gS];generalize rd p.2 (k:Int) zF=x at hro;obtain⟨b0,b1⟩:=hro x.2.2.2.1 (List.mem_cons_self ..);obtain⟨b,hb⟩:∃ b:Nat,x.2.2.2.1=(b:Int):=⟨x.2.2.2.1.toNat,by omega⟩
    have hbl:b<p.1.length:=by omega
    have hbt:b<(tb p.1.length f).length:=by rw [KX];exact hbl
    have hfb:=hf b
    have w1:IntKind.wrap .i64 (f b+1000)=f b+1000:=Aa (by omega) (by omega)
    by_cases hc:(0:Int)≤x.2.2.2.2
    ·obtain⟨c0,c1⟩:=hro x.2.2.2.2 (by unfold roots;rw [decide_eq_true hc];simp);obtain⟨c,hcc⟩:∃ c:Nat,x.2.2.2.2=(c:Int):=⟨x.2.2.2.2.toNat,by omega⟩
     have hcl:c<p.1.length:=by omega
     have hct:∀ f,c<(tb p.1.length f).length:=fun f=>by rw [KX];exact hcl
     have hfc:=hf c
     have hu:0≤upd f b (f b+1000) c∧upd f b (f b+1000) c≤2000000000000:=by
      unfold upd;split<;>omega
     have w2:IntKind.wrap .i64 (upd f b (f b+1000) c+1000)=upd f b (f b+1000) c+1000:=Aa (by omega) (by omega)
     simp only [hb,hcc,Ab hbt,TK hbl,w1,Int.toNat_natCast,Qt hbl,Au,show(0:Int)≤(c:Int) by omega,decide_true,cond_true,Ab (hct _),TK hcl,w2,Qt hcl,AB,Option.map_some,wk,roots,List.foldl_cons,List.foldl_nil,add]
    ·simp only [hb,hc,Ab hbt,TK hbl,w1,Int.toNat_natCast,Qt hbl,Au,decide_false,cond_false,AB,Option.map_some,wk,roots,List.foldl_cons,List.foldl_nil,add]
  ·have hro:=SQ hq
   unfold gS;rw [lh _ (fun y hy=>(hro y hy).1)];intro t;have h1:=hf t
   have h2:=cM (roots (rd p.2 (k:Int) zF)) t
   have h3:(roots (rd p.2 (k:Int) zF)).length≤2:=by
    unfold roots;cases decide ((0:Int)≤(rd p.2 (k:Int) zF).2.2.2.2)<;>simp
   simp only;omega) (fun f hf=>by
  rw [hr];simp only [Cf,Ae,decide_false,cond_false,Option.map_some]) f (by simpa using hf)
 have h':AH Cf (tb p.1.length f,(0:Int),p,())=_:=h
 rw [h',Qm,hZ];unfold Th;cases (List.range p.2.length).all fun i=>NO p (i:Int)<;>rfl
def bA (b:Int) (l:List Int):Bool:=l.all fun v=>decide (v=1) || decide (v=b)
theorem jJ (l:List Int) (hl:l.length≤1048576):AH DZ (l,(0:Int),())=some (bif bA 1000 l then .inl () else .inr (false,())):=by
 exact CF (step:=DZ) l (fun v=>decide (v=1) || decide (v=1000)) (fun k=>(l,(k:Int),())) (.inl ()) (.inr (false,())) (fun k hk=>by
  have wk:=Al (show k<9223372036854775807 by omega)
  simp only [DZ,BC hk,decide_true,cond_true,Ab hk,Ag hk];generalize l[k]=v
  by_cases h1:v=1
  ·simp only [h1,ne_eq,not_true_eq_false,decide_false,decide_true,cond_false,AB,Option.map_some,wk,Bool.true_or,cond_true]
  ·by_cases h2:v=1000
   ·simp only [h2,show ¬ ((1000:Int)=1) by decide,ne_eq,not_true_eq_false,not_false_eq_true,decide_false,decide_true,cond_false,cond_true,AB,Option.map_some,wk,Bool.or_true]
   ·simp only [h1,h2,ne_eq,not_false_eq_true,decide_false,decide_true,cond_false,cond_true,AB,Option.map_some,Bool.or_self]) (by
  simp only [DZ,Ae,decide_false,cond_false,Option.map_some])
set_option maxRecDepth 100000
theorem Ve:∀ (l:List Int) (n:Int) (t:Nat),UL l n=false→n=(t:Int)→cnO l t=0
 | [],_,_,_,_=>rfl
 | y::l,n,t,h,e=>by
  simp only [UL,List.any_cons,Bool.or_eq_false_iff] at h;have h1:decide (y=(t:Int))=false:=by rw [← e];exact h.1
  simp only [cnO,h1,cond_false,Ve l n t h.2 e]
theorem bL {l:List NODE} {k:Int} (h:Bl l k=true) (t:Nat):cnO (rd l k zN).2.2.2 t≤1:=by
 simp only [Bl,HG,OS,Bool.and_eq_true,List.all_eq_true] at h;have hd:=h.2.2.2.2.2
 generalize rd l k zN=x at hd;have key:∀ i,i≤x.2.2.2.length→cnO (x.2.2.2.take i) t≤1:=by
  intro i
  induction i with
  | zero=>intro _;simp [cnO]
  | succ i ih=>
   intro hi;have hi':i<x.2.2.2.length:=by omega
   have:=hd i (by simpa using hi')
   simp only [On,Bool.and_eq_true,Bool.not_eq_true'] at this;have hh:=this.2.2
   have e:x.2.2.2.getD i 0=x.2.2.2[i]:=by simp [hi']
   rw [e] at hh;rw [List.take_succ_eq_append_getElem hi',gp]
   by_cases et:x.2.2.2[i]=(t:Int)
   ·rw [Ve _ _ t hh et];simp only [cnO,decide_eq_true et,cond_true];omega
   ·simp only [cnO,decide_eq_false et,cond_false];have:=ih (by omega)
    omega
 have:=key x.2.2.2.length (Nat.le_refl _)
 rwa [List.take_length] at this
def AllN (l:List NODE):Prop:=∀ k:Nat,k<l.length→Bl l (k:Int)=true∧dAt l k≠0
theorem VY {l:List NODE} (h:(0:Int)<AU l ((l.length:Int) - 1)):AllN l:=fun k hk=>by
 obtain⟨h1,h2,h3⟩:=Ax h;have h4:=h3 (k:Int) (by omega) (by omega)
 refine⟨(Ax h4).2.1,?_⟩
 unfold AU at h4;rw [decide_eq_true (by omega),cond_true,Int.toNat_natCast] at h4;omega
theorem AllN.kd {l:List NODE} (h:AllN l):Kd l:=⟨fun x hx y hy=>by
 obtain⟨k,hk,rfl⟩:=List.getElem_of_mem hx;have h1:=Oo (h k hk).1
 rw [Ag hk] at h1;have:=h1 y hy
 omega⟩
theorem jc {l:List NODE} (h:AllN l) (t:Nat):us l t≤l.length:=by
 have key:∀ k,k≤l.length→us (l.take k) t≤k:=by
  intro k
  induction k with
  | zero=>intro _;simp [us]
  | succ k ih=>
   intro hk;have hk':k<l.length:=by omega
   have h1:=bL (h k hk').1 t
   rw [Ag hk'] at h1;rw [List.take_succ_eq_append_getElem hk',iu];have:=ih (by omega)
   simp only [us];omega
 have:=key l.length (Nat.le_refl _)
 rwa [List.take_length] at this
def HH (p:PROG):Bool:=decide (1≤(p.1.length:Int)∧(p.1.length:Int)≤300) && (decide (1≤(p.2.length:Int)∧(p.2.length:Int)≤8) && (decide ((0:Int)<AU p.1 ((p.1.length:Int) - 1)) && (Th p && bA 1000 (tb p.1.length ((Lb p.2).foldl add (U p.1))))))
theorem Oa (p:PROG) (hp:FineP p):Fe p=some (HH p,()):=by
 unfold Fe HH;simp only [sIn,Option.bind_some]
 by_cases h1:1≤(p.1.length:Int)∧(p.1.length:Int)≤300
 case neg=>simp only [h1,decide_false,Bool.not_false,cond_true,AB,Bool.false_and]
 by_cases h2:1≤(p.2.length:Int)∧(p.2.length:Int)≤8
 case neg=>simp only [h1,h2,and_self,decide_true,decide_false,Bool.not_true,Bool.not_false,cond_true,cond_false,AB,Bool.false_and,Bool.and_false]
 have hlast:p.1.length - 1<p.1.length:=by omega
 have ec:(p.1.length:Int) - 1=((p.1.length - 1:Nat):Int):=by omega
 have hD:=Nw p.1 hp.n (p.1.length - 1) hlast
 have hsucc:p.1.length - 1+1=p.1.length:=by omega
 rw [hsucc] at hD;have hlen:=Fj p.1 p.1.length
 have hg:=HA p.1 p.1.length (p.1.length - 1) hlast
 have hdA:AU p.1 ((p.1.length - 1:Nat):Int)=dAt p.1 (p.1.length - 1):=by
  unfold AU;rw [decide_eq_true (by omega),cond_true,Int.toNat_natCast]
 have hdl:=OJ p.1 (p.1.length - 1)
 have wr2:IntKind.wrap .i64 ((p.1.length - 1:Nat):Int)=((p.1.length - 1:Nat):Int):=Aa (by omega) (by omega)
 simp only [h1,h2,and_self,decide_true,Bool.not_true,cond_false,AB,Bool.true_and,ec,wr2,hD,Option.bind_some,hlen,Ab hlast,hg,hdA]
 by_cases hz:dAt p.1 (p.1.length - 1)=0
 ·simp only [hz,decide_true,cond_true,show ¬ ((0:Int)<0) by decide,decide_false,Bool.false_and]
 have hpos:(0:Int)<dAt p.1 (p.1.length - 1):=by omega
 have hA:AllN p.1:=VY (by rw [ec,hdA];exact hpos)
 simp only [hz,hpos,decide_false,decide_true,cond_false,jd p.1 hp.n hA.kd (by omega),Option.bind_some,Bool.true_and];have hU:BI 1000000000 (U p.1):=fun t=>by
  have:=jc hA t
  unfold U;omega
 rw [nW p hp _ hU];cases Th p
 ·simp only [cond_false,Bh,Bool.false_and]
 ·simp only [cond_true,Bd,Option.bind_some,Bool.true_and];rw [jJ _ (by rw [KX];omega)];cases bA 1000 (tb p.1.length ((Lb p.2).foldl add (U p.1)))<;>simp only [cond_true,cond_false,Bd,Bh]
set_option maxRecDepth 100000
section
variable {L:List SIGN} (hL:L.length≤3000)
include hL
theorem LX (r:RD) (k:Int) (s:ByteArray) (h:ROk L r):wp (Bm r k s) fun y=>Pg L r y.2.1:=by
 unfold Bm;exact AF (AD (MS hL r h) fun v hv=>AF (AD (CQ hL _ _ hv.ok) fun m hm=>AF (AD (Da hL _ _ (by simp) hm.ok) fun p hp=>AA (hv.mv (hm.toMv.trans hp)))))
abbrev FS:=RD→Option (List Int×RD×Unit)
theorem Xk {r0 r0':FS} {r1 r1' r2 r2':FV} (r:RD) (h:ROk L r) (H1:∀ q,ROk L q→r.2.1≤q.2.1→wq (r1 q) (r1' q) fun y=>Pg L q y.2.1):wq (Di r0 r1 r2 r) (Di r0' r1' r2' r) fun y=>Mv L r y.2.1∧y.1.length≤100000:=by
 unfold Di;refine BF (AK (AJ (AG (Io (fun x:Eu=>Mv L r x.2.1∧((x.1.length:Int)≤x.2.1.2.1∨(x.2.1.2.2.1=true∧(x.1.length:Int)≤x.2.1.2.1+1))) (fun x=>2 * (L.length - x.2.1.2.1).toNat+(bif x.2.1.2.2.1 then 0 else 1)) (Q:=fun x:List Int×RD×Unit=>Mv L r x.2.1∧x.1.length≤100000) (fun x hx=>?_) ⟨.rfl' h,.inl (by have:=h.a0;simpa using this)⟩) fun z hz=>AJ hz)))
 obtain⟨x1,x2,_⟩:=x;simp only at hx;obtain⟨g1,g2⟩:=hx;have ga:=g1.ok.a1
 unfold Ih;simp only;refine BF (AG (Q:=fun z:List Int×Bool×RD×Unit=>z.1=x1∧z.2.2.1=x2∧(z.2.1=true→x2.2.2.1=false)) (Ad (fun hb=>?_) fun _=>AJ ⟨rfl,rfl,fun h=>by cases h⟩) fun z hz=>?_)
 ·have hbad:x2.2.2.1=false:=by
   cases hc:x2.2.2.1
   ·rfl
   ·rw [hc] at hb;cases hb
  refine AK (AG (Af (XP hL x2 3 _ g1.ok)) fun y hy=>Ad (fun _=>?_) fun _=>AJ ⟨rfl,hy.1,fun h=>by cases h⟩)
  rw [hy.1];exact AK (AG (Af (XP hL x2 1 _ g1.ok)) fun y2 hy2=>AJ ⟨rfl,hy2.1,fun _=>hbad⟩)
 obtain⟨z1,z2,z3,_⟩:=z;simp only at hz;obtain⟨e1,e2,hb⟩:=hz;subst e1 e2;simp only;refine Ad (fun hb2=>?_) fun _=>CA (AJ (Ah ⟨g1,by simp only;omega⟩))
 have hbad:=hb hb2
 have gl:(z1.length:Int)≤z3.2.1:=by
  rcases g2 with g2 | ⟨g2,_⟩
  ·exact g2
  ·rw [hbad] at g2;cases g2
 refine AK (AG (H1 _ g1.ok g1.le) fun y5 hy5=>Ar (by simp only [Cnd.holds,List.length_singleton];omega) (CA (AJ (Aj ⟨⟨(g1.pg hy5).toMv,?_⟩,?_⟩))))
 ·have h2:=hy5.le
  simp only [List.length_append,List.length_singleton];rcases hy5.pg with h1 | h1
  ·exact .inr ⟨h1,by omega⟩
  ·exact .inl (by omega)
 ·have h2:=hy5.le
  have h3:=hy5.ok.a1
  simp only [hbad,cond_false];rcases hy5.pg with h1 | h1
  ·rw [h1,cond_true];omega
  ·cases y5.2.1.2.2.1<;>simp only [cond_true,cond_false]<;>omega
theorem Wo {r0 r0':FS} {r1 r1' r2 r2':FV} (r:RD) (h:ROk L r) (H0:∀ q,ROk L q→r.2.1≤q.2.1→wq (r0 q) (r0' q) fun y=>Mv L q y.2.1∧y.1.length≤100000):wq (Dh r0 r1 r2 r) (Dh r0' r1' r2' r) fun y=>Pg L r y.2.1:=by
 unfold Dh;have m0:=(Mv.rfl' h).deep (IntKind.wrap .i64 (r.2.2.2.1+1))
 refine BF (AG (Q:=fun x:RD×Unit=>Mv L r x.1) (Ad (fun _=>AJ ⟨⟨m0.ok.l,m0.ok.a0,m0.ok.a1,m0.ok.n,m0.ok.k⟩,Int.le_refl _,fun _=>rfl⟩) fun _=>AJ m0) fun x hx=>?_)
 refine AK (AG (Af (CQ hL _ _ hx.ok)) fun y2 hy2=>AK (AG (H0 _ hy2.ok (Int.le_trans hx.le hy2.le)) fun y3 hy3=>AK (AG (Af (CQ hL _ _ hy3.1.ok)) fun y4 hy4=>?_)))
 have p:=((hx.pg hy2).mv (hy3.1.trans hy4.toMv)).deep (IntKind.wrap .i64 (y4.1.2.2.2.1 - 1))
 exact AK (AG (Af (Da hL _ _ hy3.2 p.ok)) fun y5 hy5=>AJ (p.mv hy5))
theorem Xj {r0 r0':FS} {r1 r1' r2 r2':FV} (r:RD) (h:ROk L r) (H2:∀ q,ROk L q→r.2.1<q.2.1→wq (r2 q) (r2' q) fun y=>Pg L q y.2.1):wq (EJ r0 r1 r2 r) (EJ r0' r1' r2' r) fun y=>Pg L r y.2.1:=by
 unfold EJ;have nx:∀ {a b:RD},Mv L r a→a.2.1<b.2.1→r.2.1<b.2.1:=fun h1 h2=>by have:=h1.le;omega
 refine AK (AG (Af (BJ hL _ 1 _ h)) fun y1 hy1=>Ad (fun hb=>?_) (fun _=>?_))
 ·have p:=(hy1.2 hb).1
  exact AK (AG (Af (GR hL _ p.ok)) fun n hn=>AK (AG (Af (CQ hL _ _ hn.ok)) fun m hm=>AK (AG (Af (LX hL _ _ _ hm.ok)) fun q hq=>AJ (p.mv (hn.toMv.trans (hm.toMv.trans hq.toMv))))))
 have m1:=hy1.1
 refine AK (AG (Af (BJ hL _ 3 _ m1.ok)) fun y5 hy5=>Ad (fun hb=>?_) (fun _=>?_))
 ·have p:=m1.pg (hy5.2 hb).1
  exact AK (AG (Af (GR hL _ p.ok)) fun n hn=>AK (AG (Af (CQ hL _ _ hn.ok)) fun m hm=>AK (AG (Af (LX hL _ _ _ hm.ok)) fun q hq=>AJ (p.mv (hn.toMv.trans (hm.toMv.trans hq.toMv))))))
 have m2:=m1.trans hy5.1
 refine AK (AG (Af (BJ hL _ 1 _ m2.ok)) fun y9 hy9=>Ad (fun hb=>?_) (fun _=>?_))
 ·have p:=m2.pg (hy9.2 hb).1
  have pl:=nx m2 (hy9.2 hb).2
  refine AK (AG (Af (MS hL _ p.ok)) fun v hv=>AK (AG (H2 _ hv.ok (by have:=hv.le;omega)) fun b hb2=>AK (AG (Af (BJ hL _ 1 _ hb2.ok)) fun e he=>BF (AG (Q:=fun x:Int×Int×RD×Unit=>Pg L r x.2.2.1∧r.2.1<x.2.2.1.2.1) (Ad (fun _=>?_) fun _=>?_) fun x hx=>?_))))
  ·have q:=(p.mv (hv.toMv.trans (hb2.toMv.trans he.1)))
   exact AJ ⟨q.toMv.bad,by have:=hv.le;have:=hb2.le;have:=he.1.le;simp only;omega⟩
  ·exact AJ ⟨p.mv (hv.toMv.trans (hb2.toMv.trans he.1)),by have:=hv.le;have:=hb2.le;have:=he.1.le;simp only;omega⟩
  ·exact AK (AG (H2 _ hx.1.ok hx.2) fun d hd=>AK (AG (Af (Da hL _ _ (by simp) hd.ok)) fun q hq=>AJ (hx.1.mv (hd.toMv.trans hq))))
 have m3:=m2.trans hy9.1
 refine AK (AG (Af (BJ hL _ 1 _ m3.ok)) fun y16 hy16=>Ad (fun hb=>?_) (fun _=>?_))
 ·have p:=m3.pg (hy16.2 hb).1
  have pl:=nx m3 (hy16.2 hb).2
  exact AK (AG (Af (MS hL _ p.ok)) fun v hv=>AK (AG (H2 _ hv.ok (by have:=hv.le;omega)) fun b hb2=>AK (AG (Af (Da hL _ _ (by simp) hb2.ok)) fun q hq=>AJ (p.mv (hv.toMv.trans (hb2.toMv.trans hq))))))
 have m4:=m3.trans hy16.1
 refine AK (AG (Af (BJ hL _ 1 _ m4.ok)) fun y20 hy20=>Ad (fun hb=>?_) (fun _=>?_))
 ·have p:=m4.pg (hy20.2 hb).1
  exact AK (AG (Af (LX hL _ _ _ p.ok)) fun q hq=>AJ (p.mv hq.toMv))
 have m5:=m4.trans hy20.1
 refine AK (AG (Af (BJ hL _ 1 _ m5.ok)) fun y22 hy22=>Ad (fun hb=>?_) (fun _=>?_))
 ·have p:=m5.pg (hy22.2 hb).1
  exact AK (AG (Af (LX hL _ _ _ p.ok)) fun q hq=>AJ (p.mv hq.toMv))
 have m6:=m5.trans hy22.1
 exact AK (AG (Af (GR hL _ m6.ok)) fun n hn=>AK (AG (Af (CQ hL _ _ hn.ok)) fun m hm=>AK (AG (Af (LX hL _ _ _ hm.ok)) fun q hq=>AJ ((m6.pg hn).mv (hm.toMv.trans hq.toMv)))))
theorem cV:∀ k:Nat,(∀ n n',3 * k+2≤n→3 * k+2≤n'→∀ r,ROk L r→L.length - r.2.1≤k→wq ((AP n).2.1 r) ((AP n').2.1 r) fun y=>Pg L r y.2.1) ∧
 (∀ n n',3 * k+3≤n→3 * k+3≤n'→∀ r,ROk L r→L.length - r.2.1≤k→wq ((AP n).1 r) ((AP n').1 r) fun y=>Mv L r y.2.1∧y.1.length≤100000) ∧
 (∀ n n',3 * k+4≤n→3 * k+4≤n'→∀ r,ROk L r→L.length - r.2.1≤k→wq ((AP n).2.2.1 r) ((AP n').2.2.1 r) fun y=>Pg L r y.2.1):=by
 have main:∀ k:Nat,(∀ n n',3 * k+1≤n→3 * k+1≤n'→∀ r,ROk L r→L.length - r.2.1<k→wq ((AP n).2.2.1 r) ((AP n').2.2.1 r) fun y=>Pg L r y.2.1) →
  (∀ n n',3 * k+2≤n→3 * k+2≤n'→∀ r,ROk L r→L.length - r.2.1≤k→wq ((AP n).2.1 r) ((AP n').2.1 r) fun y=>Pg L r y.2.1) ∧
  (∀ n n',3 * k+3≤n→3 * k+3≤n'→∀ r,ROk L r→L.length - r.2.1≤k→wq ((AP n).1 r) ((AP n').1 r) fun y=>Mv L r y.2.1∧y.1.length≤100000) ∧
  (∀ n n',3 * k+4≤n→3 * k+4≤n'→∀ r,ROk L r→L.length - r.2.1≤k→wq ((AP n).2.2.1 r) ((AP n').2.2.1 r) fun y=>Pg L r y.2.1):=by
  intro k iB;have hT:∀ n n',3 * k+2≤n→3 * k+2≤n'→∀ r,ROk L r→L.length - r.2.1≤k→wq ((AP n).2.1 r) ((AP n').2.1 r) fun y=>Pg L r y.2.1:=by
   intro n n' hn hn' r h hk;obtain⟨n,rfl⟩:∃ j,n=j+1:=⟨n - 1,by omega⟩
   obtain⟨n',rfl⟩:∃ j,n'=j+1:=⟨n' - 1,by omega⟩
   exact Xj hL (r0:=(AP n).1) (r0':=(AP n').1) (r1:=(AP n).2.1) (r1':=(AP n').2.1) r h (fun q hq hlt=>iB n n' (by omega) (by omega) q hq (by omega))
  have hS:∀ n n',3 * k+3≤n→3 * k+3≤n'→∀ r,ROk L r→L.length - r.2.1≤k→wq ((AP n).1 r) ((AP n').1 r) fun y=>Mv L r y.2.1∧y.1.length≤100000:=by
   intro n n' hn hn' r h hk;obtain⟨n,rfl⟩:∃ j,n=j+1:=⟨n - 1,by omega⟩
   obtain⟨n',rfl⟩:∃ j,n'=j+1:=⟨n' - 1,by omega⟩
   exact Xk hL (r0:=(AP n).1) (r0':=(AP n').1) (r2:=(AP n).2.2.1) (r2':=(AP n').2.2.1) r h (fun q hq hle=>hT n n' (by omega) (by omega) q hq (by omega))
  refine⟨hT,hS,fun n n' hn hn' r h hk=>?_⟩
  obtain⟨n,rfl⟩:∃ j,n=j+1:=⟨n - 1,by omega⟩
  obtain⟨n',rfl⟩:∃ j,n'=j+1:=⟨n' - 1,by omega⟩
  exact Wo hL (r1:=(AP n).2.1) (r1':=(AP n').2.1) (r2:=(AP n).2.2.1) (r2':=(AP n').2.2.1) r h (fun q hq hle=>hS n n' (by omega) (by omega) q hq (by omega))
 intro k
 induction k with
 | zero=>exact main 0 fun n n' hn hn' r h hk=>by have:=h.a1;omega
 | succ k ih=>exact main (k+1) fun n n' hn hn' r h hk=>ih.2.2 n n' (by omega) (by omega) r h (by omega)
theorem Ys (r:RD) (h:ROk L r):wp (El r) fun y=>Mv L r y.2.1∧y.1.length≤100000:=by
 unfold El;exact KY (3 * 3000+3) fun n hn=>(cV hL 3000).2.1 n _ hn (Nat.le_refl _) r h (by have:=h.a0;omega)
theorem Vm (r:RD) (h:ROk L r):wp (Dc r) fun y=>Mv L r y.2.1:=by
 unfold Dc;refine AF (AD (BJ hL _ 1 _ h) fun y1 hy1=>AM (fun _=>AA hy1.1) fun _=>AF (AD (BJ hL _ 1 _ hy1.1.ok) fun y2 hy2=>AM (fun _=>AA (hy1.1.trans hy2.1)) fun _=>?_))
 have m2:=hy1.1.trans hy2.1
 refine AF (AD (CQ hL _ _ m2.ok) fun y3 hy3=>AF (AD (BJ hL _ 1 _ hy3.ok) fun y4 hy4=>AQ (AD (Q:=fun x:Int×RD×Unit=>Mv L r x.2.1) (AM (fun _=>AA (m2.trans (hy3.toMv.trans hy4.1))) fun _=>AA (m2.trans (hy3.toMv.trans hy4.1))) fun x hx=>?_)))
 refine AF (AD (BJ hL _ 1 _ hx.ok) fun y6 hy6=>AQ (AD (Q:=fun x:Int×RD×Unit=>Mv L r x.2.1) (AM (fun _=>AA (hx.trans hy6.1).bad.toMv) fun _=>AA (hx.trans hy6.1)) fun z hz=>AA hz))
theorem ie (r:RD) (h:ROk L r):wp (Gq r) fun y=>Pg L r y.2.1∧(y.1:FN).2.1.length≤100000:=by
 unfold Gq;refine AF (AD (BJ hL _ 1 _ h) fun y1 hy1=>AQ (AD (Q:=fun x:RD×FN×Unit=>Pg L r x.1) (AM (fun _=>AA hy1.1.bad) fun hb=>AA (hy1.2 ?_).1) fun x2 hx2=>?_))
 ·cases hc:y1.1
  ·rw [hc] at hb;cases hb
  ·rfl
 refine AF (AD (GR hL _ hx2.ok) fun y3 hy3=>AF (AD (CQ hL _ _ hy3.ok) fun y4 hy4=>AF (AD (BJ hL _ 3 _ hy4.ok) fun y5 hy5=>?_)))
 have p5:=hx2.mv (hy3.toMv.trans (hy4.toMv.trans hy5.1))
 refine AQ (AD (Q:=fun x:RD×FN×FN×Unit=>Pg L r x.1∧x.2.2.1.2.1.length≤100000) (AM (fun _=>?_) fun _=>AA ⟨p5,by simp⟩) fun x13 hx13=>?_)
 ·refine AQ (AF (AA (AD (wp_loop (fun x:GX=>Pg L r x.1∧((x.2.2.1.2.1.length:Int)≤x.1.2.1∨(x.1.2.2.1=true∧(x.2.2.1.2.1.length:Int)≤x.1.2.1+1))) (fun x=>2 * (L.length - x.1.2.1).toNat+(bif x.1.2.2.1 then 0 else 1)) (Q:=fun x:RD×FN×FN×Unit=>Pg L r x.1∧x.2.2.1.2.1.length≤100000) (fun x hx=>?_) ⟨p5,.inl (by have:=p5.ok.a0;simpa using this)⟩) fun z hz=>AA hz)))
  obtain⟨x1,x2,x3,_⟩:=x;simp only at hx;obtain⟨g1,g2⟩:=hx;have ga:=g1.ok.a1
  unfold KJ;simp only;refine AM (fun hb=>?_) fun _=>AL (AA (Ah ⟨g1,by simp only;omega⟩))
  have hbad:x1.2.2.1=false:=by
   cases hc:x1.2.2.1
   ·rfl
   ·rw [hc] at hb;cases hb
  have gl:(x3.2.1.length:Int)≤x1.2.1:=by
   rcases g2 with g2 | ⟨g2,_⟩
   ·exact g2
   ·rw [hbad] at g2;cases g2
  refine AF (AD (GR hL _ g1.ok) fun y7 hy7=>AF (AD (CQ hL _ _ hy7.ok) fun y8 hy8=>AF (AD (Vm hL _ hy8.ok) fun y9 hy9=>AN (by simp only [Cnd.holds,List.length_singleton];omega) (AF (AD (BJ hL _ 3 _ hy9.ok) fun y10 hy10=>?_)))))
  have m10:=hy7.mv (hy8.toMv.trans (hy9.trans hy10.1))
  refine AM (fun _=>AL (AA (Ah ⟨g1.mv m10.toMv,by simp only [List.length_append,List.length_singleton];omega⟩))) fun _=>AF (AD (CQ hL _ _ hy10.1.ok) fun y11 hy11=>AL (AA (Aj ⟨⟨g1.mv (m10.mv hy11.toMv).toMv,?_⟩,?_⟩)))
  ·have h2:=(m10.mv hy11.toMv).le
   simp only [List.length_append,List.length_singleton];rcases(m10.mv hy11.toMv).pg with h1 | h1
   ·exact .inr ⟨h1,by omega⟩
   ·exact .inl (by omega)
  ·have h2:=(m10.mv hy11.toMv).le
   have h3:=hy11.ok.a1
   simp only [hbad,cond_false];rcases(m10.mv hy11.toMv).pg with h1 | h1
   ·rw [h1,cond_true];omega
   ·cases y11.1.2.2.1<;>simp only [cond_true,cond_false]<;>omega
 refine AF (AD (BJ hL _ 3 _ hx13.1.ok) fun y14 hy14=>AQ (AD (Q:=fun x:RD×FN×FN×Unit=>Pg L r x.1∧x.2.2.1.2.1.length≤100000) (AM (fun _=>AF (AD (Vm hL _ hy14.1.ok) fun k hk=>AA ⟨hx13.1.mv (hy14.1.trans hk),hx13.2⟩)) fun _=>AA ⟨hx13.1.mv hy14.1,hx13.2⟩) fun x16 hx16=>?_))
 refine AF (AD (CQ hL _ _ hx16.1.ok) fun y17 hy17=>AF (AD (Ys hL _ hy17.ok) fun y18 hy18=>AF (AD (Da hL _ _ hy18.2 hy18.1.ok) fun y19 hy19=>AF (AD (BJ hL _ 1 _ hy19.ok) fun y20 hy20=>?_))))
 have p20:=hx16.1.mv (hy17.toMv.trans (hy18.1.trans (hy19.trans hy20.1)))
 refine AQ (AD (Q:=fun x:RD×FN×FN×Unit=>Pg L r x.1∧x.2.2.1.2.1.length≤100000) (AM (fun _=>AF (AD (MS hL _ p20.ok) fun v hv=>AF (AD (CQ hL _ _ hv.ok) fun m hm=>AA ⟨p20.mv (hv.toMv.trans hm.toMv),hx16.2⟩))) fun _=>AA ⟨p20,hx16.2⟩) fun x23 hx23=>?_)
 exact AF (AD (CQ hL _ _ hx23.1.ok) fun y24 hy24=>AA ⟨hx23.1.mv hy24.toMv,hx23.2⟩)
end
def PRd (p:PROG):Prop:=FineP p∧(HH p=true∨p=([],[]))
theorem Rq (t:ByteArray):wp (Cx t) fun y=>PRd y.1:=by
 unfold Cx;have hnil:PRd ([],[]):=⟨⟨⟨by simp,by simp⟩,by simp,by simp⟩,.inr rfl⟩
 refine AF (AD (bm t) fun y1 hL=>AM (fun _=>AA hnil) fun _=>?_)
 refine AQ (AF (AA ?_))
 refine AD (wp_loop (fun x:Fu=>x.1=([],[])∧ROk y1.1 x.2.2.1∧x.2.1.2.length≤10∧∀ f∈x.2.1.2,(f:FN).2.1.length≤100000) (fun x=>2 * (y1.1.length - x.2.2.1.2.1).toNat+(bif x.2.2.1.2.2.1 then 0 else 1)) (Q:=fun x:PROG×PROG×RD×Unit=>ROk y1.1 x.2.2.1∧x.2.1.2.length≤10∧∀ f∈x.2.1.2,(f:FN).2.1.length≤100000) (fun x hx=>?_) ⟨rfl,⟨rfl,by simp,by simp,by simp,by simp⟩,by simp,by simp⟩) (fun x hx=>?_)
 ·obtain⟨x0,x1,x2,_⟩:=x;simp only at hx;obtain⟨g0,g1,g2,g3⟩:=hx;subst g0;have ga:=g1.a1
  unfold Jc;simp only;refine AQ (AD (Q:=fun z:Bool×PROG×PROG×RD×Unit=>z.2.1=([],[])∧z.2.2.1=x1∧z.2.2.2.1=x2∧(z.1=true→x2.2.2.1=false∧x1.2.length≤8)) (AM (fun hb=>AM (fun _=>AA ⟨rfl,rfl,rfl,fun h=>⟨?_,?_⟩⟩) fun _=>AA ⟨rfl,rfl,rfl,fun h=>by cases h⟩) fun _=>AA ⟨rfl,rfl,rfl,fun h=>by cases h⟩) fun z hz=>?_)
  ·cases hc:x2.2.2.1
   ·rfl
   ·rw [hc] at hb;cases hb
  ·have:(List.length x1.2:Int)≤8:=by simpa using h
   omega
  obtain⟨z0,z1,z2,z3,_⟩:=z;simp only at hz;obtain⟨e1,e2,e3,hb⟩:=hz;subst e1 e2 e3;simp only;refine AM (fun hb2=>?_) fun _=>AL (AA (Ah ⟨g1,g2,g3⟩))
  obtain⟨hbad,h8⟩:=hb hb2;refine AF (AD (ie hL _ g1) fun y4 hy4=>AN (by simp only [Cnd.holds,List.length_singleton];omega) (AL (AA (Aj ⟨⟨rfl,hy4.1.ok,by simp only [List.length_append,List.length_singleton];omega,fun f hf=>?_⟩,?_⟩))))
  ·rcases List.mem_append.1 hf with hf | hf
   ·exact g3 f hf
   ·rw [List.mem_singleton.1 hf];exact hy4.2
  ·have h2:=hy4.1.le
   have h3:=hy4.1.ok.a1
   simp only [hbad,cond_false];rcases hy4.1.pg with h1 | h1
   ·rw [h1,cond_true];omega
   ·cases y4.2.1.2.2.1<;>simp only [cond_true,cond_false]<;>omega
 ·obtain⟨x0,x1,x2,_⟩:=x;simp only at hx;obtain⟨g1,g2,g3⟩:=hx;have hf:FineP (x2.2.2.2.2,x1.2):=⟨⟨by have:=g1.n;simp only;omega,fun x hx=>by have:=g1.k x hx;omega⟩,by simp only;omega,fun f hf=>by have:=g3 f hf;omega⟩
  simp only;refine AQ (AD (Q:=fun z:Bool×PROG×PROG×Unit=>z.2.2.1=(x2.2.2.2.2,x1.2)∧(z.1=false→HH (x2.2.2.2.2,x1.2)=true)) (AM (fun _=>AA ⟨rfl,fun h=>by cases h⟩) fun _=>?_) fun z hz=>AM (fun _=>AA hnil) fun hb=>AA ?_)
  ·rw [Oa _ hf];exact AF (AA (AA ⟨rfl,fun h=>by simpa using h⟩))
  ·obtain⟨z0,z1,z2,_⟩:=z;simp only at hz hb;obtain⟨e1,h1⟩:=hz;subst e1;exact⟨hf,.inl (h1 hb)⟩
theorem Vs (c:Cur) (h:COk c):wp (Gp c) fun y=>PRd y.1∧COk y.2.1:=by
 unfold Gp;refine AF (AD (dc c 9 (by omega) (by omega) h) fun y1 hy1=>AF (AD (Rq _) fun y2 hy2=>AQ (AD (Q:=fun x:Cur×PROG×PROG×Unit=>PRd x.2.2.1∧COk x.1) (AM (fun _=>?_) fun _=>AA ⟨hy2,hy1.2⟩) fun x hx=>AA hx)))
 exact AF (AD (Rq _) fun y3 hy3=>AQ (AD (Q:=fun x:Cur×PROG×PROG×Unit=>PRd x.2.2.1∧COk x.1) (AM (fun _=>AF (AD (Rq _) fun y4 hy4=>AA ⟨hy4,hy1.2⟩)) fun _=>AA ⟨hy3,hy1.2⟩) fun x hx=>AA hx))
set_option maxRecDepth 100000
theorem Ru (l:List NODE) (hl:FineN l) (n:Int):KA l n=some (AU l n,()):=by
 unfold KA AU;simp only [Oq hl.len,sIn,Option.bind_some]
 by_cases hr:0≤n∧n≤(l.length:Int) - 1
 case neg=>simp only [hr,decide_false,Bool.not_false,cond_true,cond_false]
 obtain⟨k,rfl⟩:∃ m:Nat,n=(m:Int):=⟨n.toNat,by omega⟩
 have hk:k<l.length:=by omega
 simp only [hr,and_self,decide_true,Bool.not_true,cond_false,cond_true,Nw l hl k hk,Option.bind_some];rw [Ab (show k<(BB l (k+1)).length by rw [Fj];omega),HA l (k+1) k (by omega)];rfl
set_option maxRecDepth 100000
def rc (l:List NODE):Nat→Int→Int→Bool
 | 0,_,_=>false
 | f+1,a,t=>decide (a=t) || (rd l a zN).2.2.2.any fun y=>rc l f y t
def Co (l:List NODE) (a t:Int):Bool:=rc l (a.toNat+1) a t
theorem PZ {α:Type} {f g:α→Bool}:∀ {l:List α},(∀ x∈l,f x=g x)→l.any f=l.any g
 | [],_=>rfl
 | x::l,h=>by rw [List.any_cons,List.any_cons,h x (List.mem_cons_self ..),PZ fun y hy=>h y (List.mem_cons_of_mem _ hy)]
theorem DQ {l:List NODE} {a:Int} (h:(0:Int)<AU l a) {y:Int} (hy:y∈(rd l a zN).2.2.2):(0:Int)<AU l y∧0≤y∧y<a:=by
 obtain⟨_,h2,h3⟩:=Ax h;obtain⟨k1,k2⟩:=Oo h2 y hy;exact⟨h3 y k1 (by omega),k1,k2⟩
theorem Vu (l:List NODE):∀ (f g:Nat) (a t:Int),(0:Int)<AU l a→a.toNat<f→a.toNat<g→rc l f a t=rc l g a t
 | 0,_,_,_,_,h,_=>absurd h (by omega)
 | _+1,0,_,_,_,_,h=>absurd h (by omega)
 | f+1,g+1,a,t,hd,hf,hg=>by
  simp only [rc]
  congr 1
  refine PZ fun y hy=>?_
  obtain⟨k1,k2,k3⟩:=DQ hd hy;exact Vu l f g y t k1 (by omega) (by omega)
theorem PA {l:List NODE} {a:Int} (h:(0:Int)<AU l a) (t:Int):Co l a t=(decide (a=t) || (rd l a zN).2.2.2.any fun y=>Co l y t):=by
 unfold Co;simp only [rc]
 congr 1
 refine PZ fun y hy=>?_
 obtain⟨k1,k2,k3⟩:=DQ h hy;exact Vu l a.toNat (y.toNat+1) y t k1 (by omega) (by omega)
theorem ZP (l:List NODE) (a:Int):Co l a a=true:=by simp [Co,rc]
theorem QL {l:List NODE} {a y t:Int} (h:(0:Int)<AU l a) (hy:y∈(rd l a zN).2.2.2) (ht:Co l y t=true):Co l a t=true:=by
 rw [PA h,Bool.or_eq_true];exact .inr (List.any_eq_true.2 ⟨y,hy,ht⟩)
theorem WA {l:List NODE}:∀ (n:Nat) (a t:Int),a.toNat<n→(0:Int)<AU l a→Co l a t=true→0≤t∧t≤a
 | 0,_,_,h,_,_=>absurd h (by omega)
 | n+1,a,t,hn,h,ht=>by
  rw [PA h,Bool.or_eq_true] at ht;rcases ht with ht | ht
  ·have:=of_decide_eq_true ht
   have:=(Ax h).1
   omega
  ·obtain⟨y,hy,hy2⟩:=List.any_eq_true.1 ht;obtain⟨k1,k2,k3⟩:=DQ h hy;have:=WA n y t (by omega) k1 hy2
   omega
theorem QM {l:List NODE} {a t:Int} (h:(0:Int)<AU l a) (ht:Co l a t=true):0≤t∧t≤a:=WA _ a t (Nat.lt_succ_self _) h ht
theorem Sn {l:List NODE} {a t:Int} (h:(0:Int)<AU l a) (ht:Co l a t=true):(0:Int)<AU l t:=by
 have:=QM h ht
 exact(Ax h).2.2 t this.1 this.2
theorem PT {l:List NODE}:∀ (n:Nat) (a b t:Int),a.toNat<n→(0:Int)<AU l a→Co l a b=true→Co l b t=true→Co l a t=true
 | 0,_,_,_,h,_,_,_=>absurd h (by omega)
 | n+1,a,b,t,hn,h,hb,ht=>by
  rw [PA h,Bool.or_eq_true] at hb;rcases hb with hb | hb
  ·have:=of_decide_eq_true hb
   subst this;exact ht
  ·obtain⟨y,hy,hy2⟩:=List.any_eq_true.1 hb;obtain⟨k1,k2,k3⟩:=DQ h hy;exact QL h hy (PT n y b t (by omega) k1 hy2 ht)
theorem Xs {l:List NODE} {a b t:Int} (h:(0:Int)<AU l a) (hb:Co l a b=true) (ht:Co l b t=true):Co l a t=true:=PT _ a b t (Nat.lt_succ_self _) h hb ht
def mrk (l:List NODE) (k:Int) (s:List Bool):List Bool:=s.mapIdx fun t b=>b || Co l k (t:Int)
@[simp] theorem Im (l:List NODE) (k:Int) (s:List Bool):(mrk l k s).length=s.length:=by simp [mrk]
theorem Jt (l:List NODE) (k:Int) (s:List Bool) {t:Nat} (h:t<s.length):(mrk l k s).getD t false=(s.getD t false || Co l k (t:Int)):=by
 simp [mrk,h]
def Cl (l:List NODE) (b:Int) (s:List Bool):Prop:=∀ a:Nat,(a:Int)<b→s.getD a false=true→∀ t:Nat,Co l (a:Int) (t:Int)=true→s.getD t false=true
theorem Cl.mono {l:List NODE} {b c:Int} {s:List Bool} (h:Cl l b s) (hc:c≤b):Cl l c s:=fun a ha hs t ht=>h a (by omega) hs t ht
theorem Mw {s:List Bool} {t:Nat} (h:s.getD t false=true):t<s.length:=by
 rcases Nat.lt_or_ge t s.length with h1 | h1
 ·exact h1
 ·simp [h1] at h
theorem Cl.mrk {l:List NODE} {b k:Int} {s:List Bool} (h:Cl l b s) (hs:s.length=l.length) (hk:(0:Int)<AU l k):Cl l b (mrk l k s):=by
 intro a ha h1 t ht;have hal:=Mw h1
 rw [Im] at hal;rw [Jt _ _ _ hal,Bool.or_eq_true] at h1;rcases h1 with h1 | h1
 ·have h2:=h a ha h1 t ht
  rw [Jt _ _ _ (Mw h2),h2,Bool.true_or]
 ·have h2:=Xs hk h1 ht
  have h3:=QM hk h2
  have h4:=(Ax hk).1
  rw [Jt _ _ _ (show t<s.length by omega),h2,Bool.or_true]
theorem UK (l:List NODE):∀ (ys:List Int) (s:List Bool),(ys.foldl (fun s y=>mrk l y s) s).length=s.length∧∀ t,t<s.length→(ys.foldl (fun s y=>mrk l y s) s).getD t false=(s.getD t false || ys.any fun y=>Co l y (t:Int))
 | [],s=>⟨rfl,fun t h=>by simp⟩
 | y::ys,s=>by
  obtain⟨h1,h2⟩:=UK l ys (mrk l y s);rw [List.foldl_cons];refine⟨by rw [h1,Im],fun t ht=>?_⟩
  rw [h2 t (by rw [Im];exact ht),Jt _ _ _ ht,List.any_cons,Bool.or_assoc]
theorem UE {a b:List Bool} (hl:a.length=b.length) (h:∀ t,t<b.length→a.getD t false=b.getD t false):a=b:=by
 refine List.ext_getElem hl fun t h1 h2=>?_
 have:=h t h2
 simpa [h1,h2] using this
theorem QC {s:List Bool} {m t:Nat} (hm:m<s.length) (ht:t<s.length):(s.set m true).getD t false=(s.getD t false || decide (m=t)):=by
 by_cases h:m=t
 ·subst h;simp [hm]
 ·simp [List.getElem?_set,h]
theorem Yh (l:List NODE) (hl:FineN l):∀ (n:Nat) (k:Int) (s:List Bool),(0:Int)<AU l k→k.toNat<n→s.length=l.length→Cl l (k+1) s→(Dt n).1 l k s=some (mrk l k s,())
 | 0,_,_,_,h,_,_=>absurd h (by omega)
 | n+1,k,s,hk,hn,hs,hc=>by
  show Jv (Dt n).1 l k s=_
  obtain⟨h1,h2,h3⟩:=Ax hk;obtain⟨m,rfl⟩:∃ m:Nat,k=(m:Int):=⟨k.toNat,by omega⟩
  have hm:m<s.length:=by omega
  have hml:m<l.length:=by omega
  unfold Jv;rw [Ab hm,Ag hm];cases hb:s[m]
  ·have hx:=hl.kid _ (List.getElem_mem hml)
   have hkid:=fun y hy=>@DQ l (m:Int) hk y hy
   rw [Ag hml] at hkid;have hue:=fun t=>PA hk t
   rw [Ag hml] at hue;have hrd:rd l (m:Int) zN=l[m]:=Ag hml
   have hcl0:Cl l (m:Int) (s.set m true):=fun a ha h1 t ht=>by
    have hal:=Mw h1
    rw [List.length_set] at hal;rw [QC hm hal] at h1;have hne:¬ m=a:=by omega
    rw [decide_eq_false hne,Bool.or_false] at h1;have h2:=hc a (by omega) h1 t ht
    rw [QC hm (Mw h2),h2,Bool.true_or]
   generalize l[m]=x at hx hkid hue hrd;have h:=CZ (step:=EW (Dt n).1) x.2.2.2 (fun s y=>mrk l y s) (fun i s=>(l,(m:Int),(i:Int),s,())) (fun s=>(s,())) (fun _ s=>s.length=l.length∧Cl l (m:Int) s) (fun i hi c hI=>by
    obtain⟨g1,g2⟩:=hI;obtain⟨k1,k2,k3⟩:=hkid _ (List.getElem_mem hi);have ih:=Yh l hl n x.2.2.2[i] c k1 (by omega) g1 (g2.mono (by omega))
    refine⟨?_,by rw [Im];exact g1,g2.mrk g1 k1⟩
    simp only [EW,Ab hml,hrd,BC hi,decide_true,cond_true,Ab hi,Ag hi,ih,Option.bind_some,Option.map_some,Al (show i<9223372036854775807 by omega)]) (fun c hI=>by
    simp only [EW,Ab hml,hrd,Ae,decide_false,cond_false,Option.map_some]) (s.set m true) ⟨by rw [List.length_set];exact hs,hcl0⟩
   have h':AH (EW (Dt n).1) (l,(m:Int),(0:Int),s.set m true,())=_:=h.1
   simp only [cond_false,Ab hm,Au,Int.toNat_natCast,Option.bind_some,h',AB]
   congr 2
   obtain⟨f1,f2⟩:=UK l x.2.2.2 (s.set m true);refine UE (by rw [f1,List.length_set,Im]) fun t ht=>?_
   rw [Im] at ht;rw [f2 t (by rw [List.length_set];exact ht),Jt _ _ _ ht,QC hm ht,hue,Bool.or_assoc]
   congr 2
   exact decide_eq_decide.2 (by omega)
  ·simp only [cond_true]
   congr 2
   refine UE (by rw [Im]) fun t ht=>?_
   rw [Im] at ht;rw [Jt _ _ _ ht];cases hu:Co l (m:Int) (t:Int)
   ·rw [Bool.or_false]
   ·rw [hc m (by omega) (by simp [hm,hb]) t hu];rfl
def Uu (l:List NODE) (k:Int):List Int:=((List.range l.length).filter fun(t:Nat)=>Co l k (t:Int)).map fun(t:Nat)=>(t:Int)
def HP (l:List NODE) (k:Int):List Int:=bif decide (AU l k=0) then [] else Uu l k
theorem Mc {α β:Type} (p:α→Bool) (f:α→β):∀ (xs:List α) (o:List β),xs.foldl (fun o x=>bif p x then o++[f x] else o) o=o++(xs.filter p).map f
 | [],o=>by simp
 | x::xs,o=>by
  rw [List.foldl_cons,Mc p f xs];cases h:p x<;>simp [h]
theorem cC (l:List NODE) (k:Int):(Uu l k).length≤l.length:=by
 unfold Uu;rw [List.length_map];exact Nat.le_trans (List.length_filter_le ..) (by simp)
theorem Ps {l:List NODE} {k:Int} (hk:(0:Int)<AU l k) (x:Int):x∈Uu l k↔Co l k x=true:=by
 unfold Uu;rw [List.mem_map];constructor
 ·rintro ⟨t,ht,rfl⟩
  exact(List.mem_filter.1 ht).2
 ·intro h;have h1:=QM hk h
  have h2:=(Ax hk).1
  have e:((x.toNat:Nat):Int)=x:=by omega
  exact⟨x.toNat,List.mem_filter.2 ⟨List.mem_range.2 (by omega),by rw [e];exact h⟩,e⟩
theorem Sv (p:PROG) (hp:FineN p.1) (k:Int):LC p k=some (HP p.1 k,()):=by
 unfold LC HP;rw [Ru p.1 hp k,Option.bind_some]
 by_cases hz:AU p.1 k=0
 ·simp only [hz,decide_true,cond_true]
 have hk:=TG hz
 have hn:=hp.len
 have hC:Cl p.1 (k+1) (List.replicate p.1.length false):=fun a _ h t _=>by
  have:=Mw h
  simp at this;simp [this] at h
 have hm:Lh p.1 k (List.replicate p.1.length false)=some (mrk p.1 k (List.replicate p.1.length false),()):=
  KR.2 ⟨k.toNat+1,fun n hn'=>Yh p.1 hp n k _ hk (by omega) (by simp) hC⟩
 have hsl:(mrk p.1 k (List.replicate p.1.length false)).length=p.1.length:=by simp
 have hsg:∀ t:Nat,t<p.1.length→rd (mrk p.1 k (List.replicate p.1.length false)) (t:Int) false=Co p.1 k (t:Int):=fun t ht=>by
  have:=Jt p.1 k (List.replicate p.1.length false) (t:=t) (by simpa using ht)
  rw [show rd (mrk p.1 k (List.replicate p.1.length false)) (t:Int) false=(mrk p.1 k (List.replicate p.1.length false)).getD t false from rfl,this];simp [ht]
 generalize mrk p.1 k (List.replicate p.1.length false)=s at hm hsl hsg;have h:=CZ (step:=GI) (List.range p.1.length) (fun o t=>bif Co p.1 k (t:Int) then o++[(t:Int)] else o) (fun i o=>(o,s,(i:Int),())) (fun o=>(o,())) (fun i o=>o.length≤i) (fun i hi o ho=>by
  have hi':i<p.1.length:=by simpa using hi
  have hi2:i<s.length:=by omega
  simp only [GI,BC hi2,decide_true,cond_true,Ab hi2,hsg i hi',List.getElem_range,Al (show i<9223372036854775807 by omega)];cases Co p.1 k (i:Int)
  ·simp only [cond_false,AB,Option.map_some,Al (show i<9223372036854775807 by omega)];exact⟨by trivial,by omega⟩
  ·simp only [cond_true,Bp (show(o.length+[(i:Int)].length) * 8≤140737488355328 by simp;omega),AB,Option.map_some,Al (show i<9223372036854775807 by omega)];exact⟨by trivial,by simp;omega⟩) (fun o ho=>by
  simp only [GI,List.length_range,hsl,Ae,decide_false,cond_false,Option.map_some]) [] (Nat.le_refl 0)
 have h':AH GI ([],s,(0:Int),())=_:=h.1
 simp only [decide_eq_false hz,cond_false];rw [show(Cnd.both (Cnd.nn (List.length p.1:Int)) (Cnd.le ((List.length p.1:Int).toNat * 1) 140737488355328)).run _=_ from by
  simp only [Cnd.run];rw [if_pos (by omega),if_pos (by omega)]]
 rw [show(List.length p.1:Int).toNat=p.1.length from Int.toNat_natCast _,hm,Option.bind_some];simp only [Option.bind_some,h',AB];rw [Mc,List.nil_append];rfl
set_option maxRecDepth 100000
def srt (l:List Int):List Int:=l.mergeSort fun a b=>decide (a≤b)
structure BIu (l:List NODE) (k:Int) (i:Nat) (o:List Int):Prop where
 nd:o.Nodup
 un:∀ x∈o,Co l k x=true
 at_:k∈o
 le:i≤o.length
 cl:∀ x∈o.take i,∀ y∈(rd l x zN).2.2.2,y∈o
theorem Uv (l:List NODE) (k:Int):(HP l k).length≤l.length:=by
 unfold HP;cases decide (AU l k=0)
 ·exact cC l k
 ·exact Nat.zero_le _
theorem cD {l:List NODE} {k x:Int} (h:x∈HP l k):(0≤x∧x<(l.length:Int))∧(0:Int)<AU l x:=by
 unfold HP at h
 by_cases hz:AU l k=0
 ·simp [hz] at h
 ·rw [decide_eq_false hz,cond_false] at h;have:=Sn (TG hz) ((Ps (TG hz) x).1 h)
  exact⟨(Ax this).1,this⟩
set_option maxRecDepth 100000
def Pi (p:PROG) (fn:Int):Bool:=decide (0≤fn∧fn≤(p.2.length:Int) - 1)
theorem jO {p:PROG} (hp:FineP p):IntKind.wrap .i64 ((p.2.length:Int) - 1)=(p.2.length:Int) - 1:=Oq hp.f
set_option maxRecDepth 100000
abbrev VAR:=ByteArray×(Int×Int)
abbrev zV:VAR:=((⟨#[]⟩:ByteArray),((0:Int),(0:Int)))
def UW (x:ByteArray×Int):VAR:=(x.1,(x.2,(-1:Int)))
def NT (l:List NODE) (k:Int):Bool:=decide ((rd l k zN).1=13)
def XU (l:List NODE) (k:Int):VAR:=((rd l k zN).2.2.1,((0:Int),k))
def Er (p:PROG) (fn:Int):List VAR:=bif Pi p fn then (rd p.2 fn zF).2.1.map UW++((HP p.1 (rd p.2 fn zF).2.2.2.1).filter (NT p.1)).map (XU p.1) else []
theorem YQ {p:PROG} (hp:FineP p) {fn:Int} (h:0≤fn∧fn<(p.2.length:Int)):(rd p.2 fn zF).2.1.length≤1048576:=by
 obtain⟨k,rfl⟩:∃ m:Nat,fn=(m:Int):=⟨fn.toNat,by omega⟩
 have hk:k<p.2.length:=by omega
 rw [Ag hk];exact hp.a _ (List.getElem_mem hk)
theorem iH {α:Type} {l:List NODE} {k x:Int} (h:x∈HP l k) {K:Option α}:(Cnd.idx x l.length).run K=K:=Ci (cD h).1
theorem ZS (p:PROG) (hp:FineP p) (r:Int) (o:List VAR) (ho:o.length≤1048576):AH FW (o,HP p.1 r,(0:Int),p,())=some (o++((HP p.1 r).filter (NT p.1)).map (XU p.1),()):=by
 have hn:=hp.n.len
 have hlen:=Uv p.1 r
 have h:=CZ (step:=FW) (HP p.1 r) (fun o k=>bif NT p.1 k then o++[XU p.1 k] else o) (fun i o=>(o,HP p.1 r,(i:Int),p,())) (fun o=>(o,())) (fun i o=>o.length≤1048576+i) (fun i hi o ho=>by
  have hid:∀ {α:Type} {K:Option α},(Cnd.idx (HP p.1 r)[i] p.1.length).run K=K:=fun {α K}=>iH (List.getElem_mem hi)
  simp only [FW,BC hi,decide_true,cond_true,Ab hi,Ag hi,hid,NT];cases decide ((rd p.1 (HP p.1 r)[i] zN).1=13)
  ·simp only [cond_false,AB,Option.map_some,Al (show i<9223372036854775807 by omega)];exact⟨by trivial,by omega⟩
  ·simp only [cond_true];rw [Bp (by simp;omega)];simp only [AB,Option.map_some,Al (show i<9223372036854775807 by omega)];exact⟨by trivial,by simp;omega⟩) (fun o ho=>by
  simp only [FW,Ae,decide_false,cond_false,Option.map_some]) o (by omega)
 have h':=h.1
 rw [Mc] at h';exact h'
theorem ZT (p:PROG) (x:FN) (hx:x.2.1.length≤1048576):AH FM ([],(0:Int),p,x,())=some (x.2.1.map UW,p,x,()):=by
 have h:=NX (step:=FM) x.2.1 UW (fun i o=>(o,(i:Int),p,x,())) (fun o=>(o,p,x,())) (fun i hi o ho=>by
  simp only [FM,BC hi,decide_true,cond_true,Ab hi,Ag hi];rw [Bp (by simp;omega)];simp only [Option.map_some,Al (show i<9223372036854775807 by omega)];rfl) (fun o ho=>by
  simp only [FM,Ae,decide_false,cond_false,Option.map_some])
 exact h
theorem Ob (p:PROG) (hp:FineP p) (fn:Int):IA p fn=some (Er p fn,()):=by
 unfold IA Er Pi;rw [jO hp,sIn,Option.bind_some]
 by_cases hr:0≤fn∧fn≤(p.2.length:Int) - 1
 case neg=>simp only [hr,decide_false,Bool.not_false,cond_true,cond_false]
 have hi:∀ {α:Type} {K:Option α},(Cnd.idx fn p.2.length).run K=K:=fun {α K}=>Ci (by omega)
 have hx:=YQ hp (show 0≤fn∧fn<(p.2.length:Int) by omega)
 simp only [hr,and_self,decide_true,Bool.not_true,cond_false,cond_true,hi];generalize rd p.2 fn zF=x at hx ⊢;simp only [Option.bind_some,ZT p x hx,AB,Sv p hp.n,ZS p hp _ (x.2.1.map UW) (by simpa using hx)]
theorem XG {α:Type} (q:α→Bool) (l:List α):(l.filter q).length≤l.length:=List.length_filter_le ..
theorem Uz {p:PROG} (hp:FineP p) (fn:Int):(Er p fn).length≤2097152:=by
 unfold Er Pi
 by_cases hr:0≤fn∧fn≤(p.2.length:Int) - 1
 ·have hx:=YQ hp (show 0≤fn∧fn<(p.2.length:Int) by omega)
  have h1:=Uv p.1 (rd p.2 fn zF).2.2.2.1
  have h2:=XG (NT p.1) (HP p.1 (rd p.2 fn zF).2.2.2.1)
  have h3:=hp.n.len
  simp only [hr,and_self,decide_true,cond_true,List.length_append,List.length_map];omega
 ·simp [hr]
def Dl (k:Int):Bool:=decide (2≤k∧k≤6) || (decide (k=14) || decide (k=15))
set_option maxRecDepth 100000
def Pl (l:List ByteArray) (s:ByteArray):Bool:=l.any fun y=>decide (y=s)
theorem Px {γ D:Type} {q q':γ→D→Bool} {g:γ→D→γ}:∀ (l:List D) (c:γ),(∀ x∈l,∀ c,q c x=q' c x)→GD q g l c=GD q' g l c
 | [],_,_=>rfl
 | x::l,c,h=>by
  simp only [GD];rw [h x (List.mem_cons_self ..),Px l _ fun y hy=>h y (List.mem_cons_of_mem _ hy)]
theorem ON {γ D:Type} (q:γ→D→Bool) (g:γ→D→γ):∀ (l:List D) (c:γ) (b:Bool),l.foldl (fun(s:γ×Bool) x=>(g s.1 x,s.2 || !q s.1 x)) (c,b)=(l.foldl g c,b || !(GD q g l c).isSome)
 | [],c,b=>by simp [GD]
 | x::l,c,b=>by
  simp only [List.foldl_cons,GD];rw [ON q g l];cases q c x<;>simp
theorem jN (k:Int):(kr k).2≤12:=by unfold kr;repeat (first | split | decide)
theorem Rp {l:List NODE} {a:Int} (h:Bl l a=true):HG l a (rd l a zN)=true:=by
 simp only [Bl,Bool.and_eq_true] at h;exact h.2
theorem dJ {l:List NODE} {a:Int} (h:Bl l a=true):1≤(rd l a zN).1∧(rd l a zN).1≤20:=by
 have:=Rp h
 simp only [HG,Bool.and_eq_true,decide_eq_true_eq] at this;exact this.1
theorem UV {l:List NODE} {a:Int} (h:Bl l a=true):(kr (rd l a zN).1).1≤((rd l a zN).2.2.2.length:Int)∧((rd l a zN).2.2.2.length:Int)≤(kr (rd l a zN).1).2:=by
 have:=Rp h
 simp only [HG,Bool.and_eq_true,decide_eq_true_eq] at this;exact this.2.1
theorem Eh {l:List NODE} {a:Int} (h:Bl l a=true):(rd l a zN).2.2.2.length≤12:=by
 have h1:=UV h
 have h2:=jN (rd l a zN).1
 omega
theorem Ou {l:List NODE} {a:Int} (h:Bl l a=true) {i:Nat} (hi:i<(rd l a zN).2.2.2.length):KZ (rd l a zN).1 (i:Int) (rd l (rd l a zN).2.2.2[i] zN).1=true:=by
 have:=Rp h
 simp only [HG,Bool.and_eq_true] at this;have h2:=List.all_eq_true.1 this.2.2.2.2 i (by simpa using hi)
 simp only [On,Bool.and_eq_true] at h2;have e:(rd l a zN).2.2.2.getD i 0=(rd l a zN).2.2.2[i]:=by
  generalize rd l a zN=x at hi ⊢;simp [hi]
 rw [e] at h2;exact h2.2.1
def LW (p:PROG) (fn:Int) (x:NODE):Bool:=decide (0≤Ho p.2 x.2.2.1∧Ho p.2 x.2.2.1≤fn - 1) && decide (((rd p.2 (Ho p.2 x.2.2.1) zF).2.1.length:Int)=(x.2.2.2.length:Int))
def okH (p:PROG) (fn:Int) (x:NODE) (nm:List ByteArray):Bool:=(!Dl x.1 || Pl nm x.2.2.1) && (!decide (x.1=12) || LW p fn x)
def HB (l:List NODE) (b:Bool) (nm:List ByteArray) (y:Int):List ByteArray:=bif b && NT l y then nm++[(rd l y zN).2.2.1] else nm
def sn (p:PROG) (fn:Int):Nat→Int→List ByteArray→Bool
 | 0,_,_=>false
 | f+1,k,nm=>okH p fn (rd p.1 k zN) nm && (GD (fun nm y=>sn p fn f y nm) (HB p.1 (decide ((rd p.1 k zN).1=20))) (rd p.1 k zN).2.2.2 nm).isSome
theorem Vx (p:PROG) (fn:Int):∀ (f g:Nat) (a:Int) (nm:List ByteArray),(0:Int)<AU p.1 a→a.toNat<f→a.toNat<g→sn p fn f a nm=sn p fn g a nm
 | 0,_,_,_,_,h,_=>absurd h (by omega)
 | _+1,0,_,_,_,_,h=>absurd h (by omega)
 | f+1,g+1,a,nm,hd,hf,hg=>by
  simp only [sn]
  congr 2
  refine Px _ _ fun y hy c=>?_
  obtain⟨k1,k2,k3⟩:=DQ hd hy;exact Vx p fn f g y c k1 (by omega) (by omega)
def BH (p:PROG) (fn:Int) (k:Int) (nm:List ByteArray):Bool:=sn p fn (k.toNat+1) k nm
theorem QD (p:PROG) (fn:Int) {k:Int} (h:(0:Int)<AU p.1 k) (nm:List ByteArray):BH p fn k nm=(okH p fn (rd p.1 k zN) nm && (GD (fun nm y=>BH p fn y nm) (HB p.1 (decide ((rd p.1 k zN).1=20))) (rd p.1 k zN).2.2.2 nm).isSome):=by
 unfold BH;simp only [sn]
 congr 2
 refine Px _ _ fun y hy c=>?_
 obtain⟨k1,k2,k3⟩:=DQ h hy;exact Vx p fn k.toNat (y.toNat+1) y c k1 (by omega) (by omega)
theorem UD (l:List NODE) (b:Bool) (nm:List ByteArray) (y:Int):(HB l b nm y).length≤nm.length+1:=by
 unfold HB;cases b && NT l y<;>simp
theorem Vi {l:List FN} {s:ByteArray}:Ho l s<(l.length:Int):=by
 unfold Ho;cases h:l.findIdx? fun f=>decide (f.1=s) with
 | none=>simp only;omega
 | some i=>
  obtain⟨h1,_⟩:=List.findIdx?_eq_some_iff_getElem.1 h;simp only;omega
set_option maxRecDepth 100000
abbrev gA:=PROG×(Int×(List ByteArray×Bool))
theorem Yu (l:List ByteArray) (s:ByteArray) (hl:l.length≤16000000):GT l s=some (Pl l s,()):=by
 have h:=Il (step:=FO) l (fun y=>decide (y=s)) (fun k=>(l,s,(k:Int),())) (.inr (true,())) (.inl ()) (fun k hk=>by
  simp only [FO,BC hk,decide_true,cond_true,Ab hk,Ag hk,Al (show k<9223372036854775807 by omega)];cases decide (l[k]=s)<;>rfl) (by
  simp only [FO,Ae,decide_false,cond_false,Option.map_some])
 have h':AH FO (l,s,(0:Int),())=_:=h
 simp only [GT,Option.bind_some,h',Pl];cases l.any fun y=>decide (y=s)<;>rfl
theorem NJ (l:List NODE) (nm:List ByteArray) (y:Int):HB l false nm y=nm:=rfl
theorem QX (l:List NODE) (nm:List ByteArray):∀ ys:List Int,ys.foldl (HB l false) nm=nm
 | []=>rfl
 | y::ys=>QX l nm ys
theorem NN {k i j:Int} (h:KZ k i j=true) (hk:k≤19) (h2:¬ ((k=16∨k=17)∧0<i)):1≤j∧j≤12:=by
 unfold KZ at h;rw [decide_eq_false (show ¬ k=20 by omega),cond_false] at h;have e:((decide (k=16) || decide (k=17)) && decide (0<i))=false:=by
  rw [Bool.and_eq_false_iff]
  by_cases hi:0<i
  ·left;have:¬ (k=16∨k=17):=fun h=>h2 ⟨h,hi⟩
   rw [Bool.or_eq_false_iff];exact⟨decide_eq_false (by omega),decide_eq_false (by omega)⟩
  ·right;exact decide_eq_false hi
 rw [e,cond_false] at h
 by_cases h19:k=19
 ·rw [decide_eq_true h19,cond_true] at h;have:=of_decide_eq_true h
  omega
 ·rw [decide_eq_false h19,cond_false] at h;exact of_decide_eq_true h
theorem NM {k i j:Int} (h:KZ k i j=true) (hk:k=16∨k=17) (hi:0<i):j=20:=by
 unfold KZ at h;rw [decide_eq_false (show ¬ k=20 by omega),cond_false] at h;have e:((decide (k=16) || decide (k=17)) && decide (0<i))=true:=by
  rw [Bool.and_eq_true,Bool.or_eq_true];exact⟨hk.imp decide_eq_true decide_eq_true,decide_eq_true hi⟩
 rw [e,cond_true] at h;exact of_decide_eq_true h
theorem SN {k i j:Int} (h:KZ k i j=true) (hk:k=20):13≤j∧j≤19:=by
 unfold KZ at h;rw [decide_eq_true hk,cond_true] at h;exact of_decide_eq_true h
theorem WB (p:PROG) (hp:FineP p) (fn:Int):∀ (n:Nat) (k:Int) (nm:List ByteArray) (b:Bool),(0:Int)<AU p.1 k→(rd p.1 k zN).1≤12→k.toNat<n→nm.length≤16000000 →
 (CC n).1 (p,(fn,(nm,b))) k=some ((p,(fn,(nm,b || !BH p fn k nm))),())
 | 0,_,_,_,_,_,h,_=>absurd h (by omega)
 | n+1,k,nm,b,hd,h12,hn,hnm=>by
  have hk:=(Ax hd).1
  have hok:=(Ax hd).2.1
  have hkind:=dJ hok
  have htw:=Eh hok
  have hkid:=fun y hy=>@DQ p.1 k hd y hy
  have hval:∀ i (hi:i<(rd p.1 k zN).2.2.2.length),(rd p.1 (rd p.1 k zN).2.2.2[i] zN).1≤12:=fun i hi=>(NN (Ou hok hi) (by omega) (by omega)).2
  rw [QD p fn hd];show GF (CC n).1 (p,(fn,(nm,b))) k=_
  unfold GF;rw [Ci (show 0≤k∧k<((List.length (p,(fn,(nm,b))).1.1:Nat):Int) from hk)];generalize rd p.1 k zN=x at h12 hkind htw hkid hval ⊢;have h20:¬ x.1=20:=by omega
  rw [decide_eq_false h20];have hl:=CZ (step:=CV (CC n).1) x.2.2.2 (fun(c:List ByteArray×Bool) y=>(HB p.1 false c.1 y,c.2 || !BH p fn y c.1)) (fun i c=>((i:Int),(p,(fn,(c.1,c.2))),x,())) (fun c=>((p,(fn,(c.1,c.2))),x,())) (fun _ c=>c.1=nm) (fun i hi c hc=>by
   obtain⟨k1,k2,k3⟩:=hkid _ (List.getElem_mem hi);have ih:=WB p hp fn n x.2.2.2[i] c.1 c.2 k1 (hval i hi) (by omega) (by rw [hc];exact hnm)
   refine⟨?_,by rw [NJ];exact hc⟩
   simp only [CV,BC hi,decide_true,cond_true,Ab hi,Ag hi,ih,Option.bind_some,Option.map_some,Al (show i<9223372036854775807 by omega),NJ]) (fun c _=>by
   simp only [CV,Ae,decide_false,cond_false,Option.map_some]) (nm,b) rfl
  have h1:=hl.1
  rw [ON (fun nm y=>BH p fn y nm) (HB p.1 false),QX] at h1;have h1':AH (CV (CC n).1) ((0:Int),(p,(fn,(nm,b))),x,())=_:=h1
  simp only [Option.bind_some,h1',AB];generalize (GD (fun nm y=>BH p fn y nm) (HB p.1 false) x.2.2.2 nm).isSome=r;have hT:=Yu nm x.2.2.1 hnm
  have hrest:Dl x.1=true→some ((p,(fn,(nm,b || !r || !Pl nm x.2.2.1))),())=some ((p,(fn,(nm,b || !(okH p fn x nm && r)))),()):=fun hu=>by
   have e12:¬ x.1=12:=by
    intro h;rw [h] at hu;simp [Dl] at hu
   simp only [okH,hu,Bool.not_true,Bool.false_or,decide_eq_false e12,Bool.not_false,Bool.true_or,Bool.and_true];cases b<;>cases r<;>cases Pl nm x.2.2.1<;>rfl
  have hcase:x.1=1∨x.1=2∨x.1=3∨x.1=4∨x.1=5∨x.1=6∨(7≤x.1∧x.1≤11)∨x.1=12:=by omega
  have hset:Dl x.1=true→(bif (b || !r) then some ((p,(fn,(nm,true))),()) else (GT nm x.2.2.1).bind fun y8=>some ((p,(fn,(nm,!y8.1))),()))=some ((p,(fn,(nm,b || !(okH p fn x nm && r)))),()):=fun hu=>by
   rw [← hrest hu,hT,Option.bind_some];cases (b || !r)<;>rfl
  have huse:x.1=2∨x.1=3∨x.1=4∨x.1=5∨x.1=6→Dl x.1=true:=fun h=>by
   simp only [Dl,Bool.or_eq_true,decide_eq_true_eq];omega
  rcases hcase with h | h | h | h | h | h | h | h
  ·have hu:Dl x.1=false:=by rw [h];rfl
   simp only [h,decide_true,decide_false,cond_true,cond_false,AB,Int.reduceEq,okH,show Dl 1=false from rfl,Bool.not_false,Bool.true_or,Bool.true_and]
  ·have:=hset (huse (by omega))
   simp only [h,decide_true,decide_false,cond_true,cond_false,AB,Int.reduceEq];rw [this];rfl
  ·have:=hset (huse (by omega))
   simp only [h,decide_true,decide_false,cond_true,cond_false,AB,Int.reduceEq];rw [this];rfl
  ·have:=hset (huse (by omega))
   simp only [h,decide_true,decide_false,cond_true,cond_false,AB,Int.reduceEq];rw [this];rfl
  ·have:=hset (huse (by omega))
   simp only [h,decide_true,decide_false,cond_true,cond_false,AB,Int.reduceEq];rw [this];rfl
  ·have:=hset (huse (by omega))
   simp only [h,decide_true,decide_false,cond_true,cond_false,AB,Int.reduceEq];rw [this];rfl
  ·have hu:Dl x.1=false:=by
    simp only [Dl,Bool.or_eq_false_iff,decide_eq_false_iff_not];omega
   simp only [show ¬ x.1=2 by omega,show ¬ x.1=3 by omega,show ¬ x.1=4 by omega,show ¬ x.1=5 by omega,show ¬ x.1=6 by omega,show ¬ x.1=12 by omega,decide_false,cond_false,AB,okH,hu,Bool.not_false,Bool.true_or,Bool.true_and]
  ·have hF:=Lf p hp x.2.2.1
   simp only [h,decide_true,decide_false,cond_true,cond_false,AB,Int.reduceEq,hF,Option.bind_some,okH,show Dl 12=false from rfl,Bool.not_false,Bool.true_or,Bool.true_and,Bool.not_true,Bool.false_or];cases hb:(b || !r)
   ·simp only [cond_false];have hr:b=false∧r=true:=by revert hb;cases b<;>cases r<;>simp
    rw [hr.1,hr.2]
    by_cases h0:Ho p.2 x.2.2.1<0
    ·have hc:LW p fn x=false:=by
      unfold LW;rw [Bool.and_eq_false_iff];exact .inl (decide_eq_false (by omega))
     simp only [h0,decide_true,cond_true,AB,hc];rfl
    ·by_cases h1:fn≤Ho p.2 x.2.2.1
     ·have hc:LW p fn x=false:=by
       unfold LW;rw [Bool.and_eq_false_iff];exact .inl (decide_eq_false (by omega))
      simp only [h0,h1,decide_true,decide_false,cond_true,cond_false,AB,hc];rfl
     ·have hlt:=Vi (l:=p.2) (s:=x.2.2.1)
      simp only [h0,h1,decide_false,cond_false];rw [Ci ⟨by omega,hlt⟩];simp only [AB,LW,decide_eq_true (show 0≤Ho p.2 x.2.2.1∧Ho p.2 x.2.2.1≤fn - 1 by omega),Bool.true_and,Bool.and_true,Bool.false_or]
      by_cases hl:((rd p.2 (Ho p.2 x.2.2.1) zF).2.1.length:Int)=(x.2.2.2.length:Int)<;>simp [hl]
   ·have hr:(b || !(LW p fn x && r))=true:=by revert hb;cases b<;>cases r<;>simp
    simp only [cond_true,AB,hr]
theorem Uy (p:PROG) (hp:FineP p) (fn:Int) (k:Int) (nm:List ByteArray) (b:Bool) (hd:(0:Int)<AU p.1 k) (h12:(rd p.1 k zN).1≤12) (hnm:nm.length≤16000000):
 Eo (p,(fn,(nm,b))) k=some ((p,(fn,(nm,b || !BH p fn k nm))),()):=
 KR.2 ⟨k.toNat+1,fun n hn=>WB p hp fn n k nm b hd h12 (by omega) hnm⟩
end Go.Proofs.YtmakhmoielhjeaaGreatDoorE

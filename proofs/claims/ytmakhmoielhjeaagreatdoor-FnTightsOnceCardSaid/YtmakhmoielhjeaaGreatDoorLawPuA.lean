/- The engine, texts AX CodeTy Base Code CodeW Copy Thread Reach Trim Tight Wp Draw1 DrawR Node DrawP DecS Draw5 Draw5s Deep Tree FnAt POk FnOk ProgOk ProgEq DrawQ DeepS: how code is reckoned as Lean functions, and that it is sound. No condition. -/
import Derived.Test.YtmakhmoielhjeaaGreatDoorPackP
import Derived.Test.YtmakhmoielhjeaaGreatDoorLawFX
import Derived.Lib.ItoaLen
set_option linter.all false
namespace Go.Proofs.YtmakhmoielhjeaaGreatDoorE
set_option maxRecDepth 100000
abbrev Nd:Ty:=.pair (.int .i64) (.pair (.int .i64) (.pair (.int .i64) (.pair (.int .i64) (.pair (.int .i64) (.pair .str (.list 0 (.int .i64)))))))
abbrev ff:Ty:=.pair .str (.pair (.int .i64) (.pair (.list 0 (.int .i64)) (.list 0 Nd)))
theorem sIn (a b c:Int):Ar a b c=some (decide (b≤a∧a≤c),()):=by
 unfold Ar
 by_cases h:b≤a<;>simp [h,AB]
theorem iIn (a b c:Int):Cd a b c=some (decide (b≤a∧a≤c),()):=by
 unfold Cd
 by_cases h:b≤a<;>simp [h,AB]
theorem Bj {α β D:Type} {step:β→Option (β ⊕ α)} (l:List D) (q:D→Bool) (S:Nat→β) (rt rf:α) (H:∀ k (h:k<l.length),step (S k)=bif q l[k] then some (.inl (S (k+1))) else some (.inr rf)) (He:step (S l.length)=some (.inr rt)):
 AK step (S 0)=some (bif l.all q then rt else rf):=by
 have key:∀ m k,k+m=l.length→AK step (S k)=some (bif (l.drop k).all q then rt else rf):=by
  intro m
  induction m with
  | zero=>
   intro k hk;obtain rfl:k=l.length:=by omega
   rw [BA He,List.drop_length];rfl
  | succ m ih=>
   intro k hk;have hkl:k<l.length:=by omega
   have h1:=H k hkl
   rw [List.drop_eq_getElem_cons hkl,List.all_cons];cases hq:q l[k]
   ·rw [hq,cond_false] at h1;rw [BA h1];rfl
   ·rw [hq,cond_true] at h1;rw [BW h1,ih (k+1) (by omega),Bool.true_and]
 have:=key l.length 0 (by omega)
 rwa [List.drop_zero] at this
theorem JT {α β D:Type} {step:β→Option (β ⊕ α)} (l:List D) (q:D→Bool) (S:Nat→β) (rt rf:α) (H:∀ k (h:k<l.length),step (S k)=bif q l[k] then some (.inr rt) else some (.inl (S (k+1)))) (He:step (S l.length)=some (.inr rf)):
 AK step (S 0)=some (bif l.any q then rt else rf):=by
 have key:∀ m k,k+m=l.length→AK step (S k)=some (bif (l.drop k).any q then rt else rf):=by
  intro m
  induction m with
  | zero=>
   intro k hk;obtain rfl:k=l.length:=by omega
   rw [BA He,List.drop_length];rfl
  | succ m ih=>
   intro k hk;have hkl:k<l.length:=by omega
   have h1:=H k hkl
   rw [List.drop_eq_getElem_cons hkl,List.any_cons];cases hq:q l[k]
   ·rw [hq,cond_false] at h1;rw [BW h1,ih (k+1) (by omega),Bool.false_or]
   ·rw [hq,cond_true] at h1;rw [BA h1];rfl
 have:=key l.length 0 (by omega)
 rwa [List.drop_zero] at this
theorem CA {α β D γ:Type} {step:β→Option (β ⊕ α)} (l:List D) (g:γ→D→γ) (S:Nat→γ→β) (r:γ→α) (I:Nat→γ→Prop) (H:∀ k (h:k<l.length) c,I k c→step (S k c)=some (.inl (S (k+1) (g c l[k])))∧I (k+1) (g c l[k])) (He:∀ c,I l.length c→step (S l.length c)=some (.inr (r c))) (c:γ) (hc:I 0 c):
 AK step (S 0 c)=some (r (l.foldl g c))∧I l.length (l.foldl g c):=by
 have key:∀ m k c,k+m=l.length→I k c→AK step (S k c)=some (r ((l.drop k).foldl g c))∧I l.length ((l.drop k).foldl g c):=by
  intro m
  induction m with
  | zero=>
   intro k c hk hI;obtain rfl:k=l.length:=by omega
   rw [BA (He c hI),List.drop_length];exact⟨rfl,hI⟩
  | succ m ih=>
   intro k c hk hI;have hkl:k<l.length:=by omega
   obtain⟨h1,h2⟩:=H k hkl c hI;rw [List.drop_eq_getElem_cons hkl,List.foldl_cons,BW h1];exact ih (k+1) _ (by omega) h2
 have:=key l.length 0 c (by omega) hc
 rwa [List.drop_zero] at this
theorem Am {k n:Nat} (h:k<n):((k:Int)<(n:Int)):=by omega
theorem Aa (n:Nat):¬ ((n:Int)<(n:Int)):=by omega
theorem Yr (s:ByteArray) (i:Nat):bAt s (i:Int)=((s.data.getD i 0).toNat:Int):=by simp [bAt]
theorem RP {α β D:Type} {step:β→Option (β ⊕ α)} (l:List D) (f:D→D) (S:Nat→List D→β) (r:List D→α)
 (H:∀ k (h:k<l.length) (o:List D) (ho:o.length=l.length),o[k]'(by omega)=l[k]→step (S k o)=some (.inl (S (k+1) (o.set k (f l[k])))))
 (He:∀ o:List D,o.length=l.length→step (S l.length o)=some (.inr (r o))):AK step (S 0 l)=some (r (l.map f)):=by
 have key:∀ m k,k+m=l.length→AK step (S k ((l.take k).map f++l.drop k))=some (r (l.map f)):=by
  intro m
  induction m with
  | zero=>
   intro k hk;obtain rfl:k=l.length:=by omega
   rw [List.take_length,List.drop_length,List.append_nil];exact BA (He _ (by simp))
  | succ m ih=>
   intro k hk;have hkl:k<l.length:=by omega
   have hlen:((l.take k).map f++l.drop k).length=l.length:=by simp;omega
   have hget:((l.take k).map f++l.drop k)[k]'(by omega)=l[k]:=by
    rw [List.getElem_append_right (by simp;omega)];simp [Nat.min_eq_left (Nat.le_of_lt hkl)]
   rw [BW (H k hkl _ hlen hget)];have e:((l.take k).map f++l.drop k).set k (f l[k])=(l.take (k+1)).map f++l.drop (k+1):=by
    rw [List.set_append_right _ _ (by simp;omega),List.take_succ_eq_append_getElem hkl,List.map_append,List.append_assoc]
    congr 1
    rw [List.length_map,List.length_take,Nat.min_eq_left (Nat.le_of_lt hkl),Nat.sub_self,List.drop_eq_getElem_cons hkl];rfl
   rw [e];exact ih (k+1) (by omega)
 simpa using key l.length 0 (by omega)
theorem Jr {α β D E:Type} {step:β→Option (β ⊕ α)} (l:List D) (g:D→E) (S:Nat→List E→β) (r:List E→α)
 (H:∀ k (h:k<l.length) (o:List E),o.length=k→step (S k o)=some (.inl (S (k+1) (o++[g l[k]]))))
 (He:∀ o:List E,o.length=l.length→step (S l.length o)=some (.inr (r o))):AK step (S 0 [])=some (r (l.map g)):=by
 have key:∀ m k,k+m=l.length→AK step (S k ((l.take k).map g))=some (r (l.map g)):=by
  intro m
  induction m with
  | zero=>
   intro k hk;obtain rfl:k=l.length:=by omega
   rw [List.take_length];exact BA (He _ (by simp))
  | succ m ih=>
   intro k hk;have hkl:k<l.length:=by omega
   rw [BW (H k hkl _ (by simp;omega))];have e:(l.take k).map g++[g l[k]]=(l.take (k+1)).map g:=by
    rw [List.take_succ_eq_append_getElem hkl,List.map_append];rfl
   rw [e];exact ih (k+1) (by omega)
 simpa using key l.length 0 (by omega)
set_option maxRecDepth 100000
def keys:List ByteArray:=[LQ,Jy,LR,Iy,IQ,IM,LP,Jz,IK,IL,s_input_c96c,Jx,IJ,IP]
def NS (s:ByteArray):Bool:=keys.any fun k=>decide (k=s)
theorem Pe (s:ByteArray):IU s=some (NS s,()):=by
 simp only [IU,Ke,Option.bind_some];have h:=JT (step:=EO) keys (fun k=>decide (k=s)) (fun k=>(s,keys,(k:Int),())) (.inr (true,())) (.inl ()) (fun k hk=>by
  have hk14:k<14:=hk
  simp only [EO,Am hk,decide_true,cond_true,AU hk,AZ hk]
  by_cases e:keys[k]=s<;>simp only [e,decide_true,decide_false,cond_true,cond_false,cond_true,cond_false,Option.map_some,Ad (show k<9223372036854775807 by omega)]) (by
  simp only [EO,Aa,decide_false,cond_false,Option.map_some])
 have h':AK EO (s,[LQ,Jy,LR,Iy,IQ,IM,LP,Jz,IK,IL,s_input_c96c,Jx,IJ,IP],(0:Int),())=_:=h
 rw [h'];show Ax (some (bif NS s then Sum.inr (true,()) else Sum.inl ())) _=_
 cases NS s<;>rfl
theorem WR:GT Gs s___36a9=some (keys,()):=by kernel_rfl
theorem Rh (s t:ByteArray) (l:List ByteArray) (hl:l.length≤1000) (h:GT t s___36a9=some (l,())):Jq s t=some (l.any (fun k=>decide (k=s)),()):=by
 simp only [Jq,h,Option.bind_some];have h:=JT (step:=HK) l (fun k=>decide (k=s)) (fun k=>(s,l,(l.length:Int),(k:Int),())) (.inr (true,())) (.inl ()) (fun k hk=>by
  simp only [HK,Am hk,decide_true,cond_true,AU hk,AZ hk]
  by_cases e:l[k]=s<;>simp only [e,decide_true,decide_false,cond_true,cond_false,cond_true,cond_false,Option.map_some,Ad (show k<9223372036854775807 by omega)]) (by
  simp only [HK,Aa,decide_false,cond_false,Option.map_some])
 rw [show((s,l,(l.length:Int),(0:Int),()):ByteArray×List ByteArray×Int×Int×Unit)=(fun k:Nat=>(s,l,(l.length:Int),(k:Int),())) 0 from rfl,h];cases l.any fun k=>decide (k=s)<;>rfl
theorem PR (s:ByteArray):ID s=some (NS s,()):=by
 simp only [ID,Rh s _ keys (by decide) WR,Option.bind_some];rfl
def GS (c:Int):Bool:=decide (97≤c∧c≤122)
def JO (c:Int):Bool:=decide (48≤c∧c≤57)
theorem Na (c:Int):Cv c=some (GS c,()):=by
 unfold Cv GS
 by_cases h:97≤c<;>simp [h,AB]
theorem NZ (c:Int):Cu c=some (JO c,()):=by
 unfold Cu JO
 by_cases h:48≤c<;>simp [h,AB]
theorem UU (c:Int):Fk c=some (GS c,()):=by
 unfold Fk GS
 by_cases h:97≤c<;>simp [h,AB]
theorem bB (c:Int):HN c=some (JO c,()):=by
 unfold HN JO
 by_cases h:48≤c<;>simp [h,AB]
def IR (b:UInt8):Bool:=GS (b.toNat:Int) || JO (b.toNat:Int)
def Bh (s:ByteArray):Bool:=decide (1≤s.size∧s.size≤8) && GS (bAt s 0) && !NS s && s.data.toList.all IR
theorem SW {s:ByteArray} {k:Nat} (h:k<s.data.toList.length):bAt s (k:Int)=((s.data.toList[k].toNat:Nat):Int):=by
 have h':k<s.data.size:=by simpa using h
 rw [Yr,Array.getD_eq_getD_getElem?,Array.getElem?_eq_getElem h'];simp
theorem RX (s:ByteArray):s.data.toList.length=s.size:=by rw [Array.length_toList];rfl
theorem WF (s:ByteArray) (hs:s.size≤8):AK Ep (s,(0:Int),())=some (bif s.data.toList.all IR then .inl () else .inr (false,())):=by
 have hsz:=RX s
 have h:=Bj (step:=Ep) s.data.toList IR (fun k=>(s,(k:Int),())) (.inl ()) (.inr (false,())) (fun k hk=>by
  have hk':k<s.size:=by omega
  have hb:=SW hk
  simp only [Ep,Am hk',decide_true,cond_true,AU hk',Na,NZ,Option.bind_some,hb,IR];generalize ((s.data.toList[k].toNat:Nat):Int)=x;cases GS x<;>cases JO x<;>simp only [Bool.not_false,Bool.not_true,cond_true,cond_false,AD,Option.map_some,Bool.or_false,Bool.or_true,Bool.true_or,Bool.false_or,cond_true,cond_false,Ad (show k<9223372036854775807 by omega)]) (by
  rw [hsz];simp only [Ep,Aa,decide_false,cond_false,Option.map_some])
 exact h
theorem WE (s:ByteArray) (hs:s.size≤8):AK El (s,(0:Int),())=some (bif s.data.toList.all IR then .inl (s,()) else .inr (false,())):=by
 have hsz:=RX s
 have h:=Bj (step:=El) s.data.toList IR (fun k=>(s,(k:Int),())) (.inl (s,())) (.inr (false,())) (fun k hk=>by
  have hk':k<s.size:=by omega
  have hb:=SW hk
  simp only [El,Am hk',decide_true,cond_true,AU hk',UU,bB,Option.bind_some,hb,IR];generalize ((s.data.toList[k].toNat:Nat):Int)=x;cases GS x<;>cases JO x<;>simp only [Bool.not_false,Bool.not_true,cond_true,cond_false,AD,Option.map_some,Bool.or_false,Bool.or_true,Bool.true_or,Bool.false_or,cond_true,cond_false,Ad (show k<9223372036854775807 by omega)]) (by
  rw [hsz];simp only [El,Aa,decide_false,cond_false,Option.map_some])
 exact h
theorem fG {α:Type} {n:Nat} {K:Option α} (h:0<n):(Cnd.idx (0:Int) n).run K=K:=AU (k:=0) h
theorem Cs (s:ByteArray):CH s=some (Bh s,()):=by
 unfold CH Bh;rw [sIn];simp only [Option.bind_some]
 by_cases h:(1:Int)≤(s.size:Int)∧(s.size:Int)≤8
 ·have h':1≤s.size∧s.size≤8:=by omega
  simp only [h,h',and_self,decide_true,Bool.not_true,cond_false,fG (show 0<s.size by omega),Na,Option.bind_some,Bool.true_and];cases GS (bAt s 0)
  ·simp only [Bool.not_false,cond_true,AD,Bool.false_and]
  ·simp only [Bool.not_true,cond_false,Pe,Option.bind_some,AD,Bool.true_and];cases NS s
   ·simp only [cond_false,Option.bind_some,WF s h'.2,Bool.not_false,Bool.true_and];cases s.data.toList.all IR<;>simp only [cond_true,cond_false,BV,Bg]
   ·simp only [cond_true,Bool.not_true,Bool.false_and]
 ·have h':¬ (1≤s.size∧s.size≤8):=by omega
  simp only [h,h',decide_false,Bool.not_false,cond_true,AD,Bool.false_and]
theorem Lp (s:ByteArray):HH s=some (Bh s,()):=by
 unfold HH Bh;rw [iIn];simp only [Option.bind_some]
 by_cases h:(1:Int)≤(s.size:Int)∧(s.size:Int)≤8
 ·have h':1≤s.size∧s.size≤8:=by omega
  simp only [h,h',and_self,decide_true,Bool.not_true,cond_false,fG (show 0<s.size by omega),UU,Option.bind_some,Bool.true_and];cases GS (bAt s 0)
  ·simp only [Bool.not_false,AD,cond_true,Bool.false_and]
  ·simp only [Bool.not_true,AD,cond_false,Option.bind_some,WE s h'.2,Bool.true_and];cases s.data.toList.all IR
   ·simp only [cond_false,Bg,Bool.and_false]
   ·simp only [cond_true,BV,PR,Option.bind_some,Bool.and_true]
 ·have h':¬ (1≤s.size∧s.size≤8):=by omega
  simp only [h,h',decide_false,Bool.not_false,cond_true,AD,Bool.false_and]
set_option maxRecDepth 100000
abbrev INS:=Int×(Int×(Int×(Int×(Int×(ByteArray×List Int)))))
abbrev CODE:=ByteArray×(Int×(List Int×List INS))
structure Small (c:CODE):Prop where
 l:c.2.2.1.length≤1048576
 w:c.2.2.2.length≤1048576
def place (c:CODE) (n:Int):Bool:=decide (0≤n∧n≤(c.2.2.1.length:Int) - 1)
theorem Iq {n:Nat} (h:n≤1048576):IntKind.wrap .i64 ((n:Int) - 1)=(n:Int) - 1:=Aq (by omega) (by omega)
theorem Lr (c:CODE) (h:Small c) (n:Int):Ci c n=some (place c n,()):=by
 simp only [Ci,Iq h.l,sIn,Option.bind_some,place]
theorem XF (c:CODE) (h:Small c) (n:Int) (b:Bool):CY c n b=some (bif b then place c n else decide (n=0),()):=by
 cases b<;>simp only [CY,Iq h.l,iIn,Option.bind_some,place,cond_true,cond_false]
def IB (k:Int):Bool:=decide (2≤k∧k≤7) || (decide (9≤k∧k≤12) || (decide (k=14) || decide (k=15)))
def IC (k:Int):Bool:=decide (10≤k∧k≤12)
theorem gQ (k:Int):FI k=some (IB k,()):=by
 simp only [FI,sIn,Option.bind_some,IB];cases decide (2≤k∧k≤7)<;>cases decide (9≤k∧k≤12)<;>cases decide (k=14)<;>rfl
theorem gH (k:Int):JP k=some (IB k,()):=by
 simp only [JP,iIn,Option.bind_some,IB];cases decide (2≤k∧k≤7)<;>cases decide (9≤k∧k≤12)<;>cases decide (k=14)<;>rfl
theorem gR (k:Int):FJ k=some (IC k,()):=by simp only [FJ,sIn,Option.bind_some,IC]
theorem gI (k:Int):JQ k=some (IC k,()):=by simp only [JQ,iIn,Option.bind_some,IC]
theorem gG (k:Int) (h:1≤k∧k≤20):LH k=some (decide (k≠18),()):=by
 simp only [LH,iIn,Option.bind_some]
 by_cases h1:1≤k∧k≤17
 ·simp only [h1,and_self,decide_true,cond_true,AD];simp;omega
 ·simp only [h1,decide_false,cond_false]
  by_cases h2:k=19
  ·simp only [h2,decide_true,cond_true,AD];rfl
  ·simp only [h2,decide_false,cond_false,AD];simp only [Option.some.injEq,Prod.mk.injEq,and_true]
   by_cases h3:k=20
   ·subst h3;rfl
   ·have:k=18:=by omega
    subst this;rfl
def okA (c:CODE) (w:INS):Bool:=bif decide (w.1=18) then decide (w.2.1=0) else (decide (w.1=13) || decide (w.1=20)) && decide (w.2.1 = -1) || place c w.2.1
def okB (c:CODE) (w:INS):Bool:=bif IB w.1 then place c w.2.2.1 else decide (w.2.2.1=0)
def okC (c:CODE) (w:INS):Bool:=bif IC w.1 then place c w.2.2.2.1 else decide (w.2.2.2.1=0)
def okN (c:CODE) (w:INS):Bool:=bif decide (w.1=1) then decide (0≤w.2.2.2.2.1∧w.2.2.2.2.1≤1000000000) else bif decide (w.1=18) || decide (w.1=19) then decide (0≤w.2.2.2.2.1∧w.2.2.2.2.1≤(c.2.2.2.length:Int) - 1) else decide (w.2.2.2.2.1=0)
def okR (c:CODE) (w:INS):Bool:=bif decide (w.1=13) then w.2.2.2.2.2.2.all (place c) && (Bh w.2.2.2.2.2.1 && decide ((w.2.2.2.2.2.2.length:Int)≤3)) else decide (w.2.2.2.2.2.1=(⟨#[]⟩:ByteArray)) && decide ((w.2.2.2.2.2.2.length:Int)=0)
def Bu (c:CODE) (w:INS):Bool:=decide (1≤w.1∧w.1≤20) && (okA c w && (okB c w && (okC c w && (okN c w && okR c w))))
theorem sA (c:CODE) (h:Small c) (w:INS):LV c w=some (okA c w,()):=by
 simp only [LV,okA]
 by_cases h1:w.1=13
 ·simp only [h1,decide_true,cond_true,AD,show ¬ ((13:Int)=18) by decide,decide_false,cond_false,Bool.true_or,Bool.true_and,Lr c h,Option.bind_some];cases decide (w.2.1 = -1)<;>rfl
 ·by_cases h2:w.1=20
  ·simp only [h2,show ¬ ((20:Int)=13) by decide,decide_true,decide_false,cond_true,cond_false,AD,show ¬ ((20:Int)=18) by decide,Bool.or_true,Bool.true_and,Lr c h,Option.bind_some];cases decide (w.2.1 = -1)<;>rfl
  ·simp only [h1,h2,decide_false,cond_false,AD,Bool.or_self,Bool.false_and,Bool.false_or,Lr c h,Option.bind_some];cases decide (w.1=18)<;>rfl
theorem VX (c:CODE) (h:Small c) (w:INS) (hl:w.2.2.2.2.2.2.length≤1048576):AK Dk ((0:Int),c,w,())=some (bif w.2.2.2.2.2.2.all (place c) then .inl (w,()) else .inr (false,())):=by
 exact Bj (step:=Dk) w.2.2.2.2.2.2 (place c) (fun k=>((k:Int),c,w,())) (.inl (w,())) (.inr (false,())) (fun k hk=>by
  simp only [Dk,Am hk,decide_true,cond_true,AU hk,AZ hk,Lr c h,Option.bind_some,Ad (show k<9223372036854775807 by omega)];cases place c w.2.2.2.2.2.2[k]<;>rfl) (by
  simp only [Dk,Aa,decide_false,cond_false,Option.map_some])
theorem VW (c:CODE) (h:Small c) (w:INS) (hl:w.2.2.2.2.2.2.length≤1048576):AK Em (w.2.2.2.2.2.2,(w.2.2.2.2.2.2.length:Int),(0:Int),c,w,())=some (bif w.2.2.2.2.2.2.all (place c) then .inl (w,()) else .inr (false,())):=by
 exact Bj (step:=Em) w.2.2.2.2.2.2 (place c) (fun k=>(w.2.2.2.2.2.2,(w.2.2.2.2.2.2.length:Int),(k:Int),c,w,())) (.inl (w,())) (.inr (false,())) (fun k hk=>by
  simp only [Em,Am hk,decide_true,cond_true,AU hk,AZ hk,XF c h,Option.bind_some,Ad (show k<9223372036854775807 by omega)];cases place c w.2.2.2.2.2.2[k]<;>rfl) (by
  simp only [Em,Aa,decide_false,cond_false,Option.map_some])
theorem Qj (c:CODE) (h:Small c) (w:INS) (hl:w.2.2.2.2.2.2.length≤1048576):JB c w=some (Bu c w,()):=by
 unfold JB Bu;simp only [sIn,sA c h,Option.bind_some]
 by_cases h1:1≤w.1∧w.1≤20
 case neg=>simp only [h1,decide_false,Bool.not_false,cond_true,AD,Bool.false_and]
 simp only [h1,and_self,decide_true,Bool.not_true,cond_false,AD,Bool.true_and];cases okA c w
 case false=>simp only [Bool.not_false,cond_true,Bool.false_and]
 simp only [Bool.not_true,cond_false,Bool.true_and,gQ,Lr c h,Option.bind_some];have eB:(bif IB w.1 then bif !place c w.2.2.1 then some (true,c,w,()) else bif !IB w.1 then some (decide (w.2.2.1≠0),c,w,()) else some (false,c,w,()) else bif !IB w.1 then some (decide (w.2.2.1≠0),c,w,()) else some (false,c,w,()))=some (!okB c w,c,w,()):=by
  simp only [okB];cases IB w.1<;>cases place c w.2.2.1<;>by_cases e:w.2.2.1=0<;>simp [e]
 rw [eB,AD];cases okB c w
 case false=>simp only [Bool.not_false,cond_true,Bool.false_and]
 simp only [Bool.not_true,cond_false,Bool.true_and,gR,Lr c h,Option.bind_some];have eC:(bif IC w.1 then bif !place c w.2.2.2.1 then some (true,c,w,()) else bif !IC w.1 then some (decide (w.2.2.2.1≠0),c,w,()) else some (false,c,w,()) else bif !IC w.1 then some (decide (w.2.2.2.1≠0),c,w,()) else some (false,c,w,()))=some (!okC c w,c,w,()):=by
  simp only [okC];cases IC w.1<;>cases place c w.2.2.2.1<;>by_cases e:w.2.2.2.1=0<;>simp [e]
 rw [eC,AD];cases okC c w
 case false=>simp only [Bool.not_false,cond_true,Bool.false_and]
 simp only [Bool.not_true,cond_false,Bool.true_and,sIn,Option.bind_some,Iq h.w];have fin:(bif decide (w.1≠13) then AB (bif decide (w.2.2.2.2.2.1=(⟨#[]⟩:ByteArray)) then some (decide ((w.2.2.2.2.2.2.length:Int)=0),()) else some (false,())) fun x19=>some (x19.1,()) else Ax ((some ((0:Int),c,w,())).bind fun x200=>AK Dk x200) fun x22=>AB ((CH x22.1.2.2.2.2.2.1).bind fun y23=>bif y23.1 then some (decide ((x22.1.2.2.2.2.2.2.length:Int)≤3),()) else some (false,())) fun x24=>some (x24.1,()))=some (okR c w,()):=by
  simp only [okR]
  by_cases h13:w.1=13
  ·simp only [h13,ne_eq,not_true_eq_false,decide_false,cond_false,Option.bind_some,VX c h w hl,decide_true,cond_true];cases w.2.2.2.2.2.2.all (place c)
   ·simp only [cond_false,Bg,Bool.false_and]
   ·simp only [cond_true,BV,Cs,Option.bind_some,Bool.true_and];cases Bh w.2.2.2.2.2.1<;>rfl
  ·simp only [h13,ne_eq,not_false_eq_true,decide_true,cond_true,decide_false,cond_false];cases decide (w.2.2.2.2.2.1=(⟨#[]⟩:ByteArray))<;>rfl
 simp only [okN]
 by_cases hk1:w.1=1
 ·simp only [hk1,decide_true,cond_true];cases decide (0≤w.2.2.2.2.1∧w.2.2.2.2.1≤1000000000)
  ·simp only [Bool.not_false,cond_true,Option.map_some,Bg,Bool.false_and]
  ·simp only [Bool.not_true,cond_false,Option.map_some,BV,Bool.true_and];exact fin
 ·have e15:(bif decide (w.1=18) then some (decide (w.1=18),c,w,()) else some (decide (w.1=19),c,w,()))=some (decide (w.1=18) || decide (w.1=19),c,w,()):=by
   cases decide (w.1=18)<;>rfl
  simp only [hk1,decide_false,cond_false];rw [e15,AD];cases decide (w.1=18) || decide (w.1=19)
  ·simp only [cond_false]
   by_cases hz:w.2.2.2.2.1=0
   ·simp only [hz,ne_eq,not_true_eq_false,decide_false,cond_false,BV,Option.map_some,decide_true,Bool.true_and];exact fin
   ·simp only [hz,ne_eq,not_false_eq_true,decide_true,cond_true,Option.map_some,Bg,decide_false,Bool.false_and]
  ·simp only [cond_true,sIn,Option.bind_some,Iq h.w];cases decide (0≤w.2.2.2.2.1∧w.2.2.2.2.1≤(c.2.2.2.length:Int) - 1)
   ·simp only [Bool.not_false,cond_true,Option.map_some,Bg,Bool.false_and]
   ·simp only [Bool.not_true,cond_false,BV,Option.map_some,Bool.true_and];exact fin
theorem Wg (x:Int):decide (0≤x∧x≤0)=decide (x=0):=by
 by_cases e:x=0
 ·simp [e]
 ·rw [decide_eq_false e,decide_eq_false (by omega)]
theorem Qb (c:CODE) (h:Small c) (w:INS) (hl:w.2.2.2.2.2.2.length≤1048576):Iw c w=some (Bu c w,()):=by
 unfold Iw Bu;simp only [iIn,Option.bind_some]
 by_cases h1:1≤w.1∧w.1≤20
 case neg=>simp only [h1,decide_false,Bool.not_false,cond_true,Bool.false_and]
 simp only [h1,and_self,decide_true,Bool.not_true,cond_false,Bool.true_and];have e0:(bif decide (w.1=13) then some (decide (w.2.1 = -1),c,w,()) else bif decide (w.1=20) then some (decide (w.2.1 = -1),c,w,()) else some (false,c,w,()))=some ((decide (w.1=13) || decide (w.1=20)) && decide (w.2.1 = -1),c,w,()):=by
  cases decide (w.1=13)<;>cases decide (w.1=20)<;>rfl
 rw [e0,AD];simp only [gG w.1 h1,gH,gI,XF c h,Option.bind_some];have eA:(bif !((decide (w.1=13) || decide (w.1=20)) && decide (w.2.1 = -1)) then bif !(bif decide (w.1≠18) then place c w.2.1 else decide (w.2.1=0)) then some (true,c,w,()) else bif !(bif IB w.1 then place c w.2.2.1 else decide (w.2.2.1=0)) then some (true,c,w,()) else some (!(bif IC w.1 then place c w.2.2.2.1 else decide (w.2.2.2.1=0)),c,w,())
  else bif !(bif IB w.1 then place c w.2.2.1 else decide (w.2.2.1=0)) then some (true,c,w,()) else some (!(bif IC w.1 then place c w.2.2.2.1 else decide (w.2.2.2.1=0)),c,w,()))=some (!(okA c w && (okB c w && okC c w)),c,w,()):=by
  have hA:okA c w=(((decide (w.1=13) || decide (w.1=20)) && decide (w.2.1 = -1)) || (bif decide (w.1≠18) then place c w.2.1 else decide (w.2.1=0))):=by
   simp only [okA]
   by_cases e:w.1=18
   ·simp [e]
   ·simp [e]
  rw [hA];show _=some (!(_ && ((bif IB w.1 then place c w.2.2.1 else decide (w.2.2.1=0)) && (bif IC w.1 then place c w.2.2.2.1 else decide (w.2.2.2.1=0)))),c,w,())
  cases ((decide (w.1=13) || decide (w.1=20)) && decide (w.2.1 = -1))<;>cases (bif decide (w.1≠18) then place c w.2.1 else decide (w.2.1=0))<;>cases (bif IB w.1 then place c w.2.2.1 else decide (w.2.2.1=0))<;>cases (bif IC w.1 then place c w.2.2.2.1 else decide (w.2.2.2.1=0))<;>rfl
 rw [eA,AD];have hsp:(okA c w && (okB c w && (okC c w && (okN c w && okR c w))))=((okA c w && (okB c w && okC c w)) && (okN c w && okR c w)):=by
  cases okA c w<;>cases okB c w<;>cases okC c w<;>rfl
 rw [hsp];cases okA c w && (okB c w && okC c w)
 case false=>simp only [Bool.not_false,cond_true,Bool.false_and]
 simp only [Bool.not_true,cond_false,Bool.true_and,Iq h.w];have e15:(bif decide (w.1=18) then some ((0:Int),decide (w.1=18),c,w,()) else some ((0:Int),decide (w.1=19),c,w,()))=some ((0:Int),decide (w.1=18) || decide (w.1=19),c,w,()):=by
  cases decide (w.1=18)<;>rfl
 rw [e15,AD];simp only [Iq h.w];have eN:(bif decide (w.1=1) then some ((1000000000:Int),c,w,()) else AB (bif decide (w.1=18) || decide (w.1=19) then some ((c.2.2.2.length:Int) - 1,c,w,()) else some ((0:Int),c,w,())) fun x15:Int×CODE×INS×Unit=>some (x15.1,x15.2.1,x15.2.2.1,())) =
  some ((bif decide (w.1=1) then (1000000000:Int) else bif decide (w.1=18) || decide (w.1=19) then (c.2.2.2.length:Int) - 1 else 0),c,w,()):=by
  cases decide (w.1=1)<;>cases (decide (w.1=18) || decide (w.1=19))<;>rfl
 rw [eN,AD];simp only [iIn,Option.bind_some];have eK:decide (0≤w.2.2.2.2.1∧w.2.2.2.2.1≤(bif decide (w.1=1) then (1000000000:Int) else bif decide (w.1=18) || decide (w.1=19) then (c.2.2.2.length:Int) - 1 else 0))=okN c w:=by
  simp only [okN];cases decide (w.1=1)<;>cases (decide (w.1=18) || decide (w.1=19))<;>simp only [cond_true,cond_false]
  exact Wg _
 rw [eK];cases okN c w
 case false=>simp only [Bool.not_false,cond_true,Bool.false_and]
 simp only [Bool.not_true,cond_false,Bool.true_and,okR]
 by_cases h13:w.1=13
 ·simp only [h13,ne_eq,not_true_eq_false,decide_false,cond_false,VW c h w hl,decide_true,cond_true];cases w.2.2.2.2.2.2.all (place c)
  ·simp only [cond_false,Bg,Bool.false_and]
  ·simp only [cond_true,BV,Lp,Option.bind_some,Bool.true_and];cases Bh w.2.2.2.2.2.1<;>rfl
 ·simp only [h13,ne_eq,not_false_eq_true,decide_true,cond_true,decide_false,cond_false];cases decide (w.2.2.2.2.2.1=(⟨#[]⟩:ByteArray))<;>rfl
structure FineC (c:CODE):Prop where
 s:Small c
 a:∀ w∈c.2.2.2,(w:INS).2.2.2.2.2.2.length≤1048576
def Gj (n:Int):Bool:=decide (1≤n∧n≤4)
def BU (c:CODE):Bool:=Bh c.1 && (decide (c.2.2.1.length≤200) && (decide (0≤c.2.1∧c.2.1≤(c.2.2.1.length:Int)) && (decide (1≤c.2.2.2.length∧c.2.2.2.length≤400) && (decide ((c.2.2.2.getD (c.2.2.2.length - 1) (0,0,0,0,0,⟨#[]⟩,[])).1=20) && (c.2.2.1.all Gj && c.2.2.2.all (Bu c))))))
theorem Sx (c:CODE) (h:FineC c):AK Eo ((0:Int),c,())=some (bif c.2.2.1.all Gj then .inl (c,()) else .inr (false,())):=by
 have hl:=h.s.l
 exact Bj (step:=Eo) c.2.2.1 Gj (fun k=>((k:Int),c,())) (.inl (c,())) (.inr (false,())) (fun k hk=>by
  simp only [Eo,Am hk,decide_true,cond_true,AU hk,AZ hk,sIn,Option.bind_some,Ad (show k<9223372036854775807 by omega),Gj];cases decide (1≤c.2.2.1[k]∧c.2.2.1[k]≤4)<;>rfl) (by
  simp only [Eo,Aa,decide_false,cond_false,Option.map_some])
theorem Sw (c:CODE) (h:FineC c):AK Ek (c.2.2.1,(c.2.2.1.length:Int),(0:Int),c,())=some (bif c.2.2.1.all Gj then .inl (c,()) else .inr (false,())):=by
 have hl:=h.s.l
 exact Bj (step:=Ek) c.2.2.1 Gj (fun k=>(c.2.2.1,(c.2.2.1.length:Int),(k:Int),c,())) (.inl (c,())) (.inr (false,())) (fun k hk=>by
  simp only [Ek,Am hk,decide_true,cond_true,AU hk,AZ hk,iIn,Option.bind_some,Ad (show k<9223372036854775807 by omega),Gj];cases decide (1≤c.2.2.1[k]∧c.2.2.1[k]≤4)<;>rfl) (by
  simp only [Ek,Aa,decide_false,cond_false,Option.map_some])
theorem UG (c:CODE) (h:FineC c):AK Ex ((0:Int),c,())=some (bif c.2.2.2.all (Bu c) then .inl () else .inr (false,())):=by
 have hl:=h.s.w
 exact Bj (step:=Ex) c.2.2.2 (Bu c) (fun k=>((k:Int),c,())) (.inl ()) (.inr (false,())) (fun k hk=>by
  simp only [Ex,Am hk,decide_true,cond_true,AU hk,AZ hk,Qj c h.s _ (h.a _ (List.getElem_mem hk)),Option.bind_some,Ad (show k<9223372036854775807 by omega)];cases Bu c c.2.2.2[k]<;>rfl) (by
  simp only [Ex,Aa,decide_false,cond_false,Option.map_some])
theorem UF (c:CODE) (h:FineC c):AK Ew (c.2.2.2,(c.2.2.2.length:Int),(0:Int),c,())=some (bif c.2.2.2.all (Bu c) then .inl () else .inr (false,())):=by
 have hl:=h.s.w
 exact Bj (step:=Ew) c.2.2.2 (Bu c) (fun k=>(c.2.2.2,(c.2.2.2.length:Int),(k:Int),c,())) (.inl ()) (.inr (false,())) (fun k hk=>by
  simp only [Ew,Am hk,decide_true,cond_true,AU hk,AZ hk,Qb c h.s _ (h.a _ (List.getElem_mem hk)),Option.bind_some,Ad (show k<9223372036854775807 by omega)];cases Bu c c.2.2.2[k]<;>rfl) (by
  simp only [Ew,Aa,decide_false,cond_false,Option.map_some])
theorem XL {n:Nat} (h:1≤n):(n:Int) - 1=((n - 1:Nat):Int):=by omega
theorem bR {α:Type} (l:List α) (k:Nat) (z:α):rd l (k:Int) z=l.getD k z:=by simp [rd]
theorem RJ (c:CODE) (h:FineC c) (nm:Bool) (r:Bool×CODE×Unit→Option (Bool×Unit)):
 (AB (bif !nm then some (true,c,()) else bif decide ((200:Int)<(c.2.2.1.length:Int)) then some (true,c,()) else bif !decide ((0:Int)≤c.2.1∧c.2.1≤(c.2.2.1.length:Int)) then some (true,c,()) else bif !decide ((1:Int)≤(c.2.2.2.length:Int)∧(c.2.2.2.length:Int)≤400) then some (true,c,()) else
  (Cnd.idx ((c.2.2.2.length:Int) - 1) (c.2.2.2.length)).run (some (decide ((rd c.2.2.2 ((c.2.2.2.length:Int) - 1) (0,0,0,0,0,⟨#[]⟩,[])).1≠(20:Int)),c,()))) r) =
 r (!(nm && (decide (c.2.2.1.length≤200) && (decide (0≤c.2.1∧c.2.1≤(c.2.2.1.length:Int)) && (decide (1≤c.2.2.2.length∧c.2.2.2.length≤400) && decide ((c.2.2.2.getD (c.2.2.2.length - 1) (0,0,0,0,0,⟨#[]⟩,[])).1=20))))),c,()):=by
 have e1:decide ((200:Int)<(c.2.2.1.length:Int)) = !decide (c.2.2.1.length≤200):=by
  by_cases e:c.2.2.1.length≤200
  ·rw [decide_eq_true e,decide_eq_false (by omega)];rfl
  ·rw [decide_eq_false e,decide_eq_true (by omega)];rfl
 have e2:decide ((1:Int)≤(c.2.2.2.length:Int)∧(c.2.2.2.length:Int)≤400)=decide (1≤c.2.2.2.length∧c.2.2.2.length≤400):=by
  by_cases e:1≤c.2.2.2.length∧c.2.2.2.length≤400
  ·rw [decide_eq_true e,decide_eq_true (by omega)]
  ·rw [decide_eq_false e,decide_eq_false (by omega)]
 rw [e1,e2];cases nm
 ·rfl
 cases decide (c.2.2.1.length≤200)
 ·rfl
 cases decide (0≤c.2.1∧c.2.1≤(c.2.2.1.length:Int))
 ·rfl
 by_cases e:1≤c.2.2.2.length∧c.2.2.2.length≤400
 ·have hlt:c.2.2.2.length - 1<c.2.2.2.length:=by omega
  simp only [e,and_self,decide_true,Bool.not_true,cond_false,XL e.1,AU hlt,bR,AD,Bool.true_and]
  by_cases e3:(c.2.2.2.getD (c.2.2.2.length - 1) (0,0,0,0,0,⟨#[]⟩,[])).1=20
  ·simp [e3]
  ·simp [e3]
 ·rw [decide_eq_false e];rfl
theorem Dm (c:CODE) (h:FineC c):CG c=some (BU c,()):=by
 unfold CG BU;simp only [Cs,sIn,Option.bind_some,Iq h.s.w];rw [RJ c h];have hsp:∀ a b d e f g i:Bool,(a && (b && (d && (e && (f && (g && i))))))=((a && (b && (d && (e && f)))) && (g && i)):=by decide
 rw [hsp];cases Bh c.1 && (decide (c.2.2.1.length≤200) && (decide (0≤c.2.1∧c.2.1≤(c.2.2.1.length:Int)) && (decide (1≤c.2.2.2.length∧c.2.2.2.length≤400) && decide ((c.2.2.2.getD (c.2.2.2.length - 1) (0,0,0,0,0,⟨#[]⟩,[])).1=20))))
 ·rfl
 simp only [Bool.not_true,cond_false,Bool.true_and,Sx c h];cases c.2.2.1.all Gj
 ·rfl
 simp only [cond_true,BV,Option.bind_some,UG c h,Bool.true_and];cases c.2.2.2.all (Bu c)<;>rfl
theorem Im (c:CODE) (h:FineC c):Fs c=some (BU c,()):=by
 unfold Fs BU;simp only [Lp,iIn,Option.bind_some,Iq h.s.w];rw [RJ c h];have hsp:∀ a b d e f g i:Bool,(a && (b && (d && (e && (f && (g && i))))))=((a && (b && (d && (e && f)))) && (g && i)):=by decide
 rw [hsp];cases Bh c.1 && (decide (c.2.2.1.length≤200) && (decide (0≤c.2.1∧c.2.1≤(c.2.2.1.length:Int)) && (decide (1≤c.2.2.2.length∧c.2.2.2.length≤400) && decide ((c.2.2.2.getD (c.2.2.2.length - 1) (0,0,0,0,0,⟨#[]⟩,[])).1=20))))
 ·rfl
 simp only [Bool.not_true,cond_false,Bool.true_and,Sw c h];cases c.2.2.1.all Gj
 ·rfl
 simp only [cond_true,BV,Option.bind_some,UF c h,Bool.true_and];cases c.2.2.2.all (Bu c)<;>rfl
set_option maxRecDepth 100000
theorem TD {α β:Type} {l:List α} {n m:Nat} {K:Option β} (h:l.length * n≤m):(Cnd.le ((List.length ([]:List α)+l.length) * n) m).run K=K:=by
 rw [DB];simpa using h
theorem WQ (l:List INS) (hl:l.length≤1048576) (ha:∀ w∈l,(w:INS).2.2.2.2.2.2.length≤1048576):HV l=some (l,()):=by
 have h:=Jr (step:=Dt) l (fun w=>w) (fun k o=>(l,o,(k:Int),())) (fun o=>(o,())) (fun k hk o ho=>by
  have h1:=ha _ (List.getElem_mem hk)
  simp only [Dt,Am hk,decide_true,cond_true,AU hk,AZ hk,List.nil_append,Option.map_some,Ad (show k<9223372036854775807 by omega)];rw [TD (by omega),DB (by rw [ho];simp;omega)]) (fun o ho=>by
  simp only [Dt,Aa,decide_false,cond_false,Option.map_some])
 have h':AK Dt (l,[],(0:Int),())=_:=h
 simp only [HV,Option.bind_some,h',AD,List.map_id']
theorem RY (c:CODE) (h:FineC c):Gc c=some (c,()):=by
 have h1:=h.s.l
 simp only [Gc,WQ _ h.s.w h.a,Option.bind_some,List.nil_append];rw [TD (by omega)]
theorem RN (l:List Int) (h:l.length≤1048576):Fj l=some (l,()):=by
 simp only [Fj,List.nil_append];rw [TD (by omega)]
theorem LG (c:CODE) (h:FineC c):EM c=some (c,()):=by
 have hl:=h.s.w
 have h1:=h.s.l
 have hp:=Jr (step:=Dn) c.2.2.2 (fun w=>w) (fun k o=>(o,c.2.2.2,(c.2.2.2.length:Int),(k:Int),c,((⟨#[]⟩:ByteArray),((0:Int),([],[]))),())) (fun o=>(o,c,((⟨#[]⟩:ByteArray),((0:Int),([],[]))),())) (fun k hk o ho=>by
  have h1:=h.a _ (List.getElem_mem hk)
  simp only [Dn,Am hk,decide_true,cond_true,AU hk,AZ hk,RN _ h1,Option.bind_some,Option.map_some,Ad (show k<9223372036854775807 by omega)];rw [DB (by rw [ho];simp;omega)]) (fun o ho=>by
  simp only [Dn,Aa,decide_false,cond_false,Option.map_some])
 have hp':AK Dn ([],c.2.2.2,(c.2.2.2.length:Int),(0:Int),(c.1,(c.2.1,(c.2.2.1,c.2.2.2))),((⟨#[]⟩:ByteArray),((0:Int),([],[]))),())=_:=hp
 simp only [EM,RN _ h1,Option.bind_some,hp',AD,List.map_id']
abbrev zI:INS:=((0:Int),((0:Int),((0:Int),((0:Int),((0:Int),((⟨#[]⟩:ByteArray),[]))))))
def Jmp (l:List INS):Prop:=∀ w∈l,(w:INS).1=18∨(w:INS).1=19→∃ t:Nat,(w:INS).2.2.2.2.1=(t:Int)∧t<l.length
theorem KW {c:CODE} (h:BU c=true):Jmp c.2.2.2:=by
 intro w hw hj;simp only [BU,Bool.and_eq_true,List.all_eq_true] at h;have h1:=h.2.2.2.2.2.2 w hw
 simp only [Bu,Bool.and_eq_true] at h1;have h2:=h1.2.2.2.2.1
 simp only [okN] at h2;have hne:¬ w.1=1:=by omega
 have hd:(decide (w.1=18) || decide (w.1=19))=true:=by simpa using hj
 rw [decide_eq_false hne,hd,cond_false,cond_true,decide_eq_true_eq] at h2;generalize hn:(w.2.2.2.2.1:Int)=n at h2;exact⟨n.toNat,by omega,by omega⟩
set_option maxRecDepth 100000
namespace Threaded
def op (l:List INS) (t:Int):Int:=(rd l t zI).1
def num (l:List INS) (t:Int):Int:=(rd l t zI).2.2.2.2.1
def CE (l:List INS):Nat→Int→Option Int
 | 0,_=>none
 | n+1,t=>if op l t=18 then CE l n (num l t) else some t
def thr (l:List INS) (w:INS):INS:=if w.1=18∨w.1=19 then (match CE l (l.length+1) w.2.2.2.2.1 with | some t=>(w.1,(w.2.1,(w.2.2.1,(w.2.2.2.1,(t,(w.2.2.2.2.2.1,w.2.2.2.2.2.2)))))) | none=>w) else w
theorem XK {l:List INS} (h:Jmp l) {t:Nat} (ht:t<l.length) (ho:op l (t:Int)=18):∃ u:Nat,num l (t:Int)=(u:Int)∧u<l.length:=by
 simp only [op,num,AZ ht] at ho ⊢;exact h _ (List.getElem_mem ht) (.inl ho)
theorem PI (c:CODE) (h:Jmp c.2.2.2) (hl:c.2.2.2.length≤1048576) (N:Nat) (hN:N≤2000000):∀ (m k t:Nat),k+m=N→t<c.2.2.2.length→AK EL ((t:Int),(N:Int),(k:Int),c,())=some (match CE c.2.2.2 m t with | some t=>.inr (t,true,()) | none=>.inl ())
 | 0,k,t,hk,ht=>by
  obtain rfl:k=N:=by omega
  refine BA ?_
  simp only [EL,Aa,decide_false,cond_false,Option.map_some,CE]
 | m+1,k,t,hk,ht=>by
  have hkN:k<N:=by omega
  by_cases ho:op c.2.2.2 (t:Int)=18
  ·obtain⟨u,hu,hul⟩:=XK h ht ho;have ho':(c.2.2.2[t]).1=18:=by simpa only [op,AZ ht] using ho
   have hu':(c.2.2.2[t]).2.2.2.2.1=(u:Int):=by simpa only [num,AZ ht] using hu
   have:=PI c h hl N hN m (k+1) u (by omega) hul
   rw [CE,if_pos ho,hu,← this];refine BW ?_
   simp only [EL,Am hkN,decide_true,cond_true,AU ht,AZ ht,ho',hu',ne_eq,not_true_eq_false,decide_false,cond_false,Option.map_some,Ad (show k<9223372036854775807 by omega)]
  ·have ho':¬ (c.2.2.2[t]).1=18:=by simpa only [op,AZ ht] using ho
   rw [CE,if_neg ho];refine BA ?_
   simp only [EL,Am hkN,decide_true,cond_true,AU ht,AZ ht,ho',ne_eq,not_false_eq_true,Option.map_some]
theorem ZV (c:CODE) (h:Jmp c.2.2.2) (hl:c.2.2.2.length≤1048576) (t:Nat) (ht:t<c.2.2.2.length):Jp c (t:Int)=some (match CE c.2.2.2 (c.2.2.2.length+1) t with | some t=>(t,true,()) | none=>(0,false,())):=by
 have h0:=PI c h hl (c.2.2.2.length+1) (by omega) (c.2.2.2.length+1) 0 t (by omega) ht
 have h0':AK EL ((t:Int),((c.2.2.2.length+1:Nat):Int),(0:Int),c,())=_:=h0
 simp only [Jp,Ad (show c.2.2.2.length<9223372036854775807 by omega),Option.bind_some,h0'];cases CE c.2.2.2 (c.2.2.2.length+1) (t:Int)<;>rfl
theorem TR {l:List INS} {k:Nat} (h:k<l.length):l.set k l[k]=l:=List.set_getElem_self h
theorem XG (c z:CODE) (h:Jmp c.2.2.2) (hl:c.2.2.2.length≤1048576):AK CM ((c.2.2.2.length:Int),(0:Int),c,z,c,())=some (z,(c.1,(c.2.1,(c.2.2.1,c.2.2.2.map (thr c.2.2.2)))),()):=by
 exact RP (step:=CM) c.2.2.2 (thr c.2.2.2) (fun k o=>((c.2.2.2.length:Int),(k:Int),c,z,(c.1,(c.2.1,(c.2.2.1,o))),())) (fun o=>(z,(c.1,(c.2.1,(c.2.2.1,o))),())) (fun k hk o ho hg=>by
  have hko:k<o.length:=by omega
  have wk:=Ad (show k<9223372036854775807 by omega)
  have hrd:rd o (k:Int) zI=c.2.2.2[k]:=by rw [AZ hko,hg]
  by_cases hj:(c.2.2.2[k]).1=18∨(c.2.2.2[k]).1=19
  ·obtain⟨t,ht,htl⟩:=h _ (List.getElem_mem hk) hj;have he:=ZV c h hl t htl
   have fin:∀ (y:Int×Bool×Unit),y=(match CE c.2.2.2 (c.2.2.2.length+1) (t:Int) with | some t=>(t,true,()) | none=>(0,false,()))→(AB (bif y.2.1 then Ba (t:=ff) ((c.1,(c.2.1,(c.2.2.1,List.set o (k:Int).toNat ((c.2.2.2[k]).1,((c.2.2.2[k]).2.1,((c.2.2.2[k]).2.2.1,((c.2.2.2[k]).2.2.2.1,(y.1,(c.2.2.2[k]).2.2.2.2.2)))))))):CODE) fun v8=>some ((c.2.2.2.length:Int),(k:Int),c,z,v8,()) else some ((c.2.2.2.length:Int),(k:Int),c,z,((c.1,(c.2.1,(c.2.2.1,o))):CODE),())) fun x9=>some (x9.1,x9.2.1,x9.2.2.1,x9.2.2.2.1,x9.2.2.2.2.1,())) =
    some ((c.2.2.2.length:Int),(k:Int),c,z,((c.1,(c.2.1,(c.2.2.1,o.set k (thr c.2.2.2 c.2.2.2[k])))):CODE),()):=by
    rintro y rfl
    rw [thr,if_pos hj,ht];cases CE c.2.2.2 (c.2.2.2.length+1) (t:Int) with
    | some v=>rfl
    | none=>simp only;rw [← hg,TR hko];rfl
   have tail:∀ y,(some ((k:Int),c,z,y,()):Option (Int×CODE×CODE×CODE×Unit))=some ((k:Int),c,z,y,())→AB (some ((c.2.2.2.length:Int),(k:Int),c,z,y,())) (fun x10:Int×Int×CODE×CODE×CODE×Unit=>Option.map (Sum.inl (β:=CODE×CODE×Unit)) (some (x10.1,IntKind.wrap .i64 (x10.2.1+1),x10.2.2.1,x10.2.2.2.1,x10.2.2.2.2.1,())))=some (.inl ((c.2.2.2.length:Int),((k+1:Nat):Int),c,z,y,())):=fun y _=>by
    simp only [AD,wk,Option.map_some]
   have go:=(congrArg (fun v=>AB v (fun x10:Int×Int×CODE×CODE×CODE×Unit=>Option.map (Sum.inl (β:=CODE×CODE×Unit)) (some (x10.1,IntKind.wrap .i64 (x10.2.1+1),x10.2.2.1,x10.2.2.2.1,x10.2.2.2.2.1,())))) (fin _ rfl)).trans (tail _ rfl)
   rcases hj with e | e
   ·have d18:decide ((c.2.2.2[k]).1≠18)=false:=by simp [e]
    simp only [CM,Am hk,decide_true,cond_true,hrd,AU hko,d18,cond_false,AD,ht,Option.bind_some,he];exact go
   ·have d18:decide ((c.2.2.2[k]).1≠18)=true:=by simp [e]
    have d19:decide ((c.2.2.2[k]).1≠19)=false:=by simp [e]
    simp only [CM,Am hk,decide_true,cond_true,hrd,AU hko,d18,d19,cond_false,AD,ht,Option.bind_some,he];exact go
  ·have hthr:thr c.2.2.2 c.2.2.2[k]=c.2.2.2[k]:=by rw [thr,if_neg hj]
   have h18:¬ (c.2.2.2[k]).1=18:=fun e=>hj (.inl e)
   have h19:¬ (c.2.2.2[k]).1=19:=fun e=>hj (.inr e)
   have hs:o.set k (thr c.2.2.2 c.2.2.2[k])=o:=by rw [hthr,← hg,TR hko]
   rw [hs];simp only [CM,Am hk,decide_true,cond_true,hrd,AU hko,h18,h19,ne_eq,not_false_eq_true,AD,wk,Option.map_some]) (fun o ho=>by
  simp only [CM,Aa,decide_false,cond_false,Option.map_some])
noncomputable def val (c:CODE):CODE:=bif BU c then (c.1,(c.2.1,(c.2.2.1,c.2.2.2.map (thr c.2.2.2)))) else c
theorem impl_ok (c:CODE) (h:FineC c):DT c=some (val c,()):=by
 simp only [DT,LG c h,Im c h,Option.bind_some,val];cases hc:BU c
 ·simp only [Bool.not_false,cond_true,cond_false]
 ·simp only [Bool.not_true,cond_false,cond_true,XG c _ (KW hc) h.s.w,AD]
end Threaded
set_option maxRecDepth 100000
def inR (c:CODE) (n:Int):Bool:=decide (0≤n∧n≤(c.2.2.2.length:Int) - 1)
def DS (c:CODE) (i:Nat):List Int:=bif decide ((rd c.2.2.2 (i:Int) zI).1=20) then [] else bif decide ((rd c.2.2.2 (i:Int) zI).1=18) then [(rd c.2.2.2 (i:Int) zI).2.2.2.2.1] else bif decide ((rd c.2.2.2 (i:Int) zI).1=19) then [((i+1:Nat):Int),(rd c.2.2.2 (i:Int) zI).2.2.2.2.1] else [((i+1:Nat):Int)]
def JZ (c:CODE) (o:List Int) (n:Int):List Int:=bif inR c n then (bif o.any (fun y=>decide (y=n)) then o else o++[n]) else o
def JY (c:CODE) (o:List Int) (n:Int):List Int:=bif inR c n then o++[n] else o
def nxS (c:CODE) (i:Nat):List Int:=(DS c i).foldl (JZ c) []
def nxI (c:CODE) (i:Nat):List Int:=(DS c i).foldl (JY c) []
theorem OI (c:CODE) (i:Nat):(DS c i).length≤2:=by
 unfold DS;cases decide ((rd c.2.2.2 (i:Int) zI).1=20)<;>cases decide ((rd c.2.2.2 (i:Int) zI).1=18)<;>cases decide ((rd c.2.2.2 (i:Int) zI).1=19)<;>simp
theorem aB (l:List Int) (n:Int) (hl:l.length≤4000000):JE l n=some (bif l.any (fun y=>decide (y=n)) then l else l++[n],()):=by
 have h:=JT (step:=Ev) l (fun y=>decide (y=n)) (fun k=>(l,n,(k:Int),())) (.inr (l,())) (.inl (l,n,())) (fun k hk=>by
  simp only [Ev,Am hk,decide_true,cond_true,AU hk,AZ hk,Ad (show k<9223372036854775807 by omega)];cases decide (l[k]=n)<;>rfl) (by
  simp only [Ev,Aa,decide_false,cond_false,Option.map_some])
 have h':AK Ev (l,n,(0:Int),())=_:=h
 simp only [JE,Option.bind_some,h'];cases l.any fun y=>decide (y=n)
 ·simp only [cond_false,BV];rw [DB (by simp;omega)]
 ·simp only [cond_true,Bg]
theorem Xd (c:CODE) (h:FineC c) (i:Nat) (hi:i<c.2.2.2.length):LU c (i:Int)=some (nxS c i,()):=by
 have hw:=h.s.w
 have hcl:=OI c i
 have wi:=Ad (show i<9223372036854775807 by omega)
 have h1:=CA (step:=GN) (DS c i) (JZ c) (fun k o=>(o,DS c i,(k:Int),c,())) (fun o=>(o,())) (fun k o=>o.length≤k) (fun k hk o ho=>by
  refine⟨?_,?_⟩
  ·simp only [GN,Am hk,decide_true,cond_true,AU hk,AZ hk,Iq hw,sIn,Option.bind_some,Ad (show k<9223372036854775807 by omega),aB o _ (show o.length≤4000000 by omega),JZ,inR];generalize (DS c i)[k]=n;have wk:=Ad (show k<9223372036854775807 by omega)
   cases decide (0≤n∧n≤(c.2.2.2.length:Int) - 1)<;>simp only [cond_true,cond_false,AD,Option.map_some,wk]
  ·unfold JZ;cases inR c (DS c i)[k]
   ·simp only [cond_false];omega
   ·cases o.any fun y=>decide (y=(DS c i)[k])
    ·simp only [cond_true,cond_false,List.length_append,List.length_cons,List.length_nil];omega
    ·simp only [cond_true];omega) (fun o ho=>by
  simp only [GN,Aa,decide_false,cond_false,Option.map_some]) [] (Nat.zero_le _)
 have h2:AK GN ([],DS c i,(0:Int),c,())=some (nxS c i,()):=h1.1
 unfold LU;simp only [Iq hw,sIn,Option.bind_some];rw [decide_eq_true (show(0:Int)≤(i:Int)∧(i:Int)≤(c.2.2.2.length:Int) - 1 by omega)];simp only [Bool.not_true,cond_false,AU hi,wi];unfold DS at h2;cases e20:decide ((rd c.2.2.2 (i:Int) zI).1=20)<;>cases e18:decide ((rd c.2.2.2 (i:Int) zI).1=18)<;>cases e19:decide ((rd c.2.2.2 (i:Int) zI).1=19)<;>simp only [e20,e18,e19,cond_true,cond_false] at h2<;>simp only [e20,e18,e19,cond_true,cond_false,AD,Option.bind_some,h2]
theorem XH (c:CODE) (h:FineC c) (i:Nat) (hi:i<c.2.2.2.length):LF c (i:Int)=some (nxI c i,()):=by
 have hw:=h.s.w
 have hcl:=OI c i
 have wi:=Ad (show i<9223372036854775807 by omega)
 have h1:=CA (step:=GL) (DS c i) (JY c) (fun k o=>(o,DS c i,((DS c i).length:Int),(k:Int),c,())) (fun o=>(o,())) (fun k o=>o.length≤k) (fun k hk o ho=>by
  refine⟨?_,?_⟩
  ·have hle:(Cnd.le ((o.length+List.length [(DS c i)[k]]) * 8) 140737488355328).holds:=by simp only [Cnd.holds,List.length_cons,List.length_nil];omega
   simp only [GL,Am hk,decide_true,cond_true,AU hk,AZ hk,Iq hw,iIn,Option.bind_some,Ad (show k<9223372036854775807 by omega),JY,inR];generalize (DS c i)[k]=n at hle;rw [DB hle];have wk:=Ad (show k<9223372036854775807 by omega)
   cases decide (0≤n∧n≤(c.2.2.2.length:Int) - 1)<;>simp only [cond_true,cond_false,AD,Option.map_some,wk]
  ·unfold JY;cases inR c (DS c i)[k]
   ·simp only [cond_false];omega
   ·simp only [cond_true,List.length_append,List.length_cons,List.length_nil];omega) (fun o ho=>by
  simp only [GL,Aa,decide_false,cond_false,Option.map_some]) [] (Nat.zero_le _)
 have h2:AK GL ([],DS c i,((DS c i).length:Int),(0:Int),c,())=some (nxI c i,()):=h1.1
 unfold LF;simp only [Iq hw,iIn,Option.bind_some];rw [decide_eq_true (show(0:Int)≤(i:Int)∧(i:Int)≤(c.2.2.2.length:Int) - 1 by omega)];simp only [Bool.not_true,cond_false,AU hi,wi];unfold DS at h2;cases e20:decide ((rd c.2.2.2 (i:Int) zI).1=20)<;>cases e18:decide ((rd c.2.2.2 (i:Int) zI).1=18)<;>cases e19:decide ((rd c.2.2.2 (i:Int) zI).1=19)<;>simp only [e20,e18,e19,cond_true,cond_false] at h2<;>(try rw [DB (by simp)])<;>simp only [e20,e18,e19,cond_true,cond_false,AD,Option.bind_some,List.cons_append,List.nil_append,h2]
def Rng (c:CODE) (n:Int):Prop:=∃ k:Nat,n=(k:Int)∧k<c.2.2.2.length
theorem Su {c:CODE} {n:Int} (h:inR c n=true):Rng c n:=by
 simp only [inR,decide_eq_true_eq] at h;exact⟨n.toNat,by omega,by omega⟩
theorem MH {α β:Type} (P:β→Prop) (g:β→α→β) (hg:∀ o n,P o→P (g o n)):∀ (l:List α) (o:β),P o→P (l.foldl g o)
 | [],o,h=>h
 | x::l,o,h=>MH P g hg l (g o x) (hg o x h)
theorem fW (c:CODE) (i:Nat):∀ n∈nxS c i,Rng c n:=
 MH (fun o=>∀ n∈o,Rng c n) (JZ c) (fun o n ho x hx=>by
  unfold JZ at hx;cases hr:inR c n
  ·rw [hr,cond_false] at hx;exact ho x hx
  ·rw [hr,cond_true] at hx;cases ha:o.any fun y=>decide (y=n)
   ·rw [ha,cond_false] at hx;rcases List.mem_append.1 hx with hx | hx
    ·exact ho x hx
    ·rw [List.mem_singleton.1 hx];exact Su hr
   ·rw [ha,cond_true] at hx;exact ho x hx) (DS c i) [] (fun n hn=>by cases hn)
theorem XU (c:CODE) (i:Nat):∀ n∈nxI c i,Rng c n:=
 MH (fun o=>∀ n∈o,Rng c n) (JY c) (fun o n ho x hx=>by
  unfold JY at hx;cases hr:inR c n
  ·rw [hr,cond_false] at hx;exact ho x hx
  ·rw [hr,cond_true] at hx;rcases List.mem_append.1 hx with hx | hx
   ·exact ho x hx
   ·rw [List.mem_singleton.1 hx];exact Su hr) (DS c i) [] (fun n hn=>by cases hn)
def fls:List Bool→Nat
 | []=>0
 | b::l=>(bif b then 0 else 1)+fls l
theorem QU:∀ (h:List Bool) (n:Nat) (hn:n<h.length),h[n]=false→fls (h.set n true)+1=fls h
 | b::l,0,_,h0=>by
  have:b=false:=h0
  subst this;simp only [List.set_cons_zero,fls,cond_true,cond_false];omega
 | b::l,n+1,hn,h0=>by
  have:=QU l n (by simpa using hn) (by simpa using h0)
  simp only [List.set_cons_succ,fls];omega
abbrev VS:=List Bool×List Int
def vis (s:VS) (n:Int):VS:=bif rd s.1 n false then s else (s.1.set n.toNat true,s.2++[n])
theorem bj {W:Nat} {s:VS} (hs:s.1.length=W) {n:Nat} (hn:n<W):(vis s (n:Int)).1.length=W∧(vis s (n:Int)).2.length+fls (vis s (n:Int)).1=s.2.length+fls s.1∧fls (vis s (n:Int)).1≤fls s.1:=by
 have hl:n<s.1.length:=by omega
 unfold vis;rw [AZ hl];cases hb:s.1[n]
 ·have:=QU s.1 n hl hb
  simp only [cond_false,Int.toNat_natCast,List.length_set,List.length_append,List.length_cons,List.length_nil];omega
 ·exact⟨hs,rfl,Nat.le_refl _⟩
theorem aU {W:Nat} {s:VS} (hs:s.1.length=W) {n:Nat} (hn:n<W):vis (vis s (n:Int)) (n:Int)=vis s (n:Int):=by
 have hl:n<s.1.length:=by omega
 unfold vis;rw [AZ hl];cases hb:s.1[n]
 ·simp only [cond_false,Int.toNat_natCast];rw [AZ (by rw [List.length_set];exact hl),List.getElem_set_self];rfl
 ·simp only [cond_true];rw [AZ hl,hb];rfl
theorem ft (c:CODE) (i:Nat) (s:VS) (hs:s.1.length=c.2.2.2.length):(nxS c i).foldl vis s=(nxI c i).foldl vis s:=by
 have key:∀ a b:Int,([a,b].foldl (JZ c) []).foldl vis s=([a,b].foldl (JY c) []).foldl vis s:=fun a b=>by
  simp only [List.foldl_cons,List.foldl_nil,JZ,JY];cases ha:inR c a<;>cases hb:inR c b<;>simp only [cond_true,cond_false,List.any_nil,List.nil_append,List.foldl_cons,List.foldl_nil,List.any_cons,Bool.or_false]
  by_cases e:a=b
  ·subst e;obtain⟨n,rfl,hn⟩:=Su ha;simp only [decide_true,cond_true,List.foldl_cons,List.foldl_nil,List.cons_append,List.nil_append];exact(aU hs hn).symm
  ·simp only [e,decide_false,cond_false]
 have key1:∀ a:Int,([a].foldl (JZ c) []).foldl vis s=([a].foldl (JY c) []).foldl vis s:=fun a=>by
  simp only [List.foldl_cons,List.foldl_nil,JZ,JY];cases ha:inR c a<;>simp only [cond_true,cond_false,List.any_nil,List.nil_append]
 unfold nxS nxI DS;cases decide ((rd c.2.2.2 (i:Int) zI).1=20)<;>cases decide ((rd c.2.2.2 (i:Int) zI).1=18)<;>cases decide ((rd c.2.2.2 (i:Int) zI).1=19)<;>simp only [cond_true,cond_false]<;>first | exact key _ _ | exact key1 _ | rfl
theorem Qo (a:List Int):∀ (ns:List Int) (h:List Bool) (t:List Int),ns.foldl vis (h,a++t)=((ns.foldl vis (h,t)).1,a++(ns.foldl vis (h,t)).2)
 | [],h,t=>rfl
 | n::ns,h,t=>by
  simp only [List.foldl_cons,vis];cases rd h n false
  ·simp only [cond_false,List.append_assoc];exact Qo a ns _ _
  ·simp only [cond_true];exact Qo a ns _ _
def VI (W B F:Nat) (s:VS):Prop:=s.1.length=W∧s.2.length+fls s.1=B∧fls s.1≤F
theorem VI.step {W B F:Nat} {s:VS} (h:VI W B F s) {n:Nat} (hn:n<W):VI W B F (vis s (n:Int)):=by
 obtain⟨h1,h2,h3⟩:=h;obtain⟨g1,g2,g3⟩:=bj h1 hn;exact⟨g1,by omega,by omega⟩
theorem bD (c:CODE) (i:Int) (ns:List Int) (hns:∀ n∈ns,Rng c n) (hl:ns.length≤1000) (s:VS) {B F:Nat} (hB:B≤4000000) (hs:VI c.2.2.2.length B F s):
 AK CV (s.1,s.2,i,ns,(0:Int),c,())=some ((ns.foldl vis s).1,(ns.foldl vis s).2,i,c,())∧VI c.2.2.2.length B F (ns.foldl vis s):=by
 have h:=CA (step:=CV) ns vis (fun k s=>(s.1,s.2,i,ns,(k:Int),c,())) (fun s=>(s.1,s.2,i,c,())) (fun _ s=>VI c.2.2.2.length B F s) (fun k hk s hs=>by
  obtain⟨n,hn,hlt⟩:=hns _ (List.getElem_mem hk);refine⟨?_,by rw [hn];exact hs.step hlt⟩
  obtain⟨h1,h2,h3⟩:=hs;have hl:n<s.1.length:=by omega
  have hle:∀ {α:Type} {K:Option α},(Cnd.le ((s.2.length+List.length [(n:Int)]) * 8) 140737488355328).run K=K:=fun {α} {K}=>DB (by simp only [List.length_cons,List.length_nil];omega)
  have wi:=Ad (show k<9223372036854775807 by omega)
  simp only [CV,Am hk,decide_true,cond_true,AU hk,AZ hk,hn,AU hl,AZ hl,vis,Int.toNat_natCast,Ba,hle];cases s.1[n]<;>simp only [Bool.not_false,Bool.not_true,cond_true,cond_false,AD,Option.map_some,wi]) (fun s hs=>by
  simp only [CV,Aa,decide_false,cond_false,Option.map_some]) s hs
 exact h
theorem bC (c:CODE) (ns:List Int) (hns:∀ n∈ns,Rng c n) (hl:ns.length≤1000) (s:VS) {B F:Nat} (hB:B≤4000000) (hs:VI c.2.2.2.length B F s):
 AK Bw (s.1,s.2,ns,(ns.length:Int),(0:Int),c,())=some ((ns.foldl vis s).1,(ns.foldl vis s).2,c,())∧VI c.2.2.2.length B F (ns.foldl vis s):=by
 have h:=CA (step:=Bw) ns vis (fun k s=>(s.1,s.2,ns,(ns.length:Int),(k:Int),c,())) (fun s=>(s.1,s.2,c,())) (fun _ s=>VI c.2.2.2.length B F s) (fun k hk s hs=>by
  obtain⟨n,hn,hlt⟩:=hns _ (List.getElem_mem hk);refine⟨?_,by rw [hn];exact hs.step hlt⟩
  obtain⟨h1,h2,h3⟩:=hs;have hl:n<s.1.length:=by omega
  have hle:∀ {α:Type} {K:Option α},(Cnd.le ((s.2.length+List.length [(n:Int)]) * 8) 140737488355328).run K=K:=fun {α} {K}=>DB (by simp only [List.length_cons,List.length_nil];omega)
  have wi:=Ad (show k<9223372036854775807 by omega)
  simp only [Bw,Am hk,decide_true,cond_true,AU hk,AZ hk,hn,AU hl,AZ hl,vis,Int.toNat_natCast,Ba,hle];cases s.1[n]<;>simp only [Bool.not_false,Bool.not_true,cond_true,cond_false,AD,Option.map_some,wi]) (fun s hs=>by
  simp only [Bw,Aa,decide_false,cond_false,Option.map_some]) s hs
 exact h
theorem OQ {c:CODE} (g:List Int→Int→List Int) (hg:∀ o n,(g o n).length≤o.length+1):∀ (l o:List Int),(l.foldl g o).length≤o.length+l.length
 | [],o=>by simp
 | x::l,o=>by
  have h1:=OQ (c:=c) g hg l (g o x)
  have h2:=hg o x
  simp only [List.foldl_cons,List.length_cons];omega
theorem fX (c:CODE) (i:Nat):(nxS c i).length≤1000∧(nxI c i).length≤1000:=by
 have h:=OI c i
 have h1:=OQ (c:=c) (JZ c) (fun o n=>by
  unfold JZ;cases inR c n<;>cases (o.any fun y=>decide (y=n))<;>simp) (DS c i) []
 have h2:=OQ (c:=c) (JY c) (fun o n=>by
  unfold JY;cases inR c n<;>simp) (DS c i) []
 unfold nxS nxI;simp only [List.length_nil] at h1 h2;omega
theorem bm (c:CODE) (ns:List Int) (hns:∀ n∈ns,Rng c n):∀ s:VS,(∀ x∈s.2,Rng c x)→∀ x∈(ns.foldl vis s).2,Rng c x:=by
 induction ns with
 | nil=>intro s hs;exact hs
 | cons n ns ih=>
  intro s hs;rw [List.foldl_cons];refine ih (fun m hm=>hns m (List.mem_cons_of_mem _ hm)) _ (fun x hx=>?_)
  unfold vis at hx;cases hb:rd s.1 n false
  ·rw [hb,cond_false] at hx;rcases List.mem_append.1 hx with hx | hx
   ·exact hs x hx
   ·rw [List.mem_singleton.1 hx];exact hns n (List.mem_cons_self ..)
  ·rw [hb,cond_true] at hx;exact hs x hx
theorem bfs (c:CODE) (hc:FineC c):∀ (M:Nat) (h:List Bool) (pre t:List Int),t.length+2 * fls h≤M→h.length=c.2.2.2.length→(∀ x∈t,Rng c x)→pre.length+t.length+fls h≤2000000 →
 ∃ res:List Bool,res.length=c.2.2.2.length∧AK CW (h,pre++t,(pre.length:Int),c,())=some (res,())∧AK FR (h,t,c,())=some (res,())
 | M,h,pre,[],_,hh,_,_=>by
  refine⟨h,hh,BA ?_,BA rfl⟩
  rw [List.append_nil];simp only [CW,Aa,decide_false,cond_false,Option.map_some]
 | 0,h,pre,x::t,hM,_,_,_=>by simp at hM
 | M+1,h,pre,x::t,hM,hh,ht,hB=>by
  obtain⟨n,rfl,hn⟩:=ht x (List.mem_cons_self ..);simp only [List.length_cons] at hM hB;have hw:=hc.s.w
  have hl:=fX c n
  have hvi:VI c.2.2.2.length (t.length+fls h) (fls h) (h,t):=⟨hh,rfl,Nat.le_refl _⟩
  have hvs:VI c.2.2.2.length ((pre++(n:Int)::t).length+fls h) (fls h) (h,pre++(n:Int)::t):=⟨hh,rfl,Nat.le_refl _⟩
  obtain⟨i1,j1,j2,j3⟩:=bC c (nxI c n) (XU c n) hl.2 (h,t) (by omega) hvi;obtain⟨s1,_⟩:=bD c (pre.length:Int) (nxS c n) (fW c n) hl.1 (h,pre++(n:Int)::t) (by simp only [List.length_append,List.length_cons];omega) hvs;have e1:pre++(n:Int)::t=(pre++[(n:Int)])++t:=by simp
  rw [ft c n _ hh,e1,Qo] at s1;generalize hs0:(nxI c n).foldl vis (h,t)=s0 at i1 j1 j2 j3 s1;have hrng:∀ x∈s0.2,Rng c x:=by
   rw [← hs0];exact bm c _ (XU c n) _ (fun x hx=>ht x (List.mem_cons_of_mem _ hx))
  obtain⟨res,r1,r2,r3⟩:=bfs c hc M s0.1 (pre++[(n:Int)]) s0.2 (by omega) j1 hrng (by simp only [List.length_append,List.length_cons,List.length_nil];omega);refine⟨res,r1,?_,?_⟩
  ·rw [← r2];refine BW ?_
   have hp:pre.length<(pre++(n:Int)::t).length:=by simp
   have hg:rd (pre++(n:Int)::t) (pre.length:Int) (0:Int)=(n:Int):=by rw [AZ hp];simp
   have e2:((pre++[(n:Int)]).length:Int)=((pre.length+1:Nat):Int):=by simp
   simp only [CW,Am hp,decide_true,cond_true,AU hp,hg,Xd c hc n hn,Option.bind_some,Ad (show pre.length<9223372036854775807 by omega),e2];rw [e1,s1];simp only [AD,Option.map_some,Ad (show pre.length<9223372036854775807 by omega)]
  ·rw [← r3];refine BW ?_
   have hp:0<((n:Int)::t).length:=by simp
   have h0:(0:Int)<(((n:Int)::t).length:Int):=by simp
   have hg:rd ((n:Int)::t) (0:Int) (0:Int)=(n:Int):=rfl
   have hi:∀ {α:Type} {K:Option α},(Cnd.idx (0:Int) (List.length ((n:Int)::t))).run K=K:=fun {α} {K}=>AU (k:=0) hp
   have hcut:∀ {α:Type} {K:Option α},(Cnd.cut (1:Int) (List.length ((n:Int)::t):Int) (List.length ((n:Int)::t))).run K=K:=fun {α} {K}=>by
    simp only [Cnd.run];rw [if_pos ⟨by omega,by simp only [List.length_cons];omega,by omega⟩]
   have hsub:Hf ((n:Int)::t) (1:Int) (List.length ((n:Int)::t):Int)=t:=by simp [Hf]
   simp only [FR,h0,decide_true,cond_true,hi,hcut,hg,XH c hc n hn,Option.bind_some,hsub];have i1':AK Bw (h,t,nxI c n,((nxI c n).length:Int),(0:Int),c,())=_:=i1
   rw [i1'];simp only [AD,Option.map_some]
theorem UR:∀ n:Nat,fls (List.replicate n false)=n
 | 0=>rfl
 | n+1=>by simp only [List.replicate_succ,fls,cond_false,UR n];omega
theorem gO (c:CODE) (hc:FineC c) (hok:BU c=true):∃ R:List Bool,R.length=c.2.2.2.length∧CC c=some (R,())∧Eg c=some (R,()):=by
 have hw:=hc.s.w
 have h1:1≤c.2.2.2.length:=by
  simp only [BU,Bool.and_eq_true,decide_eq_true_eq] at hok;exact hok.2.2.2.1.1
 have hz:0<(List.replicate c.2.2.2.length false).length:=by simp;omega
 have hf:=QU (List.replicate c.2.2.2.length false) 0 hz (by simp)
 rw [UR] at hf;obtain⟨res,r1,r2,r3⟩:=bfs c hc (2 * c.2.2.2.length+1) ((List.replicate c.2.2.2.length false).set 0 true) [] [(0:Int)] (by simp only [List.length_cons,List.length_nil];omega) (by simp) (fun x hx=>by
  rw [List.mem_singleton.1 hx];exact⟨0,rfl,by omega⟩) (by simp only [List.length_cons,List.length_nil];omega)
 have r2':AK CW ((List.replicate c.2.2.2.length false).set 0 true,[(0:Int)],(0:Int),c,())=_:=r2
 have hb:∀ {α:Type} {K:Option α},(Cnd.both (Cnd.nn (c.2.2.2.length:Int)) (Cnd.le (c.2.2.2.length * 1) 140737488355328)).run K=K:=fun {α} {K}=>by
  simp only [Cnd.run];rw [if_pos (by omega),if_pos (by omega)]
 have hi:∀ {α:Type} {K:Option α},(Cnd.idx (0:Int) (List.length (List.replicate c.2.2.2.length false))).run K=K:=fun {α} {K}=>AU (k:=0) hz
 refine⟨res,r1,?_,?_⟩
 ·simp only [CC,Dm c hc,hok,Option.bind_some,Bool.not_true,cond_false,Int.toNat_natCast,hb,hi,Ba,Int.toNat_zero,r2',AD]
 ·simp only [Eg,Im c hc,hok,Option.bind_some,Bool.not_true,cond_false,Int.toNat_natCast,hb,hi,Ba,Int.toNat_zero,r3,AD]
set_option maxRecDepth 100000
namespace Trimmed
abbrev zC:CODE:=((⟨#[]⟩:ByteArray),((0:Int),([],[])))
def keep (R:List Bool) (l:List INS) (i:Nat):Bool:=decide ((i:Int)=(l.length:Int) - 1) || (rd R (i:Int) false && !(decide ((rd l (i:Int) zI).1=18) && decide ((rd l (i:Int) zI).2.2.2.2.1=((i+1:Nat):Int))))
abbrev TS:=List Int×List INS
def cut (R:List Bool) (l:List INS) (s:TS) (i:Nat):TS:=(s.1++[(s.2.length:Int)],bif keep R l i then s.2++[rd l (i:Int) zI] else s.2)
def TI (l:List INS) (k:Nat) (s:TS):Prop:=s.1.length=k∧s.2.length≤k∧(∀ w∈s.2,w∈l)∧(s.2.map (wt Nd)).sum≤((l.take k).map (wt Nd)).sum
theorem TI.step {R:List Bool} {l:List INS} {k:Nat} {s:TS} (h:TI l k s) (hk:k<l.length):TI l (k+1) (cut R l s k):=by
 obtain⟨h1,h2,h3,h4⟩:=h;have e:((l.take (k+1)).map (wt Nd)).sum=((l.take k).map (wt Nd)).sum+wt Nd l[k]:=by
  rw [List.take_succ_eq_append_getElem hk,List.map_append,List.sum_append];rfl
 unfold cut;refine⟨by simp only [List.length_append,List.length_cons,List.length_nil,h1],?_,?_,?_⟩
 ·cases keep R l k
  ·simp only [cond_false];omega
  ·simp only [cond_true,List.length_append,List.length_cons,List.length_nil];omega
 ·cases keep R l k
  ·simp only [cond_false];exact h3
  ·simp only [cond_true];intro w hw;rcases List.mem_append.1 hw with hw | hw
   ·exact h3 w hw
   ·rw [List.mem_singleton.1 hw,AZ hk];exact List.getElem_mem hk
 ·rw [e,AZ hk];cases keep R l k
  ·simp only [cond_false];omega
  ·simp only [cond_true,List.map_append,List.sum_append,List.map_cons,List.map_nil,List.sum_cons,List.sum_nil];omega
def Bn (R:List Bool) (l:List INS):TS:=(List.range l.length).foldl (cut R l) ([],[])
theorem bX {l:List Int} {W:Nat} (hl:l.length<W) (v:Int):(l++List.replicate (W - l.length) (0:Int)).set l.length v=(l++[v])++List.replicate (W - (l++[v]).length) (0:Int):=by
 rw [List.set_append_right _ _ (Nat.le_refl _),Nat.sub_self];have e:W - l.length=(W - (l++[v]).length)+1:=by simp only [List.length_append,List.length_cons,List.length_nil];omega
 rw [e,List.replicate_succ,List.set_cons_zero,List.append_assoc];rfl
theorem gC (c:CODE) (h:FineC c) (R:List Bool) (hR:R.length=c.2.2.2.length) (z y:CODE):
 AK DH (R,(c.2.2.2.length:Int) - 1,List.replicate c.2.2.2.length (0:Int),[],(c.2.2.2,(0:Int)),(c.2.2.2.length:Int),(0:Int),z,y,())=some ((Bn R c.2.2.2).1,(Bn R c.2.2.2).2,z,y,()):=by
 have hw:=h.s.w
 have hr:(List.range c.2.2.2.length).length=c.2.2.2.length:=List.length_range
 have H:=CA (step:=DH) (List.range c.2.2.2.length) (cut R c.2.2.2) (fun i s=>(R,(c.2.2.2.length:Int) - 1,s.1++List.replicate (c.2.2.2.length - s.1.length) (0:Int),s.2,(c.2.2.2,(i:Int)),(c.2.2.2.length:Int),(i:Int),z,y,())) (fun s=>(s.1++List.replicate (c.2.2.2.length - s.1.length) (0:Int),s.2,z,y,())) (TI c.2.2.2) (fun k hk s hs=>by
  have hk':k<c.2.2.2.length:=by omega
  rw [List.getElem_range];refine⟨?_,hs.step hk'⟩
  obtain⟨s1,s2,s3,_⟩:=hs;have wk:=Ad (show k<9223372036854775807 by omega)
  have hkR:k<R.length:=by omega
  have hset:(s.1++List.replicate (c.2.2.2.length - s.1.length) (0:Int)).set k (s.2.length:Int)=(s.1++[(s.2.length:Int)])++List.replicate (c.2.2.2.length - (s.1++[(s.2.length:Int)]).length) (0:Int):=by
   have:=bX (l:=s.1) (W:=c.2.2.2.length) (by omega) (s.2.length:Int)
   rwa [show ∀ v,(s.1++List.replicate (c.2.2.2.length - s.1.length) (0:Int)).set s.1.length v=(s.1++List.replicate (c.2.2.2.length - s.1.length) (0:Int)).set k v from fun v=>congrArg (fun n=>(s.1++List.replicate (c.2.2.2.length - s.1.length) (0:Int)).set n v) s1] at this
  have hpl:k<(s.1++List.replicate (c.2.2.2.length - s.1.length) (0:Int)).length:=by simp only [List.length_append,List.length_replicate];omega
  have l2:∀ (w:INS) {α:Type} {K:Option α},(Cnd.le ((s.2.length+List.length [w]) * 80) 140737488355328).run K=K:=fun w {α} {K}=>DB (by simp only [List.length_cons,List.length_nil];omega)
  have hq:∀ {α:Type} {K:Option α},(Cnd.both (Cnd.idx (k:Int) (List.length c.2.2.2)) (Cnd.cut (k:Int) (k:Int) (List.length c.2.2.2))).run K=K:=fun {α} {K}=>by
   simp only [Cnd.run];rw [if_pos (by omega),if_pos (by omega)]
  have ek:(k:Int)+1=((k+1:Nat):Int):=by omega
  have wk2:IntKind.wrap .i64 ((k+1:Nat):Int)=((k+1:Nat):Int):=Aq (by omega) (by omega)
  simp only [DH,Am hk',decide_true,cond_true,hq,AU hpl,Ba,Int.toNat_natCast,AU hkR,cut,keep,AZ hk',wk,ek,wk2];rw [hset];generalize c.2.2.2[k]=w;generalize (s.1++[(s.2.length:Int)])++List.replicate (c.2.2.2.length - (s.1++[(s.2.length:Int)]).length) (0:Int)=pl;cases e1:decide ((k:Int)=(c.2.2.2.length:Int) - 1)<;>cases rd R (k:Int) false<;>cases decide (w.1=18)<;>cases decide (w.2.2.2.2.1=((k+1:Nat):Int)) <;>
   simp only [e1,cond_true,cond_false,AD,l2,Option.map_some,wk,ek,wk2,Bool.not_true,Bool.not_false,Bool.true_or,Bool.false_or,Bool.and_self,Bool.and_true,Bool.and_false,Bool.true_and,Bool.false_and]) (fun s hs=>by
  rw [hr];simp only [DH,Aa,decide_false,cond_false,Option.map_some]) ([],[]) ⟨rfl,Nat.le_refl _,(fun w hw=>by cases hw),Nat.le_refl _⟩
 obtain⟨H1,H2,H3,H4⟩:=H;have e:(Bn R c.2.2.2).1.length=c.2.2.2.length:=by rw [← hr];exact H2
 have H1':AK DH (R,(c.2.2.2.length:Int) - 1,List.replicate c.2.2.2.length (0:Int),[],(c.2.2.2,(0:Int)),(c.2.2.2.length:Int),(0:Int),z,y,())=some ((Bn R c.2.2.2).1++List.replicate (c.2.2.2.length - (Bn R c.2.2.2).1.length) (0:Int),(Bn R c.2.2.2).2,z,y,()):=H1
 rw [H1',e,Nat.sub_self,List.replicate_zero,List.append_nil]
def put (at_:List Int) (w:INS):INS:=bif decide (w.1=18) || decide (w.1=19) then (w.1,(w.2.1,(w.2.2.1,(w.2.2.2.1,(rd at_ w.2.2.2.2.1 (0:Int),w.2.2.2.2.2))))) else w
theorem gM (at_:List Int) (z y:CODE) (l:List INS) (hl:l.length≤1048576) (hj:∀ w∈l,(w:INS).1=18∨(w:INS).1=19→∃ t:Nat,(w:INS).2.2.2.2.1=(t:Int)∧t<at_.length):
 AK ER (at_,l,(l.length:Int),(0:Int),z,y,())=some (l.map (put at_),z,y,()):=by
 refine RP (step:=ER) l (put at_) (fun k o=>(at_,o,(l.length:Int),(k:Int),z,y,())) (fun o=>(o,z,y,())) (fun k hk o ho he=>?_) (fun o ho=>?_)
 ·have hk':k<o.length:=by omega
  have hm:=hj _ (List.getElem_mem hk)
  have wk:=Ad (show k<9223372036854775807 by omega)
  have hself:o.set k l[k]=o:=by rw [← he,List.set_getElem_self]
  simp only [ER,Am hk,decide_true,cond_true,AU hk',AZ hk',he,put,Int.toNat_natCast,Ba];generalize l[k]=w at hm he hself ⊢
  by_cases h18:w.1=18
  ·obtain⟨t,ht,htl⟩:=hm (.inl h18);simp only [h18,decide_true,cond_true,AD,AZ hk',he,ht,AU htl,Bool.true_or,Option.map_some,wk,Int.toNat_natCast]
  ·by_cases h19:w.1=19
   ·obtain⟨t,ht,htl⟩:=hm (.inr h19);simp only [h19,show ¬ ((19:Int)=18) by decide,decide_true,decide_false,cond_true,cond_false,AD,AZ hk',he,ht,AU htl,Bool.or_true,Option.map_some,wk,Int.toNat_natCast]
   ·simp only [h18,h19,decide_false,cond_false,AD,Bool.or_self,Option.map_some,wk,hself]
 ·simp only [ER,Aa,decide_false,cond_false,Option.map_some]
def trim (R:List Bool) (c:CODE):CODE:=(c.1,(c.2.1,(c.2.2.1,(Bn R c.2.2.2).2.map (put (Bn R c.2.2.2).1))))
theorem KU (R:List Bool) (l:List INS):∀ k,k≤l.length→((List.range k).foldl (cut R l) ([],[])).1.length=k∧((List.range k).foldl (cut R l) ([],[])).2.length≤k ∧
 (((List.range k).foldl (cut R l) ([],[])).2.length=k→((List.range k).foldl (cut R l) ([],[])).2=l.take k∧∀ j,j<k→((List.range k).foldl (cut R l) ([],[])).1.getD j 0=(j:Int))
 | 0,_=>⟨rfl,Nat.le_refl _,fun _=>⟨rfl,fun j hj=>absurd hj (Nat.not_lt_zero j)⟩⟩
 | k+1,hk=>by
  obtain⟨h1,h2,h3⟩:=KU R l k (by omega);rw [List.range_succ,List.foldl_append,List.foldl_cons,List.foldl_nil];generalize (List.range k).foldl (cut R l) ([],[])=s at h1 h2 h3 ⊢;unfold cut;refine⟨by simp only [List.length_append,List.length_cons,List.length_nil,h1],?_,?_⟩
  ·cases keep R l k
   ·simp only [cond_false];omega
   ·simp only [cond_true,List.length_append,List.length_cons,List.length_nil];omega
  ·cases keep R l k
   ·simp only [cond_false];intro h;omega
   ·simp only [cond_true,List.length_append,List.length_cons,List.length_nil];intro h;have hsk:s.2.length=k:=by omega
    obtain⟨g1,g2⟩:=h3 hsk;refine⟨?_,fun j hj=>?_⟩
    ·rw [g1,AZ (show k<l.length by omega),List.take_succ_eq_append_getElem (show k<l.length by omega)]
    ·by_cases e:j=k
     ·subst e;simp [List.getElem?_append_right,h1,hsk]
     ·have hjk:j<k:=by omega
      have:=g2 j hjk
      simp only [List.getD_eq_getElem?_getD] at this ⊢;rw [List.getElem?_append_left (by omega)];exact this
theorem Rc (R:List Bool) (c:CODE) (hj:Jmp c.2.2.2) (hl:(trim R c).2.2.2.length=c.2.2.2.length):trim R c=c:=by
 obtain⟨h1,h2,h3⟩:=KU R c.2.2.2 c.2.2.2.length (Nat.le_refl _);have hl':(Bn R c.2.2.2).2.length=c.2.2.2.length:=by simpa only [trim,List.length_map] using hl
 obtain⟨g1,g2⟩:=h3 hl';rw [List.take_length] at g1;have e1:(Bn R c.2.2.2).2=c.2.2.2:=g1
 have e2:c.2.2.2.map (put (Bn R c.2.2.2).1)=c.2.2.2:=by
  have:∀ w∈c.2.2.2,put (Bn R c.2.2.2).1 w=w:=fun w hw=>by
   unfold put
   by_cases hjj:w.1=18∨w.1=19
   ·obtain⟨t,ht,htl⟩:=hj w hw hjj;have e:rd (Bn R c.2.2.2).1 w.2.2.2.2.1 (0:Int)=w.2.2.2.2.1:=by
     rw [ht];exact g2 t htl
    rw [e];cases decide (w.1=18) || decide (w.1=19)<;>rfl
   ·have:(decide (w.1=18) || decide (w.1=19))=false:=by simpa using hjj
    rw [this];rfl
  exact(List.map_congr_left this).trans (List.map_id' _)
 unfold trim;rw [e1,e2]
end Trimmed
set_option maxRecDepth 100000
namespace Tight
open Threaded
theorem php:∀ (W:Nat) (f:Nat→Nat),(∀ i,i≤W→f i<W)→∃ i j,i<j∧j≤W∧f i=f j
 | 0,f,h=>absurd (h 0 (Nat.le_refl 0)) (Nat.not_lt_zero _)
 | W+1,f,h=>by
  by_cases hex:∃ i,i≤W∧f i=f (W+1)
  ·obtain⟨i,hi,he⟩:=hex;exact⟨i,W+1,by omega,Nat.le_refl _,he⟩
  ·have hne:∀ i,i≤W→f i≠f (W+1):=fun i hi he=>hex ⟨i,hi,he⟩
   obtain⟨i,j,hij,hj,he⟩:=php W (fun i=>if f i=W then f (W+1) else f i) (fun i hi=>by
    have h1:=h i (by omega)
    have h2:=h (W+1) (Nat.le_refl _)
    have h3:=hne i hi
    split<;>omega)
   refine⟨i,j,hij,by omega,?_⟩
   have h3:=hne i (by omega)
   have h4:=hne j hj
   split at he<;>split at he<;>omega
def gst (l:List INS) (t:Nat):Nat:=(num l (t:Int)).toNat
def GR (l:List INS):Nat→Nat→Nat
 | 0,t=>t
 | k+1,t=>GR l k (gst l t)
theorem QY (l:List INS):∀ (a b t:Nat),GR l (a+b) t=GR l b (GR l a t)
 | 0,b,t=>by rw [Nat.zero_add];rfl
 | a+1,b,t=>by
  rw [show a+1+b=(a+b)+1 by omega];exact QY l a b (gst l t)
theorem PO {l:List INS} (h:Jmp l) {t:Nat} (ht:t<l.length) (ho:op l (t:Int)=18):num l (t:Int)=(gst l t:Int)∧gst l t<l.length:=by
 obtain⟨u,hu,hul⟩:=XK h ht ho;unfold gst;rw [hu];exact⟨rfl,by simpa using hul⟩
theorem Lz {l:List INS} (h:Jmp l):∀ (n t:Nat),t<l.length→(CE l n (t:Int)=none↔∀ k,k<n→op l (GR l k t:Int)=18)
 | 0,t,_=>⟨fun _ k hk=>absurd hk (Nat.not_lt_zero k),fun _=>rfl⟩
 | n+1,t,ht=>by
  rw [CE]
  by_cases ho:op l (t:Int)=18
  ·obtain⟨g1,g2⟩:=PO h ht ho;rw [if_pos ho,g1,Lz h n (gst l t) g2];refine⟨fun hh k hk=>?_,fun hh k hk=>hh (k+1) (by omega)⟩
   cases k with
   | zero=>exact ho
   | succ k=>exact hh k (by omega)
  ·rw [if_neg ho];refine⟨fun hh=>(by cases hh),fun hh=>absurd (hh 0 (by omega)) ho⟩
theorem XD {l:List INS} (h:Jmp l):∀ (k t:Nat),t<l.length→(∀ j,j<k→op l (GR l j t:Int)=18)→GR l k t<l.length
 | 0,t,ht,_=>ht
 | k+1,t,ht,hh=>by
  obtain⟨_,g2⟩:=PO h ht (hh 0 (by omega));exact XD h k (gst l t) g2 (fun j hj=>hh (j+1) (by omega))
theorem ax {l:List INS} (h:Jmp l) {t:Nat} (ht:t<l.length) (hn:CE l (l.length+1) (t:Int)=none):∀ n,CE l n (t:Int)=none:=by
 have h1:=(Lz h _ t ht).1 hn
 have hall:∀ k,op l (GR l k t:Int)=18:=by
  obtain⟨i,j,hij,hj,he⟩:=php l.length (fun k=>GR l k t) (fun k hk=>XD h k t ht (fun j hj=>h1 j (by omega)));intro k
  induction k using Nat.strongRecOn with
  | _ k ih=>
   by_cases hk:k<l.length+1
   ·exact h1 k hk
   ·have e1:GR l k t=GR l (k - j) (GR l j t):=by rw [← QY];congr 1;omega
    have e2:GR l (i+(k - j)) t=GR l (k - j) (GR l i t):=QY l i (k - j) t
    have he:GR l i t=GR l j t:=he
    rw [e1,← he,← e2];exact ih _ (by omega)
 exact fun n=>(Lz h n t ht).2 fun k _=>hall k
theorem Mp {l:List INS} (h:Jmp l):∀ (n t:Nat) (u:Int),t<l.length→CE l n (t:Int)=some u→∃ v:Nat,u=(v:Int)∧v<l.length∧op l (v:Int)≠18
 | 0,t,u,_,hc=>by cases hc
 | n+1,t,u,ht,hc=>by
  rw [CE] at hc
  by_cases ho:op l (t:Int)=18
  ·obtain⟨g1,g2⟩:=PO h ht ho;rw [if_pos ho,g1] at hc;exact Mp h n _ u g2 hc
  ·rw [if_neg ho] at hc;obtain⟨rfl⟩:=hc;exact⟨t,rfl,ht,ho⟩
theorem Ib (l:List INS) (w:INS):(thr l w).1=w.1∧(thr l w).2.1=w.2.1∧(thr l w).2.2.1=w.2.2.1∧(thr l w).2.2.2.1=w.2.2.2.1∧(thr l w).2.2.2.2.2=w.2.2.2.2.2:=by
 unfold thr;split
 ·split
  ·exact⟨rfl,rfl,rfl,rfl,rfl⟩
  ·exact⟨rfl,rfl,rfl,rfl,rfl⟩
 ·exact⟨rfl,rfl,rfl,rfl,rfl⟩
theorem XW {l:List INS} {f:INS→INS} {t:Nat} (ht:t<l.length):rd (l.map f) (t:Int) zI=f l[t]:=by
 rw [AZ (by rw [List.length_map];exact ht),List.getElem_map]
theorem XV {l:List INS} {t:Nat} (ht:t<l.length):op (l.map (thr l)) (t:Int)=op l (t:Int):=by
 unfold op;rw [XW ht,(Ib l _).1,AZ ht]
theorem fO {l:List INS} (h:Jmp l):∀ (n t:Nat),t<l.length→(∀ n,CE l n (t:Int)=none)→CE (l.map (thr l)) n (t:Int)=none
 | 0,t,_,_=>rfl
 | n+1,t,ht,hf=>by
  have ho:op l (t:Int)=18:=by
   have:=hf 1
   rw [CE] at this
   by_cases ho:op l (t:Int)=18
   ·exact ho
   ·rw [if_neg ho] at this;cases this
  obtain⟨g1,g2⟩:=PO h ht ho;have hf2:∀ n,CE l n (gst l t:Int)=none:=fun n=>by
   have:=hf (n+1)
   rw [CE,if_pos ho,g1] at this;exact this
  have ho':(l[t]).1=18:=by simpa only [op,AZ ht] using ho
  have hn':(l[t]).2.2.2.2.1=(gst l t:Int):=by simpa only [num,AZ ht] using g1
  have hthr:thr l l[t]=l[t]:=by
   rw [thr,if_pos (.inl ho'),hn',hf2]
  have hnum:num (l.map (thr l)) (t:Int)=(gst l t:Int):=by
   unfold num;rw [XW ht,hthr];exact hn'
  rw [CE,if_pos (by rw [XV ht];exact ho),hnum];exact fO h n _ g2 hf2
theorem aL {l:List INS} (h:Jmp l) (w:INS) (hw:w∈l):thr (l.map (thr l)) (thr l w)=thr l w:=by
 by_cases hj:w.1=18∨w.1=19
 ·obtain⟨t,ht,htl⟩:=h w hw hj;have hf:=Ib l w
  have hj':(thr l w).1=18∨(thr l w).1=19:=by rw [hf.1];exact hj
  have hlen:(l.map (thr l)).length=l.length:=List.length_map ..
  cases hc:CE l (l.length+1) (t:Int) with
  | some u=>
   obtain⟨v,rfl,hv,hov⟩:=Mp h _ t u htl hc;have e:(thr l w).2.2.2.2.1=(v:Int):=by
    rw [thr,if_pos hj,ht,hc]
   rw [thr,if_pos hj',e,hlen];have:CE (l.map (thr l)) (l.length+1) (v:Int)=some (v:Int):=by
    rw [CE,if_neg (by rw [XV hv];exact hov)]
   rw [this,← e]
  | none=>
   have e:thr l w=w:=by rw [thr,if_pos hj,ht,hc]
   rw [e,thr,if_pos hj,ht,hlen,fO h _ t htl (ax h htl hc)]
 ·have e:thr l w=w:=by rw [thr,if_neg hj]
  rw [e,thr,if_neg hj]
theorem aQ (c:CODE):val (val c)=val c:=by
 cases hc:BU c
 ·have e:val c=c:=by unfold val;rw [hc];rfl
  rw [e,e]
 ·have e:val c=(c.1,(c.2.1,(c.2.2.1,c.2.2.2.map (thr c.2.2.2)))):=by unfold val;rw [hc];rfl
  rw [e];unfold val;cases BU (c.1,(c.2.1,(c.2.2.1,c.2.2.2.map (thr c.2.2.2))))
  ·rfl
  ·simp only [cond_true];have:(c.2.2.2.map (thr c.2.2.2)).map (thr (c.2.2.2.map (thr c.2.2.2)))=c.2.2.2.map (thr c.2.2.2):=by
    rw [List.map_map];exact List.map_congr_left fun w hw=>aL (KW hc) w hw
   rw [this]
def Nb (a b:List INS) (i:Nat):Bool:=decide ((rd a (i:Int) zI).2.2.2.2.1=(rd b (i:Int) zI).2.2.2.2.1)
def LS (a b:List INS):Bool:=(List.range a.length).all (Nb a b)
structure Like (a b:List INS):Prop where
 len:a.length=b.length
 f:∀ i (h:i<a.length) (h':i<b.length),(a[i]).1=(b[i]).1∧(a[i]).2.1=(b[i]).2.1∧(a[i]).2.2.1=(b[i]).2.2.1∧(a[i]).2.2.2.1=(b[i]).2.2.2.1∧(a[i]).2.2.2.2.2=(b[i]).2.2.2.2.2
theorem XJ (l:List Int) (hl:l.length≤1048576):HO l l=some (true,()):=by
 have h:=Bj (step:=Dp) l (fun _=>true) (fun k=>(l,l,(l.length:Int),(k:Int),())) (.inl ()) (.inr (false,())) (fun k hk=>by
  simp only [Dp,Am hk,decide_true,cond_true,AU hk,ne_eq,not_true_eq_false,decide_false,cond_false,Option.map_some,Ad (show k<9223372036854775807 by omega)]) (by
  simp only [Dp,Aa,decide_false,cond_false,Option.map_some])
 have h':AK Dp (l,l,(l.length:Int),(0:Int),())=_:=h
 have ht:(l.all fun _=>true)=true:=by simp
 simp only [HO,ne_eq,not_true_eq_false,decide_false,cond_false,Option.bind_some,h',ht,cond_true,BV]
theorem YB (a b:INS) (h1:a.1=b.1) (h2:a.2.1=b.2.1) (h3:a.2.2.1=b.2.2.1) (h4:a.2.2.2.1=b.2.2.2.1) (h5:a.2.2.2.2.2=b.2.2.2.2.2) (hl:b.2.2.2.2.2.2.length≤1048576):HP a b=some (decide (a.2.2.2.2.1=b.2.2.2.2.1),()):=by
 have h6:a.2.2.2.2.2.1=b.2.2.2.2.2.1:=by rw [h5]
 have h7:a.2.2.2.2.2.2=b.2.2.2.2.2.2:=by rw [h5]
 unfold HP;rw [h7,XJ _ hl];cases hd:decide (a.2.2.2.2.1=b.2.2.2.2.1)<;>simp only [h1,h2,h3,h4,h6,decide_true,cond_true,cond_false,AD,Option.bind_some]
theorem Pc (a b:List INS) (h:Like a b) (hl:a.length≤1048576) (ha:∀ w∈b,(w:INS).2.2.2.2.2.2.length≤1048576):Cr a b=some (LS a b,()):=by
 have hlen:=h.len
 have h1:=Bj (step:=DW) (List.range a.length) (Nb a b) (fun k=>(a,b,(a.length:Int),(k:Int),())) (.inl ()) (.inr (false,())) (fun k hk=>by
  have hk':k<a.length:=by simpa using hk
  have hkb:k<b.length:=by omega
  obtain⟨f1,f2,f3,f4,f5⟩:=h.f k hk' hkb;simp only [DW,Am hk',decide_true,cond_true,AU hk',AU hkb,AZ hk',AZ hkb,YB _ _ f1 f2 f3 f4 f5 (ha _ (List.getElem_mem hkb)),Option.bind_some,List.getElem_range,Nb,Ad (show k<9223372036854775807 by omega)];cases decide (a[k].2.2.2.2.1=b[k].2.2.2.2.1)<;>simp only [Bool.not_true,Bool.not_false,cond_true,cond_false,Option.map_some]) (by
  rw [List.length_range];simp only [DW,Aa,decide_false,cond_false,Option.map_some])
 have h':AK DW (a,b,(a.length:Int),(0:Int),())=_:=h1
 have hne:decide ((a.length:Int)≠(b.length:Int))=false:=by simp [hlen]
 simp only [Cr,hne,cond_false,Option.bind_some,h',LS];cases (List.range a.length).all (Nb a b)<;>simp only [cond_true,cond_false,BV,Bg]
theorem gD (a b:List INS) (h:a.length≠b.length):Cr a b=some (false,()):=by
 have hne:decide ((a.length:Int)≠(b.length:Int))=true:=by simp;omega
 simp only [Cr,hne,cond_true]
theorem like_val (c:CODE):Like (val c).2.2.2 c.2.2.2:=by
 cases hc:BU c
 ·have e:val c=c:=by unfold val;rw [hc];rfl
  rw [e];exact⟨rfl,fun i h h'=>⟨rfl,rfl,rfl,rfl,rfl⟩⟩
 ·have e:(val c).2.2.2=c.2.2.2.map (thr c.2.2.2):=by unfold val;rw [hc];rfl
  rw [e];refine⟨List.length_map ..,fun i h h'=>?_⟩
  rw [List.getElem_map];exact Ib _ _
theorem XO (a:List INS):Like a a:=⟨rfl,fun i h h'=>⟨rfl,rfl,rfl,rfl,rfl⟩⟩
theorem WO (a:List INS):LS a a=true:=by
 unfold LS;rw [List.all_eq_true];intro i _;simp [Nb]
abbrev zC:CODE:=((⟨#[]⟩:ByteArray),((0:Int),([],[])))
theorem WS (o d:CODE) (ok b:Bool) (h1:DT o=some (val o,())) (h2:CX (val o)=some (d,ok,())) (h3:ok=true→Cr d.2.2.2 o.2.2.2=some (b,())):
 DV (zC,o,())=bif !ok || b then some (.inr (o,())) else some (.inl (zC,d,())):=by
 unfold DV;simp only [h1,h2,Option.bind_some];cases ok
 ·simp only [Bool.not_false,cond_true,AD,Option.map_some,Bool.true_or]
 ·simp only [Bool.not_true,cond_false,h3 rfl,Option.bind_some,AD,Bool.false_or];cases b<;>simp only [cond_true,cond_false,Option.map_some]
end Tight
def wp {α:Type} (x:Option α) (Q:α→Prop):Prop:=∃ r,x=some r∧Q r
theorem AA {α:Type} {r:α} {Q:α→Prop} (h:Q r):wp (some r) Q:=⟨r,rfl,h⟩
theorem AE {α:Type} {x:Option α} {Q Q':α→Prop} (h:wp x Q) (hq:∀ r,Q r→Q' r):wp x Q':=by
 obtain⟨r,h1,h2⟩:=h;exact⟨r,h1,hq r h2⟩
theorem AG {α β:Type} {x:Option α} {k:α→Option β} {Q:β→Prop} (h:wp x fun a=>wp (k a) Q):wp (x.bind k) Q:=by
 obtain⟨r,rfl,h2⟩:=h;exact h2
theorem Ah {α β:Type} {x:Option β} {k:β→Option α} {Q:α→Prop} (h:wp x fun a=>wp (k a) Q):wp (AB x k) Q:=AG h
theorem Hi {α β:Type} {x:Option (β ⊕ α)} {k:β→Option α} {Q:α→Prop} (h:wp x fun s=>(∀ b,s=.inl b→wp (k b) Q)∧∀ r,s=.inr r→Q r):wp (Ax x k) Q:=by
 obtain⟨s,rfl,h1,h2⟩:=h;cases s with
 | inl b=>exact h1 b rfl
 | inr r=>exact⟨r,rfl,h2 r rfl⟩
theorem Aj {α β:Type} {x:Option α} {f:α→β} {Q:β→Prop} (h:wp x fun a=>Q (f a)):wp (x.map f) Q:=by
 obtain⟨r,rfl,h2⟩:=h;exact⟨f r,rfl,h2⟩
theorem AP {α:Type} {b:Bool} {x y:Option α} {Q:α→Prop} (h1:b=true→wp x Q) (h2:b=false→wp y Q):wp (bif b then x else y) Q:=by
 cases b with
 | true=>exact h1 rfl
 | false=>exact h2 rfl
theorem AM {α:Type} {c:Cnd} {K:Option α} {Q:α→Prop} (hc:c.holds) (h:wp K Q):wp (c.run K) Q:=by
 have key:∀ (c:Cnd) (K:Option α),c.holds→c.run K=K:=by
  intro c
  induction c with
  | tt=>intro K _;rfl
  | idx n len=>intro K h;exact if_pos h
  | nz b=>intro K h;exact if_neg h
  | nn b=>intro K h;exact if_pos h
  | cut lo hi len=>intro K h;exact if_pos h
  | le a b=>intro K h;exact if_pos h
  | both a b iha ihb=>intro K h;simp only [Cnd.run];rw [iha _ h.1,ihb _ h.2]
 rw [key c K hc];exact h
theorem wp_loop {α β:Type} {step:β→Option (β ⊕ α)} {Q:α→Prop} (I:β→Prop) (μ:β→Nat) (H:∀ b,I b→wp (step b) fun s=>(∀ b',s=.inl b'→I b'∧μ b'<μ b)∧∀ r,s=.inr r→Q r) {b:β} (h:I b):wp (AK step b) Q:=by
 refine XP I μ Q (fun b hb=>?_) b h
 obtain⟨s,h1,h2,h3⟩:=H b hb;cases s with
 | inl b'=>exact .inr ⟨b',h1,h2 b' rfl⟩
 | inr r=>exact .inl ⟨r,h1,h3 r rfl⟩
theorem Bc {α β:Type} {b:β} {P:β→Prop} {Q:α→Prop} (h:P b):(∀ b',(Sum.inl b:β ⊕ α)=.inl b'→P b')∧∀ r,(Sum.inl b:β ⊕ α)=.inr r→Q r:=⟨fun b' e=>(by cases e;exact h),fun r e=>(by cases e)⟩
theorem BK {α β:Type} {r:α} {P:β→Prop} {Q:α→Prop} (h:Q r):(∀ b',(Sum.inr r:β ⊕ α)=.inl b'→P b')∧∀ r',(Sum.inr r:β ⊕ α)=.inr r'→Q r':=⟨fun b' e=>(by cases e),fun r' e=>(by cases e;exact h)⟩
def wq {α:Type} (x x':Option α) (Q:α→Prop):Prop:=∃ r,x=some r∧x'=some r∧Q r
theorem Ae {α:Type} {x:Option α} {Q:α→Prop} (h:wp x Q):wq x x Q:=by
 obtain⟨r,h1,h2⟩:=h;exact⟨r,h1,h1,h2⟩
theorem AI {α:Type} {r:α} {Q:α→Prop} (h:Q r):wq (some r) (some r) Q:=⟨r,rfl,rfl,h⟩
theorem AF {α:Type} {x x':Option α} {Q Q':α→Prop} (h:wq x x' Q) (hq:∀ r,Q r→Q' r):wq x x' Q':=by
 obtain⟨r,h1,h2,h3⟩:=h;exact⟨r,h1,h2,hq r h3⟩
theorem AJ {α β:Type} {x x':Option α} {k k':α→Option β} {Q:β→Prop} (h:wq x x' fun a=>wq (k a) (k' a) Q):wq (x.bind k) (x'.bind k') Q:=by
 obtain⟨r,rfl,rfl,h2⟩:=h;exact h2
theorem BC {α β:Type} {x x':Option β} {k k':β→Option α} {Q:α→Prop} (h:wq x x' fun a=>wq (k a) (k' a) Q):wq (AB x k) (AB x' k') Q:=AJ h
theorem aV {α β:Type} {x x':Option (β ⊕ α)} {k k':β→Option α} {Q:α→Prop} (h:wq x x' fun s=>(∀ b,s=.inl b→wq (k b) (k' b) Q)∧∀ r,s=.inr r→Q r):wq (Ax x k) (Ax x' k') Q:=by
 obtain⟨s,rfl,rfl,h1,h2⟩:=h;cases s with
 | inl b=>exact h1 b rfl
 | inr r=>exact⟨r,rfl,rfl,h2 r rfl⟩
theorem Bv {α β:Type} {x x':Option α} {f:α→β} {Q:β→Prop} (h:wq x x' fun a=>Q (f a)):wq (x.map f) (x'.map f) Q:=by
 obtain⟨r,rfl,rfl,h2⟩:=h;exact⟨f r,rfl,rfl,h2⟩
theorem Ab {α:Type} {b:Bool} {x x' y y':Option α} {Q:α→Prop} (h1:b=true→wq x x' Q) (h2:b=false→wq y y' Q):wq (bif b then x else y) (bif b then x' else y') Q:=by
 cases b with
 | true=>exact h1 rfl
 | false=>exact h2 rfl
theorem Ap {α:Type} {c:Cnd} {K K':Option α} {Q:α→Prop} (hc:c.holds) (h:wq K K' Q):wq (c.run K) (c.run K') Q:=by
 have h1:=AM (c:=c) (K:=K) (Q:=fun r=>K=some r) hc (by obtain⟨r,h,_⟩:=h;exact⟨r,h,h⟩)
 have h2:=AM (c:=c) (K:=K') (Q:=fun r=>K'=some r) hc (by obtain⟨r,_,h,_⟩:=h;exact⟨r,h,h⟩)
 obtain⟨r,e1,e2,e3⟩:=h;obtain⟨r1,f1,f2⟩:=h1;obtain⟨r2,f3,f4⟩:=h2;rw [e1] at f2;rw [e2] at f4;rw [f1,f3,← f2,← f4];exact⟨r,rfl,rfl,e3⟩
theorem Hs {α β:Type} {step step':β→Option (β ⊕ α)} {Q:α→Prop} (I:β→Prop) (μ:β→Nat) (H:∀ b,I b→wq (step b) (step' b) fun s=>(∀ b',s=.inl b'→I b'∧μ b'<μ b)∧∀ r,s=.inr r→Q r) {b:β} (h:I b):wq (AK step b) (AK step' b) Q:=by
 have key:∀ n b,μ b≤n→I b→wq (AK step b) (AK step' b) Q:=by
  intro n
  induction n with
  | zero=>
   intro b hn hb;obtain⟨s,h1,h1',h2,h3⟩:=H b hb;cases s with
   | inl b'=>have:=(h2 b' rfl).2;omega
   | inr r=>exact⟨r,BA h1,BA h1',h3 r rfl⟩
  | succ n ih=>
   intro b hn hb;obtain⟨s,h1,h1',h2,h3⟩:=H b hb;cases s with
   | inl b'=>
    rw [BW h1,BW h1'];exact ih b' (by have:=(h2 b' rfl).2;omega) (h2 b' rfl).1
   | inr r=>exact⟨r,BA h1,BA h1',h3 r rfl⟩
 exact key _ b (Nat.le_refl _) h
theorem JX {α β:Type} {F:Nat→α→Option β} {x:α} {Q:β→Prop} (N:Nat) (h:∀ n,N≤n→wq (F n x) (F N x) Q):wp (DC F x) Q:=by
 obtain⟨r,_,h2,h3⟩:=h N (Nat.le_refl _);refine⟨r,JR.2 ⟨N,fun n hn=>?_⟩,h3⟩
 obtain⟨r',g1,g2,_⟩:=h n hn;rw [h2] at g2;rw [g1,← g2]
theorem AN (a b:ByteArray):(a++b).size=a.size+b.size:=ByteArray.size_append
theorem MJ (x:Int):0≤MI .i64 x 255∧MI .i64 x 255≤255:=by
 unfold MI;have h1:(BitVec.ofInt IntKind.i64.bits x &&& BitVec.ofInt IntKind.i64.bits 255).toNat≤255:=by
  rw [BitVec.toNat_and];have:(BitVec.ofInt IntKind.i64.bits 255).toNat=255:=by decide
  rw [this];exact Nat.and_le_right
 rw [Aq (by omega) (by omega)];omega
abbrev Cur:=List Int×(Int×Int)
def COk (c:Cur):Prop:=List.length c.1≤1048576∧0≤c.2.1∧c.2.1≤List.length c.1
theorem fV (code:List Int) (h:code.length≤1048576):wp (JC code) fun r=>COk r.1:=by
 unfold JC;refine Ah (AG (AA ?_))
 refine AE (wp_loop (fun b:List Int×Int×Int×Unit=>b.1=code∧0≤b.2.2.1∧b.2.2.1≤code.length) (fun b=>code.length - b.2.2.1.toNat) (Q:=fun r=>r.1=code) (fun b hb=>?_) ⟨rfl,by simp,by simp⟩) (fun r hr=>AA ⟨by simp [hr];exact h,by simp,by simp⟩)
 obtain⟨b1,b2,b3,_⟩:=b;obtain⟨rfl,h0,h1⟩:=hb;simp only at h0 h1;unfold Le;simp only
 by_cases hlt:b3<(b1.length:Int)
 ·simp only [hlt,decide_true,cond_true,AD]
  by_cases h4:b3<4000
  ·simp only [h4,decide_true,cond_true];have e:IntKind.wrap .i64 (b3+1)=b3+1:=Aq (by omega) (by omega)
   rw [e];exact AM ⟨h0,hlt⟩ (Aj (AA (Bc ⟨⟨rfl,by simp only;omega,by simp only;omega⟩,by simp only;omega⟩)))
  ·simp only [h4,decide_false,cond_false];exact Aj (AA (BK rfl))
 ·simp only [hlt,decide_false,cond_false,AD];exact Aj (AA (BK rfl))
theorem Lm (c:Cur) (h:COk c):wp (DF c) fun r=>0≤r.1∧r.1≤255∧COk r.2.1:=by
 obtain⟨b,i,hh⟩:=c;obtain⟨h1,h2,h3⟩:=h;simp only at h1 h2 h3;unfold DF;refine AM (by simp [Cnd.holds]) (AM (by simp [Cnd.holds]) (Ah (AP (fun hb=>?_) (fun hb=>?_))))
 ·have hlt:i<(b.length:Int):=by simpa using hb
  refine AM ⟨h2,hlt⟩ (AA (AA ⟨(MJ _).1,(MJ _).2,h1,?_,?_⟩))
  ·simp only;rw [Aq (by omega) (by omega)];omega
  ·simp only;rw [Aq (by omega) (by omega)];omega
 ·exact AA (AA ⟨(MJ _).1,(MJ _).2,h1,h2,h3⟩)
theorem Br (c:Cur) (n:Int) (h:COk c):wp (BE c n) fun r=>0≤r.1∧(0<n→r.1<n)∧(n≤0→r.1=0)∧COk r.2.1:=by
 unfold BE;refine AP (fun hb=>AA ?_) (fun hb=>AP (fun hb2=>?_) (fun hb2=>?_))
 ·have hn:n≤0:=by simpa using hb
  exact⟨by simp,fun h=>by omega,fun _=>rfl,h⟩
 ·have hn:0<n:=by simpa using hb
  refine AG (AE (Lm c h) fun y hy=>AM (by show n≠0;omega) (AA ⟨Int.tmod_nonneg _ hy.1,fun _=>Int.tmod_lt_of_pos _ hn,fun h=>by omega,hy.2.2⟩))
 ·have hn:0<n:=by simpa using hb
  refine AG (AE (Lm c h) fun y hy=>AG (AE (Lm _ hy.2.2) fun y2 hy2=>AG (AE (Lm _ hy2.2.2) fun y3 hy3=>AG (AE (Lm _ hy3.2.2) fun y4 hy4=>?_))))
  have e1:IntKind.wrap .i64 (y.1 * 16777216)=y.1 * 16777216:=Aq (by omega) (by omega)
  have e2:IntKind.wrap .i64 (y2.1 * 65536)=y2.1 * 65536:=Aq (by omega) (by omega)
  have e3:IntKind.wrap .i64 (y3.1 * 256)=y3.1 * 256:=Aq (by omega) (by omega)
  rw [e1,e2,e3,Aq (x:=y.1 * 16777216+y2.1 * 65536) (by omega) (by omega),Aq (x:=y.1 * 16777216+y2.1 * 65536+y3.1 * 256) (by omega) (by omega),Aq (x:=y.1 * 16777216+y2.1 * 65536+y3.1 * 256+y4.1) (by omega) (by omega)];exact AM (by show n≠0;omega) (AA ⟨Int.tmod_nonneg _ (by omega),fun _=>Int.tmod_lt_of_pos _ hn,fun h=>by omega,hy4.2.2⟩)
theorem Iu (c:Cur) (n:Int) (h:COk c):wp (Cb c n) fun r=>COk r.2.1:=by
 unfold Cb;exact AG (AE (Br c n h) fun y hy=>AA hy.2.2.2)
theorem Cm {D:Type} (l:List D) (n:Int) (z:D) (h0:0≤n) (h1:n<l.length):rd l n z∈l:=by
 have hlt:n.toNat<l.length:=by omega
 have:rd l n z=l[n.toNat]:=by simp [rd,List.getD_eq_getElem?_getD,List.getElem?_eq_getElem hlt]
 rw [this];exact List.getElem_mem hlt
theorem Ub (c:Cur) (l:List ByteArray) (hl:l≠[]) (h:COk c):wp (Ga c l) fun r=>r.1∈l∧COk r.2.1:=by
 unfold Ga;have hp:0<(l.length:Int):=by have:=List.length_pos_iff.2 hl;omega
 exact AG (AE (Br c _ h) fun y hy=>AM ⟨hy.1,hy.2.1 hp⟩ (AA ⟨Cm _ _ _ hy.1 (hy.2.1 hp),hy.2.2.2⟩))
set_option maxRecDepth 100000
abbrev SIGN:=Int×(ByteArray×Int)
theorem bN (t:ByteArray) (at_:Int) (h0:0≤at_) (h1:at_≤t.size) (ht:t.size≤3000):wp (IW t at_) fun r=>r.1=(⟨#[]⟩:ByteArray)∨(0<r.1.size∧at_+r.1.size≤t.size):=by
 unfold IW Jd;refine AG (AA (Hi (AG (AA ?_))))
 simp only;generalize hL:[NG,NH,s___32eb,s___ba5e,MU,s___d10b,MV,Ok,MX,MW,s___6848,Ka,Oi,Oj]=L;have hlen:L.length=14:=by rw [← hL];rfl
 have hsz:∀ s∈L,0<s.size∧s.size≤2:=by
  rw [← hL];intro s hs;simp only [List.mem_cons,List.not_mem_nil,or_false] at hs;rcases hs with e | e | e | e | e | e | e | e | e | e | e | e | e | e<;>rw [e]<;>decide
 clear hL
 refine AE (wp_loop (fun x:HY=>x.1=t∧x.2.1=at_∧x.2.2.1=L∧0≤x.2.2.2.1∧x.2.2.2.1≤14) (fun x=>14 - x.2.2.2.1.toNat) (Q:=fun s:Unit ⊕ (ByteArray×Unit)=>∀ r,s=.inr r→0<r.1.size∧at_+r.1.size≤t.size) (fun x hx=>?_) ⟨rfl,rfl,rfl,by simp,by simp⟩) (fun s hs=>⟨fun b hb=>AA (.inl rfl),fun r hr=>.inr (hs r hr)⟩)
 obtain⟨x0,x1,x2,x3,_⟩:=x;simp only at hx;obtain⟨e1,e2,e3,g1,g2⟩:=hx;subst e1 e2 e3;unfold Kk;simp only;refine AP (fun hb=>?_) fun _=>Aj (Aj (AA (BK (fun r hr=>by cases hr))))
 have hlt:x3<(x2.length:Int):=by simpa using hb
 have hm:=hsz _ (Cm x2 x3 (⟨#[]⟩:ByteArray) g1 hlt)
 have e:IntKind.wrap .i64 (x1+((rd x2 x3 (⟨#[]⟩:ByteArray)).size:Int))=x1+((rd x2 x3 (⟨#[]⟩:ByteArray)).size:Int):=Aq (by omega) (by omega)
 rw [e];refine AM ⟨g1,hlt⟩ (Ah (AE (Q:=fun z:ByteArray×Int×List ByteArray×Int×Bool×Unit=>z.1=x0∧z.2.1=x1∧z.2.2.1=x2∧z.2.2.2.1=x3∧(z.2.2.2.2.1=true→x1+((rd x2 x3 (⟨#[]⟩:ByteArray)).size:Int)≤x0.size)) (AP (fun hb2=>?_) fun _=>AA ⟨rfl,rfl,rfl,rfl,fun h=>by cases h⟩) fun z hz=>?_))
 ·have h2:x1+((rd x2 x3 (⟨#[]⟩:ByteArray)).size:Int)≤(x0.size:Int):=by simpa using hb2
  exact AM ⟨h0,by omega,h2⟩ (AM ⟨g1,hlt⟩ (AA ⟨rfl,rfl,rfl,rfl,fun _=>h2⟩))
 ·obtain⟨z0,z1,z2,z3,z4,_⟩:=z;simp only at hz;obtain⟨e1,e2,e3,e4,g3⟩:=hz;subst e1 e2 e3 e4;simp only;refine AP (fun hb3=>AM ⟨g1,hlt⟩ (Aj (Aj (AA (BK (fun r hr=>by cases hr;exact⟨hm.1,g3 hb3⟩)))))) fun _=>?_
  rw [Aq (x:=z3+1) (by omega) (by omega)];exact Aj (AA (Bc ⟨⟨rfl,rfl,rfl,by simp only;omega,by simp only;omega⟩,by simp only;omega⟩))
theorem Za (t:ByteArray) (n o:List SIGN) (at_:Int) (h0:0≤at_) (h1:at_<t.size) (ht:t.size≤3000) (hl:GS (bAt t at_)=true):
 wp (AK Ht (t,n,o,at_,at_,())) fun r=>r.1=t∧r.2.1=n∧r.2.2.1=o∧r.2.2.2.1=at_∧at_<r.2.2.2.2.1∧r.2.2.2.2.1≤t.size:=by
 refine wp_loop (fun x:HX=>x.1=t∧x.2.1=n∧x.2.2.1=o∧x.2.2.2.1=at_∧at_≤x.2.2.2.2.1∧x.2.2.2.2.1≤t.size) (fun x=>t.size - x.2.2.2.2.1.toNat) (fun x hx=>?_) ⟨rfl,rfl,rfl,rfl,by simp,by simp only;omega⟩
 obtain⟨x0,x1,x2,x3,x4,_⟩:=x;simp only at hx;obtain⟨e1,e2,e3,e4,g1,g2⟩:=hx;subst e1 e2 e3 e4;unfold Ht;simp only;refine Ah (AE (Q:=fun z:ByteArray×List SIGN×List SIGN×Int×Int×Bool×Unit=>z.1=x0∧z.2.1=x1∧z.2.2.1=x2∧z.2.2.2.1=x3∧z.2.2.2.2.1=x4∧(z.2.2.2.2.2.1=true→x4<x0.size)∧(z.2.2.2.2.2.1=false→x4≠x3)) (AP (fun hb=>?_) fun hb=>AA ⟨rfl,rfl,rfl,rfl,rfl,fun h=>(by cases h),fun _ e=>?_⟩) fun z hz=>?_)
 ·have hlt:x4<(x0.size:Int):=by simpa using hb
  rw [Na,NZ];refine AM ⟨by omega,hlt⟩ (AG (AA (AP (fun _=>AA ⟨rfl,rfl,rfl,rfl,rfl,fun _=>hlt,fun h=>by cases h⟩) fun hb2=>AM ⟨by omega,hlt⟩ (AG (AA (AA ⟨rfl,rfl,rfl,rfl,rfl,fun _=>hlt,fun _ e=>?_⟩))))))
  simp only at hb2;rw [e,hl] at hb2;cases hb2
 ·have:¬ x4<(x0.size:Int):=by simpa using hb
  omega
 ·obtain⟨z0,z1,z2,z3,z4,z5,_⟩:=z;simp only at hz;obtain⟨e1,e2,e3,e4,e5,g3,g4⟩:=hz;subst e1 e2 e3 e4 e5;simp only;refine AP (fun hb=>?_) fun hb=>Aj (AA (BK ⟨rfl,rfl,rfl,rfl,by have:=g4 hb;simp only;omega,g2⟩))
  have:=g3 hb
  rw [Aq (x:=z4+1) (by omega) (by omega)];exact Aj (AA (Bc ⟨⟨rfl,rfl,rfl,rfl,by simp only;omega,by simp only;omega⟩,by simp only;omega⟩))
theorem Ww (t:ByteArray) (n o:List SIGN) (at_:Int) (h0:0≤at_) (h1:at_<t.size) (ht:t.size≤3000) (hl:JO (bAt t at_)=true):
 wp (AK Hw (t,n,o,at_,at_,(0:Int),())) fun r=>r.1=t∧r.2.1=n∧r.2.2.1=o∧r.2.2.2.1=at_∧at_<r.2.2.2.2.1∧r.2.2.2.2.1≤t.size:=by
 refine wp_loop (fun x:Hb=>x.1=t∧x.2.1=n∧x.2.2.1=o∧x.2.2.2.1=at_∧at_≤x.2.2.2.2.1∧x.2.2.2.2.1≤t.size) (fun x=>t.size - x.2.2.2.2.1.toNat) (fun x hx=>?_) ⟨rfl,rfl,rfl,rfl,by simp,by simp only;omega⟩
 obtain⟨x0,x1,x2,x3,x4,x5,_⟩:=x;simp only at hx;obtain⟨e1,e2,e3,e4,g1,g2⟩:=hx;subst e1 e2 e3 e4;unfold Hw;simp only;refine Ah (AE (Q:=fun z:ByteArray×List SIGN×List SIGN×Int×Int×Int×Bool×Unit=>z.1=x0∧z.2.1=x1∧z.2.2.1=x2∧z.2.2.2.1=x3∧z.2.2.2.2.1=x4∧(z.2.2.2.2.2.2.1=true→x4<x0.size)∧(z.2.2.2.2.2.2.1=false→x4≠x3)) (AP (fun hb=>?_) fun hb=>AA ⟨rfl,rfl,rfl,rfl,rfl,fun h=>(by cases h),fun _ e=>?_⟩) fun z hz=>?_)
 ·have hlt:x4<(x0.size:Int):=by simpa using hb
  rw [NZ];refine AM ⟨by omega,hlt⟩ (AG (AA (AP (fun _=>AA ⟨rfl,rfl,rfl,rfl,rfl,fun _=>hlt,fun h e=>?_⟩) fun hb2=>AA ⟨rfl,rfl,rfl,rfl,rfl,fun h=>(by cases h),fun _ e=>?_⟩)))
  ·rw [e] at h;simp only [Int.sub_self] at h;exact absurd h (by decide)
  ·simp only at hb2;rw [e,hl] at hb2;cases hb2
 ·have:¬ x4<(x0.size:Int):=by simpa using hb
  omega
 ·obtain⟨z0,z1,z2,z3,z4,z5,z6,_⟩:=z;simp only at hz;obtain⟨e1,e2,e3,e4,e5,g3,g4⟩:=hz;subst e1 e2 e3 e4 e5;simp only;refine AP (fun hb=>?_) fun hb=>Aj (AA (BK ⟨rfl,rfl,rfl,rfl,by have:=g4 hb;simp only;omega,g2⟩))
  have:=g3 hb
  rw [Aq (x:=z4+1) (by omega) (by omega)];exact AM ⟨by omega,this⟩ (Aj (AA (Bc ⟨⟨rfl,rfl,rfl,rfl,by simp only;omega,by simp only;omega⟩,by simp only;omega⟩)))
theorem Zz (t:ByteArray):wp (IV t) fun r=>r.1.length≤3000:=by
 unfold IV;refine AP (fun _=>AA (by simp)) fun hb=>Hi (AG (AA ?_))
 have ht:t.size≤3000:=by
  have:¬ (3000:Int)<(t.size:Int):=by simpa using hb
  omega
 refine AE (wp_loop (fun x:FX=>x.1=t∧x.2.1=[]∧0≤x.2.2.2.1∧x.2.2.2.1≤t.size∧(x.2.2.1.length:Int)≤x.2.2.2.1) (fun x=>t.size - x.2.2.2.1.toNat)
  (Q:=fun s:(List SIGN×Unit) ⊕ (List SIGN×Bool×Unit)=>(∀ b,s=.inl b→b.1.length≤3000)∧∀ r,s=.inr r→r.1.length≤3000) (fun x hx=>?_) ⟨rfl,rfl,by simp,by simp,by simp⟩) (fun s hs=>⟨fun b hb=>AA (hs.1 b hb),hs.2⟩)
 obtain⟨x0,x1,x2,x3,_⟩:=x;simp only at hx;obtain⟨e1,e2,g1,g2,g3⟩:=hx;subst e1 e2;unfold Kn;simp only;refine AP (fun hb=>?_) fun _=>Aj (Aj (AA (BK ⟨fun b hb=>by cases hb;simp only;omega,fun r hr=>by cases hr⟩)))
 have hlt:x3<(x0.size:Int):=by simpa using hb
 refine Hi (AE (Q:=fun s:(ByteArray×List SIGN×List SIGN×Int×Unit) ⊕ (FX ⊕ ((List SIGN×Unit) ⊕ (List SIGN×Bool×Unit)))=>(∀ b,s=.inl b→b.1=x0∧b.2.1=[]∧x3<b.2.2.2.1∧b.2.2.2.1≤x0.size∧(b.2.2.1.length:Int)≤b.2.2.2.1)∧∀ r,s=.inr r→r=.inr (.inr ([],false,()))) (Ah (AE (Q:=fun z:ByteArray×List SIGN×List SIGN×Int×Bool×Unit=>z.1=x0∧z.2.1=[]∧z.2.2.1=x2∧z.2.2.2.1=x3) (AM ⟨g1,hlt⟩ (AP (fun _=>AA ⟨rfl,rfl,rfl,rfl⟩) fun _=>AM ⟨g1,hlt⟩ (AA ⟨rfl,rfl,rfl,rfl⟩))) fun z hz=>?_)) fun s hs=>⟨fun b hb=>?_,fun r hr=>?_⟩)
 ·obtain⟨z0,z1,z2,z3,z4,_⟩:=z;simp only at hz;obtain⟨e1,e2,e3,e4⟩:=hz;subst e1 e2 e3 e4;simp only;refine AP (fun _=>?_) fun _=>AM ⟨g1,hlt⟩ ?_
  ·rw [Aq (x:=z3+1) (by omega) (by omega)];exact Aj (AA (Bc ⟨rfl,rfl,by simp only;omega,by simp only;omega,by simp only;omega⟩))
  rw [Na,NZ];refine AG (AA (AP (fun hl=>?_) fun _=>AM ⟨g1,hlt⟩ (AG (AA (AP (fun hf=>?_) fun _=>?_)))))
  ·refine Ah (AG (AA (AE (Za z0 [] z2 z3 g1 hlt ht hl) fun r hr=>?_)))
   obtain⟨r0,r1,r2,r3,r4,_⟩:=r;simp only at hr;obtain⟨e1,e2,e3,e4,g4,g5⟩:=hr;subst e1 e2 e3 e4;refine AP (fun _=>Aj (Aj (Aj (AA (BK rfl))))) fun _=>AM ⟨g1,by simp only;omega,g5⟩ (AM (by simp only [Cnd.holds,List.length_singleton];omega) (Aj (AA (Bc ⟨rfl,rfl,g4,g5,by simp only [List.length_append,List.length_singleton];omega⟩))))
  ·refine Ah (AG (AA (AE (Ww z0 [] z2 z3 g1 hlt ht hf) fun r hr=>?_)))
   obtain⟨r0,r1,r2,r3,r4,r5,_⟩:=r;simp only at hr;obtain⟨e1,e2,e3,e4,g4,g5⟩:=hr;subst e1 e2 e3 e4;simp only;refine Ah (AE (Q:=fun u:ByteArray×List SIGN×List SIGN×Int×Int×Bool×Unit=>u.1=r0∧u.2.1=[]∧u.2.2.1=r2∧u.2.2.2.1=r4) (AP (fun _=>AA ⟨rfl,rfl,rfl,rfl⟩) fun _=>AA ⟨rfl,rfl,rfl,rfl⟩) fun u hu=>?_)
   obtain⟨u0,u1,u2,u3,u4,u5,_⟩:=u;simp only at hu;obtain⟨e1,e2,e3,e4⟩:=hu;subst e1 e2 e3 e4;refine AP (fun _=>Aj (Aj (Aj (AA (BK rfl))))) fun _=>AM (by simp only [Cnd.holds,List.length_singleton];omega) (Aj (AA (Bc ⟨rfl,rfl,g4,g5,by simp only [List.length_append,List.length_singleton];omega⟩)))
  ·refine AG (AE (bN z0 z3 g1 (by omega) ht) fun y hy=>AP (fun _=>Aj (Aj (Aj (AA (BK rfl))))) fun hn=>?_)
   have hne:y.1≠(⟨#[]⟩:ByteArray):=by simpa using hn
   rcases hy with hy | ⟨hy1,hy2⟩
   ·exact absurd hy hne
   rw [Aq (x:=z3+(y.1.size:Int)) (by omega) (by omega)];exact AM (by simp only [Cnd.holds,List.length_singleton];omega) (Aj (AA (Bc ⟨rfl,rfl,by simp only;omega,by simp only;omega,by simp only [List.length_append,List.length_singleton];omega⟩)))
 ·have:=hs.1 b hb
  obtain⟨b0,b1,b2,b3,_⟩:=b;simp only at this;obtain⟨e1,e2,k1,k2,k3⟩:=this;subst e1 e2;exact Aj (AA (Bc ⟨⟨rfl,rfl,by simp only;omega,k2,k3⟩,by simp only;omega⟩))
 ·rw [hs.2 r hr];exact BK ⟨fun b hb=>(by cases hb),fun r hr=>(by cases hr;simp)⟩
set_option maxRecDepth 100000
abbrev NODE:=Int×(Int×(ByteArray×List Int))
abbrev FN:=ByteArray×(List (ByteArray×Int)×(Int×(Int×Int)))
abbrev PROG:=List NODE×List FN
abbrev zN:NODE:=((0:Int),((0:Int),((⟨#[]⟩:ByteArray),[])))
structure FineN (l:List NODE):Prop where
 len:l.length≤1048576
 kid:∀ x∈l,(x:NODE).2.2.2.length≤1048576
theorem NV {n:Nat} (h:n≤1048576):IntKind.wrap .i64 ((n:Int) - 1)=(n:Int) - 1:=Aq (by omega) (by omega)
def kr (k:Int):Int×Int:=if k=8∨k=13∨k=14∨k=15∨k=18∨k=19 then (1,1) else if k=9∨k=10∨k=11∨k=17 then (2,2) else if k=12 then (0,3) else if k=16 then (3,3) else if k=20 then (0,12) else (0,0)
theorem gT (k:Int):IY k=some ((kr k).1,(kr k).2,()):=by
 unfold IY kr
 by_cases h8:k=8
 ·subst h8;rfl
 by_cases h13:k=13
 ·subst h13;rfl
 by_cases h14:k=14
 ·subst h14;rfl
 by_cases h15:k=15
 ·subst h15;rfl
 by_cases h18:k=18
 ·subst h18;rfl
 by_cases h19:k=19
 ·subst h19;rfl
 by_cases h9:k=9
 ·subst h9;rfl
 by_cases h10:k=10
 ·subst h10;rfl
 by_cases h11:k=11
 ·subst h11;rfl
 by_cases h17:k=17
 ·subst h17;rfl
 by_cases h12:k=12
 ·subst h12;rfl
 by_cases h16:k=16
 ·subst h16;rfl
 by_cases h20:k=20
 ·subst h20;rfl
 simp only [h8,h13,h14,h15,h18,h19,h9,h10,h11,h17,h12,h16,h20,decide_false,cond_false,AD,or_self,if_false]
def LI (k:Int):Bool:=decide (2≤k∧k≤6) || decide (12≤k∧k≤15)
theorem fd (k:Int):HR k=some (LI k,()):=by
 unfold HR
 by_cases h2:k=2
 ·subst h2;rfl
 by_cases h3:k=3
 ·subst h3;rfl
 by_cases h4:k=4
 ·subst h4;rfl
 by_cases h5:k=5
 ·subst h5;rfl
 by_cases h6:k=6
 ·subst h6;rfl
 by_cases h12:k=12
 ·subst h12;rfl
 by_cases h13:k=13
 ·subst h13;rfl
 by_cases h14:k=14
 ·subst h14;rfl
 by_cases h15:k=15
 ·subst h15;rfl
 simp only [h2,h3,h4,h5,h6,h12,h13,h14,h15,decide_false,cond_false,AD,LI];rw [decide_eq_false (by omega),decide_eq_false (by omega)];rfl
def Ja (k i j:Int):Bool:=bif decide (k=20) then decide (13≤j∧j≤19) else bif (decide (k=16) || decide (k=17)) && decide (0<i) then decide (j=20) else bif decide (k=19) then decide (j=12) else decide (1≤j∧j≤12)
theorem gP (k i j:Int):IX k i j=some (Ja k i j,()):=by
 simp only [IX,Gy,Fq,sIn,Option.bind_some,Ja];cases decide (k=20)
 ·simp only [cond_false]
  by_cases h16:k=16
  ·subst h16;simp only [decide_true,cond_true,AD,Bool.true_or,Bool.true_and];cases decide (0<i)<;>rfl
  ·by_cases h17:k=17
   ·subst h17;simp only [show ¬ ((17:Int)=16) by decide,decide_true,decide_false,cond_true,cond_false,AD,Bool.or_true,Bool.true_and];cases decide (0<i)<;>rfl
   ·simp only [h16,h17,decide_false,cond_false,AD,Bool.or_self,Bool.false_and];cases decide (k=19)<;>rfl
 ·rfl
def Ss (l:List Int) (n:Int):Bool:=l.any fun y=>decide (y=n)
def NT (l:List NODE) (k:Int) (x:NODE) (i:Nat):Bool:=decide (0≤x.2.2.2.getD i 0∧x.2.2.2.getD i 0≤k - 1) && (Ja x.1 (i:Int) (rd l (x.2.2.2.getD i 0) zN).1 && !Ss (x.2.2.2.take i) (x.2.2.2.getD i 0))
def NA (l:List NODE) (k:Int) (x:NODE):Bool:=(List.range x.2.2.2.length).all (NT l k x)
def GW (l:List NODE) (k:Int) (x:NODE):Bool:=decide (1≤x.1∧x.1≤20) && (decide ((kr x.1).1≤(x.2.2.2.length:Int)∧(x.2.2.2.length:Int)≤(kr x.1).2) && ((bif decide (x.1=1) then decide (0≤x.2.1∧x.2.1≤1000000000) else decide (x.2.1=0)) && ((bif LI x.1 then Bh x.2.2.1 else decide (x.2.2.1=(⟨#[]⟩:ByteArray))) && NA l k x)))
def Bk (l:List NODE) (k:Int):Bool:=decide (0≤k∧k≤(l.length:Int) - 1) && GW l k (rd l k zN)
theorem Cf {α:Type} {n:Int} {m:Nat} {K:Option α} (h:0≤n∧n<(m:Int)):(Cnd.idx n m).run K=K:=by
 simp only [Cnd.run];rw [if_pos h]
theorem ZT (l:List NODE) (k:Int) (x:NODE) (i:Nat) (hi:i<x.2.2.2.length) (hx:x.2.2.2.length≤1048576):
 AK Er (l,k,(i:Int),(0:Int),x,())=some (bif Ss (x.2.2.2.take i) (x.2.2.2.getD i 0) then .inr (.inr (.inr (.inr (false,())))) else .inl (l,k,(i:Int),x,())):=by
 have hlen:(x.2.2.2.take i).length=i:=by rw [List.length_take];omega
 have h:=JT (step:=Er) (x.2.2.2.take i) (fun y=>decide (y=x.2.2.2.getD i 0)) (fun j=>(l,k,(i:Int),(j:Int),x,())) (.inr (.inr (.inr (.inr (false,()))))) (.inl (l,k,(i:Int),x,())) (fun j hj=>by
  have hj':j<i:=by omega
  have hjl:j<x.2.2.2.length:=by omega
  have hg:x.2.2.2.getD i 0=x.2.2.2[i]:=by simp [hi]
  have e:decide (x.2.2.2[i]=x.2.2.2[j])=decide (x.2.2.2[j]=x.2.2.2[i]):=by
   by_cases h:x.2.2.2[i]=x.2.2.2[j]
   ·rw [decide_eq_true h,decide_eq_true h.symm]
   ·rw [decide_eq_false h,decide_eq_false (fun h'=>h h'.symm)]
  simp only [Er,Am hj',decide_true,cond_true,AU hi,AU hjl,AZ hi,AZ hjl,Ad (show j<9223372036854775807 by omega),hg,e,List.getElem_take];cases decide (x.2.2.2[j]=x.2.2.2[i])<;>rfl) (by
  rw [hlen];simp only [Er,Aa,decide_false,cond_false,Option.map_some])
 exact h
theorem Vz (l:List NODE) (k:Nat) (hk:k<l.length) (hl:FineN l) (x:NODE) (hx:x.2.2.2.length≤1048576):
 AK Ey (l,(k:Int),(0:Int),x,())=some (bif NA l k x then .inl () else .inr (false,())):=by
 have hlen:=hl.len
 have h:=Bj (step:=Ey) (List.range x.2.2.2.length) (NT l k x) (fun i=>(l,(k:Int),(i:Int),x,())) (.inl ()) (.inr (false,())) (fun i hi=>by
  have hi':i<x.2.2.2.length:=by simpa using hi
  have wi:=Ad (show i<9223372036854775807 by omega)
  have hg:x.2.2.2.getD i 0=x.2.2.2[i]:=by simp [hi']
  have wk:IntKind.wrap .i64 ((k:Int) - 1)=(k:Int) - 1:=Aq (by omega) (by omega)
  have hd:=ZT l (k:Int) x i hi' hx
  rw [hg] at hd;simp only [Ey,Am hi',decide_true,cond_true,AU hi',AZ hi',sIn,Option.bind_some,wk,List.getElem_range,NT,hg];generalize x.2.2.2[i]=kid at hd ⊢
  by_cases hr:0≤kid∧kid≤(k:Int) - 1
  ·simp only [hr,and_self,decide_true,Bool.not_true,cond_false,Option.bind_some,Bool.true_and,Cf (show 0≤kid∧kid<(l.length:Int) by omega),gP];cases Ja x.1 (i:Int) (rd l kid zN).1
   ·simp only [Bool.not_false,AD,cond_true,Option.map_some,Bg,Bool.false_and,cond_false]
   ·simp only [Bool.not_true,AD,cond_false,hd,Bool.true_and];cases Ss (x.2.2.2.take i) kid<;>simp only [cond_true,cond_false,BV,Bg,Bool.not_true,Bool.not_false,Option.map_some,wi]
  ·simp only [hr,decide_false,Bool.not_false,cond_true,AD,Bool.false_and,cond_false,Option.map_some,Bg]) (by
  rw [List.length_range];simp only [Ey,Aa,decide_false,cond_false,Option.map_some])
 exact h
theorem bO {s:ByteArray} (h:Bh s=true):s≠(⟨#[]⟩:ByteArray):=by
 rintro rfl
 simp only [Bh,Bool.and_eq_true,decide_eq_true_eq] at h;have:=h.1.1.1.1
 have e:(⟨#[]⟩:ByteArray).size=0:=rfl
 omega
theorem Qi (l:List NODE) (hl:FineN l) (k:Int):JA l k=some (Bk l k,()):=by
 unfold JA Bk;simp only [NV hl.len,sIn,Option.bind_some]
 by_cases hr:0≤k∧k≤(l.length:Int) - 1
 case neg=>simp only [hr,decide_false,Bool.not_false,cond_true,AD,Bool.false_and]
 obtain⟨k,rfl⟩:∃ n:Nat,k=(n:Int):=⟨k.toNat,by omega⟩
 have hk:k<l.length:=by omega
 simp only [hr,and_self,decide_true,Bool.not_true,cond_false,AU hk,Bool.true_and,AZ hk,GW,AD];have hx:=hl.kid _ (List.getElem_mem hk)
 have hloop:=Vz l k hk hl l[k] hx
 generalize l[k]=x at hx hloop ⊢;cases decide (1≤x.1∧x.1≤20)
 ·simp only [Bool.not_false,cond_true,Bool.false_and]
 simp only [Bool.not_true,cond_false,Bool.true_and,AU hk,gT,Option.bind_some,sIn];have eN:(bif !decide ((kr x.1).1≤(x.2.2.2.length:Int)∧(x.2.2.2.length:Int)≤(kr x.1).2) then some (l,(k:Int),true,x,()) else bif !decide (0≤x.2.1∧x.2.1≤1000000000) then some (l,(k:Int),true,x,()) else bif decide (x.1≠1) then some (l,(k:Int),decide (x.2.1≠0),x,()) else some (l,(k:Int),false,x,())) =
  some (l,(k:Int),!(decide ((kr x.1).1≤(x.2.2.2.length:Int)∧(x.2.2.2.length:Int)≤(kr x.1).2) && (bif decide (x.1=1) then decide (0≤x.2.1∧x.2.1≤1000000000) else decide (x.2.1=0))),x,()):=by
  cases decide ((kr x.1).1≤(x.2.2.2.length:Int)∧(x.2.2.2.length:Int)≤(kr x.1).2)
  ·rfl
  by_cases e:x.1=1
  ·simp only [e,decide_true,cond_true,ne_eq,not_true_eq_false,decide_false,cond_false,Bool.not_true,Bool.true_and];cases decide (0≤x.2.1∧x.2.1≤1000000000)<;>rfl
  ·by_cases e2:x.2.1=0
   ·simp [e,e2]
   ·by_cases e3:0≤x.2.1∧x.2.1≤1000000000<;>simp [e,e2,e3]
 rw [eN,AD];cases decide ((kr x.1).1≤(x.2.2.2.length:Int)∧(x.2.2.2.length:Int)≤(kr x.1).2)
 ·simp only [Bool.false_and,Bool.not_false,cond_true]
 simp only [Bool.true_and];cases (bif decide (x.1=1) then decide (0≤x.2.1∧x.2.1≤1000000000) else decide (x.2.1=0))
 ·simp only [Bool.not_false,cond_true,Bool.false_and]
 simp only [Bool.not_true,cond_false,Bool.true_and,fd,Cs,Option.bind_some];have eM:(bif !(LI x.1 == decide (x.2.2.1≠(⟨#[]⟩:ByteArray))) then some (l,(k:Int),true,x,()) else bif decide (x.2.2.1≠(⟨#[]⟩:ByteArray)) then some (l,(k:Int),!Bh x.2.2.1,x,()) else some (l,(k:Int),false,x,())) =
  some (l,(k:Int),!(bif LI x.1 then Bh x.2.2.1 else decide (x.2.2.1=(⟨#[]⟩:ByteArray))),x,()):=by
  by_cases e:x.2.2.1=(⟨#[]⟩:ByteArray)
  ·have hn:Bh x.2.2.1=false:=by
    cases h:Bh x.2.2.1
    ·rfl
    ·exact absurd e (bO h)
   rw [hn];cases LI x.1<;>simp [e]
  ·cases LI x.1<;>simp [e]
 rw [eM,AD];cases (bif LI x.1 then Bh x.2.2.1 else decide (x.2.2.1=(⟨#[]⟩:ByteArray)))
 ·simp only [Bool.not_false,cond_true,Bool.false_and]
 simp only [Bool.not_true,cond_false,Bool.true_and,hloop];cases NA l k x<;>rfl
set_option maxRecDepth 100000
abbrev RD:=List SIGN×(Int×(Bool×(Int×List NODE)))
structure ROk (L:List SIGN) (r:RD):Prop where
 l:r.1=L
 a0:0≤r.2.1
 a1:r.2.1≤L.length
 n:r.2.2.2.2.length≤300
 k:∀ x∈r.2.2.2.2,(x:NODE).2.2.2.length≤100000
structure Mv (L:List SIGN) (r r':RD):Prop where
 ok:ROk L r'
 le:r.2.1≤r'.2.1
 bd:r.2.2.1=true→r'.2.2.1=true
structure Pg (L:List SIGN) (r r':RD):Prop extends Mv L r r' where
 pg:r'.2.2.1=true∨r.2.1<r'.2.1
theorem Mv.rfl' {L:List SIGN} {r:RD} (h:ROk L r):Mv L r r:=⟨h,Int.le_refl _,fun e=>e⟩
theorem Mv.trans {L:List SIGN} {a b c:RD} (h:Mv L a b) (h':Mv L b c):Mv L a c:=⟨h'.ok,Int.le_trans h.le h'.le,fun e=>h'.bd (h.bd e)⟩
theorem Mv.pg {L:List SIGN} {a b c:RD} (h:Mv L a b) (h':Pg L b c):Pg L a c:=⟨h.trans h'.toMv,h'.pg.imp id fun e=>by have:=h.le;omega⟩
theorem Pg.mv {L:List SIGN} {a b c:RD} (h:Pg L a b) (h':Mv L b c):Pg L a c:=⟨h.toMv.trans h',h.pg.imp h'.bd fun e=>by have:=h'.le;omega⟩
theorem Mv.deep {L:List SIGN} {a b:RD} (h:Mv L a b) (d:Int):Mv L a (b.1,(b.2.1,(b.2.2.1,(d,b.2.2.2.2)))):=⟨⟨h.ok.l,h.ok.a0,h.ok.a1,h.ok.n,h.ok.k⟩,h.le,h.bd⟩
theorem Pg.deep {L:List SIGN} {a b:RD} (h:Pg L a b) (d:Int):Pg L a (b.1,(b.2.1,(b.2.2.1,(d,b.2.2.2.2)))):=⟨h.toMv.deep d,h.pg⟩
theorem Mv.bad {L:List SIGN} {a b:RD} (h:Mv L a b):Pg L a (b.1,(b.2.1,(true,b.2.2.2))):=⟨⟨⟨h.ok.l,h.ok.a0,h.ok.a1,h.ok.n,h.ok.k⟩,h.le,fun _=>rfl⟩,.inl rfl⟩
theorem Mv.next {L:List SIGN} {a b:RD} (h:Mv L a b) (hlt:b.2.1<L.length):Pg L a (b.1,(b.2.1+1,b.2.2)):=⟨⟨⟨h.ok.l,by have:=h.ok.a0;simp only;omega,by simp only;omega,h.ok.n,h.ok.k⟩,by have:=h.le;simp only;omega,h.bd⟩,.inr (by have:=h.le;simp only;omega)⟩
section
variable {L:List SIGN} (hL:L.length≤3000)
include hL
theorem We {r:RD} (h:ROk L r):IntKind.wrap .i64 (r.2.1+1)=r.2.1+1:=Aq (by have:=h.a0;omega) (by have:=h.a1;omega)
theorem Vy (r:RD) (k:Int) (s:ByteArray) (h:ROk L r):wp (DM r k s) fun y=>y.2.1=r∧(y.1=true→r.2.1<L.length):=by
 unfold DM;refine Ah (AE (Q:=fun y:Bool×RD×Unit=>y.2.1=r∧(y.1=true→r.2.1<L.length)) (AP (fun _=>AP (fun hb=>?_) fun _=>AA ⟨rfl,fun h=>by cases h⟩) fun _=>AA ⟨rfl,fun h=>by cases h⟩) fun y hy=>AA hy)
 have hlt:r.2.1<(List.length r.1:Int):=by simpa using hb
 have hlt':r.2.1<(L.length:Int):=by rw [h.l] at hlt;exact hlt
 exact AM ⟨h.a0,hlt⟩ (AP (fun _=>AM ⟨h.a0,hlt⟩ (AA ⟨rfl,fun _=>hlt'⟩)) fun _=>AA ⟨rfl,fun h=>by cases h⟩)
theorem BF (r:RD) (k:Int) (s:ByteArray) (h:ROk L r):wp (AR r k s) fun y=>Mv L r y.2.1∧(y.1=true→Pg L r y.2.1∧r.2.1<y.2.1.2.1):=by
 unfold AR;refine AG (AE (Vy hL r k s h) fun y hy=>?_)
 obtain⟨e,hlt⟩:=hy;rw [e,We hL h];refine AP (fun hb=>AA ?_) fun _=>AA ⟨.rfl' h,fun h=>by cases h⟩
 have:=(Mv.rfl' h).next (hlt hb)
 exact⟨this.toMv,fun _=>⟨this,by simp only;omega⟩⟩
theorem CP (r:RD) (s:ByteArray) (h:ROk L r):wp (Au r s) fun y=>Pg L r y.1:=by
 unfold Au;refine AG (AE (BF hL r 3 s h) fun y hy=>Ah (AP (fun _=>AA (AA hy.1.bad)) fun hb=>AA (AA (hy.2 ?_).1)))
 cases hy1:y.1
 ·rw [hy1] at hb;cases hb
 ·rfl
theorem Fu (r:RD) (h:ROk L r):wp (BJ r) fun y=>Pg L r y.2.1:=by
 unfold BJ;refine Ah (AE (Q:=fun x:Bool×RD×Unit=>x.2.1=r∧(x.1=false→r.2.1<L.length)) (AP (fun _=>AA ⟨rfl,fun h=>by cases h⟩) fun _=>AP (fun _=>AA ⟨rfl,fun h=>by cases h⟩) fun hb=>?_) fun x hx=>?_)
 ·have hlt:r.2.1<(List.length r.1:Int):=by
   have:¬ (List.length r.1:Int)≤r.2.1:=by simpa using hb
   omega
  have hlt':r.2.1<(L.length:Int):=by rw [h.l] at hlt;exact hlt
  refine AM ⟨h.a0,hlt⟩ (AP (fun _=>AA ⟨rfl,fun h=>by cases h⟩) fun _=>AM ⟨h.a0,hlt⟩ ?_)
  rw [Cs];exact AG (AA (AA ⟨rfl,fun _=>hlt'⟩))
 ·obtain⟨x0,x1,_⟩:=x;simp only at hx;obtain⟨e,hlt⟩:=hx;subst e;simp only;refine AP (fun _=>AA (Mv.rfl' h).bad) fun hb=>?_
  rw [We hL h,show x1.2.1+1 - 1=x1.2.1 by omega,Aq (x:=x1.2.1) (by have:=h.a0;omega) (by have:=h.a1;omega)];exact AM ⟨h.a0,by rw [h.l];exact hlt hb⟩ (AA ((Mv.rfl' h).next (hlt hb)))
theorem DY (r:RD) (x:NODE) (hx:x.2.2.2.length≤100000) (h:ROk L r):wp (Aw r x) fun y=>Mv L r y.2.1:=by
 unfold Aw;refine Ah (AE (Q:=fun z:Bool×RD×NODE×Unit=>z.2.1=r∧z.2.2.1=x∧(z.1=false→r.2.2.2.2.length<300)) (AP (fun _=>AA ⟨rfl,rfl,fun h=>by cases h⟩) fun _=>AA ⟨rfl,rfl,fun hb=>?_⟩) fun z hz=>?_)
 ·have:¬ (300:Int)≤(List.length r.2.2.2.2:Int):=by simpa using hb
  omega
 ·obtain⟨z0,z1,z2,_⟩:=z;simp only at hz;obtain⟨e1,e2,hlt⟩:=hz;subst e1 e2;simp only;refine AP (fun _=>AA (Mv.rfl' h).bad.toMv) fun hb=>AM ?_ (AA ⟨⟨h.l,h.a0,h.a1,?_,fun y hy=>?_⟩,Int.le_refl _,fun e=>e⟩)
  ·have:=hlt hb
   simp only [Cnd.holds,List.length_singleton];omega
  ·have:=hlt hb
   simp only [List.length_append,List.length_singleton];omega
  ·rcases List.mem_append.1 hy with hy | hy
   ·exact h.k y hy
   ·rw [List.mem_singleton.1 hy];exact hx
theorem bI (r:RD) (h:ROk L r):wp (Ej r) fun y=>Pg L r y.2.1:=by
 unfold Ej;refine AG (AE (BF hL r 1 _ h) fun y hy=>AP (fun _=>?_) fun _=>?_)
 ·exact AG (AE (Fu hL _ hy.1.ok) fun n hn=>AG (AE (DY hL _ _ (by simp) hn.ok) fun p hp=>AA (hy.1.pg (hn.mv hp))))
 ·exact AG (AE (Fu hL _ hy.1.ok) fun n hn=>AG (AE (DY hL _ _ (by simp) hn.ok) fun p hp=>AA (hy.1.pg (hn.mv hp))))
abbrev FV:=RD→Option (Int×RD×Unit)
abbrev FA:=RD→ByteArray→Option (Int×RD×Unit)
theorem Pm {r0 r0' r1 r1' r2 r2':FV} {r3 r3':FA} (r:RD) (h:ROk L r) (H1:∀ q,ROk L q→r.2.1≤q.2.1→wq (r1 q) (r1' q) fun y=>Pg L q y.2.1):wq (De r0 r1 r2 r3 r) (De r0' r1' r2' r3' r) fun y=>Pg L r y.2.1:=by
 unfold De;refine AJ (AF (H1 r h (Int.le_refl _)) fun y1 hy1=>AJ (AF (Ae (BF hL _ 3 _ hy1.ok)) fun y2 hy2=>BC (AF (Q:=fun x:Int×Int×RD×Unit=>Pg L r x.2.2.1) (Ab (fun _=>AI (hy1.mv hy2.1)) fun _=>AJ (AF (Ae (BF hL _ 3 _ hy2.1.ok)) fun y3 hy3=>BC (Ab (fun _=>AI (AI ((hy1.mv hy2.1).mv hy3.1))) fun _=>AI (AI ((hy1.mv hy2.1).mv hy3.1))))) fun x hx=>BC (AF (Q:=fun z:Int×RD×Unit=>Pg L r z.2.1) (Ab (fun _=>?_) fun _=>AI hx) fun z hz=>AI hz))))
 exact AJ (AF (H1 _ hx.ok hx.le) fun y6 hy6=>AJ (AF (Ae (DY hL _ _ (by simp) hy6.ok)) fun y7 hy7=>AI ((hx.mv hy6.toMv).mv hy7)))
theorem TZ {r0 r0' r1 r1' r2 r2':FV} {r3 r3':FA} (r:RD) (h:ROk L r) (H2:∀ q,ROk L q→r.2.1≤q.2.1→wq (r2 q) (r2' q) fun y=>Pg L q y.2.1):wq (Eb r0 r1 r2 r3 r) (Eb r0' r1' r2' r3' r) fun y=>Pg L r y.2.1:=by
 unfold Eb;refine AJ (AF (H2 r h (Int.le_refl _)) fun y1 hy1=>BC (AJ (AI (AF (Hs (fun x:FW=>Pg L r x.2.1) (fun x=>(L.length - x.2.1.2.1).toNat) (Q:=fun z:Int×RD×Unit=>Pg L r z.2.1) (fun x hx=>?_) hy1) fun z hz=>AI hz))))
 unfold Id;refine AJ (AF (Ae (BF hL _ 3 _ hx.ok)) fun y3 hy3=>Ab (fun hb=>?_) fun _=>Bv (AI (BK (hx.mv hy3.1))))
 have hlt:=(hy3.2 hb).2
 refine AJ (AF (H2 _ hy3.1.ok (Int.le_trans hx.le hy3.1.le)) fun y4 hy4=>AJ (AF (Ae (DY hL _ _ (by simp) hy4.ok)) fun y5 hy5=>Bv (AI (Bc ⟨(hx.mv hy3.1).mv (hy4.toMv.trans hy5),?_⟩))))
 have h4:=hy4.le
 have h5:=hy5.le
 have h6:=hy5.ok.a1
 simp only;omega
theorem Qq {r0 r0' r1 r1' r2 r2':FV} {r3 r3':FA} (r:RD) (nm:ByteArray) (h:ROk L r) (H0:∀ q,ROk L q→r.2.1≤q.2.1→wq (r0 q) (r0' q) fun y=>Pg L q y.2.1):wq (EA r0 r1 r2 r3 r nm) (EA r0' r1' r2' r3' r nm) fun y=>Mv L r y.2.1:=by
 unfold EA;refine AJ (AF (Ae (BF hL _ 3 _ h)) fun y hy=>BC (AF (Q:=fun x:ByteArray×List Int×RD×Unit=>Mv L r x.2.2.1∧x.2.1.length≤100000) (Ab (fun _=>?_) fun _=>AI ⟨hy.1,by simp⟩) fun x hx=>AJ (AF (Ae (DY hL _ _ hx.2 hx.1.ok)) fun p hp=>AI (hx.1.trans hp))))
 refine BC (AJ (AI (AF (Hs (fun x:FD=>Mv L r x.2.2.1∧((x.2.1.length:Int)≤x.2.2.1.2.1∨(x.2.2.1.2.2.1=true∧(x.2.1.length:Int)≤x.2.2.1.2.1+1))) (fun x=>2 * (L.length - x.2.2.1.2.1).toNat+(bif x.2.2.1.2.2.1 then 0 else 1)) (Q:=fun x:ByteArray×List Int×RD×Unit=>Mv L r x.2.2.1∧x.2.1.length≤100000) (fun x hx=>?_) ⟨hy.1,.inl (by have:=hy.1.ok.a0;simpa using this)⟩) fun z hz=>AI hz)))
 obtain⟨x0,x1,x2,_⟩:=x;simp only at hx;obtain⟨g1,g2⟩:=hx;have ga:=g1.ok.a1
 unfold Hv;simp only;refine Ab (fun hb=>?_) fun _=>Bv (AI (BK ⟨g1,by simp only;omega⟩))
 have hbad:x2.2.2.1=false:=by
  cases hc:x2.2.2.1
  ·rfl
  ·rw [hc] at hb;cases hb
 have gl:(x1.length:Int)≤x2.2.1:=by
  rcases g2 with g2 | ⟨g2,_⟩
  ·exact g2
  ·rw [hbad] at g2;cases g2
 refine AJ (AF (H0 _ g1.ok g1.le) fun y3 hy3=>Ap (by simp only [Cnd.holds,List.length_singleton];omega) (AJ (AF (Ae (BF hL _ 3 _ hy3.ok)) fun y4 hy4=>Ab (fun _=>Bv (AI (BK ⟨(g1.pg hy3).toMv.trans hy4.1,by simp only [List.length_append,List.length_singleton];omega⟩))) fun _=>AJ (AF (Ae (CP hL _ _ hy4.1.ok)) fun y5 hy5=>Bv (AI (Bc ⟨⟨((g1.pg hy3).toMv.trans hy4.1).trans hy5.toMv,?_⟩,?_⟩))))))
 ·have h1:=(hy3.mv (hy4.1.trans hy5.toMv)).pg
  have h2:=(hy3.mv (hy4.1.trans hy5.toMv)).le
  simp only [List.length_append,List.length_singleton];rcases h1 with h1 | h1
  ·exact .inr ⟨h1,by omega⟩
  ·exact .inl (by omega)
 ·have h1:=(hy3.mv (hy4.1.trans hy5.toMv)).pg
  have h2:=(hy3.mv (hy4.1.trans hy5.toMv)).le
  have h3:=hy5.ok.a1
  simp only [hbad,cond_false];rcases h1 with h1 | h1
  ·rw [h1,cond_true];omega
  ·cases y5.1.2.2.1<;>simp only [cond_true,cond_false]<;>omega
theorem Ip {Q:Int×RD×Unit→Prop} {b:Bool} {x x' y y':Option (Int×RD×Unit)} (h1:b=true→wq x x' Q) (h2:b=false→wq y y' Q) (hQ:∀ z:Int×RD×Unit,Q z→Q (z.1,z.2.1,())):wq (AB (bif b then x else y) fun z=>some (z.1,z.2.1,())) (AB (bif b then x' else y') fun z=>some (z.1,z.2.1,())) Q:=
 BC (AF (Ab h1 h2) fun z hz=>AI (hQ z hz))
theorem Rb {r0 r0' r1 r1' r2 r2':FV} {r3 r3':FA} (r:RD) (h:ROk L r) (H0:∀ q,ROk L q→r.2.1<q.2.1→wq (r0 q) (r0' q) fun y=>Pg L q y.2.1) (H2:∀ q,ROk L q→r.2.1<q.2.1→wq (r2 q) (r2' q) fun y=>Pg L q y.2.1)
 (H3:∀ q nm,ROk L q→r.2.1<q.2.1→wq (r3 q nm) (r3' q nm) fun y=>Mv L q y.2.1):wq (EC r0 r1 r2 r3 r) (EC r0' r1' r2' r3' r) fun y=>Pg L r y.2.1:=by
 unfold EC;refine BC (AF (Q:=fun x:Bool×RD×Unit=>x.2.1=r∧(x.1=false→r.2.1<L.length)) (Ab (fun _=>AI ⟨rfl,fun h=>by cases h⟩) fun _=>Ab (fun _=>AI ⟨rfl,fun h=>by cases h⟩) fun hb=>AI ⟨rfl,fun _=>?_⟩) fun x hx=>?_)
 ·have:¬ (List.length r.1:Int)≤r.2.1:=by simpa using hb
  rw [h.l] at this;omega
 obtain⟨x0,x1,_⟩:=x;simp only at hx;obtain⟨e,hlt⟩:=hx;subst e;simp only;refine Ab (fun _=>AI (Mv.rfl' h).bad) fun hb=>?_
 have hlt:=hlt hb
 have hi:(Cnd.idx x1.2.1 (List.length x1.1)).holds:=⟨h.a0,by rw [h.l];exact hlt⟩
 have fin:∀ z:Int×RD×Unit,Pg L x1 z.2.1→Pg L x1 ((z.1,z.2.1,()):Int×RD×Unit).2.1:=fun z hz=>hz
 refine Ap hi (BC (AF (Q:=fun z:Int×RD×Unit=>Pg L x1 z.2.1) (Ab (fun _=>?_) fun _=>?_) fun z hz=>AI (hz.deep _)))
 ·rw [We hL h,show x1.2.1+1 - 1=x1.2.1 by omega,Aq (x:=x1.2.1) (by have:=h.a0;omega) (by have:=h.a1;omega)];have hn:=((Mv.rfl' h).next hlt).deep (IntKind.wrap .i64 (x1.2.2.2.1+1))
  exact Ap hi (AJ (AF (Ae (DY hL _ _ (by simp) hn.ok)) fun y hy=>AI (hn.mv hy)))
 have m0:=(Mv.rfl' h).deep (IntKind.wrap .i64 (x1.2.2.2.1+1))
 have nx:∀ {a b:RD},Mv L x1 a→a.2.1<b.2.1→x1.2.1<b.2.1:=fun h1 h2=>by have:=h1.le;omega
 refine AJ (AF (Ae (BF hL _ 3 _ m0.ok)) fun y3 hy3=>Ip hL (fun hb=>?_) (fun _=>?_) fin)
 ·have p:=m0.pg (hy3.2 hb).1
  exact AJ (AF (Ae (Fu hL _ p.ok)) fun n hn=>AJ (AF (Ae (DY hL _ _ (by simp) hn.ok)) fun q hq=>AI ((p.mv hn.toMv).mv hq)))
 have m1:=m0.trans hy3.1
 refine AJ (AF (Ae (BF hL _ 3 _ m1.ok)) fun y6 hy6=>Ip hL (fun hb=>?_) (fun _=>?_) fin)
 ·have p:=m1.pg (hy6.2 hb).1
  exact AJ (AF (Ae (bI hL _ p.ok)) fun q hq=>AI (p.mv hq.toMv))
 have m2:=m1.trans hy6.1
 refine AJ (AF (Ae (BF hL _ 3 _ m2.ok)) fun y8 hy8=>Ip hL (fun hb=>?_) (fun _=>?_) fin)
 ·have p:=m2.pg (hy8.2 hb).1
  exact AJ (AF (H0 _ p.ok (nx m2 (hy8.2 hb).2)) fun v hv=>AJ (AF (Ae (CP hL _ _ hv.ok)) fun q hq=>AI ((p.mv hv.toMv).mv hq.toMv)))
 have m3:=m2.trans hy8.1
 refine AJ (AF (Ae (BF hL _ 1 _ m3.ok)) fun y11 hy11=>Ip hL (fun hb=>?_) (fun _=>?_) fin)
 ·have p:=m3.pg (hy11.2 hb).1
  exact AJ (AF (Ae (Fu hL _ p.ok)) fun n hn=>AJ (AF (Ae (DY hL _ _ (by simp) hn.ok)) fun q hq=>AI ((p.mv hn.toMv).mv hq)))
 have m4:=m3.trans hy11.1
 refine AJ (AF (Ae (BF hL _ 1 _ m4.ok)) fun y14 hy14=>Ip hL (fun hb=>?_) (fun _=>?_) fin)
 ·have p:=m4.pg (hy14.2 hb).1
  exact AJ (AF (Ae (DY hL _ _ (by simp) p.ok)) fun q hq=>AI (p.mv hq))
 have m5:=m4.trans hy14.1
 refine AJ (AF (Ae (BF hL _ 1 _ m5.ok)) fun y16 hy16=>Ip hL (fun hb=>?_) (fun _=>?_) fin)
 ·have p:=m5.pg (hy16.2 hb).1
  exact AJ (AF (H2 _ p.ok (nx m5 (hy16.2 hb).2)) fun v hv=>AJ (AF (Ae (DY hL _ _ (by simp) hv.ok)) fun q hq=>AI ((p.mv hv.toMv).mv hq)))
 have m6:=m5.trans hy16.1
 refine AJ (AF (Ae (Fu hL _ m6.ok)) fun n hn=>AJ (AF (Ae (BF hL _ 3 _ hn.ok)) fun y20 hy20=>Ip hL (fun hb=>?_) (fun _=>?_) fin))
 ·have p:=(m6.pg hn).mv hy20.1
  exact AJ (AF (H3 _ _ p.ok (nx (m6.trans hn.toMv) (hy20.2 hb).2)) fun q hq=>AI (p.mv hq))
 ·have p:=(m6.pg hn).mv hy20.1
  exact AJ (AF (Ae (DY hL _ _ (by simp) p.ok)) fun q hq=>AI (p.mv hq))
theorem bi:∀ k:Nat,(∀ n n',4 * k+2≤n→4 * k+2≤n'→∀ r,ROk L r→L.length - r.2.1≤k→wq ((AC n).2.2.1 r) ((AC n').2.2.1 r) fun y=>Pg L r y.2.1) ∧
 (∀ n n',4 * k+3≤n→4 * k+3≤n'→∀ r,ROk L r→L.length - r.2.1≤k→wq ((AC n).2.1 r) ((AC n').2.1 r) fun y=>Pg L r y.2.1) ∧
 (∀ n n',4 * k+4≤n→4 * k+4≤n'→∀ r,ROk L r→L.length - r.2.1≤k→wq ((AC n).1 r) ((AC n').1 r) fun y=>Pg L r y.2.1) ∧
 (∀ n n',4 * k+5≤n→4 * k+5≤n'→∀ r nm,ROk L r→L.length - r.2.1≤k→wq ((AC n).2.2.2.1 r nm) ((AC n').2.2.2.1 r nm) fun y=>Mv L r y.2.1):=by
 intro k
 induction k with
 | zero=>
  have hT:∀ n n',4 * 0+2≤n→4 * 0+2≤n'→∀ r,ROk L r→L.length - r.2.1≤(0:Nat)→wq ((AC n).2.2.1 r) ((AC n').2.2.1 r) fun y=>Pg L r y.2.1:=by
   intro n n' hn hn' r h hk;obtain⟨n,rfl⟩:∃ j,n=j+1:=⟨n - 1,by omega⟩
   obtain⟨n',rfl⟩:∃ j,n'=j+1:=⟨n' - 1,by omega⟩
   exact Rb hL (r1:=(AC n).2.1) (r1':=(AC n').2.1) r h (fun q hq hlt=>by have:=hq.a1;omega) (fun q hq hlt=>by have:=hq.a1;omega) (fun q nm hq hlt=>by have:=hq.a1;omega)
  have hS:∀ n n',4 * 0+3≤n→4 * 0+3≤n'→∀ r,ROk L r→L.length - r.2.1≤(0:Nat)→wq ((AC n).2.1 r) ((AC n').2.1 r) fun y=>Pg L r y.2.1:=by
   intro n n' hn hn' r h hk;obtain⟨n,rfl⟩:∃ j,n=j+1:=⟨n - 1,by omega⟩
   obtain⟨n',rfl⟩:∃ j,n'=j+1:=⟨n' - 1,by omega⟩
   exact TZ hL (r0:=(AC n).1) (r0':=(AC n').1) (r1:=(AC n).2.1) (r1':=(AC n').2.1) (r3:=(AC n).2.2.2.1) (r3':=(AC n').2.2.2.1) r h (fun q hq hle=>hT n n' (by omega) (by omega) q hq (by omega))
  have hV:∀ n n',4 * 0+4≤n→4 * 0+4≤n'→∀ r,ROk L r→L.length - r.2.1≤(0:Nat)→wq ((AC n).1 r) ((AC n').1 r) fun y=>Pg L r y.2.1:=by
   intro n n' hn hn' r h hk;obtain⟨n,rfl⟩:∃ j,n=j+1:=⟨n - 1,by omega⟩
   obtain⟨n',rfl⟩:∃ j,n'=j+1:=⟨n' - 1,by omega⟩
   exact Pm hL (r0:=(AC n).1) (r0':=(AC n').1) (r2:=(AC n).2.2.1) (r2':=(AC n').2.2.1) (r3:=(AC n).2.2.2.1) (r3':=(AC n').2.2.2.1) r h (fun q hq hle=>hS n n' (by omega) (by omega) q hq (by omega))
  refine⟨hT,hS,hV,fun n n' hn hn' r nm h hk=>?_⟩
  obtain⟨n,rfl⟩:∃ j,n=j+1:=⟨n - 1,by omega⟩
  obtain⟨n',rfl⟩:∃ j,n'=j+1:=⟨n' - 1,by omega⟩
  exact Qq hL (r1:=(AC n).2.1) (r1':=(AC n').2.1) (r2:=(AC n).2.2.1) (r2':=(AC n').2.2.1) (r3:=(AC n).2.2.2.1) (r3':=(AC n').2.2.2.1) r nm h (fun q hq hle=>hV n n' (by omega) (by omega) q hq (by omega))
 | succ k ih=>
  obtain⟨iT,iS,iV,iA⟩:=ih;have hT:∀ n n',4 * (k+1)+2≤n→4 * (k+1)+2≤n'→∀ r,ROk L r→L.length - r.2.1≤(k+1:Nat)→wq ((AC n).2.2.1 r) ((AC n').2.2.1 r) fun y=>Pg L r y.2.1:=by
   intro n n' hn hn' r h hk;obtain⟨n,rfl⟩:∃ j,n=j+1:=⟨n - 1,by omega⟩
   obtain⟨n',rfl⟩:∃ j,n'=j+1:=⟨n' - 1,by omega⟩
   exact Rb hL (r1:=(AC n).2.1) (r1':=(AC n').2.1) r h (fun q hq hlt=>iV n n' (by omega) (by omega) q hq (by omega)) (fun q hq hlt=>iT n n' (by omega) (by omega) q hq (by omega)) (fun q nm hq hlt=>iA n n' (by omega) (by omega) q nm hq (by omega))
  have hS:∀ n n',4 * (k+1)+3≤n→4 * (k+1)+3≤n'→∀ r,ROk L r→L.length - r.2.1≤(k+1:Nat)→wq ((AC n).2.1 r) ((AC n').2.1 r) fun y=>Pg L r y.2.1:=by
   intro n n' hn hn' r h hk;obtain⟨n,rfl⟩:∃ j,n=j+1:=⟨n - 1,by omega⟩
   obtain⟨n',rfl⟩:∃ j,n'=j+1:=⟨n' - 1,by omega⟩
   exact TZ hL (r0:=(AC n).1) (r0':=(AC n').1) (r1:=(AC n).2.1) (r1':=(AC n').2.1) (r3:=(AC n).2.2.2.1) (r3':=(AC n').2.2.2.1) r h (fun q hq hle=>hT n n' (by omega) (by omega) q hq (by omega))
  have hV:∀ n n',4 * (k+1)+4≤n→4 * (k+1)+4≤n'→∀ r,ROk L r→L.length - r.2.1≤(k+1:Nat)→wq ((AC n).1 r) ((AC n').1 r) fun y=>Pg L r y.2.1:=by
   intro n n' hn hn' r h hk;obtain⟨n,rfl⟩:∃ j,n=j+1:=⟨n - 1,by omega⟩
   obtain⟨n',rfl⟩:∃ j,n'=j+1:=⟨n' - 1,by omega⟩
   exact Pm hL (r0:=(AC n).1) (r0':=(AC n').1) (r2:=(AC n).2.2.1) (r2':=(AC n').2.2.1) (r3:=(AC n).2.2.2.1) (r3':=(AC n').2.2.2.1) r h (fun q hq hle=>hS n n' (by omega) (by omega) q hq (by omega))
  refine⟨hT,hS,hV,fun n n' hn hn' r nm h hk=>?_⟩
  obtain⟨n,rfl⟩:∃ j,n=j+1:=⟨n - 1,by omega⟩
  obtain⟨n',rfl⟩:∃ j,n'=j+1:=⟨n' - 1,by omega⟩
  exact Qq hL (r1:=(AC n).2.1) (r1':=(AC n').2.1) (r2:=(AC n).2.2.1) (r2':=(AC n').2.2.1) (r3:=(AC n).2.2.2.1) (r3':=(AC n').2.2.2.1) r nm h (fun q hq hle=>hV n n' (by omega) (by omega) q hq (by omega))
theorem LO (r:RD) (h:ROk L r):wp (Bt r) fun y=>Pg L r y.2.1:=by
 unfold Bt;exact JX (4 * 3000+4) fun n hn=>(bi hL 3000).2.2.1 n _ hn (Nat.le_refl _) r h (by have:=h.a0;omega)
end
def dd (u:Nat):ByteArray:=if u=0 then ⟨#[]⟩ else ⟨(Lib.decDigits u).toArray⟩
theorem Qt (a b:List UInt8):(⟨a.toArray⟩:ByteArray)++⟨b.toArray⟩=⟨(a++b).toArray⟩:=by
 apply ByteArray.ext
 simp
theorem Wo {d:Nat} (h:d<10):bts [((48+d:Nat):Int)]=⟨[UInt8.ofNat (48+d)].toArray⟩:=rfl
theorem au {u:Nat} (h:u≠0):dd u=dd (u / 10)++bts [((48+u % 10:Nat):Int)]:=by
 rw [Wo (Nat.mod_lt _ (by omega))];unfold dd;rw [if_neg h,Lib.decDigits];split
 ·rename_i h10;rw [if_pos (by omega),Nat.mod_eq_of_lt h10];apply ByteArray.ext;simp
 ·rename_i h10;rw [if_neg (by omega),Qt]
theorem bn {n:Nat} (h:n<256):IntKind.wrap .u8 (n:Int)=n:=by
 have e:(2:Int) ^ IntKind.u8.bits=256:=by decide
 simp only [IntKind.wrap,e,show IntKind.u8.signed=false from rfl,Bool.false_and,Bool.false_eq_true,if_false];omega
theorem Mt {d:Nat} (h:d<10):Gl (d:Int)=some (((48+d:Nat):Int),()):=by
 have e:(48:Int)+(d:Int)=((48+d:Nat):Int):=by omega
 simp only [Gl,show((d:Int)<10) by omega,decide_true,cond_true,e,Um (show 48+d<9223372036854775808 by omega),bn (show 48+d<256 by omega)]
theorem UK (x:Int):(bts [x]).size=1:=rfl
theorem fY {α:Type} {K:Option α}:(Cnd.nz (10:Int)).run K=K:=by
 simp only [Cnd.run];rw [if_neg (by decide)]
theorem ZR (neg:Bool):∀ (k:Nat) (n:Int) (out:ByteArray),n.natAbs<10 ^ k→-9223372036854775808≤n→n≤9223372036854775807→out.size+k≤1000→AK DI (n,neg,out,())=some (neg,dd n.natAbs++out,()):=by
 intro k
 induction k with
 | zero=>
  intro n out hn _ _ _;have h0:n=0:=by simp at hn;omega
  subst h0;rw [BA (r:=(neg,out,()))]
  ·have:dd (Int.natAbs 0)++out=out:=by
    apply ByteArray.ext;simp [dd]
   rw [this]
  ·simp [DI]
 | succ k ih=>
  intro n out hn h1 h2 hs
  by_cases h0:n=0
  ·subst h0;rw [BA (r:=(neg,out,()))]
   ·have:dd (Int.natAbs 0)++out=out:=by
     apply ByteArray.ext;simp [dd]
    rw [this]
   ·simp [DI]
  ·have hm:n.natAbs % 10<10:=Nat.mod_lt _ (by omega)
   have hq:(Int.tdiv n 10).natAbs=n.natAbs / 10:=by rw [Int.natAbs_tdiv];rfl
   have hqb:-9223372036854775808≤Int.tdiv n 10∧Int.tdiv n 10≤9223372036854775807:=by
    have:(Int.tdiv n 10).natAbs≤922337203685477580:=by rw [hq];omega
    omega
   have hw:IntKind.wrap .i64 (Int.tdiv n 10)=Int.tdiv n 10:=Aq hqb.1 (by omega)
   rw [BW (b':=(Int.tdiv n 10,neg,bts [((48+n.natAbs % 10:Nat):Int)]++out,())),ih _ _ (by rw [hq];rw [Nat.pow_succ] at hn;omega) hqb.1 hqb.2 (by rw [ByteArray.size_append,UK];omega),hq,au (u:=n.natAbs) (by omega),ByteArray.append_assoc];have hmod:(if Int.tmod n 10<0 then - Int.tmod n 10 else Int.tmod n 10)=((n.natAbs % 10:Nat):Int):=by
    have h3:(Int.tmod n 10).natAbs=n.natAbs % 10:=by rw [Int.natAbs_tmod];rfl
    split<;>omega
   have hle:∀ {α:Type} {K:Option α},(Cnd.le ((bts [((48+n.natAbs % 10:Nat):Int)]).size+out.size) Af).run K=K:=fun {α} {K}=>DB (by rw [UK];simp only [Af];omega)
   by_cases hneg:Int.tmod n 10<0
   ·rw [if_pos hneg] at hmod;have hw2:IntKind.wrap .i64 (0 - Int.tmod n 10)=((n.natAbs % 10:Nat):Int):=by
     rw [show(0:Int) - Int.tmod n 10=((n.natAbs % 10:Nat):Int) by omega];exact Um (by omega)
    simp only [DI,ne_eq,h0,not_false_eq_true,decide_true,cond_true,fY,hneg,hw2,AD,Mt hm,Option.bind_some,hle,hw,Option.map_some]
   ·rw [if_neg hneg] at hmod;simp only [DI,ne_eq,h0,not_false_eq_true,decide_true,cond_true,fY,hmod,show ¬ (((n.natAbs % 10:Nat):Int)<0) by omega,decide_false,cond_false,AD,Mt hm,Option.bind_some,hle,hw,Option.map_some]
def itb (n:Int):ByteArray:=⟨(Lib.itoa n).toArray⟩
theorem Zf {n:Int} (h0:-9223372036854775808≤n) (h1:n≤9223372036854775807):(itb n).size≤21:=by
 have:=Lib.itoa_length_le n h0 h1
 simpa [itb,ByteArray.size] using this
theorem Pd (n:Int) (h0:-9223372036854775808≤n) (h1:n≤9223372036854775807):IT n=some (itb n,()):=by
 simp only [IT,itb]
 by_cases hz:n=0
 ·subst hz;simp only [decide_true,cond_true];have:Lib.itoa 0=[48]:=by
   unfold Lib.itoa;rw [if_neg (by omega)];exact Lib.decDigits_one (by omega)
  rw [this];rfl
 ·have h3:=ZR (decide (n<0)) 20 n ⟨#[]⟩ (by
   have:(10:Nat) ^ 20=100000000000000000000:=by decide
   omega) h0 h1 (by decide)
  have h4:dd n.natAbs++⟨#[]⟩=(⟨(Lib.decDigits n.natAbs).toArray⟩:ByteArray):=by
   unfold dd;rw [if_neg (by omega)];apply ByteArray.ext;simp
  rw [h4] at h3;have hsz:(⟨(Lib.decDigits n.natAbs).toArray⟩:ByteArray).size≤21:=by
   have:=Lib.itoa_length_le n h0 h1
   unfold Lib.itoa at this;simp only [ByteArray.size,List.size_toArray];split at this
   ·simp at this;omega
   ·rename_i hn;rw [show n.natAbs=n.toNat by omega];omega
  simp only [hz,decide_false,cond_false,Option.bind_some,h3,AD,Lib.itoa]
  by_cases hn:n<0
  ·have e1:s___3973.size=1:=rfl
   simp only [hn,decide_true,cond_true,if_true];rw [DB (by simp only [Af];omega)];have e2:s___3973=⟨[(45:UInt8)].toArray⟩:=rfl
   rw [e2,Qt];rfl
  ·simp only [hn,decide_false,cond_false,if_false];rw [show n.natAbs=n.toNat by omega]
abbrev Made:=List ByteArray×(List ByteArray×(Int×(ByteArray×Bool)))
structure MOk (k:Nat) (m:Made):Prop where
 i:∀ s∈m.1,s.size≤30
 b:∀ s∈m.2.1,s.size≤30
 il:m.1.length≤k
 bl:m.2.1.length≤k
 n0:0≤m.2.2.1
 n1:m.2.2.1≤k
 t:m.2.2.2.1.size≤1000 * k
theorem MOk.mono {k k':Nat} {m:Made} (h:MOk k m) (hk:k≤k'):MOk k' m:=⟨h.i,h.b,by have:=h.il;omega,by have:=h.bl;omega,h.n0,by have:=h.n1;omega,by have:=h.t;omega⟩
theorem cle {a b:Nat} (h:a+b≤1000000000000):(Cnd.le (a+b) Af).holds:=by simp only [Cnd.holds,Af];omega
theorem Xe:s_0_5fec.size=1:=by decide
theorem WV:s_10_4a44.size=2:=by decide
theorem Xf:s_1_6b86.size=1:=by decide
theorem Xg:s_2_d473.size=1:=by decide
theorem Xh:s_3_4e07.size=1:=by decide
theorem Nn:s_500000000_ee3f.size=9:=by decide
theorem Xi:s_7_7902.size=1:=by decide
theorem aF:s___32eb.size=1:=by decide
theorem aG:s___36a9.size=1:=by decide
theorem aH:s___3973.size=1:=by decide
theorem Ou:s___6848.size=1:=by decide
theorem Ml:s____0__while__874d.size=12:=by decide
theorem Xj:s____0a07.size=2:=by decide
theorem Xk:s____0a2d.size=2:=by decide
theorem Rk:s____1___e636.size=6:=by decide
theorem Xl:s____73db.size=2:=by decide
theorem WW:s_____0a45.size=3:=by decide
theorem WX:s_____2591.size=3:=by decide
theorem WY:s_____4620.size=3:=by decide
theorem WZ:s_____7bac.size=3:=by decide
theorem UC:s______17ce.size=4:=by decide
theorem UD:s______737d.size=4:=by decide
theorem Wa:s_____fe90.size=3:=by decide
theorem Pi:s_____mut__b552.size=8:=by decide
theorem Ov:s____clone__9670.size=9:=by decide
theorem Xm:s____e220.size=2:=by decide
theorem Qm:s____new__f832.size=7:=by decide
theorem aI:s___ba5e.size=1:=by decide
theorem Ow:s___print___4de9.size=9:=by decide
theorem Xn:s_b_3e23.size=1:=by decide
theorem Ls:s_do_bump__mut__fbff.size=13:=by decide
theorem Pj:s_do_eat__d60f.size=7:=by decide
theorem Np:s_do_show___6204.size=9:=by decide
theorem Rl:s_else__8873.size=5:=by decide
theorem Xo:s_i_de7d.size=1:=by decide
theorem UE:s_if__9889.size=3:=by decide
theorem Rm:s_input_c96c.size=5:=by decide
theorem Ta:s_let__de0c.size=4:=by decide
theorem Xp:s_m_62c6.size=1:=by decide
theorem Rn:s_make__0b50.size=5:=by decide
theorem Tc:s_new__e703.size=4:=by decide
theorem Qn:s_print__5b23.size=6:=by decide
theorem Xq:s_r_4543.size=1:=by decide
theorem Td:s_sum__4072.size=4:=by decide
theorem Xr:s_w_50e7.size=1:=by decide
theorem szs:s_0_5fec.size=1∧s_10_4a44.size=2∧s_1_6b86.size=1∧s_2_d473.size=1∧s_3_4e07.size=1∧s_500000000_ee3f.size=9∧s_7_7902.size=1∧s___32eb.size=1∧s___36a9.size=1∧s___3973.size=1∧s___6848.size=1∧s____0__while__874d.size=12∧s____0a07.size=2∧s____0a2d.size=2∧s____1___e636.size=6∧s____73db.size=2∧s_____0a45.size=3∧s_____2591.size=3∧s_____4620.size=3∧s_____7bac.size=3∧s______17ce.size=4∧s______737d.size=4∧s_____fe90.size=3∧s_____mut__b552.size=8∧s____clone__9670.size=9∧s____e220.size=2∧s____new__f832.size=7∧s___ba5e.size=1∧s___print___4de9.size=9∧s_b_3e23.size=1∧s_do_bump__mut__fbff.size=13∧s_do_eat__d60f.size=7∧s_do_show___6204.size=9∧s_else__8873.size=5∧s_i_de7d.size=1∧s_if__9889.size=3∧s_input_c96c.size=5∧s_let__de0c.size=4∧s_m_62c6.size=1∧s_make__0b50.size=5∧s_new__e703.size=4∧s_print__5b23.size=6∧s_r_4543.size=1∧s_sum__4072.size=4∧s_w_50e7.size=1:=⟨Xe,WV,Xf,Xg,Xh,Nn,Xi,aF,aG,aH,Ou,Ml,Xj,Xk,Rk,Xl,WW,WX,WY,WZ,UC,UD,Wa,Pi,Ov,Xm,Qm,aI,Ow,Xn,Ls,Pj,Np,Rl,Xo,UE,Rm,Ta,Xp,Rn,Tc,Qn,Xq,Td,Xr⟩
theorem MR (m:Made) (l:List ByteArray) (c:Cur) (hl:l≠[]) (h:COk c):wp (CD m l c) fun r=>r.1∈l∧COk r.2.1:=by
 unfold CD;have hp:0<(l.length:Int):=by have:=List.length_pos_iff.2 hl;omega
 exact AG (AE (Br c _ h) fun y hy=>AM ⟨hy.1,hy.2.1 hp⟩ (AA ⟨Cm _ _ _ hy.1 (hy.2.1 hp),hy.2.2.2⟩))
theorem RU (m:Made) (c:Cur) (h:COk c):wp (Cn m c) fun r=>r.1.size≤30∧COk r.2.1:=by
 unfold Cn;refine AG (AE (Ub c _ (by simp) h) fun y hy=>AA ⟨?_,hy.2⟩)
 have h1:=hy.1
 simp only [List.mem_cons,List.not_mem_nil,or_false] at h1;rcases h1 with e | e | e | e | e | e | e<;>rw [e]<;>decide
theorem ND {D:Type} {l:List D} (h:(0:Int)<(l.length:Int)):l≠[]:=by
 intro e;rw [e] at h;simp at h
theorem CB {k:Nat} (m:Made) (c:Cur) (hm:MOk k m) (h:COk c):wp (An m c) fun r=>r.1.size≤40∧COk r.2.1:=by
 unfold An;refine AG (AE (Br c 5 h) fun y hy=>Ah (AE (Q:=fun x:Made×Int×Bool×Cur×Unit=>x.1=m∧COk x.2.2.2.1∧(x.2.2.1=true→m.1≠[])) (AP (fun _=>AA ⟨rfl,hy.2.2.2,fun hb=>ND (by simpa using hb)⟩) (fun _=>AA ⟨rfl,hy.2.2.2,fun hb=>by cases hb⟩)) fun x hx=>?_))
 obtain⟨x1,x2,x3,x4,_⟩:=x;obtain⟨rfl,hc,hi⟩:=hx;refine AP (fun hb=>AG (AE (MR _ _ _ (hi hb) hc) fun y hy=>AA ⟨by have:=hm.i _ hy.1;simp only;omega,hy.2⟩)) (fun _=>Ah (AE (Q:=fun x:Made×Bool×Cur×Unit=>x.1=x1∧COk x.2.2.1∧(x.2.1=true→x1.2.1≠[])) (AP (fun _=>AA ⟨rfl,hc,fun hb=>ND (by simpa using hb)⟩) (fun _=>AA ⟨rfl,hc,fun hb=>by cases hb⟩)) fun x hx=>?_))
 obtain⟨z1,z2,z3,_⟩:=x;obtain⟨rfl,hc,hi⟩:=hx;refine AP (fun hb=>AG (AE (MR _ _ _ (hi hb) hc) fun y hy=>?_)) (fun _=>AG (AE (RU _ _ hc) fun y hy=>AA ⟨by simp only;omega,hy.2⟩))
 have h1:=hm.b _ hy.1
 exact AM (cle (by simp only [Ou];omega)) (AA ⟨by simp only [AN,Ou];omega,hy.2⟩)
theorem Mb {k:Nat} (m:Made) (c:Cur) (hm:MOk k m) (h:COk c):wp (Bs m c) fun r=>r.1.size≤150∧COk r.2.1:=by
 unfold Bs;refine AG (AE (Br c 7 h) fun y hy=>?_)
 have h:=hy.2.2.2
 refine AP (fun _=>?_) fun _=>AP (fun _=>?_) fun _=>AP (fun _=>?_) fun _=>AP (fun _=>?_) fun _=>?_
 ·refine AG (AE (CB m _ hm h) fun a ha=>AM (cle (by first | omega | (simp only [AN,szs];omega))) (AG (AE (CB m _ hm ha.2) fun b hb=>AM (cle (by first | omega | (simp only [AN,szs];omega))) (AA ⟨by simp only [AN,szs];omega,hb.2⟩))))
 ·refine AG (AE (CB m _ hm h) fun a ha=>AM (cle (by first | omega | (simp only [AN,szs];omega))) (AG (AE (CB m _ hm ha.2) fun b hb=>AM (cle (by first | omega | (simp only [AN,szs];omega))) (AA ⟨by simp only [AN,szs];omega,hb.2⟩))))
 ·refine AG (AE (CB m _ hm h) fun a ha=>AM (cle (by first | omega | (simp only [AN,szs];omega))) (AM (cle (by first | omega | (simp only [AN,szs];omega))) (AG (AE (CB m _ hm ha.2) fun b hb=>AM (cle (by first | omega | (simp only [AN,szs];omega))) (AM (cle (by first | omega | (simp only [AN,szs];omega))) (AG (AE (CB m _ hm hb.2) fun d hd=>AM (cle (by first | omega | (simp only [AN,szs];omega))) (AA ⟨by simp only [AN,szs];omega,hd.2⟩))))))))
 ·refine AG (AE (CB m _ hm h) fun a ha=>AM (cle (by first | omega | (simp only [AN,szs];omega))) (AM (cle (by first | omega | (simp only [AN,szs];omega))) (AG (AE (CB m _ hm ha.2) fun b hb=>AM (cle (by first | omega | (simp only [AN,szs];omega))) (AM (cle (by first | omega | (simp only [AN,szs];omega))) (AA ⟨by simp only [AN,szs];omega,hb.2⟩))))))
 ·refine Hi (AE (Q:=fun s:(Made×Cur×Unit) ⊕ (ByteArray×Cur×Unit)=>(∀ b,s=.inl b→b.1=m∧COk b.2.1)∧∀ r,s=.inr r→r.1.size≤150∧COk r.2.1) (AP (fun _=>?_) fun _=>Aj (AA (Bc ⟨rfl,h⟩))) fun s hs=>⟨fun b hb=>?_,hs.2⟩)
  ·exact AG (AE (Iu _ 3 h) fun y hy=>AP (fun _=>Aj (AA (BK ⟨by simp only [AN,szs];omega,hy⟩))) fun _=>Aj (AA (Bc ⟨rfl,hy⟩)))
  ·obtain⟨e,hc⟩:=hs.1 b hb;rw [e];exact AG (AE (CB m _ hm hc) fun y hy=>AA ⟨by simp only;omega,hy.2⟩)
theorem Hc {k:Nat} (m:Made) (s:ByteArray) (c:Cur) (hk:k≤1000000) (hs:s.size≤5) (hm:MOk k m) (h:COk c):wp (BX m s c) fun r=>r.1.size≤30∧r.2.1=(m.1,(m.2.1,(m.2.2.1+1,m.2.2.2)))∧COk r.2.2.1:=by
 unfold BX;have h0:=hm.n0
 have h1:=hm.n1
 rw [Aq (x:=m.2.2.1+1) (by omega) (by omega),Pd _ (by omega) (by omega)];have:=Zf (n:=m.2.2.1+1) (by omega) (by omega)
 exact AG (AA (AM (cle (by simp only;omega)) (AA ⟨by simp only [AN];omega,rfl,h⟩)))
theorem Qa {k:Nat} (m:Made) (s:ByteArray) (c:Cur) (hk:k≤2000000) (hm:MOk k m) (h:COk c):wp (Ce m s c) fun r=>(∃ bs,r.1=(m.1,(bs,m.2.2))∧(∀ s∈bs,s.size≤30)∧bs.length≤m.2.1.length)∧COk r.2.1:=by
 unfold Ce;have hbl:=hm.bl
 refine Ah (AG (AA ?_))
 refine AE (wp_loop (fun x:FC=>(∀ s∈x.2.2.1,s.size≤30)∧x.2.2.1.length≤x.2.2.2.1.toNat∧0≤x.2.2.2.1∧x.2.2.2.1≤m.2.1.length∧x.2.2.2.2.1=m∧COk x.2.2.2.2.2.1) (fun x=>m.2.1.length - x.2.2.2.1.toNat)
  (Q:=fun r:Int×List ByteArray×Made×Cur×Unit=>(∀ s∈r.2.1,s.size≤30)∧r.2.1.length≤m.2.1.length∧r.2.2.1=m∧COk r.2.2.2.1) (fun x hx=>?_) ⟨by simp,by simp,by simp,by simp,rfl,h⟩) (fun r hr=>AA ⟨⟨r.2.1,by rw [hr.2.2.1],hr.1,hr.2.1⟩,hr.2.2.2⟩)
 obtain⟨x0,x1,x2,x3,x4,x5,_⟩:=x;simp only at hx;obtain⟨g1,g2,g3,g4,g5,g6⟩:=hx;subst g5;unfold Hu;refine AP (fun hb=>?_) (fun hb=>Aj (AA (BK ⟨g1,by simp only;omega,rfl,g6⟩)))
 have hlt:x3<(x4.2.1.length:Int):=by simpa using hb
 have e:IntKind.wrap .i64 (x3+1)=x3+1:=Aq (by omega) (by omega)
 refine Ah (AE (Q:=fun z:Int×ByteArray×List ByteArray×Int×Bool×Made×Cur×Unit=>z.2.2.1=x2∧z.2.2.2.1=x3∧z.2.2.2.2.2.1=x4∧COk z.2.2.2.2.2.2.1) (AM ⟨g3,hlt⟩ (AP (fun _=>AA ⟨rfl,rfl,rfl,g6⟩) fun _=>AA ⟨rfl,rfl,rfl,g6⟩)) fun z hz=>?_)
 obtain⟨z0,z1,z2,z3,z4,z5,z6,_⟩:=z;simp only at hz;obtain⟨q1,q2,q3,g7⟩:=hz;subst q1 q2 q3;refine Ah (AE (Q:=fun u:Int×ByteArray×List ByteArray×Int×Made×Cur×Unit=>(∀ s∈u.2.2.1,s.size≤30)∧u.2.2.1.length≤z3.toNat+1∧u.2.2.2.1=z3∧u.2.2.2.2.1=z5∧COk u.2.2.2.2.2.1) (AP (fun _=>AM ⟨g3,hlt⟩ (AM ?_ (AA ⟨fun s hs=>?_,by simp;omega,rfl,rfl,g7⟩))) fun _=>AA ⟨g1,by simp only;omega,rfl,rfl,g7⟩) fun u hu=>?_)
 ·simp only [Cnd.holds,List.length_singleton];omega
 ·rcases List.mem_append.1 hs with hs | hs
  ·exact g1 s hs
  ·rw [List.mem_singleton.1 hs];exact hm.b _ (Cm _ _ _ g3 hlt)
 ·obtain⟨u0,u1,u2,u3,u4,u5,_⟩:=u;simp only at hu;obtain⟨k1,k2,k3,k4,k5⟩:=hu;subst k3 k4;simp only;rw [e];exact Aj (AA (Bc ⟨⟨k1,by simp only;omega,by simp only;omega,by simp only;omega,rfl,k5⟩,by simp only;omega⟩))
def RM (k:Nat) (r:Made×Cur×Unit):Prop:=MOk k r.1∧COk r.2.1
theorem Fr {k:Nat} {b:Bool} {x y:Option (Made×Cur×Unit)} (h1:b=true→wp x (RM k)) (h2:b=false→wp y (RM k)):wp (AB (bif b then x else y) fun z=>some (z.1,z.2.1,())) (RM k):=
 Ah (AE (AP h1 h2) fun z hz=>AA hz)
theorem MOk.mk' {k:Nat} {i bs:List ByteArray} {n:Int} {t:ByteArray} {w:Bool} (h1:∀ s∈i,s.size≤30) (h2:∀ s∈bs,s.size≤30) (h3:i.length≤k) (h4:bs.length≤k) (h5:0≤n) (h6:n≤k) (h7:t.size≤1000 * k):MOk k (i,(bs,(n,(t,w)))):=⟨h1,h2,h3,h4,h5,h6,h7⟩
theorem MOk.txt {k:Nat} {m:Made} (hm:MOk k m) {n:Int} {t:ByteArray} {w:Bool} (h5:0≤n) (h6:n≤(k:Int)+1) (h7:t.size≤1000 * k+1000):MOk (k+1) (m.1,(m.2.1,(n,(t,w)))):=.mk' hm.i hm.b (by have:=hm.il;omega) (by have:=hm.bl;omega) h5 (by omega) (by omega)
theorem MOk.fr {k:Nat} {m:Made} (hm:MOk k m) (h5:0≤m.2.2.1):MOk (k+1) (m.1,(m.2.1,(m.2.2.1+1,m.2.2.2))):=⟨hm.i,hm.b,by have:=hm.il;simp only;omega,by have:=hm.bl;simp only;omega,by simp only;omega,by have:=hm.n1;simp only;omega,by have:=hm.t;simp only;omega⟩
theorem MQ {l:List ByteArray} {x:ByteArray} (h:∀ s∈l,s.size≤30) (hx:x.size≤30):∀ s∈([]:List ByteArray)++l++[x],s.size≤30:=fun s hs=>by
 simp only [List.nil_append] at hs;rcases List.mem_append.1 hs with hs | hs
 ·exact h s hs
 ·rw [List.mem_singleton.1 hs];exact hx
theorem Zk {k:Nat} (m:Made) (g:Bool) (c:Cur) (hk:k≤1000000) (hm:MOk k m) (hb:m.2.1≠[]) (h:COk c):wp (EZ m g c) (RM (k+1)):=by
 unfold EZ;have ht:=hm.t
 have hn0:=hm.n0
 have hn1:=hm.n1
 have hbl:=hm.bl
 refine AG (AE (MR m m.2.1 c hb h) fun b hb=>AG (AE (Br _ 9 hb.2) fun y hy=>?_))
 have hbs:=hm.b _ hb.1
 have h:=hy.2.2.2
 refine Fr (fun _=>?_) fun _=>Fr (fun _=>?_) fun _=>Fr (fun _=>?_) fun _=>Fr (fun _=>?_) fun _=>Fr (fun _=>?_) fun _=>Fr (fun _=>?_) fun _=>Fr (fun _=>?_) fun _=>Fr (fun _=>?_) fun _=>?_
 ·refine AG (AE (Hc _ s_r_4543 _ hk (by simp only [AN,szs];omega) hm h) fun f hf=>?_)
  obtain⟨fn,fm,fc,_⟩:=f;simp only at hf;obtain⟨f1,f2,f3⟩:=hf;subst f2;simp only
  repeat refine AM (cle (by first | omega | (simp only [AN,szs];omega))) ?_
  exact AA ⟨(hm.txt (by omega) (by omega) (by simp only [AN,szs];omega)),f3⟩
 ·refine AG (AE (Hc _ s_m_62c6 _ hk (by simp only [AN,szs];omega) hm h) fun f hf=>?_)
  obtain⟨fn,fm,fc,_⟩:=f;simp only at hf;obtain⟨f1,f2,f3⟩:=hf;subst f2;simp only
  repeat refine AM (cle (by first | omega | (simp only [AN,szs];omega))) ?_
  refine AG (AE (CB _ _ (hm.fr hn0) f3) fun a ha=>?_)
  repeat refine AM (cle (by first | omega | (simp only [AN,szs];omega))) ?_
  exact AA ⟨(hm.txt (by omega) (by omega) (by simp only [AN,szs];omega)),ha.2⟩
 ·repeat refine AM (cle (by first | omega | (simp only [AN,szs];omega))) ?_
  exact AA ⟨(hm.txt (by omega) (by omega) (by simp only [AN,szs];omega)),h⟩
 ·repeat refine AM (cle (by first | omega | (simp only [AN,szs];omega))) ?_
  refine AG (AE (RU _ _ h) fun a ha=>?_)
  repeat refine AM (cle (by first | omega | (simp only [AN,szs];omega))) ?_
  exact AA ⟨(hm.txt (by omega) (by omega) (by simp only [AN,szs];omega)),ha.2⟩
 ·refine AG (AE (Hc _ s_b_3e23 _ hk (by simp only [AN,szs];omega) hm h) fun f hf=>?_)
  obtain⟨fn,fm,fc,_⟩:=f;simp only at hf;obtain⟨f1,f2,f3⟩:=hf;subst f2;simp only
  repeat refine AM (cle (by first | omega | (simp only [AN,szs];omega))) ?_
  refine AG (AE (Iu _ 3 f3) fun o ho=>Ah (AE (Q:=fun x:Int×ByteArray×Made×Cur×Unit=>MOk (k+1) x.2.2.1∧x.2.2.1.2.1.length≤k∧x.2.1=fn∧COk x.2.2.2.1) (AP (fun _=>?_) fun _=>AA ⟨(hm.txt (by omega) (by omega) (by simp only [AN,szs];omega)),by simp only;omega,rfl,ho⟩) fun x hx=>?_))
  ·refine AG (AE (Qa (k:=k+1) _ _ _ (by omega) (hm.txt (by omega) (by omega) (by simp only [AN,szs];omega)) ho) fun z hz=>?_)
   obtain⟨⟨bs,z1,z2,z3⟩,z4⟩:=hz;simp only at z1 z3;rw [z1];exact AA ⟨.mk' hm.i z2 (by have:=hm.il;omega) (by omega) (by omega) (by omega) (by simp only [AN,szs];omega),by simp only;omega,rfl,z4⟩
  ·obtain⟨x1,x2,x3,x4⟩:=hx;have e3:x.2.1.size≤30:=by rw [x3];exact f1
   refine AM (by simp only [Cnd.holds,List.length_nil];omega) (AM (by simp only [Cnd.holds,List.length_append,List.length_nil,List.length_singleton];omega) (AA ⟨.mk' x1.i (MQ x1.b e3) x1.il (by simp only [List.length_append,List.length_nil,List.length_singleton];omega) x1.n0 x1.n1 x1.t,x4⟩))
 ·repeat refine AM (cle (by first | omega | (simp only [AN,szs];omega))) ?_
  refine AG (AE (Mb m _ hm h) fun a ha=>?_)
  repeat refine AM (cle (by first | omega | (simp only [AN,szs];omega))) ?_
  exact AA ⟨(hm.txt (by omega) (by omega) (by simp only [AN,szs];omega)),ha.2⟩
 ·repeat refine AM (cle (by first | omega | (simp only [AN,szs];omega))) ?_
  repeat refine AM (cle (by first | omega | (simp only [AN,szs];omega))) ?_
  refine AG (AE (CB m _ hm h) fun a ha=>?_)
  repeat refine AM (cle (by first | omega | (simp only [AN,szs];omega))) ?_
  exact AA ⟨(hm.txt (by omega) (by omega) (by simp only [AN,szs];omega)),ha.2⟩
 ·refine Fr (fun _=>?_) fun _=>AA ⟨hm.mono (by omega),h⟩
  repeat refine AM (cle (by first | omega | (simp only [AN,szs];omega))) ?_
  refine AG (AE (Qa (k:=k+1) _ _ _ (by omega) (hm.txt (by omega) (by omega) (by simp only [AN,szs];omega)) h) fun z hz=>?_)
  obtain⟨⟨bs,z1,z2,z3⟩,z4⟩:=hz;simp only at z1 z3;rw [z1];exact AA ⟨.mk' hm.i z2 (by have:=hm.il;omega) (by omega) (by omega) (by omega) (by simp only [AN,szs];omega),z4⟩
 ·refine Fr (fun _=>?_) fun _=>AA ⟨hm.mono (by omega),h⟩
  refine AG (AE (Hc _ s_b_3e23 _ hk (by simp only [AN,szs];omega) hm h) fun f hf=>?_)
  obtain⟨fn,fm,fc,_⟩:=f;simp only at hf;obtain⟨f1,f2,f3⟩:=hf;subst f2;simp only
  repeat refine AM (cle (by first | omega | (simp only [AN,szs];omega))) ?_
  refine AG (AE (Qa (k:=k+1) _ _ _ (by omega) (hm.txt (by omega) (by omega) (by simp only [AN,szs];omega)) f3) fun z hz=>?_)
  obtain⟨⟨bs,z1,z2,z3⟩,z4⟩:=hz;simp only at z1 z3;rw [z1];refine AM (by simp only [Cnd.holds,List.length_nil];omega) (AM (by simp only [Cnd.holds,List.length_append,List.length_nil,List.length_singleton];omega) (AA ⟨.mk' hm.i (MQ z2 f1) (by have:=hm.il;simp only;omega) (by simp only [List.length_append,List.length_nil,List.length_singleton];omega) (by omega) (by omega) (by simp only [AN,szs];omega),z4⟩))
set_option maxRecDepth 100000
theorem XM {D:Type} {l:List D} (h:(decide ((List.length l:Int)=(0:Int)))=false):l≠[]:=by
 intro e;rw [e] at h;simp at h
theorem KH {k:Nat} {b:Bool} {x x' y y':Option (Made×Cur×Unit)} (h1:b=true→wq x x' (RM k)) (h2:b=false→wq y y' (RM k)):wq (AB (bif b then x else y) fun z=>some (z.1,z.2.1,())) (AB (bif b then x' else y') fun z=>some (z.1,z.2.1,())) (RM k):=
 BC (AF (Ab h1 h2) fun z hz=>AI hz)
theorem Ra {r0 r0':Made→Int→Bool→Cur→Option (Made×Cur×Unit)} {r1 r1':Made→Int→ByteArray→Cur→Option (Made×Cur×Unit)} {D:Nat} (deep:Int) (H:0<deep→∀ k m last c,k+D≤1000000→MOk k m→last.size≤100→COk c→wq (r1 m deep last c) (r1' m deep last c) (RM (k+D)))
 {k:Nat} (m:Made) (g:Bool) (c:Cur) (hk:k+2 * D+2≤1000000) (hm:MOk k m) (h:COk c):wq (Dz r0 r1 m deep g c) (Dz r0' r1' m deep g c) (RM (k+2 * D+2)):=by
 unfold Dz;have ht:=hm.t
 have hn0:=hm.n0
 have hn1:=hm.n1
 have hbl:=hm.bl
 have hil:=hm.il
 have fin:∀ r:Made×Cur×Unit,RM (k+1) r→RM (k+2 * D+2) r:=fun r hr=>⟨hr.1.mono (by omega),hr.2⟩
 refine AJ (AF (Ae (Br c 14 h)) fun y hy=>?_)
 have h:=hy.2.2.2
 refine BC (AF (Q:=fun x:Int×Int×Bool×Int×Bool×Made×Cur×Unit=>x.2.1=deep∧x.2.2.2.2.2.1=m∧COk x.2.2.2.2.2.2.1∧(x.2.2.2.2.1=false→m.1≠[])) (Ab (fun _=>AI ⟨rfl,rfl,h,fun e=>by cases e⟩) fun _=>AI ⟨rfl,rfl,h,fun e=>XM e⟩) fun x hx=>?_)
 obtain⟨x0,x1,x2,x3,x4,x5,x6,_⟩:=x;simp only at hx;obtain⟨e1,e2,h,hi⟩:=hx;subst e1 e2;simp only;clear hy
 refine KH (fun _=>AF ?_ fin) fun hf1=>?_
 ·refine AJ (AF (Ae (Mb _ _ hm h)) fun v hv=>?_)
  have h:=hv.2
  refine AJ (AF (Ae (Hc _ s_i_de7d _ (by omega) (by simp only [AN,szs];omega) hm h)) fun f hf=>?_)
  obtain⟨fn,fm,fc,_⟩:=f;simp only at hf;obtain⟨f1,f2,f3⟩:=hf;subst f2;simp only
  repeat refine Ap (cle (by first | omega | (simp only [AN,szs];omega))) ?_
  refine Ap (by simp only [Cnd.holds,List.length_nil];omega) (Ap (by simp only [Cnd.holds,List.length_append,List.length_nil,List.length_singleton];omega) (AI ⟨.mk' (MQ hm.i f1) hm.b (by simp only [List.length_append,List.length_nil,List.length_singleton];omega) (by first | omega | (simp only;omega)) (by omega) (by omega) (by simp only [AN,szs];omega),f3⟩))
 have hne1:=hi hf1
 refine BC (AF (Q:=fun x:Int×Int×Bool×Int×Bool×Made×Cur×Unit=>x.2.1=x1∧x.2.2.2.2.2.1=x5∧COk x.2.2.2.2.2.2.1∧(x.2.2.2.2.1=false→x5.2.1≠[])) (Ab (fun _=>AI ⟨rfl,rfl,h,fun e=>by cases e⟩) fun _=>AI ⟨rfl,rfl,h,fun e=>XM e⟩) fun x hx=>?_)
 obtain⟨z0,z1,z2,z3,z4,z5,z6,_⟩:=x;simp only at hx;obtain⟨e1,e2,h,hi⟩:=hx;subst e1 e2;simp only;refine KH (fun _=>AF ?_ fin) fun hf2=>?_
 ·refine AJ (AF (Ae (CB _ _ hm h)) fun v hv=>?_)
  repeat refine Ap (cle (by first | omega | (simp only [AN,szs];omega))) ?_
  refine AJ (AF (Ae (Iu _ 3 hv.2)) fun o ho=>BC (AF (Q:=fun x:Int×ByteArray×Made×Cur×Unit=>x.2.1.size≤60∧x.2.2.1=z5∧COk x.2.2.2.1) (Ab (fun _=>AJ (AF (Ae (CB _ _ hm ho)) fun v2 hv2=>?_)) fun _=>AI ⟨by simp only [AN,szs];omega,rfl,ho⟩) fun x hx=>?_))
  ·repeat refine Ap (cle (by first | omega | (simp only [AN,szs];omega))) ?_
   exact AI ⟨by simp only [AN,szs];omega,rfl,hv2.2⟩
  obtain⟨w0,w1,w2,w3,_⟩:=x;simp only at hx;obtain⟨hw,e2,h⟩:=hx;subst e2;simp only;refine AJ (AF (Ae (Hc _ s_b_3e23 _ (by omega) (by simp only [AN,szs];omega) hm h)) fun f hf=>?_)
  obtain⟨fn,fm,fc,_⟩:=f;simp only at hf;obtain⟨f1,f2,f3⟩:=hf;subst f2;simp only
  repeat refine Ap (cle (by first | omega | (simp only [AN,szs];omega))) ?_
  refine Ap (by simp only [Cnd.holds,List.length_nil];omega) (Ap (by simp only [Cnd.holds,List.length_append,List.length_nil,List.length_singleton];omega) (AI ⟨.mk' hm.i (MQ hm.b f1) (by first | omega | (simp only;omega)) (by simp only [List.length_append,List.length_nil,List.length_singleton];omega) (by omega) (by omega) (by simp only [AN,szs];omega),f3⟩))
 have hne2:=hi hf2
 refine KH (fun _=>AF ?_ fin) fun _=>?_
 ·repeat refine Ap (cle (by first | omega | (simp only [AN,szs];omega))) ?_
  refine AJ (AF (Ae (Mb _ _ hm h)) fun v hv=>?_)
  repeat refine Ap (cle (by first | omega | (simp only [AN,szs];omega))) ?_
  exact AI ⟨(hm.txt (by omega) (by omega) (by simp only [AN,szs];omega)),hv.2⟩
 refine KH (fun _=>AF ?_ fin) fun _=>?_
 ·refine AJ (AF (Ae (MR _ _ _ hne1 h)) fun v hv=>?_)
  have hvs:=hm.i _ hv.1
  repeat refine Ap (cle (by first | omega | (simp only [AN,szs];omega))) ?_
  refine AJ (AF (Ae (Mb _ _ hm hv.2)) fun v2 hv2=>?_)
  repeat refine Ap (cle (by first | omega | (simp only [AN,szs];omega))) ?_
  exact AI ⟨(hm.txt (by omega) (by omega) (by simp only [AN,szs];omega)),hv2.2⟩
 refine BC (AF (Q:=fun x:Int×Int×Bool×Int×Bool×Made×Cur×Unit=>x.2.1=z1∧x.2.2.2.2.2.1=z5∧COk x.2.2.2.2.2.2.1∧(x.2.2.2.2.1=true→0<z1)) (Ab (fun _=>AI ⟨rfl,rfl,h,fun e=>by simpa using e⟩) fun _=>AI ⟨rfl,rfl,h,fun e=>by cases e⟩) fun x hx=>?_)
 obtain⟨u0,u1,u2,u3,u4,u5,u6,_⟩:=x;simp only at hx;obtain⟨e1,e2,h,hi3⟩:=hx;subst e1 e2;simp only;refine KH (fun hd=>?_) fun _=>?_
 ·repeat refine Ap (cle (by first | omega | (simp only [AN,szs];omega))) ?_
  refine AJ (AF (Ae (CB _ _ hm h)) fun v hv=>?_)
  repeat refine Ap (cle (by first | omega | (simp only [AN,szs];omega))) ?_
  refine AJ (AF (Ae (CB _ _ hm hv.2)) fun v2 hv2=>?_)
  repeat refine Ap (cle (by first | omega | (simp only [AN,szs];omega))) ?_
  refine AJ (AF (H (hi3 hd) (k+1) _ _ _ (by omega) (hm.txt (by omega) (by omega) (by simp only [AN,szs];omega)) (by decide) hv2.2) fun q hq=>?_)
  have ht2:=hq.1.t
  have hn2:=hq.1.n0
  have hn3:=hq.1.n1
  repeat refine Ap (cle (by first | omega | (simp only [AN,szs];omega))) ?_
  refine AJ (AF (H (hi3 hd) (k+1+D+1) _ _ _ (by omega) (hq.1.txt (by omega) (by omega) (by simp only [AN,szs];omega)) (by decide) hq.2) fun q2 hq2=>AI ⟨hq2.1.mono (by omega),hq2.2⟩)
 refine BC (AF (Q:=fun x:Int×Int×Bool×Bool×Made×Cur×Unit=>x.2.1=u1∧x.2.2.2.2.1=u5∧COk x.2.2.2.2.2.1∧(x.2.2.2.1=true→0<u1)) (Ab (fun _=>AI ⟨rfl,rfl,h,fun e=>by simpa using e⟩) fun _=>AI ⟨rfl,rfl,h,fun e=>by cases e⟩) fun x hx=>?_)
 obtain⟨q0,q1,q2,q3,q4,q5,_⟩:=x;simp only at hx;obtain⟨e1,e2,h,hi4⟩:=hx;subst e1 e2;simp only;refine KH (fun hd=>?_) fun _=>?_
 ·refine AJ (AF (Ae (Hc _ s_w_50e7 _ (by omega) (by simp only [AN,szs];omega) hm h)) fun f hf=>?_)
  obtain⟨fn,fm,fc,_⟩:=f;simp only at hf;obtain⟨f1,f2,f3⟩:=hf;subst f2;simp only
  repeat refine Ap (cle (by first | omega | (simp only [AN,szs];omega))) ?_
  refine AJ (AF (Ae (Ub _ _ (by simp) f3)) fun v hv=>?_)
  have hvs:v.1.size≤1:=by
   have h1:=hv.1
   simp only [List.mem_cons,List.not_mem_nil,or_false] at h1;rcases h1 with e | e | e | e<;>rw [e]<;>decide
  repeat refine Ap (cle (by first | omega | (simp only [AN,szs];omega))) ?_
  exact AJ (AF (H (hi4 hd) (k+1) _ _ _ (by omega) (hm.txt (by omega) (by omega) (by simp only [AN,szs];omega)) (by simp only [AN,szs];omega) hv.2) fun q hq=>AI ⟨hq.1.mono (by omega),hq.2⟩)
 ·exact AJ (AF (Ae (Zk _ _ _ (by omega) hm hne2 h)) fun q hq=>AI (fin _ hq))
theorem Tu {r0 r0':Made→Int→Bool→Cur→Option (Made×Cur×Unit)} {r1 r1':Made→Int→ByteArray→Cur→Option (Made×Cur×Unit)} {A:Nat} (deep:Int) (hd0:0<deep) (hd1:deep≤1000) (H:∀ k m c,k+A≤1000000→MOk k m→COk c→wq (r0 m (deep - 1) false c) (r0' m (deep - 1) false c) (RM (k+A)))
 {k:Nat} (m:Made) (last:ByteArray) (c:Cur) (hk:k+3 * A+2≤1000000) (hm:MOk k m) (hl:last.size≤100) (h:COk c):wq (DL r0 r1 m deep last c) (DL r0' r1' m deep last c) (RM (k+3 * A+2)):=by
 unfold DL;have ht:=hm.t
 have hn0:=hm.n0
 have hn1:=hm.n1
 have hbl:=hm.bl
 have hil:=hm.il
 refine Ap (by simp only [Cnd.holds,List.length_nil];omega) (Ap (by simp only [Cnd.holds,List.length_nil];omega) ?_)
 repeat refine Ap (cle (by first | omega | (simp only [AN,szs];omega))) ?_
 refine BC (AJ (AI ?_))
 simp only [List.nil_append];refine AF (Hs (fun x:EE=>x.2.1=deep∧x.2.2.1=last∧x.2.2.2.1=m.1∧x.2.2.2.2.1=m.2.1∧0≤x.2.2.2.2.2.1∧x.2.2.2.2.2.1≤3∧MOk (k+1+x.2.2.2.2.2.1.toNat * A) x.2.2.2.2.2.2.1∧COk x.2.2.2.2.2.2.2.1) (fun x=>3 - x.2.2.2.2.2.1.toNat)
  (Q:=fun r:Int×ByteArray×List ByteArray×List ByteArray×Made×Cur×Unit=>r.2.1=last∧r.2.2.1=m.1∧r.2.2.2.1=m.2.1∧MOk (k+1+3 * A) r.2.2.2.2.1∧COk r.2.2.2.2.2.1) (fun x hx=>?_) ⟨rfl,rfl,rfl,rfl,by simp,by simp,by
   simp only [Int.toNat_zero,Nat.zero_mul,Nat.add_zero];exact hm.txt (by omega) (by omega) (by simp only [AN,szs];omega),h⟩) (fun r hr=>?_)
 ·obtain⟨x0,x1,x2,x3,x4,x5,x6,x7,_⟩:=x;simp only at hx;obtain⟨e1,e2,e3,e4,g1,g2,g3,g4⟩:=hx;subst e1 e2;unfold Gz;simp only;refine AJ (AF (Ae (Br _ 3 g4)) fun y hy=>Ab (fun hb=>?_) fun _=>Bv (AI (BK ⟨rfl,e3,e4,g3.mono ?_,hy.2.2.2⟩)))
  ·have hlt:x5<y.1:=by simpa using hb
   have hy3:=hy.2.1 (by omega)
   rw [Aq (x:=x1 - 1) (by omega) (by omega),Aq (x:=x5+1) (by omega) (by omega)];have hA:x5.toNat * A≤2 * A:=Nat.mul_le_mul_right _ (by omega)
   refine AJ (AF (H (k+1+x5.toNat * A) _ _ (by omega) g3 hy.2.2.2) fun q hq=>Bv (AI (Bc ⟨⟨rfl,rfl,e3,e4,by simp only;omega,by simp only;omega,?_,hq.2⟩,by simp only;omega⟩)))
   simp only;rw [show(x5+1).toNat=x5.toNat+1 by omega,Nat.add_mul,Nat.one_mul];exact hq.1.mono (by omega)
  ·have hA:x5.toNat * A≤3 * A:=Nat.mul_le_mul_right _ (by omega)
   omega
 ·obtain⟨x0,x1,x2,x3,x4,x5,_⟩:=r;simp only at hr;obtain⟨e1,e2,e3,g1,g2⟩:=hr;subst e1 e2 e3;simp only;have ht2:=g1.t
  have hn2:=g1.n0
  have hn3:=g1.n1
  repeat refine Ap (cle (by first | omega | (simp only [AN,szs];omega))) ?_
  exact AI ⟨.mk' hm.i hm.b (by omega) (by omega) (by omega) (by omega) (by simp only [AN,szs];omega),g2⟩
def Ac:Nat→Nat
 | 0=>2
 | d+1=>2 * (3 * Ac d+2)+2
theorem Zn:∀ (d:Nat),d≤1000→∀ n n',2 * d+1≤n→2 * d+1≤n'→∀ k m g c,k+Ac d≤1000000→MOk k m→COk c→wq ((BR n).1 m (d:Int) g c) ((BR n').1 m (d:Int) g c) (RM (k+Ac d)):=by
 intro d
 induction d with
 | zero=>
  intro _ n n' hn hn' k m g c hk hm h;obtain⟨n,rfl⟩:∃ j,n=j+1:=⟨n - 1,by omega⟩
  obtain⟨n',rfl⟩:∃ j,n'=j+1:=⟨n' - 1,by omega⟩
  exact Ra (r0:=(BR n).1) (r0':=(BR n').1) (D:=0) (0:Int) (fun h=>by omega) m g c (by simp only [Ac] at hk;omega) hm h
 | succ d ih=>
  intro hd n n' hn hn' k m g c hk hm h;obtain⟨n,rfl⟩:∃ j,n=j+2:=⟨n - 2,by omega⟩
  obtain⟨n',rfl⟩:∃ j,n'=j+2:=⟨n' - 2,by omega⟩
  have hA:Ac (d+1)=2 * (3 * Ac d+2)+2:=rfl
  rw [hA] at hk ⊢;rw [show k+(2 * (3 * Ac d+2)+2)=k+2 * (3 * Ac d+2)+2 by omega];refine Ra (r0:=(BR (n+1)).1) (r0':=(BR (n'+1)).1) (D:=3 * Ac d+2) ((d+1:Nat):Int) (fun _ k m last c hk hm hl h=>?_) m g c (by omega) hm h
  rw [show k+(3 * Ac d+2)=k+3 * Ac d+2 by omega];refine Tu (A:=Ac d) ((d+1:Nat):Int) (by omega) (by omega) (fun k m c hk hm h=>?_) m last c (by omega) hm hl h
  rw [show((d+1:Nat):Int) - 1=(d:Int) by omega];exact ih (by omega) n n' (by omega) (by omega) k m false c hk hm h
theorem Zo {k:Nat} (m:Made) (g:Bool) (c:Cur) (hk:k+200≤1000000) (hm:MOk k m) (h:COk c):wp (Ei m 2 g c) (RM (k+200)):=by
 unfold Ei;have hA:Ac 2=114:=rfl
 exact JX 5 fun n hn=>AF (Zn 2 (by omega) n 5 (by omega) (by omega) k m g c (by omega) hm h) fun r hr=>⟨hr.1.mono (by omega),hr.2⟩
theorem bg (c:Cur) (most:Int) (hm0:0≤most) (hm1:most≤1000) (h:COk c):wp (Ia c most) fun r=>r.1.size≤1000000000∧COk r.2.1:=by
 unfold Ia;refine AG (AE (Iu c 6 h) fun y hy=>Ah (AG (AA ?_)))
 refine AE (wp_loop (fun x:HZ=>x.1=most∧0≤x.2.2.1∧x.2.2.1≤most+2∧COk x.2.2.2.1∧MOk (1+x.2.2.1.toNat * 200) x.2.2.2.2.1) (fun x=>(most+2).toNat - x.2.2.1.toNat)
  (Q:=fun r:Int×Cur×Made×Unit=>COk r.2.1∧MOk 300000 r.2.2.1) (fun x hx=>?_) ⟨rfl,by simp,by simp only;omega,hy,?_⟩) (fun r hr=>?_)
 ·obtain⟨x0,x1,x2,x3,x4,_⟩:=x;simp only at hx;obtain⟨e1,g1,g2,g3,g4⟩:=hx;subst e1;unfold Kl;simp only;refine AG (AE (Br _ x0 g3) fun z hz=>?_)
  have hz1:z.1≤x0:=by
   rcases Int.lt_or_le 0 x0 with h1 | h1
   ·have:=hz.2.1 h1;omega
   ·have:=hz.2.2.1 h1;omega
  have hz0:=hz.1
  rw [Aq (x:=2+z.1) (by omega) (by omega)];refine AP (fun hb=>?_) fun _=>Aj (AA (BK ⟨hz.2.2.2,g4.mono ?_⟩))
  ·have hlt:x2<2+z.1:=by simpa using hb
   rw [Aq (x:=x2+1) (by omega) (by omega)];have hA:x2.toNat * 200≤1002 * 200:=Nat.mul_le_mul_right _ (by omega)
   refine AG (AE (Zo _ true _ (by omega) g4 hz.2.2.2) fun q hq=>Aj (AA (Bc ⟨⟨rfl,by simp only;omega,by simp only;omega,hq.2,?_⟩,by simp only;omega⟩)))
   simp only;rw [show(x2+1).toNat=x2.toNat+1 by omega,Nat.add_mul,Nat.one_mul];exact hq.1.mono (by omega)
  ·have hA:x2.toNat * 200≤1002 * 200:=Nat.mul_le_mul_right _ (by omega)
   omega
 ·exact⟨by simp,by simp,by simp,by simp,by simp,by simp,by show s_fn_sum_a__int__b_4b95.size≤1000;decide⟩
 ·have ht:=hr.2.t
  have e:s___d10b.size=1:=by decide
  exact AM (cle (by omega)) (AA ⟨by simp only [AN];omega,hr.1⟩)
set_option maxRecDepth 100000
theorem Tw {α β:Type} {step:β→Option (β ⊕ α)} (S:Nat→β) (m:Nat) (H:∀ k,k<m→step (S k)=some (.inl (S (k+1)))):AK step (S 0)=AK step (S m):=by
 have key:∀ j,j≤m→AK step (S 0)=AK step (S j):=by
  intro j
  induction j with
  | zero=>intro _;rfl
  | succ j ih=>intro hj;rw [ih (by omega),BW (H j (by omega))]
 exact key m (Nat.le_refl m)
def EV (ds:List Int) (d kid:Int):Int:=if d<rd ds kid (0:Int)+1 then rd ds kid (0:Int)+1 else d
def Jm (ds:List Int) (x:NODE):Int:=x.2.2.2.foldl (EV ds) 1
def Sd (d:Int):Int:=bif decide ((10:Int)<d) then 0 else d
def LD (l:List NODE) (ds:List Int) (k:Nat):Int:=bif Bk l (k:Int) && (decide (k=0) || decide (rd ds ((k:Int) - 1) (0:Int)≠0)) then Sd (Jm ds (rd l (k:Int) zN)) else 0
def Az (l:List NODE):Nat→List Int
 | 0=>[]
 | k+1=>Az l k++[LD l (Az l k) k]
def dAt (l:List NODE) (k:Nat):Int:=LD l (Az l k) k
theorem FM (l:List NODE):∀ k,(Az l k).length=k
 | 0=>rfl
 | k+1=>by simp [Az,FM l k]
theorem GP (l:List NODE):∀ (k j:Nat) (h:j<k),rd (Az l k) (j:Int) (0:Int)=dAt l j
 | k+1,j,h=>by
  have hl:=FM l k
  rw [AZ (show j<(Az l (k+1)).length by rw [FM];exact h)];simp only [Az]
  by_cases e:j=k
  ·subst e;rw [List.getElem_append_right (by omega)];simp [hl,dAt]
  ·have h':j<k:=by omega
   rw [List.getElem_append_left (by omega),← AZ (z:=(0:Int)) (show j<(Az l k).length by omega)];exact GP l k j h'
theorem WI {l:List NODE} {k:Int} (h:Bk l k=true) {i:Nat} (hi:i<(rd l k zN).2.2.2.length):0≤(rd l k zN).2.2.2[i]∧(rd l k zN).2.2.2[i]<k:=by
 simp only [Bk,GW,NA,Bool.and_eq_true,List.all_eq_true] at h;have:=h.2.2.2.2.2 i (by simpa using hi)
 simp only [NT,Bool.and_eq_true,decide_eq_true_eq] at this;have e:(rd l k zN).2.2.2.getD i 0=(rd l k zN).2.2.2[i]:=by
  generalize rd l k zN=x at hi ⊢;simp [hi]
 rw [e] at this;omega
theorem ZO (l:List NODE) (k:Nat) (ds:List Int) (H:∀ j:Nat,j<k→0≤rd ds (j:Int) (0:Int)∧rd ds (j:Int) (0:Int)≤10) (x:NODE) (hx:∀ y∈x.2.2.2,(0:Int)≤y∧y<(k:Int)):1≤Jm ds x∧Jm ds x≤11:=by
 have key:∀ (m:List Int) (d:Int),(∀ y∈m,(0:Int)≤y∧y<(k:Int))→1≤d∧d≤11→1≤m.foldl (EV ds) d∧m.foldl (EV ds) d≤11:=by
  intro m
  induction m with
  | nil=>intro d _ h;exact h
  | cons y m ih=>
   intro d hm hd;rw [List.foldl_cons];refine ih _ (fun z hz=>hm z (List.mem_cons_of_mem _ hz)) ?_
   have hy:=hm y (List.mem_cons_self ..)
   have:=H y.toNat (by omega)
   rw [show((y.toNat:Nat):Int)=y by omega] at this;unfold EV;split<;>omega
 exact key x.2.2.2 1 hx ⟨by omega,by omega⟩
theorem NU {l:List NODE} {k:Int} (h:Bk l k=true):∀ y∈(rd l k zN).2.2.2,(0:Int)≤y∧y<k:=by
 intro y hy;obtain⟨i,hi,rfl⟩:=List.getElem_of_mem hy;exact WI h hi
theorem Ms (l:List NODE):∀ k,0≤dAt l k∧dAt l k≤10:=by
 intro k
 induction k using Nat.strongRecOn with
 | _ k ih=>
  unfold dAt LD;cases h:Bk l (k:Int)
  ·simp
  cases (decide (k=0) || decide (rd (Az l k) ((k:Int) - 1) (0:Int)≠0))
  ·simp
  simp only [Bool.and_self,cond_true];have:=ZO l k (Az l k) (fun j hj=>by rw [GP l k j hj];exact ih j hj) (rd l (k:Int) zN) (NU h)
  unfold Sd;generalize Jm (Az l k) (rd l (k:Int) zN)=v at this ⊢
  by_cases h10:(10:Int)<v
  ·simp [h10]
  ·simp [h10];omega
theorem ZM (l:List NODE) (k:Nat) (h:dAt l k=0):dAt l (k+1)=0:=by
 have e:rd (Az l (k+1)) (((k+1:Nat):Int) - 1) (0:Int)=0:=by
  rw [show((k+1:Nat):Int) - 1=(k:Int) by omega,GP l (k+1) k (by omega),h]
 rw [dAt,LD,e];simp
theorem ZN (l:List NODE) (k n:Nat) (hkn:k≤n) (h:dAt l k=0):dAt l n=0:=by
 induction n with
 | zero=>obtain rfl:k=0:=by omega
         exact h
 | succ n ih=>
  by_cases e:k=n+1
  ·subst e;exact h
  ·exact ZM l n (ih (by omega))
theorem eq {l:List NODE} {k:Nat} (h:dAt l k≠0):Bk l (k:Int)=true:=by
 cases e:Bk l (k:Int)
 ·exact absurd (by unfold dAt LD;rw [e];rfl) h
 ·rfl
theorem Qz (l:List NODE) (k:Nat) (y:Int) (hy:0≤y∧y<(k:Int)):0≤rd (Az l k) y (0:Int)∧rd (Az l k) y (0:Int)≤10:=by
 have:=GP l k y.toNat (by omega)
 rw [show((y.toNat:Nat):Int)=y by omega] at this;rw [this];exact Ms l _
theorem ZP (l:List NODE) (k:Nat) (y:Int) (hy:0≤y∧y<(k:Int)) (d:Int) (hd:1≤d∧d≤11):1≤EV (Az l k) d y∧EV (Az l k) d y≤11:=by
 have:=Qz l k y hy
 unfold EV;split<;>omega
theorem Tn (l:List NODE) (hl:FineN l) (n:Int) (k:Nat) (hk:k<l.length) (hok:Bk l (k:Int)=true):
 AK CN (l,n,Az l k,(k:Int),(1:Int),(0:Int),())=some (l,n,Az l k,(k:Int),Jm (Az l k) l[k],()):=by
 have hkid:∀ i (hi:i<l[k].2.2.2.length),(0:Int)≤l[k].2.2.2[i]∧l[k].2.2.2[i]<(k:Int):=by
  have:=NU hok
  rw [AZ hk] at this;exact fun i hi=>this _ (List.getElem_mem hi)
 have hx:=hl.kid _ (List.getElem_mem hk)
 have hlen:=FM l k
 have hrd:∀ i (hi:i<l[k].2.2.2.length),(0:Int)≤rd (Az l k) l[k].2.2.2[i] (0:Int)∧rd (Az l k) l[k].2.2.2[i] (0:Int)≤10:=fun i hi=>Qz l k _ (hkid i hi)
 have hst:∀ i (hi:i<l[k].2.2.2.length) d,1≤d∧d≤11→1≤EV (Az l k) d l[k].2.2.2[i]∧EV (Az l k) d l[k].2.2.2[i]≤11:=fun i hi d hd=>ZP l k _ (hkid i hi) d hd
 have e1:∀ i:Int,(Cnd.idx (k:Int) l.length).run (α:=(List NODE×Int×List Int×Int×Int×Int×Bool×Unit))=fun K=>K:=fun i=>by funext K;exact AU hk
 have hr:rd l (k:Int) zN=l[k]:=AZ hk
 generalize l[k]=x at hkid hx hrd hst hr ⊢;have h:=CA (step:=CN) x.2.2.2 (EV (Az l k)) (fun i d=>(l,n,Az l k,(k:Int),d,(i:Int),())) (fun d=>(l,n,Az l k,(k:Int),d,())) (fun _ d=>1≤d∧d≤11) (fun i hi d hd=>by
  refine⟨?_,hst i hi d hd⟩
  have a1:=hkid i hi
  have a2:=hrd i hi
  have wi:=Ad (show i<9223372036854775807 by omega)
  simp only [CN,show(0:Int)<d by omega,decide_true,cond_true,AU hk,hr,Am hi,AD,AU hi,AZ hi];generalize x.2.2.2[i]=y at a1 a2 ⊢;rw [Cf (show 0≤y∧y<((Az l k).length:Int) by omega)];unfold EV;generalize rd (Az l k) y (0:Int)=v at a2 ⊢;rw [show IntKind.wrap .i64 (v+1)=v+1 from Aq (by omega) (by omega)]
  by_cases hlt:d<v+1
  ·simp only [hlt,decide_true,cond_true,if_true,Cf (show 0≤y∧y<((Az l k).length:Int) by omega),AD,wi,Option.map_some]
  ·simp only [hlt,decide_false,cond_false,if_false,AD,wi,Option.map_some]) (fun d hd=>by
  simp only [CN,show(0:Int)<d by omega,decide_true,cond_true,AU hk,hr,Aa,decide_false,AD,cond_false,Option.map_some]) 1 ⟨by omega,by omega⟩
 exact h.1
theorem Og {α:Type} {l:List NODE} (hl:FineN l) {k:Nat} (hk:k<l.length) {d:Int} {K:Option α}:(Cnd.le (((Az l k).length+List.length [d]) * 8) 140737488355328).run K=K:=by
 have:=hl.len
 have e:=FM l k
 simp only [Cnd.run];rw [if_pos];simp only [List.length_cons,List.length_nil];omega
theorem Tp (l:List NODE) (hl:FineN l) (n:Int) (k:Nat) (hk:k<l.length) (hn:(k:Int)≤n):
 CO (l,n,Az l k,(k:Int),())=some (.inl (l,n,Az l (k+1),((k+1:Nat):Int),())):=by
 have hlen:=hl.len
 have wi:=Ad (show k<9223372036854775807 by omega)
 have e0:Az l (k+1)=Az l k++[dAt l k]:=rfl
 have h1:∀ z,AK CN (l,n,Az l k,(k:Int),(0:Int),z,())=some (l,n,Az l k,(k:Int),(0:Int),()):=fun z=>BA (by
  simp only [CN,show ¬ ((0:Int)<0) by decide,decide_false,cond_false,AD,Option.map_some])
 have hdl:=FM l k
 unfold CO;simp only [hn,decide_true,cond_true,Am hk,AD,Qi l hl,Option.bind_some];have e1:(bif !Bk l (k:Int) then some (l,n,Az l k,(k:Int),(1:Int),true,()) else bif decide ((0:Int)<(k:Int)) then (Cnd.idx (IntKind.wrap .i64 ((k:Int) - 1)) (Az l k).length).run (some (l,n,Az l k,(k:Int),(1:Int),decide (rd (Az l k) (IntKind.wrap .i64 ((k:Int) - 1)) (0:Int)=0),())) else some (l,n,Az l k,(k:Int),(1:Int),false,())) =
  some (l,n,Az l k,(k:Int),(1:Int),!(Bk l (k:Int) && (decide (k=0) || decide (rd (Az l k) ((k:Int) - 1) (0:Int)≠0))),()):=by
  cases Bk l (k:Int)
  ·rfl
  by_cases hz:k=0
  ·subst hz;rfl
  ·rw [Aq (show -9223372036854775808≤(k:Int) - 1 by omega) (by omega),Cf (show 0≤(k:Int) - 1∧(k:Int) - 1<((Az l k).length:Int) by omega)];rw [decide_eq_true (show(0:Int)<(k:Int) by omega),decide_eq_false hz];generalize rd (Az l k) ((k:Int) - 1) (0:Int)=v
   by_cases hr:v=0<;>simp [hr]
 rw [e1,AD];cases hc:Bk l (k:Int) && (decide (k=0) || decide (rd (Az l k) ((k:Int) - 1) (0:Int)≠0))
 ·have hd:dAt l k=0:=by unfold dAt LD;rw [hc];rfl
  simp only [Bool.not_false,cond_true,AD,h1,Option.bind_some,show ¬ ((10:Int)<0) by decide,decide_false,cond_false,Og hl hk,Option.map_some,wi,e0,hd]
 ·have hok:Bk l (k:Int)=true:=by
   rw [Bool.and_eq_true] at hc;exact hc.1
  have hd:dAt l k=Sd (Jm (Az l k) l[k]):=by unfold dAt LD;rw [hc,AZ hk];rfl
  simp only [Bool.not_true,cond_false,AD,Option.bind_some,Tn l hl n k hk hok,Og hl hk,Option.map_some,wi,e0,hd,Sd];cases decide ((10:Int)<Jm (Az l k) l[k])<;>simp only [cond_true,cond_false,AD,Og hl hk,Option.map_some,wi]
def AQ (l:List NODE) (n:Int):Int:=bif decide (0≤n∧n≤(l.length:Int) - 1) then dAt l n.toNat else 0
theorem Mi (l:List NODE) (hl:FineN l) (k:Nat) (hk:k<l.length):Fp l (k:Int)=some (Az l (k+1),()):=by
 have h:=Tw (step:=CO) (fun j=>(l,(k:Int),Az l j,(j:Int),())) (k+1) (fun j hj=>Tp l hl k j (by omega) (by omega))
 have h2:AK CO (l,(k:Int),Az l (k+1),((k+1:Nat):Int),())=some (Az l (k+1),()):=BA (by
  simp only [CO,show ¬ (((k+1:Nat):Int)≤(k:Int)) by omega,decide_false,cond_false,AD,Option.map_some])
 have h3:AK CO (l,(k:Int),[],(0:Int),())=some (Az l (k+1),()):=h.trans h2
 simp only [Fp,Option.bind_some,h3,AD]
theorem Av {l:List NODE} {n:Int} (h:(0:Int)<AQ l n):(0≤n∧n<(l.length:Int))∧Bk l n=true∧∀ m,0≤m→m≤n→(0:Int)<AQ l m:=by
 unfold AQ at h
 by_cases hr:0≤n∧n≤(l.length:Int) - 1
 case neg=>simp [hr] at h
 rw [decide_eq_true hr,cond_true] at h;refine⟨by omega,?_,fun m h0 hm=>?_⟩
 ·have:=eq (l:=l) (k:=n.toNat) (by omega)
  rwa [show((n.toNat:Nat):Int)=n by omega] at this
 ·unfold AQ;rw [decide_eq_true (by omega),cond_true];have h1:=Ms l m.toNat
  by_cases hz:dAt l m.toNat=0
  ·have:=ZN l m.toNat n.toNat (by omega) hz
   omega
  ·omega
set_option maxRecDepth 100000
abbrev zF:FN:=((⟨#[]⟩:ByteArray),([],((0:Int),((0:Int),(0:Int)))))
structure FineP (c:PROG):Prop where
 n:FineN c.1
 f:c.2.length≤1048576
 a:∀ w∈c.2,(w:FN).2.1.length≤1048576
theorem Rt {l:List NODE} {n:Int} (h:AQ l n≠0):(0:Int)<AQ l n:=by
 have:0≤AQ l n:=by
  unfold AQ;cases decide (0≤n∧n≤(l.length:Int) - 1)
  ·exact Int.le_refl 0
  ·exact(Ms l _).1
 omega
set_option maxRecDepth 100000
theorem PS {α β D:Type} {step:β→Option (β ⊕ α)} (l:List D) (q:D→Bool) (S:Nat→β) (rt:Nat→α) (rf:α) (H:∀ k (h:k<l.length),step (S k)=bif q l[k] then some (.inr (rt k)) else some (.inl (S (k+1)))) (He:step (S l.length)=some (.inr rf)):
 AK step (S 0)=some (match l.findIdx? q with | some i=>rt i | none=>rf):=by
 have key:∀ m k,k+m=l.length→AK step (S k)=some (match (l.drop k).findIdx? q with | some i=>rt (k+i) | none=>rf):=by
  intro m
  induction m with
  | zero=>
   intro k hk;obtain rfl:k=l.length:=by omega
   rw [BA He,List.drop_length];rfl
  | succ m ih=>
   intro k hk;have hkl:k<l.length:=by omega
   have h1:=H k hkl
   rw [List.drop_eq_getElem_cons hkl,List.findIdx?_cons];cases hq:q l[k]
   ·rw [hq,cond_false] at h1;rw [BW h1,ih (k+1) (by omega)];cases hf:(l.drop (k+1)).findIdx? q with
    | none=>simp [hf]
    | some i=>simp [hf,Nat.add_assoc,Nat.add_comm 1 i]
   ·rw [hq,cond_true] at h1;rw [BA h1];simp
 have:=key l.length 0 (by omega)
 rw [List.drop_zero] at this;rw [this];cases l.findIdx? q<;>simp
def Gw (l:List FN) (s:ByteArray):Int:=match l.findIdx? (fun f=>decide (f.1=s)) with
 | some i=>(i:Int)
 | none=>-1
theorem Kc (p:PROG) (hp:FineP p) (s:ByteArray):GZ p s=some (Gw p.2 s,()):=by
 have hl:=hp.f
 have h:=PS (step:=GM) p.2 (fun f=>decide (f.1=s)) (fun k=>(s,(k:Int),p,())) (fun k=>.inr ((k:Int),())) (.inl ()) (fun k hk=>by
  simp only [GM,Am hk,decide_true,cond_true,AU hk,AZ hk,Ad (show k<9223372036854775807 by omega)];cases decide (p.2[k].1=s)<;>rfl) (by
  simp only [GM,Aa,decide_false,cond_false,Option.map_some])
 have h':AK GM (s,(0:Int),p,())=_:=h
 simp only [GZ,Option.bind_some,h',Gw];cases p.2.findIdx? fun f=>decide (f.1=s)<;>rfl
set_option maxRecDepth 100000
def tb (n:Nat) (f:Nat→Int):List Int:=(List.range n).map f
theorem JW (n:Nat) (f:Nat→Int):(tb n f).length=n:=by simp [tb]
theorem Rx {n:Nat} {f:Nat→Int} {k:Nat} (h:k<n):rd (tb n f) (k:Int) (0:Int)=f k:=by
 rw [AZ (by rw [JW];exact h)];simp [tb]
def upd (f:Nat→Int) (k:Nat) (v:Int):Nat→Int:=fun t=>if t=k then v else f t
theorem Pk {n:Nat} {f:Nat→Int} {k:Nat} (h:k<n) (v:Int):(tb n f).set k v=tb n (upd f k v):=by
 apply List.ext_getElem
 ·rw [List.length_set,JW,JW]
 ·intro i h1 h2;rw [List.getElem_set];simp only [tb,List.getElem_map,List.getElem_range,upd]
  by_cases e:k=i
  ·rw [if_pos e,if_pos e.symm]
  ·rw [if_neg e,if_neg (fun h=>e h.symm)]
theorem fh (n:Nat):List.replicate n (0:Int)=tb n (fun _=>0):=by
 apply List.ext_getElem
 ·rw [List.length_replicate,JW]
 ·intro i h1 h2;simp [tb]
def cnO:List Int→Nat→Nat
 | [],_=>0
 | y::l,t=>(bif decide (y=(t:Int)) then 1 else 0)+cnO l t
theorem eo (a b:List Int) (t:Nat):cnO (a++b) t=cnO a t+cnO b t:=by
 induction a with
 | nil=>simp [cnO]
 | cons y a ih=>simp only [List.cons_append,cnO,ih];omega
theorem ab (l:List Int) (t:Nat):cnO l t≤l.length:=by
 induction l with
 | nil=>exact Nat.le_refl _
 | cons y l ih=>
  simp only [cnO,List.length_cons];cases decide (y=(t:Int))<;>simp only [cond_true,cond_false]<;>omega
def bump (f:Nat→Int) (y:Int):Nat→Int:=upd f y.toNat (f y.toNat+1)
theorem UL (f:Nat→Int) {y:Int} (hy:0≤y) (t:Nat):bump f y t=f t+(bif decide (y=(t:Int)) then 1 else 0):=by
 unfold bump upd
 by_cases e:t=y.toNat
 ·have:y=(t:Int):=by omega
  rw [if_pos e,decide_eq_true this,cond_true,e]
 ·have:¬ y=(t:Int):=by omega
  rw [if_neg e,decide_eq_false this,cond_false];omega
theorem fx (ks:List Int) (hk:∀ y∈ks,(0:Int)≤y):∀ f:Nat→Int,ks.foldl bump f=fun t=>f t+(cnO ks t:Int):=by
 induction ks with
 | nil=>intro f;funext t;simp [cnO]
 | cons y ks ih=>
  intro f;rw [List.foldl_cons,ih (fun z hz=>hk z (List.mem_cons_of_mem _ hz))]
  funext t
  rw [UL f (hk y (List.mem_cons_self ..)) t];simp only [cnO];cases decide (y=(t:Int))<;>simp only [cond_true,cond_false]<;>omega
def us:List NODE→Nat→Nat
 | [],_=>0
 | x::l,t=>cnO x.2.2.2 t+us l t
theorem fk (a b:List NODE) (t:Nat):us (a++b) t=us a t+us b t:=by
 induction a with
 | nil=>simp [us]
 | cons y a ih=>simp only [List.cons_append,us,ih];omega
structure Kd (l:List NODE):Prop where
 k:∀ x∈l,∀ y∈(x:NODE).2.2.2,(0:Int)≤y∧y<(l.length:Int)
def BI (B:Int) (f:Nat→Int):Prop:=∀ t,0≤f t∧f t≤B
theorem BI.bump {B:Int} {f:Nat→Int} (h:BI B f) {y:Int} (hy:0≤y):BI (B+1) (bump f y):=by
 intro t;rw [UL f hy t];have:=h t
 cases decide (y=(t:Int))<;>simp only [cond_true,cond_false]<;>omega
theorem bh (l:List NODE) (hl:FineN l) (hk:Kd l) (i:Nat) (hi:i<l.length) (f:Nat→Int) {B:Int} (hB:B≤1000000000000) (hf:BI B f):
 AK EQ (l,tb l.length f,(i:Int),(0:Int),())=some (l,tb l.length (l[i].2.2.2.foldl bump f),(i:Int),()):=by
 have hx:=hl.kid _ (List.getElem_mem hi)
 have hkk:=hk.k _ (List.getElem_mem hi)
 have hr:rd l (i:Int) zN=l[i]:=AZ hi
 generalize l[i]=x at hx hkk hr;have h:=CA (step:=EQ) x.2.2.2 bump (fun j f=>(l,tb l.length f,(i:Int),(j:Int),())) (fun f=>(l,tb l.length f,(i:Int),())) (fun j f=>BI (B+(j:Int)) f) (fun j hj f hf=>by
  obtain⟨h1,h2⟩:=hkk _ (List.getElem_mem hj);refine⟨?_,by rw [show B+((j+1:Nat):Int)=B+(j:Int)+1 by omega];exact hf.bump h1⟩
  have wj:=Ad (show j<9223372036854775807 by omega)
  obtain⟨y,hy⟩:∃ y:Nat,x.2.2.2[j]=(y:Int):=⟨x.2.2.2[j].toNat,by omega⟩
  rw [hy] at h2 ⊢;have hyl:y<l.length:=by omega
  have hyt:y<(tb l.length f).length:=by rw [JW];exact hyl
  have hb:=hf y
  simp only [EQ,AU hi,hr,Am hj,decide_true,cond_true,AU hj,AZ hj,hy,AU hyt,Rx hyl,Int.toNat_natCast,Pk hyl,Ba,Option.map_some,wj,Aq (show -9223372036854775808≤f y+1 by omega) (show f y+1<9223372036854775808 by omega),bump]) (fun f hf=>by
  simp only [EQ,AU hi,hr,Aa,decide_false,cond_false,Option.map_some]) f (by simpa using hf)
 exact h.1
def bumpN (f:Nat→Int) (x:NODE):Nat→Int:=x.2.2.2.foldl bump f
theorem SX (f:Nat→Int) (x:NODE) (hx:∀ y∈x.2.2.2,(0:Int)≤y):bumpN f x=fun t=>f t+(cnO x.2.2.2 t:Int):=fx _ hx f
theorem eH (l:List NODE) (hk:∀ x∈l,∀ y∈(x:NODE).2.2.2,(0:Int)≤y):∀ f:Nat→Int,l.foldl bumpN f=fun t=>f t+(us l t:Int):=by
 induction l with
 | nil=>intro f;funext t;simp [us]
 | cons x l ih=>
  intro f;rw [List.foldl_cons,ih (fun z hz=>hk z (List.mem_cons_of_mem _ hz)),SX f x (hk x (List.mem_cons_self ..))]
  funext t
  simp only [us];omega
theorem BI.bumpN {B:Int} {f:Nat→Int} (h:BI B f) {x:NODE} (hx:∀ y∈x.2.2.2,(0:Int)≤y) (hl:x.2.2.2.length≤1048576):BI (B+1048576) (bumpN f x):=by
 intro t;rw [SX f x hx];have:=h t
 have:=ab x.2.2.2 t
 simp only;omega
def U (l:List NODE):Nat→Int:=fun t=>(us l t:Int)
theorem gZ (l:List NODE) (hl:FineN l) (hk:Kd l) (h300:l.length≤300):IZ l=some (tb l.length (U l),()):=by
 have h:=CA (step:=ES) l bumpN (fun i f=>(l,tb l.length f,(i:Int),())) (fun f=>(tb l.length f,())) (fun i f=>BI ((i:Int) * 1048576) f) (fun i hi f hf=>by
  have hx:=hl.kid _ (List.getElem_mem hi)
  have hkk:=hk.k _ (List.getElem_mem hi)
  refine⟨?_,by rw [show((i+1:Nat):Int) * 1048576=(i:Int) * 1048576+1048576 by omega];exact hf.bumpN (fun y hy=>(hkk y hy).1) hx⟩
  simp only [ES,Am hi,decide_true,cond_true,Option.bind_some,bh l hl hk i hi f (show(i:Int) * 1048576≤1000000000000 by omega) hf,AD,Option.map_some,Ad (show i<9223372036854775807 by omega),bumpN]) (fun f hf=>by
  simp only [ES,Aa,decide_false,cond_false,Option.map_some]) (fun _=>0) (fun t=>by simp)
 have h1:=h.1
 rw [eH l (fun x hx y hy=>(hk.k x hx y hy).1)] at h1;have h':AK ES (l,List.replicate l.length (0:Int),(0:Int),())=some (tb l.length (U l),()):=by
  rw [fh];refine h1.trans ?_
  have:(fun t=>(0:Int)+(us l t:Int))=U l:=by funext t;simp [U]
  rw [this]
 have hb:∀ {α:Type} {K:Option α},(Cnd.both (Cnd.nn (l.length:Int)) (Cnd.le (l.length * 8) 140737488355328)).run K=K:=fun {α} {K}=>by
  simp only [Cnd.run];rw [if_pos (by omega),if_pos (by omega)]
 simp only [IZ,Int.toNat_natCast,hb,Option.bind_some,h',AD]
set_option maxRecDepth 100000
def WJ (q:ByteArray×Int):Bool:=Bh q.1 && decide (1≤q.2∧q.2≤4)
def Zt (x:FN):Bool:=x.2.1.all WJ
def PF (l:List NODE) (x:FN):Bool:=decide (0≤x.2.2.2.1∧x.2.2.2.1≤(l.length:Int) - 1) && decide ((rd l x.2.2.2.1 zN).1=20)
def PY (l:List NODE) (x:FN):Bool:=bif decide (x.2.2.1=0) then decide (x.2.2.2.2 = -1) else decide (0≤x.2.2.2.2∧x.2.2.2.2≤(l.length:Int) - 1) && decide (1≤(rd l x.2.2.2.2 zN).1∧(rd l x.2.2.2.2 zN).1≤12)
def fnI (l:List NODE) (x:FN):Bool:=Bh x.1 && (decide ((x.2.1.length:Int)≤3) && (decide (0≤x.2.2.1∧x.2.2.1≤2) && (Zt x && (PF l x && PY l x))))
def MG (p:PROG) (i:Int):Bool:=fnI p.1 (rd p.2 i zF) && decide (Gw p.2 (rd p.2 i zF).1=i)
theorem gL (p:PROG) (x:FN) (hx:x.2.1.length≤1048576):AK Fi ((0:Int),p,x,())=some (bif Zt x then .inl (p,x,()) else .inr (false,())):=by
 exact Bj (step:=Fi) x.2.1 WJ (fun k=>((k:Int),p,x,())) (.inl (p,x,())) (.inr (false,())) (fun k hk=>by
  have wk:=Ad (show k<9223372036854775807 by omega)
  simp only [Fi,Am hk,decide_true,cond_true,AU hk,AZ hk,Cs,sIn,Option.bind_some,WJ];cases Bh x.2.1[k].1
  ·simp only [Bool.not_false,cond_true,AD,Option.map_some,Bool.false_and,cond_false]
  ·cases decide (1≤x.2.1[k].2∧x.2.1[k].2≤4)<;>simp only [Bool.not_true,Bool.not_false,cond_true,cond_false,AD,Option.map_some,Bool.and_self,Bool.and_false,wk]) (by
  simp only [Fi,Aa,decide_false,cond_false,Option.map_some])
theorem WP (p:PROG) (hp:FineP p) (i:Nat) (hi:i<p.2.length):KB p (i:Int)=some (MG p (i:Int),()):=by
 unfold KB MG fnI;have hx:=hp.a _ (List.getElem_mem hi)
 rw [AU hi];have hr:rd p.2 (i:Int) zF=p.2[i]:=AZ hi
 rw [hr];generalize p.2[i]=x at hx;have e:((CH x.1).bind fun y1=>bif !y1.1 then some (true,p,x,()) else (GZ p x.1).bind fun y2=>bif decide (y2.1≠(i:Int)) then some (true,p,x,()) else bif decide ((3:Int)<(x.2.1.length:Int)) then some (true,p,x,()) else (Ar x.2.2.1 (0:Int) (2:Int)).bind fun y3=>some (!y3.1,p,x,())) =
  some (!(Bh x.1 && (decide (Gw p.2 x.1=(i:Int)) && (decide ((x.2.1.length:Int)≤3) && decide (0≤x.2.2.1∧x.2.2.1≤2)))),p,x,()):=by
  simp only [Cs,Kc p hp,sIn,Option.bind_some];cases Bh x.1
  ·rfl
  by_cases h2:Gw p.2 x.1=(i:Int)
  ·by_cases h3:(3:Int)<(x.2.1.length:Int)
   ·simp only [h2,h3,show ¬ ((x.2.1.length:Int)≤3) by omega,ne_eq,not_true_eq_false,decide_true,decide_false,cond_true,cond_false,Bool.not_true,Bool.false_and,Bool.and_false,Bool.not_false]
   ·simp only [h2,h3,show((x.2.1.length:Int)≤3) by omega,ne_eq,not_true_eq_false,decide_true,decide_false,cond_false,Bool.not_true,Bool.true_and]
  ·simp only [h2,ne_eq,not_false_eq_true,decide_true,decide_false,cond_true,cond_false,Bool.not_true,Bool.false_and,Bool.and_false,Bool.not_false]
 rw [e,AD];cases hA:Bh x.1
 ·simp only [Bool.false_and,Bool.not_false,cond_true]
 cases hB:decide (Gw p.2 x.1=(i:Int))
 ·simp only [Bool.false_and,Bool.and_false,Bool.not_false,cond_true]
 cases hC:decide ((x.2.1.length:Int)≤3)
 ·simp only [Bool.false_and,Bool.and_false,Bool.not_false,cond_true]
 cases hD:decide (0≤x.2.2.1∧x.2.2.1≤2)
 ·simp only [Bool.false_and,Bool.and_false,Bool.not_false,cond_true]
 simp only [Bool.and_self,Bool.not_true,cond_false,Option.bind_some,gL p x hx,Bool.true_and,Bool.and_true];cases hP:Zt x
 ·simp only [cond_false,Bg,Bool.false_and]
 simp only [cond_true,BV,Bool.true_and,NV hp.n.len,sIn,Option.bind_some,Fq,PF,PY]
 by_cases hb:0≤x.2.2.2.1∧x.2.2.2.1≤(p.1.length:Int) - 1
 ·simp only [hb,and_self,decide_true,Bool.not_true,cond_false,Cf (show 0≤x.2.2.2.1∧x.2.2.2.1<(p.1.length:Int) by omega),AD,Bool.true_and]
  by_cases h20:(rd p.1 x.2.2.2.1 zN).1=20
  ·simp only [h20,ne_eq,not_true_eq_false,decide_true,decide_false,cond_false,Bool.true_and];cases decide (x.2.2.1=0)
   ·simp only [cond_false]
    by_cases hc:0≤x.2.2.2.2∧x.2.2.2.2≤(p.1.length:Int) - 1
    ·simp only [NV hp.n.len,hc,and_self,decide_true,cond_true,Cf (show 0≤x.2.2.2.2∧x.2.2.2.2<(p.1.length:Int) by omega),AD,Bool.true_and]
    ·simp only [NV hp.n.len,hc,decide_false,cond_false,AD,Bool.false_and]
   ·simp only [cond_true]
  ·simp only [h20,ne_eq,not_false_eq_true,decide_true,decide_false,cond_true,Bool.false_and]
 ·simp only [hb,decide_false,Bool.not_false,cond_true,AD,Bool.false_and]
set_option maxRecDepth 100000
def Fb {γ D:Type} (q:γ→D→Bool) (g:γ→D→γ):List D→γ→Option γ
 | [],c=>some c
 | x::l,c=>bif q c x then Fb q g l (g c x) else none
theorem XQ {α β γ D:Type} {step:β→Option (β ⊕ α)} (l:List D) (q:γ→D→Bool) (g:γ→D→γ) (S:Nat→γ→β) (r:γ→α) (rf:α) (I:Nat→γ→Prop)
 (H:∀ k (h:k<l.length) c,I k c→(step (S k c)=bif q c l[k] then some (.inl (S (k+1) (g c l[k]))) else some (.inr rf))∧(q c l[k]=true→I (k+1) (g c l[k])))
 (He:∀ c,I l.length c→step (S l.length c)=some (.inr (r c))) (c:γ) (hc:I 0 c):
 AK step (S 0 c)=some ((Fb q g l c).elim rf r):=by
 have key:∀ m k c,k+m=l.length→I k c→AK step (S k c)=some ((Fb q g (l.drop k) c).elim rf r):=by
  intro m
  induction m with
  | zero=>
   intro k c hk hI;obtain rfl:k=l.length:=by omega
   rw [BA (He c hI),List.drop_length];rfl
  | succ m ih=>
   intro k c hk hI;have hkl:k<l.length:=by omega
   obtain⟨h1,h2⟩:=H k hkl c hI;rw [List.drop_eq_getElem_cons hkl,Fb];cases hq:q c l[k]
   ·rw [hq,cond_false] at h1;rw [BA h1];rfl
   ·rw [hq,cond_true] at h1;rw [BW h1,ih (k+1) _ (by omega) (h2 hq)];rfl
 have:=key l.length 0 c (by omega) hc
 rwa [List.drop_zero] at this
theorem Zx {α:Type} (l:List α) (z:α):(List.range l.length).map (fun(i:Nat)=>rd l (i:Int) z)=l:=by
 apply List.ext_getElem
 ·simp
 ·intro i h1 h2;rw [List.getElem_map,List.getElem_range,AZ h2]
def roots (x:FN):List Int:=x.2.2.2.1::bif decide (0≤x.2.2.2.2) then [x.2.2.2.2] else []
def KY:List FN→List Int
 | []=>[]
 | x::l=>roots x++KY l
def add (f:Nat→Int) (y:Int):Nat→Int:=upd f y.toNat (f y.toNat+1000)
theorem jp (rs:List Int) (hr:∀ y∈rs,(0:Int)≤y):∀ f:Nat→Int,rs.foldl add f=fun t=>f t+1000 * (cnO rs t:Int):=by
 induction rs with
 | nil=>intro f;funext t;simp [cnO]
 | cons y rs ih=>
  intro f;rw [List.foldl_cons,ih (fun z hz=>hr z (List.mem_cons_of_mem _ hz))]
  funext t
  have hy:=hr y (List.mem_cons_self ..)
  simp only [add,upd,cnO]
  by_cases e:t=y.toNat
  ·have:y=(t:Int):=by omega
   rw [if_pos e,decide_eq_true this,cond_true,← e];omega
  ·have:¬ y=(t:Int):=by omega
   rw [if_neg e,decide_eq_false this,cond_false];omega
theorem RE {p:PROG} {i:Int} (h:MG p i=true):∀ y∈roots (rd p.2 i zF),(0:Int)≤y∧y<(p.1.length:Int):=by
 simp only [MG,fnI,PF,Bool.and_eq_true,decide_eq_true_eq] at h;obtain⟨⟨_,_,_,_,⟨hb,_⟩,hr⟩,_⟩:=h;intro y hy;unfold roots at hy;rcases List.mem_cons.1 hy with rfl | hy
 ·omega
 ·cases hd:decide ((0:Int)≤(rd p.2 i zF).2.2.2.2)
  ·rw [hd,cond_false] at hy;cases hy
  ·rw [hd,cond_true] at hy;obtain rfl:=List.mem_singleton.1 hy;have hd:=of_decide_eq_true hd
   unfold PY at hr;cases h0:decide ((rd p.2 i zF).2.2.1=0)
   ·rw [h0,cond_false,Bool.and_eq_true,decide_eq_true_eq] at hr;omega
   ·rw [h0,cond_true,decide_eq_true_eq] at hr;omega
def SS (p:PROG):Bool:=(List.range p.2.length).all fun i=>MG p (i:Int)
def gS (p:PROG) (f:Nat→Int) (i:Nat):Nat→Int:=(roots (rd p.2 (i:Int) zF)).foldl add f
theorem Pb {γ D:Type} (q:D→Bool) (g:γ→D→γ):∀ (l:List D) (c:γ),Fb (fun _ x=>q x) g l c=bif l.all q then some (l.foldl g c) else none
 | [],c=>rfl
 | x::l,c=>by
  simp only [Fb,List.all_cons,List.foldl_cons];cases q x
  ·rfl
  ·simp only [cond_true,Bool.true_and];exact Pb q g l _
theorem Nu (p:PROG):∀ (l:List FN) (f:Nat→Int),l.foldl (fun f x=>(roots x).foldl add f) f=(KY l).foldl add f
 | [],f=>rfl
 | x::l,f=>by
  simp only [List.foldl_cons,KY,List.foldl_append];exact Nu p l _
theorem fE (p:PROG) (f:Nat→Int):(List.range p.2.length).foldl (gS p) f=(KY p.2).foldl add f:=by
 have h:=List.foldl_map (f:=fun i:Nat=>rd p.2 (i:Int) zF) (g:=fun(f:Nat→Int) x=>(roots x).foldl add f) (l:=List.range p.2.length) (init:=f)
 rw [Zx] at h;rw [Nu p] at h;exact h.symm
theorem lU (p:PROG) (hp:FineP p) (f:Nat→Int) (hf:BI 1000000000 f):
 AK Cc (tb p.1.length f,(0:Int),p,())=some (bif SS p then .inl (tb p.1.length ((KY p.2).foldl add f),()) else .inr (false,())):=by
 have hl:=hp.f
 have hr:(List.range p.2.length).length=p.2.length:=List.length_range
 have h:=XQ (step:=Cc) (List.range p.2.length) (fun _ (i:Nat)=>MG p (i:Int)) (gS p) (fun i f=>(tb p.1.length f,(i:Int),p,())) (fun f=>.inl (tb p.1.length f,())) (.inr (false,())) (fun k f=>BI (1000000000+(k:Int) * 2000) f) (fun k hk f hf=>by
  have hk':k<p.2.length:=by omega
  rw [List.getElem_range];have wk:=Ad (show k<9223372036854775807 by omega)
  refine⟨?_,fun hq=>?_⟩
  ·simp only [Cc,Am hk',decide_true,cond_true,WP p hp k hk',Option.bind_some,AU hk'];cases hq:MG p (k:Int)
   ·simp only [Bool.not_false,cond_true,cond_false,Option.map_some]
   ·have hro:=RE hq
    simp only [Bool.not_true,cond_false,cond_true,gS];generalize rd p.2 (k:Int) zF=x at hro;obtain⟨b0,b1⟩:=hro x.2.2.2.1 (List.mem_cons_self ..);obtain⟨b,hb⟩:∃ b:Nat,x.2.2.2.1=(b:Int):=⟨x.2.2.2.1.toNat,by omega⟩
    have hbl:b<p.1.length:=by omega
    have hbt:b<(tb p.1.length f).length:=by rw [JW];exact hbl
    have hfb:=hf b
    have w1:IntKind.wrap .i64 (f b+1000)=f b+1000:=Aq (by omega) (by omega)
    by_cases hc:(0:Int)≤x.2.2.2.2
    ·obtain⟨c0,c1⟩:=hro x.2.2.2.2 (by unfold roots;rw [decide_eq_true hc];simp);obtain⟨c,hcc⟩:∃ c:Nat,x.2.2.2.2=(c:Int):=⟨x.2.2.2.2.toNat,by omega⟩
     have hcl:c<p.1.length:=by omega
     have hct:∀ f,c<(tb p.1.length f).length:=fun f=>by rw [JW];exact hcl
     have hfc:=hf c
     have hu:0≤upd f b (f b+1000) c∧upd f b (f b+1000) c≤2000000000000:=by
      unfold upd;split<;>omega
     have w2:IntKind.wrap .i64 (upd f b (f b+1000) c+1000)=upd f b (f b+1000) c+1000:=Aq (by omega) (by omega)
     simp only [hb,hcc,AU hbt,Rx hbl,w1,Int.toNat_natCast,Pk hbl,Ba,show(0:Int)≤(c:Int) by omega,decide_true,cond_true,AU (hct _),Rx hcl,w2,Pk hcl,AD,Option.map_some,wk,roots,List.foldl_cons,List.foldl_nil,add]
    ·simp only [hb,hc,AU hbt,Rx hbl,w1,Int.toNat_natCast,Pk hbl,Ba,decide_false,cond_false,AD,Option.map_some,wk,roots,List.foldl_cons,List.foldl_nil,add]
  ·have hro:=RE hq
   unfold gS;rw [jp _ (fun y hy=>(hro y hy).1)];intro t;have h1:=hf t
   have h2:=ab (roots (rd p.2 (k:Int) zF)) t
   have h3:(roots (rd p.2 (k:Int) zF)).length≤2:=by
    unfold roots;cases decide ((0:Int)≤(rd p.2 (k:Int) zF).2.2.2.2)<;>simp
   simp only;omega) (fun f hf=>by
  rw [hr];simp only [Cc,Aa,decide_false,cond_false,Option.map_some]) f (by simpa using hf)
 have h':AK Cc (tb p.1.length f,(0:Int),p,())=_:=h
 rw [h',Pb,fE];unfold SS;cases (List.range p.2.length).all fun i=>MG p (i:Int)<;>rfl
def ZY (b:Int) (l:List Int):Bool:=l.all fun v=>decide (v=1) || decide (v=b)
theorem gF (l:List Int) (hl:l.length≤1048576):AK DX (l,(0:Int),())=some (bif ZY 1000 l then .inl () else .inr (false,())):=by
 exact Bj (step:=DX) l (fun v=>decide (v=1) || decide (v=1000)) (fun k=>(l,(k:Int),())) (.inl ()) (.inr (false,())) (fun k hk=>by
  have wk:=Ad (show k<9223372036854775807 by omega)
  simp only [DX,Am hk,decide_true,cond_true,AU hk,AZ hk];generalize l[k]=v
  by_cases h1:v=1
  ·simp only [h1,ne_eq,not_true_eq_false,decide_false,decide_true,cond_false,AD,Option.map_some,wk,Bool.true_or,cond_true]
  ·by_cases h2:v=1000
   ·simp only [h2,show ¬ ((1000:Int)=1) by decide,ne_eq,not_true_eq_false,not_false_eq_true,decide_false,decide_true,cond_false,cond_true,AD,Option.map_some,wk,Bool.or_true]
   ·simp only [h1,h2,ne_eq,not_false_eq_true,decide_false,decide_true,cond_false,cond_true,AD,Option.map_some,Bool.or_self]) (by
  simp only [DX,Aa,decide_false,cond_false,Option.map_some])
set_option maxRecDepth 100000
theorem UN:∀ (l:List Int) (n:Int) (t:Nat),Ss l n=false→n=(t:Int)→cnO l t=0
 | [],_,_,_,_=>rfl
 | y::l,n,t,h,e=>by
  simp only [Ss,List.any_cons,Bool.or_eq_false_iff] at h;have h1:decide (y=(t:Int))=false:=by rw [← e];exact h.1
  simp only [cnO,h1,cond_false,UN l n t h.2 e]
theorem Zi {l:List NODE} {k:Int} (h:Bk l k=true) (t:Nat):cnO (rd l k zN).2.2.2 t≤1:=by
 simp only [Bk,GW,NA,Bool.and_eq_true,List.all_eq_true] at h;have hd:=h.2.2.2.2.2
 generalize rd l k zN=x at hd;have key:∀ i,i≤x.2.2.2.length→cnO (x.2.2.2.take i) t≤1:=by
  intro i
  induction i with
  | zero=>intro _;simp [cnO]
  | succ i ih=>
   intro hi;have hi':i<x.2.2.2.length:=by omega
   have:=hd i (by simpa using hi')
   simp only [NT,Bool.and_eq_true,Bool.not_eq_true'] at this;have hh:=this.2.2
   have e:x.2.2.2.getD i 0=x.2.2.2[i]:=by simp [hi']
   rw [e] at hh;rw [List.take_succ_eq_append_getElem hi',eo]
   by_cases et:x.2.2.2[i]=(t:Int)
   ·rw [UN _ _ t hh et];simp only [cnO,decide_eq_true et,cond_true];omega
   ·simp only [cnO,decide_eq_false et,cond_false];have:=ih (by omega)
    omega
 have:=key x.2.2.2.length (Nat.le_refl _)
 rwa [List.take_length] at this
def AllN (l:List NODE):Prop:=∀ k:Nat,k<l.length→Bk l (k:Int)=true∧dAt l k≠0
theorem UI {l:List NODE} (h:(0:Int)<AQ l ((l.length:Int) - 1)):AllN l:=fun k hk=>by
 obtain⟨h1,h2,h3⟩:=Av h;have h4:=h3 (k:Int) (by omega) (by omega)
 refine⟨(Av h4).2.1,?_⟩
 unfold AQ at h4;rw [decide_eq_true (by omega),cond_true,Int.toNat_natCast] at h4;omega
theorem AllN.kd {l:List NODE} (h:AllN l):Kd l:=⟨fun x hx y hy=>by
 obtain⟨k,hk,rfl⟩:=List.getElem_of_mem hx;have h1:=NU (h k hk).1
 rw [AZ hk] at h1;have:=h1 y hy
 omega⟩
theorem gY {l:List NODE} (h:AllN l) (t:Nat):us l t≤l.length:=by
 have key:∀ k,k≤l.length→us (l.take k) t≤k:=by
  intro k
  induction k with
  | zero=>intro _;simp [us]
  | succ k ih=>
   intro hk;have hk':k<l.length:=by omega
   have h1:=Zi (h k hk').1 t
   rw [AZ hk'] at h1;rw [List.take_succ_eq_append_getElem hk',fk];have:=ih (by omega)
   simp only [us];omega
 have:=key l.length (Nat.le_refl _)
 rwa [List.take_length] at this
def GX (p:PROG):Bool:=decide (1≤(p.1.length:Int)∧(p.1.length:Int)≤300) && (decide (1≤(p.2.length:Int)∧(p.2.length:Int)≤8) && (decide ((0:Int)<AQ p.1 ((p.1.length:Int) - 1)) && (SS p && ZY 1000 (tb p.1.length ((KY p.2).foldl add (U p.1))))))
theorem NI (p:PROG) (hp:FineP p):FF p=some (GX p,()):=by
 unfold FF GX;simp only [sIn,Option.bind_some]
 by_cases h1:1≤(p.1.length:Int)∧(p.1.length:Int)≤300
 case neg=>simp only [h1,decide_false,Bool.not_false,cond_true,AD,Bool.false_and]
 by_cases h2:1≤(p.2.length:Int)∧(p.2.length:Int)≤8
 case neg=>simp only [h1,h2,and_self,decide_true,decide_false,Bool.not_true,Bool.not_false,cond_true,cond_false,AD,Bool.false_and,Bool.and_false]
 have hlast:p.1.length - 1<p.1.length:=by omega
 have ec:(p.1.length:Int) - 1=((p.1.length - 1:Nat):Int):=by omega
 have hD:=Mi p.1 hp.n (p.1.length - 1) hlast
 have hsucc:p.1.length - 1+1=p.1.length:=by omega
 rw [hsucc] at hD;have hlen:=FM p.1 p.1.length
 have hg:=GP p.1 p.1.length (p.1.length - 1) hlast
 have hdA:AQ p.1 ((p.1.length - 1:Nat):Int)=dAt p.1 (p.1.length - 1):=by
  unfold AQ;rw [decide_eq_true (by omega),cond_true,Int.toNat_natCast]
 have hdl:=Ms p.1 (p.1.length - 1)
 have wr2:IntKind.wrap .i64 ((p.1.length - 1:Nat):Int)=((p.1.length - 1:Nat):Int):=Aq (by omega) (by omega)
 simp only [h1,h2,and_self,decide_true,Bool.not_true,cond_false,AD,Bool.true_and,ec,wr2,hD,Option.bind_some,hlen,AU hlast,hg,hdA]
 by_cases hz:dAt p.1 (p.1.length - 1)=0
 ·simp only [hz,decide_true,cond_true,show ¬ ((0:Int)<0) by decide,decide_false,Bool.false_and]
 have hpos:(0:Int)<dAt p.1 (p.1.length - 1):=by omega
 have hA:AllN p.1:=UI (by rw [ec,hdA];exact hpos)
 simp only [hz,hpos,decide_false,decide_true,cond_false,gZ p.1 hp.n hA.kd (by omega),Option.bind_some,Bool.true_and];have hU:BI 1000000000 (U p.1):=fun t=>by
  have:=gY hA t
  unfold U;omega
 rw [lU p hp _ hU];cases SS p
 ·simp only [cond_false,Bg,Bool.false_and]
 ·simp only [cond_true,BV,Option.bind_some,Bool.true_and];rw [gF _ (by rw [JW];omega)];cases ZY 1000 (tb p.1.length ((KY p.2).foldl add (U p.1)))<;>simp only [cond_true,cond_false,BV,Bg]
set_option maxRecDepth 100000
section
variable {L:List SIGN} (hL:L.length≤3000)
include hL
theorem KV (r:RD) (k:Int) (s:ByteArray) (h:ROk L r):wp (Bl r k s) fun y=>Pg L r y.2.1:=by
 unfold Bl;exact AG (AE (LO hL r h) fun v hv=>AG (AE (CP hL _ _ hv.ok) fun m hm=>AG (AE (DY hL _ _ (by simp) hm.ok) fun p hp=>AA (hv.mv (hm.toMv.trans hp)))))
abbrev FS:=RD→Option (List Int×RD×Unit)
theorem WU {r0 r0':FS} {r1 r1' r2 r2':FV} (r:RD) (h:ROk L r) (H1:∀ q,ROk L q→r.2.1≤q.2.1→wq (r1 q) (r1' q) fun y=>Pg L q y.2.1):wq (Dd r0 r1 r2 r) (Dd r0' r1' r2' r) fun y=>Mv L r y.2.1∧y.1.length≤100000:=by
 unfold Dd;refine BC (AJ (AI (AF (Hs (fun x:Ef=>Mv L r x.2.1∧((x.1.length:Int)≤x.2.1.2.1∨(x.2.1.2.2.1=true∧(x.1.length:Int)≤x.2.1.2.1+1))) (fun x=>2 * (L.length - x.2.1.2.1).toNat+(bif x.2.1.2.2.1 then 0 else 1)) (Q:=fun x:List Int×RD×Unit=>Mv L r x.2.1∧x.1.length≤100000) (fun x hx=>?_) ⟨.rfl' h,.inl (by have:=h.a0;simpa using this)⟩) fun z hz=>AI hz)))
 obtain⟨x1,x2,_⟩:=x;simp only at hx;obtain⟨g1,g2⟩:=hx;have ga:=g1.ok.a1
 unfold Hj;simp only;refine BC (AF (Q:=fun z:List Int×Bool×RD×Unit=>z.1=x1∧z.2.2.1=x2∧(z.2.1=true→x2.2.2.1=false)) (Ab (fun hb=>?_) fun _=>AI ⟨rfl,rfl,fun h=>by cases h⟩) fun z hz=>?_)
 ·have hbad:x2.2.2.1=false:=by
   cases hc:x2.2.2.1
   ·rfl
   ·rw [hc] at hb;cases hb
  refine AJ (AF (Ae (Vy hL x2 3 _ g1.ok)) fun y hy=>Ab (fun _=>?_) fun _=>AI ⟨rfl,hy.1,fun h=>by cases h⟩)
  rw [hy.1];exact AJ (AF (Ae (Vy hL x2 1 _ g1.ok)) fun y2 hy2=>AI ⟨rfl,hy2.1,fun _=>hbad⟩)
 obtain⟨z1,z2,z3,_⟩:=z;simp only at hz;obtain⟨e1,e2,hb⟩:=hz;subst e1 e2;simp only;refine Ab (fun hb2=>?_) fun _=>Bv (AI (BK ⟨g1,by simp only;omega⟩))
 have hbad:=hb hb2
 have gl:(z1.length:Int)≤z3.2.1:=by
  rcases g2 with g2 | ⟨g2,_⟩
  ·exact g2
  ·rw [hbad] at g2;cases g2
 refine AJ (AF (H1 _ g1.ok g1.le) fun y5 hy5=>Ap (by simp only [Cnd.holds,List.length_singleton];omega) (Bv (AI (Bc ⟨⟨(g1.pg hy5).toMv,?_⟩,?_⟩))))
 ·have h2:=hy5.le
  simp only [List.length_append,List.length_singleton];rcases hy5.pg with h1 | h1
  ·exact .inr ⟨h1,by omega⟩
  ·exact .inl (by omega)
 ·have h2:=hy5.le
  have h3:=hy5.ok.a1
  simp only [hbad,cond_false];rcases hy5.pg with h1 | h1
  ·rw [h1,cond_true];omega
  ·cases y5.2.1.2.2.1<;>simp only [cond_true,cond_false]<;>omega
theorem VZ {r0 r0':FS} {r1 r1' r2 r2':FV} (r:RD) (h:ROk L r) (H0:∀ q,ROk L q→r.2.1≤q.2.1→wq (r0 q) (r0' q) fun y=>Mv L q y.2.1∧y.1.length≤100000):wq (Dc r0 r1 r2 r) (Dc r0' r1' r2' r) fun y=>Pg L r y.2.1:=by
 unfold Dc;have m0:=(Mv.rfl' h).deep (IntKind.wrap .i64 (r.2.2.2.1+1))
 refine BC (AF (Q:=fun x:RD×Unit=>Mv L r x.1) (Ab (fun _=>AI ⟨⟨m0.ok.l,m0.ok.a0,m0.ok.a1,m0.ok.n,m0.ok.k⟩,Int.le_refl _,fun _=>rfl⟩) fun _=>AI m0) fun x hx=>?_)
 refine AJ (AF (Ae (CP hL _ _ hx.ok)) fun y2 hy2=>AJ (AF (H0 _ hy2.ok (Int.le_trans hx.le hy2.le)) fun y3 hy3=>AJ (AF (Ae (CP hL _ _ hy3.1.ok)) fun y4 hy4=>?_)))
 have p:=((hx.pg hy2).mv (hy3.1.trans hy4.toMv)).deep (IntKind.wrap .i64 (y4.1.2.2.2.1 - 1))
 exact AJ (AF (Ae (DY hL _ _ hy3.2 p.ok)) fun y5 hy5=>AI (p.mv hy5))
theorem WT {r0 r0':FS} {r1 r1' r2 r2':FV} (r:RD) (h:ROk L r) (H2:∀ q,ROk L q→r.2.1<q.2.1→wq (r2 q) (r2' q) fun y=>Pg L q y.2.1):wq (EB r0 r1 r2 r) (EB r0' r1' r2' r) fun y=>Pg L r y.2.1:=by
 unfold EB;have nx:∀ {a b:RD},Mv L r a→a.2.1<b.2.1→r.2.1<b.2.1:=fun h1 h2=>by have:=h1.le;omega
 refine AJ (AF (Ae (BF hL _ 1 _ h)) fun y1 hy1=>Ab (fun hb=>?_) (fun _=>?_))
 ·have p:=(hy1.2 hb).1
  exact AJ (AF (Ae (Fu hL _ p.ok)) fun n hn=>AJ (AF (Ae (CP hL _ _ hn.ok)) fun m hm=>AJ (AF (Ae (KV hL _ _ _ hm.ok)) fun q hq=>AI (p.mv (hn.toMv.trans (hm.toMv.trans hq.toMv))))))
 have m1:=hy1.1
 refine AJ (AF (Ae (BF hL _ 3 _ m1.ok)) fun y5 hy5=>Ab (fun hb=>?_) (fun _=>?_))
 ·have p:=m1.pg (hy5.2 hb).1
  exact AJ (AF (Ae (Fu hL _ p.ok)) fun n hn=>AJ (AF (Ae (CP hL _ _ hn.ok)) fun m hm=>AJ (AF (Ae (KV hL _ _ _ hm.ok)) fun q hq=>AI (p.mv (hn.toMv.trans (hm.toMv.trans hq.toMv))))))
 have m2:=m1.trans hy5.1
 refine AJ (AF (Ae (BF hL _ 1 _ m2.ok)) fun y9 hy9=>Ab (fun hb=>?_) (fun _=>?_))
 ·have p:=m2.pg (hy9.2 hb).1
  have pl:=nx m2 (hy9.2 hb).2
  refine AJ (AF (Ae (LO hL _ p.ok)) fun v hv=>AJ (AF (H2 _ hv.ok (by have:=hv.le;omega)) fun b hb2=>AJ (AF (Ae (BF hL _ 1 _ hb2.ok)) fun e he=>BC (AF (Q:=fun x:Int×Int×RD×Unit=>Pg L r x.2.2.1∧r.2.1<x.2.2.1.2.1) (Ab (fun _=>?_) fun _=>?_) fun x hx=>?_))))
  ·have q:=(p.mv (hv.toMv.trans (hb2.toMv.trans he.1)))
   exact AI ⟨q.toMv.bad,by have:=hv.le;have:=hb2.le;have:=he.1.le;simp only;omega⟩
  ·exact AI ⟨p.mv (hv.toMv.trans (hb2.toMv.trans he.1)),by have:=hv.le;have:=hb2.le;have:=he.1.le;simp only;omega⟩
  ·exact AJ (AF (H2 _ hx.1.ok hx.2) fun d hd=>AJ (AF (Ae (DY hL _ _ (by simp) hd.ok)) fun q hq=>AI (hx.1.mv (hd.toMv.trans hq))))
 have m3:=m2.trans hy9.1
 refine AJ (AF (Ae (BF hL _ 1 _ m3.ok)) fun y16 hy16=>Ab (fun hb=>?_) (fun _=>?_))
 ·have p:=m3.pg (hy16.2 hb).1
  have pl:=nx m3 (hy16.2 hb).2
  exact AJ (AF (Ae (LO hL _ p.ok)) fun v hv=>AJ (AF (H2 _ hv.ok (by have:=hv.le;omega)) fun b hb2=>AJ (AF (Ae (DY hL _ _ (by simp) hb2.ok)) fun q hq=>AI (p.mv (hv.toMv.trans (hb2.toMv.trans hq))))))
 have m4:=m3.trans hy16.1
 refine AJ (AF (Ae (BF hL _ 1 _ m4.ok)) fun y20 hy20=>Ab (fun hb=>?_) (fun _=>?_))
 ·have p:=m4.pg (hy20.2 hb).1
  exact AJ (AF (Ae (KV hL _ _ _ p.ok)) fun q hq=>AI (p.mv hq.toMv))
 have m5:=m4.trans hy20.1
 refine AJ (AF (Ae (BF hL _ 1 _ m5.ok)) fun y22 hy22=>Ab (fun hb=>?_) (fun _=>?_))
 ·have p:=m5.pg (hy22.2 hb).1
  exact AJ (AF (Ae (KV hL _ _ _ p.ok)) fun q hq=>AI (p.mv hq.toMv))
 have m6:=m5.trans hy22.1
 exact AJ (AF (Ae (Fu hL _ m6.ok)) fun n hn=>AJ (AF (Ae (CP hL _ _ hn.ok)) fun m hm=>AJ (AF (Ae (KV hL _ _ _ hm.ok)) fun q hq=>AI ((m6.pg hn).mv (hm.toMv.trans hq.toMv)))))
theorem aj:∀ k:Nat,(∀ n n',3 * k+2≤n→3 * k+2≤n'→∀ r,ROk L r→L.length - r.2.1≤k→wq ((AL n).2.1 r) ((AL n').2.1 r) fun y=>Pg L r y.2.1) ∧
 (∀ n n',3 * k+3≤n→3 * k+3≤n'→∀ r,ROk L r→L.length - r.2.1≤k→wq ((AL n).1 r) ((AL n').1 r) fun y=>Mv L r y.2.1∧y.1.length≤100000) ∧
 (∀ n n',3 * k+4≤n→3 * k+4≤n'→∀ r,ROk L r→L.length - r.2.1≤k→wq ((AL n).2.2.1 r) ((AL n').2.2.1 r) fun y=>Pg L r y.2.1):=by
 have main:∀ k:Nat,(∀ n n',3 * k+1≤n→3 * k+1≤n'→∀ r,ROk L r→L.length - r.2.1<k→wq ((AL n).2.2.1 r) ((AL n').2.2.1 r) fun y=>Pg L r y.2.1) →
  (∀ n n',3 * k+2≤n→3 * k+2≤n'→∀ r,ROk L r→L.length - r.2.1≤k→wq ((AL n).2.1 r) ((AL n').2.1 r) fun y=>Pg L r y.2.1) ∧
  (∀ n n',3 * k+3≤n→3 * k+3≤n'→∀ r,ROk L r→L.length - r.2.1≤k→wq ((AL n).1 r) ((AL n').1 r) fun y=>Mv L r y.2.1∧y.1.length≤100000) ∧
  (∀ n n',3 * k+4≤n→3 * k+4≤n'→∀ r,ROk L r→L.length - r.2.1≤k→wq ((AL n).2.2.1 r) ((AL n').2.2.1 r) fun y=>Pg L r y.2.1):=by
  intro k iB;have hT:∀ n n',3 * k+2≤n→3 * k+2≤n'→∀ r,ROk L r→L.length - r.2.1≤k→wq ((AL n).2.1 r) ((AL n').2.1 r) fun y=>Pg L r y.2.1:=by
   intro n n' hn hn' r h hk;obtain⟨n,rfl⟩:∃ j,n=j+1:=⟨n - 1,by omega⟩
   obtain⟨n',rfl⟩:∃ j,n'=j+1:=⟨n' - 1,by omega⟩
   exact WT hL (r0:=(AL n).1) (r0':=(AL n').1) (r1:=(AL n).2.1) (r1':=(AL n').2.1) r h (fun q hq hlt=>iB n n' (by omega) (by omega) q hq (by omega))
  have hS:∀ n n',3 * k+3≤n→3 * k+3≤n'→∀ r,ROk L r→L.length - r.2.1≤k→wq ((AL n).1 r) ((AL n').1 r) fun y=>Mv L r y.2.1∧y.1.length≤100000:=by
   intro n n' hn hn' r h hk;obtain⟨n,rfl⟩:∃ j,n=j+1:=⟨n - 1,by omega⟩
   obtain⟨n',rfl⟩:∃ j,n'=j+1:=⟨n' - 1,by omega⟩
   exact WU hL (r0:=(AL n).1) (r0':=(AL n').1) (r2:=(AL n).2.2.1) (r2':=(AL n').2.2.1) r h (fun q hq hle=>hT n n' (by omega) (by omega) q hq (by omega))
  refine⟨hT,hS,fun n n' hn hn' r h hk=>?_⟩
  obtain⟨n,rfl⟩:∃ j,n=j+1:=⟨n - 1,by omega⟩
  obtain⟨n',rfl⟩:∃ j,n'=j+1:=⟨n' - 1,by omega⟩
  exact VZ hL (r1:=(AL n).2.1) (r1':=(AL n').2.1) (r2:=(AL n).2.2.1) (r2':=(AL n').2.2.1) r h (fun q hq hle=>hS n n' (by omega) (by omega) q hq (by omega))
 intro k
 induction k with
 | zero=>exact main 0 fun n n' hn hn' r h hk=>by have:=h.a1;omega
 | succ k ih=>exact main (k+1) fun n n' hn hn' r h hk=>ih.2.2 n n' (by omega) (by omega) r h (by omega)
theorem XX (r:RD) (h:ROk L r):wp (Ea r) fun y=>Mv L r y.2.1∧y.1.length≤100000:=by
 unfold Ea;exact JX (3 * 3000+3) fun n hn=>(aj hL 3000).2.1 n _ hn (Nat.le_refl _) r h (by have:=h.a0;omega)
theorem UW (r:RD) (h:ROk L r):wp (DZ r) fun y=>Mv L r y.2.1:=by
 unfold DZ;refine AG (AE (BF hL _ 1 _ h) fun y1 hy1=>AP (fun _=>AA hy1.1) fun _=>AG (AE (BF hL _ 1 _ hy1.1.ok) fun y2 hy2=>AP (fun _=>AA (hy1.1.trans hy2.1)) fun _=>?_))
 have m2:=hy1.1.trans hy2.1
 refine AG (AE (CP hL _ _ m2.ok) fun y3 hy3=>AG (AE (BF hL _ 1 _ hy3.ok) fun y4 hy4=>Ah (AE (Q:=fun x:Int×RD×Unit=>Mv L r x.2.1) (AP (fun _=>AA (m2.trans (hy3.toMv.trans hy4.1))) fun _=>AA (m2.trans (hy3.toMv.trans hy4.1))) fun x hx=>?_)))
 refine AG (AE (BF hL _ 1 _ hx.ok) fun y6 hy6=>Ah (AE (Q:=fun x:Int×RD×Unit=>Mv L r x.2.1) (AP (fun _=>AA (hx.trans hy6.1).bad.toMv) fun _=>AA (hx.trans hy6.1)) fun z hz=>AA hz))
theorem fa (r:RD) (h:ROk L r):wp (GJ r) fun y=>Pg L r y.2.1∧(y.1:FN).2.1.length≤100000:=by
 unfold GJ;refine AG (AE (BF hL _ 1 _ h) fun y1 hy1=>Ah (AE (Q:=fun x:RD×FN×Unit=>Pg L r x.1) (AP (fun _=>AA hy1.1.bad) fun hb=>AA (hy1.2 ?_).1) fun x2 hx2=>?_))
 ·cases hc:y1.1
  ·rw [hc] at hb;cases hb
  ·rfl
 refine AG (AE (Fu hL _ hx2.ok) fun y3 hy3=>AG (AE (CP hL _ _ hy3.ok) fun y4 hy4=>AG (AE (BF hL _ 3 _ hy4.ok) fun y5 hy5=>?_)))
 have p5:=hx2.mv (hy3.toMv.trans (hy4.toMv.trans hy5.1))
 refine Ah (AE (Q:=fun x:RD×FN×FN×Unit=>Pg L r x.1∧x.2.2.1.2.1.length≤100000) (AP (fun _=>?_) fun _=>AA ⟨p5,by simp⟩) fun x13 hx13=>?_)
 ·refine Ah (AG (AA (AE (wp_loop (fun x:Fy=>Pg L r x.1∧((x.2.2.1.2.1.length:Int)≤x.1.2.1∨(x.1.2.2.1=true∧(x.2.2.1.2.1.length:Int)≤x.1.2.1+1))) (fun x=>2 * (L.length - x.1.2.1).toNat+(bif x.1.2.2.1 then 0 else 1)) (Q:=fun x:RD×FN×FN×Unit=>Pg L r x.1∧x.2.2.1.2.1.length≤100000) (fun x hx=>?_) ⟨p5,.inl (by have:=p5.ok.a0;simpa using this)⟩) fun z hz=>AA hz)))
  obtain⟨x1,x2,x3,_⟩:=x;simp only at hx;obtain⟨g1,g2⟩:=hx;have ga:=g1.ok.a1
  unfold JI;simp only;refine AP (fun hb=>?_) fun _=>Aj (AA (BK ⟨g1,by simp only;omega⟩))
  have hbad:x1.2.2.1=false:=by
   cases hc:x1.2.2.1
   ·rfl
   ·rw [hc] at hb;cases hb
  have gl:(x3.2.1.length:Int)≤x1.2.1:=by
   rcases g2 with g2 | ⟨g2,_⟩
   ·exact g2
   ·rw [hbad] at g2;cases g2
  refine AG (AE (Fu hL _ g1.ok) fun y7 hy7=>AG (AE (CP hL _ _ hy7.ok) fun y8 hy8=>AG (AE (UW hL _ hy8.ok) fun y9 hy9=>AM (by simp only [Cnd.holds,List.length_singleton];omega) (AG (AE (BF hL _ 3 _ hy9.ok) fun y10 hy10=>?_)))))
  have m10:=hy7.mv (hy8.toMv.trans (hy9.trans hy10.1))
  refine AP (fun _=>Aj (AA (BK ⟨g1.mv m10.toMv,by simp only [List.length_append,List.length_singleton];omega⟩))) fun _=>AG (AE (CP hL _ _ hy10.1.ok) fun y11 hy11=>Aj (AA (Bc ⟨⟨g1.mv (m10.mv hy11.toMv).toMv,?_⟩,?_⟩)))
  ·have h2:=(m10.mv hy11.toMv).le
   simp only [List.length_append,List.length_singleton];rcases(m10.mv hy11.toMv).pg with h1 | h1
   ·exact .inr ⟨h1,by omega⟩
   ·exact .inl (by omega)
  ·have h2:=(m10.mv hy11.toMv).le
   have h3:=hy11.ok.a1
   simp only [hbad,cond_false];rcases(m10.mv hy11.toMv).pg with h1 | h1
   ·rw [h1,cond_true];omega
   ·cases y11.1.2.2.1<;>simp only [cond_true,cond_false]<;>omega
 refine AG (AE (BF hL _ 3 _ hx13.1.ok) fun y14 hy14=>Ah (AE (Q:=fun x:RD×FN×FN×Unit=>Pg L r x.1∧x.2.2.1.2.1.length≤100000) (AP (fun _=>AG (AE (UW hL _ hy14.1.ok) fun k hk=>AA ⟨hx13.1.mv (hy14.1.trans hk),hx13.2⟩)) fun _=>AA ⟨hx13.1.mv hy14.1,hx13.2⟩) fun x16 hx16=>?_))
 refine AG (AE (CP hL _ _ hx16.1.ok) fun y17 hy17=>AG (AE (XX hL _ hy17.ok) fun y18 hy18=>AG (AE (DY hL _ _ hy18.2 hy18.1.ok) fun y19 hy19=>AG (AE (BF hL _ 1 _ hy19.ok) fun y20 hy20=>?_))))
 have p20:=hx16.1.mv (hy17.toMv.trans (hy18.1.trans (hy19.trans hy20.1)))
 refine Ah (AE (Q:=fun x:RD×FN×FN×Unit=>Pg L r x.1∧x.2.2.1.2.1.length≤100000) (AP (fun _=>AG (AE (LO hL _ p20.ok) fun v hv=>AG (AE (CP hL _ _ hv.ok) fun m hm=>AA ⟨p20.mv (hv.toMv.trans hm.toMv),hx16.2⟩))) fun _=>AA ⟨p20,hx16.2⟩) fun x23 hx23=>?_)
 exact AG (AE (CP hL _ _ hx23.1.ok) fun y24 hy24=>AA ⟨hx23.1.mv hy24.toMv,hx23.2⟩)
end
def PRd (p:PROG):Prop:=FineP p∧(GX p=true∨p=([],[]))
theorem Qd (t:ByteArray):wp (Ct t) fun y=>PRd y.1:=by
 unfold Ct;have hnil:PRd ([],[]):=⟨⟨⟨by simp,by simp⟩,by simp,by simp⟩,.inr rfl⟩
 refine AG (AE (Zz t) fun y1 hL=>AP (fun _=>AA hnil) fun _=>?_)
 refine Ah (AG (AA ?_))
 refine AE (wp_loop (fun x:FU=>x.1=([],[])∧ROk y1.1 x.2.2.1∧x.2.1.2.length≤10∧∀ f∈x.2.1.2,(f:FN).2.1.length≤100000) (fun x=>2 * (y1.1.length - x.2.2.1.2.1).toNat+(bif x.2.2.1.2.2.1 then 0 else 1)) (Q:=fun x:PROG×PROG×RD×Unit=>ROk y1.1 x.2.2.1∧x.2.1.2.length≤10∧∀ f∈x.2.1.2,(f:FN).2.1.length≤100000) (fun x hx=>?_) ⟨rfl,⟨rfl,by simp,by simp,by simp,by simp⟩,by simp,by simp⟩) (fun x hx=>?_)
 ·obtain⟨x0,x1,x2,_⟩:=x;simp only at hx;obtain⟨g0,g1,g2,g3⟩:=hx;subst g0;have ga:=g1.a1
  unfold Ic;simp only;refine Ah (AE (Q:=fun z:Bool×PROG×PROG×RD×Unit=>z.2.1=([],[])∧z.2.2.1=x1∧z.2.2.2.1=x2∧(z.1=true→x2.2.2.1=false∧x1.2.length≤8)) (AP (fun hb=>AP (fun _=>AA ⟨rfl,rfl,rfl,fun h=>⟨?_,?_⟩⟩) fun _=>AA ⟨rfl,rfl,rfl,fun h=>by cases h⟩) fun _=>AA ⟨rfl,rfl,rfl,fun h=>by cases h⟩) fun z hz=>?_)
  ·cases hc:x2.2.2.1
   ·rfl
   ·rw [hc] at hb;cases hb
  ·have:(List.length x1.2:Int)≤8:=by simpa using h
   omega
  obtain⟨z0,z1,z2,z3,_⟩:=z;simp only at hz;obtain⟨e1,e2,e3,hb⟩:=hz;subst e1 e2 e3;simp only;refine AP (fun hb2=>?_) fun _=>Aj (AA (BK ⟨g1,g2,g3⟩))
  obtain⟨hbad,h8⟩:=hb hb2;refine AG (AE (fa hL _ g1) fun y4 hy4=>AM (by simp only [Cnd.holds,List.length_singleton];omega) (Aj (AA (Bc ⟨⟨rfl,hy4.1.ok,by simp only [List.length_append,List.length_singleton];omega,fun f hf=>?_⟩,?_⟩))))
  ·rcases List.mem_append.1 hf with hf | hf
   ·exact g3 f hf
   ·rw [List.mem_singleton.1 hf];exact hy4.2
  ·have h2:=hy4.1.le
   have h3:=hy4.1.ok.a1
   simp only [hbad,cond_false];rcases hy4.1.pg with h1 | h1
   ·rw [h1,cond_true];omega
   ·cases y4.2.1.2.2.1<;>simp only [cond_true,cond_false]<;>omega
 ·obtain⟨x0,x1,x2,_⟩:=x;simp only at hx;obtain⟨g1,g2,g3⟩:=hx;have hf:FineP (x2.2.2.2.2,x1.2):=⟨⟨by have:=g1.n;simp only;omega,fun x hx=>by have:=g1.k x hx;omega⟩,by simp only;omega,fun f hf=>by have:=g3 f hf;omega⟩
  simp only;refine Ah (AE (Q:=fun z:Bool×PROG×PROG×Unit=>z.2.2.1=(x2.2.2.2.2,x1.2)∧(z.1=false→GX (x2.2.2.2.2,x1.2)=true)) (AP (fun _=>AA ⟨rfl,fun h=>by cases h⟩) fun _=>?_) fun z hz=>AP (fun _=>AA hnil) fun hb=>AA ?_)
  ·rw [NI _ hf];exact AG (AA (AA ⟨rfl,fun h=>by simpa using h⟩))
  ·obtain⟨z0,z1,z2,_⟩:=z;simp only at hz hb;obtain⟨e1,h1⟩:=hz;subst e1;exact⟨hf,.inl (h1 hb)⟩
theorem Uc (c:Cur) (h:COk c):wp (GI c) fun y=>PRd y.1∧COk y.2.1:=by
 unfold GI;refine AG (AE (bg c 9 (by omega) (by omega) h) fun y1 hy1=>AG (AE (Qd _) fun y2 hy2=>Ah (AE (Q:=fun x:Cur×PROG×PROG×Unit=>PRd x.2.2.1∧COk x.1) (AP (fun _=>?_) fun _=>AA ⟨hy2,hy1.2⟩) fun x hx=>AA hx)))
 exact AG (AE (Qd _) fun y3 hy3=>Ah (AE (Q:=fun x:Cur×PROG×PROG×Unit=>PRd x.2.2.1∧COk x.1) (AP (fun _=>AG (AE (Qd _) fun y4 hy4=>AA ⟨hy4,hy1.2⟩)) fun _=>AA ⟨hy3,hy1.2⟩) fun x hx=>AA hx))
set_option maxRecDepth 100000
theorem Qh (l:List NODE) (hl:FineN l) (n:Int):Iz l n=some (AQ l n,()):=by
 unfold Iz AQ;simp only [NV hl.len,sIn,Option.bind_some]
 by_cases hr:0≤n∧n≤(l.length:Int) - 1
 case neg=>simp only [hr,decide_false,Bool.not_false,cond_true,cond_false]
 obtain⟨k,rfl⟩:∃ m:Nat,n=(m:Int):=⟨n.toNat,by omega⟩
 have hk:k<l.length:=by omega
 simp only [hr,and_self,decide_true,Bool.not_true,cond_false,cond_true,Mi l hl k hk,Option.bind_some];rw [AU (show k<(Az l (k+1)).length by rw [FM];omega),GP l (k+1) k (by omega)];rfl
end Go.Proofs.YtmakhmoielhjeaaGreatDoorE

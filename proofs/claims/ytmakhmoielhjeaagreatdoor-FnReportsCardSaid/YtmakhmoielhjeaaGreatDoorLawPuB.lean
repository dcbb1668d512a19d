/- The engine, texts CodeW Copy DrawL DrawM DrawN DrawC Dec ShowWord Listing ShowEnding X: how code is reckoned as Lean functions, and that it is sound. No condition. -/
import Derived.Test.YtmakhmoielhjeaaGreatDoorLawPuA
import Derived.KernelRfl
set_option linter.all false
namespace Go.Proofs.YtmakhmoielhjeaaGreatDoorE
set_option linter.all false
set_option maxRecDepth 100000
abbrev INS:=Int×(Int×(Int×(Int×(Int×(ByteArray×List Int)))))
abbrev CODE:=ByteArray×(Int×(List Int×List INS))
structure Small (c:CODE):Prop where
 l:c.2.2.1.length≤1048576
 w:c.2.2.2.length≤1048576
def place (c:CODE) (n:Int):Bool:=decide (0≤n∧n≤(c.2.2.1.length:Int) - 1)
theorem len1 {n:Nat} (h:n≤1048576):IntKind.wrap .i64 ((n:Int) - 1)=(n:Int) - 1:=wrap64 (by omega) (by omega)
theorem sPlace (c:CODE) (h:Small c) (n:Int):spec_l11Place c n=some (place c n,()):=by
 simp only [spec_l11Place,len1 h.l,sIn,Option.bind_some,place]
def hasB (k:Int):Bool:=decide (2≤k∧k≤7) || (decide (9≤k∧k≤12) || (decide (k=14) || decide (k=15)))
def hasC (k:Int):Bool:=decide (10≤k∧k≤12)
theorem sHasB (k:Int):spec_l11HasB k=some (hasB k,()):=by
 simp only [spec_l11HasB,sIn,Option.bind_some,hasB]
 cases decide (2≤k∧k≤7)<;>cases decide (9≤k∧k≤12)<;>cases decide (k=14)<;>rfl
theorem sHasC (k:Int):spec_l11HasC k=some (hasC k,()):=by simp only [spec_l11HasC,sIn,Option.bind_some,hasC]
def okA (c:CODE) (w:INS):Bool:=bif decide (w.1=18) then decide (w.2.1=0) else (decide (w.1=13) || decide (w.1=20)) && decide (w.2.1 = -1) || place c w.2.1
def okB (c:CODE) (w:INS):Bool:=bif hasB w.1 then place c w.2.2.1 else decide (w.2.2.1=0)
def okC (c:CODE) (w:INS):Bool:=bif hasC w.1 then place c w.2.2.2.1 else decide (w.2.2.2.1=0)
def okN (c:CODE) (w:INS):Bool:=bif decide (w.1=1) then decide (0≤w.2.2.2.2.1∧w.2.2.2.2.1≤1000000000) else bif decide (w.1=18) || decide (w.1=19) then decide (0≤w.2.2.2.2.1∧w.2.2.2.2.1≤(c.2.2.2.length:Int) - 1) else decide (w.2.2.2.2.1=0)
def okR (c:CODE) (w:INS):Bool:=bif decide (w.1=13) then w.2.2.2.2.2.2.all (place c) && (nameOk w.2.2.2.2.2.1 && decide ((w.2.2.2.2.2.2.length:Int)≤3)) else decide (w.2.2.2.2.2.1=(⟨#[]⟩:ByteArray)) && decide ((w.2.2.2.2.2.2.length:Int)=0)
def wordOk (c:CODE) (w:INS):Bool:=decide (1≤w.1∧w.1≤20) && (okA c w && (okB c w && (okC c w && (okN c w && okR c w))))
theorem sA (c:CODE) (h:Small c) (w:INS):spec_l11A c w=some (okA c w,()):=by
 simp only [spec_l11A,okA]
 by_cases h1:w.1=13
 ·simp only [h1,decide_true,cond_true,joinP_some,show ¬ ((13:Int)=18) by decide,decide_false,cond_false,Bool.true_or,Bool.true_and,sPlace c h,Option.bind_some]
  cases decide (w.2.1 = -1)<;>rfl
 ·by_cases h2:w.1=20
  ·simp only [h2,show ¬ ((20:Int)=13) by decide,decide_true,decide_false,cond_true,cond_false,joinP_some,show ¬ ((20:Int)=18) by decide,Bool.or_true,Bool.true_and,sPlace c h,Option.bind_some]
   cases decide (w.2.1 = -1)<;>rfl
  ·simp only [h1,h2,decide_false,cond_false,joinP_some,Bool.or_self,Bool.false_and,Bool.false_or,sPlace c h,Option.bind_some]
   cases decide (w.1=18)<;>rfl
theorem args_loopS (c:CODE) (h:Small c) (w:INS) (hl:w.2.2.2.2.2.2.length≤1048576):loopF L1_spec_WordOk ((0:Int),c,w,())=some (bif w.2.2.2.2.2.2.all (place c) then .inl (w,()) else .inr (false,())):=by
 exact loopF_all (step:=L1_spec_WordOk) w.2.2.2.2.2.2 (place c) (fun k=>((k:Int),c,w,())) (.inl (w,())) (.inr (false,())) (fun k hk=>by
  simp only [L1_spec_WordOk,lt_cast hk,decide_true,cond_true,idx_run hk,rd_nat hk,sPlace c h,Option.bind_some,wrapSucc (show k<9223372036854775807 by omega)]
  cases place c w.2.2.2.2.2.2[k]<;>rfl) (by
  simp only [L1_spec_WordOk,not_lt_self,decide_false,cond_false,Option.map_some])
theorem spec_WordOk_ok (c:CODE) (h:Small c) (w:INS) (hl:w.2.2.2.2.2.2.length≤1048576):spec_WordOk c w=some (wordOk c w,()):=by
 unfold spec_WordOk wordOk
 simp only [sIn,sA c h,Option.bind_some]
 by_cases h1:1≤w.1∧w.1≤20
 case neg=>simp only [h1,decide_false,Bool.not_false,cond_true,joinP_some,Bool.false_and]
 simp only [h1,and_self,decide_true,Bool.not_true,cond_false,joinP_some,Bool.true_and]
 cases okA c w
 case false=>simp only [Bool.not_false,cond_true,Bool.false_and]
 simp only [Bool.not_true,cond_false,Bool.true_and,sHasB,sPlace c h,Option.bind_some]
 have eB:(bif hasB w.1 then bif !place c w.2.2.1 then some (true,c,w,()) else bif !hasB w.1 then some (decide (w.2.2.1≠0),c,w,()) else some (false,c,w,()) else bif !hasB w.1 then some (decide (w.2.2.1≠0),c,w,()) else some (false,c,w,()))=some (!okB c w,c,w,()):=by
  simp only [okB]
  cases hasB w.1<;>cases place c w.2.2.1<;>by_cases e:w.2.2.1=0<;>simp [e]
 rw [eB,joinP_some]
 cases okB c w
 case false=>simp only [Bool.not_false,cond_true,Bool.false_and]
 simp only [Bool.not_true,cond_false,Bool.true_and,sHasC,sPlace c h,Option.bind_some]
 have eC:(bif hasC w.1 then bif !place c w.2.2.2.1 then some (true,c,w,()) else bif !hasC w.1 then some (decide (w.2.2.2.1≠0),c,w,()) else some (false,c,w,()) else bif !hasC w.1 then some (decide (w.2.2.2.1≠0),c,w,()) else some (false,c,w,()))=some (!okC c w,c,w,()):=by
  simp only [okC]
  cases hasC w.1<;>cases place c w.2.2.2.1<;>by_cases e:w.2.2.2.1=0<;>simp [e]
 rw [eC,joinP_some]
 cases okC c w
 case false=>simp only [Bool.not_false,cond_true,Bool.false_and]
 simp only [Bool.not_true,cond_false,Bool.true_and,sIn,Option.bind_some,len1 h.w]
 have fin:(bif decide (w.1≠13) then joinP (bif decide (w.2.2.2.2.2.1=(⟨#[]⟩:ByteArray)) then some (decide ((w.2.2.2.2.2.2.length:Int)=0),()) else some (false,())) fun x19=>some (x19.1,()) else joinS ((some ((0:Int),c,w,())).bind fun x200=>loopF L1_spec_WordOk x200) fun x22=>joinP ((spec_NameOk x22.1.2.2.2.2.2.1).bind fun y23=>bif y23.1 then some (decide ((x22.1.2.2.2.2.2.2.length:Int)≤3),()) else some (false,())) fun x24=>some (x24.1,()))=some (okR c w,()):=by
  simp only [okR]
  by_cases h13:w.1=13
  ·simp only [h13,ne_eq,not_true_eq_false,decide_false,cond_false,Option.bind_some,args_loopS c h w hl,decide_true,cond_true]
   cases w.2.2.2.2.2.2.all (place c)
   ·simp only [cond_false,joinS_inr,Bool.false_and]
   ·simp only [cond_true,joinS_inl,spec_NameOk_ok,Option.bind_some,Bool.true_and]
    cases nameOk w.2.2.2.2.2.1<;>rfl
  ·simp only [h13,ne_eq,not_false_eq_true,decide_true,cond_true,decide_false,cond_false]
   cases decide (w.2.2.2.2.2.1=(⟨#[]⟩:ByteArray))<;>rfl
 simp only [okN]
 by_cases hk1:w.1=1
 ·simp only [hk1,decide_true,cond_true]
  cases decide (0≤w.2.2.2.2.1∧w.2.2.2.2.1≤1000000000)
  ·simp only [Bool.not_false,cond_true,Option.map_some,joinS_inr,Bool.false_and]
  ·simp only [Bool.not_true,cond_false,Option.map_some,joinS_inl,Bool.true_and]
   exact fin
 ·have e15:(bif decide (w.1=18) then some (decide (w.1=18),c,w,()) else some (decide (w.1=19),c,w,()))=some (decide (w.1=18) || decide (w.1=19),c,w,()):=by
   cases decide (w.1=18)<;>rfl
  simp only [hk1,decide_false,cond_false]
  rw [e15,joinP_some]
  cases decide (w.1=18) || decide (w.1=19)
  ·simp only [cond_false]
   by_cases hz:w.2.2.2.2.1=0
   ·simp only [hz,ne_eq,not_true_eq_false,decide_false,cond_false,joinS_inl,Option.map_some,decide_true,Bool.true_and]
    exact fin
   ·simp only [hz,ne_eq,not_false_eq_true,decide_true,cond_true,Option.map_some,joinS_inr,decide_false,Bool.false_and]
  ·simp only [cond_true,sIn,Option.bind_some,len1 h.w]
   cases decide (0≤w.2.2.2.2.1∧w.2.2.2.2.1≤(c.2.2.2.length:Int) - 1)
   ·simp only [Bool.not_false,cond_true,Option.map_some,joinS_inr,Bool.false_and]
   ·simp only [Bool.not_true,cond_false,joinS_inl,Option.map_some,Bool.true_and]
    exact fin
structure FineC (c:CODE):Prop where
 s:Small c
 a:∀ w∈c.2.2.2,(w:INS).2.2.2.2.2.2.length≤1048576
def localOk (n:Int):Bool:=decide (1≤n∧n≤4)
def codeOk (c:CODE):Bool:=nameOk c.1 && (decide (c.2.2.1.length≤200) && (decide (0≤c.2.1∧c.2.1≤(c.2.2.1.length:Int)) && (decide (1≤c.2.2.2.length∧c.2.2.2.length≤400) && (decide ((c.2.2.2.getD (c.2.2.2.length - 1) (0,0,0,0,0,⟨#[]⟩,[])).1=20) && (c.2.2.1.all localOk && c.2.2.2.all (wordOk c))))))
theorem locals_loopS (c:CODE) (h:FineC c):loopF L1_spec_CodeOk ((0:Int),c,())=some (bif c.2.2.1.all localOk then .inl (c,()) else .inr (false,())):=by
 have hl:=h.s.l
 exact loopF_all (step:=L1_spec_CodeOk) c.2.2.1 localOk (fun k=>((k:Int),c,())) (.inl (c,())) (.inr (false,())) (fun k hk=>by
  simp only [L1_spec_CodeOk,lt_cast hk,decide_true,cond_true,idx_run hk,rd_nat hk,sIn,Option.bind_some,wrapSucc (show k<9223372036854775807 by omega),localOk]
  cases decide (1≤c.2.2.1[k]∧c.2.2.1[k]≤4)<;>rfl) (by
  simp only [L1_spec_CodeOk,not_lt_self,decide_false,cond_false,Option.map_some])
theorem words_loopS (c:CODE) (h:FineC c):loopF L2_spec_CodeOk ((0:Int),c,())=some (bif c.2.2.2.all (wordOk c) then .inl () else .inr (false,())):=by
 have hl:=h.s.w
 exact loopF_all (step:=L2_spec_CodeOk) c.2.2.2 (wordOk c) (fun k=>((k:Int),c,())) (.inl ()) (.inr (false,())) (fun k hk=>by
  simp only [L2_spec_CodeOk,lt_cast hk,decide_true,cond_true,idx_run hk,rd_nat hk,spec_WordOk_ok c h.s _ (h.a _ (List.getElem_mem hk)),Option.bind_some,wrapSucc (show k<9223372036854775807 by omega)]
  cases wordOk c c.2.2.2[k]<;>rfl) (by
  simp only [L2_spec_CodeOk,not_lt_self,decide_false,cond_false,Option.map_some])
theorem last_cast {n:Nat} (h:1≤n):(n:Int) - 1=((n - 1:Nat):Int):=by omega
theorem rd_getD {α:Type} (l:List α) (k:Nat) (z:α):rd l (k:Int) z=l.getD k z:=by simp [rd]
theorem head_code (c:CODE) (h:FineC c) (nm:Bool) (r:Bool×CODE×Unit→Option (Bool×Unit)):
 (joinP (bif !nm then some (true,c,()) else bif decide ((200:Int)<(c.2.2.1.length:Int)) then some (true,c,()) else bif !decide ((0:Int)≤c.2.1∧c.2.1≤(c.2.2.1.length:Int)) then some (true,c,()) else bif !decide ((1:Int)≤(c.2.2.2.length:Int)∧(c.2.2.2.length:Int)≤400) then some (true,c,()) else
  (Cnd.idx ((c.2.2.2.length:Int) - 1) (c.2.2.2.length)).run (some (decide ((rd c.2.2.2 ((c.2.2.2.length:Int) - 1) (0,0,0,0,0,⟨#[]⟩,[])).1≠(20:Int)),c,()))) r) =
 r (!(nm && (decide (c.2.2.1.length≤200) && (decide (0≤c.2.1∧c.2.1≤(c.2.2.1.length:Int)) && (decide (1≤c.2.2.2.length∧c.2.2.2.length≤400) && decide ((c.2.2.2.getD (c.2.2.2.length - 1) (0,0,0,0,0,⟨#[]⟩,[])).1=20))))),c,()):=by
 have e1:decide ((200:Int)<(c.2.2.1.length:Int)) = !decide (c.2.2.1.length≤200):=by
  by_cases e:c.2.2.1.length≤200
  ·rw [decide_eq_true e,decide_eq_false (by omega)];rfl
  ·rw [decide_eq_false e,decide_eq_true (by omega)];rfl
 have e2:decide ((1:Int)≤(c.2.2.2.length:Int)∧(c.2.2.2.length:Int)≤400)=decide (1≤c.2.2.2.length∧c.2.2.2.length≤400):=by
  by_cases e:1≤c.2.2.2.length∧c.2.2.2.length≤400
  ·rw [decide_eq_true e,decide_eq_true (by omega)]
  ·rw [decide_eq_false e,decide_eq_false (by omega)]
 rw [e1,e2]
 cases nm
 ·rfl
 cases decide (c.2.2.1.length≤200)
 ·rfl
 cases decide (0≤c.2.1∧c.2.1≤(c.2.2.1.length:Int))
 ·rfl
 by_cases e:1≤c.2.2.2.length∧c.2.2.2.length≤400
 ·have hlt:c.2.2.2.length - 1<c.2.2.2.length:=by omega
  simp only [e,and_self,decide_true,Bool.not_true,cond_false,last_cast e.1,idx_run hlt,rd_getD,joinP_some,Bool.true_and]
  by_cases e3:(c.2.2.2.getD (c.2.2.2.length - 1) (0,0,0,0,0,⟨#[]⟩,[])).1=20
  ·simp [e3]
  ·simp [e3]
 ·rw [decide_eq_false e];rfl
theorem spec_CodeOk_ok (c:CODE) (h:FineC c):spec_CodeOk c=some (codeOk c,()):=by
 unfold spec_CodeOk codeOk
 simp only [spec_NameOk_ok,sIn,Option.bind_some,len1 h.s.w]
 rw [head_code c h]
 have hsp:∀ a b d e f g i:Bool,(a && (b && (d && (e && (f && (g && i))))))=((a && (b && (d && (e && f)))) && (g && i)):=by decide
 rw [hsp]
 cases nameOk c.1 && (decide (c.2.2.1.length≤200) && (decide (0≤c.2.1∧c.2.1≤(c.2.2.1.length:Int)) && (decide (1≤c.2.2.2.length∧c.2.2.2.length≤400) && decide ((c.2.2.2.getD (c.2.2.2.length - 1) (0,0,0,0,0,⟨#[]⟩,[])).1=20))))
 ·rfl
 simp only [Bool.not_true,cond_false,Bool.true_and,locals_loopS c h]
 cases c.2.2.1.all localOk
 ·rfl
 simp only [cond_true,joinS_inl,Option.bind_some,words_loopS c h,Bool.true_and]
 cases c.2.2.2.all (wordOk c)<;>rfl
end Go.Proofs.YtmakhmoielhjeaaGreatDoorE
namespace Go.Proofs.YtmakhmoielhjeaaGreatDoorE
set_option linter.all false
set_option maxRecDepth 100000
theorem nil_le {α β:Type} {l:List α} {n m:Nat} {K:Option β} (h:l.length * n≤m):(Cnd.le ((List.length ([]:List α)+l.length) * n) m).run K=K:=by
 rw [le_run];simpa using h
theorem spec_words (l:List INS) (hl:l.length≤1048576) (ha:∀ w∈l,(w:INS).2.2.2.2.2.2.length≤1048576):spec_l11Words l=some (l,()):=by
 have h:=loopF_push (step:=L1_spec_l11Words) l (fun w=>w) (fun k o=>(l,o,(k:Int),())) (fun o=>(o,())) (fun k hk o ho=>by
  have h1:=ha _ (List.getElem_mem hk)
  simp only [L1_spec_l11Words,lt_cast hk,decide_true,cond_true,idx_run hk,rd_nat hk,List.nil_append,Option.map_some,wrapSucc (show k<9223372036854775807 by omega)]
  rw [nil_le (by omega),le_run (by rw [ho];simp;omega)]) (fun o ho=>by
  simp only [L1_spec_l11Words,not_lt_self,decide_false,cond_false,Option.map_some])
 have h':loopF L1_spec_l11Words (l,[],(0:Int),())=_:=h
 simp only [spec_l11Words,Option.bind_some,h',joinP_some,List.map_id']
theorem spec_copy (c:CODE) (h:FineC c):spec_l11Copy c=some (c,()):=by
 have h1:=h.s.l
 simp only [spec_l11Copy,spec_words _ h.s.w h.a,Option.bind_some,List.nil_append]
 rw [nil_le (by omega)]
abbrev zI:INS:=((0:Int),((0:Int),((0:Int),((0:Int),((0:Int),((⟨#[]⟩:ByteArray),[]))))))
end Go.Proofs.YtmakhmoielhjeaaGreatDoorE
namespace Go.Proofs.YtmakhmoielhjeaaGreatDoorE
set_option linter.all false
set_option maxRecDepth 100000
theorem fold_dstep (ds:List Int):∀ (ys:List Int) (d:Int),d≤ys.foldl (dStep ds) d∧∀ y∈ys,rd ds y (0:Int)+1≤ys.foldl (dStep ds) d
 | [],d=>⟨Int.le_refl _,by simp⟩
 | y::ys,d=>by
  have h:=fold_dstep ds ys (dStep ds d y)
  have h1:d≤dStep ds d y∧rd ds y (0:Int)+1≤dStep ds d y:=by
   unfold dStep
   split<;>omega
  rw [List.foldl_cons]
  refine⟨by omega,fun z hz=>?_⟩
  rcases List.mem_cons.1 hz with hz | hz
  ·subst hz;omega
  ·exact h.2 z hz
theorem deep_kid {l:List NODE} {k:Int} (h:(0:Int)<deepAt l k) {y:Int} (hy:y∈(rd l k zN).2.2.2):deepAt l y+1≤deepAt l k:=by
 have hp:=deepAt_pos h
 have hk:=kid_pos h hy
 obtain⟨n,rfl⟩:∃ m:Nat,k=(m:Int):=⟨k.toNat,by omega⟩
 obtain⟨m,rfl⟩:∃ m:Nat,y=(m:Int):=⟨y.toNat,by omega⟩
 unfold deepAt at h ⊢
 rw [decide_eq_true (by omega),cond_true] at h
 rw [decide_eq_true (by omega),decide_eq_true (by omega),cond_true,cond_true]
 rw [Int.toNat_natCast] at h ⊢
 rw [Int.toNat_natCast]
 have e:dAt l n=dKids (deeps l n) (rd l (n:Int) zN):=by
  unfold dAt dNext at h ⊢
  cases hc:nodeOk l (n:Int) && (decide (n=0) || decide (rd (deeps l n) ((n:Int) - 1) (0:Int)≠0))
  ·rw [hc] at h;cases h
  ·rw [hc,cond_true] at h
   rw [cond_true]
   unfold dCut at h ⊢
   cases hd:decide ((10:Int)<dKids (deeps l n) (rd l (n:Int) zN))
   ·rfl
   ·rw [hd] at h;cases h
 have h2:=(fold_dstep (deeps l n) (rd l (n:Int) zN).2.2.2 1).2 _ hy
 rw [deeps_get l n m (by omega)] at h2
 rw [e];exact h2
theorem deep_ten (l:List NODE) (k:Int):deepAt l k≤10:=by
 unfold deepAt
 cases decide (0≤k∧k≤(l.length:Int) - 1)
 ·show(0:Int)≤10;omega
 ·exact(dAt_le l k.toNat).2
def W:Nat→Nat
 | 0=>0
 | n+1=>12 * W n+22
theorem W_le {n:Nat} (h:n≤10):W n≤123834728446:=by
 have:∀ n:Fin 11,W n.1≤123834728446:=by decide
 exact this ⟨n,by omega⟩
abbrev LOW:=PROG×(List VAR×CODE)
def AO (l:LOW):Prop:=∀ w∈l.2.2.2.2.2,(w:INS).2.2.2.2.2.2.length≤1048576
structure Grw (n:Nat) (l l':LOW):Prop where
 p:l'.1=l.1
 v:l'.2.1=l.2.1
 lo:l.2.2.2.2.1.length≤l'.2.2.2.2.1.length
 lo':l'.2.2.2.2.1.length≤l.2.2.2.2.1.length+n
 wo:l.2.2.2.2.2.length≤l'.2.2.2.2.2.length
 wo':l'.2.2.2.2.2.length≤l.2.2.2.2.2.length+n
 ar:AO l→AO l'
theorem Grw.rfl' {l:LOW}:Grw 0 l l:=⟨rfl,rfl,Nat.le_refl _,Nat.le_refl _,Nat.le_refl _,Nat.le_refl _,id⟩
theorem Grw.trans {a b:Nat} {x y z:LOW} (h:Grw a x y) (g:Grw b y z):Grw (a+b) x z:=⟨g.p.trans h.p,g.v.trans h.v,Nat.le_trans h.lo g.lo,by have:=h.lo';have:=g.lo';omega,Nat.le_trans h.wo g.wo,by have:=h.wo';have:=g.wo';omega,fun e=>g.ar (h.ar e)⟩
theorem Grw.le {a b:Nat} {x y:LOW} (h:Grw a x y) (hl:a≤b):Grw b x y:=⟨h.p,h.v,h.lo,by have:=h.lo';omega,h.wo,by have:=h.wo';omega,h.ar⟩
def Sz (n:Nat) (l:LOW):Prop:=l.2.2.2.2.1.length+n≤1000000000000∧l.2.2.2.2.2.length+n≤1000000000000
theorem Grw.sz {a b:Nat} {x y:LOW} (h:Grw a x y) (hs:Sz (a+b) x):Sz b y:=⟨by have:=h.lo';have:=hs.1;omega,by have:=h.wo';have:=hs.2;omega⟩
theorem Sz.le {a b:Nat} {x:LOW} (h:Sz a x) (hl:b≤a):Sz b x:=⟨by have:=h.1;omega,by have:=h.2;omega⟩
theorem temp_wp (l:LOW) (t:Int) (h:Sz 1 l):wp (spec_l12Lower_temp l t) fun y=>Grw 1 l y.2.1∧y.1<(y.2.1.2.2.2.2.1.length:Int):=by
 have h1:=h.1
 unfold spec_l12Lower_temp
 refine wp_run (show(_:Nat)≤_ by simp only [List.length_singleton];omega) (wp_some ⟨⟨rfl,rfl,by simp,by simp,Nat.le_refl _,by simp,id⟩,?_⟩)
 simp only [List.length_append,List.length_singleton]
 rw [wrap64 (by omega) (by omega)]
 omega
theorem add_wp (l:LOW) (w:INS) (h:Sz 1 l) (hw:w.2.2.2.2.2.2.length≤1048576):wp (spec_l12Lower_add l w) fun y=>Grw 1 l y.2.1∧0≤y.1∧y.1<(y.2.1.2.2.2.2.2.length:Int):=by
 have h1:=h.2
 unfold spec_l12Lower_add
 refine wp_run (show(_:Nat)≤_ by simp only [List.length_singleton];omega) (wp_some ⟨⟨rfl,rfl,Nat.le_refl _,by simp,by simp,by simp,fun e x hx=>?_⟩,?_⟩)
 ·rcases List.mem_append.1 hx with hx | hx
  ·exact e x hx
  ·rw [List.mem_singleton.1 hx];exact hw
 ·simp only [List.length_append,List.length_singleton]
  rw [wrap64 (by omega) (by omega)]
  omega
theorem set_gr (l:LOW) (i:Int) (h0:0≤i) (h1:i<(l.2.2.2.2.2.length:Int)) (w:INS) (hw:w.2.2.2.2.2.2=(rd l.2.2.2.2.2 i zI).2.2.2.2.2.2):Grw 0 l (l.1,(l.2.1,(l.2.2.1,(l.2.2.2.1,(l.2.2.2.2.1,l.2.2.2.2.2.set i.toNat w))))):=by
 refine⟨rfl,rfl,Nat.le_refl _,Nat.le_refl _,by simp,by simp,fun e x hx=>?_⟩
 rcases List.mem_or_eq_of_mem_set hx with hx | hx
 ·exact e x hx
 ·subst hx;rw [hw];exact e _ (rd_get _ _ _ h0 h1)
theorem wq_jid {α β:Type} {x x':Option α} {f:α→β} {Q:β→Prop} (h:wq x x' fun a=>Q (f a)):wq (joinP x fun a=>some (f a)) (joinP x' fun a=>some (f a)) Q:=wq_joinP (wq_mono h fun a ha=>wq_some ha)
abbrev FLV:=LOW→Int→Option (Int×LOW×Unit)
abbrev FL:=LOW→Int→Option (LOW×Unit)
section
variable {p:PROG} (hp:FineP p) {vs:List VAR} (hl:vs.length≤2097152)
include hp hl
theorem lval_S {r0 r0':FLV} (k:Int) (e:Nat) (h:(0:Int)<deepAt p.1 k) (hk:(rd p.1 k zN).1≤12) (hd:deepAt p.1 k≤(e:Int)+1) (l:LOW) (e1:l.1=p) (e2:l.2.1=vs) (hs:Sz (W (e+1)) l)
 (H:∀ y,(0:Int)<deepAt p.1 y→(rd p.1 y zN).1≤12→0≤y∧y<k→deepAt p.1 y≤(e:Int)→∀ l':LOW,l'.1=p→l'.2.1=vs→Sz (W e) l'→wq (r0 l' y) (r0' l' y) fun z=>Grw (W e) l' z.2.1∧z.1<(z.2.1.2.2.2.2.1.length:Int)):
 wq (spec_l12Lower_value_S r0 l k) (spec_l12Lower_value_S r0' l k) fun z=>Grw (W (e+1)) l z.2.1∧z.1<(z.2.1.2.2.2.2.1.length:Int):=by
 unfold spec_l12Lower_value_S
 have hkr:=deepAt_pos h
 have h12:=nk_twelve hkr.2.1
 have hW:W (e+1)=12 * W e+22:=rfl
 refine wq_run (by rw [e1];exact idxH hkr.1.1 hkr.1.2) (wq_joinP (wq_bind (wq_some (wq_mono (wq_loop (fun x:SL1_spec_l12Lower_value=>x.1=k∧0≤x.2.2.1∧x.2.2.1≤((rd p.1 k zN).2.2.2.length:Int)∧x.2.1.length=x.2.2.1.toNat∧Grw (x.2.2.1.toNat * W e) l x.2.2.2.1∧x.2.2.2.2.1=rd p.1 k zN) (fun x=>((rd p.1 k zN).2.2.2.length - x.2.2.1).toNat) (Q:=fun x:Int×List Int×LOW×NODE×Unit=>x.1=k∧x.2.1.length≤12∧Grw (12 * W e) l x.2.2.1∧x.2.2.2.1=rd p.1 k zN) (fun x hx=>?_) ⟨rfl,by simp,by simp only;omega,rfl,?_,by rw [e1]⟩) fun x hx=>?_))))
 ·obtain⟨b1,b2,b3,b4,b5,_⟩:=x
  simp only at hx
  obtain⟨f1,b30,b3l,f2,g,f5⟩:=hx
  subst f1 f5
  unfold L1_spec_l12Lower_value
  simp only
  have hmul:b3.toNat * W e≤12 * W e:=Nat.mul_le_mul_right _ (by omega)
  refine wq_bif (fun hi=>?_) fun hi=>wq_map (wq_some (wp_inr ⟨rfl,by simp only;omega,g.le hmul,rfl⟩))
  have hi':=of_decide_eq_true hi
  have g0:=vkid h hk (i:=b3) b30 hi'
  have hdk:=deep_kid h (rd_get (rd p.1 b1 zN).2.2.2 b3 (0:Int) b30 hi')
  have hmul2:(b3.toNat+1) * W e≤12 * W e:=Nat.mul_le_mul_right _ (by omega)
  rw [Nat.succ_mul] at hmul2
  refine wq_run (idxH b30 hi') (wq_bind (wq_mono (H _ g0.1 g0.2.2 g0.2.1 (by omega) b4 (g.p.trans e1) (g.v.trans e2) (g.sz (hs.le (by omega)))) fun y hy=>wq_run (show(_:Nat)≤_ by simp only [List.length_singleton];omega) (wq_map (wq_some (wp_inl ?_)))))
  rw [wrap64 (by omega) (by omega)]
  refine⟨⟨rfl,by simp only;omega,by simp only;omega,by simp only [List.length_append,List.length_singleton];omega,?_,rfl⟩,by simp only;omega⟩
  simp only
  rw [show(b3+1).toNat * W e=b3.toNat * W e+W e by rw [show(b3+1).toNat=b3.toNat+1 by omega,Nat.succ_mul]]
  exact g.trans hy.1
 ·simp only [Int.toNat_zero,Nat.zero_mul];exact Grw.rfl'
 ·obtain⟨z1,z2,z3,z4,_⟩:=x
  simp only at hx ⊢
  obtain⟨f1,f2,g,f4⟩:=hx
  subst f1 f4
  rw [g.p,g.v,e1,e2]
  have hs2:Sz 2 z3:=(g.sz (b:=22) (hs.le (by omega))).le (by omega)
  refine wq_bind (wq_mono (wq_of (type_wp hp hl _ h hk)) fun y4 _=>wq_joinP (wq_mono (Q:=fun x:List Int×Int×Int×LOW×NODE×Unit=>x.1.length≤12∧Grw 1 z3 x.2.2.2.1∧x.2.2.1<(x.2.2.2.1.2.2.2.2.1.length:Int)) (wq_bif (fun _=>wq_bind (wq_mono (wq_of (temp_wp z3 _ (hs2.le (by omega)))) fun y hy=>wq_some ⟨f2,hy.1,hy.2⟩)) fun _=>wq_some ⟨f2,Grw.rfl'.le (by omega),by simp only;omega⟩) fun x hx=>?_))
  obtain⟨a1,a2,a3,a4,a5,_⟩:=x
  simp only at hx ⊢
  obtain⟨f2,g2,ha⟩:=hx
  have hs3:Sz 1 a4:=g2.sz (b:=1) hs2
  have fin:∀ a:LOW,Grw 1 a4 a→Grw (W (e+1)) l a∧a3<(a.2.2.2.2.1.length:Int):=fun a g3=>⟨((g.trans g2).trans g3).le (by omega),by have:=g3.lo;omega⟩
  refine wq_bif (fun _=>wq_bind (wq_mono (wq_of (add_wp a4 _ hs3 (by simp only;omega))) fun y hy=>wq_some (fin _ hy.1))) fun _=>wq_bif (fun _=>?_) fun _=>?_
  ·refine wq_bind (wq_mono (wq_of (Q:=fun _=>True) (by unfold spec_CopyType;exact wp_joinP (wp_mono (wp_bif (Q:=fun _=>True) (fun _=>wp_some trivial) fun _=>wp_some trivial) fun _ _=>wp_some trivial))) fun y8 _=>wq_joinP (wq_mono (Q:=fun x:Int×Int×LOW×NODE×Unit=>x.1=a3∧x.2.2.1=a4) (wq_bif (fun _=>wq_some ⟨rfl,rfl⟩) fun _=>wq_some ⟨rfl,rfl⟩) fun x hx=>?_))
   obtain⟨c1,c2,c3,c4,_⟩:=x
   simp only at hx ⊢
   obtain⟨q1,q2⟩:=hx
   subst q1 q2
   rw [spec_VarAt_ok _ (by rw [g2.v,g.v,e2];exact hl)]
   exact wq_bind (wq_some (wq_bind (wq_mono (wq_of (add_wp _ _ hs3 (by simp))) fun y hy=>wq_some (fin _ hy.1))))
  ·refine wq_bind (wq_mono (wq_of (Q:=fun _=>True) (by unfold spec_l12Op;repeat (first | exact wp_some trivial | refine wp_bif (fun _=>wp_some trivial) fun _=>?_))) fun y12 _=>wq_joinP (wq_mono (Q:=fun x:List Int×Int×LOW×INS×Unit=>x.1=a1∧x.2.1=a3∧x.2.2.1=a4∧x.2.2.2.1.2.2.2.2.2.2=[]) (wq_bif (fun _=>?_) fun _=>wq_some ⟨rfl,rfl,rfl,rfl⟩) fun x hx=>?_))
   ·rw [spec_VarAt_ok _ (by rw [g2.v,g.v,e2];exact hl)]
    exact wq_bind (wq_some (wq_some ⟨rfl,rfl,rfl,rfl⟩))
   obtain⟨c1,c2,c3,c4,_⟩:=x
   simp only at hx ⊢
   obtain⟨q1,q2,q3,q4⟩:=hx
   subst q1 q2 q3
   refine wq_joinP (wq_mono (Q:=fun x:List Int×Int×LOW×INS×Unit=>x.1=c1∧x.2.1=c2∧x.2.2.1=c3∧x.2.2.2.1.2.2.2.2.2.2=[]) (wq_bif (fun hb=>wq_run (idxH (by omega) (of_decide_eq_true hb)) (wq_some ⟨rfl,rfl,rfl,q4⟩)) fun _=>wq_some ⟨rfl,rfl,rfl,q4⟩) fun x hx=>?_)
   obtain⟨d1,d2,d3,d4,_⟩:=x
   simp only at hx ⊢
   obtain⟨q1,q2,q3,q5⟩:=hx
   subst q1 q2 q3
   refine wq_joinP (wq_mono (Q:=fun x:Int×LOW×INS×Unit=>x.1=d2∧x.2.1=d3∧x.2.2.1.2.2.2.2.2.2=[]) (wq_bif (fun hb=>wq_run (idxH (by omega) (of_decide_eq_true hb)) (wq_some ⟨rfl,rfl,q5⟩)) fun _=>wq_some ⟨rfl,rfl,q5⟩) fun x hx=>?_)
   obtain⟨k1,k2,k3,_⟩:=x
   simp only at hx ⊢
   obtain⟨q1,q2,q6⟩:=hx
   subst q1 q2
   exact wq_bind (wq_mono (wq_of (add_wp _ _ hs3 (by rw [q6];simp))) fun y hy=>wq_some (fin _ hy.1))
end
end Go.Proofs.YtmakhmoielhjeaaGreatDoorE
namespace Go.Proofs.YtmakhmoielhjeaaGreatDoorE
set_option linter.all false
set_option maxRecDepth 100000
def Vis (p:PROG) (vs:List VAR) (k:Int):Prop:=∀ t,undr p.1 k t=true→(rd p.1 t zN).1=13→LAst vs (rd p.1 t zN).2.2.1
theorem Vis.kid {p:PROG} {vs:List VAR} {k y:Int} (h:Vis p vs k) (hd:(0:Int)<deepAt p.1 k) (hy:y∈(rd p.1 k zN).2.2.2):Vis p vs y:=fun t ht=>h t (undr_kid hd hy ht)
section
variable {p:PROG} (hp:FineP p) {vs:List VAR} (hl:vs.length≤2097152)
include hp hl
theorem lval_R:∀ m:Nat,∀ n n' k (e:Nat),(0:Int)<deepAt p.1 k→(rd p.1 k zN).1≤12→deepAt p.1 k≤(e:Int)→k.toNat<m→k.toNat+1≤n→k.toNat+1≤n'→∀ l:LOW,l.1=p→l.2.1=vs→Sz (W e) l →
 wq ((R_spec_l12Lower_value n).1 l k) ((R_spec_l12Lower_value n').1 l k) fun z=>Grw (W e) l z.2.1∧z.1<(z.2.1.2.2.2.2.1.length:Int):=by
 intro m
 induction m with
 | zero=>intro n n' k _ _ _ _ h;omega
 | succ m ih=>
  intro n n' k e h hk hd hm hn hn' l e1 e2 hs
  obtain⟨n,rfl⟩:∃ j,n=j+1:=⟨n - 1,by omega⟩
  obtain⟨n',rfl⟩:∃ j,n'=j+1:=⟨n' - 1,by omega⟩
  obtain⟨e,rfl⟩:∃ j,e=j+1:=⟨e - 1,by omega⟩
  exact lval_S hp hl (r0:=(R_spec_l12Lower_value n).1) (r0':=(R_spec_l12Lower_value n').1) k e h hk (by omega) l e1 e2 hs fun y hy h12 hyk hdy l' e1' e2' hs'=>ih n n' y e hy h12 hdy (by omega) (by omega) (by omega) l' e1' e2' hs'
theorem lval_wp (k:Int) (e:Nat) (h:(0:Int)<deepAt p.1 k) (hk:(rd p.1 k zN).1≤12) (hd:deepAt p.1 k≤(e:Int)) (l:LOW) (e1:l.1=p) (e2:l.2.1=vs) (hs:Sz (W e) l):wp (spec_l12Lower_value l k) fun z=>Grw (W e) l z.2.1∧z.1<(z.2.1.2.2.2.2.1.length:Int):=by
 unfold spec_l12Lower_value
 exact wq_lim (k.toNat+1) fun n hn=>lval_R hp hl _ n _ k e h hk hd (Nat.lt_succ_self _) hn (Nat.le_refl _) l e1 e2 hs
theorem drops_wp (k:Int) (h:(0:Int)<deepAt p.1 k) (hv:Vis p vs k) (l:LOW) (e1:l.1=p) (e2:l.2.1=vs) (hs:Sz 12 l):wp (spec_l12Lower_drops l k) fun y=>Grw 12 l y.1:=by
 unfold spec_l12Lower_drops
 have hkr:=deepAt_pos h
 have h12:=nk_twelve hkr.2.1
 rw [e1]
 have hi:IntKind.wrap .i64 (((rd p.1 k zN).2.2.2.length:Int) - 1)=((rd p.1 k zN).2.2.2.length:Int) - 1:=wrap64 (by omega) (by omega)
 refine wp_run (idxH hkr.1.1 hkr.1.2) (wp_joinP (wp_bind (wp_some (wp_mono (wp_loop (fun x:SL1_spec_l12Lower_drops=>x.1=(rd p.1 k zN).2.2.2∧-1≤x.2.1∧x.2.1<((rd p.1 k zN).2.2.2.length:Int)∧Grw (((rd p.1 k zN).2.2.2.length:Int) - 1 - x.2.1).toNat l x.2.2.1) (fun x=>(x.2.1+1).toNat) (Q:=fun x:LOW×Unit=>Grw 12 l x.1) (fun x hx=>?_) ⟨rfl,?_,?_,?_⟩) fun x hx=>wp_some hx))))
 ·obtain⟨b1,b2,b3,_⟩:=x
  simp only at hx
  obtain⟨f1,hb0,hb1,g⟩:=hx
  subst f1
  unfold L1_spec_l12Lower_drops
  simp only
  refine wp_bif (fun hi=>?_) fun hi=>wp_map (wp_some (wp_inr (g.le (by omega))))
  have hi':=of_decide_eq_true hi
  have hmem:=rd_get (rd p.1 k zN).2.2.2 b2 (0:Int) hi' hb1
  have hkp:=kid_pos h hmem
  have hkr2:=deepAt_pos hkp.1
  have hsz:Sz 1 b3:=g.sz (hs.le (by omega))
  rw [g.p,g.v,e1,e2]
  refine wp_run (idxH hi' hb1) (wp_run (idxH hkr2.1.1 hkr2.1.2) (wp_joinP (wp_mono (Q:=fun x:List Int×Int×Bool×LOW×NODE×Unit=>x.1=(rd p.1 k zN).2.2.2∧x.2.1=b2∧x.2.2.2.1=b3) (wp_bif (fun hb=>?_) fun _=>wp_some ⟨rfl,rfl,rfl⟩) fun x hx=>?_)))
  ·have hb':=of_decide_eq_true hb
   have hLA:=hv _ (undr_kid h hmem (undr_self _ _)) hb'
   have hvp:=varAt_pos hLA
   rw [spec_VarAt_ok _ hl]
   exact wp_bind (wp_some (wp_run (idxH hvp (varAt_rng _ _).2) (wp_some ⟨rfl,rfl,rfl⟩)))
  ·obtain⟨c1,c2,c3,c4,c5,_⟩:=x
   simp only at hx ⊢
   obtain⟨f1,f2,f3⟩:=hx
   subst f2 f3
   refine wp_joinP (wp_mono (Q:=fun x:List Int×Int×LOW×Unit=>x.1=(rd p.1 k zN).2.2.2∧x.2.1=c2∧Grw 1 c4 x.2.2.1) (wp_bif (fun _=>?_) fun _=>wp_some ⟨f1,rfl,Grw.rfl'.le (by omega)⟩) fun x hx=>?_)
   ·rw [spec_VarAt_ok _ (by rw [g.v,e2];exact hl)]
    exact wp_bind (wp_some (wp_bind (wp_mono (add_wp _ _ hsz (by simp)) fun y hy=>wp_some ⟨f1,rfl,hy.1⟩)))
   ·obtain⟨d1,d2,d3,_⟩:=x
    simp only at hx ⊢
    obtain⟨q1,q2,q3⟩:=hx
    subst q2
    refine wp_map (wp_some (wp_inl ?_))
    rw [wrap64 (by omega) (by omega)]
    exact⟨⟨q1,by simp only;omega,by simp only;omega,(g.trans q3).le (by simp only;omega)⟩,by simp only;omega⟩
 ·simp only;rw [hi];omega
 ·simp only;rw [hi];omega
 ·simp only;rw [hi];exact Grw.rfl'.le (by omega)
theorem lsts_S {r0 r0' r1 r1' r2 r2':FL} (k:Int) (e:Nat) (h:(0:Int)<deepAt p.1 k) (h20:(rd p.1 k zN).1=20) (hd:deepAt p.1 k≤(e:Int)+1) (hv:Vis p vs k) (l:LOW) (e1:l.1=p) (e2:l.2.1=vs) (hs:Sz (12 * W e) l)
 (H:∀ y,(0:Int)<deepAt p.1 y→13≤(rd p.1 y zN).1∧(rd p.1 y zN).1≤19→0≤y∧y<k→deepAt p.1 y≤(e:Int)→Vis p vs y→∀ l':LOW,l'.1=p→l'.2.1=vs→Sz (W e) l'→wq (r1 l' y) (r1' l' y) fun z=>Grw (W e) l' z.1):
 wq (spec_l12Lower_steps_S r0 r1 r2 l k) (spec_l12Lower_steps_S r0' r1' r2' l k) fun z=>Grw (12 * W e) l z.1:=by
 unfold spec_l12Lower_steps_S
 have hkr:=deepAt_pos h
 have h12:=nk_twelve hkr.2.1
 rw [e1]
 refine wq_run (idxH hkr.1.1 hkr.1.2) (wq_joinP (wq_bind (wq_some (wq_mono (wq_loop (fun x:SL1_spec_l12Lower_steps=>x.1=(rd p.1 k zN).2.2.2∧0≤x.2.1∧x.2.1≤((rd p.1 k zN).2.2.2.length:Int)∧Grw (x.2.1.toNat * W e) l x.2.2.1) (fun x=>((rd p.1 k zN).2.2.2.length - x.2.1).toNat) (Q:=fun x:LOW×Unit=>Grw (12 * W e) l x.1) (fun x hx=>?_) ⟨rfl,by simp,by simp only;omega,?_⟩) fun x hx=>wq_some hx))))
 ·obtain⟨b1,b2,b3,_⟩:=x
  simp only at hx
  obtain⟨f1,b20,b2l,g⟩:=hx
  subst f1
  unfold L1_spec_l12Lower_steps
  simp only
  have hmul:b2.toNat * W e≤12 * W e:=Nat.mul_le_mul_right _ (by omega)
  refine wq_bif (fun hi=>?_) fun hi=>wq_map (wq_some (wp_inr (g.le hmul)))
  have hi':=of_decide_eq_true hi
  have g0:=bkid h h20 b20 hi'
  have hmem:=rd_get (rd p.1 k zN).2.2.2 b2 (0:Int) b20 hi'
  have hdk:=deep_kid h hmem
  have hmul2:(b2.toNat+1) * W e≤12 * W e:=Nat.mul_le_mul_right _ (by omega)
  rw [Nat.succ_mul] at hmul2
  refine wq_run (idxH b20 hi') (wq_bind (wq_mono (H _ g0.1 g0.2.2 g0.2.1 (by omega) (hv.kid h hmem) b3 (g.p.trans e1) (g.v.trans e2) (g.sz (hs.le (by omega)))) fun y hy=>wq_map (wq_some (wp_inl ?_))))
  rw [wrap64 (by omega) (by omega)]
  refine⟨⟨rfl,by simp only;omega,by simp only;omega,?_⟩,by simp only;omega⟩
  simp only
  rw [show(b2+1).toNat * W e=b2.toNat * W e+W e by rw [show(b2+1).toNat=b2.toNat+1 by omega,Nat.succ_mul]]
  exact g.trans hy
 ·simp only [Int.toNat_zero,Nat.zero_mul];exact Grw.rfl'
theorem lblk_S {r0 r0' r1 r1' r2 r2':FL} (k:Int) (e:Nat) (h:(0:Int)<deepAt p.1 k) (hv:Vis p vs k) (l:LOW) (e1:l.1=p) (e2:l.2.1=vs) (hs:Sz (W (e+1)) l)
 (H:wq (r0 l k) (r0' l k) fun z=>Grw (12 * W e) l z.1):
 wq (spec_l12Lower_block_S r0 r1 r2 l k) (spec_l12Lower_block_S r0' r1' r2' l k) fun z=>Grw (W (e+1)) l z.1:=by
 unfold spec_l12Lower_block_S
 have hW:W (e+1)=12 * W e+22:=rfl
 exact wq_bind (wq_mono H fun y hy=>wq_bind (wq_mono (wq_of (drops_wp hp hl k h hv y.1 (hy.p.trans e1) (hy.v.trans e2) (hy.sz (hs.le (by omega))))) fun z hz=>wq_some ((hy.trans hz).le (by omega))))
end
end Go.Proofs.YtmakhmoielhjeaaGreatDoorE
namespace Go.Proofs.YtmakhmoielhjeaaGreatDoorE
set_option linter.all false
set_option maxRecDepth 100000
abbrev upd5 (ws:List INS) (i:Int):INS:=((rd ws i zI).1,((rd ws i zI).2.1,((rd ws i zI).2.2.1,((rd ws i zI).2.2.2.1,((ws.length:Int),(rd ws i zI).2.2.2.2.2)))))
section
variable {p:PROG} (hp:FineP p) {vs:List VAR} (hl:vs.length≤2097152)
include hp hl
theorem lstp_S {r0 r0' r1 r1' r2 r2':FL} (k:Int) (e:Nat) (h:(0:Int)<deepAt p.1 k) (h13:13≤(rd p.1 k zN).1∧(rd p.1 k zN).1≤19) (hd:deepAt p.1 k≤(e:Int)+1) (hv:Vis p vs k) (l:LOW) (e1:l.1=p) (e2:l.2.1=vs) (hs:Sz (W (e+1)) l)
 (H:∀ y,(0:Int)<deepAt p.1 y→(rd p.1 y zN).1=20→0≤y∧y<k→deepAt p.1 y≤(e:Int)→Vis p vs y→∀ l':LOW,l'.1=p→l'.2.1=vs→Sz (W e) l'→wq (r2 l' y) (r2' l' y) fun z=>Grw (W e) l' z.1):
 wq (spec_l12Lower_step_S r0 r1 r2 l k) (spec_l12Lower_step_S r0' r1' r2' l k) fun z=>Grw (W (e+1)) l z.1:=by
 unfold spec_l12Lower_step_S
 have hkr:=deepAt_pos h
 have h12:=nk_twelve hkr.2.1
 have hW:W (e+1)=12 * W e+22:=rfl
 have g:=skid h h13.1 h13.2
 have hmem:=rd_get (rd p.1 k zN).2.2.2 0 (0:Int) (by omega) g.1
 have hdk:=deep_kid h hmem
 rw [e1]
 refine wq_run (idxH hkr.1.1 hkr.1.2) (wq_run (idxH (by omega) g.1) (wq_bind (wq_mono (wq_of (lval_wp hp hl _ e g.2.1 g.2.2.2 (by omega) l e1 e2 (hs.le (by omega)))) fun y1 hy1=>wq_joinP (wq_mono (Q:=fun x:Int×Int×Int×Bool×LOW×NODE×Unit=>x.2.1=y1.1∧x.2.2.1=(rd p.1 k zN).1∧x.2.2.2.2.1=y1.2.1∧x.2.2.2.2.2.1=rd p.1 k zN) (wq_bif (fun _=>wq_some ⟨rfl,rfl,rfl,rfl⟩) fun _=>wq_some ⟨rfl,rfl,rfl,rfl⟩) fun x hx=>?_))))
 obtain⟨x1,x2,x3,x4,x5,x6,_⟩:=x
 obtain⟨y11,y12,_⟩:=y1
 simp only at hx hy1 ⊢
 obtain⟨f1,f2,f3,f4⟩:=hx
 subst f1 f2 f3 f4
 obtain⟨gv,hlt⟩:=hy1
 have p5:=gv.p.trans e1
 have v5:=gv.v.trans e2
 have hsz:∀ n,n≤11 * W e+22→Sz n x5:=fun n hn=>gv.sz (hs.le (by omega))
 have fin:∀ {n} {a:LOW},Grw n x5 a→n≤11 * W e+22→Grw (W (e+1)) l a:=fun g hn=>(gv.trans g).le (by omega)
 refine wq_jid (wq_bif (fun _=>?_) fun _=>wq_jid (wq_bif (fun _=>?_) fun _=>wq_jid (wq_bif (fun _=>?_) fun _=>wq_jid (wq_bif (fun _=>?_) fun _=>wq_jid (wq_bif (fun hb=>?_) fun _=>wq_jid (wq_bif (fun hb=>?_) fun _=>wq_some (fin Grw.rfl' (by omega))))))))
 ·rw [spec_VarAt_ok _ (by rw [v5];exact hl)]
  exact wq_bind (wq_some (wq_bind (wq_mono (wq_of (add_wp _ _ (hsz 1 (by omega)) (by simp))) fun y hy=>wq_some (fin hy.1 (by omega)))))
 ·rw [spec_VarAt_ok _ (by rw [v5];exact hl)]
  exact wq_bind (wq_some (wq_bind (wq_mono (wq_of (add_wp _ _ (hsz 1 (by omega)) (by simp))) fun y hy=>wq_some (fin hy.1 (by omega)))))
 ·exact wq_bind (wq_mono (wq_of (add_wp _ _ (hsz 1 (by omega)) (by simp))) fun y hy=>wq_some (fin hy.1 (by omega)))
 ·refine wq_joinP (wq_mono (Q:=fun x:Int×Bool×LOW×Unit=>x.2.2.1=x5) (wq_bif (fun hb=>wq_run (idxH (of_decide_eq_true hb) hlt) (wq_some rfl)) fun _=>wq_some rfl) fun x hx=>?_)
  rw [hx]
  exact wq_jid (wq_bif (fun _=>wq_bind (wq_mono (wq_of (add_wp _ _ (hsz 1 (by omega)) (by simp))) fun y hy=>wq_some (fin hy.1 (by omega)))) fun _=>wq_some (fin Grw.rfl' (by omega)))
 ·have e':(rd p.1 k zN).1=16:=of_decide_eq_true hb
  have i1:=sblk h (.inl e') (i:=1) (by omega) (by rw [e'];decide)
  have i2:=sblk h (.inl e') (i:=2) (by omega) (by rw [e'];decide)
  have m1:=rd_get (rd p.1 k zN).2.2.2 1 (0:Int) (by omega) i1.1
  have m2:=rd_get (rd p.1 k zN).2.2.2 2 (0:Int) (by omega) i2.1
  have d1:=deep_kid h m1
  have d2:=deep_kid h m2
  refine wq_bind (wq_mono (wq_of (add_wp _ _ (hsz 1 (by omega)) (by simp))) fun y11 hy11=>wq_run (idxH (by omega) i1.1) (wq_bind (wq_mono (H _ i1.2.1 i1.2.2.2 i1.2.2.1 (by omega) (hv.kid h m1) y11.2.1 (hy11.1.p.trans p5) (hy11.1.v.trans v5) (hy11.1.sz (hsz _ (by omega)))) fun y12 hy12=>?_)))
  have g12:=hy11.1.trans hy12
  refine wq_bind (wq_mono (wq_of (add_wp _ _ (g12.sz (hsz _ (by omega))) (by simp))) fun y13 hy13=>?_)
  have g13:=g12.trans hy13.1
  have l1:y11.1<(y13.2.1.2.2.2.2.2.length:Int):=by have:=hy11.2.2;have:=hy12.wo;have:=hy13.1.wo;omega
  have s1:=set_gr y13.2.1 y11.1 hy11.2.1 l1 (upd5 y13.2.1.2.2.2.2.2 y11.1) rfl
  refine wq_run (idxH hy11.2.1 l1) (wq_bindD (wq_run (idxH (by omega) i2.1) (wq_bind (wq_mono (H _ i2.2.1 i2.2.2.2 i2.2.2.1 (by omega) (hv.kid h m2) _ (s1.p.trans (g13.p.trans p5)) (s1.v.trans (g13.v.trans v5)) ((g13.trans s1).sz (b:=W e) (hsz _ (by omega)))) fun y15 hy15=>?_))))
  have l2:y13.1<(y15.1.2.2.2.2.2.length:Int):=by
   have h1:=hy15.wo
   simp only [List.length_set] at h1
   have:=hy13.2.2
   omega
  exact wq_run (idxH hy13.2.1 l2) (wq_bindD (wq_some (fin ((((g13.trans s1).trans hy15)).trans (set_gr y15.1 y13.1 hy13.2.1 l2 (upd5 y15.1.2.2.2.2.2 y13.1) rfl)) (by omega))))
 ·have e':(rd p.1 k zN).1=17:=of_decide_eq_true hb
  have i1:=sblk h (.inr e') (i:=1) (by omega) (by rw [e'];decide)
  have m1:=rd_get (rd p.1 k zN).2.2.2 1 (0:Int) (by omega) i1.1
  have d1:=deep_kid h m1
  refine wq_bind (wq_mono (wq_of (add_wp _ _ (hsz 1 (by omega)) (by simp))) fun y11 hy11=>wq_run (idxH (by omega) i1.1) (wq_bind (wq_mono (H _ i1.2.1 i1.2.2.2 i1.2.2.1 (by omega) (hv.kid h m1) y11.2.1 (hy11.1.p.trans p5) (hy11.1.v.trans v5) (hy11.1.sz (hsz _ (by omega)))) fun y12 hy12=>?_)))
  have g12:=hy11.1.trans hy12
  refine wq_bind (wq_mono (wq_of (add_wp _ _ (g12.sz (hsz _ (by omega))) (by simp))) fun y13 hy13=>?_)
  have g13:=g12.trans hy13.1
  have l1:y11.1<(y13.2.1.2.2.2.2.2.length:Int):=by have:=hy11.2.2;have:=hy12.wo;have:=hy13.1.wo;omega
  exact wq_run (idxH hy11.2.1 l1) (wq_bindD (wq_some (fin (g13.trans (set_gr y13.2.1 y11.1 hy11.2.1 l1 (upd5 y13.2.1.2.2.2.2.2 y11.1) rfl)) (by omega))))
theorem lsts_R:∀ m:Nat,∀ n n' k (e:Nat),(0:Int)<deepAt p.1 k→(rd p.1 k zN).1=20→deepAt p.1 k≤(e:Int)+1→Vis p vs k→k.toNat<m→3 * k.toNat+1≤n→3 * k.toNat+1≤n'→∀ l:LOW,l.1=p→l.2.1=vs→Sz (12 * W e) l →
 wq ((R_spec_l12Lower_steps n).1 l k) ((R_spec_l12Lower_steps n').1 l k) fun z=>Grw (12 * W e) l z.1:=by
 intro m
 induction m with
 | zero=>intro n n' k _ _ _ _ _ h;omega
 | succ m ih=>
  intro n n' k e h h20 hd hv hm hn hn' l e1 e2 hs
  obtain⟨n,rfl⟩:∃ j,n=j+1:=⟨n - 1,by omega⟩
  obtain⟨n',rfl⟩:∃ j,n'=j+1:=⟨n' - 1,by omega⟩
  refine lsts_S hp hl (r0:=(R_spec_l12Lower_steps n).1) (r0':=(R_spec_l12Lower_steps n').1) (r1:=(R_spec_l12Lower_steps n).2.1) (r1':=(R_spec_l12Lower_steps n').2.1) (r2:=(R_spec_l12Lower_steps n).2.2.1) (r2':=(R_spec_l12Lower_steps n').2.2.1) k e h h20 hd hv l e1 e2 hs fun y hy h13 hyk hdy hvy l' e1' e2' hs'=>?_
  obtain⟨n,rfl⟩:∃ j,n=j+1:=⟨n - 1,by omega⟩
  obtain⟨n',rfl⟩:∃ j,n'=j+1:=⟨n' - 1,by omega⟩
  obtain⟨e,rfl⟩:∃ j,e=j+1:=⟨e - 1,by omega⟩
  refine lstp_S hp hl (r0:=(R_spec_l12Lower_steps n).1) (r0':=(R_spec_l12Lower_steps n').1) (r1:=(R_spec_l12Lower_steps n).2.1) (r1':=(R_spec_l12Lower_steps n').2.1) (r2:=(R_spec_l12Lower_steps n).2.2.1) (r2':=(R_spec_l12Lower_steps n').2.2.1) y e hy h13 hdy hvy l' e1' e2' hs' fun z hz h20z hzy hdz hvz l2 e12 e22 hs2=>?_
  obtain⟨n,rfl⟩:∃ j,n=j+1:=⟨n - 1,by omega⟩
  obtain⟨n',rfl⟩:∃ j,n'=j+1:=⟨n' - 1,by omega⟩
  obtain⟨e,rfl⟩:∃ j,e=j+1:=⟨e - 1,by omega⟩
  have hW:W (e+1)=12 * W e+22:=rfl
  exact lblk_S hp hl (r0:=(R_spec_l12Lower_steps n).1) (r0':=(R_spec_l12Lower_steps n').1) (r1:=(R_spec_l12Lower_steps n).2.1) (r1':=(R_spec_l12Lower_steps n').2.1) (r2:=(R_spec_l12Lower_steps n).2.2.1) (r2':=(R_spec_l12Lower_steps n').2.2.1) z e hz hvz l2 e12 e22 hs2 (ih n n' z e hz h20z hdz hvz (by omega) (by omega) (by omega) l2 e12 e22 (hs2.le (by omega)))
theorem lsts_wp (k:Int) (h:(0:Int)<deepAt p.1 k) (h20:(rd p.1 k zN).1=20) (hv:Vis p vs k) (l:LOW) (e1:l.1=p) (e2:l.2.1=vs) (hs:Sz (W 10) l):wp (spec_l12Lower_steps l k) fun z=>Grw (W 10) l z.1:=by
 unfold spec_l12Lower_steps
 have hW:W 10=12 * W 9+22:=rfl
 have h10:=deep_ten p.1 k
 exact wp_mono (wq_lim (3 * k.toNat+1) fun n hn=>lsts_R hp hl _ n _ k 9 h h20 (by omega) hv (Nat.lt_succ_self _) hn (Nat.le_refl _) l e1 e2 (hs.le (by omega))) fun z hz=>hz.le (by omega)
end
theorem codeok_wp (c:CODE) (hn:c.2.2.2.length≤1000000000000) (ha:∀ w∈c.2.2.2,(w:INS).2.2.2.2.2.2.length≤1048576):wp (spec_CodeOk c) fun y=>y.1=true→FineC c∧codeOk c=true:=by
 by_cases hb:c.2.2.1.length≤200∧c.2.2.2.length≤400
 ·have hf:FineC c:=⟨⟨by omega,by omega⟩,ha⟩
  rw [spec_CodeOk_ok c hf]
  exact wp_some fun h=>⟨hf,h⟩
 ·refine⟨(false,()),?_,fun h=>by cases h⟩
  unfold spec_CodeOk
  simp only [spec_NameOk_ok,sIn,Option.bind_some]
  cases nameOk c.1
  ·rfl
  by_cases h2:c.2.2.1.length≤200
  ·have h4:¬ (c.2.2.2.length≤400):=fun h=>hb ⟨h2,h⟩
   rw [show decide ((200:Int)<(c.2.2.1.length:Int))=false from decide_eq_false (by omega),show decide ((1:Int)≤(c.2.2.2.length:Int)∧(c.2.2.2.length:Int)≤400)=false from decide_eq_false (by omega)]
   cases decide ((0:Int)≤c.2.1∧c.2.1≤(c.2.2.1.length:Int))<;>rfl
  ·rw [show decide ((200:Int)<(c.2.2.1.length:Int))=true from decide_eq_true (by omega)]
   rfl
theorem vis_of {p:PROG} {vs:List VAR} {fn:Nat} (P:POK p) (hfn:fn<p.2.length) (hn:names vs=names (varsOf p (fn:Int))):Vis p vs (rd p.2 (fn:Int) zF).2.2.2.1:=by
 intro t ht h13
 have F:=P.fn hfn
 have hd:=F.bd
 show(rd p.1 t zN).2.2.1∈names vs
 rw [hn]
 have hin:fnIn p (fn:Int)=true:=by simp only [fnIn];exact decide_eq_true (by omega)
 refine List.mem_map.2 ⟨letV p.1 t,?_,rfl⟩
 unfold varsOf
 rw [hin,cond_true]
 refine List.mem_append_right _ (List.mem_map.2 ⟨t,List.mem_filter.2 ⟨?_,decide_eq_true h13⟩,rfl⟩)
 unfold unds
 rw [decide_eq_false (by omega),cond_false]
 exact(mem_undL hd t).2 ht
def GoodC (c:CODE):Prop:=FineC c∧codeOk c=true
theorem lfn_wp {p:PROG} (hp:FineP p) (P:POK p) (fn:Nat) (hfn:fn<p.2.length) (hv:VarsR p (fn:Int)):wp (spec_l12Fn p (fn:Int)) fun y=>y.2.1=true→GoodC y.1:=by
 unfold spec_l12Fn
 obtain⟨v,hv0⟩:=hv
 obtain⟨y,hy0,hy1,hy2⟩:=vars_wp hp P (fn:Int)
 rw [hv0] at hy0
 cases hy0
 simp only at hy1 hy2
 have hvis:=vis_of P hfn (hy2 trivial)
 have F:=P.fn hfn
 have h10:W 10≤123834728446:=W_le (Nat.le_refl _)
 rw [hv0]
 refine wp_run (idxH (by omega) (by omega)) (wp_bind (wp_some (wp_joinP (wp_bind (wp_some (wp_mono (wp_loop (fun x:SL1_spec_l12Fn=>x.1=v∧0≤x.2.1∧x.2.2.2.1=rd p.2 (fn:Int) zF∧x.2.2.2.2.1.1=p∧x.2.2.2.2.1.2.1=v∧AO x.2.2.2.2.1∧x.2.2.2.2.1.2.2.2.2.2.length=0∧(x.2.2.2.2.1.2.2.2.2.1.length:Int)=x.2.1∧x.2.1≤(v.length:Int)) (fun x=>(v.length - x.2.1).toNat) (Q:=fun x:CODE×FN×LOW×Unit=>x.2.1=rd p.2 (fn:Int) zF∧x.2.2.1.1=p∧x.2.2.1.2.1=v∧AO x.2.2.1∧Sz 200000000000 x.2.2.1∧Sz 400000000000 x.2.2.1) (fun x hx=>?_) ⟨rfl,by simp,rfl,rfl,rfl,fun w hw=>by simp at hw,rfl,by simp,by simp only;omega⟩) fun x hx=>?_))))))
 ·obtain⟨b1,b2,b3,b4,b5,_⟩:=x
  simp only at hx
  obtain⟨f1,b20,f4,f5,f6,ha,hw,hlo,hle⟩:=hx
  subst f1 f4
  unfold L1_spec_l12Fn
  simp only
  refine wp_bif (fun hi=>?_) fun hi=>wp_map (wp_some (wp_inr ⟨rfl,f5,f6,ha,⟨by simp only;omega,by simp only;omega⟩,⟨by simp only;omega,by simp only;omega⟩⟩))
  have hi':=of_decide_eq_true hi
  refine wp_run (idxH b20 hi') (wp_bind (wp_mono (Q:=fun y:Int×LOW×Unit=>y.2.1.1=b5.1∧y.2.1.2.1=b5.2.1∧y.2.1.2.2.2.2.2=b5.2.2.2.2.2∧y.2.1.2.2.2.2.1.length=b5.2.2.2.2.1.length+1) ?_ fun y hy=>wp_map (wp_some (wp_inl ?_))))
  ·unfold spec_l12Lower_temp
   exact wp_run (show(_:Nat)≤_ by simp only [List.length_singleton];omega) (wp_some ⟨rfl,rfl,rfl,by simp⟩)
  ·obtain⟨g1,g2,g3,g4⟩:=hy
   rw [wrap64 (by omega) (by omega)]
   exact⟨⟨rfl,by simp only;omega,rfl,g1.trans f5,g2.trans f6,by unfold AO;simp only;rw [g3];exact ha,by simp only;rw [g3];exact hw,by simp only;omega,by simp only;omega⟩,by simp only;omega⟩
 ·obtain⟨x1,x2,x3,_⟩:=x
  simp only at hx ⊢
  obtain⟨f1,e1,e2,ha,hs,hs4⟩:=hx
  subst f1
  refine wp_bind (wp_mono (lsts_wp hp hy1 _ F.bd F.bk hvis x3 e1 e2 (hs.le (by omega))) fun y5 hy5=>wp_joinP (wp_mono (Q:=fun x:Int×CODE×FN×LOW×Unit=>x.2.2.1=rd p.2 (fn:Int) zF∧Grw (W 10+W 10) x3 x.2.2.2.1) (wp_bif (fun hb=>?_) fun _=>wp_some ⟨rfl,hy5.le (by omega)⟩) fun x hx=>?_))
  ·have hr:=F.rt (of_decide_eq_true hb)
   exact wp_bind (wp_mono (lval_wp hp hy1 _ 10 hr.1 hr.2 (deep_ten _ _) y5.1 (hy5.p.trans e1) (hy5.v.trans e2) (hy5.sz (hs4.le (by omega)))) fun y6 hy6=>wp_some ⟨rfl,hy5.trans hy6.1⟩)
  ·obtain⟨z1,z2,z3,z4,_⟩:=x
   simp only at hx ⊢
   obtain⟨f1,g⟩:=hx
   subst f1
   refine wp_bind (wp_mono (drops_wp hp hy1 _ F.bd hvis z4 (g.p.trans e1) (g.v.trans e2) (g.sz (hs4.le (by omega)))) fun y8 hy8=>?_)
   have g8:=g.trans hy8
   have hpar:=F.par
   have hi:IntKind.wrap .i64 (((rd p.2 (fn:Int) zF).2.1.length:Int) - 1)=((rd p.2 (fn:Int) zF).2.1.length:Int) - 1:=wrap64 (by omega) (by omega)
   refine wp_joinP (wp_bind (wp_some (wp_mono (wp_loop (fun x:SL2_spec_l12Fn=>-1≤x.2.1∧x.2.1<((rd p.2 (fn:Int) zF).2.1.length:Int)∧x.2.2.2.1=rd p.2 (fn:Int) zF∧Grw (((rd p.2 (fn:Int) zF).2.1.length:Int) - 1 - x.2.1).toNat y8.1 x.2.2.2.2.1) (fun x=>(x.2.1+1).toNat) (Q:=fun x:Int×CODE×LOW×Unit=>Grw 3 y8.1 x.2.2.1) (fun x hx=>?_) ⟨?_,?_,rfl,?_⟩) fun x hx=>?_)))
   ·obtain⟨b1,b2,b3,b4,b5,_⟩:=x
    simp only at hx
    obtain⟨hb0,hb1,f4,gg⟩:=hx
    subst f4
    unfold L2_spec_l12Fn
    simp only
    refine wp_bif (fun hi=>?_) fun hi=>wp_map (wp_some (wp_inr (gg.le (by omega))))
    have hi':=of_decide_eq_true hi
    have hsz:Sz 1 b5:=(g8.trans gg).sz (hs4.le (by omega))
    refine wp_run (idxH hi' hb1) (wp_joinP (wp_mono (Q:=fun x:Int×Int×CODE×FN×LOW×Unit=>x.2.1=b2∧x.2.2.2.1=rd p.2 (fn:Int) zF∧Grw 1 b5 x.2.2.2.2.1) (wp_bif (fun _=>wp_bind (wp_mono (add_wp _ _ hsz (by simp)) fun y hy=>wp_some ⟨rfl,rfl,hy.1⟩)) fun _=>wp_some ⟨rfl,rfl,Grw.rfl'.le (by omega)⟩) fun x hx=>?_))
    obtain⟨c1,c2,c3,c4,c5,_⟩:=x
    simp only at hx ⊢
    obtain⟨q1,q2,q3⟩:=hx
    subst q1
    refine wp_map (wp_some (wp_inl ?_))
    rw [wrap64 (by omega) (by omega)]
    exact⟨⟨by simp only;omega,by simp only;omega,q2,(gg.trans q3).le (by simp only;omega)⟩,by simp only;omega⟩
   ·simp only;rw [hi];omega
   ·simp only;rw [hi];omega
   ·simp only;rw [hi];exact Grw.rfl'.le (by omega)
   ·have g9:=g8.trans hx
    refine wp_bind (wp_mono (add_wp _ _ (g9.sz (hs4.le (by omega))) (by simp)) fun y13 hy13=>?_)
    have ga:=g9.trans hy13.1
    refine wp_bind (wp_mono (codeok_wp y13.2.1.2.2 ?_ (ga.ar ha)) fun y14 hy14=>wp_bif (fun _=>wp_some fun h=>by cases h) fun hb=>wp_some fun _=>hy14 (by simpa using hb))
    have:=ga.wo'
    have:=hs4.2
    omega
theorem lall_wp {p:PROG} (hp:FineP p):wp (spec_LowerAll p) fun y=>y.2.1=true→y.1≠[]∧y.1.length≤8∧∀ c∈y.1,GoodC c:=by
 unfold spec_LowerAll
 refine wp_bind (wp_mono (types_wp hp) fun y1 hy1=>wp_bif (fun _=>wp_some fun h=>by cases h) fun hb=>?_)
 obtain⟨hok,hvr⟩:=hy1 (by simpa using hb)
 have P:=pok_of hok
 have hm:=P.m
 have hm1:1≤p.2.length:=by
  simp only [progOk,Bool.and_eq_true,decide_eq_true_eq] at hok
  omega
 refine wp_joinS (wp_bind (wp_some (wp_mono (wp_loop (fun x:SL1_spec_LowerAll=>0≤x.2.1∧x.2.1≤(p.2.length:Int)∧(x.1.length:Int)=x.2.1∧x.2.2.1=p∧∀ c∈x.1,GoodC c) (fun x=>(p.2.length - x.2.1).toNat) (Q:=fun s:(List CODE×Unit) ⊕ (List CODE×Bool×Unit)=>(∀ b,s=.inl b→b.1.length=p.2.length∧∀ c∈b.1,GoodC c)∧∀ r,s=.inr r→r.2.1=false) (fun x hx=>?_) ⟨by simp,by simp only;omega,rfl,rfl,by simp⟩) fun s hs=>⟨fun b hb=>wp_some fun _=>⟨?_,?_,(hs.1 b hb).2⟩,fun r hr h=>by rw [hs.2 r hr] at h;cases h⟩)))
 ·obtain⟨b1,b2,b3,_⟩:=x
  simp only at hx
  obtain⟨b20,b2l,hlen,f3,hall⟩:=hx
  subst f3
  unfold L1_spec_LowerAll
  simp only
  refine wp_bif (fun hi=>?_) fun hi=>wp_map (wp_map (wp_some (wp_inr ⟨fun b hb=>by cases hb;exact⟨by have:=of_decide_eq_false hi;simp only;omega,hall⟩,fun r hr=>by cases hr⟩)))
  ·have hi':=of_decide_eq_true hi
   obtain⟨m,rfl⟩:∃ m:Nat,b2=(m:Int):=⟨b2.toNat,by omega⟩
   refine wp_bind (wp_mono (lfn_wp hp P m (by omega) (hvr _ ⟨b20,hi'⟩)) fun y hy=>wp_bif (fun _=>wp_map (wp_map (wp_some (wp_inr ⟨fun b hb=>(by cases hb),fun r hr=>by cases hr;rfl⟩)))) fun hf=>wp_run (show(_:Nat)≤_ by simp only [List.length_singleton];omega) (wp_map (wp_some (wp_inl ?_))))
   rw [wrap64 (by omega) (by omega)]
   refine⟨⟨by simp only;omega,by simp only;omega,by simp only [List.length_append,List.length_singleton];omega,rfl,fun c hc=>?_⟩,by simp only;omega⟩
   rcases List.mem_append.1 hc with hc | hc
   ·exact hall c hc
   ·rw [List.mem_singleton.1 hc];exact hy (by simpa using hf)
 ·intro h
  have:=(hs.1 b hb).1
  simp only at h
  rw [h] at this
  simp only [List.length_nil] at this
  omega
 ·have:=(hs.1 b hb).1
  simp only
  omega
end Go.Proofs.YtmakhmoielhjeaaGreatDoorE
namespace Go.Proofs.YtmakhmoielhjeaaGreatDoorE
set_option linter.all false
set_option maxRecDepth 100000
def WRng (w:INS):Prop:=(-1000000000000≤w.2.1∧w.2.1≤1000000000000)∧(-1000000000000≤w.2.2.1∧w.2.2.1≤1000000000000)∧(-1000000000000≤w.2.2.2.1∧w.2.2.2.1≤1000000000000)∧(-1000000000000≤w.2.2.2.2.1∧w.2.2.2.2.1≤1000000000000)∧∀ n∈w.2.2.2.2.2.2,-1000000000000≤n∧n≤1000000000000
structure DrC (n:Nat) (c:CODE):Prop where
 nm:c.1.size≤8
 lo:c.2.2.1.length≤200+n
 w1:1≤c.2.2.2.length
 wo:c.2.2.2.length≤400
 a:∀ w∈c.2.2.2,(w:INS).2.2.2.2.2.1.size≤8∧(w:INS).2.2.2.2.2.2.length≤3+n∧WRng w
theorem DrC.le {n m:Nat} {c:CODE} (h:DrC n c) (hl:n≤m):DrC m c:=⟨h.nm,by have:=h.lo;omega,h.w1,h.wo,fun w hw=>by obtain⟨a,b,c⟩:=h.a w hw;exact⟨a,by omega,c⟩⟩
theorem DrC.fine {c:CODE} (h:DrC 1 c):FineC c:=⟨⟨by have:=h.lo;omega,by have:=h.wo;omega⟩,fun w hw=>by obtain⟨a,b,c⟩:=h.a w hw;omega⟩
theorem name_size {s:ByteArray} (h:nameOk s=true):s.size≤8:=by
 simp only [nameOk,Bool.and_eq_true,decide_eq_true_eq] at h
 exact h.1.1.1.2
theorem place_rng {c:CODE} (hl:c.2.2.1.length≤200) {n:Int} (h:place c n=true):-1000000000000≤n∧n≤1000000000000:=by
 unfold place at h
 have:=of_decide_eq_true h
 omega
theorem rng_of {c:CODE} (hl:c.2.2.1.length≤200) (hw4:c.2.2.2.length≤400) {w:INS} (h:wordOk c w=true):WRng w:=by
 simp only [wordOk,Bool.and_eq_true] at h
 obtain⟨_,hA,hB,hC,hN,hR⟩:=h
 refine⟨?_,?_,?_,?_,?_⟩
 ·unfold okA at hA
  cases hd:decide (w.1=18)
  ·rw [hd,cond_false,Bool.or_eq_true,Bool.and_eq_true] at hA
   rcases hA with hA | hA
   ·have:=of_decide_eq_true hA.2;omega
   ·exact place_rng hl hA
  ·rw [hd,cond_true] at hA
   have:=of_decide_eq_true hA;omega
 ·unfold okB at hB
  cases hd:hasB w.1
  ·rw [hd,cond_false] at hB
   have:=of_decide_eq_true hB;omega
  ·rw [hd,cond_true] at hB;exact place_rng hl hB
 ·unfold okC at hC
  cases hd:hasC w.1
  ·rw [hd,cond_false] at hC
   have:=of_decide_eq_true hC;omega
  ·rw [hd,cond_true] at hC;exact place_rng hl hC
 ·unfold okN at hN
  cases hd:decide (w.1=1)
  ·rw [hd,cond_false] at hN
   cases he:(decide (w.1=18) || decide (w.1=19))
   ·rw [he,cond_false] at hN
    have:=of_decide_eq_true hN;omega
   ·rw [he,cond_true] at hN
    have:=of_decide_eq_true hN;omega
  ·rw [hd,cond_true] at hN
   have:=of_decide_eq_true hN;omega
 ·unfold okR at hR
  cases hd:decide (w.1=13)
  ·rw [hd,cond_false,Bool.and_eq_true] at hR
   have h0:=of_decide_eq_true hR.2
   intro n hn
   rw [List.eq_nil_of_length_eq_zero (show w.2.2.2.2.2.2.length=0 by omega)] at hn
   cases hn
  ·rw [hd,cond_true,Bool.and_eq_true] at hR
   intro n hn
   exact place_rng hl (List.all_eq_true.1 hR.1 n hn)
theorem drc_of {c:CODE} (h:GoodC c):DrC 0 c:=by
 have h2:=h.2
 simp only [codeOk,Bool.and_eq_true,decide_eq_true_eq] at h2
 obtain⟨a1,a2,a3,a4,a5,a6,a7⟩:=h2
 refine⟨name_size a1,by omega,a4.1,a4.2,fun w hw=>?_⟩
 have h3:=List.all_eq_true.1 a7 w hw
 have hrg:=rng_of a2 a4.2 h3
 simp only [wordOk,Bool.and_eq_true] at h3
 have h4:=h3.2.2.2.2.2
 unfold okR at h4
 cases hd:decide (w.1=13)
 ·rw [hd,cond_false,Bool.and_eq_true,decide_eq_true_eq,decide_eq_true_eq] at h4
  rw [h4.1]
  exact⟨by show(0:Nat)≤8;omega,by omega,hrg⟩
 ·rw [hd,cond_true,Bool.and_eq_true,Bool.and_eq_true,decide_eq_true_eq] at h4
  exact⟨name_size h4.2.1,by omega,hrg⟩
theorem DrC.put {n:Nat} {c:CODE} (h:DrC n c) (i:Nat) (w:INS) (hw:w.2.2.2.2.2.1.size≤8∧w.2.2.2.2.2.2.length≤3+n∧WRng w):DrC n (c.1,(c.2.1,(c.2.2.1,c.2.2.2.set i w))):=by
 refine⟨h.nm,h.lo,by simp only [List.length_set];exact h.w1,by simp only [List.length_set];exact h.wo,fun x hx=>?_⟩
 rcases List.mem_or_eq_of_mem_set hx with hx | hx
 ·exact h.a x hx
 ·subst hx;exact hw
theorem code_wp (c:Cur) (h:COk c):wp (spec_l11Code c) fun y=>DrC 0 y.1∧COk y.2.1:=by
 unfold spec_l11Code
 refine wp_bind (wp_mono (prog_wp c h) fun y1 hy1=>wp_bind (wp_mono (lall_wp hy1.1.1) fun y2 hy2=>wp_bif (fun _=>wp_some ⟨⟨?_,by simp,by simp,by simp,fun w hw=>?_⟩,hy1.2⟩) fun hb=>?_))
 ·have:s_main_0d6e.size=4:=by kernel_rfl
  rw [this];omega
 ·simp only [List.mem_cons,List.not_mem_nil,or_false] at hw
  rcases hw with hw | hw | hw<;>subst hw<;>exact⟨by show(0:Nat)≤8;omega,by show(0:Nat)≤3;omega,by unfold WRng;simp⟩
 ·obtain⟨hne,h8,hall⟩:=hy2 (by simpa using hb)
  have hpos:0<y2.1.length:=List.length_pos_iff.2 hne
  refine wp_bind (wp_mono (once_wp _ _ hy1.2) fun y3 hy3=>wp_bif (fun _=>wp_bind (wp_mono (below_wp _ _ hy3) fun y4 hy4=>?_)) fun _=>?_)
  ·have hlt:=hy4.2.1 (by omega)
   exact wp_run (idxH hy4.1 hlt) (wp_some ⟨drc_of (hall _ (rd_get _ _ _ hy4.1 hlt)),hy4.2.2.2⟩)
  ·rw [wrap64 (by omega) (by omega)]
   have h0:(0:Int)≤(y2.1.length:Int) - 1:=by omega
   have hlt:(y2.1.length:Int) - 1<(y2.1.length:Int):=by omega
   exact wp_run (idxH h0 hlt) (wp_some ⟨drc_of (hall _ (rd_get _ _ _ h0 hlt)),hy3⟩)
theorem wp_jid {α β:Type} {x:Option α} {f:α→β} {Q:β→Prop} (h:wp x fun a=>Q (f a)):wp (joinP x fun a=>some (f a)) Q:=wp_joinP (wp_mono h fun a ha=>wp_some ha)
theorem tmod_rng {a:Int} {n:Nat} (h0:0≤a) (h1:1≤n):0≤Int.tmod a (n:Int)∧Int.tmod a (n:Int)<(n:Int):=⟨Int.tmod_nonneg _ h0,Int.tmod_lt_of_pos _ (by omega)⟩
theorem any_wp (c:Cur) (h:COk c):wp (spec_l11Any c) fun y=>DrC 1 y.1∧COk y.2.1:=by
 unfold spec_l11Any
 refine wp_bind (wp_mono (below_wp _ _ h) fun y1 hy1=>wp_bind (wp_mono (below_wp _ _ hy1.2.2.2) fun y2 hy2=>wp_bind (wp_mono (code_wp _ hy2.2.2.2) fun y3 hy3=>?_)))
 have hd:=hy3.1
 have hf:=(hd.le (by omega:0≤1)).fine
 rw [spec_copy _ hf]
 have hr:=tmod_rng hy2.1 hd.w1
 have hi:(Cnd.idx (Int.tmod y2.1 (y3.1.2.2.2.length:Int)) y3.1.2.2.2.length).holds:=idxH hr.1 hr.2
 have ha:=hd.a _ (rd_get y3.1.2.2.2 (Int.tmod y2.1 (y3.1.2.2.2.length:Int)) zI hr.1 hr.2)
 have ha1:(rd y3.1.2.2.2 (Int.tmod y2.1 (y3.1.2.2.2.length:Int)) zI).2.2.2.2.2.2.length≤3+1:=by omega
 have ha5:∀ t,((rd y3.1.2.2.2 (Int.tmod y2.1 (y3.1.2.2.2.length:Int)) zI).2.2.2.2.2.2++[t]).length≤3+1:=fun t=>by simp only [List.length_append,List.length_singleton];omega
 have ha6:∀ t:Int,((rd y3.1.2.2.2 (Int.tmod y2.1 (y3.1.2.2.2.length:Int)) zI).2.2.2.2.2.2.length+List.length [t]) * 8≤140737488355328:=fun t=>by simp only [List.length_singleton];omega
 have hrg:=ha.2.2
 have hm22:0≤Int.tmod y2.1 22∧Int.tmod y2.1 22<22:=tmod_rng (n:=22) hy2.1 (by omega)
 have hm30:0≤Int.tmod y2.1 30∧Int.tmod y2.1 30<30:=tmod_rng (n:=30) hy2.1 (by omega)
 have hy200:=hy2.2.1 (by omega)
 have hl:=hd.lo
 have hc:=hy3.2
 have hd1:DrC 1 y3.1:=hd.le (by omega)
 refine wp_bind (wp_some (wp_run (show(_:Int)≠0 by have:=hd.w1;simp only;omega) ?_))
 simp only
 refine wp_joinP (wp_mono (Q:=fun x:Cur×CODE×CODE×Unit=>DrC 1 x.2.2.1∧COk x.1) ?_ fun x hx=>wp_some hx)
 refine wp_bif (fun _=>wp_run (show(22:Int)≠0 by decide) (wp_run hi (wp_bindD (wp_some ⟨hd1.put _ _ ⟨ha.1,ha1,hrg⟩,hc⟩)))) fun _=>wp_jid ?_
 refine wp_bif (fun _=>wp_run (show(30:Int)≠0 by decide) (wp_run hi (wp_bindD (wp_some ⟨hd1.put _ _ ⟨ha.1,ha1,by rw [wrap64 (by omega) (by omega)];exact⟨by simp only;omega,hrg.2⟩⟩,hc⟩)))) fun _=>wp_jid ?_
 refine wp_bif (fun _=>wp_run (show(30:Int)≠0 by decide) (wp_run hi (wp_bindD (wp_some ⟨hd1.put _ _ ⟨ha.1,ha1,hrg.1,by simp only;omega,hrg.2.2⟩,hc⟩)))) fun _=>wp_jid ?_
 refine wp_bif (fun _=>wp_run hi (wp_bindD (wp_some ⟨hd1.put _ _ ⟨ha.1,ha1,hrg.1,hrg.2.1,hrg.2.2.1,by simp only;omega,hrg.2.2.2.2⟩,hc⟩))) fun _=>wp_jid ?_
 refine wp_bif (fun _=>wp_run hi (wp_run (show(30:Int)≠0 by decide) (wp_run (ha6 _) (wp_run hi (wp_run ⟨Nat.le_refl _,Nat.le_refl _,trivial⟩ (wp_bindD (wp_some ⟨hd1.put _ _ ⟨ha.1,ha5 _,hrg.1,hrg.2.1,hrg.2.2.1,hrg.2.2.2.1,fun n hn=>(List.mem_append.1 hn).elim (hrg.2.2.2.2 n) fun hn=>by rw [List.mem_singleton.1 hn];omega⟩,hc⟩))))))) fun _=>wp_jid ?_
 refine wp_bif (fun _=>wp_run (show(9:Int)≠0 by decide) (wp_some ⟨⟨hd1.nm,hd1.lo,hd1.w1,hd1.wo,hd1.a⟩,hc⟩)) fun _=>wp_jid ?_
 refine wp_bif (fun _=>wp_run (show(6:Int)≠0 by decide) (wp_run (show(_:Nat)≤_ by simp only [List.length_singleton];omega) (wp_some ⟨⟨hd1.nm,by simp only [List.length_append,List.length_singleton];omega,hd1.w1,hd1.wo,hd1.a⟩,hc⟩))) fun _=>wp_jid ?_
 exact wp_bif (fun _=>wp_run hi (wp_bindD (wp_some ⟨hd1.put _ _ ⟨by show(0:Nat)≤8;omega,by show(0:Nat)≤4;omega,by unfold WRng;simp⟩,hc⟩))) fun _=>wp_some ⟨hd1,hc⟩
end Go.Proofs.YtmakhmoielhjeaaGreatDoorE
namespace Go.Proofs.YtmakhmoielhjeaaGreatDoorE
set_option linter.all false
theorem impl_Decimal_ok (n:Int) (h0:-9223372036854775808≤n) (h1:n≤9223372036854775807):impl_Decimal n=some (itb n,()):=by
 simp only [impl_Decimal,lib_Itoa,if_pos (And.intro h0 h1),Option.bind_some,itb]
end Go.Proofs.YtmakhmoielhjeaaGreatDoorE
namespace Go.Proofs.YtmakhmoielhjeaaGreatDoorE
set_option linter.all false
namespace ShowWord
abbrev W:=Int×(Int×(Int×(Int×(Int×(ByteArray×List Int)))))
def I64 (n:Int):Prop:=-9223372036854775808≤n∧n≤9223372036854775807
theorem sIn (a b c:Int):spec_l01In a b c=some (decide (b≤a∧a≤c),()):=by
 unfold spec_l01In
 by_cases h:b≤a<;>simp [h,joinP]
theorem iIn (a b c:Int):impl_in a b c=some (decide (b≤a∧a≤c),()):=by
 unfold impl_in
 by_cases h:b≤a<;>simp [h,joinP]
def fig (n:Int):ByteArray:=if n<0 then s___3973 else itb n
theorem fig_size {n:Int} (h:I64 n):(fig n).size≤21:=by
 unfold fig
 split
 ·decide
 ·exact itb_size h.1 h.2
theorem spec_fig {n:Int} (h:I64 n):spec_l34Num n=some (fig n,()):=by
 unfold spec_l34Num fig
 by_cases hn:n<0
 ·simp only [hn,decide_true,cond_true,if_true]
 ·simp only [hn,decide_false,cond_false,if_false,spec_Decimal_ok n h.1 h.2,Option.bind_some]
theorem impl_fig {n:Int} (h:I64 n):impl_figures n=some (fig n,()):=by
 unfold impl_figures fig
 by_cases hn:n<0
 ·simp only [hn,decide_true,cond_true,if_true]
 ·simp only [hn,decide_false,cond_false,if_false,impl_Decimal_ok n h.1 h.2,Option.bind_some]
def hb (k:Int):Bool:=decide ((2≤k∧k≤7)∨(9≤k∧k≤12)∨k=14∨k=15)
def hc (k:Int):Bool:=decide (10≤k∧k≤12)
def hn (k:Int):Bool:=decide (k=1∨k=18∨k=19)
theorem spec_hb (k:Int):spec_l11HasB k=some (hb k,()):=by
 simp only [spec_l11HasB,sIn,Option.bind_some,hb]
 by_cases h1:2≤k∧k≤7
 ·simp [h1,joinP]
 ·by_cases h2:9≤k∧k≤12
  ·simp [h1,h2,joinP]
  ·by_cases h3:k=14<;>simp [h1,h2,h3,joinP]
theorem impl_hb (k:Int):impl_hasB k=some (hb k,()):=by
 simp only [impl_hasB,iIn,Option.bind_some,hb]
 by_cases h1:2≤k∧k≤7
 ·simp [h1,joinP]
 ·by_cases h2:9≤k∧k≤12
  ·simp [h1,h2,joinP]
  ·by_cases h3:k=14<;>simp [h1,h2,h3,joinP]
theorem spec_hc (k:Int):spec_l11HasC k=some (hc k,()):=by
 simp only [spec_l11HasC,sIn,Option.bind_some,hc]
theorem impl_hc (k:Int):impl_hasC k=some (hc k,()):=by
 simp only [impl_hasC,iIn,Option.bind_some,hc]
theorem impl_hn (k:Int):impl_hasNum k=some (hn k,()):=by
 simp only [impl_hasNum,hn]
 by_cases h1:k=1
 ·simp [h1,joinP]
 ·by_cases h2:k=18<;>simp [h1,h2,joinP]
theorem impl_ha (k:Int) (h:1≤k∧k≤20):impl_hasA k=some (decide (k≠18),()):=by
 simp only [impl_hasA,iIn,Option.bind_some]
 by_cases h1:1≤k∧k≤17
 ·have:k≠18:=by omega
  simp [h1,joinP,this]
 ·by_cases h2:k=19
  ·simp [h2,joinP]
  ·by_cases h3:k=18
   ·simp [h3,joinP]
   ·have:k=20:=by omega
    simp [this,joinP]
def glue:ByteArray→List ByteArray→ByteArray
 | o,[]=>o
 | o,p::l=>glue (o++s___36a9++p) l
theorem glue_app (o:ByteArray) (l l':List ByteArray):glue o (l++l')=glue (glue o l) l':=by
 induction l generalizing o with
 | nil=>rfl
 | cons p l ih=>exact ih _
def opt (b:Bool) (p:ByteArray):List ByteArray:=if b then [p] else []
def names:List ByteArray:=[s_const_f75c,s_copy_6f5a,s_move_683a,s_read_3316,s_clone_b5d6,s_lend_5d59,s_mut_631c,s_input_c96c,s_new_1150,s_add_7e9e,s_less_4fdd,s_same_0967,s_call_7edb,s_put_373c,s_store_824d,s_print_ce95,s_drop_d90e,s_jump_6bda,s_if_935f,s_ret_85e4]
theorem split_names:lib_Split s_const_copy_move__77de s___36a9=some (names,()):=by kernel_rfl
theorem glue_tail (l:List ByteArray):∀ p:ByteArray,(⟨(p.data.toList++Lib.joinTail s___36a9.data.toList (l.map (·.data.toList))).toArray⟩:ByteArray)=glue p l:=by
 induction l with
 | nil=>intro p;simp [glue,Lib.joinTail]
 | cons q l ih=>
  intro p
  have:=ih (p++s___36a9++q)
  rw [glue,← this]
  apply ByteArray.ext
  simp [Lib.joinTail,List.append_assoc]
theorem glue_size:∀ (l:List ByteArray) (o:ByteArray),(glue o l).size=o.size+(l.map fun p=>p.size+1).sum
 | [],o=>by simp [glue]
 | p::l,o=>by
  have e1:s___36a9.size=1:=rfl
  rw [glue,glue_size l,List.map_cons,List.sum_cons,ByteArray.size_append,ByteArray.size_append]
  omega
theorem lib_join (p:ByteArray) (l:List ByteArray) (h1:l.length≤2000000) (h2:(glue p l).size≤1000000000):lib_Join (p::l) s___36a9=some (glue p l,()):=by
 have e:(⟨(Lib.join ((p::l).map (·.data.toList)) s___36a9.data.toList).toArray⟩:ByteArray)=glue p l:=by
  rw [List.map_cons,Lib.join_cons];exact glue_tail l p
 have e2:(Lib.join ((p::l).map (·.data.toList)) s___36a9.data.toList).length=(glue p l).size:=by
  rw [← e];simp [ByteArray.size]
 unfold lib_Join
 rw [if_pos ⟨by simp;omega,by rw [e2];omega⟩,e]
theorem spec_step (b:Bool) (out:ByteArray) {n:Int} (w:W) (h:I64 n) (hs:out.size≤1000000000) {β:Type} (k:ByteArray×W×Unit→Option β):
 joinP (bif b then (Cnd.le (out.size+s___36a9.size) maxI).run ((spec_l34Num n).bind fun y6=>(Cnd.le ((out++s___36a9).size+y6.1.size) maxI).run (some ((out++s___36a9)++y6.1,w,()))) else some (out,w,())) k=k (glue out (opt b (fig n)),w,()):=by
 have e1:s___36a9.size=1:=rfl
 have h2:=fig_size h
 cases b with
 | false=>rfl
 | true=>
  simp only [cond_true,spec_fig h,Option.bind_some]
  rw [le_run (by simp only [maxI];omega),le_run (by simp only [ByteArray.size_append,maxI];omega)]
  rfl
theorem impl_step (b:Bool) (l:List ByteArray) {n:Int} (w:W) (h:I64 n) (hs:l.length≤1000) {β:Type} (k:List ByteArray×W×Unit→Option β):
 joinP (bif b then (impl_figures n).bind fun y=>(Cnd.le ((List.length l+List.length [y.1]) * 16) 140737488355328).run (some (l++[y.1],w,())) else some (l,w,())) k=k (l++opt b (fig n),w,()):=by
 cases b with
 | false=>simp [opt,joinP]
 | true=>
  simp only [cond_true,impl_fig h,Option.bind_some]
  rw [le_run (by simp;omega)]
  rfl
theorem opt_len (b:Bool) (p:ByteArray):(opt b p).length≤1:=by cases b<;>simp [opt]
theorem opt_glue_size (b:Bool) (o:ByteArray) {n:Int} (h:I64 n):(glue o (opt b (fig n))).size≤o.size+22:=by
 have h2:=fig_size h
 rw [glue_size]
 cases b<;>simp [opt]
 omega
theorem spec_loop (w:W) (hb:∀ n∈w.2.2.2.2.2.2,I64 n) (hl:w.2.2.2.2.2.2.length≤1048576):∀ (m k:Nat) (out:ByteArray),k+m=w.2.2.2.2.2.2.length→out.size+22 * m≤100000000→loopF L1_spec_ShowWord (out,(k:Int),w,())=some (glue out ((w.2.2.2.2.2.2.drop k).map fig),())
 | 0,k,out,hk,hs=>by
  rw [List.drop_eq_nil_of_le (by omega)]
  refine loopF_inr ?_
  simp only [L1_spec_ShowWord,show ¬ ((k:Int)<(w.2.2.2.2.2.2.length:Int)) by omega,decide_false,cond_false,Option.map_some,List.map_nil,glue]
 | m+1,k,out,hk,hs=>by
  have hkl:k<w.2.2.2.2.2.2.length:=by omega
  have h1:=hb _ (List.getElem_mem hkl)
  have h2:=fig_size h1
  have e1:s___36a9.size=1:=rfl
  rw [List.drop_eq_getElem_cons hkl,List.map_cons,glue,loopF_inl (b':=(out++s___36a9++fig w.2.2.2.2.2.2[k],((k+1:Nat):Int),w,())),spec_loop w hb hl m (k+1) _ (by omega) (by simp only [ByteArray.size_append];omega)]
  simp only [L1_spec_ShowWord,show((k:Int)<(w.2.2.2.2.2.2.length:Int)) by omega,decide_true,cond_true,idx_run hkl,rd_nat hkl,spec_fig h1,Option.bind_some,wrapSucc (show k<9223372036854775807 by omega)]
  rw [le_run (by simp only [maxI];omega),le_run (by simp only [ByteArray.size_append,maxI];omega)];rfl
theorem impl_loop (a:List Int) (hb:∀ n∈a,I64 n) (hl:a.length≤1048576):∀ (m k:Nat) (l:List ByteArray),k+m=a.length→l.length+m≤2000000→loopF L1_impl_ShowWord (l,a,(a.length:Int),(k:Int),())=some (l++(a.drop k).map fig,())
 | 0,k,l,hk,hs=>by
  rw [List.drop_eq_nil_of_le (by omega)]
  refine loopF_inr ?_
  simp only [L1_impl_ShowWord,show ¬ ((k:Int)<(a.length:Int)) by omega,decide_false,cond_false,Option.map_some,List.map_nil,List.append_nil]
 | m+1,k,l,hk,hs=>by
  have hkl:k<a.length:=by omega
  have h1:=hb _ (List.getElem_mem hkl)
  rw [List.drop_eq_getElem_cons hkl,List.map_cons,loopF_inl (b':=(l++[fig a[k]],a,(a.length:Int),((k+1:Nat):Int),())),impl_loop a hb hl m (k+1) _ (by omega) (by simp;omega),List.append_assoc]
  ·rfl
  ·simp only [L1_impl_ShowWord,show((k:Int)<(a.length:Int)) by omega,decide_true,cond_true,idx_run hkl,rd_nat hkl,impl_fig h1,Option.bind_some,wrapSucc (show k<9223372036854775807 by omega)]
   rw [le_run (by simp;omega)];rfl
def parts (w:W):List ByteArray:=opt (decide (w.1≠18)) (fig w.2.1)++opt (hb w.1) (fig w.2.2.1)++opt (hc w.1) (fig w.2.2.2.1)++opt (hn w.1) (fig w.2.2.2.2.1)++(if w.1=13 then w.2.2.2.2.2.1::w.2.2.2.2.2.2.map fig else [])
def name (w:W):ByteArray:=names.getD (w.1 - 1).toNat ⟨#[]⟩
def txt (w:W):ByteArray:=if 1≤w.1∧w.1≤20 then glue (name w) (parts w) else ⟨#[]⟩
structure Ok (w:W):Prop where
 a:I64 w.2.1
 b:I64 w.2.2.1
 c:I64 w.2.2.2.1
 n:I64 w.2.2.2.2.1
 s:w.2.2.2.2.2.1.size≤1048576
 l:w.2.2.2.2.2.2.length≤1048576
 i:∀ n∈w.2.2.2.2.2.2,I64 n
theorem name_size (w:W):(name w).size≤10:=by
 have:∀ i,(names.getD i ⟨#[]⟩).size≤10:=by
  intro i
  rcases Nat.lt_or_ge i 20 with h | h
  ·have:∀ i:Fin 20,(names.getD i.1 ⟨#[]⟩).size≤10:=by decide
   exact this ⟨i,h⟩
  ·have hn:names.length=20:=rfl
   rw [List.getD_eq_getElem?_getD,List.getElem?_eq_none (by omega)]
   decide
 exact this _
theorem spec_last (w:W) (h:Ok w) (out:ByteArray) (hs:out.size≤1000):
 (joinP (joinP (bif decide (w.1=(1:Int)) then some (out,w.1,decide (w.1=(1:Int)),w,()) else joinP (bif decide (w.1=(18:Int)) then some (out,w.1,decide (w.1=(18:Int)),w,()) else some (out,w.1,decide (w.1=(19:Int)),w,())) fun x11=>some (x11.1,x11.2.1,x11.2.2.1,x11.2.2.2.1,())) fun x12=>joinP (bif x12.2.2.1 then (Cnd.le (x12.1.size+s___36a9.size) maxI).run ((spec_l34Num x12.2.2.2.1.2.2.2.2.1).bind fun y13=>(Cnd.le ((x12.1++s___36a9).size+y13.1.size) maxI).run (some ((x12.1++s___36a9)++y13.1,()))) else joinP (bif decide (x12.2.1=(13:Int)) then (Cnd.le (x12.1.size+s___36a9.size) maxI).run ((Cnd.le ((x12.1++s___36a9).size+x12.2.2.2.1.2.2.2.2.2.1.size) maxI).run (joinP ((some ((x12.1++s___36a9)++x12.2.2.2.1.2.2.2.2.2.1,(0:Int),x12.2.2.2.1,())).bind fun x140=>loopF L1_spec_ShowWord x140) fun x16=>some (x16.1,()))) else some (x12.1,())) fun x17=>some (x17.1,())) fun x18=>some (x18.1,())) fun x19=>some (x19.1,()):Option (ByteArray×Unit))
 = some (glue out (opt (hn w.1) (fig w.2.2.2.2.1)++(if w.1=13 then w.2.2.2.2.2.1::w.2.2.2.2.2.2.map fig else [])),()):=by
 have e1:s___36a9.size=1:=rfl
 have h2:=fig_size h.n
 have hin:joinP (bif decide (w.1=(1:Int)) then some (out,w.1,decide (w.1=(1:Int)),w,()) else joinP (bif decide (w.1=(18:Int)) then some (out,w.1,decide (w.1=(18:Int)),w,()) else some (out,w.1,decide (w.1=(19:Int)),w,())) fun x11=>some (x11.1,x11.2.1,x11.2.2.1,x11.2.2.2.1,())) (fun x=>some x)=some (out,w.1,hn w.1,w,()):=by
  by_cases k1:w.1=1
  ·simp [k1,joinP,hn]
  ·by_cases k2:w.1=18
   ·simp [k2,joinP,hn]
   ·simp [k1,k2,joinP,hn]
 have hin':(bif decide (w.1=(1:Int)) then some (out,w.1,decide (w.1=(1:Int)),w,()) else joinP (bif decide (w.1=(18:Int)) then some (out,w.1,decide (w.1=(18:Int)),w,()) else some (out,w.1,decide (w.1=(19:Int)),w,())) fun x11=>some (x11.1,x11.2.1,x11.2.2.1,x11.2.2.2.1,()))=some (out,w.1,hn w.1,w,()):=by
  rw [← hin];unfold joinP;simp
 rw [hin']
 simp only [joinP_some]
 cases hnb:hn w.1 with
 | true=>
  have h13:¬ w.1=13:=by
   simp only [hn,decide_eq_true_eq] at hnb
   omega
  simp only [cond_true,spec_fig h.n,Option.bind_some]
  rw [le_run (by simp only [maxI];omega),le_run (by simp only [ByteArray.size_append,maxI];omega)]
  simp only [joinP_some,h13,if_false,opt,if_true,List.append_nil,glue]
 | false=>
  simp only [cond_false,opt,Bool.false_eq_true,if_false,List.nil_append]
  by_cases h13:w.1=13
  ·simp only [h13,decide_true,cond_true,Option.bind_some,if_true]
   have hl:=spec_loop w h.i h.l w.2.2.2.2.2.2.length 0 (out++s___36a9++w.2.2.2.2.2.1) (by omega) (by have:=h.s;have:=h.l;simp only [ByteArray.size_append];omega)
   simp only [Int.natCast_zero,List.drop_zero] at hl
   have hs2:=h.s
   rw [le_run (by simp only [maxI];omega),le_run (by simp only [ByteArray.size_append,maxI];omega),hl]
   simp only [joinP_some,glue]
  ·simp only [h13,decide_false,cond_false,joinP_some,if_false,glue]
theorem spec_ok (w:W) (h:Ok w):spec_ShowWord w=some (txt w,()):=by
 simp only [spec_ShowWord,sIn,Option.bind_some,txt]
 by_cases hk:1≤w.1∧w.1≤20
 ·have hrd:rd ((⟨#[]⟩:ByteArray)::names) w.1 (⟨#[]⟩:ByteArray)=name w:=by
   unfold name
   show((⟨#[]⟩:ByteArray)::names).getD w.1.toNat ⟨#[]⟩=_
   rw [show w.1.toNat=(w.1 - 1).toNat+1 by omega,List.getD_cons_succ]
  have hnm:spec_l34Names=some ((⟨#[]⟩:ByteArray)::names,()):=rfl
  have hidx:∀ {K:Option (ByteArray×Unit)},(Cnd.idx w.1 (List.length ((⟨#[]⟩:ByteArray)::names))).run K=K:=by
   intro K
   simp only [Cnd.run]
   rw [if_pos (by have:List.length ((⟨#[]⟩:ByteArray)::names)=21:=rfl;omega)]
  have hs:=name_size w
  simp only [decide_eq_true hk,Bool.not_true,cond_false,hnm,Option.bind_some,hidx,hrd,if_pos hk]
  rw [spec_step (decide (w.1≠18)) (name w) w h.a (by omega)]
  have q1:=opt_glue_size (decide (w.1≠18)) (name w) h.a
  simp only [spec_hb,Option.bind_some]
  rw [spec_step (hb w.1) _ w h.b (by omega)]
  have q2:=opt_glue_size (hb w.1) (glue (name w) (opt (decide (w.1≠18)) (fig w.2.1))) h.b
  simp only [spec_hc,Option.bind_some]
  rw [spec_step (hc w.1) _ w h.c (by omega)]
  have q3:=opt_glue_size (hc w.1) (glue (glue (name w) (opt (decide (w.1≠18)) (fig w.2.1))) (opt (hb w.1) (fig w.2.2.1))) h.c
  refine(spec_last w h (glue (glue (glue (name w) (opt (decide (w.1≠18)) (fig w.2.1))) (opt (hb w.1) (fig w.2.2.1))) (opt (hc w.1) (fig w.2.2.2.1))) (by omega)).trans ?_
  simp only [parts,glue_app,List.append_assoc]
 ·simp only [decide_eq_false hk,Bool.not_false,cond_true,if_neg hk]
theorem glue_le:∀ (l:List ByteArray) (o:ByteArray) (B:Nat),(∀ p∈l,p.size≤B)→(glue o l).size≤o.size+(B+1) * l.length
 | [],o,B,_=>by simp [glue]
 | p::l,o,B,h=>by
  have:=glue_le l (o++s___36a9++p) B (fun q hq=>h q (by simp [hq]))
  have h1:=h p (by simp)
  have e1:s___36a9.size=1:=rfl
  simp only [ByteArray.size_append] at this
  rw [glue,List.length_cons,Nat.mul_succ]
  omega
theorem parts_size (w:W) (h:Ok w):(glue (name w) (parts w)).size≤100000000:=by
 have q0:=name_size w
 have q1:=opt_glue_size (decide (w.1≠18)) (name w) h.a
 have q2:=opt_glue_size (hb w.1) (glue (name w) (opt (decide (w.1≠18)) (fig w.2.1))) h.b
 have q3:=opt_glue_size (hc w.1) (glue (glue (name w) (opt (decide (w.1≠18)) (fig w.2.1))) (opt (hb w.1) (fig w.2.2.1))) h.c
 have q4:=opt_glue_size (hn w.1) (glue (glue (glue (name w) (opt (decide (w.1≠18)) (fig w.2.1))) (opt (hb w.1) (fig w.2.2.1))) (opt (hc w.1) (fig w.2.2.2.1))) h.n
 simp only [parts,glue_app]
 split
 ·rw [glue]
  have q5:=glue_le (w.2.2.2.2.2.2.map fig) (glue (glue (glue (glue (name w) (opt (decide (w.1≠18)) (fig w.2.1))) (opt (hb w.1) (fig w.2.2.1))) (opt (hc w.1) (fig w.2.2.2.1))) (opt (hn w.1) (fig w.2.2.2.2.1))++s___36a9++w.2.2.2.2.2.1) 21 (fun p hp=>by
   obtain⟨n,hn,rfl⟩:=List.mem_map.1 hp
   exact fig_size (h.i n hn))
  have e1:s___36a9.size=1:=rfl
  have hl:=h.l
  have hs:=h.s
  simp only [ByteArray.size_append,List.length_map] at q5
  omega
 ·rw [glue];omega
theorem parts_len (w:W) (h:Ok w):(parts w).length≤1100000:=by
 have hl:=h.l
 have a1:=opt_len (decide (w.1≠18)) (fig w.2.1)
 have a2:=opt_len (hb w.1) (fig w.2.2.1)
 have a3:=opt_len (hc w.1) (fig w.2.2.2.1)
 have a4:=opt_len (hn w.1) (fig w.2.2.2.2.1)
 simp only [parts,List.length_append]
 split
 ·simp only [List.length_cons,List.length_map];omega
 ·simp only [List.length_nil];omega
theorem impl_ok (w:W) (h:Ok w):impl_ShowWord w=some (txt w,()):=by
 simp only [impl_ShowWord,iIn,Option.bind_some,txt]
 by_cases hk:1≤w.1∧w.1≤20
 ·have hw:IntKind.wrap .i64 (w.1 - (1:Int))=w.1 - 1:=wrap64 (by omega) (by omega)
  have hrd:rd names (w.1 - 1) (⟨#[]⟩:ByteArray)=name w:=rfl
  have hidx:∀ {K:Option (ByteArray×Unit)},(Cnd.idx (w.1 - 1) (List.length names)).run K=K:=by
   intro K
   simp only [Cnd.run]
   rw [if_pos (by have:List.length names=20:=rfl;omega)]
  have a1:=opt_len (decide (w.1≠18)) (fig w.2.1)
  have a2:=opt_len (hb w.1) (fig w.2.2.1)
  have a3:=opt_len (hc w.1) (fig w.2.2.2.1)
  have a4:=opt_len (hn w.1) (fig w.2.2.2.2.1)
  simp only [decide_eq_true hk,Bool.not_true,cond_false,split_names,Option.bind_some,hw,hidx,hrd,impl_ha w.1 hk,if_pos hk]
  rw [impl_step (decide (w.1≠18)) [name w] w h.a (by simp)]
  simp only [impl_hb,Option.bind_some]
  rw [impl_step (hb w.1) _ w h.b (by simp only [List.length_append,List.length_cons,List.length_nil];omega)]
  simp only [impl_hc,Option.bind_some]
  rw [impl_step (hc w.1) _ w h.c (by simp only [List.length_append,List.length_cons,List.length_nil];omega)]
  simp only [impl_hn,Option.bind_some]
  rw [impl_step (hn w.1) _ w h.n (by simp only [List.length_append,List.length_cons,List.length_nil];omega)]
  have hj:=lib_join (name w) (parts w) (by have:=parts_len w h;omega) (by have:=parts_size w h;omega)
  by_cases h13:w.1=13
  ·have hl:=impl_loop w.2.2.2.2.2.2 h.i h.l w.2.2.2.2.2.2.length 0 ((((([name w]++opt (decide (w.1≠18)) (fig w.2.1))++opt (hb w.1) (fig w.2.2.1))++opt (hc w.1) (fig w.2.2.2.1))++opt (hn w.1) (fig w.2.2.2.2.1))++[w.2.2.2.2.2.1]) (by omega) (by have:=h.l;simp only [List.length_append,List.length_cons,List.length_nil];omega)
   simp only [Int.natCast_zero,List.drop_zero] at hl
   have hp:((((([name w]++opt (decide (w.1≠18)) (fig w.2.1))++opt (hb w.1) (fig w.2.2.1))++opt (hc w.1) (fig w.2.2.2.1))++opt (hn w.1) (fig w.2.2.2.2.1))++[w.2.2.2.2.2.1])++w.2.2.2.2.2.2.map fig=name w::parts w:=by
    unfold parts;rw [if_pos h13];simp
   have hd:decide (w.1=13)=true:=decide_eq_true h13
   simp only [hd,cond_true,Option.bind_some]
   rw [le_run (by simp only [List.length_append,List.length_cons,List.length_nil];omega),hl]
   simp only [joinP_some,hp,hj,Option.bind_some]
  ·have hp:(((([name w]++opt (decide (w.1≠18)) (fig w.2.1))++opt (hb w.1) (fig w.2.2.1))++opt (hc w.1) (fig w.2.2.2.1))++opt (hn w.1) (fig w.2.2.2.2.1))=name w::parts w:=by
    unfold parts;rw [if_neg h13];simp
   have hd:decide (w.1=13)=false:=decide_eq_false h13
   simp only [hd,cond_false,joinP_some,hp,hj,Option.bind_some]
 ·simp only [decide_eq_false hk,Bool.not_false,cond_true,if_neg hk]
end ShowWord
end Go.Proofs.YtmakhmoielhjeaaGreatDoorE
namespace Go.Proofs.YtmakhmoielhjeaaGreatDoorE
set_option linter.all false
namespace Listing
abbrev I:=ShowWord.W
abbrev W:=ByteArray×(Int×(List Int×List I))
theorem txt_size (w:I) (h:ShowWord.Ok w):(ShowWord.txt w).size≤100000000:=by
 unfold ShowWord.txt
 split
 ·exact ShowWord.parts_size w h
 ·exact(by decide:(⟨#[]⟩:ByteArray).size≤100000000)
def line (k:Nat) (w:I):ByteArray:=itb (k:Int)++s___36a9++ShowWord.txt w++s___01ba
def lines:Nat→List I→ByteArray→ByteArray
 | _,[],out=>out
 | k,w::l,out=>lines (k+1) l (out++line k w)
theorem spec_loop (x:W) (hl:x.2.2.2.length≤1048576) (hok:∀ w∈x.2.2.2,ShowWord.Ok w):∀ (m k:Nat) (out:ByteArray),k+m=x.2.2.2.length→out.size+200000000 * m≤1000000000000000→loopF L1_spec_Listing (out,(k:Int),x,())=some (lines k (x.2.2.2.drop k) out,())
 | 0,k,out,hk,hs=>by
  rw [List.drop_eq_nil_of_le (by omega)]
  refine loopF_inr ?_
  simp only [L1_spec_Listing,show ¬ ((k:Int)<(x.2.2.2.length:Int)) by omega,decide_false,cond_false,Option.map_some,lines]
 | m+1,k,out,hk,hs=>by
  have hkl:k<x.2.2.2.length:=by omega
  have h1:=hok _ (List.getElem_mem hkl)
  have h2:=txt_size _ h1
  have h3:=itb_size (n:=(k:Int)) (by omega) (by omega)
  have e1:s___36a9.size=1:=rfl
  have e2:s___01ba.size=1:=rfl
  rw [List.drop_eq_getElem_cons hkl,lines,loopF_inl (b':=(out++line k x.2.2.2[k],((k+1:Nat):Int),x,())),spec_loop x hl hok m (k+1) _ (by omega) (by simp only [line,ByteArray.size_append];omega)]
  simp only [L1_spec_Listing,show((k:Int)<(x.2.2.2.length:Int)) by omega,decide_true,cond_true,idx_run hkl,rd_nat hkl,spec_Decimal_ok (k:Int) (by omega) (by omega),ShowWord.spec_ok _ h1,Option.bind_some,wrapSucc (show k<9223372036854775807 by omega)]
  rw [le_run (by simp only [maxI];omega),le_run (by simp only [ByteArray.size_append,maxI];omega),le_run (by simp only [ByteArray.size_append,maxI];omega),le_run (by simp only [ByteArray.size_append,maxI];omega)]
  simp only [line,ByteArray.append_assoc,Option.map_some]
theorem impl_loop (l:List I) (hl:l.length≤1048576) (hok:∀ w∈l,ShowWord.Ok w):∀ (m k:Nat) (out:ByteArray),k+m=l.length→out.size+200000000 * m≤1000000000000000→loopF L1_impl_Listing (out,l,(l.length:Int),(k:Int),())=some (lines k (l.drop k) out,())
 | 0,k,out,hk,hs=>by
  rw [List.drop_eq_nil_of_le (by omega)]
  refine loopF_inr ?_
  simp only [L1_impl_Listing,show ¬ ((k:Int)<(l.length:Int)) by omega,decide_false,cond_false,Option.map_some,lines]
 | m+1,k,out,hk,hs=>by
  have hkl:k<l.length:=by omega
  have h1:=hok _ (List.getElem_mem hkl)
  have h2:=txt_size _ h1
  have h3:=itb_size (n:=(k:Int)) (by omega) (by omega)
  have e1:s___36a9.size=1:=rfl
  have e2:s___01ba.size=1:=rfl
  rw [List.drop_eq_getElem_cons hkl,lines,loopF_inl (b':=(out++line k l[k],l,(l.length:Int),((k+1:Nat):Int),())),impl_loop l hl hok m (k+1) _ (by omega) (by simp only [line,ByteArray.size_append];omega)]
  simp only [L1_impl_Listing,show((k:Int)<(l.length:Int)) by omega,decide_true,cond_true,idx_run hkl,rd_nat hkl,impl_Decimal_ok (k:Int) (by omega) (by omega),ShowWord.impl_ok _ h1,Option.bind_some,wrapSucc (show k<9223372036854775807 by omega)]
  rw [le_run (by simp only [maxI];omega),le_run (by simp only [ByteArray.size_append,maxI];omega),le_run (by simp only [ByteArray.size_append,maxI];omega),le_run (by simp only [ByteArray.size_append,maxI];omega)]
  rfl
def txt (x:W):ByteArray:=lines 0 x.2.2.2 (s_code__aacf++x.1++s___01ba)
structure Ok (x:W):Prop where
 n:x.1.size≤1048576
 l:x.2.2.2.length≤1048576
 w:∀ w∈x.2.2.2,ShowWord.Ok w
theorem spec_ok (x:W) (h:Ok x):spec_Listing x=some (txt x,()):=by
 have e0:s_code__aacf.size=5:=rfl
 have e2:s___01ba.size=1:=rfl
 have hn:=h.n
 have hlen:=h.l
 have hl:=spec_loop x h.l h.w x.2.2.2.length 0 (s_code__aacf++x.1++s___01ba) (by omega) (by simp only [ByteArray.size_append];omega)
 simp only [Int.natCast_zero,List.drop_zero] at hl
 simp only [spec_Listing,Option.bind_some,hl,joinP_some]
 rw [le_run (by simp only [maxI];omega),le_run (by simp only [ByteArray.size_append,maxI];omega)]
 rfl
theorem impl_ok (x:W) (h:Ok x):impl_Listing x=some (txt x,()):=by
 have e0:s_code__aacf.size=5:=rfl
 have e2:s___01ba.size=1:=rfl
 have hn:=h.n
 have hlen:=h.l
 have hl:=impl_loop x.2.2.2 h.l h.w x.2.2.2.length 0 (s_code__aacf++x.1++s___01ba) (by omega) (by simp only [ByteArray.size_append];omega)
 simp only [Int.natCast_zero,List.drop_zero] at hl
 simp only [impl_Listing,Option.bind_some,hl,joinP_some]
 rw [le_run (by simp only [maxI];omega),le_run (by simp only [ByteArray.size_append,maxI];omega)]
 rfl
end Listing
end Go.Proofs.YtmakhmoielhjeaaGreatDoorE
namespace Go.Proofs.YtmakhmoielhjeaaGreatDoorE
set_option linter.all false
namespace ShowEnding
abbrev W:=List Int×Int
def I64 (n:Int):Prop:=-9223372036854775808≤n∧n≤9223372036854775807
def tolds:List Int→ByteArray→ByteArray
 | [],out=>out
 | n::l,out=>tolds l (out++itb n++s___36a9)
theorem tolds_size:∀ (l:List Int) (out:ByteArray),(∀ n∈l,I64 n)→(tolds l out).size≤out.size+22 * l.length
 | [],out,_=>by simp [tolds]
 | n::l,out,h=>by
  have:=tolds_size l (out++itb n++s___36a9) (fun x hx=>h x (by simp [hx]))
  have h1:=h n (by simp)
  have h2:=itb_size h1.1 h1.2
  have e1:s___36a9.size=1:=rfl
  simp only [ByteArray.size_append] at this
  simp only [tolds,List.length_cons]
  omega
theorem eSIn (a b c:Int):spec_l01In a b c=some (decide (b≤a∧a≤c),()):=by
 unfold spec_l01In
 by_cases h:b≤a<;>simp [h,joinP]
theorem eIIn (a b c:Int):impl_in a b c=some (decide (b≤a∧a≤c),()):=by
 unfold impl_in
 by_cases h:b≤a<;>simp [h,joinP]
theorem spec_loop (l:List Int) (c:Int) (hb:∀ n∈l,I64 n) (hl:l.length≤1048576):∀ (m k:Nat) (out:ByteArray),k+m=l.length→out.size+22 * m≤100000000→loopF L1_spec_ShowEnding (out,(k:Int),(l,c),())=some (tolds (l.drop k) out,(l,c),())
 | 0,k,out,hk,hs=>by
  rw [List.drop_eq_nil_of_le (by omega)]
  exact loopF_inr (by simp [L1_spec_ShowEnding,tolds,show ¬ ((k:Int)<(l.length:Int)) by omega])
 | m+1,k,out,hk,hs=>by
  have hkl:k<l.length:=by omega
  have h1:=hb l[k] (List.getElem_mem hkl)
  have h2:=itb_size h1.1 h1.2
  have e1:s___36a9.size=1:=rfl
  rw [List.drop_eq_getElem_cons hkl,tolds,loopF_inl (b':=(out++itb l[k]++s___36a9,((k+1:Nat):Int),(l,c),())),spec_loop l c hb hl m (k+1) _ (by omega) (by simp only [ByteArray.size_append];omega)]
  simp only [L1_spec_ShowEnding,show((k:Int)<(l.length:Int)) by omega,decide_true,cond_true,idx_run hkl,rd_nat hkl,spec_Decimal_ok _ h1.1 h1.2,Option.bind_some,wrapSucc (show k<9223372036854775807 by omega)]
  rw [le_run (by simp only [maxI];omega),le_run (by simp only [ByteArray.size_append,maxI];omega)];rfl
theorem impl_loop (l:List Int) (c:Int) (hb:∀ n∈l,I64 n) (hl:l.length≤1048576):∀ (m k:Nat) (out:ByteArray),k+m=l.length→out.size+22 * m≤100000000→loopF L1_impl_ShowEnding (out,l,(l.length:Int),(k:Int),(l,c),())=some (tolds (l.drop k) out,(l,c),())
 | 0,k,out,hk,hs=>by
  rw [List.drop_eq_nil_of_le (by omega)]
  exact loopF_inr (by simp [L1_impl_ShowEnding,tolds,show ¬ ((k:Int)<(l.length:Int)) by omega])
 | m+1,k,out,hk,hs=>by
  have hkl:k<l.length:=by omega
  have h1:=hb l[k] (List.getElem_mem hkl)
  have h2:=itb_size h1.1 h1.2
  have e1:s___36a9.size=1:=rfl
  rw [List.drop_eq_getElem_cons hkl,tolds,loopF_inl (b':=(out++itb l[k]++s___36a9,l,(l.length:Int),((k+1:Nat):Int),(l,c),())),impl_loop l c hb hl m (k+1) _ (by omega) (by simp only [ByteArray.size_append];omega)]
  simp only [L1_impl_ShowEnding,show((k:Int)<(l.length:Int)) by omega,decide_true,cond_true,idx_run hkl,rd_nat hkl,impl_Decimal_ok _ h1.1 h1.2,Option.bind_some,wrapSucc (show k<9223372036854775807 by omega)]
  rw [le_run (by simp only [maxI];omega),le_run (by simp only [ByteArray.size_append,maxI];omega),ByteArray.append_assoc];rfl
def ends:List ByteArray:=[s_done_a4c3,s_fuel_acbe,s_input_c96c,s_over_5fb6,s_moved_5edd,s_gone_283b]
def et (c:Int):ByteArray:=if 0≤c∧c≤5 then ends.getD c.toNat ⟨#[]⟩ else s___8a8d
theorem et_size (k:Int):(et k).size≤10:=by
 unfold et
 split
 ·rename_i h
  have:k.toNat=0∨k.toNat=1∨k.toNat=2∨k.toNat=3∨k.toNat=4∨k.toNat=5:=by omega
  rcases this with h | h | h | h | h | h<;>rw [h]<;>decide
 ·decide
theorem idx6 {α:Type} {c:Int} {K:Option α} (h:0≤c∧c≤5):(Cnd.idx c (List.length [s_done_a4c3,s_fuel_acbe,s_input_c96c,s_over_5fb6,s_moved_5edd,s_gone_283b])).run K=K:=by
 simp only [Cnd.run]
 rw [if_pos (by simp;omega)]
def txt (w:W):ByteArray:=tolds w.1 ⟨#[]⟩++et w.2++s___01ba
theorem spec_ok (w:W) (hb:∀ n∈w.1,I64 n) (hl:w.1.length≤1048576):spec_ShowEnding w=some (txt w,()):=by
 obtain⟨l,c⟩:=w
 have h:=spec_loop l c hb hl l.length 0 ⟨#[]⟩ (by omega) (by
  have:(⟨#[]⟩:ByteArray).size=0:=rfl
  simp only at hl
  omega)
 have hsz:=tolds_size l ⟨#[]⟩ hb
 have h0:(⟨#[]⟩:ByteArray).size=0:=rfl
 have e1:s___01ba.size=1:=rfl
 have e2:s____ce77.size=2:=rfl
 simp only at hl
 simp only [Int.natCast_zero,List.drop_zero] at h
 have hk:=et_size c
 simp only [spec_ShowEnding,Option.bind_some,h,joinP_some,eSIn,txt]
 by_cases hc:0≤c∧c≤5
 ·have het:rd [s_done_a4c3,s_fuel_acbe,s_input_c96c,s_over_5fb6,s_moved_5edd,s_gone_283b] c (⟨#[]⟩:ByteArray)=et c:=by
   unfold et;rw [if_pos hc];rfl
  simp only [decide_eq_true hc,Bool.not_true,cond_false,idx6 hc,het]
  rw [le_run (by simp only [maxI];omega),le_run (by simp only [ByteArray.size_append,maxI];omega)]
 ·have het:et c=s___8a8d:=by unfold et;rw [if_neg hc]
  simp only [decide_eq_false hc,Bool.not_false,cond_true]
  rw [le_run (by simp only [maxI];omega),het,ByteArray.append_assoc]
  rfl
theorem impl_ok (w:W) (hb:∀ n∈w.1,I64 n) (hl:w.1.length≤1048576):impl_ShowEnding w=some (txt w,()):=by
 obtain⟨l,c⟩:=w
 have h:=impl_loop l c hb hl l.length 0 ⟨#[]⟩ (by omega) (by
  have:(⟨#[]⟩:ByteArray).size=0:=rfl
  simp only at hl
  omega)
 have hsz:=tolds_size l ⟨#[]⟩ hb
 have h0:(⟨#[]⟩:ByteArray).size=0:=rfl
 have e1:s___01ba.size=1:=rfl
 simp only at hl
 simp only [Int.natCast_zero,List.drop_zero] at h
 have hk:=et_size c
 simp only [impl_ShowEnding,Option.bind_some,h,joinP_some,eIIn,txt]
 have hfin:(Cnd.le ((tolds l ⟨#[]⟩).size+(et c).size) maxI).run ((Cnd.le ((tolds l ⟨#[]⟩++et c).size+s___01ba.size) maxI).run (some (tolds l ⟨#[]⟩++et c++s___01ba,())))=some (tolds l ⟨#[]⟩++et c++s___01ba,()):=by
  rw [le_run (by simp only [maxI];omega),le_run (by simp only [ByteArray.size_append,maxI];omega)]
 by_cases hc:0≤c∧c≤5
 ·have het:rd [s_done_a4c3,s_fuel_acbe,s_input_c96c,s_over_5fb6,s_moved_5edd,s_gone_283b] c (⟨#[]⟩:ByteArray)=et c:=by
   unfold et;rw [if_pos hc];rfl
  simp only [decide_eq_true hc,cond_true,idx6 hc,het,joinP_some,hfin]
 ·have het:s___8a8d=et c:=by unfold et;rw [if_neg hc]
  simp only [decide_eq_false hc,cond_false,joinP_some,het,hfin]
end ShowEnding
end Go.Proofs.YtmakhmoielhjeaaGreatDoorE
namespace Go.Proofs.YtmakhmoielhjeaaGreatDoorE
set_option linter.all false
set_option maxRecDepth 100000
namespace X
def nonl (s:ByteArray):Prop:=∀ b∈s.data.toList,b≠(10:UInt8)
def nl (s:ByteArray):Nat:=s.data.toList.countP fun b=>decide (b=10)
theorem toList_app (a b:ByteArray):(a++b).data.toList=a.data.toList++b.data.toList:=by simp
theorem nl_app (a b:ByteArray):nl (a++b)=nl a+nl b:=by unfold nl;rw [toList_app,List.countP_append]
theorem nl_zero {s:ByteArray} (h:nonl s):nl s=0:=by
 unfold nl
 rw [List.countP_eq_zero]
 intro b hb
 have:=h b hb
 simpa using this
theorem nonl_app {a b:ByteArray} (ha:nonl a) (hb:nonl b):nonl (a++b):=fun x hx=>by
 rw [toList_app] at hx
 exact(List.mem_append.1 hx).elim (ha x) (hb x)
theorem nonl_nil:nonl (⟨#[]⟩:ByteArray):=fun x hx=>by simp at hx
theorem dig (u:Nat):∀ b∈Lib.decDigits u,b≠(10:UInt8):=by
 induction u using Nat.strongRecOn with
 | _ u ih=>
  intro b hb
  have key:∀ d:Nat,d<10→UInt8.ofNat (48+d)≠(10:UInt8):=by
   intro d hd
   have:∀ d:Fin 10,UInt8.ofNat (48+d.1)≠(10:UInt8):=by decide
   exact this ⟨d,hd⟩
  unfold Lib.decDigits at hb
  split at hb
  ·next h=>rw [List.mem_singleton.1 hb];exact key u h
  ·next h=>
   rcases List.mem_append.1 hb with hb | hb
   ·exact ih (u / 10) (by omega) b hb
   ·rw [List.mem_singleton.1 hb];exact key _ (by omega)
theorem nonl_itb (n:Int):nonl (itb n):=by
 intro b hb
 have hb':b∈Lib.itoa n:=by simpa [itb] using hb
 unfold Lib.itoa at hb'
 split at hb'
 ·rcases List.mem_cons.1 hb' with h | h
  ·subst h;decide
  ·exact dig _ b h
 ·exact dig _ b hb'
theorem nonl_fig (n:Int):nonl (ShowWord.fig n):=by
 unfold ShowWord.fig
 split
 ·intro b hb
  have:∀ b∈s___3973.data.toList,b≠(10:UInt8):=by decide
  exact this b hb
 ·exact nonl_itb n
theorem nonl_name {s:ByteArray} (h:nameOk s=true):nonl s:=by
 simp only [nameOk,Bool.and_eq_true] at h
 intro b hb e
 have h1:=List.all_eq_true.1 h.2 b hb
 subst e
 exact absurd h1 (by decide)
theorem nonl_glue:∀ (l:List ByteArray) (o:ByteArray),nonl o→(∀ p∈l,nonl p)→nonl (ShowWord.glue o l)
 | [],o,ho,_=>ho
 | p::l,o,ho,h=>nonl_glue l _ (nonl_app (nonl_app ho (fun b hb=>by
  have:∀ b∈s___36a9.data.toList,b≠(10:UInt8):=by decide
  exact this b hb)) (h p (List.mem_cons_self ..))) fun q hq=>h q (List.mem_cons_of_mem _ hq)
theorem nonl_opt {b:Bool} {p:ByteArray} (h:nonl p):∀ q∈ShowWord.opt b p,nonl q:=by
 intro q hq
 unfold ShowWord.opt at hq
 cases b
 ·simp at hq
 ·simp at hq;subst hq;exact h
theorem nonl_names (i:Nat):nonl (ShowWord.names.getD i ⟨#[]⟩):=by
 rcases Nat.lt_or_ge i 20 with h | h
 ·have:∀ i:Fin 20,∀ b∈(ShowWord.names.getD i.1 ⟨#[]⟩).data.toList,b≠(10:UInt8):=by decide
  exact this ⟨i,h⟩
 ·have hn:ShowWord.names.length=20:=rfl
  rw [List.getD_eq_getElem?_getD,List.getElem?_eq_none (by omega)]
  exact nonl_nil
theorem nonl_txt (w:INS) (h:w.1=13→nonl w.2.2.2.2.2.1):nonl (ShowWord.txt w):=by
 unfold ShowWord.txt
 split
 ·refine nonl_glue _ _ (nonl_names _) fun p hp=>?_
  unfold ShowWord.parts at hp
  simp only [List.mem_append] at hp
  rcases hp with(((hp | hp) | hp) | hp) | hp
  ·exact nonl_opt (nonl_fig _) p hp
  ·exact nonl_opt (nonl_fig _) p hp
  ·exact nonl_opt (nonl_fig _) p hp
  ·exact nonl_opt (nonl_fig _) p hp
  ·split at hp
   ·next e=>
    rcases List.mem_cons.1 hp with hp | hp
    ·subst hp;exact h e
    ·obtain⟨n,_,rfl⟩:=List.mem_map.1 hp
     exact nonl_fig n
   ·cases hp
 ·exact nonl_nil
abbrev zC:CODE:=((⟨#[]⟩:ByteArray),((0:Int),(([]:List Int),([]:List INS))))
def One (w:INS):Prop:=w.1=13→nonl w.2.2.2.2.2.1
theorem nl_lines:∀ (l:List INS) (k:Nat) (o:ByteArray),(∀ w∈l,One w)→nl (Listing.lines k l o)=nl o+l.length
 | [],_,_,_=>rfl
 | w::l,k,o,h=>by
  have e1:nl s___36a9=0:=by decide
  have e2:nl s___01ba=1:=by decide
  rw [Listing.lines,nl_lines l (k+1) _ fun x hx=>h x (List.mem_cons_of_mem _ hx),nl_app,Listing.line,nl_app,nl_app,nl_app,nl_zero (nonl_itb _),nl_zero (nonl_txt w (h w (List.mem_cons_self ..))),e1,e2,List.length_cons]
  omega
theorem lines_pre:∀ (l:List INS) (k:Nat) (o:ByteArray),∃ r,Listing.lines k l o=o++r
 | [],_,o=>⟨⟨#[]⟩,by apply ByteArray.ext;simp [Listing.lines]⟩
 | w::l,k,o=>by
  obtain⟨r,hr⟩:=lines_pre l (k+1) (o++Listing.line k w)
  exact⟨Listing.line k w++r,by rw [Listing.lines,hr,ByteArray.append_assoc]⟩
theorem lines_size:∀ (l:List INS) (k:Nat) (o:ByteArray),(∀ w∈l,ShowWord.Ok w)→k+l.length≤1000000→(Listing.lines k l o).size≤o.size+200000000 * l.length
 | [],_,_,_,_=>by simp [Listing.lines]
 | w::l,k,o,h,hk=>by
  rw [List.length_cons] at hk
  have h1:=lines_size l (k+1) (o++Listing.line k w) (fun x hx=>h x (List.mem_cons_of_mem _ hx)) (by omega)
  have h2:=Listing.txt_size w (h w (List.mem_cons_self ..))
  have h3:=itb_size (n:=(k:Int)) (by omega) (by omega)
  have e1:s___36a9.size=1:=rfl
  have e2:s___01ba.size=1:=rfl
  rw [Listing.lines,List.length_cons]
  refine Nat.le_trans h1 ?_
  simp only [Listing.line,ByteArray.size_append]
  omega
theorem count_loop (a:List Int) (s:ByteArray) (c:CODE) (hs:s.size≤1000000000000000):loopF L1_laws_FnReports (a,s,(0:Int),(0:Int),c,())=some (a,s,(nl s:Int),c,()):=by
 have hsz:=size_list s
 have h:=loopF_fold (step:=L1_laws_FnReports) s.data.toList (fun(n:Nat) b=>if b=(10:UInt8) then n+1 else n) (fun i n=>(a,s,(n:Int),(i:Int),c,())) (fun n=>(a,s,(n:Int),c,())) (fun i n=>n≤i) (fun i hi n hn=>by
  have hi':i<s.size:=by omega
  simp only [L1_laws_FnReports,lt_cast hi',decide_true,cond_true,idx_run hi',bAt_list hi]
  by_cases e:s.data.toList[i]=10
  ·rw [e,if_pos rfl,show decide ((((10:UInt8).toNat:Nat):Int)=10)=true from rfl]
   simp only [cond_true,joinP_some,Option.map_some,wrapSucc (show i<9223372036854775807 by omega),wrapSucc (show n<9223372036854775807 by omega)]
   exact⟨by trivial,by omega⟩
  ·have e':decide ((((s.data.toList[i]).toNat:Nat):Int)=10)=false:=decide_eq_false fun h=>e (UInt8.toNat_inj.1 (Int.ofNat_inj.1 h))
   rw [e',if_neg e]
   simp only [cond_false,joinP_some,Option.map_some,wrapSucc (show i<9223372036854775807 by omega)]
   exact⟨by trivial,by omega⟩) (fun n hn=>by
  simp only [L1_laws_FnReports,hsz,not_lt_self,decide_false,cond_false,Option.map_some]) 0 (Nat.le_refl _)
 have key:∀ (l:List UInt8) (n:Nat),l.foldl (fun(n:Nat) b=>if b=(10:UInt8) then n+1 else n) n=n+l.countP fun b=>decide (b=10):=by
  intro l
  induction l with
  | nil=>intro n;rfl
  | cons b l ih=>
   intro n
   rw [List.foldl_cons,ih,List.countP_cons]
   by_cases e:b=10<;>simp [e]<;>omega
 have h':=h.1
 rw [key,Nat.zero_add] at h'
 exact h'
theorem begins_pre (p r:ByteArray):laws_begins p (p++r)=some (true,()):=by
 unfold laws_begins
 have hs:(p++r).size=p.size+r.size:=ByteArray.size_append
 have e:sub (p++r) (0:Int) (p.size:Int)=p:=by
  unfold sub
  apply ByteArray.ext
  apply Array.toList_inj.1
  have hp:p.data.toList.length=p.size:=size_list p
  simp
  exact List.take_of_length_le (by omega)
 have hc:(Cnd.cut (0:Int) (p.size:Int) (p++r).size).holds:=⟨by omega,by omega,by omega⟩
 rw [show decide ((p.size:Int)≤((p++r).size:Int))=true from decide_eq_true (by omega),cond_true,e]
 obtain⟨x,hx,hx2⟩:=wp_run (c:=Cnd.cut (0:Int) (p.size:Int) (p++r).size) (K:=some (decide (p=p),())) (Q:=fun x=>x=(true,())) hc (wp_some (by simp))
 rw [hx,hx2];rfl
theorem input_wp (c:Cur) (h:COk c):wp (spec_l10Input c) fun y=>y.1.length≤4∧(∀ n∈y.1,0≤n∧n≤8)∧COk y.2.1:=by
 unfold spec_l10Input
 refine wp_joinP (wp_bind (wp_some (wp_mono (wp_loop (fun x:SL1_spec_l10Input=>0≤x.2.1∧x.2.1≤4∧(x.1.length:Int)=x.2.1∧(∀ n∈x.1,0≤n∧n≤8)∧COk x.2.2.1) (fun x=>(5 - x.2.1).toNat) (Q:=fun x:List Int×Cur×Unit=>x.1.length≤4∧(∀ n∈x.1,0≤n∧n≤8)∧COk x.2.1) (fun x hx=>?_) ⟨by simp,by simp,rfl,by simp,h⟩) fun x hx=>wp_some hx)))
 obtain⟨b1,b2,b3,_⟩:=x
 simp only at hx
 obtain⟨b20,b24,hlen,hall,hc⟩:=hx
 unfold L1_spec_l10Input
 simp only
 refine wp_bind (wp_mono (below_wp _ _ hc) fun y2 hy2=>wp_bif (fun hb=>?_) fun _=>wp_map (wp_some (wp_inr ⟨by simp only;omega,hall,hy2.2.2.2⟩)))
 have hb':=of_decide_eq_true hb
 have h5:=hy2.2.1 (by omega)
 have hp:wp (spec_l01PickInt y2.2.1 [(0:Int),(1:Int),(3:Int),(8:Int)]) fun r=>(0≤r.1∧r.1≤8)∧COk r.2.1:=by
  unfold spec_l01PickInt
  refine wp_bind (wp_mono (below_wp _ _ hy2.2.2.2) fun y hy=>?_)
  have hlt:=hy.2.1 (by simp)
  refine wp_run (idxH hy.1 hlt) (wp_some ⟨?_,hy.2.2.2⟩)
  have hm:=rd_get [(0:Int),(1:Int),(3:Int),(8:Int)] y.1 (0:Int) hy.1 hlt
  simp only [List.mem_cons,List.not_mem_nil,or_false] at hm
  omega
 refine wp_bind (wp_mono hp fun y3 hy3=>wp_run (show(_:Nat)≤_ by simp only [List.length_singleton];omega) (wp_map (wp_some (wp_inl ?_))))
 rw [wrap64 (by omega) (by omega)]
 refine⟨⟨by simp only;omega,by simp only;omega,by simp only [List.length_append,List.length_singleton];omega,fun n hn=>?_,hy3.2⟩,by simp only;omega⟩
 rcases List.mem_append.1 hn with hn | hn
 ·exact hall n hn
 ·rw [List.mem_singleton.1 hn];exact hy3.1
theorem ending_wp (code:List Int) (h:code.length≤1048576):wp (spec_DrawShowEnding code) fun y=>(∀ n∈y.1.1,ShowEnding.I64 n)∧y.1.1.length≤5:=by
 unfold spec_DrawShowEnding
 refine wp_bind (wp_mono (new_wp code h) fun y1 hy1=>wp_bind (wp_mono (input_wp _ hy1) fun y2 hy2=>wp_bind (wp_mono (below_wp _ _ hy2.2.2) fun y3 hy3=>wp_bind (wp_mono (once_wp _ _ hy3.2.2.2) fun y4 _=>?_))))
 have hl:=hy2.1
 have hi:∀ n∈y2.1,ShowEnding.I64 n:=fun n hn=>by
  have:=hy2.2.1 n hn
  unfold ShowEnding.I64
  omega
 refine wp_joinP (wp_mono (Q:=fun x:(List Int×Int)×(List Int×Int)×Unit=>(∀ n∈x.2.1.1,ShowEnding.I64 n)∧x.2.1.1.length≤5) (wp_bif (fun _=>wp_run (show(_:Nat)≤_ by simp only [List.length_singleton];omega) (wp_some ⟨fun n hn=>?_,by simp only [List.length_append,List.length_singleton];omega⟩)) fun _=>wp_some ⟨hi,by simp only;omega⟩) fun x hx=>wp_some hx)
 rcases List.mem_append.1 hn with hn | hn
 ·exact hi n hn
 ·rw [List.mem_singleton.1 hn]
  unfold ShowEnding.I64
  omega
theorem ok_of {w:INS} (h:w.2.2.2.2.2.1.size≤8∧w.2.2.2.2.2.2.length≤3+1∧WRng w):ShowWord.Ok w:=by
 obtain⟨a,b,r1,r2,r3,r4,r5⟩:=h
 have key:∀ {n:Int},-1000000000000≤n∧n≤1000000000000→ShowWord.I64 n:=fun h=>by
  unfold ShowWord.I64
  omega
 exact⟨key r1,key r2,key r3,key r4,by omega,by omega,fun n hn=>key (r5 n hn)⟩
theorem lok {c:CODE} (h:DrC 1 c):Listing.Ok c:=⟨by have:=h.nm;omega,by have:=h.wo;omega,fun w hw=>ok_of (h.a w hw)⟩
theorem good_one {c:CODE} (h:GoodC c):(∀ w∈c.2.2.2,One w)∧nonl c.1:=by
 have h2:=h.2
 simp only [codeOk,Bool.and_eq_true] at h2
 refine⟨fun w hw h13=>?_,nonl_name h2.1⟩
 have h3:=List.all_eq_true.1 h2.2.2.2.2.2.2 w hw
 simp only [wordOk,Bool.and_eq_true] at h3
 have h4:=h3.2.2.2.2.2
 unfold okR at h4
 rw [decide_eq_true h13,cond_true,Bool.and_eq_true,Bool.and_eq_true] at h4
 exact nonl_name h4.2.1
theorem code1_wp (c:Cur) (h:COk c):wp (spec_l11Code c) fun y=>DrC 0 y.1∧(∀ w∈y.1.2.2.2,One w)∧nonl y.1.1:=by
 unfold spec_l11Code
 refine wp_bind (wp_mono (prog_wp c h) fun y1 hy1=>wp_bind (wp_mono (lall_wp hy1.1.1) fun y2 hy2=>wp_bif (fun _=>wp_some ⟨⟨?_,by simp,by simp,by simp,fun w hw=>?_⟩,fun w hw h13=>?_,?_⟩) fun hb=>?_))
 ·have:s_main_0d6e.size=4:=by kernel_rfl
  rw [this];omega
 ·simp only [List.mem_cons,List.not_mem_nil,or_false] at hw
  rcases hw with hw | hw | hw<;>subst hw<;>exact⟨by show(0:Nat)≤8;omega,by show(0:Nat)≤3;omega,by unfold WRng;simp⟩
 ·simp only [List.mem_cons,List.not_mem_nil,or_false] at hw
  rcases hw with hw | hw | hw<;>subst hw<;>simp at h13
 ·intro b hb
  have:∀ b∈s_main_0d6e.data.toList,b≠(10:UInt8):=by decide
  exact this b hb
 ·obtain⟨hne,h8,hall⟩:=hy2 (by simpa using hb)
  have hpos:0<y2.1.length:=List.length_pos_iff.2 hne
  refine wp_bind (wp_mono (once_wp _ _ hy1.2) fun y3 hy3=>wp_bif (fun _=>wp_bind (wp_mono (below_wp _ _ hy3) fun y4 hy4=>?_)) fun _=>?_)
  ·have hlt:=hy4.2.1 (by omega)
   have hg:=hall _ (rd_get y2.1 y4.1 zC hy4.1 hlt)
   exact wp_run (idxH hy4.1 hlt) (wp_some ⟨drc_of hg,good_one hg⟩)
  ·rw [wrap64 (by omega) (by omega)]
   have h0:(0:Int)≤(y2.1.length:Int) - 1:=by omega
   have hlt:(y2.1.length:Int) - 1<(y2.1.length:Int):=by omega
   have hg:=hall _ (rd_get y2.1 ((y2.1.length:Int) - 1) zC h0 hlt)
   exact wp_run (idxH h0 hlt) (wp_some ⟨drc_of hg,good_one hg⟩)
theorem word_wp (code:List Int) (h:code.length≤1048576):wp (spec_DrawShowWord code) fun y=>ShowWord.Ok y.1:=by
 unfold spec_DrawShowWord spec_l11Word
 refine wp_bind (wp_bind (wp_mono (new_wp code h) fun y1 hy1=>wp_bind (wp_mono (below_wp _ _ hy1) fun y2 hy2=>wp_bind (wp_mono (any_wp _ hy2.2.2.2) fun y3 hy3=>?_))))
 have hr:=tmod_rng hy2.1 hy3.1.w1
 exact wp_run (show(_:Int)≠0 by have:=hy3.1.w1;omega) (wp_some (wp_run (idxH hr.1 hr.2) (wp_some (ok_of (hy3.1.a _ (rd_get _ _ _ hr.1 hr.2))))))
theorem pure (code:List Int) {e:Nat} (hb:Bnd (.list e (.int .u8)) code):laws_FnReports code=some (true,()):=by
 unfold laws_FnReports laws_big
 rw [Option.bind_some]
 by_cases hbig:(1048576:Int)<(code.length:Int)
 ·rw [decide_eq_true hbig];rfl
 rw [decide_eq_false hbig,cond_false]
 have h:code.length≤1048576:=by omega
 have e1:wp (spec_DrawCode code) fun y=>DrC 0 y.1∧(∀ w∈y.1.2.2.2,One w)∧nonl y.1.1:=by
  unfold spec_DrawCode
  exact wp_bind (wp_mono (new_wp code h) fun y1 hy1=>wp_bind (wp_mono (code1_wp _ hy1) fun y2 hy2=>wp_some hy2))
 have e2:wp (spec_DrawListing code) fun y=>DrC 1 y.1:=by
  unfold spec_DrawListing
  exact wp_bind (wp_mono (new_wp code h) fun y1 hy1=>wp_bind (wp_mono (any_wp _ hy1) fun y2 hy2=>wp_some hy2.1))
 obtain⟨⟨c,_⟩,f1,hc0,hone,hnm⟩:=e1
 obtain⟨⟨d,_⟩,f2,hd⟩:=e2
 obtain⟨⟨w,_⟩,f3,hw⟩:=word_wp code h
 obtain⟨⟨e,_⟩,f4,he1,he2⟩:=ending_wp code h
 simp only at hc0 hone hnm hd hw he1 he2
 have hc:=lok (hc0.le (by omega))
 have hdl:=lok hd
 have hw4:=hc0.wo
 have hn8:=hc0.nm
 have z1:s_code__aacf.size=5:=rfl
 have z2:s___01ba.size=1:=rfl
 have hsize:(Listing.txt c).size≤1000000000000000:=by
  have:=lines_size c.2.2.2 0 (s_code__aacf++c.1++s___01ba) hc.w (by omega)
  unfold Listing.txt
  simp only [ByteArray.size_append] at this
  omega
 have hcnt:nl (Listing.txt c)=c.2.2.2.length+1:=by
  have y1:nl s_code__aacf=0:=by decide
  have y2:nl s___01ba=1:=by decide
  unfold Listing.txt
  rw [nl_lines _ _ _ hone,nl_app,nl_app,nl_zero hnm,y1,y2]
  omega
 obtain⟨r,hr⟩:=lines_pre c.2.2.2 0 (s_code__aacf++c.1++s___01ba)
 have hbeg:laws_begins (s_code__aacf++c.1++s___01ba) (Listing.txt c)=some (true,()):=by
  unfold Listing.txt
  rw [hr]
  exact begins_pre _ _
 have hlen:IntKind.wrap .i64 ((c.2.2.2.length:Int)+1)=((c.2.2.2.length+1:Nat):Int):=wrapSucc (by omega)
 have g1:∀ {α:Type} {K:Option α},(Cnd.le (s_code__aacf.size+c.1.size) maxI).run K=K:=fun {α K}=>le_run (by simp only [maxI];omega)
 have g2:∀ {α:Type} {K:Option α},(Cnd.le ((s_code__aacf++c.1).size+s___01ba.size) maxI).run K=K:=fun {α K}=>le_run (by simp only [ByteArray.size_append,maxI];omega)
 simp only [f1,f2,f3,f4,Option.bind_some,Listing.impl_ok c hc,count_loop code _ c hsize,joinP_some,hcnt,hlen,decide_true,cond_true,g1,g2,hbeg,Listing.impl_ok d hdl,Listing.spec_ok d hdl,ShowWord.impl_ok w hw,ShowWord.spec_ok w hw,ShowEnding.impl_ok e he1 (by omega),ShowEnding.spec_ok e he1 (by omega)]
end X
end Go.Proofs.YtmakhmoielhjeaaGreatDoorE

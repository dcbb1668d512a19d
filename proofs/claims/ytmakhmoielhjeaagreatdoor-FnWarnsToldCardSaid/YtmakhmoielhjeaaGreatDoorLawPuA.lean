/- The engine, texts Wp AX Base Draw1 Code DrawR Node DrawP DecS Draw5 Draw5s Deep Tree FnAt POk FnOk ProgOk ProgEq DrawQ Exec PCopy DeepS: how code is reckoned as Lean functions, and that it is sound. No condition. -/
import Derived.Test.YtmakhmoielhjeaaGreatDoorPackP
import Derived.Test.YtmakhmoielhjeaaGreatDoorLawFX
import Derived.Lib.ItoaLen
set_option linter.all false
namespace Go.Proofs.YtmakhmoielhjeaaGreatDoorE
def wp {α:Type} (x:Option α) (Q:α→Prop):Prop:=∃ r,x=some r∧Q r
theorem AC {α:Type} {r:α} {Q:α→Prop} (h:Q r):wp (some r) Q:=⟨r,rfl,h⟩
theorem AE {α:Type} {x:Option α} {Q Q':α→Prop} (h:wp x Q) (hq:∀ r,Q r→Q' r):wp x Q':=by
 obtain⟨r,h1,h2⟩:=h;exact⟨r,h1,hq r h2⟩
theorem AH {α β:Type} {x:Option α} {k:α→Option β} {Q:β→Prop} (h:wp x fun a=>wp (k a) Q):wp (x.bind k) Q:=by
 obtain⟨r,rfl,h2⟩:=h;exact h2
theorem Ap {α β:Type} {x:Option β} {k:β→Option α} {Q:α→Prop} (h:wp x fun a=>wp (k a) Q):wp (joinP x k) Q:=AH h
theorem Mm {α β:Type} {x:Option (β ⊕ α)} {k:β→Option α} {Q:α→Prop} (h:wp x fun s=>(∀ b,s=.inl b→wp (k b) Q)∧∀ r,s=.inr r→Q r):wp (joinS x k) Q:=by
 obtain⟨s,rfl,h1,h2⟩:=h;cases s with
 | inl b=>exact h1 b rfl
 | inr r=>exact⟨r,rfl,h2 r rfl⟩
theorem Aq {α β:Type} {x:Option α} {f:α→β} {Q:β→Prop} (h:wp x fun a=>Q (f a)):wp (x.map f) Q:=by
 obtain⟨r,rfl,h2⟩:=h;exact⟨f r,rfl,h2⟩
theorem Ad {α:Type} {b:Bool} {x y:Option α} {Q:α→Prop} (h1:b=true→wp x Q) (h2:b=false→wp y Q):wp (bif b then x else y) Q:=by
 cases b with
 | true=>exact h1 rfl
 | false=>exact h2 rfl
theorem AQ {α:Type} {c:Cnd} {K:Option α} {Q:α→Prop} (hc:c.holds) (h:wp K Q):wp (c.run K) Q:=by
 have key:∀ (c:Cnd) (K:Option α),c.holds→c.run K=K:=by
  intro c
  induction c with
  | tt=>intro K _;rfl
  | idx n len=>intro K h;exact if_pos h
  | nz b=>intro K h;exact if_neg h
  | nn b=>intro K h;exact if_pos h
  | cut lo hi len=>intro K h;exact if_pos h
  | le a b=>intro K h;exact if_pos h
  | both a b iha ihb=>intro K h;simp only [Cnd.run];rw [iha _ h.1,ihb _ h.2]
 rw [key c K hc];exact h
theorem wp_loop {α β:Type} {step:β→Option (β ⊕ α)} {Q:α→Prop} (I:β→Prop) (μ:β→Nat) (H:∀ b,I b→wp (step b) fun s=>(∀ b',s=.inl b'→I b'∧μ b'<μ b)∧∀ r,s=.inr r→Q r) {b:β} (h:I b):wp (AD step b) Q:=by
 refine aG I μ Q (fun b hb=>?_) b h
 obtain⟨s,h1,h2,h3⟩:=H b hb;cases s with
 | inl b'=>exact .inr ⟨b',h1,h2 b' rfl⟩
 | inr r=>exact .inl ⟨r,h1,h3 r rfl⟩
theorem CV {α β:Type} {b:β} {P:β→Prop} {Q:α→Prop} (h:P b):(∀ b',(Sum.inl b:β ⊕ α)=.inl b'→P b')∧∀ r,(Sum.inl b:β ⊕ α)=.inr r→Q r:=⟨fun b' e=>(by cases e;exact h),fun r e=>(by cases e)⟩
theorem Bp {α β:Type} {r:α} {P:β→Prop} {Q:α→Prop} (h:Q r):(∀ b',(Sum.inr r:β ⊕ α)=.inl b'→P b')∧∀ r',(Sum.inr r:β ⊕ α)=.inr r'→Q r':=⟨fun b' e=>(by cases e),fun r' e=>(by cases e;exact h)⟩
def wq {α:Type} (x x':Option α) (Q:α→Prop):Prop:=∃ r,x=some r∧x'=some r∧Q r
theorem Al {α:Type} {x:Option α} {Q:α→Prop} (h:wp x Q):wq x x Q:=by
 obtain⟨r,h1,h2⟩:=h;exact⟨r,h1,h1,h2⟩
theorem AZ {α:Type} {r:α} {Q:α→Prop} (h:Q r):wq (some r) (some r) Q:=⟨r,rfl,rfl,h⟩
theorem AM {α:Type} {x x':Option α} {Q Q':α→Prop} (h:wq x x' Q) (hq:∀ r,Q r→Q' r):wq x x' Q':=by
 obtain⟨r,h1,h2,h3⟩:=h;exact⟨r,h1,h2,hq r h3⟩
theorem AO {α β:Type} {x x':Option α} {k k':α→Option β} {Q:β→Prop} (h:wq x x' fun a=>wq (k a) (k' a) Q):wq (x.bind k) (x'.bind k') Q:=by
 obtain⟨r,rfl,rfl,h2⟩:=h;exact h2
theorem Bg {α β:Type} {x x':Option β} {k k':β→Option α} {Q:α→Prop} (h:wq x x' fun a=>wq (k a) (k' a) Q):wq (joinP x k) (joinP x' k') Q:=AO h
theorem KB {α β:Type} {x x':Option α} {f:α→β} {Q:β→Prop} (h:wq x x' fun a=>Q (f a)):wq (x.map f) (x'.map f) Q:=by
 obtain⟨r,rfl,rfl,h2⟩:=h;exact⟨f r,rfl,rfl,h2⟩
theorem BV {α:Type} {b:Bool} {x x' y y':Option α} {Q:α→Prop} (h1:b=true→wq x x' Q) (h2:b=false→wq y y' Q):wq (bif b then x else y) (bif b then x' else y') Q:=by
 cases b with
 | true=>exact h1 rfl
 | false=>exact h2 rfl
theorem Bk {α:Type} {c:Cnd} {K K':Option α} {Q:α→Prop} (hc:c.holds) (h:wq K K' Q):wq (c.run K) (c.run K') Q:=by
 have h1:=AQ (c:=c) (K:=K) (Q:=fun r=>K=some r) hc (by obtain⟨r,h,_⟩:=h;exact⟨r,h,h⟩)
 have h2:=AQ (c:=c) (K:=K') (Q:=fun r=>K'=some r) hc (by obtain⟨r,_,h,_⟩:=h;exact⟨r,h,h⟩)
 obtain⟨r,e1,e2,e3⟩:=h;obtain⟨r1,f1,f2⟩:=h1;obtain⟨r2,f3,f4⟩:=h2;rw [e1] at f2;rw [e2] at f4;rw [f1,f3,← f2,← f4];exact⟨r,rfl,rfl,e3⟩
theorem Qs {α β:Type} {step step':β→Option (β ⊕ α)} {Q:α→Prop} (I:β→Prop) (μ:β→Nat) (H:∀ b,I b→wq (step b) (step' b) fun s=>(∀ b',s=.inl b'→I b'∧μ b'<μ b)∧∀ r,s=.inr r→Q r) {b:β} (h:I b):wq (AD step b) (AD step' b) Q:=by
 have key:∀ n b,μ b≤n→I b→wq (AD step b) (AD step' b) Q:=by
  intro n
  induction n with
  | zero=>
   intro b hn hb;obtain⟨s,h1,h1',h2,h3⟩:=H b hb;cases s with
   | inl b'=>have:=(h2 b' rfl).2;omega
   | inr r=>exact⟨r,Ay h1,Ay h1',h3 r rfl⟩
  | succ n ih=>
   intro b hn hb;obtain⟨s,h1,h1',h2,h3⟩:=H b hb;cases s with
   | inl b'=>
    rw [BF h1,BF h1'];exact ih b' (by have:=(h2 b' rfl).2;omega) (h2 b' rfl).1
   | inr r=>exact⟨r,Ay h1,Ay h1',h3 r rfl⟩
 exact key _ b (Nat.le_refl _) h
theorem Wk {α β:Type} {F:Nat→α→Option β} {x:α} {Q:β→Prop} (N:Nat) (h:∀ n,N≤n→wq (F n x) (F N x) Q):wp (El F x) Q:=by
 obtain⟨r,_,h2,h3⟩:=h N (Nat.le_refl _);refine⟨r,DC.2 ⟨N,fun n hn=>?_⟩,h3⟩
 obtain⟨r',g1,g2,_⟩:=h n hn;rw [h2] at g2;rw [g1,← g2]
theorem AN (a b:ByteArray):(a++b).size=a.size+b.size:=ByteArray.size_append
theorem Ox (x:Int):0≤Ow .i64 x 255∧Ow .i64 x 255≤255:=by
 unfold Ow;have h1:(BitVec.ofInt IntKind.i64.bits x &&& BitVec.ofInt IntKind.i64.bits 255).toNat≤255:=by
  rw [BitVec.toNat_and];have:(BitVec.ofInt IntKind.i64.bits 255).toNat=255:=by decide
  rw [this];exact Nat.and_le_right
 rw [Ar (by omega) (by omega)];omega
set_option maxRecDepth 100000
theorem sIn (a b c:Int):Az a b c=some (decide (b≤a∧a≤c),()):=by
 unfold Az
 by_cases h:b≤a<;>simp [h,joinP]
theorem iIn (a b c:Int):BJ a b c=some (decide (b≤a∧a≤c),()):=by
 unfold BJ
 by_cases h:b≤a<;>simp [h,joinP]
theorem Br {α β D:Type} {step:β→Option (β ⊕ α)} (l:List D) (q:D→Bool) (S:Nat→β) (rt rf:α) (H:∀ k (h:k<l.length),step (S k)=bif q l[k] then some (.inl (S (k+1))) else some (.inr rf)) (He:step (S l.length)=some (.inr rt)):
 AD step (S 0)=some (bif l.all q then rt else rf):=by
 have key:∀ m k,k+m=l.length→AD step (S k)=some (bif (l.drop k).all q then rt else rf):=by
  intro m
  induction m with
  | zero=>
   intro k hk;obtain rfl:k=l.length:=by omega
   rw [Ay He,List.drop_length];rfl
  | succ m ih=>
   intro k hk;have hkl:k<l.length:=by omega
   have h1:=H k hkl
   rw [List.drop_eq_getElem_cons hkl,List.all_cons];cases hq:q l[k]
   ·rw [hq,cond_false] at h1;rw [Ay h1];rfl
   ·rw [hq,cond_true] at h1;rw [BF h1,ih (k+1) (by omega),Bool.true_and]
 have:=key l.length 0 (by omega)
 rwa [List.drop_zero] at this
theorem GT {α β D:Type} {step:β→Option (β ⊕ α)} (l:List D) (q:D→Bool) (S:Nat→β) (rt rf:α) (H:∀ k (h:k<l.length),step (S k)=bif q l[k] then some (.inr rt) else some (.inl (S (k+1)))) (He:step (S l.length)=some (.inr rf)):
 AD step (S 0)=some (bif l.any q then rt else rf):=by
 have key:∀ m k,k+m=l.length→AD step (S k)=some (bif (l.drop k).any q then rt else rf):=by
  intro m
  induction m with
  | zero=>
   intro k hk;obtain rfl:k=l.length:=by omega
   rw [Ay He,List.drop_length];rfl
  | succ m ih=>
   intro k hk;have hkl:k<l.length:=by omega
   have h1:=H k hkl
   rw [List.drop_eq_getElem_cons hkl,List.any_cons];cases hq:q l[k]
   ·rw [hq,cond_false] at h1;rw [BF h1,ih (k+1) (by omega),Bool.false_or]
   ·rw [hq,cond_true] at h1;rw [Ay h1];rfl
 have:=key l.length 0 (by omega)
 rwa [List.drop_zero] at this
theorem Ao {α β D γ:Type} {step:β→Option (β ⊕ α)} (l:List D) (g:γ→D→γ) (S:Nat→γ→β) (r:γ→α) (I:Nat→γ→Prop) (H:∀ k (h:k<l.length) c,I k c→step (S k c)=some (.inl (S (k+1) (g c l[k])))∧I (k+1) (g c l[k])) (He:∀ c,I l.length c→step (S l.length c)=some (.inr (r c))) (c:γ) (hc:I 0 c):
 AD step (S 0 c)=some (r (l.foldl g c))∧I l.length (l.foldl g c):=by
 have key:∀ m k c,k+m=l.length→I k c→AD step (S k c)=some (r ((l.drop k).foldl g c))∧I l.length ((l.drop k).foldl g c):=by
  intro m
  induction m with
  | zero=>
   intro k c hk hI;obtain rfl:k=l.length:=by omega
   rw [Ay (He c hI),List.drop_length];exact⟨rfl,hI⟩
  | succ m ih=>
   intro k c hk hI;have hkl:k<l.length:=by omega
   obtain⟨h1,h2⟩:=H k hkl c hI;rw [List.drop_eq_getElem_cons hkl,List.foldl_cons,BF h1];exact ih (k+1) _ (by omega) h2
 have:=key l.length 0 c (by omega) hc
 rwa [List.drop_zero] at this
theorem AR {k n:Nat} (h:k<n):((k:Int)<(n:Int)):=by omega
theorem AJ (n:Nat):¬ ((n:Int)<(n:Int)):=by omega
theorem bu (s:ByteArray) (i:Nat):bAt s (i:Int)=((s.data.getD i 0).toNat:Int):=by simp [bAt]
theorem FO {α β D E:Type} {step:β→Option (β ⊕ α)} (l:List D) (g:D→E) (S:Nat→List E→β) (r:List E→α)
 (H:∀ k (h:k<l.length) (o:List E),o.length=k→step (S k o)=some (.inl (S (k+1) (o++[g l[k]]))))
 (He:∀ o:List E,o.length=l.length→step (S l.length o)=some (.inr (r o))):AD step (S 0 [])=some (r (l.map g)):=by
 have key:∀ m k,k+m=l.length→AD step (S k ((l.take k).map g))=some (r (l.map g)):=by
  intro m
  induction m with
  | zero=>
   intro k hk;obtain rfl:k=l.length:=by omega
   rw [List.take_length];exact Ay (He _ (by simp))
  | succ m ih=>
   intro k hk;have hkl:k<l.length:=by omega
   rw [BF (H k hkl _ (by simp;omega))];have e:(l.take k).map g++[g l[k]]=(l.take (k+1)).map g:=by
    rw [List.take_succ_eq_append_getElem hkl,List.map_append];rfl
   rw [e];exact ih (k+1) (by omega)
 simpa using key l.length 0 (by omega)
abbrev Cur:=List Int×(Int×Int)
def COk (c:Cur):Prop:=List.length c.1≤1048576∧0≤c.2.1∧c.2.1≤List.length c.1
theorem Sb (code:List Int) (h:code.length≤1048576):wp (Fd code) fun r=>COk r.1:=by
 unfold Fd;refine Ap (AH (AC ?_))
 refine AE (wp_loop (fun b:List Int×Int×Int×Unit=>b.1=code∧0≤b.2.2.1∧b.2.2.1≤code.length) (fun b=>code.length - b.2.2.1.toNat) (Q:=fun r=>r.1=code) (fun b hb=>?_) ⟨rfl,by simp,by simp⟩) (fun r hr=>AC ⟨by simp [hr];exact h,by simp,by simp⟩)
 obtain⟨b1,b2,b3,_⟩:=b;obtain⟨rfl,h0,h1⟩:=hb;simp only at h0 h1;unfold Ny;simp only
 by_cases hlt:b3<(b1.length:Int)
 ·simp only [hlt,decide_true,cond_true,AA]
  by_cases h4:b3<4000
  ·simp only [h4,decide_true,cond_true];have e:IntKind.wrap .i64 (b3+1)=b3+1:=Ar (by omega) (by omega)
   rw [e];exact AQ ⟨h0,hlt⟩ (Aq (AC (CV ⟨⟨rfl,by simp only;omega,by simp only;omega⟩,by simp only;omega⟩)))
  ·simp only [h4,decide_false,cond_false];exact Aq (AC (Bp rfl))
 ·simp only [hlt,decide_false,cond_false,AA];exact Aq (AC (Bp rfl))
theorem OI (c:Cur) (h:COk c):wp (Dh c) fun r=>0≤r.1∧r.1≤255∧COk r.2.1:=by
 obtain⟨b,i,hh⟩:=c;obtain⟨h1,h2,h3⟩:=h;simp only at h1 h2 h3;unfold Dh;refine AQ (by simp [Cnd.holds]) (AQ (by simp [Cnd.holds]) (Ap (Ad (fun hb=>?_) (fun hb=>?_))))
 ·have hlt:i<(b.length:Int):=by simpa using hb
  refine AQ ⟨h2,hlt⟩ (AC (AC ⟨(Ox _).1,(Ox _).2,h1,?_,?_⟩))
  ·simp only;rw [Ar (by omega) (by omega)];omega
  ·simp only;rw [Ar (by omega) (by omega)];omega
 ·exact AC (AC ⟨(Ox _).1,(Ox _).2,h1,h2,h3⟩)
theorem CG (c:Cur) (n:Int) (h:COk c):wp (BA c n) fun r=>0≤r.1∧(0<n→r.1<n)∧(n≤0→r.1=0)∧COk r.2.1:=by
 unfold BA;refine Ad (fun hb=>AC ?_) (fun hb=>Ad (fun hb2=>?_) (fun hb2=>?_))
 ·have hn:n≤0:=by simpa using hb
  exact⟨by simp,fun h=>by omega,fun _=>rfl,h⟩
 ·have hn:0<n:=by simpa using hb
  refine AH (AE (OI c h) fun y hy=>AQ (by show n≠0;omega) (AC ⟨Int.tmod_nonneg _ hy.1,fun _=>Int.tmod_lt_of_pos _ hn,fun h=>by omega,hy.2.2⟩))
 ·have hn:0<n:=by simpa using hb
  refine AH (AE (OI c h) fun y hy=>AH (AE (OI _ hy.2.2) fun y2 hy2=>AH (AE (OI _ hy2.2.2) fun y3 hy3=>AH (AE (OI _ hy3.2.2) fun y4 hy4=>?_))))
  have e1:IntKind.wrap .i64 (y.1 * 16777216)=y.1 * 16777216:=Ar (by omega) (by omega)
  have e2:IntKind.wrap .i64 (y2.1 * 65536)=y2.1 * 65536:=Ar (by omega) (by omega)
  have e3:IntKind.wrap .i64 (y3.1 * 256)=y3.1 * 256:=Ar (by omega) (by omega)
  rw [e1,e2,e3,Ar (x:=y.1 * 16777216+y2.1 * 65536) (by omega) (by omega),Ar (x:=y.1 * 16777216+y2.1 * 65536+y3.1 * 256) (by omega) (by omega),Ar (x:=y.1 * 16777216+y2.1 * 65536+y3.1 * 256+y4.1) (by omega) (by omega)];exact AQ (by show n≠0;omega) (AC ⟨Int.tmod_nonneg _ (by omega),fun _=>Int.tmod_lt_of_pos _ hn,fun h=>by omega,hy4.2.2⟩)
theorem Lu (c:Cur) (n:Int) (h:COk c):wp (Cw c n) fun r=>COk r.2.1:=by
 unfold Cw;exact AH (AE (CG c n h) fun y hy=>AC hy.2.2.2)
theorem OX {D:Type} (l:List D) (n:Int) (z:D) (h0:0≤n) (h1:n<l.length):rd l n z∈l:=by
 have hlt:n.toNat<l.length:=by omega
 have:rd l n z=l[n.toNat]:=by simp [rd,List.getD_eq_getElem?_getD,List.getElem?_eq_getElem hlt]
 rw [this];exact List.getElem_mem hlt
theorem Qk (c:Cur) (l:List ByteArray) (hl:l≠[]) (h:COk c):wp (Ec c l) fun r=>r.1∈l∧COk r.2.1:=by
 unfold Ec;have hp:0<(l.length:Int):=by have:=List.length_pos_iff.2 hl;omega
 exact AH (AE (CG c _ h) fun y hy=>AQ ⟨hy.1,hy.2.1 hp⟩ (AC ⟨OX _ _ _ hy.1 (hy.2.1 hp),hy.2.2.2⟩))
set_option maxRecDepth 100000
def keys:List ByteArray:=[Hs,Jn,LH,Ih,Hu,Ht,LG,Jo,Hr,IG,s_input_c96c,Li,Jm,IH]
def Qf (s:ByteArray):Bool:=keys.any fun k=>decide (k=s)
theorem Sm (s:ByteArray):Js s=some (Qf s,()):=by
 simp only [Js,Mh,Option.bind_some];have h:=GT (step:=Ey) keys (fun k=>decide (k=s)) (fun k=>(s,keys,(k:Int),())) (.inr (true,())) (.inl ()) (fun k hk=>by
  have hk14:k<14:=hk
  simp only [Ey,AR hk,decide_true,cond_true,AK hk,AP hk]
  by_cases e:keys[k]=s<;>simp only [e,decide_true,decide_false,cond_true,cond_false,cond_true,cond_false,Option.map_some,AI (show k<9223372036854775807 by omega)]) (by
  simp only [Ey,AJ,decide_false,cond_false,Option.map_some])
 have h':AD Ey (s,[Hs,Jn,LH,Ih,Hu,Ht,LG,Jo,Hr,IG,s_input_c96c,Li,Jm,IH],(0:Int),())=_:=h
 rw [h'];show joinS (some (bif Qf s then Sum.inr (true,()) else Sum.inl ())) _=_
 cases Qf s<;>rfl
theorem ZO:Hl IP s___36a9=some (keys,()):=by kernel_rfl
theorem Ul (s t:ByteArray) (l:List ByteArray) (hl:l.length≤1000) (h:Hl t s___36a9=some (l,())):LY s t=some (l.any (fun k=>decide (k=s)),()):=by
 simp only [LY,h,Option.bind_some];have h:=GT (step:=Im) l (fun k=>decide (k=s)) (fun k=>(s,l,(l.length:Int),(k:Int),())) (.inr (true,())) (.inl ()) (fun k hk=>by
  simp only [Im,AR hk,decide_true,cond_true,AK hk,AP hk]
  by_cases e:l[k]=s<;>simp only [e,decide_true,decide_false,cond_true,cond_false,cond_true,cond_false,Option.map_some,AI (show k<9223372036854775807 by omega)]) (by
  simp only [Im,AJ,decide_false,cond_false,Option.map_some])
 rw [show((s,l,(l.length:Int),(0:Int),()):ByteArray×List ByteArray×Int×Int×Unit)=(fun k:Nat=>(s,l,(l.length:Int),(k:Int),())) 0 from rfl,h];cases l.any fun k=>decide (k=s)<;>rfl
theorem SU (s:ByteArray):Ja s=some (Qf s,()):=by
 simp only [Ja,Ul s _ keys (by decide) ZO,Option.bind_some];rfl
def Hk (c:Int):Bool:=decide (97≤c∧c≤122)
def LA (c:Int):Bool:=decide (48≤c∧c≤57)
theorem Qn (c:Int):Ck c=some (Hk c,()):=by
 unfold Ck Hk
 by_cases h:97≤c<;>simp [h,joinP]
theorem Qm (c:Int):Cj c=some (LA c,()):=by
 unfold Cj LA
 by_cases h:48≤c<;>simp [h,joinP]
theorem XU (c:Int):Gu c=some (Hk c,()):=by
 unfold Gu Hk
 by_cases h:97≤c<;>simp [h,joinP]
theorem eb (c:Int):Ir c=some (LA c,()):=by
 unfold Ir LA
 by_cases h:48≤c<;>simp [h,joinP]
def Jp (b:UInt8):Bool:=Hk (b.toNat:Int) || LA (b.toNat:Int)
def Bo (s:ByteArray):Bool:=decide (1≤s.size∧s.size≤8) && Hk (bAt s 0) && !Qf s && s.data.toList.all Jp
theorem VX {s:ByteArray} {k:Nat} (h:k<s.data.toList.length):bAt s (k:Int)=((s.data.toList[k].toNat:Nat):Int):=by
 have h':k<s.data.size:=by simpa using h
 rw [bu,Array.getD_eq_getD_getElem?,Array.getElem?_eq_getElem h'];simp
theorem Ua (s:ByteArray):s.data.toList.length=s.size:=by rw [Array.length_toList];rfl
theorem Yx (s:ByteArray) (hs:s.size≤8):AD Fo (s,(0:Int),())=some (bif s.data.toList.all Jp then .inl () else .inr (false,())):=by
 have hsz:=Ua s
 have h:=Br (step:=Fo) s.data.toList Jp (fun k=>(s,(k:Int),())) (.inl ()) (.inr (false,())) (fun k hk=>by
  have hk':k<s.size:=by omega
  have hb:=VX hk
  simp only [Fo,AR hk',decide_true,cond_true,AK hk',Qn,Qm,Option.bind_some,hb,Jp];generalize ((s.data.toList[k].toNat:Nat):Int)=x;cases Hk x<;>cases LA x<;>simp only [Bool.not_false,Bool.not_true,cond_true,cond_false,AA,Option.map_some,Bool.or_false,Bool.or_true,Bool.true_or,Bool.false_or,cond_true,cond_false,AI (show k<9223372036854775807 by omega)]) (by
  rw [hsz];simp only [Fo,AJ,decide_false,cond_false,Option.map_some])
 exact h
theorem Yw (s:ByteArray) (hs:s.size≤8):AD Fh (s,(0:Int),())=some (bif s.data.toList.all Jp then .inl (s,()) else .inr (false,())):=by
 have hsz:=Ua s
 have h:=Br (step:=Fh) s.data.toList Jp (fun k=>(s,(k:Int),())) (.inl (s,())) (.inr (false,())) (fun k hk=>by
  have hk':k<s.size:=by omega
  have hb:=VX hk
  simp only [Fh,AR hk',decide_true,cond_true,AK hk',XU,eb,Option.bind_some,hb,Jp];generalize ((s.data.toList[k].toNat:Nat):Int)=x;cases Hk x<;>cases LA x<;>simp only [Bool.not_false,Bool.not_true,cond_true,cond_false,AA,Option.map_some,Bool.or_false,Bool.or_true,Bool.true_or,Bool.false_or,cond_true,cond_false,AI (show k<9223372036854775807 by omega)]) (by
  rw [hsz];simp only [Fh,AJ,decide_false,cond_false,Option.map_some])
 exact h
theorem jf {α:Type} {n:Nat} {K:Option α} (h:0<n):(Cnd.idx (0:Int) n).run K=K:=AK (k:=0) h
theorem GM (s:ByteArray):DQ s=some (Bo s,()):=by
 unfold DQ Bo;rw [sIn];simp only [Option.bind_some]
 by_cases h:(1:Int)≤(s.size:Int)∧(s.size:Int)≤8
 ·have h':1≤s.size∧s.size≤8:=by omega
  simp only [h,h',and_self,decide_true,Bool.not_true,cond_false,jf (show 0<s.size by omega),Qn,Option.bind_some,Bool.true_and];cases Hk (bAt s 0)
  ·simp only [Bool.not_false,cond_true,AA,Bool.false_and]
  ·simp only [Bool.not_true,cond_false,Sm,Option.bind_some,AA,Bool.true_and];cases Qf s
   ·simp only [cond_false,Option.bind_some,Yx s h'.2,Bool.not_false,Bool.true_and];cases s.data.toList.all Jp<;>simp only [cond_true,cond_false,BE,Av]
   ·simp only [cond_true,Bool.not_true,Bool.false_and]
 ·have h':¬ (1≤s.size∧s.size≤8):=by omega
  simp only [h,h',decide_false,Bool.not_false,cond_true,AA,Bool.false_and]
theorem KU (s:ByteArray):Fa s=some (Bo s,()):=by
 unfold Fa Bo;rw [iIn];simp only [Option.bind_some]
 by_cases h:(1:Int)≤(s.size:Int)∧(s.size:Int)≤8
 ·have h':1≤s.size∧s.size≤8:=by omega
  simp only [h,h',and_self,decide_true,Bool.not_true,cond_false,jf (show 0<s.size by omega),XU,Option.bind_some,Bool.true_and];cases Hk (bAt s 0)
  ·simp only [Bool.not_false,AA,cond_true,Bool.false_and]
  ·simp only [Bool.not_true,AA,cond_false,Option.bind_some,Yw s h'.2,Bool.true_and];cases s.data.toList.all Jp
   ·simp only [cond_false,Av,Bool.and_false]
   ·simp only [cond_true,BE,SU,Option.bind_some,Bool.and_true]
 ·have h':¬ (1≤s.size∧s.size≤8):=by omega
  simp only [h,h',decide_false,Bool.not_false,cond_true,AA,Bool.false_and]
set_option maxRecDepth 100000
abbrev SIGN:=Int×(ByteArray×Int)
theorem ey (t:ByteArray) (at_:Int) (h0:0≤at_) (h1:at_≤t.size) (ht:t.size≤3000):wp (GO t at_) fun r=>r.1=(⟨#[]⟩:ByteArray)∨(0<r.1.size∧at_+r.1.size≤t.size):=by
 unfold GO Iy;refine AH (AC (Mm (AH (AC ?_))))
 simp only;generalize hL:[Nf,QR,s___32eb,s___ba5e,MY,s___d10b,Kc,PL,Ma,MZ,s___6848,Hq,Rw,Rx]=L;have hlen:L.length=14:=by rw [← hL];rfl
 have hsz:∀ s∈L,0<s.size∧s.size≤2:=by
  rw [← hL];intro s hs;simp only [List.mem_cons,List.not_mem_nil,or_false] at hs;rcases hs with e | e | e | e | e | e | e | e | e | e | e | e | e | e<;>rw [e]<;>decide
 clear hL
 refine AE (wp_loop (fun x:JD=>x.1=t∧x.2.1=at_∧x.2.2.1=L∧0≤x.2.2.2.1∧x.2.2.2.1≤14) (fun x=>14 - x.2.2.2.1.toNat) (Q:=fun s:Unit ⊕ (ByteArray×Unit)=>∀ r,s=.inr r→0<r.1.size∧at_+r.1.size≤t.size) (fun x hx=>?_) ⟨rfl,rfl,rfl,by simp,by simp⟩) (fun s hs=>⟨fun b hb=>AC (.inl rfl),fun r hr=>.inr (hs r hr)⟩)
 obtain⟨x0,x1,x2,x3,_⟩:=x;simp only at hx;obtain⟨e1,e2,e3,g1,g2⟩:=hx;subst e1 e2 e3;unfold JP;simp only;refine Ad (fun hb=>?_) fun _=>Aq (Aq (AC (Bp (fun r hr=>by cases hr))))
 have hlt:x3<(x2.length:Int):=by simpa using hb
 have hm:=hsz _ (OX x2 x3 (⟨#[]⟩:ByteArray) g1 hlt)
 have e:IntKind.wrap .i64 (x1+((rd x2 x3 (⟨#[]⟩:ByteArray)).size:Int))=x1+((rd x2 x3 (⟨#[]⟩:ByteArray)).size:Int):=Ar (by omega) (by omega)
 rw [e];refine AQ ⟨g1,hlt⟩ (Ap (AE (Q:=fun z:ByteArray×Int×List ByteArray×Int×Bool×Unit=>z.1=x0∧z.2.1=x1∧z.2.2.1=x2∧z.2.2.2.1=x3∧(z.2.2.2.2.1=true→x1+((rd x2 x3 (⟨#[]⟩:ByteArray)).size:Int)≤x0.size)) (Ad (fun hb2=>?_) fun _=>AC ⟨rfl,rfl,rfl,rfl,fun h=>by cases h⟩) fun z hz=>?_))
 ·have h2:x1+((rd x2 x3 (⟨#[]⟩:ByteArray)).size:Int)≤(x0.size:Int):=by simpa using hb2
  exact AQ ⟨h0,by omega,h2⟩ (AQ ⟨g1,hlt⟩ (AC ⟨rfl,rfl,rfl,rfl,fun _=>h2⟩))
 ·obtain⟨z0,z1,z2,z3,z4,_⟩:=z;simp only at hz;obtain⟨e1,e2,e3,e4,g3⟩:=hz;subst e1 e2 e3 e4;simp only;refine Ad (fun hb3=>AQ ⟨g1,hlt⟩ (Aq (Aq (AC (Bp (fun r hr=>by cases hr;exact⟨hm.1,g3 hb3⟩)))))) fun _=>?_
  rw [Ar (x:=z3+1) (by omega) (by omega)];exact Aq (AC (CV ⟨⟨rfl,rfl,rfl,by simp only;omega,by simp only;omega⟩,by simp only;omega⟩))
theorem dA (t:ByteArray) (n o:List SIGN) (at_:Int) (h0:0≤at_) (h1:at_<t.size) (ht:t.size≤3000) (hl:Hk (bAt t at_)=true):
 wp (AD HM (t,n,o,at_,at_,())) fun r=>r.1=t∧r.2.1=n∧r.2.2.1=o∧r.2.2.2.1=at_∧at_<r.2.2.2.2.1∧r.2.2.2.2.1≤t.size:=by
 refine wp_loop (fun x:JC=>x.1=t∧x.2.1=n∧x.2.2.1=o∧x.2.2.2.1=at_∧at_≤x.2.2.2.2.1∧x.2.2.2.2.1≤t.size) (fun x=>t.size - x.2.2.2.2.1.toNat) (fun x hx=>?_) ⟨rfl,rfl,rfl,rfl,by simp,by simp only;omega⟩
 obtain⟨x0,x1,x2,x3,x4,_⟩:=x;simp only at hx;obtain⟨e1,e2,e3,e4,g1,g2⟩:=hx;subst e1 e2 e3 e4;unfold HM;simp only;refine Ap (AE (Q:=fun z:ByteArray×List SIGN×List SIGN×Int×Int×Bool×Unit=>z.1=x0∧z.2.1=x1∧z.2.2.1=x2∧z.2.2.2.1=x3∧z.2.2.2.2.1=x4∧(z.2.2.2.2.2.1=true→x4<x0.size)∧(z.2.2.2.2.2.1=false→x4≠x3)) (Ad (fun hb=>?_) fun hb=>AC ⟨rfl,rfl,rfl,rfl,rfl,fun h=>(by cases h),fun _ e=>?_⟩) fun z hz=>?_)
 ·have hlt:x4<(x0.size:Int):=by simpa using hb
  rw [Qn,Qm];refine AQ ⟨by omega,hlt⟩ (AH (AC (Ad (fun _=>AC ⟨rfl,rfl,rfl,rfl,rfl,fun _=>hlt,fun h=>by cases h⟩) fun hb2=>AQ ⟨by omega,hlt⟩ (AH (AC (AC ⟨rfl,rfl,rfl,rfl,rfl,fun _=>hlt,fun _ e=>?_⟩))))))
  simp only at hb2;rw [e,hl] at hb2;cases hb2
 ·have:¬ x4<(x0.size:Int):=by simpa using hb
  omega
 ·obtain⟨z0,z1,z2,z3,z4,z5,_⟩:=z;simp only at hz;obtain⟨e1,e2,e3,e4,e5,g3,g4⟩:=hz;subst e1 e2 e3 e4 e5;simp only;refine Ad (fun hb=>?_) fun hb=>Aq (AC (Bp ⟨rfl,rfl,rfl,rfl,by have:=g4 hb;simp only;omega,g2⟩))
  have:=g3 hb
  rw [Ar (x:=z4+1) (by omega) (by omega)];exact Aq (AC (CV ⟨⟨rfl,rfl,rfl,rfl,by simp only;omega,by simp only;omega⟩,by simp only;omega⟩))
theorem Zt (t:ByteArray) (n o:List SIGN) (at_:Int) (h0:0≤at_) (h1:at_<t.size) (ht:t.size≤3000) (hl:LA (bAt t at_)=true):
 wp (AD HN (t,n,o,at_,at_,(0:Int),())) fun r=>r.1=t∧r.2.1=n∧r.2.2.1=o∧r.2.2.2.1=at_∧at_<r.2.2.2.2.1∧r.2.2.2.2.1≤t.size:=by
 refine wp_loop (fun x:JF=>x.1=t∧x.2.1=n∧x.2.2.1=o∧x.2.2.2.1=at_∧at_≤x.2.2.2.2.1∧x.2.2.2.2.1≤t.size) (fun x=>t.size - x.2.2.2.2.1.toNat) (fun x hx=>?_) ⟨rfl,rfl,rfl,rfl,by simp,by simp only;omega⟩
 obtain⟨x0,x1,x2,x3,x4,x5,_⟩:=x;simp only at hx;obtain⟨e1,e2,e3,e4,g1,g2⟩:=hx;subst e1 e2 e3 e4;unfold HN;simp only;refine Ap (AE (Q:=fun z:ByteArray×List SIGN×List SIGN×Int×Int×Int×Bool×Unit=>z.1=x0∧z.2.1=x1∧z.2.2.1=x2∧z.2.2.2.1=x3∧z.2.2.2.2.1=x4∧(z.2.2.2.2.2.2.1=true→x4<x0.size)∧(z.2.2.2.2.2.2.1=false→x4≠x3)) (Ad (fun hb=>?_) fun hb=>AC ⟨rfl,rfl,rfl,rfl,rfl,fun h=>(by cases h),fun _ e=>?_⟩) fun z hz=>?_)
 ·have hlt:x4<(x0.size:Int):=by simpa using hb
  rw [Qm];refine AQ ⟨by omega,hlt⟩ (AH (AC (Ad (fun _=>AC ⟨rfl,rfl,rfl,rfl,rfl,fun _=>hlt,fun h e=>?_⟩) fun hb2=>AC ⟨rfl,rfl,rfl,rfl,rfl,fun h=>(by cases h),fun _ e=>?_⟩)))
  ·rw [e] at h;simp only [Int.sub_self] at h;exact absurd h (by decide)
  ·simp only at hb2;rw [e,hl] at hb2;cases hb2
 ·have:¬ x4<(x0.size:Int):=by simpa using hb
  omega
 ·obtain⟨z0,z1,z2,z3,z4,z5,z6,_⟩:=z;simp only at hz;obtain⟨e1,e2,e3,e4,e5,g3,g4⟩:=hz;subst e1 e2 e3 e4 e5;simp only;refine Ad (fun hb=>?_) fun hb=>Aq (AC (Bp ⟨rfl,rfl,rfl,rfl,by have:=g4 hb;simp only;omega,g2⟩))
  have:=g3 hb
  rw [Ar (x:=z4+1) (by omega) (by omega)];exact AQ ⟨by omega,this⟩ (Aq (AC (CV ⟨⟨rfl,rfl,rfl,rfl,by simp only;omega,by simp only;omega⟩,by simp only;omega⟩)))
theorem dW (t:ByteArray):wp (GN t) fun r=>r.1.length≤3000:=by
 unfold GN;refine Ad (fun _=>AC (by simp)) fun hb=>Mm (AH (AC ?_))
 have ht:t.size≤3000:=by
  have:¬ (3000:Int)<(t.size:Int):=by simpa using hb
  omega
 refine AE (wp_loop (fun x:Ca=>x.1=t∧x.2.1=[]∧0≤x.2.2.2.1∧x.2.2.2.1≤t.size∧(x.2.2.1.length:Int)≤x.2.2.2.1) (fun x=>t.size - x.2.2.2.1.toNat)
  (Q:=fun s:(List SIGN×Unit) ⊕ (List SIGN×Bool×Unit)=>(∀ b,s=.inl b→b.1.length≤3000)∧∀ r,s=.inr r→r.1.length≤3000) (fun x hx=>?_) ⟨rfl,rfl,by simp,by simp,by simp⟩) (fun s hs=>⟨fun b hb=>AC (hs.1 b hb),hs.2⟩)
 obtain⟨x0,x1,x2,x3,_⟩:=x;simp only at hx;obtain⟨e1,e2,g1,g2,g3⟩:=hx;subst e1 e2;unfold HO;simp only;refine Ad (fun hb=>?_) fun _=>Aq (Aq (AC (Bp ⟨fun b hb=>by cases hb;simp only;omega,fun r hr=>by cases hr⟩)))
 have hlt:x3<(x0.size:Int):=by simpa using hb
 refine Mm (AE (Q:=fun s:(ByteArray×List SIGN×List SIGN×Int×Unit) ⊕ (Ca ⊕ ((List SIGN×Unit) ⊕ (List SIGN×Bool×Unit)))=>(∀ b,s=.inl b→b.1=x0∧b.2.1=[]∧x3<b.2.2.2.1∧b.2.2.2.1≤x0.size∧(b.2.2.1.length:Int)≤b.2.2.2.1)∧∀ r,s=.inr r→r=.inr (.inr ([],false,()))) (Ap (AE (Q:=fun z:ByteArray×List SIGN×List SIGN×Int×Bool×Unit=>z.1=x0∧z.2.1=[]∧z.2.2.1=x2∧z.2.2.2.1=x3) (AQ ⟨g1,hlt⟩ (Ad (fun _=>AC ⟨rfl,rfl,rfl,rfl⟩) fun _=>AQ ⟨g1,hlt⟩ (AC ⟨rfl,rfl,rfl,rfl⟩))) fun z hz=>?_)) fun s hs=>⟨fun b hb=>?_,fun r hr=>?_⟩)
 ·obtain⟨z0,z1,z2,z3,z4,_⟩:=z;simp only at hz;obtain⟨e1,e2,e3,e4⟩:=hz;subst e1 e2 e3 e4;simp only;refine Ad (fun _=>?_) fun _=>AQ ⟨g1,hlt⟩ ?_
  ·rw [Ar (x:=z3+1) (by omega) (by omega)];exact Aq (AC (CV ⟨rfl,rfl,by simp only;omega,by simp only;omega,by simp only;omega⟩))
  rw [Qn,Qm];refine AH (AC (Ad (fun hl=>?_) fun _=>AQ ⟨g1,hlt⟩ (AH (AC (Ad (fun hf=>?_) fun _=>?_)))))
  ·refine Ap (AH (AC (AE (dA z0 [] z2 z3 g1 hlt ht hl) fun r hr=>?_)))
   obtain⟨r0,r1,r2,r3,r4,_⟩:=r;simp only at hr;obtain⟨e1,e2,e3,e4,g4,g5⟩:=hr;subst e1 e2 e3 e4;refine Ad (fun _=>Aq (Aq (Aq (AC (Bp rfl))))) fun _=>AQ ⟨g1,by simp only;omega,g5⟩ (AQ (by simp only [Cnd.holds,List.length_singleton];omega) (Aq (AC (CV ⟨rfl,rfl,g4,g5,by simp only [List.length_append,List.length_singleton];omega⟩))))
  ·refine Ap (AH (AC (AE (Zt z0 [] z2 z3 g1 hlt ht hf) fun r hr=>?_)))
   obtain⟨r0,r1,r2,r3,r4,r5,_⟩:=r;simp only at hr;obtain⟨e1,e2,e3,e4,g4,g5⟩:=hr;subst e1 e2 e3 e4;simp only;refine Ap (AE (Q:=fun u:ByteArray×List SIGN×List SIGN×Int×Int×Bool×Unit=>u.1=r0∧u.2.1=[]∧u.2.2.1=r2∧u.2.2.2.1=r4) (Ad (fun _=>AC ⟨rfl,rfl,rfl,rfl⟩) fun _=>AC ⟨rfl,rfl,rfl,rfl⟩) fun u hu=>?_)
   obtain⟨u0,u1,u2,u3,u4,u5,_⟩:=u;simp only at hu;obtain⟨e1,e2,e3,e4⟩:=hu;subst e1 e2 e3 e4;refine Ad (fun _=>Aq (Aq (Aq (AC (Bp rfl))))) fun _=>AQ (by simp only [Cnd.holds,List.length_singleton];omega) (Aq (AC (CV ⟨rfl,rfl,g4,g5,by simp only [List.length_append,List.length_singleton];omega⟩)))
  ·refine AH (AE (ey z0 z3 g1 (by omega) ht) fun y hy=>Ad (fun _=>Aq (Aq (Aq (AC (Bp rfl))))) fun hn=>?_)
   have hne:y.1≠(⟨#[]⟩:ByteArray):=by simpa using hn
   rcases hy with hy | ⟨hy1,hy2⟩
   ·exact absurd hy hne
   rw [Ar (x:=z3+(y.1.size:Int)) (by omega) (by omega)];exact AQ (by simp only [Cnd.holds,List.length_singleton];omega) (Aq (AC (CV ⟨rfl,rfl,by simp only;omega,by simp only;omega,by simp only [List.length_append,List.length_singleton];omega⟩)))
 ·have:=hs.1 b hb
  obtain⟨b0,b1,b2,b3,_⟩:=b;simp only at this;obtain⟨e1,e2,k1,k2,k3⟩:=this;subst e1 e2;exact Aq (AC (CV ⟨⟨rfl,rfl,by simp only;omega,k2,k3⟩,by simp only;omega⟩))
 ·rw [hs.2 r hr];exact Bp ⟨fun b hb=>(by cases hb),fun r hr=>(by cases hr;simp)⟩
set_option maxRecDepth 100000
abbrev NODE:=Int×(Int×(ByteArray×List Int))
abbrev FN:=ByteArray×(List (ByteArray×Int)×(Int×(Int×Int)))
abbrev PROG:=List NODE×List FN
abbrev zN:NODE:=((0:Int),((0:Int),((⟨#[]⟩:ByteArray),[])))
structure FineN (l:List NODE):Prop where
 len:l.length≤1048576
 kid:∀ x∈l,(x:NODE).2.2.2.length≤1048576
theorem Iu {n:Nat} (h:n≤1048576):IntKind.wrap .i64 ((n:Int) - 1)=(n:Int) - 1:=Ar (by omega) (by omega)
def kr (k:Int):Int×Int:=if k=8∨k=13∨k=14∨k=15∨k=18∨k=19 then (1,1) else if k=9∨k=10∨k=11∨k=17 then (2,2) else if k=12 then (0,3) else if k=16 then (3,3) else if k=20 then (0,12) else (0,0)
theorem kU (k:Int):Jw k=some ((kr k).1,(kr k).2,()):=by
 unfold Jw kr
 by_cases h8:k=8
 ·subst h8;rfl
 by_cases h13:k=13
 ·subst h13;rfl
 by_cases h14:k=14
 ·subst h14;rfl
 by_cases h15:k=15
 ·subst h15;rfl
 by_cases h18:k=18
 ·subst h18;rfl
 by_cases h19:k=19
 ·subst h19;rfl
 by_cases h9:k=9
 ·subst h9;rfl
 by_cases h10:k=10
 ·subst h10;rfl
 by_cases h11:k=11
 ·subst h11;rfl
 by_cases h17:k=17
 ·subst h17;rfl
 by_cases h12:k=12
 ·subst h12;rfl
 by_cases h16:k=16
 ·subst h16;rfl
 by_cases h20:k=20
 ·subst h20;rfl
 simp only [h8,h13,h14,h15,h18,h19,h9,h10,h11,h17,h12,h16,h20,decide_false,cond_false,AA,or_self,if_false]
theorem kL (k:Int):La k=some ((kr k).1,(kr k).2,()):=by
 unfold La kr
 by_cases h8:k=8
 ·subst h8;rfl
 by_cases h13:k=13
 ·subst h13;rfl
 by_cases h14:k=14
 ·subst h14;rfl
 by_cases h15:k=15
 ·subst h15;rfl
 by_cases h18:k=18
 ·subst h18;rfl
 by_cases h19:k=19
 ·subst h19;rfl
 by_cases h9:k=9
 ·subst h9;rfl
 by_cases h10:k=10
 ·subst h10;rfl
 by_cases h11:k=11
 ·subst h11;rfl
 by_cases h17:k=17
 ·subst h17;rfl
 by_cases h12:k=12
 ·subst h12;rfl
 by_cases h16:k=16
 ·subst h16;rfl
 by_cases h20:k=20
 ·subst h20;rfl
 simp only [h8,h13,h14,h15,h18,h19,h9,h10,h11,h17,h12,h16,h20,decide_false,cond_false,AA,or_self,if_false]
def Iv (k:Int):Bool:=decide (2≤k∧k≤6) || decide (12≤k∧k≤15)
theorem je (k:Int):Jd k=some (Iv k,()):=by
 simp only [Jd,iIn,Option.bind_some,Iv];cases decide (2≤k∧k≤6)<;>rfl
theorem jq (k:Int):Iz k=some (Iv k,()):=by
 unfold Iz
 by_cases h2:k=2
 ·subst h2;rfl
 by_cases h3:k=3
 ·subst h3;rfl
 by_cases h4:k=4
 ·subst h4;rfl
 by_cases h5:k=5
 ·subst h5;rfl
 by_cases h6:k=6
 ·subst h6;rfl
 by_cases h12:k=12
 ·subst h12;rfl
 by_cases h13:k=13
 ·subst h13;rfl
 by_cases h14:k=14
 ·subst h14;rfl
 by_cases h15:k=15
 ·subst h15;rfl
 simp only [h2,h3,h4,h5,h6,h12,h13,h14,h15,decide_false,cond_false,AA,Iv];rw [decide_eq_false (by omega),decide_eq_false (by omega)];rfl
def JW (k i j:Int):Bool:=bif decide (k=20) then decide (13≤j∧j≤19) else bif (decide (k=16) || decide (k=17)) && decide (0<i) then decide (j=20) else bif decide (k=19) then decide (j=12) else decide (1≤j∧j≤12)
theorem kT (k i j:Int):Jv k i j=some (JW k i j,()):=by
 simp only [Jv,IX,Gx,sIn,Option.bind_some,JW];cases decide (k=20)
 ·simp only [cond_false]
  by_cases h16:k=16
  ·subst h16;simp only [decide_true,cond_true,AA,Bool.true_or,Bool.true_and];cases decide (0<i)<;>rfl
  ·by_cases h17:k=17
   ·subst h17;simp only [show ¬ ((17:Int)=16) by decide,decide_true,decide_false,cond_true,cond_false,AA,Bool.or_true,Bool.true_and];cases decide (0<i)<;>rfl
   ·simp only [h16,h17,decide_false,cond_false,AA,Bool.or_self,Bool.false_and];cases decide (k=19)<;>rfl
 ·rfl
theorem kK (k i j:Int):Je k i j=some (JW k i j,()):=by
 simp only [Je,Nm,Hj,iIn,Option.bind_some,JW];cases decide (k=20)
 ·simp only [cond_false]
  by_cases h16:k=16
  ·subst h16;simp only [decide_true,cond_true,AA,Bool.true_or,Bool.true_and];cases decide (0<i)<;>rfl
  ·by_cases h17:k=17
   ·subst h17;simp only [show ¬ ((17:Int)=16) by decide,decide_true,decide_false,cond_true,cond_false,AA,Bool.or_true,Bool.true_and];cases decide (0<i)<;>rfl
   ·simp only [h16,h17,decide_false,cond_false,AA,Bool.or_self,Bool.false_and];cases decide (k=19)<;>rfl
 ·rfl
def BK (l:List Int) (n:Int):Bool:=l.any fun y=>decide (y=n)
theorem Rm (l:List Int) (n:Int) (hl:l.length≤4000000):Co l n=some (BK l n,()):=by
 have h:=GT (step:=Fn) l (fun y=>decide (y=n)) (fun k=>(n,l,(l.length:Int),(k:Int),())) (.inr (true,())) (.inl ()) (fun k hk=>by
  simp only [Fn,AR hk,decide_true,cond_true,AK hk,AP hk,AI (show k<9223372036854775807 by omega)];cases decide (l[k]=n)<;>rfl) (by
  simp only [Fn,AJ,decide_false,cond_false,Option.map_some])
 have h':AD Fn (n,l,(l.length:Int),(0:Int),())=_:=h
 simp only [Co,Option.bind_some,h',BK];cases l.any fun y=>decide (y=n)<;>rfl
def NW (l:List NODE) (k:Int) (x:NODE) (i:Nat):Bool:=decide (0≤x.2.2.2.getD i 0∧x.2.2.2.getD i 0≤k - 1) && (JW x.1 (i:Int) (rd l (x.2.2.2.getD i 0) zN).1 && !BK (x.2.2.2.take i) (x.2.2.2.getD i 0))
def MS (l:List NODE) (k:Int) (x:NODE):Bool:=(List.range x.2.2.2.length).all (NW l k x)
def Dx (l:List NODE) (k:Int) (x:NODE):Bool:=decide (1≤x.1∧x.1≤20) && (decide ((kr x.1).1≤(x.2.2.2.length:Int)∧(x.2.2.2.length:Int)≤(kr x.1).2) && ((bif decide (x.1=1) then decide (0≤x.2.1∧x.2.1≤1000000000) else decide (x.2.1=0)) && ((bif Iv x.1 then Bo x.2.2.1 else decide (x.2.2.1=(⟨#[]⟩:ByteArray))) && MS l k x)))
def BT (l:List NODE) (k:Int):Bool:=decide (0≤k∧k≤(l.length:Int) - 1) && Dx l k (rd l k zN)
theorem aH {α:Type} (l:List α) (i:Nat):JJ l (0:Int) (i:Int)=l.take i:=by simp [JJ]
theorem eQ {α:Type} {i n:Nat} {K:Option α} (h:i≤n):(Cnd.cut (0:Int) (i:Int) n).run K=K:=by
 simp only [Cnd.run];rw [if_pos ⟨by omega,by omega,by omega⟩]
theorem AU {α:Type} {n:Int} {m:Nat} {K:Option α} (h:0≤n∧n<(m:Int)):(Cnd.idx n m).run K=K:=by
 simp only [Cnd.run];rw [if_pos h]
theorem Yr (l:List NODE) (k:Nat) (hk:k<l.length) (hl:FineN l) (x:NODE) (hx:x.2.2.2.length≤1048576):
 AD Fi (l,(k:Int),x.2.2.2,(x.2.2.2.length:Int),(0:Int),x,())=some (bif MS l k x then .inl (x,()) else .inr (false,())):=by
 have hlen:=hl.len
 have h:=Br (step:=Fi) (List.range x.2.2.2.length) (NW l k x) (fun i=>(l,(k:Int),x.2.2.2,(x.2.2.2.length:Int),(i:Int),x,())) (.inl (x,())) (.inr (false,())) (fun i hi=>by
  have hi':i<x.2.2.2.length:=by simpa using hi
  have wi:=AI (show i<9223372036854775807 by omega)
  have hg:x.2.2.2.getD i 0=x.2.2.2[i]:=by simp [hi']
  have wk:IntKind.wrap .i64 ((k:Int) - 1)=(k:Int) - 1:=Ar (by omega) (by omega)
  simp only [Fi,AR hi',decide_true,cond_true,AK hi',AP hi',iIn,Option.bind_some,wk,List.getElem_range,NW,hg];generalize x.2.2.2[i]=kid
  by_cases hr:0≤kid∧kid≤(k:Int) - 1
  ·simp only [hr,and_self,decide_true,Bool.not_true,cond_false,eQ (Nat.le_of_lt hi'),aH,Rm _ _ (show(x.2.2.2.take i).length≤4000000 by rw [List.length_take];omega),Option.bind_some,Bool.true_and,AU (show 0≤kid∧kid<(l.length:Int) by omega),kK];cases BK (x.2.2.2.take i) kid<;>cases JW x.1 (i:Int) (rd l kid zN).1<;>simp only [cond_true,cond_false,AA,Bool.not_true,Bool.not_false,Bool.and_true,Bool.and_false,Option.map_some,wi]
  ·simp only [hr,decide_false,Bool.not_false,cond_true,AA,Bool.false_and,cond_false,Option.map_some]) (by
  rw [List.length_range];simp only [Fi,AJ,decide_false,cond_false,Option.map_some])
 exact h
theorem co (l:List NODE) (k:Int) (x:NODE) (i:Nat) (hi:i<x.2.2.2.length) (hx:x.2.2.2.length≤1048576):
 AD Fp (l,k,(i:Int),(0:Int),x,())=some (bif BK (x.2.2.2.take i) (x.2.2.2.getD i 0) then .inr (.inr (.inr (.inr (false,())))) else .inl (l,k,(i:Int),x,())):=by
 have hlen:(x.2.2.2.take i).length=i:=by rw [List.length_take];omega
 have h:=GT (step:=Fp) (x.2.2.2.take i) (fun y=>decide (y=x.2.2.2.getD i 0)) (fun j=>(l,k,(i:Int),(j:Int),x,())) (.inr (.inr (.inr (.inr (false,()))))) (.inl (l,k,(i:Int),x,())) (fun j hj=>by
  have hj':j<i:=by omega
  have hjl:j<x.2.2.2.length:=by omega
  have hg:x.2.2.2.getD i 0=x.2.2.2[i]:=by simp [hi]
  have e:decide (x.2.2.2[i]=x.2.2.2[j])=decide (x.2.2.2[j]=x.2.2.2[i]):=by
   by_cases h:x.2.2.2[i]=x.2.2.2[j]
   ·rw [decide_eq_true h,decide_eq_true h.symm]
   ·rw [decide_eq_false h,decide_eq_false (fun h'=>h h'.symm)]
  simp only [Fp,AR hj',decide_true,cond_true,AK hi,AK hjl,AP hi,AP hjl,AI (show j<9223372036854775807 by omega),hg,e,List.getElem_take];cases decide (x.2.2.2[j]=x.2.2.2[i])<;>rfl) (by
  rw [hlen];simp only [Fp,AJ,decide_false,cond_false,Option.map_some])
 exact h
theorem Ys (l:List NODE) (k:Nat) (hk:k<l.length) (hl:FineN l) (x:NODE) (hx:x.2.2.2.length≤1048576):
 AD Fw (l,(k:Int),(0:Int),x,())=some (bif MS l k x then .inl () else .inr (false,())):=by
 have hlen:=hl.len
 have h:=Br (step:=Fw) (List.range x.2.2.2.length) (NW l k x) (fun i=>(l,(k:Int),(i:Int),x,())) (.inl ()) (.inr (false,())) (fun i hi=>by
  have hi':i<x.2.2.2.length:=by simpa using hi
  have wi:=AI (show i<9223372036854775807 by omega)
  have hg:x.2.2.2.getD i 0=x.2.2.2[i]:=by simp [hi']
  have wk:IntKind.wrap .i64 ((k:Int) - 1)=(k:Int) - 1:=Ar (by omega) (by omega)
  have hd:=co l (k:Int) x i hi' hx
  rw [hg] at hd;simp only [Fw,AR hi',decide_true,cond_true,AK hi',AP hi',sIn,Option.bind_some,wk,List.getElem_range,NW,hg];generalize x.2.2.2[i]=kid at hd ⊢
  by_cases hr:0≤kid∧kid≤(k:Int) - 1
  ·simp only [hr,and_self,decide_true,Bool.not_true,cond_false,Option.bind_some,Bool.true_and,AU (show 0≤kid∧kid<(l.length:Int) by omega),kT];cases JW x.1 (i:Int) (rd l kid zN).1
   ·simp only [Bool.not_false,AA,cond_true,Option.map_some,Av,Bool.false_and,cond_false]
   ·simp only [Bool.not_true,AA,cond_false,hd,Bool.true_and];cases BK (x.2.2.2.take i) kid<;>simp only [cond_true,cond_false,BE,Av,Bool.not_true,Bool.not_false,Option.map_some,wi]
  ·simp only [hr,decide_false,Bool.not_false,cond_true,AA,Bool.false_and,cond_false,Option.map_some,Av]) (by
  rw [List.length_range];simp only [Fw,AJ,decide_false,cond_false,Option.map_some])
 exact h
theorem ez {s:ByteArray} (h:Bo s=true):s≠(⟨#[]⟩:ByteArray):=by
 rintro rfl
 simp only [Bo,Bool.and_eq_true,decide_eq_true_eq] at h;have:=h.1.1.1.1
 have e:(⟨#[]⟩:ByteArray).size=0:=rfl
 omega
theorem Ti (l:List NODE) (hl:FineN l) (k:Int):Kj l k=some (BT l k,()):=by
 unfold Kj BT;simp only [Iu hl.len,iIn,Option.bind_some]
 by_cases hr:0≤k∧k≤(l.length:Int) - 1
 case neg=>simp only [hr,decide_false,Bool.not_false,cond_true,Bool.false_and]
 obtain⟨k,rfl⟩:∃ n:Nat,k=(n:Int):=⟨k.toNat,by omega⟩
 have hk:k<l.length:=by omega
 simp only [hr,and_self,decide_true,Bool.not_true,cond_false,AK hk,kL,Option.bind_some,Bool.true_and,AP hk,Dx];have hx:=hl.kid _ (List.getElem_mem hk)
 have hloop:=Yr l k hk hl l[k] hx
 generalize l[k]=x at hx hloop ⊢;cases decide (1≤x.1∧x.1≤20)
 ·simp only [Bool.not_false,cond_true,AA,Bool.false_and]
 simp only [Bool.not_true,cond_false,Bool.true_and];cases decide ((kr x.1).1≤(x.2.2.2.length:Int)∧(x.2.2.2.length:Int)≤(kr x.1).2)
 ·simp only [Bool.not_false,cond_true,AA,Bool.false_and]
 simp only [Bool.not_true,cond_false,AA,Bool.true_and,hloop];cases MS l k x
 ·simp only [cond_false,Av,Bool.and_false]
 simp only [cond_true,BE,Bool.and_true];have eN:(bif decide (x.1=1) then bif !decide (0≤x.2.1∧x.2.1≤1000000000) then some (true,x,()) else bif decide (x.1≠1) then some (decide (x.2.1≠0),x,()) else some (false,x,()) else bif decide (x.1≠1) then some (decide (x.2.1≠0),x,()) else some (false,x,()))=some (!(bif decide (x.1=1) then decide (0≤x.2.1∧x.2.1≤1000000000) else decide (x.2.1=0)),x,()):=by
  by_cases e:x.1=1
  ·simp only [e,decide_true,cond_true,ne_eq,not_true_eq_false,decide_false,cond_false];cases decide (0≤x.2.1∧x.2.1≤1000000000)<;>rfl
  ·by_cases e2:x.2.1=0<;>simp [e,e2]
 rw [eN,AA];cases (bif decide (x.1=1) then decide (0≤x.2.1∧x.2.1≤1000000000) else decide (x.2.1=0))
 ·simp only [Bool.not_false,cond_true,Bool.false_and]
 simp only [Bool.not_true,cond_false,je,KU,Option.bind_some,Bool.true_and];cases Iv x.1<;>rfl
theorem Tu (l:List NODE) (hl:FineN l) (k:Int):Km l k=some (BT l k,()):=by
 unfold Km BT;simp only [Iu hl.len,sIn,Option.bind_some]
 by_cases hr:0≤k∧k≤(l.length:Int) - 1
 case neg=>simp only [hr,decide_false,Bool.not_false,cond_true,AA,Bool.false_and]
 obtain⟨k,rfl⟩:∃ n:Nat,k=(n:Int):=⟨k.toNat,by omega⟩
 have hk:k<l.length:=by omega
 simp only [hr,and_self,decide_true,Bool.not_true,cond_false,AK hk,Bool.true_and,AP hk,Dx,AA];have hx:=hl.kid _ (List.getElem_mem hk)
 have hloop:=Ys l k hk hl l[k] hx
 generalize l[k]=x at hx hloop ⊢;cases decide (1≤x.1∧x.1≤20)
 ·simp only [Bool.not_false,cond_true,Bool.false_and]
 simp only [Bool.not_true,cond_false,Bool.true_and,AK hk,kU,Option.bind_some,sIn];have eN:(bif !decide ((kr x.1).1≤(x.2.2.2.length:Int)∧(x.2.2.2.length:Int)≤(kr x.1).2) then some (l,(k:Int),true,x,()) else bif !decide (0≤x.2.1∧x.2.1≤1000000000) then some (l,(k:Int),true,x,()) else bif decide (x.1≠1) then some (l,(k:Int),decide (x.2.1≠0),x,()) else some (l,(k:Int),false,x,())) =
  some (l,(k:Int),!(decide ((kr x.1).1≤(x.2.2.2.length:Int)∧(x.2.2.2.length:Int)≤(kr x.1).2) && (bif decide (x.1=1) then decide (0≤x.2.1∧x.2.1≤1000000000) else decide (x.2.1=0))),x,()):=by
  cases decide ((kr x.1).1≤(x.2.2.2.length:Int)∧(x.2.2.2.length:Int)≤(kr x.1).2)
  ·rfl
  by_cases e:x.1=1
  ·simp only [e,decide_true,cond_true,ne_eq,not_true_eq_false,decide_false,cond_false,Bool.not_true,Bool.true_and];cases decide (0≤x.2.1∧x.2.1≤1000000000)<;>rfl
  ·by_cases e2:x.2.1=0
   ·simp [e,e2]
   ·by_cases e3:0≤x.2.1∧x.2.1≤1000000000<;>simp [e,e2,e3]
 rw [eN,AA];cases decide ((kr x.1).1≤(x.2.2.2.length:Int)∧(x.2.2.2.length:Int)≤(kr x.1).2)
 ·simp only [Bool.false_and,Bool.not_false,cond_true]
 simp only [Bool.true_and];cases (bif decide (x.1=1) then decide (0≤x.2.1∧x.2.1≤1000000000) else decide (x.2.1=0))
 ·simp only [Bool.not_false,cond_true,Bool.false_and]
 simp only [Bool.not_true,cond_false,Bool.true_and,jq,GM,Option.bind_some];have eM:(bif !(Iv x.1 == decide (x.2.2.1≠(⟨#[]⟩:ByteArray))) then some (l,(k:Int),true,x,()) else bif decide (x.2.2.1≠(⟨#[]⟩:ByteArray)) then some (l,(k:Int),!Bo x.2.2.1,x,()) else some (l,(k:Int),false,x,())) =
  some (l,(k:Int),!(bif Iv x.1 then Bo x.2.2.1 else decide (x.2.2.1=(⟨#[]⟩:ByteArray))),x,()):=by
  by_cases e:x.2.2.1=(⟨#[]⟩:ByteArray)
  ·have hn:Bo x.2.2.1=false:=by
    cases h:Bo x.2.2.1
    ·rfl
    ·exact absurd e (ez h)
   rw [hn];cases Iv x.1<;>simp [e]
  ·cases Iv x.1<;>simp [e]
 rw [eM,AA];cases (bif Iv x.1 then Bo x.2.2.1 else decide (x.2.2.1=(⟨#[]⟩:ByteArray)))
 ·simp only [Bool.not_false,cond_true,Bool.false_and]
 simp only [Bool.not_true,cond_false,Bool.true_and,hloop];cases MS l k x<;>rfl
set_option maxRecDepth 100000
abbrev RD:=List SIGN×(Int×(Bool×(Int×List NODE)))
structure ROk (L:List SIGN) (r:RD):Prop where
 l:r.1=L
 a0:0≤r.2.1
 a1:r.2.1≤L.length
 n:r.2.2.2.2.length≤300
 k:∀ x∈r.2.2.2.2,(x:NODE).2.2.2.length≤100000
structure Mv (L:List SIGN) (r r':RD):Prop where
 ok:ROk L r'
 le:r.2.1≤r'.2.1
 bd:r.2.2.1=true→r'.2.2.1=true
structure Pg (L:List SIGN) (r r':RD):Prop extends Mv L r r' where
 pg:r'.2.2.1=true∨r.2.1<r'.2.1
theorem Mv.rfl' {L:List SIGN} {r:RD} (h:ROk L r):Mv L r r:=⟨h,Int.le_refl _,fun e=>e⟩
theorem Mv.trans {L:List SIGN} {a b c:RD} (h:Mv L a b) (h':Mv L b c):Mv L a c:=⟨h'.ok,Int.le_trans h.le h'.le,fun e=>h'.bd (h.bd e)⟩
theorem Mv.pg {L:List SIGN} {a b c:RD} (h:Mv L a b) (h':Pg L b c):Pg L a c:=⟨h.trans h'.toMv,h'.pg.imp id fun e=>by have:=h.le;omega⟩
theorem Pg.mv {L:List SIGN} {a b c:RD} (h:Pg L a b) (h':Mv L b c):Pg L a c:=⟨h.toMv.trans h',h.pg.imp h'.bd fun e=>by have:=h'.le;omega⟩
theorem Mv.deep {L:List SIGN} {a b:RD} (h:Mv L a b) (d:Int):Mv L a (b.1,(b.2.1,(b.2.2.1,(d,b.2.2.2.2)))):=⟨⟨h.ok.l,h.ok.a0,h.ok.a1,h.ok.n,h.ok.k⟩,h.le,h.bd⟩
theorem Pg.deep {L:List SIGN} {a b:RD} (h:Pg L a b) (d:Int):Pg L a (b.1,(b.2.1,(b.2.2.1,(d,b.2.2.2.2)))):=⟨h.toMv.deep d,h.pg⟩
theorem Mv.bad {L:List SIGN} {a b:RD} (h:Mv L a b):Pg L a (b.1,(b.2.1,(true,b.2.2.2))):=⟨⟨⟨h.ok.l,h.ok.a0,h.ok.a1,h.ok.n,h.ok.k⟩,h.le,fun _=>rfl⟩,.inl rfl⟩
theorem Mv.next {L:List SIGN} {a b:RD} (h:Mv L a b) (hlt:b.2.1<L.length):Pg L a (b.1,(b.2.1+1,b.2.2)):=⟨⟨⟨h.ok.l,by have:=h.ok.a0;simp only;omega,by simp only;omega,h.ok.n,h.ok.k⟩,by have:=h.le;simp only;omega,h.bd⟩,.inr (by have:=h.le;simp only;omega)⟩
section
variable {L:List SIGN} (hL:L.length≤3000)
include hL
theorem Zb {r:RD} (h:ROk L r):IntKind.wrap .i64 (r.2.1+1)=r.2.1+1:=Ar (by have:=h.a0;omega) (by have:=h.a1;omega)
theorem Yq (r:RD) (k:Int) (s:ByteArray) (h:ROk L r):wp (Dt r k s) fun y=>y.2.1=r∧(y.1=true→r.2.1<L.length):=by
 unfold Dt;refine Ap (AE (Q:=fun y:Bool×RD×Unit=>y.2.1=r∧(y.1=true→r.2.1<L.length)) (Ad (fun _=>Ad (fun hb=>?_) fun _=>AC ⟨rfl,fun h=>by cases h⟩) fun _=>AC ⟨rfl,fun h=>by cases h⟩) fun y hy=>AC hy)
 have hlt:r.2.1<(List.length r.1:Int):=by simpa using hb
 have hlt':r.2.1<(L.length:Int):=by rw [h.l] at hlt;exact hlt
 exact AQ ⟨h.a0,hlt⟩ (Ad (fun _=>AQ ⟨h.a0,hlt⟩ (AC ⟨rfl,fun _=>hlt'⟩)) fun _=>AC ⟨rfl,fun h=>by cases h⟩)
theorem BB (r:RD) (k:Int) (s:ByteArray) (h:ROk L r):wp (AF r k s) fun y=>Mv L r y.2.1∧(y.1=true→Pg L r y.2.1∧r.2.1<y.2.1.2.1):=by
 unfold AF;refine AH (AE (Yq hL r k s h) fun y hy=>?_)
 obtain⟨e,hlt⟩:=hy;rw [e,Zb hL h];refine Ad (fun hb=>AC ?_) fun _=>AC ⟨.rfl' h,fun h=>by cases h⟩
 have:=(Mv.rfl' h).next (hlt hb)
 exact⟨this.toMv,fun _=>⟨this,by simp only;omega⟩⟩
theorem Cc (r:RD) (s:ByteArray) (h:ROk L r):wp (Ab r s) fun y=>Pg L r y.1:=by
 unfold Ab;refine AH (AE (BB hL r 3 s h) fun y hy=>Ap (Ad (fun _=>AC (AC hy.1.bad)) fun hb=>AC (AC (hy.2 ?_).1)))
 cases hy1:y.1
 ·rw [hy1] at hb;cases hb
 ·rfl
theorem HC (r:RD) (h:ROk L r):wp (Ax r) fun y=>Pg L r y.2.1:=by
 unfold Ax;refine Ap (AE (Q:=fun x:Bool×RD×Unit=>x.2.1=r∧(x.1=false→r.2.1<L.length)) (Ad (fun _=>AC ⟨rfl,fun h=>by cases h⟩) fun _=>Ad (fun _=>AC ⟨rfl,fun h=>by cases h⟩) fun hb=>?_) fun x hx=>?_)
 ·have hlt:r.2.1<(List.length r.1:Int):=by
   have:¬ (List.length r.1:Int)≤r.2.1:=by simpa using hb
   omega
  have hlt':r.2.1<(L.length:Int):=by rw [h.l] at hlt;exact hlt
  refine AQ ⟨h.a0,hlt⟩ (Ad (fun _=>AC ⟨rfl,fun h=>by cases h⟩) fun _=>AQ ⟨h.a0,hlt⟩ ?_)
  rw [GM];exact AH (AC (AC ⟨rfl,fun _=>hlt'⟩))
 ·obtain⟨x0,x1,_⟩:=x;simp only at hx;obtain⟨e,hlt⟩:=hx;subst e;simp only;refine Ad (fun _=>AC (Mv.rfl' h).bad) fun hb=>?_
  rw [Zb hL h,show x1.2.1+1 - 1=x1.2.1 by omega,Ar (x:=x1.2.1) (by have:=h.a0;omega) (by have:=h.a1;omega)];exact AQ ⟨h.a0,by rw [h.l];exact hlt hb⟩ (AC ((Mv.rfl' h).next (hlt hb)))
theorem EG (r:RD) (x:NODE) (hx:x.2.2.2.length≤100000) (h:ROk L r):wp (Aa r x) fun y=>Mv L r y.2.1:=by
 unfold Aa;refine Ap (AE (Q:=fun z:Bool×RD×NODE×Unit=>z.2.1=r∧z.2.2.1=x∧(z.1=false→r.2.2.2.2.length<300)) (Ad (fun _=>AC ⟨rfl,rfl,fun h=>by cases h⟩) fun _=>AC ⟨rfl,rfl,fun hb=>?_⟩) fun z hz=>?_)
 ·have:¬ (300:Int)≤(List.length r.2.2.2.2:Int):=by simpa using hb
  omega
 ·obtain⟨z0,z1,z2,_⟩:=z;simp only at hz;obtain⟨e1,e2,hlt⟩:=hz;subst e1 e2;simp only;refine Ad (fun _=>AC (Mv.rfl' h).bad.toMv) fun hb=>AQ ?_ (AC ⟨⟨h.l,h.a0,h.a1,?_,fun y hy=>?_⟩,Int.le_refl _,fun e=>e⟩)
  ·have:=hlt hb
   simp only [Cnd.holds,List.length_singleton];omega
  ·have:=hlt hb
   simp only [List.length_append,List.length_singleton];omega
  ·rcases List.mem_append.1 hy with hy | hy
   ·exact h.k y hy
   ·rw [List.mem_singleton.1 hy];exact hx
theorem eo (r:RD) (h:ROk L r):wp (DB r) fun y=>Pg L r y.2.1:=by
 unfold DB;refine AH (AE (BB hL r 1 _ h) fun y hy=>Ad (fun _=>?_) fun _=>?_)
 ·exact AH (AE (HC hL _ hy.1.ok) fun n hn=>AH (AE (EG hL _ _ (by simp) hn.ok) fun p hp=>AC (hy.1.pg (hn.mv hp))))
 ·exact AH (AE (HC hL _ hy.1.ok) fun n hn=>AH (AE (EG hL _ _ (by simp) hn.ok) fun p hp=>AC (hy.1.pg (hn.mv hp))))
abbrev FV:=RD→Option (Int×RD×Unit)
abbrev FA:=RD→ByteArray→Option (Int×RD×Unit)
theorem Su {r0 r0' r1 r1' r2 r2':FV} {r3 r3':FA} (r:RD) (h:ROk L r) (H1:∀ q,ROk L q→r.2.1≤q.2.1→wq (r1 q) (r1' q) fun y=>Pg L q y.2.1):wq (Bb r0 r1 r2 r3 r) (Bb r0' r1' r2' r3' r) fun y=>Pg L r y.2.1:=by
 unfold Bb;refine AO (AM (H1 r h (Int.le_refl _)) fun y1 hy1=>AO (AM (Al (BB hL _ 3 _ hy1.ok)) fun y2 hy2=>Bg (AM (Q:=fun x:Int×Int×RD×Unit=>Pg L r x.2.2.1) (BV (fun _=>AZ (hy1.mv hy2.1)) fun _=>AO (AM (Al (BB hL _ 3 _ hy2.1.ok)) fun y3 hy3=>Bg (BV (fun _=>AZ (AZ ((hy1.mv hy2.1).mv hy3.1))) fun _=>AZ (AZ ((hy1.mv hy2.1).mv hy3.1))))) fun x hx=>Bg (AM (Q:=fun z:Int×RD×Unit=>Pg L r z.2.1) (BV (fun _=>?_) fun _=>AZ hx) fun z hz=>AZ hz))))
 exact AO (AM (H1 _ hx.ok hx.le) fun y6 hy6=>AO (AM (Al (EG hL _ _ (by simp) hy6.ok)) fun y7 hy7=>AZ ((hx.mv hy6.toMv).mv hy7)))
theorem WV {r0 r0' r1 r1' r2 r2':FV} {r3 r3':FA} (r:RD) (h:ROk L r) (H2:∀ q,ROk L q→r.2.1≤q.2.1→wq (r2 q) (r2' q) fun y=>Pg L q y.2.1):wq (Cm r0 r1 r2 r3 r) (Cm r0' r1' r2' r3' r) fun y=>Pg L r y.2.1:=by
 unfold Cm;refine AO (AM (H2 r h (Int.le_refl _)) fun y1 hy1=>Bg (AO (AZ (AM (Qs (fun x:EH=>Pg L r x.2.1) (fun x=>(L.length - x.2.1.2.1).toNat) (Q:=fun z:Int×RD×Unit=>Pg L r z.2.1) (fun x hx=>?_) hy1) fun z hz=>AZ hz))))
 unfold CN;refine AO (AM (Al (BB hL _ 3 _ hx.ok)) fun y3 hy3=>BV (fun hb=>?_) fun _=>KB (AZ (Bp (hx.mv hy3.1))))
 have hlt:=(hy3.2 hb).2
 refine AO (AM (H2 _ hy3.1.ok (Int.le_trans hx.le hy3.1.le)) fun y4 hy4=>AO (AM (Al (EG hL _ _ (by simp) hy4.ok)) fun y5 hy5=>KB (AZ (CV ⟨(hx.mv hy3.1).mv (hy4.toMv.trans hy5),?_⟩))))
 have h4:=hy4.le
 have h5:=hy5.le
 have h6:=hy5.ok.a1
 simp only;omega
theorem UC {r0 r0' r1 r1' r2 r2':FV} {r3 r3':FA} (r:RD) (nm:ByteArray) (h:ROk L r) (H0:∀ q,ROk L q→r.2.1≤q.2.1→wq (r0 q) (r0' q) fun y=>Pg L q y.2.1):wq (CQ r0 r1 r2 r3 r nm) (CQ r0' r1' r2' r3' r nm) fun y=>Mv L r y.2.1:=by
 unfold CQ;refine AO (AM (Al (BB hL _ 3 _ h)) fun y hy=>Bg (AM (Q:=fun x:ByteArray×List Int×RD×Unit=>Mv L r x.2.2.1∧x.2.1.length≤100000) (BV (fun _=>?_) fun _=>AZ ⟨hy.1,by simp⟩) fun x hx=>AO (AM (Al (EG hL _ _ hx.2 hx.1.ok)) fun p hp=>AZ (hx.1.trans hp))))
 refine Bg (AO (AZ (AM (Qs (fun x:Dl=>Mv L r x.2.2.1∧((x.2.1.length:Int)≤x.2.2.1.2.1∨(x.2.2.1.2.2.1=true∧(x.2.1.length:Int)≤x.2.2.1.2.1+1))) (fun x=>2 * (L.length - x.2.2.1.2.1).toNat+(bif x.2.2.1.2.2.1 then 0 else 1)) (Q:=fun x:ByteArray×List Int×RD×Unit=>Mv L r x.2.2.1∧x.2.1.length≤100000) (fun x hx=>?_) ⟨hy.1,.inl (by have:=hy.1.ok.a0;simpa using this)⟩) fun z hz=>AZ hz)))
 obtain⟨x0,x1,x2,_⟩:=x;simp only at hx;obtain⟨g1,g2⟩:=hx;have ga:=g1.ok.a1
 unfold CB;simp only;refine BV (fun hb=>?_) fun _=>KB (AZ (Bp ⟨g1,by simp only;omega⟩))
 have hbad:x2.2.2.1=false:=by
  cases hc:x2.2.2.1
  ·rfl
  ·rw [hc] at hb;cases hb
 have gl:(x1.length:Int)≤x2.2.1:=by
  rcases g2 with g2 | ⟨g2,_⟩
  ·exact g2
  ·rw [hbad] at g2;cases g2
 refine AO (AM (H0 _ g1.ok g1.le) fun y3 hy3=>Bk (by simp only [Cnd.holds,List.length_singleton];omega) (AO (AM (Al (BB hL _ 3 _ hy3.ok)) fun y4 hy4=>BV (fun _=>KB (AZ (Bp ⟨(g1.pg hy3).toMv.trans hy4.1,by simp only [List.length_append,List.length_singleton];omega⟩))) fun _=>AO (AM (Al (Cc hL _ _ hy4.1.ok)) fun y5 hy5=>KB (AZ (CV ⟨⟨((g1.pg hy3).toMv.trans hy4.1).trans hy5.toMv,?_⟩,?_⟩))))))
 ·have h1:=(hy3.mv (hy4.1.trans hy5.toMv)).pg
  have h2:=(hy3.mv (hy4.1.trans hy5.toMv)).le
  simp only [List.length_append,List.length_singleton];rcases h1 with h1 | h1
  ·exact .inr ⟨h1,by omega⟩
  ·exact .inl (by omega)
 ·have h1:=(hy3.mv (hy4.1.trans hy5.toMv)).pg
  have h2:=(hy3.mv (hy4.1.trans hy5.toMv)).le
  have h3:=hy5.ok.a1
  simp only [hbad,cond_false];rcases h1 with h1 | h1
  ·rw [h1,cond_true];omega
  ·cases y5.1.2.2.1<;>simp only [cond_true,cond_false]<;>omega
theorem KX {Q:Int×RD×Unit→Prop} {b:Bool} {x x' y y':Option (Int×RD×Unit)} (h1:b=true→wq x x' Q) (h2:b=false→wq y y' Q) (hQ:∀ z:Int×RD×Unit,Q z→Q (z.1,z.2.1,())):wq (joinP (bif b then x else y) fun z=>some (z.1,z.2.1,())) (joinP (bif b then x' else y') fun z=>some (z.1,z.2.1,())) Q:=
 Bg (AM (BV h1 h2) fun z hz=>AZ (hQ z hz))
theorem Ud {r0 r0' r1 r1' r2 r2':FV} {r3 r3':FA} (r:RD) (h:ROk L r) (H0:∀ q,ROk L q→r.2.1<q.2.1→wq (r0 q) (r0' q) fun y=>Pg L q y.2.1) (H2:∀ q,ROk L q→r.2.1<q.2.1→wq (r2 q) (r2' q) fun y=>Pg L q y.2.1)
 (H3:∀ q nm,ROk L q→r.2.1<q.2.1→wq (r3 q nm) (r3' q nm) fun y=>Mv L q y.2.1):wq (CS r0 r1 r2 r3 r) (CS r0' r1' r2' r3' r) fun y=>Pg L r y.2.1:=by
 unfold CS;refine Bg (AM (Q:=fun x:Bool×RD×Unit=>x.2.1=r∧(x.1=false→r.2.1<L.length)) (BV (fun _=>AZ ⟨rfl,fun h=>by cases h⟩) fun _=>BV (fun _=>AZ ⟨rfl,fun h=>by cases h⟩) fun hb=>AZ ⟨rfl,fun _=>?_⟩) fun x hx=>?_)
 ·have:¬ (List.length r.1:Int)≤r.2.1:=by simpa using hb
  rw [h.l] at this;omega
 obtain⟨x0,x1,_⟩:=x;simp only at hx;obtain⟨e,hlt⟩:=hx;subst e;simp only;refine BV (fun _=>AZ (Mv.rfl' h).bad) fun hb=>?_
 have hlt:=hlt hb
 have hi:(Cnd.idx x1.2.1 (List.length x1.1)).holds:=⟨h.a0,by rw [h.l];exact hlt⟩
 have fin:∀ z:Int×RD×Unit,Pg L x1 z.2.1→Pg L x1 ((z.1,z.2.1,()):Int×RD×Unit).2.1:=fun z hz=>hz
 refine Bk hi (Bg (AM (Q:=fun z:Int×RD×Unit=>Pg L x1 z.2.1) (BV (fun _=>?_) fun _=>?_) fun z hz=>AZ (hz.deep _)))
 ·rw [Zb hL h,show x1.2.1+1 - 1=x1.2.1 by omega,Ar (x:=x1.2.1) (by have:=h.a0;omega) (by have:=h.a1;omega)];have hn:=((Mv.rfl' h).next hlt).deep (IntKind.wrap .i64 (x1.2.2.2.1+1))
  exact Bk hi (AO (AM (Al (EG hL _ _ (by simp) hn.ok)) fun y hy=>AZ (hn.mv hy)))
 have m0:=(Mv.rfl' h).deep (IntKind.wrap .i64 (x1.2.2.2.1+1))
 have nx:∀ {a b:RD},Mv L x1 a→a.2.1<b.2.1→x1.2.1<b.2.1:=fun h1 h2=>by have:=h1.le;omega
 refine AO (AM (Al (BB hL _ 3 _ m0.ok)) fun y3 hy3=>KX hL (fun hb=>?_) (fun _=>?_) fin)
 ·have p:=m0.pg (hy3.2 hb).1
  exact AO (AM (Al (HC hL _ p.ok)) fun n hn=>AO (AM (Al (EG hL _ _ (by simp) hn.ok)) fun q hq=>AZ ((p.mv hn.toMv).mv hq)))
 have m1:=m0.trans hy3.1
 refine AO (AM (Al (BB hL _ 3 _ m1.ok)) fun y6 hy6=>KX hL (fun hb=>?_) (fun _=>?_) fin)
 ·have p:=m1.pg (hy6.2 hb).1
  exact AO (AM (Al (eo hL _ p.ok)) fun q hq=>AZ (p.mv hq.toMv))
 have m2:=m1.trans hy6.1
 refine AO (AM (Al (BB hL _ 3 _ m2.ok)) fun y8 hy8=>KX hL (fun hb=>?_) (fun _=>?_) fin)
 ·have p:=m2.pg (hy8.2 hb).1
  exact AO (AM (H0 _ p.ok (nx m2 (hy8.2 hb).2)) fun v hv=>AO (AM (Al (Cc hL _ _ hv.ok)) fun q hq=>AZ ((p.mv hv.toMv).mv hq.toMv)))
 have m3:=m2.trans hy8.1
 refine AO (AM (Al (BB hL _ 1 _ m3.ok)) fun y11 hy11=>KX hL (fun hb=>?_) (fun _=>?_) fin)
 ·have p:=m3.pg (hy11.2 hb).1
  exact AO (AM (Al (HC hL _ p.ok)) fun n hn=>AO (AM (Al (EG hL _ _ (by simp) hn.ok)) fun q hq=>AZ ((p.mv hn.toMv).mv hq)))
 have m4:=m3.trans hy11.1
 refine AO (AM (Al (BB hL _ 1 _ m4.ok)) fun y14 hy14=>KX hL (fun hb=>?_) (fun _=>?_) fin)
 ·have p:=m4.pg (hy14.2 hb).1
  exact AO (AM (Al (EG hL _ _ (by simp) p.ok)) fun q hq=>AZ (p.mv hq))
 have m5:=m4.trans hy14.1
 refine AO (AM (Al (BB hL _ 1 _ m5.ok)) fun y16 hy16=>KX hL (fun hb=>?_) (fun _=>?_) fin)
 ·have p:=m5.pg (hy16.2 hb).1
  exact AO (AM (H2 _ p.ok (nx m5 (hy16.2 hb).2)) fun v hv=>AO (AM (Al (EG hL _ _ (by simp) hv.ok)) fun q hq=>AZ ((p.mv hv.toMv).mv hq)))
 have m6:=m5.trans hy16.1
 refine AO (AM (Al (HC hL _ m6.ok)) fun n hn=>AO (AM (Al (BB hL _ 3 _ hn.ok)) fun y20 hy20=>KX hL (fun hb=>?_) (fun _=>?_) fin))
 ·have p:=(m6.pg hn).mv hy20.1
  exact AO (AM (H3 _ _ p.ok (nx (m6.trans hn.toMv) (hy20.2 hb).2)) fun q hq=>AZ (p.mv hq))
 ·have p:=(m6.pg hn).mv hy20.1
  exact AO (AM (Al (EG hL _ _ (by simp) p.ok)) fun q hq=>AZ (p.mv hq))
theorem fM:∀ k:Nat,(∀ n n',4 * k+2≤n→4 * k+2≤n'→∀ r,ROk L r→L.length - r.2.1≤k→wq ((AB n).2.2.1 r) ((AB n').2.2.1 r) fun y=>Pg L r y.2.1) ∧
 (∀ n n',4 * k+3≤n→4 * k+3≤n'→∀ r,ROk L r→L.length - r.2.1≤k→wq ((AB n).2.1 r) ((AB n').2.1 r) fun y=>Pg L r y.2.1) ∧
 (∀ n n',4 * k+4≤n→4 * k+4≤n'→∀ r,ROk L r→L.length - r.2.1≤k→wq ((AB n).1 r) ((AB n').1 r) fun y=>Pg L r y.2.1) ∧
 (∀ n n',4 * k+5≤n→4 * k+5≤n'→∀ r nm,ROk L r→L.length - r.2.1≤k→wq ((AB n).2.2.2.1 r nm) ((AB n').2.2.2.1 r nm) fun y=>Mv L r y.2.1):=by
 intro k
 induction k with
 | zero=>
  have hT:∀ n n',4 * 0+2≤n→4 * 0+2≤n'→∀ r,ROk L r→L.length - r.2.1≤(0:Nat)→wq ((AB n).2.2.1 r) ((AB n').2.2.1 r) fun y=>Pg L r y.2.1:=by
   intro n n' hn hn' r h hk;obtain⟨n,rfl⟩:∃ j,n=j+1:=⟨n - 1,by omega⟩
   obtain⟨n',rfl⟩:∃ j,n'=j+1:=⟨n' - 1,by omega⟩
   exact Ud hL (r1:=(AB n).2.1) (r1':=(AB n').2.1) r h (fun q hq hlt=>by have:=hq.a1;omega) (fun q hq hlt=>by have:=hq.a1;omega) (fun q nm hq hlt=>by have:=hq.a1;omega)
  have hS:∀ n n',4 * 0+3≤n→4 * 0+3≤n'→∀ r,ROk L r→L.length - r.2.1≤(0:Nat)→wq ((AB n).2.1 r) ((AB n').2.1 r) fun y=>Pg L r y.2.1:=by
   intro n n' hn hn' r h hk;obtain⟨n,rfl⟩:∃ j,n=j+1:=⟨n - 1,by omega⟩
   obtain⟨n',rfl⟩:∃ j,n'=j+1:=⟨n' - 1,by omega⟩
   exact WV hL (r0:=(AB n).1) (r0':=(AB n').1) (r1:=(AB n).2.1) (r1':=(AB n').2.1) (r3:=(AB n).2.2.2.1) (r3':=(AB n').2.2.2.1) r h (fun q hq hle=>hT n n' (by omega) (by omega) q hq (by omega))
  have hV:∀ n n',4 * 0+4≤n→4 * 0+4≤n'→∀ r,ROk L r→L.length - r.2.1≤(0:Nat)→wq ((AB n).1 r) ((AB n').1 r) fun y=>Pg L r y.2.1:=by
   intro n n' hn hn' r h hk;obtain⟨n,rfl⟩:∃ j,n=j+1:=⟨n - 1,by omega⟩
   obtain⟨n',rfl⟩:∃ j,n'=j+1:=⟨n' - 1,by omega⟩
   exact Su hL (r0:=(AB n).1) (r0':=(AB n').1) (r2:=(AB n).2.2.1) (r2':=(AB n').2.2.1) (r3:=(AB n).2.2.2.1) (r3':=(AB n').2.2.2.1) r h (fun q hq hle=>hS n n' (by omega) (by omega) q hq (by omega))
  refine⟨hT,hS,hV,fun n n' hn hn' r nm h hk=>?_⟩
  obtain⟨n,rfl⟩:∃ j,n=j+1:=⟨n - 1,by omega⟩
  obtain⟨n',rfl⟩:∃ j,n'=j+1:=⟨n' - 1,by omega⟩
  exact UC hL (r1:=(AB n).2.1) (r1':=(AB n').2.1) (r2:=(AB n).2.2.1) (r2':=(AB n').2.2.1) (r3:=(AB n).2.2.2.1) (r3':=(AB n').2.2.2.1) r nm h (fun q hq hle=>hV n n' (by omega) (by omega) q hq (by omega))
 | succ k ih=>
  obtain⟨iT,iS,iV,iA⟩:=ih;have hT:∀ n n',4 * (k+1)+2≤n→4 * (k+1)+2≤n'→∀ r,ROk L r→L.length - r.2.1≤(k+1:Nat)→wq ((AB n).2.2.1 r) ((AB n').2.2.1 r) fun y=>Pg L r y.2.1:=by
   intro n n' hn hn' r h hk;obtain⟨n,rfl⟩:∃ j,n=j+1:=⟨n - 1,by omega⟩
   obtain⟨n',rfl⟩:∃ j,n'=j+1:=⟨n' - 1,by omega⟩
   exact Ud hL (r1:=(AB n).2.1) (r1':=(AB n').2.1) r h (fun q hq hlt=>iV n n' (by omega) (by omega) q hq (by omega)) (fun q hq hlt=>iT n n' (by omega) (by omega) q hq (by omega)) (fun q nm hq hlt=>iA n n' (by omega) (by omega) q nm hq (by omega))
  have hS:∀ n n',4 * (k+1)+3≤n→4 * (k+1)+3≤n'→∀ r,ROk L r→L.length - r.2.1≤(k+1:Nat)→wq ((AB n).2.1 r) ((AB n').2.1 r) fun y=>Pg L r y.2.1:=by
   intro n n' hn hn' r h hk;obtain⟨n,rfl⟩:∃ j,n=j+1:=⟨n - 1,by omega⟩
   obtain⟨n',rfl⟩:∃ j,n'=j+1:=⟨n' - 1,by omega⟩
   exact WV hL (r0:=(AB n).1) (r0':=(AB n').1) (r1:=(AB n).2.1) (r1':=(AB n').2.1) (r3:=(AB n).2.2.2.1) (r3':=(AB n').2.2.2.1) r h (fun q hq hle=>hT n n' (by omega) (by omega) q hq (by omega))
  have hV:∀ n n',4 * (k+1)+4≤n→4 * (k+1)+4≤n'→∀ r,ROk L r→L.length - r.2.1≤(k+1:Nat)→wq ((AB n).1 r) ((AB n').1 r) fun y=>Pg L r y.2.1:=by
   intro n n' hn hn' r h hk;obtain⟨n,rfl⟩:∃ j,n=j+1:=⟨n - 1,by omega⟩
   obtain⟨n',rfl⟩:∃ j,n'=j+1:=⟨n' - 1,by omega⟩
   exact Su hL (r0:=(AB n).1) (r0':=(AB n').1) (r2:=(AB n).2.2.1) (r2':=(AB n').2.2.1) (r3:=(AB n).2.2.2.1) (r3':=(AB n').2.2.2.1) r h (fun q hq hle=>hS n n' (by omega) (by omega) q hq (by omega))
  refine⟨hT,hS,hV,fun n n' hn hn' r nm h hk=>?_⟩
  obtain⟨n,rfl⟩:∃ j,n=j+1:=⟨n - 1,by omega⟩
  obtain⟨n',rfl⟩:∃ j,n'=j+1:=⟨n' - 1,by omega⟩
  exact UC hL (r1:=(AB n).2.1) (r1':=(AB n').2.1) (r2:=(AB n).2.2.1) (r2':=(AB n').2.2.1) (r3:=(AB n).2.2.2.1) (r3':=(AB n').2.2.2.1) r nm h (fun q hq hle=>hV n n' (by omega) (by omega) q hq (by omega))
theorem Nd (r:RD) (h:ROk L r):wp (Bj r) fun y=>Pg L r y.2.1:=by
 unfold Bj;exact Wk (4 * 3000+4) fun n hn=>(fM hL 3000).2.2.1 n _ hn (Nat.le_refl _) r h (by have:=h.a0;omega)
end
def dd (u:Nat):ByteArray:=if u=0 then ⟨#[]⟩ else ⟨(Lib.decDigits u).toArray⟩
theorem UF (a b:List UInt8):(⟨a.toArray⟩:ByteArray)++⟨b.toArray⟩=⟨(a++b).toArray⟩:=by
 apply ByteArray.ext
 simp
theorem Zk {d:Nat} (h:d<10):bts [((48+d:Nat):Int)]=⟨[UInt8.ofNat (48+d)].toArray⟩:=rfl
theorem eV {u:Nat} (h:u≠0):dd u=dd (u / 10)++bts [((48+u % 10:Nat):Int)]:=by
 rw [Zk (Nat.mod_lt _ (by omega))];unfold dd;rw [if_neg h,Lib.decDigits];split
 ·rename_i h10;rw [if_pos (by omega),Nat.mod_eq_of_lt h10];apply ByteArray.ext;simp
 ·rename_i h10;rw [if_neg (by omega),UF]
theorem fN {n:Nat} (h:n<256):IntKind.wrap .u8 (n:Int)=n:=by
 have e:(2:Int) ^ IntKind.u8.bits=256:=by decide
 simp only [IntKind.wrap,e,show IntKind.u8.signed=false from rfl,Bool.false_and,Bool.false_eq_true,if_false];omega
theorem Pw {d:Nat} (h:d<10):II (d:Int)=some (((48+d:Nat):Int),()):=by
 have e:(48:Int)+(d:Int)=((48+d:Nat):Int):=by omega
 simp only [II,show((d:Int)<10) by omega,decide_true,cond_true,e,Xo (show 48+d<9223372036854775808 by omega),fN (show 48+d<256 by omega)]
theorem XO (x:Int):(bts [x]).size=1:=rfl
theorem jl {α:Type} {K:Option α}:(Cnd.nz (10:Int)).run K=K:=by
 simp only [Cnd.run];rw [if_neg (by decide)]
theorem ch (neg:Bool):∀ (k:Nat) (n:Int) (out:ByteArray),n.natAbs<10 ^ k→-9223372036854775808≤n→n≤9223372036854775807→out.size+k≤1000→AD Dj (n,neg,out,())=some (neg,dd n.natAbs++out,()):=by
 intro k
 induction k with
 | zero=>
  intro n out hn _ _ _;have h0:n=0:=by simp at hn;omega
  subst h0;rw [Ay (r:=(neg,out,()))]
  ·have:dd (Int.natAbs 0)++out=out:=by
    apply ByteArray.ext;simp [dd]
   rw [this]
  ·simp [Dj]
 | succ k ih=>
  intro n out hn h1 h2 hs
  by_cases h0:n=0
  ·subst h0;rw [Ay (r:=(neg,out,()))]
   ·have:dd (Int.natAbs 0)++out=out:=by
     apply ByteArray.ext;simp [dd]
    rw [this]
   ·simp [Dj]
  ·have hm:n.natAbs % 10<10:=Nat.mod_lt _ (by omega)
   have hq:(Int.tdiv n 10).natAbs=n.natAbs / 10:=by rw [Int.natAbs_tdiv];rfl
   have hqb:-9223372036854775808≤Int.tdiv n 10∧Int.tdiv n 10≤9223372036854775807:=by
    have:(Int.tdiv n 10).natAbs≤922337203685477580:=by rw [hq];omega
    omega
   have hw:IntKind.wrap .i64 (Int.tdiv n 10)=Int.tdiv n 10:=Ar hqb.1 (by omega)
   rw [BF (b':=(Int.tdiv n 10,neg,bts [((48+n.natAbs % 10:Nat):Int)]++out,())),ih _ _ (by rw [hq];rw [Nat.pow_succ] at hn;omega) hqb.1 hqb.2 (by rw [ByteArray.size_append,XO];omega),hq,eV (u:=n.natAbs) (by omega),ByteArray.append_assoc];have hmod:(if Int.tmod n 10<0 then - Int.tmod n 10 else Int.tmod n 10)=((n.natAbs % 10:Nat):Int):=by
    have h3:(Int.tmod n 10).natAbs=n.natAbs % 10:=by rw [Int.natAbs_tmod];rfl
    split<;>omega
   have hle:∀ {α:Type} {K:Option α},(Cnd.le ((bts [((48+n.natAbs % 10:Nat):Int)]).size+out.size) AY).run K=K:=fun {α} {K}=>Am (by rw [XO];simp only [AY];omega)
   by_cases hneg:Int.tmod n 10<0
   ·rw [if_pos hneg] at hmod;have hw2:IntKind.wrap .i64 (0 - Int.tmod n 10)=((n.natAbs % 10:Nat):Int):=by
     rw [show(0:Int) - Int.tmod n 10=((n.natAbs % 10:Nat):Int) by omega];exact Xo (by omega)
    simp only [Dj,ne_eq,h0,not_false_eq_true,decide_true,cond_true,jl,hneg,hw2,AA,Pw hm,Option.bind_some,hle,hw,Option.map_some]
   ·rw [if_neg hneg] at hmod;simp only [Dj,ne_eq,h0,not_false_eq_true,decide_true,cond_true,jl,hmod,show ¬ (((n.natAbs % 10:Nat):Int)<0) by omega,decide_false,cond_false,AA,Pw hm,Option.bind_some,hle,hw,Option.map_some]
def itb (n:Int):ByteArray:=⟨(Lib.itoa n).toArray⟩
theorem KW {n:Int} (h0:-9223372036854775808≤n) (h1:n≤9223372036854775807):(itb n).size≤21:=by
 have:=Lib.itoa_length_le n h0 h1
 simpa [itb,ByteArray.size] using this
theorem HU (n:Int) (h0:-9223372036854775808≤n) (h1:n≤9223372036854775807):GK n=some (itb n,()):=by
 simp only [GK,itb]
 by_cases hz:n=0
 ·subst hz;simp only [decide_true,cond_true];have:Lib.itoa 0=[48]:=by
   unfold Lib.itoa;rw [if_neg (by omega)];exact Lib.decDigits_one (by omega)
  rw [this];rfl
 ·have h3:=ch (decide (n<0)) 20 n ⟨#[]⟩ (by
   have:(10:Nat) ^ 20=100000000000000000000:=by decide
   omega) h0 h1 (by decide)
  have h4:dd n.natAbs++⟨#[]⟩=(⟨(Lib.decDigits n.natAbs).toArray⟩:ByteArray):=by
   unfold dd;rw [if_neg (by omega)];apply ByteArray.ext;simp
  rw [h4] at h3;have hsz:(⟨(Lib.decDigits n.natAbs).toArray⟩:ByteArray).size≤21:=by
   have:=Lib.itoa_length_le n h0 h1
   unfold Lib.itoa at this;simp only [ByteArray.size,List.size_toArray];split at this
   ·simp at this;omega
   ·rename_i hn;rw [show n.natAbs=n.toNat by omega];omega
  simp only [hz,decide_false,cond_false,Option.bind_some,h3,AA,Lib.itoa]
  by_cases hn:n<0
  ·have e1:s___3973.size=1:=rfl
   simp only [hn,decide_true,cond_true,if_true];rw [Am (by simp only [AY];omega)];have e2:s___3973=⟨[(45:UInt8)].toArray⟩:=rfl
   rw [e2,UF];rfl
  ·simp only [hn,decide_false,cond_false,if_false];rw [show n.natAbs=n.toNat by omega]
abbrev Made:=List ByteArray×(List ByteArray×(Int×(ByteArray×Bool)))
structure MOk (k:Nat) (m:Made):Prop where
 i:∀ s∈m.1,s.size≤30
 b:∀ s∈m.2.1,s.size≤30
 il:m.1.length≤k
 bl:m.2.1.length≤k
 n0:0≤m.2.2.1
 n1:m.2.2.1≤k
 t:m.2.2.2.1.size≤1000 * k
theorem MOk.mono {k k':Nat} {m:Made} (h:MOk k m) (hk:k≤k'):MOk k' m:=⟨h.i,h.b,by have:=h.il;omega,by have:=h.bl;omega,h.n0,by have:=h.n1;omega,by have:=h.t;omega⟩
theorem cle {a b:Nat} (h:a+b≤1000000000000):(Cnd.le (a+b) AY).holds:=by simp only [Cnd.holds,AY];omega
theorem aW:s_0_5fec.size=1:=by decide
theorem ZR:s_10_4a44.size=2:=by decide
theorem aX:s_1_6b86.size=1:=by decide
theorem aY:s_2_d473.size=1:=by decide
theorem aZ:s_3_4e07.size=1:=by decide
theorem Qy:s_500000000_ee3f.size=9:=by decide
theorem aa:s_7_7902.size=1:=by decide
theorem dc:s___32eb.size=1:=by decide
theorem de:s___36a9.size=1:=by decide
theorem df:s___3973.size=1:=by decide
theorem SE:s___6848.size=1:=by decide
theorem Pl:s____0__while__874d.size=12:=by decide
theorem ab:s____0a07.size=2:=by decide
theorem ac:s____0a2d.size=2:=by decide
theorem Up:s____1___e636.size=6:=by decide
theorem ae:s____73db.size=2:=by decide
theorem ZS:s_____0a45.size=3:=by decide
theorem ZT:s_____2591.size=3:=by decide
theorem ZU:s_____4620.size=3:=by decide
theorem ZV:s_____7bac.size=3:=by decide
theorem XD:s______17ce.size=4:=by decide
theorem XE:s______737d.size=4:=by decide
theorem ZW:s_____fe90.size=3:=by decide
theorem Sp:s_____mut__b552.size=8:=by decide
theorem SF:s____clone__9670.size=9:=by decide
theorem af:s____e220.size=2:=by decide
theorem Tz:s____new__f832.size=7:=by decide
theorem dg:s___ba5e.size=1:=by decide
theorem SG:s___print___4de9.size=9:=by decide
theorem ag:s_b_3e23.size=1:=by decide
theorem OZ:s_do_bump__mut__fbff.size=13:=by decide
theorem Sq:s_do_eat__d60f.size=7:=by decide
theorem Qz:s_do_show___6204.size=9:=by decide
theorem Uq:s_else__8873.size=5:=by decide
theorem ah:s_i_de7d.size=1:=by decide
theorem XF:s_if__9889.size=3:=by decide
theorem Ur:s_input_c96c.size=5:=by decide
theorem WW:s_let__de0c.size=4:=by decide
theorem ai:s_m_62c6.size=1:=by decide
theorem Ut:s_make__0b50.size=5:=by decide
theorem WX:s_new__e703.size=4:=by decide
theorem UA:s_print__5b23.size=6:=by decide
theorem aj:s_r_4543.size=1:=by decide
theorem WY:s_sum__4072.size=4:=by decide
theorem ak:s_w_50e7.size=1:=by decide
theorem szs:s_0_5fec.size=1∧s_10_4a44.size=2∧s_1_6b86.size=1∧s_2_d473.size=1∧s_3_4e07.size=1∧s_500000000_ee3f.size=9∧s_7_7902.size=1∧s___32eb.size=1∧s___36a9.size=1∧s___3973.size=1∧s___6848.size=1∧s____0__while__874d.size=12∧s____0a07.size=2∧s____0a2d.size=2∧s____1___e636.size=6∧s____73db.size=2∧s_____0a45.size=3∧s_____2591.size=3∧s_____4620.size=3∧s_____7bac.size=3∧s______17ce.size=4∧s______737d.size=4∧s_____fe90.size=3∧s_____mut__b552.size=8∧s____clone__9670.size=9∧s____e220.size=2∧s____new__f832.size=7∧s___ba5e.size=1∧s___print___4de9.size=9∧s_b_3e23.size=1∧s_do_bump__mut__fbff.size=13∧s_do_eat__d60f.size=7∧s_do_show___6204.size=9∧s_else__8873.size=5∧s_i_de7d.size=1∧s_if__9889.size=3∧s_input_c96c.size=5∧s_let__de0c.size=4∧s_m_62c6.size=1∧s_make__0b50.size=5∧s_new__e703.size=4∧s_print__5b23.size=6∧s_r_4543.size=1∧s_sum__4072.size=4∧s_w_50e7.size=1:=⟨aW,ZR,aX,aY,aZ,Qy,aa,dc,de,df,SE,Pl,ab,ac,Up,ae,ZS,ZT,ZU,ZV,XD,XE,ZW,Sp,SF,af,Tz,dg,SG,ag,OZ,Sq,Qz,Uq,ah,XF,Ur,WW,ai,Ut,WX,UA,aj,WY,ak⟩
theorem PG (m:Made) (l:List ByteArray) (c:Cur) (hl:l≠[]) (h:COk c):wp (CJ m l c) fun r=>r.1∈l∧COk r.2.1:=by
 unfold CJ;have hp:0<(l.length:Int):=by have:=List.length_pos_iff.2 hl;omega
 exact AH (AE (CG c _ h) fun y hy=>AQ ⟨hy.1,hy.2.1 hp⟩ (AC ⟨OX _ _ _ hy.1 (hy.2.1 hp),hy.2.2.2⟩))
theorem UW (m:Made) (c:Cur) (h:COk c):wp (DH m c) fun r=>r.1.size≤30∧COk r.2.1:=by
 unfold DH;refine AH (AE (Qk c _ (by simp) h) fun y hy=>AC ⟨?_,hy.2⟩)
 have h1:=hy.1
 simp only [List.mem_cons,List.not_mem_nil,or_false] at h1;rcases h1 with e | e | e | e | e | e | e<;>rw [e]<;>decide
theorem QL {D:Type} {l:List D} (h:(0:Int)<(l.length:Int)):l≠[]:=by
 intro e;rw [e] at h;simp at h
theorem CI {k:Nat} (m:Made) (c:Cur) (hm:MOk k m) (h:COk c):wp (Ak m c) fun r=>r.1.size≤40∧COk r.2.1:=by
 unfold Ak;refine AH (AE (CG c 5 h) fun y hy=>Ap (AE (Q:=fun x:Made×Int×Bool×Cur×Unit=>x.1=m∧COk x.2.2.2.1∧(x.2.2.1=true→m.1≠[])) (Ad (fun _=>AC ⟨rfl,hy.2.2.2,fun hb=>QL (by simpa using hb)⟩) (fun _=>AC ⟨rfl,hy.2.2.2,fun hb=>by cases hb⟩)) fun x hx=>?_))
 obtain⟨x1,x2,x3,x4,_⟩:=x;obtain⟨rfl,hc,hi⟩:=hx;refine Ad (fun hb=>AH (AE (PG _ _ _ (hi hb) hc) fun y hy=>AC ⟨by have:=hm.i _ hy.1;simp only;omega,hy.2⟩)) (fun _=>Ap (AE (Q:=fun x:Made×Bool×Cur×Unit=>x.1=x1∧COk x.2.2.1∧(x.2.1=true→x1.2.1≠[])) (Ad (fun _=>AC ⟨rfl,hc,fun hb=>QL (by simpa using hb)⟩) (fun _=>AC ⟨rfl,hc,fun hb=>by cases hb⟩)) fun x hx=>?_))
 obtain⟨z1,z2,z3,_⟩:=x;obtain⟨rfl,hc,hi⟩:=hx;refine Ad (fun hb=>AH (AE (PG _ _ _ (hi hb) hc) fun y hy=>?_)) (fun _=>AH (AE (UW _ _ hc) fun y hy=>AC ⟨by simp only;omega,hy.2⟩))
 have h1:=hm.b _ hy.1
 exact AQ (cle (by simp only [SE];omega)) (AC ⟨by simp only [AN,SE];omega,hy.2⟩)
theorem PV {k:Nat} (m:Made) (c:Cur) (hm:MOk k m) (h:COk c):wp (CA m c) fun r=>r.1.size≤150∧COk r.2.1:=by
 unfold CA;refine AH (AE (CG c 7 h) fun y hy=>?_)
 have h:=hy.2.2.2
 refine Ad (fun _=>?_) fun _=>Ad (fun _=>?_) fun _=>Ad (fun _=>?_) fun _=>Ad (fun _=>?_) fun _=>?_
 ·refine AH (AE (CI m _ hm h) fun a ha=>AQ (cle (by first | omega | (simp only [AN,szs];omega))) (AH (AE (CI m _ hm ha.2) fun b hb=>AQ (cle (by first | omega | (simp only [AN,szs];omega))) (AC ⟨by simp only [AN,szs];omega,hb.2⟩))))
 ·refine AH (AE (CI m _ hm h) fun a ha=>AQ (cle (by first | omega | (simp only [AN,szs];omega))) (AH (AE (CI m _ hm ha.2) fun b hb=>AQ (cle (by first | omega | (simp only [AN,szs];omega))) (AC ⟨by simp only [AN,szs];omega,hb.2⟩))))
 ·refine AH (AE (CI m _ hm h) fun a ha=>AQ (cle (by first | omega | (simp only [AN,szs];omega))) (AQ (cle (by first | omega | (simp only [AN,szs];omega))) (AH (AE (CI m _ hm ha.2) fun b hb=>AQ (cle (by first | omega | (simp only [AN,szs];omega))) (AQ (cle (by first | omega | (simp only [AN,szs];omega))) (AH (AE (CI m _ hm hb.2) fun d hd=>AQ (cle (by first | omega | (simp only [AN,szs];omega))) (AC ⟨by simp only [AN,szs];omega,hd.2⟩))))))))
 ·refine AH (AE (CI m _ hm h) fun a ha=>AQ (cle (by first | omega | (simp only [AN,szs];omega))) (AQ (cle (by first | omega | (simp only [AN,szs];omega))) (AH (AE (CI m _ hm ha.2) fun b hb=>AQ (cle (by first | omega | (simp only [AN,szs];omega))) (AQ (cle (by first | omega | (simp only [AN,szs];omega))) (AC ⟨by simp only [AN,szs];omega,hb.2⟩))))))
 ·refine Mm (AE (Q:=fun s:(Made×Cur×Unit) ⊕ (ByteArray×Cur×Unit)=>(∀ b,s=.inl b→b.1=m∧COk b.2.1)∧∀ r,s=.inr r→r.1.size≤150∧COk r.2.1) (Ad (fun _=>?_) fun _=>Aq (AC (CV ⟨rfl,h⟩))) fun s hs=>⟨fun b hb=>?_,hs.2⟩)
  ·exact AH (AE (Lu _ 3 h) fun y hy=>Ad (fun _=>Aq (AC (Bp ⟨by simp only [AN,szs];omega,hy⟩))) fun _=>Aq (AC (CV ⟨rfl,hy⟩)))
  ·obtain⟨e,hc⟩:=hs.1 b hb;rw [e];exact AH (AE (CI m _ hm hc) fun y hy=>AC ⟨by simp only;omega,hy.2⟩)
theorem JH {k:Nat} (m:Made) (s:ByteArray) (c:Cur) (hk:k≤1000000) (hs:s.size≤5) (hm:MOk k m) (h:COk c):wp (BP m s c) fun r=>r.1.size≤30∧r.2.1=(m.1,(m.2.1,(m.2.2.1+1,m.2.2.2)))∧COk r.2.2.1:=by
 unfold BP;have h0:=hm.n0
 have h1:=hm.n1
 rw [Ar (x:=m.2.2.1+1) (by omega) (by omega),HU _ (by omega) (by omega)];have:=KW (n:=m.2.2.1+1) (by omega) (by omega)
 exact AH (AC (AQ (cle (by simp only;omega)) (AC ⟨by simp only [AN];omega,rfl,h⟩)))
theorem Tg {k:Nat} (m:Made) (s:ByteArray) (c:Cur) (hk:k≤2000000) (hm:MOk k m) (h:COk c):wp (DA m s c) fun r=>(∃ bs,r.1=(m.1,(bs,m.2.2))∧(∀ s∈bs,s.size≤30)∧bs.length≤m.2.1.length)∧COk r.2.1:=by
 unfold DA;have hbl:=hm.bl
 refine Ap (AH (AC ?_))
 refine AE (wp_loop (fun x:Fy=>(∀ s∈x.2.2.1,s.size≤30)∧x.2.2.1.length≤x.2.2.2.1.toNat∧0≤x.2.2.2.1∧x.2.2.2.1≤m.2.1.length∧x.2.2.2.2.1=m∧COk x.2.2.2.2.2.1) (fun x=>m.2.1.length - x.2.2.2.1.toNat)
  (Q:=fun r:Int×List ByteArray×Made×Cur×Unit=>(∀ s∈r.2.1,s.size≤30)∧r.2.1.length≤m.2.1.length∧r.2.2.1=m∧COk r.2.2.2.1) (fun x hx=>?_) ⟨by simp,by simp,by simp,by simp,rfl,h⟩) (fun r hr=>AC ⟨⟨r.2.1,by rw [hr.2.2.1],hr.1,hr.2.1⟩,hr.2.2.2⟩)
 obtain⟨x0,x1,x2,x3,x4,x5,_⟩:=x;simp only at hx;obtain⟨g1,g2,g3,g4,g5,g6⟩:=hx;subst g5;unfold JQ;refine Ad (fun hb=>?_) (fun hb=>Aq (AC (Bp ⟨g1,by simp only;omega,rfl,g6⟩)))
 have hlt:x3<(x4.2.1.length:Int):=by simpa using hb
 have e:IntKind.wrap .i64 (x3+1)=x3+1:=Ar (by omega) (by omega)
 refine Ap (AE (Q:=fun z:Int×ByteArray×List ByteArray×Int×Bool×Made×Cur×Unit=>z.2.2.1=x2∧z.2.2.2.1=x3∧z.2.2.2.2.2.1=x4∧COk z.2.2.2.2.2.2.1) (AQ ⟨g3,hlt⟩ (Ad (fun _=>AC ⟨rfl,rfl,rfl,g6⟩) fun _=>AC ⟨rfl,rfl,rfl,g6⟩)) fun z hz=>?_)
 obtain⟨z0,z1,z2,z3,z4,z5,z6,_⟩:=z;simp only at hz;obtain⟨q1,q2,q3,g7⟩:=hz;subst q1 q2 q3;refine Ap (AE (Q:=fun u:Int×ByteArray×List ByteArray×Int×Made×Cur×Unit=>(∀ s∈u.2.2.1,s.size≤30)∧u.2.2.1.length≤z3.toNat+1∧u.2.2.2.1=z3∧u.2.2.2.2.1=z5∧COk u.2.2.2.2.2.1) (Ad (fun _=>AQ ⟨g3,hlt⟩ (AQ ?_ (AC ⟨fun s hs=>?_,by simp;omega,rfl,rfl,g7⟩))) fun _=>AC ⟨g1,by simp only;omega,rfl,rfl,g7⟩) fun u hu=>?_)
 ·simp only [Cnd.holds,List.length_singleton];omega
 ·rcases List.mem_append.1 hs with hs | hs
  ·exact g1 s hs
  ·rw [List.mem_singleton.1 hs];exact hm.b _ (OX _ _ _ g3 hlt)
 ·obtain⟨u0,u1,u2,u3,u4,u5,_⟩:=u;simp only at hu;obtain⟨k1,k2,k3,k4,k5⟩:=hu;subst k3 k4;simp only;rw [e];exact Aq (AC (CV ⟨⟨k1,by simp only;omega,by simp only;omega,by simp only;omega,rfl,k5⟩,by simp only;omega⟩))
def RM (k:Nat) (r:Made×Cur×Unit):Prop:=MOk k r.1∧COk r.2.1
theorem HA {k:Nat} {b:Bool} {x y:Option (Made×Cur×Unit)} (h1:b=true→wp x (RM k)) (h2:b=false→wp y (RM k)):wp (joinP (bif b then x else y) fun z=>some (z.1,z.2.1,())) (RM k):=
 Ap (AE (Ad h1 h2) fun z hz=>AC hz)
theorem MOk.mk' {k:Nat} {i bs:List ByteArray} {n:Int} {t:ByteArray} {w:Bool} (h1:∀ s∈i,s.size≤30) (h2:∀ s∈bs,s.size≤30) (h3:i.length≤k) (h4:bs.length≤k) (h5:0≤n) (h6:n≤k) (h7:t.size≤1000 * k):MOk k (i,(bs,(n,(t,w)))):=⟨h1,h2,h3,h4,h5,h6,h7⟩
theorem MOk.txt {k:Nat} {m:Made} (hm:MOk k m) {n:Int} {t:ByteArray} {w:Bool} (h5:0≤n) (h6:n≤(k:Int)+1) (h7:t.size≤1000 * k+1000):MOk (k+1) (m.1,(m.2.1,(n,(t,w)))):=.mk' hm.i hm.b (by have:=hm.il;omega) (by have:=hm.bl;omega) h5 (by omega) (by omega)
theorem MOk.fr {k:Nat} {m:Made} (hm:MOk k m) (h5:0≤m.2.2.1):MOk (k+1) (m.1,(m.2.1,(m.2.2.1+1,m.2.2.2))):=⟨hm.i,hm.b,by have:=hm.il;simp only;omega,by have:=hm.bl;simp only;omega,by simp only;omega,by have:=hm.n1;simp only;omega,by have:=hm.t;simp only;omega⟩
theorem PF {l:List ByteArray} {x:ByteArray} (h:∀ s∈l,s.size≤30) (hx:x.size≤30):∀ s∈([]:List ByteArray)++l++[x],s.size≤30:=fun s hs=>by
 simp only [List.nil_append] at hs;rcases List.mem_append.1 hs with hs | hs
 ·exact h s hs
 ·rw [List.mem_singleton.1 hs];exact hx
theorem dJ {k:Nat} (m:Made) (g:Bool) (c:Cur) (hk:k≤1000000) (hm:MOk k m) (hb:m.2.1≠[]) (h:COk c):wp (FW m g c) (RM (k+1)):=by
 unfold FW;have ht:=hm.t
 have hn0:=hm.n0
 have hn1:=hm.n1
 have hbl:=hm.bl
 refine AH (AE (PG m m.2.1 c hb h) fun b hb=>AH (AE (CG _ 9 hb.2) fun y hy=>?_))
 have hbs:=hm.b _ hb.1
 have h:=hy.2.2.2
 refine HA (fun _=>?_) fun _=>HA (fun _=>?_) fun _=>HA (fun _=>?_) fun _=>HA (fun _=>?_) fun _=>HA (fun _=>?_) fun _=>HA (fun _=>?_) fun _=>HA (fun _=>?_) fun _=>HA (fun _=>?_) fun _=>?_
 ·refine AH (AE (JH _ s_r_4543 _ hk (by simp only [AN,szs];omega) hm h) fun f hf=>?_)
  obtain⟨fn,fm,fc,_⟩:=f;simp only at hf;obtain⟨f1,f2,f3⟩:=hf;subst f2;simp only
  repeat refine AQ (cle (by first | omega | (simp only [AN,szs];omega))) ?_
  exact AC ⟨(hm.txt (by omega) (by omega) (by simp only [AN,szs];omega)),f3⟩
 ·refine AH (AE (JH _ s_m_62c6 _ hk (by simp only [AN,szs];omega) hm h) fun f hf=>?_)
  obtain⟨fn,fm,fc,_⟩:=f;simp only at hf;obtain⟨f1,f2,f3⟩:=hf;subst f2;simp only
  repeat refine AQ (cle (by first | omega | (simp only [AN,szs];omega))) ?_
  refine AH (AE (CI _ _ (hm.fr hn0) f3) fun a ha=>?_)
  repeat refine AQ (cle (by first | omega | (simp only [AN,szs];omega))) ?_
  exact AC ⟨(hm.txt (by omega) (by omega) (by simp only [AN,szs];omega)),ha.2⟩
 ·repeat refine AQ (cle (by first | omega | (simp only [AN,szs];omega))) ?_
  exact AC ⟨(hm.txt (by omega) (by omega) (by simp only [AN,szs];omega)),h⟩
 ·repeat refine AQ (cle (by first | omega | (simp only [AN,szs];omega))) ?_
  refine AH (AE (UW _ _ h) fun a ha=>?_)
  repeat refine AQ (cle (by first | omega | (simp only [AN,szs];omega))) ?_
  exact AC ⟨(hm.txt (by omega) (by omega) (by simp only [AN,szs];omega)),ha.2⟩
 ·refine AH (AE (JH _ s_b_3e23 _ hk (by simp only [AN,szs];omega) hm h) fun f hf=>?_)
  obtain⟨fn,fm,fc,_⟩:=f;simp only at hf;obtain⟨f1,f2,f3⟩:=hf;subst f2;simp only
  repeat refine AQ (cle (by first | omega | (simp only [AN,szs];omega))) ?_
  refine AH (AE (Lu _ 3 f3) fun o ho=>Ap (AE (Q:=fun x:Int×ByteArray×Made×Cur×Unit=>MOk (k+1) x.2.2.1∧x.2.2.1.2.1.length≤k∧x.2.1=fn∧COk x.2.2.2.1) (Ad (fun _=>?_) fun _=>AC ⟨(hm.txt (by omega) (by omega) (by simp only [AN,szs];omega)),by simp only;omega,rfl,ho⟩) fun x hx=>?_))
  ·refine AH (AE (Tg (k:=k+1) _ _ _ (by omega) (hm.txt (by omega) (by omega) (by simp only [AN,szs];omega)) ho) fun z hz=>?_)
   obtain⟨⟨bs,z1,z2,z3⟩,z4⟩:=hz;simp only at z1 z3;rw [z1];exact AC ⟨.mk' hm.i z2 (by have:=hm.il;omega) (by omega) (by omega) (by omega) (by simp only [AN,szs];omega),by simp only;omega,rfl,z4⟩
  ·obtain⟨x1,x2,x3,x4⟩:=hx;have e3:x.2.1.size≤30:=by rw [x3];exact f1
   refine AQ (by simp only [Cnd.holds,List.length_nil];omega) (AQ (by simp only [Cnd.holds,List.length_append,List.length_nil,List.length_singleton];omega) (AC ⟨.mk' x1.i (PF x1.b e3) x1.il (by simp only [List.length_append,List.length_nil,List.length_singleton];omega) x1.n0 x1.n1 x1.t,x4⟩))
 ·repeat refine AQ (cle (by first | omega | (simp only [AN,szs];omega))) ?_
  refine AH (AE (PV m _ hm h) fun a ha=>?_)
  repeat refine AQ (cle (by first | omega | (simp only [AN,szs];omega))) ?_
  exact AC ⟨(hm.txt (by omega) (by omega) (by simp only [AN,szs];omega)),ha.2⟩
 ·repeat refine AQ (cle (by first | omega | (simp only [AN,szs];omega))) ?_
  repeat refine AQ (cle (by first | omega | (simp only [AN,szs];omega))) ?_
  refine AH (AE (CI m _ hm h) fun a ha=>?_)
  repeat refine AQ (cle (by first | omega | (simp only [AN,szs];omega))) ?_
  exact AC ⟨(hm.txt (by omega) (by omega) (by simp only [AN,szs];omega)),ha.2⟩
 ·refine HA (fun _=>?_) fun _=>AC ⟨hm.mono (by omega),h⟩
  repeat refine AQ (cle (by first | omega | (simp only [AN,szs];omega))) ?_
  refine AH (AE (Tg (k:=k+1) _ _ _ (by omega) (hm.txt (by omega) (by omega) (by simp only [AN,szs];omega)) h) fun z hz=>?_)
  obtain⟨⟨bs,z1,z2,z3⟩,z4⟩:=hz;simp only at z1 z3;rw [z1];exact AC ⟨.mk' hm.i z2 (by have:=hm.il;omega) (by omega) (by omega) (by omega) (by simp only [AN,szs];omega),z4⟩
 ·refine HA (fun _=>?_) fun _=>AC ⟨hm.mono (by omega),h⟩
  refine AH (AE (JH _ s_b_3e23 _ hk (by simp only [AN,szs];omega) hm h) fun f hf=>?_)
  obtain⟨fn,fm,fc,_⟩:=f;simp only at hf;obtain⟨f1,f2,f3⟩:=hf;subst f2;simp only
  repeat refine AQ (cle (by first | omega | (simp only [AN,szs];omega))) ?_
  refine AH (AE (Tg (k:=k+1) _ _ _ (by omega) (hm.txt (by omega) (by omega) (by simp only [AN,szs];omega)) f3) fun z hz=>?_)
  obtain⟨⟨bs,z1,z2,z3⟩,z4⟩:=hz;simp only at z1 z3;rw [z1];refine AQ (by simp only [Cnd.holds,List.length_nil];omega) (AQ (by simp only [Cnd.holds,List.length_append,List.length_nil,List.length_singleton];omega) (AC ⟨.mk' hm.i (PF z2 f1) (by have:=hm.il;simp only;omega) (by simp only [List.length_append,List.length_nil,List.length_singleton];omega) (by omega) (by omega) (by simp only [AN,szs];omega),z4⟩))
set_option maxRecDepth 100000
theorem aF {D:Type} {l:List D} (h:(decide ((List.length l:Int)=(0:Int)))=false):l≠[]:=by
 intro e;rw [e] at h;simp at h
theorem Lq {k:Nat} {b:Bool} {x x' y y':Option (Made×Cur×Unit)} (h1:b=true→wq x x' (RM k)) (h2:b=false→wq y y' (RM k)):wq (joinP (bif b then x else y) fun z=>some (z.1,z.2.1,())) (joinP (bif b then x' else y') fun z=>some (z.1,z.2.1,())) (RM k):=
 Bg (AM (BV h1 h2) fun z hz=>AZ hz)
theorem Uc {r0 r0':Made→Int→Bool→Cur→Option (Made×Cur×Unit)} {r1 r1':Made→Int→ByteArray→Cur→Option (Made×Cur×Unit)} {D:Nat} (deep:Int) (H:0<deep→∀ k m last c,k+D≤1000000→MOk k m→last.size≤100→COk c→wq (r1 m deep last c) (r1' m deep last c) (RM (k+D)))
 {k:Nat} (m:Made) (g:Bool) (c:Cur) (hk:k+2 * D+2≤1000000) (hm:MOk k m) (h:COk c):wq (Eh r0 r1 m deep g c) (Eh r0' r1' m deep g c) (RM (k+2 * D+2)):=by
 unfold Eh;have ht:=hm.t
 have hn0:=hm.n0
 have hn1:=hm.n1
 have hbl:=hm.bl
 have hil:=hm.il
 have fin:∀ r:Made×Cur×Unit,RM (k+1) r→RM (k+2 * D+2) r:=fun r hr=>⟨hr.1.mono (by omega),hr.2⟩
 refine AO (AM (Al (CG c 14 h)) fun y hy=>?_)
 have h:=hy.2.2.2
 refine Bg (AM (Q:=fun x:Int×Int×Bool×Int×Bool×Made×Cur×Unit=>x.2.1=deep∧x.2.2.2.2.2.1=m∧COk x.2.2.2.2.2.2.1∧(x.2.2.2.2.1=false→m.1≠[])) (BV (fun _=>AZ ⟨rfl,rfl,h,fun e=>by cases e⟩) fun _=>AZ ⟨rfl,rfl,h,fun e=>aF e⟩) fun x hx=>?_)
 obtain⟨x0,x1,x2,x3,x4,x5,x6,_⟩:=x;simp only at hx;obtain⟨e1,e2,h,hi⟩:=hx;subst e1 e2;simp only;clear hy
 refine Lq (fun _=>AM ?_ fin) fun hf1=>?_
 ·refine AO (AM (Al (PV _ _ hm h)) fun v hv=>?_)
  have h:=hv.2
  refine AO (AM (Al (JH _ s_i_de7d _ (by omega) (by simp only [AN,szs];omega) hm h)) fun f hf=>?_)
  obtain⟨fn,fm,fc,_⟩:=f;simp only at hf;obtain⟨f1,f2,f3⟩:=hf;subst f2;simp only
  repeat refine Bk (cle (by first | omega | (simp only [AN,szs];omega))) ?_
  refine Bk (by simp only [Cnd.holds,List.length_nil];omega) (Bk (by simp only [Cnd.holds,List.length_append,List.length_nil,List.length_singleton];omega) (AZ ⟨.mk' (PF hm.i f1) hm.b (by simp only [List.length_append,List.length_nil,List.length_singleton];omega) (by first | omega | (simp only;omega)) (by omega) (by omega) (by simp only [AN,szs];omega),f3⟩))
 have hne1:=hi hf1
 refine Bg (AM (Q:=fun x:Int×Int×Bool×Int×Bool×Made×Cur×Unit=>x.2.1=x1∧x.2.2.2.2.2.1=x5∧COk x.2.2.2.2.2.2.1∧(x.2.2.2.2.1=false→x5.2.1≠[])) (BV (fun _=>AZ ⟨rfl,rfl,h,fun e=>by cases e⟩) fun _=>AZ ⟨rfl,rfl,h,fun e=>aF e⟩) fun x hx=>?_)
 obtain⟨z0,z1,z2,z3,z4,z5,z6,_⟩:=x;simp only at hx;obtain⟨e1,e2,h,hi⟩:=hx;subst e1 e2;simp only;refine Lq (fun _=>AM ?_ fin) fun hf2=>?_
 ·refine AO (AM (Al (CI _ _ hm h)) fun v hv=>?_)
  repeat refine Bk (cle (by first | omega | (simp only [AN,szs];omega))) ?_
  refine AO (AM (Al (Lu _ 3 hv.2)) fun o ho=>Bg (AM (Q:=fun x:Int×ByteArray×Made×Cur×Unit=>x.2.1.size≤60∧x.2.2.1=z5∧COk x.2.2.2.1) (BV (fun _=>AO (AM (Al (CI _ _ hm ho)) fun v2 hv2=>?_)) fun _=>AZ ⟨by simp only [AN,szs];omega,rfl,ho⟩) fun x hx=>?_))
  ·repeat refine Bk (cle (by first | omega | (simp only [AN,szs];omega))) ?_
   exact AZ ⟨by simp only [AN,szs];omega,rfl,hv2.2⟩
  obtain⟨w0,w1,w2,w3,_⟩:=x;simp only at hx;obtain⟨hw,e2,h⟩:=hx;subst e2;simp only;refine AO (AM (Al (JH _ s_b_3e23 _ (by omega) (by simp only [AN,szs];omega) hm h)) fun f hf=>?_)
  obtain⟨fn,fm,fc,_⟩:=f;simp only at hf;obtain⟨f1,f2,f3⟩:=hf;subst f2;simp only
  repeat refine Bk (cle (by first | omega | (simp only [AN,szs];omega))) ?_
  refine Bk (by simp only [Cnd.holds,List.length_nil];omega) (Bk (by simp only [Cnd.holds,List.length_append,List.length_nil,List.length_singleton];omega) (AZ ⟨.mk' hm.i (PF hm.b f1) (by first | omega | (simp only;omega)) (by simp only [List.length_append,List.length_nil,List.length_singleton];omega) (by omega) (by omega) (by simp only [AN,szs];omega),f3⟩))
 have hne2:=hi hf2
 refine Lq (fun _=>AM ?_ fin) fun _=>?_
 ·repeat refine Bk (cle (by first | omega | (simp only [AN,szs];omega))) ?_
  refine AO (AM (Al (PV _ _ hm h)) fun v hv=>?_)
  repeat refine Bk (cle (by first | omega | (simp only [AN,szs];omega))) ?_
  exact AZ ⟨(hm.txt (by omega) (by omega) (by simp only [AN,szs];omega)),hv.2⟩
 refine Lq (fun _=>AM ?_ fin) fun _=>?_
 ·refine AO (AM (Al (PG _ _ _ hne1 h)) fun v hv=>?_)
  have hvs:=hm.i _ hv.1
  repeat refine Bk (cle (by first | omega | (simp only [AN,szs];omega))) ?_
  refine AO (AM (Al (PV _ _ hm hv.2)) fun v2 hv2=>?_)
  repeat refine Bk (cle (by first | omega | (simp only [AN,szs];omega))) ?_
  exact AZ ⟨(hm.txt (by omega) (by omega) (by simp only [AN,szs];omega)),hv2.2⟩
 refine Bg (AM (Q:=fun x:Int×Int×Bool×Int×Bool×Made×Cur×Unit=>x.2.1=z1∧x.2.2.2.2.2.1=z5∧COk x.2.2.2.2.2.2.1∧(x.2.2.2.2.1=true→0<z1)) (BV (fun _=>AZ ⟨rfl,rfl,h,fun e=>by simpa using e⟩) fun _=>AZ ⟨rfl,rfl,h,fun e=>by cases e⟩) fun x hx=>?_)
 obtain⟨u0,u1,u2,u3,u4,u5,u6,_⟩:=x;simp only at hx;obtain⟨e1,e2,h,hi3⟩:=hx;subst e1 e2;simp only;refine Lq (fun hd=>?_) fun _=>?_
 ·repeat refine Bk (cle (by first | omega | (simp only [AN,szs];omega))) ?_
  refine AO (AM (Al (CI _ _ hm h)) fun v hv=>?_)
  repeat refine Bk (cle (by first | omega | (simp only [AN,szs];omega))) ?_
  refine AO (AM (Al (CI _ _ hm hv.2)) fun v2 hv2=>?_)
  repeat refine Bk (cle (by first | omega | (simp only [AN,szs];omega))) ?_
  refine AO (AM (H (hi3 hd) (k+1) _ _ _ (by omega) (hm.txt (by omega) (by omega) (by simp only [AN,szs];omega)) (by decide) hv2.2) fun q hq=>?_)
  have ht2:=hq.1.t
  have hn2:=hq.1.n0
  have hn3:=hq.1.n1
  repeat refine Bk (cle (by first | omega | (simp only [AN,szs];omega))) ?_
  refine AO (AM (H (hi3 hd) (k+1+D+1) _ _ _ (by omega) (hq.1.txt (by omega) (by omega) (by simp only [AN,szs];omega)) (by decide) hq.2) fun q2 hq2=>AZ ⟨hq2.1.mono (by omega),hq2.2⟩)
 refine Bg (AM (Q:=fun x:Int×Int×Bool×Bool×Made×Cur×Unit=>x.2.1=u1∧x.2.2.2.2.1=u5∧COk x.2.2.2.2.2.1∧(x.2.2.2.1=true→0<u1)) (BV (fun _=>AZ ⟨rfl,rfl,h,fun e=>by simpa using e⟩) fun _=>AZ ⟨rfl,rfl,h,fun e=>by cases e⟩) fun x hx=>?_)
 obtain⟨q0,q1,q2,q3,q4,q5,_⟩:=x;simp only at hx;obtain⟨e1,e2,h,hi4⟩:=hx;subst e1 e2;simp only;refine Lq (fun hd=>?_) fun _=>?_
 ·refine AO (AM (Al (JH _ s_w_50e7 _ (by omega) (by simp only [AN,szs];omega) hm h)) fun f hf=>?_)
  obtain⟨fn,fm,fc,_⟩:=f;simp only at hf;obtain⟨f1,f2,f3⟩:=hf;subst f2;simp only
  repeat refine Bk (cle (by first | omega | (simp only [AN,szs];omega))) ?_
  refine AO (AM (Al (Qk _ _ (by simp) f3)) fun v hv=>?_)
  have hvs:v.1.size≤1:=by
   have h1:=hv.1
   simp only [List.mem_cons,List.not_mem_nil,or_false] at h1;rcases h1 with e | e | e | e<;>rw [e]<;>decide
  repeat refine Bk (cle (by first | omega | (simp only [AN,szs];omega))) ?_
  exact AO (AM (H (hi4 hd) (k+1) _ _ _ (by omega) (hm.txt (by omega) (by omega) (by simp only [AN,szs];omega)) (by simp only [AN,szs];omega) hv.2) fun q hq=>AZ ⟨hq.1.mono (by omega),hq.2⟩)
 ·exact AO (AM (Al (dJ _ _ _ (by omega) hm hne2 h)) fun q hq=>AZ (fin _ hq))
theorem Ww {r0 r0':Made→Int→Bool→Cur→Option (Made×Cur×Unit)} {r1 r1':Made→Int→ByteArray→Cur→Option (Made×Cur×Unit)} {A:Nat} (deep:Int) (hd0:0<deep) (hd1:deep≤1000) (H:∀ k m c,k+A≤1000000→MOk k m→COk c→wq (r0 m (deep - 1) false c) (r0' m (deep - 1) false c) (RM (k+A)))
 {k:Nat} (m:Made) (last:ByteArray) (c:Cur) (hk:k+3 * A+2≤1000000) (hm:MOk k m) (hl:last.size≤100) (h:COk c):wq (Dq r0 r1 m deep last c) (Dq r0' r1' m deep last c) (RM (k+3 * A+2)):=by
 unfold Dq;have ht:=hm.t
 have hn0:=hm.n0
 have hn1:=hm.n1
 have hbl:=hm.bl
 have hil:=hm.il
 refine Bk (by simp only [Cnd.holds,List.length_nil];omega) (Bk (by simp only [Cnd.holds,List.length_nil];omega) ?_)
 repeat refine Bk (cle (by first | omega | (simp only [AN,szs];omega))) ?_
 refine Bg (AO (AZ ?_))
 simp only [List.nil_append];refine AM (Qs (fun x:Ej=>x.2.1=deep∧x.2.2.1=last∧x.2.2.2.1=m.1∧x.2.2.2.2.1=m.2.1∧0≤x.2.2.2.2.2.1∧x.2.2.2.2.2.1≤3∧MOk (k+1+x.2.2.2.2.2.1.toNat * A) x.2.2.2.2.2.2.1∧COk x.2.2.2.2.2.2.2.1) (fun x=>3 - x.2.2.2.2.2.1.toNat)
  (Q:=fun r:Int×ByteArray×List ByteArray×List ByteArray×Made×Cur×Unit=>r.2.1=last∧r.2.2.1=m.1∧r.2.2.2.1=m.2.1∧MOk (k+1+3 * A) r.2.2.2.2.1∧COk r.2.2.2.2.2.1) (fun x hx=>?_) ⟨rfl,rfl,rfl,rfl,by simp,by simp,by
   simp only [Int.toNat_zero,Nat.zero_mul,Nat.add_zero];exact hm.txt (by omega) (by omega) (by simp only [AN,szs];omega),h⟩) (fun r hr=>?_)
 ·obtain⟨x0,x1,x2,x3,x4,x5,x6,x7,_⟩:=x;simp only at hx;obtain⟨e1,e2,e3,e4,g1,g2,g3,g4⟩:=hx;subst e1 e2;unfold IZ;simp only;refine AO (AM (Al (CG _ 3 g4)) fun y hy=>BV (fun hb=>?_) fun _=>KB (AZ (Bp ⟨rfl,e3,e4,g3.mono ?_,hy.2.2.2⟩)))
  ·have hlt:x5<y.1:=by simpa using hb
   have hy3:=hy.2.1 (by omega)
   rw [Ar (x:=x1 - 1) (by omega) (by omega),Ar (x:=x5+1) (by omega) (by omega)];have hA:x5.toNat * A≤2 * A:=Nat.mul_le_mul_right _ (by omega)
   refine AO (AM (H (k+1+x5.toNat * A) _ _ (by omega) g3 hy.2.2.2) fun q hq=>KB (AZ (CV ⟨⟨rfl,rfl,e3,e4,by simp only;omega,by simp only;omega,?_,hq.2⟩,by simp only;omega⟩)))
   simp only;rw [show(x5+1).toNat=x5.toNat+1 by omega,Nat.add_mul,Nat.one_mul];exact hq.1.mono (by omega)
  ·have hA:x5.toNat * A≤3 * A:=Nat.mul_le_mul_right _ (by omega)
   omega
 ·obtain⟨x0,x1,x2,x3,x4,x5,_⟩:=r;simp only at hr;obtain⟨e1,e2,e3,g1,g2⟩:=hr;subst e1 e2 e3;simp only;have ht2:=g1.t
  have hn2:=g1.n0
  have hn3:=g1.n1
  repeat refine Bk (cle (by first | omega | (simp only [AN,szs];omega))) ?_
  exact AZ ⟨.mk' hm.i hm.b (by omega) (by omega) (by omega) (by omega) (by simp only [AN,szs];omega),g2⟩
def Ac:Nat→Nat
 | 0=>2
 | d+1=>2 * (3 * Ac d+2)+2
theorem dM:∀ (d:Nat),d≤1000→∀ n n',2 * d+1≤n→2 * d+1≤n'→∀ k m g c,k+Ac d≤1000000→MOk k m→COk c→wq ((BL n).1 m (d:Int) g c) ((BL n').1 m (d:Int) g c) (RM (k+Ac d)):=by
 intro d
 induction d with
 | zero=>
  intro _ n n' hn hn' k m g c hk hm h;obtain⟨n,rfl⟩:∃ j,n=j+1:=⟨n - 1,by omega⟩
  obtain⟨n',rfl⟩:∃ j,n'=j+1:=⟨n' - 1,by omega⟩
  exact Uc (r0:=(BL n).1) (r0':=(BL n').1) (D:=0) (0:Int) (fun h=>by omega) m g c (by simp only [Ac] at hk;omega) hm h
 | succ d ih=>
  intro hd n n' hn hn' k m g c hk hm h;obtain⟨n,rfl⟩:∃ j,n=j+2:=⟨n - 2,by omega⟩
  obtain⟨n',rfl⟩:∃ j,n'=j+2:=⟨n' - 2,by omega⟩
  have hA:Ac (d+1)=2 * (3 * Ac d+2)+2:=rfl
  rw [hA] at hk ⊢;rw [show k+(2 * (3 * Ac d+2)+2)=k+2 * (3 * Ac d+2)+2 by omega];refine Uc (r0:=(BL (n+1)).1) (r0':=(BL (n'+1)).1) (D:=3 * Ac d+2) ((d+1:Nat):Int) (fun _ k m last c hk hm hl h=>?_) m g c (by omega) hm h
  rw [show k+(3 * Ac d+2)=k+3 * Ac d+2 by omega];refine Ww (A:=Ac d) ((d+1:Nat):Int) (by omega) (by omega) (fun k m c hk hm h=>?_) m last c (by omega) hm hl h
  rw [show((d+1:Nat):Int) - 1=(d:Int) by omega];exact ih (by omega) n n' (by omega) (by omega) k m false c hk hm h
theorem dP {k:Nat} (m:Made) (g:Bool) (c:Cur) (hk:k+200≤1000000) (hm:MOk k m) (h:COk c):wp (Fg m 2 g c) (RM (k+200)):=by
 unfold Fg;have hA:Ac 2=114:=rfl
 exact Wk 5 fun n hn=>AM (dM 2 (by omega) n 5 (by omega) (by omega) k m g c (by omega) hm h) fun r hr=>⟨hr.1.mono (by omega),hr.2⟩
theorem Xk (c:Cur) (most:Int) (hm0:0≤most) (hm1:most≤1000) (h:COk c):wp (Jy c most) fun r=>r.1.size≤1000000000∧COk r.2.1:=by
 unfold Jy;refine AH (AE (Lu c 6 h) fun y hy=>Ap (AH (AC ?_)))
 refine AE (wp_loop (fun x:JE=>x.1=most∧0≤x.2.2.1∧x.2.2.1≤most+2∧COk x.2.2.2.1∧MOk (1+x.2.2.1.toNat * 200) x.2.2.2.2.1) (fun x=>(most+2).toNat - x.2.2.1.toNat)
  (Q:=fun r:Int×Cur×Made×Unit=>COk r.2.1∧MOk 300000 r.2.2.1) (fun x hx=>?_) ⟨rfl,by simp,by simp only;omega,hy,?_⟩) (fun r hr=>?_)
 ·obtain⟨x0,x1,x2,x3,x4,_⟩:=x;simp only at hx;obtain⟨e1,g1,g2,g3,g4⟩:=hx;subst e1;unfold Ms;simp only;refine AH (AE (CG _ x0 g3) fun z hz=>?_)
  have hz1:z.1≤x0:=by
   rcases Int.lt_or_le 0 x0 with h1 | h1
   ·have:=hz.2.1 h1;omega
   ·have:=hz.2.2.1 h1;omega
  have hz0:=hz.1
  rw [Ar (x:=2+z.1) (by omega) (by omega)];refine Ad (fun hb=>?_) fun _=>Aq (AC (Bp ⟨hz.2.2.2,g4.mono ?_⟩))
  ·have hlt:x2<2+z.1:=by simpa using hb
   rw [Ar (x:=x2+1) (by omega) (by omega)];have hA:x2.toNat * 200≤1002 * 200:=Nat.mul_le_mul_right _ (by omega)
   refine AH (AE (dP _ true _ (by omega) g4 hz.2.2.2) fun q hq=>Aq (AC (CV ⟨⟨rfl,by simp only;omega,by simp only;omega,hq.2,?_⟩,by simp only;omega⟩)))
   simp only;rw [show(x2+1).toNat=x2.toNat+1 by omega,Nat.add_mul,Nat.one_mul];exact hq.1.mono (by omega)
  ·have hA:x2.toNat * 200≤1002 * 200:=Nat.mul_le_mul_right _ (by omega)
   omega
 ·exact⟨by simp,by simp,by simp,by simp,by simp,by simp,by show s_fn_sum_a__int__b_4b95.size≤1000;decide⟩
 ·have ht:=hr.2.t
  have e:s___d10b.size=1:=by decide
  exact AQ (cle (by omega)) (AC ⟨by simp only [AN];omega,hr.1⟩)
set_option maxRecDepth 100000
theorem Wz {α β:Type} {step:β→Option (β ⊕ α)} (S:Nat→β) (m:Nat) (H:∀ k,k<m→step (S k)=some (.inl (S (k+1)))):AD step (S 0)=AD step (S m):=by
 have key:∀ j,j≤m→AD step (S 0)=AD step (S j):=by
  intro j
  induction j with
  | zero=>intro _;rfl
  | succ j ih=>intro hj;rw [ih (by omega),BF (H j (by omega))]
 exact key m (Nat.le_refl m)
def GX (ds:List Int) (d kid:Int):Int:=if d<rd ds kid (0:Int)+1 then rd ds kid (0:Int)+1 else d
def Ki (ds:List Int) (x:NODE):Int:=x.2.2.2.foldl (GX ds) 1
def TY (d:Int):Int:=bif decide ((10:Int)<d) then 0 else d
def LU (l:List NODE) (ds:List Int) (k:Nat):Int:=bif BT l (k:Int) && (decide (k=0) || decide (rd ds ((k:Int) - 1) (0:Int)≠0)) then TY (Ki ds (rd l (k:Int) zN)) else 0
def Ag (l:List NODE):Nat→List Int
 | 0=>[]
 | k+1=>Ag l k++[LU l (Ag l k) k]
def dAt (l:List NODE) (k:Nat):Int:=LU l (Ag l k) k
theorem EL (l:List NODE):∀ k,(Ag l k).length=k
 | 0=>rfl
 | k+1=>by simp [Ag,EL l k]
theorem FJ (l:List NODE):∀ (k j:Nat) (h:j<k),rd (Ag l k) (j:Int) (0:Int)=dAt l j
 | k+1,j,h=>by
  have hl:=EL l k
  rw [AP (show j<(Ag l (k+1)).length by rw [EL];exact h)];simp only [Ag]
  by_cases e:j=k
  ·subst e;rw [List.getElem_append_right (by omega)];simp [hl,dAt]
  ·have h':j<k:=by omega
   rw [List.getElem_append_left (by omega),← AP (z:=(0:Int)) (show j<(Ag l k).length by omega)];exact FJ l k j h'
theorem Sc {l:List NODE} {k:Int} (h:BT l k=true) {i:Nat} (hi:i<(rd l k zN).2.2.2.length):0≤(rd l k zN).2.2.2[i]∧(rd l k zN).2.2.2[i]<k:=by
 simp only [BT,Dx,MS,Bool.and_eq_true,List.all_eq_true] at h;have:=h.2.2.2.2.2 i (by simpa using hi)
 simp only [NW,Bool.and_eq_true,decide_eq_true_eq] at this;have e:(rd l k zN).2.2.2.getD i 0=(rd l k zN).2.2.2[i]:=by
  generalize rd l k zN=x at hi ⊢;simp [hi]
 rw [e] at this;omega
theorem Ve (l:List NODE) (k:Nat) (ds:List Int) (H:∀ j:Nat,j<k→0≤rd ds (j:Int) (0:Int)∧rd ds (j:Int) (0:Int)≤10) (x:NODE) (hx:∀ y∈x.2.2.2,(0:Int)≤y∧y<(k:Int)):1≤Ki ds x∧Ki ds x≤11:=by
 have key:∀ (m:List Int) (d:Int),(∀ y∈m,(0:Int)≤y∧y<(k:Int))→1≤d∧d≤11→1≤m.foldl (GX ds) d∧m.foldl (GX ds) d≤11:=by
  intro m
  induction m with
  | nil=>intro d _ h;exact h
  | cons y m ih=>
   intro d hm hd;rw [List.foldl_cons];refine ih _ (fun z hz=>hm z (List.mem_cons_of_mem _ hz)) ?_
   have hy:=hm y (List.mem_cons_self ..)
   have:=H y.toNat (by omega)
   rw [show((y.toNat:Nat):Int)=y by omega] at this;unfold GX;split<;>omega
 exact key x.2.2.2 1 hx ⟨by omega,by omega⟩
theorem Lt {l:List NODE} {k:Int} (h:BT l k=true):∀ y∈(rd l k zN).2.2.2,(0:Int)≤y∧y<k:=by
 intro y hy;obtain⟨i,hi,rfl⟩:=List.getElem_of_mem hy;exact Sc h hi
theorem Pu (l:List NODE):∀ k,0≤dAt l k∧dAt l k≤10:=by
 intro k
 induction k using Nat.strongRecOn with
 | _ k ih=>
  unfold dAt LU;cases h:BT l (k:Int)
  ·simp
  cases (decide (k=0) || decide (rd (Ag l k) ((k:Int) - 1) (0:Int)≠0))
  ·simp
  simp only [Bool.and_self,cond_true];have:=Ve l k (Ag l k) (fun j hj=>by rw [FJ l k j hj];exact ih j hj) (rd l (k:Int) zN) (Lt h)
  unfold TY;generalize Ki (Ag l k) (rd l (k:Int) zN)=v at this ⊢
  by_cases h10:(10:Int)<v
  ·simp [h10]
  ·simp [h10];omega
theorem ce (l:List NODE) (k:Nat) (h:dAt l k=0):dAt l (k+1)=0:=by
 have e:rd (Ag l (k+1)) (((k+1:Nat):Int) - 1) (0:Int)=0:=by
  rw [show((k+1:Nat):Int) - 1=(k:Int) by omega,FJ l (k+1) k (by omega),h]
 rw [dAt,LU,e];simp
theorem Vd (l:List NODE) (k n:Nat) (hkn:k≤n) (h:dAt l k=0):dAt l n=0:=by
 induction n with
 | zero=>obtain rfl:k=0:=by omega
         exact h
 | succ n ih=>
  by_cases e:k=n+1
  ·subst e;exact h
  ·exact ce l n (ih (by omega))
theorem jS {l:List NODE} {k:Nat} (h:dAt l k≠0):BT l (k:Int)=true:=by
 cases e:BT l (k:Int)
 ·exact absurd (by unfold dAt LU;rw [e];rfl) h
 ·rfl
theorem Pv (l:List NODE) (k:Nat) (y:Int) (hy:0≤y∧y<(k:Int)):0≤rd (Ag l k) y (0:Int)∧rd (Ag l k) y (0:Int)≤10:=by
 have:=FJ l k y.toNat (by omega)
 rw [show((y.toNat:Nat):Int)=y by omega] at this;rw [this];exact Pu l _
theorem Vf (l:List NODE) (k:Nat) (y:Int) (hy:0≤y∧y<(k:Int)) (d:Int) (hd:1≤d∧d≤11):1≤GX (Ag l k) d y∧GX (Ag l k) d y≤11:=by
 have:=Pv l k y hy
 unfold GX;split<;>omega
theorem Wq (l:List NODE) (hl:FineN l) (n:Int) (k:Nat) (hk:k<l.length) (hok:BT l (k:Int)=true):
 AD CY (l,n,Ag l k,(k:Int),(1:Int),(0:Int),())=some (l,n,Ag l k,(k:Int),Ki (Ag l k) l[k],()):=by
 have hkid:∀ i (hi:i<l[k].2.2.2.length),(0:Int)≤l[k].2.2.2[i]∧l[k].2.2.2[i]<(k:Int):=by
  have:=Lt hok
  rw [AP hk] at this;exact fun i hi=>this _ (List.getElem_mem hi)
 have hx:=hl.kid _ (List.getElem_mem hk)
 have hlen:=EL l k
 have hrd:∀ i (hi:i<l[k].2.2.2.length),(0:Int)≤rd (Ag l k) l[k].2.2.2[i] (0:Int)∧rd (Ag l k) l[k].2.2.2[i] (0:Int)≤10:=fun i hi=>Pv l k _ (hkid i hi)
 have hst:∀ i (hi:i<l[k].2.2.2.length) d,1≤d∧d≤11→1≤GX (Ag l k) d l[k].2.2.2[i]∧GX (Ag l k) d l[k].2.2.2[i]≤11:=fun i hi d hd=>Vf l k _ (hkid i hi) d hd
 have e1:∀ i:Int,(Cnd.idx (k:Int) l.length).run (α:=(List NODE×Int×List Int×Int×Int×Int×Bool×Unit))=fun K=>K:=fun i=>by funext K;exact AK hk
 have hr:rd l (k:Int) zN=l[k]:=AP hk
 generalize l[k]=x at hkid hx hrd hst hr ⊢;have h:=Ao (step:=CY) x.2.2.2 (GX (Ag l k)) (fun i d=>(l,n,Ag l k,(k:Int),d,(i:Int),())) (fun d=>(l,n,Ag l k,(k:Int),d,())) (fun _ d=>1≤d∧d≤11) (fun i hi d hd=>by
  refine⟨?_,hst i hi d hd⟩
  have a1:=hkid i hi
  have a2:=hrd i hi
  have wi:=AI (show i<9223372036854775807 by omega)
  simp only [CY,show(0:Int)<d by omega,decide_true,cond_true,AK hk,hr,AR hi,AA,AK hi,AP hi];generalize x.2.2.2[i]=y at a1 a2 ⊢;rw [AU (show 0≤y∧y<((Ag l k).length:Int) by omega)];unfold GX;generalize rd (Ag l k) y (0:Int)=v at a2 ⊢;rw [show IntKind.wrap .i64 (v+1)=v+1 from Ar (by omega) (by omega)]
  by_cases hlt:d<v+1
  ·simp only [hlt,decide_true,cond_true,if_true,AU (show 0≤y∧y<((Ag l k).length:Int) by omega),AA,wi,Option.map_some]
  ·simp only [hlt,decide_false,cond_false,if_false,AA,wi,Option.map_some]) (fun d hd=>by
  simp only [CY,show(0:Int)<d by omega,decide_true,cond_true,AK hk,hr,AJ,decide_false,AA,cond_false,Option.map_some]) 1 ⟨by omega,by omega⟩
 exact h.1
theorem Wo (l:List NODE) (hl:FineN l) (n:Int) (k:Nat) (hk:k<l.length) (hok:BT l (k:Int)=true):
 AD Fm (l,n,Ag l k,(k:Int),(1:Int),l[k].2.2.2,(l[k].2.2.2.length:Int),(0:Int),())=some (l,n,Ag l k,(k:Int),Ki (Ag l k) l[k],()):=by
 have hkid:∀ i (hi:i<l[k].2.2.2.length),(0:Int)≤l[k].2.2.2[i]∧l[k].2.2.2[i]<(k:Int):=by
  have:=Lt hok
  rw [AP hk] at this;exact fun i hi=>this _ (List.getElem_mem hi)
 have hx:=hl.kid _ (List.getElem_mem hk)
 have hlen:=EL l k
 have hrd:∀ i (hi:i<l[k].2.2.2.length),(0:Int)≤rd (Ag l k) l[k].2.2.2[i] (0:Int)∧rd (Ag l k) l[k].2.2.2[i] (0:Int)≤10:=fun i hi=>Pv l k _ (hkid i hi)
 have hst:∀ i (hi:i<l[k].2.2.2.length) d,1≤d∧d≤11→1≤GX (Ag l k) d l[k].2.2.2[i]∧GX (Ag l k) d l[k].2.2.2[i]≤11:=fun i hi d hd=>Vf l k _ (hkid i hi) d hd
 generalize l[k]=x at hkid hx hrd hst ⊢;have h:=Ao (step:=Fm) x.2.2.2 (GX (Ag l k)) (fun i d=>(l,n,Ag l k,(k:Int),d,x.2.2.2,(x.2.2.2.length:Int),(i:Int),())) (fun d=>(l,n,Ag l k,(k:Int),d,())) (fun _ d=>1≤d∧d≤11) (fun i hi d hd=>by
  refine⟨?_,hst i hi d hd⟩
  have a1:=hkid i hi
  have a2:=hrd i hi
  have wi:=AI (show i<9223372036854775807 by omega)
  simp only [Fm,AR hi,decide_true,cond_true,AK hi,AP hi];generalize x.2.2.2[i]=y at a1 a2 ⊢;rw [AU (show 0≤y∧y<((Ag l k).length:Int) by omega)];unfold GX;generalize rd (Ag l k) y (0:Int)=v at a2 ⊢;rw [show IntKind.wrap .i64 (v+1)=v+1 from Ar (by omega) (by omega)];simp only [wi,Option.map_some,gt_iff_lt]) (fun d hd=>by
  simp only [Fm,AJ,decide_false,cond_false,Option.map_some]) 1 ⟨by omega,by omega⟩
 exact h.1
theorem PI {α:Type} {l:List NODE} (hl:FineN l) {k:Nat} (hk:k<l.length) {d:Int} {K:Option α}:(Cnd.le (((Ag l k).length+List.length [d]) * 8) 140737488355328).run K=K:=by
 have:=hl.len
 have e:=EL l k
 simp only [Cnd.run];rw [if_pos];simp only [List.length_cons,List.length_nil];omega
theorem Ws (l:List NODE) (hl:FineN l) (n:Int) (k:Nat) (hk:k<l.length) (hn:(k:Int)≤n):
 CZ (l,n,Ag l k,(k:Int),())=some (.inl (l,n,Ag l (k+1),((k+1:Nat):Int),())):=by
 have hlen:=hl.len
 have wi:=AI (show k<9223372036854775807 by omega)
 have e0:Ag l (k+1)=Ag l k++[dAt l k]:=rfl
 have h1:∀ z,AD CY (l,n,Ag l k,(k:Int),(0:Int),z,())=some (l,n,Ag l k,(k:Int),(0:Int),()):=fun z=>Ay (by
  simp only [CY,show ¬ ((0:Int)<0) by decide,decide_false,cond_false,AA,Option.map_some])
 have hdl:=EL l k
 unfold CZ;simp only [hn,decide_true,cond_true,AR hk,AA,Tu l hl,Option.bind_some];have e1:(bif !BT l (k:Int) then some (l,n,Ag l k,(k:Int),(1:Int),true,()) else bif decide ((0:Int)<(k:Int)) then (Cnd.idx (IntKind.wrap .i64 ((k:Int) - 1)) (Ag l k).length).run (some (l,n,Ag l k,(k:Int),(1:Int),decide (rd (Ag l k) (IntKind.wrap .i64 ((k:Int) - 1)) (0:Int)=0),())) else some (l,n,Ag l k,(k:Int),(1:Int),false,())) =
  some (l,n,Ag l k,(k:Int),(1:Int),!(BT l (k:Int) && (decide (k=0) || decide (rd (Ag l k) ((k:Int) - 1) (0:Int)≠0))),()):=by
  cases BT l (k:Int)
  ·rfl
  by_cases hz:k=0
  ·subst hz;rfl
  ·rw [Ar (show -9223372036854775808≤(k:Int) - 1 by omega) (by omega),AU (show 0≤(k:Int) - 1∧(k:Int) - 1<((Ag l k).length:Int) by omega)];rw [decide_eq_true (show(0:Int)<(k:Int) by omega),decide_eq_false hz];generalize rd (Ag l k) ((k:Int) - 1) (0:Int)=v
   by_cases hr:v=0<;>simp [hr]
 rw [e1,AA];cases hc:BT l (k:Int) && (decide (k=0) || decide (rd (Ag l k) ((k:Int) - 1) (0:Int)≠0))
 ·have hd:dAt l k=0:=by unfold dAt LU;rw [hc];rfl
  simp only [Bool.not_false,cond_true,AA,h1,Option.bind_some,show ¬ ((10:Int)<0) by decide,decide_false,cond_false,PI hl hk,Option.map_some,wi,e0,hd]
 ·have hok:BT l (k:Int)=true:=by
   rw [Bool.and_eq_true] at hc;exact hc.1
  have hd:dAt l k=TY (Ki (Ag l k) l[k]):=by unfold dAt LU;rw [hc,AP hk];rfl
  simp only [Bool.not_true,cond_false,AA,Option.bind_some,Wq l hl n k hk hok,PI hl hk,Option.map_some,wi,e0,hd,TY];cases decide ((10:Int)<Ki (Ag l k) l[k])<;>simp only [cond_true,cond_false,AA,PI hl hk,Option.map_some,wi]
theorem Wr (l:List NODE) (hl:FineN l) (n:Int) (k:Nat) (hk:k<l.length) (hn:(k:Int)≤n) (hp:k=0∨dAt l (k - 1)≠0):
 ES (l,n,Ag l k,(k:Int),())=bif decide (dAt l k=0) then some (.inr (.inr ([],false,()))) else some (.inl (l,n,Ag l (k+1),((k+1:Nat):Int),())):=by
 have hlen:=hl.len
 have wi:=AI (show k<9223372036854775807 by omega)
 have e0:Ag l (k+1)=Ag l k++[dAt l k]:=rfl
 have hpp:(decide (k=0) || decide (rd (Ag l k) ((k:Int) - 1) (0:Int)≠0))=true:=by
  rcases hp with rfl | hp
  ·rfl
  ·by_cases hz:k=0
   ·subst hz;rfl
   ·rw [show(k:Int) - 1=((k - 1:Nat):Int) by omega,FJ l k (k - 1) (by omega)];simp [hp]
 unfold ES;simp only [hn,decide_true,cond_true,Ti l hl,Option.bind_some];cases hok:BT l (k:Int)
 ·have hd:dAt l k=0:=by unfold dAt LU;rw [hok];rfl
  simp only [Bool.not_false,cond_true,Av,Option.map_some,hd,decide_true]
 ·have hd:dAt l k=TY (Ki (Ag l k) l[k]):=by unfold dAt LU;rw [hok,hpp,AP hk];rfl
  have hb:=Ve l k (Ag l k) (fun j hj=>by rw [FJ l k j hj];exact Pu l j) (rd l (k:Int) zN) (Lt hok)
  rw [AP hk] at hb;simp only [Bool.not_true,cond_false,AK hk,AP hk,Wo l hl n k hk hok,Option.bind_some,AA,e0,hd,TY]
  by_cases h10:(10:Int)<Ki (Ag l k) l[k]
  ·simp only [h10,decide_true,cond_true,Option.map_some,Av]
  ·simp only [h10,decide_false,cond_false,PI hl hk,Option.map_some,BE,wi];rw [decide_eq_false (by omega)];rfl
def AW (l:List NODE) (n:Int):Int:=bif decide (0≤n∧n≤(l.length:Int) - 1) then dAt l n.toNat else 0
theorem Ph (l:List NODE) (hl:FineN l) (k:Nat) (hk:k<l.length):Gw l (k:Int)=some (Ag l (k+1),()):=by
 have h:=Wz (step:=CZ) (fun j=>(l,(k:Int),Ag l j,(j:Int),())) (k+1) (fun j hj=>Ws l hl k j (by omega) (by omega))
 have h2:AD CZ (l,(k:Int),Ag l (k+1),((k+1:Nat):Int),())=some (Ag l (k+1),()):=Ay (by
  simp only [CZ,show ¬ (((k+1:Nat):Int)≤(k:Int)) by omega,decide_false,cond_false,AA,Option.map_some])
 have h3:AD CZ (l,(k:Int),[],(0:Int),())=some (Ag l (k+1),()):=h.trans h2
 simp only [Gw,Option.bind_some,h3,AA]
theorem IC (l:List NODE) (hl:FineN l) (n:Int):HB l n=some (AW l n,()):=by
 unfold HB AW;simp only [Nl,Iu hl.len,iIn,Option.bind_some]
 by_cases hr:0≤n∧n≤(l.length:Int) - 1
 case neg=>simp only [hr,decide_false,Bool.not_false,cond_true,cond_false,Option.bind_some]
 obtain⟨k,rfl⟩:∃ m:Nat,n=(m:Int):=⟨n.toNat,by omega⟩
 have hk:k<l.length:=by omega
 have key:∀ m j,j+m=k+1→(j=0∨dAt l (j - 1)≠0)→AD ES (l,(k:Int),Ag l j,(j:Int),())=some (bif decide (dAt l k=0) then .inr ([],false,()) else .inl (Ag l (k+1),())):=by
  intro m
  induction m with
  | zero=>
   intro j hj hp;obtain rfl:j=k+1:=by omega
   have hp:dAt l k≠0:=by simpa using hp
   rw [decide_eq_false hp];exact Ay (by simp only [ES,show ¬ (((k+1:Nat):Int)≤(k:Int)) by omega,decide_false,cond_false,Option.map_some])
  | succ m ih=>
   intro j hj hp;have h1:=Wr l hl k j (by omega) (by omega) hp
   by_cases hz:dAt l j=0
   ·rw [decide_eq_true hz,cond_true] at h1;rw [Ay h1,decide_eq_true (Vd l j k (by omega) hz)];rfl
   ·rw [decide_eq_false hz,cond_false] at h1;rw [BF h1];exact ih (j+1) (by omega) (.inr (by simpa using hz))
 have h3:AD ES (l,(k:Int),[],(0:Int),())=_:=key (k+1) 0 (by omega) (.inl rfl)
 simp only [hr,and_self,decide_true,Bool.not_true,cond_false,cond_true,Option.bind_some,h3,Int.toNat_natCast]
 by_cases hz:dAt l k=0
 ·simp only [hz,decide_true,cond_true,Av,Option.bind_some,Bool.not_false]
 ·simp only [hz,decide_false,cond_false,BE,Option.bind_some,Bool.not_true];rw [AK (show k<(Ag l (k+1)).length by rw [EL];omega),FJ l (k+1) k (by omega)]
theorem Ae {l:List NODE} {n:Int} (h:(0:Int)<AW l n):(0≤n∧n<(l.length:Int))∧BT l n=true∧∀ m,0≤m→m≤n→(0:Int)<AW l m:=by
 unfold AW at h
 by_cases hr:0≤n∧n≤(l.length:Int) - 1
 case neg=>simp [hr] at h
 rw [decide_eq_true hr,cond_true] at h;refine⟨by omega,?_,fun m h0 hm=>?_⟩
 ·have:=jS (l:=l) (k:=n.toNat) (by omega)
  rwa [show((n.toNat:Nat):Int)=n by omega] at this
 ·unfold AW;rw [decide_eq_true (by omega),cond_true];have h1:=Pu l m.toNat
  by_cases hz:dAt l m.toNat=0
  ·have:=Vd l m.toNat n.toNat (by omega) hz
   omega
  ·omega
set_option maxRecDepth 100000
abbrev zF:FN:=((⟨#[]⟩:ByteArray),([],((0:Int),((0:Int),(0:Int)))))
structure FineP (c:PROG):Prop where
 n:FineN c.1
 f:c.2.length≤1048576
 a:∀ w∈c.2,(w:FN).2.1.length≤1048576
theorem NV {l:List NODE} {n:Int} (h:AW l n≠0):(0:Int)<AW l n:=by
 have:0≤AW l n:=by
  unfold AW;cases decide (0≤n∧n≤(l.length:Int) - 1)
  ·exact Int.le_refl 0
  ·exact(Pu l _).1
 omega
set_option maxRecDepth 100000
theorem Lc {α β D:Type} {step:β→Option (β ⊕ α)} (l:List D) (q:D→Bool) (S:Nat→β) (rt:Nat→α) (rf:α) (H:∀ k (h:k<l.length),step (S k)=bif q l[k] then some (.inr (rt k)) else some (.inl (S (k+1)))) (He:step (S l.length)=some (.inr rf)):
 AD step (S 0)=some (match l.findIdx? q with | some i=>rt i | none=>rf):=by
 have key:∀ m k,k+m=l.length→AD step (S k)=some (match (l.drop k).findIdx? q with | some i=>rt (k+i) | none=>rf):=by
  intro m
  induction m with
  | zero=>
   intro k hk;obtain rfl:k=l.length:=by omega
   rw [Ay He,List.drop_length];rfl
  | succ m ih=>
   intro k hk;have hkl:k<l.length:=by omega
   have h1:=H k hkl
   rw [List.drop_eq_getElem_cons hkl,List.findIdx?_cons];cases hq:q l[k]
   ·rw [hq,cond_false] at h1;rw [BF h1,ih (k+1) (by omega)];cases hf:(l.drop (k+1)).findIdx? q with
    | none=>simp [hf]
    | some i=>simp [hf,Nat.add_assoc,Nat.add_comm 1 i]
   ·rw [hq,cond_true] at h1;rw [Ay h1];simp
 have:=key l.length 0 (by omega)
 rw [List.drop_zero] at this;rw [this];cases l.findIdx? q<;>simp
def CH (l:List FN) (s:ByteArray):Int:=match l.findIdx? (fun f=>decide (f.1=s)) with
 | some i=>(i:Int)
 | none=>-1
theorem Me (p:PROG) (hp:FineP p) (s:ByteArray):Hv p s=some (CH p.2 s,()):=by
 have hl:=hp.f
 have h:=Lc (step:=Ha) p.2 (fun f=>decide (f.1=s)) (fun k=>(s,(k:Int),p,())) (fun k=>.inr ((k:Int),())) (.inl ()) (fun k hk=>by
  simp only [Ha,AR hk,decide_true,cond_true,AK hk,AP hk,AI (show k<9223372036854775807 by omega)];cases decide (p.2[k].1=s)<;>rfl) (by
  simp only [Ha,AJ,decide_false,cond_false,Option.map_some])
 have h':AD Ha (s,(0:Int),p,())=_:=h
 simp only [Hv,Option.bind_some,h',CH];cases p.2.findIdx? fun f=>decide (f.1=s)<;>rfl
theorem MQ (p:PROG) (hp:FineP p) (s:ByteArray):Hh p s=some (CH p.2 s,()):=by
 have hl:=hp.f
 have h:=Lc (step:=HY) p.2 (fun f=>decide (f.1=s)) (fun k=>(s,p.2,(p.2.length:Int),(k:Int),())) (fun k=>.inr ((k:Int),())) (.inl ()) (fun k hk=>by
  simp only [HY,AR hk,decide_true,cond_true,AK hk,AP hk,AI (show k<9223372036854775807 by omega)];cases decide (p.2[k].1=s)<;>rfl) (by
  simp only [HY,AJ,decide_false,cond_false,Option.map_some])
 have h':AD HY (s,p.2,(p.2.length:Int),(0:Int),())=_:=h
 simp only [Hh,Option.bind_some,h',CH];cases p.2.findIdx? fun f=>decide (f.1=s)<;>rfl
set_option maxRecDepth 100000
def tb (n:Nat) (f:Nat→Int):List Int:=(List.range n).map f
theorem Hx (n:Nat) (f:Nat→Int):(tb n f).length=n:=by simp [tb]
theorem PP {n:Nat} {f:Nat→Int} {k:Nat} (h:k<n):rd (tb n f) (k:Int) (0:Int)=f k:=by
 rw [AP (by rw [Hx];exact h)];simp [tb]
def upd (f:Nat→Int) (k:Nat) (v:Int):Nat→Int:=fun t=>if t=k then v else f t
theorem Oa {n:Nat} {f:Nat→Int} {k:Nat} (h:k<n) (v:Int):(tb n f).set k v=tb n (upd f k v):=by
 apply List.ext_getElem
 ·rw [List.length_set,Hx,Hx]
 ·intro i h1 h2;rw [List.getElem_set];simp only [tb,List.getElem_map,List.getElem_range,upd]
  by_cases e:k=i
  ·rw [if_pos e,if_pos e.symm]
  ·rw [if_neg e,if_neg (fun h=>e h.symm)]
theorem al (n:Nat):List.replicate n (0:Int)=tb n (fun _=>0):=by
 apply List.ext_getElem
 ·rw [List.length_replicate,Hx]
 ·intro i h1 h2;simp [tb]
def cnO:List Int→Nat→Nat
 | [],_=>0
 | y::l,t=>(bif decide (y=(t:Int)) then 1 else 0)+cnO l t
theorem jR (a b:List Int) (t:Nat):cnO (a++b) t=cnO a t+cnO b t:=by
 induction a with
 | nil=>simp [cnO]
 | cons y a ih=>simp only [List.cons_append,cnO,ih];omega
theorem eC (l:List Int) (t:Nat):cnO l t≤l.length:=by
 induction l with
 | nil=>exact Nat.le_refl _
 | cons y l ih=>
  simp only [cnO,List.length_cons];cases decide (y=(t:Int))<;>simp only [cond_true,cond_false]<;>omega
def bump (f:Nat→Int) (y:Int):Nat→Int:=upd f y.toNat (f y.toNat+1)
theorem XP (f:Nat→Int) {y:Int} (hy:0≤y) (t:Nat):bump f y t=f t+(bif decide (y=(t:Int)) then 1 else 0):=by
 unfold bump upd
 by_cases e:t=y.toNat
 ·have:y=(t:Int):=by omega
  rw [if_pos e,decide_eq_true this,cond_true,e]
 ·have:¬ y=(t:Int):=by omega
  rw [if_neg e,decide_eq_false this,cond_false];omega
theorem jz (ks:List Int) (hk:∀ y∈ks,(0:Int)≤y):∀ f:Nat→Int,ks.foldl bump f=fun t=>f t+(cnO ks t:Int):=by
 induction ks with
 | nil=>intro f;funext t;simp [cnO]
 | cons y ks ih=>
  intro f;rw [List.foldl_cons,ih (fun z hz=>hk z (List.mem_cons_of_mem _ hz))]
  funext t
  rw [XP f (hk y (List.mem_cons_self ..)) t];simp only [cnO];cases decide (y=(t:Int))<;>simp only [cond_true,cond_false]<;>omega
def us:List NODE→Nat→Nat
 | [],_=>0
 | x::l,t=>cnO x.2.2.2 t+us l t
theorem ju (a b:List NODE) (t:Nat):us (a++b) t=us a t+us b t:=by
 induction a with
 | nil=>simp [us]
 | cons y a ih=>simp only [List.cons_append,us,ih];omega
structure Kd (l:List NODE):Prop where
 k:∀ x∈l,∀ y∈(x:NODE).2.2.2,(0:Int)≤y∧y<(l.length:Int)
def BI (B:Int) (f:Nat→Int):Prop:=∀ t,0≤f t∧f t≤B
theorem BI.bump {B:Int} {f:Nat→Int} (h:BI B f) {y:Int} (hy:0≤y):BI (B+1) (bump f y):=by
 intro t;rw [XP f hy t];have:=h t
 cases decide (y=(t:Int))<;>simp only [cond_true,cond_false]<;>omega
theorem fL (l:List NODE) (hl:FineN l) (hk:Kd l) (i:Nat) (hi:i<l.length) (f:Nat→Int) {B:Int} (hB:B≤1000000000000) (hf:BI B f):
 AD FD (l,tb l.length f,(i:Int),(0:Int),())=some (l,tb l.length (l[i].2.2.2.foldl bump f),(i:Int),()):=by
 have hx:=hl.kid _ (List.getElem_mem hi)
 have hkk:=hk.k _ (List.getElem_mem hi)
 have hr:rd l (i:Int) zN=l[i]:=AP hi
 generalize l[i]=x at hx hkk hr;have h:=Ao (step:=FD) x.2.2.2 bump (fun j f=>(l,tb l.length f,(i:Int),(j:Int),())) (fun f=>(l,tb l.length f,(i:Int),())) (fun j f=>BI (B+(j:Int)) f) (fun j hj f hf=>by
  obtain⟨h1,h2⟩:=hkk _ (List.getElem_mem hj);refine⟨?_,by rw [show B+((j+1:Nat):Int)=B+(j:Int)+1 by omega];exact hf.bump h1⟩
  have wj:=AI (show j<9223372036854775807 by omega)
  obtain⟨y,hy⟩:∃ y:Nat,x.2.2.2[j]=(y:Int):=⟨x.2.2.2[j].toNat,by omega⟩
  rw [hy] at h2 ⊢;have hyl:y<l.length:=by omega
  have hyt:y<(tb l.length f).length:=by rw [Hx];exact hyl
  have hb:=hf y
  simp only [FD,AK hi,hr,AR hj,decide_true,cond_true,AK hj,AP hj,hy,AK hyt,PP hyl,Int.toNat_natCast,Oa hyl,CM,Option.map_some,wj,Ar (show -9223372036854775808≤f y+1 by omega) (show f y+1<9223372036854775808 by omega),bump]) (fun f hf=>by
  simp only [FD,AK hi,hr,AJ,decide_false,cond_false,Option.map_some]) f (by simpa using hf)
 exact h.1
theorem dn (l:List NODE) (p:PROG) (hl:FineN l) (hk:Kd l) (i:Nat) (hi:i<l.length) (f:Nat→Int) {B:Int} (hB:B≤1000000000000) (hf:BI B f):
 AD Dz (tb l.length f,l,(l.length:Int),(i:Int),l[i].2.2.2,(l[i].2.2.2.length:Int),(0:Int),p,())=some (tb l.length (l[i].2.2.2.foldl bump f),l,(l.length:Int),(i:Int),p,()):=by
 have hx:=hl.kid _ (List.getElem_mem hi)
 have hkk:=hk.k _ (List.getElem_mem hi)
 generalize l[i]=x at hx hkk;have h:=Ao (step:=Dz) x.2.2.2 bump (fun j f=>(tb l.length f,l,(l.length:Int),(i:Int),x.2.2.2,(x.2.2.2.length:Int),(j:Int),p,())) (fun f=>(tb l.length f,l,(l.length:Int),(i:Int),p,())) (fun j f=>BI (B+(j:Int)) f) (fun j hj f hf=>by
  obtain⟨h1,h2⟩:=hkk _ (List.getElem_mem hj);refine⟨?_,by rw [show B+((j+1:Nat):Int)=B+(j:Int)+1 by omega];exact hf.bump h1⟩
  have wj:=AI (show j<9223372036854775807 by omega)
  obtain⟨y,hy⟩:∃ y:Nat,x.2.2.2[j]=(y:Int):=⟨x.2.2.2[j].toNat,by omega⟩
  rw [hy] at h2 ⊢;have hyl:y<l.length:=by omega
  have hyt:y<(tb l.length f).length:=by rw [Hx];exact hyl
  have hb:=hf y
  simp only [Dz,AR hj,decide_true,cond_true,AK hj,AP hj,hy,AK hyt,PP hyl,Int.toNat_natCast,Oa hyl,CM,Option.map_some,wj,Ar (show -9223372036854775808≤f y+1 by omega) (show f y+1<9223372036854775808 by omega),bump]) (fun f hf=>by
  simp only [Dz,AJ,decide_false,cond_false,Option.map_some]) f (by simpa using hf)
 exact h.1
def bumpN (f:Nat→Int) (x:NODE):Nat→Int:=x.2.2.2.foldl bump f
theorem VY (f:Nat→Int) (x:NODE) (hx:∀ y∈x.2.2.2,(0:Int)≤y):bumpN f x=fun t=>f t+(cnO x.2.2.2 t:Int):=jz _ hx f
theorem Zm (l:List NODE) (hk:∀ x∈l,∀ y∈(x:NODE).2.2.2,(0:Int)≤y):∀ f:Nat→Int,l.foldl bumpN f=fun t=>f t+(us l t:Int):=by
 induction l with
 | nil=>intro f;funext t;simp [us]
 | cons x l ih=>
  intro f;rw [List.foldl_cons,ih (fun z hz=>hk z (List.mem_cons_of_mem _ hz)),VY f x (hk x (List.mem_cons_self ..))]
  funext t
  simp only [us];omega
theorem BI.bumpN {B:Int} {f:Nat→Int} (h:BI B f) {x:NODE} (hx:∀ y∈x.2.2.2,(0:Int)≤y) (hl:x.2.2.2.length≤1048576):BI (B+1048576) (bumpN f x):=by
 intro t;rw [VY f x hx];have:=h t
 have:=eC x.2.2.2 t
 simp only;omega
def U (l:List NODE):Nat→Int:=fun t=>(us l t:Int)
theorem ka (l:List NODE) (hl:FineN l) (hk:Kd l) (h300:l.length≤300):Jx l=some (tb l.length (U l),()):=by
 have h:=Ao (step:=FH) l bumpN (fun i f=>(l,tb l.length f,(i:Int),())) (fun f=>(tb l.length f,())) (fun i f=>BI ((i:Int) * 1048576) f) (fun i hi f hf=>by
  have hx:=hl.kid _ (List.getElem_mem hi)
  have hkk:=hk.k _ (List.getElem_mem hi)
  refine⟨?_,by rw [show((i+1:Nat):Int) * 1048576=(i:Int) * 1048576+1048576 by omega];exact hf.bumpN (fun y hy=>(hkk y hy).1) hx⟩
  simp only [FH,AR hi,decide_true,cond_true,Option.bind_some,fL l hl hk i hi f (show(i:Int) * 1048576≤1000000000000 by omega) hf,AA,Option.map_some,AI (show i<9223372036854775807 by omega),bumpN]) (fun f hf=>by
  simp only [FH,AJ,decide_false,cond_false,Option.map_some]) (fun _=>0) (fun t=>by simp)
 have h1:=h.1
 rw [Zm l (fun x hx y hy=>(hk.k x hx y hy).1)] at h1;have h':AD FH (l,List.replicate l.length (0:Int),(0:Int),())=some (tb l.length (U l),()):=by
  rw [al];refine h1.trans ?_
  have:(fun t=>(0:Int)+(us l t:Int))=U l:=by funext t;simp [U]
  rw [this]
 have hb:∀ {α:Type} {K:Option α},(Cnd.both (Cnd.nn (l.length:Int)) (Cnd.le (l.length * 8) 140737488355328)).run K=K:=fun {α} {K}=>by
  simp only [Cnd.run];rw [if_pos (by omega),if_pos (by omega)]
 simp only [Jx,Int.toNat_natCast,hb,Option.bind_some,h',AA]
theorem kZ (l:List NODE) (p:PROG) (hl:FineN l) (hk:Kd l) (h300:l.length≤300):AD EC (List.replicate l.length (0:Int),l,(l.length:Int),(0:Int),p,())=some (tb l.length (U l),p,()):=by
 have h:=Ao (step:=EC) l bumpN (fun i f=>(tb l.length f,l,(l.length:Int),(i:Int),p,())) (fun f=>(tb l.length f,p,())) (fun i f=>BI ((i:Int) * 1048576) f) (fun i hi f hf=>by
  have hx:=hl.kid _ (List.getElem_mem hi)
  have hkk:=hk.k _ (List.getElem_mem hi)
  refine⟨?_,by rw [show((i+1:Nat):Int) * 1048576=(i:Int) * 1048576+1048576 by omega];exact hf.bumpN (fun y hy=>(hkk y hy).1) hx⟩
  simp only [EC,AR hi,decide_true,cond_true,AK hi,AP hi,Option.bind_some,dn l p hl hk i hi f (show(i:Int) * 1048576≤1000000000000 by omega) hf,AA,Option.map_some,AI (show i<9223372036854775807 by omega),bumpN]) (fun f hf=>by
  simp only [EC,AJ,decide_false,cond_false,Option.map_some]) (fun _=>0) (fun t=>by simp)
 have h1:=h.1
 rw [Zm l (fun x hx y hy=>(hk.k x hx y hy).1)] at h1;rw [al];refine h1.trans ?_
 have:(fun t=>(0:Int)+(us l t:Int))=U l:=by funext t;simp [U]
 rw [this]
set_option maxRecDepth 100000
def Qj (q:ByteArray×Int):Bool:=Bo q.1 && decide (1≤q.2∧q.2≤4)
def Tn (x:FN):Bool:=x.2.1.all Qj
def Pr (l:List NODE) (x:FN):Bool:=decide (0≤x.2.2.2.1∧x.2.2.2.1≤(l.length:Int) - 1) && decide ((rd l x.2.2.2.1 zN).1=20)
def Ql (l:List NODE) (x:FN):Bool:=bif decide (x.2.2.1=0) then decide (x.2.2.2.2 = -1) else decide (0≤x.2.2.2.2∧x.2.2.2.2≤(l.length:Int) - 1) && decide (1≤(rd l x.2.2.2.2 zN).1∧(rd l x.2.2.2.2 zN).1≤12)
def fnI (l:List NODE) (x:FN):Bool:=Bo x.1 && (decide ((x.2.1.length:Int)≤3) && (decide (0≤x.2.2.1∧x.2.2.1≤2) && (Tn x && (Pr l x && Ql l x))))
def Hg (p:PROG) (i:Int):Bool:=fnI p.1 (rd p.2 i zF) && decide (CH p.2 (rd p.2 i zF).1=i)
theorem kQ (p:PROG) (x:FN) (hx:x.2.1.length≤1048576):AD Gt ((0:Int),p,x,())=some (bif Tn x then .inl (p,x,()) else .inr (false,())):=by
 exact Br (step:=Gt) x.2.1 Qj (fun k=>((k:Int),p,x,())) (.inl (p,x,())) (.inr (false,())) (fun k hk=>by
  have wk:=AI (show k<9223372036854775807 by omega)
  simp only [Gt,AR hk,decide_true,cond_true,AK hk,AP hk,GM,sIn,Option.bind_some,Qj];cases Bo x.2.1[k].1
  ·simp only [Bool.not_false,cond_true,AA,Option.map_some,Bool.false_and,cond_false]
  ·cases decide (1≤x.2.1[k].2∧x.2.1[k].2≤4)<;>simp only [Bool.not_true,Bool.not_false,cond_true,cond_false,AA,Option.map_some,Bool.and_self,Bool.and_false,wk]) (by
  simp only [Gt,AJ,decide_false,cond_false,Option.map_some])
theorem kP (p:PROG) (x:FN) (hx:x.2.1.length≤1048576):AD HZ (x.2.1,(x.2.1.length:Int),(0:Int),p,x,())=some (bif Tn x then .inl (p,x,()) else .inr (false,())):=by
 exact Br (step:=HZ) x.2.1 Qj (fun k=>(x.2.1,(x.2.1.length:Int),(k:Int),p,x,())) (.inl (p,x,())) (.inr (false,())) (fun k hk=>by
  have wk:=AI (show k<9223372036854775807 by omega)
  simp only [HZ,AR hk,decide_true,cond_true,AK hk,AP hk,KU,iIn,Option.bind_some,Qj];cases Bo x.2.1[k].1
  ·simp only [Bool.not_false,cond_true,AA,Option.map_some,Bool.false_and,cond_false]
  ·cases decide (1≤x.2.1[k].2∧x.2.1[k].2≤4)<;>simp only [Bool.not_true,Bool.not_false,cond_true,cond_false,AA,Option.map_some,Bool.and_self,Bool.and_false,wk]) (by
  simp only [HZ,AJ,decide_false,cond_false,Option.map_some])
theorem ZL (p:PROG) (hp:FineP p) (i:Nat) (hi:i<p.2.length):Ll p (i:Int)=some (Hg p (i:Int),()):=by
 unfold Ll Hg fnI;have hx:=hp.a _ (List.getElem_mem hi)
 rw [AK hi];have hr:rd p.2 (i:Int) zF=p.2[i]:=AP hi
 rw [hr];generalize p.2[i]=x at hx;have e:((DQ x.1).bind fun y1=>bif !y1.1 then some (true,p,x,()) else (Hv p x.1).bind fun y2=>bif decide (y2.1≠(i:Int)) then some (true,p,x,()) else bif decide ((3:Int)<(x.2.1.length:Int)) then some (true,p,x,()) else (Az x.2.2.1 (0:Int) (2:Int)).bind fun y3=>some (!y3.1,p,x,())) =
  some (!(Bo x.1 && (decide (CH p.2 x.1=(i:Int)) && (decide ((x.2.1.length:Int)≤3) && decide (0≤x.2.2.1∧x.2.2.1≤2)))),p,x,()):=by
  simp only [GM,Me p hp,sIn,Option.bind_some];cases Bo x.1
  ·rfl
  by_cases h2:CH p.2 x.1=(i:Int)
  ·by_cases h3:(3:Int)<(x.2.1.length:Int)
   ·simp only [h2,h3,show ¬ ((x.2.1.length:Int)≤3) by omega,ne_eq,not_true_eq_false,decide_true,decide_false,cond_true,cond_false,Bool.not_true,Bool.false_and,Bool.and_false,Bool.not_false]
   ·simp only [h2,h3,show((x.2.1.length:Int)≤3) by omega,ne_eq,not_true_eq_false,decide_true,decide_false,cond_false,Bool.not_true,Bool.true_and]
  ·simp only [h2,ne_eq,not_false_eq_true,decide_true,decide_false,cond_true,cond_false,Bool.not_true,Bool.false_and,Bool.and_false,Bool.not_false]
 rw [e,AA];cases hA:Bo x.1
 ·simp only [Bool.false_and,Bool.not_false,cond_true]
 cases hB:decide (CH p.2 x.1=(i:Int))
 ·simp only [Bool.false_and,Bool.and_false,Bool.not_false,cond_true]
 cases hC:decide ((x.2.1.length:Int)≤3)
 ·simp only [Bool.false_and,Bool.and_false,Bool.not_false,cond_true]
 cases hD:decide (0≤x.2.2.1∧x.2.2.1≤2)
 ·simp only [Bool.false_and,Bool.and_false,Bool.not_false,cond_true]
 simp only [Bool.and_self,Bool.not_true,cond_false,Option.bind_some,kQ p x hx,Bool.true_and,Bool.and_true];cases hP:Tn x
 ·simp only [cond_false,Av,Bool.false_and]
 simp only [cond_true,BE,Bool.true_and,Iu hp.n.len,sIn,Option.bind_some,Gx,Pr,Ql]
 by_cases hb:0≤x.2.2.2.1∧x.2.2.2.1≤(p.1.length:Int) - 1
 ·simp only [hb,and_self,decide_true,Bool.not_true,cond_false,AU (show 0≤x.2.2.2.1∧x.2.2.2.1<(p.1.length:Int) by omega),AA,Bool.true_and]
  by_cases h20:(rd p.1 x.2.2.2.1 zN).1=20
  ·simp only [h20,ne_eq,not_true_eq_false,decide_true,decide_false,cond_false,Bool.true_and];cases decide (x.2.2.1=0)
   ·simp only [cond_false]
    by_cases hc:0≤x.2.2.2.2∧x.2.2.2.2≤(p.1.length:Int) - 1
    ·simp only [Iu hp.n.len,hc,and_self,decide_true,cond_true,AU (show 0≤x.2.2.2.2∧x.2.2.2.2<(p.1.length:Int) by omega),AA,Bool.true_and]
    ·simp only [Iu hp.n.len,hc,decide_false,cond_false,AA,Bool.false_and]
   ·simp only [cond_true]
  ·simp only [h20,ne_eq,not_false_eq_true,decide_true,decide_false,cond_true,Bool.false_and]
 ·simp only [hb,decide_false,Bool.not_false,cond_true,AA,Bool.false_and]
theorem Yn (p:PROG) (hp:FineN p.1) (x:FN) (hx:x.2.1.length≤1048576):NT p x=some (fnI p.1 x,()):=by
 unfold NT fnI;have e:((Fa x.1).bind fun y1=>bif !y1.1 then some (true,p,x,()) else bif decide ((3:Int)<(x.2.1.length:Int)) then some (true,p,x,()) else bif decide (x.2.2.1≠(0:Int)) then bif decide (x.2.2.1≠(1:Int)) then some (decide (x.2.2.1≠(2:Int)),p,x,()) else some (false,p,x,()) else some (false,p,x,())) =
  some (!(Bo x.1 && (decide ((x.2.1.length:Int)≤3) && decide (0≤x.2.2.1∧x.2.2.1≤2))),p,x,()):=by
  simp only [KU,Option.bind_some];cases Bo x.1
  ·rfl
  by_cases h3:(3:Int)<(x.2.1.length:Int)
  ·simp only [h3,show ¬ ((x.2.1.length:Int)≤3) by omega,decide_true,decide_false,cond_true,cond_false,Bool.not_true,Bool.false_and,Bool.and_false,Bool.not_false]
  ·simp only [h3,show((x.2.1.length:Int)≤3) by omega,decide_true,decide_false,cond_false,Bool.not_true,Bool.true_and]
   by_cases r0:x.2.2.1=0
   ·simp [r0]
   ·by_cases r1:x.2.2.1=1
    ·simp [r1]
    ·by_cases r2:x.2.2.1=2
     ·simp [r2]
     ·have:¬ (0≤x.2.2.1∧x.2.2.1≤2):=by omega
      simp [r0,r1,r2,this]
 rw [e,AA];cases hA:Bo x.1
 ·simp only [Bool.false_and,Bool.not_false,cond_true]
 cases hC:decide ((x.2.1.length:Int)≤3)
 ·simp only [Bool.false_and,Bool.and_false,Bool.not_false,cond_true]
 cases hD:decide (0≤x.2.2.1∧x.2.2.1≤2)
 ·simp only [Bool.false_and,Bool.and_false,Bool.not_false,cond_true]
 simp only [Bool.and_self,Bool.not_true,cond_false,Option.bind_some,kP p x hx,Bool.true_and];cases hP:Tn x
 ·simp only [cond_false,Av,Bool.false_and]
 simp only [cond_true,BE,Bool.true_and,Iu hp.len,iIn,Option.bind_some,Hj,Pr,Ql]
 by_cases hb:0≤x.2.2.2.1∧x.2.2.2.1≤(p.1.length:Int) - 1
 ·simp only [hb,and_self,decide_true,Bool.not_true,cond_false,AU (show 0≤x.2.2.2.1∧x.2.2.2.1<(p.1.length:Int) by omega),AA,Bool.true_and]
  by_cases h20:(rd p.1 x.2.2.2.1 zN).1=20
  ·simp only [h20,ne_eq,not_true_eq_false,decide_true,decide_false,cond_false,Bool.true_and];cases decide (x.2.2.1=0)
   ·simp only [cond_false]
    by_cases hc:0≤x.2.2.2.2∧x.2.2.2.2≤(p.1.length:Int) - 1
    ·simp only [Iu hp.len,hc,and_self,decide_true,cond_true,AU (show 0≤x.2.2.2.2∧x.2.2.2.2<(p.1.length:Int) by omega),AA,Bool.true_and]
    ·simp only [Iu hp.len,hc,decide_false,cond_false,AA,Bool.false_and]
   ·simp only [cond_true]
  ·simp only [h20,ne_eq,not_false_eq_true,decide_true,decide_false,cond_true,Bool.false_and]
 ·simp only [hb,decide_false,Bool.not_false,cond_true,AA,Bool.false_and]
set_option maxRecDepth 100000
def BZ {γ D:Type} (q:γ→D→Bool) (g:γ→D→γ):List D→γ→Option γ
 | [],c=>some c
 | x::l,c=>bif q c x then BZ q g l (g c x) else none
theorem WN {γ D:Type} (q:γ→D→Bool) (g:γ→D→γ):∀ (a b:List D) (c:γ),BZ q g (a++b) c=(BZ q g a c).bind (BZ q g b)
 | [],b,c=>rfl
 | x::a,b,c=>by
  simp only [List.cons_append,BZ];cases q c x
  ·rfl
  ·simp only [cond_true];exact WN q g a b _
theorem NX {α β γ D:Type} {step:β→Option (β ⊕ α)} (l:List D) (q:γ→D→Bool) (g:γ→D→γ) (S:Nat→γ→β) (r:γ→α) (rf:α) (I:Nat→γ→Prop)
 (H:∀ k (h:k<l.length) c,I k c→(step (S k c)=bif q c l[k] then some (.inl (S (k+1) (g c l[k]))) else some (.inr rf))∧(q c l[k]=true→I (k+1) (g c l[k])))
 (He:∀ c,I l.length c→step (S l.length c)=some (.inr (r c))) (c:γ) (hc:I 0 c):
 AD step (S 0 c)=some ((BZ q g l c).elim rf r):=by
 have key:∀ m k c,k+m=l.length→I k c→AD step (S k c)=some ((BZ q g (l.drop k) c).elim rf r):=by
  intro m
  induction m with
  | zero=>
   intro k c hk hI;obtain rfl:k=l.length:=by omega
   rw [Ay (He c hI),List.drop_length];rfl
  | succ m ih=>
   intro k c hk hI;have hkl:k<l.length:=by omega
   obtain⟨h1,h2⟩:=H k hkl c hI;rw [List.drop_eq_getElem_cons hkl,BZ];cases hq:q c l[k]
   ·rw [hq,cond_false] at h1;rw [Ay h1];rfl
   ·rw [hq,cond_true] at h1;rw [BF h1,ih (k+1) _ (by omega) (h2 hq)];rfl
 have:=key l.length 0 c (by omega) hc
 rwa [List.drop_zero] at this
theorem WF {α:Type} (l:List α) (z:α):(List.range l.length).map (fun(i:Nat)=>rd l (i:Int) z)=l:=by
 apply List.ext_getElem
 ·simp
 ·intro i h1 h2;rw [List.getElem_map,List.getElem_range,AP h2]
def roots (x:FN):List Int:=x.2.2.2.1::bif decide (0≤x.2.2.2.2) then [x.2.2.2.2] else []
def GJ:List FN→List Int
 | []=>[]
 | x::l=>roots x++GJ l
def add (f:Nat→Int) (y:Int):Nat→Int:=upd f y.toNat (f y.toNat+1000)
theorem ig (rs:List Int) (hr:∀ y∈rs,(0:Int)≤y):∀ f:Nat→Int,rs.foldl add f=fun t=>f t+1000 * (cnO rs t:Int):=by
 induction rs with
 | nil=>intro f;funext t;simp [cnO]
 | cons y rs ih=>
  intro f;rw [List.foldl_cons,ih (fun z hz=>hr z (List.mem_cons_of_mem _ hz))]
  funext t
  have hy:=hr y (List.mem_cons_self ..)
  simp only [add,upd,cnO]
  by_cases e:t=y.toNat
  ·have:y=(t:Int):=by omega
   rw [if_pos e,decide_eq_true this,cond_true,← e];omega
  ·have:¬ y=(t:Int):=by omega
   rw [if_neg e,decide_eq_false this,cond_false];omega
theorem NR {p:PROG} {i:Int} (h:Hg p i=true):∀ y∈roots (rd p.2 i zF),(0:Int)≤y∧y<(p.1.length:Int):=by
 simp only [Hg,fnI,Pr,Bool.and_eq_true,decide_eq_true_eq] at h;obtain⟨⟨_,_,_,_,⟨hb,_⟩,hr⟩,_⟩:=h;intro y hy;unfold roots at hy;rcases List.mem_cons.1 hy with rfl | hy
 ·omega
 ·cases hd:decide ((0:Int)≤(rd p.2 i zF).2.2.2.2)
  ·rw [hd,cond_false] at hy;cases hy
  ·rw [hd,cond_true] at hy;obtain rfl:=List.mem_singleton.1 hy;have hd:=of_decide_eq_true hd
   unfold Ql at hr;cases h0:decide ((rd p.2 i zF).2.2.1=0)
   ·rw [h0,cond_false,Bool.and_eq_true,decide_eq_true_eq] at hr;omega
   ·rw [h0,cond_true,decide_eq_true_eq] at hr;omega
def Po (p:PROG):Bool:=(List.range p.2.length).all fun i=>Hg p (i:Int)
def gS (p:PROG) (f:Nat→Int) (i:Nat):Nat→Int:=(roots (rd p.2 (i:Int) zF)).foldl add f
theorem Sk {γ D:Type} (q:D→Bool) (g:γ→D→γ):∀ (l:List D) (c:γ),BZ (fun _ x=>q x) g l c=bif l.all q then some (l.foldl g c) else none
 | [],c=>rfl
 | x::l,c=>by
  simp only [BZ,List.all_cons,List.foldl_cons];cases q x
  ·rfl
  ·simp only [cond_true,Bool.true_and];exact Sk q g l _
theorem RE (p:PROG):∀ (l:List FN) (f:Nat→Int),l.foldl (fun f x=>(roots x).foldl add f) f=(GJ l).foldl add f
 | [],f=>rfl
 | x::l,f=>by
  simp only [List.foldl_cons,GJ,List.foldl_append];exact RE p l _
theorem jc (p:PROG) (f:Nat→Int):(List.range p.2.length).foldl (gS p) f=(GJ p.2).foldl add f:=by
 have h:=List.foldl_map (f:=fun i:Nat=>rd p.2 (i:Int) zF) (g:=fun(f:Nat→Int) x=>(roots x).foldl add f) (l:=List.range p.2.length) (init:=f)
 rw [WF] at h;rw [RE p] at h;exact h.symm
theorem pM (p:PROG) (hp:FineP p) (f:Nat→Int) (hf:BI 1000000000 f):
 AD Cy (tb p.1.length f,(0:Int),p,())=some (bif Po p then .inl (tb p.1.length ((GJ p.2).foldl add f),()) else .inr (false,())):=by
 have hl:=hp.f
 have hr:(List.range p.2.length).length=p.2.length:=List.length_range
 have h:=NX (step:=Cy) (List.range p.2.length) (fun _ (i:Nat)=>Hg p (i:Int)) (gS p) (fun i f=>(tb p.1.length f,(i:Int),p,())) (fun f=>.inl (tb p.1.length f,())) (.inr (false,())) (fun k f=>BI (1000000000+(k:Int) * 2000) f) (fun k hk f hf=>by
  have hk':k<p.2.length:=by omega
  rw [List.getElem_range];have wk:=AI (show k<9223372036854775807 by omega)
  refine⟨?_,fun hq=>?_⟩
  ·simp only [Cy,AR hk',decide_true,cond_true,ZL p hp k hk',Option.bind_some,AK hk'];cases hq:Hg p (k:Int)
   ·simp only [Bool.not_false,cond_true,cond_false,Option.map_some]
   ·have hro:=NR hq
    simp only [Bool.not_true,cond_false,cond_true,gS];generalize rd p.2 (k:Int) zF=x at hro;obtain⟨b0,b1⟩:=hro x.2.2.2.1 (List.mem_cons_self ..);obtain⟨b,hb⟩:∃ b:Nat,x.2.2.2.1=(b:Int):=⟨x.2.2.2.1.toNat,by omega⟩
    have hbl:b<p.1.length:=by omega
    have hbt:b<(tb p.1.length f).length:=by rw [Hx];exact hbl
    have hfb:=hf b
    have w1:IntKind.wrap .i64 (f b+1000)=f b+1000:=Ar (by omega) (by omega)
    by_cases hc:(0:Int)≤x.2.2.2.2
    ·obtain⟨c0,c1⟩:=hro x.2.2.2.2 (by unfold roots;rw [decide_eq_true hc];simp);obtain⟨c,hcc⟩:∃ c:Nat,x.2.2.2.2=(c:Int):=⟨x.2.2.2.2.toNat,by omega⟩
     have hcl:c<p.1.length:=by omega
     have hct:∀ f,c<(tb p.1.length f).length:=fun f=>by rw [Hx];exact hcl
     have hfc:=hf c
     have hu:0≤upd f b (f b+1000) c∧upd f b (f b+1000) c≤2000000000000:=by
      unfold upd;split<;>omega
     have w2:IntKind.wrap .i64 (upd f b (f b+1000) c+1000)=upd f b (f b+1000) c+1000:=Ar (by omega) (by omega)
     simp only [hb,hcc,AK hbt,PP hbl,w1,Int.toNat_natCast,Oa hbl,CM,show(0:Int)≤(c:Int) by omega,decide_true,cond_true,AK (hct _),PP hcl,w2,Oa hcl,AA,Option.map_some,wk,roots,List.foldl_cons,List.foldl_nil,add]
    ·simp only [hb,hc,AK hbt,PP hbl,w1,Int.toNat_natCast,Oa hbl,CM,decide_false,cond_false,AA,Option.map_some,wk,roots,List.foldl_cons,List.foldl_nil,add]
  ·have hro:=NR hq
   unfold gS;rw [ig _ (fun y hy=>(hro y hy).1)];intro t;have h1:=hf t
   have h2:=eC (roots (rd p.2 (k:Int) zF)) t
   have h3:(roots (rd p.2 (k:Int) zF)).length≤2:=by
    unfold roots;cases decide ((0:Int)≤(rd p.2 (k:Int) zF).2.2.2.2)<;>simp
   simp only;omega) (fun f hf=>by
  rw [hr];simp only [Cy,AJ,decide_false,cond_false,Option.map_some]) f (by simpa using hf)
 have h':AD Cy (tb p.1.length f,(0:Int),p,())=_:=h
 rw [h',Sk,jc];unfold Po;cases (List.range p.2.length).all fun i=>Hg p (i:Int)<;>rfl
def rq (f:Nat→Int) (y:Int):Bool:=decide (y<0) || decide (f y.toNat=0)
def rg (f:Nat→Int) (y:Int):Nat→Int:=bif decide (y<0) then f else upd f y.toNat (-1)
def two (x:FN):List Int:=[x.2.2.2.1,x.2.2.2.2]
theorem am (x:FN) (hb:0≤x.2.2.2.1) (f:Nat→Int):BZ rq rg (two x) f=BZ rq rg (roots x) f:=by
 unfold two roots
 by_cases hc:(0:Int)≤x.2.2.2.2
 ·rw [decide_eq_true hc];rfl
 ·rw [decide_eq_false hc,cond_false];simp only [BZ];cases rq f x.2.2.2.1
  ·rfl
  ·have h1:rq (rg f x.2.2.2.1) x.2.2.2.2=true:=by
    unfold rq;rw [decide_eq_true (show x.2.2.2.2<0 by omega)];rfl
   have h2:rg (rg f x.2.2.2.1) x.2.2.2.2=rg f x.2.2.2.1:=by
    unfold rg;rw [decide_eq_true (show x.2.2.2.2<0 by omega)];rfl
   simp only [cond_true,h1,h2]
theorem kO (p:PROG) (L:List FN) (n k:Int) (x:FN) (hr:∀ y∈two x,y<(p.1.length:Int)) (f:Nat→Int):
 AD Cz (tb p.1.length f,L,n,k,two x,((two x).length:Int),(0:Int),p,())=some ((BZ rq rg (two x) f).elim (.inr (.inr (.inr (.inr (false,()))))) fun f=>.inl (tb p.1.length f,L,n,k,p,())):=by
 exact NX (step:=Cz) (two x) rq rg (fun j f=>(tb p.1.length f,L,n,k,two x,((two x).length:Int),(j:Int),p,())) (fun f=>.inl (tb p.1.length f,L,n,k,p,())) (.inr (.inr (.inr (.inr (false,()))))) (fun _ _=>True) (fun j hj f _=>by
  refine⟨?_,fun _=>trivial⟩
  have hy:=hr _ (List.getElem_mem hj)
  have wj:=AI (show j<9223372036854775807 by have:(two x).length=2:=rfl;omega)
  simp only [Cz,AR hj,decide_true,cond_true,AK hj,AP hj];generalize (two x)[j]=y at hy
  by_cases hn:y<0
  ·simp only [rq,rg,hn,decide_true,cond_true,Option.map_some,BE,wj,Bool.true_or]
  ·obtain⟨t,rfl⟩:∃ t:Nat,y=(t:Int):=⟨y.toNat,by omega⟩
   have htl:t<p.1.length:=by omega
   have htt:t<(tb p.1.length f).length:=by rw [Hx];exact htl
   by_cases h0:f t=0
   ·simp only [rq,rg,hn,decide_false,cond_false,AK htt,PP htl,h0,ne_eq,not_true_eq_false,decide_true,Int.toNat_natCast,Oa htl,CM,Option.map_some,BE,wj,Bool.or_true,cond_true]
   ·simp only [rq,rg,hn,decide_false,cond_false,AK htt,PP htl,h0,ne_eq,not_false_eq_true,decide_true,Int.toNat_natCast,Option.map_some,Av,cond_true,Bool.or_self]) (fun f _=>by
  simp only [Cz,AJ,decide_false,cond_false,Option.map_some]) f trivial
def qI (p:PROG) (f:Nat→Int) (i:Nat):Bool:=Hg p (i:Int) && (BZ rq rg (roots (rd p.2 (i:Int) zF)) f).isSome
def gI (p:PROG) (f:Nat→Int) (i:Nat):Nat→Int:=(BZ rq rg (roots (rd p.2 (i:Int) zF)) f).getD f
theorem pL (p:PROG) (hp:FineP p) (f:Nat→Int):
 AD EE (tb p.1.length f,p.2,(p.2.length:Int),(0:Int),p,())=some ((BZ (qI p) (gI p) (List.range p.2.length) f).elim (.inr (false,())) fun f=>.inl (tb p.1.length f,())):=by
 have hl:=hp.f
 have hr:(List.range p.2.length).length=p.2.length:=List.length_range
 have h:=NX (step:=EE) (List.range p.2.length) (qI p) (gI p) (fun i f=>(tb p.1.length f,p.2,(p.2.length:Int),(i:Int),p,())) (fun f=>.inl (tb p.1.length f,())) (.inr (false,())) (fun _ _=>True) (fun k hk f _=>by
  have hk':k<p.2.length:=by omega
  rw [List.getElem_range];have wk:=AI (show k<9223372036854775807 by omega)
  refine⟨?_,fun _=>trivial⟩
  have hx:=hp.a _ (List.getElem_mem hk')
  have hro:=NR (p:=p) (i:=(k:Int))
  have hfb:Hg p (k:Int)=(fnI p.1 p.2[k] && decide (CH p.2 p.2[k].1=(k:Int))):=by unfold Hg;rw [AP hk']
  simp only [EE,AR hk',decide_true,cond_true,AK hk',AP hk',Yn p hp.n _ hx,Option.bind_some,qI,gI,hfb];rw [AP hk',hfb] at hro;generalize p.2[k]=x at hx hro;cases hF:fnI p.1 x
  ·simp only [Bool.not_false,cond_true,AA,Option.map_some,Av,Bool.false_and,cond_false]
  ·simp only [Bool.not_true,cond_false,MQ p hp,Option.bind_some,AA,Bool.true_and]
   by_cases hA:CH p.2 x.1=(k:Int)
   ·have hro:=hro (by rw [hF,decide_eq_true hA];rfl)
    have hb:=hro x.2.2.2.1 (List.mem_cons_self ..)
    have htwo:∀ y∈two x,y<(p.1.length:Int):=fun y hy=>by
     rcases List.mem_cons.1 hy with rfl | hy
     ·exact hb.2
     ·obtain rfl:=List.mem_singleton.1 hy
      by_cases hc:(0:Int)≤x.2.2.2.2
      ·exact(hro x.2.2.2.2 (by unfold roots;rw [decide_eq_true hc];simp)).2
      ·omega
    have hm:=kO p p.2 (p.2.length:Int) (k:Int) x htwo f
    rw [am x hb.1] at hm;have hm':AD Cz (tb p.1.length f,p.2,(p.2.length:Int),(k:Int),[x.2.2.2.1,x.2.2.2.2],(List.length [x.2.2.2.1,x.2.2.2.2]:Int),(0:Int),p,())=_:=hm
    simp only [hA,ne_eq,not_true_eq_false,decide_false,decide_true,cond_false,hm'];cases BZ rq rg (roots x) f with
    | none=>simp only [Option.elim_none,Av,Option.isSome_none,Bool.and_false,Bool.true_and,cond_false]
    | some f'=>simp only [Option.elim_some,BE,Option.map_some,Option.isSome_some,Bool.and_self,Bool.true_and,cond_true,Option.getD_some,wk]
   ·simp only [hA,ne_eq,not_false_eq_true,decide_true,decide_false,cond_true,Option.map_some,Av,Bool.false_and,cond_false]) (fun f _=>by
  rw [hr];simp only [EE,AJ,decide_false,cond_false,Option.map_some]) f trivial
 exact h
theorem jp (p:PROG):∀ (is:List Nat) (f:Nat→Int),BZ (qI p) (gI p) is f=bif is.all (fun i=>Hg p (i:Int)) then BZ rq rg (GJ (is.map fun(i:Nat)=>rd p.2 (i:Int) zF)) f else none
 | [],f=>rfl
 | i::is,f=>by
  simp only [BZ,List.all_cons,List.map_cons,GJ,WN,qI,gI];cases Hg p (i:Int)
  ·rfl
  ·simp only [Bool.true_and];cases BZ rq rg (roots (rd p.2 (i:Int) zF)) f with
   | none=>simp only [Option.isSome_none,cond_false,Option.bind_none];cases is.all fun i=>Hg p (i:Int)<;>rfl
   | some f'=>simp only [Option.isSome_some,cond_true,Option.getD_some,Option.bind_some];exact jp p is f'
def Ou (b:Int) (l:List Int):Bool:=l.all fun v=>decide (v=1) || decide (v=b)
theorem kJ (l:List Int) (hl:l.length≤1048576):AD ED (l,(0:Int),())=some (bif Ou 1000 l then .inl () else .inr (false,())):=by
 exact Br (step:=ED) l (fun v=>decide (v=1) || decide (v=1000)) (fun k=>(l,(k:Int),())) (.inl ()) (.inr (false,())) (fun k hk=>by
  have wk:=AI (show k<9223372036854775807 by omega)
  simp only [ED,AR hk,decide_true,cond_true,AK hk,AP hk];generalize l[k]=v
  by_cases h1:v=1
  ·simp only [h1,ne_eq,not_true_eq_false,decide_false,decide_true,cond_false,AA,Option.map_some,wk,Bool.true_or,cond_true]
  ·by_cases h2:v=1000
   ·simp only [h2,show ¬ ((1000:Int)=1) by decide,ne_eq,not_true_eq_false,not_false_eq_true,decide_false,decide_true,cond_false,cond_true,AA,Option.map_some,wk,Bool.or_true]
   ·simp only [h1,h2,ne_eq,not_false_eq_true,decide_false,decide_true,cond_false,cond_true,AA,Option.map_some,Bool.or_self]) (by
  simp only [ED,AJ,decide_false,cond_false,Option.map_some])
theorem kI (l:List Int) (hl:l.length≤1048576):AD EF (l,(l.length:Int),(0:Int),())=some (bif Ou (-1) l then .inl () else .inr (false,())):=by
 exact Br (step:=EF) l (fun v=>decide (v=1) || decide (v = -1)) (fun k=>(l,(l.length:Int),(k:Int),())) (.inl ()) (.inr (false,())) (fun k hk=>by
  have wk:=AI (show k<9223372036854775807 by omega)
  simp only [EF,AR hk,decide_true,cond_true,AK hk,AP hk];generalize l[k]=v
  by_cases h1:v=1
  ·simp only [h1,ne_eq,not_true_eq_false,decide_false,decide_true,cond_false,AA,Option.map_some,wk,Bool.true_or,cond_true]
  ·by_cases h2:v = -1
   ·simp only [h2,show ¬ ((-1:Int)=1) by decide,ne_eq,not_true_eq_false,not_false_eq_true,decide_false,decide_true,cond_false,cond_true,AA,Option.map_some,wk,Bool.or_true]
   ·simp only [h1,h2,ne_eq,not_false_eq_true,decide_false,decide_true,cond_false,cond_true,AA,Option.map_some,Bool.or_self]) (by
  simp only [EF,AJ,decide_false,cond_false,Option.map_some])
set_option maxRecDepth 100000
theorem VU {α:Type} {f g:α→Bool}:∀ {l:List α},(∀ x∈l,f x=g x)→l.all f=l.all g
 | [],_=>rfl
 | x::l,h=>by rw [List.all_cons,List.all_cons,h x (List.mem_cons_self ..),VU fun y hy=>h y (List.mem_cons_of_mem _ hy)]
theorem Th (b:Int) (n:Nat) (f:Nat→Int):Ou b (tb n f)=(List.range n).all fun t=>decide (f t=1) || decide (f t=b):=by
 unfold Ou tb;rw [List.all_map];rfl
def Rl (n:Nat) (f h:Nat→Int):Prop:=∀ t,t<n→(f t = -1∧h t=1000)∨(0≤f t∧f t=h t∧f t<1000)
theorem Vy (n:Nat):∀ (rs:List Int) (f h:Nat→Int),(∀ y∈rs,(0:Int)≤y∧y<(n:Int))→Rl n f h→((BZ rq rg rs f).elim false fun f'=>Ou (-1) (tb n f'))=Ou 1000 (tb n (rs.foldl add h))
 | [],f,h,_,hR=>by
  simp only [BZ,Option.elim_some,List.foldl_nil];rw [Th,Th];refine VU fun t ht=>?_
  have ht:t<n:=by simpa using ht
  rcases hR t ht with⟨h1,h2⟩ | ⟨h1,h2,h3⟩
  ·rw [h1,h2];rfl
  ·rw [← h2];have e1:¬ f t = -1:=by omega
   have e2:¬ f t=1000:=by omega
   rw [decide_eq_false e1,decide_eq_false e2]
 | y::rs,f,h,hr,hR=>by
  obtain⟨y0,y1⟩:=hr y (List.mem_cons_self ..);obtain⟨r,rfl⟩:∃ r:Nat,y=(r:Int):=⟨y.toNat,by omega⟩
  have hrn:r<n:=by omega
  have hrest:=fun z hz=>hr z (List.mem_cons_of_mem _ hz)
  by_cases h0:f r=0
  ·have e1:rq f (r:Int)=true:=by unfold rq;rw [Int.toNat_natCast,decide_eq_true h0];simp
   have e2:rg f (r:Int)=upd f r (-1):=by unfold rg;rw [decide_eq_false (show ¬ (r:Int)<0 by omega)];rfl
   have hh:h r=0:=by
    rcases hR r hrn with⟨h1,_⟩ | ⟨_,h2,_⟩<;>omega
   simp only [BZ,e1,e2,cond_true,List.foldl_cons];refine Vy n rs _ _ hrest (fun t ht=>?_)
   unfold add upd;rw [Int.toNat_natCast]
   by_cases e:t=r
   ·rw [if_pos e,if_pos e,hh];left;omega
   ·rw [if_neg e,if_neg e];exact hR t ht
  ·have e1:rq f (r:Int)=false:=by
    unfold rq;rw [Int.toNat_natCast,decide_eq_false h0,decide_eq_false (show ¬ (r:Int)<0 by omega)];rfl
   simp only [BZ,e1,cond_false,Option.elim_none];rw [ig _ (fun z hz=>(hr z hz).1)]
   symm
   rw [Th];cases hb:(List.range n).all fun t=>decide (h t+1000 * (cnO ((r:Int)::rs) t:Int)=1) || decide (h t+1000 * (cnO ((r:Int)::rs) t:Int)=1000)
   ·rfl
   ·exfalso
    have:=List.all_eq_true.1 hb r (by simpa using hrn)
    simp only [cnO,decide_true,cond_true,Bool.or_eq_true,decide_eq_true_eq] at this;rcases hR r hrn with⟨h1,h2⟩ | ⟨h1,h2,h3⟩<;>omega
theorem XR:∀ (l:List Int) (n:Int) (t:Nat),BK l n=false→n=(t:Int)→cnO l t=0
 | [],_,_,_,_=>rfl
 | y::l,n,t,h,e=>by
  simp only [BK,List.any_cons,Bool.or_eq_false_iff] at h;have h1:decide (y=(t:Int))=false:=by rw [← e];exact h.1
  simp only [cnO,h1,cond_false,XR l n t h.2 e]
theorem dG {l:List NODE} {k:Int} (h:BT l k=true) (t:Nat):cnO (rd l k zN).2.2.2 t≤1:=by
 simp only [BT,Dx,MS,Bool.and_eq_true,List.all_eq_true] at h;have hd:=h.2.2.2.2.2
 generalize rd l k zN=x at hd;have key:∀ i,i≤x.2.2.2.length→cnO (x.2.2.2.take i) t≤1:=by
  intro i
  induction i with
  | zero=>intro _;simp [cnO]
  | succ i ih=>
   intro hi;have hi':i<x.2.2.2.length:=by omega
   have:=hd i (by simpa using hi')
   simp only [NW,Bool.and_eq_true,Bool.not_eq_true'] at this;have hh:=this.2.2
   have e:x.2.2.2.getD i 0=x.2.2.2[i]:=by simp [hi']
   rw [e] at hh;rw [List.take_succ_eq_append_getElem hi',jR]
   by_cases et:x.2.2.2[i]=(t:Int)
   ·rw [XR _ _ t hh et];simp only [cnO,decide_eq_true et,cond_true];omega
   ·simp only [cnO,decide_eq_false et,cond_false];have:=ih (by omega)
    omega
 have:=key x.2.2.2.length (Nat.le_refl _)
 rwa [List.take_length] at this
def AllN (l:List NODE):Prop:=∀ k:Nat,k<l.length→BT l (k:Int)=true∧dAt l k≠0
theorem TU {l:List NODE} (h:(0:Int)<AW l ((l.length:Int) - 1)):AllN l:=fun k hk=>by
 obtain⟨h1,h2,h3⟩:=Ae h;have h4:=h3 (k:Int) (by omega) (by omega)
 refine⟨(Ae h4).2.1,?_⟩
 unfold AW at h4;rw [decide_eq_true (by omega),cond_true,Int.toNat_natCast] at h4;omega
theorem AllN.kd {l:List NODE} (h:AllN l):Kd l:=⟨fun x hx y hy=>by
 obtain⟨k,hk,rfl⟩:=List.getElem_of_mem hx;have h1:=Lt (h k hk).1
 rw [AP hk] at h1;have:=h1 y hy
 omega⟩
theorem eG {l:List NODE} (h:AllN l) (t:Nat):us l t≤l.length:=by
 have key:∀ k,k≤l.length→us (l.take k) t≤k:=by
  intro k
  induction k with
  | zero=>intro _;simp [us]
  | succ k ih=>
   intro hk;have hk':k<l.length:=by omega
   have h1:=dG (h k hk').1 t
   rw [AP hk'] at h1;rw [List.take_succ_eq_append_getElem hk',ju];have:=ih (by omega)
   simp only [us];omega
 have:=key l.length (Nat.le_refl _)
 rwa [List.take_length] at this
def De (p:PROG):Bool:=decide (1≤(p.1.length:Int)∧(p.1.length:Int)≤300) && (decide (1≤(p.2.length:Int)∧(p.2.length:Int)≤8) && (decide ((0:Int)<AW p.1 ((p.1.length:Int) - 1)) && (Po p && Ou 1000 (tb p.1.length ((GJ p.2).foldl add (U p.1))))))
theorem YM {p:PROG} (h:Po p=true):∀ y∈GJ p.2,(0:Int)≤y∧y<(p.1.length:Int):=by
 have key:∀ l:List FN,(∀ x∈l,∀ y∈roots x,(0:Int)≤y∧y<(p.1.length:Int))→∀ y∈GJ l,(0:Int)≤y∧y<(p.1.length:Int):=by
  intro l
  induction l with
  | nil=>intro _ y hy;cases hy
  | cons x l ih=>
   intro hx y hy;rcases List.mem_append.1 hy with hy | hy
   ·exact hx x (List.mem_cons_self ..) y hy
   ·exact ih (fun z hz=>hx z (List.mem_cons_of_mem _ hz)) y hy
 refine key p.2 fun x hx=>?_
 obtain⟨i,hi,rfl⟩:=List.getElem_of_mem hx;have:=NR (List.all_eq_true.1 h i (by simpa using hi))
 rwa [AP hi] at this
theorem Mf (p:PROG) (hp:FineP p):EV p=some (De p,()):=by
 unfold EV De;simp only [sIn,Option.bind_some]
 by_cases h1:1≤(p.1.length:Int)∧(p.1.length:Int)≤300
 case neg=>simp only [h1,decide_false,Bool.not_false,cond_true,AA,Bool.false_and]
 by_cases h2:1≤(p.2.length:Int)∧(p.2.length:Int)≤8
 case neg=>simp only [h1,h2,and_self,decide_true,decide_false,Bool.not_true,Bool.not_false,cond_true,cond_false,AA,Bool.false_and,Bool.and_false]
 have hlast:p.1.length - 1<p.1.length:=by omega
 have ec:(p.1.length:Int) - 1=((p.1.length - 1:Nat):Int):=by omega
 have hD:=Ph p.1 hp.n (p.1.length - 1) hlast
 have hsucc:p.1.length - 1+1=p.1.length:=by omega
 rw [hsucc] at hD;have hlen:=EL p.1 p.1.length
 have hg:=FJ p.1 p.1.length (p.1.length - 1) hlast
 have hdA:AW p.1 ((p.1.length - 1:Nat):Int)=dAt p.1 (p.1.length - 1):=by
  unfold AW;rw [decide_eq_true (by omega),cond_true,Int.toNat_natCast]
 have hdl:=Pu p.1 (p.1.length - 1)
 have wr2:IntKind.wrap .i64 ((p.1.length - 1:Nat):Int)=((p.1.length - 1:Nat):Int):=Ar (by omega) (by omega)
 simp only [h1,h2,and_self,decide_true,Bool.not_true,cond_false,AA,Bool.true_and,ec,wr2,hD,Option.bind_some,hlen,AK hlast,hg,hdA]
 by_cases hz:dAt p.1 (p.1.length - 1)=0
 ·simp only [hz,decide_true,cond_true,show ¬ ((0:Int)<0) by decide,decide_false,Bool.false_and]
 have hpos:(0:Int)<dAt p.1 (p.1.length - 1):=by omega
 have hA:AllN p.1:=TU (by rw [ec,hdA];exact hpos)
 simp only [hz,hpos,decide_false,decide_true,cond_false,ka p.1 hp.n hA.kd (by omega),Option.bind_some,Bool.true_and];have hU:BI 1000000000 (U p.1):=fun t=>by
  have:=eG hA t
  unfold U;omega
 rw [pM p hp _ hU];cases Po p
 ·simp only [cond_false,Av,Bool.false_and]
 ·simp only [cond_true,BE,Option.bind_some,Bool.true_and];rw [kJ _ (by rw [Hx];omega)];cases Ou 1000 (tb p.1.length ((GJ p.2).foldl add (U p.1)))<;>simp only [cond_true,cond_false,BE,Av]
theorem Vt (p:PROG) (hp:FineP p):ID p=some (De p,()):=by
 unfold ID De;simp only [iIn,Option.bind_some,IC _ hp.n,Iu hp.n.len]
 by_cases h1:1≤(p.1.length:Int)∧(p.1.length:Int)≤300
 case neg=>simp only [h1,decide_false,Bool.not_false,cond_true,AA,Bool.false_and]
 by_cases h2:1≤(p.2.length:Int)∧(p.2.length:Int)≤8
 case neg=>simp only [h1,h2,and_self,decide_true,decide_false,Bool.not_true,Bool.not_false,cond_true,cond_false,AA,Bool.false_and,Bool.and_false]
 simp only [h1,h2,and_self,decide_true,Bool.not_true,cond_false,AA,Bool.true_and]
 by_cases hz:AW p.1 ((p.1.length:Int) - 1)=0
 ·simp only [hz,decide_true,cond_true,show ¬ ((0:Int)<0) by decide,decide_false,Bool.false_and]
 have hpos:=NV hz
 have hA:AllN p.1:=TU hpos
 have hb:∀ {α:Type} {K:Option α},(Cnd.both (Cnd.nn (p.1.length:Int)) (Cnd.le (p.1.length * 8) 140737488355328)).run K=K:=fun {α} {K}=>by
  simp only [Cnd.run];rw [if_pos (by omega),if_pos (by omega)]
 simp only [hz,hpos,decide_false,decide_true,cond_false,Int.toNat_natCast,hb,Option.bind_some,kZ p.1 p hp.n hA.kd (by omega),AA,Bool.true_and];rw [pL p hp,jp,WF];have hrel:Rl p.1.length (U p.1) (U p.1):=fun t ht=>.inr (by
  have:=eG hA t
  unfold U;omega)
 have hall:((List.range p.2.length).all fun i=>Hg p (i:Int))=Po p:=rfl
 rw [hall];cases hF:Po p
 ·simp only [cond_false,Option.elim_none,Av,Bool.false_and]
 ·have hm:=Vy p.1.length (GJ p.2) (U p.1) (U p.1) (YM hF) hrel
  simp only [cond_true,Bool.true_and];rw [← hm];cases BZ rq rg (GJ p.2) (U p.1) with
  | none=>simp only [Option.elim_none,Av]
  | some f=>
   simp only [Option.elim_some,BE,Option.bind_some];rw [kI _ (by rw [Hx];omega)];cases Ou (-1) (tb p.1.length f)<;>simp only [cond_true,cond_false,BE,Av]
set_option maxRecDepth 100000
section
variable {L:List SIGN} (hL:L.length≤3000)
include hL
theorem MN (r:RD) (k:Int) (s:ByteArray) (h:ROk L r):wp (BQ r k s) fun y=>Pg L r y.2.1:=by
 unfold BQ;exact AH (AE (Nd hL r h) fun v hv=>AH (AE (Cc hL _ _ hv.ok) fun m hm=>AH (AE (EG hL _ _ (by simp) hm.ok) fun p hp=>AC (hv.mv (hm.toMv.trans hp)))))
abbrev FS:=RD→Option (List Int×RD×Unit)
theorem ZQ {r0 r0':FS} {r1 r1' r2 r2':FV} (r:RD) (h:ROk L r) (H1:∀ q,ROk L q→r.2.1≤q.2.1→wq (r1 q) (r1' q) fun y=>Pg L q y.2.1):wq (CE r0 r1 r2 r) (CE r0' r1' r2' r) fun y=>Mv L r y.2.1∧y.1.length≤100000:=by
 unfold CE;refine Bg (AO (AZ (AM (Qs (fun x:DJ=>Mv L r x.2.1∧((x.1.length:Int)≤x.2.1.2.1∨(x.2.1.2.2.1=true∧(x.1.length:Int)≤x.2.1.2.1+1))) (fun x=>2 * (L.length - x.2.1.2.1).toNat+(bif x.2.1.2.2.1 then 0 else 1)) (Q:=fun x:List Int×RD×Unit=>Mv L r x.2.1∧x.1.length≤100000) (fun x hx=>?_) ⟨.rfl' h,.inl (by have:=h.a0;simpa using this)⟩) fun z hz=>AZ hz)))
 obtain⟨x1,x2,_⟩:=x;simp only at hx;obtain⟨g1,g2⟩:=hx;have ga:=g1.ok.a1
 unfold Bu;simp only;refine Bg (AM (Q:=fun z:List Int×Bool×RD×Unit=>z.1=x1∧z.2.2.1=x2∧(z.2.1=true→x2.2.2.1=false)) (BV (fun hb=>?_) fun _=>AZ ⟨rfl,rfl,fun h=>by cases h⟩) fun z hz=>?_)
 ·have hbad:x2.2.2.1=false:=by
   cases hc:x2.2.2.1
   ·rfl
   ·rw [hc] at hb;cases hb
  refine AO (AM (Al (Yq hL x2 3 _ g1.ok)) fun y hy=>BV (fun _=>?_) fun _=>AZ ⟨rfl,hy.1,fun h=>by cases h⟩)
  rw [hy.1];exact AO (AM (Al (Yq hL x2 1 _ g1.ok)) fun y2 hy2=>AZ ⟨rfl,hy2.1,fun _=>hbad⟩)
 obtain⟨z1,z2,z3,_⟩:=z;simp only at hz;obtain⟨e1,e2,hb⟩:=hz;subst e1 e2;simp only;refine BV (fun hb2=>?_) fun _=>KB (AZ (Bp ⟨g1,by simp only;omega⟩))
 have hbad:=hb hb2
 have gl:(z1.length:Int)≤z3.2.1:=by
  rcases g2 with g2 | ⟨g2,_⟩
  ·exact g2
  ·rw [hbad] at g2;cases g2
 refine AO (AM (H1 _ g1.ok g1.le) fun y5 hy5=>Bk (by simp only [Cnd.holds,List.length_singleton];omega) (KB (AZ (CV ⟨⟨(g1.pg hy5).toMv,?_⟩,?_⟩))))
 ·have h2:=hy5.le
  simp only [List.length_append,List.length_singleton];rcases hy5.pg with h1 | h1
  ·exact .inr ⟨h1,by omega⟩
  ·exact .inl (by omega)
 ·have h2:=hy5.le
  have h3:=hy5.ok.a1
  simp only [hbad,cond_false];rcases hy5.pg with h1 | h1
  ·rw [h1,cond_true];omega
  ·cases y5.2.1.2.2.1<;>simp only [cond_true,cond_false]<;>omega
theorem YQ {r0 r0':FS} {r1 r1' r2 r2':FV} (r:RD) (h:ROk L r) (H0:∀ q,ROk L q→r.2.1≤q.2.1→wq (r0 q) (r0' q) fun y=>Mv L q y.2.1∧y.1.length≤100000):wq (Ba r0 r1 r2 r) (Ba r0' r1' r2' r) fun y=>Pg L r y.2.1:=by
 unfold Ba;have m0:=(Mv.rfl' h).deep (IntKind.wrap .i64 (r.2.2.2.1+1))
 refine Bg (AM (Q:=fun x:RD×Unit=>Mv L r x.1) (BV (fun _=>AZ ⟨⟨m0.ok.l,m0.ok.a0,m0.ok.a1,m0.ok.n,m0.ok.k⟩,Int.le_refl _,fun _=>rfl⟩) fun _=>AZ m0) fun x hx=>?_)
 refine AO (AM (Al (Cc hL _ _ hx.ok)) fun y2 hy2=>AO (AM (H0 _ hy2.ok (Int.le_trans hx.le hy2.le)) fun y3 hy3=>AO (AM (Al (Cc hL _ _ hy3.1.ok)) fun y4 hy4=>?_)))
 have p:=((hx.pg hy2).mv (hy3.1.trans hy4.toMv)).deep (IntKind.wrap .i64 (y4.1.2.2.2.1 - 1))
 exact AO (AM (Al (EG hL _ _ hy3.2 p.ok)) fun y5 hy5=>AZ (p.mv hy5))
theorem ZP {r0 r0':FS} {r1 r1' r2 r2':FV} (r:RD) (h:ROk L r) (H2:∀ q,ROk L q→r.2.1<q.2.1→wq (r2 q) (r2' q) fun y=>Pg L q y.2.1):wq (CR r0 r1 r2 r) (CR r0' r1' r2' r) fun y=>Pg L r y.2.1:=by
 unfold CR;have nx:∀ {a b:RD},Mv L r a→a.2.1<b.2.1→r.2.1<b.2.1:=fun h1 h2=>by have:=h1.le;omega
 refine AO (AM (Al (BB hL _ 1 _ h)) fun y1 hy1=>BV (fun hb=>?_) (fun _=>?_))
 ·have p:=(hy1.2 hb).1
  exact AO (AM (Al (HC hL _ p.ok)) fun n hn=>AO (AM (Al (Cc hL _ _ hn.ok)) fun m hm=>AO (AM (Al (MN hL _ _ _ hm.ok)) fun q hq=>AZ (p.mv (hn.toMv.trans (hm.toMv.trans hq.toMv))))))
 have m1:=hy1.1
 refine AO (AM (Al (BB hL _ 3 _ m1.ok)) fun y5 hy5=>BV (fun hb=>?_) (fun _=>?_))
 ·have p:=m1.pg (hy5.2 hb).1
  exact AO (AM (Al (HC hL _ p.ok)) fun n hn=>AO (AM (Al (Cc hL _ _ hn.ok)) fun m hm=>AO (AM (Al (MN hL _ _ _ hm.ok)) fun q hq=>AZ (p.mv (hn.toMv.trans (hm.toMv.trans hq.toMv))))))
 have m2:=m1.trans hy5.1
 refine AO (AM (Al (BB hL _ 1 _ m2.ok)) fun y9 hy9=>BV (fun hb=>?_) (fun _=>?_))
 ·have p:=m2.pg (hy9.2 hb).1
  have pl:=nx m2 (hy9.2 hb).2
  refine AO (AM (Al (Nd hL _ p.ok)) fun v hv=>AO (AM (H2 _ hv.ok (by have:=hv.le;omega)) fun b hb2=>AO (AM (Al (BB hL _ 1 _ hb2.ok)) fun e he=>Bg (AM (Q:=fun x:Int×Int×RD×Unit=>Pg L r x.2.2.1∧r.2.1<x.2.2.1.2.1) (BV (fun _=>?_) fun _=>?_) fun x hx=>?_))))
  ·have q:=(p.mv (hv.toMv.trans (hb2.toMv.trans he.1)))
   exact AZ ⟨q.toMv.bad,by have:=hv.le;have:=hb2.le;have:=he.1.le;simp only;omega⟩
  ·exact AZ ⟨p.mv (hv.toMv.trans (hb2.toMv.trans he.1)),by have:=hv.le;have:=hb2.le;have:=he.1.le;simp only;omega⟩
  ·exact AO (AM (H2 _ hx.1.ok hx.2) fun d hd=>AO (AM (Al (EG hL _ _ (by simp) hd.ok)) fun q hq=>AZ (hx.1.mv (hd.toMv.trans hq))))
 have m3:=m2.trans hy9.1
 refine AO (AM (Al (BB hL _ 1 _ m3.ok)) fun y16 hy16=>BV (fun hb=>?_) (fun _=>?_))
 ·have p:=m3.pg (hy16.2 hb).1
  have pl:=nx m3 (hy16.2 hb).2
  exact AO (AM (Al (Nd hL _ p.ok)) fun v hv=>AO (AM (H2 _ hv.ok (by have:=hv.le;omega)) fun b hb2=>AO (AM (Al (EG hL _ _ (by simp) hb2.ok)) fun q hq=>AZ (p.mv (hv.toMv.trans (hb2.toMv.trans hq))))))
 have m4:=m3.trans hy16.1
 refine AO (AM (Al (BB hL _ 1 _ m4.ok)) fun y20 hy20=>BV (fun hb=>?_) (fun _=>?_))
 ·have p:=m4.pg (hy20.2 hb).1
  exact AO (AM (Al (MN hL _ _ _ p.ok)) fun q hq=>AZ (p.mv hq.toMv))
 have m5:=m4.trans hy20.1
 refine AO (AM (Al (BB hL _ 1 _ m5.ok)) fun y22 hy22=>BV (fun hb=>?_) (fun _=>?_))
 ·have p:=m5.pg (hy22.2 hb).1
  exact AO (AM (Al (MN hL _ _ _ p.ok)) fun q hq=>AZ (p.mv hq.toMv))
 have m6:=m5.trans hy22.1
 exact AO (AM (Al (HC hL _ m6.ok)) fun n hn=>AO (AM (Al (Cc hL _ _ hn.ok)) fun m hm=>AO (AM (Al (MN hL _ _ _ hm.ok)) fun q hq=>AZ ((m6.pg hn).mv (hm.toMv.trans hq.toMv)))))
theorem eK:∀ k:Nat,(∀ n n',3 * k+2≤n→3 * k+2≤n'→∀ r,ROk L r→L.length - r.2.1≤k→wq ((AL n).2.1 r) ((AL n').2.1 r) fun y=>Pg L r y.2.1) ∧
 (∀ n n',3 * k+3≤n→3 * k+3≤n'→∀ r,ROk L r→L.length - r.2.1≤k→wq ((AL n).1 r) ((AL n').1 r) fun y=>Mv L r y.2.1∧y.1.length≤100000) ∧
 (∀ n n',3 * k+4≤n→3 * k+4≤n'→∀ r,ROk L r→L.length - r.2.1≤k→wq ((AL n).2.2.1 r) ((AL n').2.2.1 r) fun y=>Pg L r y.2.1):=by
 have main:∀ k:Nat,(∀ n n',3 * k+1≤n→3 * k+1≤n'→∀ r,ROk L r→L.length - r.2.1<k→wq ((AL n).2.2.1 r) ((AL n').2.2.1 r) fun y=>Pg L r y.2.1) →
  (∀ n n',3 * k+2≤n→3 * k+2≤n'→∀ r,ROk L r→L.length - r.2.1≤k→wq ((AL n).2.1 r) ((AL n').2.1 r) fun y=>Pg L r y.2.1) ∧
  (∀ n n',3 * k+3≤n→3 * k+3≤n'→∀ r,ROk L r→L.length - r.2.1≤k→wq ((AL n).1 r) ((AL n').1 r) fun y=>Mv L r y.2.1∧y.1.length≤100000) ∧
  (∀ n n',3 * k+4≤n→3 * k+4≤n'→∀ r,ROk L r→L.length - r.2.1≤k→wq ((AL n).2.2.1 r) ((AL n').2.2.1 r) fun y=>Pg L r y.2.1):=by
  intro k iB;have hT:∀ n n',3 * k+2≤n→3 * k+2≤n'→∀ r,ROk L r→L.length - r.2.1≤k→wq ((AL n).2.1 r) ((AL n').2.1 r) fun y=>Pg L r y.2.1:=by
   intro n n' hn hn' r h hk;obtain⟨n,rfl⟩:∃ j,n=j+1:=⟨n - 1,by omega⟩
   obtain⟨n',rfl⟩:∃ j,n'=j+1:=⟨n' - 1,by omega⟩
   exact ZP hL (r0:=(AL n).1) (r0':=(AL n').1) (r1:=(AL n).2.1) (r1':=(AL n').2.1) r h (fun q hq hlt=>iB n n' (by omega) (by omega) q hq (by omega))
  have hS:∀ n n',3 * k+3≤n→3 * k+3≤n'→∀ r,ROk L r→L.length - r.2.1≤k→wq ((AL n).1 r) ((AL n').1 r) fun y=>Mv L r y.2.1∧y.1.length≤100000:=by
   intro n n' hn hn' r h hk;obtain⟨n,rfl⟩:∃ j,n=j+1:=⟨n - 1,by omega⟩
   obtain⟨n',rfl⟩:∃ j,n'=j+1:=⟨n' - 1,by omega⟩
   exact ZQ hL (r0:=(AL n).1) (r0':=(AL n').1) (r2:=(AL n).2.2.1) (r2':=(AL n').2.2.1) r h (fun q hq hle=>hT n n' (by omega) (by omega) q hq (by omega))
  refine⟨hT,hS,fun n n' hn hn' r h hk=>?_⟩
  obtain⟨n,rfl⟩:∃ j,n=j+1:=⟨n - 1,by omega⟩
  obtain⟨n',rfl⟩:∃ j,n'=j+1:=⟨n' - 1,by omega⟩
  exact YQ hL (r1:=(AL n).2.1) (r1':=(AL n').2.1) (r2:=(AL n).2.2.1) (r2':=(AL n').2.2.1) r h (fun q hq hle=>hS n n' (by omega) (by omega) q hq (by omega))
 intro k
 induction k with
 | zero=>exact main 0 fun n n' hn hn' r h hk=>by have:=h.a1;omega
 | succ k ih=>exact main (k+1) fun n n' hn hn' r h hk=>ih.2.2 n n' (by omega) (by omega) r h (by omega)
theorem aM (r:RD) (h:ROk L r):wp (Di r) fun y=>Mv L r y.2.1∧y.1.length≤100000:=by
 unfold Di;exact Wk (3 * 3000+3) fun n hn=>(eK hL 3000).2.1 n _ hn (Nat.le_refl _) r h (by have:=h.a0;omega)
theorem XW (r:RD) (h:ROk L r):wp (CL r) fun y=>Mv L r y.2.1:=by
 unfold CL;refine AH (AE (BB hL _ 1 _ h) fun y1 hy1=>Ad (fun _=>AC hy1.1) fun _=>AH (AE (BB hL _ 1 _ hy1.1.ok) fun y2 hy2=>Ad (fun _=>AC (hy1.1.trans hy2.1)) fun _=>?_))
 have m2:=hy1.1.trans hy2.1
 refine AH (AE (Cc hL _ _ m2.ok) fun y3 hy3=>AH (AE (BB hL _ 1 _ hy3.ok) fun y4 hy4=>Ap (AE (Q:=fun x:Int×RD×Unit=>Mv L r x.2.1) (Ad (fun _=>AC (m2.trans (hy3.toMv.trans hy4.1))) fun _=>AC (m2.trans (hy3.toMv.trans hy4.1))) fun x hx=>?_)))
 refine AH (AE (BB hL _ 1 _ hx.ok) fun y6 hy6=>Ap (AE (Q:=fun x:Int×RD×Unit=>Mv L r x.2.1) (Ad (fun _=>AC (hx.trans hy6.1).bad.toMv) fun _=>AC (hx.trans hy6.1)) fun z hz=>AC hz))
theorem jo (r:RD) (h:ROk L r):wp (Dr r) fun y=>Pg L r y.2.1∧(y.1:FN).2.1.length≤100000:=by
 unfold Dr;refine AH (AE (BB hL _ 1 _ h) fun y1 hy1=>Ap (AE (Q:=fun x:RD×FN×Unit=>Pg L r x.1) (Ad (fun _=>AC hy1.1.bad) fun hb=>AC (hy1.2 ?_).1) fun x2 hx2=>?_))
 ·cases hc:y1.1
  ·rw [hc] at hb;cases hb
  ·rfl
 refine AH (AE (HC hL _ hx2.ok) fun y3 hy3=>AH (AE (Cc hL _ _ hy3.ok) fun y4 hy4=>AH (AE (BB hL _ 3 _ hy4.ok) fun y5 hy5=>?_)))
 have p5:=hx2.mv (hy3.toMv.trans (hy4.toMv.trans hy5.1))
 refine Ap (AE (Q:=fun x:RD×FN×FN×Unit=>Pg L r x.1∧x.2.2.1.2.1.length≤100000) (Ad (fun _=>?_) fun _=>AC ⟨p5,by simp⟩) fun x13 hx13=>?_)
 ·refine Ap (AH (AC (AE (wp_loop (fun x:CO=>Pg L r x.1∧((x.2.2.1.2.1.length:Int)≤x.1.2.1∨(x.1.2.2.1=true∧(x.2.2.1.2.1.length:Int)≤x.1.2.1+1))) (fun x=>2 * (L.length - x.1.2.1).toNat+(bif x.1.2.2.1 then 0 else 1)) (Q:=fun x:RD×FN×FN×Unit=>Pg L r x.1∧x.2.2.1.2.1.length≤100000) (fun x hx=>?_) ⟨p5,.inl (by have:=p5.ok.a0;simpa using this)⟩) fun z hz=>AC hz)))
  obtain⟨x1,x2,x3,_⟩:=x;simp only at hx;obtain⟨g1,g2⟩:=hx;have ga:=g1.ok.a1
  unfold FE;simp only;refine Ad (fun hb=>?_) fun _=>Aq (AC (Bp ⟨g1,by simp only;omega⟩))
  have hbad:x1.2.2.1=false:=by
   cases hc:x1.2.2.1
   ·rfl
   ·rw [hc] at hb;cases hb
  have gl:(x3.2.1.length:Int)≤x1.2.1:=by
   rcases g2 with g2 | ⟨g2,_⟩
   ·exact g2
   ·rw [hbad] at g2;cases g2
  refine AH (AE (HC hL _ g1.ok) fun y7 hy7=>AH (AE (Cc hL _ _ hy7.ok) fun y8 hy8=>AH (AE (XW hL _ hy8.ok) fun y9 hy9=>AQ (by simp only [Cnd.holds,List.length_singleton];omega) (AH (AE (BB hL _ 3 _ hy9.ok) fun y10 hy10=>?_)))))
  have m10:=hy7.mv (hy8.toMv.trans (hy9.trans hy10.1))
  refine Ad (fun _=>Aq (AC (Bp ⟨g1.mv m10.toMv,by simp only [List.length_append,List.length_singleton];omega⟩))) fun _=>AH (AE (Cc hL _ _ hy10.1.ok) fun y11 hy11=>Aq (AC (CV ⟨⟨g1.mv (m10.mv hy11.toMv).toMv,?_⟩,?_⟩)))
  ·have h2:=(m10.mv hy11.toMv).le
   simp only [List.length_append,List.length_singleton];rcases(m10.mv hy11.toMv).pg with h1 | h1
   ·exact .inr ⟨h1,by omega⟩
   ·exact .inl (by omega)
  ·have h2:=(m10.mv hy11.toMv).le
   have h3:=hy11.ok.a1
   simp only [hbad,cond_false];rcases(m10.mv hy11.toMv).pg with h1 | h1
   ·rw [h1,cond_true];omega
   ·cases y11.1.2.2.1<;>simp only [cond_true,cond_false]<;>omega
 refine AH (AE (BB hL _ 3 _ hx13.1.ok) fun y14 hy14=>Ap (AE (Q:=fun x:RD×FN×FN×Unit=>Pg L r x.1∧x.2.2.1.2.1.length≤100000) (Ad (fun _=>AH (AE (XW hL _ hy14.1.ok) fun k hk=>AC ⟨hx13.1.mv (hy14.1.trans hk),hx13.2⟩)) fun _=>AC ⟨hx13.1.mv hy14.1,hx13.2⟩) fun x16 hx16=>?_))
 refine AH (AE (Cc hL _ _ hx16.1.ok) fun y17 hy17=>AH (AE (aM hL _ hy17.ok) fun y18 hy18=>AH (AE (EG hL _ _ hy18.2 hy18.1.ok) fun y19 hy19=>AH (AE (BB hL _ 1 _ hy19.ok) fun y20 hy20=>?_))))
 have p20:=hx16.1.mv (hy17.toMv.trans (hy18.1.trans (hy19.trans hy20.1)))
 refine Ap (AE (Q:=fun x:RD×FN×FN×Unit=>Pg L r x.1∧x.2.2.1.2.1.length≤100000) (Ad (fun _=>AH (AE (Nd hL _ p20.ok) fun v hv=>AH (AE (Cc hL _ _ hv.ok) fun m hm=>AC ⟨p20.mv (hv.toMv.trans hm.toMv),hx16.2⟩))) fun _=>AC ⟨p20,hx16.2⟩) fun x23 hx23=>?_)
 exact AH (AE (Cc hL _ _ hx23.1.ok) fun y24 hy24=>AC ⟨hx23.1.mv hy24.toMv,hx23.2⟩)
end
def PRd (p:PROG):Prop:=FineP p∧(De p=true∨p=([],[]))
def bp (p:PROG):Prop:=(∀ x∈p.1,(x:NODE).2.2.2.length≤100000)∧∀ f∈p.2,(f:FN).2.1.length≤100000
theorem Kb (t:ByteArray):wp (Bc t) fun y=>PRd y.1∧(y.2.1=true→De y.1=true)∧bp y.1:=by
 unfold Bc;have hnil:PRd ([],[])∧(false=true→De ([],[])=true)∧bp ([],[]):=⟨⟨⟨⟨by simp,by simp⟩,by simp,by simp⟩,.inr rfl⟩,fun h=>(by cases h),by simp,by simp⟩
 refine AH (AE (dW t) fun y1 hL=>Ad (fun _=>AC hnil) fun _=>?_)
 refine Ap (AH (AC ?_))
 refine AE (wp_loop (fun x:CD=>x.1=([],[])∧ROk y1.1 x.2.2.1∧x.2.1.2.length≤10∧∀ f∈x.2.1.2,(f:FN).2.1.length≤100000) (fun x=>2 * (y1.1.length - x.2.2.1.2.1).toNat+(bif x.2.2.1.2.2.1 then 0 else 1)) (Q:=fun x:PROG×PROG×RD×Unit=>ROk y1.1 x.2.2.1∧x.2.1.2.length≤10∧∀ f∈x.2.1.2,(f:FN).2.1.length≤100000) (fun x hx=>?_) ⟨rfl,⟨rfl,by simp,by simp,by simp,by simp⟩,by simp,by simp⟩) (fun x hx=>?_)
 ·obtain⟨x0,x1,x2,_⟩:=x;simp only at hx;obtain⟨g0,g1,g2,g3⟩:=hx;subst g0;have ga:=g1.a1
  unfold Ed;simp only;refine Ap (AE (Q:=fun z:Bool×PROG×PROG×RD×Unit=>z.2.1=([],[])∧z.2.2.1=x1∧z.2.2.2.1=x2∧(z.1=true→x2.2.2.1=false∧x1.2.length≤8)) (Ad (fun hb=>Ad (fun _=>AC ⟨rfl,rfl,rfl,fun h=>⟨?_,?_⟩⟩) fun _=>AC ⟨rfl,rfl,rfl,fun h=>by cases h⟩) fun _=>AC ⟨rfl,rfl,rfl,fun h=>by cases h⟩) fun z hz=>?_)
  ·cases hc:x2.2.2.1
   ·rfl
   ·rw [hc] at hb;cases hb
  ·have:(List.length x1.2:Int)≤8:=by simpa using h
   omega
  obtain⟨z0,z1,z2,z3,_⟩:=z;simp only at hz;obtain⟨e1,e2,e3,hb⟩:=hz;subst e1 e2 e3;simp only;refine Ad (fun hb2=>?_) fun _=>Aq (AC (Bp ⟨g1,g2,g3⟩))
  obtain⟨hbad,h8⟩:=hb hb2;refine AH (AE (jo hL _ g1) fun y4 hy4=>AQ (by simp only [Cnd.holds,List.length_singleton];omega) (Aq (AC (CV ⟨⟨rfl,hy4.1.ok,by simp only [List.length_append,List.length_singleton];omega,fun f hf=>?_⟩,?_⟩))))
  ·rcases List.mem_append.1 hf with hf | hf
   ·exact g3 f hf
   ·rw [List.mem_singleton.1 hf];exact hy4.2
  ·have h2:=hy4.1.le
   have h3:=hy4.1.ok.a1
   simp only [hbad,cond_false];rcases hy4.1.pg with h1 | h1
   ·rw [h1,cond_true];omega
   ·cases y4.2.1.2.2.1<;>simp only [cond_true,cond_false]<;>omega
 ·obtain⟨x0,x1,x2,_⟩:=x;simp only at hx;obtain⟨g1,g2,g3⟩:=hx;have hf:FineP (x2.2.2.2.2,x1.2):=⟨⟨by have:=g1.n;simp only;omega,fun x hx=>by have:=g1.k x hx;omega⟩,by simp only;omega,fun f hf=>by have:=g3 f hf;omega⟩
  simp only;refine Ap (AE (Q:=fun z:Bool×PROG×PROG×Unit=>z.2.2.1=(x2.2.2.2.2,x1.2)∧(z.1=false→De (x2.2.2.2.2,x1.2)=true)) (Ad (fun _=>AC ⟨rfl,fun h=>by cases h⟩) fun _=>?_) fun z hz=>Ad (fun _=>AC hnil) fun hb=>AC ?_)
  ·rw [Mf _ hf];exact AH (AC (AC ⟨rfl,fun h=>by simpa using h⟩))
  ·obtain⟨z0,z1,z2,_⟩:=z;simp only at hz hb;obtain⟨e1,h1⟩:=hz;subst e1;exact⟨⟨hf,.inl (h1 hb)⟩,fun _=>h1 hb,g1.k,g3⟩
theorem Tp (c:Cur) (h:COk c):wp (Cx c) fun y=>PRd y.1∧COk y.2.1:=by
 unfold Cx;refine AH (AE (Xk c 9 (by omega) (by omega) h) fun y1 hy1=>AH (AE (Kb _) fun y2 hy2=>Ap (AE (Q:=fun x:Cur×PROG×PROG×Unit=>PRd x.2.2.1∧COk x.1) (Ad (fun _=>?_) fun _=>AC ⟨hy2.1,hy1.2⟩) fun x hx=>AC hx)))
 exact AH (AE (Kb _) fun y3 hy3=>Ap (AE (Q:=fun x:Cur×PROG×PROG×Unit=>PRd x.2.2.1∧COk x.1) (Ad (fun _=>AH (AE (Kb _) fun y4 hy4=>AC ⟨hy4.1,hy1.2⟩)) fun _=>AC ⟨hy3.1,hy1.2⟩) fun x hx=>AC hx))
set_option maxRecDepth 100000
def Le {α:Type} (a b:Option α):Prop:=∀ r,a=some r→b=some r
theorem Le.refl {α:Type} (a:Option α):Le a a:=fun _ h=>h
theorem Le.bind {α β:Type} {x x':Option α} {k k':α→Option β} (h:Le x x') (hk:∀ a,Le (k a) (k' a)):Le (x.bind k) (x'.bind k'):=fun r e=>by
 obtain⟨a,h1,h2⟩:=Option.bind_eq_some_iff.1 e;exact Option.bind_eq_some_iff.2 ⟨a,h a h1,hk a r h2⟩
theorem Le.joinP {α β:Type} {x x':Option β} {k k':β→Option α} (h:Le x x') (hk:∀ a,Le (k a) (k' a)):Le (Go.Proofs.YtmakhmoielhjeaaGreatDoorE.joinP x k) (Go.Proofs.YtmakhmoielhjeaaGreatDoorE.joinP x' k'):=Le.bind h hk
theorem Le.joinS {α β:Type} {x x':Option (β ⊕ α)} {k k':β→Option α} (h:Le x x') (hk:∀ a,Le (k a) (k' a)):Le (Go.Proofs.YtmakhmoielhjeaaGreatDoorE.joinS x k) (Go.Proofs.YtmakhmoielhjeaaGreatDoorE.joinS x' k'):=Le.bind h fun a=>by
 cases a with
 | inl b=>exact hk b
 | inr r=>exact Le.refl _
theorem Le.map {α β:Type} {x x':Option α} {f:α→β} (h:Le x x'):Le (x.map f) (x'.map f):=fun r e=>by
 obtain⟨a,h1,h2⟩:=Option.map_eq_some_iff.1 e;exact Option.map_eq_some_iff.2 ⟨a,h a h1,h2⟩
theorem Le.cond {α:Type} {b:Bool} {x x' y y':Option α} (h1:Le x x') (h2:Le y y'):Le (bif b then x else y) (bif b then x' else y'):=by
 cases b
 ·exact h2
 ·exact h1
theorem Le.run {α:Type} (c:Cnd):∀ {x x':Option α},Le x x'→Le (c.run x) (c.run x'):=by
 induction c with
 | tt=>exact fun h=>h
 | both a b iha ihb=>exact fun h=>iha (ihb h)
 | _=>
  all_goals
   intro x x' h r e;simp only [Cnd.run] at e ⊢;split at e
   ·rename_i hc;first | (rw [if_pos hc];exact h r e) | cases e
   ·rename_i hc;first | (rw [if_neg hc];exact h r e) | cases e
theorem Le.loop {α β:Type} {s s':β→Option (β ⊕ α)} (h:∀ b,Le (s b) (s' b)) {n:Nat} {b:β}:Le (Cb s n b) (AD s' b):=fun r e=>by
 have key:∀ (n:Nat) (b:β),Cb s n b=some r→Cb s' n b=some r:=fun n=>by
  induction n with
  | zero=>intro b e;cases e
  | succ n ih=>
   intro b e;simp only [Cb] at e ⊢;cases hs:s b with
   | none=>rw [hs] at e;cases e
   | some x=>
    rw [hs] at e;rw [h b x hs];cases x with
    | inl b'=>exact ih b' e
    | inr q=>exact e
 exact GU.2 ⟨n,key n b e⟩
def Uw (c:PROG):Bool:=decide (c.1.length≤1048576) && (c.1.all (fun x=>decide (x.2.2.2.length≤1048576)) && (decide (c.2.length≤1048576) && c.2.all fun w=>decide (w.2.1.length≤1048576)))
theorem Zv {c:PROG} (h:Uw c=true):FineP c:=by
 simp only [Uw,Bool.and_eq_true,decide_eq_true_eq,List.all_eq_true] at h;exact⟨⟨h.1,h.2.1⟩,h.2.2.1,h.2.2.2⟩
def Pa (s:ByteArray):Option (Bool×Unit):=some (Bo s,())
theorem Tj (s:ByteArray):Le (Pa s) (DQ s):=fun r h=>by rw [GM];exact h
def JG (c:PROG):Option (Bool×Unit):=bif Uw c then some (De c,()) else none
theorem Qt (c:PROG):Le (JG c) (EV c):=fun r h=>by
 unfold JG at h;cases hb:Uw c
 ·rw [hb] at h;cases h
 ·rw [hb] at h;rw [Mf c (Zv hb)];exact h
noncomputable def KS (a0:ByteArray) (a1:Int):Option ((ByteArray×Unit)):=(Iy).bind fun y1=>joinS ((some (a0,a1,y1.1,(0:Int),())).bind fun x20=>Cb JP 60 x20) fun x4=>some ((⟨#[]⟩:ByteArray),())
theorem SX   (a0:ByteArray) (a1:Int):Le (KS a0 a1) (GO a0 a1):=by
 unfold KS GO
 repeat' (first | with_reducible exact Le.refl _ | assumption | refine Le.cond ?_ ?_ | refine Le.joinP ?_ fun _=>?_ | refine Le.joinS ?_ fun _=>?_ | refine Le.bind ?_ fun _=>?_ | refine Le.map ?_ | refine Le.run _ ?_ | refine Le.loop fun _=>?_)
noncomputable def IU (x1:Ca):Option (Ca ⊕ ((List (Y13)×Unit) ⊕ (List (Y13)×Bool×Unit))):=bif decide (x1.2.2.2.1<(x1.1.size:Int)) then joinS (joinP ((Cnd.idx x1.2.2.2.1 x1.1.size).run (bif decide ((bAt x1.1 x1.2.2.2.1)=(32:Int)) then some (x1.1,x1.2.1,x1.2.2.1,x1.2.2.2.1,true,()) else (Cnd.idx x1.2.2.2.1 x1.1.size).run (some (x1.1,x1.2.1,x1.2.2.1,x1.2.2.2.1,decide ((bAt x1.1 x1.2.2.2.1)=(10:Int)),())))) fun x2=>bif x2.2.2.2.2.1 then (some (x2.1,x2.2.1,x2.2.2.1,IntKind.wrap .i64 (x2.2.2.2.1+(1:Int)),())).map Sum.inl else (Cnd.idx x2.2.2.2.1 x2.1.size).run ((Ck (bAt x2.1 x2.2.2.2.1)).bind fun y3=>bif y3.1 then joinP ((some (x2.1,x2.2.1,x2.2.2.1,x2.2.2.2.1,x2.2.2.2.1,())).bind fun x40=>Cb HM 60 x40) fun x8=>bif decide ((8:Int)<(IntKind.wrap .i64 (x8.2.2.2.2.1 - x8.2.2.2.1))) then (((some (x8.2.1,false,())).map Sum.inr).map Sum.inr).map Sum.inr else (Cnd.cut x8.2.2.2.1 x8.2.2.2.2.1 x8.1.size).run ((Cnd.le ((List.length x8.2.2.1+List.length [((1:Int),(sub x8.1 x8.2.2.2.1 x8.2.2.2.2.1,(0:Int)))]) * 32) 140737488355328).run ((some (x8.1,x8.2.1,x8.2.2.1++[((1:Int),(sub x8.1 x8.2.2.2.1 x8.2.2.2.2.1,(0:Int)))],x8.2.2.2.2.1,())).map Sum.inl)) else (Cnd.idx x2.2.2.2.1 x2.1.size).run ((Cj (bAt x2.1 x2.2.2.2.1)).bind fun y9=>bif y9.1 then joinP ((some (x2.1,x2.2.1,x2.2.2.1,x2.2.2.2.1,x2.2.2.2.1,(0:Int),())).bind fun x100=>Cb HN 60 x100) fun x13=>joinP (bif decide ((10:Int)<(IntKind.wrap .i64 (x13.2.2.2.2.1 - x13.2.2.2.1))) then some (x13.1,x13.2.1,x13.2.2.1,x13.2.2.2.2.1,x13.2.2.2.2.2.1,true,()) else some (x13.1,x13.2.1,x13.2.2.1,x13.2.2.2.2.1,x13.2.2.2.2.2.1,decide ((1000000000:Int)<x13.2.2.2.2.2.1),())) fun x14=>bif x14.2.2.2.2.2.1 then (((some (x14.2.1,false,())).map Sum.inr).map Sum.inr).map Sum.inr else (Cnd.le ((List.length x14.2.2.1+List.length [((2:Int),((⟨#[]⟩:ByteArray),x14.2.2.2.2.1))]) * 32) 140737488355328).run ((some (x14.1,x14.2.1,x14.2.2.1++[((2:Int),((⟨#[]⟩:ByteArray),x14.2.2.2.2.1))],x14.2.2.2.1,())).map Sum.inl) else (KS x2.1 x2.2.2.2.1).bind fun y15=>bif decide (y15.1=(⟨#[]⟩:ByteArray)) then (((some (x2.2.1,false,())).map Sum.inr).map Sum.inr).map Sum.inr else (Cnd.le ((List.length x2.2.2.1+List.length [((3:Int),(y15.1,(0:Int)))]) * 32) 140737488355328).run ((some (x2.1,x2.2.1,x2.2.2.1++[((3:Int),(y15.1,(0:Int)))],IntKind.wrap .i64 (x2.2.2.2.1+(y15.1.size:Int)),())).map Sum.inl)))) fun x16=>(some (x16.1,x16.2.1,x16.2.2.1,x16.2.2.2.1,())).map Sum.inl else ((some (x1.2.2.1,())).map Sum.inl).map Sum.inr
theorem QH   (x1:Ca):Le (IU x1) (HO x1):=by
 unfold IU HO
 repeat' (first | with_reducible exact Le.refl _ | exact SX _ _ | refine Le.cond ?_ ?_ | refine Le.joinP ?_ fun _=>?_ | refine Le.joinS ?_ fun _=>?_ | refine Le.bind ?_ fun _=>?_ | refine Le.map ?_ | refine Le.run _ ?_ | refine Le.loop fun _=>?_)
noncomputable def KR (a0:ByteArray):Option ((List (Y13)×Bool×Unit)):=bif decide ((3000:Int)<(a0.size:Int)) then some ([],false,()) else joinS ((some (a0,[],[],(0:Int),())).bind fun x10=>Cb IU 60 x10) fun x17=>some (x17.1,true,())
theorem SW   (a0:ByteArray):Le (KR a0) (GN a0):=by
 unfold KR GN
 repeat' (first | with_reducible exact Le.refl _ | exact QH _ | refine Le.cond ?_ ?_ | refine Le.joinP ?_ fun _=>?_ | refine Le.joinS ?_ fun _=>?_ | refine Le.bind ?_ fun _=>?_ | refine Le.map ?_ | refine Le.run _ ?_ | refine Le.loop fun _=>?_)
noncomputable def BC (a0:Y4):Option ((ByteArray×Y4×Unit)):=joinP (bif a0.2.2.1 then some (true,a0,()) else bif decide ((List.length a0.1:Int)≤a0.2.1) then some (true,a0,()) else (Cnd.idx a0.2.1 (List.length a0.1)).run (bif decide (((rd a0.1 a0.2.1 Z13).1)≠(1:Int)) then some (true,a0,()) else (Cnd.idx a0.2.1 (List.length a0.1)).run ((Pa (((rd a0.1 a0.2.1 Z13).2).1)).bind fun y1=>some (!y1.1,a0,())))) fun x2=>bif x2.1 then some ((⟨#[]⟩:ByteArray),(x2.2.1.1,(x2.2.1.2.1,(true,x2.2.1.2.2.2))),()) else (Cnd.idx (IntKind.wrap .i64 ((IntKind.wrap .i64 (x2.2.1.2.1+(1:Int))) - (1:Int))) (List.length x2.2.1.1)).run (some (((rd x2.2.1.1 (IntKind.wrap .i64 ((IntKind.wrap .i64 (x2.2.1.2.1+(1:Int))) - (1:Int))) Z13).2).1,(x2.2.1.1,(IntKind.wrap .i64 (x2.2.1.2.1+(1:Int)),x2.2.1.2.2)),()))
theorem Cr   (a0:Y4):Le (BC a0) (Ax a0):=by
 unfold BC Ax
 repeat' (first | with_reducible exact Le.refl _ | exact Tj _ | refine Le.cond ?_ ?_ | refine Le.joinP ?_ fun _=>?_ | refine Le.joinS ?_ fun _=>?_ | refine Le.bind ?_ fun _=>?_ | refine Le.map ?_ | refine Le.run _ ?_ | refine Le.loop fun _=>?_)
noncomputable def HH (a0:Y4):Option ((Int×Y4×Unit)):=(AF a0 (1:Int) IG).bind fun y1=>bif y1.1 then (BC y1.2.1).bind fun y2=>(Aa y2.2.1 ((6:Int),((0:Int),(y2.1,[])))).bind fun y3=>some (y3.1,y3.2.1,()) else (BC y1.2.1).bind fun y4=>(Aa y4.2.1 ((5:Int),((0:Int),(y4.1,[])))).bind fun y5=>some (y5.1,y5.2.1,())
theorem Oz   (a0:Y4):Le (HH a0) (DB a0):=by
 unfold HH DB
 repeat' (first | with_reducible exact Le.refl _ | exact Cr _ | refine Le.cond ?_ ?_ | refine Le.joinP ?_ fun _=>?_ | refine Le.joinS ?_ fun _=>?_ | refine Le.bind ?_ fun _=>?_ | refine Le.map ?_ | refine Le.run _ ?_ | refine Le.loop fun _=>?_)
theorem Mq {r0 r0':Y4→Option ((Int×Y4×Unit))} {r1 r1':Y4→Option ((Int×Y4×Unit))} {r2 r2':Y4→Option ((Int×Y4×Unit))} {r3 r3':Y4→ByteArray→Option ((Int×Y4×Unit))} (hr0:∀ y0,Le (r0 y0) (r0' y0)) (hr1:∀ y0,Le (r1 y0) (r1' y0)) (hr2:∀ y0,Le (r2 y0) (r2' y0)) (hr3:∀ y0 y1,Le (r3 y0 y1) (r3' y0 y1)) (a0:Y4):Le (Bb r0 r1 r2 r3 a0) (Bb r0' r1' r2' r3' a0):=by
 unfold Bb
 repeat' (first | with_reducible exact Le.refl _ | exact hr0 _ | exact hr1 _ | exact hr2 _ | exact hr3 _ _ | refine Le.cond ?_ ?_ | refine Le.joinP ?_ fun _=>?_ | refine Le.joinS ?_ fun _=>?_ | refine Le.bind ?_ fun _=>?_ | refine Le.map ?_ | refine Le.run _ ?_ | refine Le.loop fun _=>?_)
theorem Nq {r0 r0':Y4→Option ((Int×Y4×Unit))} {r1 r1':Y4→Option ((Int×Y4×Unit))} {r2 r2':Y4→Option ((Int×Y4×Unit))} {r3 r3':Y4→ByteArray→Option ((Int×Y4×Unit))} (hr0:∀ y0,Le (r0 y0) (r0' y0)) (hr1:∀ y0,Le (r1 y0) (r1' y0)) (hr2:∀ y0,Le (r2 y0) (r2' y0)) (hr3:∀ y0 y1,Le (r3 y0 y1) (r3' y0 y1)) (x2:EH):Le (CN r0 r1 r2 r3 x2) (CN r0' r1' r2' r3' x2):=by
 unfold CN
 repeat' (first | with_reducible exact Le.refl _ | exact hr0 _ | exact hr1 _ | exact hr2 _ | exact hr3 _ _ | refine Le.cond ?_ ?_ | refine Le.joinP ?_ fun _=>?_ | refine Le.joinS ?_ fun _=>?_ | refine Le.bind ?_ fun _=>?_ | refine Le.map ?_ | refine Le.run _ ?_ | refine Le.loop fun _=>?_)
noncomputable def GZ (r0:Y4→Option ((Int×Y4×Unit))) (r1:Y4→Option ((Int×Y4×Unit))) (r2:Y4→Option ((Int×Y4×Unit))) (r3:Y4→ByteArray→Option ((Int×Y4×Unit))) (a0:Y4):Option ((Int×Y4×Unit)):=(r2 a0).bind fun y1=>joinP ((some (y1.1,y1.2.1,())).bind fun x20=>Cb (CN r0 r1 r2 r3) 60 x20) fun x6=>some (x6.1,x6.2.1,())
theorem OS {r0 r0':Y4→Option ((Int×Y4×Unit))} {r1 r1':Y4→Option ((Int×Y4×Unit))} {r2 r2':Y4→Option ((Int×Y4×Unit))} {r3 r3':Y4→ByteArray→Option ((Int×Y4×Unit))} (hr0:∀ y0,Le (r0 y0) (r0' y0)) (hr1:∀ y0,Le (r1 y0) (r1' y0)) (hr2:∀ y0,Le (r2 y0) (r2' y0)) (hr3:∀ y0 y1,Le (r3 y0 y1) (r3' y0 y1)) (a0:Y4):Le (GZ r0 r1 r2 r3 a0) (Cm r0' r1' r2' r3' a0):=by
 unfold GZ Cm
 repeat' (first | with_reducible exact Le.refl _ | exact hr0 _ | exact hr1 _ | exact hr2 _ | exact hr3 _ _ | exact Nq hr0 hr1 hr2 hr3 _ | refine Le.cond ?_ ?_ | refine Le.joinP ?_ fun _=>?_ | refine Le.joinS ?_ fun _=>?_ | refine Le.bind ?_ fun _=>?_ | refine Le.map ?_ | refine Le.run _ ?_ | refine Le.loop fun _=>?_)
noncomputable def GC (r0:Y4→Option ((Int×Y4×Unit))) (r1:Y4→Option ((Int×Y4×Unit))) (r2:Y4→Option ((Int×Y4×Unit))) (r3:Y4→ByteArray→Option ((Int×Y4×Unit))) (a0:Y4):Option ((Int×Y4×Unit)):=joinP (bif a0.2.2.1 then some (true,a0,()) else bif decide ((List.length a0.1:Int)≤a0.2.1) then some (true,a0,()) else some (decide ((12:Int)<a0.2.2.2.1),a0,())) fun x1=>bif x1.1 then some ((0:Int),(x1.2.1.1,(x1.2.1.2.1,(true,x1.2.1.2.2.2))),()) else (Cnd.idx x1.2.1.2.1 (List.length x1.2.1.1)).run (joinP (bif decide (((rd x1.2.1.1 x1.2.1.2.1 Z13).1)=(2:Int)) then (Cnd.idx (IntKind.wrap .i64 ((IntKind.wrap .i64 (x1.2.1.2.1+(1:Int))) - (1:Int))) (List.length x1.2.1.1)).run ((Aa (x1.2.1.1,(IntKind.wrap .i64 (x1.2.1.2.1+(1:Int)),(x1.2.1.2.2.1,(IntKind.wrap .i64 (x1.2.1.2.2.2.1+(1:Int)),x1.2.1.2.2.2.2)))) ((1:Int),(((rd x1.2.1.1 (IntKind.wrap .i64 ((IntKind.wrap .i64 (x1.2.1.2.1+(1:Int))) - (1:Int))) Z13).2).2,((⟨#[]⟩:ByteArray),[])))).bind fun y2=>some (y2.1,y2.2.1,())) else (AF (x1.2.1.1,(x1.2.1.2.1,(x1.2.1.2.2.1,(IntKind.wrap .i64 (x1.2.1.2.2.2.1+(1:Int)),x1.2.1.2.2.2.2)))) (3:Int) s___6848).bind fun y3=>joinP (bif y3.1 then (BC y3.2.1).bind fun y4=>(Aa y4.2.1 ((3:Int),((0:Int),(y4.1,[])))).bind fun y5=>some (y5.1,y5.2.1,()) else (AF y3.2.1 (3:Int) MZ).bind fun y6=>joinP (bif y6.1 then (HH y6.2.1).bind fun y7=>some (y7.1,y7.2.1,()) else (AF y6.2.1 (3:Int) s___32eb).bind fun y8=>joinP (bif y8.1 then (r0 y8.2.1).bind fun y9=>(Ab y9.2.1 s___ba5e).bind fun y10=>some (y9.1,y10.1,()) else (AF y8.2.1 (1:Int) Hr).bind fun y11=>joinP (bif y11.1 then (BC y11.2.1).bind fun y12=>(Aa y12.2.1 ((4:Int),((0:Int),(y12.1,[])))).bind fun y13=>some (y13.1,y13.2.1,()) else (AF y11.2.1 (1:Int) s_input_c96c).bind fun y14=>joinP (bif y14.1 then (Aa y14.2.1 ((7:Int),((0:Int),((⟨#[]⟩:ByteArray),[])))).bind fun y15=>some (y15.1,y15.2.1,()) else (AF y14.2.1 (1:Int) Jo).bind fun y16=>joinP (bif y16.1 then (r2 y16.2.1).bind fun y17=>(Aa y17.2.1 ((8:Int),((0:Int),((⟨#[]⟩:ByteArray),[y17.1])))).bind fun y18=>some (y18.1,y18.2.1,()) else (BC y16.2.1).bind fun y19=>(AF y19.2.1 (3:Int) s___32eb).bind fun y20=>joinP (bif y20.1 then (r3 y20.2.1 y19.1).bind fun y21=>some (y21.1,y21.2.1,()) else (Aa y20.2.1 ((2:Int),((0:Int),(y19.1,[])))).bind fun y22=>some (y22.1,y22.2.1,())) fun x23=>some (x23.1,x23.2.1,())) fun x24=>some (x24.1,x24.2.1,())) fun x25=>some (x25.1,x25.2.1,())) fun x26=>some (x26.1,x26.2.1,())) fun x27=>some (x27.1,x27.2.1,())) fun x28=>some (x28.1,x28.2.1,())) fun x29=>some (x29.1,x29.2.1,())) fun x30=>some (x30.1,(x30.2.1.1,(x30.2.1.2.1,(x30.2.1.2.2.1,(IntKind.wrap .i64 (x30.2.1.2.2.2.1 - (1:Int)),x30.2.1.2.2.2.2)))),()))
theorem Nt {r0 r0':Y4→Option ((Int×Y4×Unit))} {r1 r1':Y4→Option ((Int×Y4×Unit))} {r2 r2':Y4→Option ((Int×Y4×Unit))} {r3 r3':Y4→ByteArray→Option ((Int×Y4×Unit))} (hr0:∀ y0,Le (r0 y0) (r0' y0)) (hr1:∀ y0,Le (r1 y0) (r1' y0)) (hr2:∀ y0,Le (r2 y0) (r2' y0)) (hr3:∀ y0 y1,Le (r3 y0 y1) (r3' y0 y1)) (a0:Y4):Le (GC r0 r1 r2 r3 a0) (CS r0' r1' r2' r3' a0):=by
 unfold GC CS
 repeat' (first | with_reducible exact Le.refl _ | exact hr0 _ | exact hr1 _ | exact hr2 _ | exact hr3 _ _ | exact Cr _ | exact Oz _ | refine Le.cond ?_ ?_ | refine Le.joinP ?_ fun _=>?_ | refine Le.joinS ?_ fun _=>?_ | refine Le.bind ?_ fun _=>?_ | refine Le.map ?_ | refine Le.run _ ?_ | refine Le.loop fun _=>?_)
theorem Mn {r0 r0':Y4→Option ((Int×Y4×Unit))} {r1 r1':Y4→Option ((Int×Y4×Unit))} {r2 r2':Y4→Option ((Int×Y4×Unit))} {r3 r3':Y4→ByteArray→Option ((Int×Y4×Unit))} (hr0:∀ y0,Le (r0 y0) (r0' y0)) (hr1:∀ y0,Le (r1 y0) (r1' y0)) (hr2:∀ y0,Le (r2 y0) (r2' y0)) (hr3:∀ y0 y1,Le (r3 y0 y1) (r3' y0 y1)) (x2:Dl):Le (CB r0 r1 r2 r3 x2) (CB r0' r1' r2' r3' x2):=by
 unfold CB
 repeat' (first | with_reducible exact Le.refl _ | exact hr0 _ | exact hr1 _ | exact hr2 _ | exact hr3 _ _ | refine Le.cond ?_ ?_ | refine Le.joinP ?_ fun _=>?_ | refine Le.joinS ?_ fun _=>?_ | refine Le.bind ?_ fun _=>?_ | refine Le.map ?_ | refine Le.run _ ?_ | refine Le.loop fun _=>?_)
noncomputable def GA (r0:Y4→Option ((Int×Y4×Unit))) (r1:Y4→Option ((Int×Y4×Unit))) (r2:Y4→Option ((Int×Y4×Unit))) (r3:Y4→ByteArray→Option ((Int×Y4×Unit))) (a0:Y4) (a1:ByteArray):Option ((Int×Y4×Unit)):=(AF a0 (3:Int) s___ba5e).bind fun y1=>joinP (bif !y1.1 then joinP ((some (a1,[],y1.2.1,())).bind fun x20=>Cb (CB r0 r1 r2 r3) 60 x20) fun x6=>some (x6.1,x6.2.1,x6.2.2.1,()) else some (a1,[],y1.2.1,())) fun x7=>(Aa x7.2.2.1 ((12:Int),((0:Int),(x7.1,x7.2.1)))).bind fun y8=>some (y8.1,y8.2.1,())
theorem Nr {r0 r0':Y4→Option ((Int×Y4×Unit))} {r1 r1':Y4→Option ((Int×Y4×Unit))} {r2 r2':Y4→Option ((Int×Y4×Unit))} {r3 r3':Y4→ByteArray→Option ((Int×Y4×Unit))} (hr0:∀ y0,Le (r0 y0) (r0' y0)) (hr1:∀ y0,Le (r1 y0) (r1' y0)) (hr2:∀ y0,Le (r2 y0) (r2' y0)) (hr3:∀ y0 y1,Le (r3 y0 y1) (r3' y0 y1)) (a0:Y4) (a1:ByteArray):Le (GA r0 r1 r2 r3 a0 a1) (CQ r0' r1' r2' r3' a0 a1):=by
 unfold GA CQ
 repeat' (first | with_reducible exact Le.refl _ | exact hr0 _ | exact hr1 _ | exact hr2 _ | exact hr3 _ _ | exact Mn hr0 hr1 hr2 hr3 _ | refine Le.cond ?_ ?_ | refine Le.joinP ?_ fun _=>?_ | refine Le.joinS ?_ fun _=>?_ | refine Le.bind ?_ fun _=>?_ | refine Le.map ?_ | refine Le.run _ ?_ | refine Le.loop fun _=>?_)
noncomputable def CT (n:Nat):((Y4→Option ((Int×Y4×Unit)))×(Y4→Option ((Int×Y4×Unit)))×(Y4→Option ((Int×Y4×Unit)))×(Y4→ByteArray→Option ((Int×Y4×Unit)))×Unit):=Nat.rec (motive:=fun _=>((Y4→Option ((Int×Y4×Unit)))×(Y4→Option ((Int×Y4×Unit)))×(Y4→Option ((Int×Y4×Unit)))×(Y4→ByteArray→Option ((Int×Y4×Unit)))×Unit)) (fun _=>none,fun _=>none,fun _=>none,fun _ _=>none,()) (fun _ r=>(Bb r.1 r.2.1 r.2.2.1 r.2.2.2.1,GZ r.1 r.2.1 r.2.2.1 r.2.2.2.1,GC r.1 r.2.1 r.2.2.1 r.2.2.2.1,GA r.1 r.2.1 r.2.2.1 r.2.2.2.1,())) n
theorem IM:∀ (n m:Nat),n≤m→(∀ x0,Le ((CT n).1 x0) ((AB m).1 x0))∧(∀ x0,Le ((CT n).2.1 x0) ((AB m).2.1 x0))∧(∀ x0,Le ((CT n).2.2.1 x0) ((AB m).2.2.1 x0))∧(∀ x0 x1,Le ((CT n).2.2.2.1 x0 x1) ((AB m).2.2.2.1 x0 x1))∧True
 | 0,m,_=>⟨fun _ r h=>(nomatch (show none=some r from h)),fun _ r h=>(nomatch (show none=some r from h)),fun _ r h=>(nomatch (show none=some r from h)),fun _ _ r h=>(nomatch (show none=some r from h)),trivial⟩
 | n+1,0,h=>absurd h (by omega)
 | n+1,m+1,h=>by
  have ih:=IM n m (by omega)
  exact⟨fun x0=>Mq ih.1 ih.2.1 ih.2.2.1 ih.2.2.2.1 x0,fun x0=>OS ih.1 ih.2.1 ih.2.2.1 ih.2.2.2.1 x0,fun x0=>Nt ih.1 ih.2.1 ih.2.2.1 ih.2.2.2.1 x0,fun x0 x1=>Nr ih.1 ih.2.1 ih.2.2.1 ih.2.2.2.1 x0 x1,trivial⟩
noncomputable def Cp (a0:Y4):Option ((Int×Y4×Unit)):=(CT 14).1 a0
theorem GI (a0:Y4):Le (Cp a0) (Bj a0):=fun r h=>DC.2 ⟨14,fun n hn=>(IM 14 n hn).1 a0 r h⟩
noncomputable def Bn (a0:Y4) (a1:Int) (a2:ByteArray):Option ((Int×Y4×Unit)):=(Cp a0).bind fun y1=>(Ab y1.2.1 Kc).bind fun y2=>(Aa y2.1 (a1,((0:Int),(a2,[y1.1])))).bind fun y3=>some (y3.1,y3.2.1,())
theorem OP   (a0:Y4) (a1:Int) (a2:ByteArray):Le (Bn a0 a1 a2) (BQ a0 a1 a2):=by
 unfold Bn BQ
 repeat' (first | with_reducible exact Le.refl _ | exact GI _ | refine Le.cond ?_ ?_ | refine Le.joinP ?_ fun _=>?_ | refine Le.joinS ?_ fun _=>?_ | refine Le.bind ?_ fun _=>?_ | refine Le.map ?_ | refine Le.run _ ?_ | refine Le.loop fun _=>?_)
theorem MT {r0 r0':Y4→Option ((List (Int)×Y4×Unit))} {r1 r1':Y4→Option ((Int×Y4×Unit))} {r2 r2':Y4→Option ((Int×Y4×Unit))} (hr0:∀ y0,Le (r0 y0) (r0' y0)) (hr1:∀ y0,Le (r1 y0) (r1' y0)) (hr2:∀ y0,Le (r2 y0) (r2' y0)) (x1:DJ):Le (Bu r0 r1 r2 x1) (Bu r0' r1' r2' x1):=by
 unfold Bu
 repeat' (first | with_reducible exact Le.refl _ | exact hr0 _ | exact hr1 _ | exact hr2 _ | refine Le.cond ?_ ?_ | refine Le.joinP ?_ fun _=>?_ | refine Le.joinS ?_ fun _=>?_ | refine Le.bind ?_ fun _=>?_ | refine Le.map ?_ | refine Le.run _ ?_ | refine Le.loop fun _=>?_)
noncomputable def FZ (r0:Y4→Option ((List (Int)×Y4×Unit))) (r1:Y4→Option ((Int×Y4×Unit))) (r2:Y4→Option ((Int×Y4×Unit))) (a0:Y4):Option ((List (Int)×Y4×Unit)):=joinP ((some ([],a0,())).bind fun x10=>Cb (Bu r0 r1 r2) 60 x10) fun x6=>some (x6.1,x6.2.1,())
theorem Mp {r0 r0':Y4→Option ((List (Int)×Y4×Unit))} {r1 r1':Y4→Option ((Int×Y4×Unit))} {r2 r2':Y4→Option ((Int×Y4×Unit))} (hr0:∀ y0,Le (r0 y0) (r0' y0)) (hr1:∀ y0,Le (r1 y0) (r1' y0)) (hr2:∀ y0,Le (r2 y0) (r2' y0)) (a0:Y4):Le (FZ r0 r1 r2 a0) (CE r0' r1' r2' a0):=by
 unfold FZ CE
 repeat' (first | with_reducible exact Le.refl _ | exact hr0 _ | exact hr1 _ | exact hr2 _ | exact MT hr0 hr1 hr2 _ | refine Le.cond ?_ ?_ | refine Le.joinP ?_ fun _=>?_ | refine Le.joinS ?_ fun _=>?_ | refine Le.bind ?_ fun _=>?_ | refine Le.map ?_ | refine Le.run _ ?_ | refine Le.loop fun _=>?_)
noncomputable def GB (r0:Y4→Option ((List (Int)×Y4×Unit))) (r1:Y4→Option ((Int×Y4×Unit))) (r2:Y4→Option ((Int×Y4×Unit))) (a0:Y4):Option ((Int×Y4×Unit)):=(AF a0 (1:Int) Jn).bind fun y1=>bif y1.1 then (BC y1.2.1).bind fun y2=>(Ab y2.2.1 Hq).bind fun y3=>(Bn y3.1 (13:Int) y2.1).bind fun y4=>some (y4.1,y4.2.1,()) else (AF y1.2.1 (3:Int) s___6848).bind fun y5=>bif y5.1 then (BC y5.2.1).bind fun y6=>(Ab y6.2.1 Hq).bind fun y7=>(Bn y7.1 (15:Int) y6.1).bind fun y8=>some (y8.1,y8.2.1,()) else (AF y5.2.1 (1:Int) LH).bind fun y9=>bif y9.1 then (Cp y9.2.1).bind fun y10=>(r2 y10.2.1).bind fun y11=>(AF y11.2.1 (1:Int) Ih).bind fun y12=>joinP (bif !y12.1 then some (y10.1,y11.1,(y12.2.1.1,(y12.2.1.2.1,(true,y12.2.1.2.2.2))),()) else some (y10.1,y11.1,y12.2.1,())) fun x13=>(r2 x13.2.2.1).bind fun y14=>(Aa y14.2.1 ((16:Int),((0:Int),((⟨#[]⟩:ByteArray),[x13.1,x13.2.1,y14.1])))).bind fun y15=>some (y15.1,y15.2.1,()) else (AF y9.2.1 (1:Int) Hu).bind fun y16=>bif y16.1 then (Cp y16.2.1).bind fun y17=>(r2 y17.2.1).bind fun y18=>(Aa y18.2.1 ((17:Int),((0:Int),((⟨#[]⟩:ByteArray),[y17.1,y18.1])))).bind fun y19=>some (y19.1,y19.2.1,()) else (AF y16.2.1 (1:Int) Ht).bind fun y20=>bif y20.1 then (Bn y20.2.1 (18:Int) (⟨#[]⟩:ByteArray)).bind fun y21=>some (y21.1,y21.2.1,()) else (AF y20.2.1 (1:Int) LG).bind fun y22=>bif y22.1 then (Bn y22.2.1 (19:Int) (⟨#[]⟩:ByteArray)).bind fun y23=>some (y23.1,y23.2.1,()) else (BC y22.2.1).bind fun y24=>(Ab y24.2.1 Hq).bind fun y25=>(Bn y25.1 (14:Int) y24.1).bind fun y26=>some (y26.1,y26.2.1,())
theorem Ns {r0 r0':Y4→Option ((List (Int)×Y4×Unit))} {r1 r1':Y4→Option ((Int×Y4×Unit))} {r2 r2':Y4→Option ((Int×Y4×Unit))} (hr0:∀ y0,Le (r0 y0) (r0' y0)) (hr1:∀ y0,Le (r1 y0) (r1' y0)) (hr2:∀ y0,Le (r2 y0) (r2' y0)) (a0:Y4):Le (GB r0 r1 r2 a0) (CR r0' r1' r2' a0):=by
 unfold GB CR
 repeat' (first | with_reducible exact Le.refl _ | exact hr0 _ | exact hr1 _ | exact hr2 _ | exact Cr _ | exact OP _ _ _ | exact GI _ | refine Le.cond ?_ ?_ | refine Le.joinP ?_ fun _=>?_ | refine Le.joinS ?_ fun _=>?_ | refine Le.bind ?_ fun _=>?_ | refine Le.map ?_ | refine Le.run _ ?_ | refine Le.loop fun _=>?_)
theorem Mo {r0 r0':Y4→Option ((List (Int)×Y4×Unit))} {r1 r1':Y4→Option ((Int×Y4×Unit))} {r2 r2':Y4→Option ((Int×Y4×Unit))} (hr0:∀ y0,Le (r0 y0) (r0' y0)) (hr1:∀ y0,Le (r1 y0) (r1' y0)) (hr2:∀ y0,Le (r2 y0) (r2' y0)) (a0:Y4):Le (Ba r0 r1 r2 a0) (Ba r0' r1' r2' a0):=by
 unfold Ba
 repeat' (first | with_reducible exact Le.refl _ | exact hr0 _ | exact hr1 _ | exact hr2 _ | refine Le.cond ?_ ?_ | refine Le.joinP ?_ fun _=>?_ | refine Le.joinS ?_ fun _=>?_ | refine Le.bind ?_ fun _=>?_ | refine Le.map ?_ | refine Le.run _ ?_ | refine Le.loop fun _=>?_)
noncomputable def DK (n:Nat):((Y4→Option ((List (Int)×Y4×Unit)))×(Y4→Option ((Int×Y4×Unit)))×(Y4→Option ((Int×Y4×Unit)))×Unit):=Nat.rec (motive:=fun _=>((Y4→Option ((List (Int)×Y4×Unit)))×(Y4→Option ((Int×Y4×Unit)))×(Y4→Option ((Int×Y4×Unit)))×Unit)) (fun _=>none,fun _=>none,fun _=>none,()) (fun _ r=>(FZ r.1 r.2.1 r.2.2.1,GB r.1 r.2.1 r.2.2.1,Ba r.1 r.2.1 r.2.2.1,())) n
theorem IL:∀ (n m:Nat),n≤m→(∀ x0,Le ((DK n).1 x0) ((AL m).1 x0))∧(∀ x0,Le ((DK n).2.1 x0) ((AL m).2.1 x0))∧(∀ x0,Le ((DK n).2.2.1 x0) ((AL m).2.2.1 x0))∧True
 | 0,m,_=>⟨fun _ r h=>(nomatch (show none=some r from h)),fun _ r h=>(nomatch (show none=some r from h)),fun _ r h=>(nomatch (show none=some r from h)),trivial⟩
 | n+1,0,h=>absurd h (by omega)
 | n+1,m+1,h=>by
  have ih:=IL n m (by omega)
  exact⟨fun x0=>Mp ih.1 ih.2.1 ih.2.2.1 x0,fun x0=>Ns ih.1 ih.2.1 ih.2.2.1 x0,fun x0=>Mo ih.1 ih.2.1 ih.2.2.1 x0,trivial⟩
noncomputable def JV (a0:Y4):Option ((List (Int)×Y4×Unit)):=(DK 14).1 a0
theorem OQ (a0:Y4):Le (JV a0) (Di a0):=fun r h=>DC.2 ⟨14,fun n hn=>(IL 14 n hn).1 a0 r h⟩
noncomputable def GY (x6:CO):Option (CO ⊕ (Y4×Y6×Y6×Unit)):=bif !x6.1.2.2.1 then (BC x6.1).bind fun y7=>(Ab y7.2.1 PL).bind fun y8=>(CL y8.1).bind fun y9=>(Cnd.le ((List.length x6.2.2.1.2.1+List.length [(y7.1,y9.1)]) * 24) 140737488355328).run ((AF y9.2.1 (3:Int) s___ba5e).bind fun y10=>bif y10.1 then (some (y10.2.1,x6.2.1,(x6.2.2.1.1,(x6.2.2.1.2.1++[(y7.1,y9.1)],x6.2.2.1.2.2)),())).map Sum.inr else (Ab y10.2.1 Ma).bind fun y11=>(some (y11.1,x6.2.1,(x6.2.2.1.1,(x6.2.2.1.2.1++[(y7.1,y9.1)],x6.2.2.1.2.2)),())).map Sum.inl) else (some (x6.1,x6.2.1,x6.2.2.1,())).map Sum.inr
theorem OO   (x6:CO):Le (GY x6) (FE x6):=by
 unfold GY FE
 repeat' (first | with_reducible exact Le.refl _ | exact Cr _ | refine Le.cond ?_ ?_ | refine Le.joinP ?_ fun _=>?_ | refine Le.joinS ?_ fun _=>?_ | refine Le.bind ?_ fun _=>?_ | refine Le.map ?_ | refine Le.run _ ?_ | refine Le.loop fun _=>?_)
noncomputable def IV (a0:Y4):Option ((Y6×Y4×Unit)):=(AF a0 (1:Int) Hs).bind fun y1=>joinP (bif !y1.1 then some ((y1.2.1.1,(y1.2.1.2.1,(true,y1.2.1.2.2.2))),Z6,()) else some (y1.2.1,Z6,())) fun x2=>(BC x2.1).bind fun y3=>(Ab y3.2.1 s___32eb).bind fun y4=>(AF y4.1 (3:Int) s___ba5e).bind fun y5=>joinP (bif !y5.1 then joinP ((some (y5.2.1,x2.2.1,(y3.1,([],((0:Int),((0:Int),(-1:Int))))),())).bind fun x60=>Cb GY 60 x60) fun x12=>some (x12.1,x12.2.1,x12.2.2.1,()) else some (y5.2.1,x2.2.1,(y3.1,([],((0:Int),((0:Int),(-1:Int))))),())) fun x13=>(AF x13.1 (3:Int) Nf).bind fun y14=>joinP (bif y14.1 then (CL y14.2.1).bind fun y15=>some (y15.2.1,x13.2.1,(x13.2.2.1.1,(x13.2.2.1.2.1,(y15.1,x13.2.2.1.2.2.2))),()) else some (y14.2.1,x13.2.1,x13.2.2.1,())) fun x16=>(Ab x16.1 MY).bind fun y17=>(JV y17.1).bind fun y18=>(Aa y18.2.1 ((20:Int),((0:Int),((⟨#[]⟩:ByteArray),y18.1)))).bind fun y19=>(AF y19.2.1 (1:Int) IH).bind fun y20=>joinP (bif y20.1 then (Cp y20.2.1).bind fun y21=>(Ab y21.2.1 Kc).bind fun y22=>some (y22.1,x16.2.1,(x16.2.2.1.1,(x16.2.2.1.2.1,(x16.2.2.1.2.2.1,(y19.1,y21.1)))),()) else some (y20.2.1,x16.2.1,(x16.2.2.1.1,(x16.2.2.1.2.1,(x16.2.2.1.2.2.1,(y19.1,x16.2.2.1.2.2.2.2)))),())) fun x23=>(Ab x23.1 s___d10b).bind fun y24=>some (x23.2.2.1,y24.1,())
theorem QI   (a0:Y4):Le (IV a0) (Dr a0):=by
 unfold IV Dr
 repeat' (first | with_reducible exact Le.refl _ | exact Cr _ | exact OO _ | exact OQ _ | exact GI _ | refine Le.cond ?_ ?_ | refine Le.joinP ?_ fun _=>?_ | refine Le.joinS ?_ fun _=>?_ | refine Le.bind ?_ fun _=>?_ | refine Le.map ?_ | refine Le.run _ ?_ | refine Le.loop fun _=>?_)
noncomputable def Fz (x2:CD):Option (CD ⊕ (Y2×Y2×Y4×Unit)):=joinP (bif !x2.2.2.1.2.2.1 then bif decide (x2.2.2.1.2.1<(List.length x2.2.2.1.1:Int)) then some (decide ((List.length x2.2.1.2:Int)≤(8:Int)),x2.1,x2.2.1,x2.2.2.1,()) else some (false,x2.1,x2.2.1,x2.2.2.1,()) else some (false,x2.1,x2.2.1,x2.2.2.1,())) fun x3=>bif x3.1 then (IV x3.2.2.2.1).bind fun y4=>(Cnd.le ((List.length x3.2.2.1.2+List.length [y4.1]) * 64) 140737488355328).run ((some (x3.2.1,(x3.2.2.1.1,x3.2.2.1.2++[y4.1]),y4.2.1,())).map Sum.inl) else (some (x3.2.1,x3.2.2.1,x3.2.2.2.1,())).map Sum.inr
theorem Np   (x2:CD):Le (Fz x2) (Ed x2):=by
 unfold Fz Ed
 repeat' (first | with_reducible exact Le.refl _ | exact QI _ | refine Le.cond ?_ ?_ | refine Le.joinP ?_ fun _=>?_ | refine Le.joinS ?_ fun _=>?_ | refine Le.bind ?_ fun _=>?_ | refine Le.map ?_ | refine Le.run _ ?_ | refine Le.loop fun _=>?_)
noncomputable def Hf (a0:ByteArray):Option ((Y2×Bool×Unit)):=(KR a0).bind fun y1=>bif !y1.2.1 then some (([],[]),false,()) else joinP ((some (Z2,([],[]),(y1.1,((0:Int),(false,((0:Int),[])))),())).bind fun x20=>Cb Fz 60 x20) fun x5=>joinP (bif x5.2.2.1.2.2.1 then some (true,x5.1,(x5.2.2.1.2.2.2.2,x5.2.1.2),()) else (JG (x5.2.2.1.2.2.2.2,x5.2.1.2)).bind fun y6=>some (!y6.1,x5.1,(x5.2.2.1.2.2.2.2,x5.2.1.2),())) fun x7=>bif x7.1 then some (([],[]),false,()) else some (x7.2.2.1,true,())
theorem Pj   (a0:ByteArray):Le (Hf a0) (Bc a0):=by
 unfold Hf Bc
 repeat' (first | with_reducible exact Le.refl _ | exact SW _ | exact Np _ | exact Qt _ | refine Le.cond ?_ ?_ | refine Le.joinP ?_ fun _=>?_ | refine Le.joinS ?_ fun _=>?_ | refine Le.bind ?_ fun _=>?_ | refine Le.map ?_ | refine Le.run _ ?_ | refine Le.loop fun _=>?_)
theorem kY:∃ y,Bc DG=some y∧y.1.1≠[]:=by
 have h:((Hf DG).map fun y=>decide (0<y.1.1.length))=some true:=by kernel_rfl
 obtain⟨y,h1,h2⟩:=Option.map_eq_some_iff.1 h;refine⟨y,Pj _ y h1,fun e=>?_⟩
 rw [e] at h2;exact absurd (of_decide_eq_true h2) (by simp)
set_option maxRecDepth 100000
theorem Xa {α β:Type} {l:List α} {n m:Nat} {K:Option β} (h:l.length * n≤m):(Cnd.le ((List.length ([]:List α)+l.length) * n) m).run K=K:=by
 rw [Am];simpa using h
theorem aK {α β:Type} {o:List α} {x:α} {n m:Nat} {K:Option β} (h:(o.length+1) * n≤m):(Cnd.le ((o.length+List.length [x]) * n) m).run K=K:=by
 rw [Am];simpa using h
theorem ZN (l:List NODE) (h:FineN l):JA l=some (l,()):=by
 have hlen:=h.len
 have hp:=FO (step:=EY) l (fun w=>w) (fun k o=>(l,o,(k:Int),())) (fun o=>(o,())) (fun k hk o ho=>by
  have h1:=h.kid _ (List.getElem_mem hk)
  simp only [EY,AR hk,decide_true,cond_true,AK hk,AP hk,List.nil_append,Option.map_some,AI (show k<9223372036854775807 by omega)];rw [Xa (by omega),aK (by omega)]) (fun o ho=>by
  simp only [EY,AJ,decide_false,cond_false,Option.map_some])
 have hp':AD EY (l,[],(0:Int),())=_:=hp
 simp only [JA,Option.bind_some,hp',AA,List.map_id']
theorem ZM (p:PROG) (h:FineP p):Ju p=some (p,()):=by
 have hf:=h.f
 have hp:=FO (step:=FB) p.2 (fun w=>w) (fun k o=>((k:Int),p,([],[]),(p.1,o),())) (fun o=>(([],[]),(p.1,o),())) (fun k hk o ho=>by
  have h1:=h.a _ (List.getElem_mem hk)
  simp only [FB,AR hk,decide_true,cond_true,AK hk,AP hk,List.nil_append,Option.map_some,AI (show k<9223372036854775807 by omega)];rw [Xa (by omega),aK (by omega)]) (fun o ho=>by
  simp only [FB,AJ,decide_false,cond_false,Option.map_some])
 have hp':AD FB ((0:Int),p,([],[]),(p.1,[]),())=_:=hp
 simp only [Ju,ZN _ h.n,Option.bind_some,hp',AA,List.map_id']
set_option maxRecDepth 100000
theorem GL (l:List NODE) (hl:FineN l) (n:Int):Fc l n=some (AW l n,()):=by
 unfold Fc AW;simp only [Iu hl.len,sIn,Option.bind_some]
 by_cases hr:0≤n∧n≤(l.length:Int) - 1
 case neg=>simp only [hr,decide_false,Bool.not_false,cond_true,cond_false]
 obtain⟨k,rfl⟩:∃ m:Nat,n=(m:Int):=⟨n.toNat,by omega⟩
 have hk:k<l.length:=by omega
 simp only [hr,and_self,decide_true,Bool.not_true,cond_false,cond_true,Ph l hl k hk,Option.bind_some];rw [AK (show k<(Ag l (k+1)).length by rw [EL];omega),FJ l (k+1) k (by omega)];rfl
end Go.Proofs.YtmakhmoielhjeaaGreatDoorE

/- The engine, texts Wp AX Base Draw1 Code DrawR Node DrawP DecS Draw5 Draw5s Deep Tree FnAt POk FnOk ProgOk ProgEq DrawQ DeepS Und UndI Uses Vars Sight SightS SightB Names DrawT DrawU CodeTy: how code is reckoned as Lean functions, and that it is sound. No condition. -/
import Derived.Test.YtmakhmoielhjeaaGreatDoorPackP
import Derived.Test.YtmakhmoielhjeaaGreatDoorLawFX
import Derived.Lib.ItoaLen
set_option linter.all false
namespace Go.Proofs.YtmakhmoielhjeaaGreatDoorE
set_option linter.all false
def wp {α:Type} (x:Option α) (Q:α→Prop):Prop:=∃ r,x=some r∧Q r
theorem wp_some {α:Type} {r:α} {Q:α→Prop} (h:Q r):wp (some r) Q:=⟨r,rfl,h⟩
theorem wp_mono {α:Type} {x:Option α} {Q Q':α→Prop} (h:wp x Q) (hq:∀ r,Q r→Q' r):wp x Q':=by
 obtain⟨r,h1,h2⟩:=h;exact⟨r,h1,hq r h2⟩
theorem wp_bind {α β:Type} {x:Option α} {k:α→Option β} {Q:β→Prop} (h:wp x fun a=>wp (k a) Q):wp (x.bind k) Q:=by
 obtain⟨r,rfl,h2⟩:=h;exact h2
theorem wp_joinP {α β:Type} {x:Option β} {k:β→Option α} {Q:α→Prop} (h:wp x fun a=>wp (k a) Q):wp (joinP x k) Q:=wp_bind h
theorem wp_joinS {α β:Type} {x:Option (β ⊕ α)} {k:β→Option α} {Q:α→Prop} (h:wp x fun s=>(∀ b,s=.inl b→wp (k b) Q)∧∀ r,s=.inr r→Q r):wp (joinS x k) Q:=by
 obtain⟨s,rfl,h1,h2⟩:=h
 cases s with
 | inl b=>exact h1 b rfl
 | inr r=>exact⟨r,rfl,h2 r rfl⟩
theorem wp_map {α β:Type} {x:Option α} {f:α→β} {Q:β→Prop} (h:wp x fun a=>Q (f a)):wp (x.map f) Q:=by
 obtain⟨r,rfl,h2⟩:=h;exact⟨f r,rfl,h2⟩
theorem wp_bif {α:Type} {b:Bool} {x y:Option α} {Q:α→Prop} (h1:b=true→wp x Q) (h2:b=false→wp y Q):wp (bif b then x else y) Q:=by
 cases b with
 | true=>exact h1 rfl
 | false=>exact h2 rfl
theorem wp_run {α:Type} {c:Cnd} {K:Option α} {Q:α→Prop} (hc:c.holds) (h:wp K Q):wp (c.run K) Q:=by
 have key:∀ (c:Cnd) (K:Option α),c.holds→c.run K=K:=by
  intro c
  induction c with
  | tt=>intro K _;rfl
  | idx n len=>intro K h;exact if_pos h
  | nz b=>intro K h;exact if_neg h
  | nn b=>intro K h;exact if_pos h
  | cut lo hi len=>intro K h;exact if_pos h
  | le a b=>intro K h;exact if_pos h
  | both a b iha ihb=>intro K h;simp only [Cnd.run];rw [iha _ h.1,ihb _ h.2]
 rw [key c K hc];exact h
theorem wp_loop {α β:Type} {step:β→Option (β ⊕ α)} {Q:α→Prop} (I:β→Prop) (μ:β→Nat) (H:∀ b,I b→wp (step b) fun s=>(∀ b',s=.inl b'→I b'∧μ b'<μ b)∧∀ r,s=.inr r→Q r) {b:β} (h:I b):wp (loopF step b) Q:=by
 refine loopF_inv I μ Q (fun b hb=>?_) b h
 obtain⟨s,h1,h2,h3⟩:=H b hb
 cases s with
 | inl b'=>exact .inr ⟨b',h1,h2 b' rfl⟩
 | inr r=>exact .inl ⟨r,h1,h3 r rfl⟩
theorem wp_inl {α β:Type} {b:β} {P:β→Prop} {Q:α→Prop} (h:P b):(∀ b',(Sum.inl b:β ⊕ α)=.inl b'→P b')∧∀ r,(Sum.inl b:β ⊕ α)=.inr r→Q r:=⟨fun b' e=>(by cases e;exact h),fun r e=>(by cases e)⟩
theorem wp_inr {α β:Type} {r:α} {P:β→Prop} {Q:α→Prop} (h:Q r):(∀ b',(Sum.inr r:β ⊕ α)=.inl b'→P b')∧∀ r',(Sum.inr r:β ⊕ α)=.inr r'→Q r':=⟨fun b' e=>(by cases e),fun r' e=>(by cases e;exact h)⟩
def wq {α:Type} (x x':Option α) (Q:α→Prop):Prop:=∃ r,x=some r∧x'=some r∧Q r
theorem wq_of {α:Type} {x:Option α} {Q:α→Prop} (h:wp x Q):wq x x Q:=by
 obtain⟨r,h1,h2⟩:=h;exact⟨r,h1,h1,h2⟩
theorem wq_some {α:Type} {r:α} {Q:α→Prop} (h:Q r):wq (some r) (some r) Q:=⟨r,rfl,rfl,h⟩
theorem wq_mono {α:Type} {x x':Option α} {Q Q':α→Prop} (h:wq x x' Q) (hq:∀ r,Q r→Q' r):wq x x' Q':=by
 obtain⟨r,h1,h2,h3⟩:=h;exact⟨r,h1,h2,hq r h3⟩
theorem wq_bind {α β:Type} {x x':Option α} {k k':α→Option β} {Q:β→Prop} (h:wq x x' fun a=>wq (k a) (k' a) Q):wq (x.bind k) (x'.bind k') Q:=by
 obtain⟨r,rfl,rfl,h2⟩:=h;exact h2
theorem wq_joinP {α β:Type} {x x':Option β} {k k':β→Option α} {Q:α→Prop} (h:wq x x' fun a=>wq (k a) (k' a) Q):wq (joinP x k) (joinP x' k') Q:=wq_bind h
theorem wq_joinS {α β:Type} {x x':Option (β ⊕ α)} {k k':β→Option α} {Q:α→Prop} (h:wq x x' fun s=>(∀ b,s=.inl b→wq (k b) (k' b) Q)∧∀ r,s=.inr r→Q r):wq (joinS x k) (joinS x' k') Q:=by
 obtain⟨s,rfl,rfl,h1,h2⟩:=h
 cases s with
 | inl b=>exact h1 b rfl
 | inr r=>exact⟨r,rfl,rfl,h2 r rfl⟩
theorem wq_map {α β:Type} {x x':Option α} {f:α→β} {Q:β→Prop} (h:wq x x' fun a=>Q (f a)):wq (x.map f) (x'.map f) Q:=by
 obtain⟨r,rfl,rfl,h2⟩:=h;exact⟨f r,rfl,rfl,h2⟩
theorem wq_bif {α:Type} {b:Bool} {x x' y y':Option α} {Q:α→Prop} (h1:b=true→wq x x' Q) (h2:b=false→wq y y' Q):wq (bif b then x else y) (bif b then x' else y') Q:=by
 cases b with
 | true=>exact h1 rfl
 | false=>exact h2 rfl
theorem wq_run {α:Type} {c:Cnd} {K K':Option α} {Q:α→Prop} (hc:c.holds) (h:wq K K' Q):wq (c.run K) (c.run K') Q:=by
 have h1:=wp_run (c:=c) (K:=K) (Q:=fun r=>K=some r) hc (by obtain⟨r,h,_⟩:=h;exact⟨r,h,h⟩)
 have h2:=wp_run (c:=c) (K:=K') (Q:=fun r=>K'=some r) hc (by obtain⟨r,_,h,_⟩:=h;exact⟨r,h,h⟩)
 obtain⟨r,e1,e2,e3⟩:=h
 obtain⟨r1,f1,f2⟩:=h1
 obtain⟨r2,f3,f4⟩:=h2
 rw [e1] at f2
 rw [e2] at f4
 rw [f1,f3,← f2,← f4]
 exact⟨r,rfl,rfl,e3⟩
theorem wq_loop {α β:Type} {step step':β→Option (β ⊕ α)} {Q:α→Prop} (I:β→Prop) (μ:β→Nat) (H:∀ b,I b→wq (step b) (step' b) fun s=>(∀ b',s=.inl b'→I b'∧μ b'<μ b)∧∀ r,s=.inr r→Q r) {b:β} (h:I b):wq (loopF step b) (loopF step' b) Q:=by
 have key:∀ n b,μ b≤n→I b→wq (loopF step b) (loopF step' b) Q:=by
  intro n
  induction n with
  | zero=>
   intro b hn hb
   obtain⟨s,h1,h1',h2,h3⟩:=H b hb
   cases s with
   | inl b'=>have:=(h2 b' rfl).2;omega
   | inr r=>exact⟨r,loopF_inr h1,loopF_inr h1',h3 r rfl⟩
  | succ n ih=>
   intro b hn hb
   obtain⟨s,h1,h1',h2,h3⟩:=H b hb
   cases s with
   | inl b'=>
    rw [loopF_inl h1,loopF_inl h1']
    exact ih b' (by have:=(h2 b' rfl).2;omega) (h2 b' rfl).1
   | inr r=>exact⟨r,loopF_inr h1,loopF_inr h1',h3 r rfl⟩
 exact key _ b (Nat.le_refl _) h
theorem wq_lim {α β:Type} {F:Nat→α→Option β} {x:α} {Q:β→Prop} (N:Nat) (h:∀ n,N≤n→wq (F n x) (F N x) Q):wp (limF F x) Q:=by
 obtain⟨r,_,h2,h3⟩:=h N (Nat.le_refl _)
 refine⟨r,limF_some.2 ⟨N,fun n hn=>?_⟩,h3⟩
 obtain⟨r',g1,g2,_⟩:=h n hn
 rw [h2] at g2
 rw [g1,← g2]
theorem add_size (a b:ByteArray):(a++b).size=a.size+b.size:=ByteArray.size_append
theorem iAnd_255 (x:Int):0≤iAnd .i64 x 255∧iAnd .i64 x 255≤255:=by
 unfold iAnd
 have h1:(BitVec.ofInt IntKind.i64.bits x &&& BitVec.ofInt IntKind.i64.bits 255).toNat≤255:=by
  rw [BitVec.toNat_and]
  have:(BitVec.ofInt IntKind.i64.bits 255).toNat=255:=by decide
  rw [this]
  exact Nat.and_le_right
 rw [wrap64 (by omega) (by omega)]
 omega
end Go.Proofs.YtmakhmoielhjeaaGreatDoorE
namespace Go.Proofs.YtmakhmoielhjeaaGreatDoorE
set_option maxRecDepth 100000
set_option linter.all false
end Go.Proofs.YtmakhmoielhjeaaGreatDoorE
namespace Go.Proofs.YtmakhmoielhjeaaGreatDoorE
set_option linter.all false
theorem sIn (a b c:Int):spec_l01In a b c=some (decide (b≤a∧a≤c),()):=by
 unfold spec_l01In
 by_cases h:b≤a<;>simp [h,joinP]
theorem iIn (a b c:Int):impl_in a b c=some (decide (b≤a∧a≤c),()):=by
 unfold impl_in
 by_cases h:b≤a<;>simp [h,joinP]
theorem loopF_all {α β D:Type} {step:β→Option (β ⊕ α)} (l:List D) (q:D→Bool) (S:Nat→β) (rt rf:α) (H:∀ k (h:k<l.length),step (S k)=bif q l[k] then some (.inl (S (k+1))) else some (.inr rf)) (He:step (S l.length)=some (.inr rt)):
 loopF step (S 0)=some (bif l.all q then rt else rf):=by
 have key:∀ m k,k+m=l.length→loopF step (S k)=some (bif (l.drop k).all q then rt else rf):=by
  intro m
  induction m with
  | zero=>
   intro k hk
   obtain rfl:k=l.length:=by omega
   rw [loopF_inr He,List.drop_length];rfl
  | succ m ih=>
   intro k hk
   have hkl:k<l.length:=by omega
   have h1:=H k hkl
   rw [List.drop_eq_getElem_cons hkl,List.all_cons]
   cases hq:q l[k]
   ·rw [hq,cond_false] at h1
    rw [loopF_inr h1];rfl
   ·rw [hq,cond_true] at h1
    rw [loopF_inl h1,ih (k+1) (by omega),Bool.true_and]
 have:=key l.length 0 (by omega)
 rwa [List.drop_zero] at this
theorem loopF_any {α β D:Type} {step:β→Option (β ⊕ α)} (l:List D) (q:D→Bool) (S:Nat→β) (rt rf:α) (H:∀ k (h:k<l.length),step (S k)=bif q l[k] then some (.inr rt) else some (.inl (S (k+1)))) (He:step (S l.length)=some (.inr rf)):
 loopF step (S 0)=some (bif l.any q then rt else rf):=by
 have key:∀ m k,k+m=l.length→loopF step (S k)=some (bif (l.drop k).any q then rt else rf):=by
  intro m
  induction m with
  | zero=>
   intro k hk
   obtain rfl:k=l.length:=by omega
   rw [loopF_inr He,List.drop_length];rfl
  | succ m ih=>
   intro k hk
   have hkl:k<l.length:=by omega
   have h1:=H k hkl
   rw [List.drop_eq_getElem_cons hkl,List.any_cons]
   cases hq:q l[k]
   ·rw [hq,cond_false] at h1
    rw [loopF_inl h1,ih (k+1) (by omega),Bool.false_or]
   ·rw [hq,cond_true] at h1
    rw [loopF_inr h1];rfl
 have:=key l.length 0 (by omega)
 rwa [List.drop_zero] at this
theorem loopF_fold {α β D γ:Type} {step:β→Option (β ⊕ α)} (l:List D) (g:γ→D→γ) (S:Nat→γ→β) (r:γ→α) (I:Nat→γ→Prop) (H:∀ k (h:k<l.length) c,I k c→step (S k c)=some (.inl (S (k+1) (g c l[k])))∧I (k+1) (g c l[k])) (He:∀ c,I l.length c→step (S l.length c)=some (.inr (r c))) (c:γ) (hc:I 0 c):
 loopF step (S 0 c)=some (r (l.foldl g c))∧I l.length (l.foldl g c):=by
 have key:∀ m k c,k+m=l.length→I k c→loopF step (S k c)=some (r ((l.drop k).foldl g c))∧I l.length ((l.drop k).foldl g c):=by
  intro m
  induction m with
  | zero=>
   intro k c hk hI
   obtain rfl:k=l.length:=by omega
   rw [loopF_inr (He c hI),List.drop_length];exact⟨rfl,hI⟩
  | succ m ih=>
   intro k c hk hI
   have hkl:k<l.length:=by omega
   obtain⟨h1,h2⟩:=H k hkl c hI
   rw [List.drop_eq_getElem_cons hkl,List.foldl_cons,loopF_inl h1]
   exact ih (k+1) _ (by omega) h2
 have:=key l.length 0 c (by omega) hc
 rwa [List.drop_zero] at this
theorem lt_cast {k n:Nat} (h:k<n):((k:Int)<(n:Int)):=by omega
theorem not_lt_self (n:Nat):¬ ((n:Int)<(n:Int)):=by omega
theorem bAt_nat' (s:ByteArray) (i:Nat):bAt s (i:Int)=((s.data.getD i 0).toNat:Int):=by simp [bAt]
theorem loopF_push {α β D E:Type} {step:β→Option (β ⊕ α)} (l:List D) (g:D→E) (S:Nat→List E→β) (r:List E→α)
 (H:∀ k (h:k<l.length) (o:List E),o.length=k→step (S k o)=some (.inl (S (k+1) (o++[g l[k]]))))
 (He:∀ o:List E,o.length=l.length→step (S l.length o)=some (.inr (r o))):loopF step (S 0 [])=some (r (l.map g)):=by
 have key:∀ m k,k+m=l.length→loopF step (S k ((l.take k).map g))=some (r (l.map g)):=by
  intro m
  induction m with
  | zero=>
   intro k hk
   obtain rfl:k=l.length:=by omega
   rw [List.take_length]
   exact loopF_inr (He _ (by simp))
  | succ m ih=>
   intro k hk
   have hkl:k<l.length:=by omega
   rw [loopF_inl (H k hkl _ (by simp;omega))]
   have e:(l.take k).map g++[g l[k]]=(l.take (k+1)).map g:=by
    rw [List.take_succ_eq_append_getElem hkl,List.map_append];rfl
   rw [e]
   exact ih (k+1) (by omega)
 simpa using key l.length 0 (by omega)
end Go.Proofs.YtmakhmoielhjeaaGreatDoorE
namespace Go.Proofs.YtmakhmoielhjeaaGreatDoorE
set_option linter.all false
abbrev Cur:=List Int×(Int×Int)
def COk (c:Cur):Prop:=List.length c.1≤1048576∧0≤c.2.1∧c.2.1≤List.length c.1
theorem new_wp (code:List Int) (h:code.length≤1048576):wp (spec_l01New code) fun r=>COk r.1:=by
 unfold spec_l01New
 refine wp_joinP (wp_bind (wp_some ?_))
 refine wp_mono (wp_loop (fun b:List Int×Int×Int×Unit=>b.1=code∧0≤b.2.2.1∧b.2.2.1≤code.length) (fun b=>code.length - b.2.2.1.toNat) (Q:=fun r=>r.1=code) (fun b hb=>?_) ⟨rfl,by simp,by simp⟩) (fun r hr=>wp_some ⟨by simp [hr];exact h,by simp,by simp⟩)
 obtain⟨b1,b2,b3,_⟩:=b
 obtain⟨rfl,h0,h1⟩:=hb
 simp only at h0 h1
 unfold L1_spec_l01New
 simp only
 by_cases hlt:b3<(b1.length:Int)
 ·simp only [hlt,decide_true,cond_true,joinP_some]
  by_cases h4:b3<4000
  ·simp only [h4,decide_true,cond_true]
   have e:IntKind.wrap .i64 (b3+1)=b3+1:=wrap64 (by omega) (by omega)
   rw [e]
   exact wp_run ⟨h0,hlt⟩ (wp_map (wp_some (wp_inl ⟨⟨rfl,by simp only;omega,by simp only;omega⟩,by simp only;omega⟩)))
  ·simp only [h4,decide_false,cond_false]
   exact wp_map (wp_some (wp_inr rfl))
 ·simp only [hlt,decide_false,cond_false,joinP_some]
  exact wp_map (wp_some (wp_inr rfl))
theorem byte_wp (c:Cur) (h:COk c):wp (spec_l01Byte c) fun r=>0≤r.1∧r.1≤255∧COk r.2.1:=by
 obtain⟨b,i,hh⟩:=c
 obtain⟨h1,h2,h3⟩:=h
 simp only at h1 h2 h3
 unfold spec_l01Byte
 refine wp_run (by simp [Cnd.holds]) (wp_run (by simp [Cnd.holds]) (wp_joinP (wp_bif (fun hb=>?_) (fun hb=>?_))))
 ·have hlt:i<(b.length:Int):=by simpa using hb
  refine wp_run ⟨h2,hlt⟩ (wp_some (wp_some ⟨(iAnd_255 _).1,(iAnd_255 _).2,h1,?_,?_⟩))
  ·simp only
   rw [wrap64 (by omega) (by omega)];omega
  ·simp only
   rw [wrap64 (by omega) (by omega)];omega
 ·exact wp_some (wp_some ⟨(iAnd_255 _).1,(iAnd_255 _).2,h1,h2,h3⟩)
theorem below_wp (c:Cur) (n:Int) (h:COk c):wp (spec_l01Below c n) fun r=>0≤r.1∧(0<n→r.1<n)∧(n≤0→r.1=0)∧COk r.2.1:=by
 unfold spec_l01Below
 refine wp_bif (fun hb=>wp_some ?_) (fun hb=>wp_bif (fun hb2=>?_) (fun hb2=>?_))
 ·have hn:n≤0:=by simpa using hb
  exact⟨by simp,fun h=>by omega,fun _=>rfl,h⟩
 ·have hn:0<n:=by simpa using hb
  refine wp_bind (wp_mono (byte_wp c h) fun y hy=>wp_run (by show n≠0;omega) (wp_some ⟨Int.tmod_nonneg _ hy.1,fun _=>Int.tmod_lt_of_pos _ hn,fun h=>by omega,hy.2.2⟩))
 ·have hn:0<n:=by simpa using hb
  refine wp_bind (wp_mono (byte_wp c h) fun y hy=>wp_bind (wp_mono (byte_wp _ hy.2.2) fun y2 hy2=>wp_bind (wp_mono (byte_wp _ hy2.2.2) fun y3 hy3=>wp_bind (wp_mono (byte_wp _ hy3.2.2) fun y4 hy4=>?_))))
  have e1:IntKind.wrap .i64 (y.1 * 16777216)=y.1 * 16777216:=wrap64 (by omega) (by omega)
  have e2:IntKind.wrap .i64 (y2.1 * 65536)=y2.1 * 65536:=wrap64 (by omega) (by omega)
  have e3:IntKind.wrap .i64 (y3.1 * 256)=y3.1 * 256:=wrap64 (by omega) (by omega)
  rw [e1,e2,e3,wrap64 (x:=y.1 * 16777216+y2.1 * 65536) (by omega) (by omega),wrap64 (x:=y.1 * 16777216+y2.1 * 65536+y3.1 * 256) (by omega) (by omega),wrap64 (x:=y.1 * 16777216+y2.1 * 65536+y3.1 * 256+y4.1) (by omega) (by omega)]
  exact wp_run (by show n≠0;omega) (wp_some ⟨Int.tmod_nonneg _ (by omega),fun _=>Int.tmod_lt_of_pos _ hn,fun h=>by omega,hy4.2.2⟩)
theorem once_wp (c:Cur) (n:Int) (h:COk c):wp (spec_l01Once c n) fun r=>COk r.2.1:=by
 unfold spec_l01Once
 exact wp_bind (wp_mono (below_wp c n h) fun y hy=>wp_some hy.2.2.2)
theorem rd_get {D:Type} (l:List D) (n:Int) (z:D) (h0:0≤n) (h1:n<l.length):rd l n z∈l:=by
 have hlt:n.toNat<l.length:=by omega
 have:rd l n z=l[n.toNat]:=by simp [rd,List.getD_eq_getElem?_getD,List.getElem?_eq_getElem hlt]
 rw [this];exact List.getElem_mem hlt
theorem pick_wp (c:Cur) (l:List ByteArray) (hl:l≠[]) (h:COk c):wp (spec_l01Pick c l) fun r=>r.1∈l∧COk r.2.1:=by
 unfold spec_l01Pick
 have hp:0<(l.length:Int):=by have:=List.length_pos_iff.2 hl;omega
 exact wp_bind (wp_mono (below_wp c _ h) fun y hy=>wp_run ⟨hy.1,hy.2.1 hp⟩ (wp_some ⟨rd_get _ _ _ hy.1 (hy.2.1 hp),hy.2.2.2⟩))
end Go.Proofs.YtmakhmoielhjeaaGreatDoorE
namespace Go.Proofs.YtmakhmoielhjeaaGreatDoorE
set_option linter.all false
set_option maxRecDepth 100000
def keys:List ByteArray:=[s_fn_0f1e,s_let_5654,s_if_935f,s_else_7dd5,s_while_07a8,s_print_ce95,s_do_ac0b,s_new_1150,s_clone_b5d6,s_mut_631c,s_input_c96c,s_int_6da8,s_box_26f8,s_ret_85e4]
def isKey (s:ByteArray):Bool:=keys.any fun k=>decide (k=s)
theorem spec_KeyWord_ok (s:ByteArray):spec_KeyWord s=some (isKey s,()):=by
 simp only [spec_KeyWord,spec_l03Keys,Option.bind_some]
 have h:=loopF_any (step:=L1_spec_KeyWord) keys (fun k=>decide (k=s)) (fun k=>(s,keys,(k:Int),())) (.inr (true,())) (.inl ()) (fun k hk=>by
  have hk14:k<14:=hk
  simp only [L1_spec_KeyWord,lt_cast hk,decide_true,cond_true,idx_run hk,rd_nat hk]
  by_cases e:keys[k]=s<;>simp only [e,decide_true,decide_false,cond_true,cond_false,cond_true,cond_false,Option.map_some,wrapSucc (show k<9223372036854775807 by omega)]) (by
  simp only [L1_spec_KeyWord,not_lt_self,decide_false,cond_false,Option.map_some])
 have h':loopF L1_spec_KeyWord (s,[s_fn_0f1e,s_let_5654,s_if_935f,s_else_7dd5,s_while_07a8,s_print_ce95,s_do_ac0b,s_new_1150,s_clone_b5d6,s_mut_631c,s_input_c96c,s_int_6da8,s_box_26f8,s_ret_85e4],(0:Int),())=_:=h
 rw [h']
 show joinS (some (bif isKey s then Sum.inr (true,()) else Sum.inl ())) _=_
 cases isKey s<;>rfl
def letter (c:Int):Bool:=decide (97≤c∧c≤122)
def figure (c:Int):Bool:=decide (48≤c∧c≤57)
theorem sLetter (c:Int):spec_l03Letter c=some (letter c,()):=by
 unfold spec_l03Letter letter
 by_cases h:97≤c<;>simp [h,joinP]
theorem sFigure (c:Int):spec_l03Figure c=some (figure c,()):=by
 unfold spec_l03Figure figure
 by_cases h:48≤c<;>simp [h,joinP]
def signOk (b:UInt8):Bool:=letter (b.toNat:Int) || figure (b.toNat:Int)
def nameOk (s:ByteArray):Bool:=decide (1≤s.size∧s.size≤8) && letter (bAt s 0) && !isKey s && s.data.toList.all signOk
theorem bAt_list {s:ByteArray} {k:Nat} (h:k<s.data.toList.length):bAt s (k:Int)=((s.data.toList[k].toNat:Nat):Int):=by
 have h':k<s.data.size:=by simpa using h
 rw [bAt_nat',Array.getD_eq_getD_getElem?,Array.getElem?_eq_getElem h']
 simp
theorem size_list (s:ByteArray):s.data.toList.length=s.size:=by rw [Array.length_toList];rfl
theorem name_loopS (s:ByteArray) (hs:s.size≤8):loopF L1_spec_NameOk (s,(0:Int),())=some (bif s.data.toList.all signOk then .inl () else .inr (false,())):=by
 have hsz:=size_list s
 have h:=loopF_all (step:=L1_spec_NameOk) s.data.toList signOk (fun k=>(s,(k:Int),())) (.inl ()) (.inr (false,())) (fun k hk=>by
  have hk':k<s.size:=by omega
  have hb:=bAt_list hk
  simp only [L1_spec_NameOk,lt_cast hk',decide_true,cond_true,idx_run hk',sLetter,sFigure,Option.bind_some,hb,signOk]
  generalize ((s.data.toList[k].toNat:Nat):Int)=x
  cases letter x<;>cases figure x<;>simp only [Bool.not_false,Bool.not_true,cond_true,cond_false,joinP_some,Option.map_some,Bool.or_false,Bool.or_true,Bool.true_or,Bool.false_or,cond_true,cond_false,wrapSucc (show k<9223372036854775807 by omega)]) (by
  rw [hsz]
  simp only [L1_spec_NameOk,not_lt_self,decide_false,cond_false,Option.map_some])
 exact h
theorem idx0 {α:Type} {n:Nat} {K:Option α} (h:0<n):(Cnd.idx (0:Int) n).run K=K:=idx_run (k:=0) h
theorem spec_NameOk_ok (s:ByteArray):spec_NameOk s=some (nameOk s,()):=by
 unfold spec_NameOk nameOk
 rw [sIn]
 simp only [Option.bind_some]
 by_cases h:(1:Int)≤(s.size:Int)∧(s.size:Int)≤8
 ·have h':1≤s.size∧s.size≤8:=by omega
  simp only [h,h',and_self,decide_true,Bool.not_true,cond_false,idx0 (show 0<s.size by omega),sLetter,Option.bind_some,Bool.true_and]
  cases letter (bAt s 0)
  ·simp only [Bool.not_false,cond_true,joinP_some,Bool.false_and]
  ·simp only [Bool.not_true,cond_false,spec_KeyWord_ok,Option.bind_some,joinP_some,Bool.true_and]
   cases isKey s
   ·simp only [cond_false,Option.bind_some,name_loopS s h'.2,Bool.not_false,Bool.true_and]
    cases s.data.toList.all signOk<;>simp only [cond_true,cond_false,joinS_inl,joinS_inr]
   ·simp only [cond_true,Bool.not_true,Bool.false_and]
 ·have h':¬ (1≤s.size∧s.size≤8):=by omega
  simp only [h,h',decide_false,Bool.not_false,cond_true,joinP_some,Bool.false_and]
end Go.Proofs.YtmakhmoielhjeaaGreatDoorE
namespace Go.Proofs.YtmakhmoielhjeaaGreatDoorE
set_option linter.all false
set_option maxRecDepth 100000
abbrev SIGN:=Int×(ByteArray×Int)
theorem mark_wp (t:ByteArray) (at_:Int) (h0:0≤at_) (h1:at_≤t.size) (ht:t.size≤3000):wp (spec_l03Mark t at_) fun r=>r.1=(⟨#[]⟩:ByteArray)∨(0<r.1.size∧at_+r.1.size≤t.size):=by
 unfold spec_l03Mark spec_l03Marks
 refine wp_bind (wp_some (wp_joinS (wp_bind (wp_some ?_))))
 simp only
 generalize hL:[s____71b3,s____f164,s___32eb,s___ba5e,s___021f,s___d10b,s___41b8,s___e7ac,s___d035,s___951d,s___6848,s___3809,s___a318,s___dabd]=L
 have hlen:L.length=14:=by rw [← hL];rfl
 have hsz:∀ s∈L,0<s.size∧s.size≤2:=by
  rw [← hL]
  intro s hs
  simp only [List.mem_cons,List.not_mem_nil,or_false] at hs
  rcases hs with e | e | e | e | e | e | e | e | e | e | e | e | e | e<;>rw [e]<;>decide
 clear hL
 refine wp_mono (wp_loop (fun x:SL1_spec_l03Mark=>x.1=t∧x.2.1=at_∧x.2.2.1=L∧0≤x.2.2.2.1∧x.2.2.2.1≤14) (fun x=>14 - x.2.2.2.1.toNat) (Q:=fun s:Unit ⊕ (ByteArray×Unit)=>∀ r,s=.inr r→0<r.1.size∧at_+r.1.size≤t.size) (fun x hx=>?_) ⟨rfl,rfl,rfl,by simp,by simp⟩) (fun s hs=>⟨fun b hb=>wp_some (.inl rfl),fun r hr=>.inr (hs r hr)⟩)
 obtain⟨x0,x1,x2,x3,_⟩:=x
 simp only at hx
 obtain⟨e1,e2,e3,g1,g2⟩:=hx
 subst e1 e2 e3
 unfold L1_spec_l03Mark
 simp only
 refine wp_bif (fun hb=>?_) fun _=>wp_map (wp_map (wp_some (wp_inr (fun r hr=>by cases hr))))
 have hlt:x3<(x2.length:Int):=by simpa using hb
 have hm:=hsz _ (rd_get x2 x3 (⟨#[]⟩:ByteArray) g1 hlt)
 have e:IntKind.wrap .i64 (x1+((rd x2 x3 (⟨#[]⟩:ByteArray)).size:Int))=x1+((rd x2 x3 (⟨#[]⟩:ByteArray)).size:Int):=wrap64 (by omega) (by omega)
 rw [e]
 refine wp_run ⟨g1,hlt⟩ (wp_joinP (wp_mono (Q:=fun z:ByteArray×Int×List ByteArray×Int×Bool×Unit=>z.1=x0∧z.2.1=x1∧z.2.2.1=x2∧z.2.2.2.1=x3∧(z.2.2.2.2.1=true→x1+((rd x2 x3 (⟨#[]⟩:ByteArray)).size:Int)≤x0.size)) (wp_bif (fun hb2=>?_) fun _=>wp_some ⟨rfl,rfl,rfl,rfl,fun h=>by cases h⟩) fun z hz=>?_))
 ·have h2:x1+((rd x2 x3 (⟨#[]⟩:ByteArray)).size:Int)≤(x0.size:Int):=by simpa using hb2
  exact wp_run ⟨h0,by omega,h2⟩ (wp_run ⟨g1,hlt⟩ (wp_some ⟨rfl,rfl,rfl,rfl,fun _=>h2⟩))
 ·obtain⟨z0,z1,z2,z3,z4,_⟩:=z
  simp only at hz
  obtain⟨e1,e2,e3,e4,g3⟩:=hz
  subst e1 e2 e3 e4
  simp only
  refine wp_bif (fun hb3=>wp_run ⟨g1,hlt⟩ (wp_map (wp_map (wp_some (wp_inr (fun r hr=>by cases hr;exact⟨hm.1,g3 hb3⟩)))))) fun _=>?_
  rw [wrap64 (x:=z3+1) (by omega) (by omega)]
  exact wp_map (wp_some (wp_inl ⟨⟨rfl,rfl,rfl,by simp only;omega,by simp only;omega⟩,by simp only;omega⟩))
theorem ident_wp (t:ByteArray) (n o:List SIGN) (at_:Int) (h0:0≤at_) (h1:at_<t.size) (ht:t.size≤3000) (hl:letter (bAt t at_)=true):
 wp (loopF L1_spec_SignsOf (t,n,o,at_,at_,())) fun r=>r.1=t∧r.2.1=n∧r.2.2.1=o∧r.2.2.2.1=at_∧at_<r.2.2.2.2.1∧r.2.2.2.2.1≤t.size:=by
 refine wp_loop (fun x:SL1_spec_SignsOf=>x.1=t∧x.2.1=n∧x.2.2.1=o∧x.2.2.2.1=at_∧at_≤x.2.2.2.2.1∧x.2.2.2.2.1≤t.size) (fun x=>t.size - x.2.2.2.2.1.toNat) (fun x hx=>?_) ⟨rfl,rfl,rfl,rfl,by simp,by simp only;omega⟩
 obtain⟨x0,x1,x2,x3,x4,_⟩:=x
 simp only at hx
 obtain⟨e1,e2,e3,e4,g1,g2⟩:=hx
 subst e1 e2 e3 e4
 unfold L1_spec_SignsOf
 simp only
 refine wp_joinP (wp_mono (Q:=fun z:ByteArray×List SIGN×List SIGN×Int×Int×Bool×Unit=>z.1=x0∧z.2.1=x1∧z.2.2.1=x2∧z.2.2.2.1=x3∧z.2.2.2.2.1=x4∧(z.2.2.2.2.2.1=true→x4<x0.size)∧(z.2.2.2.2.2.1=false→x4≠x3)) (wp_bif (fun hb=>?_) fun hb=>wp_some ⟨rfl,rfl,rfl,rfl,rfl,fun h=>(by cases h),fun _ e=>?_⟩) fun z hz=>?_)
 ·have hlt:x4<(x0.size:Int):=by simpa using hb
  rw [sLetter,sFigure]
  refine wp_run ⟨by omega,hlt⟩ (wp_bind (wp_some (wp_bif (fun _=>wp_some ⟨rfl,rfl,rfl,rfl,rfl,fun _=>hlt,fun h=>by cases h⟩) fun hb2=>wp_run ⟨by omega,hlt⟩ (wp_bind (wp_some (wp_some ⟨rfl,rfl,rfl,rfl,rfl,fun _=>hlt,fun _ e=>?_⟩))))))
  simp only at hb2
  rw [e,hl] at hb2;cases hb2
 ·have:¬ x4<(x0.size:Int):=by simpa using hb
  omega
 ·obtain⟨z0,z1,z2,z3,z4,z5,_⟩:=z
  simp only at hz
  obtain⟨e1,e2,e3,e4,e5,g3,g4⟩:=hz
  subst e1 e2 e3 e4 e5
  simp only
  refine wp_bif (fun hb=>?_) fun hb=>wp_map (wp_some (wp_inr ⟨rfl,rfl,rfl,rfl,by have:=g4 hb;simp only;omega,g2⟩))
  have:=g3 hb
  rw [wrap64 (x:=z4+1) (by omega) (by omega)]
  exact wp_map (wp_some (wp_inl ⟨⟨rfl,rfl,rfl,rfl,by simp only;omega,by simp only;omega⟩,by simp only;omega⟩))
theorem digits_wp (t:ByteArray) (n o:List SIGN) (at_:Int) (h0:0≤at_) (h1:at_<t.size) (ht:t.size≤3000) (hl:figure (bAt t at_)=true):
 wp (loopF L2_spec_SignsOf (t,n,o,at_,at_,(0:Int),())) fun r=>r.1=t∧r.2.1=n∧r.2.2.1=o∧r.2.2.2.1=at_∧at_<r.2.2.2.2.1∧r.2.2.2.2.1≤t.size:=by
 refine wp_loop (fun x:SL2_spec_SignsOf=>x.1=t∧x.2.1=n∧x.2.2.1=o∧x.2.2.2.1=at_∧at_≤x.2.2.2.2.1∧x.2.2.2.2.1≤t.size) (fun x=>t.size - x.2.2.2.2.1.toNat) (fun x hx=>?_) ⟨rfl,rfl,rfl,rfl,by simp,by simp only;omega⟩
 obtain⟨x0,x1,x2,x3,x4,x5,_⟩:=x
 simp only at hx
 obtain⟨e1,e2,e3,e4,g1,g2⟩:=hx
 subst e1 e2 e3 e4
 unfold L2_spec_SignsOf
 simp only
 refine wp_joinP (wp_mono (Q:=fun z:ByteArray×List SIGN×List SIGN×Int×Int×Int×Bool×Unit=>z.1=x0∧z.2.1=x1∧z.2.2.1=x2∧z.2.2.2.1=x3∧z.2.2.2.2.1=x4∧(z.2.2.2.2.2.2.1=true→x4<x0.size)∧(z.2.2.2.2.2.2.1=false→x4≠x3)) (wp_bif (fun hb=>?_) fun hb=>wp_some ⟨rfl,rfl,rfl,rfl,rfl,fun h=>(by cases h),fun _ e=>?_⟩) fun z hz=>?_)
 ·have hlt:x4<(x0.size:Int):=by simpa using hb
  rw [sFigure]
  refine wp_run ⟨by omega,hlt⟩ (wp_bind (wp_some (wp_bif (fun _=>wp_some ⟨rfl,rfl,rfl,rfl,rfl,fun _=>hlt,fun h e=>?_⟩) fun hb2=>wp_some ⟨rfl,rfl,rfl,rfl,rfl,fun h=>(by cases h),fun _ e=>?_⟩)))
  ·rw [e] at h
   simp only [Int.sub_self] at h
   exact absurd h (by decide)
  ·simp only at hb2
   rw [e,hl] at hb2;cases hb2
 ·have:¬ x4<(x0.size:Int):=by simpa using hb
  omega
 ·obtain⟨z0,z1,z2,z3,z4,z5,z6,_⟩:=z
  simp only at hz
  obtain⟨e1,e2,e3,e4,e5,g3,g4⟩:=hz
  subst e1 e2 e3 e4 e5
  simp only
  refine wp_bif (fun hb=>?_) fun hb=>wp_map (wp_some (wp_inr ⟨rfl,rfl,rfl,rfl,by have:=g4 hb;simp only;omega,g2⟩))
  have:=g3 hb
  rw [wrap64 (x:=z4+1) (by omega) (by omega)]
  exact wp_run ⟨by omega,this⟩ (wp_map (wp_some (wp_inl ⟨⟨rfl,rfl,rfl,rfl,by simp only;omega,by simp only;omega⟩,by simp only;omega⟩)))
theorem signs_wp (t:ByteArray):wp (spec_SignsOf t) fun r=>r.1.length≤3000:=by
 unfold spec_SignsOf
 refine wp_bif (fun _=>wp_some (by simp)) fun hb=>wp_joinS (wp_bind (wp_some ?_))
 have ht:t.size≤3000:=by
  have:¬ (3000:Int)<(t.size:Int):=by simpa using hb
  omega
 refine wp_mono (wp_loop (fun x:SL3_spec_SignsOf=>x.1=t∧x.2.1=[]∧0≤x.2.2.2.1∧x.2.2.2.1≤t.size∧(x.2.2.1.length:Int)≤x.2.2.2.1) (fun x=>t.size - x.2.2.2.1.toNat)
  (Q:=fun s:(List SIGN×Unit) ⊕ (List SIGN×Bool×Unit)=>(∀ b,s=.inl b→b.1.length≤3000)∧∀ r,s=.inr r→r.1.length≤3000) (fun x hx=>?_) ⟨rfl,rfl,by simp,by simp,by simp⟩) (fun s hs=>⟨fun b hb=>wp_some (hs.1 b hb),hs.2⟩)
 obtain⟨x0,x1,x2,x3,_⟩:=x
 simp only at hx
 obtain⟨e1,e2,g1,g2,g3⟩:=hx
 subst e1 e2
 unfold L3_spec_SignsOf
 simp only
 refine wp_bif (fun hb=>?_) fun _=>wp_map (wp_map (wp_some (wp_inr ⟨fun b hb=>by cases hb;simp only;omega,fun r hr=>by cases hr⟩)))
 have hlt:x3<(x0.size:Int):=by simpa using hb
 refine wp_joinS (wp_mono (Q:=fun s:(ByteArray×List SIGN×List SIGN×Int×Unit) ⊕ (SL3_spec_SignsOf ⊕ ((List SIGN×Unit) ⊕ (List SIGN×Bool×Unit)))=>(∀ b,s=.inl b→b.1=x0∧b.2.1=[]∧x3<b.2.2.2.1∧b.2.2.2.1≤x0.size∧(b.2.2.1.length:Int)≤b.2.2.2.1)∧∀ r,s=.inr r→r=.inr (.inr ([],false,()))) (wp_joinP (wp_mono (Q:=fun z:ByteArray×List SIGN×List SIGN×Int×Bool×Unit=>z.1=x0∧z.2.1=[]∧z.2.2.1=x2∧z.2.2.2.1=x3) (wp_run ⟨g1,hlt⟩ (wp_bif (fun _=>wp_some ⟨rfl,rfl,rfl,rfl⟩) fun _=>wp_run ⟨g1,hlt⟩ (wp_some ⟨rfl,rfl,rfl,rfl⟩))) fun z hz=>?_)) fun s hs=>⟨fun b hb=>?_,fun r hr=>?_⟩)
 ·obtain⟨z0,z1,z2,z3,z4,_⟩:=z
  simp only at hz
  obtain⟨e1,e2,e3,e4⟩:=hz
  subst e1 e2 e3 e4
  simp only
  refine wp_bif (fun _=>?_) fun _=>wp_run ⟨g1,hlt⟩ ?_
  ·rw [wrap64 (x:=z3+1) (by omega) (by omega)]
   exact wp_map (wp_some (wp_inl ⟨rfl,rfl,by simp only;omega,by simp only;omega,by simp only;omega⟩))
  rw [sLetter,sFigure]
  refine wp_bind (wp_some (wp_bif (fun hl=>?_) fun _=>wp_run ⟨g1,hlt⟩ (wp_bind (wp_some (wp_bif (fun hf=>?_) fun _=>?_)))))
  ·refine wp_joinP (wp_bind (wp_some (wp_mono (ident_wp z0 [] z2 z3 g1 hlt ht hl) fun r hr=>?_)))
   obtain⟨r0,r1,r2,r3,r4,_⟩:=r
   simp only at hr
   obtain⟨e1,e2,e3,e4,g4,g5⟩:=hr
   subst e1 e2 e3 e4
   refine wp_bif (fun _=>wp_map (wp_map (wp_map (wp_some (wp_inr rfl))))) fun _=>wp_run ⟨g1,by simp only;omega,g5⟩ (wp_run (by simp only [Cnd.holds,List.length_singleton];omega) (wp_map (wp_some (wp_inl ⟨rfl,rfl,g4,g5,by simp only [List.length_append,List.length_singleton];omega⟩))))
  ·refine wp_joinP (wp_bind (wp_some (wp_mono (digits_wp z0 [] z2 z3 g1 hlt ht hf) fun r hr=>?_)))
   obtain⟨r0,r1,r2,r3,r4,r5,_⟩:=r
   simp only at hr
   obtain⟨e1,e2,e3,e4,g4,g5⟩:=hr
   subst e1 e2 e3 e4
   simp only
   refine wp_joinP (wp_mono (Q:=fun u:ByteArray×List SIGN×List SIGN×Int×Int×Bool×Unit=>u.1=r0∧u.2.1=[]∧u.2.2.1=r2∧u.2.2.2.1=r4) (wp_bif (fun _=>wp_some ⟨rfl,rfl,rfl,rfl⟩) fun _=>wp_some ⟨rfl,rfl,rfl,rfl⟩) fun u hu=>?_)
   obtain⟨u0,u1,u2,u3,u4,u5,_⟩:=u
   simp only at hu
   obtain⟨e1,e2,e3,e4⟩:=hu
   subst e1 e2 e3 e4
   refine wp_bif (fun _=>wp_map (wp_map (wp_map (wp_some (wp_inr rfl))))) fun _=>wp_run (by simp only [Cnd.holds,List.length_singleton];omega) (wp_map (wp_some (wp_inl ⟨rfl,rfl,g4,g5,by simp only [List.length_append,List.length_singleton];omega⟩)))
  ·refine wp_bind (wp_mono (mark_wp z0 z3 g1 (by omega) ht) fun y hy=>wp_bif (fun _=>wp_map (wp_map (wp_map (wp_some (wp_inr rfl))))) fun hn=>?_)
   have hne:y.1≠(⟨#[]⟩:ByteArray):=by simpa using hn
   rcases hy with hy | ⟨hy1,hy2⟩
   ·exact absurd hy hne
   rw [wrap64 (x:=z3+(y.1.size:Int)) (by omega) (by omega)]
   exact wp_run (by simp only [Cnd.holds,List.length_singleton];omega) (wp_map (wp_some (wp_inl ⟨rfl,rfl,by simp only;omega,by simp only;omega,by simp only [List.length_append,List.length_singleton];omega⟩)))
 ·have:=hs.1 b hb
  obtain⟨b0,b1,b2,b3,_⟩:=b
  simp only at this
  obtain⟨e1,e2,k1,k2,k3⟩:=this
  subst e1 e2
  exact wp_map (wp_some (wp_inl ⟨⟨rfl,rfl,by simp only;omega,k2,k3⟩,by simp only;omega⟩))
 ·rw [hs.2 r hr]
  exact wp_inr ⟨fun b hb=>(by cases hb),fun r hr=>(by cases hr;simp)⟩
end Go.Proofs.YtmakhmoielhjeaaGreatDoorE
namespace Go.Proofs.YtmakhmoielhjeaaGreatDoorE
set_option linter.all false
set_option maxRecDepth 100000
abbrev NODE:=Int×(Int×(ByteArray×List Int))
abbrev FN:=ByteArray×(List (ByteArray×Int)×(Int×(Int×Int)))
abbrev PROG:=List NODE×List FN
abbrev zN:NODE:=((0:Int),((0:Int),((⟨#[]⟩:ByteArray),[])))
structure FineN (l:List NODE):Prop where
 len:l.length≤1048576
 kid:∀ x∈l,(x:NODE).2.2.2.length≤1048576
theorem lenm1 {n:Nat} (h:n≤1048576):IntKind.wrap .i64 ((n:Int) - 1)=(n:Int) - 1:=wrap64 (by omega) (by omega)
def kr (k:Int):Int×Int:=if k=8∨k=13∨k=14∨k=15∨k=18∨k=19 then (1,1) else if k=9∨k=10∨k=11∨k=17 then (2,2) else if k=12 then (0,3) else if k=16 then (3,3) else if k=20 then (0,12) else (0,0)
theorem sKids (k:Int):spec_l04Kids k=some ((kr k).1,(kr k).2,()):=by
 unfold spec_l04Kids kr
 by_cases h8:k=8
 ·subst h8;rfl
 by_cases h13:k=13
 ·subst h13;rfl
 by_cases h14:k=14
 ·subst h14;rfl
 by_cases h15:k=15
 ·subst h15;rfl
 by_cases h18:k=18
 ·subst h18;rfl
 by_cases h19:k=19
 ·subst h19;rfl
 by_cases h9:k=9
 ·subst h9;rfl
 by_cases h10:k=10
 ·subst h10;rfl
 by_cases h11:k=11
 ·subst h11;rfl
 by_cases h17:k=17
 ·subst h17;rfl
 by_cases h12:k=12
 ·subst h12;rfl
 by_cases h16:k=16
 ·subst h16;rfl
 by_cases h20:k=20
 ·subst h20;rfl
 simp only [h8,h13,h14,h15,h18,h19,h9,h10,h11,h17,h12,h16,h20,decide_false,cond_false,joinP_some,or_self,if_false]
def named (k:Int):Bool:=decide (2≤k∧k≤6) || decide (12≤k∧k≤15)
theorem sNamed (k:Int):spec_l04Named k=some (named k,()):=by
 unfold spec_l04Named
 by_cases h2:k=2
 ·subst h2;rfl
 by_cases h3:k=3
 ·subst h3;rfl
 by_cases h4:k=4
 ·subst h4;rfl
 by_cases h5:k=5
 ·subst h5;rfl
 by_cases h6:k=6
 ·subst h6;rfl
 by_cases h12:k=12
 ·subst h12;rfl
 by_cases h13:k=13
 ·subst h13;rfl
 by_cases h14:k=14
 ·subst h14;rfl
 by_cases h15:k=15
 ·subst h15;rfl
 simp only [h2,h3,h4,h5,h6,h12,h13,h14,h15,decide_false,cond_false,joinP_some,named]
 rw [decide_eq_false (by omega),decide_eq_false (by omega)];rfl
def fits (k i j:Int):Bool:=bif decide (k=20) then decide (13≤j∧j≤19) else bif (decide (k=16) || decide (k=17)) && decide (0<i) then decide (j=20) else bif decide (k=19) then decide (j=12) else decide (1≤j∧j≤12)
theorem sFits (k i j:Int):spec_l04Fits k i j=some (fits k i j,()):=by
 simp only [spec_l04Fits,spec_l04Statement,spec_l04Value,sIn,Option.bind_some,fits]
 cases decide (k=20)
 ·simp only [cond_false]
  by_cases h16:k=16
  ·subst h16
   simp only [decide_true,cond_true,joinP_some,Bool.true_or,Bool.true_and]
   cases decide (0<i)<;>rfl
  ·by_cases h17:k=17
   ·subst h17
    simp only [show ¬ ((17:Int)=16) by decide,decide_true,decide_false,cond_true,cond_false,joinP_some,Bool.or_true,Bool.true_and]
    cases decide (0<i)<;>rfl
   ·simp only [h16,h17,decide_false,cond_false,joinP_some,Bool.or_self,Bool.false_and]
    cases decide (k=19)<;>rfl
 ·rfl
def hasI (l:List Int) (n:Int):Bool:=l.any fun y=>decide (y=n)
def kidOk (l:List NODE) (k:Int) (x:NODE) (i:Nat):Bool:=decide (0≤x.2.2.2.getD i 0∧x.2.2.2.getD i 0≤k - 1) && (fits x.1 (i:Int) (rd l (x.2.2.2.getD i 0) zN).1 && !hasI (x.2.2.2.take i) (x.2.2.2.getD i 0))
def kidsOk (l:List NODE) (k:Int) (x:NODE):Bool:=(List.range x.2.2.2.length).all (kidOk l k x)
def nodeBody (l:List NODE) (k:Int) (x:NODE):Bool:=decide (1≤x.1∧x.1≤20) && (decide ((kr x.1).1≤(x.2.2.2.length:Int)∧(x.2.2.2.length:Int)≤(kr x.1).2) && ((bif decide (x.1=1) then decide (0≤x.2.1∧x.2.1≤1000000000) else decide (x.2.1=0)) && ((bif named x.1 then nameOk x.2.2.1 else decide (x.2.2.1=(⟨#[]⟩:ByteArray))) && kidsOk l k x)))
def nodeOk (l:List NODE) (k:Int):Bool:=decide (0≤k∧k≤(l.length:Int) - 1) && nodeBody l k (rd l k zN)
theorem idx_range {α:Type} {n:Int} {m:Nat} {K:Option α} (h:0≤n∧n<(m:Int)):(Cnd.idx n m).run K=K:=by
 simp only [Cnd.run];rw [if_pos h]
theorem dup_loop (l:List NODE) (k:Int) (x:NODE) (i:Nat) (hi:i<x.2.2.2.length) (hx:x.2.2.2.length≤1048576):
 loopF L1_spec_NodeOk (l,k,(i:Int),(0:Int),x,())=some (bif hasI (x.2.2.2.take i) (x.2.2.2.getD i 0) then .inr (.inr (.inr (.inr (false,())))) else .inl (l,k,(i:Int),x,())):=by
 have hlen:(x.2.2.2.take i).length=i:=by rw [List.length_take];omega
 have h:=loopF_any (step:=L1_spec_NodeOk) (x.2.2.2.take i) (fun y=>decide (y=x.2.2.2.getD i 0)) (fun j=>(l,k,(i:Int),(j:Int),x,())) (.inr (.inr (.inr (.inr (false,()))))) (.inl (l,k,(i:Int),x,())) (fun j hj=>by
  have hj':j<i:=by omega
  have hjl:j<x.2.2.2.length:=by omega
  have hg:x.2.2.2.getD i 0=x.2.2.2[i]:=by simp [hi]
  have e:decide (x.2.2.2[i]=x.2.2.2[j])=decide (x.2.2.2[j]=x.2.2.2[i]):=by
   by_cases h:x.2.2.2[i]=x.2.2.2[j]
   ·rw [decide_eq_true h,decide_eq_true h.symm]
   ·rw [decide_eq_false h,decide_eq_false (fun h'=>h h'.symm)]
  simp only [L1_spec_NodeOk,lt_cast hj',decide_true,cond_true,idx_run hi,idx_run hjl,rd_nat hi,rd_nat hjl,wrapSucc (show j<9223372036854775807 by omega),hg,e,List.getElem_take]
  cases decide (x.2.2.2[j]=x.2.2.2[i])<;>rfl) (by
  rw [hlen]
  simp only [L1_spec_NodeOk,not_lt_self,decide_false,cond_false,Option.map_some])
 exact h
theorem kids_loopS (l:List NODE) (k:Nat) (hk:k<l.length) (hl:FineN l) (x:NODE) (hx:x.2.2.2.length≤1048576):
 loopF L2_spec_NodeOk (l,(k:Int),(0:Int),x,())=some (bif kidsOk l k x then .inl () else .inr (false,())):=by
 have hlen:=hl.len
 have h:=loopF_all (step:=L2_spec_NodeOk) (List.range x.2.2.2.length) (kidOk l k x) (fun i=>(l,(k:Int),(i:Int),x,())) (.inl ()) (.inr (false,())) (fun i hi=>by
  have hi':i<x.2.2.2.length:=by simpa using hi
  have wi:=wrapSucc (show i<9223372036854775807 by omega)
  have hg:x.2.2.2.getD i 0=x.2.2.2[i]:=by simp [hi']
  have wk:IntKind.wrap .i64 ((k:Int) - 1)=(k:Int) - 1:=wrap64 (by omega) (by omega)
  have hd:=dup_loop l (k:Int) x i hi' hx
  rw [hg] at hd
  simp only [L2_spec_NodeOk,lt_cast hi',decide_true,cond_true,idx_run hi',rd_nat hi',sIn,Option.bind_some,wk,List.getElem_range,kidOk,hg]
  generalize x.2.2.2[i]=kid at hd ⊢
  by_cases hr:0≤kid∧kid≤(k:Int) - 1
  ·simp only [hr,and_self,decide_true,Bool.not_true,cond_false,Option.bind_some,Bool.true_and,idx_range (show 0≤kid∧kid<(l.length:Int) by omega),sFits]
   cases fits x.1 (i:Int) (rd l kid zN).1
   ·simp only [Bool.not_false,joinP_some,cond_true,Option.map_some,joinS_inr,Bool.false_and,cond_false]
   ·simp only [Bool.not_true,joinP_some,cond_false,hd,Bool.true_and]
    cases hasI (x.2.2.2.take i) kid<;>simp only [cond_true,cond_false,joinS_inl,joinS_inr,Bool.not_true,Bool.not_false,Option.map_some,wi]
  ·simp only [hr,decide_false,Bool.not_false,cond_true,joinP_some,Bool.false_and,cond_false,Option.map_some,joinS_inr]) (by
  rw [List.length_range]
  simp only [L2_spec_NodeOk,not_lt_self,decide_false,cond_false,Option.map_some])
 exact h
theorem name_ne {s:ByteArray} (h:nameOk s=true):s≠(⟨#[]⟩:ByteArray):=by
 rintro rfl
 simp only [nameOk,Bool.and_eq_true,decide_eq_true_eq] at h
 have:=h.1.1.1.1
 have e:(⟨#[]⟩:ByteArray).size=0:=rfl
 omega
theorem spec_NodeOk_ok (l:List NODE) (hl:FineN l) (k:Int):spec_NodeOk l k=some (nodeOk l k,()):=by
 unfold spec_NodeOk nodeOk
 simp only [lenm1 hl.len,sIn,Option.bind_some]
 by_cases hr:0≤k∧k≤(l.length:Int) - 1
 case neg=>simp only [hr,decide_false,Bool.not_false,cond_true,joinP_some,Bool.false_and]
 obtain⟨k,rfl⟩:∃ n:Nat,k=(n:Int):=⟨k.toNat,by omega⟩
 have hk:k<l.length:=by omega
 simp only [hr,and_self,decide_true,Bool.not_true,cond_false,idx_run hk,Bool.true_and,rd_nat hk,nodeBody,joinP_some]
 have hx:=hl.kid _ (List.getElem_mem hk)
 have hloop:=kids_loopS l k hk hl l[k] hx
 generalize l[k]=x at hx hloop ⊢
 cases decide (1≤x.1∧x.1≤20)
 ·simp only [Bool.not_false,cond_true,Bool.false_and]
 simp only [Bool.not_true,cond_false,Bool.true_and,idx_run hk,sKids,Option.bind_some,sIn]
 have eN:(bif !decide ((kr x.1).1≤(x.2.2.2.length:Int)∧(x.2.2.2.length:Int)≤(kr x.1).2) then some (l,(k:Int),true,x,()) else bif !decide (0≤x.2.1∧x.2.1≤1000000000) then some (l,(k:Int),true,x,()) else bif decide (x.1≠1) then some (l,(k:Int),decide (x.2.1≠0),x,()) else some (l,(k:Int),false,x,())) =
  some (l,(k:Int),!(decide ((kr x.1).1≤(x.2.2.2.length:Int)∧(x.2.2.2.length:Int)≤(kr x.1).2) && (bif decide (x.1=1) then decide (0≤x.2.1∧x.2.1≤1000000000) else decide (x.2.1=0))),x,()):=by
  cases decide ((kr x.1).1≤(x.2.2.2.length:Int)∧(x.2.2.2.length:Int)≤(kr x.1).2)
  ·rfl
  by_cases e:x.1=1
  ·simp only [e,decide_true,cond_true,ne_eq,not_true_eq_false,decide_false,cond_false,Bool.not_true,Bool.true_and]
   cases decide (0≤x.2.1∧x.2.1≤1000000000)<;>rfl
  ·by_cases e2:x.2.1=0
   ·simp [e,e2]
   ·by_cases e3:0≤x.2.1∧x.2.1≤1000000000<;>simp [e,e2,e3]
 rw [eN,joinP_some]
 cases decide ((kr x.1).1≤(x.2.2.2.length:Int)∧(x.2.2.2.length:Int)≤(kr x.1).2)
 ·simp only [Bool.false_and,Bool.not_false,cond_true]
 simp only [Bool.true_and]
 cases (bif decide (x.1=1) then decide (0≤x.2.1∧x.2.1≤1000000000) else decide (x.2.1=0))
 ·simp only [Bool.not_false,cond_true,Bool.false_and]
 simp only [Bool.not_true,cond_false,Bool.true_and,sNamed,spec_NameOk_ok,Option.bind_some]
 have eM:(bif !(named x.1 == decide (x.2.2.1≠(⟨#[]⟩:ByteArray))) then some (l,(k:Int),true,x,()) else bif decide (x.2.2.1≠(⟨#[]⟩:ByteArray)) then some (l,(k:Int),!nameOk x.2.2.1,x,()) else some (l,(k:Int),false,x,())) =
  some (l,(k:Int),!(bif named x.1 then nameOk x.2.2.1 else decide (x.2.2.1=(⟨#[]⟩:ByteArray))),x,()):=by
  by_cases e:x.2.2.1=(⟨#[]⟩:ByteArray)
  ·have hn:nameOk x.2.2.1=false:=by
    cases h:nameOk x.2.2.1
    ·rfl
    ·exact absurd e (name_ne h)
   rw [hn]
   cases named x.1<;>simp [e]
  ·cases named x.1<;>simp [e]
 rw [eM,joinP_some]
 cases (bif named x.1 then nameOk x.2.2.1 else decide (x.2.2.1=(⟨#[]⟩:ByteArray)))
 ·simp only [Bool.not_false,cond_true,Bool.false_and]
 simp only [Bool.not_true,cond_false,Bool.true_and,hloop]
 cases kidsOk l k x<;>rfl
end Go.Proofs.YtmakhmoielhjeaaGreatDoorE
namespace Go.Proofs.YtmakhmoielhjeaaGreatDoorE
set_option linter.all false
set_option maxRecDepth 100000
abbrev RD:=List SIGN×(Int×(Bool×(Int×List NODE)))
structure ROk (L:List SIGN) (r:RD):Prop where
 l:r.1=L
 a0:0≤r.2.1
 a1:r.2.1≤L.length
 n:r.2.2.2.2.length≤300
 k:∀ x∈r.2.2.2.2,(x:NODE).2.2.2.length≤100000
structure Mv (L:List SIGN) (r r':RD):Prop where
 ok:ROk L r'
 le:r.2.1≤r'.2.1
 bd:r.2.2.1=true→r'.2.2.1=true
structure Pg (L:List SIGN) (r r':RD):Prop extends Mv L r r' where
 pg:r'.2.2.1=true∨r.2.1<r'.2.1
theorem Mv.rfl' {L:List SIGN} {r:RD} (h:ROk L r):Mv L r r:=⟨h,Int.le_refl _,fun e=>e⟩
theorem Mv.trans {L:List SIGN} {a b c:RD} (h:Mv L a b) (h':Mv L b c):Mv L a c:=⟨h'.ok,Int.le_trans h.le h'.le,fun e=>h'.bd (h.bd e)⟩
theorem Mv.pg {L:List SIGN} {a b c:RD} (h:Mv L a b) (h':Pg L b c):Pg L a c:=⟨h.trans h'.toMv,h'.pg.imp id fun e=>by have:=h.le;omega⟩
theorem Pg.mv {L:List SIGN} {a b c:RD} (h:Pg L a b) (h':Mv L b c):Pg L a c:=⟨h.toMv.trans h',h.pg.imp h'.bd fun e=>by have:=h'.le;omega⟩
theorem Mv.deep {L:List SIGN} {a b:RD} (h:Mv L a b) (d:Int):Mv L a (b.1,(b.2.1,(b.2.2.1,(d,b.2.2.2.2)))):=⟨⟨h.ok.l,h.ok.a0,h.ok.a1,h.ok.n,h.ok.k⟩,h.le,h.bd⟩
theorem Pg.deep {L:List SIGN} {a b:RD} (h:Pg L a b) (d:Int):Pg L a (b.1,(b.2.1,(b.2.2.1,(d,b.2.2.2.2)))):=⟨h.toMv.deep d,h.pg⟩
theorem Mv.bad {L:List SIGN} {a b:RD} (h:Mv L a b):Pg L a (b.1,(b.2.1,(true,b.2.2.2))):=⟨⟨⟨h.ok.l,h.ok.a0,h.ok.a1,h.ok.n,h.ok.k⟩,h.le,fun _=>rfl⟩,.inl rfl⟩
theorem Mv.next {L:List SIGN} {a b:RD} (h:Mv L a b) (hlt:b.2.1<L.length):Pg L a (b.1,(b.2.1+1,b.2.2)):=⟨⟨⟨h.ok.l,by have:=h.ok.a0;simp only;omega,by simp only;omega,h.ok.n,h.ok.k⟩,by have:=h.le;simp only;omega,h.bd⟩,.inr (by have:=h.le;simp only;omega)⟩
section
variable {L:List SIGN} (hL:L.length≤3000)
include hL
theorem wrap1 {r:RD} (h:ROk L r):IntKind.wrap .i64 (r.2.1+1)=r.2.1+1:=wrap64 (by have:=h.a0;omega) (by have:=h.a1;omega)
theorem is_wp (r:RD) (k:Int) (s:ByteArray) (h:ROk L r):wp (spec_l05Read_is r k s) fun y=>y.2.1=r∧(y.1=true→r.2.1<L.length):=by
 unfold spec_l05Read_is
 refine wp_joinP (wp_mono (Q:=fun y:Bool×RD×Unit=>y.2.1=r∧(y.1=true→r.2.1<L.length)) (wp_bif (fun _=>wp_bif (fun hb=>?_) fun _=>wp_some ⟨rfl,fun h=>by cases h⟩) fun _=>wp_some ⟨rfl,fun h=>by cases h⟩) fun y hy=>wp_some hy)
 have hlt:r.2.1<(List.length r.1:Int):=by simpa using hb
 have hlt':r.2.1<(L.length:Int):=by rw [h.l] at hlt;exact hlt
 exact wp_run ⟨h.a0,hlt⟩ (wp_bif (fun _=>wp_run ⟨h.a0,hlt⟩ (wp_some ⟨rfl,fun _=>hlt'⟩)) fun _=>wp_some ⟨rfl,fun h=>by cases h⟩)
theorem takes_wp (r:RD) (k:Int) (s:ByteArray) (h:ROk L r):wp (spec_l05Read_takes r k s) fun y=>Mv L r y.2.1∧(y.1=true→Pg L r y.2.1∧r.2.1<y.2.1.2.1):=by
 unfold spec_l05Read_takes
 refine wp_bind (wp_mono (is_wp hL r k s h) fun y hy=>?_)
 obtain⟨e,hlt⟩:=hy
 rw [e,wrap1 hL h]
 refine wp_bif (fun hb=>wp_some ?_) fun _=>wp_some ⟨.rfl' h,fun h=>by cases h⟩
 have:=(Mv.rfl' h).next (hlt hb)
 exact⟨this.toMv,fun _=>⟨this,by simp only;omega⟩⟩
theorem mark_wp' (r:RD) (s:ByteArray) (h:ROk L r):wp (spec_l05Read_mark r s) fun y=>Pg L r y.1:=by
 unfold spec_l05Read_mark
 refine wp_bind (wp_mono (takes_wp hL r 3 s h) fun y hy=>wp_joinP (wp_bif (fun _=>wp_some (wp_some hy.1.bad)) fun hb=>wp_some (wp_some (hy.2 ?_).1)))
 cases hy1:y.1
 ·rw [hy1] at hb;cases hb
 ·rfl
theorem name_wp (r:RD) (h:ROk L r):wp (spec_l05Read_name r) fun y=>Pg L r y.2.1:=by
 unfold spec_l05Read_name
 refine wp_joinP (wp_mono (Q:=fun x:Bool×RD×Unit=>x.2.1=r∧(x.1=false→r.2.1<L.length)) (wp_bif (fun _=>wp_some ⟨rfl,fun h=>by cases h⟩) fun _=>wp_bif (fun _=>wp_some ⟨rfl,fun h=>by cases h⟩) fun hb=>?_) fun x hx=>?_)
 ·have hlt:r.2.1<(List.length r.1:Int):=by
   have:¬ (List.length r.1:Int)≤r.2.1:=by simpa using hb
   omega
  have hlt':r.2.1<(L.length:Int):=by rw [h.l] at hlt;exact hlt
  refine wp_run ⟨h.a0,hlt⟩ (wp_bif (fun _=>wp_some ⟨rfl,fun h=>by cases h⟩) fun _=>wp_run ⟨h.a0,hlt⟩ ?_)
  rw [spec_NameOk_ok]
  exact wp_bind (wp_some (wp_some ⟨rfl,fun _=>hlt'⟩))
 ·obtain⟨x0,x1,_⟩:=x
  simp only at hx
  obtain⟨e,hlt⟩:=hx
  subst e
  simp only
  refine wp_bif (fun _=>wp_some (Mv.rfl' h).bad) fun hb=>?_
  rw [wrap1 hL h,show x1.2.1+1 - 1=x1.2.1 by omega,wrap64 (x:=x1.2.1) (by have:=h.a0;omega) (by have:=h.a1;omega)]
  exact wp_run ⟨h.a0,by rw [h.l];exact hlt hb⟩ (wp_some ((Mv.rfl' h).next (hlt hb)))
theorem put_wp (r:RD) (x:NODE) (hx:x.2.2.2.length≤100000) (h:ROk L r):wp (spec_l05Read_put r x) fun y=>Mv L r y.2.1:=by
 unfold spec_l05Read_put
 refine wp_joinP (wp_mono (Q:=fun z:Bool×RD×NODE×Unit=>z.2.1=r∧z.2.2.1=x∧(z.1=false→r.2.2.2.2.length<300)) (wp_bif (fun _=>wp_some ⟨rfl,rfl,fun h=>by cases h⟩) fun _=>wp_some ⟨rfl,rfl,fun hb=>?_⟩) fun z hz=>?_)
 ·have:¬ (300:Int)≤(List.length r.2.2.2.2:Int):=by simpa using hb
  omega
 ·obtain⟨z0,z1,z2,_⟩:=z
  simp only at hz
  obtain⟨e1,e2,hlt⟩:=hz
  subst e1 e2
  simp only
  refine wp_bif (fun _=>wp_some (Mv.rfl' h).bad.toMv) fun hb=>wp_run ?_ (wp_some ⟨⟨h.l,h.a0,h.a1,?_,fun y hy=>?_⟩,Int.le_refl _,fun e=>e⟩)
  ·have:=hlt hb
   simp only [Cnd.holds,List.length_singleton];omega
  ·have:=hlt hb
   simp only [List.length_append,List.length_singleton];omega
  ·rcases List.mem_append.1 hy with hy | hy
   ·exact h.k y hy
   ·rw [List.mem_singleton.1 hy];exact hx
theorem lent_wp (r:RD) (h:ROk L r):wp (spec_l05Read_lent r) fun y=>Pg L r y.2.1:=by
 unfold spec_l05Read_lent
 refine wp_bind (wp_mono (takes_wp hL r 1 _ h) fun y hy=>wp_bif (fun _=>?_) fun _=>?_)
 ·exact wp_bind (wp_mono (name_wp hL _ hy.1.ok) fun n hn=>wp_bind (wp_mono (put_wp hL _ _ (by simp) hn.ok) fun p hp=>wp_some (hy.1.pg (hn.mv hp))))
 ·exact wp_bind (wp_mono (name_wp hL _ hy.1.ok) fun n hn=>wp_bind (wp_mono (put_wp hL _ _ (by simp) hn.ok) fun p hp=>wp_some (hy.1.pg (hn.mv hp))))
abbrev FV:=RD→Option (Int×RD×Unit)
abbrev FA:=RD→ByteArray→Option (Int×RD×Unit)
theorem value_S_wq {r0 r0' r1 r1' r2 r2':FV} {r3 r3':FA} (r:RD) (h:ROk L r) (H1:∀ q,ROk L q→r.2.1≤q.2.1→wq (r1 q) (r1' q) fun y=>Pg L q y.2.1):wq (spec_l05Read_value_S r0 r1 r2 r3 r) (spec_l05Read_value_S r0' r1' r2' r3' r) fun y=>Pg L r y.2.1:=by
 unfold spec_l05Read_value_S
 refine wq_bind (wq_mono (H1 r h (Int.le_refl _)) fun y1 hy1=>wq_bind (wq_mono (wq_of (takes_wp hL _ 3 _ hy1.ok)) fun y2 hy2=>wq_joinP (wq_mono (Q:=fun x:Int×Int×RD×Unit=>Pg L r x.2.2.1) (wq_bif (fun _=>wq_some (hy1.mv hy2.1)) fun _=>wq_bind (wq_mono (wq_of (takes_wp hL _ 3 _ hy2.1.ok)) fun y3 hy3=>wq_joinP (wq_bif (fun _=>wq_some (wq_some ((hy1.mv hy2.1).mv hy3.1))) fun _=>wq_some (wq_some ((hy1.mv hy2.1).mv hy3.1))))) fun x hx=>wq_joinP (wq_mono (Q:=fun z:Int×RD×Unit=>Pg L r z.2.1) (wq_bif (fun _=>?_) fun _=>wq_some hx) fun z hz=>wq_some hz))))
 exact wq_bind (wq_mono (H1 _ hx.ok hx.le) fun y6 hy6=>wq_bind (wq_mono (wq_of (put_wp hL _ _ (by simp) hy6.ok)) fun y7 hy7=>wq_some ((hx.mv hy6.toMv).mv hy7)))
theorem sum_S_wq {r0 r0' r1 r1' r2 r2':FV} {r3 r3':FA} (r:RD) (h:ROk L r) (H2:∀ q,ROk L q→r.2.1≤q.2.1→wq (r2 q) (r2' q) fun y=>Pg L q y.2.1):wq (spec_l05Read_sum_S r0 r1 r2 r3 r) (spec_l05Read_sum_S r0' r1' r2' r3' r) fun y=>Pg L r y.2.1:=by
 unfold spec_l05Read_sum_S
 refine wq_bind (wq_mono (H2 r h (Int.le_refl _)) fun y1 hy1=>wq_joinP (wq_bind (wq_some (wq_mono (wq_loop (fun x:SL1_spec_l05Read_sum=>Pg L r x.2.1) (fun x=>(L.length - x.2.1.2.1).toNat) (Q:=fun z:Int×RD×Unit=>Pg L r z.2.1) (fun x hx=>?_) hy1) fun z hz=>wq_some hz))))
 unfold L1_spec_l05Read_sum
 refine wq_bind (wq_mono (wq_of (takes_wp hL _ 3 _ hx.ok)) fun y3 hy3=>wq_bif (fun hb=>?_) fun _=>wq_map (wq_some (wp_inr (hx.mv hy3.1))))
 have hlt:=(hy3.2 hb).2
 refine wq_bind (wq_mono (H2 _ hy3.1.ok (Int.le_trans hx.le hy3.1.le)) fun y4 hy4=>wq_bind (wq_mono (wq_of (put_wp hL _ _ (by simp) hy4.ok)) fun y5 hy5=>wq_map (wq_some (wp_inl ⟨(hx.mv hy3.1).mv (hy4.toMv.trans hy5),?_⟩))))
 have h4:=hy4.le
 have h5:=hy5.le
 have h6:=hy5.ok.a1
 simp only
 omega
theorem args_S_wq {r0 r0' r1 r1' r2 r2':FV} {r3 r3':FA} (r:RD) (nm:ByteArray) (h:ROk L r) (H0:∀ q,ROk L q→r.2.1≤q.2.1→wq (r0 q) (r0' q) fun y=>Pg L q y.2.1):wq (spec_l05Read_args_S r0 r1 r2 r3 r nm) (spec_l05Read_args_S r0' r1' r2' r3' r nm) fun y=>Mv L r y.2.1:=by
 unfold spec_l05Read_args_S
 refine wq_bind (wq_mono (wq_of (takes_wp hL _ 3 _ h)) fun y hy=>wq_joinP (wq_mono (Q:=fun x:ByteArray×List Int×RD×Unit=>Mv L r x.2.2.1∧x.2.1.length≤100000) (wq_bif (fun _=>?_) fun _=>wq_some ⟨hy.1,by simp⟩) fun x hx=>wq_bind (wq_mono (wq_of (put_wp hL _ _ hx.2 hx.1.ok)) fun p hp=>wq_some (hx.1.trans hp))))
 refine wq_joinP (wq_bind (wq_some (wq_mono (wq_loop (fun x:SL1_spec_l05Read_args=>Mv L r x.2.2.1∧((x.2.1.length:Int)≤x.2.2.1.2.1∨(x.2.2.1.2.2.1=true∧(x.2.1.length:Int)≤x.2.2.1.2.1+1))) (fun x=>2 * (L.length - x.2.2.1.2.1).toNat+(bif x.2.2.1.2.2.1 then 0 else 1)) (Q:=fun x:ByteArray×List Int×RD×Unit=>Mv L r x.2.2.1∧x.2.1.length≤100000) (fun x hx=>?_) ⟨hy.1,.inl (by have:=hy.1.ok.a0;simpa using this)⟩) fun z hz=>wq_some hz)))
 obtain⟨x0,x1,x2,_⟩:=x
 simp only at hx
 obtain⟨g1,g2⟩:=hx
 have ga:=g1.ok.a1
 unfold L1_spec_l05Read_args
 simp only
 refine wq_bif (fun hb=>?_) fun _=>wq_map (wq_some (wp_inr ⟨g1,by simp only;omega⟩))
 have hbad:x2.2.2.1=false:=by
  cases hc:x2.2.2.1
  ·rfl
  ·rw [hc] at hb;cases hb
 have gl:(x1.length:Int)≤x2.2.1:=by
  rcases g2 with g2 | ⟨g2,_⟩
  ·exact g2
  ·rw [hbad] at g2;cases g2
 refine wq_bind (wq_mono (H0 _ g1.ok g1.le) fun y3 hy3=>wq_run (by simp only [Cnd.holds,List.length_singleton];omega) (wq_bind (wq_mono (wq_of (takes_wp hL _ 3 _ hy3.ok)) fun y4 hy4=>wq_bif (fun _=>wq_map (wq_some (wp_inr ⟨(g1.pg hy3).toMv.trans hy4.1,by simp only [List.length_append,List.length_singleton];omega⟩))) fun _=>wq_bind (wq_mono (wq_of (mark_wp' hL _ _ hy4.1.ok)) fun y5 hy5=>wq_map (wq_some (wp_inl ⟨⟨((g1.pg hy3).toMv.trans hy4.1).trans hy5.toMv,?_⟩,?_⟩))))))
 ·have h1:=(hy3.mv (hy4.1.trans hy5.toMv)).pg
  have h2:=(hy3.mv (hy4.1.trans hy5.toMv)).le
  simp only [List.length_append,List.length_singleton]
  rcases h1 with h1 | h1
  ·exact .inr ⟨h1,by omega⟩
  ·exact .inl (by omega)
 ·have h1:=(hy3.mv (hy4.1.trans hy5.toMv)).pg
  have h2:=(hy3.mv (hy4.1.trans hy5.toMv)).le
  have h3:=hy5.ok.a1
  simp only [hbad,cond_false]
  rcases h1 with h1 | h1
  ·rw [h1,cond_true];omega
  ·cases y5.1.2.2.1<;>simp only [cond_true,cond_false]<;>omega
theorem kase_wq {Q:Int×RD×Unit→Prop} {b:Bool} {x x' y y':Option (Int×RD×Unit)} (h1:b=true→wq x x' Q) (h2:b=false→wq y y' Q) (hQ:∀ z:Int×RD×Unit,Q z→Q (z.1,z.2.1,())):wq (joinP (bif b then x else y) fun z=>some (z.1,z.2.1,())) (joinP (bif b then x' else y') fun z=>some (z.1,z.2.1,())) Q:=
 wq_joinP (wq_mono (wq_bif h1 h2) fun z hz=>wq_some (hQ z hz))
theorem term_S_wq {r0 r0' r1 r1' r2 r2':FV} {r3 r3':FA} (r:RD) (h:ROk L r) (H0:∀ q,ROk L q→r.2.1<q.2.1→wq (r0 q) (r0' q) fun y=>Pg L q y.2.1) (H2:∀ q,ROk L q→r.2.1<q.2.1→wq (r2 q) (r2' q) fun y=>Pg L q y.2.1)
 (H3:∀ q nm,ROk L q→r.2.1<q.2.1→wq (r3 q nm) (r3' q nm) fun y=>Mv L q y.2.1):wq (spec_l05Read_term_S r0 r1 r2 r3 r) (spec_l05Read_term_S r0' r1' r2' r3' r) fun y=>Pg L r y.2.1:=by
 unfold spec_l05Read_term_S
 refine wq_joinP (wq_mono (Q:=fun x:Bool×RD×Unit=>x.2.1=r∧(x.1=false→r.2.1<L.length)) (wq_bif (fun _=>wq_some ⟨rfl,fun h=>by cases h⟩) fun _=>wq_bif (fun _=>wq_some ⟨rfl,fun h=>by cases h⟩) fun hb=>wq_some ⟨rfl,fun _=>?_⟩) fun x hx=>?_)
 ·have:¬ (List.length r.1:Int)≤r.2.1:=by simpa using hb
  rw [h.l] at this;omega
 obtain⟨x0,x1,_⟩:=x
 simp only at hx
 obtain⟨e,hlt⟩:=hx
 subst e
 simp only
 refine wq_bif (fun _=>wq_some (Mv.rfl' h).bad) fun hb=>?_
 have hlt:=hlt hb
 have hi:(Cnd.idx x1.2.1 (List.length x1.1)).holds:=⟨h.a0,by rw [h.l];exact hlt⟩
 have fin:∀ z:Int×RD×Unit,Pg L x1 z.2.1→Pg L x1 ((z.1,z.2.1,()):Int×RD×Unit).2.1:=fun z hz=>hz
 refine wq_run hi (wq_joinP (wq_mono (Q:=fun z:Int×RD×Unit=>Pg L x1 z.2.1) (wq_bif (fun _=>?_) fun _=>?_) fun z hz=>wq_some (hz.deep _)))
 ·rw [wrap1 hL h,show x1.2.1+1 - 1=x1.2.1 by omega,wrap64 (x:=x1.2.1) (by have:=h.a0;omega) (by have:=h.a1;omega)]
  have hn:=((Mv.rfl' h).next hlt).deep (IntKind.wrap .i64 (x1.2.2.2.1+1))
  exact wq_run hi (wq_bind (wq_mono (wq_of (put_wp hL _ _ (by simp) hn.ok)) fun y hy=>wq_some (hn.mv hy)))
 have m0:=(Mv.rfl' h).deep (IntKind.wrap .i64 (x1.2.2.2.1+1))
 have nx:∀ {a b:RD},Mv L x1 a→a.2.1<b.2.1→x1.2.1<b.2.1:=fun h1 h2=>by have:=h1.le;omega
 refine wq_bind (wq_mono (wq_of (takes_wp hL _ 3 _ m0.ok)) fun y3 hy3=>kase_wq hL (fun hb=>?_) (fun _=>?_) fin)
 ·have p:=m0.pg (hy3.2 hb).1
  exact wq_bind (wq_mono (wq_of (name_wp hL _ p.ok)) fun n hn=>wq_bind (wq_mono (wq_of (put_wp hL _ _ (by simp) hn.ok)) fun q hq=>wq_some ((p.mv hn.toMv).mv hq)))
 have m1:=m0.trans hy3.1
 refine wq_bind (wq_mono (wq_of (takes_wp hL _ 3 _ m1.ok)) fun y6 hy6=>kase_wq hL (fun hb=>?_) (fun _=>?_) fin)
 ·have p:=m1.pg (hy6.2 hb).1
  exact wq_bind (wq_mono (wq_of (lent_wp hL _ p.ok)) fun q hq=>wq_some (p.mv hq.toMv))
 have m2:=m1.trans hy6.1
 refine wq_bind (wq_mono (wq_of (takes_wp hL _ 3 _ m2.ok)) fun y8 hy8=>kase_wq hL (fun hb=>?_) (fun _=>?_) fin)
 ·have p:=m2.pg (hy8.2 hb).1
  exact wq_bind (wq_mono (H0 _ p.ok (nx m2 (hy8.2 hb).2)) fun v hv=>wq_bind (wq_mono (wq_of (mark_wp' hL _ _ hv.ok)) fun q hq=>wq_some ((p.mv hv.toMv).mv hq.toMv)))
 have m3:=m2.trans hy8.1
 refine wq_bind (wq_mono (wq_of (takes_wp hL _ 1 _ m3.ok)) fun y11 hy11=>kase_wq hL (fun hb=>?_) (fun _=>?_) fin)
 ·have p:=m3.pg (hy11.2 hb).1
  exact wq_bind (wq_mono (wq_of (name_wp hL _ p.ok)) fun n hn=>wq_bind (wq_mono (wq_of (put_wp hL _ _ (by simp) hn.ok)) fun q hq=>wq_some ((p.mv hn.toMv).mv hq)))
 have m4:=m3.trans hy11.1
 refine wq_bind (wq_mono (wq_of (takes_wp hL _ 1 _ m4.ok)) fun y14 hy14=>kase_wq hL (fun hb=>?_) (fun _=>?_) fin)
 ·have p:=m4.pg (hy14.2 hb).1
  exact wq_bind (wq_mono (wq_of (put_wp hL _ _ (by simp) p.ok)) fun q hq=>wq_some (p.mv hq))
 have m5:=m4.trans hy14.1
 refine wq_bind (wq_mono (wq_of (takes_wp hL _ 1 _ m5.ok)) fun y16 hy16=>kase_wq hL (fun hb=>?_) (fun _=>?_) fin)
 ·have p:=m5.pg (hy16.2 hb).1
  exact wq_bind (wq_mono (H2 _ p.ok (nx m5 (hy16.2 hb).2)) fun v hv=>wq_bind (wq_mono (wq_of (put_wp hL _ _ (by simp) hv.ok)) fun q hq=>wq_some ((p.mv hv.toMv).mv hq)))
 have m6:=m5.trans hy16.1
 refine wq_bind (wq_mono (wq_of (name_wp hL _ m6.ok)) fun n hn=>wq_bind (wq_mono (wq_of (takes_wp hL _ 3 _ hn.ok)) fun y20 hy20=>kase_wq hL (fun hb=>?_) (fun _=>?_) fin))
 ·have p:=(m6.pg hn).mv hy20.1
  exact wq_bind (wq_mono (H3 _ _ p.ok (nx (m6.trans hn.toMv) (hy20.2 hb).2)) fun q hq=>wq_some (p.mv hq))
 ·have p:=(m6.pg hn).mv hy20.1
  exact wq_bind (wq_mono (wq_of (put_wp hL _ _ (by simp) p.ok)) fun q hq=>wq_some (p.mv hq))
theorem val_rec:∀ k:Nat,(∀ n n',4 * k+2≤n→4 * k+2≤n'→∀ r,ROk L r→L.length - r.2.1≤k→wq ((R_spec_l05Read_value n).2.2.1 r) ((R_spec_l05Read_value n').2.2.1 r) fun y=>Pg L r y.2.1) ∧
 (∀ n n',4 * k+3≤n→4 * k+3≤n'→∀ r,ROk L r→L.length - r.2.1≤k→wq ((R_spec_l05Read_value n).2.1 r) ((R_spec_l05Read_value n').2.1 r) fun y=>Pg L r y.2.1) ∧
 (∀ n n',4 * k+4≤n→4 * k+4≤n'→∀ r,ROk L r→L.length - r.2.1≤k→wq ((R_spec_l05Read_value n).1 r) ((R_spec_l05Read_value n').1 r) fun y=>Pg L r y.2.1) ∧
 (∀ n n',4 * k+5≤n→4 * k+5≤n'→∀ r nm,ROk L r→L.length - r.2.1≤k→wq ((R_spec_l05Read_value n).2.2.2.1 r nm) ((R_spec_l05Read_value n').2.2.2.1 r nm) fun y=>Mv L r y.2.1):=by
 intro k
 induction k with
 | zero=>
  have hT:∀ n n',4 * 0+2≤n→4 * 0+2≤n'→∀ r,ROk L r→L.length - r.2.1≤(0:Nat)→wq ((R_spec_l05Read_value n).2.2.1 r) ((R_spec_l05Read_value n').2.2.1 r) fun y=>Pg L r y.2.1:=by
   intro n n' hn hn' r h hk
   obtain⟨n,rfl⟩:∃ j,n=j+1:=⟨n - 1,by omega⟩
   obtain⟨n',rfl⟩:∃ j,n'=j+1:=⟨n' - 1,by omega⟩
   exact term_S_wq hL (r1:=(R_spec_l05Read_value n).2.1) (r1':=(R_spec_l05Read_value n').2.1) r h (fun q hq hlt=>by have:=hq.a1;omega) (fun q hq hlt=>by have:=hq.a1;omega) (fun q nm hq hlt=>by have:=hq.a1;omega)
  have hS:∀ n n',4 * 0+3≤n→4 * 0+3≤n'→∀ r,ROk L r→L.length - r.2.1≤(0:Nat)→wq ((R_spec_l05Read_value n).2.1 r) ((R_spec_l05Read_value n').2.1 r) fun y=>Pg L r y.2.1:=by
   intro n n' hn hn' r h hk
   obtain⟨n,rfl⟩:∃ j,n=j+1:=⟨n - 1,by omega⟩
   obtain⟨n',rfl⟩:∃ j,n'=j+1:=⟨n' - 1,by omega⟩
   exact sum_S_wq hL (r0:=(R_spec_l05Read_value n).1) (r0':=(R_spec_l05Read_value n').1) (r1:=(R_spec_l05Read_value n).2.1) (r1':=(R_spec_l05Read_value n').2.1) (r3:=(R_spec_l05Read_value n).2.2.2.1) (r3':=(R_spec_l05Read_value n').2.2.2.1) r h (fun q hq hle=>hT n n' (by omega) (by omega) q hq (by omega))
  have hV:∀ n n',4 * 0+4≤n→4 * 0+4≤n'→∀ r,ROk L r→L.length - r.2.1≤(0:Nat)→wq ((R_spec_l05Read_value n).1 r) ((R_spec_l05Read_value n').1 r) fun y=>Pg L r y.2.1:=by
   intro n n' hn hn' r h hk
   obtain⟨n,rfl⟩:∃ j,n=j+1:=⟨n - 1,by omega⟩
   obtain⟨n',rfl⟩:∃ j,n'=j+1:=⟨n' - 1,by omega⟩
   exact value_S_wq hL (r0:=(R_spec_l05Read_value n).1) (r0':=(R_spec_l05Read_value n').1) (r2:=(R_spec_l05Read_value n).2.2.1) (r2':=(R_spec_l05Read_value n').2.2.1) (r3:=(R_spec_l05Read_value n).2.2.2.1) (r3':=(R_spec_l05Read_value n').2.2.2.1) r h (fun q hq hle=>hS n n' (by omega) (by omega) q hq (by omega))
  refine⟨hT,hS,hV,fun n n' hn hn' r nm h hk=>?_⟩
  obtain⟨n,rfl⟩:∃ j,n=j+1:=⟨n - 1,by omega⟩
  obtain⟨n',rfl⟩:∃ j,n'=j+1:=⟨n' - 1,by omega⟩
  exact args_S_wq hL (r1:=(R_spec_l05Read_value n).2.1) (r1':=(R_spec_l05Read_value n').2.1) (r2:=(R_spec_l05Read_value n).2.2.1) (r2':=(R_spec_l05Read_value n').2.2.1) (r3:=(R_spec_l05Read_value n).2.2.2.1) (r3':=(R_spec_l05Read_value n').2.2.2.1) r nm h (fun q hq hle=>hV n n' (by omega) (by omega) q hq (by omega))
 | succ k ih=>
  obtain⟨iT,iS,iV,iA⟩:=ih
  have hT:∀ n n',4 * (k+1)+2≤n→4 * (k+1)+2≤n'→∀ r,ROk L r→L.length - r.2.1≤(k+1:Nat)→wq ((R_spec_l05Read_value n).2.2.1 r) ((R_spec_l05Read_value n').2.2.1 r) fun y=>Pg L r y.2.1:=by
   intro n n' hn hn' r h hk
   obtain⟨n,rfl⟩:∃ j,n=j+1:=⟨n - 1,by omega⟩
   obtain⟨n',rfl⟩:∃ j,n'=j+1:=⟨n' - 1,by omega⟩
   exact term_S_wq hL (r1:=(R_spec_l05Read_value n).2.1) (r1':=(R_spec_l05Read_value n').2.1) r h (fun q hq hlt=>iV n n' (by omega) (by omega) q hq (by omega)) (fun q hq hlt=>iT n n' (by omega) (by omega) q hq (by omega)) (fun q nm hq hlt=>iA n n' (by omega) (by omega) q nm hq (by omega))
  have hS:∀ n n',4 * (k+1)+3≤n→4 * (k+1)+3≤n'→∀ r,ROk L r→L.length - r.2.1≤(k+1:Nat)→wq ((R_spec_l05Read_value n).2.1 r) ((R_spec_l05Read_value n').2.1 r) fun y=>Pg L r y.2.1:=by
   intro n n' hn hn' r h hk
   obtain⟨n,rfl⟩:∃ j,n=j+1:=⟨n - 1,by omega⟩
   obtain⟨n',rfl⟩:∃ j,n'=j+1:=⟨n' - 1,by omega⟩
   exact sum_S_wq hL (r0:=(R_spec_l05Read_value n).1) (r0':=(R_spec_l05Read_value n').1) (r1:=(R_spec_l05Read_value n).2.1) (r1':=(R_spec_l05Read_value n').2.1) (r3:=(R_spec_l05Read_value n).2.2.2.1) (r3':=(R_spec_l05Read_value n').2.2.2.1) r h (fun q hq hle=>hT n n' (by omega) (by omega) q hq (by omega))
  have hV:∀ n n',4 * (k+1)+4≤n→4 * (k+1)+4≤n'→∀ r,ROk L r→L.length - r.2.1≤(k+1:Nat)→wq ((R_spec_l05Read_value n).1 r) ((R_spec_l05Read_value n').1 r) fun y=>Pg L r y.2.1:=by
   intro n n' hn hn' r h hk
   obtain⟨n,rfl⟩:∃ j,n=j+1:=⟨n - 1,by omega⟩
   obtain⟨n',rfl⟩:∃ j,n'=j+1:=⟨n' - 1,by omega⟩
   exact value_S_wq hL (r0:=(R_spec_l05Read_value n).1) (r0':=(R_spec_l05Read_value n').1) (r2:=(R_spec_l05Read_value n).2.2.1) (r2':=(R_spec_l05Read_value n').2.2.1) (r3:=(R_spec_l05Read_value n).2.2.2.1) (r3':=(R_spec_l05Read_value n').2.2.2.1) r h (fun q hq hle=>hS n n' (by omega) (by omega) q hq (by omega))
  refine⟨hT,hS,hV,fun n n' hn hn' r nm h hk=>?_⟩
  obtain⟨n,rfl⟩:∃ j,n=j+1:=⟨n - 1,by omega⟩
  obtain⟨n',rfl⟩:∃ j,n'=j+1:=⟨n' - 1,by omega⟩
  exact args_S_wq hL (r1:=(R_spec_l05Read_value n).2.1) (r1':=(R_spec_l05Read_value n').2.1) (r2:=(R_spec_l05Read_value n).2.2.1) (r2':=(R_spec_l05Read_value n').2.2.1) (r3:=(R_spec_l05Read_value n).2.2.2.1) (r3':=(R_spec_l05Read_value n').2.2.2.1) r nm h (fun q hq hle=>hV n n' (by omega) (by omega) q hq (by omega))
theorem rvalue_wp (r:RD) (h:ROk L r):wp (spec_l05Read_value r) fun y=>Pg L r y.2.1:=by
 unfold spec_l05Read_value
 exact wq_lim (4 * 3000+4) fun n hn=>(val_rec hL 3000).2.2.1 n _ hn (Nat.le_refl _) r h (by have:=h.a0;omega)
end
end Go.Proofs.YtmakhmoielhjeaaGreatDoorE
namespace Go.Proofs.YtmakhmoielhjeaaGreatDoorE
set_option linter.all false
def dd (u:Nat):ByteArray:=if u=0 then ⟨#[]⟩ else ⟨(Lib.decDigits u).toArray⟩
theorem ba_append (a b:List UInt8):(⟨a.toArray⟩:ByteArray)++⟨b.toArray⟩=⟨(a++b).toArray⟩:=by
 apply ByteArray.ext
 simp
theorem bts_digit {d:Nat} (h:d<10):bts [((48+d:Nat):Int)]=⟨[UInt8.ofNat (48+d)].toArray⟩:=rfl
theorem dd_step {u:Nat} (h:u≠0):dd u=dd (u / 10)++bts [((48+u % 10:Nat):Int)]:=by
 rw [bts_digit (Nat.mod_lt _ (by omega))]
 unfold dd
 rw [if_neg h,Lib.decDigits]
 split
 ·rename_i h10
  rw [if_pos (by omega),Nat.mod_eq_of_lt h10]
  apply ByteArray.ext;simp
 ·rename_i h10
  rw [if_neg (by omega),ba_append]
theorem wrapU8' {n:Nat} (h:n<256):IntKind.wrap .u8 (n:Int)=n:=by
 have e:(2:Int) ^ IntKind.u8.bits=256:=by decide
 simp only [IntKind.wrap,e,show IntKind.u8.signed=false from rfl,Bool.false_and,Bool.false_eq_true,if_false]
 omega
theorem figure_digit {d:Nat} (h:d<10):spec_l01Figure (d:Int)=some (((48+d:Nat):Int),()):=by
 have e:(48:Int)+(d:Int)=((48+d:Nat):Int):=by omega
 simp only [spec_l01Figure,show((d:Int)<10) by omega,decide_true,cond_true,e,wrapNat (show 48+d<9223372036854775808 by omega),wrapU8' (show 48+d<256 by omega)]
theorem bts_one (x:Int):(bts [x]).size=1:=rfl
theorem nz10 {α:Type} {K:Option α}:(Cnd.nz (10:Int)).run K=K:=by
 simp only [Cnd.run];rw [if_neg (by decide)]
theorem dec_loop (neg:Bool):∀ (k:Nat) (n:Int) (out:ByteArray),n.natAbs<10 ^ k→-9223372036854775808≤n→n≤9223372036854775807→out.size+k≤1000→loopF L1_spec_Decimal (n,neg,out,())=some (neg,dd n.natAbs++out,()):=by
 intro k
 induction k with
 | zero=>
  intro n out hn _ _ _
  have h0:n=0:=by simp at hn;omega
  subst h0
  rw [loopF_inr (r:=(neg,out,()))]
  ·have:dd (Int.natAbs 0)++out=out:=by
    apply ByteArray.ext;simp [dd]
   rw [this]
  ·simp [L1_spec_Decimal]
 | succ k ih=>
  intro n out hn h1 h2 hs
  by_cases h0:n=0
  ·subst h0
   rw [loopF_inr (r:=(neg,out,()))]
   ·have:dd (Int.natAbs 0)++out=out:=by
     apply ByteArray.ext;simp [dd]
    rw [this]
   ·simp [L1_spec_Decimal]
  ·have hm:n.natAbs % 10<10:=Nat.mod_lt _ (by omega)
   have hq:(Int.tdiv n 10).natAbs=n.natAbs / 10:=by rw [Int.natAbs_tdiv];rfl
   have hqb:-9223372036854775808≤Int.tdiv n 10∧Int.tdiv n 10≤9223372036854775807:=by
    have:(Int.tdiv n 10).natAbs≤922337203685477580:=by rw [hq];omega
    omega
   have hw:IntKind.wrap .i64 (Int.tdiv n 10)=Int.tdiv n 10:=wrap64 hqb.1 (by omega)
   rw [loopF_inl (b':=(Int.tdiv n 10,neg,bts [((48+n.natAbs % 10:Nat):Int)]++out,())),ih _ _ (by rw [hq];rw [Nat.pow_succ] at hn;omega) hqb.1 hqb.2 (by rw [ByteArray.size_append,bts_one];omega),hq,dd_step (u:=n.natAbs) (by omega),ByteArray.append_assoc]
   have hmod:(if Int.tmod n 10<0 then - Int.tmod n 10 else Int.tmod n 10)=((n.natAbs % 10:Nat):Int):=by
    have h3:(Int.tmod n 10).natAbs=n.natAbs % 10:=by rw [Int.natAbs_tmod];rfl
    split<;>omega
   have hle:∀ {α:Type} {K:Option α},(Cnd.le ((bts [((48+n.natAbs % 10:Nat):Int)]).size+out.size) maxI).run K=K:=fun {α} {K}=>le_run (by rw [bts_one];simp only [maxI];omega)
   by_cases hneg:Int.tmod n 10<0
   ·rw [if_pos hneg] at hmod
    have hw2:IntKind.wrap .i64 (0 - Int.tmod n 10)=((n.natAbs % 10:Nat):Int):=by
     rw [show(0:Int) - Int.tmod n 10=((n.natAbs % 10:Nat):Int) by omega]
     exact wrapNat (by omega)
    simp only [L1_spec_Decimal,ne_eq,h0,not_false_eq_true,decide_true,cond_true,nz10,hneg,hw2,joinP_some,figure_digit hm,Option.bind_some,hle,hw,Option.map_some]
   ·rw [if_neg hneg] at hmod
    simp only [L1_spec_Decimal,ne_eq,h0,not_false_eq_true,decide_true,cond_true,nz10,hmod,show ¬ (((n.natAbs % 10:Nat):Int)<0) by omega,decide_false,cond_false,joinP_some,figure_digit hm,Option.bind_some,hle,hw,Option.map_some]
def itb (n:Int):ByteArray:=⟨(Lib.itoa n).toArray⟩
theorem itb_size {n:Int} (h0:-9223372036854775808≤n) (h1:n≤9223372036854775807):(itb n).size≤21:=by
 have:=Lib.itoa_length_le n h0 h1
 simpa [itb,ByteArray.size] using this
theorem spec_Decimal_ok (n:Int) (h0:-9223372036854775808≤n) (h1:n≤9223372036854775807):spec_Decimal n=some (itb n,()):=by
 simp only [spec_Decimal,itb]
 by_cases hz:n=0
 ·subst hz
  simp only [decide_true,cond_true]
  have:Lib.itoa 0=[48]:=by
   unfold Lib.itoa;rw [if_neg (by omega)];exact Lib.decDigits_one (by omega)
  rw [this];rfl
 ·have h3:=dec_loop (decide (n<0)) 20 n ⟨#[]⟩ (by
   have:(10:Nat) ^ 20=100000000000000000000:=by decide
   omega) h0 h1 (by decide)
  have h4:dd n.natAbs++⟨#[]⟩=(⟨(Lib.decDigits n.natAbs).toArray⟩:ByteArray):=by
   unfold dd
   rw [if_neg (by omega)]
   apply ByteArray.ext;simp
  rw [h4] at h3
  have hsz:(⟨(Lib.decDigits n.natAbs).toArray⟩:ByteArray).size≤21:=by
   have:=Lib.itoa_length_le n h0 h1
   unfold Lib.itoa at this
   simp only [ByteArray.size,List.size_toArray]
   split at this
   ·simp at this;omega
   ·rename_i hn
    rw [show n.natAbs=n.toNat by omega];omega
  simp only [hz,decide_false,cond_false,Option.bind_some,h3,joinP_some,Lib.itoa]
  by_cases hn:n<0
  ·have e1:s___3973.size=1:=rfl
   simp only [hn,decide_true,cond_true,if_true]
   rw [le_run (by simp only [maxI];omega)]
   have e2:s___3973=⟨[(45:UInt8)].toArray⟩:=rfl
   rw [e2,ba_append];rfl
  ·simp only [hn,decide_false,cond_false,if_false]
   rw [show n.natAbs=n.toNat by omega]
end Go.Proofs.YtmakhmoielhjeaaGreatDoorE
namespace Go.Proofs.YtmakhmoielhjeaaGreatDoorE
set_option linter.all false
abbrev Made:=List ByteArray×(List ByteArray×(Int×(ByteArray×Bool)))
structure MOk (k:Nat) (m:Made):Prop where
 i:∀ s∈m.1,s.size≤30
 b:∀ s∈m.2.1,s.size≤30
 il:m.1.length≤k
 bl:m.2.1.length≤k
 n0:0≤m.2.2.1
 n1:m.2.2.1≤k
 t:m.2.2.2.1.size≤1000 * k
theorem MOk.mono {k k':Nat} {m:Made} (h:MOk k m) (hk:k≤k'):MOk k' m:=⟨h.i,h.b,by have:=h.il;omega,by have:=h.bl;omega,h.n0,by have:=h.n1;omega,by have:=h.t;omega⟩
theorem cle {a b:Nat} (h:a+b≤1000000000000):(Cnd.le (a+b) maxI).holds:=by simp only [Cnd.holds,maxI];omega
theorem sz_0_5fec:s_0_5fec.size=1:=by decide
theorem sz_10_4a44:s_10_4a44.size=2:=by decide
theorem sz_1_6b86:s_1_6b86.size=1:=by decide
theorem sz_2_d473:s_2_d473.size=1:=by decide
theorem sz_3_4e07:s_3_4e07.size=1:=by decide
theorem sz_500000000_ee3f:s_500000000_ee3f.size=9:=by decide
theorem sz_7_7902:s_7_7902.size=1:=by decide
theorem sz__32eb:s___32eb.size=1:=by decide
theorem sz__36a9:s___36a9.size=1:=by decide
theorem sz__3973:s___3973.size=1:=by decide
theorem sz__6848:s___6848.size=1:=by decide
theorem sz___0__while__874d:s____0__while__874d.size=12:=by decide
theorem sz___0a07:s____0a07.size=2:=by decide
theorem sz___0a2d:s____0a2d.size=2:=by decide
theorem sz___1___e636:s____1___e636.size=6:=by decide
theorem sz___73db:s____73db.size=2:=by decide
theorem sz____0a45:s_____0a45.size=3:=by decide
theorem sz____2591:s_____2591.size=3:=by decide
theorem sz____4620:s_____4620.size=3:=by decide
theorem sz____7bac:s_____7bac.size=3:=by decide
theorem sz_____17ce:s______17ce.size=4:=by decide
theorem sz_____737d:s______737d.size=4:=by decide
theorem sz____fe90:s_____fe90.size=3:=by decide
theorem sz____mut__b552:s_____mut__b552.size=8:=by decide
theorem sz___clone__9670:s____clone__9670.size=9:=by decide
theorem sz___e220:s____e220.size=2:=by decide
theorem sz___new__f832:s____new__f832.size=7:=by decide
theorem sz__ba5e:s___ba5e.size=1:=by decide
theorem sz__print___4de9:s___print___4de9.size=9:=by decide
theorem sz_b_3e23:s_b_3e23.size=1:=by decide
theorem sz_do_bump__mut__fbff:s_do_bump__mut__fbff.size=13:=by decide
theorem sz_do_eat__d60f:s_do_eat__d60f.size=7:=by decide
theorem sz_do_show___6204:s_do_show___6204.size=9:=by decide
theorem sz_else__8873:s_else__8873.size=5:=by decide
theorem sz_i_de7d:s_i_de7d.size=1:=by decide
theorem sz_if__9889:s_if__9889.size=3:=by decide
theorem sz_input_c96c:s_input_c96c.size=5:=by decide
theorem sz_let__de0c:s_let__de0c.size=4:=by decide
theorem sz_m_62c6:s_m_62c6.size=1:=by decide
theorem sz_make__0b50:s_make__0b50.size=5:=by decide
theorem sz_new__e703:s_new__e703.size=4:=by decide
theorem sz_print__5b23:s_print__5b23.size=6:=by decide
theorem sz_r_4543:s_r_4543.size=1:=by decide
theorem sz_sum__4072:s_sum__4072.size=4:=by decide
theorem sz_w_50e7:s_w_50e7.size=1:=by decide
theorem szs:s_0_5fec.size=1∧s_10_4a44.size=2∧s_1_6b86.size=1∧s_2_d473.size=1∧s_3_4e07.size=1∧s_500000000_ee3f.size=9∧s_7_7902.size=1∧s___32eb.size=1∧s___36a9.size=1∧s___3973.size=1∧s___6848.size=1∧s____0__while__874d.size=12∧s____0a07.size=2∧s____0a2d.size=2∧s____1___e636.size=6∧s____73db.size=2∧s_____0a45.size=3∧s_____2591.size=3∧s_____4620.size=3∧s_____7bac.size=3∧s______17ce.size=4∧s______737d.size=4∧s_____fe90.size=3∧s_____mut__b552.size=8∧s____clone__9670.size=9∧s____e220.size=2∧s____new__f832.size=7∧s___ba5e.size=1∧s___print___4de9.size=9∧s_b_3e23.size=1∧s_do_bump__mut__fbff.size=13∧s_do_eat__d60f.size=7∧s_do_show___6204.size=9∧s_else__8873.size=5∧s_i_de7d.size=1∧s_if__9889.size=3∧s_input_c96c.size=5∧s_let__de0c.size=4∧s_m_62c6.size=1∧s_make__0b50.size=5∧s_new__e703.size=4∧s_print__5b23.size=6∧s_r_4543.size=1∧s_sum__4072.size=4∧s_w_50e7.size=1:=⟨sz_0_5fec,sz_10_4a44,sz_1_6b86,sz_2_d473,sz_3_4e07,sz_500000000_ee3f,sz_7_7902,sz__32eb,sz__36a9,sz__3973,sz__6848,sz___0__while__874d,sz___0a07,sz___0a2d,sz___1___e636,sz___73db,sz____0a45,sz____2591,sz____4620,sz____7bac,sz_____17ce,sz_____737d,sz____fe90,sz____mut__b552,sz___clone__9670,sz___e220,sz___new__f832,sz__ba5e,sz__print___4de9,sz_b_3e23,sz_do_bump__mut__fbff,sz_do_eat__d60f,sz_do_show___6204,sz_else__8873,sz_i_de7d,sz_if__9889,sz_input_c96c,sz_let__de0c,sz_m_62c6,sz_make__0b50,sz_new__e703,sz_print__5b23,sz_r_4543,sz_sum__4072,sz_w_50e7⟩
theorem mpick_wp (m:Made) (l:List ByteArray) (c:Cur) (hl:l≠[]) (h:COk c):wp (spec_l05Made_pick m l c) fun r=>r.1∈l∧COk r.2.1:=by
 unfold spec_l05Made_pick
 have hp:0<(l.length:Int):=by have:=List.length_pos_iff.2 hl;omega
 exact wp_bind (wp_mono (below_wp c _ h) fun y hy=>wp_run ⟨hy.1,hy.2.1 hp⟩ (wp_some ⟨rd_get _ _ _ hy.1 (hy.2.1 hp),hy.2.2.2⟩))
theorem number_wp (m:Made) (c:Cur) (h:COk c):wp (spec_l05Made_number m c) fun r=>r.1.size≤30∧COk r.2.1:=by
 unfold spec_l05Made_number
 refine wp_bind (wp_mono (pick_wp c _ (by simp) h) fun y hy=>wp_some ⟨?_,hy.2⟩)
 have h1:=hy.1
 simp only [List.mem_cons,List.not_mem_nil,or_false] at h1
 rcases h1 with e | e | e | e | e | e | e<;>rw [e]<;>decide
theorem ne_of_lt_len {D:Type} {l:List D} (h:(0:Int)<(l.length:Int)):l≠[]:=by
 intro e;rw [e] at h;simp at h
theorem small_wp {k:Nat} (m:Made) (c:Cur) (hm:MOk k m) (h:COk c):wp (spec_l05Made_small m c) fun r=>r.1.size≤40∧COk r.2.1:=by
 unfold spec_l05Made_small
 refine wp_bind (wp_mono (below_wp c 5 h) fun y hy=>wp_joinP (wp_mono (Q:=fun x:Made×Int×Bool×Cur×Unit=>x.1=m∧COk x.2.2.2.1∧(x.2.2.1=true→m.1≠[])) (wp_bif (fun _=>wp_some ⟨rfl,hy.2.2.2,fun hb=>ne_of_lt_len (by simpa using hb)⟩) (fun _=>wp_some ⟨rfl,hy.2.2.2,fun hb=>by cases hb⟩)) fun x hx=>?_))
 obtain⟨x1,x2,x3,x4,_⟩:=x
 obtain⟨rfl,hc,hi⟩:=hx
 refine wp_bif (fun hb=>wp_bind (wp_mono (mpick_wp _ _ _ (hi hb) hc) fun y hy=>wp_some ⟨by have:=hm.i _ hy.1;simp only;omega,hy.2⟩)) (fun _=>wp_joinP (wp_mono (Q:=fun x:Made×Bool×Cur×Unit=>x.1=x1∧COk x.2.2.1∧(x.2.1=true→x1.2.1≠[])) (wp_bif (fun _=>wp_some ⟨rfl,hc,fun hb=>ne_of_lt_len (by simpa using hb)⟩) (fun _=>wp_some ⟨rfl,hc,fun hb=>by cases hb⟩)) fun x hx=>?_))
 obtain⟨z1,z2,z3,_⟩:=x
 obtain⟨rfl,hc,hi⟩:=hx
 refine wp_bif (fun hb=>wp_bind (wp_mono (mpick_wp _ _ _ (hi hb) hc) fun y hy=>?_)) (fun _=>wp_bind (wp_mono (number_wp _ _ hc) fun y hy=>wp_some ⟨by simp only;omega,hy.2⟩))
 have h1:=hm.b _ hy.1
 exact wp_run (cle (by simp only [sz__6848];omega)) (wp_some ⟨by simp only [add_size,sz__6848];omega,hy.2⟩)
theorem whole_wp {k:Nat} (m:Made) (c:Cur) (hm:MOk k m) (h:COk c):wp (spec_l05Made_whole m c) fun r=>r.1.size≤150∧COk r.2.1:=by
 unfold spec_l05Made_whole
 refine wp_bind (wp_mono (below_wp c 7 h) fun y hy=>?_)
 have h:=hy.2.2.2
 refine wp_bif (fun _=>?_) fun _=>wp_bif (fun _=>?_) fun _=>wp_bif (fun _=>?_) fun _=>wp_bif (fun _=>?_) fun _=>?_
 ·refine wp_bind (wp_mono (small_wp m _ hm h) fun a ha=>wp_run (cle (by first | omega | (simp only [add_size,szs];omega))) (wp_bind (wp_mono (small_wp m _ hm ha.2) fun b hb=>wp_run (cle (by first | omega | (simp only [add_size,szs];omega))) (wp_some ⟨by simp only [add_size,szs];omega,hb.2⟩))))
 ·refine wp_bind (wp_mono (small_wp m _ hm h) fun a ha=>wp_run (cle (by first | omega | (simp only [add_size,szs];omega))) (wp_bind (wp_mono (small_wp m _ hm ha.2) fun b hb=>wp_run (cle (by first | omega | (simp only [add_size,szs];omega))) (wp_some ⟨by simp only [add_size,szs];omega,hb.2⟩))))
 ·refine wp_bind (wp_mono (small_wp m _ hm h) fun a ha=>wp_run (cle (by first | omega | (simp only [add_size,szs];omega))) (wp_run (cle (by first | omega | (simp only [add_size,szs];omega))) (wp_bind (wp_mono (small_wp m _ hm ha.2) fun b hb=>wp_run (cle (by first | omega | (simp only [add_size,szs];omega))) (wp_run (cle (by first | omega | (simp only [add_size,szs];omega))) (wp_bind (wp_mono (small_wp m _ hm hb.2) fun d hd=>wp_run (cle (by first | omega | (simp only [add_size,szs];omega))) (wp_some ⟨by simp only [add_size,szs];omega,hd.2⟩))))))))
 ·refine wp_bind (wp_mono (small_wp m _ hm h) fun a ha=>wp_run (cle (by first | omega | (simp only [add_size,szs];omega))) (wp_run (cle (by first | omega | (simp only [add_size,szs];omega))) (wp_bind (wp_mono (small_wp m _ hm ha.2) fun b hb=>wp_run (cle (by first | omega | (simp only [add_size,szs];omega))) (wp_run (cle (by first | omega | (simp only [add_size,szs];omega))) (wp_some ⟨by simp only [add_size,szs];omega,hb.2⟩))))))
 ·refine wp_joinS (wp_mono (Q:=fun s:(Made×Cur×Unit) ⊕ (ByteArray×Cur×Unit)=>(∀ b,s=.inl b→b.1=m∧COk b.2.1)∧∀ r,s=.inr r→r.1.size≤150∧COk r.2.1) (wp_bif (fun _=>?_) fun _=>wp_map (wp_some (wp_inl ⟨rfl,h⟩))) fun s hs=>⟨fun b hb=>?_,hs.2⟩)
  ·exact wp_bind (wp_mono (once_wp _ 3 h) fun y hy=>wp_bif (fun _=>wp_map (wp_some (wp_inr ⟨by simp only [add_size,szs];omega,hy⟩))) fun _=>wp_map (wp_some (wp_inl ⟨rfl,hy⟩)))
  ·obtain⟨e,hc⟩:=hs.1 b hb
   rw [e]
   exact wp_bind (wp_mono (small_wp m _ hm hc) fun y hy=>wp_some ⟨by simp only;omega,hy.2⟩)
theorem fresh_wp {k:Nat} (m:Made) (s:ByteArray) (c:Cur) (hk:k≤1000000) (hs:s.size≤5) (hm:MOk k m) (h:COk c):wp (spec_l05Made_fresh m s c) fun r=>r.1.size≤30∧r.2.1=(m.1,(m.2.1,(m.2.2.1+1,m.2.2.2)))∧COk r.2.2.1:=by
 unfold spec_l05Made_fresh
 have h0:=hm.n0
 have h1:=hm.n1
 rw [wrap64 (x:=m.2.2.1+1) (by omega) (by omega),spec_Decimal_ok _ (by omega) (by omega)]
 have:=itb_size (n:=m.2.2.1+1) (by omega) (by omega)
 exact wp_bind (wp_some (wp_run (cle (by simp only;omega)) (wp_some ⟨by simp only [add_size];omega,rfl,h⟩)))
theorem gone_wp {k:Nat} (m:Made) (s:ByteArray) (c:Cur) (hk:k≤2000000) (hm:MOk k m) (h:COk c):wp (spec_l05Made_gone m s c) fun r=>(∃ bs,r.1=(m.1,(bs,m.2.2))∧(∀ s∈bs,s.size≤30)∧bs.length≤m.2.1.length)∧COk r.2.1:=by
 unfold spec_l05Made_gone
 have hbl:=hm.bl
 refine wp_joinP (wp_bind (wp_some ?_))
 refine wp_mono (wp_loop (fun x:SL1_spec_l05Made_gone=>(∀ s∈x.2.2.1,s.size≤30)∧x.2.2.1.length≤x.2.2.2.1.toNat∧0≤x.2.2.2.1∧x.2.2.2.1≤m.2.1.length∧x.2.2.2.2.1=m∧COk x.2.2.2.2.2.1) (fun x=>m.2.1.length - x.2.2.2.1.toNat)
  (Q:=fun r:Int×List ByteArray×Made×Cur×Unit=>(∀ s∈r.2.1,s.size≤30)∧r.2.1.length≤m.2.1.length∧r.2.2.1=m∧COk r.2.2.2.1) (fun x hx=>?_) ⟨by simp,by simp,by simp,by simp,rfl,h⟩) (fun r hr=>wp_some ⟨⟨r.2.1,by rw [hr.2.2.1],hr.1,hr.2.1⟩,hr.2.2.2⟩)
 obtain⟨x0,x1,x2,x3,x4,x5,_⟩:=x
 simp only at hx
 obtain⟨g1,g2,g3,g4,g5,g6⟩:=hx
 subst g5
 unfold L1_spec_l05Made_gone
 refine wp_bif (fun hb=>?_) (fun hb=>wp_map (wp_some (wp_inr ⟨g1,by simp only;omega,rfl,g6⟩)))
 have hlt:x3<(x4.2.1.length:Int):=by simpa using hb
 have e:IntKind.wrap .i64 (x3+1)=x3+1:=wrap64 (by omega) (by omega)
 refine wp_joinP (wp_mono (Q:=fun z:Int×ByteArray×List ByteArray×Int×Bool×Made×Cur×Unit=>z.2.2.1=x2∧z.2.2.2.1=x3∧z.2.2.2.2.2.1=x4∧COk z.2.2.2.2.2.2.1) (wp_run ⟨g3,hlt⟩ (wp_bif (fun _=>wp_some ⟨rfl,rfl,rfl,g6⟩) fun _=>wp_some ⟨rfl,rfl,rfl,g6⟩)) fun z hz=>?_)
 obtain⟨z0,z1,z2,z3,z4,z5,z6,_⟩:=z
 simp only at hz
 obtain⟨q1,q2,q3,g7⟩:=hz
 subst q1 q2 q3
 refine wp_joinP (wp_mono (Q:=fun u:Int×ByteArray×List ByteArray×Int×Made×Cur×Unit=>(∀ s∈u.2.2.1,s.size≤30)∧u.2.2.1.length≤z3.toNat+1∧u.2.2.2.1=z3∧u.2.2.2.2.1=z5∧COk u.2.2.2.2.2.1) (wp_bif (fun _=>wp_run ⟨g3,hlt⟩ (wp_run ?_ (wp_some ⟨fun s hs=>?_,by simp;omega,rfl,rfl,g7⟩))) fun _=>wp_some ⟨g1,by simp only;omega,rfl,rfl,g7⟩) fun u hu=>?_)
 ·simp only [Cnd.holds,List.length_singleton];omega
 ·rcases List.mem_append.1 hs with hs | hs
  ·exact g1 s hs
  ·rw [List.mem_singleton.1 hs]
   exact hm.b _ (rd_get _ _ _ g3 hlt)
 ·obtain⟨u0,u1,u2,u3,u4,u5,_⟩:=u
  simp only at hu
  obtain⟨k1,k2,k3,k4,k5⟩:=hu
  subst k3 k4
  simp only
  rw [e]
  exact wp_map (wp_some (wp_inl ⟨⟨k1,by simp only;omega,by simp only;omega,by simp only;omega,rfl,k5⟩,by simp only;omega⟩))
def RM (k:Nat) (r:Made×Cur×Unit):Prop:=MOk k r.1∧COk r.2.1
theorem case_wp {k:Nat} {b:Bool} {x y:Option (Made×Cur×Unit)} (h1:b=true→wp x (RM k)) (h2:b=false→wp y (RM k)):wp (joinP (bif b then x else y) fun z=>some (z.1,z.2.1,())) (RM k):=
 wp_joinP (wp_mono (wp_bif h1 h2) fun z hz=>wp_some hz)
theorem MOk.mk' {k:Nat} {i bs:List ByteArray} {n:Int} {t:ByteArray} {w:Bool} (h1:∀ s∈i,s.size≤30) (h2:∀ s∈bs,s.size≤30) (h3:i.length≤k) (h4:bs.length≤k) (h5:0≤n) (h6:n≤k) (h7:t.size≤1000 * k):MOk k (i,(bs,(n,(t,w)))):=⟨h1,h2,h3,h4,h5,h6,h7⟩
theorem MOk.txt {k:Nat} {m:Made} (hm:MOk k m) {n:Int} {t:ByteArray} {w:Bool} (h5:0≤n) (h6:n≤(k:Int)+1) (h7:t.size≤1000 * k+1000):MOk (k+1) (m.1,(m.2.1,(n,(t,w)))):=.mk' hm.i hm.b (by have:=hm.il;omega) (by have:=hm.bl;omega) h5 (by omega) (by omega)
theorem MOk.fr {k:Nat} {m:Made} (hm:MOk k m) (h5:0≤m.2.2.1):MOk (k+1) (m.1,(m.2.1,(m.2.2.1+1,m.2.2.2))):=⟨hm.i,hm.b,by have:=hm.il;simp only;omega,by have:=hm.bl;simp only;omega,by simp only;omega,by have:=hm.n1;simp only;omega,by have:=hm.t;simp only;omega⟩
theorem mem_snoc {l:List ByteArray} {x:ByteArray} (h:∀ s∈l,s.size≤30) (hx:x.size≤30):∀ s∈([]:List ByteArray)++l++[x],s.size≤30:=fun s hs=>by
 simp only [List.nil_append] at hs
 rcases List.mem_append.1 hs with hs | hs
 ·exact h s hs
 ·rw [List.mem_singleton.1 hs];exact hx
theorem lends_wp {k:Nat} (m:Made) (g:Bool) (c:Cur) (hk:k≤1000000) (hm:MOk k m) (hb:m.2.1≠[]) (h:COk c):wp (spec_l05Made_lends m g c) (RM (k+1)):=by
 unfold spec_l05Made_lends
 have ht:=hm.t
 have hn0:=hm.n0
 have hn1:=hm.n1
 have hbl:=hm.bl
 refine wp_bind (wp_mono (mpick_wp m m.2.1 c hb h) fun b hb=>wp_bind (wp_mono (below_wp _ 9 hb.2) fun y hy=>?_))
 have hbs:=hm.b _ hb.1
 have h:=hy.2.2.2
 refine case_wp (fun _=>?_) fun _=>case_wp (fun _=>?_) fun _=>case_wp (fun _=>?_) fun _=>case_wp (fun _=>?_) fun _=>case_wp (fun _=>?_) fun _=>case_wp (fun _=>?_) fun _=>case_wp (fun _=>?_) fun _=>case_wp (fun _=>?_) fun _=>?_
 ·refine wp_bind (wp_mono (fresh_wp _ s_r_4543 _ hk (by simp only [add_size,szs];omega) hm h) fun f hf=>?_)
  obtain⟨fn,fm,fc,_⟩:=f
  simp only at hf
  obtain⟨f1,f2,f3⟩:=hf
  subst f2
  simp only
  repeat refine wp_run (cle (by first | omega | (simp only [add_size,szs];omega))) ?_
  exact wp_some ⟨(hm.txt (by omega) (by omega) (by simp only [add_size,szs];omega)),f3⟩
 ·refine wp_bind (wp_mono (fresh_wp _ s_m_62c6 _ hk (by simp only [add_size,szs];omega) hm h) fun f hf=>?_)
  obtain⟨fn,fm,fc,_⟩:=f
  simp only at hf
  obtain⟨f1,f2,f3⟩:=hf
  subst f2
  simp only
  repeat refine wp_run (cle (by first | omega | (simp only [add_size,szs];omega))) ?_
  refine wp_bind (wp_mono (small_wp _ _ (hm.fr hn0) f3) fun a ha=>?_)
  repeat refine wp_run (cle (by first | omega | (simp only [add_size,szs];omega))) ?_
  exact wp_some ⟨(hm.txt (by omega) (by omega) (by simp only [add_size,szs];omega)),ha.2⟩
 ·repeat refine wp_run (cle (by first | omega | (simp only [add_size,szs];omega))) ?_
  exact wp_some ⟨(hm.txt (by omega) (by omega) (by simp only [add_size,szs];omega)),h⟩
 ·repeat refine wp_run (cle (by first | omega | (simp only [add_size,szs];omega))) ?_
  refine wp_bind (wp_mono (number_wp _ _ h) fun a ha=>?_)
  repeat refine wp_run (cle (by first | omega | (simp only [add_size,szs];omega))) ?_
  exact wp_some ⟨(hm.txt (by omega) (by omega) (by simp only [add_size,szs];omega)),ha.2⟩
 ·refine wp_bind (wp_mono (fresh_wp _ s_b_3e23 _ hk (by simp only [add_size,szs];omega) hm h) fun f hf=>?_)
  obtain⟨fn,fm,fc,_⟩:=f
  simp only at hf
  obtain⟨f1,f2,f3⟩:=hf
  subst f2
  simp only
  repeat refine wp_run (cle (by first | omega | (simp only [add_size,szs];omega))) ?_
  refine wp_bind (wp_mono (once_wp _ 3 f3) fun o ho=>wp_joinP (wp_mono (Q:=fun x:Int×ByteArray×Made×Cur×Unit=>MOk (k+1) x.2.2.1∧x.2.2.1.2.1.length≤k∧x.2.1=fn∧COk x.2.2.2.1) (wp_bif (fun _=>?_) fun _=>wp_some ⟨(hm.txt (by omega) (by omega) (by simp only [add_size,szs];omega)),by simp only;omega,rfl,ho⟩) fun x hx=>?_))
  ·refine wp_bind (wp_mono (gone_wp (k:=k+1) _ _ _ (by omega) (hm.txt (by omega) (by omega) (by simp only [add_size,szs];omega)) ho) fun z hz=>?_)
   obtain⟨⟨bs,z1,z2,z3⟩,z4⟩:=hz
   simp only at z1 z3
   rw [z1]
   exact wp_some ⟨.mk' hm.i z2 (by have:=hm.il;omega) (by omega) (by omega) (by omega) (by simp only [add_size,szs];omega),by simp only;omega,rfl,z4⟩
  ·obtain⟨x1,x2,x3,x4⟩:=hx
   have e3:x.2.1.size≤30:=by rw [x3];exact f1
   refine wp_run (by simp only [Cnd.holds,List.length_nil];omega) (wp_run (by simp only [Cnd.holds,List.length_append,List.length_nil,List.length_singleton];omega) (wp_some ⟨.mk' x1.i (mem_snoc x1.b e3) x1.il (by simp only [List.length_append,List.length_nil,List.length_singleton];omega) x1.n0 x1.n1 x1.t,x4⟩))
 ·repeat refine wp_run (cle (by first | omega | (simp only [add_size,szs];omega))) ?_
  refine wp_bind (wp_mono (whole_wp m _ hm h) fun a ha=>?_)
  repeat refine wp_run (cle (by first | omega | (simp only [add_size,szs];omega))) ?_
  exact wp_some ⟨(hm.txt (by omega) (by omega) (by simp only [add_size,szs];omega)),ha.2⟩
 ·repeat refine wp_run (cle (by first | omega | (simp only [add_size,szs];omega))) ?_
  repeat refine wp_run (cle (by first | omega | (simp only [add_size,szs];omega))) ?_
  refine wp_bind (wp_mono (small_wp m _ hm h) fun a ha=>?_)
  repeat refine wp_run (cle (by first | omega | (simp only [add_size,szs];omega))) ?_
  exact wp_some ⟨(hm.txt (by omega) (by omega) (by simp only [add_size,szs];omega)),ha.2⟩
 ·refine case_wp (fun _=>?_) fun _=>wp_some ⟨hm.mono (by omega),h⟩
  repeat refine wp_run (cle (by first | omega | (simp only [add_size,szs];omega))) ?_
  refine wp_bind (wp_mono (gone_wp (k:=k+1) _ _ _ (by omega) (hm.txt (by omega) (by omega) (by simp only [add_size,szs];omega)) h) fun z hz=>?_)
  obtain⟨⟨bs,z1,z2,z3⟩,z4⟩:=hz
  simp only at z1 z3
  rw [z1]
  exact wp_some ⟨.mk' hm.i z2 (by have:=hm.il;omega) (by omega) (by omega) (by omega) (by simp only [add_size,szs];omega),z4⟩
 ·refine case_wp (fun _=>?_) fun _=>wp_some ⟨hm.mono (by omega),h⟩
  refine wp_bind (wp_mono (fresh_wp _ s_b_3e23 _ hk (by simp only [add_size,szs];omega) hm h) fun f hf=>?_)
  obtain⟨fn,fm,fc,_⟩:=f
  simp only at hf
  obtain⟨f1,f2,f3⟩:=hf
  subst f2
  simp only
  repeat refine wp_run (cle (by first | omega | (simp only [add_size,szs];omega))) ?_
  refine wp_bind (wp_mono (gone_wp (k:=k+1) _ _ _ (by omega) (hm.txt (by omega) (by omega) (by simp only [add_size,szs];omega)) f3) fun z hz=>?_)
  obtain⟨⟨bs,z1,z2,z3⟩,z4⟩:=hz
  simp only at z1 z3
  rw [z1]
  refine wp_run (by simp only [Cnd.holds,List.length_nil];omega) (wp_run (by simp only [Cnd.holds,List.length_append,List.length_nil,List.length_singleton];omega) (wp_some ⟨.mk' hm.i (mem_snoc z2 f1) (by have:=hm.il;simp only;omega) (by simp only [List.length_append,List.length_nil,List.length_singleton];omega) (by omega) (by omega) (by simp only [add_size,szs];omega),z4⟩))
end Go.Proofs.YtmakhmoielhjeaaGreatDoorE
namespace Go.Proofs.YtmakhmoielhjeaaGreatDoorE
set_option linter.all false
set_option maxRecDepth 100000
theorem len_ne {D:Type} {l:List D} (h:(decide ((List.length l:Int)=(0:Int)))=false):l≠[]:=by
 intro e;rw [e] at h;simp at h
theorem case_wq {k:Nat} {b:Bool} {x x' y y':Option (Made×Cur×Unit)} (h1:b=true→wq x x' (RM k)) (h2:b=false→wq y y' (RM k)):wq (joinP (bif b then x else y) fun z=>some (z.1,z.2.1,())) (joinP (bif b then x' else y') fun z=>some (z.1,z.2.1,())) (RM k):=
 wq_joinP (wq_mono (wq_bif h1 h2) fun z hz=>wq_some hz)
theorem step_S_wq {r0 r0':Made→Int→Bool→Cur→Option (Made×Cur×Unit)} {r1 r1':Made→Int→ByteArray→Cur→Option (Made×Cur×Unit)} {D:Nat} (deep:Int) (H:0<deep→∀ k m last c,k+D≤1000000→MOk k m→last.size≤100→COk c→wq (r1 m deep last c) (r1' m deep last c) (RM (k+D)))
 {k:Nat} (m:Made) (g:Bool) (c:Cur) (hk:k+2 * D+2≤1000000) (hm:MOk k m) (h:COk c):wq (spec_l05Made_step_S r0 r1 m deep g c) (spec_l05Made_step_S r0' r1' m deep g c) (RM (k+2 * D+2)):=by
 unfold spec_l05Made_step_S
 have ht:=hm.t
 have hn0:=hm.n0
 have hn1:=hm.n1
 have hbl:=hm.bl
 have hil:=hm.il
 have fin:∀ r:Made×Cur×Unit,RM (k+1) r→RM (k+2 * D+2) r:=fun r hr=>⟨hr.1.mono (by omega),hr.2⟩
 refine wq_bind (wq_mono (wq_of (below_wp c 14 h)) fun y hy=>?_)
 have h:=hy.2.2.2
 refine wq_joinP (wq_mono (Q:=fun x:Int×Int×Bool×Int×Bool×Made×Cur×Unit=>x.2.1=deep∧x.2.2.2.2.2.1=m∧COk x.2.2.2.2.2.2.1∧(x.2.2.2.2.1=false→m.1≠[])) (wq_bif (fun _=>wq_some ⟨rfl,rfl,h,fun e=>by cases e⟩) fun _=>wq_some ⟨rfl,rfl,h,fun e=>len_ne e⟩) fun x hx=>?_)
 obtain⟨x0,x1,x2,x3,x4,x5,x6,_⟩:=x
 simp only at hx
 obtain⟨e1,e2,h,hi⟩:=hx
 subst e1 e2
 simp only
 clear hy
 refine case_wq (fun _=>wq_mono ?_ fin) fun hf1=>?_
 ·refine wq_bind (wq_mono (wq_of (whole_wp _ _ hm h)) fun v hv=>?_)
  have h:=hv.2
  refine wq_bind (wq_mono (wq_of (fresh_wp _ s_i_de7d _ (by omega) (by simp only [add_size,szs];omega) hm h)) fun f hf=>?_)
  obtain⟨fn,fm,fc,_⟩:=f
  simp only at hf
  obtain⟨f1,f2,f3⟩:=hf
  subst f2
  simp only
  repeat refine wq_run (cle (by first | omega | (simp only [add_size,szs];omega))) ?_
  refine wq_run (by simp only [Cnd.holds,List.length_nil];omega) (wq_run (by simp only [Cnd.holds,List.length_append,List.length_nil,List.length_singleton];omega) (wq_some ⟨.mk' (mem_snoc hm.i f1) hm.b (by simp only [List.length_append,List.length_nil,List.length_singleton];omega) (by first | omega | (simp only;omega)) (by omega) (by omega) (by simp only [add_size,szs];omega),f3⟩))
 have hne1:=hi hf1
 refine wq_joinP (wq_mono (Q:=fun x:Int×Int×Bool×Int×Bool×Made×Cur×Unit=>x.2.1=x1∧x.2.2.2.2.2.1=x5∧COk x.2.2.2.2.2.2.1∧(x.2.2.2.2.1=false→x5.2.1≠[])) (wq_bif (fun _=>wq_some ⟨rfl,rfl,h,fun e=>by cases e⟩) fun _=>wq_some ⟨rfl,rfl,h,fun e=>len_ne e⟩) fun x hx=>?_)
 obtain⟨z0,z1,z2,z3,z4,z5,z6,_⟩:=x
 simp only at hx
 obtain⟨e1,e2,h,hi⟩:=hx
 subst e1 e2
 simp only
 refine case_wq (fun _=>wq_mono ?_ fin) fun hf2=>?_
 ·refine wq_bind (wq_mono (wq_of (small_wp _ _ hm h)) fun v hv=>?_)
  repeat refine wq_run (cle (by first | omega | (simp only [add_size,szs];omega))) ?_
  refine wq_bind (wq_mono (wq_of (once_wp _ 3 hv.2)) fun o ho=>wq_joinP (wq_mono (Q:=fun x:Int×ByteArray×Made×Cur×Unit=>x.2.1.size≤60∧x.2.2.1=z5∧COk x.2.2.2.1) (wq_bif (fun _=>wq_bind (wq_mono (wq_of (small_wp _ _ hm ho)) fun v2 hv2=>?_)) fun _=>wq_some ⟨by simp only [add_size,szs];omega,rfl,ho⟩) fun x hx=>?_))
  ·repeat refine wq_run (cle (by first | omega | (simp only [add_size,szs];omega))) ?_
   exact wq_some ⟨by simp only [add_size,szs];omega,rfl,hv2.2⟩
  obtain⟨w0,w1,w2,w3,_⟩:=x
  simp only at hx
  obtain⟨hw,e2,h⟩:=hx
  subst e2
  simp only
  refine wq_bind (wq_mono (wq_of (fresh_wp _ s_b_3e23 _ (by omega) (by simp only [add_size,szs];omega) hm h)) fun f hf=>?_)
  obtain⟨fn,fm,fc,_⟩:=f
  simp only at hf
  obtain⟨f1,f2,f3⟩:=hf
  subst f2
  simp only
  repeat refine wq_run (cle (by first | omega | (simp only [add_size,szs];omega))) ?_
  refine wq_run (by simp only [Cnd.holds,List.length_nil];omega) (wq_run (by simp only [Cnd.holds,List.length_append,List.length_nil,List.length_singleton];omega) (wq_some ⟨.mk' hm.i (mem_snoc hm.b f1) (by first | omega | (simp only;omega)) (by simp only [List.length_append,List.length_nil,List.length_singleton];omega) (by omega) (by omega) (by simp only [add_size,szs];omega),f3⟩))
 have hne2:=hi hf2
 refine case_wq (fun _=>wq_mono ?_ fin) fun _=>?_
 ·repeat refine wq_run (cle (by first | omega | (simp only [add_size,szs];omega))) ?_
  refine wq_bind (wq_mono (wq_of (whole_wp _ _ hm h)) fun v hv=>?_)
  repeat refine wq_run (cle (by first | omega | (simp only [add_size,szs];omega))) ?_
  exact wq_some ⟨(hm.txt (by omega) (by omega) (by simp only [add_size,szs];omega)),hv.2⟩
 refine case_wq (fun _=>wq_mono ?_ fin) fun _=>?_
 ·refine wq_bind (wq_mono (wq_of (mpick_wp _ _ _ hne1 h)) fun v hv=>?_)
  have hvs:=hm.i _ hv.1
  repeat refine wq_run (cle (by first | omega | (simp only [add_size,szs];omega))) ?_
  refine wq_bind (wq_mono (wq_of (whole_wp _ _ hm hv.2)) fun v2 hv2=>?_)
  repeat refine wq_run (cle (by first | omega | (simp only [add_size,szs];omega))) ?_
  exact wq_some ⟨(hm.txt (by omega) (by omega) (by simp only [add_size,szs];omega)),hv2.2⟩
 refine wq_joinP (wq_mono (Q:=fun x:Int×Int×Bool×Int×Bool×Made×Cur×Unit=>x.2.1=z1∧x.2.2.2.2.2.1=z5∧COk x.2.2.2.2.2.2.1∧(x.2.2.2.2.1=true→0<z1)) (wq_bif (fun _=>wq_some ⟨rfl,rfl,h,fun e=>by simpa using e⟩) fun _=>wq_some ⟨rfl,rfl,h,fun e=>by cases e⟩) fun x hx=>?_)
 obtain⟨u0,u1,u2,u3,u4,u5,u6,_⟩:=x
 simp only at hx
 obtain⟨e1,e2,h,hi3⟩:=hx
 subst e1 e2
 simp only
 refine case_wq (fun hd=>?_) fun _=>?_
 ·repeat refine wq_run (cle (by first | omega | (simp only [add_size,szs];omega))) ?_
  refine wq_bind (wq_mono (wq_of (small_wp _ _ hm h)) fun v hv=>?_)
  repeat refine wq_run (cle (by first | omega | (simp only [add_size,szs];omega))) ?_
  refine wq_bind (wq_mono (wq_of (small_wp _ _ hm hv.2)) fun v2 hv2=>?_)
  repeat refine wq_run (cle (by first | omega | (simp only [add_size,szs];omega))) ?_
  refine wq_bind (wq_mono (H (hi3 hd) (k+1) _ _ _ (by omega) (hm.txt (by omega) (by omega) (by simp only [add_size,szs];omega)) (by decide) hv2.2) fun q hq=>?_)
  have ht2:=hq.1.t
  have hn2:=hq.1.n0
  have hn3:=hq.1.n1
  repeat refine wq_run (cle (by first | omega | (simp only [add_size,szs];omega))) ?_
  refine wq_bind (wq_mono (H (hi3 hd) (k+1+D+1) _ _ _ (by omega) (hq.1.txt (by omega) (by omega) (by simp only [add_size,szs];omega)) (by decide) hq.2) fun q2 hq2=>wq_some ⟨hq2.1.mono (by omega),hq2.2⟩)
 refine wq_joinP (wq_mono (Q:=fun x:Int×Int×Bool×Bool×Made×Cur×Unit=>x.2.1=u1∧x.2.2.2.2.1=u5∧COk x.2.2.2.2.2.1∧(x.2.2.2.1=true→0<u1)) (wq_bif (fun _=>wq_some ⟨rfl,rfl,h,fun e=>by simpa using e⟩) fun _=>wq_some ⟨rfl,rfl,h,fun e=>by cases e⟩) fun x hx=>?_)
 obtain⟨q0,q1,q2,q3,q4,q5,_⟩:=x
 simp only at hx
 obtain⟨e1,e2,h,hi4⟩:=hx
 subst e1 e2
 simp only
 refine case_wq (fun hd=>?_) fun _=>?_
 ·refine wq_bind (wq_mono (wq_of (fresh_wp _ s_w_50e7 _ (by omega) (by simp only [add_size,szs];omega) hm h)) fun f hf=>?_)
  obtain⟨fn,fm,fc,_⟩:=f
  simp only at hf
  obtain⟨f1,f2,f3⟩:=hf
  subst f2
  simp only
  repeat refine wq_run (cle (by first | omega | (simp only [add_size,szs];omega))) ?_
  refine wq_bind (wq_mono (wq_of (pick_wp _ _ (by simp) f3)) fun v hv=>?_)
  have hvs:v.1.size≤1:=by
   have h1:=hv.1
   simp only [List.mem_cons,List.not_mem_nil,or_false] at h1
   rcases h1 with e | e | e | e<;>rw [e]<;>decide
  repeat refine wq_run (cle (by first | omega | (simp only [add_size,szs];omega))) ?_
  exact wq_bind (wq_mono (H (hi4 hd) (k+1) _ _ _ (by omega) (hm.txt (by omega) (by omega) (by simp only [add_size,szs];omega)) (by simp only [add_size,szs];omega) hv.2) fun q hq=>wq_some ⟨hq.1.mono (by omega),hq.2⟩)
 ·exact wq_bind (wq_mono (wq_of (lends_wp _ _ _ (by omega) hm hne2 h)) fun q hq=>wq_some (fin _ hq))
theorem inside_S_wq {r0 r0':Made→Int→Bool→Cur→Option (Made×Cur×Unit)} {r1 r1':Made→Int→ByteArray→Cur→Option (Made×Cur×Unit)} {A:Nat} (deep:Int) (hd0:0<deep) (hd1:deep≤1000) (H:∀ k m c,k+A≤1000000→MOk k m→COk c→wq (r0 m (deep - 1) false c) (r0' m (deep - 1) false c) (RM (k+A)))
 {k:Nat} (m:Made) (last:ByteArray) (c:Cur) (hk:k+3 * A+2≤1000000) (hm:MOk k m) (hl:last.size≤100) (h:COk c):wq (spec_l05Made_inside_S r0 r1 m deep last c) (spec_l05Made_inside_S r0' r1' m deep last c) (RM (k+3 * A+2)):=by
 unfold spec_l05Made_inside_S
 have ht:=hm.t
 have hn0:=hm.n0
 have hn1:=hm.n1
 have hbl:=hm.bl
 have hil:=hm.il
 refine wq_run (by simp only [Cnd.holds,List.length_nil];omega) (wq_run (by simp only [Cnd.holds,List.length_nil];omega) ?_)
 repeat refine wq_run (cle (by first | omega | (simp only [add_size,szs];omega))) ?_
 refine wq_joinP (wq_bind (wq_some ?_))
 simp only [List.nil_append]
 refine wq_mono (wq_loop (fun x:SL1_spec_l05Made_inside=>x.2.1=deep∧x.2.2.1=last∧x.2.2.2.1=m.1∧x.2.2.2.2.1=m.2.1∧0≤x.2.2.2.2.2.1∧x.2.2.2.2.2.1≤3∧MOk (k+1+x.2.2.2.2.2.1.toNat * A) x.2.2.2.2.2.2.1∧COk x.2.2.2.2.2.2.2.1) (fun x=>3 - x.2.2.2.2.2.1.toNat)
  (Q:=fun r:Int×ByteArray×List ByteArray×List ByteArray×Made×Cur×Unit=>r.2.1=last∧r.2.2.1=m.1∧r.2.2.2.1=m.2.1∧MOk (k+1+3 * A) r.2.2.2.2.1∧COk r.2.2.2.2.2.1) (fun x hx=>?_) ⟨rfl,rfl,rfl,rfl,by simp,by simp,by
   simp only [Int.toNat_zero,Nat.zero_mul,Nat.add_zero]
   exact hm.txt (by omega) (by omega) (by simp only [add_size,szs];omega),h⟩) (fun r hr=>?_)
 ·obtain⟨x0,x1,x2,x3,x4,x5,x6,x7,_⟩:=x
  simp only at hx
  obtain⟨e1,e2,e3,e4,g1,g2,g3,g4⟩:=hx
  subst e1 e2
  unfold L1_spec_l05Made_inside
  simp only
  refine wq_bind (wq_mono (wq_of (below_wp _ 3 g4)) fun y hy=>wq_bif (fun hb=>?_) fun _=>wq_map (wq_some (wp_inr ⟨rfl,e3,e4,g3.mono ?_,hy.2.2.2⟩)))
  ·have hlt:x5<y.1:=by simpa using hb
   have hy3:=hy.2.1 (by omega)
   rw [wrap64 (x:=x1 - 1) (by omega) (by omega),wrap64 (x:=x5+1) (by omega) (by omega)]
   have hA:x5.toNat * A≤2 * A:=Nat.mul_le_mul_right _ (by omega)
   refine wq_bind (wq_mono (H (k+1+x5.toNat * A) _ _ (by omega) g3 hy.2.2.2) fun q hq=>wq_map (wq_some (wp_inl ⟨⟨rfl,rfl,e3,e4,by simp only;omega,by simp only;omega,?_,hq.2⟩,by simp only;omega⟩)))
   simp only
   rw [show(x5+1).toNat=x5.toNat+1 by omega,Nat.add_mul,Nat.one_mul]
   exact hq.1.mono (by omega)
  ·have hA:x5.toNat * A≤3 * A:=Nat.mul_le_mul_right _ (by omega)
   omega
 ·obtain⟨x0,x1,x2,x3,x4,x5,_⟩:=r
  simp only at hr
  obtain⟨e1,e2,e3,g1,g2⟩:=hr
  subst e1 e2 e3
  simp only
  have ht2:=g1.t
  have hn2:=g1.n0
  have hn3:=g1.n1
  repeat refine wq_run (cle (by first | omega | (simp only [add_size,szs];omega))) ?_
  exact wq_some ⟨.mk' hm.i hm.b (by omega) (by omega) (by omega) (by omega) (by simp only [add_size,szs];omega),g2⟩
def Ac:Nat→Nat
 | 0=>2
 | d+1=>2 * (3 * Ac d+2)+2
theorem made_rec:∀ (d:Nat),d≤1000→∀ n n',2 * d+1≤n→2 * d+1≤n'→∀ k m g c,k+Ac d≤1000000→MOk k m→COk c→wq ((R_spec_l05Made_step n).1 m (d:Int) g c) ((R_spec_l05Made_step n').1 m (d:Int) g c) (RM (k+Ac d)):=by
 intro d
 induction d with
 | zero=>
  intro _ n n' hn hn' k m g c hk hm h
  obtain⟨n,rfl⟩:∃ j,n=j+1:=⟨n - 1,by omega⟩
  obtain⟨n',rfl⟩:∃ j,n'=j+1:=⟨n' - 1,by omega⟩
  exact step_S_wq (r0:=(R_spec_l05Made_step n).1) (r0':=(R_spec_l05Made_step n').1) (D:=0) (0:Int) (fun h=>by omega) m g c (by simp only [Ac] at hk;omega) hm h
 | succ d ih=>
  intro hd n n' hn hn' k m g c hk hm h
  obtain⟨n,rfl⟩:∃ j,n=j+2:=⟨n - 2,by omega⟩
  obtain⟨n',rfl⟩:∃ j,n'=j+2:=⟨n' - 2,by omega⟩
  have hA:Ac (d+1)=2 * (3 * Ac d+2)+2:=rfl
  rw [hA] at hk ⊢
  rw [show k+(2 * (3 * Ac d+2)+2)=k+2 * (3 * Ac d+2)+2 by omega]
  refine step_S_wq (r0:=(R_spec_l05Made_step (n+1)).1) (r0':=(R_spec_l05Made_step (n'+1)).1) (D:=3 * Ac d+2) ((d+1:Nat):Int) (fun _ k m last c hk hm hl h=>?_) m g c (by omega) hm h
  rw [show k+(3 * Ac d+2)=k+3 * Ac d+2 by omega]
  refine inside_S_wq (A:=Ac d) ((d+1:Nat):Int) (by omega) (by omega) (fun k m c hk hm h=>?_) m last c (by omega) hm hl h
  rw [show((d+1:Nat):Int) - 1=(d:Int) by omega]
  exact ih (by omega) n n' (by omega) (by omega) k m false c hk hm h
theorem mstep_wp {k:Nat} (m:Made) (g:Bool) (c:Cur) (hk:k+200≤1000000) (hm:MOk k m) (h:COk c):wp (spec_l05Made_step m 2 g c) (RM (k+200)):=by
 unfold spec_l05Made_step
 have hA:Ac 2=114:=rfl
 exact wq_lim 5 fun n hn=>wq_mono (made_rec 2 (by omega) n 5 (by omega) (by omega) k m g c (by omega) hm h) fun r hr=>⟨hr.1.mono (by omega),hr.2⟩
theorem text_wp (c:Cur) (most:Int) (hm0:0≤most) (hm1:most≤1000) (h:COk c):wp (spec_l05Text c most) fun r=>r.1.size≤1000000000∧COk r.2.1:=by
 unfold spec_l05Text
 refine wp_bind (wp_mono (once_wp c 6 h) fun y hy=>wp_joinP (wp_bind (wp_some ?_)))
 refine wp_mono (wp_loop (fun x:SL1_spec_l05Text=>x.1=most∧0≤x.2.2.1∧x.2.2.1≤most+2∧COk x.2.2.2.1∧MOk (1+x.2.2.1.toNat * 200) x.2.2.2.2.1) (fun x=>(most+2).toNat - x.2.2.1.toNat)
  (Q:=fun r:Int×Cur×Made×Unit=>COk r.2.1∧MOk 300000 r.2.2.1) (fun x hx=>?_) ⟨rfl,by simp,by simp only;omega,hy,?_⟩) (fun r hr=>?_)
 ·obtain⟨x0,x1,x2,x3,x4,_⟩:=x
  simp only at hx
  obtain⟨e1,g1,g2,g3,g4⟩:=hx
  subst e1
  unfold L1_spec_l05Text
  simp only
  refine wp_bind (wp_mono (below_wp _ x0 g3) fun z hz=>?_)
  have hz1:z.1≤x0:=by
   rcases Int.lt_or_le 0 x0 with h1 | h1
   ·have:=hz.2.1 h1;omega
   ·have:=hz.2.2.1 h1;omega
  have hz0:=hz.1
  rw [wrap64 (x:=2+z.1) (by omega) (by omega)]
  refine wp_bif (fun hb=>?_) fun _=>wp_map (wp_some (wp_inr ⟨hz.2.2.2,g4.mono ?_⟩))
  ·have hlt:x2<2+z.1:=by simpa using hb
   rw [wrap64 (x:=x2+1) (by omega) (by omega)]
   have hA:x2.toNat * 200≤1002 * 200:=Nat.mul_le_mul_right _ (by omega)
   refine wp_bind (wp_mono (mstep_wp _ true _ (by omega) g4 hz.2.2.2) fun q hq=>wp_map (wp_some (wp_inl ⟨⟨rfl,by simp only;omega,by simp only;omega,hq.2,?_⟩,by simp only;omega⟩)))
   simp only
   rw [show(x2+1).toNat=x2.toNat+1 by omega,Nat.add_mul,Nat.one_mul]
   exact hq.1.mono (by omega)
  ·have hA:x2.toNat * 200≤1002 * 200:=Nat.mul_le_mul_right _ (by omega)
   omega
 ·exact⟨by simp,by simp,by simp,by simp,by simp,by simp,by show s_fn_sum_a__int__b_4b95.size≤1000;decide⟩
 ·have ht:=hr.2.t
  have e:s___d10b.size=1:=by decide
  exact wp_run (cle (by omega)) (wp_some ⟨by simp only [add_size];omega,hr.1⟩)
end Go.Proofs.YtmakhmoielhjeaaGreatDoorE
namespace Go.Proofs.YtmakhmoielhjeaaGreatDoorE
set_option linter.all false
set_option maxRecDepth 100000
theorem loopF_reach {α β:Type} {step:β→Option (β ⊕ α)} (S:Nat→β) (m:Nat) (H:∀ k,k<m→step (S k)=some (.inl (S (k+1)))):loopF step (S 0)=loopF step (S m):=by
 have key:∀ j,j≤m→loopF step (S 0)=loopF step (S j):=by
  intro j
  induction j with
  | zero=>intro _;rfl
  | succ j ih=>intro hj;rw [ih (by omega),loopF_inl (H j (by omega))]
 exact key m (Nat.le_refl m)
def dStep (ds:List Int) (d kid:Int):Int:=if d<rd ds kid (0:Int)+1 then rd ds kid (0:Int)+1 else d
def dKids (ds:List Int) (x:NODE):Int:=x.2.2.2.foldl (dStep ds) 1
def dCut (d:Int):Int:=bif decide ((10:Int)<d) then 0 else d
def dNext (l:List NODE) (ds:List Int) (k:Nat):Int:=bif nodeOk l (k:Int) && (decide (k=0) || decide (rd ds ((k:Int) - 1) (0:Int)≠0)) then dCut (dKids ds (rd l (k:Int) zN)) else 0
def deeps (l:List NODE):Nat→List Int
 | 0=>[]
 | k+1=>deeps l k++[dNext l (deeps l k) k]
def dAt (l:List NODE) (k:Nat):Int:=dNext l (deeps l k) k
theorem deeps_len (l:List NODE):∀ k,(deeps l k).length=k
 | 0=>rfl
 | k+1=>by simp [deeps,deeps_len l k]
theorem deeps_get (l:List NODE):∀ (k j:Nat) (h:j<k),rd (deeps l k) (j:Int) (0:Int)=dAt l j
 | k+1,j,h=>by
  have hl:=deeps_len l k
  rw [rd_nat (show j<(deeps l (k+1)).length by rw [deeps_len];exact h)]
  simp only [deeps]
  by_cases e:j=k
  ·subst e
   rw [List.getElem_append_right (by omega)]
   simp [hl,dAt]
  ·have h':j<k:=by omega
   rw [List.getElem_append_left (by omega),← rd_nat (z:=(0:Int)) (show j<(deeps l k).length by omega)]
   exact deeps_get l k j h'
theorem nodeOk_kid {l:List NODE} {k:Int} (h:nodeOk l k=true) {i:Nat} (hi:i<(rd l k zN).2.2.2.length):0≤(rd l k zN).2.2.2[i]∧(rd l k zN).2.2.2[i]<k:=by
 simp only [nodeOk,nodeBody,kidsOk,Bool.and_eq_true,List.all_eq_true] at h
 have:=h.2.2.2.2.2 i (by simpa using hi)
 simp only [kidOk,Bool.and_eq_true,decide_eq_true_eq] at this
 have e:(rd l k zN).2.2.2.getD i 0=(rd l k zN).2.2.2[i]:=by
  generalize rd l k zN=x at hi ⊢
  simp [hi]
 rw [e] at this
 omega
theorem dKids_le (l:List NODE) (k:Nat) (ds:List Int) (H:∀ j:Nat,j<k→0≤rd ds (j:Int) (0:Int)∧rd ds (j:Int) (0:Int)≤10) (x:NODE) (hx:∀ y∈x.2.2.2,(0:Int)≤y∧y<(k:Int)):1≤dKids ds x∧dKids ds x≤11:=by
 have key:∀ (m:List Int) (d:Int),(∀ y∈m,(0:Int)≤y∧y<(k:Int))→1≤d∧d≤11→1≤m.foldl (dStep ds) d∧m.foldl (dStep ds) d≤11:=by
  intro m
  induction m with
  | nil=>intro d _ h;exact h
  | cons y m ih=>
   intro d hm hd
   rw [List.foldl_cons]
   refine ih _ (fun z hz=>hm z (List.mem_cons_of_mem _ hz)) ?_
   have hy:=hm y (List.mem_cons_self ..)
   have:=H y.toNat (by omega)
   rw [show((y.toNat:Nat):Int)=y by omega] at this
   unfold dStep
   split<;>omega
 exact key x.2.2.2 1 hx ⟨by omega,by omega⟩
theorem kid_mem {l:List NODE} {k:Int} (h:nodeOk l k=true):∀ y∈(rd l k zN).2.2.2,(0:Int)≤y∧y<k:=by
 intro y hy
 obtain⟨i,hi,rfl⟩:=List.getElem_of_mem hy
 exact nodeOk_kid h hi
theorem dAt_le (l:List NODE):∀ k,0≤dAt l k∧dAt l k≤10:=by
 intro k
 induction k using Nat.strongRecOn with
 | _ k ih=>
  unfold dAt dNext
  cases h:nodeOk l (k:Int)
  ·simp
  cases (decide (k=0) || decide (rd (deeps l k) ((k:Int) - 1) (0:Int)≠0))
  ·simp
  simp only [Bool.and_self,cond_true]
  have:=dKids_le l k (deeps l k) (fun j hj=>by rw [deeps_get l k j hj];exact ih j hj) (rd l (k:Int) zN) (kid_mem h)
  unfold dCut
  generalize dKids (deeps l k) (rd l (k:Int) zN)=v at this ⊢
  by_cases h10:(10:Int)<v
  ·simp [h10]
  ·simp [h10];omega
theorem dAt_succ (l:List NODE) (k:Nat) (h:dAt l k=0):dAt l (k+1)=0:=by
 have e:rd (deeps l (k+1)) (((k+1:Nat):Int) - 1) (0:Int)=0:=by
  rw [show((k+1:Nat):Int) - 1=(k:Int) by omega,deeps_get l (k+1) k (by omega),h]
 rw [dAt,dNext,e]
 simp
theorem dAt_zero (l:List NODE) (k n:Nat) (hkn:k≤n) (h:dAt l k=0):dAt l n=0:=by
 induction n with
 | zero=>obtain rfl:k=0:=by omega
         exact h
 | succ n ih=>
  by_cases e:k=n+1
  ·subst e;exact h
  ·exact dAt_succ l n (ih (by omega))
theorem dAt_ok {l:List NODE} {k:Nat} (h:dAt l k≠0):nodeOk l (k:Int)=true:=by
 cases e:nodeOk l (k:Int)
 ·exact absurd (by unfold dAt dNext;rw [e];rfl) h
 ·rfl
theorem deeps_rng (l:List NODE) (k:Nat) (y:Int) (hy:0≤y∧y<(k:Int)):0≤rd (deeps l k) y (0:Int)∧rd (deeps l k) y (0:Int)≤10:=by
 have:=deeps_get l k y.toNat (by omega)
 rw [show((y.toNat:Nat):Int)=y by omega] at this
 rw [this];exact dAt_le l _
theorem dStep_le (l:List NODE) (k:Nat) (y:Int) (hy:0≤y∧y<(k:Int)) (d:Int) (hd:1≤d∧d≤11):1≤dStep (deeps l k) d y∧dStep (deeps l k) d y≤11:=by
 have:=deeps_rng l k y hy
 unfold dStep
 split<;>omega
theorem deep_innerS (l:List NODE) (hl:FineN l) (n:Int) (k:Nat) (hk:k<l.length) (hok:nodeOk l (k:Int)=true):
 loopF L1_spec_l04Deeps (l,n,deeps l k,(k:Int),(1:Int),(0:Int),())=some (l,n,deeps l k,(k:Int),dKids (deeps l k) l[k],()):=by
 have hkid:∀ i (hi:i<l[k].2.2.2.length),(0:Int)≤l[k].2.2.2[i]∧l[k].2.2.2[i]<(k:Int):=by
  have:=kid_mem hok
  rw [rd_nat hk] at this
  exact fun i hi=>this _ (List.getElem_mem hi)
 have hx:=hl.kid _ (List.getElem_mem hk)
 have hlen:=deeps_len l k
 have hrd:∀ i (hi:i<l[k].2.2.2.length),(0:Int)≤rd (deeps l k) l[k].2.2.2[i] (0:Int)∧rd (deeps l k) l[k].2.2.2[i] (0:Int)≤10:=fun i hi=>deeps_rng l k _ (hkid i hi)
 have hst:∀ i (hi:i<l[k].2.2.2.length) d,1≤d∧d≤11→1≤dStep (deeps l k) d l[k].2.2.2[i]∧dStep (deeps l k) d l[k].2.2.2[i]≤11:=fun i hi d hd=>dStep_le l k _ (hkid i hi) d hd
 have e1:∀ i:Int,(Cnd.idx (k:Int) l.length).run (α:=(List NODE×Int×List Int×Int×Int×Int×Bool×Unit))=fun K=>K:=fun i=>by funext K;exact idx_run hk
 have hr:rd l (k:Int) zN=l[k]:=rd_nat hk
 generalize l[k]=x at hkid hx hrd hst hr ⊢
 have h:=loopF_fold (step:=L1_spec_l04Deeps) x.2.2.2 (dStep (deeps l k)) (fun i d=>(l,n,deeps l k,(k:Int),d,(i:Int),())) (fun d=>(l,n,deeps l k,(k:Int),d,())) (fun _ d=>1≤d∧d≤11) (fun i hi d hd=>by
  refine⟨?_,hst i hi d hd⟩
  have a1:=hkid i hi
  have a2:=hrd i hi
  have wi:=wrapSucc (show i<9223372036854775807 by omega)
  simp only [L1_spec_l04Deeps,show(0:Int)<d by omega,decide_true,cond_true,idx_run hk,hr,lt_cast hi,joinP_some,idx_run hi,rd_nat hi]
  generalize x.2.2.2[i]=y at a1 a2 ⊢
  rw [idx_range (show 0≤y∧y<((deeps l k).length:Int) by omega)]
  unfold dStep
  generalize rd (deeps l k) y (0:Int)=v at a2 ⊢
  rw [show IntKind.wrap .i64 (v+1)=v+1 from wrap64 (by omega) (by omega)]
  by_cases hlt:d<v+1
  ·simp only [hlt,decide_true,cond_true,if_true,idx_range (show 0≤y∧y<((deeps l k).length:Int) by omega),joinP_some,wi,Option.map_some]
  ·simp only [hlt,decide_false,cond_false,if_false,joinP_some,wi,Option.map_some]) (fun d hd=>by
  simp only [L1_spec_l04Deeps,show(0:Int)<d by omega,decide_true,cond_true,idx_run hk,hr,not_lt_self,decide_false,joinP_some,cond_false,Option.map_some]) 1 ⟨by omega,by omega⟩
 exact h.1
theorem push_run {α:Type} {l:List NODE} (hl:FineN l) {k:Nat} (hk:k<l.length) {d:Int} {K:Option α}:(Cnd.le (((deeps l k).length+List.length [d]) * 8) 140737488355328).run K=K:=by
 have:=hl.len
 have e:=deeps_len l k
 simp only [Cnd.run]
 rw [if_pos]
 simp only [List.length_cons,List.length_nil]
 omega
theorem deep_roundS (l:List NODE) (hl:FineN l) (n:Int) (k:Nat) (hk:k<l.length) (hn:(k:Int)≤n):
 L2_spec_l04Deeps (l,n,deeps l k,(k:Int),())=some (.inl (l,n,deeps l (k+1),((k+1:Nat):Int),())):=by
 have hlen:=hl.len
 have wi:=wrapSucc (show k<9223372036854775807 by omega)
 have e0:deeps l (k+1)=deeps l k++[dAt l k]:=rfl
 have h1:∀ z,loopF L1_spec_l04Deeps (l,n,deeps l k,(k:Int),(0:Int),z,())=some (l,n,deeps l k,(k:Int),(0:Int),()):=fun z=>loopF_inr (by
  simp only [L1_spec_l04Deeps,show ¬ ((0:Int)<0) by decide,decide_false,cond_false,joinP_some,Option.map_some])
 have hdl:=deeps_len l k
 unfold L2_spec_l04Deeps
 simp only [hn,decide_true,cond_true,lt_cast hk,joinP_some,spec_NodeOk_ok l hl,Option.bind_some]
 have e1:(bif !nodeOk l (k:Int) then some (l,n,deeps l k,(k:Int),(1:Int),true,()) else bif decide ((0:Int)<(k:Int)) then (Cnd.idx (IntKind.wrap .i64 ((k:Int) - 1)) (deeps l k).length).run (some (l,n,deeps l k,(k:Int),(1:Int),decide (rd (deeps l k) (IntKind.wrap .i64 ((k:Int) - 1)) (0:Int)=0),())) else some (l,n,deeps l k,(k:Int),(1:Int),false,())) =
  some (l,n,deeps l k,(k:Int),(1:Int),!(nodeOk l (k:Int) && (decide (k=0) || decide (rd (deeps l k) ((k:Int) - 1) (0:Int)≠0))),()):=by
  cases nodeOk l (k:Int)
  ·rfl
  by_cases hz:k=0
  ·subst hz;rfl
  ·rw [wrap64 (show -9223372036854775808≤(k:Int) - 1 by omega) (by omega),idx_range (show 0≤(k:Int) - 1∧(k:Int) - 1<((deeps l k).length:Int) by omega)]
   rw [decide_eq_true (show(0:Int)<(k:Int) by omega),decide_eq_false hz]
   generalize rd (deeps l k) ((k:Int) - 1) (0:Int)=v
   by_cases hr:v=0<;>simp [hr]
 rw [e1,joinP_some]
 cases hc:nodeOk l (k:Int) && (decide (k=0) || decide (rd (deeps l k) ((k:Int) - 1) (0:Int)≠0))
 ·have hd:dAt l k=0:=by unfold dAt dNext;rw [hc];rfl
  simp only [Bool.not_false,cond_true,joinP_some,h1,Option.bind_some,show ¬ ((10:Int)<0) by decide,decide_false,cond_false,push_run hl hk,Option.map_some,wi,e0,hd]
 ·have hok:nodeOk l (k:Int)=true:=by
   rw [Bool.and_eq_true] at hc;exact hc.1
  have hd:dAt l k=dCut (dKids (deeps l k) l[k]):=by unfold dAt dNext;rw [hc,rd_nat hk];rfl
  simp only [Bool.not_true,cond_false,joinP_some,Option.bind_some,deep_innerS l hl n k hk hok,push_run hl hk,Option.map_some,wi,e0,hd,dCut]
  cases decide ((10:Int)<dKids (deeps l k) l[k])<;>simp only [cond_true,cond_false,joinP_some,push_run hl hk,Option.map_some,wi]
def deepAt (l:List NODE) (n:Int):Int:=bif decide (0≤n∧n≤(l.length:Int) - 1) then dAt l n.toNat else 0
theorem spec_Deeps_ok (l:List NODE) (hl:FineN l) (k:Nat) (hk:k<l.length):spec_l04Deeps l (k:Int)=some (deeps l (k+1),()):=by
 have h:=loopF_reach (step:=L2_spec_l04Deeps) (fun j=>(l,(k:Int),deeps l j,(j:Int),())) (k+1) (fun j hj=>deep_roundS l hl k j (by omega) (by omega))
 have h2:loopF L2_spec_l04Deeps (l,(k:Int),deeps l (k+1),((k+1:Nat):Int),())=some (deeps l (k+1),()):=loopF_inr (by
  simp only [L2_spec_l04Deeps,show ¬ (((k+1:Nat):Int)≤(k:Int)) by omega,decide_false,cond_false,joinP_some,Option.map_some])
 have h3:loopF L2_spec_l04Deeps (l,(k:Int),[],(0:Int),())=some (deeps l (k+1),()):=h.trans h2
 simp only [spec_l04Deeps,Option.bind_some,h3,joinP_some]
theorem deepAt_pos {l:List NODE} {n:Int} (h:(0:Int)<deepAt l n):(0≤n∧n<(l.length:Int))∧nodeOk l n=true∧∀ m,0≤m→m≤n→(0:Int)<deepAt l m:=by
 unfold deepAt at h
 by_cases hr:0≤n∧n≤(l.length:Int) - 1
 case neg=>simp [hr] at h
 rw [decide_eq_true hr,cond_true] at h
 refine⟨by omega,?_,fun m h0 hm=>?_⟩
 ·have:=dAt_ok (l:=l) (k:=n.toNat) (by omega)
  rwa [show((n.toNat:Nat):Int)=n by omega] at this
 ·unfold deepAt
  rw [decide_eq_true (by omega),cond_true]
  have h1:=dAt_le l m.toNat
  by_cases hz:dAt l m.toNat=0
  ·have:=dAt_zero l m.toNat n.toNat (by omega) hz
   omega
  ·omega
end Go.Proofs.YtmakhmoielhjeaaGreatDoorE
namespace Go.Proofs.YtmakhmoielhjeaaGreatDoorE
set_option linter.all false
set_option maxRecDepth 100000
abbrev zF:FN:=((⟨#[]⟩:ByteArray),([],((0:Int),((0:Int),(0:Int)))))
structure FineP (c:PROG):Prop where
 n:FineN c.1
 f:c.2.length≤1048576
 a:∀ w∈c.2,(w:FN).2.1.length≤1048576
theorem in_ok {l:List NODE} {n:Int} (h:deepAt l n≠0):(0:Int)<deepAt l n:=by
 have:0≤deepAt l n:=by
  unfold deepAt
  cases decide (0≤n∧n≤(l.length:Int) - 1)
  ·exact Int.le_refl 0
  ·exact(dAt_le l _).1
 omega
end Go.Proofs.YtmakhmoielhjeaaGreatDoorE
namespace Go.Proofs.YtmakhmoielhjeaaGreatDoorE
set_option linter.all false
set_option maxRecDepth 100000
theorem loopF_find {α β D:Type} {step:β→Option (β ⊕ α)} (l:List D) (q:D→Bool) (S:Nat→β) (rt:Nat→α) (rf:α) (H:∀ k (h:k<l.length),step (S k)=bif q l[k] then some (.inr (rt k)) else some (.inl (S (k+1)))) (He:step (S l.length)=some (.inr rf)):
 loopF step (S 0)=some (match l.findIdx? q with | some i=>rt i | none=>rf):=by
 have key:∀ m k,k+m=l.length→loopF step (S k)=some (match (l.drop k).findIdx? q with | some i=>rt (k+i) | none=>rf):=by
  intro m
  induction m with
  | zero=>
   intro k hk
   obtain rfl:k=l.length:=by omega
   rw [loopF_inr He,List.drop_length];rfl
  | succ m ih=>
   intro k hk
   have hkl:k<l.length:=by omega
   have h1:=H k hkl
   rw [List.drop_eq_getElem_cons hkl,List.findIdx?_cons]
   cases hq:q l[k]
   ·rw [hq,cond_false] at h1
    rw [loopF_inl h1,ih (k+1) (by omega)]
    cases hf:(l.drop (k+1)).findIdx? q with
    | none=>simp [hf]
    | some i=>simp [hf,Nat.add_assoc,Nat.add_comm 1 i]
   ·rw [hq,cond_true] at h1
    rw [loopF_inr h1];simp
 have:=key l.length 0 (by omega)
 rw [List.drop_zero] at this
 rw [this]
 cases l.findIdx? q<;>simp
def fnAt (l:List FN) (s:ByteArray):Int:=match l.findIdx? (fun f=>decide (f.1=s)) with
 | some i=>(i:Int)
 | none=>-1
theorem spec_FnAt_ok (p:PROG) (hp:FineP p) (s:ByteArray):spec_FnAt p s=some (fnAt p.2 s,()):=by
 have hl:=hp.f
 have h:=loopF_find (step:=L1_spec_FnAt) p.2 (fun f=>decide (f.1=s)) (fun k=>(s,(k:Int),p,())) (fun k=>.inr ((k:Int),())) (.inl ()) (fun k hk=>by
  simp only [L1_spec_FnAt,lt_cast hk,decide_true,cond_true,idx_run hk,rd_nat hk,wrapSucc (show k<9223372036854775807 by omega)]
  cases decide (p.2[k].1=s)<;>rfl) (by
  simp only [L1_spec_FnAt,not_lt_self,decide_false,cond_false,Option.map_some])
 have h':loopF L1_spec_FnAt (s,(0:Int),p,())=_:=h
 simp only [spec_FnAt,Option.bind_some,h',fnAt]
 cases p.2.findIdx? fun f=>decide (f.1=s)<;>rfl
end Go.Proofs.YtmakhmoielhjeaaGreatDoorE
namespace Go.Proofs.YtmakhmoielhjeaaGreatDoorE
set_option linter.all false
set_option maxRecDepth 100000
def tb (n:Nat) (f:Nat→Int):List Int:=(List.range n).map f
theorem tb_len (n:Nat) (f:Nat→Int):(tb n f).length=n:=by simp [tb]
theorem tb_rd {n:Nat} {f:Nat→Int} {k:Nat} (h:k<n):rd (tb n f) (k:Int) (0:Int)=f k:=by
 rw [rd_nat (by rw [tb_len];exact h)]
 simp [tb]
def upd (f:Nat→Int) (k:Nat) (v:Int):Nat→Int:=fun t=>if t=k then v else f t
theorem tb_set {n:Nat} {f:Nat→Int} {k:Nat} (h:k<n) (v:Int):(tb n f).set k v=tb n (upd f k v):=by
 apply List.ext_getElem
 ·rw [List.length_set,tb_len,tb_len]
 ·intro i h1 h2
  rw [List.getElem_set]
  simp only [tb,List.getElem_map,List.getElem_range,upd]
  by_cases e:k=i
  ·rw [if_pos e,if_pos e.symm]
  ·rw [if_neg e,if_neg (fun h=>e h.symm)]
theorem tb_rep (n:Nat):List.replicate n (0:Int)=tb n (fun _=>0):=by
 apply List.ext_getElem
 ·rw [List.length_replicate,tb_len]
 ·intro i h1 h2;simp [tb]
def cnO:List Int→Nat→Nat
 | [],_=>0
 | y::l,t=>(bif decide (y=(t:Int)) then 1 else 0)+cnO l t
theorem cn_app (a b:List Int) (t:Nat):cnO (a++b) t=cnO a t+cnO b t:=by
 induction a with
 | nil=>simp [cnO]
 | cons y a ih=>simp only [List.cons_append,cnO,ih];omega
theorem cn_le (l:List Int) (t:Nat):cnO l t≤l.length:=by
 induction l with
 | nil=>exact Nat.le_refl _
 | cons y l ih=>
  simp only [cnO,List.length_cons]
  cases decide (y=(t:Int))<;>simp only [cond_true,cond_false]<;>omega
def bump (f:Nat→Int) (y:Int):Nat→Int:=upd f y.toNat (f y.toNat+1)
theorem bump_eq (f:Nat→Int) {y:Int} (hy:0≤y) (t:Nat):bump f y t=f t+(bif decide (y=(t:Int)) then 1 else 0):=by
 unfold bump upd
 by_cases e:t=y.toNat
 ·have:y=(t:Int):=by omega
  rw [if_pos e,decide_eq_true this,cond_true,e]
 ·have:¬ y=(t:Int):=by omega
  rw [if_neg e,decide_eq_false this,cond_false];omega
theorem bumps (ks:List Int) (hk:∀ y∈ks,(0:Int)≤y):∀ f:Nat→Int,ks.foldl bump f=fun t=>f t+(cnO ks t:Int):=by
 induction ks with
 | nil=>intro f;funext t;simp [cnO]
 | cons y ks ih=>
  intro f
  rw [List.foldl_cons,ih (fun z hz=>hk z (List.mem_cons_of_mem _ hz))]
  funext t
  rw [bump_eq f (hk y (List.mem_cons_self ..)) t]
  simp only [cnO]
  cases decide (y=(t:Int))<;>simp only [cond_true,cond_false]<;>omega
def us:List NODE→Nat→Nat
 | [],_=>0
 | x::l,t=>cnO x.2.2.2 t+us l t
theorem us_app (a b:List NODE) (t:Nat):us (a++b) t=us a t+us b t:=by
 induction a with
 | nil=>simp [us]
 | cons y a ih=>simp only [List.cons_append,us,ih];omega
structure Kd (l:List NODE):Prop where
 k:∀ x∈l,∀ y∈(x:NODE).2.2.2,(0:Int)≤y∧y<(l.length:Int)
def BI (B:Int) (f:Nat→Int):Prop:=∀ t,0≤f t∧f t≤B
theorem BI.bump {B:Int} {f:Nat→Int} (h:BI B f) {y:Int} (hy:0≤y):BI (B+1) (bump f y):=by
 intro t
 rw [bump_eq f hy t]
 have:=h t
 cases decide (y=(t:Int))<;>simp only [cond_true,cond_false]<;>omega
theorem used_in (l:List NODE) (hl:FineN l) (hk:Kd l) (i:Nat) (hi:i<l.length) (f:Nat→Int) {B:Int} (hB:B≤1000000000000) (hf:BI B f):
 loopF L1_spec_l04Used (l,tb l.length f,(i:Int),(0:Int),())=some (l,tb l.length (l[i].2.2.2.foldl bump f),(i:Int),()):=by
 have hx:=hl.kid _ (List.getElem_mem hi)
 have hkk:=hk.k _ (List.getElem_mem hi)
 have hr:rd l (i:Int) zN=l[i]:=rd_nat hi
 generalize l[i]=x at hx hkk hr
 have h:=loopF_fold (step:=L1_spec_l04Used) x.2.2.2 bump (fun j f=>(l,tb l.length f,(i:Int),(j:Int),())) (fun f=>(l,tb l.length f,(i:Int),())) (fun j f=>BI (B+(j:Int)) f) (fun j hj f hf=>by
  obtain⟨h1,h2⟩:=hkk _ (List.getElem_mem hj)
  refine⟨?_,by rw [show B+((j+1:Nat):Int)=B+(j:Int)+1 by omega];exact hf.bump h1⟩
  have wj:=wrapSucc (show j<9223372036854775807 by omega)
  obtain⟨y,hy⟩:∃ y:Nat,x.2.2.2[j]=(y:Int):=⟨x.2.2.2[j].toNat,by omega⟩
  rw [hy] at h2 ⊢
  have hyl:y<l.length:=by omega
  have hyt:y<(tb l.length f).length:=by rw [tb_len];exact hyl
  have hb:=hf y
  simp only [L1_spec_l04Used,idx_run hi,hr,lt_cast hj,decide_true,cond_true,idx_run hj,rd_nat hj,hy,idx_run hyt,tb_rd hyl,Int.toNat_natCast,tb_set hyl,bindD,Option.map_some,wj,wrap64 (show -9223372036854775808≤f y+1 by omega) (show f y+1<9223372036854775808 by omega),bump]) (fun f hf=>by
  simp only [L1_spec_l04Used,idx_run hi,hr,not_lt_self,decide_false,cond_false,Option.map_some]) f (by simpa using hf)
 exact h.1
def bumpN (f:Nat→Int) (x:NODE):Nat→Int:=x.2.2.2.foldl bump f
theorem bumpN_eq (f:Nat→Int) (x:NODE) (hx:∀ y∈x.2.2.2,(0:Int)≤y):bumpN f x=fun t=>f t+(cnO x.2.2.2 t:Int):=bumps _ hx f
theorem bumpNs (l:List NODE) (hk:∀ x∈l,∀ y∈(x:NODE).2.2.2,(0:Int)≤y):∀ f:Nat→Int,l.foldl bumpN f=fun t=>f t+(us l t:Int):=by
 induction l with
 | nil=>intro f;funext t;simp [us]
 | cons x l ih=>
  intro f
  rw [List.foldl_cons,ih (fun z hz=>hk z (List.mem_cons_of_mem _ hz)),bumpN_eq f x (hk x (List.mem_cons_self ..))]
  funext t
  simp only [us];omega
theorem BI.bumpN {B:Int} {f:Nat→Int} (h:BI B f) {x:NODE} (hx:∀ y∈x.2.2.2,(0:Int)≤y) (hl:x.2.2.2.length≤1048576):BI (B+1048576) (bumpN f x):=by
 intro t
 rw [bumpN_eq f x hx]
 have:=h t
 have:=cn_le x.2.2.2 t
 simp only;omega
def U (l:List NODE):Nat→Int:=fun t=>(us l t:Int)
theorem usedS (l:List NODE) (hl:FineN l) (hk:Kd l) (h300:l.length≤300):spec_l04Used l=some (tb l.length (U l),()):=by
 have h:=loopF_fold (step:=L2_spec_l04Used) l bumpN (fun i f=>(l,tb l.length f,(i:Int),())) (fun f=>(tb l.length f,())) (fun i f=>BI ((i:Int) * 1048576) f) (fun i hi f hf=>by
  have hx:=hl.kid _ (List.getElem_mem hi)
  have hkk:=hk.k _ (List.getElem_mem hi)
  refine⟨?_,by rw [show((i+1:Nat):Int) * 1048576=(i:Int) * 1048576+1048576 by omega];exact hf.bumpN (fun y hy=>(hkk y hy).1) hx⟩
  simp only [L2_spec_l04Used,lt_cast hi,decide_true,cond_true,Option.bind_some,used_in l hl hk i hi f (show(i:Int) * 1048576≤1000000000000 by omega) hf,joinP_some,Option.map_some,wrapSucc (show i<9223372036854775807 by omega),bumpN]) (fun f hf=>by
  simp only [L2_spec_l04Used,not_lt_self,decide_false,cond_false,Option.map_some]) (fun _=>0) (fun t=>by simp)
 have h1:=h.1
 rw [bumpNs l (fun x hx y hy=>(hk.k x hx y hy).1)] at h1
 have h':loopF L2_spec_l04Used (l,List.replicate l.length (0:Int),(0:Int),())=some (tb l.length (U l),()):=by
  rw [tb_rep]
  refine h1.trans ?_
  have:(fun t=>(0:Int)+(us l t:Int))=U l:=by funext t;simp [U]
  rw [this]
 have hb:∀ {α:Type} {K:Option α},(Cnd.both (Cnd.nn (l.length:Int)) (Cnd.le (l.length * 8) 140737488355328)).run K=K:=fun {α} {K}=>by
  simp only [Cnd.run]
  rw [if_pos (by omega),if_pos (by omega)]
 simp only [spec_l04Used,Int.toNat_natCast,hb,Option.bind_some,h',joinP_some]
end Go.Proofs.YtmakhmoielhjeaaGreatDoorE
namespace Go.Proofs.YtmakhmoielhjeaaGreatDoorE
set_option linter.all false
set_option maxRecDepth 100000
def parOk (q:ByteArray×Int):Bool:=nameOk q.1 && decide (1≤q.2∧q.2≤4)
def pars (x:FN):Bool:=x.2.1.all parOk
def bodyOk (l:List NODE) (x:FN):Bool:=decide (0≤x.2.2.2.1∧x.2.2.2.1≤(l.length:Int) - 1) && decide ((rd l x.2.2.2.1 zN).1=20)
def retOk (l:List NODE) (x:FN):Bool:=bif decide (x.2.2.1=0) then decide (x.2.2.2.2 = -1) else decide (0≤x.2.2.2.2∧x.2.2.2.2≤(l.length:Int) - 1) && decide (1≤(rd l x.2.2.2.2 zN).1∧(rd l x.2.2.2.2 zN).1≤12)
def fnI (l:List NODE) (x:FN):Bool:=nameOk x.1 && (decide ((x.2.1.length:Int)≤3) && (decide (0≤x.2.2.1∧x.2.2.1≤2) && (pars x && (bodyOk l x && retOk l x))))
def fokB (p:PROG) (i:Int):Bool:=fnI p.1 (rd p.2 i zF) && decide (fnAt p.2 (rd p.2 i zF).1=i)
theorem parsS (p:PROG) (x:FN) (hx:x.2.1.length≤1048576):loopF L1_spec_l04Fn ((0:Int),p,x,())=some (bif pars x then .inl (p,x,()) else .inr (false,())):=by
 exact loopF_all (step:=L1_spec_l04Fn) x.2.1 parOk (fun k=>((k:Int),p,x,())) (.inl (p,x,())) (.inr (false,())) (fun k hk=>by
  have wk:=wrapSucc (show k<9223372036854775807 by omega)
  simp only [L1_spec_l04Fn,lt_cast hk,decide_true,cond_true,idx_run hk,rd_nat hk,spec_NameOk_ok,sIn,Option.bind_some,parOk]
  cases nameOk x.2.1[k].1
  ·simp only [Bool.not_false,cond_true,joinP_some,Option.map_some,Bool.false_and,cond_false]
  ·cases decide (1≤x.2.1[k].2∧x.2.1[k].2≤4)<;>simp only [Bool.not_true,Bool.not_false,cond_true,cond_false,joinP_some,Option.map_some,Bool.and_self,Bool.and_false,wk]) (by
  simp only [L1_spec_l04Fn,not_lt_self,decide_false,cond_false,Option.map_some])
theorem spec_Fn_ok (p:PROG) (hp:FineP p) (i:Nat) (hi:i<p.2.length):spec_l04Fn p (i:Int)=some (fokB p (i:Int),()):=by
 unfold spec_l04Fn fokB fnI
 have hx:=hp.a _ (List.getElem_mem hi)
 rw [idx_run hi]
 have hr:rd p.2 (i:Int) zF=p.2[i]:=rd_nat hi
 rw [hr]
 generalize p.2[i]=x at hx
 have e:((spec_NameOk x.1).bind fun y1=>bif !y1.1 then some (true,p,x,()) else (spec_FnAt p x.1).bind fun y2=>bif decide (y2.1≠(i:Int)) then some (true,p,x,()) else bif decide ((3:Int)<(x.2.1.length:Int)) then some (true,p,x,()) else (spec_l01In x.2.2.1 (0:Int) (2:Int)).bind fun y3=>some (!y3.1,p,x,())) =
  some (!(nameOk x.1 && (decide (fnAt p.2 x.1=(i:Int)) && (decide ((x.2.1.length:Int)≤3) && decide (0≤x.2.2.1∧x.2.2.1≤2)))),p,x,()):=by
  simp only [spec_NameOk_ok,spec_FnAt_ok p hp,sIn,Option.bind_some]
  cases nameOk x.1
  ·rfl
  by_cases h2:fnAt p.2 x.1=(i:Int)
  ·by_cases h3:(3:Int)<(x.2.1.length:Int)
   ·simp only [h2,h3,show ¬ ((x.2.1.length:Int)≤3) by omega,ne_eq,not_true_eq_false,decide_true,decide_false,cond_true,cond_false,Bool.not_true,Bool.false_and,Bool.and_false,Bool.not_false]
   ·simp only [h2,h3,show((x.2.1.length:Int)≤3) by omega,ne_eq,not_true_eq_false,decide_true,decide_false,cond_false,Bool.not_true,Bool.true_and]
  ·simp only [h2,ne_eq,not_false_eq_true,decide_true,decide_false,cond_true,cond_false,Bool.not_true,Bool.false_and,Bool.and_false,Bool.not_false]
 rw [e,joinP_some]
 cases hA:nameOk x.1
 ·simp only [Bool.false_and,Bool.not_false,cond_true]
 cases hB:decide (fnAt p.2 x.1=(i:Int))
 ·simp only [Bool.false_and,Bool.and_false,Bool.not_false,cond_true]
 cases hC:decide ((x.2.1.length:Int)≤3)
 ·simp only [Bool.false_and,Bool.and_false,Bool.not_false,cond_true]
 cases hD:decide (0≤x.2.2.1∧x.2.2.1≤2)
 ·simp only [Bool.false_and,Bool.and_false,Bool.not_false,cond_true]
 simp only [Bool.and_self,Bool.not_true,cond_false,Option.bind_some,parsS p x hx,Bool.true_and,Bool.and_true]
 cases hP:pars x
 ·simp only [cond_false,joinS_inr,Bool.false_and]
 simp only [cond_true,joinS_inl,Bool.true_and,lenm1 hp.n.len,sIn,Option.bind_some,spec_l04Value,bodyOk,retOk]
 by_cases hb:0≤x.2.2.2.1∧x.2.2.2.1≤(p.1.length:Int) - 1
 ·simp only [hb,and_self,decide_true,Bool.not_true,cond_false,idx_range (show 0≤x.2.2.2.1∧x.2.2.2.1<(p.1.length:Int) by omega),joinP_some,Bool.true_and]
  by_cases h20:(rd p.1 x.2.2.2.1 zN).1=20
  ·simp only [h20,ne_eq,not_true_eq_false,decide_true,decide_false,cond_false,Bool.true_and]
   cases decide (x.2.2.1=0)
   ·simp only [cond_false]
    by_cases hc:0≤x.2.2.2.2∧x.2.2.2.2≤(p.1.length:Int) - 1
    ·simp only [lenm1 hp.n.len,hc,and_self,decide_true,cond_true,idx_range (show 0≤x.2.2.2.2∧x.2.2.2.2<(p.1.length:Int) by omega),joinP_some,Bool.true_and]
    ·simp only [lenm1 hp.n.len,hc,decide_false,cond_false,joinP_some,Bool.false_and]
   ·simp only [cond_true]
  ·simp only [h20,ne_eq,not_false_eq_true,decide_true,decide_false,cond_true,Bool.false_and]
 ·simp only [hb,decide_false,Bool.not_false,cond_true,joinP_some,Bool.false_and]
end Go.Proofs.YtmakhmoielhjeaaGreatDoorE
namespace Go.Proofs.YtmakhmoielhjeaaGreatDoorE
set_option linter.all false
set_option maxRecDepth 100000
def runc {γ D:Type} (q:γ→D→Bool) (g:γ→D→γ):List D→γ→Option γ
 | [],c=>some c
 | x::l,c=>bif q c x then runc q g l (g c x) else none
theorem loopF_run {α β γ D:Type} {step:β→Option (β ⊕ α)} (l:List D) (q:γ→D→Bool) (g:γ→D→γ) (S:Nat→γ→β) (r:γ→α) (rf:α) (I:Nat→γ→Prop)
 (H:∀ k (h:k<l.length) c,I k c→(step (S k c)=bif q c l[k] then some (.inl (S (k+1) (g c l[k]))) else some (.inr rf))∧(q c l[k]=true→I (k+1) (g c l[k])))
 (He:∀ c,I l.length c→step (S l.length c)=some (.inr (r c))) (c:γ) (hc:I 0 c):
 loopF step (S 0 c)=some ((runc q g l c).elim rf r):=by
 have key:∀ m k c,k+m=l.length→I k c→loopF step (S k c)=some ((runc q g (l.drop k) c).elim rf r):=by
  intro m
  induction m with
  | zero=>
   intro k c hk hI
   obtain rfl:k=l.length:=by omega
   rw [loopF_inr (He c hI),List.drop_length];rfl
  | succ m ih=>
   intro k c hk hI
   have hkl:k<l.length:=by omega
   obtain⟨h1,h2⟩:=H k hkl c hI
   rw [List.drop_eq_getElem_cons hkl,runc]
   cases hq:q c l[k]
   ·rw [hq,cond_false] at h1
    rw [loopF_inr h1];rfl
   ·rw [hq,cond_true] at h1
    rw [loopF_inl h1,ih (k+1) _ (by omega) (h2 hq)];rfl
 have:=key l.length 0 c (by omega) hc
 rwa [List.drop_zero] at this
theorem range_rd {α:Type} (l:List α) (z:α):(List.range l.length).map (fun(i:Nat)=>rd l (i:Int) z)=l:=by
 apply List.ext_getElem
 ·simp
 ·intro i h1 h2
  rw [List.getElem_map,List.getElem_range,rd_nat h2]
def roots (x:FN):List Int:=x.2.2.2.1::bif decide (0≤x.2.2.2.2) then [x.2.2.2.2] else []
def rootsL:List FN→List Int
 | []=>[]
 | x::l=>roots x++rootsL l
def add (f:Nat→Int) (y:Int):Nat→Int:=upd f y.toNat (f y.toNat+1000)
theorem adds (rs:List Int) (hr:∀ y∈rs,(0:Int)≤y):∀ f:Nat→Int,rs.foldl add f=fun t=>f t+1000 * (cnO rs t:Int):=by
 induction rs with
 | nil=>intro f;funext t;simp [cnO]
 | cons y rs ih=>
  intro f
  rw [List.foldl_cons,ih (fun z hz=>hr z (List.mem_cons_of_mem _ hz))]
  funext t
  have hy:=hr y (List.mem_cons_self ..)
  simp only [add,upd,cnO]
  by_cases e:t=y.toNat
  ·have:y=(t:Int):=by omega
   rw [if_pos e,decide_eq_true this,cond_true,← e];omega
  ·have:¬ y=(t:Int):=by omega
   rw [if_neg e,decide_eq_false this,cond_false];omega
theorem fok_roots {p:PROG} {i:Int} (h:fokB p i=true):∀ y∈roots (rd p.2 i zF),(0:Int)≤y∧y<(p.1.length:Int):=by
 simp only [fokB,fnI,bodyOk,Bool.and_eq_true,decide_eq_true_eq] at h
 obtain⟨⟨_,_,_,_,⟨hb,_⟩,hr⟩,_⟩:=h
 intro y hy
 unfold roots at hy
 rcases List.mem_cons.1 hy with rfl | hy
 ·omega
 ·cases hd:decide ((0:Int)≤(rd p.2 i zF).2.2.2.2)
  ·rw [hd,cond_false] at hy;cases hy
  ·rw [hd,cond_true] at hy
   obtain rfl:=List.mem_singleton.1 hy
   have hd:=of_decide_eq_true hd
   unfold retOk at hr
   cases h0:decide ((rd p.2 i zF).2.2.1=0)
   ·rw [h0,cond_false,Bool.and_eq_true,decide_eq_true_eq] at hr
    omega
   ·rw [h0,cond_true,decide_eq_true_eq] at hr
    omega
def allF (p:PROG):Bool:=(List.range p.2.length).all fun i=>fokB p (i:Int)
def gS (p:PROG) (f:Nat→Int) (i:Nat):Nat→Int:=(roots (rd p.2 (i:Int) zF)).foldl add f
theorem runc_const {γ D:Type} (q:D→Bool) (g:γ→D→γ):∀ (l:List D) (c:γ),runc (fun _ x=>q x) g l c=bif l.all q then some (l.foldl g c) else none
 | [],c=>rfl
 | x::l,c=>by
  simp only [runc,List.all_cons,List.foldl_cons]
  cases q x
  ·rfl
  ·simp only [cond_true,Bool.true_and];exact runc_const q g l _
theorem foldl_roots (p:PROG):∀ (l:List FN) (f:Nat→Int),l.foldl (fun f x=>(roots x).foldl add f) f=(rootsL l).foldl add f
 | [],f=>rfl
 | x::l,f=>by
  simp only [List.foldl_cons,rootsL,List.foldl_append]
  exact foldl_roots p l _
theorem gS_all (p:PROG) (f:Nat→Int):(List.range p.2.length).foldl (gS p) f=(rootsL p.2).foldl add f:=by
 have h:=List.foldl_map (f:=fun i:Nat=>rd p.2 (i:Int) zF) (g:=fun(f:Nat→Int) x=>(roots x).foldl add f) (l:=List.range p.2.length) (init:=f)
 rw [range_rd] at h
 rw [foldl_roots p] at h
 exact h.symm
theorem fnsS (p:PROG) (hp:FineP p) (f:Nat→Int) (hf:BI 1000000000 f):
 loopF L1_spec_ProgramOk (tb p.1.length f,(0:Int),p,())=some (bif allF p then .inl (tb p.1.length ((rootsL p.2).foldl add f),()) else .inr (false,())):=by
 have hl:=hp.f
 have hr:(List.range p.2.length).length=p.2.length:=List.length_range
 have h:=loopF_run (step:=L1_spec_ProgramOk) (List.range p.2.length) (fun _ (i:Nat)=>fokB p (i:Int)) (gS p) (fun i f=>(tb p.1.length f,(i:Int),p,())) (fun f=>.inl (tb p.1.length f,())) (.inr (false,())) (fun k f=>BI (1000000000+(k:Int) * 2000) f) (fun k hk f hf=>by
  have hk':k<p.2.length:=by omega
  rw [List.getElem_range]
  have wk:=wrapSucc (show k<9223372036854775807 by omega)
  refine⟨?_,fun hq=>?_⟩
  ·simp only [L1_spec_ProgramOk,lt_cast hk',decide_true,cond_true,spec_Fn_ok p hp k hk',Option.bind_some,idx_run hk']
   cases hq:fokB p (k:Int)
   ·simp only [Bool.not_false,cond_true,cond_false,Option.map_some]
   ·have hro:=fok_roots hq
    simp only [Bool.not_true,cond_false,cond_true,gS]
    generalize rd p.2 (k:Int) zF=x at hro
    obtain⟨b0,b1⟩:=hro x.2.2.2.1 (List.mem_cons_self ..)
    obtain⟨b,hb⟩:∃ b:Nat,x.2.2.2.1=(b:Int):=⟨x.2.2.2.1.toNat,by omega⟩
    have hbl:b<p.1.length:=by omega
    have hbt:b<(tb p.1.length f).length:=by rw [tb_len];exact hbl
    have hfb:=hf b
    have w1:IntKind.wrap .i64 (f b+1000)=f b+1000:=wrap64 (by omega) (by omega)
    by_cases hc:(0:Int)≤x.2.2.2.2
    ·obtain⟨c0,c1⟩:=hro x.2.2.2.2 (by unfold roots;rw [decide_eq_true hc];simp)
     obtain⟨c,hcc⟩:∃ c:Nat,x.2.2.2.2=(c:Int):=⟨x.2.2.2.2.toNat,by omega⟩
     have hcl:c<p.1.length:=by omega
     have hct:∀ f,c<(tb p.1.length f).length:=fun f=>by rw [tb_len];exact hcl
     have hfc:=hf c
     have hu:0≤upd f b (f b+1000) c∧upd f b (f b+1000) c≤2000000000000:=by
      unfold upd;split<;>omega
     have w2:IntKind.wrap .i64 (upd f b (f b+1000) c+1000)=upd f b (f b+1000) c+1000:=wrap64 (by omega) (by omega)
     simp only [hb,hcc,idx_run hbt,tb_rd hbl,w1,Int.toNat_natCast,tb_set hbl,bindD,show(0:Int)≤(c:Int) by omega,decide_true,cond_true,idx_run (hct _),tb_rd hcl,w2,tb_set hcl,joinP_some,Option.map_some,wk,roots,List.foldl_cons,List.foldl_nil,add]
    ·simp only [hb,hc,idx_run hbt,tb_rd hbl,w1,Int.toNat_natCast,tb_set hbl,bindD,decide_false,cond_false,joinP_some,Option.map_some,wk,roots,List.foldl_cons,List.foldl_nil,add]
  ·have hro:=fok_roots hq
   unfold gS
   rw [adds _ (fun y hy=>(hro y hy).1)]
   intro t
   have h1:=hf t
   have h2:=cn_le (roots (rd p.2 (k:Int) zF)) t
   have h3:(roots (rd p.2 (k:Int) zF)).length≤2:=by
    unfold roots
    cases decide ((0:Int)≤(rd p.2 (k:Int) zF).2.2.2.2)<;>simp
   simp only
   omega) (fun f hf=>by
  rw [hr]
  simp only [L1_spec_ProgramOk,not_lt_self,decide_false,cond_false,Option.map_some]) f (by simpa using hf)
 have h':loopF L1_spec_ProgramOk (tb p.1.length f,(0:Int),p,())=_:=h
 rw [h',runc_const,gS_all]
 unfold allF
 cases (List.range p.2.length).all fun i=>fokB p (i:Int)<;>rfl
def good (b:Int) (l:List Int):Bool:=l.all fun v=>decide (v=1) || decide (v=b)
theorem goodS (l:List Int) (hl:l.length≤1048576):loopF L2_spec_ProgramOk (l,(0:Int),())=some (bif good 1000 l then .inl () else .inr (false,())):=by
 exact loopF_all (step:=L2_spec_ProgramOk) l (fun v=>decide (v=1) || decide (v=1000)) (fun k=>(l,(k:Int),())) (.inl ()) (.inr (false,())) (fun k hk=>by
  have wk:=wrapSucc (show k<9223372036854775807 by omega)
  simp only [L2_spec_ProgramOk,lt_cast hk,decide_true,cond_true,idx_run hk,rd_nat hk]
  generalize l[k]=v
  by_cases h1:v=1
  ·simp only [h1,ne_eq,not_true_eq_false,decide_false,decide_true,cond_false,joinP_some,Option.map_some,wk,Bool.true_or,cond_true]
  ·by_cases h2:v=1000
   ·simp only [h2,show ¬ ((1000:Int)=1) by decide,ne_eq,not_true_eq_false,not_false_eq_true,decide_false,decide_true,cond_false,cond_true,joinP_some,Option.map_some,wk,Bool.or_true]
   ·simp only [h1,h2,ne_eq,not_false_eq_true,decide_false,decide_true,cond_false,cond_true,joinP_some,Option.map_some,Bool.or_self]) (by
  simp only [L2_spec_ProgramOk,not_lt_self,decide_false,cond_false,Option.map_some])
end Go.Proofs.YtmakhmoielhjeaaGreatDoorE
namespace Go.Proofs.YtmakhmoielhjeaaGreatDoorE
set_option linter.all false
set_option maxRecDepth 100000
theorem cn_hasI:∀ (l:List Int) (n:Int) (t:Nat),hasI l n=false→n=(t:Int)→cnO l t=0
 | [],_,_,_,_=>rfl
 | y::l,n,t,h,e=>by
  simp only [hasI,List.any_cons,Bool.or_eq_false_iff] at h
  have h1:decide (y=(t:Int))=false:=by rw [← e];exact h.1
  simp only [cnO,h1,cond_false,cn_hasI l n t h.2 e]
theorem kids_one {l:List NODE} {k:Int} (h:nodeOk l k=true) (t:Nat):cnO (rd l k zN).2.2.2 t≤1:=by
 simp only [nodeOk,nodeBody,kidsOk,Bool.and_eq_true,List.all_eq_true] at h
 have hd:=h.2.2.2.2.2
 generalize rd l k zN=x at hd
 have key:∀ i,i≤x.2.2.2.length→cnO (x.2.2.2.take i) t≤1:=by
  intro i
  induction i with
  | zero=>intro _;simp [cnO]
  | succ i ih=>
   intro hi
   have hi':i<x.2.2.2.length:=by omega
   have:=hd i (by simpa using hi')
   simp only [kidOk,Bool.and_eq_true,Bool.not_eq_true'] at this
   have hh:=this.2.2
   have e:x.2.2.2.getD i 0=x.2.2.2[i]:=by simp [hi']
   rw [e] at hh
   rw [List.take_succ_eq_append_getElem hi',cn_app]
   by_cases et:x.2.2.2[i]=(t:Int)
   ·rw [cn_hasI _ _ t hh et]
    simp only [cnO,decide_eq_true et,cond_true];omega
   ·simp only [cnO,decide_eq_false et,cond_false]
    have:=ih (by omega)
    omega
 have:=key x.2.2.2.length (Nat.le_refl _)
 rwa [List.take_length] at this
def AllN (l:List NODE):Prop:=∀ k:Nat,k<l.length→nodeOk l (k:Int)=true∧dAt l k≠0
theorem alln_of {l:List NODE} (h:(0:Int)<deepAt l ((l.length:Int) - 1)):AllN l:=fun k hk=>by
 obtain⟨h1,h2,h3⟩:=deepAt_pos h
 have h4:=h3 (k:Int) (by omega) (by omega)
 refine⟨(deepAt_pos h4).2.1,?_⟩
 unfold deepAt at h4
 rw [decide_eq_true (by omega),cond_true,Int.toNat_natCast] at h4
 omega
theorem AllN.kd {l:List NODE} (h:AllN l):Kd l:=⟨fun x hx y hy=>by
 obtain⟨k,hk,rfl⟩:=List.getElem_of_mem hx
 have h1:=kid_mem (h k hk).1
 rw [rd_nat hk] at h1
 have:=h1 y hy
 omega⟩
theorem us_le {l:List NODE} (h:AllN l) (t:Nat):us l t≤l.length:=by
 have key:∀ k,k≤l.length→us (l.take k) t≤k:=by
  intro k
  induction k with
  | zero=>intro _;simp [us]
  | succ k ih=>
   intro hk
   have hk':k<l.length:=by omega
   have h1:=kids_one (h k hk').1 t
   rw [rd_nat hk'] at h1
   rw [List.take_succ_eq_append_getElem hk',us_app]
   have:=ih (by omega)
   simp only [us];omega
 have:=key l.length (Nat.le_refl _)
 rwa [List.take_length] at this
def progOk (p:PROG):Bool:=decide (1≤(p.1.length:Int)∧(p.1.length:Int)≤300) && (decide (1≤(p.2.length:Int)∧(p.2.length:Int)≤8) && (decide ((0:Int)<deepAt p.1 ((p.1.length:Int) - 1)) && (allF p && good 1000 (tb p.1.length ((rootsL p.2).foldl add (U p.1))))))
theorem spec_Prog_ok (p:PROG) (hp:FineP p):spec_ProgramOk p=some (progOk p,()):=by
 unfold spec_ProgramOk progOk
 simp only [sIn,Option.bind_some]
 by_cases h1:1≤(p.1.length:Int)∧(p.1.length:Int)≤300
 case neg=>simp only [h1,decide_false,Bool.not_false,cond_true,joinP_some,Bool.false_and]
 by_cases h2:1≤(p.2.length:Int)∧(p.2.length:Int)≤8
 case neg=>simp only [h1,h2,and_self,decide_true,decide_false,Bool.not_true,Bool.not_false,cond_true,cond_false,joinP_some,Bool.false_and,Bool.and_false]
 have hlast:p.1.length - 1<p.1.length:=by omega
 have ec:(p.1.length:Int) - 1=((p.1.length - 1:Nat):Int):=by omega
 have hD:=spec_Deeps_ok p.1 hp.n (p.1.length - 1) hlast
 have hsucc:p.1.length - 1+1=p.1.length:=by omega
 rw [hsucc] at hD
 have hlen:=deeps_len p.1 p.1.length
 have hg:=deeps_get p.1 p.1.length (p.1.length - 1) hlast
 have hdA:deepAt p.1 ((p.1.length - 1:Nat):Int)=dAt p.1 (p.1.length - 1):=by
  unfold deepAt;rw [decide_eq_true (by omega),cond_true,Int.toNat_natCast]
 have hdl:=dAt_le p.1 (p.1.length - 1)
 have wr2:IntKind.wrap .i64 ((p.1.length - 1:Nat):Int)=((p.1.length - 1:Nat):Int):=wrap64 (by omega) (by omega)
 simp only [h1,h2,and_self,decide_true,Bool.not_true,cond_false,joinP_some,Bool.true_and,ec,wr2,hD,Option.bind_some,hlen,idx_run hlast,hg,hdA]
 by_cases hz:dAt p.1 (p.1.length - 1)=0
 ·simp only [hz,decide_true,cond_true,show ¬ ((0:Int)<0) by decide,decide_false,Bool.false_and]
 have hpos:(0:Int)<dAt p.1 (p.1.length - 1):=by omega
 have hA:AllN p.1:=alln_of (by rw [ec,hdA];exact hpos)
 simp only [hz,hpos,decide_false,decide_true,cond_false,usedS p.1 hp.n hA.kd (by omega),Option.bind_some,Bool.true_and]
 have hU:BI 1000000000 (U p.1):=fun t=>by
  have:=us_le hA t
  unfold U;omega
 rw [fnsS p hp _ hU]
 cases allF p
 ·simp only [cond_false,joinS_inr,Bool.false_and]
 ·simp only [cond_true,joinS_inl,Option.bind_some,Bool.true_and]
  rw [goodS _ (by rw [tb_len];omega)]
  cases good 1000 (tb p.1.length ((rootsL p.2).foldl add (U p.1)))<;>simp only [cond_true,cond_false,joinS_inl,joinS_inr]
end Go.Proofs.YtmakhmoielhjeaaGreatDoorE
namespace Go.Proofs.YtmakhmoielhjeaaGreatDoorE
set_option linter.all false
set_option maxRecDepth 100000
section
variable {L:List SIGN} (hL:L.length≤3000)
include hL
theorem ended_wp (r:RD) (k:Int) (s:ByteArray) (h:ROk L r):wp (spec_l05Read_ended r k s) fun y=>Pg L r y.2.1:=by
 unfold spec_l05Read_ended
 exact wp_bind (wp_mono (rvalue_wp hL r h) fun v hv=>wp_bind (wp_mono (mark_wp' hL _ _ hv.ok) fun m hm=>wp_bind (wp_mono (put_wp hL _ _ (by simp) hm.ok) fun p hp=>wp_some (hv.mv (hm.toMv.trans hp)))))
abbrev FS:=RD→Option (List Int×RD×Unit)
theorem steps_S_wq {r0 r0':FS} {r1 r1' r2 r2':FV} (r:RD) (h:ROk L r) (H1:∀ q,ROk L q→r.2.1≤q.2.1→wq (r1 q) (r1' q) fun y=>Pg L q y.2.1):wq (spec_l05Read_steps_S r0 r1 r2 r) (spec_l05Read_steps_S r0' r1' r2' r) fun y=>Mv L r y.2.1∧y.1.length≤100000:=by
 unfold spec_l05Read_steps_S
 refine wq_joinP (wq_bind (wq_some (wq_mono (wq_loop (fun x:SL1_spec_l05Read_steps=>Mv L r x.2.1∧((x.1.length:Int)≤x.2.1.2.1∨(x.2.1.2.2.1=true∧(x.1.length:Int)≤x.2.1.2.1+1))) (fun x=>2 * (L.length - x.2.1.2.1).toNat+(bif x.2.1.2.2.1 then 0 else 1)) (Q:=fun x:List Int×RD×Unit=>Mv L r x.2.1∧x.1.length≤100000) (fun x hx=>?_) ⟨.rfl' h,.inl (by have:=h.a0;simpa using this)⟩) fun z hz=>wq_some hz)))
 obtain⟨x1,x2,_⟩:=x
 simp only at hx
 obtain⟨g1,g2⟩:=hx
 have ga:=g1.ok.a1
 unfold L1_spec_l05Read_steps
 simp only
 refine wq_joinP (wq_mono (Q:=fun z:List Int×Bool×RD×Unit=>z.1=x1∧z.2.2.1=x2∧(z.2.1=true→x2.2.2.1=false)) (wq_bif (fun hb=>?_) fun _=>wq_some ⟨rfl,rfl,fun h=>by cases h⟩) fun z hz=>?_)
 ·have hbad:x2.2.2.1=false:=by
   cases hc:x2.2.2.1
   ·rfl
   ·rw [hc] at hb;cases hb
  refine wq_bind (wq_mono (wq_of (is_wp hL x2 3 _ g1.ok)) fun y hy=>wq_bif (fun _=>?_) fun _=>wq_some ⟨rfl,hy.1,fun h=>by cases h⟩)
  rw [hy.1]
  exact wq_bind (wq_mono (wq_of (is_wp hL x2 1 _ g1.ok)) fun y2 hy2=>wq_some ⟨rfl,hy2.1,fun _=>hbad⟩)
 obtain⟨z1,z2,z3,_⟩:=z
 simp only at hz
 obtain⟨e1,e2,hb⟩:=hz
 subst e1 e2
 simp only
 refine wq_bif (fun hb2=>?_) fun _=>wq_map (wq_some (wp_inr ⟨g1,by simp only;omega⟩))
 have hbad:=hb hb2
 have gl:(z1.length:Int)≤z3.2.1:=by
  rcases g2 with g2 | ⟨g2,_⟩
  ·exact g2
  ·rw [hbad] at g2;cases g2
 refine wq_bind (wq_mono (H1 _ g1.ok g1.le) fun y5 hy5=>wq_run (by simp only [Cnd.holds,List.length_singleton];omega) (wq_map (wq_some (wp_inl ⟨⟨(g1.pg hy5).toMv,?_⟩,?_⟩))))
 ·have h2:=hy5.le
  simp only [List.length_append,List.length_singleton]
  rcases hy5.pg with h1 | h1
  ·exact .inr ⟨h1,by omega⟩
  ·exact .inl (by omega)
 ·have h2:=hy5.le
  have h3:=hy5.ok.a1
  simp only [hbad,cond_false]
  rcases hy5.pg with h1 | h1
  ·rw [h1,cond_true];omega
  ·cases y5.2.1.2.2.1<;>simp only [cond_true,cond_false]<;>omega
theorem block_S_wq {r0 r0':FS} {r1 r1' r2 r2':FV} (r:RD) (h:ROk L r) (H0:∀ q,ROk L q→r.2.1≤q.2.1→wq (r0 q) (r0' q) fun y=>Mv L q y.2.1∧y.1.length≤100000):wq (spec_l05Read_block_S r0 r1 r2 r) (spec_l05Read_block_S r0' r1' r2' r) fun y=>Pg L r y.2.1:=by
 unfold spec_l05Read_block_S
 have m0:=(Mv.rfl' h).deep (IntKind.wrap .i64 (r.2.2.2.1+1))
 refine wq_joinP (wq_mono (Q:=fun x:RD×Unit=>Mv L r x.1) (wq_bif (fun _=>wq_some ⟨⟨m0.ok.l,m0.ok.a0,m0.ok.a1,m0.ok.n,m0.ok.k⟩,Int.le_refl _,fun _=>rfl⟩) fun _=>wq_some m0) fun x hx=>?_)
 refine wq_bind (wq_mono (wq_of (mark_wp' hL _ _ hx.ok)) fun y2 hy2=>wq_bind (wq_mono (H0 _ hy2.ok (Int.le_trans hx.le hy2.le)) fun y3 hy3=>wq_bind (wq_mono (wq_of (mark_wp' hL _ _ hy3.1.ok)) fun y4 hy4=>?_)))
 have p:=((hx.pg hy2).mv (hy3.1.trans hy4.toMv)).deep (IntKind.wrap .i64 (y4.1.2.2.2.1 - 1))
 exact wq_bind (wq_mono (wq_of (put_wp hL _ _ hy3.2 p.ok)) fun y5 hy5=>wq_some (p.mv hy5))
theorem step_S_wq' {r0 r0':FS} {r1 r1' r2 r2':FV} (r:RD) (h:ROk L r) (H2:∀ q,ROk L q→r.2.1<q.2.1→wq (r2 q) (r2' q) fun y=>Pg L q y.2.1):wq (spec_l05Read_step_S r0 r1 r2 r) (spec_l05Read_step_S r0' r1' r2' r) fun y=>Pg L r y.2.1:=by
 unfold spec_l05Read_step_S
 have nx:∀ {a b:RD},Mv L r a→a.2.1<b.2.1→r.2.1<b.2.1:=fun h1 h2=>by have:=h1.le;omega
 refine wq_bind (wq_mono (wq_of (takes_wp hL _ 1 _ h)) fun y1 hy1=>wq_bif (fun hb=>?_) (fun _=>?_))
 ·have p:=(hy1.2 hb).1
  exact wq_bind (wq_mono (wq_of (name_wp hL _ p.ok)) fun n hn=>wq_bind (wq_mono (wq_of (mark_wp' hL _ _ hn.ok)) fun m hm=>wq_bind (wq_mono (wq_of (ended_wp hL _ _ _ hm.ok)) fun q hq=>wq_some (p.mv (hn.toMv.trans (hm.toMv.trans hq.toMv))))))
 have m1:=hy1.1
 refine wq_bind (wq_mono (wq_of (takes_wp hL _ 3 _ m1.ok)) fun y5 hy5=>wq_bif (fun hb=>?_) (fun _=>?_))
 ·have p:=m1.pg (hy5.2 hb).1
  exact wq_bind (wq_mono (wq_of (name_wp hL _ p.ok)) fun n hn=>wq_bind (wq_mono (wq_of (mark_wp' hL _ _ hn.ok)) fun m hm=>wq_bind (wq_mono (wq_of (ended_wp hL _ _ _ hm.ok)) fun q hq=>wq_some (p.mv (hn.toMv.trans (hm.toMv.trans hq.toMv))))))
 have m2:=m1.trans hy5.1
 refine wq_bind (wq_mono (wq_of (takes_wp hL _ 1 _ m2.ok)) fun y9 hy9=>wq_bif (fun hb=>?_) (fun _=>?_))
 ·have p:=m2.pg (hy9.2 hb).1
  have pl:=nx m2 (hy9.2 hb).2
  refine wq_bind (wq_mono (wq_of (rvalue_wp hL _ p.ok)) fun v hv=>wq_bind (wq_mono (H2 _ hv.ok (by have:=hv.le;omega)) fun b hb2=>wq_bind (wq_mono (wq_of (takes_wp hL _ 1 _ hb2.ok)) fun e he=>wq_joinP (wq_mono (Q:=fun x:Int×Int×RD×Unit=>Pg L r x.2.2.1∧r.2.1<x.2.2.1.2.1) (wq_bif (fun _=>?_) fun _=>?_) fun x hx=>?_))))
  ·have q:=(p.mv (hv.toMv.trans (hb2.toMv.trans he.1)))
   exact wq_some ⟨q.toMv.bad,by have:=hv.le;have:=hb2.le;have:=he.1.le;simp only;omega⟩
  ·exact wq_some ⟨p.mv (hv.toMv.trans (hb2.toMv.trans he.1)),by have:=hv.le;have:=hb2.le;have:=he.1.le;simp only;omega⟩
  ·exact wq_bind (wq_mono (H2 _ hx.1.ok hx.2) fun d hd=>wq_bind (wq_mono (wq_of (put_wp hL _ _ (by simp) hd.ok)) fun q hq=>wq_some (hx.1.mv (hd.toMv.trans hq))))
 have m3:=m2.trans hy9.1
 refine wq_bind (wq_mono (wq_of (takes_wp hL _ 1 _ m3.ok)) fun y16 hy16=>wq_bif (fun hb=>?_) (fun _=>?_))
 ·have p:=m3.pg (hy16.2 hb).1
  have pl:=nx m3 (hy16.2 hb).2
  exact wq_bind (wq_mono (wq_of (rvalue_wp hL _ p.ok)) fun v hv=>wq_bind (wq_mono (H2 _ hv.ok (by have:=hv.le;omega)) fun b hb2=>wq_bind (wq_mono (wq_of (put_wp hL _ _ (by simp) hb2.ok)) fun q hq=>wq_some (p.mv (hv.toMv.trans (hb2.toMv.trans hq))))))
 have m4:=m3.trans hy16.1
 refine wq_bind (wq_mono (wq_of (takes_wp hL _ 1 _ m4.ok)) fun y20 hy20=>wq_bif (fun hb=>?_) (fun _=>?_))
 ·have p:=m4.pg (hy20.2 hb).1
  exact wq_bind (wq_mono (wq_of (ended_wp hL _ _ _ p.ok)) fun q hq=>wq_some (p.mv hq.toMv))
 have m5:=m4.trans hy20.1
 refine wq_bind (wq_mono (wq_of (takes_wp hL _ 1 _ m5.ok)) fun y22 hy22=>wq_bif (fun hb=>?_) (fun _=>?_))
 ·have p:=m5.pg (hy22.2 hb).1
  exact wq_bind (wq_mono (wq_of (ended_wp hL _ _ _ p.ok)) fun q hq=>wq_some (p.mv hq.toMv))
 have m6:=m5.trans hy22.1
 exact wq_bind (wq_mono (wq_of (name_wp hL _ m6.ok)) fun n hn=>wq_bind (wq_mono (wq_of (mark_wp' hL _ _ hn.ok)) fun m hm=>wq_bind (wq_mono (wq_of (ended_wp hL _ _ _ hm.ok)) fun q hq=>wq_some ((m6.pg hn).mv (hm.toMv.trans hq.toMv)))))
theorem blk_rec:∀ k:Nat,(∀ n n',3 * k+2≤n→3 * k+2≤n'→∀ r,ROk L r→L.length - r.2.1≤k→wq ((R_spec_l05Read_steps n).2.1 r) ((R_spec_l05Read_steps n').2.1 r) fun y=>Pg L r y.2.1) ∧
 (∀ n n',3 * k+3≤n→3 * k+3≤n'→∀ r,ROk L r→L.length - r.2.1≤k→wq ((R_spec_l05Read_steps n).1 r) ((R_spec_l05Read_steps n').1 r) fun y=>Mv L r y.2.1∧y.1.length≤100000) ∧
 (∀ n n',3 * k+4≤n→3 * k+4≤n'→∀ r,ROk L r→L.length - r.2.1≤k→wq ((R_spec_l05Read_steps n).2.2.1 r) ((R_spec_l05Read_steps n').2.2.1 r) fun y=>Pg L r y.2.1):=by
 have main:∀ k:Nat,(∀ n n',3 * k+1≤n→3 * k+1≤n'→∀ r,ROk L r→L.length - r.2.1<k→wq ((R_spec_l05Read_steps n).2.2.1 r) ((R_spec_l05Read_steps n').2.2.1 r) fun y=>Pg L r y.2.1) →
  (∀ n n',3 * k+2≤n→3 * k+2≤n'→∀ r,ROk L r→L.length - r.2.1≤k→wq ((R_spec_l05Read_steps n).2.1 r) ((R_spec_l05Read_steps n').2.1 r) fun y=>Pg L r y.2.1) ∧
  (∀ n n',3 * k+3≤n→3 * k+3≤n'→∀ r,ROk L r→L.length - r.2.1≤k→wq ((R_spec_l05Read_steps n).1 r) ((R_spec_l05Read_steps n').1 r) fun y=>Mv L r y.2.1∧y.1.length≤100000) ∧
  (∀ n n',3 * k+4≤n→3 * k+4≤n'→∀ r,ROk L r→L.length - r.2.1≤k→wq ((R_spec_l05Read_steps n).2.2.1 r) ((R_spec_l05Read_steps n').2.2.1 r) fun y=>Pg L r y.2.1):=by
  intro k iB
  have hT:∀ n n',3 * k+2≤n→3 * k+2≤n'→∀ r,ROk L r→L.length - r.2.1≤k→wq ((R_spec_l05Read_steps n).2.1 r) ((R_spec_l05Read_steps n').2.1 r) fun y=>Pg L r y.2.1:=by
   intro n n' hn hn' r h hk
   obtain⟨n,rfl⟩:∃ j,n=j+1:=⟨n - 1,by omega⟩
   obtain⟨n',rfl⟩:∃ j,n'=j+1:=⟨n' - 1,by omega⟩
   exact step_S_wq' hL (r0:=(R_spec_l05Read_steps n).1) (r0':=(R_spec_l05Read_steps n').1) (r1:=(R_spec_l05Read_steps n).2.1) (r1':=(R_spec_l05Read_steps n').2.1) r h (fun q hq hlt=>iB n n' (by omega) (by omega) q hq (by omega))
  have hS:∀ n n',3 * k+3≤n→3 * k+3≤n'→∀ r,ROk L r→L.length - r.2.1≤k→wq ((R_spec_l05Read_steps n).1 r) ((R_spec_l05Read_steps n').1 r) fun y=>Mv L r y.2.1∧y.1.length≤100000:=by
   intro n n' hn hn' r h hk
   obtain⟨n,rfl⟩:∃ j,n=j+1:=⟨n - 1,by omega⟩
   obtain⟨n',rfl⟩:∃ j,n'=j+1:=⟨n' - 1,by omega⟩
   exact steps_S_wq hL (r0:=(R_spec_l05Read_steps n).1) (r0':=(R_spec_l05Read_steps n').1) (r2:=(R_spec_l05Read_steps n).2.2.1) (r2':=(R_spec_l05Read_steps n').2.2.1) r h (fun q hq hle=>hT n n' (by omega) (by omega) q hq (by omega))
  refine⟨hT,hS,fun n n' hn hn' r h hk=>?_⟩
  obtain⟨n,rfl⟩:∃ j,n=j+1:=⟨n - 1,by omega⟩
  obtain⟨n',rfl⟩:∃ j,n'=j+1:=⟨n' - 1,by omega⟩
  exact block_S_wq hL (r1:=(R_spec_l05Read_steps n).2.1) (r1':=(R_spec_l05Read_steps n').2.1) (r2:=(R_spec_l05Read_steps n).2.2.1) (r2':=(R_spec_l05Read_steps n').2.2.1) r h (fun q hq hle=>hS n n' (by omega) (by omega) q hq (by omega))
 intro k
 induction k with
 | zero=>exact main 0 fun n n' hn hn' r h hk=>by have:=h.a1;omega
 | succ k ih=>exact main (k+1) fun n n' hn hn' r h hk=>ih.2.2 n n' (by omega) (by omega) r h (by omega)
theorem rsteps_wp (r:RD) (h:ROk L r):wp (spec_l05Read_steps r) fun y=>Mv L r y.2.1∧y.1.length≤100000:=by
 unfold spec_l05Read_steps
 exact wq_lim (3 * 3000+3) fun n hn=>(blk_rec hL 3000).2.1 n _ hn (Nat.le_refl _) r h (by have:=h.a0;omega)
theorem kind_wp (r:RD) (h:ROk L r):wp (spec_l05Read_kind r) fun y=>Mv L r y.2.1:=by
 unfold spec_l05Read_kind
 refine wp_bind (wp_mono (takes_wp hL _ 1 _ h) fun y1 hy1=>wp_bif (fun _=>wp_some hy1.1) fun _=>wp_bind (wp_mono (takes_wp hL _ 1 _ hy1.1.ok) fun y2 hy2=>wp_bif (fun _=>wp_some (hy1.1.trans hy2.1)) fun _=>?_))
 have m2:=hy1.1.trans hy2.1
 refine wp_bind (wp_mono (mark_wp' hL _ _ m2.ok) fun y3 hy3=>wp_bind (wp_mono (takes_wp hL _ 1 _ hy3.ok) fun y4 hy4=>wp_joinP (wp_mono (Q:=fun x:Int×RD×Unit=>Mv L r x.2.1) (wp_bif (fun _=>wp_some (m2.trans (hy3.toMv.trans hy4.1))) fun _=>wp_some (m2.trans (hy3.toMv.trans hy4.1))) fun x hx=>?_)))
 refine wp_bind (wp_mono (takes_wp hL _ 1 _ hx.ok) fun y6 hy6=>wp_joinP (wp_mono (Q:=fun x:Int×RD×Unit=>Mv L r x.2.1) (wp_bif (fun _=>wp_some (hx.trans hy6.1).bad.toMv) fun _=>wp_some (hx.trans hy6.1)) fun z hz=>wp_some hz))
theorem rfn_wp (r:RD) (h:ROk L r):wp (spec_l05Read_fn r) fun y=>Pg L r y.2.1∧(y.1:FN).2.1.length≤100000:=by
 unfold spec_l05Read_fn
 refine wp_bind (wp_mono (takes_wp hL _ 1 _ h) fun y1 hy1=>wp_joinP (wp_mono (Q:=fun x:RD×FN×Unit=>Pg L r x.1) (wp_bif (fun _=>wp_some hy1.1.bad) fun hb=>wp_some (hy1.2 ?_).1) fun x2 hx2=>?_))
 ·cases hc:y1.1
  ·rw [hc] at hb;cases hb
  ·rfl
 refine wp_bind (wp_mono (name_wp hL _ hx2.ok) fun y3 hy3=>wp_bind (wp_mono (mark_wp' hL _ _ hy3.ok) fun y4 hy4=>wp_bind (wp_mono (takes_wp hL _ 3 _ hy4.ok) fun y5 hy5=>?_)))
 have p5:=hx2.mv (hy3.toMv.trans (hy4.toMv.trans hy5.1))
 refine wp_joinP (wp_mono (Q:=fun x:RD×FN×FN×Unit=>Pg L r x.1∧x.2.2.1.2.1.length≤100000) (wp_bif (fun _=>?_) fun _=>wp_some ⟨p5,by simp⟩) fun x13 hx13=>?_)
 ·refine wp_joinP (wp_bind (wp_some (wp_mono (wp_loop (fun x:SL1_spec_l05Read_fn=>Pg L r x.1∧((x.2.2.1.2.1.length:Int)≤x.1.2.1∨(x.1.2.2.1=true∧(x.2.2.1.2.1.length:Int)≤x.1.2.1+1))) (fun x=>2 * (L.length - x.1.2.1).toNat+(bif x.1.2.2.1 then 0 else 1)) (Q:=fun x:RD×FN×FN×Unit=>Pg L r x.1∧x.2.2.1.2.1.length≤100000) (fun x hx=>?_) ⟨p5,.inl (by have:=p5.ok.a0;simpa using this)⟩) fun z hz=>wp_some hz)))
  obtain⟨x1,x2,x3,_⟩:=x
  simp only at hx
  obtain⟨g1,g2⟩:=hx
  have ga:=g1.ok.a1
  unfold L1_spec_l05Read_fn
  simp only
  refine wp_bif (fun hb=>?_) fun _=>wp_map (wp_some (wp_inr ⟨g1,by simp only;omega⟩))
  have hbad:x1.2.2.1=false:=by
   cases hc:x1.2.2.1
   ·rfl
   ·rw [hc] at hb;cases hb
  have gl:(x3.2.1.length:Int)≤x1.2.1:=by
   rcases g2 with g2 | ⟨g2,_⟩
   ·exact g2
   ·rw [hbad] at g2;cases g2
  refine wp_bind (wp_mono (name_wp hL _ g1.ok) fun y7 hy7=>wp_bind (wp_mono (mark_wp' hL _ _ hy7.ok) fun y8 hy8=>wp_bind (wp_mono (kind_wp hL _ hy8.ok) fun y9 hy9=>wp_run (by simp only [Cnd.holds,List.length_singleton];omega) (wp_bind (wp_mono (takes_wp hL _ 3 _ hy9.ok) fun y10 hy10=>?_)))))
  have m10:=hy7.mv (hy8.toMv.trans (hy9.trans hy10.1))
  refine wp_bif (fun _=>wp_map (wp_some (wp_inr ⟨g1.mv m10.toMv,by simp only [List.length_append,List.length_singleton];omega⟩))) fun _=>wp_bind (wp_mono (mark_wp' hL _ _ hy10.1.ok) fun y11 hy11=>wp_map (wp_some (wp_inl ⟨⟨g1.mv (m10.mv hy11.toMv).toMv,?_⟩,?_⟩)))
  ·have h2:=(m10.mv hy11.toMv).le
   simp only [List.length_append,List.length_singleton]
   rcases(m10.mv hy11.toMv).pg with h1 | h1
   ·exact .inr ⟨h1,by omega⟩
   ·exact .inl (by omega)
  ·have h2:=(m10.mv hy11.toMv).le
   have h3:=hy11.ok.a1
   simp only [hbad,cond_false]
   rcases(m10.mv hy11.toMv).pg with h1 | h1
   ·rw [h1,cond_true];omega
   ·cases y11.1.2.2.1<;>simp only [cond_true,cond_false]<;>omega
 refine wp_bind (wp_mono (takes_wp hL _ 3 _ hx13.1.ok) fun y14 hy14=>wp_joinP (wp_mono (Q:=fun x:RD×FN×FN×Unit=>Pg L r x.1∧x.2.2.1.2.1.length≤100000) (wp_bif (fun _=>wp_bind (wp_mono (kind_wp hL _ hy14.1.ok) fun k hk=>wp_some ⟨hx13.1.mv (hy14.1.trans hk),hx13.2⟩)) fun _=>wp_some ⟨hx13.1.mv hy14.1,hx13.2⟩) fun x16 hx16=>?_))
 refine wp_bind (wp_mono (mark_wp' hL _ _ hx16.1.ok) fun y17 hy17=>wp_bind (wp_mono (rsteps_wp hL _ hy17.ok) fun y18 hy18=>wp_bind (wp_mono (put_wp hL _ _ hy18.2 hy18.1.ok) fun y19 hy19=>wp_bind (wp_mono (takes_wp hL _ 1 _ hy19.ok) fun y20 hy20=>?_))))
 have p20:=hx16.1.mv (hy17.toMv.trans (hy18.1.trans (hy19.trans hy20.1)))
 refine wp_joinP (wp_mono (Q:=fun x:RD×FN×FN×Unit=>Pg L r x.1∧x.2.2.1.2.1.length≤100000) (wp_bif (fun _=>wp_bind (wp_mono (rvalue_wp hL _ p20.ok) fun v hv=>wp_bind (wp_mono (mark_wp' hL _ _ hv.ok) fun m hm=>wp_some ⟨p20.mv (hv.toMv.trans hm.toMv),hx16.2⟩))) fun _=>wp_some ⟨p20,hx16.2⟩) fun x23 hx23=>?_)
 exact wp_bind (wp_mono (mark_wp' hL _ _ hx23.1.ok) fun y24 hy24=>wp_some ⟨hx23.1.mv hy24.toMv,hx23.2⟩)
end
def PRd (p:PROG):Prop:=FineP p∧(progOk p=true∨p=([],[]))
theorem read_wp (t:ByteArray):wp (spec_ReadProgram t) fun y=>PRd y.1:=by
 unfold spec_ReadProgram
 have hnil:PRd ([],[]):=⟨⟨⟨by simp,by simp⟩,by simp,by simp⟩,.inr rfl⟩
 refine wp_bind (wp_mono (signs_wp t) fun y1 hL=>wp_bif (fun _=>wp_some hnil) fun _=>?_)
 refine wp_joinP (wp_bind (wp_some ?_))
 refine wp_mono (wp_loop (fun x:SL1_spec_ReadProgram=>x.1=([],[])∧ROk y1.1 x.2.2.1∧x.2.1.2.length≤10∧∀ f∈x.2.1.2,(f:FN).2.1.length≤100000) (fun x=>2 * (y1.1.length - x.2.2.1.2.1).toNat+(bif x.2.2.1.2.2.1 then 0 else 1)) (Q:=fun x:PROG×PROG×RD×Unit=>ROk y1.1 x.2.2.1∧x.2.1.2.length≤10∧∀ f∈x.2.1.2,(f:FN).2.1.length≤100000) (fun x hx=>?_) ⟨rfl,⟨rfl,by simp,by simp,by simp,by simp⟩,by simp,by simp⟩) (fun x hx=>?_)
 ·obtain⟨x0,x1,x2,_⟩:=x
  simp only at hx
  obtain⟨g0,g1,g2,g3⟩:=hx
  subst g0
  have ga:=g1.a1
  unfold L1_spec_ReadProgram
  simp only
  refine wp_joinP (wp_mono (Q:=fun z:Bool×PROG×PROG×RD×Unit=>z.2.1=([],[])∧z.2.2.1=x1∧z.2.2.2.1=x2∧(z.1=true→x2.2.2.1=false∧x1.2.length≤8)) (wp_bif (fun hb=>wp_bif (fun _=>wp_some ⟨rfl,rfl,rfl,fun h=>⟨?_,?_⟩⟩) fun _=>wp_some ⟨rfl,rfl,rfl,fun h=>by cases h⟩) fun _=>wp_some ⟨rfl,rfl,rfl,fun h=>by cases h⟩) fun z hz=>?_)
  ·cases hc:x2.2.2.1
   ·rfl
   ·rw [hc] at hb;cases hb
  ·have:(List.length x1.2:Int)≤8:=by simpa using h
   omega
  obtain⟨z0,z1,z2,z3,_⟩:=z
  simp only at hz
  obtain⟨e1,e2,e3,hb⟩:=hz
  subst e1 e2 e3
  simp only
  refine wp_bif (fun hb2=>?_) fun _=>wp_map (wp_some (wp_inr ⟨g1,g2,g3⟩))
  obtain⟨hbad,h8⟩:=hb hb2
  refine wp_bind (wp_mono (rfn_wp hL _ g1) fun y4 hy4=>wp_run (by simp only [Cnd.holds,List.length_singleton];omega) (wp_map (wp_some (wp_inl ⟨⟨rfl,hy4.1.ok,by simp only [List.length_append,List.length_singleton];omega,fun f hf=>?_⟩,?_⟩))))
  ·rcases List.mem_append.1 hf with hf | hf
   ·exact g3 f hf
   ·rw [List.mem_singleton.1 hf];exact hy4.2
  ·have h2:=hy4.1.le
   have h3:=hy4.1.ok.a1
   simp only [hbad,cond_false]
   rcases hy4.1.pg with h1 | h1
   ·rw [h1,cond_true];omega
   ·cases y4.2.1.2.2.1<;>simp only [cond_true,cond_false]<;>omega
 ·obtain⟨x0,x1,x2,_⟩:=x
  simp only at hx
  obtain⟨g1,g2,g3⟩:=hx
  have hf:FineP (x2.2.2.2.2,x1.2):=⟨⟨by have:=g1.n;simp only;omega,fun x hx=>by have:=g1.k x hx;omega⟩,by simp only;omega,fun f hf=>by have:=g3 f hf;omega⟩
  simp only
  refine wp_joinP (wp_mono (Q:=fun z:Bool×PROG×PROG×Unit=>z.2.2.1=(x2.2.2.2.2,x1.2)∧(z.1=false→progOk (x2.2.2.2.2,x1.2)=true)) (wp_bif (fun _=>wp_some ⟨rfl,fun h=>by cases h⟩) fun _=>?_) fun z hz=>wp_bif (fun _=>wp_some hnil) fun hb=>wp_some ?_)
  ·rw [spec_Prog_ok _ hf]
   exact wp_bind (wp_some (wp_some ⟨rfl,fun h=>by simpa using h⟩))
  ·obtain⟨z0,z1,z2,_⟩:=z
   simp only at hz hb
   obtain⟨e1,h1⟩:=hz
   subst e1
   exact⟨hf,.inl (h1 hb)⟩
theorem prog_wp (c:Cur) (h:COk c):wp (spec_l05Program c) fun y=>PRd y.1∧COk y.2.1:=by
 unfold spec_l05Program
 refine wp_bind (wp_mono (text_wp c 9 (by omega) (by omega) h) fun y1 hy1=>wp_bind (wp_mono (read_wp _) fun y2 hy2=>wp_joinP (wp_mono (Q:=fun x:Cur×PROG×PROG×Unit=>PRd x.2.2.1∧COk x.1) (wp_bif (fun _=>?_) fun _=>wp_some ⟨hy2,hy1.2⟩) fun x hx=>wp_some hx)))
 exact wp_bind (wp_mono (read_wp _) fun y3 hy3=>wp_joinP (wp_mono (Q:=fun x:Cur×PROG×PROG×Unit=>PRd x.2.2.1∧COk x.1) (wp_bif (fun _=>wp_bind (wp_mono (read_wp _) fun y4 hy4=>wp_some ⟨hy4,hy1.2⟩)) fun _=>wp_some ⟨hy3,hy1.2⟩) fun x hx=>wp_some hx))
end Go.Proofs.YtmakhmoielhjeaaGreatDoorE
namespace Go.Proofs.YtmakhmoielhjeaaGreatDoorE
set_option linter.all false
set_option maxRecDepth 100000
theorem spec_DeepOf_ok (l:List NODE) (hl:FineN l) (n:Int):spec_DeepOf l n=some (deepAt l n,()):=by
 unfold spec_DeepOf deepAt
 simp only [lenm1 hl.len,sIn,Option.bind_some]
 by_cases hr:0≤n∧n≤(l.length:Int) - 1
 case neg=>simp only [hr,decide_false,Bool.not_false,cond_true,cond_false]
 obtain⟨k,rfl⟩:∃ m:Nat,n=(m:Int):=⟨n.toNat,by omega⟩
 have hk:k<l.length:=by omega
 simp only [hr,and_self,decide_true,Bool.not_true,cond_false,cond_true,spec_Deeps_ok l hl k hk,Option.bind_some]
 rw [idx_run (show k<(deeps l (k+1)).length by rw [deeps_len];omega),deeps_get l (k+1) k (by omega)]
 rfl
end Go.Proofs.YtmakhmoielhjeaaGreatDoorE
namespace Go.Proofs.YtmakhmoielhjeaaGreatDoorE
set_option linter.all false
set_option maxRecDepth 100000
def rc (l:List NODE):Nat→Int→Int→Bool
 | 0,_,_=>false
 | f+1,a,t=>decide (a=t) || (rd l a zN).2.2.2.any fun y=>rc l f y t
def undr (l:List NODE) (a t:Int):Bool:=rc l (a.toNat+1) a t
theorem any_ext' {α:Type} {f g:α→Bool}:∀ {l:List α},(∀ x∈l,f x=g x)→l.any f=l.any g
 | [],_=>rfl
 | x::l,h=>by rw [List.any_cons,List.any_cons,h x (List.mem_cons_self ..),any_ext' fun y hy=>h y (List.mem_cons_of_mem _ hy)]
theorem kid_pos {l:List NODE} {a:Int} (h:(0:Int)<deepAt l a) {y:Int} (hy:y∈(rd l a zN).2.2.2):(0:Int)<deepAt l y∧0≤y∧y<a:=by
 obtain⟨_,h2,h3⟩:=deepAt_pos h
 obtain⟨k1,k2⟩:=kid_mem h2 y hy
 exact⟨h3 y k1 (by omega),k1,k2⟩
theorem rc_fuel (l:List NODE):∀ (f g:Nat) (a t:Int),(0:Int)<deepAt l a→a.toNat<f→a.toNat<g→rc l f a t=rc l g a t
 | 0,_,_,_,_,h,_=>absurd h (by omega)
 | _+1,0,_,_,_,_,h=>absurd h (by omega)
 | f+1,g+1,a,t,hd,hf,hg=>by
  simp only [rc]
  congr 1
  refine any_ext' fun y hy=>?_
  obtain⟨k1,k2,k3⟩:=kid_pos hd hy
  exact rc_fuel l f g y t k1 (by omega) (by omega)
theorem undr_eq {l:List NODE} {a:Int} (h:(0:Int)<deepAt l a) (t:Int):undr l a t=(decide (a=t) || (rd l a zN).2.2.2.any fun y=>undr l y t):=by
 unfold undr
 simp only [rc]
 congr 1
 refine any_ext' fun y hy=>?_
 obtain⟨k1,k2,k3⟩:=kid_pos h hy
 exact rc_fuel l a.toNat (y.toNat+1) y t k1 (by omega) (by omega)
theorem undr_self (l:List NODE) (a:Int):undr l a a=true:=by simp [undr,rc]
theorem undr_kid {l:List NODE} {a y t:Int} (h:(0:Int)<deepAt l a) (hy:y∈(rd l a zN).2.2.2) (ht:undr l y t=true):undr l a t=true:=by
 rw [undr_eq h,Bool.or_eq_true]
 exact .inr (List.any_eq_true.2 ⟨y,hy,ht⟩)
theorem undr_le {l:List NODE}:∀ (n:Nat) (a t:Int),a.toNat<n→(0:Int)<deepAt l a→undr l a t=true→0≤t∧t≤a
 | 0,_,_,h,_,_=>absurd h (by omega)
 | n+1,a,t,hn,h,ht=>by
  rw [undr_eq h,Bool.or_eq_true] at ht
  rcases ht with ht | ht
  ·have:=of_decide_eq_true ht
   have:=(deepAt_pos h).1
   omega
  ·obtain⟨y,hy,hy2⟩:=List.any_eq_true.1 ht
   obtain⟨k1,k2,k3⟩:=kid_pos h hy
   have:=undr_le n y t (by omega) k1 hy2
   omega
theorem undr_rng {l:List NODE} {a t:Int} (h:(0:Int)<deepAt l a) (ht:undr l a t=true):0≤t∧t≤a:=undr_le _ a t (Nat.lt_succ_self _) h ht
theorem undr_deep {l:List NODE} {a t:Int} (h:(0:Int)<deepAt l a) (ht:undr l a t=true):(0:Int)<deepAt l t:=by
 have:=undr_rng h ht
 exact(deepAt_pos h).2.2 t this.1 this.2
theorem undr_trans' {l:List NODE}:∀ (n:Nat) (a b t:Int),a.toNat<n→(0:Int)<deepAt l a→undr l a b=true→undr l b t=true→undr l a t=true
 | 0,_,_,_,h,_,_,_=>absurd h (by omega)
 | n+1,a,b,t,hn,h,hb,ht=>by
  rw [undr_eq h,Bool.or_eq_true] at hb
  rcases hb with hb | hb
  ·have:=of_decide_eq_true hb
   subst this
   exact ht
  ·obtain⟨y,hy,hy2⟩:=List.any_eq_true.1 hb
   obtain⟨k1,k2,k3⟩:=kid_pos h hy
   exact undr_kid h hy (undr_trans' n y b t (by omega) k1 hy2 ht)
theorem undr_trans {l:List NODE} {a b t:Int} (h:(0:Int)<deepAt l a) (hb:undr l a b=true) (ht:undr l b t=true):undr l a t=true:=undr_trans' _ a b t (Nat.lt_succ_self _) h hb ht
def mrk (l:List NODE) (k:Int) (s:List Bool):List Bool:=s.mapIdx fun t b=>b || undr l k (t:Int)
@[simp] theorem mrk_len (l:List NODE) (k:Int) (s:List Bool):(mrk l k s).length=s.length:=by simp [mrk]
theorem mrk_get (l:List NODE) (k:Int) (s:List Bool) {t:Nat} (h:t<s.length):(mrk l k s).getD t false=(s.getD t false || undr l k (t:Int)):=by
 simp [mrk,h]
def Cl (l:List NODE) (b:Int) (s:List Bool):Prop:=∀ a:Nat,(a:Int)<b→s.getD a false=true→∀ t:Nat,undr l (a:Int) (t:Int)=true→s.getD t false=true
theorem Cl.mono {l:List NODE} {b c:Int} {s:List Bool} (h:Cl l b s) (hc:c≤b):Cl l c s:=fun a ha hs t ht=>h a (by omega) hs t ht
theorem getD_lt {s:List Bool} {t:Nat} (h:s.getD t false=true):t<s.length:=by
 rcases Nat.lt_or_ge t s.length with h1 | h1
 ·exact h1
 ·simp [h1] at h
theorem Cl.mrk {l:List NODE} {b k:Int} {s:List Bool} (h:Cl l b s) (hs:s.length=l.length) (hk:(0:Int)<deepAt l k):Cl l b (mrk l k s):=by
 intro a ha h1 t ht
 have hal:=getD_lt h1
 rw [mrk_len] at hal
 rw [mrk_get _ _ _ hal,Bool.or_eq_true] at h1
 rcases h1 with h1 | h1
 ·have h2:=h a ha h1 t ht
  rw [mrk_get _ _ _ (getD_lt h2),h2,Bool.true_or]
 ·have h2:=undr_trans hk h1 ht
  have h3:=undr_rng hk h2
  have h4:=(deepAt_pos hk).1
  rw [mrk_get _ _ _ (show t<s.length by omega),h2,Bool.or_true]
theorem fold_mrk (l:List NODE):∀ (ys:List Int) (s:List Bool),(ys.foldl (fun s y=>mrk l y s) s).length=s.length∧∀ t,t<s.length→(ys.foldl (fun s y=>mrk l y s) s).getD t false=(s.getD t false || ys.any fun y=>undr l y (t:Int))
 | [],s=>⟨rfl,fun t h=>by simp⟩
 | y::ys,s=>by
  obtain⟨h1,h2⟩:=fold_mrk l ys (mrk l y s)
  rw [List.foldl_cons]
  refine⟨by rw [h1,mrk_len],fun t ht=>?_⟩
  rw [h2 t (by rw [mrk_len];exact ht),mrk_get _ _ _ ht,List.any_cons,Bool.or_assoc]
theorem ext_getD {a b:List Bool} (hl:a.length=b.length) (h:∀ t,t<b.length→a.getD t false=b.getD t false):a=b:=by
 refine List.ext_getElem hl fun t h1 h2=>?_
 have:=h t h2
 simpa [h1,h2] using this
theorem set_getD {s:List Bool} {m t:Nat} (hm:m<s.length) (ht:t<s.length):(s.set m true).getD t false=(s.getD t false || decide (m=t)):=by
 by_cases h:m=t
 ·subst h;simp [hm]
 ·simp [List.getElem?_set,h]
theorem mark_R (l:List NODE) (hl:FineN l):∀ (n:Nat) (k:Int) (s:List Bool),(0:Int)<deepAt l k→k.toNat<n→s.length=l.length→Cl l (k+1) s→(R_spec_l04Mark n).1 l k s=some (mrk l k s,())
 | 0,_,_,_,h,_,_=>absurd h (by omega)
 | n+1,k,s,hk,hn,hs,hc=>by
  show spec_l04Mark_S (R_spec_l04Mark n).1 l k s=_
  obtain⟨h1,h2,h3⟩:=deepAt_pos hk
  obtain⟨m,rfl⟩:∃ m:Nat,k=(m:Int):=⟨k.toNat,by omega⟩
  have hm:m<s.length:=by omega
  have hml:m<l.length:=by omega
  unfold spec_l04Mark_S
  rw [idx_run hm,rd_nat hm]
  cases hb:s[m]
  ·have hx:=hl.kid _ (List.getElem_mem hml)
   have hkid:=fun y hy=>@kid_pos l (m:Int) hk y hy
   rw [rd_nat hml] at hkid
   have hue:=fun t=>undr_eq hk t
   rw [rd_nat hml] at hue
   have hrd:rd l (m:Int) zN=l[m]:=rd_nat hml
   have hcl0:Cl l (m:Int) (s.set m true):=fun a ha h1 t ht=>by
    have hal:=getD_lt h1
    rw [List.length_set] at hal
    rw [set_getD hm hal] at h1
    have hne:¬ m=a:=by omega
    rw [decide_eq_false hne,Bool.or_false] at h1
    have h2:=hc a (by omega) h1 t ht
    rw [set_getD hm (getD_lt h2),h2,Bool.true_or]
   generalize l[m]=x at hx hkid hue hrd
   have h:=loopF_fold (step:=L1_spec_l04Mark (R_spec_l04Mark n).1) x.2.2.2 (fun s y=>mrk l y s) (fun i s=>(l,(m:Int),(i:Int),s,())) (fun s=>(s,())) (fun _ s=>s.length=l.length∧Cl l (m:Int) s) (fun i hi c hI=>by
    obtain⟨g1,g2⟩:=hI
    obtain⟨k1,k2,k3⟩:=hkid _ (List.getElem_mem hi)
    have ih:=mark_R l hl n x.2.2.2[i] c k1 (by omega) g1 (g2.mono (by omega))
    refine⟨?_,by rw [mrk_len];exact g1,g2.mrk g1 k1⟩
    simp only [L1_spec_l04Mark,idx_run hml,hrd,lt_cast hi,decide_true,cond_true,idx_run hi,rd_nat hi,ih,Option.bind_some,Option.map_some,wrapSucc (show i<9223372036854775807 by omega)]) (fun c hI=>by
    simp only [L1_spec_l04Mark,idx_run hml,hrd,not_lt_self,decide_false,cond_false,Option.map_some]) (s.set m true) ⟨by rw [List.length_set];exact hs,hcl0⟩
   have h':loopF (L1_spec_l04Mark (R_spec_l04Mark n).1) (l,(m:Int),(0:Int),s.set m true,())=_:=h.1
   simp only [cond_false,idx_run hm,bindD,Int.toNat_natCast,Option.bind_some,h',joinP_some]
   congr 2
   obtain⟨f1,f2⟩:=fold_mrk l x.2.2.2 (s.set m true)
   refine ext_getD (by rw [f1,List.length_set,mrk_len]) fun t ht=>?_
   rw [mrk_len] at ht
   rw [f2 t (by rw [List.length_set];exact ht),mrk_get _ _ _ ht,set_getD hm ht,hue,Bool.or_assoc]
   congr 2
   exact decide_eq_decide.2 (by omega)
  ·simp only [cond_true]
   congr 2
   refine ext_getD (by rw [mrk_len]) fun t ht=>?_
   rw [mrk_len] at ht
   rw [mrk_get _ _ _ ht]
   cases hu:undr l (m:Int) (t:Int)
   ·rw [Bool.or_false]
   ·rw [hc m (by omega) (by simp [hm,hb]) t hu];rfl
def undL (l:List NODE) (k:Int):List Int:=((List.range l.length).filter fun(t:Nat)=>undr l k (t:Int)).map fun(t:Nat)=>(t:Int)
def unds (l:List NODE) (k:Int):List Int:=bif decide (deepAt l k=0) then [] else undL l k
theorem fold_filter {α β:Type} (p:α→Bool) (f:α→β):∀ (xs:List α) (o:List β),xs.foldl (fun o x=>bif p x then o++[f x] else o) o=o++(xs.filter p).map f
 | [],o=>by simp
 | x::xs,o=>by
  rw [List.foldl_cons,fold_filter p f xs]
  cases h:p x<;>simp [h]
theorem undL_len (l:List NODE) (k:Int):(undL l k).length≤l.length:=by
 unfold undL
 rw [List.length_map]
 exact Nat.le_trans (List.length_filter_le ..) (by simp)
theorem mem_undL {l:List NODE} {k:Int} (hk:(0:Int)<deepAt l k) (x:Int):x∈undL l k↔undr l k x=true:=by
 unfold undL
 rw [List.mem_map]
 constructor
 ·rintro ⟨t,ht,rfl⟩
  exact(List.mem_filter.1 ht).2
 ·intro h
  have h1:=undr_rng hk h
  have h2:=(deepAt_pos hk).1
  have e:((x.toNat:Nat):Int)=x:=by omega
  exact⟨x.toNat,List.mem_filter.2 ⟨List.mem_range.2 (by omega),by rw [e];exact h⟩,e⟩
theorem spec_Under_ok (p:PROG) (hp:FineN p.1) (k:Int):spec_Under p k=some (unds p.1 k,()):=by
 unfold spec_Under unds
 rw [spec_DeepOf_ok p.1 hp k,Option.bind_some]
 by_cases hz:deepAt p.1 k=0
 ·simp only [hz,decide_true,cond_true]
 have hk:=in_ok hz
 have hn:=hp.len
 have hC:Cl p.1 (k+1) (List.replicate p.1.length false):=fun a _ h t _=>by
  have:=getD_lt h
  simp at this
  simp [this] at h
 have hm:spec_l04Mark p.1 k (List.replicate p.1.length false)=some (mrk p.1 k (List.replicate p.1.length false),()):=
  limF_some.2 ⟨k.toNat+1,fun n hn'=>mark_R p.1 hp n k _ hk (by omega) (by simp) hC⟩
 have hsl:(mrk p.1 k (List.replicate p.1.length false)).length=p.1.length:=by simp
 have hsg:∀ t:Nat,t<p.1.length→rd (mrk p.1 k (List.replicate p.1.length false)) (t:Int) false=undr p.1 k (t:Int):=fun t ht=>by
  have:=mrk_get p.1 k (List.replicate p.1.length false) (t:=t) (by simpa using ht)
  rw [show rd (mrk p.1 k (List.replicate p.1.length false)) (t:Int) false=(mrk p.1 k (List.replicate p.1.length false)).getD t false from rfl,this]
  simp [ht]
 generalize mrk p.1 k (List.replicate p.1.length false)=s at hm hsl hsg
 have h:=loopF_fold (step:=L1_spec_Under) (List.range p.1.length) (fun o t=>bif undr p.1 k (t:Int) then o++[(t:Int)] else o) (fun i o=>(o,s,(i:Int),())) (fun o=>(o,())) (fun i o=>o.length≤i) (fun i hi o ho=>by
  have hi':i<p.1.length:=by simpa using hi
  have hi2:i<s.length:=by omega
  simp only [L1_spec_Under,lt_cast hi2,decide_true,cond_true,idx_run hi2,hsg i hi',List.getElem_range,wrapSucc (show i<9223372036854775807 by omega)]
  cases undr p.1 k (i:Int)
  ·simp only [cond_false,joinP_some,Option.map_some,wrapSucc (show i<9223372036854775807 by omega)]
   exact⟨by trivial,by omega⟩
  ·simp only [cond_true,le_run (show(o.length+[(i:Int)].length) * 8≤140737488355328 by simp;omega),joinP_some,Option.map_some,wrapSucc (show i<9223372036854775807 by omega)]
   exact⟨by trivial,by simp;omega⟩) (fun o ho=>by
  simp only [L1_spec_Under,List.length_range,hsl,not_lt_self,decide_false,cond_false,Option.map_some]) [] (Nat.le_refl 0)
 have h':loopF L1_spec_Under ([],s,(0:Int),())=_:=h.1
 simp only [decide_eq_false hz,cond_false]
 rw [show(Cnd.both (Cnd.nn (List.length p.1:Int)) (Cnd.le ((List.length p.1:Int).toNat * 1) 140737488355328)).run _=_ from by
  simp only [Cnd.run]
  rw [if_pos (by omega),if_pos (by omega)]]
 rw [show(List.length p.1:Int).toNat=p.1.length from Int.toNat_natCast _,hm,Option.bind_some]
 simp only [Option.bind_some,h',joinP_some]
 rw [fold_filter,List.nil_append]
 rfl
end Go.Proofs.YtmakhmoielhjeaaGreatDoorE
namespace Go.Proofs.YtmakhmoielhjeaaGreatDoorE
set_option linter.all false
set_option maxRecDepth 100000
structure BIu (l:List NODE) (k:Int) (i:Nat) (o:List Int):Prop where
 nd:o.Nodup
 un:∀ x∈o,undr l k x=true
 at_:k∈o
 le:i≤o.length
 cl:∀ x∈o.take i,∀ y∈(rd l x zN).2.2.2,y∈o
theorem unds_len (l:List NODE) (k:Int):(unds l k).length≤l.length:=by
 unfold unds
 cases decide (deepAt l k=0)
 ·exact undL_len l k
 ·exact Nat.zero_le _
theorem unds_rng {l:List NODE} {k x:Int} (h:x∈unds l k):(0≤x∧x<(l.length:Int))∧(0:Int)<deepAt l x:=by
 unfold unds at h
 by_cases hz:deepAt l k=0
 ·simp [hz] at h
 ·rw [decide_eq_false hz,cond_false] at h
  have:=undr_deep (in_ok hz) ((mem_undL (in_ok hz) x).1 h)
  exact⟨(deepAt_pos this).1,this⟩
end Go.Proofs.YtmakhmoielhjeaaGreatDoorE
namespace Go.Proofs.YtmakhmoielhjeaaGreatDoorE
set_option linter.all false
set_option maxRecDepth 100000
def fnIn (p:PROG) (fn:Int):Bool:=decide (0≤fn∧fn≤(p.2.length:Int) - 1)
theorem lenf1 {p:PROG} (hp:FineP p):IntKind.wrap .i64 ((p.2.length:Int) - 1)=(p.2.length:Int) - 1:=lenm1 hp.f
end Go.Proofs.YtmakhmoielhjeaaGreatDoorE
namespace Go.Proofs.YtmakhmoielhjeaaGreatDoorE
set_option linter.all false
set_option maxRecDepth 100000
abbrev VAR:=ByteArray×(Int×Int)
abbrev zV:VAR:=((⟨#[]⟩:ByteArray),((0:Int),(0:Int)))
def parV (x:ByteArray×Int):VAR:=(x.1,(x.2,(-1:Int)))
def isLet (l:List NODE) (k:Int):Bool:=decide ((rd l k zN).1=13)
def letV (l:List NODE) (k:Int):VAR:=((rd l k zN).2.2.1,((0:Int),k))
def varsOf (p:PROG) (fn:Int):List VAR:=bif fnIn p fn then (rd p.2 fn zF).2.1.map parV++((unds p.1 (rd p.2 fn zF).2.2.2.1).filter (isLet p.1)).map (letV p.1) else []
theorem fn_par {p:PROG} (hp:FineP p) {fn:Int} (h:0≤fn∧fn<(p.2.length:Int)):(rd p.2 fn zF).2.1.length≤1048576:=by
 obtain⟨k,rfl⟩:∃ m:Nat,fn=(m:Int):=⟨fn.toNat,by omega⟩
 have hk:k<p.2.length:=by omega
 rw [rd_nat hk]
 exact hp.a _ (List.getElem_mem hk)
theorem idx_of {α:Type} {l:List NODE} {k x:Int} (h:x∈unds l k) {K:Option α}:(Cnd.idx x l.length).run K=K:=idx_range (unds_rng h).1
theorem vars_letS (p:PROG) (hp:FineP p) (r:Int) (o:List VAR) (ho:o.length≤1048576):loopF L2_spec_VarsOf (o,unds p.1 r,(0:Int),p,())=some (o++((unds p.1 r).filter (isLet p.1)).map (letV p.1),()):=by
 have hn:=hp.n.len
 have hlen:=unds_len p.1 r
 have h:=loopF_fold (step:=L2_spec_VarsOf) (unds p.1 r) (fun o k=>bif isLet p.1 k then o++[letV p.1 k] else o) (fun i o=>(o,unds p.1 r,(i:Int),p,())) (fun o=>(o,())) (fun i o=>o.length≤1048576+i) (fun i hi o ho=>by
  have hid:∀ {α:Type} {K:Option α},(Cnd.idx (unds p.1 r)[i] p.1.length).run K=K:=fun {α K}=>idx_of (List.getElem_mem hi)
  simp only [L2_spec_VarsOf,lt_cast hi,decide_true,cond_true,idx_run hi,rd_nat hi,hid,isLet]
  cases decide ((rd p.1 (unds p.1 r)[i] zN).1=13)
  ·simp only [cond_false,joinP_some,Option.map_some,wrapSucc (show i<9223372036854775807 by omega)]
   exact⟨by trivial,by omega⟩
  ·simp only [cond_true]
   rw [le_run (by simp;omega)]
   simp only [joinP_some,Option.map_some,wrapSucc (show i<9223372036854775807 by omega)]
   exact⟨by trivial,by simp;omega⟩) (fun o ho=>by
  simp only [L2_spec_VarsOf,not_lt_self,decide_false,cond_false,Option.map_some]) o (by omega)
 have h':=h.1
 rw [fold_filter] at h'
 exact h'
theorem vars_parS (p:PROG) (x:FN) (hx:x.2.1.length≤1048576):loopF L1_spec_VarsOf ([],(0:Int),p,x,())=some (x.2.1.map parV,p,x,()):=by
 have h:=loopF_push (step:=L1_spec_VarsOf) x.2.1 parV (fun i o=>(o,(i:Int),p,x,())) (fun o=>(o,p,x,())) (fun i hi o ho=>by
  simp only [L1_spec_VarsOf,lt_cast hi,decide_true,cond_true,idx_run hi,rd_nat hi]
  rw [le_run (by simp;omega)]
  simp only [Option.map_some,wrapSucc (show i<9223372036854775807 by omega)]
  rfl) (fun o ho=>by
  simp only [L1_spec_VarsOf,not_lt_self,decide_false,cond_false,Option.map_some])
 exact h
theorem spec_Vars_ok (p:PROG) (hp:FineP p) (fn:Int):spec_VarsOf p fn=some (varsOf p fn,()):=by
 unfold spec_VarsOf varsOf fnIn
 rw [lenf1 hp,sIn,Option.bind_some]
 by_cases hr:0≤fn∧fn≤(p.2.length:Int) - 1
 case neg=>simp only [hr,decide_false,Bool.not_false,cond_true,cond_false]
 have hi:∀ {α:Type} {K:Option α},(Cnd.idx fn p.2.length).run K=K:=fun {α K}=>idx_range (by omega)
 have hx:=fn_par hp (show 0≤fn∧fn<(p.2.length:Int) by omega)
 simp only [hr,and_self,decide_true,Bool.not_true,cond_false,cond_true,hi]
 generalize rd p.2 fn zF=x at hx ⊢
 simp only [Option.bind_some,vars_parS p x hx,joinP_some,spec_Under_ok p hp.n,vars_letS p hp _ (x.2.1.map parV) (by simpa using hx)]
theorem filter_len {α:Type} (q:α→Bool) (l:List α):(l.filter q).length≤l.length:=List.length_filter_le ..
theorem vars_len {p:PROG} (hp:FineP p) (fn:Int):(varsOf p fn).length≤2097152:=by
 unfold varsOf fnIn
 by_cases hr:0≤fn∧fn≤(p.2.length:Int) - 1
 ·have hx:=fn_par hp (show 0≤fn∧fn<(p.2.length:Int) by omega)
  have h1:=unds_len p.1 (rd p.2 fn zF).2.2.2.1
  have h2:=filter_len (isLet p.1) (unds p.1 (rd p.2 fn zF).2.2.2.1)
  have h3:=hp.n.len
  simp only [hr,and_self,decide_true,cond_true,List.length_append,List.length_map]
  omega
 ·simp [hr]
def usesK (k:Int):Bool:=decide (2≤k∧k≤6) || (decide (k=14) || decide (k=15))
end Go.Proofs.YtmakhmoielhjeaaGreatDoorE
namespace Go.Proofs.YtmakhmoielhjeaaGreatDoorE
set_option linter.all false
set_option maxRecDepth 100000
def hasT (l:List ByteArray) (s:ByteArray):Bool:=l.any fun y=>decide (y=s)
theorem runc_ext {γ D:Type} {q q':γ→D→Bool} {g:γ→D→γ}:∀ (l:List D) (c:γ),(∀ x∈l,∀ c,q c x=q' c x)→runc q g l c=runc q' g l c
 | [],_,_=>rfl
 | x::l,c,h=>by
  simp only [runc]
  rw [h x (List.mem_cons_self ..),runc_ext l _ fun y hy=>h y (List.mem_cons_of_mem _ hy)]
theorem fold_runc {γ D:Type} (q:γ→D→Bool) (g:γ→D→γ):∀ (l:List D) (c:γ) (b:Bool),l.foldl (fun(s:γ×Bool) x=>(g s.1 x,s.2 || !q s.1 x)) (c,b)=(l.foldl g c,b || !(runc q g l c).isSome)
 | [],c,b=>by simp [runc]
 | x::l,c,b=>by
  simp only [List.foldl_cons,runc]
  rw [fold_runc q g l]
  cases q c x<;>simp
theorem kr_le (k:Int):(kr k).2≤12:=by unfold kr;repeat (first | split | decide)
theorem nk_body {l:List NODE} {a:Int} (h:nodeOk l a=true):nodeBody l a (rd l a zN)=true:=by
 simp only [nodeOk,Bool.and_eq_true] at h
 exact h.2
theorem nk_kind {l:List NODE} {a:Int} (h:nodeOk l a=true):1≤(rd l a zN).1∧(rd l a zN).1≤20:=by
 have:=nk_body h
 simp only [nodeBody,Bool.and_eq_true,decide_eq_true_eq] at this
 exact this.1
theorem nk_len {l:List NODE} {a:Int} (h:nodeOk l a=true):(kr (rd l a zN).1).1≤((rd l a zN).2.2.2.length:Int)∧((rd l a zN).2.2.2.length:Int)≤(kr (rd l a zN).1).2:=by
 have:=nk_body h
 simp only [nodeBody,Bool.and_eq_true,decide_eq_true_eq] at this
 exact this.2.1
theorem nk_twelve {l:List NODE} {a:Int} (h:nodeOk l a=true):(rd l a zN).2.2.2.length≤12:=by
 have h1:=nk_len h
 have h2:=kr_le (rd l a zN).1
 omega
theorem nk_fits {l:List NODE} {a:Int} (h:nodeOk l a=true) {i:Nat} (hi:i<(rd l a zN).2.2.2.length):fits (rd l a zN).1 (i:Int) (rd l (rd l a zN).2.2.2[i] zN).1=true:=by
 have:=nk_body h
 simp only [nodeBody,Bool.and_eq_true] at this
 have h2:=List.all_eq_true.1 this.2.2.2.2 i (by simpa using hi)
 simp only [kidOk,Bool.and_eq_true] at h2
 have e:(rd l a zN).2.2.2.getD i 0=(rd l a zN).2.2.2[i]:=by
  generalize rd l a zN=x at hi ⊢
  simp [hi]
 rw [e] at h2
 exact h2.2.1
def callOk (p:PROG) (fn:Int) (x:NODE):Bool:=decide (0≤fnAt p.2 x.2.2.1∧fnAt p.2 x.2.2.1≤fn - 1) && decide (((rd p.2 (fnAt p.2 x.2.2.1) zF).2.1.length:Int)=(x.2.2.2.length:Int))
def okH (p:PROG) (fn:Int) (x:NODE) (nm:List ByteArray):Bool:=(!usesK x.1 || hasT nm x.2.2.1) && (!decide (x.1=12) || callOk p fn x)
def extT (l:List NODE) (b:Bool) (nm:List ByteArray) (y:Int):List ByteArray:=bif b && isLet l y then nm++[(rd l y zN).2.2.1] else nm
def sn (p:PROG) (fn:Int):Nat→Int→List ByteArray→Bool
 | 0,_,_=>false
 | f+1,k,nm=>okH p fn (rd p.1 k zN) nm && (runc (fun nm y=>sn p fn f y nm) (extT p.1 (decide ((rd p.1 k zN).1=20))) (rd p.1 k zN).2.2.2 nm).isSome
theorem sn_fuel (p:PROG) (fn:Int):∀ (f g:Nat) (a:Int) (nm:List ByteArray),(0:Int)<deepAt p.1 a→a.toNat<f→a.toNat<g→sn p fn f a nm=sn p fn g a nm
 | 0,_,_,_,_,h,_=>absurd h (by omega)
 | _+1,0,_,_,_,_,h=>absurd h (by omega)
 | f+1,g+1,a,nm,hd,hf,hg=>by
  simp only [sn]
  congr 2
  refine runc_ext _ _ fun y hy c=>?_
  obtain⟨k1,k2,k3⟩:=kid_pos hd hy
  exact sn_fuel p fn f g y c k1 (by omega) (by omega)
def sight (p:PROG) (fn:Int) (k:Int) (nm:List ByteArray):Bool:=sn p fn (k.toNat+1) k nm
theorem sight_eq (p:PROG) (fn:Int) {k:Int} (h:(0:Int)<deepAt p.1 k) (nm:List ByteArray):sight p fn k nm=(okH p fn (rd p.1 k zN) nm && (runc (fun nm y=>sight p fn y nm) (extT p.1 (decide ((rd p.1 k zN).1=20))) (rd p.1 k zN).2.2.2 nm).isSome):=by
 unfold sight
 simp only [sn]
 congr 2
 refine runc_ext _ _ fun y hy c=>?_
 obtain⟨k1,k2,k3⟩:=kid_pos h hy
 exact sn_fuel p fn k.toNat (y.toNat+1) y c k1 (by omega) (by omega)
theorem extT_len (l:List NODE) (b:Bool) (nm:List ByteArray) (y:Int):(extT l b nm y).length≤nm.length+1:=by
 unfold extT
 cases b && isLet l y<;>simp
theorem fnAt_lt {l:List FN} {s:ByteArray}:fnAt l s<(l.length:Int):=by
 unfold fnAt
 cases h:l.findIdx? fun f=>decide (f.1=s) with
 | none=>simp only;omega
 | some i=>
  obtain⟨h1,_⟩:=List.findIdx?_eq_some_iff_getElem.1 h
  simp only;omega
end Go.Proofs.YtmakhmoielhjeaaGreatDoorE
namespace Go.Proofs.YtmakhmoielhjeaaGreatDoorE
set_option linter.all false
set_option maxRecDepth 100000
abbrev SEEN:=PROG×(Int×(List ByteArray×Bool))
theorem sHasT' (l:List ByteArray) (s:ByteArray) (hl:l.length≤16000000):spec_l07Has l s=some (hasT l s,()):=by
 have h:=loopF_any (step:=L1_spec_l07Has) l (fun y=>decide (y=s)) (fun k=>(l,s,(k:Int),())) (.inr (true,())) (.inl ()) (fun k hk=>by
  simp only [L1_spec_l07Has,lt_cast hk,decide_true,cond_true,idx_run hk,rd_nat hk,wrapSucc (show k<9223372036854775807 by omega)]
  cases decide (l[k]=s)<;>rfl) (by
  simp only [L1_spec_l07Has,not_lt_self,decide_false,cond_false,Option.map_some])
 have h':loopF L1_spec_l07Has (l,s,(0:Int),())=_:=h
 simp only [spec_l07Has,Option.bind_some,h',hasT]
 cases l.any fun y=>decide (y=s)<;>rfl
theorem ext_none (l:List NODE) (nm:List ByteArray) (y:Int):extT l false nm y=nm:=rfl
theorem foldl_none (l:List NODE) (nm:List ByteArray):∀ ys:List Int,ys.foldl (extT l false) nm=nm
 | []=>rfl
 | y::ys=>foldl_none l nm ys
theorem fits_val {k i j:Int} (h:fits k i j=true) (hk:k≤19) (h2:¬ ((k=16∨k=17)∧0<i)):1≤j∧j≤12:=by
 unfold fits at h
 rw [decide_eq_false (show ¬ k=20 by omega),cond_false] at h
 have e:((decide (k=16) || decide (k=17)) && decide (0<i))=false:=by
  rw [Bool.and_eq_false_iff]
  by_cases hi:0<i
  ·left
   have:¬ (k=16∨k=17):=fun h=>h2 ⟨h,hi⟩
   rw [Bool.or_eq_false_iff]
   exact⟨decide_eq_false (by omega),decide_eq_false (by omega)⟩
  ·right;exact decide_eq_false hi
 rw [e,cond_false] at h
 by_cases h19:k=19
 ·rw [decide_eq_true h19,cond_true] at h
  have:=of_decide_eq_true h
  omega
 ·rw [decide_eq_false h19,cond_false] at h
  exact of_decide_eq_true h
theorem fits_blk {k i j:Int} (h:fits k i j=true) (hk:k=16∨k=17) (hi:0<i):j=20:=by
 unfold fits at h
 rw [decide_eq_false (show ¬ k=20 by omega),cond_false] at h
 have e:((decide (k=16) || decide (k=17)) && decide (0<i))=true:=by
  rw [Bool.and_eq_true,Bool.or_eq_true]
  exact⟨hk.imp decide_eq_true decide_eq_true,decide_eq_true hi⟩
 rw [e,cond_true] at h
 exact of_decide_eq_true h
theorem fits_step {k i j:Int} (h:fits k i j=true) (hk:k=20):13≤j∧j≤19:=by
 unfold fits at h
 rw [decide_eq_true hk,cond_true] at h
 exact of_decide_eq_true h
theorem value_R (p:PROG) (hp:FineP p) (fn:Int):∀ (n:Nat) (k:Int) (nm:List ByteArray) (b:Bool),(0:Int)<deepAt p.1 k→(rd p.1 k zN).1≤12→k.toNat<n→nm.length≤16000000 →
 (R_spec_l07Seen_value n).1 (p,(fn,(nm,b))) k=some ((p,(fn,(nm,b || !sight p fn k nm))),())
 | 0,_,_,_,_,_,h,_=>absurd h (by omega)
 | n+1,k,nm,b,hd,h12,hn,hnm=>by
  have hk:=(deepAt_pos hd).1
  have hok:=(deepAt_pos hd).2.1
  have hkind:=nk_kind hok
  have htw:=nk_twelve hok
  have hkid:=fun y hy=>@kid_pos p.1 k hd y hy
  have hval:∀ i (hi:i<(rd p.1 k zN).2.2.2.length),(rd p.1 (rd p.1 k zN).2.2.2[i] zN).1≤12:=fun i hi=>(fits_val (nk_fits hok hi) (by omega) (by omega)).2
  rw [sight_eq p fn hd]
  show spec_l07Seen_value_S (R_spec_l07Seen_value n).1 (p,(fn,(nm,b))) k=_
  unfold spec_l07Seen_value_S
  rw [idx_range (show 0≤k∧k<((List.length (p,(fn,(nm,b))).1.1:Nat):Int) from hk)]
  generalize rd p.1 k zN=x at h12 hkind htw hkid hval ⊢
  have h20:¬ x.1=20:=by omega
  rw [decide_eq_false h20]
  have hl:=loopF_fold (step:=L1_spec_l07Seen_value (R_spec_l07Seen_value n).1) x.2.2.2 (fun(c:List ByteArray×Bool) y=>(extT p.1 false c.1 y,c.2 || !sight p fn y c.1)) (fun i c=>((i:Int),(p,(fn,(c.1,c.2))),x,())) (fun c=>((p,(fn,(c.1,c.2))),x,())) (fun _ c=>c.1=nm) (fun i hi c hc=>by
   obtain⟨k1,k2,k3⟩:=hkid _ (List.getElem_mem hi)
   have ih:=value_R p hp fn n x.2.2.2[i] c.1 c.2 k1 (hval i hi) (by omega) (by rw [hc];exact hnm)
   refine⟨?_,by rw [ext_none];exact hc⟩
   simp only [L1_spec_l07Seen_value,lt_cast hi,decide_true,cond_true,idx_run hi,rd_nat hi,ih,Option.bind_some,Option.map_some,wrapSucc (show i<9223372036854775807 by omega),ext_none]) (fun c _=>by
   simp only [L1_spec_l07Seen_value,not_lt_self,decide_false,cond_false,Option.map_some]) (nm,b) rfl
  have h1:=hl.1
  rw [fold_runc (fun nm y=>sight p fn y nm) (extT p.1 false),foldl_none] at h1
  have h1':loopF (L1_spec_l07Seen_value (R_spec_l07Seen_value n).1) ((0:Int),(p,(fn,(nm,b))),x,())=_:=h1
  simp only [Option.bind_some,h1',joinP_some]
  generalize (runc (fun nm y=>sight p fn y nm) (extT p.1 false) x.2.2.2 nm).isSome=r
  have hT:=sHasT' nm x.2.2.1 hnm
  have hrest:usesK x.1=true→some ((p,(fn,(nm,b || !r || !hasT nm x.2.2.1))),())=some ((p,(fn,(nm,b || !(okH p fn x nm && r)))),()):=fun hu=>by
   have e12:¬ x.1=12:=by
    intro h;rw [h] at hu;simp [usesK] at hu
   simp only [okH,hu,Bool.not_true,Bool.false_or,decide_eq_false e12,Bool.not_false,Bool.true_or,Bool.and_true]
   cases b<;>cases r<;>cases hasT nm x.2.2.1<;>rfl
  have hcase:x.1=1∨x.1=2∨x.1=3∨x.1=4∨x.1=5∨x.1=6∨(7≤x.1∧x.1≤11)∨x.1=12:=by omega
  have hset:usesK x.1=true→(bif (b || !r) then some ((p,(fn,(nm,true))),()) else (spec_l07Has nm x.2.2.1).bind fun y8=>some ((p,(fn,(nm,!y8.1))),()))=some ((p,(fn,(nm,b || !(okH p fn x nm && r)))),()):=fun hu=>by
   rw [← hrest hu,hT,Option.bind_some]
   cases (b || !r)<;>rfl
  have huse:x.1=2∨x.1=3∨x.1=4∨x.1=5∨x.1=6→usesK x.1=true:=fun h=>by
   simp only [usesK,Bool.or_eq_true,decide_eq_true_eq];omega
  rcases hcase with h | h | h | h | h | h | h | h
  ·have hu:usesK x.1=false:=by rw [h];rfl
   simp only [h,decide_true,decide_false,cond_true,cond_false,joinP_some,Int.reduceEq,okH,show usesK 1=false from rfl,Bool.not_false,Bool.true_or,Bool.true_and]
  ·have:=hset (huse (by omega))
   simp only [h,decide_true,decide_false,cond_true,cond_false,joinP_some,Int.reduceEq]
   rw [this];rfl
  ·have:=hset (huse (by omega))
   simp only [h,decide_true,decide_false,cond_true,cond_false,joinP_some,Int.reduceEq]
   rw [this];rfl
  ·have:=hset (huse (by omega))
   simp only [h,decide_true,decide_false,cond_true,cond_false,joinP_some,Int.reduceEq]
   rw [this];rfl
  ·have:=hset (huse (by omega))
   simp only [h,decide_true,decide_false,cond_true,cond_false,joinP_some,Int.reduceEq]
   rw [this];rfl
  ·have:=hset (huse (by omega))
   simp only [h,decide_true,decide_false,cond_true,cond_false,joinP_some,Int.reduceEq]
   rw [this];rfl
  ·have hu:usesK x.1=false:=by
    simp only [usesK,Bool.or_eq_false_iff,decide_eq_false_iff_not];omega
   simp only [show ¬ x.1=2 by omega,show ¬ x.1=3 by omega,show ¬ x.1=4 by omega,show ¬ x.1=5 by omega,show ¬ x.1=6 by omega,show ¬ x.1=12 by omega,decide_false,cond_false,joinP_some,okH,hu,Bool.not_false,Bool.true_or,Bool.true_and]
  ·have hF:=spec_FnAt_ok p hp x.2.2.1
   simp only [h,decide_true,decide_false,cond_true,cond_false,joinP_some,Int.reduceEq,hF,Option.bind_some,okH,show usesK 12=false from rfl,Bool.not_false,Bool.true_or,Bool.true_and,Bool.not_true,Bool.false_or]
   cases hb:(b || !r)
   ·simp only [cond_false]
    have hr:b=false∧r=true:=by revert hb;cases b<;>cases r<;>simp
    rw [hr.1,hr.2]
    by_cases h0:fnAt p.2 x.2.2.1<0
    ·have hc:callOk p fn x=false:=by
      unfold callOk;rw [Bool.and_eq_false_iff];exact .inl (decide_eq_false (by omega))
     simp only [h0,decide_true,cond_true,joinP_some,hc];rfl
    ·by_cases h1:fn≤fnAt p.2 x.2.2.1
     ·have hc:callOk p fn x=false:=by
       unfold callOk;rw [Bool.and_eq_false_iff];exact .inl (decide_eq_false (by omega))
      simp only [h0,h1,decide_true,decide_false,cond_true,cond_false,joinP_some,hc];rfl
     ·have hlt:=fnAt_lt (l:=p.2) (s:=x.2.2.1)
      simp only [h0,h1,decide_false,cond_false]
      rw [idx_range ⟨by omega,hlt⟩]
      simp only [joinP_some,callOk,decide_eq_true (show 0≤fnAt p.2 x.2.2.1∧fnAt p.2 x.2.2.1≤fn - 1 by omega),Bool.true_and,Bool.and_true,Bool.false_or]
      by_cases hl:((rd p.2 (fnAt p.2 x.2.2.1) zF).2.1.length:Int)=(x.2.2.2.length:Int)<;>simp [hl]
   ·have hr:(b || !(callOk p fn x && r))=true:=by revert hb;cases b<;>cases r<;>simp
    simp only [cond_true,joinP_some,hr]
theorem value_ok (p:PROG) (hp:FineP p) (fn:Int) (k:Int) (nm:List ByteArray) (b:Bool) (hd:(0:Int)<deepAt p.1 k) (h12:(rd p.1 k zN).1≤12) (hnm:nm.length≤16000000):
 spec_l07Seen_value (p,(fn,(nm,b))) k=some ((p,(fn,(nm,b || !sight p fn k nm))),()):=
 limF_some.2 ⟨k.toNat+1,fun n hn=>value_R p hp fn n k nm b hd h12 (by omega) hnm⟩
end Go.Proofs.YtmakhmoielhjeaaGreatDoorE
namespace Go.Proofs.YtmakhmoielhjeaaGreatDoorE
set_option linter.all false
set_option maxRecDepth 100000
def extL (l:List NODE) (k:Int) (nm:List ByteArray):List ByteArray:=(rd l k zN).2.2.2.foldl (extT l true) nm
theorem extL_len (l:List NODE):∀ (ys:List Int) (nm:List ByteArray),(ys.foldl (extT l true) nm).length≤nm.length+ys.length
 | [],nm=>Nat.le_refl _
 | y::ys,nm=>by
  have h1:=extL_len l ys (extT l true nm y)
  have h2:=extT_len l true nm y
  simp only [List.foldl_cons,List.length_cons]
  omega
theorem lOne {α:Type} {l:List α} (h:l.length=1):∃ a,l=[a]:=by
 match l,h with
 | [a],_=>exact⟨a,rfl⟩
theorem lTwo {α:Type} {l:List α} (h:l.length=2):∃ a b,l=[a,b]:=by
 match l,h with
 | [a,b],_=>exact⟨a,b,rfl⟩
theorem lThree {α:Type} {l:List α} (h:l.length=3):∃ a b c,l=[a,b,c]:=by
 match l,h with
 | [a,b,c],_=>exact⟨a,b,c,rfl⟩
theorem bs_R (p:PROG) (hp:FineP p) (fn:Int):∀ n:Nat,
 (∀ (k:Int) (nm:List ByteArray) (b:Bool),(0:Int)<deepAt p.1 k→(rd p.1 k zN).1=20→k.toNat<n→nm.length+12 * (k.toNat+1)≤16000000→(R_spec_l07Seen_block n).1 (p,(fn,(nm,b))) k=some ((p,(fn,(extL p.1 k nm,b || !sight p fn k nm))),())) ∧
 (∀ (k:Int) (nm:List ByteArray) (b:Bool),(0:Int)<deepAt p.1 k→(13≤(rd p.1 k zN).1∧(rd p.1 k zN).1≤19)→k.toNat<n→nm.length+12 * (k.toNat+1)≤16000000→(R_spec_l07Seen_block n).2.1 (p,(fn,(nm,b))) k=some ((p,(fn,(extT p.1 true nm k,b || !sight p fn k nm))),()))
 | 0=>⟨fun _ _ _ _ _ h=>absurd h (by omega),fun _ _ _ _ _ h=>absurd h (by omega)⟩
 | n+1=>by
  obtain⟨ihB,ihS⟩:=bs_R p hp fn n
  have hpn:=hp.n.len
  constructor
  ·intro k nm b hd h20 hn hb
   have hk:=(deepAt_pos hd).1
   have hok:=(deepAt_pos hd).2.1
   have htw:=nk_twelve hok
   have hkid:=fun y hy=>@kid_pos p.1 k hd y hy
   have hstep:∀ i (hi:i<(rd p.1 k zN).2.2.2.length),13≤(rd p.1 (rd p.1 k zN).2.2.2[i] zN).1∧(rd p.1 (rd p.1 k zN).2.2.2[i] zN).1≤19:=fun i hi=>fits_step (nk_fits hok hi) h20
   rw [sight_eq p fn hd]
   show spec_l07Seen_block_S (R_spec_l07Seen_block n).1 (R_spec_l07Seen_block n).2.1 (p,(fn,(nm,b))) k=_
   unfold spec_l07Seen_block_S extL
   have hidx:∀ {α:Type} {K:Option α},(Cnd.idx k (List.length p.1)).run K=K:=fun {α K}=>idx_range hk
   have hrd:rd p.1 k zN=rd p.1 k zN:=rfl
   generalize hx:rd p.1 k zN=x at h20 htw hkid hstep hrd ⊢
   have hl:=loopF_fold (step:=L1_spec_l07Seen_block (R_spec_l07Seen_block n).1 (R_spec_l07Seen_block n).2.1) x.2.2.2 (fun(c:List ByteArray×Bool) y=>(extT p.1 true c.1 y,c.2 || !sight p fn y c.1)) (fun i c=>(k,(i:Int),(p,(fn,(c.1,c.2))),())) (fun c=>((p,(fn,(c.1,c.2))),())) (fun i c=>c.1.length≤nm.length+i) (fun i hi c hc=>by
    obtain⟨k1,k2,k3⟩:=hkid _ (List.getElem_mem hi)
    have ih:=ihS x.2.2.2[i] c.1 c.2 k1 (hstep i hi) (by omega) (by omega)
    refine⟨?_,Nat.le_trans (extT_len ..) (by omega)⟩
    simp only [L1_spec_l07Seen_block,hidx,hx,lt_cast hi,decide_true,cond_true,idx_run hi,rd_nat hi,ih,Option.bind_some,Option.map_some,wrapSucc (show i<9223372036854775807 by omega)]) (fun c _=>by
    simp only [L1_spec_l07Seen_block,hidx,hx,not_lt_self,decide_false,cond_false,Option.map_some]) (nm,b) (Nat.le_refl _)
   have h1:=hl.1
   rw [fold_runc (fun nm y=>sight p fn y nm) (extT p.1 true)] at h1
   have h1':loopF (L1_spec_l07Seen_block (R_spec_l07Seen_block n).1 (R_spec_l07Seen_block n).2.1) (k,(0:Int),(p,(fn,(nm,b))),())=_:=h1
   simp only [Option.bind_some,h1',joinP_some,okH,h20,show usesK 20=false from rfl,Bool.not_false,Bool.true_or,Bool.true_and,decide_true,show((20:Int)=12)=False from by decide,decide_false]
  ·intro k nm b hd hk13 hn hb
   have hk:=(deepAt_pos hd).1
   have hok:=(deepAt_pos hd).2.1
   have hlen:=nk_len hok
   have hkid:=fun y hy=>@kid_pos p.1 k hd y hy
   have hfit:=fun i hi=>@nk_fits p.1 k hok i hi
   rw [sight_eq p fn hd]
   show spec_l07Seen_step_S (R_spec_l07Seen_block n).1 (R_spec_l07Seen_block n).2.1 (p,(fn,(nm,b))) k=_
   unfold spec_l07Seen_step_S
   rw [show extT p.1 true nm k=bif decide ((rd p.1 k zN).1=13) then nm++[(rd p.1 k zN).2.2.1] else nm from rfl]
   rw [idx_range (show 0≤k∧k<((List.length (p,(fn,(nm,b))).1.1:Nat):Int) from hk)]
   generalize rd p.1 k zN=x at hk13 hlen hkid hfit ⊢
   have h20:¬ x.1=20:=by omega
   have h12:¬ x.1=12:=by omega
   have hpos:0<x.2.2.2.length:=by
    have:(kr x.1).1≥1:=by
     have hc:x.1=13∨x.1=14∨x.1=15∨x.1=16∨x.1=17∨x.1=18∨x.1=19:=by omega
     rcases hc with h | h | h | h | h | h | h<;>rw [h]<;>decide
    omega
   obtain⟨k1,k2,k3⟩:=hkid _ (List.getElem_mem hpos)
   have hv:=fits_val (hfit 0 hpos) (by omega) (by simp)
   have hval:=value_ok p hp fn x.2.2.2[0] nm b k1 hv.2 (by omega)
   have hT:=sHasT' nm x.2.2.1 (by omega)
   rw [show(Cnd.idx (0:Int) x.2.2.2.length).run _=_ from idx_run (k:=0) hpos,show rd x.2.2.2 (0:Int) (0:Int)=x.2.2.2[0] from rd_nat (k:=0) hpos]
   simp only [hval,Option.bind_some,okH,decide_eq_false h20,decide_eq_false h12,Bool.not_false,Bool.true_or,Bool.and_true]
   have one:∀ y,(runc (fun nm y=>sight p fn y nm) (extT p.1 false) [y] nm).isSome=sight p fn y nm:=fun y=>by
    simp only [runc];cases sight p fn y nm<;>rfl
   have hcase:x.1=13∨x.1=14∨x.1=15∨x.1=16∨x.1=17∨(x.1=18∨x.1=19):=by omega
   rcases hcase with h | h | h | h | h | h
   ·rw [h] at hlen
    obtain⟨y,hy⟩:=lOne (l:=x.2.2.2) (by have:kr 13=(1,1):=rfl;rw [this] at hlen;simp at hlen;omega)
    simp only [hy,one]
    simp only [h,decide_true,decide_false,cond_true,cond_false,joinP_some,Int.reduceEq,show usesK 13=false from rfl,Bool.not_false,Bool.true_or,Bool.true_and]
    rw [le_run (by simp;omega),le_run (by simp;omega)]
    simp only [joinP_some,List.nil_append,List.getElem_cons_zero]
   ·rw [h] at hlen
    obtain⟨y,hy⟩:=lOne (l:=x.2.2.2) (by have:kr 14=(1,1):=rfl;rw [this] at hlen;simp at hlen;omega)
    simp only [hy,one]
    simp only [h,decide_true,decide_false,cond_true,cond_false,joinP_some,Int.reduceEq,show usesK 14=true from rfl,Bool.not_true,Bool.false_or,List.getElem_cons_zero,hT,Option.bind_some]
    cases b<;>cases sight p fn y nm<;>cases hasT nm x.2.2.1<;>rfl
   ·rw [h] at hlen
    obtain⟨y,hy⟩:=lOne (l:=x.2.2.2) (by have:kr 15=(1,1):=rfl;rw [this] at hlen;simp at hlen;omega)
    simp only [hy,one]
    simp only [h,decide_true,decide_false,cond_true,cond_false,joinP_some,Int.reduceEq,show usesK 15=true from rfl,Bool.not_true,Bool.false_or,List.getElem_cons_zero,hT,Option.bind_some]
    cases b<;>cases sight p fn y nm<;>cases hasT nm x.2.2.1<;>rfl
   ·rw [h] at hlen
    have hl3:x.2.2.2.length=3:=by have:kr 16=(3,3):=rfl;rw [this] at hlen;simp at hlen;omega
    have hb1:=ihB x.2.2.2[1] nm (b || !sight p fn x.2.2.2[0] nm) (hkid _ (List.getElem_mem (by omega))).1 (fits_blk (hfit 1 (by omega)) (.inl h) (by decide)) (by have:=hkid _ (List.getElem_mem (show 1<x.2.2.2.length by omega));omega) (by have:=hkid _ (List.getElem_mem (show 1<x.2.2.2.length by omega));omega)
    have hb2:=ihB x.2.2.2[2] nm (b || !sight p fn x.2.2.2[0] nm || !sight p fn x.2.2.2[1] nm) (hkid _ (List.getElem_mem (by omega))).1 (fits_blk (hfit 2 (by omega)) (.inl h) (by decide)) (by have:=hkid _ (List.getElem_mem (show 2<x.2.2.2.length by omega));omega) (by have:=hkid _ (List.getElem_mem (show 2<x.2.2.2.length by omega));omega)
    have hl:loopF (L1_spec_l07Seen_step (R_spec_l07Seen_block n).1 (R_spec_l07Seen_block n).2.1) ((1:Int),(p,(fn,(nm,b || !sight p fn x.2.2.2[0] nm))),x,())=some ((p,(fn,(nm,b || !sight p fn x.2.2.2[0] nm || !sight p fn x.2.2.2[1] nm || !sight p fn x.2.2.2[2] nm))),()):=by
     rw [loopF_inl (b':=(((2:Nat):Int),(p,(fn,(nm,b || !sight p fn x.2.2.2[0] nm || !sight p fn x.2.2.2[1] nm))),x,())) (by
      have a1:((1:Nat):Int)<(x.2.2.2.length:Int):=by omega
      have:=idx_run (α:=SL1_spec_l07Seen_step ⊕ (SEEN×Unit)) (k:=1) (n:=x.2.2.2.length) (by omega) (K:=some (.inl (((2:Nat):Int),(p,(fn,(nm,b || !sight p fn x.2.2.2[0] nm || !sight p fn x.2.2.2[1] nm))),x,())))
      simp only [L1_spec_l07Seen_step,show(1:Int)<(x.2.2.2.length:Int) from a1,decide_true,cond_true,show rd x.2.2.2 (1:Int) (0:Int)=x.2.2.2[1] from rd_nat (k:=1) (by omega),hb1,Option.bind_some,Option.map_some]
      exact this)]
     rw [loopF_inl (b':=(((3:Nat):Int),(p,(fn,(nm,b || !sight p fn x.2.2.2[0] nm || !sight p fn x.2.2.2[1] nm || !sight p fn x.2.2.2[2] nm))),x,())) (by
      simp only [L1_spec_l07Seen_step,lt_cast (show 2<x.2.2.2.length by omega),decide_true,cond_true,idx_run (show 2<x.2.2.2.length by omega),rd_nat (show 2<x.2.2.2.length by omega),hb2,Option.bind_some,Option.map_some]
      rfl)]
     refine loopF_inr ?_
     simp only [L1_spec_l07Seen_step,show ¬ (((3:Nat):Int)<(x.2.2.2.length:Int)) by omega,decide_false,cond_false,Option.map_some]
    simp only [h,decide_true,decide_false,cond_true,cond_false,joinP_some,Int.reduceEq,show usesK 16=false from rfl,Bool.not_false,Bool.true_or,Bool.true_and,Option.bind_some,hl,Bool.false_and]
    obtain⟨y0,y1,y2,hy⟩:=lThree hl3
    simp only [hy,List.getElem_cons_zero,List.getElem_cons_succ,runc,ext_none]
    cases b<;>cases sight p fn y0 nm<;>cases sight p fn y1 nm<;>cases sight p fn y2 nm<;>rfl
   ·rw [h] at hlen
    have hl2:x.2.2.2.length=2:=by have:kr 17=(2,2):=rfl;rw [this] at hlen;simp at hlen;omega
    have hb1:=ihB x.2.2.2[1] nm (b || !sight p fn x.2.2.2[0] nm) (hkid _ (List.getElem_mem (by omega))).1 (fits_blk (hfit 1 (by omega)) (.inr h) (by decide)) (by have:=hkid _ (List.getElem_mem (show 1<x.2.2.2.length by omega));omega) (by have:=hkid _ (List.getElem_mem (show 1<x.2.2.2.length by omega));omega)
    have hl:loopF (L1_spec_l07Seen_step (R_spec_l07Seen_block n).1 (R_spec_l07Seen_block n).2.1) ((1:Int),(p,(fn,(nm,b || !sight p fn x.2.2.2[0] nm))),x,())=some ((p,(fn,(nm,b || !sight p fn x.2.2.2[0] nm || !sight p fn x.2.2.2[1] nm))),()):=by
     rw [loopF_inl (b':=(((2:Nat):Int),(p,(fn,(nm,b || !sight p fn x.2.2.2[0] nm || !sight p fn x.2.2.2[1] nm))),x,())) (by
      have a1:((1:Nat):Int)<(x.2.2.2.length:Int):=by omega
      have:=idx_run (α:=SL1_spec_l07Seen_step ⊕ (SEEN×Unit)) (k:=1) (n:=x.2.2.2.length) (by omega) (K:=some (.inl (((2:Nat):Int),(p,(fn,(nm,b || !sight p fn x.2.2.2[0] nm || !sight p fn x.2.2.2[1] nm))),x,())))
      simp only [L1_spec_l07Seen_step,show(1:Int)<(x.2.2.2.length:Int) from a1,decide_true,cond_true,show rd x.2.2.2 (1:Int) (0:Int)=x.2.2.2[1] from rd_nat (k:=1) (by omega),hb1,Option.bind_some,Option.map_some]
      exact this)]
     refine loopF_inr ?_
     simp only [L1_spec_l07Seen_step,show ¬ (((2:Nat):Int)<(x.2.2.2.length:Int)) by omega,decide_false,cond_false,Option.map_some]
    simp only [h,decide_true,decide_false,cond_true,cond_false,joinP_some,Int.reduceEq,show usesK 17=false from rfl,Bool.not_false,Bool.true_or,Bool.true_and,Option.bind_some,hl,Bool.false_and]
    obtain⟨y0,y1,hy⟩:=lTwo hl2
    simp only [hy,List.getElem_cons_zero,List.getElem_cons_succ,runc,ext_none]
    cases b<;>cases sight p fn y0 nm<;>cases sight p fn y1 nm<;>rfl
   ·have hu:usesK x.1=false:=by simp only [usesK,Bool.or_eq_false_iff,decide_eq_false_iff_not];omega
    obtain⟨y,hy⟩:=lOne (l:=x.2.2.2) (by
     rcases h with h | h<;>rw [h] at hlen
     ·have:kr 18=(1,1):=rfl;rw [this] at hlen;simp at hlen;omega
     ·have:kr 19=(1,1):=rfl;rw [this] at hlen;simp at hlen;omega)
    simp only [hy,one,hu]
    simp only [show ¬ x.1=13 by omega,show ¬ x.1=14 by omega,show ¬ x.1=15 by omega,show ¬ x.1=16 by omega,show ¬ x.1=17 by omega,decide_false,cond_false,joinP_some,Bool.not_false,Bool.true_or,Bool.true_and,List.getElem_cons_zero,Bool.false_and,Bool.and_false]
theorem block_ok (p:PROG) (hp:FineP p) (fn:Int) (k:Int) (nm:List ByteArray) (b:Bool) (hd:(0:Int)<deepAt p.1 k) (h20:(rd p.1 k zN).1=20) (hnm:nm.length≤2000000):
 spec_l07Seen_block (p,(fn,(nm,b))) k=some ((p,(fn,(extL p.1 k nm,b || !sight p fn k nm))),()):=by
 have hk:=(deepAt_pos hd).1
 have hkn:=hp.n.len
 exact limF_some.2 ⟨k.toNat+1,fun n hn=>(bs_R p hp fn n).1 k nm b hd h20 (by omega) (by omega)⟩
end Go.Proofs.YtmakhmoielhjeaaGreatDoorE
namespace Go.Proofs.YtmakhmoielhjeaaGreatDoorE
set_option linter.all false
set_option maxRecDepth 100000
def varAt (l:List VAR) (s:ByteArray):Int:=match l.findIdx? (fun v=>decide (v.1=s)) with
 | some i=>(i:Int)
 | none=>-1
theorem spec_VarAt_ok (l:List VAR) (hl:l.length≤2097152) (s:ByteArray):spec_VarAt l s=some (varAt l s,()):=by
 have h:=loopF_find (step:=L1_spec_VarAt) l (fun v=>decide (v.1=s)) (fun k=>(l,s,(k:Int),())) (fun k=>.inr ((k:Int),())) (.inl ()) (fun k hk=>by
  simp only [L1_spec_VarAt,lt_cast hk,decide_true,cond_true,idx_run hk,rd_nat hk,wrapSucc (show k<9223372036854775807 by omega)]
  cases decide (l[k].1=s)<;>rfl) (by
  simp only [L1_spec_VarAt,not_lt_self,decide_false,cond_false,Option.map_some])
 have h':loopF L1_spec_VarAt (l,s,(0:Int),())=_:=h
 simp only [spec_VarAt,Option.bind_some,h',varAt]
 cases l.findIdx? fun v=>decide (v.1=s)<;>rfl
def oneQ (l:List VAR) (k:Nat):Bool:=decide (varAt l (rd l (k:Int) zV).1=(k:Int))
def namesL (l:List VAR):Bool:=(List.range l.length).all (oneQ l)
def parN (x:FN):List ByteArray:=x.2.1.map fun a=>a.1
def nrF (p:PROG) (i:Nat):Bool:=namesL (varsOf p (i:Int)) && (sight p (i:Int) (rd p.2 (i:Int) zF).2.2.2.1 (parN (rd p.2 (i:Int) zF)) && (bif decide (0≤(rd p.2 (i:Int) zF).2.2.2.2) then sight p (i:Int) (rd p.2 (i:Int) zF).2.2.2.2 (extL p.1 (rd p.2 (i:Int) zF).2.2.2.1 (parN (rd p.2 (i:Int) zF))) else true))
def namesRight (p:PROG):Bool:=progOk p && (List.range p.2.length).all (nrF p)
structure POK (p:PROG):Prop where
 n:AllN p.1
 f:allF p=true
 l:p.1.length≤300
 m:p.2.length≤8
theorem pok_of {p:PROG} (h:progOk p=true):POK p:=by
 simp only [progOk,Bool.and_eq_true,decide_eq_true_eq] at h
 exact⟨alln_of h.2.2.1,h.2.2.2.1,by omega,by omega⟩
theorem POK.deep {p:PROG} (h:POK p) {k:Int} (hk:0≤k∧k<(p.1.length:Int)):(0:Int)<deepAt p.1 k:=by
 obtain⟨m,rfl⟩:∃ m:Nat,k=(m:Int):=⟨k.toNat,by omega⟩
 have h1:=(h.n m (by omega)).2
 refine in_ok ?_
 unfold deepAt
 rw [decide_eq_true (by omega),cond_true]
 exact h1
structure FnIs (p:PROG) (i:Nat) (x:FN):Prop where
 par:x.2.1.length≤3
 bd:(0:Int)<deepAt p.1 x.2.2.2.1
 bk:(rd p.1 x.2.2.2.1 zN).1=20
 rt:0≤x.2.2.2.2→(0:Int)<deepAt p.1 x.2.2.2.2∧(rd p.1 x.2.2.2.2 zN).1≤12
 rm:-1≤x.2.2.2.2
theorem POK.fn {p:PROG} (h:POK p) {i:Nat} (hi:i<p.2.length):FnIs p i (rd p.2 (i:Int) zF):=by
 have h1:=List.all_eq_true.1 h.f i (by simpa using hi)
 simp only [fokB,fnI,Bool.and_eq_true,decide_eq_true_eq,bodyOk] at h1
 obtain⟨⟨_,h2,_,_,⟨h3,h4⟩,h5⟩,_⟩:=h1
 refine⟨by omega,h.deep (by omega),h4,fun h6=>?_,?_⟩
 ·unfold retOk at h5
  by_cases hz:(rd p.2 (i:Int) zF).2.2.1=0
  ·rw [decide_eq_true hz,cond_true,decide_eq_true_eq] at h5
   omega
  ·rw [decide_eq_false hz,cond_false,Bool.and_eq_true,decide_eq_true_eq,decide_eq_true_eq] at h5
   exact⟨h.deep (by omega),by omega⟩
 ·unfold retOk at h5
  by_cases hz:(rd p.2 (i:Int) zF).2.2.1=0
  ·rw [decide_eq_true hz,cond_true,decide_eq_true_eq] at h5
   omega
  ·rw [decide_eq_false hz,cond_false,Bool.and_eq_true,decide_eq_true_eq,decide_eq_true_eq] at h5
   omega
theorem names_oneS (p:PROG) (hp:FineP p) (i:Int) (l:List VAR) (hl:l.length≤2097152):loopF L1_spec_NamesRight (i,l,(0:Int),p,())=some (bif namesL l then .inl (i,p,()) else .inr (.inr (.inr (.inr (false,()))))):=by
 have h:=loopF_all (step:=L1_spec_NamesRight) (List.range l.length) (oneQ l) (fun k=>(i,l,(k:Int),p,())) (.inl (i,p,())) (.inr (.inr (.inr (.inr (false,()))))) (fun k hk=>by
  have hk':k<l.length:=by simpa using hk
  simp only [L1_spec_NamesRight,lt_cast hk',decide_true,cond_true,idx_run hk',spec_VarAt_ok l hl,Option.bind_some,List.getElem_range,oneQ,wrapSucc (show k<9223372036854775807 by omega)]
  by_cases hc:varAt l (rd l (k:Int) zV).1=(k:Int)
  ·simp only [hc,ne_eq,not_true_eq_false,decide_false,decide_true,cond_false,cond_true,Option.map_some]
  ·simp only [hc,ne_eq,not_false_eq_true,decide_false,decide_true,cond_false,cond_true,Option.map_some]) (by
  simp only [L1_spec_NamesRight,List.length_range,not_lt_self,decide_false,cond_false,Option.map_some])
 exact h
theorem names_parS (p:PROG) (i:Nat) (hi:i<p.2.length) (x:FN) (hx:rd p.2 (i:Int) zF=x) (hl:x.2.1.length≤1048576):loopF L2_spec_NamesRight ((i:Int),(0:Int),p,(p,((i:Int),([],false))),())=some ((i:Int),p,(p,((i:Int),(parN x,false))),()):=by
 have h:=loopF_push (step:=L2_spec_NamesRight) x.2.1 (fun a=>a.1) (fun k o=>((i:Int),(k:Int),p,(p,((i:Int),(o,false))),())) (fun o=>((i:Int),p,(p,((i:Int),(o,false))),())) (fun k hk o ho=>by
  simp only [L2_spec_NamesRight,idx_run hi,hx,lt_cast hk,decide_true,cond_true,idx_run hk,rd_nat hk]
  rw [le_run (by simp;omega)]
  simp only [Option.map_some,wrapSucc (show k<9223372036854775807 by omega)]) (fun o ho=>by
  simp only [L2_spec_NamesRight,idx_run hi,hx,not_lt_self,decide_false,cond_false,Option.map_some])
 exact h
theorem parN_len (x:FN):(parN x).length=x.2.1.length:=by simp [parN]
theorem spec_Names_ok (p:PROG) (hp:FineP p):spec_NamesRight p=some (namesRight p,()):=by
 unfold spec_NamesRight namesRight
 rw [spec_Prog_ok p hp,Option.bind_some]
 cases hok:progOk p
 ·simp only [Bool.not_false,cond_true,Bool.false_and]
 have P:=pok_of hok
 have hn:=P.m
 have hnn:=P.l
 have h:=loopF_all (step:=L3_spec_NamesRight) (List.range p.2.length) (nrF p) (fun i=>((i:Int),p,())) (.inl ()) (.inr (false,())) (fun i hi=>by
  have hi':i<p.2.length:=by simpa using hi
  have F:=P.fn hi'
  simp only [L3_spec_NamesRight,lt_cast hi',decide_true,cond_true,spec_Vars_ok p hp,Option.bind_some,names_oneS p hp (i:Int) _ (vars_len hp _),List.getElem_range,nrF]
  cases namesL (varsOf p (i:Int))
  ·simp only [cond_false,Bool.false_and,joinS_inr]
  ·generalize hx:rd p.2 (i:Int) zF=x at F ⊢
   have hpl:=parN_len x
   have hpar:=F.par
   have hpS:=names_parS p i hi' x hx (by omega)
   have hbl:=block_ok p hp (i:Int) x.2.2.2.1 (parN x) false F.bd F.bk (by omega)
   simp only [cond_true,joinS_inl,hpS,joinP_some,idx_run hi',hx,hbl,Option.bind_some,Bool.false_or,Bool.true_and]
   by_cases hr:0≤x.2.2.2.2
   ·obtain⟨r1,r2⟩:=F.rt hr
    have hel:=extL_len p.1 (rd p.1 x.2.2.2.1 zN).2.2.2 (parN x)
    have htw:=nk_twelve (deepAt_pos F.bd).2.1
    have hv:=value_ok p hp (i:Int) x.2.2.2.2 (extL p.1 x.2.2.2.1 (parN x)) (!sight p (i:Int) x.2.2.2.1 (parN x)) r1 r2 (by unfold extL;omega)
    simp only [hr,decide_true,cond_true,hv,Option.bind_some,joinP_some]
    cases sight p (i:Int) x.2.2.2.1 (parN x)<;>cases sight p (i:Int) x.2.2.2.2 (extL p.1 x.2.2.2.1 (parN x))<;>simp only [Bool.not_true,Bool.not_false,Bool.or_false,Bool.or_true,Bool.true_or,Bool.false_or,Bool.true_and,Bool.false_and,cond_true,cond_false,Option.map_some,joinS_inr,joinS_inl,wrapSucc (show i<9223372036854775807 by omega)]
   ·simp only [hr,decide_false,cond_false,joinP_some]
    cases sight p (i:Int) x.2.2.2.1 (parN x)<;>simp only [Bool.not_true,Bool.not_false,Bool.and_true,Bool.true_and,Bool.false_and,cond_true,cond_false,Option.map_some,joinS_inr,joinS_inl,wrapSucc (show i<9223372036854775807 by omega)]) (by
  simp only [L3_spec_NamesRight,List.length_range,not_lt_self,decide_false,cond_false,Option.map_some])
 have h':loopF L3_spec_NamesRight ((0:Int),p,())=_:=h
 simp only [Bool.not_true,cond_false,Option.bind_some,h',Bool.true_and]
 cases (List.range p.2.length).all (nrF p)<;>rfl
end Go.Proofs.YtmakhmoielhjeaaGreatDoorE
namespace Go.Proofs.YtmakhmoielhjeaaGreatDoorE
set_option linter.all false
set_option maxRecDepth 100000
section
variable {α β γ:Type} {Q:α→Prop}
theorem wq_jb {b:Bool} {x y x' y':Option β} {k k':β→Option α} (h1:b=true→wq (joinP x k) (joinP x' k') Q) (h2:b=false→wq (joinP y k) (joinP y' k') Q):wq (joinP (bif b then x else y) k) (joinP (bif b then x' else y') k') Q:=by
 cases b
 ·exact h2 rfl
 ·exact h1 rfl
theorem wq_js {a:β} {k k':β→Option α} (h:wq (k a) (k' a) Q):wq (joinP (some a) k) (joinP (some a) k') Q:=h
theorem wq_jB {x x':Option γ} {f f':γ→Option β} {k k':β→Option α} (h:wq x x' fun a=>wq (joinP (f a) k) (joinP (f' a) k') Q):wq (joinP (x.bind f) k) (joinP (x'.bind f') k') Q:=by
 obtain⟨r,rfl,rfl,h2⟩:=h;exact h2
theorem wq_jr {c:Cnd} {x x':Option β} {k k':β→Option α} (hc:c.holds) (h:wq (joinP x k) (joinP x' k') Q):wq (joinP (c.run x) k) (joinP (c.run x') k') Q:=by
 have e:∀ y:Option β,c.run y=y:=fun y=>by
  cases y with
  | none=>
   have key:∀ (c:Cnd),c.run (none:Option β)=none:=by
    intro c
    induction c with
    | tt=>rfl
    | idx n len=>simp only [Cnd.run];split<;>rfl
    | nz b=>simp only [Cnd.run];split<;>rfl
    | nn b=>simp only [Cnd.run];split<;>rfl
    | cut lo hi len=>simp only [Cnd.run];split<;>rfl
    | le a b=>simp only [Cnd.run];split<;>rfl
    | both a b iha ihb=>simp only [Cnd.run];rw [ihb,iha]
   exact key c
  | some v=>
   obtain⟨r,h1,h2⟩:=wp_run (c:=c) (K:=some v) (Q:=fun r=>r=v) hc (wp_some rfl)
   rw [h1,h2]
 rw [e,e];exact h
theorem wq_JT {x x':Option (β ⊕ α)} {k k':β→Option α} (h:wq x x' fun _=>True) (hk:∀ b,wq (k b) (k' b) fun _=>True):wq (joinS x k) (joinS x' k') fun _=>True:=by
 obtain⟨s,rfl,rfl,_⟩:=h
 cases s with
 | inl b=>exact hk b
 | inr r=>exact⟨r,rfl,rfl,trivial⟩
theorem wq_MT {x x':Option β} {f:β→α} (h:wq x x' fun _=>True):wq (x.map f) (x'.map f) fun _=>True:=by
 obtain⟨r,rfl,rfl,_⟩:=h;exact⟨f r,rfl,rfl,trivial⟩
theorem wq_BT {x x':Option β} {k k':β→Option α} (h:wq x x' fun _=>True) (hk:∀ b,wq (k b) (k' b) fun _=>True):wq (x.bind k) (x'.bind k') fun _=>True:=by
 obtain⟨r,rfl,rfl,_⟩:=h;exact hk r
theorem wq_ST {r:α}:wq (some r) (some r) fun _=>True:=⟨r,rfl,rfl,trivial⟩
end
theorem wp_bindD {α:Type} {t:Ty} {x:t.D} {k:t.D→Option α} {Q:α→Prop} (h:wp (k x) Q):wp (bindD x k) Q:=h
theorem wq_bindD {α:Type} {t:Ty} {x:t.D} {k k':t.D→Option α} {Q:α→Prop} (h:wq (k x) (k' x) Q):wq (bindD x k) (bindD x k') Q:=h
theorem idxH {n:Int} {m:Nat} (h0:0≤n) (h1:n<(m:Int)):(Cnd.idx n m).holds:=by
 exact⟨h0,h1⟩
def LAst (l:List VAR) (s:ByteArray):Prop:=s∈l.map fun v=>v.1
theorem varAt_rng (l:List VAR) (s:ByteArray):-1≤varAt l s∧varAt l s<(l.length:Int):=by
 unfold varAt
 split
 next i h=>have:=(List.findIdx?_eq_some_iff_getElem.1 h).1;omega
 next=>omega
theorem varAt_pos {l:List VAR} {s:ByteArray} (h:LAst l s):0≤varAt l s:=by
 unfold varAt
 split
 ·omega
 next hn=>
  rw [List.findIdx?_eq_none_iff] at hn
  obtain⟨v,hv,he⟩:=List.mem_map.1 h
  have:=hn v hv
  simp [he] at this
theorem kidAt {l:List NODE} {k:Int} (h:(0:Int)<deepAt l k) {i:Int} (h0:0≤i) (h1:i<((rd l k zN).2.2.2.length:Int)):(0:Int)<deepAt l (rd (rd l k zN).2.2.2 i 0)∧(0≤rd (rd l k zN).2.2.2 i 0∧rd (rd l k zN).2.2.2 i 0<k)∧fits (rd l k zN).1 i (rd l (rd (rd l k zN).2.2.2 i 0) zN).1=true:=by
 obtain⟨m,rfl⟩:∃ m:Nat,i=(m:Int):=⟨i.toNat,by omega⟩
 have hm:m<(rd l k zN).2.2.2.length:=by omega
 rw [rd_nat hm]
 exact⟨(kid_pos h (List.getElem_mem hm)).1,(kid_pos h (List.getElem_mem hm)).2,nk_fits (deepAt_pos h).2.1 hm⟩
theorem var_wp (l:List VAR) (hl:l.length≤2097152) (s:ByteArray):wp (spec_l08Var l s) fun _=>True:=by
 unfold spec_l08Var
 rw [spec_VarAt_ok l hl]
 have hr:=varAt_rng l s
 refine wp_bind (wp_some (wp_bif (fun _=>wp_some trivial) fun hb=>wp_run (idxH ?_ hr.2) (wp_some trivial)))
 simpa using hb
abbrev FT:=PROG→List VAR→Int→Option (Int×Unit)
abbrev FB:=PROG→List VAR→Int→Option (Bool×Unit)
abbrev FG:=PROG→List VAR→Int→Option (FN×Bool×Unit)
section
variable {p:PROG} (hp:FineP p) {l:List VAR} (hl:l.length≤2097152)
theorem vkid {k:Int} (h:(0:Int)<deepAt p.1 k) (h12:(rd p.1 k zN).1≤12) {i:Int} (h0:0≤i) (h1:i<((rd p.1 k zN).2.2.2.length:Int)):(0:Int)<deepAt p.1 (rd (rd p.1 k zN).2.2.2 i 0)∧(0≤rd (rd p.1 k zN).2.2.2 i 0∧rd (rd p.1 k zN).2.2.2 i 0<k)∧(rd p.1 (rd (rd p.1 k zN).2.2.2 i 0) zN).1≤12:=by
 obtain⟨a,b,c⟩:=kidAt h h0 h1
 obtain⟨m,rfl⟩:∃ m:Nat,i=(m:Int):=⟨i.toNat,by omega⟩
 exact⟨a,b,(fits_val c (by omega) (by omega)).2⟩
theorem kr1 {k:Int} (h:(0:Int)<deepAt p.1 k) {K:Int} (hK:(rd p.1 k zN).1=K):(kr K).1≤((rd p.1 k zN).2.2.2.length:Int)∧((rd p.1 k zN).2.2.2.length:Int)≤(kr K).2:=by
 have:=nk_len (deepAt_pos h).2.1
 rwa [hK] at this
theorem two_S {r0 r0':FT} {r1 r1':FB} {r2 r2':FG} (k:Int) (h:(0:Int)<deepAt p.1 k) (hk:9≤(rd p.1 k zN).1∧(rd p.1 k zN).1≤11) (H:∀ y,(0:Int)<deepAt p.1 y→(rd p.1 y zN).1≤12→0≤y∧y<k→wq (r0 p l y) (r0' p l y) fun _=>True):wq (spec_l08Two_S r0 r1 r2 p l k) (spec_l08Two_S r0' r1' r2' p l k) fun _=>True:=by
 unfold spec_l08Two_S
 have hkr:=deepAt_pos h
 have hlen:(2:Int)≤((rd p.1 k zN).2.2.2.length:Int):=by
  have h9:(rd p.1 k zN).1=9∨(rd p.1 k zN).1=10∨(rd p.1 k zN).1=11:=by omega
  rcases h9 with e | e | e<;>exact(kr1 h e).1
 have g0:=vkid h (by omega) (i:=0) (by omega) (by omega)
 have g1:=vkid h (by omega) (i:=1) (by omega) (by omega)
 have i0:(0:Int)<((rd p.1 k zN).2.2.2.length:Int):=by omega
 have i1:(1:Int)<((rd p.1 k zN).2.2.2.length:Int):=by omega
 refine wq_run (idxH hkr.1.1 hkr.1.2) (wq_jr (idxH (by omega) i0) (wq_jB (wq_mono (H _ g0.1 g0.2.2 g0.2.1) fun _ _=>wq_jb (fun _=>wq_jr (idxH (by omega) i1) (wq_jB (wq_mono (H _ g1.1 g1.2.2 g1.2.1) fun _ _=>wq_js wq_ST))) fun _=>wq_js wq_ST)))
include hp in
theorem sig_S {r0 r0':FT} {r1 r1':FB} {r2 r2':FG} (k:Int) (h:(0:Int)<deepAt p.1 k) (hk:(rd p.1 k zN).1≤12) (H:∀ y,(0:Int)<deepAt p.1 y→(rd p.1 y zN).1≤12→0≤y∧y<k→wq (r0 p l y) (r0' p l y) fun _=>True):wq (spec_l08Sig_S r0 r1 r2 p l k) (spec_l08Sig_S r0' r1' r2' p l k) fun _=>True:=by
 unfold spec_l08Sig_S
 have hkr:=deepAt_pos h
 have hlt:=fnAt_lt (l:=p.2) (s:=(rd p.1 k zN).2.2.1)
 have h12:=nk_twelve hkr.2.1
 refine wq_run (idxH hkr.1.1 hkr.1.2) ?_
 rw [spec_FnAt_ok p hp]
 refine wq_bind (wq_some (wq_joinP (wq_mono (Q:=fun x:List VAR×Int×Bool×PROG×FN×NODE×Unit=>x.1=l∧x.2.2.2.1=p∧x.2.2.2.2.2.1=rd p.1 k zN∧(x.2.2.1=false→0≤x.2.1∧x.2.1<(p.2.length:Int)∧(rd p.2 x.2.1 zF).2.1.length=(rd p.1 k zN).2.2.2.length)) ?_ fun x hx=>?_)))
 ·refine wq_bif (fun _=>wq_some ⟨rfl,rfl,rfl,fun h=>by cases h⟩) fun hb=>wq_run (idxH (by simpa using hb) hlt) (wq_some ⟨rfl,rfl,rfl,fun h=>⟨by simpa using hb,hlt,?_⟩⟩)
  have h2:=of_decide_eq_false h
  exact Int.ofNat_inj.1 (Classical.not_not.1 h2)
 ·obtain⟨x1,x2,x3,x4,x5,x6,_⟩:=x
  simp only at hx ⊢
  obtain⟨e1,e2,e3,hx⟩:=hx
  subst e1 e2 e3
  refine wq_bif (fun _=>wq_ST) fun hb=>?_
  obtain⟨a1,a2,a3⟩:=hx hb
  refine wq_joinS (wq_bind (wq_some (wq_mono (wq_loop (fun x:SL1_spec_l08Sig=>x.1=x1∧x.2.1=x2∧0≤x.2.2.1∧x.2.2.2.1=x4∧x.2.2.2.2.2.1=rd x4.1 k zN) (fun x=>((rd x4.1 k zN).2.2.2.length - x.2.2.1).toNat) (Q:=fun s:(Int×PROG×FN×Unit) ⊕ (FN×Bool×Unit)=>∀ b,s=.inl b→b.1=x2∧b.2.1=x4) (fun x hx=>?_) ⟨rfl,rfl,by simp,rfl,rfl⟩) fun s hs=>⟨fun b hb=>?_,fun _ _=>trivial⟩)))
  ·obtain⟨b1,b2,b3,b4,b5,b6,_⟩:=x
   simp only at hx
   obtain⟨e1,e2,b30,e4,e5⟩:=hx
   subst e1 e2 e4 e5
   unfold L1_spec_l08Sig
   simp only
   refine wq_bif (fun hi=>?_) fun hi=>wq_map (wq_map (wq_some (wp_inr fun b hb=>?_)))
   ·have hi':=of_decide_eq_true hi
    have g0:=vkid h hk (i:=b3) (by omega) (by omega)
    have i2:b3<(((rd b4.2 b2 zF).2.1.length:Nat):Int):=by omega
    refine wq_run (idxH b30 hi') (wq_bind (wq_mono (H _ g0.1 g0.2.2 g0.2.1) fun y _=>wq_run (idxH a1 a2) (wq_run (idxH b30 i2) (wq_bif (fun _=>wq_map (wq_map (wq_some (wp_inr fun b hb=>by cases hb)))) fun _=>wq_map (wq_some (wp_inl ?_))))))
    rw [wrap64 (by omega) (by omega)]
    exact⟨⟨rfl,rfl,by simp only;omega,rfl,rfl⟩,by simp only;omega⟩
   ·cases hb
    exact⟨rfl,rfl⟩
  ·obtain⟨f1,f2⟩:=hs b hb
   refine wq_run (idxH ?_ ?_) wq_ST
   ·rw [f1];exact a1
   ·rw [f1,f2];exact a2
include hl in
theorem type_S {r0 r0':FT} {r1 r1':FB} {r2 r2':FG} (k:Int) (h:(0:Int)<deepAt p.1 k) (hk:(rd p.1 k zN).1≤12) (H:∀ y,(0:Int)<deepAt p.1 y→(rd p.1 y zN).1≤12→0≤y∧y<k→wq (r0 p l y) (r0' p l y) fun _=>True) (H1:9≤(rd p.1 k zN).1∧(rd p.1 k zN).1≤11→wq (r1 p l k) (r1' p l k) fun _=>True) (H2:wq (r2 p l k) (r2' p l k) fun _=>True):wq (spec_l08Type_S r0 r1 r2 p l k) (spec_l08Type_S r0' r1' r2' p l k) fun _=>True:=by
 unfold spec_l08Type_S
 have hkr:=deepAt_pos h
 refine wq_run (idxH hkr.1.1 hkr.1.2) (wq_bind (wq_mono (wq_of (var_wp l hl _)) fun y1 _=>wq_joinP (wq_mono (Q:=fun x:List VAR×Int×Int×Bool×PROG×NODE×Unit=>x.1=l∧x.2.1=k∧x.2.2.2.2.1=p∧x.2.2.2.2.2.1=rd p.1 k zN) (wq_bif (fun _=>wq_some ⟨rfl,rfl,rfl,rfl⟩) fun _=>wq_bif (fun _=>wq_some ⟨rfl,rfl,rfl,rfl⟩) fun _=>wq_some ⟨rfl,rfl,rfl,rfl⟩) fun x hx=>?_)))
 obtain⟨x1,x2,x3,x4,x5,x6,_⟩:=x
 simp only at hx ⊢
 obtain⟨e1,e2,e3,e4⟩:=hx
 subst e1 e2 e3 e4
 refine wq_joinP (wq_mono (Q:=fun x:List VAR×Int×Int×Bool×Int×Bool×PROG×NODE×Unit=>x.1=x1∧x.2.1=x2∧x.2.2.2.2.1=(rd x5.1 x2 zN).1∧x.2.2.2.2.2.2.1=x5∧x.2.2.2.2.2.2.2.1=rd x5.1 x2 zN) (wq_bif (fun _=>wq_some ⟨rfl,rfl,rfl,rfl,rfl⟩) fun _=>wq_some ⟨rfl,rfl,rfl,rfl,rfl⟩) fun x hx=>?_)
 obtain⟨z1,z2,z3,z4,z5,z6,z7,z8,_⟩:=x
 simp only at hx ⊢
 obtain⟨e1,e2,e3,e4,e5⟩:=hx
 subst e1 e2 e3 e4 e5
 refine wq_bif (fun _=>wq_ST) fun _=>wq_bif (fun _=>wq_ST) fun _=>wq_JT (wq_bif (fun _=>wq_bif (fun _=>wq_MT wq_ST) fun _=>wq_MT wq_ST) fun _=>?_) fun _=>wq_ST
 refine wq_JT (wq_bif (fun _=>wq_bif (fun _=>wq_MT (wq_MT wq_ST)) fun _=>wq_MT wq_ST) fun _=>?_) fun _=>wq_MT wq_ST
 refine wq_JT (wq_bif (fun _=>wq_bif (fun _=>wq_MT (wq_MT (wq_MT wq_ST))) fun _=>wq_MT wq_ST) fun _=>?_) fun _=>wq_MT wq_ST
 refine wq_JT (wq_bif (fun _=>wq_bif (fun _=>wq_MT (wq_MT (wq_MT (wq_MT wq_ST)))) fun _=>wq_MT wq_ST) fun _=>?_) fun _=>wq_MT wq_ST
 refine wq_JT (wq_bif (fun hb=>?_) fun _=>?_) fun _=>wq_MT wq_ST
 ·have hb':=of_decide_eq_true hb
  have hlen:=(kr1 h hb').1
  have e8:(kr 8).1=1:=by decide
  have g0:=vkid h hk (i:=0) (by omega) (by omega)
  refine wq_run (idxH (by omega) (by omega)) (wq_BT (H _ g0.1 g0.2.2 g0.2.1) fun _=>wq_bif (fun _=>wq_MT (wq_MT (wq_MT (wq_MT (wq_MT wq_ST))))) fun _=>wq_MT wq_ST)
 ·refine wq_joinP (wq_mono (Q:=fun x:List VAR×Int×Int×Bool×PROG×Unit=>x.1=z1∧x.2.1=z2∧x.2.2.2.2.1=z7∧(x.2.2.2.1=true→9≤(rd z7.1 z2 zN).1∧(rd z7.1 z2 zN).1≤11)) ?_ fun x hx=>?_)
  ·refine wq_bif (fun hb=>?_) fun _=>wq_jb (fun hb=>?_) fun _=>?_
   ·exact wq_some ⟨rfl,rfl,rfl,fun _=>by have:=of_decide_eq_true hb;omega⟩
   ·exact wq_js (wq_some ⟨rfl,rfl,rfl,fun _=>by have:=of_decide_eq_true hb;omega⟩)
   ·exact wq_js (wq_some ⟨rfl,rfl,rfl,fun hb=>by have:=of_decide_eq_true hb;omega⟩)
  ·obtain⟨w1,w2,w3,w4,w5,_⟩:=x
   simp only at hx ⊢
   obtain⟨e1,e2,e3,hx⟩:=hx
   subst e1 e2 e3
   exact wq_JT (wq_bif (fun hb=>wq_BT (H1 (hx hb)) fun _=>wq_bif (fun _=>wq_MT (wq_MT (wq_MT (wq_MT (wq_MT (wq_MT wq_ST)))))) fun _=>wq_MT wq_ST) fun _=>wq_JT (wq_bif (fun _=>wq_BT H2 fun _=>wq_bif (fun _=>wq_MT (wq_MT (wq_MT (wq_MT (wq_MT (wq_MT (wq_MT wq_ST))))))) fun _=>wq_MT wq_ST) fun _=>wq_MT wq_ST) fun _=>wq_MT wq_ST) fun _=>wq_MT wq_ST
end
end Go.Proofs.YtmakhmoielhjeaaGreatDoorE
namespace Go.Proofs.YtmakhmoielhjeaaGreatDoorE
set_option linter.all false
set_option maxRecDepth 100000
section
variable {p:PROG} (hp:FineP p) {l:List VAR} (hl:l.length≤2097152)
include hp hl
theorem type_R:∀ m:Nat,∀ n n' k,(0:Int)<deepAt p.1 k→(rd p.1 k zN).1≤12→k.toNat<m→2 * k.toNat+2≤n→2 * k.toNat+2≤n'→wq ((R_spec_l08Type n).1 p l k) ((R_spec_l08Type n').1 p l k) fun _=>True:=by
 intro m
 induction m with
 | zero=>intro n n' k _ _ h;omega
 | succ m ih=>
  intro n n' k h hk hm hn hn'
  have H:∀ j j',2 * k.toNat≤j→2 * k.toNat≤j'→∀ y,(0:Int)<deepAt p.1 y→(rd p.1 y zN).1≤12→0≤y∧y<k→wq ((R_spec_l08Type j).1 p l y) ((R_spec_l08Type j').1 p l y) fun _=>True:=
   fun j j' hj hj' y hy h12 hyk=>ih j j' y hy h12 (by omega) (by omega) (by omega)
  obtain⟨n,rfl⟩:∃ j,n=j+1:=⟨n - 1,by omega⟩
  obtain⟨n',rfl⟩:∃ j,n'=j+1:=⟨n' - 1,by omega⟩
  have T:9≤(rd p.1 k zN).1∧(rd p.1 k zN).1≤11→wq ((R_spec_l08Type n).2.1 p l k) ((R_spec_l08Type n').2.1 p l k) fun _=>True:=fun h9=>by
   obtain⟨n,rfl⟩:∃ j,n=j+1:=⟨n - 1,by omega⟩
   obtain⟨n',rfl⟩:∃ j,n'=j+1:=⟨n' - 1,by omega⟩
   exact two_S (r0:=(R_spec_l08Type n).1) (r0':=(R_spec_l08Type n').1) (r1:=(R_spec_l08Type n).2.1) (r1':=(R_spec_l08Type n').2.1) (r2:=(R_spec_l08Type n).2.2.1) (r2':=(R_spec_l08Type n').2.2.1) k h h9 (H n n' (by omega) (by omega))
  have G:wq ((R_spec_l08Type n).2.2.1 p l k) ((R_spec_l08Type n').2.2.1 p l k) fun _=>True:=by
   obtain⟨n,rfl⟩:∃ j,n=j+1:=⟨n - 1,by omega⟩
   obtain⟨n',rfl⟩:∃ j,n'=j+1:=⟨n' - 1,by omega⟩
   exact sig_S hp (r0:=(R_spec_l08Type n).1) (r0':=(R_spec_l08Type n').1) (r1:=(R_spec_l08Type n).2.1) (r1':=(R_spec_l08Type n').2.1) (r2:=(R_spec_l08Type n).2.2.1) (r2':=(R_spec_l08Type n').2.2.1) k h hk (H n n' (by omega) (by omega))
  exact type_S hl (r0:=(R_spec_l08Type n).1) (r0':=(R_spec_l08Type n').1) (r1:=(R_spec_l08Type n).2.1) (r1':=(R_spec_l08Type n').2.1) (r2:=(R_spec_l08Type n).2.2.1) (r2':=(R_spec_l08Type n').2.2.1) k h hk (H n n' (by omega) (by omega)) T G
theorem type_wp (k:Int) (h:(0:Int)<deepAt p.1 k) (hk:(rd p.1 k zN).1≤12):wp (spec_l08Type p l k) fun _=>True:=by
 unfold spec_l08Type
 exact wq_lim (2 * k.toNat+2) fun n hn=>type_R hp hl _ n _ k h hk (Nat.lt_succ_self _) hn (Nat.le_refl _)
theorem sig_wp (k:Int) (h:(0:Int)<deepAt p.1 k) (hk:(rd p.1 k zN).1≤12):wp (spec_l08Sig p l k) fun _=>True:=by
 unfold spec_l08Sig
 refine wq_lim (2 * k.toNat+1) fun n hn=>?_
 obtain⟨n,rfl⟩:∃ j,n=j+1:=⟨n - 1,by omega⟩
 exact sig_S hp (r0:=(R_spec_l08Type n).1) (r0':=(R_spec_l08Type (2 * k.toNat)).1) (r1:=(R_spec_l08Type n).2.1) (r1':=(R_spec_l08Type (2 * k.toNat)).2.1) (r2:=(R_spec_l08Type n).2.2.1) (r2':=(R_spec_l08Type (2 * k.toNat)).2.2.1) k h hk fun y hy h12 hyk=>type_R hp hl _ n _ y hy h12 (Nat.lt_succ_self _) (by omega) (by omega)
end
section
variable {p:PROG} (hp:FineP p) {l:List VAR} (hl:l.length≤2097152)
theorem skid {k:Int} (h:(0:Int)<deepAt p.1 k) (h13:13≤(rd p.1 k zN).1) (h19:(rd p.1 k zN).1≤19):(0:Int)<((rd p.1 k zN).2.2.2.length:Int)∧(0:Int)<deepAt p.1 (rd (rd p.1 k zN).2.2.2 0 0)∧(0≤rd (rd p.1 k zN).2.2.2 0 0∧rd (rd p.1 k zN).2.2.2 0 0<k)∧(rd p.1 (rd (rd p.1 k zN).2.2.2 0 0) zN).1≤12:=by
 have hlen:(0:Int)<((rd p.1 k zN).2.2.2.length:Int):=by
  have e:(rd p.1 k zN).1=13∨(rd p.1 k zN).1=14∨(rd p.1 k zN).1=15∨(rd p.1 k zN).1=16∨(rd p.1 k zN).1=17∨(rd p.1 k zN).1=18∨(rd p.1 k zN).1=19:=by omega
  rcases e with e | e | e | e | e | e | e<;>exact Int.lt_of_lt_of_le (by decide) (kr1 h e).1
 obtain⟨a,b,c⟩:=kidAt h (i:=0) (by omega) hlen
 exact⟨hlen,a,b,(fits_val (i:=0) c (by omega) (by omega)).2⟩
theorem sblk {k:Int} (h:(0:Int)<deepAt p.1 k) (h16:(rd p.1 k zN).1=16∨(rd p.1 k zN).1=17) {i:Int} (h0:0<i) (hi:i≤(kr (rd p.1 k zN).1).1 - 1):i<((rd p.1 k zN).2.2.2.length:Int)∧(0:Int)<deepAt p.1 (rd (rd p.1 k zN).2.2.2 i 0)∧(0≤rd (rd p.1 k zN).2.2.2 i 0∧rd (rd p.1 k zN).2.2.2 i 0<k)∧(rd p.1 (rd (rd p.1 k zN).2.2.2 i 0) zN).1=20:=by
 have hlen:i<((rd p.1 k zN).2.2.2.length:Int):=by
  have:=(kr1 h rfl).1
  omega
 obtain⟨a,b,c⟩:=kidAt h (i:=i) (by omega) hlen
 obtain⟨m,rfl⟩:∃ m:Nat,i=(m:Int):=⟨i.toNat,by omega⟩
 exact⟨hlen,a,b,fits_blk c h16 (by omega)⟩
theorem bkid {k:Int} (h:(0:Int)<deepAt p.1 k) (h20:(rd p.1 k zN).1=20) {i:Int} (h0:0≤i) (hi:i<((rd p.1 k zN).2.2.2.length:Int)):(0:Int)<deepAt p.1 (rd (rd p.1 k zN).2.2.2 i 0)∧(0≤rd (rd p.1 k zN).2.2.2 i 0∧rd (rd p.1 k zN).2.2.2 i 0<k)∧13≤(rd p.1 (rd (rd p.1 k zN).2.2.2 i 0) zN).1∧(rd p.1 (rd (rd p.1 k zN).2.2.2 i 0) zN).1≤19:=by
 obtain⟨a,b,c⟩:=kidAt h h0 hi
 obtain⟨m,rfl⟩:∃ m:Nat,i=(m:Int):=⟨i.toNat,by omega⟩
 exact⟨a,b,fits_step c h20⟩
theorem blk_S {r0 r0' r1 r1':FB} (k:Int) (h:(0:Int)<deepAt p.1 k) (h20:(rd p.1 k zN).1=20) (H:∀ y,(0:Int)<deepAt p.1 y→13≤(rd p.1 y zN).1∧(rd p.1 y zN).1≤19→0≤y∧y<k→wq (r1 p l y) (r1' p l y) fun _=>True):wq (spec_l08Block_S r0 r1 p l k) (spec_l08Block_S r0' r1' p l k) fun _=>True:=by
 unfold spec_l08Block_S
 have hkr:=deepAt_pos h
 have h12:=nk_twelve hkr.2.1
 refine wq_JT (wq_bind (wq_some (wq_loop (fun x:SL1_spec_l08Block=>x.1=l∧x.2.1=k∧0≤x.2.2.1∧x.2.2.2.1=p) (fun x=>((rd p.1 k zN).2.2.2.length - x.2.2.1).toNat) (fun x hx=>?_) ⟨rfl,rfl,by simp,rfl⟩))) fun _=>wq_ST
 obtain⟨b1,b2,b3,b4,_⟩:=x
 simp only at hx
 obtain⟨e1,e2,b30,e4⟩:=hx
 subst e1 e2 e4
 unfold L1_spec_l08Block
 simp only
 refine wq_run (idxH hkr.1.1 hkr.1.2) (wq_bif (fun hi=>?_) fun hi=>wq_map (wq_map (wq_some (wp_inr trivial))))
 have hi':b3<((rd b4.1 b2 zN).2.2.2.length:Int):=of_decide_eq_true hi
 have g0:=bkid h h20 b30 hi'
 refine wq_run (idxH hkr.1.1 hkr.1.2) (wq_run (idxH b30 hi') (wq_bind (wq_mono (H _ g0.1 g0.2.2 g0.2.1) fun y _=>wq_bif (fun _=>wq_map (wq_map (wq_some (wp_inr trivial)))) fun _=>wq_map (wq_some (wp_inl ?_)))))
 rw [wrap64 (by omega) (by omega)]
 exact⟨⟨rfl,rfl,by simp only;omega,rfl⟩,by simp only;omega⟩
include hp hl in
theorem stp_S {r0 r0' r1 r1':FB} (k:Int) (h:(0:Int)<deepAt p.1 k) (h13:13≤(rd p.1 k zN).1∧(rd p.1 k zN).1≤19) (H:∀ y,(0:Int)<deepAt p.1 y→(rd p.1 y zN).1=20→0≤y∧y<k→wq (r0 p l y) (r0' p l y) fun _=>True):wq (spec_l08Step_S r0 r1 p l k) (spec_l08Step_S r0' r1' p l k) fun _=>True:=by
 unfold spec_l08Step_S
 have hkr:=deepAt_pos h
 have g:=skid h h13.1 h13.2
 refine wq_run (idxH hkr.1.1 hkr.1.2) (wq_bif (fun _=>wq_run (idxH (by omega) g.1) (wq_BT (wq_of (sig_wp hp hl _ g.2.1 g.2.2.2)) fun _=>wq_ST)) fun _=>wq_run (idxH (by omega) g.1) (wq_BT (wq_of (type_wp hp hl _ g.2.1 g.2.2.2)) fun _=>wq_BT (wq_of (var_wp l hl _)) fun _=>?_))
 refine wq_bif (fun _=>wq_ST) fun _=>wq_bif (fun _=>?_) fun _=>wq_bif (fun _=>?_) fun _=>wq_bif (fun e=>?_) fun _=>wq_bif (fun e=>?_) fun _=>wq_ST
 ·exact wq_jb (fun _=>wq_jb (fun _=>wq_js wq_ST) fun _=>wq_js wq_ST) fun _=>wq_js wq_ST
 ·exact wq_jb (fun _=>wq_jb (fun _=>wq_js wq_ST) fun _=>wq_js wq_ST) fun _=>wq_js wq_ST
 ·have e':(rd p.1 k zN).1=16:=of_decide_eq_true e
  have i1:=sblk h (.inl e') (i:=1) (by omega) (by rw [e'];decide)
  have i2:=sblk h (.inl e') (i:=2) (by omega) (by rw [e'];decide)
  exact wq_jb (fun _=>wq_jr (idxH (by omega) i1.1) (wq_jB (wq_mono (H _ i1.2.1 i1.2.2.2 i1.2.2.1) fun _ _=>wq_jb (fun _=>wq_jr (idxH (by omega) i2.1) (wq_jB (wq_mono (H _ i2.2.1 i2.2.2.2 i2.2.2.1) fun _ _=>wq_js wq_ST))) fun _=>wq_js wq_ST))) fun _=>wq_js wq_ST
 ·have e':(rd p.1 k zN).1=17:=of_decide_eq_true e
  have i1:=sblk h (.inr e') (i:=1) (by omega) (by rw [e'];decide)
  exact wq_jb (fun _=>wq_jr (idxH (by omega) i1.1) (wq_jB (wq_mono (H _ i1.2.1 i1.2.2.2 i1.2.2.1) fun _ _=>wq_js wq_ST))) fun _=>wq_js wq_ST
include hp hl in
theorem blk_R:∀ m:Nat,∀ n n' k,(0:Int)<deepAt p.1 k→(rd p.1 k zN).1=20→k.toNat<m→2 * k.toNat+1≤n→2 * k.toNat+1≤n'→wq ((R_spec_l08Block n).1 p l k) ((R_spec_l08Block n').1 p l k) fun _=>True:=by
 intro m
 induction m with
 | zero=>intro n n' k _ _ h;omega
 | succ m ih=>
  intro n n' k h hk hm hn hn'
  obtain⟨n,rfl⟩:∃ j,n=j+1:=⟨n - 1,by omega⟩
  obtain⟨n',rfl⟩:∃ j,n'=j+1:=⟨n' - 1,by omega⟩
  refine blk_S (r0:=(R_spec_l08Block n).1) (r0':=(R_spec_l08Block n').1) (r1:=(R_spec_l08Block n).2.1) (r1':=(R_spec_l08Block n').2.1) k h hk fun y hy h13 hyk=>?_
  obtain⟨n,rfl⟩:∃ j,n=j+1:=⟨n - 1,by omega⟩
  obtain⟨n',rfl⟩:∃ j,n'=j+1:=⟨n' - 1,by omega⟩
  exact stp_S hp hl (r0:=(R_spec_l08Block n).1) (r0':=(R_spec_l08Block n').1) (r1:=(R_spec_l08Block n).2.1) (r1':=(R_spec_l08Block n').2.1) y hy h13 fun z hz h20 hzy=>ih n n' z hz h20 (by omega) (by omega) (by omega)
include hp hl in
theorem blk_wp (k:Int) (h:(0:Int)<deepAt p.1 k) (hk:(rd p.1 k zN).1=20):wp (spec_l08Block p l k) fun _=>True:=by
 unfold spec_l08Block
 exact wq_lim (2 * k.toNat+1) fun n hn=>blk_R hp hl _ n _ k h hk (Nat.lt_succ_self _) hn (Nat.le_refl _)
end
def names (l:List VAR):List ByteArray:=l.map fun v=>v.1
theorem names_set {l:List VAR} {i:Nat} (h:i<l.length) (t:Int×Int):names (l.set i (l[i].1,t))=names l:=by
 unfold names
 rw [List.map_set]
 apply List.ext_getElem (by simp)
 intro k h1 h2
 rw [List.getElem_set]
 split
 ·next e=>subst e;simp
 ·rfl
def LetV (p:PROG) (l:List VAR):Prop:=∀ v∈l,0≤(v:VAR).2.2→(0:Int)<deepAt p.1 v.2.2∧(rd p.1 v.2.2 zN).1=13
theorem letV_vars {p:PROG} (P:POK p) (fn:Int):LetV p (varsOf p fn):=by
 intro v hv h0
 unfold varsOf at hv
 cases hf:fnIn p fn
 ·rw [hf] at hv;cases hv
 ·rw [hf,cond_true] at hv
  have hr:0≤fn∧fn≤(p.2.length:Int) - 1:=by simpa [fnIn] using hf
  obtain⟨m,rfl⟩:∃ m:Nat,fn=(m:Int):=⟨fn.toNat,by omega⟩
  have F:=P.fn (i:=m) (by omega)
  rcases List.mem_append.1 hv with hv | hv
  ·obtain⟨x,_,rfl⟩:=List.mem_map.1 hv
   exact absurd h0 (by simp [parV])
  ·obtain⟨x,hx,rfl⟩:=List.mem_map.1 hv
   obtain⟨h1,h2⟩:=List.mem_filter.1 hx
   have hd:=F.bd
   unfold unds at h1
   rw [decide_eq_false (by omega),cond_false] at h1
   exact⟨undr_deep hd ((mem_undL hd x).1 h1),of_decide_eq_true h2⟩
theorem vars_wp {p:PROG} (hp:FineP p) (P:POK p) (fn:Int):wp (spec_l08Vars p fn) fun y=>y.1.length≤2097152∧(y.2.1=true→names y.1=names (varsOf p fn)):=by
 unfold spec_l08Vars
 rw [spec_Vars_ok p hp fn]
 have hvl:=vars_len hp fn
 refine wp_bind (wp_some (wp_joinS (wp_bind (wp_some (wp_mono (wp_loop (fun x:SL1_spec_l08Vars=>x.1.length≤2097152∧names x.1=names (varsOf p fn)∧0≤x.2.1∧x.2.2.1=p∧LetV p x.1) (fun x=>(x.1.length - x.2.1).toNat) (Q:=fun s:(List VAR×Unit) ⊕ (List VAR×Bool×Unit)=>(∀ b,s=.inl b→b.1.length≤2097152∧names b.1=names (varsOf p fn))∧∀ r,s=.inr r→r.1.length≤2097152∧(r.2.1=true→names r.1=names (varsOf p fn))) (fun x hx=>?_) ⟨hvl,rfl,by simp,rfl,letV_vars P fn⟩) fun s hs=>⟨fun b hb=>wp_some ⟨(hs.1 b hb).1,fun _=>(hs.1 b hb).2⟩,hs.2⟩)))))
 obtain⟨b1,b2,b3,_⟩:=x
 simp only at hx
 obtain⟨hle,hnm,b20,e3,hlv⟩:=hx
 subst e3
 unfold L1_spec_l08Vars
 simp only
 refine wp_bif (fun hi=>?_) fun hi=>wp_map (wp_map (wp_some (wp_inr ⟨fun b hb=>by cases hb;exact⟨hle,hnm⟩,fun r hr=>by cases hr⟩)))
 have hi':=of_decide_eq_true hi
 refine wp_run (idxH b20 hi') (wp_joinP (wp_mono (Q:=fun x:List VAR×Int×PROG×Unit=>x.1.length=b1.length∧names x.1=names b1∧x.2.1=b2∧x.2.2.1=b3∧LetV b3 x.1) (wp_bif (fun hb=>?_) fun _=>wp_some ⟨rfl,rfl,rfl,rfl,hlv⟩) fun x hx=>?_))
 ·have hb':0≤(rd b1 b2 zV).2.2:=of_decide_eq_true hb
  obtain⟨g1,g2⟩:=hlv _ (rd_get b1 b2 zV b20 hi') hb'
  have gr:=deepAt_pos g1
  have gs:=skid g1 (by omega) (by omega)
  refine wp_run (idxH b20 hi') (wp_run (idxH gr.1.1 gr.1.2) (wp_run (idxH (by omega) gs.1) (wp_bind (wp_mono (type_wp hp (by omega) _ gs.2.1 gs.2.2.2) fun y _=>wp_run (idxH b20 hi') (wp_bindD (wp_some ⟨?_,?_,rfl,rfl,?_⟩))))))
  ·simp
  ·obtain⟨m,rfl⟩:∃ m:Nat,b2=(m:Int):=⟨b2.toNat,by omega⟩
   have hm:m<b1.length:=by omega
   simp only [rd_nat hm,Int.toNat_natCast]
   exact names_set hm _
  ·intro v hv h0
   rcases List.mem_or_eq_of_mem_set hv with hv | hv
   ·exact hlv v hv h0
   ·subst hv;exact⟨g1,g2⟩
 ·obtain⟨x1,x2,x3,_⟩:=x
  simp only at hx ⊢
  obtain⟨f1,f2,f3,f4,f5⟩:=hx
  subst f3 f4
  refine wp_run (idxH b20 (by omega)) (wp_bif (fun _=>wp_map (wp_map (wp_some (wp_inr ⟨fun b hb=>(by cases hb),fun r hr=>by cases hr;exact⟨by simp,fun h=>by cases h⟩⟩)))) fun _=>wp_map (wp_some (wp_inl ?_)))
  rw [wrap64 (by omega) (by omega)]
  exact⟨⟨by simp only;omega,by simp only;rw [f2,hnm],by simp only;omega,rfl,f5⟩,by simp only;omega⟩
def VarsR (p:PROG) (i:Int):Prop:=∃ v,spec_l08Vars p i=some (v,true,())
theorem types_wp {p:PROG} (hp:FineP p):wp (spec_TypesRight p) fun y=>y.1=true→progOk p=true∧∀ i:Int,0≤i∧i<(p.2.length:Int)→VarsR p i:=by
 unfold spec_TypesRight
 rw [spec_Names_ok p hp]
 refine wp_bind (wp_some (wp_bif (fun _=>wp_some fun h=>by cases h) fun hb=>?_))
 have hok:progOk p=true:=by
  have:namesRight p=true:=by simpa using hb
  unfold namesRight at this
  exact(Bool.and_eq_true_iff.1 this).1
 have P:=pok_of hok
 have hm:=P.m
 refine wp_joinS (wp_bind (wp_some (wp_mono (wp_loop (fun x:SL1_spec_TypesRight=>0≤x.1∧x.2.1=p∧∀ i:Int,0≤i∧i<x.1→VarsR p i) (fun x=>(p.2.length - x.1).toNat) (Q:=fun s:Unit ⊕ (Bool×Unit)=>(s=.inl ()→∀ i:Int,0≤i∧i<(p.2.length:Int)→VarsR p i)∧∀ r,s=.inr r→r.1=false) (fun x hx=>?_) ⟨by simp,rfl,fun i hi=>by simp only at hi;omega⟩) fun s hs=>⟨fun b hb=>wp_some fun _=>⟨hok,hs.1 hb⟩,fun r hr h=>by rw [hs.2 r hr] at h;cases h⟩)))
 obtain⟨b1,b2,_⟩:=x
 simp only at hx
 obtain⟨b10,e2,hall⟩:=hx
 subst e2
 unfold L1_spec_TypesRight
 simp only
 refine wp_bif (fun hi=>?_) fun hi=>wp_map (wp_map (wp_some (wp_inr ⟨fun _ i hi2=>hall i ?_,fun r hr=>by cases hr⟩)))
 ·have hi':=of_decide_eq_true hi
  have F:=P.fn (i:=b1.toNat) (by omega)
  rw [show((b1.toNat:Nat):Int)=b1 by omega] at F
  obtain⟨y,hy0,hy⟩:=vars_wp hp P b1
  rw [hy0]
  refine wp_bind (wp_some (wp_run (idxH b10 hi') (wp_joinP (wp_mono (Q:=fun x:Int×Bool×PROG×Unit=>x.1=b1∧x.2.2.1=b2∧(x.2.1=false→y.2.1=true)) (wp_bif (fun _=>wp_some ⟨rfl,rfl,fun h=>by cases h⟩) fun hv=>wp_bind (wp_mono (blk_wp hp hy.1 _ F.bd F.bk) fun z _=>wp_bif (fun _=>wp_some ⟨rfl,rfl,fun h=>by cases h⟩) fun _=>wp_bif (fun hr=>?_) fun _=>wp_some ⟨rfl,rfl,fun _=>by simpa using hv⟩)) fun x hx=>?_))))
  ·have hr':=F.rt (of_decide_eq_true hr)
   exact wp_bind (wp_mono (type_wp hp hy.1 _ hr'.1 hr'.2) fun z _=>wp_some ⟨rfl,rfl,fun _=>by simpa using hv⟩)
  ·obtain⟨x1,x2,x3,_⟩:=x
   simp only at hx ⊢
   obtain⟨f1,f2,f3⟩:=hx
   subst f1 f2
   refine wp_bif (fun _=>wp_map (wp_map (wp_some (wp_inr ⟨fun h=>(by cases h),fun r hr=>by cases hr;rfl⟩)))) fun hf=>wp_map (wp_some (wp_inl ?_))
   rw [wrap64 (by omega) (by omega)]
   refine⟨⟨by simp only;omega,rfl,fun i hi2=>?_⟩,by simp only;omega⟩
   by_cases e:i=x1
   ·subst e
    obtain⟨y1,y2,_⟩:=y
    have:=f3 hf
    simp only at this
    subst this
    exact⟨y1,hy0⟩
   ·exact hall i (by simp only at hi2;omega)
 ·have:=of_decide_eq_false hi
  omega
end Go.Proofs.YtmakhmoielhjeaaGreatDoorE
namespace Go.Proofs.YtmakhmoielhjeaaGreatDoorE
end Go.Proofs.YtmakhmoielhjeaaGreatDoorE

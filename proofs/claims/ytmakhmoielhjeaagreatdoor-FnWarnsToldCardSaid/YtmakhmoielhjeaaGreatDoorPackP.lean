/- The engine, texts P1 P2 P3: how code is reckoned as Lean functions, and that it is sound. No condition. -/
import Derived.Test.YtmakhmoielhjeaaGreatDoorPackE
set_option linter.all false
namespace Go.Proofs.YtmakhmoielhjeaaGreatDoorE
theorem Ar {x:Int} (h1:-9223372036854775808≤x) (h2:x<9223372036854775808):IntKind.wrap .i64 x=x:=by
 have e:(2:Int) ^ IntKind.i64.bits=18446744073709551616:=by decide
 have e2:(2:Int) ^ (IntKind.i64.bits - 1)=9223372036854775808:=by decide
 simp only [IntKind.wrap,e,e2,show IntKind.i64.signed=true from rfl,Bool.true_and];split
 ·rename_i h;simp only [decide_eq_true_eq] at h;omega
 ·rename_i h;simp only [decide_eq_true_eq] at h;omega
theorem Xo {n:Nat} (h:n<9223372036854775808):IntKind.wrap .i64 (n:Int)=n:=Ar (by omega) (by omega)
theorem AI {n:Nat} (h:n<9223372036854775807):IntKind.wrap .i64 ((n:Int)+1)=((n+1:Nat):Int):=by
 rw [Ar (by omega) (by omega)];rfl
theorem BF {α β:Type} {step:β→Option (β ⊕ α)} {b b':β} (h:step b=some (.inl b')):AD step b=AD step b':=by rw [Vx,h]
theorem Ay {α β:Type} {step:β→Option (β ⊕ α)} {b:β} {r:α} (h:step b=some (.inr r)):AD step b=some r:=by rw [Vx,h]
theorem aG {α β:Type} {step:β→Option (β ⊕ α)} (I:β→Prop) (μ:β→Nat) (Q:α→Prop) (H:∀ b,I b→(∃ r,step b=some (.inr r)∧Q r)∨∃ b',step b=some (.inl b')∧I b'∧μ b'<μ b) (b:β) (h:I b):∃ r,AD step b=some r∧Q r:=by
 have:∀ n b,μ b<n→I b→∃ r,AD step b=some r∧Q r:=by
  intro n
  induction n with
  | zero=>intro b h;omega
  | succ n ih=>
   intro b hb hI;rcases H b hI with⟨r,h1,h2⟩ | ⟨b',h1,h2,h3⟩
   ·exact⟨r,Ay h1,h2⟩
   ·rw [BF h1];exact ih b' (by omega) h2
 exact this _ b (Nat.lt_succ_self _) h
theorem AK {α:Type} {k n:Nat} {K:Option α} (h:k<n):(Cnd.idx (k:Int) n).run K=K:=by
 simp only [Cnd.run];rw [if_pos];omega
theorem Am {α:Type} {a b:Nat} {K:Option α} (h:a≤b):(Cnd.le a b).run K=K:=by
 simp only [Cnd.run];rw [if_pos h]
theorem jk {α:Type} {a:Nat} {K:Option α}:(Cnd.nn (a:Int)).run K=K:=by
 simp only [Cnd.run];rw [if_pos (by omega)]
theorem AP {α:Type} {l:List α} {k:Nat} {z:α} (h:k<l.length):rd l (k:Int) z=l[k]:=by
 simp [rd,h]
theorem AA {α β:Type} {x:β} {k:β→Option α}:joinP (some x) k=k x:=rfl
theorem BE {α β:Type} {x:β} {k:β→Option α}:joinS (some (.inl x)) k=k x:=rfl
theorem Av {α β:Type} {x:α} {k:β→Option α}:joinS (some (.inr x)) k=some x:=rfl
def Bnd:(t:Ty)→t.D→Prop
 | .int k,n=>(Lit.int k n).wf=true
 | .bool,_=>True
 | .str,s=>s.size≤140737488351232
 | .list _ t,l=>List.length l≤maxLen∧∀ i (h:i<List.length l),Bnd t (List.get l ⟨i,h⟩)
 | .pair a b,x=>Bnd a x.1∧Bnd b x.2
def wt:(t:Ty)→t.D→Nat
 | .int _,_=>0
 | .bool,_=>0
 | .str,s=>s.size
 | .list _ t,l=>List.length l+(List.map (wt t) l).sum
 | .pair a b,x=>wt a x.1+wt b x.2
def big:Nat:=1048576
end Go.Proofs.YtmakhmoielhjeaaGreatDoorE

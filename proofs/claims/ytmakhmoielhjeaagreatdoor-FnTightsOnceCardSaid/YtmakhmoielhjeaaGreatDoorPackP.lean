/- The engine, texts P1 P2 P3: how code is reckoned as Lean functions, and that it is sound. No condition. -/
import Derived.Test.YtmakhmoielhjeaaGreatDoorPackE
set_option linter.all false
namespace Go.Proofs.YtmakhmoielhjeaaGreatDoorE
theorem Aq {x:Int} (h1:-9223372036854775808≤x) (h2:x<9223372036854775808):IntKind.wrap .i64 x=x:=by
 have e:(2:Int) ^ IntKind.i64.bits=18446744073709551616:=by decide
 have e2:(2:Int) ^ (IntKind.i64.bits - 1)=9223372036854775808:=by decide
 simp only [IntKind.wrap,e,e2,show IntKind.i64.signed=true from rfl,Bool.true_and];split
 ·rename_i h;simp only [decide_eq_true_eq] at h;omega
 ·rename_i h;simp only [decide_eq_true_eq] at h;omega
theorem Um {n:Nat} (h:n<9223372036854775808):IntKind.wrap .i64 (n:Int)=n:=Aq (by omega) (by omega)
theorem Ad {n:Nat} (h:n<9223372036854775807):IntKind.wrap .i64 ((n:Int)+1)=((n+1:Nat):Int):=by
 rw [Aq (by omega) (by omega)];rfl
theorem BW {α β:Type} {step:β→Option (β ⊕ α)} {b b':β} (h:step b=some (.inl b')):AK step b=AK step b':=by rw [Sy,h]
theorem BA {α β:Type} {step:β→Option (β ⊕ α)} {b:β} {r:α} (h:step b=some (.inr r)):AK step b=some r:=by rw [Sy,h]
theorem XP {α β:Type} {step:β→Option (β ⊕ α)} (I:β→Prop) (μ:β→Nat) (Q:α→Prop) (H:∀ b,I b→(∃ r,step b=some (.inr r)∧Q r)∨∃ b',step b=some (.inl b')∧I b'∧μ b'<μ b) (b:β) (h:I b):∃ r,AK step b=some r∧Q r:=by
 have:∀ n b,μ b<n→I b→∃ r,AK step b=some r∧Q r:=by
  intro n
  induction n with
  | zero=>intro b h;omega
  | succ n ih=>
   intro b hb hI;rcases H b hI with⟨r,h1,h2⟩ | ⟨b',h1,h2,h3⟩
   ·exact⟨r,BA h1,h2⟩
   ·rw [BW h1];exact ih b' (by omega) h2
 exact this _ b (Nat.lt_succ_self _) h
theorem AU {α:Type} {k n:Nat} {K:Option α} (h:k<n):(Cnd.idx (k:Int) n).run K=K:=by
 simp only [Cnd.run];rw [if_pos];omega
theorem DB {α:Type} {a b:Nat} {K:Option α} (h:a≤b):(Cnd.le a b).run K=K:=by
 simp only [Cnd.run];rw [if_pos h]
theorem AZ {α:Type} {l:List α} {k:Nat} {z:α} (h:k<l.length):rd l (k:Int) z=l[k]:=by
 simp [rd,h]
theorem AD {α β:Type} {x:β} {k:β→Option α}:AB (some x) k=k x:=rfl
theorem BV {α β:Type} {x:β} {k:β→Option α}:Ax (some (.inl x)) k=k x:=rfl
theorem Bg {α β:Type} {x:α} {k:β→Option α}:Ax (some (.inr x)) k=some x:=rfl
def Bnd:(t:Ty)→t.D→Prop
 | .int k,n=>(Lit.int k n).wf=true
 | .bool,_=>True
 | .str,s=>s.size≤140737488351232
 | .list _ t,l=>List.length l≤maxLen∧∀ i (h:i<List.length l),Bnd t (List.get l ⟨i,h⟩)
 | .pair a b,x=>Bnd a x.1∧Bnd b x.2
def wt:(t:Ty)→t.D→Nat
 | .int _,_=>0
 | .bool,_=>0
 | .str,s=>s.size
 | .list _ t,l=>List.length l+(List.map (wt t) l).sum
 | .pair a b,x=>wt a x.1+wt b x.2
def big:Nat:=1048576
end Go.Proofs.YtmakhmoielhjeaaGreatDoorE

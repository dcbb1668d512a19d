/- The law FnTightsOnce holds for every input: it returns true and leaves what came in as it was. No condition beyond the row's own. -/
import Derived.Test.YtmakhmoielhjeaaGreatDoorRows
import Derived.Test.YtmakhmoielhjeaaGreatDoorLawGX
import Derived.Test.YtmakhmoielhjeaaGreatDoorLawPuB
import Derived.JoinedOf
import Derived.Test.YtmakhmoielhjeaaGreatDoorTie
import Derived.SevenTiedAt
import Derived.Test.YtmakhmoielhjeaaGreatDoorCards
import Derived.ChangeSame
import Derived.ChangeVars
import Derived.LaidLaws
import Derived.LaidHandle
set_option linter.all false
namespace Go.Proofs.YtmakhmoielhjeaaGreatDoor
open Go.ChangeShapes Go.WideShapes Go.RowKit Go.Proofs.YtmakhmoielhjeaaGreatDoorE
set_option linter.unusedVariables false
namespace fnTightsOnce
theorem own:ownKnob Tryz.prog.godebug=none:=by kernel_rfl
theorem bF:laidOutB Tryz.prog=true:=by kernel_rfl
theorem met (os:Os) (args:Array Value):laidMetH Tryz.prog Rows.fnTightsOnceRow.laid ((RO Tryz.prog Rows.fnTightsOnceRow.laid os).forCall (fun _ _=>0) ⟨#[],args,[]⟩).memory:=by
 rw [MakeChecks.laidMetH_plain _ _ _ (by kernel_rfl)];exact laidMet_of_run' 8 (by kernel_rfl) (by kernel_rfl)
set_option maxRecDepth 100000 in
theorem fN (os:Os) (started:os.Started) (H:Type) (enc:TypeId×Value→H):
 ReturnsInHanded {} Tryz.checked os 3 .any (fun w args=>(Rows.fnTightsOnceSpec.pre enc Tryz.prog Tryz.f3 Rows.fnTightsOnceRow.domain false w args∧laidMetH Tryz.prog Rows.fnTightsOnceRow.laid w)∧sizedMet enc Tryz.prog Tryz.f3 (OpenSpec.ofChange Rows.fnTightsOnceSpec) false w args) (Rows.fnTightsOnceSpec.post enc Tryz.prog Tryz.f3 false true false false):=by
 refine TP (C:=Tryz.checked) (X:=fun w _=>laidMetH Tryz.prog Rows.fnTightsOnceRow.laid w) (fun _ _ _ hh h=>h.of_heap hh) own started (by kernel_rfl) Tryz.func3
  (ChangeSpec.witness_at (enc:=enc) (C:=Tryz.checked) (os:=os) (X:=fun w _=>laidMetH Tryz.prog Rows.fnTightsOnceRow.laid w) false (RO Tryz.prog Rows.fnTightsOnceRow.laid os) #[.slice none 0 0] 8 rfl (by kernel_rfl) (by kernel_rfl) (by kernel_rfl) (by kernel_rfl) (by kernel_rfl) (met os _)) ?_
 intro W base args ds gs before hval hW _ hsz hL hsh _;exact Tm (f:=3) (ps:=C3.ps) (F:=C3.F) CL kOk bF c3 (by kernel_rfl) (by kernel_rfl) ⟨4,rfl,Tryz.underlying4⟩ rfl
  (fun H ds h=>by match ds,(h:ds.length=1) with | [d0],_=>rfl)
  (fun x hb=>⟨_,X.pure x.1 hb.1,rfl⟩) W (Tv (by kernel_rfl) (Ze (g0:=0) (t:=3) (zero:=#[.int .i64 0]) (by kernel_rfl) hsh (of_decide_eq_true (by kernel_rfl)) (by kernel_rfl) rfl (by kernel_rfl) (by kernel_rfl) Tryz.underlying3)) base args ds gs before hval hW hsz
set_option maxHeartbeats 4000000 in
theorem closed:joinedFacts Tryz.pinned.checked.prog 3 Tryz.f3 Rows.fnTightsOnceSpec Rows.fnTightsOnceRow=true:=by
 simp only [joinedFacts,Bool.and_eq_true]
 repeat' apply And.intro
 all_goals as_aux_lemma=>kernel_rfl
theorem over:Rows.fnTightsOnceRow.holds Tryz.pinned (OpenSpec.ofChange Rows.fnTightsOnceSpec):=
 OpenClaim.holds_of_wide 3 Tryz.f3 rfl rfl rfl rfl rfl rfl rfl ⟨rfl,rfl,rfl,rfl,rfl⟩ rfl rfl rfl rfl rfl (by kernel_rfl) Tryz.func3 closed
  (of_decide_eq_true (by kernel_rfl)) (by unfold Func.isWrapper;first | (rw [if_pos (by decide +kernel)];kernel_rfl) | (rw [if_neg (by decide +kernel)];exact⟨rfl,rfl⟩))
  (fun os started H enc _=>fN os started H enc)
end fnTightsOnce
theorem fnTightsOnce_holds:Rows.FnTightsOnceCardSaid:=
 Claim7.holds_tied_plain_at .later [] [.data, .pinned] true (true, "c2c5dba691bd597c8a6cf46056803d918571961eeddf076224ed15377ea07fe2") false
  fnTightsOnce.over (fun _ h=>by cases h) (by kernel_rfl) (fun _ h=>by cases h) fnTightsOnce_row_tie rfl ⟨rfl,rfl⟩ (by kernel_rfl) rfl
  (fun f fn hf hfn=>by
   obtain rfl : f = 3 := Option.some.inj ((show Tryz.prog.funcNamed "loop.example/g00423/laws.FnTightsOnce" = some 3 by kernel_rfl).symm.trans hf) |>.symm
   obtain rfl:fn=Tryz.f3:=(Option.some.inj (Tryz.func3.symm.trans hfn)).symm
   exact⟨by kernel_rfl,fun j t ht=>by
    have h:(Tryz.f3.params.toList.all fun t=>!Tryz.prog.wantsStandIn t)=true:=by kernel_rfl
    have ht':Tryz.f3.params.toList[j]?=some t:=by simpa using ht
    show Tryz.prog.wantsStandIn t=false
    simpa using List.all_eq_true.1 h t (List.mem_of_getElem? ht')⟩)
  (by kernel_rfl)
end Go.Proofs.YtmakhmoielhjeaaGreatDoor

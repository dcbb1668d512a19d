/- The law FnWarnsTold holds for every input: it returns true and leaves what came in as it was. No condition beyond the row's own. -/
import Derived.Test.YtmakhmoielhjeaaGreatDoorRows
import Derived.Test.YtmakhmoielhjeaaGreatDoorLawGX
import Derived.Test.YtmakhmoielhjeaaGreatDoorLawPuB
import Derived.JoinedOf
import Derived.Test.YtmakhmoielhjeaaGreatDoorTie
import Derived.SevenTiedAt
import Derived.Test.YtmakhmoielhjeaaGreatDoorCards
import Derived.ChangeSame
import Derived.ChangeVars
import Derived.LaidLaws
import Derived.LaidHandle
set_option linter.all false
namespace Go.Proofs.YtmakhmoielhjeaaGreatDoor
open Go.ChangeShapes Go.WideShapes Go.RowKit Go.Proofs.YtmakhmoielhjeaaGreatDoorE
set_option linter.unusedVariables false
namespace fnWarnsTold
theorem own:ownKnob Tryz.prog.godebug=none:=by kernel_rfl
theorem eh:laidOutB Tryz.prog=true:=by kernel_rfl
theorem met (os:Os) (args:Array Value):laidMetH Tryz.prog Rows.fnWarnsToldRow.laid ((US Tryz.prog Rows.fnWarnsToldRow.laid os).forCall (fun _ _=>0) ⟨#[],args,[]⟩).memory:=by
 rw [MakeChecks.laidMetH_plain _ _ _ (by kernel_rfl)];exact laidMet_of_run' 8 (by kernel_rfl) (by kernel_rfl)
set_option maxRecDepth 100000 in
theorem ji (os:Os) (started:os.Started) (H:Type) (enc:TypeId×Value→H):
 ReturnsInHanded {} Tryz.checked os 8 .any (fun w args=>(Rows.fnWarnsToldSpec.pre enc Tryz.prog Tryz.f8 Rows.fnWarnsToldRow.domain false w args∧laidMetH Tryz.prog Rows.fnWarnsToldRow.laid w)∧sizedMet enc Tryz.prog Tryz.f8 (OpenSpec.ofChange Rows.fnWarnsToldSpec) false w args) (Rows.fnWarnsToldSpec.post enc Tryz.prog Tryz.f8 false true false false):=by
 refine WM (C:=Tryz.checked) (X:=fun w _=>laidMetH Tryz.prog Rows.fnWarnsToldRow.laid w) (fun _ _ _ hh h=>h.of_heap hh) own started (by kernel_rfl) Tryz.func8
  (ChangeSpec.witness_at (enc:=enc) (C:=Tryz.checked) (os:=os) (X:=fun w _=>laidMetH Tryz.prog Rows.fnWarnsToldRow.laid w) false (US Tryz.prog Rows.fnWarnsToldRow.laid os) #[.slice none 0 0] 8 rfl (by kernel_rfl) (by kernel_rfl) (by kernel_rfl) (by kernel_rfl) (by kernel_rfl) (met os _)) ?_
 intro W base args ds gs before hval hW _ hsz hL hsh _;exact Wm (f:=8) (ps:=C8.ps) (F:=C8.F) DR kOk eh c8 (by kernel_rfl) (by kernel_rfl) ⟨4,rfl,Tryz.underlying4⟩ rfl
  (fun H ds h=>by match ds,(h:ds.length=1) with | [d0],_=>rfl)
  (fun x hb=>⟨_,X.pure x.1 hb.1,rfl⟩) W (Wx rfl (g:=1) (t:=245) (e:=230) (by kernel_rfl) (by kernel_rfl) (by kernel_rfl) Tryz.underlying245 Tryz.underlying230 (by kernel_rfl) (by kernel_rfl) (dE (g0:=0) (t:=3) (zero:=#[.int .i64 0]) (by kernel_rfl) hsh (of_decide_eq_true (by kernel_rfl)) (by kernel_rfl) rfl (by kernel_rfl) (by kernel_rfl) Tryz.underlying3) hL) base args ds gs before hval hW hsz
set_option maxHeartbeats 4000000 in
theorem closed:joinedFacts Tryz.pinned.checked.prog 8 Tryz.f8 Rows.fnWarnsToldSpec Rows.fnWarnsToldRow=true:=by
 simp only [joinedFacts,Bool.and_eq_true]
 repeat' apply And.intro
 all_goals as_aux_lemma=>kernel_rfl
theorem over:Rows.fnWarnsToldRow.holds Tryz.pinned (OpenSpec.ofChange Rows.fnWarnsToldSpec):=
 OpenClaim.holds_of_wide 8 Tryz.f8 rfl rfl rfl rfl rfl rfl rfl ⟨rfl,rfl,rfl,rfl,rfl⟩ rfl rfl rfl rfl rfl (by kernel_rfl) Tryz.func8 closed
  (of_decide_eq_true (by kernel_rfl)) (by unfold Func.isWrapper;first | (rw [if_pos (by decide +kernel)];kernel_rfl) | (rw [if_neg (by decide +kernel)];exact⟨rfl,rfl⟩))
  (fun os started H enc _=>ji os started H enc)
end fnWarnsTold
theorem fnWarnsTold_holds:Rows.FnWarnsToldCardSaid:=
 Claim7.holds_tied_plain_at .later [] [.data, .data, .data, .data, .pinned] true (true, "c2c5dba691bd597c8a6cf46056803d918571961eeddf076224ed15377ea07fe2") false
  fnWarnsTold.over (fun _ h=>by cases h) (by kernel_rfl) (fun _ h=>by cases h) fnWarnsTold_row_tie rfl ⟨rfl,rfl⟩ (by kernel_rfl) rfl
  (fun f fn hf hfn=>by
   obtain rfl : f = 8 := Option.some.inj ((show Tryz.prog.funcNamed "loop.example/g00423/laws.FnWarnsTold" = some 8 by kernel_rfl).symm.trans hf) |>.symm
   obtain rfl:fn=Tryz.f8:=(Option.some.inj (Tryz.func8.symm.trans hfn)).symm
   exact⟨by kernel_rfl,fun j t ht=>by
    have h:(Tryz.f8.params.toList.all fun t=>!Tryz.prog.wantsStandIn t)=true:=by kernel_rfl
    have ht':Tryz.f8.params.toList[j]?=some t:=by simpa using ht
    show Tryz.prog.wantsStandIn t=false
    simpa using List.all_eq_true.1 h t (List.mem_of_getElem? ht')⟩)
  (by kernel_rfl)
end Go.Proofs.YtmakhmoielhjeaaGreatDoor

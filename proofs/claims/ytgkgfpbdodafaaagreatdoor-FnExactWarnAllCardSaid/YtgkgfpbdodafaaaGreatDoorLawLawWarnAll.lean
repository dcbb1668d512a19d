/- The law FnExactWarnAll holds for every input: it returns true and leaves what came in as it was. No condition beyond the row's own. -/
import Derived.Test.YtgkgfpbdodafaaaGreatDoorRows
import Derived.Test.YtgkgfpbdodafaaaGreatDoorLawGX
import Derived.Test.YtgkgfpbdodafaaaGreatDoorLawWarnAll
import Derived.JoinedOf
import Derived.Test.YtgkgfpbdodafaaaGreatDoorTie
import Derived.SevenTiedAt
import Derived.Test.YtgkgfpbdodafaaaGreatDoorCards
import Derived.ChangeSame
import Derived.ChangeVars
import Derived.LaidLaws
import Derived.LaidHandle
set_option linter.all false
namespace Go.Proofs.YtgkgfpbdodafaaaGreatDoor
open Go.ChangeShapes Go.WideShapes Go.RowKit Go.Proofs.YtgkgfpbdodafaaaGreatDoorE
set_option linter.unusedVariables false
namespace fnExactWarnAll
theorem own : ownKnob Tryz.prog.godebug = none := by kernel_rfl
theorem laidOut : laidOutB Tryz.prog = true := by kernel_rfl
theorem met (os : Os) (args : Array Value) : laidMetH Tryz.prog Rows.fnExactWarnAllRow.laid ((laidWorld Tryz.prog Rows.fnExactWarnAllRow.laid os).forCall (fun _ _ => 0) ⟨#[], args, []⟩).memory := by
  rw [MakeChecks.laidMetH_plain _ _ _ (by kernel_rfl)]
  exact laidMet_of_run' 8 (by kernel_rfl) (by kernel_rfl)
set_option maxRecDepth 100000 in
theorem lifted (os : Os) (started : os.Started) (H : Type) (enc : TypeId × Value → H) :
    ReturnsInHanded {} Tryz.checked os 5 .any (fun w args => (Rows.fnExactWarnAllSpec.pre enc Tryz.prog Tryz.f5 Rows.fnExactWarnAllRow.domain false w args ∧ laidMetH Tryz.prog Rows.fnExactWarnAllRow.laid w) ∧ sizedMet enc Tryz.prog Tryz.f5 (OpenSpec.ofChange Rows.fnExactWarnAllSpec) false w args) (Rows.fnExactWarnAllSpec.post enc Tryz.prog Tryz.f5 false true false false) := by
  refine returns_door (C := Tryz.checked) (X := fun w _ => laidMetH Tryz.prog Rows.fnExactWarnAllRow.laid w) (fun _ _ _ hh h => h.of_heap hh) own started (by kernel_rfl) Tryz.func5
    (ChangeSpec.witness_at (enc := enc) (C := Tryz.checked) (os := os) (X := fun w _ => laidMetH Tryz.prog Rows.fnExactWarnAllRow.laid w) false (laidWorld Tryz.prog Rows.fnExactWarnAllRow.laid os) #[.agg #[.slice none 0 0, .slice none 0 0]] 8 rfl (by kernel_rfl) (by kernel_rfl) (by kernel_rfl) (by kernel_rfl) (by kernel_rfl) (met os _)) ?_
  intro W base args ds gs before hval hW _ hsz hL hsh _
  exact contract_of (f := 5) (ps := C5.ps) (F := C5.F) tabOk kOk laidOut c5 (by kernel_rfl) (by kernel_rfl) ⟨4, rfl, Tryz.underlying4⟩ rfl
    (fun H ds h => by match ds, (h : ds.length = 1) with | [d0], _ => rfl)
    (fun x hb => ⟨_, WarnAll.pure x.1 hb.1, rfl⟩) W (inv_of_laid rfl (g := 0) (t := 157) (e := 143) (by kernel_rfl) (by kernel_rfl) (by kernel_rfl) Tryz.underlying157 Tryz.underlying143 (by kernel_rfl) (by kernel_rfl) (int_some (g0 := 3) (t := 3) (zero := #[.int .i64 0]) (by kernel_rfl) hsh (of_decide_eq_true (by kernel_rfl)) (by kernel_rfl) rfl (by kernel_rfl) (by kernel_rfl) Tryz.underlying3) hL) base args ds gs before hval hW hsz
theorem over : Rows.fnExactWarnAllRow.holds Tryz.pinned (OpenSpec.ofChange Rows.fnExactWarnAllSpec) :=
  OpenClaim.holds_of_wide 5 Tryz.f5 rfl rfl rfl rfl rfl rfl rfl ⟨rfl, rfl, rfl, rfl, rfl⟩ rfl rfl rfl rfl rfl (by kernel_rfl) Tryz.func5 (by kernel_rfl)
    (of_decide_eq_true (by kernel_rfl)) (by unfold Func.isWrapper; first | (rw [if_pos (by decide +kernel)]; kernel_rfl) | (rw [if_neg (by decide +kernel)]; exact ⟨rfl, rfl⟩))
    (fun os started H enc _ => lifted os started H enc)
end fnExactWarnAll
theorem fnExactWarnAll_holds : Rows.FnExactWarnAllCardSaid :=
  Claim7.holds_tied_plain_at .later [] [.data, .data, .data, .data, .pinned] true (true, "ead415c9b31c834d709513c57346e6ce1f22d782d44f565d96423ed6448e59b2") false
    fnExactWarnAll.over (fun _ h => by cases h) (by kernel_rfl) (fun _ h => by cases h) fnExactWarnAll_row_tie rfl ⟨rfl, rfl⟩ (by kernel_rfl) rfl
    (fun f fn hf hfn => by
      obtain rfl : f = 5 := Option.some.inj ((show Tryz.prog.funcNamed "loop.example/g00423/laws.FnExactWarnAll" = some 5 by kernel_rfl).symm.trans hf) |>.symm
      obtain rfl : fn = Tryz.f5 := (Option.some.inj (Tryz.func5.symm.trans hfn)).symm
      exact ⟨by kernel_rfl, fun j t ht => by
        have h : (Tryz.f5.params.toList.all fun t => !Tryz.prog.wantsStandIn t) = true := by kernel_rfl
        have ht' : Tryz.f5.params.toList[j]? = some t := by simpa using ht
        show Tryz.prog.wantsStandIn t = false
        simpa using List.all_eq_true.1 h t (List.mem_of_getElem? ht')⟩)
    (by kernel_rfl)
end Go.Proofs.YtgkgfpbdodafaaaGreatDoor

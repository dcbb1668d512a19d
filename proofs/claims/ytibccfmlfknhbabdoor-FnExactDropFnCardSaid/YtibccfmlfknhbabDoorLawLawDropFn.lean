/- The law FnExactDropFn holds for every input: it returns true and leaves what came in as it was. No condition beyond the row's own. -/
import Derived.Test.YtibccfmlfknhbabDoorRows
import Derived.Test.YtibccfmlfknhbabDoorLawGX
import Derived.Test.YtibccfmlfknhbabDoorLawDropFn
import Derived.JoinedOf
import Derived.Test.YtibccfmlfknhbabDoorTie
import Derived.SevenTiedAt
import Derived.Test.YtibccfmlfknhbabDoorCards
import Derived.ChangeSame
import Derived.ChangeVars
import Derived.LaidLaws
import Derived.LaidHandle
set_option linter.all false
namespace Go.Proofs.YtibccfmlfknhbabDoor
open Go.ChangeShapes Go.WideShapes Go.RowKit Go.Proofs.YtibccfmlfknhbabDoorE
set_option linter.unusedVariables false
namespace fnExactDropFn
theorem own : ownKnob Tryd.prog.godebug = none := by kernel_rfl
theorem laidOut : laidOutB Tryd.prog = true := by kernel_rfl
theorem met (os : Os) (args : Array Value) : laidMetH Tryd.prog Rows.fnExactDropFnRow.laid ((laidWorld Tryd.prog Rows.fnExactDropFnRow.laid os).forCall (fun _ _ => 0) ⟨#[], args, []⟩).memory := by
  rw [MakeChecks.laidMetH_plain _ _ _ (by kernel_rfl)]
  exact laidMet_of_run' 8 (by kernel_rfl) (by kernel_rfl)
set_option maxRecDepth 100000 in
theorem lifted (os : Os) (started : os.Started) (H : Type) (enc : TypeId × Value → H) :
    ReturnsInHanded {} Tryd.checked os 6 .any (fun w args => (Rows.fnExactDropFnSpec.pre enc Tryd.prog Tryd.f6 Rows.fnExactDropFnRow.domain false w args ∧ laidMetH Tryd.prog Rows.fnExactDropFnRow.laid w) ∧ sizedMet enc Tryd.prog Tryd.f6 (OpenSpec.ofChange Rows.fnExactDropFnSpec) false w args) (Rows.fnExactDropFnSpec.post enc Tryd.prog Tryd.f6 false true false false) := by
  refine returns_door (C := Tryd.checked) (X := fun w _ => laidMetH Tryd.prog Rows.fnExactDropFnRow.laid w) (fun _ _ _ hh h => h.of_heap hh) own started (by kernel_rfl) Tryd.func6
    (ChangeSpec.witness_at (enc := enc) (C := Tryd.checked) (os := os) (X := fun w _ => laidMetH Tryd.prog Rows.fnExactDropFnRow.laid w) false (laidWorld Tryd.prog Rows.fnExactDropFnRow.laid os) #[.agg #[.slice none 0 0, .slice none 0 0], .string ByteArray.empty] 8 rfl (by kernel_rfl) (by kernel_rfl) (by kernel_rfl) (by kernel_rfl) (by kernel_rfl) (met os _)) ?_
  intro W base args ds gs before hval hW _ hsz hL hsh _
  exact contract_of (f := 6) (ps := C6.ps) (F := C6.F) tabOk kOk laidOut c6 (by kernel_rfl) (by kernel_rfl) ⟨4, rfl, Tryd.underlying4⟩ rfl
    (fun H ds h => by match ds, (h : ds.length = 2) with | [d0, d1], _ => rfl)
    (fun x hb => ⟨_, DropFn.pure x.1 x.2.1 hb.1 hb.2.1, rfl⟩) W (inv_of_ints (by kernel_rfl) (int_some (g0 := 0) (t := 3) (zero := #[.int .i64 0]) (by kernel_rfl) hsh (of_decide_eq_true (by kernel_rfl)) (by kernel_rfl) rfl (by kernel_rfl) (by kernel_rfl) Tryd.underlying3)) base args ds gs before hval hW hsz
theorem over : Rows.fnExactDropFnRow.holds Tryd.pinned (OpenSpec.ofChange Rows.fnExactDropFnSpec) :=
  OpenClaim.holds_of_wide 6 Tryd.f6 rfl rfl rfl rfl rfl rfl rfl ⟨rfl, rfl, rfl, rfl, rfl⟩ rfl rfl rfl rfl rfl (by kernel_rfl) Tryd.func6 (by kernel_rfl)
    (of_decide_eq_true (by kernel_rfl)) (by unfold Func.isWrapper; first | (rw [if_pos (by decide +kernel)]; kernel_rfl) | (rw [if_neg (by decide +kernel)]; exact ⟨rfl, rfl⟩))
    (fun os started H enc _ => lifted os started H enc)
end fnExactDropFn
/-- The card. -/
theorem fnExactDropFn_holds : Rows.FnExactDropFnCardSaid :=
  Claim7.holds_tied_plain_at .later [] [.data, .pinned] true (true, "ab511a6cd8408bd12044c4613e7c36798d7cc5af06627f6fc1a971f7b60dfdaf") false
    fnExactDropFn.over (fun _ h => by cases h) (by kernel_rfl) (fun _ h => by cases h) fnExactDropFn_row_tie rfl ⟨rfl, rfl⟩ (by kernel_rfl) rfl
    (fun f fn hf hfn => by
      obtain rfl : f = 6 := Option.some.inj ((show Tryd.prog.funcNamed "loop.example/g00423/laws.FnExactDropFn" = some 6 by kernel_rfl).symm.trans hf) |>.symm
      obtain rfl : fn = Tryd.f6 := (Option.some.inj (Tryd.func6.symm.trans hfn)).symm
      exact ⟨by kernel_rfl, fun j t ht => by
        have h : (Tryd.f6.params.toList.all fun t => !Tryd.prog.wantsStandIn t) = true := by kernel_rfl
        have ht' : Tryd.f6.params.toList[j]? = some t := by simpa using ht
        show Tryd.prog.wantsStandIn t = false
        simpa using List.all_eq_true.1 h t (List.mem_of_getElem? ht')⟩)
    (by kernel_rfl)
end Go.Proofs.YtibccfmlfknhbabDoor

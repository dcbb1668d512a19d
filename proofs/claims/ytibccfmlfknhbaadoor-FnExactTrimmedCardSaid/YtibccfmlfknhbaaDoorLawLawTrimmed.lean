/- The law FnExactTrimmed holds for every input: it returns true and leaves what came in as it was. No condition beyond the row's own. -/
import Derived.Test.YtibccfmlfknhbaaDoorRows
import Derived.Test.YtibccfmlfknhbaaDoorLawGX
import Derived.Test.YtibccfmlfknhbaaDoorLawTrimmed
import Derived.JoinedOf
import Derived.Test.YtibccfmlfknhbaaDoorTie
import Derived.SevenTiedAt
import Derived.Test.YtibccfmlfknhbaaDoorCards
import Derived.ChangeSame
import Derived.ChangeVars
import Derived.LaidLaws
import Derived.LaidHandle
set_option linter.all false
namespace Go.Proofs.YtibccfmlfknhbaaDoor
open Go.ChangeShapes Go.WideShapes Go.RowKit Go.Proofs.YtibccfmlfknhbaaDoorE
set_option linter.unusedVariables false
namespace fnExactTrimmed
theorem own : ownKnob Tryd.prog.godebug = none := by kernel_rfl
theorem laidOut : laidOutB Tryd.prog = true := by kernel_rfl
theorem met (os : Os) (args : Array Value) : laidMetH Tryd.prog Rows.fnExactTrimmedRow.laid ((laidWorld Tryd.prog Rows.fnExactTrimmedRow.laid os).forCall (fun _ _ => 0) ⟨#[], args, []⟩).memory := by
  rw [MakeChecks.laidMetH_plain _ _ _ (by kernel_rfl)]
  exact laidMet_of_run' 8 (by kernel_rfl) (by kernel_rfl)
set_option maxRecDepth 100000 in
theorem lifted (os : Os) (started : os.Started) (H : Type) (enc : TypeId × Value → H) :
    ReturnsInHanded {} Tryd.checked os 8 .any (fun w args => (Rows.fnExactTrimmedSpec.pre enc Tryd.prog Tryd.f8 Rows.fnExactTrimmedRow.domain false w args ∧ laidMetH Tryd.prog Rows.fnExactTrimmedRow.laid w) ∧ sizedMet enc Tryd.prog Tryd.f8 (OpenSpec.ofChange Rows.fnExactTrimmedSpec) false w args) (Rows.fnExactTrimmedSpec.post enc Tryd.prog Tryd.f8 false true false false) := by
  refine returns_door (C := Tryd.checked) (X := fun w _ => laidMetH Tryd.prog Rows.fnExactTrimmedRow.laid w) (fun _ _ _ hh h => h.of_heap hh) own started (by kernel_rfl) Tryd.func8
    (ChangeSpec.witness_at (enc := enc) (C := Tryd.checked) (os := os) (X := fun w _ => laidMetH Tryd.prog Rows.fnExactTrimmedRow.laid w) false (laidWorld Tryd.prog Rows.fnExactTrimmedRow.laid os) #[.agg #[.string ByteArray.empty, .int .i64 0, .slice none 0 0, .slice none 0 0]] 8 rfl (by kernel_rfl) (by kernel_rfl) (by kernel_rfl) (by kernel_rfl) (by kernel_rfl) (met os _)) ?_
  intro W base args ds gs before hval hW _ hsz hL hsh _
  exact contract_of (f := 8) (ps := C8.ps) (F := C8.F) tabOk kOk laidOut c8 (by kernel_rfl) (by kernel_rfl) ⟨4, rfl, Tryd.underlying4⟩ rfl
    (fun H ds h => by match ds, (h : ds.length = 1) with | [d0], _ => rfl)
    (fun x hb => ⟨_, Trimmed.pure x.1 hb.1, rfl⟩) W (inv_of_ints (by kernel_rfl) (int_some (g0 := 0) (t := 3) (zero := #[.int .i64 0]) (by kernel_rfl) hsh (of_decide_eq_true (by kernel_rfl)) (by kernel_rfl) rfl (by kernel_rfl) (by kernel_rfl) Tryd.underlying3)) base args ds gs before hval hW hsz
theorem over : Rows.fnExactTrimmedRow.holds Tryd.pinned (OpenSpec.ofChange Rows.fnExactTrimmedSpec) :=
  OpenClaim.holds_of_wide 8 Tryd.f8 rfl rfl rfl rfl rfl rfl rfl ⟨rfl, rfl, rfl, rfl, rfl⟩ rfl rfl rfl rfl rfl (by kernel_rfl) Tryd.func8 (by kernel_rfl)
    (of_decide_eq_true (by kernel_rfl)) (by unfold Func.isWrapper; first | (rw [if_pos (by decide +kernel)]; kernel_rfl) | (rw [if_neg (by decide +kernel)]; exact ⟨rfl, rfl⟩))
    (fun os started H enc _ => lifted os started H enc)
end fnExactTrimmed
/-- The card. -/
theorem fnExactTrimmed_holds : Rows.FnExactTrimmedCardSaid :=
  Claim7.holds_tied_plain_at .later [] [.data, .pinned] true (true, "b3b3cd8c9deea0343a611874c9d3ee40f317e0a8f54b36841e4dd7b4f666d193") false
    fnExactTrimmed.over (fun _ h => by cases h) (by kernel_rfl) (fun _ h => by cases h) fnExactTrimmed_row_tie rfl ⟨rfl, rfl⟩ (by kernel_rfl) rfl
    (fun f fn hf hfn => by
      obtain rfl : f = 8 := Option.some.inj ((show Tryd.prog.funcNamed "loop.example/g00423/laws.FnExactTrimmed" = some 8 by kernel_rfl).symm.trans hf) |>.symm
      obtain rfl : fn = Tryd.f8 := (Option.some.inj (Tryd.func8.symm.trans hfn)).symm
      exact ⟨by kernel_rfl, fun j t ht => by
        have h : (Tryd.f8.params.toList.all fun t => !Tryd.prog.wantsStandIn t) = true := by kernel_rfl
        have ht' : Tryd.f8.params.toList[j]? = some t := by simpa using ht
        show Tryd.prog.wantsStandIn t = false
        simpa using List.all_eq_true.1 h t (List.mem_of_getElem? ht')⟩)
    (by kernel_rfl)
end Go.Proofs.YtibccfmlfknhbaaDoor

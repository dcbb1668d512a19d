/- The law FnExactTakeFn holds for every input: it returns true and leaves what came in as it was. No condition beyond the row's own. -/
import Derived.Test.YtgkgfpbdodafaaaDoorRows
import Derived.Test.YtgkgfpbdodafaaaDoorLawGX
import Derived.Test.YtgkgfpbdodafaaaDoorLawTakeFn
import Derived.JoinedOf
import Derived.Test.YtgkgfpbdodafaaaDoorTie
import Derived.SevenTiedAt
import Derived.Test.YtgkgfpbdodafaaaDoorCards
import Derived.ChangeSame
import Derived.ChangeVars
import Derived.LaidLaws
import Derived.LaidHandle
set_option linter.all false
namespace Go.Proofs.YtgkgfpbdodafaaaDoor
open Go.ChangeShapes Go.WideShapes Go.RowKit Go.Proofs.YtgkgfpbdodafaaaDoorE
set_option linter.unusedVariables false
namespace fnExactTakeFn
theorem own : ownKnob Tryd.prog.godebug = none := by kernel_rfl
theorem laidOut : laidOutB Tryd.prog = true := by kernel_rfl
theorem met (os : Os) (args : Array Value) : laidMetH Tryd.prog Rows.fnExactTakeFnRow.laid ((laidWorld Tryd.prog Rows.fnExactTakeFnRow.laid os).forCall (fun _ _ => 0) ⟨#[], args, []⟩).memory := by
  rw [MakeChecks.laidMetH_plain _ _ _ (by kernel_rfl)]
  exact laidMet_of_run' 8 (by kernel_rfl) (by kernel_rfl)
set_option maxRecDepth 100000 in
theorem lifted (os : Os) (started : os.Started) (H : Type) (enc : TypeId × Value → H) :
    ReturnsInHanded {} Tryd.checked os 3 .any (fun w args => (Rows.fnExactTakeFnSpec.pre enc Tryd.prog Tryd.f3 Rows.fnExactTakeFnRow.domain false w args ∧ laidMetH Tryd.prog Rows.fnExactTakeFnRow.laid w) ∧ sizedMet enc Tryd.prog Tryd.f3 (OpenSpec.ofChange Rows.fnExactTakeFnSpec) false w args) (Rows.fnExactTakeFnSpec.post enc Tryd.prog Tryd.f3 false true false false) := by
  refine returns_door (C := Tryd.checked) (X := fun w _ => laidMetH Tryd.prog Rows.fnExactTakeFnRow.laid w) (fun _ _ _ hh h => h.of_heap hh) own started (by kernel_rfl) Tryd.func3
    (ChangeSpec.witness_at (enc := enc) (C := Tryd.checked) (os := os) (X := fun w _ => laidMetH Tryd.prog Rows.fnExactTakeFnRow.laid w) false (laidWorld Tryd.prog Rows.fnExactTakeFnRow.laid os) #[.agg #[.slice none 0 0, .slice none 0 0], .agg #[.slice none 0 0, .slice none 0 0], .string ByteArray.empty] 8 rfl (by kernel_rfl) (by kernel_rfl) (by kernel_rfl) (by kernel_rfl) (by kernel_rfl) (met os _)) ?_
  intro W base args ds gs before hval hW _ hsz hL hsh _
  exact contract_of (f := 3) (ps := C3.ps) (F := C3.F) tabOk kOk laidOut c3 (by kernel_rfl) (by kernel_rfl) ⟨4, rfl, Tryd.underlying4⟩ rfl
    (fun H ds h => by match ds, (h : ds.length = 3) with | [d0, d1, d2], _ => rfl)
    (fun x hb => ⟨_, TakeFn.pure x.1 x.2.1 x.2.2.1 hb.1 hb.2.1 hb.2.2.1, rfl⟩) W (inv_of_ints (by kernel_rfl) (int_some (g0 := 0) (t := 3) (zero := #[.int .i64 0]) (by kernel_rfl) hsh (of_decide_eq_true (by kernel_rfl)) (by kernel_rfl) rfl (by kernel_rfl) (by kernel_rfl) Tryd.underlying3)) base args ds gs before hval hW hsz
theorem over : Rows.fnExactTakeFnRow.holds Tryd.pinned (OpenSpec.ofChange Rows.fnExactTakeFnSpec) :=
  OpenClaim.holds_of_wide 3 Tryd.f3 rfl rfl rfl rfl rfl rfl rfl ⟨rfl, rfl, rfl, rfl, rfl⟩ rfl rfl rfl rfl rfl (by kernel_rfl) Tryd.func3 (by kernel_rfl)
    (of_decide_eq_true (by kernel_rfl)) (by unfold Func.isWrapper; first | (rw [if_pos (by decide +kernel)]; kernel_rfl) | (rw [if_neg (by decide +kernel)]; exact ⟨rfl, rfl⟩))
    (fun os started H enc _ => lifted os started H enc)
end fnExactTakeFn
/-- The card. -/
theorem fnExactTakeFn_holds : Rows.FnExactTakeFnCardSaid :=
  Claim7.holds_tied_plain_at .later [] [.data, .pinned] true (true, "d6e1732eb385665e6f037097a3e40afc6782b41d5d8ff7bedff35525a3a49fdb") false
    fnExactTakeFn.over (fun _ h => by cases h) (by kernel_rfl) (fun _ h => by cases h) fnExactTakeFn_row_tie rfl ⟨rfl, rfl⟩ (by kernel_rfl) rfl
    (fun f fn hf hfn => by
      obtain rfl : f = 3 := Option.some.inj ((show Tryd.prog.funcNamed "loop.example/g00423/laws.FnExactTakeFn" = some 3 by kernel_rfl).symm.trans hf) |>.symm
      obtain rfl : fn = Tryd.f3 := (Option.some.inj (Tryd.func3.symm.trans hfn)).symm
      exact ⟨by kernel_rfl, fun j t ht => by
        have h : (Tryd.f3.params.toList.all fun t => !Tryd.prog.wantsStandIn t) = true := by kernel_rfl
        have ht' : Tryd.f3.params.toList[j]? = some t := by simpa using ht
        show Tryd.prog.wantsStandIn t = false
        simpa using List.all_eq_true.1 h t (List.mem_of_getElem? ht')⟩)
    (by kernel_rfl)
end Go.Proofs.YtgkgfpbdodafaaaDoor

/- The engine, part R2: functions of the library, by the shelf's contracts. No condition. -/
import Derived.Test.YtmpfjlolcmokbaaDoorPackR
import Derived.Shelf.Strconv.Itoa3
import Derived.LaidSub
import Derived.MakeChecks
set_option linter.all false
namespace Go.Proofs.YtmpfjlolcmokbaaDoorE

/-- strconv.Itoa -/
def lib_Itoa (n : Int) : Option (ByteArray × Unit) := if -9223372036854775808 ≤ n ∧ n ≤ 9223372036854775807 then some (⟨(Lib.itoa n).toArray⟩, ()) else none
theorem grow_heap {w : World} {k : Nat} {os : Array Obj} {b : Nat} (h : b < w.heap.size) : (Sort.grow (w.drewN k) os).heap[b]? = w.heap[b]? := by
  show (w.heap ++ os)[b]? = w.heap[b]?
  rw [Array.getElem?_append_left h]
theorem grow_size {w : World} {k : Nat} {os : Array Obj} : w.heap.size ≤ (Sort.grow (w.drewN k) os).heap.size := by
  show w.heap.size ≤ (w.heap ++ os).size
  rw [Array.size_append]; omega
theorem cok_itoa {P : Program} {f g : Nat} (hfn : ∃ fn, P.funcs[f]? = some fn ∧ (fn.name == "runtime.NumGoroutine") = false ∧ fn.body.isSome = true) (hg : P.globalNamed "internal/strconv.uint64pow10" = some g)
    (h : ∀ (n : Int), -9223372036854775808 ≤ n → n ≤ 9223372036854775807 → ∀ (w : World), Lib.TabIs P w "internal/strconv.uint64pow10" .u64 Lib.pow10Tab → Calls P f #[.int .i64 n] w fun e w' => e = .returned (.string ⟨(Lib.itoa n).toArray⟩) ∧ ∃ k os, w' = Sort.grow (w.drewN k) os) :
    Cok P ⟨f, [⟨.ro, .int .i64⟩], [⟨.str, .ro⟩], fun x => lib_Itoa x.1⟩ := by
  refine ⟨hfn, fun w own args x y hlive hI hargs hy => ?_⟩
  have hy : lib_Itoa x.1 = some y := hy
  unfold lib_Itoa at hy
  split at hy
  · rename_i hb
    obtain ⟨rfl⟩ := hy
    match args, hargs with
    | [v], hargs =>
      obtain ⟨⟨cs, q1, q2⟩, _⟩ := hargs
      have q1 : cs = [v] := q1
      have q2 : cs = [.int .i64 x.1] := q2
      rw [q1] at q2
      obtain rfl : v = .int .i64 x.1 := by simpa using q2
      refine (h x.1 hb.1 hb.2 w (hI ("internal/strconv.uint64pow10", .u64, Lib.pow10Tab) (by simp [libTabs]) g hg).2).mono ?_
      rintro e w' ⟨rfl, k, os, rfl⟩
      refine ⟨_, own, rfl, rfl, rfl, rfl, grow_size, fun b l hb' => Nat.lt_of_lt_of_le (hlive b l hb') grow_size, fun b hb' ho => ⟨ho, grow_heap hb'⟩, fun b hb' ho => ⟨ho, grow_heap hb'⟩, ⟨_, rfl, rfl⟩, trivial⟩
    | [], hargs => exact absurd hargs (by simp [ArgsR])
    | _ :: _ :: _, hargs => exact absurd hargs.2 (by simp [ArgsR])
  · cases hy
/-- The table, out of a row's condition. -/
theorem inv_of_laid {P : Program} {W : World} {laid : List (String × DataW Unit)} {g t e : Nat} (hl : (laid.filter fun x => x.1 == "internal/strconv.uint64pow10") = [("internal/strconv.uint64pow10", Lib.tabData .u64 Lib.pow10Tab)])
    (hg : P.globalNamed "internal/strconv.uint64pow10" = some g) (hty : (P.globals[g]?).map (·.type) = some t) (ht : P.underlying t = some (.array 20 e)) (he : P.underlying e = some (.int .u64)) (hce : P.cellsOf e = 1) (hct : P.cellsOf t = 20)
    (h : laidMetH P laid W) : Inv P W fun _ => none := by
  have h1 := h.filter fun x => x.1 == "internal/strconv.uint64pow10"
  rw [hl] at h1
  rw [MakeChecks.laidMetH_plain _ _ _ (by rfl)] at h1
  have h2 := Lib.tabIs_of_head hg hty ht he hce hct h1
  intro x hx g' hg'
  simp only [libTabs, List.mem_singleton] at hx
  subst hx
  exact ⟨rfl, h2⟩
/-- A world in which the listed tables lie. -/
def dataCells : DataW Unit → Array Value
  | .agg ps => (ps.filterMap fun d => match d with | .lit (.int k n) => some (Value.int k n) | _ => none).toArray
  | _ => #[]
def layOne (P : Program) (h : Array Obj) (x : String × DataW Unit) : Array Obj := match P.globalNamed x.1 with
  | some g => h.modify g fun o => match o with | .cells _ t f => .cells (dataCells x.2) t f | o => o
  | none => h
def laidWorld (P : Program) (laid : List (String × DataW Unit)) (os : Os) : World :=
  { World.holding P os ⟨#[], #[], []⟩ with heap := laid.foldl (layOne P) (World.holding P os ⟨#[], #[], []⟩).heap }
end Go.Proofs.YtmpfjlolcmokbaaDoorE

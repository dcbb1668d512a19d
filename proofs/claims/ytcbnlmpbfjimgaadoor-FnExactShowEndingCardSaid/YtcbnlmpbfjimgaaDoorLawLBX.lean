/- Functions of the library at this dump. No condition. -/
import Derived.Test.YtcbnlmpbfjimgaaDoorPackRb
import Derived.Ground.NamesProg
import Derived.Shelf.Lay
import Derived.Shelf.Strings.OnBuilder
import Derived.Test.YtcbnlmpbfjimgaaDoorProg
set_option linter.all false
namespace Go.Proofs.YtcbnlmpbfjimgaaDoorE
open Go.Shelf
set_option maxRecDepth 100000
shelf_lay LaysM.n171 Nm 171 at Tryd as Tryd.laysItoa
theorem cItoaRaw (n : Int) (h0 : -9223372036854775808 ≤ n) (h1 : n ≤ 9223372036854775807) (w : World) (htab : Lib.TabIs Tryd.prog w "internal/strconv.uint64pow10" .u64 Lib.pow10Tab) :
    Calls Tryd.prog 73 #[.int .i64 n] w fun e w' => e = .returned (.string ⟨(Lib.itoa n).toArray⟩) ∧ ∃ k os, w' = Sort.grow (w.drewN k) os := Any.strconv_Itoa Tryd.laysItoa n h0 h1 w htab
def C73 : Cal := ⟨73, [⟨.ro, .int .i64⟩], [⟨.str, .ro⟩], fun x => lib_Itoa x.1⟩
theorem c73 : Cok Tryd.prog C73 := cok_itoa ⟨Tryd.f73, by kernel_rfl, by kernel_rfl, by kernel_rfl⟩ (g := 1) (by kernel_rfl) cItoaRaw
shelf_lay Lays.n146 Nm 146 at Tryd as Tryd.laysSplit
theorem splitHi : (Tryd.prog.info? (Tryd.laysSplit_ren.t 9)).map (fun i => (i.zero, i.size, i.bytes)) = some (some (.string ByteArray.empty), 1, 16) := by kernel_rfl
def C43 : Cal := ⟨43, [⟨.ro, .str⟩, ⟨.ro, .str⟩], [⟨.list 9 .str, .own .ro⟩], fun x => lib_Split x.1 x.2.1⟩
theorem c43 : Cok Tryd.prog C43 := cok_split ⟨Tryd.f43, by kernel_rfl, by kernel_rfl, by kernel_rfl⟩ (g := 0) (by kernel_rfl) (fun s sep m w hs hm h1 => Any.strings_Split Tryd.laysSplit splitHi s sep m w hs hm h1)
shelf_lay Lays.n156 Nm 156 at Tryd as Tryd.laysJoin
theorem joinExtra : Builder.Extra Tryd.prog Tryd.laysJoin_ren where
  sizeBuilder := by kernel_rfl
  liesBuilder := by kernel_rfl
  t5 := Tryd.underlying5
  a5 := Tryd.isAgg5
  z5 := Tryd.sizeOf5
  v5 := Tryd.zeroValue5
  infoByte := by kernel_rfl
  cellsByte := by kernel_rfl
  sizeByte := by kernel_rfl
  neB5 := by decide
def C49 : Cal := ⟨49, [⟨.mov (.own .ro), .list 9 .str⟩, ⟨.ro, .str⟩], [⟨.str, .ro⟩], fun x => lib_Join x.1 x.2.1⟩
theorem c49 : Cok Tryd.prog C49 := cok_join ⟨Tryd.f49, by kernel_rfl, by kernel_rfl, by kernel_rfl⟩ (fun a c sep w => Any.strings_Join_none Tryd.laysJoin joinExtra a c sep w) (fun bk o c xs sep w hc hb hN hcap hl => Any.strings_Join Tryd.laysJoin joinExtra bk o c xs sep w hc hb hN hcap hl)
end Go.Proofs.YtcbnlmpbfjimgaaDoorE

/- Functions of the library at this dump. No condition. -/
import Derived.Test.YtmpfjlolcmokbaaDoorPackRb
import Derived.Ground.NamesProg
import Derived.Shelf.Lay
import Derived.Test.YtmpfjlolcmokbaaDoorProg
set_option linter.all false
namespace Go.Proofs.YtmpfjlolcmokbaaDoorE
open Go.Shelf
set_option maxRecDepth 100000
shelf_lay LaysM.n171 Nm 171 at Tryd as Tryd.laysItoa
theorem cItoaRaw (n : Int) (h0 : -9223372036854775808 ≤ n) (h1 : n ≤ 9223372036854775807) (w : World) (htab : Lib.TabIs Tryd.prog w "internal/strconv.uint64pow10" .u64 Lib.pow10Tab) :
    Calls Tryd.prog 13 #[.int .i64 n] w fun e w' => e = .returned (.string ⟨(Lib.itoa n).toArray⟩) ∧ ∃ k os, w' = Sort.grow (w.drewN k) os := Any.strconv_Itoa Tryd.laysItoa n h0 h1 w htab
def C13 : Cal := ⟨13, [⟨.ro, .int .i64⟩], [⟨.str, .ro⟩], fun x => lib_Itoa x.1⟩
theorem c13 : Cok Tryd.prog C13 := cok_itoa ⟨Tryd.f13, by kernel_rfl, by kernel_rfl, by kernel_rfl⟩ (g := 0) (by kernel_rfl) cItoaRaw
end Go.Proofs.YtmpfjlolcmokbaaDoorE

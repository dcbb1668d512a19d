/- What the functions of X reckon, as Lean functions. No condition. -/
import Derived.Test.YtmpfjlolcmokbaaDoorPackE
import Derived.Test.YtmpfjlolcmokbaaDoorPackRb
set_option linter.all false
namespace Go.Proofs.YtmpfjlolcmokbaaDoorE
set_option maxRecDepth 100000
set_option linter.all false

def s_0_5fec : ByteArray := ⟨#[48]⟩
def s___3973 : ByteArray := ⟨#[45]⟩
def s___8a8d : ByteArray := ⟨#[63]⟩
def s_unused_febe : ByteArray := ⟨#[117, 110, 117, 115, 101, 100]⟩
def s_same_0967 : ByteArray := ⟨#[115, 97, 109, 101]⟩
def s_empty_2e1c : ByteArray := ⟨#[101, 109, 112, 116, 121]⟩
def s_const_f75c : ByteArray := ⟨#[99, 111, 110, 115, 116]⟩
def s_dead_28a3 : ByteArray := ⟨#[100, 101, 97, 100]⟩
def s___36a9 : ByteArray := ⟨#[32]⟩

/-- laws.szWarn -/
noncomputable def laws_szWarn (a0 : (Int × (Int × ByteArray))) (a1 : Int) : Option ((Int × Unit)) := bif decide ((IntKind.wrap .i64 (a1 - (a0.2.2.size : Int))) < (0 : Int)) then some ((-1 : Int), ()) else some (IntKind.wrap .i64 (a1 - (a0.2.2.size : Int)), ())

/-- laws.toWarn -/
noncomputable def laws_toWarn (a0 : (Int × (Int × ByteArray))) : Option (((Int × (Int × ByteArray)) × Unit)) := some ((a0.1, (a0.2.1, a0.2.2)), ())

/-- spec.l01In -/
noncomputable def spec_l01In (a0 : Int) (a1 : Int) (a2 : Int) : Option ((Bool × Unit)) := joinP (bif decide (a1 ≤ a0) then some (decide (a0 ≤ a2), ()) else some (false, ())) fun x1 => some (x1.1, ())

/-- spec.l01Figure -/
noncomputable def spec_l01Figure (a0 : Int) : Option ((Int × Unit)) := bif decide (a0 < (10 : Int)) then some (IntKind.wrap .u8 (IntKind.wrap .i64 ((48 : Int) + a0)), ()) else some (IntKind.wrap .u8 (IntKind.wrap .i64 ((IntKind.wrap .i64 ((97 : Int) + a0)) - (10 : Int))), ())

/-- spec.Decimal -/
noncomputable def L1_spec_Decimal (x1 : (Int × Bool × ByteArray × Unit)) : Option ((Int × Bool × ByteArray × Unit) ⊕ (Bool × ByteArray × Unit)) := bif decide (x1.1 ≠ (0 : Int)) then (Cnd.nz (10 : Int)).run (joinP (bif decide ((Int.tmod x1.1 (10 : Int)) < (0 : Int)) then some (x1.1, x1.2.1, x1.2.2.1, IntKind.wrap .i64 (0 - (Int.tmod x1.1 (10 : Int))), ()) else some (x1.1, x1.2.1, x1.2.2.1, Int.tmod x1.1 (10 : Int), ())) fun x2 => (spec_l01Figure x2.2.2.2.1).bind fun y3 => (Cnd.le ((bts [y3.1]).size + x2.2.2.1.size) maxI).run ((Cnd.nz (10 : Int)).run ((some (IntKind.wrap .i64 (Int.tdiv x2.1 (10 : Int)), x2.2.1, (bts [y3.1]) ++ x2.2.2.1, ())).map Sum.inl))) else (some (x1.2.1, x1.2.2.1, ())).map Sum.inr
noncomputable def spec_Decimal (a0 : Int) : Option ((ByteArray × Unit)) := bif decide (a0 = (0 : Int)) then some (s_0_5fec, ()) else joinP ((some (a0, decide (a0 < (0 : Int)), (⟨#[]⟩ : ByteArray), ())).bind fun x10 => loopF L1_spec_Decimal x10) fun x4 => bif x4.1 then (Cnd.le (s___3973.size + x4.2.1.size) maxI).run (some (s___3973 ++ x4.2.1, ())) else some (x4.2.1, ())

/-- spec.l25Num -/
noncomputable def spec_l25Num (a0 : Int) : Option ((ByteArray × Unit)) := bif decide (a0 < (0 : Int)) then some (s_0_5fec, ()) else (spec_Decimal a0).bind fun y1 => some (y1.1, ())

/-- spec.ShowWarn -/
noncomputable def spec_ShowWarn (a0 : (Int × (Int × ByteArray))) : Option ((ByteArray × Unit)) := (spec_l01In a0.1 (1 : Int) (5 : Int)).bind fun y1 => joinP (bif y1.1 then some ([s___8a8d, s_unused_febe, s_same_0967, s_empty_2e1c, s_const_f75c, s_dead_28a3], a0.1, a0, ()) else some ([s___8a8d, s_unused_febe, s_same_0967, s_empty_2e1c, s_const_f75c, s_dead_28a3], (0 : Int), a0, ())) fun x2 => (spec_l25Num x2.2.2.1.2.1).bind fun y3 => (Cnd.le (y3.1.size + s___36a9.size) maxI).run ((Cnd.idx x2.2.1 (List.length x2.1)).run ((Cnd.le ((y3.1 ++ s___36a9).size + (rd x2.1 x2.2.1 (⟨#[]⟩ : ByteArray)).size) maxI).run (joinP (bif decide (x2.2.2.1.2.2 ≠ (⟨#[]⟩ : ByteArray)) then (Cnd.le (((y3.1 ++ s___36a9) ++ (rd x2.1 x2.2.1 (⟨#[]⟩ : ByteArray))).size + s___36a9.size) maxI).run ((Cnd.le ((((y3.1 ++ s___36a9) ++ (rd x2.1 x2.2.1 (⟨#[]⟩ : ByteArray))) ++ s___36a9).size + x2.2.2.1.2.2.size) maxI).run (some ((((y3.1 ++ s___36a9) ++ (rd x2.1 x2.2.1 (⟨#[]⟩ : ByteArray))) ++ s___36a9) ++ x2.2.2.1.2.2, ()))) else some ((y3.1 ++ s___36a9) ++ (rd x2.1 x2.2.1 (⟨#[]⟩ : ByteArray)), ())) fun x4 => some (x4.1, ()))))

/-- impl.in -/
noncomputable def impl_in (a0 : Int) (a1 : Int) (a2 : Int) : Option ((Bool × Unit)) := joinP (bif decide (a1 ≤ a0) then some (decide (a0 ≤ a2), ()) else some (false, ())) fun x1 => some (x1.1, ())

/-- impl.Decimal -/
noncomputable def impl_Decimal (a0 : Int) : Option ((ByteArray × Unit)) := (lib_Itoa a0).bind fun y1 => some (y1.1, ())

/-- impl.ShowWarn -/
noncomputable def impl_ShowWarn (a0 : (Int × (Int × ByteArray))) : Option ((ByteArray × Unit)) := (impl_in a0.1 (1 : Int) (5 : Int)).bind fun y1 => joinP (bif y1.1 then (Cnd.idx (IntKind.wrap .i64 (a0.1 - (1 : Int))) (List.length [s_unused_febe, s_same_0967, s_empty_2e1c, s_const_f75c, s_dead_28a3])).run (some (rd [s_unused_febe, s_same_0967, s_empty_2e1c, s_const_f75c, s_dead_28a3] (IntKind.wrap .i64 (a0.1 - (1 : Int))) (⟨#[]⟩ : ByteArray), a0, ())) else some (s___8a8d, a0, ())) fun x2 => (impl_Decimal (if (0 : Int) > x2.2.1.2.1 then (0 : Int) else x2.2.1.2.1)).bind fun y3 => (Cnd.le (y3.1.size + s___36a9.size) maxI).run ((Cnd.le ((y3.1 ++ s___36a9).size + x2.1.size) maxI).run (joinP (bif decide (x2.2.1.2.2 ≠ (⟨#[]⟩ : ByteArray)) then (Cnd.le (s___36a9.size + x2.2.1.2.2.size) maxI).run ((Cnd.le (((y3.1 ++ s___36a9) ++ x2.1).size + (s___36a9 ++ x2.2.1.2.2).size) maxI).run (some (((y3.1 ++ s___36a9) ++ x2.1) ++ (s___36a9 ++ x2.2.1.2.2), ()))) else some ((y3.1 ++ s___36a9) ++ x2.1, ())) fun x4 => some (x4.1, ())))

/-- laws.FnExactShowWarn -/
noncomputable def laws_FnExactShowWarn (a0 : (Int × (Int × ByteArray))) : Option ((Bool × Unit)) := (laws_szWarn a0 (1048576 : Int)).bind fun y1 => bif decide (y1.1 < (0 : Int)) then some (true, ()) else (laws_toWarn a0).bind fun y2 => (spec_ShowWarn y2.1).bind fun y3 => (laws_toWarn a0).bind fun y4 => (impl_ShowWarn y4.1).bind fun y5 => bif decide (y5.1 ≠ y3.1) then some (false, ()) else some (true, ())
end Go.Proofs.YtmpfjlolcmokbaaDoorE

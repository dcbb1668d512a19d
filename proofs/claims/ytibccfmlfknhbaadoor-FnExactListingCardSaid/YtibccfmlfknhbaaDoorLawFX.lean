/- What the functions of X reckon, as Lean functions. No condition. -/
import Derived.Test.YtibccfmlfknhbaaDoorPackE
import Derived.Test.YtibccfmlfknhbaaDoorPackRb
set_option linter.all false
namespace Go.Proofs.YtibccfmlfknhbaaDoorE
set_option maxRecDepth 100000
set_option linter.all false

def s_const_f75c : ByteArray := ⟨#[99, 111, 110, 115, 116]⟩
def s_copy_6f5a : ByteArray := ⟨#[99, 111, 112, 121]⟩
def s_move_683a : ByteArray := ⟨#[109, 111, 118, 101]⟩
def s_read_3316 : ByteArray := ⟨#[114, 101, 97, 100]⟩
def s_clone_b5d6 : ByteArray := ⟨#[99, 108, 111, 110, 101]⟩
def s_lend_5d59 : ByteArray := ⟨#[108, 101, 110, 100]⟩
def s_mut_631c : ByteArray := ⟨#[109, 117, 116]⟩
def s_input_c96c : ByteArray := ⟨#[105, 110, 112, 117, 116]⟩
def s_new_1150 : ByteArray := ⟨#[110, 101, 119]⟩
def s_add_7e9e : ByteArray := ⟨#[97, 100, 100]⟩
def s_less_4fdd : ByteArray := ⟨#[108, 101, 115, 115]⟩
def s_same_0967 : ByteArray := ⟨#[115, 97, 109, 101]⟩
def s_call_7edb : ByteArray := ⟨#[99, 97, 108, 108]⟩
def s_put_373c : ByteArray := ⟨#[112, 117, 116]⟩
def s_store_824d : ByteArray := ⟨#[115, 116, 111, 114, 101]⟩
def s_print_ce95 : ByteArray := ⟨#[112, 114, 105, 110, 116]⟩
def s_drop_d90e : ByteArray := ⟨#[100, 114, 111, 112]⟩
def s_jump_6bda : ByteArray := ⟨#[106, 117, 109, 112]⟩
def s_if_935f : ByteArray := ⟨#[105, 102]⟩
def s_ret_85e4 : ByteArray := ⟨#[114, 101, 116]⟩
def s_0_5fec : ByteArray := ⟨#[48]⟩
def s___3973 : ByteArray := ⟨#[45]⟩
def s___36a9 : ByteArray := ⟨#[32]⟩
def s_const_copy_move__77de : ByteArray := ⟨#[99, 111, 110, 115, 116, 32, 99, 111, 112, 121, 32, 109, 111, 118, 101, 32, 114, 101, 97, 100, 32, 99, 108, 111, 110, 101, 32, 108, 101, 110, 100, 32, 109, 117, 116, 32, 105, 110, 112, 117, 116, 32, 110, 101, 119, 32, 97, 100, 100, 32, 108, 101, 115, 115, 32, 115, 97, 109, 101, 32, 99, 97, 108, 108, 32, 112, 117, 116, 32, 115, 116, 111, 114, 101, 32, 112, 114, 105, 110, 116, 32, 100, 114, 111, 112, 32, 106, 117, 109, 112, 32, 105, 102, 32, 114, 101, 116]⟩
def s_code__aacf : ByteArray := ⟨#[99, 111, 100, 101, 32]⟩
def s___01ba : ByteArray := ⟨#[10]⟩

/-- laws.szIntS -/
noncomputable def laws_szIntS (a0 : List (Int)) (a1 : Int) : Option ((Int × Unit)) := bif decide ((IntKind.wrap .i64 (a1 - (List.length a0 : Int))) < (0 : Int)) then some ((-1 : Int), ()) else some (IntKind.wrap .i64 (a1 - (List.length a0 : Int)), ())

/-- laws.szIns -/
noncomputable def laws_szIns (a0 : (Int × (Int × (Int × (Int × (Int × (ByteArray × List (Int)))))))) (a1 : Int) : Option ((Int × Unit)) := bif decide ((IntKind.wrap .i64 (a1 - (a0.2.2.2.2.2.1.size : Int))) < (0 : Int)) then some ((-1 : Int), ()) else (laws_szIntS a0.2.2.2.2.2.2 (IntKind.wrap .i64 (a1 - (a0.2.2.2.2.2.1.size : Int)))).bind fun y1 => bif decide (y1.1 < (0 : Int)) then some ((-1 : Int), ()) else some (y1.1, ())

/-- laws.toIntS -/
noncomputable def L1_laws_toIntS (x1 : (List (Int) × List (Int) × Int × Unit)) : Option ((List (Int) × List (Int) × Int × Unit) ⊕ (List (Int) × Unit)) := bif decide (x1.2.2.1 < (List.length x1.1 : Int)) then (Cnd.idx x1.2.2.1 (List.length x1.1)).run ((Cnd.idx x1.2.2.1 (List.length x1.2.1)).run (bindD (t := (.list 3 (.int .i64))) (List.set x1.2.1 x1.2.2.1.toNat (rd x1.1 x1.2.2.1 (0 : Int))) fun v2 => (some (x1.1, v2, IntKind.wrap .i64 (x1.2.2.1 + (1 : Int)), ())).map Sum.inl)) else (some (x1.2.1, ())).map Sum.inr
noncomputable def laws_toIntS (a0 : List (Int)) : Option ((List (Int) × Unit)) := (Cnd.both (Cnd.nn (List.length a0 : Int)) (Cnd.le ((List.length a0 : Int).toNat * 8) 140737488355328)).run (joinP ((some (a0, List.replicate (List.length a0 : Int).toNat (0 : Int), (0 : Int), ())).bind fun x10 => loopF L1_laws_toIntS x10) fun x3 => some (x3.1, ()))

/-- laws.toIns -/
noncomputable def laws_toIns (a0 : (Int × (Int × (Int × (Int × (Int × (ByteArray × List (Int)))))))) : Option (((Int × (Int × (Int × (Int × (Int × (ByteArray × List (Int))))))) × Unit)) := (laws_toIntS a0.2.2.2.2.2.2).bind fun y1 => some ((a0.1, (a0.2.1, (a0.2.2.1, (a0.2.2.2.1, (a0.2.2.2.2.1, (a0.2.2.2.2.2.1, y1.1)))))), ())

/-- spec.l01In -/
noncomputable def spec_l01In (a0 : Int) (a1 : Int) (a2 : Int) : Option ((Bool × Unit)) := joinP (bif decide (a1 ≤ a0) then some (decide (a0 ≤ a2), ()) else some (false, ())) fun x1 => some (x1.1, ())

/-- spec.l34Names -/
noncomputable def spec_l34Names  : Option ((List (ByteArray) × Unit)) := some ([(⟨#[]⟩ : ByteArray), s_const_f75c, s_copy_6f5a, s_move_683a, s_read_3316, s_clone_b5d6, s_lend_5d59, s_mut_631c, s_input_c96c, s_new_1150, s_add_7e9e, s_less_4fdd, s_same_0967, s_call_7edb, s_put_373c, s_store_824d, s_print_ce95, s_drop_d90e, s_jump_6bda, s_if_935f, s_ret_85e4], ())

/-- spec.l01Figure -/
noncomputable def spec_l01Figure (a0 : Int) : Option ((Int × Unit)) := bif decide (a0 < (10 : Int)) then some (IntKind.wrap .u8 (IntKind.wrap .i64 ((48 : Int) + a0)), ()) else some (IntKind.wrap .u8 (IntKind.wrap .i64 ((IntKind.wrap .i64 ((97 : Int) + a0)) - (10 : Int))), ())

/-- spec.Decimal -/
noncomputable def L1_spec_Decimal (x1 : (Int × Bool × ByteArray × Unit)) : Option ((Int × Bool × ByteArray × Unit) ⊕ (Bool × ByteArray × Unit)) := bif decide (x1.1 ≠ (0 : Int)) then (Cnd.nz (10 : Int)).run (joinP (bif decide ((Int.tmod x1.1 (10 : Int)) < (0 : Int)) then some (x1.1, x1.2.1, x1.2.2.1, IntKind.wrap .i64 (0 - (Int.tmod x1.1 (10 : Int))), ()) else some (x1.1, x1.2.1, x1.2.2.1, Int.tmod x1.1 (10 : Int), ())) fun x2 => (spec_l01Figure x2.2.2.2.1).bind fun y3 => (Cnd.le ((bts [y3.1]).size + x2.2.2.1.size) maxI).run ((Cnd.nz (10 : Int)).run ((some (IntKind.wrap .i64 (Int.tdiv x2.1 (10 : Int)), x2.2.1, (bts [y3.1]) ++ x2.2.2.1, ())).map Sum.inl))) else (some (x1.2.1, x1.2.2.1, ())).map Sum.inr
noncomputable def spec_Decimal (a0 : Int) : Option ((ByteArray × Unit)) := bif decide (a0 = (0 : Int)) then some (s_0_5fec, ()) else joinP ((some (a0, decide (a0 < (0 : Int)), (⟨#[]⟩ : ByteArray), ())).bind fun x10 => loopF L1_spec_Decimal x10) fun x4 => bif x4.1 then (Cnd.le (s___3973.size + x4.2.1.size) maxI).run (some (s___3973 ++ x4.2.1, ())) else some (x4.2.1, ())

/-- spec.l34Num -/
noncomputable def spec_l34Num (a0 : Int) : Option ((ByteArray × Unit)) := bif decide (a0 < (0 : Int)) then some (s___3973, ()) else (spec_Decimal a0).bind fun y1 => some (y1.1, ())

/-- spec.l11HasB -/
noncomputable def spec_l11HasB (a0 : Int) : Option ((Bool × Unit)) := joinP ((spec_l01In a0 (2 : Int) (7 : Int)).bind fun y1 => bif y1.1 then some (true, ()) else (spec_l01In a0 (9 : Int) (12 : Int)).bind fun y2 => bif y2.1 then some (true, ()) else bif decide (a0 = (14 : Int)) then some (true, ()) else some (decide (a0 = (15 : Int)), ())) fun x3 => some (x3.1, ())

/-- spec.l11HasC -/
noncomputable def spec_l11HasC (a0 : Int) : Option ((Bool × Unit)) := (spec_l01In a0 (10 : Int) (12 : Int)).bind fun y1 => some (y1.1, ())

/-- spec.ShowWord -/
noncomputable def L1_spec_ShowWord (x14 : (ByteArray × Int × (Int × (Int × (Int × (Int × (Int × (ByteArray × List (Int))))))) × Unit)) : Option ((ByteArray × Int × (Int × (Int × (Int × (Int × (Int × (ByteArray × List (Int))))))) × Unit) ⊕ (ByteArray × Unit)) := bif decide (x14.2.1 < (List.length x14.2.2.1.2.2.2.2.2.2 : Int)) then (Cnd.le (x14.1.size + s___36a9.size) maxI).run ((Cnd.idx x14.2.1 (List.length x14.2.2.1.2.2.2.2.2.2)).run ((spec_l34Num (rd x14.2.2.1.2.2.2.2.2.2 x14.2.1 (0 : Int))).bind fun y15 => (Cnd.le ((x14.1 ++ s___36a9).size + y15.1.size) maxI).run ((some ((x14.1 ++ s___36a9) ++ y15.1, IntKind.wrap .i64 (x14.2.1 + (1 : Int)), x14.2.2.1, ())).map Sum.inl))) else (some (x14.1, ())).map Sum.inr
noncomputable def spec_ShowWord (a0 : (Int × (Int × (Int × (Int × (Int × (ByteArray × List (Int)))))))) : Option ((ByteArray × Unit)) := (spec_l01In a0.1 (1 : Int) (20 : Int)).bind fun y1 => bif !y1.1 then some ((⟨#[]⟩ : ByteArray), ()) else (spec_l34Names).bind fun y2 => (Cnd.idx a0.1 (List.length y2.1)).run (joinP (bif decide (a0.1 ≠ (18 : Int)) then (Cnd.le ((rd y2.1 a0.1 (⟨#[]⟩ : ByteArray)).size + s___36a9.size) maxI).run ((spec_l34Num a0.2.1).bind fun y3 => (Cnd.le (((rd y2.1 a0.1 (⟨#[]⟩ : ByteArray)) ++ s___36a9).size + y3.1.size) maxI).run (some (((rd y2.1 a0.1 (⟨#[]⟩ : ByteArray)) ++ s___36a9) ++ y3.1, a0, ()))) else some (rd y2.1 a0.1 (⟨#[]⟩ : ByteArray), a0, ())) fun x4 => (spec_l11HasB x4.2.1.1).bind fun y5 => joinP (bif y5.1 then (Cnd.le (x4.1.size + s___36a9.size) maxI).run ((spec_l34Num x4.2.1.2.2.1).bind fun y6 => (Cnd.le ((x4.1 ++ s___36a9).size + y6.1.size) maxI).run (some ((x4.1 ++ s___36a9) ++ y6.1, x4.2.1, ()))) else some (x4.1, x4.2.1, ())) fun x7 => (spec_l11HasC x7.2.1.1).bind fun y8 => joinP (bif y8.1 then (Cnd.le (x7.1.size + s___36a9.size) maxI).run ((spec_l34Num x7.2.1.2.2.2.1).bind fun y9 => (Cnd.le ((x7.1 ++ s___36a9).size + y9.1.size) maxI).run (some ((x7.1 ++ s___36a9) ++ y9.1, x7.2.1, ()))) else some (x7.1, x7.2.1, ())) fun x10 => joinP (joinP (bif decide (x10.2.1.1 = (1 : Int)) then some (x10.1, x10.2.1.1, decide (x10.2.1.1 = (1 : Int)), x10.2.1, ()) else joinP (bif decide (x10.2.1.1 = (18 : Int)) then some (x10.1, x10.2.1.1, decide (x10.2.1.1 = (18 : Int)), x10.2.1, ()) else some (x10.1, x10.2.1.1, decide (x10.2.1.1 = (19 : Int)), x10.2.1, ())) fun x11 => some (x11.1, x11.2.1, x11.2.2.1, x11.2.2.2.1, ())) fun x12 => joinP (bif x12.2.2.1 then (Cnd.le (x12.1.size + s___36a9.size) maxI).run ((spec_l34Num x12.2.2.2.1.2.2.2.2.1).bind fun y13 => (Cnd.le ((x12.1 ++ s___36a9).size + y13.1.size) maxI).run (some ((x12.1 ++ s___36a9) ++ y13.1, ()))) else joinP (bif decide (x12.2.1 = (13 : Int)) then (Cnd.le (x12.1.size + s___36a9.size) maxI).run ((Cnd.le ((x12.1 ++ s___36a9).size + x12.2.2.2.1.2.2.2.2.2.1.size) maxI).run (joinP ((some ((x12.1 ++ s___36a9) ++ x12.2.2.2.1.2.2.2.2.2.1, (0 : Int), x12.2.2.2.1, ())).bind fun x140 => loopF L1_spec_ShowWord x140) fun x16 => some (x16.1, ()))) else some (x12.1, ())) fun x17 => some (x17.1, ())) fun x18 => some (x18.1, ())) fun x19 => some (x19.1, ()))

/-- impl.in -/
noncomputable def impl_in (a0 : Int) (a1 : Int) (a2 : Int) : Option ((Bool × Unit)) := joinP (bif decide (a1 ≤ a0) then some (decide (a0 ≤ a2), ()) else some (false, ())) fun x1 => some (x1.1, ())

/-- impl.hasA -/
noncomputable def impl_hasA (a0 : Int) : Option ((Bool × Unit)) := joinP ((impl_in a0 (1 : Int) (17 : Int)).bind fun y1 => bif y1.1 then some (true, ()) else bif decide (a0 = (19 : Int)) then some (true, ()) else some (decide (a0 = (20 : Int)), ())) fun x2 => some (x2.1, ())

/-- impl.Decimal -/
noncomputable def impl_Decimal (a0 : Int) : Option ((ByteArray × Unit)) := (lib_Itoa a0).bind fun y1 => some (y1.1, ())

/-- impl.figures -/
noncomputable def impl_figures (a0 : Int) : Option ((ByteArray × Unit)) := bif decide (a0 < (0 : Int)) then some (s___3973, ()) else (impl_Decimal a0).bind fun y1 => some (y1.1, ())

/-- impl.hasB -/
noncomputable def impl_hasB (a0 : Int) : Option ((Bool × Unit)) := joinP ((impl_in a0 (2 : Int) (7 : Int)).bind fun y1 => bif y1.1 then some (true, ()) else (impl_in a0 (9 : Int) (12 : Int)).bind fun y2 => bif y2.1 then some (true, ()) else bif decide (a0 = (14 : Int)) then some (true, ()) else some (decide (a0 = (15 : Int)), ())) fun x3 => some (x3.1, ())

/-- impl.hasC -/
noncomputable def impl_hasC (a0 : Int) : Option ((Bool × Unit)) := (impl_in a0 (10 : Int) (12 : Int)).bind fun y1 => some (y1.1, ())

/-- impl.hasNum -/
noncomputable def impl_hasNum (a0 : Int) : Option ((Bool × Unit)) := joinP (bif decide (a0 = (1 : Int)) then some (true, ()) else bif decide (a0 = (18 : Int)) then some (true, ()) else some (decide (a0 = (19 : Int)), ())) fun x1 => some (x1.1, ())

/-- impl.ShowWord -/
noncomputable def L1_impl_ShowWord (x15 : (List (ByteArray) × List (Int) × Int × Int × Unit)) : Option ((List (ByteArray) × List (Int) × Int × Int × Unit) ⊕ (List (ByteArray) × Unit)) := bif decide (x15.2.2.2.1 < x15.2.2.1) then (Cnd.idx x15.2.2.2.1 (List.length x15.2.1)).run ((impl_figures (rd x15.2.1 x15.2.2.2.1 (0 : Int))).bind fun y16 => (Cnd.le ((List.length x15.1 + List.length [y16.1]) * 16) 140737488355328).run ((some (x15.1 ++ [y16.1], x15.2.1, x15.2.2.1, IntKind.wrap .i64 (x15.2.2.2.1 + (1 : Int)), ())).map Sum.inl)) else (some (x15.1, ())).map Sum.inr
noncomputable def impl_ShowWord (a0 : (Int × (Int × (Int × (Int × (Int × (ByteArray × List (Int)))))))) : Option ((ByteArray × Unit)) := (impl_in a0.1 (1 : Int) (20 : Int)).bind fun y1 => bif !y1.1 then some ((⟨#[]⟩ : ByteArray), ()) else (lib_Split s_const_copy_move__77de s___36a9).bind fun y2 => (Cnd.idx (IntKind.wrap .i64 (a0.1 - (1 : Int))) (List.length y2.1)).run ((impl_hasA a0.1).bind fun y3 => joinP (bif y3.1 then (impl_figures a0.2.1).bind fun y4 => (Cnd.le ((List.length [rd y2.1 (IntKind.wrap .i64 (a0.1 - (1 : Int))) (⟨#[]⟩ : ByteArray)] + List.length [y4.1]) * 16) 140737488355328).run (some ([rd y2.1 (IntKind.wrap .i64 (a0.1 - (1 : Int))) (⟨#[]⟩ : ByteArray)] ++ [y4.1], a0, ())) else some ([rd y2.1 (IntKind.wrap .i64 (a0.1 - (1 : Int))) (⟨#[]⟩ : ByteArray)], a0, ())) fun x5 => (impl_hasB x5.2.1.1).bind fun y6 => joinP (bif y6.1 then (impl_figures x5.2.1.2.2.1).bind fun y7 => (Cnd.le ((List.length x5.1 + List.length [y7.1]) * 16) 140737488355328).run (some (x5.1 ++ [y7.1], x5.2.1, ())) else some (x5.1, x5.2.1, ())) fun x8 => (impl_hasC x8.2.1.1).bind fun y9 => joinP (bif y9.1 then (impl_figures x8.2.1.2.2.2.1).bind fun y10 => (Cnd.le ((List.length x8.1 + List.length [y10.1]) * 16) 140737488355328).run (some (x8.1 ++ [y10.1], x8.2.1, ())) else some (x8.1, x8.2.1, ())) fun x11 => (impl_hasNum x11.2.1.1).bind fun y12 => joinP (bif y12.1 then (impl_figures x11.2.1.2.2.2.2.1).bind fun y13 => (Cnd.le ((List.length x11.1 + List.length [y13.1]) * 16) 140737488355328).run (some (x11.1 ++ [y13.1], x11.2.1, ())) else some (x11.1, x11.2.1, ())) fun x14 => joinP (bif decide (x14.2.1.1 = (13 : Int)) then (Cnd.le ((List.length x14.1 + List.length [x14.2.1.2.2.2.2.2.1]) * 16) 140737488355328).run (joinP ((some (x14.1 ++ [x14.2.1.2.2.2.2.2.1], x14.2.1.2.2.2.2.2.2, (List.length x14.2.1.2.2.2.2.2.2 : Int), (0 : Int), ())).bind fun x150 => loopF L1_impl_ShowWord x150) fun x17 => some (x17.1, ())) else some (x14.1, ())) fun x18 => (lib_Join x18.1 s___36a9).bind fun y19 => some (y19.1, ()))

/-- laws.eqIntS -/
noncomputable def L1_laws_eqIntS (x1 : (List (Int) × List (Int) × Int × Unit)) : Option ((List (Int) × List (Int) × Int × Unit) ⊕ ((Unit) ⊕ (Bool × Unit))) := bif decide (x1.2.2.1 < (List.length x1.1 : Int)) then (Cnd.idx x1.2.2.1 (List.length x1.1)).run ((Cnd.idx x1.2.2.1 (List.length x1.2.1)).run (bif decide ((rd x1.1 x1.2.2.1 (0 : Int)) ≠ (rd x1.2.1 x1.2.2.1 (0 : Int))) then ((some (false, ())).map Sum.inr).map Sum.inr else (some (x1.1, x1.2.1, IntKind.wrap .i64 (x1.2.2.1 + (1 : Int)), ())).map Sum.inl)) else ((some (())).map Sum.inl).map Sum.inr
noncomputable def laws_eqIntS (a0 : List (Int)) (a1 : List (Int)) : Option ((Bool × Unit)) := bif decide ((List.length a0 : Int) ≠ (List.length a1 : Int)) then some (false, ()) else joinS ((some (a0, a1, (0 : Int), ())).bind fun x10 => loopF L1_laws_eqIntS x10) fun x2 => some (true, ())

/-- laws.eqIns -/
noncomputable def laws_eqIns (a0 : (Int × (Int × (Int × (Int × (Int × (ByteArray × List (Int)))))))) (a1 : (Int × (Int × (Int × (Int × (Int × (ByteArray × List (Int)))))))) : Option ((Bool × Unit)) := bif decide (a0.1 ≠ a1.1) then some (false, ()) else bif decide (a0.2.1 ≠ a1.2.1) then some (false, ()) else bif decide (a0.2.2.1 ≠ a1.2.2.1) then some (false, ()) else bif decide (a0.2.2.2.1 ≠ a1.2.2.2.1) then some (false, ()) else bif decide (a0.2.2.2.2.1 ≠ a1.2.2.2.2.1) then some (false, ()) else bif decide (a0.2.2.2.2.2.1 ≠ a1.2.2.2.2.2.1) then some (false, ()) else (laws_eqIntS a0.2.2.2.2.2.2 a1.2.2.2.2.2.2).bind fun y1 => bif !y1.1 then some (false, ()) else some (true, ())

/-- laws.FnExactShowWord -/
noncomputable def laws_FnExactShowWord (a0 : (Int × (Int × (Int × (Int × (Int × (ByteArray × List (Int)))))))) : Option ((Bool × Unit)) := (laws_szIns a0 (1048576 : Int)).bind fun y1 => bif decide (y1.1 < (0 : Int)) then some (true, ()) else (laws_toIns a0).bind fun y2 => (spec_ShowWord y2.1).bind fun y3 => (laws_toIns a0).bind fun y4 => (impl_ShowWord y4.1).bind fun y5 => bif decide (y5.1 ≠ y3.1) then some (false, ()) else (laws_toIns a0).bind fun y6 => (laws_eqIns y4.1 y6.1).bind fun y7 => bif !y7.1 then some (false, ()) else some (true, ())

/-- laws.szInsS -/
noncomputable def L1_laws_szInsS (x1 : (List ((Int × (Int × (Int × (Int × (Int × (ByteArray × List (Int)))))))) × Int × Int × Unit)) : Option ((List ((Int × (Int × (Int × (Int × (Int × (ByteArray × List (Int)))))))) × Int × Int × Unit) ⊕ ((Int × Unit) ⊕ (Int × Unit))) := bif decide (x1.2.2.1 < (List.length x1.1 : Int)) then (Cnd.idx x1.2.2.1 (List.length x1.1)).run ((laws_szIns (rd x1.1 x1.2.2.1 ((0 : Int), ((0 : Int), ((0 : Int), ((0 : Int), ((0 : Int), ((⟨#[]⟩ : ByteArray), []))))))) x1.2.1).bind fun y2 => bif decide (y2.1 < (0 : Int)) then ((some ((-1 : Int), ())).map Sum.inr).map Sum.inr else (some (x1.1, y2.1, IntKind.wrap .i64 (x1.2.2.1 + (1 : Int)), ())).map Sum.inl) else ((some (x1.2.1, ())).map Sum.inl).map Sum.inr
noncomputable def laws_szInsS (a0 : List ((Int × (Int × (Int × (Int × (Int × (ByteArray × List (Int))))))))) (a1 : Int) : Option ((Int × Unit)) := bif decide ((IntKind.wrap .i64 (a1 - (List.length a0 : Int))) < (0 : Int)) then some ((-1 : Int), ()) else joinS ((some (a0, IntKind.wrap .i64 (a1 - (List.length a0 : Int)), (0 : Int), ())).bind fun x10 => loopF L1_laws_szInsS x10) fun x3 => some (x3.1, ())

/-- laws.szCode -/
noncomputable def laws_szCode (a0 : (ByteArray × (Int × (List (Int) × List ((Int × (Int × (Int × (Int × (Int × (ByteArray × List (Int)))))))))))) (a1 : Int) : Option ((Int × Unit)) := bif decide ((IntKind.wrap .i64 (a1 - (a0.1.size : Int))) < (0 : Int)) then some ((-1 : Int), ()) else (laws_szIntS a0.2.2.1 (IntKind.wrap .i64 (a1 - (a0.1.size : Int)))).bind fun y1 => bif decide (y1.1 < (0 : Int)) then some ((-1 : Int), ()) else (laws_szInsS a0.2.2.2 y1.1).bind fun y2 => bif decide (y2.1 < (0 : Int)) then some ((-1 : Int), ()) else some (y2.1, ())

/-- laws.toInsS -/
noncomputable def L1_laws_toInsS (x1 : (List ((Int × (Int × (Int × (Int × (Int × (ByteArray × List (Int)))))))) × List ((Int × (Int × (Int × (Int × (Int × (ByteArray × List (Int)))))))) × Int × Unit)) : Option ((List ((Int × (Int × (Int × (Int × (Int × (ByteArray × List (Int)))))))) × List ((Int × (Int × (Int × (Int × (Int × (ByteArray × List (Int)))))))) × Int × Unit) ⊕ (List ((Int × (Int × (Int × (Int × (Int × (ByteArray × List (Int)))))))) × Unit)) := bif decide (x1.2.2.1 < (List.length x1.1 : Int)) then (Cnd.idx x1.2.2.1 (List.length x1.1)).run ((laws_toIns (rd x1.1 x1.2.2.1 ((0 : Int), ((0 : Int), ((0 : Int), ((0 : Int), ((0 : Int), ((⟨#[]⟩ : ByteArray), [])))))))).bind fun y2 => (Cnd.idx x1.2.2.1 (List.length x1.2.1)).run (bindD (t := (.list 27 (.pair (.int .i64) (.pair (.int .i64) (.pair (.int .i64) (.pair (.int .i64) (.pair (.int .i64) (.pair (.str) (.list 3 (.int .i64)))))))))) (List.set x1.2.1 x1.2.2.1.toNat y2.1) fun v3 => (some (x1.1, v3, IntKind.wrap .i64 (x1.2.2.1 + (1 : Int)), ())).map Sum.inl)) else (some (x1.2.1, ())).map Sum.inr
noncomputable def laws_toInsS (a0 : List ((Int × (Int × (Int × (Int × (Int × (ByteArray × List (Int))))))))) : Option ((List ((Int × (Int × (Int × (Int × (Int × (ByteArray × List (Int)))))))) × Unit)) := (Cnd.both (Cnd.nn (List.length a0 : Int)) (Cnd.le ((List.length a0 : Int).toNat * 80) 140737488355328)).run (joinP ((some (a0, List.replicate (List.length a0 : Int).toNat ((0 : Int), ((0 : Int), ((0 : Int), ((0 : Int), ((0 : Int), ((⟨#[]⟩ : ByteArray), [])))))), (0 : Int), ())).bind fun x10 => loopF L1_laws_toInsS x10) fun x4 => some (x4.1, ()))

/-- laws.toCode -/
noncomputable def laws_toCode (a0 : (ByteArray × (Int × (List (Int) × List ((Int × (Int × (Int × (Int × (Int × (ByteArray × List (Int)))))))))))) : Option (((ByteArray × (Int × (List (Int) × List ((Int × (Int × (Int × (Int × (Int × (ByteArray × List (Int))))))))))) × Unit)) := (laws_toIntS a0.2.2.1).bind fun y1 => (laws_toInsS a0.2.2.2).bind fun y2 => some ((a0.1, (a0.2.1, (y1.1, y2.1))), ())

/-- spec.Listing -/
noncomputable def L1_spec_Listing (x1 : (ByteArray × Int × (ByteArray × (Int × (List (Int) × List ((Int × (Int × (Int × (Int × (Int × (ByteArray × List (Int))))))))))) × Unit)) : Option ((ByteArray × Int × (ByteArray × (Int × (List (Int) × List ((Int × (Int × (Int × (Int × (Int × (ByteArray × List (Int))))))))))) × Unit) ⊕ (ByteArray × Unit)) := bif decide (x1.2.1 < (List.length x1.2.2.1.2.2.2 : Int)) then (spec_Decimal x1.2.1).bind fun y2 => (Cnd.le (x1.1.size + y2.1.size) maxI).run ((Cnd.le ((x1.1 ++ y2.1).size + s___36a9.size) maxI).run ((Cnd.idx x1.2.1 (List.length x1.2.2.1.2.2.2)).run ((spec_ShowWord (rd x1.2.2.1.2.2.2 x1.2.1 ((0 : Int), ((0 : Int), ((0 : Int), ((0 : Int), ((0 : Int), ((⟨#[]⟩ : ByteArray), [])))))))).bind fun y3 => (Cnd.le (((x1.1 ++ y2.1) ++ s___36a9).size + y3.1.size) maxI).run ((Cnd.le ((((x1.1 ++ y2.1) ++ s___36a9) ++ y3.1).size + s___01ba.size) maxI).run ((some ((((x1.1 ++ y2.1) ++ s___36a9) ++ y3.1) ++ s___01ba, IntKind.wrap .i64 (x1.2.1 + (1 : Int)), x1.2.2.1, ())).map Sum.inl))))) else (some (x1.1, ())).map Sum.inr
noncomputable def spec_Listing (a0 : (ByteArray × (Int × (List (Int) × List ((Int × (Int × (Int × (Int × (Int × (ByteArray × List (Int)))))))))))) : Option ((ByteArray × Unit)) := (Cnd.le (s_code__aacf.size + a0.1.size) maxI).run ((Cnd.le ((s_code__aacf ++ a0.1).size + s___01ba.size) maxI).run (joinP ((some ((s_code__aacf ++ a0.1) ++ s___01ba, (0 : Int), a0, ())).bind fun x10 => loopF L1_spec_Listing x10) fun x4 => some (x4.1, ())))

/-- impl.Listing -/
noncomputable def L1_impl_Listing (x1 : (ByteArray × List ((Int × (Int × (Int × (Int × (Int × (ByteArray × List (Int)))))))) × Int × Int × Unit)) : Option ((ByteArray × List ((Int × (Int × (Int × (Int × (Int × (ByteArray × List (Int)))))))) × Int × Int × Unit) ⊕ (ByteArray × Unit)) := bif decide (x1.2.2.2.1 < x1.2.2.1) then (Cnd.idx x1.2.2.2.1 (List.length x1.2.1)).run ((impl_Decimal x1.2.2.2.1).bind fun y2 => (Cnd.le (y2.1.size + s___36a9.size) maxI).run ((impl_ShowWord (rd x1.2.1 x1.2.2.2.1 ((0 : Int), ((0 : Int), ((0 : Int), ((0 : Int), ((0 : Int), ((⟨#[]⟩ : ByteArray), [])))))))).bind fun y3 => (Cnd.le ((y2.1 ++ s___36a9).size + y3.1.size) maxI).run ((Cnd.le (((y2.1 ++ s___36a9) ++ y3.1).size + s___01ba.size) maxI).run ((Cnd.le (x1.1.size + (((y2.1 ++ s___36a9) ++ y3.1) ++ s___01ba).size) maxI).run ((some (x1.1 ++ (((y2.1 ++ s___36a9) ++ y3.1) ++ s___01ba), x1.2.1, x1.2.2.1, IntKind.wrap .i64 (x1.2.2.2.1 + (1 : Int)), ())).map Sum.inl))))) else (some (x1.1, ())).map Sum.inr
noncomputable def impl_Listing (a0 : (ByteArray × (Int × (List (Int) × List ((Int × (Int × (Int × (Int × (Int × (ByteArray × List (Int)))))))))))) : Option ((ByteArray × Unit)) := (Cnd.le (s_code__aacf.size + a0.1.size) maxI).run ((Cnd.le ((s_code__aacf ++ a0.1).size + s___01ba.size) maxI).run (joinP ((some ((s_code__aacf ++ a0.1) ++ s___01ba, a0.2.2.2, (List.length a0.2.2.2 : Int), (0 : Int), ())).bind fun x10 => loopF L1_impl_Listing x10) fun x4 => some (x4.1, ())))

/-- laws.eqInsS -/
noncomputable def L1_laws_eqInsS (x1 : (List ((Int × (Int × (Int × (Int × (Int × (ByteArray × List (Int)))))))) × List ((Int × (Int × (Int × (Int × (Int × (ByteArray × List (Int)))))))) × Int × Unit)) : Option ((List ((Int × (Int × (Int × (Int × (Int × (ByteArray × List (Int)))))))) × List ((Int × (Int × (Int × (Int × (Int × (ByteArray × List (Int)))))))) × Int × Unit) ⊕ ((Unit) ⊕ (Bool × Unit))) := bif decide (x1.2.2.1 < (List.length x1.1 : Int)) then (Cnd.idx x1.2.2.1 (List.length x1.1)).run ((Cnd.idx x1.2.2.1 (List.length x1.2.1)).run ((laws_eqIns (rd x1.1 x1.2.2.1 ((0 : Int), ((0 : Int), ((0 : Int), ((0 : Int), ((0 : Int), ((⟨#[]⟩ : ByteArray), []))))))) (rd x1.2.1 x1.2.2.1 ((0 : Int), ((0 : Int), ((0 : Int), ((0 : Int), ((0 : Int), ((⟨#[]⟩ : ByteArray), [])))))))).bind fun y2 => bif !y2.1 then ((some (false, ())).map Sum.inr).map Sum.inr else (some (x1.1, x1.2.1, IntKind.wrap .i64 (x1.2.2.1 + (1 : Int)), ())).map Sum.inl)) else ((some (())).map Sum.inl).map Sum.inr
noncomputable def laws_eqInsS (a0 : List ((Int × (Int × (Int × (Int × (Int × (ByteArray × List (Int))))))))) (a1 : List ((Int × (Int × (Int × (Int × (Int × (ByteArray × List (Int))))))))) : Option ((Bool × Unit)) := bif decide ((List.length a0 : Int) ≠ (List.length a1 : Int)) then some (false, ()) else joinS ((some (a0, a1, (0 : Int), ())).bind fun x10 => loopF L1_laws_eqInsS x10) fun x3 => some (true, ())

/-- laws.eqCode -/
noncomputable def laws_eqCode (a0 : (ByteArray × (Int × (List (Int) × List ((Int × (Int × (Int × (Int × (Int × (ByteArray × List (Int)))))))))))) (a1 : (ByteArray × (Int × (List (Int) × List ((Int × (Int × (Int × (Int × (Int × (ByteArray × List (Int)))))))))))) : Option ((Bool × Unit)) := bif decide (a0.1 ≠ a1.1) then some (false, ()) else bif decide (a0.2.1 ≠ a1.2.1) then some (false, ()) else (laws_eqIntS a0.2.2.1 a1.2.2.1).bind fun y1 => bif !y1.1 then some (false, ()) else (laws_eqInsS a0.2.2.2 a1.2.2.2).bind fun y2 => bif !y2.1 then some (false, ()) else some (true, ())

/-- laws.FnExactListing -/
noncomputable def laws_FnExactListing (a0 : (ByteArray × (Int × (List (Int) × List ((Int × (Int × (Int × (Int × (Int × (ByteArray × List (Int)))))))))))) : Option ((Bool × Unit)) := (laws_szCode a0 (1048576 : Int)).bind fun y1 => bif decide (y1.1 < (0 : Int)) then some (true, ()) else (laws_toCode a0).bind fun y2 => (spec_Listing y2.1).bind fun y3 => (laws_toCode a0).bind fun y4 => (impl_Listing y4.1).bind fun y5 => bif decide (y5.1 ≠ y3.1) then some (false, ()) else (laws_toCode a0).bind fun y6 => (laws_eqCode y4.1 y6.1).bind fun y7 => bif !y7.1 then some (false, ()) else some (true, ())
end Go.Proofs.YtibccfmlfknhbaaDoorE

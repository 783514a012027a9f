/- Contracts of Go functions and what they come to, over the translation of this seat: made by a program of this session (print2.py). -/
import Derived.Test.YtpalnbdcemmlnaaRx0
import Derived.Test.YtpalnbdcemmlnaaRx1
import Derived.Test.YtpalnbdcemmlnaaRx2
import Derived.Test.YtpalnbdcemmlnaaRx3
import Derived.Test.YtpalnbdcemmlnaaRx7
import Derived.Test.YtpalnbdcemmlnaaRx10
import Derived.Test.YtpalnbdcemmlnaaRx11
namespace Go.Proofs.Ytpalnbdcemmlnaa.R
open Go.RowKit Go.Proofs.Ytpalnbdcemmlnaa.Co Go.Proofs.Ytpalnbdcemmlnaa.Ret Go.Proofs.Ytpalnbdcemmlnaa.Plain Go.Proofs.Ytpalnbdcemmlnaa.Box Go.Proofs.YtpalnbdcemmlnaaW.PrintWords Go.Proofs.YtpalnbdcemmlnaaW.PrintLast Go.Proofs.YtpalnbdcemmlnaaW.PrintMore
attribute [local go_sem] max2_int min2_int max_two min_two max_three min_three max_four min_four   -- for this text's walks alone
set_option linter.unusedVariables false
set_option linter.unusedSimpArgs false

attribute [local go_sem high] eqA39
/-! ### millhandlaw12_BlockNames: function 5 -/
def millhandlaw12_BlockNames.f (k : Nat)  : Option (Bool) := (millhandlaw12_three.f).bind fun t305 => ((block_Write.f k t305).bind fun bt308 => ((block_Find.f k bt308.1 (⟨#[97, 98]⟩ : ByteArray) 9).bind fun bt312 => ((block_Find.f k bt308.1 (⟨#[97, 98]⟩ : ByteArray) 1).bind fun bt319 => ((block_Find.f k bt308.1 (⟨#[97, 98]⟩ : ByteArray) 0).bind fun bt326 => ((block_Find.f k bt308.1 (⟨#[97, 97]⟩ : ByteArray) 9).bind fun bt333 => ((block_Write.f k ([] : List (S39))).bind fun bt340 => ((block_Write.f k (([(⟨(⟨#[98]⟩ : ByteArray), 1, false, (⟨#[]⟩ : ByteArray)⟩ : S39), (⟨(⟨#[97]⟩ : ByteArray), 1, false, (⟨#[]⟩ : ByteArray)⟩ : S39)] : List (S39)))).bind fun bt347 => ((block_Write.f k (([(⟨(⟨#[97]⟩ : ByteArray), 1, false, (⟨#[]⟩ : ByteArray)⟩ : S39), (⟨(⟨#[97]⟩ : ByteArray), 2, false, (⟨#[]⟩ : ByteArray)⟩ : S39)] : List (S39)))).bind fun bt354 => ((block_Read.f (([1, 0, 0, 1, 0, 0] : List Int))).bind fun bt361 => ((block_Find.f k bt308.1 (⟨#[]⟩ : ByteArray) 1).bind fun bt365 => ((block_Find.f k bt308.1 (⟨#[97]⟩ : ByteArray) (-1)).bind fun bt372 => ((millhandlaw12_alive.f k).bind fun t379 => (if t379 = true then (if bt312.2.2.2.2.1 = true then (if bt312.2.2.2.2.2 = 0 then ((millhandlaw12_three.f).bind fun t380 => (if 0 < (t380.length : Int) then (if (bt312.1.toList == (((rd_T39 t380 0).f0).toList) && (bt312.2.1 == ((rd_T39 t380 0).f1) && (bt312.2.2.1 == ((rd_T39 t380 0).f2) && (bt312.2.2.2.1.toList == (((rd_T39 t380 0).f3).toList))))) = true then (if bt319.2.2.2.2.1 = true then (if bt319.2.2.2.2.2 = 0 then ((millhandlaw12_three.f).bind fun t384 => (if 1 < (t384.length : Int) then (if (bt319.1.toList == (((rd_T39 t384 1).f0).toList) && (bt319.2.1 == ((rd_T39 t384 1).f1) && (bt319.2.2.1 == ((rd_T39 t384 1).f2) && (bt319.2.2.2.1.toList == (((rd_T39 t384 1).f3).toList))))) = true then (if bt326.2.2.2.2.1 = true then (some false) else (if bt326.2.2.2.2.2 = 0 then (if bt333.2.2.2.2.1 = true then (some false) else (if bt333.2.2.2.2.2 = 0 then (if bt340.2 = 4 then (if bt347.2 = 8 then (if bt354.2 = 8 then (if bt361.2 = 8 then (if bt365.2.2.2.2.2 = 3 then (if bt372.2.2.2.2.2 = 2 then ((block_Common.f k (⟨#[97, 98, 99]⟩ : ByteArray) (⟨#[97, 98, 100]⟩ : ByteArray)).bind fun t388 => (some (t388 == 2))) else (some false)) else (some false)) else (some false)) else (some false)) else (some false)) else (some false)) else (some false))) else (some false))) else (some false)) else (none))) else (some false)) else (some false)) else (some false)) else (none))) else (some false)) else (some false)) else (some false))))))))))))))
theorem millhandlaw12_BlockNames.mono : ∀ k, LeO (millhandlaw12_BlockNames.f k ) (millhandlaw12_BlockNames.f (k + 1) ) := by
 intro  k
 unfold millhandlaw12_BlockNames.f
 repeat' first
   | (with_reducible exact block_Common.mono _ _ _)
   | (with_reducible exact block_Find.mono _ _ _ _)
   | (with_reducible exact block_Write.mono _ _)
   | (with_reducible exact millhandlaw12_alive.mono _)
   | (with_reducible exact LeO.refl _)
   | (with_reducible exact LeO.none _)
   | (with_reducible refine LeO.ite ?_ ?_)
   | (with_reducible refine LeO.bind ?_ (fun _ => ?_))
   | exact block_Common.mono _ _ _
   | exact block_Find.mono _ _ _ _
   | exact block_Write.mono _ _
   | exact millhandlaw12_alive.mono _
   | exact LeO.none _
   | refine LeO.ite ?_ ?_
   | refine LeO.bind ?_ (fun _ => ?_)
def millhandlaw12_BlockNames.T12 : Bool × List (List Nat × List Nat) := (true, [([], []), ([0, 0], [0]), ([0, 1], [0, 1]), ([2, 1], [2]), ([3], [3]), ([3, 4], [3, 4]), ([5, 3], [5]), ([6], [6]), ([7, 6], [6, 7]), ([6, 8], [6, 8]), ([9, 6], [9]), ([10], [10]), ([10, 10], [10]), ([12, 10], [10, 12]), ([13, 10], [10, 13]), ([11, 14, 10], [10, 11, 14]), ([10, 15], [10, 15]), ([16, 12], [16]), ([17], [17]), ([17, 18], [17, 18]), ([19, 17], [19]), ([20], [20]), ([21, 20], [20, 21]), ([20, 22], [20, 22]), ([23, 20], [23]), ([24], [24]), ([24, 24], [24]), ([26, 24], [24, 26]), ([27, 24], [24, 27]), ([25, 28, 24], [24, 25, 28]), ([24, 29], [24, 29]), ([30, 26], [30]), ([31], [31]), ([32, 31], [31, 32]), ([31, 33], [31, 33]), ([34, 31], [34]), ([35], [35]), ([36, 35], [35, 36]), ([35, 37], [35, 37]), ([38, 35], [38]), ([39], [39]), ([40, 39], [39, 40]), ([39, 41], [39, 41]), ([42, 39], [42]), ([43], [43]), ([44, 43], [43, 44]), ([43, 45], [43, 45]), ([46, 43], [46]), ([47], [47]), ([48, 47], [47, 48]), ([47, 49], [47, 49]), ([50, 47], [50]), ([51], [51]), ([52, 51], [51, 52]), ([51, 53], [51, 53]), ([54, 51], [54]), ([55], [55]), ([56, 55], [55, 56]), ([55, 57], [55, 57]), ([58, 55], [58]), ([59], [59]), ([60, 59], [59, 60]), ([59, 61], [59, 61]), ([62, 59], [62]), ([63], [63]), ([64, 63], [63, 64]), ([63, 65], [63, 65]), ([66, 63], [66]), ([67], [67]), ([68, 67], [67, 68]), ([67, 69], [67, 69]), ([70, 67], [70]), ([71, 71], [71]), ([72, 71], [71, 72]), ([71, 73], [71, 73]), ([74, 72, 0, 1, 2, 3, 4, 5, 6, 7, 8, 9, 10, 11, 12, 13, 14, 15, 16, 17, 18, 19, 20, 21, 22, 23, 24, 25, 26, 27, 28, 29, 30, 31, 32, 33, 34, 35, 36, 37, 38, 39, 40, 41, 42, 43, 44, 45, 46, 47, 48, 49, 50, 51, 52, 53, 54, 55, 56, 57, 58, 59, 60, 61, 62, 63, 64, 65, 66, 67, 68, 69, 70, 71, 72, 73, 74], [74])])
def millhandlaw12_BlockNames.B12 : List Nat := [0, 1, 3, 7, 15, 31, 63, 127, 255, 511, 1023, 2047, 2047, 6143, 14335, 32767, 65535, 131071, 262143, 524287, 1048575, 2097151, 4194303, 8388607, 16777215, 33554431, 33554431, 100663295, 234881023, 536870911, 1073741823, 2147483647, 4294967295, 8589934591, 17179869183, 34359738367, 68719476735, 137438953471, 274877906943, 549755813887, 1099511627775, 2199023255551, 4398046511103, 8796093022207, 17592186044415, 35184372088831, 70368744177663, 140737488355327, 281474976710655, 562949953421311, 1125899906842623, 2251799813685247, 4503599627370495, 9007199254740991, 18014398509481983, 36028797018963967, 72057594037927935, 144115188075855871, 288230376151711743, 576460752303423487, 1152921504606846975, 2305843009213693951, 4611686018427387903, 9223372036854775807, 18446744073709551615, 36893488147419103231, 73786976294838206463, 147573952589676412927, 295147905179352825855, 590295810358705651711, 1180591620717411303423, 2361183241434822606847, 4722366482869645213695, 9444732965739290427391, 18889465931478580854783, 37778931862957161709567]
theorem millhandlaw12_BlockNames.tab12 : rtab .any (opsOf Try.f5 12) = millhandlaw12_BlockNames.T12 := by kernel_rfl
theorem millhandlaw12_BlockNames.bits12 : waitsOk millhandlaw12_BlockNames.T12.2 millhandlaw12_BlockNames.B12 = true := by kernel_rfl
/-- More may be held from here on, and it is there. -/
theorem moreH_ {P : Program} {ops : Array Oper} {Q : Exit → Act → World → Prop} {md : Region.Mode} {S : World → Prop} {fuel : Nat} {l : Array Bool} {a : Act} {w : World} (S2 : World → Prop) (h1 : S w) (h2 : S2 w) (k : S w ∧ S2 w → wpAnyLast P md ops Q (fun w' => S w' ∧ S2 w') [] fuel l a w) : wpAnyLast P md ops Q S [] fuel l a w := more_ h1 h2 (k ⟨h1, h2⟩)
set_option maxHeartbeats 8000000 in
set_option maxRecDepth 100000 in
theorem millhandlaw12_BlockNames.calls (k : Nat)  (r : Bool) (w : World) (h : millhandlaw12_BlockNames.f k  = some r) (hr : r = true) :
  Calls Try.prog 5 #[] w fun e w' => e = .returned (.bool r) ∧ Below w.heap.size w w' := by
 have hu39 := Try.underlying39
 have HB := Aside0.mk (Below.refl w.heap.size w)
 have H : ((millhandlaw12_three.f).bind fun t305 => ((block_Write.f k t305).bind fun bt308 => ((block_Find.f k bt308.1 (⟨#[97, 98]⟩ : ByteArray) 9).bind fun bt312 => ((block_Find.f k bt308.1 (⟨#[97, 98]⟩ : ByteArray) 1).bind fun bt319 => ((block_Find.f k bt308.1 (⟨#[97, 98]⟩ : ByteArray) 0).bind fun bt326 => ((block_Find.f k bt308.1 (⟨#[97, 97]⟩ : ByteArray) 9).bind fun bt333 => ((block_Write.f k ([] : List (S39))).bind fun bt340 => ((block_Write.f k (([(⟨(⟨#[98]⟩ : ByteArray), 1, false, (⟨#[]⟩ : ByteArray)⟩ : S39), (⟨(⟨#[97]⟩ : ByteArray), 1, false, (⟨#[]⟩ : ByteArray)⟩ : S39)] : List (S39)))).bind fun bt347 => ((block_Write.f k (([(⟨(⟨#[97]⟩ : ByteArray), 1, false, (⟨#[]⟩ : ByteArray)⟩ : S39), (⟨(⟨#[97]⟩ : ByteArray), 2, false, (⟨#[]⟩ : ByteArray)⟩ : S39)] : List (S39)))).bind fun bt354 => ((block_Read.f (([1, 0, 0, 1, 0, 0] : List Int))).bind fun bt361 => ((block_Find.f k bt308.1 (⟨#[]⟩ : ByteArray) 1).bind fun bt365 => ((block_Find.f k bt308.1 (⟨#[97]⟩ : ByteArray) (-1)).bind fun bt372 => ((millhandlaw12_alive.f k).bind fun t379 => (if t379 = true then (if bt312.2.2.2.2.1 = true then (if bt312.2.2.2.2.2 = 0 then ((millhandlaw12_three.f).bind fun t380 => (if 0 < (t380.length : Int) then (if (bt312.1.toList == (((rd_T39 t380 0).f0).toList) && (bt312.2.1 == ((rd_T39 t380 0).f1) && (bt312.2.2.1 == ((rd_T39 t380 0).f2) && (bt312.2.2.2.1.toList == (((rd_T39 t380 0).f3).toList))))) = true then (if bt319.2.2.2.2.1 = true then (if bt319.2.2.2.2.2 = 0 then ((millhandlaw12_three.f).bind fun t384 => (if 1 < (t384.length : Int) then (if (bt319.1.toList == (((rd_T39 t384 1).f0).toList) && (bt319.2.1 == ((rd_T39 t384 1).f1) && (bt319.2.2.1 == ((rd_T39 t384 1).f2) && (bt319.2.2.2.1.toList == (((rd_T39 t384 1).f3).toList))))) = true then (if bt326.2.2.2.2.1 = true then (some false) else (if bt326.2.2.2.2.2 = 0 then (if bt333.2.2.2.2.1 = true then (some false) else (if bt333.2.2.2.2.2 = 0 then (if bt340.2 = 4 then (if bt347.2 = 8 then (if bt354.2 = 8 then (if bt361.2 = 8 then (if bt365.2.2.2.2.2 = 3 then (if bt372.2.2.2.2.2 = 2 then ((block_Common.f k (⟨#[97, 98, 99]⟩ : ByteArray) (⟨#[97, 98, 100]⟩ : ByteArray)).bind fun t388 => (some (t388 == 2))) else (some false)) else (some false)) else (some false)) else (some false)) else (some false)) else (some false)) else (some false))) else (some false))) else (some false)) else (none))) else (some false)) else (some false)) else (some false)) else (none))) else (some false)) else (some false)) else (some false))))))))))))))) = some r := h
 clear h
 replace H := Option.bind_eq_some_iff.mp H
 obtain ⟨t305, A10, H⟩ := H
 replace H : ((block_Write.f k t305).bind fun bt308 => ((block_Find.f k bt308.1 (⟨#[97, 98]⟩ : ByteArray) 9).bind fun bt312 => ((block_Find.f k bt308.1 (⟨#[97, 98]⟩ : ByteArray) 1).bind fun bt319 => ((block_Find.f k bt308.1 (⟨#[97, 98]⟩ : ByteArray) 0).bind fun bt326 => ((block_Find.f k bt308.1 (⟨#[97, 97]⟩ : ByteArray) 9).bind fun bt333 => ((block_Write.f k ([] : List (S39))).bind fun bt340 => ((block_Write.f k (([(⟨(⟨#[98]⟩ : ByteArray), 1, false, (⟨#[]⟩ : ByteArray)⟩ : S39), (⟨(⟨#[97]⟩ : ByteArray), 1, false, (⟨#[]⟩ : ByteArray)⟩ : S39)] : List (S39)))).bind fun bt347 => ((block_Write.f k (([(⟨(⟨#[97]⟩ : ByteArray), 1, false, (⟨#[]⟩ : ByteArray)⟩ : S39), (⟨(⟨#[97]⟩ : ByteArray), 2, false, (⟨#[]⟩ : ByteArray)⟩ : S39)] : List (S39)))).bind fun bt354 => ((block_Read.f (([1, 0, 0, 1, 0, 0] : List Int))).bind fun bt361 => ((block_Find.f k bt308.1 (⟨#[]⟩ : ByteArray) 1).bind fun bt365 => ((block_Find.f k bt308.1 (⟨#[97]⟩ : ByteArray) (-1)).bind fun bt372 => ((millhandlaw12_alive.f k).bind fun t379 => (if t379 = true then (if bt312.2.2.2.2.1 = true then (if bt312.2.2.2.2.2 = 0 then ((millhandlaw12_three.f).bind fun t380 => (if 0 < (t380.length : Int) then (if (bt312.1.toList == (((rd_T39 t380 0).f0).toList) && (bt312.2.1 == ((rd_T39 t380 0).f1) && (bt312.2.2.1 == ((rd_T39 t380 0).f2) && (bt312.2.2.2.1.toList == (((rd_T39 t380 0).f3).toList))))) = true then (if bt319.2.2.2.2.1 = true then (if bt319.2.2.2.2.2 = 0 then ((millhandlaw12_three.f).bind fun t384 => (if 1 < (t384.length : Int) then (if (bt319.1.toList == (((rd_T39 t384 1).f0).toList) && (bt319.2.1 == ((rd_T39 t384 1).f1) && (bt319.2.2.1 == ((rd_T39 t384 1).f2) && (bt319.2.2.2.1.toList == (((rd_T39 t384 1).f3).toList))))) = true then (if bt326.2.2.2.2.1 = true then (some false) else (if bt326.2.2.2.2.2 = 0 then (if bt333.2.2.2.2.1 = true then (some false) else (if bt333.2.2.2.2.2 = 0 then (if bt340.2 = 4 then (if bt347.2 = 8 then (if bt354.2 = 8 then (if bt361.2 = 8 then (if bt365.2.2.2.2.2 = 3 then (if bt372.2.2.2.2.2 = 2 then ((block_Common.f k (⟨#[97, 98, 99]⟩ : ByteArray) (⟨#[97, 98, 100]⟩ : ByteArray)).bind fun t388 => (some (t388 == 2))) else (some false)) else (some false)) else (some false)) else (some false)) else (some false)) else (some false)) else (some false))) else (some false))) else (some false)) else (none))) else (some false)) else (some false)) else (some false)) else (none))) else (some false)) else (some false)) else (some false)))))))))))))) = some r := H
 have A1 := Aside0.mk A10
 clear A10
 replace H := Option.bind_eq_some_iff.mp H
 obtain ⟨⟨t308, t309⟩, A20, H⟩ := H
 replace H : ((block_Find.f k t308 (⟨#[97, 98]⟩ : ByteArray) 9).bind fun bt312 => ((block_Find.f k t308 (⟨#[97, 98]⟩ : ByteArray) 1).bind fun bt319 => ((block_Find.f k t308 (⟨#[97, 98]⟩ : ByteArray) 0).bind fun bt326 => ((block_Find.f k t308 (⟨#[97, 97]⟩ : ByteArray) 9).bind fun bt333 => ((block_Write.f k ([] : List (S39))).bind fun bt340 => ((block_Write.f k (([(⟨(⟨#[98]⟩ : ByteArray), 1, false, (⟨#[]⟩ : ByteArray)⟩ : S39), (⟨(⟨#[97]⟩ : ByteArray), 1, false, (⟨#[]⟩ : ByteArray)⟩ : S39)] : List (S39)))).bind fun bt347 => ((block_Write.f k (([(⟨(⟨#[97]⟩ : ByteArray), 1, false, (⟨#[]⟩ : ByteArray)⟩ : S39), (⟨(⟨#[97]⟩ : ByteArray), 2, false, (⟨#[]⟩ : ByteArray)⟩ : S39)] : List (S39)))).bind fun bt354 => ((block_Read.f (([1, 0, 0, 1, 0, 0] : List Int))).bind fun bt361 => ((block_Find.f k t308 (⟨#[]⟩ : ByteArray) 1).bind fun bt365 => ((block_Find.f k t308 (⟨#[97]⟩ : ByteArray) (-1)).bind fun bt372 => ((millhandlaw12_alive.f k).bind fun t379 => (if t379 = true then (if bt312.2.2.2.2.1 = true then (if bt312.2.2.2.2.2 = 0 then ((millhandlaw12_three.f).bind fun t380 => (if 0 < (t380.length : Int) then (if (bt312.1.toList == (((rd_T39 t380 0).f0).toList) && (bt312.2.1 == ((rd_T39 t380 0).f1) && (bt312.2.2.1 == ((rd_T39 t380 0).f2) && (bt312.2.2.2.1.toList == (((rd_T39 t380 0).f3).toList))))) = true then (if bt319.2.2.2.2.1 = true then (if bt319.2.2.2.2.2 = 0 then ((millhandlaw12_three.f).bind fun t384 => (if 1 < (t384.length : Int) then (if (bt319.1.toList == (((rd_T39 t384 1).f0).toList) && (bt319.2.1 == ((rd_T39 t384 1).f1) && (bt319.2.2.1 == ((rd_T39 t384 1).f2) && (bt319.2.2.2.1.toList == (((rd_T39 t384 1).f3).toList))))) = true then (if bt326.2.2.2.2.1 = true then (some false) else (if bt326.2.2.2.2.2 = 0 then (if bt333.2.2.2.2.1 = true then (some false) else (if bt333.2.2.2.2.2 = 0 then (if bt340.2 = 4 then (if bt347.2 = 8 then (if bt354.2 = 8 then (if bt361.2 = 8 then (if bt365.2.2.2.2.2 = 3 then (if bt372.2.2.2.2.2 = 2 then ((block_Common.f k (⟨#[97, 98, 99]⟩ : ByteArray) (⟨#[97, 98, 100]⟩ : ByteArray)).bind fun t388 => (some (t388 == 2))) else (some false)) else (some false)) else (some false)) else (some false)) else (some false)) else (some false)) else (some false))) else (some false))) else (some false)) else (none))) else (some false)) else (some false)) else (some false)) else (none))) else (some false)) else (some false)) else (some false))))))))))))) = some r := H
 have A2 := Aside0.mk A20
 clear A20
 replace H := Option.bind_eq_some_iff.mp H
 obtain ⟨⟨t312, t313, t314, t315, t316, t317⟩, A30, H⟩ := H
 replace H : ((block_Find.f k t308 (⟨#[97, 98]⟩ : ByteArray) 1).bind fun bt319 => ((block_Find.f k t308 (⟨#[97, 98]⟩ : ByteArray) 0).bind fun bt326 => ((block_Find.f k t308 (⟨#[97, 97]⟩ : ByteArray) 9).bind fun bt333 => ((block_Write.f k ([] : List (S39))).bind fun bt340 => ((block_Write.f k (([(⟨(⟨#[98]⟩ : ByteArray), 1, false, (⟨#[]⟩ : ByteArray)⟩ : S39), (⟨(⟨#[97]⟩ : ByteArray), 1, false, (⟨#[]⟩ : ByteArray)⟩ : S39)] : List (S39)))).bind fun bt347 => ((block_Write.f k (([(⟨(⟨#[97]⟩ : ByteArray), 1, false, (⟨#[]⟩ : ByteArray)⟩ : S39), (⟨(⟨#[97]⟩ : ByteArray), 2, false, (⟨#[]⟩ : ByteArray)⟩ : S39)] : List (S39)))).bind fun bt354 => ((block_Read.f (([1, 0, 0, 1, 0, 0] : List Int))).bind fun bt361 => ((block_Find.f k t308 (⟨#[]⟩ : ByteArray) 1).bind fun bt365 => ((block_Find.f k t308 (⟨#[97]⟩ : ByteArray) (-1)).bind fun bt372 => ((millhandlaw12_alive.f k).bind fun t379 => (if t379 = true then (if t316 = true then (if t317 = 0 then ((millhandlaw12_three.f).bind fun t380 => (if 0 < (t380.length : Int) then (if (t312.toList == (((rd_T39 t380 0).f0).toList) && (t313 == ((rd_T39 t380 0).f1) && (t314 == ((rd_T39 t380 0).f2) && (t315.toList == (((rd_T39 t380 0).f3).toList))))) = true then (if bt319.2.2.2.2.1 = true then (if bt319.2.2.2.2.2 = 0 then ((millhandlaw12_three.f).bind fun t384 => (if 1 < (t384.length : Int) then (if (bt319.1.toList == (((rd_T39 t384 1).f0).toList) && (bt319.2.1 == ((rd_T39 t384 1).f1) && (bt319.2.2.1 == ((rd_T39 t384 1).f2) && (bt319.2.2.2.1.toList == (((rd_T39 t384 1).f3).toList))))) = true then (if bt326.2.2.2.2.1 = true then (some false) else (if bt326.2.2.2.2.2 = 0 then (if bt333.2.2.2.2.1 = true then (some false) else (if bt333.2.2.2.2.2 = 0 then (if bt340.2 = 4 then (if bt347.2 = 8 then (if bt354.2 = 8 then (if bt361.2 = 8 then (if bt365.2.2.2.2.2 = 3 then (if bt372.2.2.2.2.2 = 2 then ((block_Common.f k (⟨#[97, 98, 99]⟩ : ByteArray) (⟨#[97, 98, 100]⟩ : ByteArray)).bind fun t388 => (some (t388 == 2))) else (some false)) else (some false)) else (some false)) else (some false)) else (some false)) else (some false)) else (some false))) else (some false))) else (some false)) else (none))) else (some false)) else (some false)) else (some false)) else (none))) else (some false)) else (some false)) else (some false)))))))))))) = some r := H
 have A3 := Aside0.mk A30
 clear A30
 replace H := Option.bind_eq_some_iff.mp H
 obtain ⟨⟨t319, t320, t321, t322, t323, t324⟩, A40, H⟩ := H
 replace H : ((block_Find.f k t308 (⟨#[97, 98]⟩ : ByteArray) 0).bind fun bt326 => ((block_Find.f k t308 (⟨#[97, 97]⟩ : ByteArray) 9).bind fun bt333 => ((block_Write.f k ([] : List (S39))).bind fun bt340 => ((block_Write.f k (([(⟨(⟨#[98]⟩ : ByteArray), 1, false, (⟨#[]⟩ : ByteArray)⟩ : S39), (⟨(⟨#[97]⟩ : ByteArray), 1, false, (⟨#[]⟩ : ByteArray)⟩ : S39)] : List (S39)))).bind fun bt347 => ((block_Write.f k (([(⟨(⟨#[97]⟩ : ByteArray), 1, false, (⟨#[]⟩ : ByteArray)⟩ : S39), (⟨(⟨#[97]⟩ : ByteArray), 2, false, (⟨#[]⟩ : ByteArray)⟩ : S39)] : List (S39)))).bind fun bt354 => ((block_Read.f (([1, 0, 0, 1, 0, 0] : List Int))).bind fun bt361 => ((block_Find.f k t308 (⟨#[]⟩ : ByteArray) 1).bind fun bt365 => ((block_Find.f k t308 (⟨#[97]⟩ : ByteArray) (-1)).bind fun bt372 => ((millhandlaw12_alive.f k).bind fun t379 => (if t379 = true then (if t316 = true then (if t317 = 0 then ((millhandlaw12_three.f).bind fun t380 => (if 0 < (t380.length : Int) then (if (t312.toList == (((rd_T39 t380 0).f0).toList) && (t313 == ((rd_T39 t380 0).f1) && (t314 == ((rd_T39 t380 0).f2) && (t315.toList == (((rd_T39 t380 0).f3).toList))))) = true then (if t323 = true then (if t324 = 0 then ((millhandlaw12_three.f).bind fun t384 => (if 1 < (t384.length : Int) then (if (t319.toList == (((rd_T39 t384 1).f0).toList) && (t320 == ((rd_T39 t384 1).f1) && (t321 == ((rd_T39 t384 1).f2) && (t322.toList == (((rd_T39 t384 1).f3).toList))))) = true then (if bt326.2.2.2.2.1 = true then (some false) else (if bt326.2.2.2.2.2 = 0 then (if bt333.2.2.2.2.1 = true then (some false) else (if bt333.2.2.2.2.2 = 0 then (if bt340.2 = 4 then (if bt347.2 = 8 then (if bt354.2 = 8 then (if bt361.2 = 8 then (if bt365.2.2.2.2.2 = 3 then (if bt372.2.2.2.2.2 = 2 then ((block_Common.f k (⟨#[97, 98, 99]⟩ : ByteArray) (⟨#[97, 98, 100]⟩ : ByteArray)).bind fun t388 => (some (t388 == 2))) else (some false)) else (some false)) else (some false)) else (some false)) else (some false)) else (some false)) else (some false))) else (some false))) else (some false)) else (none))) else (some false)) else (some false)) else (some false)) else (none))) else (some false)) else (some false)) else (some false))))))))))) = some r := H
 have A4 := Aside0.mk A40
 clear A40
 replace H := Option.bind_eq_some_iff.mp H
 obtain ⟨⟨t326, t327, t328, t329, t330, t331⟩, A50, H⟩ := H
 replace H : ((block_Find.f k t308 (⟨#[97, 97]⟩ : ByteArray) 9).bind fun bt333 => ((block_Write.f k ([] : List (S39))).bind fun bt340 => ((block_Write.f k (([(⟨(⟨#[98]⟩ : ByteArray), 1, false, (⟨#[]⟩ : ByteArray)⟩ : S39), (⟨(⟨#[97]⟩ : ByteArray), 1, false, (⟨#[]⟩ : ByteArray)⟩ : S39)] : List (S39)))).bind fun bt347 => ((block_Write.f k (([(⟨(⟨#[97]⟩ : ByteArray), 1, false, (⟨#[]⟩ : ByteArray)⟩ : S39), (⟨(⟨#[97]⟩ : ByteArray), 2, false, (⟨#[]⟩ : ByteArray)⟩ : S39)] : List (S39)))).bind fun bt354 => ((block_Read.f (([1, 0, 0, 1, 0, 0] : List Int))).bind fun bt361 => ((block_Find.f k t308 (⟨#[]⟩ : ByteArray) 1).bind fun bt365 => ((block_Find.f k t308 (⟨#[97]⟩ : ByteArray) (-1)).bind fun bt372 => ((millhandlaw12_alive.f k).bind fun t379 => (if t379 = true then (if t316 = true then (if t317 = 0 then ((millhandlaw12_three.f).bind fun t380 => (if 0 < (t380.length : Int) then (if (t312.toList == (((rd_T39 t380 0).f0).toList) && (t313 == ((rd_T39 t380 0).f1) && (t314 == ((rd_T39 t380 0).f2) && (t315.toList == (((rd_T39 t380 0).f3).toList))))) = true then (if t323 = true then (if t324 = 0 then ((millhandlaw12_three.f).bind fun t384 => (if 1 < (t384.length : Int) then (if (t319.toList == (((rd_T39 t384 1).f0).toList) && (t320 == ((rd_T39 t384 1).f1) && (t321 == ((rd_T39 t384 1).f2) && (t322.toList == (((rd_T39 t384 1).f3).toList))))) = true then (if t330 = true then (some false) else (if t331 = 0 then (if bt333.2.2.2.2.1 = true then (some false) else (if bt333.2.2.2.2.2 = 0 then (if bt340.2 = 4 then (if bt347.2 = 8 then (if bt354.2 = 8 then (if bt361.2 = 8 then (if bt365.2.2.2.2.2 = 3 then (if bt372.2.2.2.2.2 = 2 then ((block_Common.f k (⟨#[97, 98, 99]⟩ : ByteArray) (⟨#[97, 98, 100]⟩ : ByteArray)).bind fun t388 => (some (t388 == 2))) else (some false)) else (some false)) else (some false)) else (some false)) else (some false)) else (some false)) else (some false))) else (some false))) else (some false)) else (none))) else (some false)) else (some false)) else (some false)) else (none))) else (some false)) else (some false)) else (some false)))))))))) = some r := H
 have A5 := Aside0.mk A50
 clear A50
 replace H := Option.bind_eq_some_iff.mp H
 obtain ⟨⟨t333, t334, t335, t336, t337, t338⟩, A60, H⟩ := H
 replace H : ((block_Write.f k ([] : List (S39))).bind fun bt340 => ((block_Write.f k (([(⟨(⟨#[98]⟩ : ByteArray), 1, false, (⟨#[]⟩ : ByteArray)⟩ : S39), (⟨(⟨#[97]⟩ : ByteArray), 1, false, (⟨#[]⟩ : ByteArray)⟩ : S39)] : List (S39)))).bind fun bt347 => ((block_Write.f k (([(⟨(⟨#[97]⟩ : ByteArray), 1, false, (⟨#[]⟩ : ByteArray)⟩ : S39), (⟨(⟨#[97]⟩ : ByteArray), 2, false, (⟨#[]⟩ : ByteArray)⟩ : S39)] : List (S39)))).bind fun bt354 => ((block_Read.f (([1, 0, 0, 1, 0, 0] : List Int))).bind fun bt361 => ((block_Find.f k t308 (⟨#[]⟩ : ByteArray) 1).bind fun bt365 => ((block_Find.f k t308 (⟨#[97]⟩ : ByteArray) (-1)).bind fun bt372 => ((millhandlaw12_alive.f k).bind fun t379 => (if t379 = true then (if t316 = true then (if t317 = 0 then ((millhandlaw12_three.f).bind fun t380 => (if 0 < (t380.length : Int) then (if (t312.toList == (((rd_T39 t380 0).f0).toList) && (t313 == ((rd_T39 t380 0).f1) && (t314 == ((rd_T39 t380 0).f2) && (t315.toList == (((rd_T39 t380 0).f3).toList))))) = true then (if t323 = true then (if t324 = 0 then ((millhandlaw12_three.f).bind fun t384 => (if 1 < (t384.length : Int) then (if (t319.toList == (((rd_T39 t384 1).f0).toList) && (t320 == ((rd_T39 t384 1).f1) && (t321 == ((rd_T39 t384 1).f2) && (t322.toList == (((rd_T39 t384 1).f3).toList))))) = true then (if t330 = true then (some false) else (if t331 = 0 then (if t337 = true then (some false) else (if t338 = 0 then (if bt340.2 = 4 then (if bt347.2 = 8 then (if bt354.2 = 8 then (if bt361.2 = 8 then (if bt365.2.2.2.2.2 = 3 then (if bt372.2.2.2.2.2 = 2 then ((block_Common.f k (⟨#[97, 98, 99]⟩ : ByteArray) (⟨#[97, 98, 100]⟩ : ByteArray)).bind fun t388 => (some (t388 == 2))) else (some false)) else (some false)) else (some false)) else (some false)) else (some false)) else (some false)) else (some false))) else (some false))) else (some false)) else (none))) else (some false)) else (some false)) else (some false)) else (none))) else (some false)) else (some false)) else (some false))))))))) = some r := H
 have A6 := Aside0.mk A60
 clear A60
 replace H := Option.bind_eq_some_iff.mp H
 obtain ⟨⟨t340, t341⟩, A70, H⟩ := H
 replace H : ((block_Write.f k (([(⟨(⟨#[98]⟩ : ByteArray), 1, false, (⟨#[]⟩ : ByteArray)⟩ : S39), (⟨(⟨#[97]⟩ : ByteArray), 1, false, (⟨#[]⟩ : ByteArray)⟩ : S39)] : List (S39)))).bind fun bt347 => ((block_Write.f k (([(⟨(⟨#[97]⟩ : ByteArray), 1, false, (⟨#[]⟩ : ByteArray)⟩ : S39), (⟨(⟨#[97]⟩ : ByteArray), 2, false, (⟨#[]⟩ : ByteArray)⟩ : S39)] : List (S39)))).bind fun bt354 => ((block_Read.f (([1, 0, 0, 1, 0, 0] : List Int))).bind fun bt361 => ((block_Find.f k t308 (⟨#[]⟩ : ByteArray) 1).bind fun bt365 => ((block_Find.f k t308 (⟨#[97]⟩ : ByteArray) (-1)).bind fun bt372 => ((millhandlaw12_alive.f k).bind fun t379 => (if t379 = true then (if t316 = true then (if t317 = 0 then ((millhandlaw12_three.f).bind fun t380 => (if 0 < (t380.length : Int) then (if (t312.toList == (((rd_T39 t380 0).f0).toList) && (t313 == ((rd_T39 t380 0).f1) && (t314 == ((rd_T39 t380 0).f2) && (t315.toList == (((rd_T39 t380 0).f3).toList))))) = true then (if t323 = true then (if t324 = 0 then ((millhandlaw12_three.f).bind fun t384 => (if 1 < (t384.length : Int) then (if (t319.toList == (((rd_T39 t384 1).f0).toList) && (t320 == ((rd_T39 t384 1).f1) && (t321 == ((rd_T39 t384 1).f2) && (t322.toList == (((rd_T39 t384 1).f3).toList))))) = true then (if t330 = true then (some false) else (if t331 = 0 then (if t337 = true then (some false) else (if t338 = 0 then (if t341 = 4 then (if bt347.2 = 8 then (if bt354.2 = 8 then (if bt361.2 = 8 then (if bt365.2.2.2.2.2 = 3 then (if bt372.2.2.2.2.2 = 2 then ((block_Common.f k (⟨#[97, 98, 99]⟩ : ByteArray) (⟨#[97, 98, 100]⟩ : ByteArray)).bind fun t388 => (some (t388 == 2))) else (some false)) else (some false)) else (some false)) else (some false)) else (some false)) else (some false)) else (some false))) else (some false))) else (some false)) else (none))) else (some false)) else (some false)) else (some false)) else (none))) else (some false)) else (some false)) else (some false)))))))) = some r := H
 have A7 := Aside0.mk A70
 clear A70
 obtain ⟨y344, hy344⟩ : ∃ y_ : List (S39), y_ = (([(⟨(⟨#[98]⟩ : ByteArray), 1, false, (⟨#[]⟩ : ByteArray)⟩ : S39), (⟨(⟨#[97]⟩ : ByteArray), 1, false, (⟨#[]⟩ : ByteArray)⟩ : S39)] : List (S39))) := ⟨_, rfl⟩
 replace H : ((block_Write.f k y344).bind fun bt347 => ((block_Write.f k (([(⟨(⟨#[97]⟩ : ByteArray), 1, false, (⟨#[]⟩ : ByteArray)⟩ : S39), (⟨(⟨#[97]⟩ : ByteArray), 2, false, (⟨#[]⟩ : ByteArray)⟩ : S39)] : List (S39)))).bind fun bt354 => ((block_Read.f (([1, 0, 0, 1, 0, 0] : List Int))).bind fun bt361 => ((block_Find.f k t308 (⟨#[]⟩ : ByteArray) 1).bind fun bt365 => ((block_Find.f k t308 (⟨#[97]⟩ : ByteArray) (-1)).bind fun bt372 => ((millhandlaw12_alive.f k).bind fun t379 => (if t379 = true then (if t316 = true then (if t317 = 0 then ((millhandlaw12_three.f).bind fun t380 => (if 0 < (t380.length : Int) then (if (t312.toList == (((rd_T39 t380 0).f0).toList) && (t313 == ((rd_T39 t380 0).f1) && (t314 == ((rd_T39 t380 0).f2) && (t315.toList == (((rd_T39 t380 0).f3).toList))))) = true then (if t323 = true then (if t324 = 0 then ((millhandlaw12_three.f).bind fun t384 => (if 1 < (t384.length : Int) then (if (t319.toList == (((rd_T39 t384 1).f0).toList) && (t320 == ((rd_T39 t384 1).f1) && (t321 == ((rd_T39 t384 1).f2) && (t322.toList == (((rd_T39 t384 1).f3).toList))))) = true then (if t330 = true then (some false) else (if t331 = 0 then (if t337 = true then (some false) else (if t338 = 0 then (if t341 = 4 then (if bt347.2 = 8 then (if bt354.2 = 8 then (if bt361.2 = 8 then (if bt365.2.2.2.2.2 = 3 then (if bt372.2.2.2.2.2 = 2 then ((block_Common.f k (⟨#[97, 98, 99]⟩ : ByteArray) (⟨#[97, 98, 100]⟩ : ByteArray)).bind fun t388 => (some (t388 == 2))) else (some false)) else (some false)) else (some false)) else (some false)) else (some false)) else (some false)) else (some false))) else (some false))) else (some false)) else (none))) else (some false)) else (some false)) else (some false)) else (none))) else (some false)) else (some false)) else (some false)))))))) = some r := by first | (rw [hy344]; with_reducible exact H) | (have H2_ := (Option.bind_some _ _).symm.trans H; rw [hy344]; with_reducible exact H2_) | (have H2_ := (Option.bind_some _ _).symm.trans H; with_reducible exact H2_) | with_reducible exact H | (rw [hy344]; exact H) | exact H
 have Ny344 := Aside0.mk hy344
 clear hy344
 replace H := Option.bind_eq_some_iff.mp H
 obtain ⟨⟨t347, t348⟩, A80, H⟩ := H
 replace H : ((block_Write.f k (([(⟨(⟨#[97]⟩ : ByteArray), 1, false, (⟨#[]⟩ : ByteArray)⟩ : S39), (⟨(⟨#[97]⟩ : ByteArray), 2, false, (⟨#[]⟩ : ByteArray)⟩ : S39)] : List (S39)))).bind fun bt354 => ((block_Read.f (([1, 0, 0, 1, 0, 0] : List Int))).bind fun bt361 => ((block_Find.f k t308 (⟨#[]⟩ : ByteArray) 1).bind fun bt365 => ((block_Find.f k t308 (⟨#[97]⟩ : ByteArray) (-1)).bind fun bt372 => ((millhandlaw12_alive.f k).bind fun t379 => (if t379 = true then (if t316 = true then (if t317 = 0 then ((millhandlaw12_three.f).bind fun t380 => (if 0 < (t380.length : Int) then (if (t312.toList == (((rd_T39 t380 0).f0).toList) && (t313 == ((rd_T39 t380 0).f1) && (t314 == ((rd_T39 t380 0).f2) && (t315.toList == (((rd_T39 t380 0).f3).toList))))) = true then (if t323 = true then (if t324 = 0 then ((millhandlaw12_three.f).bind fun t384 => (if 1 < (t384.length : Int) then (if (t319.toList == (((rd_T39 t384 1).f0).toList) && (t320 == ((rd_T39 t384 1).f1) && (t321 == ((rd_T39 t384 1).f2) && (t322.toList == (((rd_T39 t384 1).f3).toList))))) = true then (if t330 = true then (some false) else (if t331 = 0 then (if t337 = true then (some false) else (if t338 = 0 then (if t341 = 4 then (if t348 = 8 then (if bt354.2 = 8 then (if bt361.2 = 8 then (if bt365.2.2.2.2.2 = 3 then (if bt372.2.2.2.2.2 = 2 then ((block_Common.f k (⟨#[97, 98, 99]⟩ : ByteArray) (⟨#[97, 98, 100]⟩ : ByteArray)).bind fun t388 => (some (t388 == 2))) else (some false)) else (some false)) else (some false)) else (some false)) else (some false)) else (some false)) else (some false))) else (some false))) else (some false)) else (none))) else (some false)) else (some false)) else (some false)) else (none))) else (some false)) else (some false)) else (some false))))))) = some r := H
 have A8 := Aside0.mk A80
 clear A80
 obtain ⟨y351, hy351⟩ : ∃ y_ : List (S39), y_ = (([(⟨(⟨#[97]⟩ : ByteArray), 1, false, (⟨#[]⟩ : ByteArray)⟩ : S39), (⟨(⟨#[97]⟩ : ByteArray), 2, false, (⟨#[]⟩ : ByteArray)⟩ : S39)] : List (S39))) := ⟨_, rfl⟩
 replace H : ((block_Write.f k y351).bind fun bt354 => ((block_Read.f (([1, 0, 0, 1, 0, 0] : List Int))).bind fun bt361 => ((block_Find.f k t308 (⟨#[]⟩ : ByteArray) 1).bind fun bt365 => ((block_Find.f k t308 (⟨#[97]⟩ : ByteArray) (-1)).bind fun bt372 => ((millhandlaw12_alive.f k).bind fun t379 => (if t379 = true then (if t316 = true then (if t317 = 0 then ((millhandlaw12_three.f).bind fun t380 => (if 0 < (t380.length : Int) then (if (t312.toList == (((rd_T39 t380 0).f0).toList) && (t313 == ((rd_T39 t380 0).f1) && (t314 == ((rd_T39 t380 0).f2) && (t315.toList == (((rd_T39 t380 0).f3).toList))))) = true then (if t323 = true then (if t324 = 0 then ((millhandlaw12_three.f).bind fun t384 => (if 1 < (t384.length : Int) then (if (t319.toList == (((rd_T39 t384 1).f0).toList) && (t320 == ((rd_T39 t384 1).f1) && (t321 == ((rd_T39 t384 1).f2) && (t322.toList == (((rd_T39 t384 1).f3).toList))))) = true then (if t330 = true then (some false) else (if t331 = 0 then (if t337 = true then (some false) else (if t338 = 0 then (if t341 = 4 then (if t348 = 8 then (if bt354.2 = 8 then (if bt361.2 = 8 then (if bt365.2.2.2.2.2 = 3 then (if bt372.2.2.2.2.2 = 2 then ((block_Common.f k (⟨#[97, 98, 99]⟩ : ByteArray) (⟨#[97, 98, 100]⟩ : ByteArray)).bind fun t388 => (some (t388 == 2))) else (some false)) else (some false)) else (some false)) else (some false)) else (some false)) else (some false)) else (some false))) else (some false))) else (some false)) else (none))) else (some false)) else (some false)) else (some false)) else (none))) else (some false)) else (some false)) else (some false))))))) = some r := by first | (rw [hy351]; with_reducible exact H) | (have H2_ := (Option.bind_some _ _).symm.trans H; rw [hy351]; with_reducible exact H2_) | (have H2_ := (Option.bind_some _ _).symm.trans H; with_reducible exact H2_) | with_reducible exact H | (rw [hy351]; exact H) | exact H
 have Ny351 := Aside0.mk hy351
 clear hy351
 replace H := Option.bind_eq_some_iff.mp H
 obtain ⟨⟨t354, t355⟩, A90, H⟩ := H
 replace H : ((block_Read.f (([1, 0, 0, 1, 0, 0] : List Int))).bind fun bt361 => ((block_Find.f k t308 (⟨#[]⟩ : ByteArray) 1).bind fun bt365 => ((block_Find.f k t308 (⟨#[97]⟩ : ByteArray) (-1)).bind fun bt372 => ((millhandlaw12_alive.f k).bind fun t379 => (if t379 = true then (if t316 = true then (if t317 = 0 then ((millhandlaw12_three.f).bind fun t380 => (if 0 < (t380.length : Int) then (if (t312.toList == (((rd_T39 t380 0).f0).toList) && (t313 == ((rd_T39 t380 0).f1) && (t314 == ((rd_T39 t380 0).f2) && (t315.toList == (((rd_T39 t380 0).f3).toList))))) = true then (if t323 = true then (if t324 = 0 then ((millhandlaw12_three.f).bind fun t384 => (if 1 < (t384.length : Int) then (if (t319.toList == (((rd_T39 t384 1).f0).toList) && (t320 == ((rd_T39 t384 1).f1) && (t321 == ((rd_T39 t384 1).f2) && (t322.toList == (((rd_T39 t384 1).f3).toList))))) = true then (if t330 = true then (some false) else (if t331 = 0 then (if t337 = true then (some false) else (if t338 = 0 then (if t341 = 4 then (if t348 = 8 then (if t355 = 8 then (if bt361.2 = 8 then (if bt365.2.2.2.2.2 = 3 then (if bt372.2.2.2.2.2 = 2 then ((block_Common.f k (⟨#[97, 98, 99]⟩ : ByteArray) (⟨#[97, 98, 100]⟩ : ByteArray)).bind fun t388 => (some (t388 == 2))) else (some false)) else (some false)) else (some false)) else (some false)) else (some false)) else (some false)) else (some false))) else (some false))) else (some false)) else (none))) else (some false)) else (some false)) else (some false)) else (none))) else (some false)) else (some false)) else (some false)))))) = some r := H
 have A9 := Aside0.mk A90
 clear A90
 obtain ⟨y358, hy358⟩ : ∃ y_ : List Int, y_ = (([1, 0, 0, 1, 0, 0] : List Int)) := ⟨_, rfl⟩
 replace H : ((block_Read.f y358).bind fun bt361 => ((block_Find.f k t308 (⟨#[]⟩ : ByteArray) 1).bind fun bt365 => ((block_Find.f k t308 (⟨#[97]⟩ : ByteArray) (-1)).bind fun bt372 => ((millhandlaw12_alive.f k).bind fun t379 => (if t379 = true then (if t316 = true then (if t317 = 0 then ((millhandlaw12_three.f).bind fun t380 => (if 0 < (t380.length : Int) then (if (t312.toList == (((rd_T39 t380 0).f0).toList) && (t313 == ((rd_T39 t380 0).f1) && (t314 == ((rd_T39 t380 0).f2) && (t315.toList == (((rd_T39 t380 0).f3).toList))))) = true then (if t323 = true then (if t324 = 0 then ((millhandlaw12_three.f).bind fun t384 => (if 1 < (t384.length : Int) then (if (t319.toList == (((rd_T39 t384 1).f0).toList) && (t320 == ((rd_T39 t384 1).f1) && (t321 == ((rd_T39 t384 1).f2) && (t322.toList == (((rd_T39 t384 1).f3).toList))))) = true then (if t330 = true then (some false) else (if t331 = 0 then (if t337 = true then (some false) else (if t338 = 0 then (if t341 = 4 then (if t348 = 8 then (if t355 = 8 then (if bt361.2 = 8 then (if bt365.2.2.2.2.2 = 3 then (if bt372.2.2.2.2.2 = 2 then ((block_Common.f k (⟨#[97, 98, 99]⟩ : ByteArray) (⟨#[97, 98, 100]⟩ : ByteArray)).bind fun t388 => (some (t388 == 2))) else (some false)) else (some false)) else (some false)) else (some false)) else (some false)) else (some false)) else (some false))) else (some false))) else (some false)) else (none))) else (some false)) else (some false)) else (some false)) else (none))) else (some false)) else (some false)) else (some false)))))) = some r := by first | (rw [hy358]; with_reducible exact H) | (have H2_ := (Option.bind_some _ _).symm.trans H; rw [hy358]; with_reducible exact H2_) | (have H2_ := (Option.bind_some _ _).symm.trans H; with_reducible exact H2_) | with_reducible exact H | (rw [hy358]; exact H) | exact H
 have Ny358 := Aside0.mk hy358
 clear hy358
 replace H := Option.bind_eq_some_iff.mp H
 obtain ⟨⟨t361, t362⟩, A100, H⟩ := H
 replace H : ((block_Find.f k t308 (⟨#[]⟩ : ByteArray) 1).bind fun bt365 => ((block_Find.f k t308 (⟨#[97]⟩ : ByteArray) (-1)).bind fun bt372 => ((millhandlaw12_alive.f k).bind fun t379 => (if t379 = true then (if t316 = true then (if t317 = 0 then ((millhandlaw12_three.f).bind fun t380 => (if 0 < (t380.length : Int) then (if (t312.toList == (((rd_T39 t380 0).f0).toList) && (t313 == ((rd_T39 t380 0).f1) && (t314 == ((rd_T39 t380 0).f2) && (t315.toList == (((rd_T39 t380 0).f3).toList))))) = true then (if t323 = true then (if t324 = 0 then ((millhandlaw12_three.f).bind fun t384 => (if 1 < (t384.length : Int) then (if (t319.toList == (((rd_T39 t384 1).f0).toList) && (t320 == ((rd_T39 t384 1).f1) && (t321 == ((rd_T39 t384 1).f2) && (t322.toList == (((rd_T39 t384 1).f3).toList))))) = true then (if t330 = true then (some false) else (if t331 = 0 then (if t337 = true then (some false) else (if t338 = 0 then (if t341 = 4 then (if t348 = 8 then (if t355 = 8 then (if t362 = 8 then (if bt365.2.2.2.2.2 = 3 then (if bt372.2.2.2.2.2 = 2 then ((block_Common.f k (⟨#[97, 98, 99]⟩ : ByteArray) (⟨#[97, 98, 100]⟩ : ByteArray)).bind fun t388 => (some (t388 == 2))) else (some false)) else (some false)) else (some false)) else (some false)) else (some false)) else (some false)) else (some false))) else (some false))) else (some false)) else (none))) else (some false)) else (some false)) else (some false)) else (none))) else (some false)) else (some false)) else (some false))))) = some r := H
 have A10 := Aside0.mk A100
 clear A100
 replace H := Option.bind_eq_some_iff.mp H
 obtain ⟨⟨t365, t366, t367, t368, t369, t370⟩, A110, H⟩ := H
 replace H : ((block_Find.f k t308 (⟨#[97]⟩ : ByteArray) (-1)).bind fun bt372 => ((millhandlaw12_alive.f k).bind fun t379 => (if t379 = true then (if t316 = true then (if t317 = 0 then ((millhandlaw12_three.f).bind fun t380 => (if 0 < (t380.length : Int) then (if (t312.toList == (((rd_T39 t380 0).f0).toList) && (t313 == ((rd_T39 t380 0).f1) && (t314 == ((rd_T39 t380 0).f2) && (t315.toList == (((rd_T39 t380 0).f3).toList))))) = true then (if t323 = true then (if t324 = 0 then ((millhandlaw12_three.f).bind fun t384 => (if 1 < (t384.length : Int) then (if (t319.toList == (((rd_T39 t384 1).f0).toList) && (t320 == ((rd_T39 t384 1).f1) && (t321 == ((rd_T39 t384 1).f2) && (t322.toList == (((rd_T39 t384 1).f3).toList))))) = true then (if t330 = true then (some false) else (if t331 = 0 then (if t337 = true then (some false) else (if t338 = 0 then (if t341 = 4 then (if t348 = 8 then (if t355 = 8 then (if t362 = 8 then (if t370 = 3 then (if bt372.2.2.2.2.2 = 2 then ((block_Common.f k (⟨#[97, 98, 99]⟩ : ByteArray) (⟨#[97, 98, 100]⟩ : ByteArray)).bind fun t388 => (some (t388 == 2))) else (some false)) else (some false)) else (some false)) else (some false)) else (some false)) else (some false)) else (some false))) else (some false))) else (some false)) else (none))) else (some false)) else (some false)) else (some false)) else (none))) else (some false)) else (some false)) else (some false)))) = some r := H
 have A11 := Aside0.mk A110
 clear A110
 replace H := Option.bind_eq_some_iff.mp H
 obtain ⟨⟨t372, t373, t374, t375, t376, t377⟩, A120, H⟩ := H
 replace H : ((millhandlaw12_alive.f k).bind fun t379 => (if t379 = true then (if t316 = true then (if t317 = 0 then ((millhandlaw12_three.f).bind fun t380 => (if 0 < (t380.length : Int) then (if (t312.toList == (((rd_T39 t380 0).f0).toList) && (t313 == ((rd_T39 t380 0).f1) && (t314 == ((rd_T39 t380 0).f2) && (t315.toList == (((rd_T39 t380 0).f3).toList))))) = true then (if t323 = true then (if t324 = 0 then ((millhandlaw12_three.f).bind fun t384 => (if 1 < (t384.length : Int) then (if (t319.toList == (((rd_T39 t384 1).f0).toList) && (t320 == ((rd_T39 t384 1).f1) && (t321 == ((rd_T39 t384 1).f2) && (t322.toList == (((rd_T39 t384 1).f3).toList))))) = true then (if t330 = true then (some false) else (if t331 = 0 then (if t337 = true then (some false) else (if t338 = 0 then (if t341 = 4 then (if t348 = 8 then (if t355 = 8 then (if t362 = 8 then (if t370 = 3 then (if t377 = 2 then ((block_Common.f k (⟨#[97, 98, 99]⟩ : ByteArray) (⟨#[97, 98, 100]⟩ : ByteArray)).bind fun t388 => (some (t388 == 2))) else (some false)) else (some false)) else (some false)) else (some false)) else (some false)) else (some false)) else (some false))) else (some false))) else (some false)) else (none))) else (some false)) else (some false)) else (some false)) else (none))) else (some false)) else (some false)) else (some false))) = some r := H
 have A12 := Aside0.mk A120
 clear A120
 replace H := Option.bind_eq_some_iff.mp H
 obtain ⟨t379, A130, H⟩ := H
 replace H : (if t379 = true then (if t316 = true then (if t317 = 0 then ((millhandlaw12_three.f).bind fun t380 => (if 0 < (t380.length : Int) then (if (t312.toList == (((rd_T39 t380 0).f0).toList) && (t313 == ((rd_T39 t380 0).f1) && (t314 == ((rd_T39 t380 0).f2) && (t315.toList == (((rd_T39 t380 0).f3).toList))))) = true then (if t323 = true then (if t324 = 0 then ((millhandlaw12_three.f).bind fun t384 => (if 1 < (t384.length : Int) then (if (t319.toList == (((rd_T39 t384 1).f0).toList) && (t320 == ((rd_T39 t384 1).f1) && (t321 == ((rd_T39 t384 1).f2) && (t322.toList == (((rd_T39 t384 1).f3).toList))))) = true then (if t330 = true then (some false) else (if t331 = 0 then (if t337 = true then (some false) else (if t338 = 0 then (if t341 = 4 then (if t348 = 8 then (if t355 = 8 then (if t362 = 8 then (if t370 = 3 then (if t377 = 2 then ((block_Common.f k (⟨#[97, 98, 99]⟩ : ByteArray) (⟨#[97, 98, 100]⟩ : ByteArray)).bind fun t388 => (some (t388 == 2))) else (some false)) else (some false)) else (some false)) else (some false)) else (some false)) else (some false)) else (some false))) else (some false))) else (some false)) else (none))) else (some false)) else (some false)) else (some false)) else (none))) else (some false)) else (some false)) else (some false)) = some r := H
 have A13 := Aside0.mk A130
 clear A130
 by_cases c14 : t379 = true
 ·
  subst c14
  have H1 : (if t316 = true then (if t317 = 0 then ((millhandlaw12_three.f).bind fun t380 => (if 0 < (t380.length : Int) then (if (t312.toList == (((rd_T39 t380 0).f0).toList) && (t313 == ((rd_T39 t380 0).f1) && (t314 == ((rd_T39 t380 0).f2) && (t315.toList == (((rd_T39 t380 0).f3).toList))))) = true then (if t323 = true then (if t324 = 0 then ((millhandlaw12_three.f).bind fun t384 => (if 1 < (t384.length : Int) then (if (t319.toList == (((rd_T39 t384 1).f0).toList) && (t320 == ((rd_T39 t384 1).f1) && (t321 == ((rd_T39 t384 1).f2) && (t322.toList == (((rd_T39 t384 1).f3).toList))))) = true then (if t330 = true then (some false) else (if t331 = 0 then (if t337 = true then (some false) else (if t338 = 0 then (if t341 = 4 then (if t348 = 8 then (if t355 = 8 then (if t362 = 8 then (if t370 = 3 then (if t377 = 2 then ((block_Common.f k (⟨#[97, 98, 99]⟩ : ByteArray) (⟨#[97, 98, 100]⟩ : ByteArray)).bind fun t388 => (some (t388 == 2))) else (some false)) else (some false)) else (some false)) else (some false)) else (some false)) else (some false)) else (some false))) else (some false))) else (some false)) else (none))) else (some false)) else (some false)) else (some false)) else (none))) else (some false)) else (some false)) = some r := by rw [if_pos rfl] at H; exact H
  clear H
  have H := H1
  clear H1
  by_cases c15 : t316 = true
  ·
   subst c15
   have H1 : (if t317 = 0 then ((millhandlaw12_three.f).bind fun t380 => (if 0 < (t380.length : Int) then (if (t312.toList == (((rd_T39 t380 0).f0).toList) && (t313 == ((rd_T39 t380 0).f1) && (t314 == ((rd_T39 t380 0).f2) && (t315.toList == (((rd_T39 t380 0).f3).toList))))) = true then (if t323 = true then (if t324 = 0 then ((millhandlaw12_three.f).bind fun t384 => (if 1 < (t384.length : Int) then (if (t319.toList == (((rd_T39 t384 1).f0).toList) && (t320 == ((rd_T39 t384 1).f1) && (t321 == ((rd_T39 t384 1).f2) && (t322.toList == (((rd_T39 t384 1).f3).toList))))) = true then (if t330 = true then (some false) else (if t331 = 0 then (if t337 = true then (some false) else (if t338 = 0 then (if t341 = 4 then (if t348 = 8 then (if t355 = 8 then (if t362 = 8 then (if t370 = 3 then (if t377 = 2 then ((block_Common.f k (⟨#[97, 98, 99]⟩ : ByteArray) (⟨#[97, 98, 100]⟩ : ByteArray)).bind fun t388 => (some (t388 == 2))) else (some false)) else (some false)) else (some false)) else (some false)) else (some false)) else (some false)) else (some false))) else (some false))) else (some false)) else (none))) else (some false)) else (some false)) else (some false)) else (none))) else (some false)) = some r := by rw [if_pos rfl] at H; exact H
   clear H
   have H := H1
   clear H1
   by_cases c16 : t317 = 0
   ·
    rw [if_pos c16] at H
    have c16b0 : (t317 == 0) = true := beq_iff_eq.mpr c16
    have c16b1 : (t317 != 0) = false := bne_eq_false_iff_eq.mpr c16
    clear c16
    replace H := Option.bind_eq_some_iff.mp H
    obtain ⟨t380, A170, H⟩ := H
    replace H : (if 0 < (t380.length : Int) then (if (t312.toList == (((rd_T39 t380 0).f0).toList) && (t313 == ((rd_T39 t380 0).f1) && (t314 == ((rd_T39 t380 0).f2) && (t315.toList == (((rd_T39 t380 0).f3).toList))))) = true then (if t323 = true then (if t324 = 0 then ((millhandlaw12_three.f).bind fun t384 => (if 1 < (t384.length : Int) then (if (t319.toList == (((rd_T39 t384 1).f0).toList) && (t320 == ((rd_T39 t384 1).f1) && (t321 == ((rd_T39 t384 1).f2) && (t322.toList == (((rd_T39 t384 1).f3).toList))))) = true then (if t330 = true then (some false) else (if t331 = 0 then (if t337 = true then (some false) else (if t338 = 0 then (if t341 = 4 then (if t348 = 8 then (if t355 = 8 then (if t362 = 8 then (if t370 = 3 then (if t377 = 2 then ((block_Common.f k (⟨#[97, 98, 99]⟩ : ByteArray) (⟨#[97, 98, 100]⟩ : ByteArray)).bind fun t388 => (some (t388 == 2))) else (some false)) else (some false)) else (some false)) else (some false)) else (some false)) else (some false)) else (some false))) else (some false))) else (some false)) else (none))) else (some false)) else (some false)) else (some false)) else (none)) = some r := H
    have A17 := Aside0.mk A170
    clear A170
    by_cases c18 : 0 < (t380.length : Int)
    ·
     rw [if_pos c18] at H
     have c18b0 : decide (0 < (t380.length : Int)) = true := decide_eq_true c18
     have c18b1 : decide (0 < t380.length) = true := decide_eq_true (by omega)
     clear c18
     by_cases c19 : (t312.toList == (((rd_T39 t380 0).f0).toList) && (t313 == ((rd_T39 t380 0).f1) && (t314 == ((rd_T39 t380 0).f2) && (t315.toList == (((rd_T39 t380 0).f3).toList))))) = true
     ·
      rw [if_pos c19] at H
      have c19b0 : (t312.toList == (((rd_T39 t380 0).f0).toList) && (t313 == ((rd_T39 t380 0).f1) && (t314 == ((rd_T39 t380 0).f2) && (t315.toList == (((rd_T39 t380 0).f3).toList))))) = true := c19
      (try (have c19b1 : decide (t312.toList = (((rd_T39 t380 0).f0).toList) && (t313 == ((rd_T39 t380 0).f1) && (t314 == ((rd_T39 t380 0).f2) && (t315.toList == (((rd_T39 t380 0).f3).toList))))) = true := by simpa using c19))
      (try (have c19b2 : (t312.toList == (((rd_T39 t380 0).f0).toList) && (t313 == ((rd_T39 t380 0).f1) && (t314 == ((rd_T39 t380 0).f2) && (t315.toList == (((rd_T39 t380 0).f3).toList))))) = true := by simpa using c19))
      clear c19
      by_cases c20 : t323 = true
      ·
       subst c20
       have H1 : (if t324 = 0 then ((millhandlaw12_three.f).bind fun t384 => (if 1 < (t384.length : Int) then (if (t319.toList == (((rd_T39 t384 1).f0).toList) && (t320 == ((rd_T39 t384 1).f1) && (t321 == ((rd_T39 t384 1).f2) && (t322.toList == (((rd_T39 t384 1).f3).toList))))) = true then (if t330 = true then (some false) else (if t331 = 0 then (if t337 = true then (some false) else (if t338 = 0 then (if t341 = 4 then (if t348 = 8 then (if t355 = 8 then (if t362 = 8 then (if t370 = 3 then (if t377 = 2 then ((block_Common.f k (⟨#[97, 98, 99]⟩ : ByteArray) (⟨#[97, 98, 100]⟩ : ByteArray)).bind fun t388 => (some (t388 == 2))) else (some false)) else (some false)) else (some false)) else (some false)) else (some false)) else (some false)) else (some false))) else (some false))) else (some false)) else (none))) else (some false)) = some r := by rw [if_pos rfl] at H; exact H
       clear H
       have H := H1
       clear H1
       by_cases c21 : t324 = 0
       ·
        rw [if_pos c21] at H
        have c21b0 : (t324 == 0) = true := beq_iff_eq.mpr c21
        have c21b1 : (t324 != 0) = false := bne_eq_false_iff_eq.mpr c21
        clear c21
        replace H := Option.bind_eq_some_iff.mp H
        obtain ⟨t384, A220, H⟩ := H
        replace H : (if 1 < (t384.length : Int) then (if (t319.toList == (((rd_T39 t384 1).f0).toList) && (t320 == ((rd_T39 t384 1).f1) && (t321 == ((rd_T39 t384 1).f2) && (t322.toList == (((rd_T39 t384 1).f3).toList))))) = true then (if t330 = true then (some false) else (if t331 = 0 then (if t337 = true then (some false) else (if t338 = 0 then (if t341 = 4 then (if t348 = 8 then (if t355 = 8 then (if t362 = 8 then (if t370 = 3 then (if t377 = 2 then ((block_Common.f k (⟨#[97, 98, 99]⟩ : ByteArray) (⟨#[97, 98, 100]⟩ : ByteArray)).bind fun t388 => (some (t388 == 2))) else (some false)) else (some false)) else (some false)) else (some false)) else (some false)) else (some false)) else (some false))) else (some false))) else (some false)) else (none)) = some r := H
        have A22 := Aside0.mk A220
        clear A220
        by_cases c23 : 1 < (t384.length : Int)
        ·
         rw [if_pos c23] at H
         have c23b0 : decide (1 < (t384.length : Int)) = true := decide_eq_true c23
         have c23b1 : decide (1 < t384.length) = true := decide_eq_true (by omega)
         clear c23
         by_cases c24 : (t319.toList == (((rd_T39 t384 1).f0).toList) && (t320 == ((rd_T39 t384 1).f1) && (t321 == ((rd_T39 t384 1).f2) && (t322.toList == (((rd_T39 t384 1).f3).toList))))) = true
         ·
          rw [if_pos c24] at H
          have c24b0 : (t319.toList == (((rd_T39 t384 1).f0).toList) && (t320 == ((rd_T39 t384 1).f1) && (t321 == ((rd_T39 t384 1).f2) && (t322.toList == (((rd_T39 t384 1).f3).toList))))) = true := c24
          (try (have c24b1 : decide (t319.toList = (((rd_T39 t384 1).f0).toList) && (t320 == ((rd_T39 t384 1).f1) && (t321 == ((rd_T39 t384 1).f2) && (t322.toList == (((rd_T39 t384 1).f3).toList))))) = true := by simpa using c24))
          (try (have c24b2 : (t319.toList == (((rd_T39 t384 1).f0).toList) && (t320 == ((rd_T39 t384 1).f1) && (t321 == ((rd_T39 t384 1).f2) && (t322.toList == (((rd_T39 t384 1).f3).toList))))) = true := by simpa using c24))
          clear c24
          by_cases c25 : t330 = true
          ·
           subst c25
           have H1 : (some false) = some r := by rw [if_pos rfl] at H; exact H
           clear H
           have H := H1
           clear H1
           exact absurd ((Option.some.inj H).trans hr) (by decide)
          ·
           replace c25 := Bool.eq_false_iff.mpr c25
           subst c25
           have H1 : (if t331 = 0 then (if t337 = true then (some false) else (if t338 = 0 then (if t341 = 4 then (if t348 = 8 then (if t355 = 8 then (if t362 = 8 then (if t370 = 3 then (if t377 = 2 then ((block_Common.f k (⟨#[97, 98, 99]⟩ : ByteArray) (⟨#[97, 98, 100]⟩ : ByteArray)).bind fun t388 => (some (t388 == 2))) else (some false)) else (some false)) else (some false)) else (some false)) else (some false)) else (some false)) else (some false))) else (some false)) = some r := by rw [if_neg (show ¬ (false = true) by decide)] at H; exact H
           clear H
           have H := H1
           clear H1
           by_cases c83 : t331 = 0
           ·
            rw [if_pos c83] at H
            have c83b0 : (t331 == 0) = true := beq_iff_eq.mpr c83
            have c83b1 : (t331 != 0) = false := bne_eq_false_iff_eq.mpr c83
            clear c83
            by_cases c84 : t337 = true
            ·
             subst c84
             have H1 : (some false) = some r := by rw [if_pos rfl] at H; exact H
             clear H
             have H := H1
             clear H1
             exact absurd ((Option.some.inj H).trans hr) (by decide)
            ·
             replace c84 := Bool.eq_false_iff.mpr c84
             subst c84
             have H1 : (if t338 = 0 then (if t341 = 4 then (if t348 = 8 then (if t355 = 8 then (if t362 = 8 then (if t370 = 3 then (if t377 = 2 then ((block_Common.f k (⟨#[97, 98, 99]⟩ : ByteArray) (⟨#[97, 98, 100]⟩ : ByteArray)).bind fun t388 => (some (t388 == 2))) else (some false)) else (some false)) else (some false)) else (some false)) else (some false)) else (some false)) else (some false)) = some r := by rw [if_neg (show ¬ (false = true) by decide)] at H; exact H
             clear H
             have H := H1
             clear H1
             by_cases c142 : t338 = 0
             ·
              rw [if_pos c142] at H
              have c142b0 : (t338 == 0) = true := beq_iff_eq.mpr c142
              have c142b1 : (t338 != 0) = false := bne_eq_false_iff_eq.mpr c142
              clear c142
              by_cases c143 : t341 = 4
              ·
               rw [if_pos c143] at H
               have c143b0 : (t341 == 4) = true := beq_iff_eq.mpr c143
               have c143b1 : (t341 != 4) = false := bne_eq_false_iff_eq.mpr c143
               clear c143
               by_cases c144 : t348 = 8
               ·
                rw [if_pos c144] at H
                have c144b0 : (t348 == 8) = true := beq_iff_eq.mpr c144
                have c144b1 : (t348 != 8) = false := bne_eq_false_iff_eq.mpr c144
                clear c144
                by_cases c145 : t355 = 8
                ·
                 rw [if_pos c145] at H
                 have c145b0 : (t355 == 8) = true := beq_iff_eq.mpr c145
                 have c145b1 : (t355 != 8) = false := bne_eq_false_iff_eq.mpr c145
                 clear c145
                 by_cases c146 : t362 = 8
                 ·
                  rw [if_pos c146] at H
                  have c146b0 : (t362 == 8) = true := beq_iff_eq.mpr c146
                  have c146b1 : (t362 != 8) = false := bne_eq_false_iff_eq.mpr c146
                  clear c146
                  by_cases c147 : t370 = 3
                  ·
                   rw [if_pos c147] at H
                   have c147b0 : (t370 == 3) = true := beq_iff_eq.mpr c147
                   have c147b1 : (t370 != 3) = false := bne_eq_false_iff_eq.mpr c147
                   clear c147
                   by_cases c148 : t377 = 2
                   ·
                    rw [if_pos c148] at H
                    have c148b0 : (t377 == 2) = true := beq_iff_eq.mpr c148
                    have c148b1 : (t377 != 2) = false := bne_eq_false_iff_eq.mpr c148
                    clear c148
                    replace H := Option.bind_eq_some_iff.mp H
                    obtain ⟨t388, A1490, H⟩ := H
                    replace H : (some (t388 == 2)) = some r := H
                    have A149 := Aside0.mk A1490
                    clear A1490
                    obtain rfl := Option.some.inj H
                    go_enter Try.func5, Try.ntmps5
                    try go_wp2_with (first | ((with_reducible refine gate_callee (f := 15) rfl ?_); refine goesL_ (some 30) rfl rfl Try.func15 (by kernel_rfl) rfl #[] rfl (by (try simp only [List.map_toArray, List.map_cons, List.map_nil]); first | done | rfl | (simp only [List.length_drop, List.length_take]; rfl)) ?_; (with_reducible refine (millhandlaw12_three.calls  t305 _ A1.out).mono ?_); rintro e w150 ⟨v306, rfl, ho0, hb⟩; refine ⟨_, rfl, ?_⟩; have n0_ := Aside0.mk (Kd.R_lower ho0 (below_size (by repeat (first | (with_reducible first | exact HB.out | apply below_alloc | apply pw_below_drewN | apply below_drew1) | exact HB.out)))); have n1_ := Aside0.mk (below_step (by repeat (first | (with_reducible first | exact HB.out | apply below_alloc | apply pw_below_drewN | apply below_drew1) | exact HB.out)) hb); clear HB; have HO307 := n0_; have HB := n1_; clear n0_ n1_; (try clear hb); (try clear hb2); (try clear hk); (try clear hi); (try clear ho0); obtain ⟨Ao151, co151, eo151⟩ := Kd.R_slice HO307.out; subst eo151) | ((with_reducible refine gate_callee (f := 9) rfl ?_); refine goesL_ (some 31) rfl rfl Try.func9 (by kernel_rfl) rfl #[.slice Ao151 t305.length co151] rfl (by (try simp only [List.map_toArray, List.map_cons, List.map_nil]); first | done | rfl | (simp only [List.length_drop, List.length_take]; rfl)) ?_; (with_reducible refine (block_Write.calls k _ _ t305 t308 t309 _ ?side1 ?side2 A2.out).mono ?_); (case side1 => repeat (first | exact (Kd.R_reads' HO307.out).2.2 | (with_reducible refine Kd.C_alloc ?_ _) | (with_reducible refine Kd.C_drewN ?_ _) | (with_reducible refine Kd.C_drew ?_))); (case side2 => exact (Kd.R_reads' HO307.out).2.1); rintro e w152 ⟨v310, rfl, ho0, hb⟩; refine ⟨_, rfl, ?_⟩; have n0_ := Aside0.mk (Kd.R_below (by (with_reducible repeat (first | apply Kd.R_alloc | apply Kd.R_drewN | apply Kd.R_drew)); exact HO307.out) hb); have n1_ := Aside0.mk (Kd.R_lower ho0 (below_size (by repeat (first | (with_reducible first | exact HB.out | apply below_alloc | apply pw_below_drewN | apply below_drew1) | exact HB.out)))); have n2_ := Aside0.mk (below_step (by repeat (first | (with_reducible first | exact HB.out | apply below_alloc | apply pw_below_drewN | apply below_drew1) | exact HB.out)) hb); clear HO307; clear HB; have HO307 := n0_; have HO311 := n1_; have HB := n2_; clear n0_ n1_ n2_; (try clear hb); (try clear hb2); (try clear hk); (try clear hi); (try clear ho0); obtain ⟨Ao153, co153, eo153⟩ := Kd.R_slice HO311.out; subst eo153) | ((with_reducible refine gate_callee (f := 16) rfl ?_); refine goesL_ (some 36) rfl rfl Try.func16 (by kernel_rfl) rfl #[.slice Ao153 t308.length co153, .string (⟨#[97, 98]⟩ : ByteArray), .int .i64 9] rfl (by (try simp only [List.map_toArray, List.map_cons, List.map_nil]); first | done | rfl | (simp only [List.length_drop, List.length_take]; rfl)) ?_; (with_reducible refine (block_Find.calls k _ _ t308 (⟨#[97, 98]⟩ : ByteArray) 9 t312 t313 t314 t315 true t317 _ ?side1 ?side2 A3.out).mono ?_); (case side1 => repeat (first | exact (Kd.R_reads' HO311.out).2.2 | (with_reducible refine Kd.C_alloc ?_ _) | (with_reducible refine Kd.C_drewN ?_ _) | (with_reducible refine Kd.C_drew ?_))); (case side2 => exact (Kd.R_reads' HO311.out).2.1); rintro e w154 ⟨rfl, hb⟩; refine ⟨_, rfl, ?_⟩; have n0_ := Aside0.mk (Kd.R_below (by (with_reducible repeat (first | apply Kd.R_alloc | apply Kd.R_drewN | apply Kd.R_drew)); exact HO307.out) hb); have n1_ := Aside0.mk (Kd.R_below (by (with_reducible repeat (first | apply Kd.R_alloc | apply Kd.R_drewN | apply Kd.R_drew)); exact HO311.out) hb); have n2_ := Aside0.mk (below_step (by repeat (first | (with_reducible first | exact HB.out | apply below_alloc | apply pw_below_drewN | apply below_drew1) | exact HB.out)) hb); clear HO307; clear HO311; clear HB; have HO307 := n0_; have HO311 := n1_; have HB := n2_; clear n0_ n1_ n2_; (try clear hb); (try clear hb2); (try clear hk); (try clear hi)) | ((with_reducible refine gate_dst (N := 3) rfl ?_); refine box_event ?hg (N := 3) ?hd (cs := #[.string (⟨#[]⟩ : ByteArray), .int .i64 0, .bool false, .string (⟨#[]⟩ : ByteArray)]) (t := 39) ?hr ?_; (case hd => rfl); (case hg => rfl); (case hr => first | (go_simp; done) | (go_simp; rfl)); intro gb318 hg w155 hbox hb; have n0_ := Aside0.mk (Kd.R_below (Kd.R_elderB (by (with_reducible repeat (first | apply Kd.R_alloc | apply Kd.R_drewN | apply Kd.R_drew)); exact HO307.out) gb318 (Nat.le_of_eq hg.symm)) hb); have n1_ := Aside0.mk (Kd.R_below (by (with_reducible repeat (first | apply Kd.R_alloc | apply Kd.R_drewN | apply Kd.R_drew)); exact HO311.out) hb); have n2_ := Aside0.mk (below_step (by repeat (first | (with_reducible first | exact HB.out | apply below_alloc | apply pw_below_drewN | apply below_drew1) | exact HB.out)) hb); have n3_ := Aside0.mk (hbox); have n4_ := Aside0.mk ((by rw [hg]; exact (below_size (by repeat (first | (with_reducible first | exact HB.out | apply below_alloc | apply pw_below_drewN | apply below_drew1) | exact HB.out))) : w.heap.size ≤ gb318)); have n5_ := Aside0.mk ((by rw [hg]; exact (below_size (by repeat (first | (with_reducible first | exact HB.out | apply below_alloc | apply pw_below_drewN | apply below_drew1) | exact HB.out))) : w.heap.size ≤ gb318)); clear HO307; clear HO311; clear HB; have HO307 := n0_; have HO311 := n1_; have HB := n2_; have BK318 := n3_; have GW318 := n4_; have GE318 := n5_; clear n0_ n1_ n2_ n3_ n4_ n5_; clear hb hbox hg; have hcz156_0 : w155.cell? ⟨gb318, 0, none⟩ = some (.string (⟨#[]⟩ : ByteArray)) := (blk_cell BK318.out 0).trans rfl; have hcz156_1 : w155.cell? ⟨gb318, 1, none⟩ = some (.int .i64 0) := (blk_cell BK318.out 1).trans rfl; have hcz156_2 : w155.cell? ⟨gb318, 2, none⟩ = some (.bool false) := (blk_cell BK318.out 2).trans rfl; have hcz156_3 : w155.cell? ⟨gb318, 3, none⟩ = some (.string (⟨#[]⟩ : ByteArray)) := (blk_cell BK318.out 3).trans rfl; have hfz156_0 := blk_frozen BK318.out 0; have hfz156_1 := blk_frozen BK318.out 1; have hfz156_2 := blk_frozen BK318.out 2; have hfz156_3 := blk_frozen BK318.out 3) | ((with_reducible refine gate_callee (f := 16) rfl ?_); refine goesL_ (some 42) rfl rfl Try.func16 (by kernel_rfl) rfl #[.slice Ao153 t308.length co153, .string (⟨#[97, 98]⟩ : ByteArray), .int .i64 1] rfl (by (try simp only [List.map_toArray, List.map_cons, List.map_nil]); first | done | rfl | (simp only [List.length_drop, List.length_take]; rfl)) ?_; (with_reducible refine (block_Find.calls k _ _ t308 (⟨#[97, 98]⟩ : ByteArray) 1 t319 t320 t321 t322 true t324 _ ?side1 ?side2 A4.out).mono ?_); (case side1 => refine (Kd.R_reads' (e := 5) (base := w.heap.size) (ok := fun k_ => True) (n := t308.length) (c := co153) ?_).2.2; exact (by (with_reducible repeat (first | apply Kd.R_alloc | apply Kd.R_drewN | apply Kd.R_drew)); exact (Kd.R_mono (Kd.R_far (p := ⟨gb318, 3, none⟩) (Kd.R_far (p := ⟨gb318, 2, none⟩) (Kd.R_far (p := ⟨gb318, 1, none⟩) (Kd.R_far (p := ⟨gb318, 0, none⟩) (Kd.R_types HO311.out BK318.out (by decide)) (fun _ hk => hk.2) (.string t312)) (fun _ hk => hk.2) (.int .i64 t313)) (fun _ hk => hk.2) (.bool t314)) (fun _ hk => hk.2) (.string t315)) (fun _ h_ => h_.1)))); (case side2 => exact (Kd.R_reads' HO311.out).2.1); rintro e w157 ⟨rfl, hb⟩; refine ⟨_, rfl, ?_⟩; have n0_ := Aside0.mk (Kd.R_below (by (with_reducible repeat (first | apply Kd.R_alloc | apply Kd.R_drewN | apply Kd.R_drew)); exact (Kd.R_mono (Kd.R_far (p := ⟨gb318, 3, none⟩) (Kd.R_far (p := ⟨gb318, 2, none⟩) (Kd.R_far (p := ⟨gb318, 1, none⟩) (Kd.R_far (p := ⟨gb318, 0, none⟩) (Kd.R_mono HO307.out (fun k_ hk => (⟨hk, hk.2⟩ : _ ∧ k_ ≠ gb318))) (fun _ hk => hk.2) (.string t312)) (fun _ hk => hk.2) (.int .i64 t313)) (fun _ hk => hk.2) (.bool t314)) (fun _ hk => hk.2) (.string t315)) (fun _ h_ => h_.1))) hb); have n1_ := Aside0.mk (Kd.R_below (by (with_reducible repeat (first | apply Kd.R_alloc | apply Kd.R_drewN | apply Kd.R_drew)); exact (Kd.R_mono (Kd.R_far (p := ⟨gb318, 3, none⟩) (Kd.R_far (p := ⟨gb318, 2, none⟩) (Kd.R_far (p := ⟨gb318, 1, none⟩) (Kd.R_far (p := ⟨gb318, 0, none⟩) (Kd.R_types HO311.out BK318.out (by decide)) (fun _ hk => hk.2) (.string t312)) (fun _ hk => hk.2) (.int .i64 t313)) (fun _ hk => hk.2) (.bool t314)) (fun _ hk => hk.2) (.string t315)) (fun _ h_ => h_.1))) hb); have n2_ := Aside0.mk (blk_below (g := gb318) (o := .cells #[.string t312, .int .i64 t313, .bool t314, .string t315] 39 (0, 0)) (by (with_reducible repeat (first | refine blk_drewN ?_ _ | refine blk_drew ?_ | refine blk_alloc ?_ _)); refine blk_put (cs := #[.string t312, .int .i64 t313, .bool t314, .string (⟨#[]⟩ : ByteArray)]) ?_ 3 _ rfl; (with_reducible repeat (first | refine blk_drewN ?_ _ | refine blk_drew ?_ | refine blk_alloc ?_ _)); refine blk_put (cs := #[.string t312, .int .i64 t313, .bool false, .string (⟨#[]⟩ : ByteArray)]) ?_ 2 _ rfl; (with_reducible repeat (first | refine blk_drewN ?_ _ | refine blk_drew ?_ | refine blk_alloc ?_ _)); refine blk_put (cs := #[.string t312, .int .i64 0, .bool false, .string (⟨#[]⟩ : ByteArray)]) ?_ 1 _ rfl; (with_reducible repeat (first | refine blk_drewN ?_ _ | refine blk_drew ?_ | refine blk_alloc ?_ _)); refine blk_put (cs := #[.string (⟨#[]⟩ : ByteArray), .int .i64 0, .bool false, .string (⟨#[]⟩ : ByteArray)]) ?_ 0 _ rfl; (with_reducible repeat (first | refine blk_drewN ?_ _ | refine blk_drew ?_ | refine blk_alloc ?_ _)); exact BK318.out) hb); have n3_ := Aside0.mk (below_step (by repeat (first | (with_reducible first | exact HB.out | apply below_alloc | apply pw_below_drewN | apply below_drew1 | refine below_set ?_ GE318.out) | exact HB.out)) hb); clear HO307; clear HO311; clear BK318; clear HB; have HO307 := n0_; have HO311 := n1_; have BK318 := n2_; have HB := n3_; clear n0_ n1_ n2_ n3_; (try clear hb); (try clear hb2); (try clear hk); (try clear hi)) | ((with_reducible refine gate_dst (N := 6) rfl ?_); refine box_event ?hg (N := 6) ?hd (cs := #[.string (⟨#[]⟩ : ByteArray), .int .i64 0, .bool false, .string (⟨#[]⟩ : ByteArray)]) (t := 39) ?hr ?_; (case hd => rfl); (case hg => rfl); (case hr => first | (go_simp; done) | (go_simp; rfl)); intro gb325 hg w158 hbox hb; have n0_ := Aside0.mk (Kd.R_below (Kd.R_elderB (by (with_reducible repeat (first | apply Kd.R_alloc | apply Kd.R_drewN | apply Kd.R_drew)); exact HO307.out) gb325 (Nat.le_of_eq hg.symm)) hb); have n1_ := Aside0.mk (Kd.R_below (by (with_reducible repeat (first | apply Kd.R_alloc | apply Kd.R_drewN | apply Kd.R_drew)); exact HO311.out) hb); have n2_ := Aside0.mk (blk_below (g := gb318) (o := .cells #[.string t312, .int .i64 t313, .bool t314, .string t315] 39 (0, 0)) (by (with_reducible repeat (first | refine blk_drewN ?_ _ | refine blk_drew ?_ | refine blk_alloc ?_ _)); exact BK318.out) hb); have n3_ := Aside0.mk (below_step (by repeat (first | (with_reducible first | exact HB.out | apply below_alloc | apply pw_below_drewN | apply below_drew1 | refine below_set ?_ GE318.out) | exact HB.out)) hb); have n4_ := Aside0.mk (hbox); have n5_ := Aside0.mk ((by rw [hg]; exact (below_size (by repeat (first | (with_reducible first | exact HB.out | apply below_alloc | apply pw_below_drewN | apply below_drew1 | refine below_set ?_ GE318.out) | exact HB.out))) : w.heap.size ≤ gb325)); have n6_ := Aside0.mk ((by rw [hg]; exact (below_size (by repeat (first | (with_reducible first | exact HB.out | apply below_alloc | apply pw_below_drewN | apply below_drew1 | refine below_set ?_ GE318.out) | exact HB.out))) : w.heap.size ≤ gb325)); have n7_ := Aside0.mk ((by rw [hg]; exact Nat.ne_of_lt (blk_lt (g := gb318) (o := .cells #[.string t312, .int .i64 t313, .bool t314, .string t315] 39 (0, 0)) (by (with_reducible repeat (first | refine blk_drewN ?_ _ | refine blk_drew ?_ | refine blk_alloc ?_ _)); exact BK318.out)) : gb318 ≠ gb325)); have n8_ := Aside0.mk ((by rw [hg]; exact Nat.ne_of_gt (blk_lt (g := gb318) (o := .cells #[.string t312, .int .i64 t313, .bool t314, .string t315] 39 (0, 0)) (by (with_reducible repeat (first | refine blk_drewN ?_ _ | refine blk_drew ?_ | refine blk_alloc ?_ _)); exact BK318.out)) : gb325 ≠ gb318)); clear HO307; clear HO311; clear BK318; clear HB; have HO307 := n0_; have HO311 := n1_; have BK318 := n2_; have HB := n3_; have BK325 := n4_; have GW325 := n5_; have GE325 := n6_; have NB318_325 := n7_; have NB325_318 := n8_; clear n0_ n1_ n2_ n3_ n4_ n5_ n6_ n7_ n8_; clear hb hbox hg; have hnb159 := NB325_318.out; have hnc159 := NB318_325.out; have hcz160_0 : w158.cell? ⟨gb325, 0, none⟩ = some (.string (⟨#[]⟩ : ByteArray)) := (blk_cell BK325.out 0).trans rfl; have hcz160_1 : w158.cell? ⟨gb325, 1, none⟩ = some (.int .i64 0) := (blk_cell BK325.out 1).trans rfl; have hcz160_2 : w158.cell? ⟨gb325, 2, none⟩ = some (.bool false) := (blk_cell BK325.out 2).trans rfl; have hcz160_3 : w158.cell? ⟨gb325, 3, none⟩ = some (.string (⟨#[]⟩ : ByteArray)) := (blk_cell BK325.out 3).trans rfl; have hfz160_0 := blk_frozen BK325.out 0; have hfz160_1 := blk_frozen BK325.out 1; have hfz160_2 := blk_frozen BK325.out 2; have hfz160_3 := blk_frozen BK325.out 3) | ((with_reducible refine gate_callee (f := 16) rfl ?_); refine goesL_ (some 48) rfl rfl Try.func16 (by kernel_rfl) rfl #[.slice Ao153 t308.length co153, .string (⟨#[97, 98]⟩ : ByteArray), .int .i64 0] rfl (by (try simp only [List.map_toArray, List.map_cons, List.map_nil]); first | done | rfl | (simp only [List.length_drop, List.length_take]; rfl)) ?_; (with_reducible refine (block_Find.calls k _ _ t308 (⟨#[97, 98]⟩ : ByteArray) 0 t326 t327 t328 t329 false t331 _ ?side1 ?side2 A5.out).mono ?_); (case side1 => refine (Kd.R_reads' (e := 5) (base := w.heap.size) (ok := fun k_ => True) (n := t308.length) (c := co153) ?_).2.2; exact (by (with_reducible repeat (first | apply Kd.R_alloc | apply Kd.R_drewN | apply Kd.R_drew)); exact (Kd.R_mono (Kd.R_far (p := ⟨gb325, 3, none⟩) (Kd.R_far (p := ⟨gb325, 2, none⟩) (Kd.R_far (p := ⟨gb325, 1, none⟩) (Kd.R_far (p := ⟨gb325, 0, none⟩) (Kd.R_types HO311.out BK325.out (by decide)) (fun _ hk => hk.2) (.string t319)) (fun _ hk => hk.2) (.int .i64 t320)) (fun _ hk => hk.2) (.bool t321)) (fun _ hk => hk.2) (.string t322)) (fun _ h_ => h_.1)))); (case side2 => exact (Kd.R_reads' HO311.out).2.1); rintro e w161 ⟨rfl, hb⟩; refine ⟨_, rfl, ?_⟩; have n0_ := Aside0.mk (Kd.R_below (by (with_reducible repeat (first | apply Kd.R_alloc | apply Kd.R_drewN | apply Kd.R_drew)); exact (Kd.R_mono (Kd.R_far (p := ⟨gb325, 3, none⟩) (Kd.R_far (p := ⟨gb325, 2, none⟩) (Kd.R_far (p := ⟨gb325, 1, none⟩) (Kd.R_far (p := ⟨gb325, 0, none⟩) (Kd.R_mono HO307.out (fun k_ hk => (⟨hk, hk.2⟩ : _ ∧ k_ ≠ gb325))) (fun _ hk => hk.2) (.string t319)) (fun _ hk => hk.2) (.int .i64 t320)) (fun _ hk => hk.2) (.bool t321)) (fun _ hk => hk.2) (.string t322)) (fun _ h_ => h_.1))) hb); have n1_ := Aside0.mk (Kd.R_below (by (with_reducible repeat (first | apply Kd.R_alloc | apply Kd.R_drewN | apply Kd.R_drew)); exact (Kd.R_mono (Kd.R_far (p := ⟨gb325, 3, none⟩) (Kd.R_far (p := ⟨gb325, 2, none⟩) (Kd.R_far (p := ⟨gb325, 1, none⟩) (Kd.R_far (p := ⟨gb325, 0, none⟩) (Kd.R_types HO311.out BK325.out (by decide)) (fun _ hk => hk.2) (.string t319)) (fun _ hk => hk.2) (.int .i64 t320)) (fun _ hk => hk.2) (.bool t321)) (fun _ hk => hk.2) (.string t322)) (fun _ h_ => h_.1))) hb); have n2_ := Aside0.mk (blk_below (g := gb318) (o := .cells #[.string t312, .int .i64 t313, .bool t314, .string t315] 39 (0, 0)) (by (with_reducible repeat (first | refine blk_drewN ?_ _ | refine blk_drew ?_ | refine blk_alloc ?_ _)); refine blk_far ?_ NB318_325.out _; (with_reducible repeat (first | refine blk_drewN ?_ _ | refine blk_drew ?_ | refine blk_alloc ?_ _)); refine blk_far ?_ NB318_325.out _; (with_reducible repeat (first | refine blk_drewN ?_ _ | refine blk_drew ?_ | refine blk_alloc ?_ _)); refine blk_far ?_ NB318_325.out _; (with_reducible repeat (first | refine blk_drewN ?_ _ | refine blk_drew ?_ | refine blk_alloc ?_ _)); refine blk_far ?_ NB318_325.out _; (with_reducible repeat (first | refine blk_drewN ?_ _ | refine blk_drew ?_ | refine blk_alloc ?_ _)); exact BK318.out) hb); have n3_ := Aside0.mk (blk_below (g := gb325) (o := .cells #[.string t319, .int .i64 t320, .bool t321, .string t322] 39 (0, 0)) (by (with_reducible repeat (first | refine blk_drewN ?_ _ | refine blk_drew ?_ | refine blk_alloc ?_ _)); refine blk_put (cs := #[.string t319, .int .i64 t320, .bool t321, .string (⟨#[]⟩ : ByteArray)]) ?_ 3 _ rfl; (with_reducible repeat (first | refine blk_drewN ?_ _ | refine blk_drew ?_ | refine blk_alloc ?_ _)); refine blk_put (cs := #[.string t319, .int .i64 t320, .bool false, .string (⟨#[]⟩ : ByteArray)]) ?_ 2 _ rfl; (with_reducible repeat (first | refine blk_drewN ?_ _ | refine blk_drew ?_ | refine blk_alloc ?_ _)); refine blk_put (cs := #[.string t319, .int .i64 0, .bool false, .string (⟨#[]⟩ : ByteArray)]) ?_ 1 _ rfl; (with_reducible repeat (first | refine blk_drewN ?_ _ | refine blk_drew ?_ | refine blk_alloc ?_ _)); refine blk_put (cs := #[.string (⟨#[]⟩ : ByteArray), .int .i64 0, .bool false, .string (⟨#[]⟩ : ByteArray)]) ?_ 0 _ rfl; (with_reducible repeat (first | refine blk_drewN ?_ _ | refine blk_drew ?_ | refine blk_alloc ?_ _)); exact BK325.out) hb); have n4_ := Aside0.mk (below_step (by repeat (first | (with_reducible first | exact HB.out | apply below_alloc | apply pw_below_drewN | apply below_drew1 | refine below_set ?_ GE318.out | refine below_set ?_ GE325.out) | exact HB.out)) hb); clear HO307; clear HO311; clear BK318; clear BK325; clear HB; have HO307 := n0_; have HO311 := n1_; have BK318 := n2_; have BK325 := n3_; have HB := n4_; clear n0_ n1_ n2_ n3_ n4_; (try clear hb); (try clear hb2); (try clear hk); (try clear hi)) | ((with_reducible refine gate_dst (N := 9) rfl ?_); refine box_event ?hg (N := 9) ?hd (cs := #[.string (⟨#[]⟩ : ByteArray), .int .i64 0, .bool false, .string (⟨#[]⟩ : ByteArray)]) (t := 39) ?hr ?_; (case hd => rfl); (case hg => rfl); (case hr => first | (go_simp; done) | (go_simp; rfl)); intro gb332 hg w162 hbox hb; have n0_ := Aside0.mk (Kd.R_below (Kd.R_elderB (by (with_reducible repeat (first | apply Kd.R_alloc | apply Kd.R_drewN | apply Kd.R_drew)); exact HO307.out) gb332 (Nat.le_of_eq hg.symm)) hb); have n1_ := Aside0.mk (Kd.R_below (by (with_reducible repeat (first | apply Kd.R_alloc | apply Kd.R_drewN | apply Kd.R_drew)); exact HO311.out) hb); have n2_ := Aside0.mk (blk_below (g := gb318) (o := .cells #[.string t312, .int .i64 t313, .bool t314, .string t315] 39 (0, 0)) (by (with_reducible repeat (first | refine blk_drewN ?_ _ | refine blk_drew ?_ | refine blk_alloc ?_ _)); exact BK318.out) hb); have n3_ := Aside0.mk (blk_below (g := gb325) (o := .cells #[.string t319, .int .i64 t320, .bool t321, .string t322] 39 (0, 0)) (by (with_reducible repeat (first | refine blk_drewN ?_ _ | refine blk_drew ?_ | refine blk_alloc ?_ _)); exact BK325.out) hb); have n4_ := Aside0.mk (below_step (by repeat (first | (with_reducible first | exact HB.out | apply below_alloc | apply pw_below_drewN | apply below_drew1 | refine below_set ?_ GE318.out | refine below_set ?_ GE325.out) | exact HB.out)) hb); have n5_ := Aside0.mk (hbox); have n6_ := Aside0.mk ((by rw [hg]; exact (below_size (by repeat (first | (with_reducible first | exact HB.out | apply below_alloc | apply pw_below_drewN | apply below_drew1 | refine below_set ?_ GE318.out | refine below_set ?_ GE325.out) | exact HB.out))) : w.heap.size ≤ gb332)); have n7_ := Aside0.mk ((by rw [hg]; exact (below_size (by repeat (first | (with_reducible first | exact HB.out | apply below_alloc | apply pw_below_drewN | apply below_drew1 | refine below_set ?_ GE318.out | refine below_set ?_ GE325.out) | exact HB.out))) : w.heap.size ≤ gb332)); have n8_ := Aside0.mk ((by rw [hg]; exact Nat.ne_of_lt (blk_lt (g := gb318) (o := .cells #[.string t312, .int .i64 t313, .bool t314, .string t315] 39 (0, 0)) (by (with_reducible repeat (first | refine blk_drewN ?_ _ | refine blk_drew ?_ | refine blk_alloc ?_ _)); exact BK318.out)) : gb318 ≠ gb332)); have n9_ := Aside0.mk ((by rw [hg]; exact Nat.ne_of_gt (blk_lt (g := gb318) (o := .cells #[.string t312, .int .i64 t313, .bool t314, .string t315] 39 (0, 0)) (by (with_reducible repeat (first | refine blk_drewN ?_ _ | refine blk_drew ?_ | refine blk_alloc ?_ _)); exact BK318.out)) : gb332 ≠ gb318)); have n10_ := Aside0.mk ((by rw [hg]; exact Nat.ne_of_lt (blk_lt (g := gb325) (o := .cells #[.string t319, .int .i64 t320, .bool t321, .string t322] 39 (0, 0)) (by (with_reducible repeat (first | refine blk_drewN ?_ _ | refine blk_drew ?_ | refine blk_alloc ?_ _)); exact BK325.out)) : gb325 ≠ gb332)); have n11_ := Aside0.mk ((by rw [hg]; exact Nat.ne_of_gt (blk_lt (g := gb325) (o := .cells #[.string t319, .int .i64 t320, .bool t321, .string t322] 39 (0, 0)) (by (with_reducible repeat (first | refine blk_drewN ?_ _ | refine blk_drew ?_ | refine blk_alloc ?_ _)); exact BK325.out)) : gb332 ≠ gb325)); clear HO307; clear HO311; clear BK318; clear BK325; clear HB; have HO307 := n0_; have HO311 := n1_; have BK318 := n2_; have BK325 := n3_; have HB := n4_; have BK332 := n5_; have GW332 := n6_; have GE332 := n7_; have NB318_332 := n8_; have NB332_318 := n9_; have NB325_332 := n10_; have NB332_325 := n11_; clear n0_ n1_ n2_ n3_ n4_ n5_ n6_ n7_ n8_ n9_ n10_ n11_; clear hb hbox hg; have hnb163 := NB332_318.out; have hnc163 := NB318_332.out; have hnb164 := NB332_325.out; have hnc164 := NB325_332.out; have hcz165_0 : w162.cell? ⟨gb332, 0, none⟩ = some (.string (⟨#[]⟩ : ByteArray)) := (blk_cell BK332.out 0).trans rfl; have hcz165_1 : w162.cell? ⟨gb332, 1, none⟩ = some (.int .i64 0) := (blk_cell BK332.out 1).trans rfl; have hcz165_2 : w162.cell? ⟨gb332, 2, none⟩ = some (.bool false) := (blk_cell BK332.out 2).trans rfl; have hcz165_3 : w162.cell? ⟨gb332, 3, none⟩ = some (.string (⟨#[]⟩ : ByteArray)) := (blk_cell BK332.out 3).trans rfl; have hfz165_0 := blk_frozen BK332.out 0; have hfz165_1 := blk_frozen BK332.out 1; have hfz165_2 := blk_frozen BK332.out 2; have hfz165_3 := blk_frozen BK332.out 3) | ((with_reducible refine gate_callee (f := 16) rfl ?_); refine goesL_ (some 54) rfl rfl Try.func16 (by kernel_rfl) rfl #[.slice Ao153 t308.length co153, .string (⟨#[97, 97]⟩ : ByteArray), .int .i64 9] rfl (by (try simp only [List.map_toArray, List.map_cons, List.map_nil]); first | done | rfl | (simp only [List.length_drop, List.length_take]; rfl)) ?_; (with_reducible refine (block_Find.calls k _ _ t308 (⟨#[97, 97]⟩ : ByteArray) 9 t333 t334 t335 t336 false t338 _ ?side1 ?side2 A6.out).mono ?_); (case side1 => refine (Kd.R_reads' (e := 5) (base := w.heap.size) (ok := fun k_ => True) (n := t308.length) (c := co153) ?_).2.2; exact (by (with_reducible repeat (first | apply Kd.R_alloc | apply Kd.R_drewN | apply Kd.R_drew)); exact (Kd.R_mono (Kd.R_far (p := ⟨gb332, 3, none⟩) (Kd.R_far (p := ⟨gb332, 2, none⟩) (Kd.R_far (p := ⟨gb332, 1, none⟩) (Kd.R_far (p := ⟨gb332, 0, none⟩) (Kd.R_types HO311.out BK332.out (by decide)) (fun _ hk => hk.2) (.string t326)) (fun _ hk => hk.2) (.int .i64 t327)) (fun _ hk => hk.2) (.bool t328)) (fun _ hk => hk.2) (.string t329)) (fun _ h_ => h_.1)))); (case side2 => exact (Kd.R_reads' HO311.out).2.1); rintro e w166 ⟨rfl, hb⟩; refine ⟨_, rfl, ?_⟩; have n0_ := Aside0.mk (Kd.R_below (by (with_reducible repeat (first | apply Kd.R_alloc | apply Kd.R_drewN | apply Kd.R_drew)); exact (Kd.R_mono (Kd.R_far (p := ⟨gb332, 3, none⟩) (Kd.R_far (p := ⟨gb332, 2, none⟩) (Kd.R_far (p := ⟨gb332, 1, none⟩) (Kd.R_far (p := ⟨gb332, 0, none⟩) (Kd.R_mono HO307.out (fun k_ hk => (⟨hk, hk.2⟩ : _ ∧ k_ ≠ gb332))) (fun _ hk => hk.2) (.string t326)) (fun _ hk => hk.2) (.int .i64 t327)) (fun _ hk => hk.2) (.bool t328)) (fun _ hk => hk.2) (.string t329)) (fun _ h_ => h_.1))) hb); have n1_ := Aside0.mk (Kd.R_below (by (with_reducible repeat (first | apply Kd.R_alloc | apply Kd.R_drewN | apply Kd.R_drew)); exact (Kd.R_mono (Kd.R_far (p := ⟨gb332, 3, none⟩) (Kd.R_far (p := ⟨gb332, 2, none⟩) (Kd.R_far (p := ⟨gb332, 1, none⟩) (Kd.R_far (p := ⟨gb332, 0, none⟩) (Kd.R_types HO311.out BK332.out (by decide)) (fun _ hk => hk.2) (.string t326)) (fun _ hk => hk.2) (.int .i64 t327)) (fun _ hk => hk.2) (.bool t328)) (fun _ hk => hk.2) (.string t329)) (fun _ h_ => h_.1))) hb); have n2_ := Aside0.mk (blk_below (g := gb318) (o := .cells #[.string t312, .int .i64 t313, .bool t314, .string t315] 39 (0, 0)) (by (with_reducible repeat (first | refine blk_drewN ?_ _ | refine blk_drew ?_ | refine blk_alloc ?_ _)); refine blk_far ?_ NB318_332.out _; (with_reducible repeat (first | refine blk_drewN ?_ _ | refine blk_drew ?_ | refine blk_alloc ?_ _)); refine blk_far ?_ NB318_332.out _; (with_reducible repeat (first | refine blk_drewN ?_ _ | refine blk_drew ?_ | refine blk_alloc ?_ _)); refine blk_far ?_ NB318_332.out _; (with_reducible repeat (first | refine blk_drewN ?_ _ | refine blk_drew ?_ | refine blk_alloc ?_ _)); refine blk_far ?_ NB318_332.out _; (with_reducible repeat (first | refine blk_drewN ?_ _ | refine blk_drew ?_ | refine blk_alloc ?_ _)); exact BK318.out) hb); have n3_ := Aside0.mk (blk_below (g := gb325) (o := .cells #[.string t319, .int .i64 t320, .bool t321, .string t322] 39 (0, 0)) (by (with_reducible repeat (first | refine blk_drewN ?_ _ | refine blk_drew ?_ | refine blk_alloc ?_ _)); refine blk_far ?_ NB325_332.out _; (with_reducible repeat (first | refine blk_drewN ?_ _ | refine blk_drew ?_ | refine blk_alloc ?_ _)); refine blk_far ?_ NB325_332.out _; (with_reducible repeat (first | refine blk_drewN ?_ _ | refine blk_drew ?_ | refine blk_alloc ?_ _)); refine blk_far ?_ NB325_332.out _; (with_reducible repeat (first | refine blk_drewN ?_ _ | refine blk_drew ?_ | refine blk_alloc ?_ _)); refine blk_far ?_ NB325_332.out _; (with_reducible repeat (first | refine blk_drewN ?_ _ | refine blk_drew ?_ | refine blk_alloc ?_ _)); exact BK325.out) hb); have n4_ := Aside0.mk (blk_below (g := gb332) (o := .cells #[.string t326, .int .i64 t327, .bool t328, .string t329] 39 (0, 0)) (by (with_reducible repeat (first | refine blk_drewN ?_ _ | refine blk_drew ?_ | refine blk_alloc ?_ _)); refine blk_put (cs := #[.string t326, .int .i64 t327, .bool t328, .string (⟨#[]⟩ : ByteArray)]) ?_ 3 _ rfl; (with_reducible repeat (first | refine blk_drewN ?_ _ | refine blk_drew ?_ | refine blk_alloc ?_ _)); refine blk_put (cs := #[.string t326, .int .i64 t327, .bool false, .string (⟨#[]⟩ : ByteArray)]) ?_ 2 _ rfl; (with_reducible repeat (first | refine blk_drewN ?_ _ | refine blk_drew ?_ | refine blk_alloc ?_ _)); refine blk_put (cs := #[.string t326, .int .i64 0, .bool false, .string (⟨#[]⟩ : ByteArray)]) ?_ 1 _ rfl; (with_reducible repeat (first | refine blk_drewN ?_ _ | refine blk_drew ?_ | refine blk_alloc ?_ _)); refine blk_put (cs := #[.string (⟨#[]⟩ : ByteArray), .int .i64 0, .bool false, .string (⟨#[]⟩ : ByteArray)]) ?_ 0 _ rfl; (with_reducible repeat (first | refine blk_drewN ?_ _ | refine blk_drew ?_ | refine blk_alloc ?_ _)); exact BK332.out) hb); have n5_ := Aside0.mk (below_step (by repeat (first | (with_reducible first | exact HB.out | apply below_alloc | apply pw_below_drewN | apply below_drew1 | refine below_set ?_ GE318.out | refine below_set ?_ GE325.out | refine below_set ?_ GE332.out) | exact HB.out)) hb); clear HO307; clear HO311; clear BK318; clear BK325; clear BK332; clear HB; have HO307 := n0_; have HO311 := n1_; have BK318 := n2_; have BK325 := n3_; have BK332 := n4_; have HB := n5_; clear n0_ n1_ n2_ n3_ n4_ n5_; (try clear hb); (try clear hb2); (try clear hk); (try clear hi)) | ((with_reducible refine gate_dst (N := 12) rfl ?_); refine box_event ?hg (N := 12) ?hd (cs := #[.string (⟨#[]⟩ : ByteArray), .int .i64 0, .bool false, .string (⟨#[]⟩ : ByteArray)]) (t := 39) ?hr ?_; (case hd => rfl); (case hg => rfl); (case hr => first | (go_simp; done) | (go_simp; rfl)); intro gb339 hg w167 hbox hb; have n0_ := Aside0.mk (Kd.R_below (Kd.R_elderB (by (with_reducible repeat (first | apply Kd.R_alloc | apply Kd.R_drewN | apply Kd.R_drew)); exact HO307.out) gb339 (Nat.le_of_eq hg.symm)) hb); have n1_ := Aside0.mk (Kd.R_below (by (with_reducible repeat (first | apply Kd.R_alloc | apply Kd.R_drewN | apply Kd.R_drew)); exact HO311.out) hb); have n2_ := Aside0.mk (blk_below (g := gb318) (o := .cells #[.string t312, .int .i64 t313, .bool t314, .string t315] 39 (0, 0)) (by (with_reducible repeat (first | refine blk_drewN ?_ _ | refine blk_drew ?_ | refine blk_alloc ?_ _)); exact BK318.out) hb); have n3_ := Aside0.mk (blk_below (g := gb325) (o := .cells #[.string t319, .int .i64 t320, .bool t321, .string t322] 39 (0, 0)) (by (with_reducible repeat (first | refine blk_drewN ?_ _ | refine blk_drew ?_ | refine blk_alloc ?_ _)); exact BK325.out) hb); have n4_ := Aside0.mk (blk_below (g := gb332) (o := .cells #[.string t326, .int .i64 t327, .bool t328, .string t329] 39 (0, 0)) (by (with_reducible repeat (first | refine blk_drewN ?_ _ | refine blk_drew ?_ | refine blk_alloc ?_ _)); exact BK332.out) hb); have n5_ := Aside0.mk (below_step (by repeat (first | (with_reducible first | exact HB.out | apply below_alloc | apply pw_below_drewN | apply below_drew1 | refine below_set ?_ GE318.out | refine below_set ?_ GE325.out | refine below_set ?_ GE332.out) | exact HB.out)) hb); have n6_ := Aside0.mk (hbox); have n7_ := Aside0.mk ((by rw [hg]; exact (below_size (by repeat (first | (with_reducible first | exact HB.out | apply below_alloc | apply pw_below_drewN | apply below_drew1 | refine below_set ?_ GE318.out | refine below_set ?_ GE325.out | refine below_set ?_ GE332.out) | exact HB.out))) : w.heap.size ≤ gb339)); have n8_ := Aside0.mk ((by rw [hg]; exact (below_size (by repeat (first | (with_reducible first | exact HB.out | apply below_alloc | apply pw_below_drewN | apply below_drew1 | refine below_set ?_ GE318.out | refine below_set ?_ GE325.out | refine below_set ?_ GE332.out) | exact HB.out))) : w.heap.size ≤ gb339)); have n9_ := Aside0.mk ((by rw [hg]; exact Nat.ne_of_lt (blk_lt (g := gb318) (o := .cells #[.string t312, .int .i64 t313, .bool t314, .string t315] 39 (0, 0)) (by (with_reducible repeat (first | refine blk_drewN ?_ _ | refine blk_drew ?_ | refine blk_alloc ?_ _)); exact BK318.out)) : gb318 ≠ gb339)); have n10_ := Aside0.mk ((by rw [hg]; exact Nat.ne_of_gt (blk_lt (g := gb318) (o := .cells #[.string t312, .int .i64 t313, .bool t314, .string t315] 39 (0, 0)) (by (with_reducible repeat (first | refine blk_drewN ?_ _ | refine blk_drew ?_ | refine blk_alloc ?_ _)); exact BK318.out)) : gb339 ≠ gb318)); have n11_ := Aside0.mk ((by rw [hg]; exact Nat.ne_of_lt (blk_lt (g := gb325) (o := .cells #[.string t319, .int .i64 t320, .bool t321, .string t322] 39 (0, 0)) (by (with_reducible repeat (first | refine blk_drewN ?_ _ | refine blk_drew ?_ | refine blk_alloc ?_ _)); exact BK325.out)) : gb325 ≠ gb339)); have n12_ := Aside0.mk ((by rw [hg]; exact Nat.ne_of_gt (blk_lt (g := gb325) (o := .cells #[.string t319, .int .i64 t320, .bool t321, .string t322] 39 (0, 0)) (by (with_reducible repeat (first | refine blk_drewN ?_ _ | refine blk_drew ?_ | refine blk_alloc ?_ _)); exact BK325.out)) : gb339 ≠ gb325)); have n13_ := Aside0.mk ((by rw [hg]; exact Nat.ne_of_lt (blk_lt (g := gb332) (o := .cells #[.string t326, .int .i64 t327, .bool t328, .string t329] 39 (0, 0)) (by (with_reducible repeat (first | refine blk_drewN ?_ _ | refine blk_drew ?_ | refine blk_alloc ?_ _)); exact BK332.out)) : gb332 ≠ gb339)); have n14_ := Aside0.mk ((by rw [hg]; exact Nat.ne_of_gt (blk_lt (g := gb332) (o := .cells #[.string t326, .int .i64 t327, .bool t328, .string t329] 39 (0, 0)) (by (with_reducible repeat (first | refine blk_drewN ?_ _ | refine blk_drew ?_ | refine blk_alloc ?_ _)); exact BK332.out)) : gb339 ≠ gb332)); clear HO307; clear HO311; clear BK318; clear BK325; clear BK332; clear HB; have HO307 := n0_; have HO311 := n1_; have BK318 := n2_; have BK325 := n3_; have BK332 := n4_; have HB := n5_; have BK339 := n6_; have GW339 := n7_; have GE339 := n8_; have NB318_339 := n9_; have NB339_318 := n10_; have NB325_339 := n11_; have NB339_325 := n12_; have NB332_339 := n13_; have NB339_332 := n14_; clear n0_ n1_ n2_ n3_ n4_ n5_ n6_ n7_ n8_ n9_ n10_ n11_ n12_ n13_ n14_; clear hb hbox hg; have hnb168 := NB339_318.out; have hnc168 := NB318_339.out; have hnb169 := NB339_325.out; have hnc169 := NB325_339.out; have hnb170 := NB339_332.out; have hnc170 := NB332_339.out; have hcz171_0 : w167.cell? ⟨gb339, 0, none⟩ = some (.string (⟨#[]⟩ : ByteArray)) := (blk_cell BK339.out 0).trans rfl; have hcz171_1 : w167.cell? ⟨gb339, 1, none⟩ = some (.int .i64 0) := (blk_cell BK339.out 1).trans rfl; have hcz171_2 : w167.cell? ⟨gb339, 2, none⟩ = some (.bool false) := (blk_cell BK339.out 2).trans rfl; have hcz171_3 : w167.cell? ⟨gb339, 3, none⟩ = some (.string (⟨#[]⟩ : ByteArray)) := (blk_cell BK339.out 3).trans rfl; have hfz171_0 := blk_frozen BK339.out 0; have hfz171_1 := blk_frozen BK339.out 1; have hfz171_2 := blk_frozen BK339.out 2; have hfz171_3 := blk_frozen BK339.out 3) | ((with_reducible refine gate_callee (f := 9) rfl ?_); refine goesL_ (some 59) rfl rfl Try.func9 (by kernel_rfl) rfl #[.slice none 0 0] rfl (by (try simp only [List.map_toArray, List.map_cons, List.map_nil]); first | done | rfl | (simp only [List.length_drop, List.length_take]; rfl)) ?_; (refine (block_Write.calls k _ _ ([] : List (S39)) t340 t341 _ ?side1 ?side2 A7.out).mono ?_); (case side1 => exact Kd.C_nil _ _); (case side2 => exact Nat.le_refl _); rintro e w172 ⟨v342, rfl, ho0, hb⟩; refine ⟨_, rfl, ?_⟩; have n0_ := Aside0.mk (Kd.R_below (by (with_reducible repeat (first | apply Kd.R_alloc | apply Kd.R_drewN | apply Kd.R_drew)); exact (Kd.R_mono (Kd.R_far (p := ⟨gb339, 3, none⟩) (Kd.R_far (p := ⟨gb339, 2, none⟩) (Kd.R_far (p := ⟨gb339, 1, none⟩) (Kd.R_far (p := ⟨gb339, 0, none⟩) (Kd.R_mono HO307.out (fun k_ hk => (⟨hk, hk.2⟩ : _ ∧ k_ ≠ gb339))) (fun _ hk => hk.2) (.string t333)) (fun _ hk => hk.2) (.int .i64 t334)) (fun _ hk => hk.2) (.bool t335)) (fun _ hk => hk.2) (.string t336)) (fun _ h_ => h_.1))) hb); have n1_ := Aside0.mk (Kd.R_elder' (by (with_reducible repeat (first | apply Kd.R_alloc | apply Kd.R_drewN | apply Kd.R_drew)); exact (Kd.R_mono (Kd.R_far (p := ⟨gb339, 3, none⟩) (Kd.R_far (p := ⟨gb339, 2, none⟩) (Kd.R_far (p := ⟨gb339, 1, none⟩) (Kd.R_far (p := ⟨gb339, 0, none⟩) (Kd.R_types HO311.out BK339.out (by decide)) (fun _ hk => hk.2) (.string t333)) (fun _ hk => hk.2) (.int .i64 t334)) (fun _ hk => hk.2) (.bool t335)) (fun _ hk => hk.2) (.string t336)) (fun _ h_ => h_.1))) (Kd.R_base ho0) hb); have n2_ := Aside0.mk (Kd.R_lower (Kd.R_new' ho0 (Kd.R_lt (by (with_reducible repeat (first | apply Kd.R_alloc | apply Kd.R_drewN | apply Kd.R_drew)); exact (Kd.R_mono (Kd.R_far (p := ⟨gb339, 3, none⟩) (Kd.R_far (p := ⟨gb339, 2, none⟩) (Kd.R_far (p := ⟨gb339, 1, none⟩) (Kd.R_far (p := ⟨gb339, 0, none⟩) (Kd.R_types HO311.out BK339.out (by decide)) (fun _ hk => hk.2) (.string t333)) (fun _ hk => hk.2) (.int .i64 t334)) (fun _ hk => hk.2) (.bool t335)) (fun _ hk => hk.2) (.string t336)) (fun _ h_ => h_.1))))) (below_size (by repeat (first | (with_reducible first | exact HB.out | apply below_alloc | apply pw_below_drewN | apply below_drew1 | refine below_set ?_ GE318.out | refine below_set ?_ GE325.out | refine below_set ?_ GE332.out | refine below_set ?_ GE339.out) | exact HB.out)))); have n3_ := Aside0.mk (blk_below (g := gb318) (o := .cells #[.string t312, .int .i64 t313, .bool t314, .string t315] 39 (0, 0)) (by (with_reducible repeat (first | refine blk_drewN ?_ _ | refine blk_drew ?_ | refine blk_alloc ?_ _)); refine blk_far ?_ NB318_339.out _; (with_reducible repeat (first | refine blk_drewN ?_ _ | refine blk_drew ?_ | refine blk_alloc ?_ _)); refine blk_far ?_ NB318_339.out _; (with_reducible repeat (first | refine blk_drewN ?_ _ | refine blk_drew ?_ | refine blk_alloc ?_ _)); refine blk_far ?_ NB318_339.out _; (with_reducible repeat (first | refine blk_drewN ?_ _ | refine blk_drew ?_ | refine blk_alloc ?_ _)); refine blk_far ?_ NB318_339.out _; (with_reducible repeat (first | refine blk_drewN ?_ _ | refine blk_drew ?_ | refine blk_alloc ?_ _)); exact BK318.out) hb); have n4_ := Aside0.mk (blk_below (g := gb325) (o := .cells #[.string t319, .int .i64 t320, .bool t321, .string t322] 39 (0, 0)) (by (with_reducible repeat (first | refine blk_drewN ?_ _ | refine blk_drew ?_ | refine blk_alloc ?_ _)); refine blk_far ?_ NB325_339.out _; (with_reducible repeat (first | refine blk_drewN ?_ _ | refine blk_drew ?_ | refine blk_alloc ?_ _)); refine blk_far ?_ NB325_339.out _; (with_reducible repeat (first | refine blk_drewN ?_ _ | refine blk_drew ?_ | refine blk_alloc ?_ _)); refine blk_far ?_ NB325_339.out _; (with_reducible repeat (first | refine blk_drewN ?_ _ | refine blk_drew ?_ | refine blk_alloc ?_ _)); refine blk_far ?_ NB325_339.out _; (with_reducible repeat (first | refine blk_drewN ?_ _ | refine blk_drew ?_ | refine blk_alloc ?_ _)); exact BK325.out) hb); have n5_ := Aside0.mk (blk_below (g := gb332) (o := .cells #[.string t326, .int .i64 t327, .bool t328, .string t329] 39 (0, 0)) (by (with_reducible repeat (first | refine blk_drewN ?_ _ | refine blk_drew ?_ | refine blk_alloc ?_ _)); refine blk_far ?_ NB332_339.out _; (with_reducible repeat (first | refine blk_drewN ?_ _ | refine blk_drew ?_ | refine blk_alloc ?_ _)); refine blk_far ?_ NB332_339.out _; (with_reducible repeat (first | refine blk_drewN ?_ _ | refine blk_drew ?_ | refine blk_alloc ?_ _)); refine blk_far ?_ NB332_339.out _; (with_reducible repeat (first | refine blk_drewN ?_ _ | refine blk_drew ?_ | refine blk_alloc ?_ _)); refine blk_far ?_ NB332_339.out _; (with_reducible repeat (first | refine blk_drewN ?_ _ | refine blk_drew ?_ | refine blk_alloc ?_ _)); exact BK332.out) hb); have n6_ := Aside0.mk (blk_below (g := gb339) (o := .cells #[.string t333, .int .i64 t334, .bool t335, .string t336] 39 (0, 0)) (by (with_reducible repeat (first | refine blk_drewN ?_ _ | refine blk_drew ?_ | refine blk_alloc ?_ _)); refine blk_put (cs := #[.string t333, .int .i64 t334, .bool t335, .string (⟨#[]⟩ : ByteArray)]) ?_ 3 _ rfl; (with_reducible repeat (first | refine blk_drewN ?_ _ | refine blk_drew ?_ | refine blk_alloc ?_ _)); refine blk_put (cs := #[.string t333, .int .i64 t334, .bool false, .string (⟨#[]⟩ : ByteArray)]) ?_ 2 _ rfl; (with_reducible repeat (first | refine blk_drewN ?_ _ | refine blk_drew ?_ | refine blk_alloc ?_ _)); refine blk_put (cs := #[.string t333, .int .i64 0, .bool false, .string (⟨#[]⟩ : ByteArray)]) ?_ 1 _ rfl; (with_reducible repeat (first | refine blk_drewN ?_ _ | refine blk_drew ?_ | refine blk_alloc ?_ _)); refine blk_put (cs := #[.string (⟨#[]⟩ : ByteArray), .int .i64 0, .bool false, .string (⟨#[]⟩ : ByteArray)]) ?_ 0 _ rfl; (with_reducible repeat (first | refine blk_drewN ?_ _ | refine blk_drew ?_ | refine blk_alloc ?_ _)); exact BK339.out) hb); have n7_ := Aside0.mk (below_step (by repeat (first | (with_reducible first | exact HB.out | apply below_alloc | apply pw_below_drewN | apply below_drew1 | refine below_set ?_ GE318.out | refine below_set ?_ GE325.out | refine below_set ?_ GE332.out | refine below_set ?_ GE339.out) | exact HB.out)) hb); clear HO307; clear HO311; clear BK318; clear BK325; clear BK332; clear BK339; clear HB; have HO307 := n0_; have HO311 := n1_; have HO343 := n2_; have BK318 := n3_; have BK325 := n4_; have BK332 := n5_; have BK339 := n6_; have HB := n7_; clear n0_ n1_ n2_ n3_ n4_ n5_ n6_ n7_; (try clear hb); (try clear hb2); (try clear hk); (try clear hi); (try clear ho0)) | ((with_reducible refine gate_dst (N := 65) rfl ?_); refine Kd.R_lit k39 _ 39 ?hg (N := 65) ?hd (xs := ([(⟨(⟨#[98]⟩ : ByteArray), 1, false, (⟨#[]⟩ : ByteArray)⟩ : S39), (⟨(⟨#[97]⟩ : ByteArray), 1, false, (⟨#[]⟩ : ByteArray)⟩ : S39)] : List (S39))) (inner := [.string (⟨#[98]⟩ : ByteArray), .int .i64 1, .bool false, .string (⟨#[]⟩ : ByteArray), .string (⟨#[97]⟩ : ByteArray), .int .i64 1, .bool false, .string (⟨#[]⟩ : ByteArray)]) (ok := fun _ => True) (okp := fun _ => True) ?hr ?hp (fun _ hk => hk) trivial (Below.refl _ _) (Nat.le_refl _) (by simp) ?_; (case hd => rfl); (case hg => rfl); (case hr => first | (go_simp; done) | (go_simp; rfl)); (case hp => exact (Reps.c4 (show Kd.M k39 _ _ _ (⟨(⟨#[98]⟩ : ByteArray), 1, false, (⟨#[]⟩ : ByteArray)⟩ : S39) [.string (⟨#[98]⟩ : ByteArray), .int .i64 1, .bool false, .string (⟨#[]⟩ : ByteArray)] from (k39_mkM _ _ _ (⟨(⟨#[98]⟩ : ByteArray), 1, false, (⟨#[]⟩ : ByteArray)⟩ : S39) )) (Reps.c4 (show Kd.M k39 _ _ _ (⟨(⟨#[97]⟩ : ByteArray), 1, false, (⟨#[]⟩ : ByteArray)⟩ : S39) [.string (⟨#[97]⟩ : ByteArray), .int .i64 1, .bool false, .string (⟨#[]⟩ : ByteArray)] from (k39_mkM _ _ _ (⟨(⟨#[97]⟩ : ByteArray), 1, false, (⟨#[]⟩ : ByteArray)⟩ : S39) )) (Reps.none _ _)))); intro v345 w173 ho174 hb hg_ hnew_; clear hg_ hnew_; (first | rw [← Ny344.out] at ho174 | (simp only [Int.reduceToNat] at ho174; rw [← Ny344.out] at ho174)); have n0_ := Aside0.mk (Kd.R_elder' (by (with_reducible repeat (first | apply Kd.R_alloc | apply Kd.R_drewN | apply Kd.R_drew)); exact HO307.out) (Kd.R_base ho174) hb); have n1_ := Aside0.mk (Kd.R_below (by (with_reducible repeat (first | apply Kd.R_alloc | apply Kd.R_drewN | apply Kd.R_drew)); exact HO311.out) hb); have n2_ := Aside0.mk (Kd.R_below (by (with_reducible repeat (first | apply Kd.R_alloc | apply Kd.R_drewN | apply Kd.R_drew)); exact HO343.out) hb); have n3_ := Aside0.mk (Kd.R_lower (Kd.R_newB (Kd.R_newB (Kd.R_newB (Kd.R_newB (Kd.R_new' ho174 (Kd.R_lt (by (with_reducible repeat (first | apply Kd.R_alloc | apply Kd.R_drewN | apply Kd.R_drew)); exact HO307.out))) (g := gb318) (o := .cells #[.string t312, .int .i64 t313, .bool t314, .string t315] 39 (0, 0)) (by (with_reducible repeat (first | refine blk_drewN ?_ _ | refine blk_drew ?_ | refine blk_alloc ?_ _)); exact BK318.out)) (g := gb325) (o := .cells #[.string t319, .int .i64 t320, .bool t321, .string t322] 39 (0, 0)) (by (with_reducible repeat (first | refine blk_drewN ?_ _ | refine blk_drew ?_ | refine blk_alloc ?_ _)); exact BK325.out)) (g := gb332) (o := .cells #[.string t326, .int .i64 t327, .bool t328, .string t329] 39 (0, 0)) (by (with_reducible repeat (first | refine blk_drewN ?_ _ | refine blk_drew ?_ | refine blk_alloc ?_ _)); exact BK332.out)) (g := gb339) (o := .cells #[.string t333, .int .i64 t334, .bool t335, .string t336] 39 (0, 0)) (by (with_reducible repeat (first | refine blk_drewN ?_ _ | refine blk_drew ?_ | refine blk_alloc ?_ _)); exact BK339.out)) (below_size (by repeat (first | (with_reducible first | exact HB.out | apply below_alloc | apply pw_below_drewN | apply below_drew1 | refine below_set ?_ GE318.out | refine below_set ?_ GE325.out | refine below_set ?_ GE332.out | refine below_set ?_ GE339.out) | exact HB.out)))); have n4_ := Aside0.mk (blk_below (g := gb318) (o := .cells #[.string t312, .int .i64 t313, .bool t314, .string t315] 39 (0, 0)) (by (with_reducible repeat (first | refine blk_drewN ?_ _ | refine blk_drew ?_ | refine blk_alloc ?_ _)); exact BK318.out) hb); have n5_ := Aside0.mk (blk_below (g := gb325) (o := .cells #[.string t319, .int .i64 t320, .bool t321, .string t322] 39 (0, 0)) (by (with_reducible repeat (first | refine blk_drewN ?_ _ | refine blk_drew ?_ | refine blk_alloc ?_ _)); exact BK325.out) hb); have n6_ := Aside0.mk (blk_below (g := gb332) (o := .cells #[.string t326, .int .i64 t327, .bool t328, .string t329] 39 (0, 0)) (by (with_reducible repeat (first | refine blk_drewN ?_ _ | refine blk_drew ?_ | refine blk_alloc ?_ _)); exact BK332.out) hb); have n7_ := Aside0.mk (blk_below (g := gb339) (o := .cells #[.string t333, .int .i64 t334, .bool t335, .string t336] 39 (0, 0)) (by (with_reducible repeat (first | refine blk_drewN ?_ _ | refine blk_drew ?_ | refine blk_alloc ?_ _)); exact BK339.out) hb); have n8_ := Aside0.mk (below_step (by repeat (first | (with_reducible first | exact HB.out | apply below_alloc | apply pw_below_drewN | apply below_drew1 | refine below_set ?_ GE318.out | refine below_set ?_ GE325.out | refine below_set ?_ GE332.out | refine below_set ?_ GE339.out) | exact HB.out)) hb); clear HO307; clear HO311; clear HO343; clear BK318; clear BK325; clear BK332; clear BK339; clear HB; have HO307 := n0_; have HO311 := n1_; have HO343 := n2_; have HO346 := n3_; have BK318 := n4_; have BK325 := n5_; have BK332 := n6_; have BK339 := n7_; have HB := n8_; clear n0_ n1_ n2_ n3_ n4_ n5_ n6_ n7_ n8_; clear hb ho174; obtain ⟨Ao175, co175, eo175⟩ := Kd.R_slice HO346.out; subst eo175) | ((with_reducible refine gate_callee (f := 9) rfl ?_); refine goesL_ (some 66) rfl rfl Try.func9 (by kernel_rfl) rfl #[.slice Ao175 y344.length co175] rfl (by (try simp only [List.map_toArray, List.map_cons, List.map_nil]); first | done | rfl | (simp only [List.length_drop, List.length_take]; rfl)) ?_; (with_reducible refine (block_Write.calls k _ _ y344 t347 t348 _ ?side1 ?side2 A8.out).mono ?_); (case side1 => repeat (first | exact (Kd.R_reads' HO346.out).2.2 | (with_reducible refine Kd.C_alloc ?_ _) | (with_reducible refine Kd.C_drewN ?_ _) | (with_reducible refine Kd.C_drew ?_))); (case side2 => exact (Kd.R_reads' HO346.out).2.1); rintro e w176 ⟨v349, rfl, ho0, hb⟩; refine ⟨_, rfl, ?_⟩; have n0_ := Aside0.mk (Kd.R_below (by (with_reducible repeat (first | apply Kd.R_alloc | apply Kd.R_drewN | apply Kd.R_drew)); exact HO307.out) hb); have n1_ := Aside0.mk (Kd.R_elder' (by (with_reducible repeat (first | apply Kd.R_alloc | apply Kd.R_drewN | apply Kd.R_drew)); exact HO311.out) (Kd.R_base ho0) hb); have n2_ := Aside0.mk (Kd.R_elder' (by (with_reducible repeat (first | apply Kd.R_alloc | apply Kd.R_drewN | apply Kd.R_drew)); exact HO343.out) (Kd.R_base ho0) hb); have n3_ := Aside0.mk (Kd.R_below (by (with_reducible repeat (first | apply Kd.R_alloc | apply Kd.R_drewN | apply Kd.R_drew)); exact HO346.out) hb); have n4_ := Aside0.mk (Kd.R_lower (Kd.R_new' (Kd.R_new' ho0 (Kd.R_lt (by (with_reducible repeat (first | apply Kd.R_alloc | apply Kd.R_drewN | apply Kd.R_drew)); exact HO311.out))) (Kd.R_lt (by (with_reducible repeat (first | apply Kd.R_alloc | apply Kd.R_drewN | apply Kd.R_drew)); exact HO343.out))) (below_size (by repeat (first | (with_reducible first | exact HB.out | apply below_alloc | apply pw_below_drewN | apply below_drew1 | refine below_set ?_ GE318.out | refine below_set ?_ GE325.out | refine below_set ?_ GE332.out | refine below_set ?_ GE339.out) | exact HB.out)))); have n5_ := Aside0.mk (blk_below (g := gb318) (o := .cells #[.string t312, .int .i64 t313, .bool t314, .string t315] 39 (0, 0)) (by (with_reducible repeat (first | refine blk_drewN ?_ _ | refine blk_drew ?_ | refine blk_alloc ?_ _)); exact BK318.out) hb); have n6_ := Aside0.mk (blk_below (g := gb325) (o := .cells #[.string t319, .int .i64 t320, .bool t321, .string t322] 39 (0, 0)) (by (with_reducible repeat (first | refine blk_drewN ?_ _ | refine blk_drew ?_ | refine blk_alloc ?_ _)); exact BK325.out) hb); have n7_ := Aside0.mk (blk_below (g := gb332) (o := .cells #[.string t326, .int .i64 t327, .bool t328, .string t329] 39 (0, 0)) (by (with_reducible repeat (first | refine blk_drewN ?_ _ | refine blk_drew ?_ | refine blk_alloc ?_ _)); exact BK332.out) hb); have n8_ := Aside0.mk (blk_below (g := gb339) (o := .cells #[.string t333, .int .i64 t334, .bool t335, .string t336] 39 (0, 0)) (by (with_reducible repeat (first | refine blk_drewN ?_ _ | refine blk_drew ?_ | refine blk_alloc ?_ _)); exact BK339.out) hb); have n9_ := Aside0.mk (below_step (by repeat (first | (with_reducible first | exact HB.out | apply below_alloc | apply pw_below_drewN | apply below_drew1 | refine below_set ?_ GE318.out | refine below_set ?_ GE325.out | refine below_set ?_ GE332.out | refine below_set ?_ GE339.out) | exact HB.out)) hb); clear HO307; clear HO311; clear HO343; clear HO346; clear BK318; clear BK325; clear BK332; clear BK339; clear HB; have HO307 := n0_; have HO311 := n1_; have HO343 := n2_; have HO346 := n3_; have HO350 := n4_; have BK318 := n5_; have BK325 := n6_; have BK332 := n7_; have BK339 := n8_; have HB := n9_; clear n0_ n1_ n2_ n3_ n4_ n5_ n6_ n7_ n8_ n9_; (try clear hb); (try clear hb2); (try clear hk); (try clear hi); (try clear ho0)) | ((with_reducible refine gate_dst (N := 72) rfl ?_); refine Kd.R_lit k39 _ 39 ?hg (N := 72) ?hd (xs := ([(⟨(⟨#[97]⟩ : ByteArray), 1, false, (⟨#[]⟩ : ByteArray)⟩ : S39), (⟨(⟨#[97]⟩ : ByteArray), 2, false, (⟨#[]⟩ : ByteArray)⟩ : S39)] : List (S39))) (inner := [.string (⟨#[97]⟩ : ByteArray), .int .i64 1, .bool false, .string (⟨#[]⟩ : ByteArray), .string (⟨#[97]⟩ : ByteArray), .int .i64 2, .bool false, .string (⟨#[]⟩ : ByteArray)]) (ok := fun _ => True) (okp := fun _ => True) ?hr ?hp (fun _ hk => hk) trivial (Below.refl _ _) (Nat.le_refl _) (by simp) ?_; (case hd => rfl); (case hg => rfl); (case hr => first | (go_simp; done) | (go_simp; rfl)); (case hp => exact (Reps.c4 (show Kd.M k39 _ _ _ (⟨(⟨#[97]⟩ : ByteArray), 1, false, (⟨#[]⟩ : ByteArray)⟩ : S39) [.string (⟨#[97]⟩ : ByteArray), .int .i64 1, .bool false, .string (⟨#[]⟩ : ByteArray)] from (k39_mkM _ _ _ (⟨(⟨#[97]⟩ : ByteArray), 1, false, (⟨#[]⟩ : ByteArray)⟩ : S39) )) (Reps.c4 (show Kd.M k39 _ _ _ (⟨(⟨#[97]⟩ : ByteArray), 2, false, (⟨#[]⟩ : ByteArray)⟩ : S39) [.string (⟨#[97]⟩ : ByteArray), .int .i64 2, .bool false, .string (⟨#[]⟩ : ByteArray)] from (k39_mkM _ _ _ (⟨(⟨#[97]⟩ : ByteArray), 2, false, (⟨#[]⟩ : ByteArray)⟩ : S39) )) (Reps.none _ _)))); intro v352 w177 ho178 hb hg_ hnew_; clear hg_ hnew_; (first | rw [← Ny351.out] at ho178 | (simp only [Int.reduceToNat] at ho178; rw [← Ny351.out] at ho178)); have n0_ := Aside0.mk (Kd.R_elder' (by (with_reducible repeat (first | apply Kd.R_alloc | apply Kd.R_drewN | apply Kd.R_drew)); exact HO307.out) (Kd.R_base ho178) hb); have n1_ := Aside0.mk (Kd.R_below (by (with_reducible repeat (first | apply Kd.R_alloc | apply Kd.R_drewN | apply Kd.R_drew)); exact HO311.out) hb); have n2_ := Aside0.mk (Kd.R_below (by (with_reducible repeat (first | apply Kd.R_alloc | apply Kd.R_drewN | apply Kd.R_drew)); exact HO343.out) hb); have n3_ := Aside0.mk (Kd.R_elder' (by (with_reducible repeat (first | apply Kd.R_alloc | apply Kd.R_drewN | apply Kd.R_drew)); exact HO346.out) (Kd.R_base ho178) hb); have n4_ := Aside0.mk (Kd.R_below (by (with_reducible repeat (first | apply Kd.R_alloc | apply Kd.R_drewN | apply Kd.R_drew)); exact HO350.out) hb); have n5_ := Aside0.mk (Kd.R_lower (Kd.R_newB (Kd.R_newB (Kd.R_newB (Kd.R_newB (Kd.R_new' (Kd.R_new' ho178 (Kd.R_lt (by (with_reducible repeat (first | apply Kd.R_alloc | apply Kd.R_drewN | apply Kd.R_drew)); exact HO307.out))) (Kd.R_lt (by (with_reducible repeat (first | apply Kd.R_alloc | apply Kd.R_drewN | apply Kd.R_drew)); exact HO346.out))) (g := gb318) (o := .cells #[.string t312, .int .i64 t313, .bool t314, .string t315] 39 (0, 0)) (by (with_reducible repeat (first | refine blk_drewN ?_ _ | refine blk_drew ?_ | refine blk_alloc ?_ _)); exact BK318.out)) (g := gb325) (o := .cells #[.string t319, .int .i64 t320, .bool t321, .string t322] 39 (0, 0)) (by (with_reducible repeat (first | refine blk_drewN ?_ _ | refine blk_drew ?_ | refine blk_alloc ?_ _)); exact BK325.out)) (g := gb332) (o := .cells #[.string t326, .int .i64 t327, .bool t328, .string t329] 39 (0, 0)) (by (with_reducible repeat (first | refine blk_drewN ?_ _ | refine blk_drew ?_ | refine blk_alloc ?_ _)); exact BK332.out)) (g := gb339) (o := .cells #[.string t333, .int .i64 t334, .bool t335, .string t336] 39 (0, 0)) (by (with_reducible repeat (first | refine blk_drewN ?_ _ | refine blk_drew ?_ | refine blk_alloc ?_ _)); exact BK339.out)) (below_size (by repeat (first | (with_reducible first | exact HB.out | apply below_alloc | apply pw_below_drewN | apply below_drew1 | refine below_set ?_ GE318.out | refine below_set ?_ GE325.out | refine below_set ?_ GE332.out | refine below_set ?_ GE339.out) | exact HB.out)))); have n6_ := Aside0.mk (blk_below (g := gb318) (o := .cells #[.string t312, .int .i64 t313, .bool t314, .string t315] 39 (0, 0)) (by (with_reducible repeat (first | refine blk_drewN ?_ _ | refine blk_drew ?_ | refine blk_alloc ?_ _)); exact BK318.out) hb); have n7_ := Aside0.mk (blk_below (g := gb325) (o := .cells #[.string t319, .int .i64 t320, .bool t321, .string t322] 39 (0, 0)) (by (with_reducible repeat (first | refine blk_drewN ?_ _ | refine blk_drew ?_ | refine blk_alloc ?_ _)); exact BK325.out) hb); have n8_ := Aside0.mk (blk_below (g := gb332) (o := .cells #[.string t326, .int .i64 t327, .bool t328, .string t329] 39 (0, 0)) (by (with_reducible repeat (first | refine blk_drewN ?_ _ | refine blk_drew ?_ | refine blk_alloc ?_ _)); exact BK332.out) hb); have n9_ := Aside0.mk (blk_below (g := gb339) (o := .cells #[.string t333, .int .i64 t334, .bool t335, .string t336] 39 (0, 0)) (by (with_reducible repeat (first | refine blk_drewN ?_ _ | refine blk_drew ?_ | refine blk_alloc ?_ _)); exact BK339.out) hb); have n10_ := Aside0.mk (below_step (by repeat (first | (with_reducible first | exact HB.out | apply below_alloc | apply pw_below_drewN | apply below_drew1 | refine below_set ?_ GE318.out | refine below_set ?_ GE325.out | refine below_set ?_ GE332.out | refine below_set ?_ GE339.out) | exact HB.out)) hb); clear HO307; clear HO311; clear HO343; clear HO346; clear HO350; clear BK318; clear BK325; clear BK332; clear BK339; clear HB; have HO307 := n0_; have HO311 := n1_; have HO343 := n2_; have HO346 := n3_; have HO350 := n4_; have HO353 := n5_; have BK318 := n6_; have BK325 := n7_; have BK332 := n8_; have BK339 := n9_; have HB := n10_; clear n0_ n1_ n2_ n3_ n4_ n5_ n6_ n7_ n8_ n9_ n10_; clear hb ho178; obtain ⟨Ao179, co179, eo179⟩ := Kd.R_slice HO353.out; subst eo179) | ((with_reducible refine gate_callee (f := 9) rfl ?_); refine goesL_ (some 73) rfl rfl Try.func9 (by kernel_rfl) rfl #[.slice Ao179 y351.length co179] rfl (by (try simp only [List.map_toArray, List.map_cons, List.map_nil]); first | done | rfl | (simp only [List.length_drop, List.length_take]; rfl)) ?_; (with_reducible refine (block_Write.calls k _ _ y351 t354 t355 _ ?side1 ?side2 A9.out).mono ?_); (case side1 => repeat (first | exact (Kd.R_reads' HO353.out).2.2 | (with_reducible refine Kd.C_alloc ?_ _) | (with_reducible refine Kd.C_drewN ?_ _) | (with_reducible refine Kd.C_drew ?_))); (case side2 => exact (Kd.R_reads' HO353.out).2.1); rintro e w180 ⟨v356, rfl, ho0, hb⟩; refine ⟨_, rfl, ?_⟩; have n0_ := Aside0.mk (Kd.R_below (by (with_reducible repeat (first | apply Kd.R_alloc | apply Kd.R_drewN | apply Kd.R_drew)); exact HO307.out) hb); have n1_ := Aside0.mk (Kd.R_elder' (by (with_reducible repeat (first | apply Kd.R_alloc | apply Kd.R_drewN | apply Kd.R_drew)); exact HO311.out) (Kd.R_base ho0) hb); have n2_ := Aside0.mk (Kd.R_elder' (by (with_reducible repeat (first | apply Kd.R_alloc | apply Kd.R_drewN | apply Kd.R_drew)); exact HO343.out) (Kd.R_base ho0) hb); have n3_ := Aside0.mk (Kd.R_below (by (with_reducible repeat (first | apply Kd.R_alloc | apply Kd.R_drewN | apply Kd.R_drew)); exact HO346.out) hb); have n4_ := Aside0.mk (Kd.R_elder' (by (with_reducible repeat (first | apply Kd.R_alloc | apply Kd.R_drewN | apply Kd.R_drew)); exact HO350.out) (Kd.R_base ho0) hb); have n5_ := Aside0.mk (Kd.R_below (by (with_reducible repeat (first | apply Kd.R_alloc | apply Kd.R_drewN | apply Kd.R_drew)); exact HO353.out) hb); have n6_ := Aside0.mk (Kd.R_lower (Kd.R_new' (Kd.R_new' (Kd.R_new' ho0 (Kd.R_lt (by (with_reducible repeat (first | apply Kd.R_alloc | apply Kd.R_drewN | apply Kd.R_drew)); exact HO311.out))) (Kd.R_lt (by (with_reducible repeat (first | apply Kd.R_alloc | apply Kd.R_drewN | apply Kd.R_drew)); exact HO343.out))) (Kd.R_lt (by (with_reducible repeat (first | apply Kd.R_alloc | apply Kd.R_drewN | apply Kd.R_drew)); exact HO350.out))) (below_size (by repeat (first | (with_reducible first | exact HB.out | apply below_alloc | apply pw_below_drewN | apply below_drew1 | refine below_set ?_ GE318.out | refine below_set ?_ GE325.out | refine below_set ?_ GE332.out | refine below_set ?_ GE339.out) | exact HB.out)))); have n7_ := Aside0.mk (blk_below (g := gb318) (o := .cells #[.string t312, .int .i64 t313, .bool t314, .string t315] 39 (0, 0)) (by (with_reducible repeat (first | refine blk_drewN ?_ _ | refine blk_drew ?_ | refine blk_alloc ?_ _)); exact BK318.out) hb); have n8_ := Aside0.mk (blk_below (g := gb325) (o := .cells #[.string t319, .int .i64 t320, .bool t321, .string t322] 39 (0, 0)) (by (with_reducible repeat (first | refine blk_drewN ?_ _ | refine blk_drew ?_ | refine blk_alloc ?_ _)); exact BK325.out) hb); have n9_ := Aside0.mk (blk_below (g := gb332) (o := .cells #[.string t326, .int .i64 t327, .bool t328, .string t329] 39 (0, 0)) (by (with_reducible repeat (first | refine blk_drewN ?_ _ | refine blk_drew ?_ | refine blk_alloc ?_ _)); exact BK332.out) hb); have n10_ := Aside0.mk (blk_below (g := gb339) (o := .cells #[.string t333, .int .i64 t334, .bool t335, .string t336] 39 (0, 0)) (by (with_reducible repeat (first | refine blk_drewN ?_ _ | refine blk_drew ?_ | refine blk_alloc ?_ _)); exact BK339.out) hb); have n11_ := Aside0.mk (below_step (by repeat (first | (with_reducible first | exact HB.out | apply below_alloc | apply pw_below_drewN | apply below_drew1 | refine below_set ?_ GE318.out | refine below_set ?_ GE325.out | refine below_set ?_ GE332.out | refine below_set ?_ GE339.out) | exact HB.out)) hb); clear HO307; clear HO311; clear HO343; clear HO346; clear HO350; clear HO353; clear BK318; clear BK325; clear BK332; clear BK339; clear HB; have HO307 := n0_; have HO311 := n1_; have HO343 := n2_; have HO346 := n3_; have HO350 := n4_; have HO353 := n5_; have HO357 := n6_; have BK318 := n7_; have BK325 := n8_; have BK332 := n9_; have BK339 := n10_; have HB := n11_; clear n0_ n1_ n2_ n3_ n4_ n5_ n6_ n7_ n8_ n9_ n10_ n11_; (try clear hb); (try clear hb2); (try clear hk); (try clear hi); (try clear ho0)) | ((with_reducible refine gate_dst (N := 77) rfl ?_); refine Kd.R_lit (Kd.int .u8) _ 5 ?hg (N := 77) ?hd (xs := ([1, 0, 0, 1, 0, 0] : List Int)) (inner := [.int .u8 1, .int .u8 0, .int .u8 0, .int .u8 1, .int .u8 0, .int .u8 0]) (ok := fun _ => True) (okp := fun _ => True) ?hr ?hp (fun _ hk => hk) trivial (Below.refl _ _) (Nat.le_refl _) (by simp) ?_; (case hd => rfl); (case hg => rfl); (case hr => first | (go_simp; done) | (go_simp; rfl)); (case hp => exact (Reps.one (show Kd.M (Kd.int .u8) _ _ _ 1 [.int .u8 1] from rfl) (Reps.one (show Kd.M (Kd.int .u8) _ _ _ 0 [.int .u8 0] from rfl) (Reps.one (show Kd.M (Kd.int .u8) _ _ _ 0 [.int .u8 0] from rfl) (Reps.one (show Kd.M (Kd.int .u8) _ _ _ 1 [.int .u8 1] from rfl) (Reps.one (show Kd.M (Kd.int .u8) _ _ _ 0 [.int .u8 0] from rfl) (Reps.one (show Kd.M (Kd.int .u8) _ _ _ 0 [.int .u8 0] from rfl) (Reps.none _ _)))))))); intro v359 w181 ho182 hb hg_ hnew_; clear hg_ hnew_; (first | rw [← Ny358.out] at ho182 | (simp only [Int.reduceToNat] at ho182; rw [← Ny358.out] at ho182)); have n0_ := Aside0.mk (Kd.R_below (by (with_reducible repeat (first | apply Kd.R_alloc | apply Kd.R_drewN | apply Kd.R_drew)); exact HO307.out) hb); have n1_ := Aside0.mk (Kd.R_elder' (by (with_reducible repeat (first | apply Kd.R_alloc | apply Kd.R_drewN | apply Kd.R_drew)); exact HO311.out) (Kd.R_base ho182) hb); have n2_ := Aside0.mk (Kd.R_elder' (by (with_reducible repeat (first | apply Kd.R_alloc | apply Kd.R_drewN | apply Kd.R_drew)); exact HO343.out) (Kd.R_base ho182) hb); have n3_ := Aside0.mk (Kd.R_below (by (with_reducible repeat (first | apply Kd.R_alloc | apply Kd.R_drewN | apply Kd.R_drew)); exact HO346.out) hb); have n4_ := Aside0.mk (Kd.R_elder' (by (with_reducible repeat (first | apply Kd.R_alloc | apply Kd.R_drewN | apply Kd.R_drew)); exact HO350.out) (Kd.R_base ho182) hb); have n5_ := Aside0.mk (Kd.R_below (by (with_reducible repeat (first | apply Kd.R_alloc | apply Kd.R_drewN | apply Kd.R_drew)); exact HO353.out) hb); have n6_ := Aside0.mk (Kd.R_elder' (by (with_reducible repeat (first | apply Kd.R_alloc | apply Kd.R_drewN | apply Kd.R_drew)); exact HO357.out) (Kd.R_base ho182) hb); have n7_ := Aside0.mk (Kd.R_lower (Kd.R_new' (Kd.R_new' (Kd.R_new' (Kd.R_new' ho182 (Kd.R_lt (by (with_reducible repeat (first | apply Kd.R_alloc | apply Kd.R_drewN | apply Kd.R_drew)); exact HO311.out))) (Kd.R_lt (by (with_reducible repeat (first | apply Kd.R_alloc | apply Kd.R_drewN | apply Kd.R_drew)); exact HO343.out))) (Kd.R_lt (by (with_reducible repeat (first | apply Kd.R_alloc | apply Kd.R_drewN | apply Kd.R_drew)); exact HO350.out))) (Kd.R_lt (by (with_reducible repeat (first | apply Kd.R_alloc | apply Kd.R_drewN | apply Kd.R_drew)); exact HO357.out))) (below_size (by repeat (first | (with_reducible first | exact HB.out | apply below_alloc | apply pw_below_drewN | apply below_drew1 | refine below_set ?_ GE318.out | refine below_set ?_ GE325.out | refine below_set ?_ GE332.out | refine below_set ?_ GE339.out) | exact HB.out)))); have n8_ := Aside0.mk (blk_below (g := gb318) (o := .cells #[.string t312, .int .i64 t313, .bool t314, .string t315] 39 (0, 0)) (by (with_reducible repeat (first | refine blk_drewN ?_ _ | refine blk_drew ?_ | refine blk_alloc ?_ _)); exact BK318.out) hb); have n9_ := Aside0.mk (blk_below (g := gb325) (o := .cells #[.string t319, .int .i64 t320, .bool t321, .string t322] 39 (0, 0)) (by (with_reducible repeat (first | refine blk_drewN ?_ _ | refine blk_drew ?_ | refine blk_alloc ?_ _)); exact BK325.out) hb); have n10_ := Aside0.mk (blk_below (g := gb332) (o := .cells #[.string t326, .int .i64 t327, .bool t328, .string t329] 39 (0, 0)) (by (with_reducible repeat (first | refine blk_drewN ?_ _ | refine blk_drew ?_ | refine blk_alloc ?_ _)); exact BK332.out) hb); have n11_ := Aside0.mk (blk_below (g := gb339) (o := .cells #[.string t333, .int .i64 t334, .bool t335, .string t336] 39 (0, 0)) (by (with_reducible repeat (first | refine blk_drewN ?_ _ | refine blk_drew ?_ | refine blk_alloc ?_ _)); exact BK339.out) hb); have n12_ := Aside0.mk (below_step (by repeat (first | (with_reducible first | exact HB.out | apply below_alloc | apply pw_below_drewN | apply below_drew1 | refine below_set ?_ GE318.out | refine below_set ?_ GE325.out | refine below_set ?_ GE332.out | refine below_set ?_ GE339.out) | exact HB.out)) hb); clear HO307; clear HO311; clear HO343; clear HO346; clear HO350; clear HO353; clear HO357; clear BK318; clear BK325; clear BK332; clear BK339; clear HB; have HO307 := n0_; have HO311 := n1_; have HO343 := n2_; have HO346 := n3_; have HO350 := n4_; have HO353 := n5_; have HO357 := n6_; have HO360 := n7_; have BK318 := n8_; have BK325 := n9_; have BK332 := n10_; have BK339 := n11_; have HB := n12_; clear n0_ n1_ n2_ n3_ n4_ n5_ n6_ n7_ n8_ n9_ n10_ n11_ n12_; clear hb ho182; obtain ⟨Ao183, co183, eo183⟩ := Kd.R_slice HO360.out; subst eo183) | ((with_reducible refine gate_callee (f := 11) rfl ?_); refine goesL_ (some 78) rfl rfl Try.func11 (by kernel_rfl) rfl #[.slice Ao183 y358.length co183] rfl (by (try simp only [List.map_toArray, List.map_cons, List.map_nil]); first | done | rfl | (simp only [List.length_drop, List.length_take]; rfl)) ?_; (with_reducible refine (block_Read.calls _ _ y358 t361 t362 _ ?side1 ?side2 A10.out).mono ?_); (case side1 => repeat (first | exact (Kd.R_reads' HO360.out).2.2 | (with_reducible refine Kd.C_alloc ?_ _) | (with_reducible refine Kd.C_drewN ?_ _) | (with_reducible refine Kd.C_drew ?_))); (case side2 => exact (Kd.R_reads' HO360.out).2.1); rintro e w184 ⟨v363, rfl, ho0, hb⟩; refine ⟨_, rfl, ?_⟩; have n0_ := Aside0.mk (Kd.R_elder' (by (with_reducible repeat (first | apply Kd.R_alloc | apply Kd.R_drewN | apply Kd.R_drew)); exact HO307.out) (Kd.R_base ho0) hb); have n1_ := Aside0.mk (Kd.R_below (by (with_reducible repeat (first | apply Kd.R_alloc | apply Kd.R_drewN | apply Kd.R_drew)); exact HO311.out) hb); have n2_ := Aside0.mk (Kd.R_below (by (with_reducible repeat (first | apply Kd.R_alloc | apply Kd.R_drewN | apply Kd.R_drew)); exact HO343.out) hb); have n3_ := Aside0.mk (Kd.R_elder' (by (with_reducible repeat (first | apply Kd.R_alloc | apply Kd.R_drewN | apply Kd.R_drew)); exact HO346.out) (Kd.R_base ho0) hb); have n4_ := Aside0.mk (Kd.R_below (by (with_reducible repeat (first | apply Kd.R_alloc | apply Kd.R_drewN | apply Kd.R_drew)); exact HO350.out) hb); have n5_ := Aside0.mk (Kd.R_elder' (by (with_reducible repeat (first | apply Kd.R_alloc | apply Kd.R_drewN | apply Kd.R_drew)); exact HO353.out) (Kd.R_base ho0) hb); have n6_ := Aside0.mk (Kd.R_below (by (with_reducible repeat (first | apply Kd.R_alloc | apply Kd.R_drewN | apply Kd.R_drew)); exact HO357.out) hb); have n7_ := Aside0.mk (Kd.R_below (by (with_reducible repeat (first | apply Kd.R_alloc | apply Kd.R_drewN | apply Kd.R_drew)); exact HO360.out) hb); have n8_ := Aside0.mk (Kd.R_lower (Kd.R_newB (Kd.R_newB (Kd.R_newB (Kd.R_newB (Kd.R_new' (Kd.R_new' (Kd.R_new' ho0 (Kd.R_lt (by (with_reducible repeat (first | apply Kd.R_alloc | apply Kd.R_drewN | apply Kd.R_drew)); exact HO307.out))) (Kd.R_lt (by (with_reducible repeat (first | apply Kd.R_alloc | apply Kd.R_drewN | apply Kd.R_drew)); exact HO346.out))) (Kd.R_lt (by (with_reducible repeat (first | apply Kd.R_alloc | apply Kd.R_drewN | apply Kd.R_drew)); exact HO353.out))) (g := gb318) (o := .cells #[.string t312, .int .i64 t313, .bool t314, .string t315] 39 (0, 0)) (by (with_reducible repeat (first | refine blk_drewN ?_ _ | refine blk_drew ?_ | refine blk_alloc ?_ _)); exact BK318.out)) (g := gb325) (o := .cells #[.string t319, .int .i64 t320, .bool t321, .string t322] 39 (0, 0)) (by (with_reducible repeat (first | refine blk_drewN ?_ _ | refine blk_drew ?_ | refine blk_alloc ?_ _)); exact BK325.out)) (g := gb332) (o := .cells #[.string t326, .int .i64 t327, .bool t328, .string t329] 39 (0, 0)) (by (with_reducible repeat (first | refine blk_drewN ?_ _ | refine blk_drew ?_ | refine blk_alloc ?_ _)); exact BK332.out)) (g := gb339) (o := .cells #[.string t333, .int .i64 t334, .bool t335, .string t336] 39 (0, 0)) (by (with_reducible repeat (first | refine blk_drewN ?_ _ | refine blk_drew ?_ | refine blk_alloc ?_ _)); exact BK339.out)) (below_size (by repeat (first | (with_reducible first | exact HB.out | apply below_alloc | apply pw_below_drewN | apply below_drew1 | refine below_set ?_ GE318.out | refine below_set ?_ GE325.out | refine below_set ?_ GE332.out | refine below_set ?_ GE339.out) | exact HB.out)))); have n9_ := Aside0.mk (blk_below (g := gb318) (o := .cells #[.string t312, .int .i64 t313, .bool t314, .string t315] 39 (0, 0)) (by (with_reducible repeat (first | refine blk_drewN ?_ _ | refine blk_drew ?_ | refine blk_alloc ?_ _)); exact BK318.out) hb); have n10_ := Aside0.mk (blk_below (g := gb325) (o := .cells #[.string t319, .int .i64 t320, .bool t321, .string t322] 39 (0, 0)) (by (with_reducible repeat (first | refine blk_drewN ?_ _ | refine blk_drew ?_ | refine blk_alloc ?_ _)); exact BK325.out) hb); have n11_ := Aside0.mk (blk_below (g := gb332) (o := .cells #[.string t326, .int .i64 t327, .bool t328, .string t329] 39 (0, 0)) (by (with_reducible repeat (first | refine blk_drewN ?_ _ | refine blk_drew ?_ | refine blk_alloc ?_ _)); exact BK332.out) hb); have n12_ := Aside0.mk (blk_below (g := gb339) (o := .cells #[.string t333, .int .i64 t334, .bool t335, .string t336] 39 (0, 0)) (by (with_reducible repeat (first | refine blk_drewN ?_ _ | refine blk_drew ?_ | refine blk_alloc ?_ _)); exact BK339.out) hb); have n13_ := Aside0.mk (below_step (by repeat (first | (with_reducible first | exact HB.out | apply below_alloc | apply pw_below_drewN | apply below_drew1 | refine below_set ?_ GE318.out | refine below_set ?_ GE325.out | refine below_set ?_ GE332.out | refine below_set ?_ GE339.out) | exact HB.out)) hb); clear HO307; clear HO311; clear HO343; clear HO346; clear HO350; clear HO353; clear HO357; clear HO360; clear BK318; clear BK325; clear BK332; clear BK339; clear HB; have HO307 := n0_; have HO311 := n1_; have HO343 := n2_; have HO346 := n3_; have HO350 := n4_; have HO353 := n5_; have HO357 := n6_; have HO360 := n7_; have HO364 := n8_; have BK318 := n9_; have BK325 := n10_; have BK332 := n11_; have BK339 := n12_; have HB := n13_; clear n0_ n1_ n2_ n3_ n4_ n5_ n6_ n7_ n8_ n9_ n10_ n11_ n12_ n13_; (try clear hb); (try clear hb2); (try clear hk); (try clear hi); (try clear ho0)) | ((with_reducible refine gate_callee (f := 16) rfl ?_); refine goesL_ (some 83) rfl rfl Try.func16 (by kernel_rfl) rfl #[.slice Ao153 t308.length co153, .string (⟨#[]⟩ : ByteArray), .int .i64 1] rfl (by (try simp only [List.map_toArray, List.map_cons, List.map_nil]); first | done | rfl | (simp only [List.length_drop, List.length_take]; rfl)) ?_; (with_reducible refine (block_Find.calls k _ _ t308 (⟨#[]⟩ : ByteArray) 1 t365 t366 t367 t368 t369 t370 _ ?side1 ?side2 A11.out).mono ?_); (case side1 => repeat (first | exact (Kd.R_reads' HO311.out).2.2 | (with_reducible refine Kd.C_alloc ?_ _) | (with_reducible refine Kd.C_drewN ?_ _) | (with_reducible refine Kd.C_drew ?_))); (case side2 => exact (Kd.R_reads' HO311.out).2.1); rintro e w185 ⟨rfl, hb⟩; refine ⟨_, rfl, ?_⟩; have n0_ := Aside0.mk (Kd.R_below (by (with_reducible repeat (first | apply Kd.R_alloc | apply Kd.R_drewN | apply Kd.R_drew)); exact HO307.out) hb); have n1_ := Aside0.mk (Kd.R_below (by (with_reducible repeat (first | apply Kd.R_alloc | apply Kd.R_drewN | apply Kd.R_drew)); exact HO311.out) hb); have n2_ := Aside0.mk (Kd.R_below (by (with_reducible repeat (first | apply Kd.R_alloc | apply Kd.R_drewN | apply Kd.R_drew)); exact HO343.out) hb); have n3_ := Aside0.mk (Kd.R_below (by (with_reducible repeat (first | apply Kd.R_alloc | apply Kd.R_drewN | apply Kd.R_drew)); exact HO346.out) hb); have n4_ := Aside0.mk (Kd.R_below (by (with_reducible repeat (first | apply Kd.R_alloc | apply Kd.R_drewN | apply Kd.R_drew)); exact HO350.out) hb); have n5_ := Aside0.mk (Kd.R_below (by (with_reducible repeat (first | apply Kd.R_alloc | apply Kd.R_drewN | apply Kd.R_drew)); exact HO353.out) hb); have n6_ := Aside0.mk (Kd.R_below (by (with_reducible repeat (first | apply Kd.R_alloc | apply Kd.R_drewN | apply Kd.R_drew)); exact HO357.out) hb); have n7_ := Aside0.mk (Kd.R_below (by (with_reducible repeat (first | apply Kd.R_alloc | apply Kd.R_drewN | apply Kd.R_drew)); exact HO360.out) hb); have n8_ := Aside0.mk (Kd.R_below (by (with_reducible repeat (first | apply Kd.R_alloc | apply Kd.R_drewN | apply Kd.R_drew)); exact HO364.out) hb); have n9_ := Aside0.mk (blk_below (g := gb318) (o := .cells #[.string t312, .int .i64 t313, .bool t314, .string t315] 39 (0, 0)) (by (with_reducible repeat (first | refine blk_drewN ?_ _ | refine blk_drew ?_ | refine blk_alloc ?_ _)); exact BK318.out) hb); have n10_ := Aside0.mk (blk_below (g := gb325) (o := .cells #[.string t319, .int .i64 t320, .bool t321, .string t322] 39 (0, 0)) (by (with_reducible repeat (first | refine blk_drewN ?_ _ | refine blk_drew ?_ | refine blk_alloc ?_ _)); exact BK325.out) hb); have n11_ := Aside0.mk (blk_below (g := gb332) (o := .cells #[.string t326, .int .i64 t327, .bool t328, .string t329] 39 (0, 0)) (by (with_reducible repeat (first | refine blk_drewN ?_ _ | refine blk_drew ?_ | refine blk_alloc ?_ _)); exact BK332.out) hb); have n12_ := Aside0.mk (blk_below (g := gb339) (o := .cells #[.string t333, .int .i64 t334, .bool t335, .string t336] 39 (0, 0)) (by (with_reducible repeat (first | refine blk_drewN ?_ _ | refine blk_drew ?_ | refine blk_alloc ?_ _)); exact BK339.out) hb); have n13_ := Aside0.mk (below_step (by repeat (first | (with_reducible first | exact HB.out | apply below_alloc | apply pw_below_drewN | apply below_drew1 | refine below_set ?_ GE318.out | refine below_set ?_ GE325.out | refine below_set ?_ GE332.out | refine below_set ?_ GE339.out) | exact HB.out)) hb); clear HO307; clear HO311; clear HO343; clear HO346; clear HO350; clear HO353; clear HO357; clear HO360; clear HO364; clear BK318; clear BK325; clear BK332; clear BK339; clear HB; have HO307 := n0_; have HO311 := n1_; have HO343 := n2_; have HO346 := n3_; have HO350 := n4_; have HO353 := n5_; have HO357 := n6_; have HO360 := n7_; have HO364 := n8_; have BK318 := n9_; have BK325 := n10_; have BK332 := n11_; have BK339 := n12_; have HB := n13_; clear n0_ n1_ n2_ n3_ n4_ n5_ n6_ n7_ n8_ n9_ n10_ n11_ n12_ n13_; (try clear hb); (try clear hb2); (try clear hk); (try clear hi)) | ((with_reducible refine gate_dst (N := 23) rfl ?_); refine box_event ?hg (N := 23) ?hd (cs := #[.string (⟨#[]⟩ : ByteArray), .int .i64 0, .bool false, .string (⟨#[]⟩ : ByteArray)]) (t := 39) ?hr ?_; (case hd => rfl); (case hg => rfl); (case hr => first | (go_simp; done) | (go_simp; rfl)); intro gb371 hg w186 hbox hb; have n0_ := Aside0.mk (Kd.R_below (Kd.R_elderB (by (with_reducible repeat (first | apply Kd.R_alloc | apply Kd.R_drewN | apply Kd.R_drew)); exact HO307.out) gb371 (Nat.le_of_eq hg.symm)) hb); have n1_ := Aside0.mk (Kd.R_below (by (with_reducible repeat (first | apply Kd.R_alloc | apply Kd.R_drewN | apply Kd.R_drew)); exact HO311.out) hb); have n2_ := Aside0.mk (Kd.R_below (by (with_reducible repeat (first | apply Kd.R_alloc | apply Kd.R_drewN | apply Kd.R_drew)); exact HO343.out) hb); have n3_ := Aside0.mk (Kd.R_below (Kd.R_elderB (by (with_reducible repeat (first | apply Kd.R_alloc | apply Kd.R_drewN | apply Kd.R_drew)); exact HO346.out) gb371 (Nat.le_of_eq hg.symm)) hb); have n4_ := Aside0.mk (Kd.R_below (by (with_reducible repeat (first | apply Kd.R_alloc | apply Kd.R_drewN | apply Kd.R_drew)); exact HO350.out) hb); have n5_ := Aside0.mk (Kd.R_below (Kd.R_elderB (by (with_reducible repeat (first | apply Kd.R_alloc | apply Kd.R_drewN | apply Kd.R_drew)); exact HO353.out) gb371 (Nat.le_of_eq hg.symm)) hb); have n6_ := Aside0.mk (Kd.R_below (by (with_reducible repeat (first | apply Kd.R_alloc | apply Kd.R_drewN | apply Kd.R_drew)); exact HO357.out) hb); have n7_ := Aside0.mk (Kd.R_below (by (with_reducible repeat (first | apply Kd.R_alloc | apply Kd.R_drewN | apply Kd.R_drew)); exact HO360.out) hb); have n8_ := Aside0.mk (Kd.R_below (Kd.R_elderB (by (with_reducible repeat (first | apply Kd.R_alloc | apply Kd.R_drewN | apply Kd.R_drew)); exact HO364.out) gb371 (Nat.le_of_eq hg.symm)) hb); have n9_ := Aside0.mk (blk_below (g := gb318) (o := .cells #[.string t312, .int .i64 t313, .bool t314, .string t315] 39 (0, 0)) (by (with_reducible repeat (first | refine blk_drewN ?_ _ | refine blk_drew ?_ | refine blk_alloc ?_ _)); exact BK318.out) hb); have n10_ := Aside0.mk (blk_below (g := gb325) (o := .cells #[.string t319, .int .i64 t320, .bool t321, .string t322] 39 (0, 0)) (by (with_reducible repeat (first | refine blk_drewN ?_ _ | refine blk_drew ?_ | refine blk_alloc ?_ _)); exact BK325.out) hb); have n11_ := Aside0.mk (blk_below (g := gb332) (o := .cells #[.string t326, .int .i64 t327, .bool t328, .string t329] 39 (0, 0)) (by (with_reducible repeat (first | refine blk_drewN ?_ _ | refine blk_drew ?_ | refine blk_alloc ?_ _)); exact BK332.out) hb); have n12_ := Aside0.mk (blk_below (g := gb339) (o := .cells #[.string t333, .int .i64 t334, .bool t335, .string t336] 39 (0, 0)) (by (with_reducible repeat (first | refine blk_drewN ?_ _ | refine blk_drew ?_ | refine blk_alloc ?_ _)); exact BK339.out) hb); have n13_ := Aside0.mk (below_step (by repeat (first | (with_reducible first | exact HB.out | apply below_alloc | apply pw_below_drewN | apply below_drew1 | refine below_set ?_ GE318.out | refine below_set ?_ GE325.out | refine below_set ?_ GE332.out | refine below_set ?_ GE339.out) | exact HB.out)) hb); have n14_ := Aside0.mk (hbox); have n15_ := Aside0.mk ((by rw [hg]; exact (below_size (by repeat (first | (with_reducible first | exact HB.out | apply below_alloc | apply pw_below_drewN | apply below_drew1 | refine below_set ?_ GE318.out | refine below_set ?_ GE325.out | refine below_set ?_ GE332.out | refine below_set ?_ GE339.out) | exact HB.out))) : w.heap.size ≤ gb371)); have n16_ := Aside0.mk ((by rw [hg]; exact (below_size (by repeat (first | (with_reducible first | exact HB.out | apply below_alloc | apply pw_below_drewN | apply below_drew1 | refine below_set ?_ GE318.out | refine below_set ?_ GE325.out | refine below_set ?_ GE332.out | refine below_set ?_ GE339.out) | exact HB.out))) : w.heap.size ≤ gb371)); have n17_ := Aside0.mk ((by rw [hg]; exact Nat.ne_of_lt (blk_lt (g := gb318) (o := .cells #[.string t312, .int .i64 t313, .bool t314, .string t315] 39 (0, 0)) (by (with_reducible repeat (first | refine blk_drewN ?_ _ | refine blk_drew ?_ | refine blk_alloc ?_ _)); exact BK318.out)) : gb318 ≠ gb371)); have n18_ := Aside0.mk ((by rw [hg]; exact Nat.ne_of_gt (blk_lt (g := gb318) (o := .cells #[.string t312, .int .i64 t313, .bool t314, .string t315] 39 (0, 0)) (by (with_reducible repeat (first | refine blk_drewN ?_ _ | refine blk_drew ?_ | refine blk_alloc ?_ _)); exact BK318.out)) : gb371 ≠ gb318)); have n19_ := Aside0.mk ((by rw [hg]; exact Nat.ne_of_lt (blk_lt (g := gb325) (o := .cells #[.string t319, .int .i64 t320, .bool t321, .string t322] 39 (0, 0)) (by (with_reducible repeat (first | refine blk_drewN ?_ _ | refine blk_drew ?_ | refine blk_alloc ?_ _)); exact BK325.out)) : gb325 ≠ gb371)); have n20_ := Aside0.mk ((by rw [hg]; exact Nat.ne_of_gt (blk_lt (g := gb325) (o := .cells #[.string t319, .int .i64 t320, .bool t321, .string t322] 39 (0, 0)) (by (with_reducible repeat (first | refine blk_drewN ?_ _ | refine blk_drew ?_ | refine blk_alloc ?_ _)); exact BK325.out)) : gb371 ≠ gb325)); have n21_ := Aside0.mk ((by rw [hg]; exact Nat.ne_of_lt (blk_lt (g := gb332) (o := .cells #[.string t326, .int .i64 t327, .bool t328, .string t329] 39 (0, 0)) (by (with_reducible repeat (first | refine blk_drewN ?_ _ | refine blk_drew ?_ | refine blk_alloc ?_ _)); exact BK332.out)) : gb332 ≠ gb371)); have n22_ := Aside0.mk ((by rw [hg]; exact Nat.ne_of_gt (blk_lt (g := gb332) (o := .cells #[.string t326, .int .i64 t327, .bool t328, .string t329] 39 (0, 0)) (by (with_reducible repeat (first | refine blk_drewN ?_ _ | refine blk_drew ?_ | refine blk_alloc ?_ _)); exact BK332.out)) : gb371 ≠ gb332)); have n23_ := Aside0.mk ((by rw [hg]; exact Nat.ne_of_lt (blk_lt (g := gb339) (o := .cells #[.string t333, .int .i64 t334, .bool t335, .string t336] 39 (0, 0)) (by (with_reducible repeat (first | refine blk_drewN ?_ _ | refine blk_drew ?_ | refine blk_alloc ?_ _)); exact BK339.out)) : gb339 ≠ gb371)); have n24_ := Aside0.mk ((by rw [hg]; exact Nat.ne_of_gt (blk_lt (g := gb339) (o := .cells #[.string t333, .int .i64 t334, .bool t335, .string t336] 39 (0, 0)) (by (with_reducible repeat (first | refine blk_drewN ?_ _ | refine blk_drew ?_ | refine blk_alloc ?_ _)); exact BK339.out)) : gb371 ≠ gb339)); clear HO307; clear HO311; clear HO343; clear HO346; clear HO350; clear HO353; clear HO357; clear HO360; clear HO364; clear BK318; clear BK325; clear BK332; clear BK339; clear HB; have HO307 := n0_; have HO311 := n1_; have HO343 := n2_; have HO346 := n3_; have HO350 := n4_; have HO353 := n5_; have HO357 := n6_; have HO360 := n7_; have HO364 := n8_; have BK318 := n9_; have BK325 := n10_; have BK332 := n11_; have BK339 := n12_; have HB := n13_; have BK371 := n14_; have GW371 := n15_; have GE371 := n16_; have NB318_371 := n17_; have NB371_318 := n18_; have NB325_371 := n19_; have NB371_325 := n20_; have NB332_371 := n21_; have NB371_332 := n22_; have NB339_371 := n23_; have NB371_339 := n24_; clear n0_ n1_ n2_ n3_ n4_ n5_ n6_ n7_ n8_ n9_ n10_ n11_ n12_ n13_ n14_ n15_ n16_ n17_ n18_ n19_ n20_ n21_ n22_ n23_ n24_; clear hb hbox hg; have hnb187 := NB371_318.out; have hnc187 := NB318_371.out; have hnb188 := NB371_325.out; have hnc188 := NB325_371.out; have hnb189 := NB371_332.out; have hnc189 := NB332_371.out; have hnb190 := NB371_339.out; have hnc190 := NB339_371.out; have hcz191_0 : w186.cell? ⟨gb371, 0, none⟩ = some (.string (⟨#[]⟩ : ByteArray)) := (blk_cell BK371.out 0).trans rfl; have hcz191_1 : w186.cell? ⟨gb371, 1, none⟩ = some (.int .i64 0) := (blk_cell BK371.out 1).trans rfl; have hcz191_2 : w186.cell? ⟨gb371, 2, none⟩ = some (.bool false) := (blk_cell BK371.out 2).trans rfl; have hcz191_3 : w186.cell? ⟨gb371, 3, none⟩ = some (.string (⟨#[]⟩ : ByteArray)) := (blk_cell BK371.out 3).trans rfl; have hfz191_0 := blk_frozen BK371.out 0; have hfz191_1 := blk_frozen BK371.out 1; have hfz191_2 := blk_frozen BK371.out 2; have hfz191_3 := blk_frozen BK371.out 3) | ((with_reducible refine gate_callee (f := 16) rfl ?_); refine goesL_ (some 89) rfl rfl Try.func16 (by kernel_rfl) rfl #[.slice Ao153 t308.length co153, .string (⟨#[97]⟩ : ByteArray), .int .i64 (-1)] rfl (by (try simp only [List.map_toArray, List.map_cons, List.map_nil]); first | done | rfl | (simp only [List.length_drop, List.length_take]; rfl)) ?_; (with_reducible refine (block_Find.calls k _ _ t308 (⟨#[97]⟩ : ByteArray) (-1) t372 t373 t374 t375 t376 t377 _ ?side1 ?side2 A12.out).mono ?_); (case side1 => refine (Kd.R_reads' (e := 5) (base := w.heap.size) (ok := fun k_ => ((((True ∧ some k_ ≠ (v342 : Value).ownBlock) ∧ some k_ ≠ (v349 : Value).ownBlock) ∧ some k_ ≠ (v356 : Value).ownBlock) ∧ some k_ ≠ (.slice Ao183 y358.length co183 : Value).ownBlock)) (n := t308.length) (c := co153) ?_).2.2; exact (by (with_reducible repeat (first | apply Kd.R_alloc | apply Kd.R_drewN | apply Kd.R_drew)); exact (Kd.R_mono (Kd.R_far (p := ⟨gb371, 3, none⟩) (Kd.R_far (p := ⟨gb371, 2, none⟩) (Kd.R_far (p := ⟨gb371, 1, none⟩) (Kd.R_far (p := ⟨gb371, 0, none⟩) (Kd.R_types HO311.out BK371.out (by decide)) (fun _ hk => hk.2) (.string t365)) (fun _ hk => hk.2) (.int .i64 t366)) (fun _ hk => hk.2) (.bool t367)) (fun _ hk => hk.2) (.string t368)) (fun _ h_ => h_.1)))); (case side2 => exact (Kd.R_reads' HO311.out).2.1); rintro e w192 ⟨rfl, hb⟩; refine ⟨_, rfl, ?_⟩; have n0_ := Aside0.mk (Kd.R_below (by (with_reducible repeat (first | apply Kd.R_alloc | apply Kd.R_drewN | apply Kd.R_drew)); exact (Kd.R_mono (Kd.R_far (p := ⟨gb371, 3, none⟩) (Kd.R_far (p := ⟨gb371, 2, none⟩) (Kd.R_far (p := ⟨gb371, 1, none⟩) (Kd.R_far (p := ⟨gb371, 0, none⟩) (Kd.R_mono HO307.out (fun k_ hk => (⟨hk, hk.2⟩ : _ ∧ k_ ≠ gb371))) (fun _ hk => hk.2) (.string t365)) (fun _ hk => hk.2) (.int .i64 t366)) (fun _ hk => hk.2) (.bool t367)) (fun _ hk => hk.2) (.string t368)) (fun _ h_ => h_.1))) hb); have n1_ := Aside0.mk (Kd.R_below (by (with_reducible repeat (first | apply Kd.R_alloc | apply Kd.R_drewN | apply Kd.R_drew)); exact (Kd.R_mono (Kd.R_far (p := ⟨gb371, 3, none⟩) (Kd.R_far (p := ⟨gb371, 2, none⟩) (Kd.R_far (p := ⟨gb371, 1, none⟩) (Kd.R_far (p := ⟨gb371, 0, none⟩) (Kd.R_types HO311.out BK371.out (by decide)) (fun _ hk => hk.2) (.string t365)) (fun _ hk => hk.2) (.int .i64 t366)) (fun _ hk => hk.2) (.bool t367)) (fun _ hk => hk.2) (.string t368)) (fun _ h_ => h_.1))) hb); have n2_ := Aside0.mk (Kd.R_below (by (with_reducible repeat (first | apply Kd.R_alloc | apply Kd.R_drewN | apply Kd.R_drew)); exact (Kd.R_mono (Kd.R_far (p := ⟨gb371, 3, none⟩) (Kd.R_far (p := ⟨gb371, 2, none⟩) (Kd.R_far (p := ⟨gb371, 1, none⟩) (Kd.R_far (p := ⟨gb371, 0, none⟩) (Kd.R_types HO343.out BK371.out (by decide)) (fun _ hk => hk.2) (.string t365)) (fun _ hk => hk.2) (.int .i64 t366)) (fun _ hk => hk.2) (.bool t367)) (fun _ hk => hk.2) (.string t368)) (fun _ h_ => h_.1))) hb); have n3_ := Aside0.mk (Kd.R_below (by (with_reducible repeat (first | apply Kd.R_alloc | apply Kd.R_drewN | apply Kd.R_drew)); exact (Kd.R_mono (Kd.R_far (p := ⟨gb371, 3, none⟩) (Kd.R_far (p := ⟨gb371, 2, none⟩) (Kd.R_far (p := ⟨gb371, 1, none⟩) (Kd.R_far (p := ⟨gb371, 0, none⟩) (Kd.R_mono HO346.out (fun k_ hk => (⟨hk, hk.2⟩ : _ ∧ k_ ≠ gb371))) (fun _ hk => hk.2) (.string t365)) (fun _ hk => hk.2) (.int .i64 t366)) (fun _ hk => hk.2) (.bool t367)) (fun _ hk => hk.2) (.string t368)) (fun _ h_ => h_.1))) hb); have n4_ := Aside0.mk (Kd.R_below (by (with_reducible repeat (first | apply Kd.R_alloc | apply Kd.R_drewN | apply Kd.R_drew)); exact (Kd.R_mono (Kd.R_far (p := ⟨gb371, 3, none⟩) (Kd.R_far (p := ⟨gb371, 2, none⟩) (Kd.R_far (p := ⟨gb371, 1, none⟩) (Kd.R_far (p := ⟨gb371, 0, none⟩) (Kd.R_types HO350.out BK371.out (by decide)) (fun _ hk => hk.2) (.string t365)) (fun _ hk => hk.2) (.int .i64 t366)) (fun _ hk => hk.2) (.bool t367)) (fun _ hk => hk.2) (.string t368)) (fun _ h_ => h_.1))) hb); have n5_ := Aside0.mk (Kd.R_below (by (with_reducible repeat (first | apply Kd.R_alloc | apply Kd.R_drewN | apply Kd.R_drew)); exact (Kd.R_mono (Kd.R_far (p := ⟨gb371, 3, none⟩) (Kd.R_far (p := ⟨gb371, 2, none⟩) (Kd.R_far (p := ⟨gb371, 1, none⟩) (Kd.R_far (p := ⟨gb371, 0, none⟩) (Kd.R_mono HO353.out (fun k_ hk => (⟨hk, hk.2⟩ : _ ∧ k_ ≠ gb371))) (fun _ hk => hk.2) (.string t365)) (fun _ hk => hk.2) (.int .i64 t366)) (fun _ hk => hk.2) (.bool t367)) (fun _ hk => hk.2) (.string t368)) (fun _ h_ => h_.1))) hb); have n6_ := Aside0.mk (Kd.R_below (by (with_reducible repeat (first | apply Kd.R_alloc | apply Kd.R_drewN | apply Kd.R_drew)); exact (Kd.R_mono (Kd.R_far (p := ⟨gb371, 3, none⟩) (Kd.R_far (p := ⟨gb371, 2, none⟩) (Kd.R_far (p := ⟨gb371, 1, none⟩) (Kd.R_far (p := ⟨gb371, 0, none⟩) (Kd.R_types HO357.out BK371.out (by decide)) (fun _ hk => hk.2) (.string t365)) (fun _ hk => hk.2) (.int .i64 t366)) (fun _ hk => hk.2) (.bool t367)) (fun _ hk => hk.2) (.string t368)) (fun _ h_ => h_.1))) hb); have n7_ := Aside0.mk (Kd.R_below (by (with_reducible repeat (first | apply Kd.R_alloc | apply Kd.R_drewN | apply Kd.R_drew)); exact (Kd.R_mono (Kd.R_far (p := ⟨gb371, 3, none⟩) (Kd.R_far (p := ⟨gb371, 2, none⟩) (Kd.R_far (p := ⟨gb371, 1, none⟩) (Kd.R_far (p := ⟨gb371, 0, none⟩) (Kd.R_types HO360.out BK371.out (by decide)) (fun _ hk => hk.2) (.string t365)) (fun _ hk => hk.2) (.int .i64 t366)) (fun _ hk => hk.2) (.bool t367)) (fun _ hk => hk.2) (.string t368)) (fun _ h_ => h_.1))) hb); have n8_ := Aside0.mk (Kd.R_below (by (with_reducible repeat (first | apply Kd.R_alloc | apply Kd.R_drewN | apply Kd.R_drew)); exact (Kd.R_mono (Kd.R_far (p := ⟨gb371, 3, none⟩) (Kd.R_far (p := ⟨gb371, 2, none⟩) (Kd.R_far (p := ⟨gb371, 1, none⟩) (Kd.R_far (p := ⟨gb371, 0, none⟩) (Kd.R_mono HO364.out (fun k_ hk => (⟨hk, hk.2⟩ : _ ∧ k_ ≠ gb371))) (fun _ hk => hk.2) (.string t365)) (fun _ hk => hk.2) (.int .i64 t366)) (fun _ hk => hk.2) (.bool t367)) (fun _ hk => hk.2) (.string t368)) (fun _ h_ => h_.1))) hb); have n9_ := Aside0.mk (blk_below (g := gb318) (o := .cells #[.string t312, .int .i64 t313, .bool t314, .string t315] 39 (0, 0)) (by (with_reducible repeat (first | refine blk_drewN ?_ _ | refine blk_drew ?_ | refine blk_alloc ?_ _)); refine blk_far ?_ NB318_371.out _; (with_reducible repeat (first | refine blk_drewN ?_ _ | refine blk_drew ?_ | refine blk_alloc ?_ _)); refine blk_far ?_ NB318_371.out _; (with_reducible repeat (first | refine blk_drewN ?_ _ | refine blk_drew ?_ | refine blk_alloc ?_ _)); refine blk_far ?_ NB318_371.out _; (with_reducible repeat (first | refine blk_drewN ?_ _ | refine blk_drew ?_ | refine blk_alloc ?_ _)); refine blk_far ?_ NB318_371.out _; (with_reducible repeat (first | refine blk_drewN ?_ _ | refine blk_drew ?_ | refine blk_alloc ?_ _)); exact BK318.out) hb); have n10_ := Aside0.mk (blk_below (g := gb325) (o := .cells #[.string t319, .int .i64 t320, .bool t321, .string t322] 39 (0, 0)) (by (with_reducible repeat (first | refine blk_drewN ?_ _ | refine blk_drew ?_ | refine blk_alloc ?_ _)); refine blk_far ?_ NB325_371.out _; (with_reducible repeat (first | refine blk_drewN ?_ _ | refine blk_drew ?_ | refine blk_alloc ?_ _)); refine blk_far ?_ NB325_371.out _; (with_reducible repeat (first | refine blk_drewN ?_ _ | refine blk_drew ?_ | refine blk_alloc ?_ _)); refine blk_far ?_ NB325_371.out _; (with_reducible repeat (first | refine blk_drewN ?_ _ | refine blk_drew ?_ | refine blk_alloc ?_ _)); refine blk_far ?_ NB325_371.out _; (with_reducible repeat (first | refine blk_drewN ?_ _ | refine blk_drew ?_ | refine blk_alloc ?_ _)); exact BK325.out) hb); have n11_ := Aside0.mk (blk_below (g := gb332) (o := .cells #[.string t326, .int .i64 t327, .bool t328, .string t329] 39 (0, 0)) (by (with_reducible repeat (first | refine blk_drewN ?_ _ | refine blk_drew ?_ | refine blk_alloc ?_ _)); refine blk_far ?_ NB332_371.out _; (with_reducible repeat (first | refine blk_drewN ?_ _ | refine blk_drew ?_ | refine blk_alloc ?_ _)); refine blk_far ?_ NB332_371.out _; (with_reducible repeat (first | refine blk_drewN ?_ _ | refine blk_drew ?_ | refine blk_alloc ?_ _)); refine blk_far ?_ NB332_371.out _; (with_reducible repeat (first | refine blk_drewN ?_ _ | refine blk_drew ?_ | refine blk_alloc ?_ _)); refine blk_far ?_ NB332_371.out _; (with_reducible repeat (first | refine blk_drewN ?_ _ | refine blk_drew ?_ | refine blk_alloc ?_ _)); exact BK332.out) hb); have n12_ := Aside0.mk (blk_below (g := gb339) (o := .cells #[.string t333, .int .i64 t334, .bool t335, .string t336] 39 (0, 0)) (by (with_reducible repeat (first | refine blk_drewN ?_ _ | refine blk_drew ?_ | refine blk_alloc ?_ _)); refine blk_far ?_ NB339_371.out _; (with_reducible repeat (first | refine blk_drewN ?_ _ | refine blk_drew ?_ | refine blk_alloc ?_ _)); refine blk_far ?_ NB339_371.out _; (with_reducible repeat (first | refine blk_drewN ?_ _ | refine blk_drew ?_ | refine blk_alloc ?_ _)); refine blk_far ?_ NB339_371.out _; (with_reducible repeat (first | refine blk_drewN ?_ _ | refine blk_drew ?_ | refine blk_alloc ?_ _)); refine blk_far ?_ NB339_371.out _; (with_reducible repeat (first | refine blk_drewN ?_ _ | refine blk_drew ?_ | refine blk_alloc ?_ _)); exact BK339.out) hb); have n13_ := Aside0.mk (blk_below (g := gb371) (o := .cells #[.string t365, .int .i64 t366, .bool t367, .string t368] 39 (0, 0)) (by (with_reducible repeat (first | refine blk_drewN ?_ _ | refine blk_drew ?_ | refine blk_alloc ?_ _)); refine blk_put (cs := #[.string t365, .int .i64 t366, .bool t367, .string (⟨#[]⟩ : ByteArray)]) ?_ 3 _ rfl; (with_reducible repeat (first | refine blk_drewN ?_ _ | refine blk_drew ?_ | refine blk_alloc ?_ _)); refine blk_put (cs := #[.string t365, .int .i64 t366, .bool false, .string (⟨#[]⟩ : ByteArray)]) ?_ 2 _ rfl; (with_reducible repeat (first | refine blk_drewN ?_ _ | refine blk_drew ?_ | refine blk_alloc ?_ _)); refine blk_put (cs := #[.string t365, .int .i64 0, .bool false, .string (⟨#[]⟩ : ByteArray)]) ?_ 1 _ rfl; (with_reducible repeat (first | refine blk_drewN ?_ _ | refine blk_drew ?_ | refine blk_alloc ?_ _)); refine blk_put (cs := #[.string (⟨#[]⟩ : ByteArray), .int .i64 0, .bool false, .string (⟨#[]⟩ : ByteArray)]) ?_ 0 _ rfl; (with_reducible repeat (first | refine blk_drewN ?_ _ | refine blk_drew ?_ | refine blk_alloc ?_ _)); exact BK371.out) hb); have n14_ := Aside0.mk (below_step (by repeat (first | (with_reducible first | exact HB.out | apply below_alloc | apply pw_below_drewN | apply below_drew1 | refine below_set ?_ GE318.out | refine below_set ?_ GE325.out | refine below_set ?_ GE332.out | refine below_set ?_ GE339.out | refine below_set ?_ GE371.out) | exact HB.out)) hb); clear HO307; clear HO311; clear HO343; clear HO346; clear HO350; clear HO353; clear HO357; clear HO360; clear HO364; clear BK318; clear BK325; clear BK332; clear BK339; clear BK371; clear HB; have HO307 := n0_; have HO311 := n1_; have HO343 := n2_; have HO346 := n3_; have HO350 := n4_; have HO353 := n5_; have HO357 := n6_; have HO360 := n7_; have HO364 := n8_; have BK318 := n9_; have BK325 := n10_; have BK332 := n11_; have BK339 := n12_; have BK371 := n13_; have HB := n14_; clear n0_ n1_ n2_ n3_ n4_ n5_ n6_ n7_ n8_ n9_ n10_ n11_ n12_ n13_ n14_; (try clear hb); (try clear hb2); (try clear hk); (try clear hi)) | ((with_reducible refine gate_dst (N := 26) rfl ?_); refine box_event ?hg (N := 26) ?hd (cs := #[.string (⟨#[]⟩ : ByteArray), .int .i64 0, .bool false, .string (⟨#[]⟩ : ByteArray)]) (t := 39) ?hr ?_; (case hd => rfl); (case hg => rfl); (case hr => first | (go_simp; done) | (go_simp; rfl)); intro gb378 hg w193 hbox hb; have n0_ := Aside0.mk (Kd.R_below (Kd.R_elderB (by (with_reducible repeat (first | apply Kd.R_alloc | apply Kd.R_drewN | apply Kd.R_drew)); exact HO307.out) gb378 (Nat.le_of_eq hg.symm)) hb); have n1_ := Aside0.mk (Kd.R_below (by (with_reducible repeat (first | apply Kd.R_alloc | apply Kd.R_drewN | apply Kd.R_drew)); exact HO311.out) hb); have n2_ := Aside0.mk (Kd.R_below (by (with_reducible repeat (first | apply Kd.R_alloc | apply Kd.R_drewN | apply Kd.R_drew)); exact HO343.out) hb); have n3_ := Aside0.mk (Kd.R_below (Kd.R_elderB (by (with_reducible repeat (first | apply Kd.R_alloc | apply Kd.R_drewN | apply Kd.R_drew)); exact HO346.out) gb378 (Nat.le_of_eq hg.symm)) hb); have n4_ := Aside0.mk (Kd.R_below (by (with_reducible repeat (first | apply Kd.R_alloc | apply Kd.R_drewN | apply Kd.R_drew)); exact HO350.out) hb); have n5_ := Aside0.mk (Kd.R_below (Kd.R_elderB (by (with_reducible repeat (first | apply Kd.R_alloc | apply Kd.R_drewN | apply Kd.R_drew)); exact HO353.out) gb378 (Nat.le_of_eq hg.symm)) hb); have n6_ := Aside0.mk (Kd.R_below (by (with_reducible repeat (first | apply Kd.R_alloc | apply Kd.R_drewN | apply Kd.R_drew)); exact HO357.out) hb); have n7_ := Aside0.mk (Kd.R_below (by (with_reducible repeat (first | apply Kd.R_alloc | apply Kd.R_drewN | apply Kd.R_drew)); exact HO360.out) hb); have n8_ := Aside0.mk (Kd.R_below (Kd.R_elderB (by (with_reducible repeat (first | apply Kd.R_alloc | apply Kd.R_drewN | apply Kd.R_drew)); exact HO364.out) gb378 (Nat.le_of_eq hg.symm)) hb); have n9_ := Aside0.mk (blk_below (g := gb318) (o := .cells #[.string t312, .int .i64 t313, .bool t314, .string t315] 39 (0, 0)) (by (with_reducible repeat (first | refine blk_drewN ?_ _ | refine blk_drew ?_ | refine blk_alloc ?_ _)); exact BK318.out) hb); have n10_ := Aside0.mk (blk_below (g := gb325) (o := .cells #[.string t319, .int .i64 t320, .bool t321, .string t322] 39 (0, 0)) (by (with_reducible repeat (first | refine blk_drewN ?_ _ | refine blk_drew ?_ | refine blk_alloc ?_ _)); exact BK325.out) hb); have n11_ := Aside0.mk (blk_below (g := gb332) (o := .cells #[.string t326, .int .i64 t327, .bool t328, .string t329] 39 (0, 0)) (by (with_reducible repeat (first | refine blk_drewN ?_ _ | refine blk_drew ?_ | refine blk_alloc ?_ _)); exact BK332.out) hb); have n12_ := Aside0.mk (blk_below (g := gb339) (o := .cells #[.string t333, .int .i64 t334, .bool t335, .string t336] 39 (0, 0)) (by (with_reducible repeat (first | refine blk_drewN ?_ _ | refine blk_drew ?_ | refine blk_alloc ?_ _)); exact BK339.out) hb); have n13_ := Aside0.mk (blk_below (g := gb371) (o := .cells #[.string t365, .int .i64 t366, .bool t367, .string t368] 39 (0, 0)) (by (with_reducible repeat (first | refine blk_drewN ?_ _ | refine blk_drew ?_ | refine blk_alloc ?_ _)); exact BK371.out) hb); have n14_ := Aside0.mk (below_step (by repeat (first | (with_reducible first | exact HB.out | apply below_alloc | apply pw_below_drewN | apply below_drew1 | refine below_set ?_ GE318.out | refine below_set ?_ GE325.out | refine below_set ?_ GE332.out | refine below_set ?_ GE339.out | refine below_set ?_ GE371.out) | exact HB.out)) hb); have n15_ := Aside0.mk (hbox); have n16_ := Aside0.mk ((by rw [hg]; exact (below_size (by repeat (first | (with_reducible first | exact HB.out | apply below_alloc | apply pw_below_drewN | apply below_drew1 | refine below_set ?_ GE318.out | refine below_set ?_ GE325.out | refine below_set ?_ GE332.out | refine below_set ?_ GE339.out | refine below_set ?_ GE371.out) | exact HB.out))) : w.heap.size ≤ gb378)); have n17_ := Aside0.mk ((by rw [hg]; exact (below_size (by repeat (first | (with_reducible first | exact HB.out | apply below_alloc | apply pw_below_drewN | apply below_drew1 | refine below_set ?_ GE318.out | refine below_set ?_ GE325.out | refine below_set ?_ GE332.out | refine below_set ?_ GE339.out | refine below_set ?_ GE371.out) | exact HB.out))) : w.heap.size ≤ gb378)); have n18_ := Aside0.mk ((by rw [hg]; exact Nat.ne_of_lt (blk_lt (g := gb318) (o := .cells #[.string t312, .int .i64 t313, .bool t314, .string t315] 39 (0, 0)) (by (with_reducible repeat (first | refine blk_drewN ?_ _ | refine blk_drew ?_ | refine blk_alloc ?_ _)); exact BK318.out)) : gb318 ≠ gb378)); have n19_ := Aside0.mk ((by rw [hg]; exact Nat.ne_of_gt (blk_lt (g := gb318) (o := .cells #[.string t312, .int .i64 t313, .bool t314, .string t315] 39 (0, 0)) (by (with_reducible repeat (first | refine blk_drewN ?_ _ | refine blk_drew ?_ | refine blk_alloc ?_ _)); exact BK318.out)) : gb378 ≠ gb318)); have n20_ := Aside0.mk ((by rw [hg]; exact Nat.ne_of_lt (blk_lt (g := gb325) (o := .cells #[.string t319, .int .i64 t320, .bool t321, .string t322] 39 (0, 0)) (by (with_reducible repeat (first | refine blk_drewN ?_ _ | refine blk_drew ?_ | refine blk_alloc ?_ _)); exact BK325.out)) : gb325 ≠ gb378)); have n21_ := Aside0.mk ((by rw [hg]; exact Nat.ne_of_gt (blk_lt (g := gb325) (o := .cells #[.string t319, .int .i64 t320, .bool t321, .string t322] 39 (0, 0)) (by (with_reducible repeat (first | refine blk_drewN ?_ _ | refine blk_drew ?_ | refine blk_alloc ?_ _)); exact BK325.out)) : gb378 ≠ gb325)); have n22_ := Aside0.mk ((by rw [hg]; exact Nat.ne_of_lt (blk_lt (g := gb332) (o := .cells #[.string t326, .int .i64 t327, .bool t328, .string t329] 39 (0, 0)) (by (with_reducible repeat (first | refine blk_drewN ?_ _ | refine blk_drew ?_ | refine blk_alloc ?_ _)); exact BK332.out)) : gb332 ≠ gb378)); have n23_ := Aside0.mk ((by rw [hg]; exact Nat.ne_of_gt (blk_lt (g := gb332) (o := .cells #[.string t326, .int .i64 t327, .bool t328, .string t329] 39 (0, 0)) (by (with_reducible repeat (first | refine blk_drewN ?_ _ | refine blk_drew ?_ | refine blk_alloc ?_ _)); exact BK332.out)) : gb378 ≠ gb332)); have n24_ := Aside0.mk ((by rw [hg]; exact Nat.ne_of_lt (blk_lt (g := gb339) (o := .cells #[.string t333, .int .i64 t334, .bool t335, .string t336] 39 (0, 0)) (by (with_reducible repeat (first | refine blk_drewN ?_ _ | refine blk_drew ?_ | refine blk_alloc ?_ _)); exact BK339.out)) : gb339 ≠ gb378)); have n25_ := Aside0.mk ((by rw [hg]; exact Nat.ne_of_gt (blk_lt (g := gb339) (o := .cells #[.string t333, .int .i64 t334, .bool t335, .string t336] 39 (0, 0)) (by (with_reducible repeat (first | refine blk_drewN ?_ _ | refine blk_drew ?_ | refine blk_alloc ?_ _)); exact BK339.out)) : gb378 ≠ gb339)); have n26_ := Aside0.mk ((by rw [hg]; exact Nat.ne_of_lt (blk_lt (g := gb371) (o := .cells #[.string t365, .int .i64 t366, .bool t367, .string t368] 39 (0, 0)) (by (with_reducible repeat (first | refine blk_drewN ?_ _ | refine blk_drew ?_ | refine blk_alloc ?_ _)); exact BK371.out)) : gb371 ≠ gb378)); have n27_ := Aside0.mk ((by rw [hg]; exact Nat.ne_of_gt (blk_lt (g := gb371) (o := .cells #[.string t365, .int .i64 t366, .bool t367, .string t368] 39 (0, 0)) (by (with_reducible repeat (first | refine blk_drewN ?_ _ | refine blk_drew ?_ | refine blk_alloc ?_ _)); exact BK371.out)) : gb378 ≠ gb371)); clear HO307; clear HO311; clear HO343; clear HO346; clear HO350; clear HO353; clear HO357; clear HO360; clear HO364; clear BK318; clear BK325; clear BK332; clear BK339; clear BK371; clear HB; have HO307 := n0_; have HO311 := n1_; have HO343 := n2_; have HO346 := n3_; have HO350 := n4_; have HO353 := n5_; have HO357 := n6_; have HO360 := n7_; have HO364 := n8_; have BK318 := n9_; have BK325 := n10_; have BK332 := n11_; have BK339 := n12_; have BK371 := n13_; have HB := n14_; have BK378 := n15_; have GW378 := n16_; have GE378 := n17_; have NB318_378 := n18_; have NB378_318 := n19_; have NB325_378 := n20_; have NB378_325 := n21_; have NB332_378 := n22_; have NB378_332 := n23_; have NB339_378 := n24_; have NB378_339 := n25_; have NB371_378 := n26_; have NB378_371 := n27_; clear n0_ n1_ n2_ n3_ n4_ n5_ n6_ n7_ n8_ n9_ n10_ n11_ n12_ n13_ n14_ n15_ n16_ n17_ n18_ n19_ n20_ n21_ n22_ n23_ n24_ n25_ n26_ n27_; clear hb hbox hg; have hnb194 := NB378_318.out; have hnc194 := NB318_378.out; have hnb195 := NB378_325.out; have hnc195 := NB325_378.out; have hnb196 := NB378_332.out; have hnc196 := NB332_378.out; have hnb197 := NB378_339.out; have hnc197 := NB339_378.out; have hnb198 := NB378_371.out; have hnc198 := NB371_378.out; have hcz199_0 : w193.cell? ⟨gb378, 0, none⟩ = some (.string (⟨#[]⟩ : ByteArray)) := (blk_cell BK378.out 0).trans rfl; have hcz199_1 : w193.cell? ⟨gb378, 1, none⟩ = some (.int .i64 0) := (blk_cell BK378.out 1).trans rfl; have hcz199_2 : w193.cell? ⟨gb378, 2, none⟩ = some (.bool false) := (blk_cell BK378.out 2).trans rfl; have hcz199_3 : w193.cell? ⟨gb378, 3, none⟩ = some (.string (⟨#[]⟩ : ByteArray)) := (blk_cell BK378.out 3).trans rfl; have hfz199_0 := blk_frozen BK378.out 0; have hfz199_1 := blk_frozen BK378.out 1; have hfz199_2 := blk_frozen BK378.out 2; have hfz199_3 := blk_frozen BK378.out 3))
                    have n0_ : Aside0 (Kd.R k39 39 ((((w193.setCell ⟨gb378, 0, none⟩ (.string t372)).setCell ⟨gb378, 1, none⟩ (.int .i64 t373)).setCell ⟨gb378, 2, none⟩ (.bool t374)).setCell ⟨gb378, 3, none⟩ (.string t375)) w.heap.size (fun k_ => some k_ ≠ (.slice Ao175 y344.length co175 : Value).ownBlock ∧ some k_ ≠ (.slice Ao179 y351.length co179 : Value).ownBlock ∧ some k_ ≠ (v363 : Value).ownBlock ∧ k_ ≠ gb318 ∧ k_ ≠ gb325 ∧ k_ ≠ gb332 ∧ k_ ≠ gb339 ∧ k_ ≠ gb371 ∧ k_ ≠ gb378) (.slice Ao151 t305.length co151) t305) := ⟨by (with_reducible repeat (first | apply Kd.R_alloc | apply Kd.R_drewN | apply Kd.R_drew)); exact Kd.R_mono (Kd.R_far (p := ⟨gb378, 3, none⟩) (Kd.R_far (p := ⟨gb378, 2, none⟩) (Kd.R_far (p := ⟨gb378, 1, none⟩) (Kd.R_far (p := ⟨gb378, 0, none⟩) (Kd.R_mono HO307.out (fun k_ hk => (⟨hk, hk.2⟩ : _ ∧ k_ ≠ gb378))) (fun _ hk => hk.2) (.string t372)) (fun _ hk => hk.2) (.int .i64 t373)) (fun _ hk => hk.2) (.bool t374)) (fun _ hk => hk.2) (.string t375)) (fun _ hk => ⟨hk.1.1.1.1.1.2, ⟨hk.1.1.1.1.2, ⟨hk.1.1.1.2, ⟨hk.1.1.1.1.1.1.1.1.1.2, ⟨hk.1.1.1.1.1.1.1.1.2, ⟨hk.1.1.1.1.1.1.1.2, ⟨hk.1.1.1.1.1.1.2, ⟨hk.1.1.2, hk.1.2⟩⟩⟩⟩⟩⟩⟩⟩)⟩
                    have n1_ : Aside0 (Kd.R (Kd.int .u8) 5 ((((w193.setCell ⟨gb378, 0, none⟩ (.string t372)).setCell ⟨gb378, 1, none⟩ (.int .i64 t373)).setCell ⟨gb378, 2, none⟩ (.bool t374)).setCell ⟨gb378, 3, none⟩ (.string t375)) w.heap.size (fun k_ => some k_ ≠ (v342 : Value).ownBlock ∧ some k_ ≠ (v349 : Value).ownBlock ∧ some k_ ≠ (v356 : Value).ownBlock ∧ some k_ ≠ (.slice Ao183 y358.length co183 : Value).ownBlock) (.slice Ao153 t308.length co153) t308) := ⟨by (with_reducible repeat (first | apply Kd.R_alloc | apply Kd.R_drewN | apply Kd.R_drew)); exact Kd.R_mono (Kd.R_far (p := ⟨gb378, 3, none⟩) (Kd.R_far (p := ⟨gb378, 2, none⟩) (Kd.R_far (p := ⟨gb378, 1, none⟩) (Kd.R_far (p := ⟨gb378, 0, none⟩) (Kd.R_types HO311.out BK378.out (by decide)) (fun _ hk => hk.2) (.string t372)) (fun _ hk => hk.2) (.int .i64 t373)) (fun _ hk => hk.2) (.bool t374)) (fun _ hk => hk.2) (.string t375)) (fun _ hk => ⟨hk.1.1.1.1.2, ⟨hk.1.1.1.2, ⟨hk.1.1.2, hk.1.2⟩⟩⟩)⟩
                    have n2_ : Aside0 (Kd.R (Kd.int .u8) 5 ((((w193.setCell ⟨gb378, 0, none⟩ (.string t372)).setCell ⟨gb378, 1, none⟩ (.int .i64 t373)).setCell ⟨gb378, 2, none⟩ (.bool t374)).setCell ⟨gb378, 3, none⟩ (.string t375)) w.heap.size (fun k_ => some k_ ≠ (.slice Ao153 t308.length co153 : Value).ownBlock ∧ some k_ ≠ (v349 : Value).ownBlock ∧ some k_ ≠ (v356 : Value).ownBlock ∧ some k_ ≠ (.slice Ao183 y358.length co183 : Value).ownBlock) v342 t340) := ⟨by (with_reducible repeat (first | apply Kd.R_alloc | apply Kd.R_drewN | apply Kd.R_drew)); exact Kd.R_mono (Kd.R_far (p := ⟨gb378, 3, none⟩) (Kd.R_far (p := ⟨gb378, 2, none⟩) (Kd.R_far (p := ⟨gb378, 1, none⟩) (Kd.R_far (p := ⟨gb378, 0, none⟩) (Kd.R_types HO343.out BK378.out (by decide)) (fun _ hk => hk.2) (.string t372)) (fun _ hk => hk.2) (.int .i64 t373)) (fun _ hk => hk.2) (.bool t374)) (fun _ hk => hk.2) (.string t375)) (fun _ hk => ⟨hk.1.1.1.1.2, ⟨hk.1.1.1.2, ⟨hk.1.1.2, hk.1.2⟩⟩⟩)⟩
                    have n3_ : Aside0 (Kd.R k39 39 ((((w193.setCell ⟨gb378, 0, none⟩ (.string t372)).setCell ⟨gb378, 1, none⟩ (.int .i64 t373)).setCell ⟨gb378, 2, none⟩ (.bool t374)).setCell ⟨gb378, 3, none⟩ (.string t375)) w.heap.size (fun k_ => some k_ ≠ (.slice Ao151 t305.length co151 : Value).ownBlock ∧ some k_ ≠ (.slice Ao179 y351.length co179 : Value).ownBlock ∧ some k_ ≠ (v363 : Value).ownBlock ∧ k_ ≠ gb318 ∧ k_ ≠ gb325 ∧ k_ ≠ gb332 ∧ k_ ≠ gb339 ∧ k_ ≠ gb371 ∧ k_ ≠ gb378) (.slice Ao175 y344.length co175) y344) := ⟨by (with_reducible repeat (first | apply Kd.R_alloc | apply Kd.R_drewN | apply Kd.R_drew)); exact Kd.R_mono (Kd.R_far (p := ⟨gb378, 3, none⟩) (Kd.R_far (p := ⟨gb378, 2, none⟩) (Kd.R_far (p := ⟨gb378, 1, none⟩) (Kd.R_far (p := ⟨gb378, 0, none⟩) (Kd.R_mono HO346.out (fun k_ hk => (⟨hk, hk.2⟩ : _ ∧ k_ ≠ gb378))) (fun _ hk => hk.2) (.string t372)) (fun _ hk => hk.2) (.int .i64 t373)) (fun _ hk => hk.2) (.bool t374)) (fun _ hk => hk.2) (.string t375)) (fun _ hk => ⟨hk.1.1.1.1.1.1.1.1.1.2, ⟨hk.1.1.1.1.2, ⟨hk.1.1.1.2, ⟨hk.1.1.1.1.1.1.1.1.2, ⟨hk.1.1.1.1.1.1.1.2, ⟨hk.1.1.1.1.1.1.2, ⟨hk.1.1.1.1.1.2, ⟨hk.1.1.2, hk.1.2⟩⟩⟩⟩⟩⟩⟩⟩)⟩
                    have n4_ : Aside0 (Kd.R (Kd.int .u8) 5 ((((w193.setCell ⟨gb378, 0, none⟩ (.string t372)).setCell ⟨gb378, 1, none⟩ (.int .i64 t373)).setCell ⟨gb378, 2, none⟩ (.bool t374)).setCell ⟨gb378, 3, none⟩ (.string t375)) w.heap.size (fun k_ => some k_ ≠ (.slice Ao153 t308.length co153 : Value).ownBlock ∧ some k_ ≠ (v342 : Value).ownBlock ∧ some k_ ≠ (v356 : Value).ownBlock ∧ some k_ ≠ (.slice Ao183 y358.length co183 : Value).ownBlock) v349 t347) := ⟨by (with_reducible repeat (first | apply Kd.R_alloc | apply Kd.R_drewN | apply Kd.R_drew)); exact Kd.R_mono (Kd.R_far (p := ⟨gb378, 3, none⟩) (Kd.R_far (p := ⟨gb378, 2, none⟩) (Kd.R_far (p := ⟨gb378, 1, none⟩) (Kd.R_far (p := ⟨gb378, 0, none⟩) (Kd.R_types HO350.out BK378.out (by decide)) (fun _ hk => hk.2) (.string t372)) (fun _ hk => hk.2) (.int .i64 t373)) (fun _ hk => hk.2) (.bool t374)) (fun _ hk => hk.2) (.string t375)) (fun _ hk => ⟨hk.1.1.1.1.2, ⟨hk.1.1.1.2, ⟨hk.1.1.2, hk.1.2⟩⟩⟩)⟩
                    have n5_ : Aside0 (Kd.R k39 39 ((((w193.setCell ⟨gb378, 0, none⟩ (.string t372)).setCell ⟨gb378, 1, none⟩ (.int .i64 t373)).setCell ⟨gb378, 2, none⟩ (.bool t374)).setCell ⟨gb378, 3, none⟩ (.string t375)) w.heap.size (fun k_ => some k_ ≠ (.slice Ao151 t305.length co151 : Value).ownBlock ∧ some k_ ≠ (.slice Ao175 y344.length co175 : Value).ownBlock ∧ some k_ ≠ (v363 : Value).ownBlock ∧ k_ ≠ gb318 ∧ k_ ≠ gb325 ∧ k_ ≠ gb332 ∧ k_ ≠ gb339 ∧ k_ ≠ gb371 ∧ k_ ≠ gb378) (.slice Ao179 y351.length co179) y351) := ⟨by (with_reducible repeat (first | apply Kd.R_alloc | apply Kd.R_drewN | apply Kd.R_drew)); exact Kd.R_mono (Kd.R_far (p := ⟨gb378, 3, none⟩) (Kd.R_far (p := ⟨gb378, 2, none⟩) (Kd.R_far (p := ⟨gb378, 1, none⟩) (Kd.R_far (p := ⟨gb378, 0, none⟩) (Kd.R_mono HO353.out (fun k_ hk => (⟨hk, hk.2⟩ : _ ∧ k_ ≠ gb378))) (fun _ hk => hk.2) (.string t372)) (fun _ hk => hk.2) (.int .i64 t373)) (fun _ hk => hk.2) (.bool t374)) (fun _ hk => hk.2) (.string t375)) (fun _ hk => ⟨hk.1.1.1.1.1.1.1.1.1.2, ⟨hk.1.1.1.1.1.1.1.1.2, ⟨hk.1.1.1.2, ⟨hk.1.1.1.1.1.1.1.2, ⟨hk.1.1.1.1.1.1.2, ⟨hk.1.1.1.1.1.2, ⟨hk.1.1.1.1.2, ⟨hk.1.1.2, hk.1.2⟩⟩⟩⟩⟩⟩⟩⟩)⟩
                    have n6_ : Aside0 (Kd.R (Kd.int .u8) 5 ((((w193.setCell ⟨gb378, 0, none⟩ (.string t372)).setCell ⟨gb378, 1, none⟩ (.int .i64 t373)).setCell ⟨gb378, 2, none⟩ (.bool t374)).setCell ⟨gb378, 3, none⟩ (.string t375)) w.heap.size (fun k_ => some k_ ≠ (.slice Ao153 t308.length co153 : Value).ownBlock ∧ some k_ ≠ (v342 : Value).ownBlock ∧ some k_ ≠ (v349 : Value).ownBlock ∧ some k_ ≠ (.slice Ao183 y358.length co183 : Value).ownBlock) v356 t354) := ⟨by (with_reducible repeat (first | apply Kd.R_alloc | apply Kd.R_drewN | apply Kd.R_drew)); exact Kd.R_mono (Kd.R_far (p := ⟨gb378, 3, none⟩) (Kd.R_far (p := ⟨gb378, 2, none⟩) (Kd.R_far (p := ⟨gb378, 1, none⟩) (Kd.R_far (p := ⟨gb378, 0, none⟩) (Kd.R_types HO357.out BK378.out (by decide)) (fun _ hk => hk.2) (.string t372)) (fun _ hk => hk.2) (.int .i64 t373)) (fun _ hk => hk.2) (.bool t374)) (fun _ hk => hk.2) (.string t375)) (fun _ hk => ⟨hk.1.1.1.1.2, ⟨hk.1.1.1.2, ⟨hk.1.1.2, hk.1.2⟩⟩⟩)⟩
                    have n7_ : Aside0 (Kd.R (Kd.int .u8) 5 ((((w193.setCell ⟨gb378, 0, none⟩ (.string t372)).setCell ⟨gb378, 1, none⟩ (.int .i64 t373)).setCell ⟨gb378, 2, none⟩ (.bool t374)).setCell ⟨gb378, 3, none⟩ (.string t375)) w.heap.size (fun k_ => some k_ ≠ (.slice Ao153 t308.length co153 : Value).ownBlock ∧ some k_ ≠ (v342 : Value).ownBlock ∧ some k_ ≠ (v349 : Value).ownBlock ∧ some k_ ≠ (v356 : Value).ownBlock) (.slice Ao183 y358.length co183) y358) := ⟨by (with_reducible repeat (first | apply Kd.R_alloc | apply Kd.R_drewN | apply Kd.R_drew)); exact Kd.R_mono (Kd.R_far (p := ⟨gb378, 3, none⟩) (Kd.R_far (p := ⟨gb378, 2, none⟩) (Kd.R_far (p := ⟨gb378, 1, none⟩) (Kd.R_far (p := ⟨gb378, 0, none⟩) (Kd.R_types HO360.out BK378.out (by decide)) (fun _ hk => hk.2) (.string t372)) (fun _ hk => hk.2) (.int .i64 t373)) (fun _ hk => hk.2) (.bool t374)) (fun _ hk => hk.2) (.string t375)) (fun _ hk => ⟨hk.1.1.1.1.2, ⟨hk.1.1.1.2, ⟨hk.1.1.2, hk.1.2⟩⟩⟩)⟩
                    have n8_ : Aside0 (Kd.R k39 39 ((((w193.setCell ⟨gb378, 0, none⟩ (.string t372)).setCell ⟨gb378, 1, none⟩ (.int .i64 t373)).setCell ⟨gb378, 2, none⟩ (.bool t374)).setCell ⟨gb378, 3, none⟩ (.string t375)) w.heap.size (fun k_ => some k_ ≠ (.slice Ao151 t305.length co151 : Value).ownBlock ∧ some k_ ≠ (.slice Ao175 y344.length co175 : Value).ownBlock ∧ some k_ ≠ (.slice Ao179 y351.length co179 : Value).ownBlock ∧ k_ ≠ gb318 ∧ k_ ≠ gb325 ∧ k_ ≠ gb332 ∧ k_ ≠ gb339 ∧ k_ ≠ gb371 ∧ k_ ≠ gb378) v363 t361) := ⟨by (with_reducible repeat (first | apply Kd.R_alloc | apply Kd.R_drewN | apply Kd.R_drew)); exact Kd.R_mono (Kd.R_far (p := ⟨gb378, 3, none⟩) (Kd.R_far (p := ⟨gb378, 2, none⟩) (Kd.R_far (p := ⟨gb378, 1, none⟩) (Kd.R_far (p := ⟨gb378, 0, none⟩) (Kd.R_mono HO364.out (fun k_ hk => (⟨hk, hk.2⟩ : _ ∧ k_ ≠ gb378))) (fun _ hk => hk.2) (.string t372)) (fun _ hk => hk.2) (.int .i64 t373)) (fun _ hk => hk.2) (.bool t374)) (fun _ hk => hk.2) (.string t375)) (fun _ hk => ⟨hk.1.1.1.1.1.1.1.1.1.2, ⟨hk.1.1.1.1.1.1.1.1.2, ⟨hk.1.1.1.1.1.1.1.2, ⟨hk.1.1.1.1.1.1.2, ⟨hk.1.1.1.1.1.2, ⟨hk.1.1.1.1.2, ⟨hk.1.1.1.2, ⟨hk.1.1.2, hk.1.2⟩⟩⟩⟩⟩⟩⟩⟩)⟩
                    have n9_ : Aside0 (((((w193.setCell ⟨gb378, 0, none⟩ (.string t372)).setCell ⟨gb378, 1, none⟩ (.int .i64 t373)).setCell ⟨gb378, 2, none⟩ (.bool t374)).setCell ⟨gb378, 3, none⟩ (.string t375)).heap[gb318]? = some (.cells #[.string t312, .int .i64 t313, .bool t314, .string t315] 39 (0, 0))) := ⟨by (with_reducible repeat (first | refine blk_drewN ?_ _ | refine blk_drew ?_ | refine blk_alloc ?_ _)); refine blk_far ?_ NB318_378.out _; (with_reducible repeat (first | refine blk_drewN ?_ _ | refine blk_drew ?_ | refine blk_alloc ?_ _)); refine blk_far ?_ NB318_378.out _; (with_reducible repeat (first | refine blk_drewN ?_ _ | refine blk_drew ?_ | refine blk_alloc ?_ _)); refine blk_far ?_ NB318_378.out _; (with_reducible repeat (first | refine blk_drewN ?_ _ | refine blk_drew ?_ | refine blk_alloc ?_ _)); refine blk_far ?_ NB318_378.out _; (with_reducible repeat (first | refine blk_drewN ?_ _ | refine blk_drew ?_ | refine blk_alloc ?_ _)); exact BK318.out⟩
                    have n10_ : Aside0 (((((w193.setCell ⟨gb378, 0, none⟩ (.string t372)).setCell ⟨gb378, 1, none⟩ (.int .i64 t373)).setCell ⟨gb378, 2, none⟩ (.bool t374)).setCell ⟨gb378, 3, none⟩ (.string t375)).heap[gb325]? = some (.cells #[.string t319, .int .i64 t320, .bool t321, .string t322] 39 (0, 0))) := ⟨by (with_reducible repeat (first | refine blk_drewN ?_ _ | refine blk_drew ?_ | refine blk_alloc ?_ _)); refine blk_far ?_ NB325_378.out _; (with_reducible repeat (first | refine blk_drewN ?_ _ | refine blk_drew ?_ | refine blk_alloc ?_ _)); refine blk_far ?_ NB325_378.out _; (with_reducible repeat (first | refine blk_drewN ?_ _ | refine blk_drew ?_ | refine blk_alloc ?_ _)); refine blk_far ?_ NB325_378.out _; (with_reducible repeat (first | refine blk_drewN ?_ _ | refine blk_drew ?_ | refine blk_alloc ?_ _)); refine blk_far ?_ NB325_378.out _; (with_reducible repeat (first | refine blk_drewN ?_ _ | refine blk_drew ?_ | refine blk_alloc ?_ _)); exact BK325.out⟩
                    have n11_ : Aside0 (((((w193.setCell ⟨gb378, 0, none⟩ (.string t372)).setCell ⟨gb378, 1, none⟩ (.int .i64 t373)).setCell ⟨gb378, 2, none⟩ (.bool t374)).setCell ⟨gb378, 3, none⟩ (.string t375)).heap[gb332]? = some (.cells #[.string t326, .int .i64 t327, .bool t328, .string t329] 39 (0, 0))) := ⟨by (with_reducible repeat (first | refine blk_drewN ?_ _ | refine blk_drew ?_ | refine blk_alloc ?_ _)); refine blk_far ?_ NB332_378.out _; (with_reducible repeat (first | refine blk_drewN ?_ _ | refine blk_drew ?_ | refine blk_alloc ?_ _)); refine blk_far ?_ NB332_378.out _; (with_reducible repeat (first | refine blk_drewN ?_ _ | refine blk_drew ?_ | refine blk_alloc ?_ _)); refine blk_far ?_ NB332_378.out _; (with_reducible repeat (first | refine blk_drewN ?_ _ | refine blk_drew ?_ | refine blk_alloc ?_ _)); refine blk_far ?_ NB332_378.out _; (with_reducible repeat (first | refine blk_drewN ?_ _ | refine blk_drew ?_ | refine blk_alloc ?_ _)); exact BK332.out⟩
                    have n12_ : Aside0 (((((w193.setCell ⟨gb378, 0, none⟩ (.string t372)).setCell ⟨gb378, 1, none⟩ (.int .i64 t373)).setCell ⟨gb378, 2, none⟩ (.bool t374)).setCell ⟨gb378, 3, none⟩ (.string t375)).heap[gb339]? = some (.cells #[.string t333, .int .i64 t334, .bool t335, .string t336] 39 (0, 0))) := ⟨by (with_reducible repeat (first | refine blk_drewN ?_ _ | refine blk_drew ?_ | refine blk_alloc ?_ _)); refine blk_far ?_ NB339_378.out _; (with_reducible repeat (first | refine blk_drewN ?_ _ | refine blk_drew ?_ | refine blk_alloc ?_ _)); refine blk_far ?_ NB339_378.out _; (with_reducible repeat (first | refine blk_drewN ?_ _ | refine blk_drew ?_ | refine blk_alloc ?_ _)); refine blk_far ?_ NB339_378.out _; (with_reducible repeat (first | refine blk_drewN ?_ _ | refine blk_drew ?_ | refine blk_alloc ?_ _)); refine blk_far ?_ NB339_378.out _; (with_reducible repeat (first | refine blk_drewN ?_ _ | refine blk_drew ?_ | refine blk_alloc ?_ _)); exact BK339.out⟩
                    have n13_ : Aside0 (((((w193.setCell ⟨gb378, 0, none⟩ (.string t372)).setCell ⟨gb378, 1, none⟩ (.int .i64 t373)).setCell ⟨gb378, 2, none⟩ (.bool t374)).setCell ⟨gb378, 3, none⟩ (.string t375)).heap[gb371]? = some (.cells #[.string t365, .int .i64 t366, .bool t367, .string t368] 39 (0, 0))) := ⟨by (with_reducible repeat (first | refine blk_drewN ?_ _ | refine blk_drew ?_ | refine blk_alloc ?_ _)); refine blk_far ?_ NB371_378.out _; (with_reducible repeat (first | refine blk_drewN ?_ _ | refine blk_drew ?_ | refine blk_alloc ?_ _)); refine blk_far ?_ NB371_378.out _; (with_reducible repeat (first | refine blk_drewN ?_ _ | refine blk_drew ?_ | refine blk_alloc ?_ _)); refine blk_far ?_ NB371_378.out _; (with_reducible repeat (first | refine blk_drewN ?_ _ | refine blk_drew ?_ | refine blk_alloc ?_ _)); refine blk_far ?_ NB371_378.out _; (with_reducible repeat (first | refine blk_drewN ?_ _ | refine blk_drew ?_ | refine blk_alloc ?_ _)); exact BK371.out⟩
                    have n14_ : Aside0 (((((w193.setCell ⟨gb378, 0, none⟩ (.string t372)).setCell ⟨gb378, 1, none⟩ (.int .i64 t373)).setCell ⟨gb378, 2, none⟩ (.bool t374)).setCell ⟨gb378, 3, none⟩ (.string t375)).heap[gb378]? = some (.cells #[.string t372, .int .i64 t373, .bool t374, .string t375] 39 (0, 0))) := ⟨by (with_reducible repeat (first | refine blk_drewN ?_ _ | refine blk_drew ?_ | refine blk_alloc ?_ _)); refine blk_put (cs := #[.string t372, .int .i64 t373, .bool t374, .string (⟨#[]⟩ : ByteArray)]) ?_ 3 _ rfl; (with_reducible repeat (first | refine blk_drewN ?_ _ | refine blk_drew ?_ | refine blk_alloc ?_ _)); refine blk_put (cs := #[.string t372, .int .i64 t373, .bool false, .string (⟨#[]⟩ : ByteArray)]) ?_ 2 _ rfl; (with_reducible repeat (first | refine blk_drewN ?_ _ | refine blk_drew ?_ | refine blk_alloc ?_ _)); refine blk_put (cs := #[.string t372, .int .i64 0, .bool false, .string (⟨#[]⟩ : ByteArray)]) ?_ 1 _ rfl; (with_reducible repeat (first | refine blk_drewN ?_ _ | refine blk_drew ?_ | refine blk_alloc ?_ _)); refine blk_put (cs := #[.string (⟨#[]⟩ : ByteArray), .int .i64 0, .bool false, .string (⟨#[]⟩ : ByteArray)]) ?_ 0 _ rfl; (with_reducible repeat (first | refine blk_drewN ?_ _ | refine blk_drew ?_ | refine blk_alloc ?_ _)); exact BK378.out⟩
                    have n15_ : Aside0 (Below w.heap.size w ((((w193.setCell ⟨gb378, 0, none⟩ (.string t372)).setCell ⟨gb378, 1, none⟩ (.int .i64 t373)).setCell ⟨gb378, 2, none⟩ (.bool t374)).setCell ⟨gb378, 3, none⟩ (.string t375))) := ⟨by repeat (first | (with_reducible first | exact HB.out | apply below_alloc | apply pw_below_drewN | apply below_drew1 | refine below_set ?_ GE318.out | refine below_set ?_ GE325.out | refine below_set ?_ GE332.out | refine below_set ?_ GE339.out | refine below_set ?_ GE371.out | refine below_set ?_ GE378.out) | exact HB.out)⟩
                    (try clear HO307)
                    (try clear HO311)
                    (try clear HO343)
                    (try clear HO346)
                    (try clear HO350)
                    (try clear HO353)
                    (try clear HO357)
                    (try clear HO360)
                    (try clear HO364)
                    (try clear BK318)
                    (try clear BK325)
                    (try clear BK332)
                    (try clear BK339)
                    (try clear BK371)
                    (try clear BK378)
                    (try clear HB)
                    generalize ((((w193.setCell ⟨gb378, 0, none⟩ (.string t372)).setCell ⟨gb378, 1, none⟩ (.int .i64 t373)).setCell ⟨gb378, 2, none⟩ (.bool t374)).setCell ⟨gb378, 3, none⟩ (.string t375)) = w200 at n0_ n1_ n2_ n3_ n4_ n5_ n6_ n7_ n8_ n9_ n10_ n11_ n12_ n13_ n14_ n15_ ⊢
                    have HO307 := n0_
                    have HO311 := n1_
                    have HO343 := n2_
                    have HO346 := n3_
                    have HO350 := n4_
                    have HO353 := n5_
                    have HO357 := n6_
                    have HO360 := n7_
                    have HO364 := n8_
                    have BK318 := n9_
                    have BK325 := n10_
                    have BK332 := n11_
                    have BK339 := n12_
                    have BK371 := n13_
                    have BK378 := n14_
                    have HB := n15_
                    clear n0_ n1_ n2_ n3_ n4_ n5_ n6_ n7_ n8_ n9_ n10_ n11_ n12_ n13_ n14_ n15_
                    obtain ⟨HO307, HO311, HO343, HO346, HO350, HO353, HO357, HO360, HO364, BK318, BK325, BK332, BK339, BK371, BK378, HB⟩ := And.intro (Aside0.mk (Kd.R_drew HO307.out)) (And.intro (Aside0.mk (Kd.R_drew HO311.out)) (And.intro (Aside0.mk (Kd.R_drew HO343.out)) (And.intro (Aside0.mk (Kd.R_drew HO346.out)) (And.intro (Aside0.mk (Kd.R_drew HO350.out)) (And.intro (Aside0.mk (Kd.R_drew HO353.out)) (And.intro (Aside0.mk (Kd.R_drew HO357.out)) (And.intro (Aside0.mk (Kd.R_drew HO360.out)) (And.intro (Aside0.mk (Kd.R_drew HO364.out)) (And.intro (Aside0.mk (blk_drew BK318.out)) (And.intro (Aside0.mk (blk_drew BK325.out)) (And.intro (Aside0.mk (blk_drew BK332.out)) (And.intro (Aside0.mk (blk_drew BK339.out)) (And.intro (Aside0.mk (blk_drew BK371.out)) (And.intro (Aside0.mk (blk_drew BK378.out)) (Aside0.mk (below_drew1 HB.out))))))))))))))))
                    refine start_ (n := 76) (S := fun w' => w'.cell? ⟨gb318, 0, none⟩ = some (.string t312) ∧ w'.cell? ⟨gb318, 1, none⟩ = some (.int .i64 t313) ∧ w'.cell? ⟨gb318, 2, none⟩ = some (.bool t314) ∧ w'.cell? ⟨gb318, 3, none⟩ = some (.string t315) ∧ w'.cell? ⟨gb325, 0, none⟩ = some (.string t319) ∧ w'.cell? ⟨gb325, 1, none⟩ = some (.int .i64 t320) ∧ w'.cell? ⟨gb325, 2, none⟩ = some (.bool t321) ∧ w'.cell? ⟨gb325, 3, none⟩ = some (.string t322)) (ds := []) (b_ 76 0) (by kernel_rfl) rfl rfl ⟨(blk_cell BK318.out 0).trans rfl, (blk_cell BK318.out 1).trans rfl, (blk_cell BK318.out 2).trans rfl, (blk_cell BK318.out 3).trans rfl, (blk_cell BK325.out 0).trans rfl, (blk_cell BK325.out 1).trans rfl, (blk_cell BK325.out 2).trans rfl, (blk_cell BK325.out 3).trans rfl⟩ (fun hHeld => ?_); refine with_tabW millhandlaw12_BlockNames.tab12 millhandlaw12_BlockNames.bits12 (fun HT_ HW_ => ?_)
                    generalize w200.drew = w201 at HO307 HO311 HO343 HO346 HO350 HO353 HO357 HO360 HO364 BK318 BK325 BK332 BK339 BK371 BK378 HB hHeld ⊢
                    refine pA_ 0 93 ?_ (b_ 76 1) (any_of HT_.out (by kernel_rfl)) rfl rfl (fun _ _ _ h => h) (by rfl) ?_ ?_ ?_ ?_
                    rotate_left
                    ·
                     intro w'
                     go_simp
                     with_reducible rfl
                    rotate_left
                    ·
                     simp only [Act.put, sa_, s0_, s1_, i64_w, i32_w]
                     rfl
                    refine one_ (i := 1) (N := some 94) (b_ 76 3) rfl rfl (one_of HT_.out (by kernel_rfl)) (by decide) (fun K hK => ?_)
                    refine goes_ Try.func14 (by kernel_rfl) rfl #[] (by rfl) rfl rfl (by (try simp only [List.map_toArray, List.map_cons, List.map_nil]); first | done | rfl | (simp only [List.length_drop, List.length_take]; rfl)) ?_
                    with_reducible refine (millhandlaw12_alive.calls k  true _ A13.out).mono ?_
                    rintro e w202 ⟨rfl, hb⟩
                    refine ⟨_, rfl, ?_⟩
                    obtain ⟨HO307, HO311, HO343, HO346, HO350, HO353, HO357, HO360, HO364, BK318, BK325, BK332, BK339, BK371, BK378, HB⟩ := And.intro (Aside0.mk (Kd.R_below (by (with_reducible repeat (first | apply Kd.R_alloc | apply Kd.R_drewN | apply Kd.R_drew)); exact HO307.out) hb)) (And.intro (Aside0.mk (Kd.R_below (by (with_reducible repeat (first | apply Kd.R_alloc | apply Kd.R_drewN | apply Kd.R_drew)); exact HO311.out) hb)) (And.intro (Aside0.mk (Kd.R_below (by (with_reducible repeat (first | apply Kd.R_alloc | apply Kd.R_drewN | apply Kd.R_drew)); exact HO343.out) hb)) (And.intro (Aside0.mk (Kd.R_below (by (with_reducible repeat (first | apply Kd.R_alloc | apply Kd.R_drewN | apply Kd.R_drew)); exact HO346.out) hb)) (And.intro (Aside0.mk (Kd.R_below (by (with_reducible repeat (first | apply Kd.R_alloc | apply Kd.R_drewN | apply Kd.R_drew)); exact HO350.out) hb)) (And.intro (Aside0.mk (Kd.R_below (by (with_reducible repeat (first | apply Kd.R_alloc | apply Kd.R_drewN | apply Kd.R_drew)); exact HO353.out) hb)) (And.intro (Aside0.mk (Kd.R_below (by (with_reducible repeat (first | apply Kd.R_alloc | apply Kd.R_drewN | apply Kd.R_drew)); exact HO357.out) hb)) (And.intro (Aside0.mk (Kd.R_below (by (with_reducible repeat (first | apply Kd.R_alloc | apply Kd.R_drewN | apply Kd.R_drew)); exact HO360.out) hb)) (And.intro (Aside0.mk (Kd.R_below (by (with_reducible repeat (first | apply Kd.R_alloc | apply Kd.R_drewN | apply Kd.R_drew)); exact HO364.out) hb)) (And.intro (Aside0.mk (blk_below (g := gb318) (o := .cells #[.string t312, .int .i64 t313, .bool t314, .string t315] 39 (0, 0)) (by (with_reducible repeat (first | refine blk_drewN ?_ _ | refine blk_drew ?_ | refine blk_alloc ?_ _)); exact BK318.out) hb)) (And.intro (Aside0.mk (blk_below (g := gb325) (o := .cells #[.string t319, .int .i64 t320, .bool t321, .string t322] 39 (0, 0)) (by (with_reducible repeat (first | refine blk_drewN ?_ _ | refine blk_drew ?_ | refine blk_alloc ?_ _)); exact BK325.out) hb)) (And.intro (Aside0.mk (blk_below (g := gb332) (o := .cells #[.string t326, .int .i64 t327, .bool t328, .string t329] 39 (0, 0)) (by (with_reducible repeat (first | refine blk_drewN ?_ _ | refine blk_drew ?_ | refine blk_alloc ?_ _)); exact BK332.out) hb)) (And.intro (Aside0.mk (blk_below (g := gb339) (o := .cells #[.string t333, .int .i64 t334, .bool t335, .string t336] 39 (0, 0)) (by (with_reducible repeat (first | refine blk_drewN ?_ _ | refine blk_drew ?_ | refine blk_alloc ?_ _)); exact BK339.out) hb)) (And.intro (Aside0.mk (blk_below (g := gb371) (o := .cells #[.string t365, .int .i64 t366, .bool t367, .string t368] 39 (0, 0)) (by (with_reducible repeat (first | refine blk_drewN ?_ _ | refine blk_drew ?_ | refine blk_alloc ?_ _)); exact BK371.out) hb)) (And.intro (Aside0.mk (blk_below (g := gb378) (o := .cells #[.string t372, .int .i64 t373, .bool t374, .string t375] 39 (0, 0)) (by (with_reducible repeat (first | refine blk_drewN ?_ _ | refine blk_drew ?_ | refine blk_alloc ?_ _)); exact BK378.out) hb)) (Aside0.mk (below_step (by repeat (first | (with_reducible first | exact HB.out | apply below_alloc | apply pw_below_drewN | apply below_drew1 | refine below_set ?_ GE318.out | refine below_set ?_ GE325.out | refine below_set ?_ GE332.out | refine below_set ?_ GE339.out | refine below_set ?_ GE371.out | refine below_set ?_ GE378.out) | exact HB.out)) hb))))))))))))))))
                    (try clear hb)
                    (try clear hb2)
                    (try clear hk)
                    (try clear hi)
                    refine hK.out _ _ ⟨(blk_cell BK318.out 0).trans rfl, (blk_cell BK318.out 1).trans rfl, (blk_cell BK318.out 2).trans rfl, (blk_cell BK318.out 3).trans rfl, (blk_cell BK325.out 0).trans rfl, (blk_cell BK325.out 1).trans rfl, (blk_cell BK325.out 2).trans rfl, (blk_cell BK325.out 3).trans rfl⟩ (fun hHeld => ?_)
                    clear hK K
                    refine norm_ (a' := ?_) ?_ ?_
                    rotate_left
                    ·
                     show Act.put _ (some 94) _ = _
                     simp only [Act.put, sa_, s0_, s1_, i64_w, i32_w]
                     rfl
                    refine pA_ 2 95 ?_ (b_ 76 7) (any_of HT_.out (by kernel_rfl)) rfl rfl (fun _ _ _ h => h) (by rfl) ?_ ?_ ?_ ?_
                    rotate_left
                    ·
                     intro w'
                     go_simp
                     with_reducible rfl
                    rotate_left
                    ·
                     simp only [Act.put, sa_, s0_, s1_, i64_w, i32_w]
                     rfl
                    refine pA_ 3 96 ?_ (b_ 76 15) (any_of HT_.out (by kernel_rfl)) rfl rfl (fun _ _ _ h => h) (by rfl) ?_ ?_ ?_ ?_
                    rotate_left
                    ·
                     intro w'
                     go_simp
                     with_reducible rfl
                    rotate_left
                    ·
                     simp only [Act.put, sa_, s0_, s1_, i64_w, i32_w]
                     rfl
                    refine pA_ 4 97 ?_ (b_ 76 31) (any_of HT_.out (by kernel_rfl)) rfl rfl (fun _ _ _ h => h) (by rfl) ?_ ?_ ?_ ?_
                    rotate_left
                    ·
                     intro w'
                     go_simp
                     with_reducible rfl
                    rotate_left
                    ·
                     simp only [Act.put, sa_, s0_, s1_, i64_w, i32_w]
                     rfl
                    refine pA_ 5 98 ?_ (b_ 76 63) (any_of HT_.out (by kernel_rfl)) rfl rfl (fun _ _ _ h => h) (by rfl) ?_ ?_ ?_ ?_
                    rotate_left
                    ·
                     intro w'
                     go_simp
                     with_reducible rfl
                    rotate_left
                    ·
                     simp only [Act.put, sa_, s0_, s1_, i64_w, i32_w]
                     rfl
                    refine pA_ 6 99 ?_ (b_ 76 127) (any_of HT_.out (by kernel_rfl)) rfl rfl (fun _ _ _ h => h) (by rfl) ?_ ?_ ?_ ?_
                    rotate_left
                    ·
                     intro w'
                     go_simp
                     with_reducible rfl
                    rotate_left
                    ·
                     simp only [Act.put, sa_, s0_, s1_, i64_w, i32_w]
                     rfl
                    refine pA_ 7 100 ?_ (b_ 76 255) (any_of HT_.out (by kernel_rfl)) rfl rfl (fun _ _ _ h => h) (by rfl) ?_ ?_ ?_ ?_
                    rotate_left
                    ·
                     intro w'
                     go_simp
                     with_reducible rfl
                    rotate_left
                    ·
                     simp only [Act.put, sa_, s0_, s1_, i64_w, i32_w]
                     rfl
                    refine pA_ 8 101 ?_ (b_ 76 511) (any_of HT_.out (by kernel_rfl)) rfl rfl (fun _ _ _ h => h) (by rfl) ?_ ?_ ?_ ?_
                    rotate_left
                    ·
                     intro w'
                     go_simp
                     with_reducible rfl
                    rotate_left
                    ·
                     simp only [Act.put, sa_, s0_, s1_, i64_w, i32_w]
                     rfl
                    refine pA_ 9 102 ?_ (b_ 76 1023) (any_of HT_.out (by kernel_rfl)) rfl rfl (fun _ _ _ h => h) (by rfl) ?_ ?_ ?_ ?_
                    rotate_left
                    ·
                     intro w'
                     go_simp
                     with_reducible rfl
                    rotate_left
                    ·
                     simp only [Act.put, sa_, s0_, s1_, i64_w, i32_w]
                     rfl
                    refine pA_ 10 103 ?_ (b_ 76 2047) (any_of HT_.out (by kernel_rfl)) rfl rfl (fun _ _ _ h => h) (by rfl) ?_ ?_ ?_ ?_
                    rotate_left
                    ·
                     intro w'
                     go_simp
                     with_reducible rfl
                    rotate_left
                    ·
                     simp only [Act.put, sa_, s0_, s1_, i64_w, i32_w]
                     rfl
                    refine tA_ 11 104 ?_ (b_ 76 4095) (take_ofW HT_.out HW_.out (by kernel_rfl)) rfl rfl (fun _ _ _ h => h) (by rfl) ?_ hHeld ?_ ?_ ?_
                    rotate_left
                    ·
                     rintro w' ⟨s0, s1, s2, s3, s4, s5, s6, s7⟩
                     go_simp
                     with_reducible rfl
                    rotate_left
                    ·
                     simp only [Act.put, sa_, s0_, s1_, i64_w, i32_w]
                     rfl
                    refine one_ (i := 12) (N := some 105) (b_ 76 8191) rfl rfl (one_of HT_.out (by kernel_rfl)) (by decide) (fun K hK => ?_)
                    refine goes_ Try.func15 (by kernel_rfl) rfl #[] (by rfl) rfl rfl (by (try simp only [List.map_toArray, List.map_cons, List.map_nil]); first | done | rfl | (simp only [List.length_drop, List.length_take]; rfl)) ?_
                    with_reducible refine (millhandlaw12_three.calls  t380 _ A17.out).mono ?_
                    rintro e w203 ⟨v381, rfl, ho0, hb⟩
                    refine ⟨_, rfl, ?_⟩
                    obtain ⟨HO307, HO311, HO343, HO346, HO350, HO353, HO357, HO360, HO364, HO382, BK318, BK325, BK332, BK339, BK371, BK378, HB⟩ := And.intro (Aside0.mk (Kd.R_elder' (by (with_reducible repeat (first | apply Kd.R_alloc | apply Kd.R_drewN | apply Kd.R_drew)); exact HO307.out) (Kd.R_base ho0) hb)) (And.intro (Aside0.mk (Kd.R_below (by (with_reducible repeat (first | apply Kd.R_alloc | apply Kd.R_drewN | apply Kd.R_drew)); exact HO311.out) hb)) (And.intro (Aside0.mk (Kd.R_below (by (with_reducible repeat (first | apply Kd.R_alloc | apply Kd.R_drewN | apply Kd.R_drew)); exact HO343.out) hb)) (And.intro (Aside0.mk (Kd.R_elder' (by (with_reducible repeat (first | apply Kd.R_alloc | apply Kd.R_drewN | apply Kd.R_drew)); exact HO346.out) (Kd.R_base ho0) hb)) (And.intro (Aside0.mk (Kd.R_below (by (with_reducible repeat (first | apply Kd.R_alloc | apply Kd.R_drewN | apply Kd.R_drew)); exact HO350.out) hb)) (And.intro (Aside0.mk (Kd.R_elder' (by (with_reducible repeat (first | apply Kd.R_alloc | apply Kd.R_drewN | apply Kd.R_drew)); exact HO353.out) (Kd.R_base ho0) hb)) (And.intro (Aside0.mk (Kd.R_below (by (with_reducible repeat (first | apply Kd.R_alloc | apply Kd.R_drewN | apply Kd.R_drew)); exact HO357.out) hb)) (And.intro (Aside0.mk (Kd.R_below (by (with_reducible repeat (first | apply Kd.R_alloc | apply Kd.R_drewN | apply Kd.R_drew)); exact HO360.out) hb)) (And.intro (Aside0.mk (Kd.R_elder' (by (with_reducible repeat (first | apply Kd.R_alloc | apply Kd.R_drewN | apply Kd.R_drew)); exact HO364.out) (Kd.R_base ho0) hb)) (And.intro (Aside0.mk (Kd.R_lower (Kd.R_newB (Kd.R_newB (Kd.R_newB (Kd.R_newB (Kd.R_newB (Kd.R_newB (Kd.R_new' (Kd.R_new' (Kd.R_new' (Kd.R_new' ho0 (Kd.R_lt (by (with_reducible repeat (first | apply Kd.R_alloc | apply Kd.R_drewN | apply Kd.R_drew)); exact HO307.out))) (Kd.R_lt (by (with_reducible repeat (first | apply Kd.R_alloc | apply Kd.R_drewN | apply Kd.R_drew)); exact HO346.out))) (Kd.R_lt (by (with_reducible repeat (first | apply Kd.R_alloc | apply Kd.R_drewN | apply Kd.R_drew)); exact HO353.out))) (Kd.R_lt (by (with_reducible repeat (first | apply Kd.R_alloc | apply Kd.R_drewN | apply Kd.R_drew)); exact HO364.out))) (g := gb318) (o := .cells #[.string t312, .int .i64 t313, .bool t314, .string t315] 39 (0, 0)) (by (with_reducible repeat (first | refine blk_drewN ?_ _ | refine blk_drew ?_ | refine blk_alloc ?_ _)); exact BK318.out)) (g := gb325) (o := .cells #[.string t319, .int .i64 t320, .bool t321, .string t322] 39 (0, 0)) (by (with_reducible repeat (first | refine blk_drewN ?_ _ | refine blk_drew ?_ | refine blk_alloc ?_ _)); exact BK325.out)) (g := gb332) (o := .cells #[.string t326, .int .i64 t327, .bool t328, .string t329] 39 (0, 0)) (by (with_reducible repeat (first | refine blk_drewN ?_ _ | refine blk_drew ?_ | refine blk_alloc ?_ _)); exact BK332.out)) (g := gb339) (o := .cells #[.string t333, .int .i64 t334, .bool t335, .string t336] 39 (0, 0)) (by (with_reducible repeat (first | refine blk_drewN ?_ _ | refine blk_drew ?_ | refine blk_alloc ?_ _)); exact BK339.out)) (g := gb371) (o := .cells #[.string t365, .int .i64 t366, .bool t367, .string t368] 39 (0, 0)) (by (with_reducible repeat (first | refine blk_drewN ?_ _ | refine blk_drew ?_ | refine blk_alloc ?_ _)); exact BK371.out)) (g := gb378) (o := .cells #[.string t372, .int .i64 t373, .bool t374, .string t375] 39 (0, 0)) (by (with_reducible repeat (first | refine blk_drewN ?_ _ | refine blk_drew ?_ | refine blk_alloc ?_ _)); exact BK378.out)) (below_size (by repeat (first | (with_reducible first | exact HB.out | apply below_alloc | apply pw_below_drewN | apply below_drew1 | refine below_set ?_ GE318.out | refine below_set ?_ GE325.out | refine below_set ?_ GE332.out | refine below_set ?_ GE339.out | refine below_set ?_ GE371.out | refine below_set ?_ GE378.out) | exact HB.out))))) (And.intro (Aside0.mk (blk_below (g := gb318) (o := .cells #[.string t312, .int .i64 t313, .bool t314, .string t315] 39 (0, 0)) (by (with_reducible repeat (first | refine blk_drewN ?_ _ | refine blk_drew ?_ | refine blk_alloc ?_ _)); exact BK318.out) hb)) (And.intro (Aside0.mk (blk_below (g := gb325) (o := .cells #[.string t319, .int .i64 t320, .bool t321, .string t322] 39 (0, 0)) (by (with_reducible repeat (first | refine blk_drewN ?_ _ | refine blk_drew ?_ | refine blk_alloc ?_ _)); exact BK325.out) hb)) (And.intro (Aside0.mk (blk_below (g := gb332) (o := .cells #[.string t326, .int .i64 t327, .bool t328, .string t329] 39 (0, 0)) (by (with_reducible repeat (first | refine blk_drewN ?_ _ | refine blk_drew ?_ | refine blk_alloc ?_ _)); exact BK332.out) hb)) (And.intro (Aside0.mk (blk_below (g := gb339) (o := .cells #[.string t333, .int .i64 t334, .bool t335, .string t336] 39 (0, 0)) (by (with_reducible repeat (first | refine blk_drewN ?_ _ | refine blk_drew ?_ | refine blk_alloc ?_ _)); exact BK339.out) hb)) (And.intro (Aside0.mk (blk_below (g := gb371) (o := .cells #[.string t365, .int .i64 t366, .bool t367, .string t368] 39 (0, 0)) (by (with_reducible repeat (first | refine blk_drewN ?_ _ | refine blk_drew ?_ | refine blk_alloc ?_ _)); exact BK371.out) hb)) (And.intro (Aside0.mk (blk_below (g := gb378) (o := .cells #[.string t372, .int .i64 t373, .bool t374, .string t375] 39 (0, 0)) (by (with_reducible repeat (first | refine blk_drewN ?_ _ | refine blk_drew ?_ | refine blk_alloc ?_ _)); exact BK378.out) hb)) (Aside0.mk (below_step (by repeat (first | (with_reducible first | exact HB.out | apply below_alloc | apply pw_below_drewN | apply below_drew1 | refine below_set ?_ GE318.out | refine below_set ?_ GE325.out | refine below_set ?_ GE332.out | refine below_set ?_ GE339.out | refine below_set ?_ GE371.out | refine below_set ?_ GE378.out) | exact HB.out)) hb)))))))))))))))))
                    (try clear hb)
                    (try clear hb2)
                    (try clear hk)
                    (try clear hi)
                    (try clear ho0)
                    obtain ⟨Ao204, co204, eo204⟩ := Kd.R_slice HO382.out
                    (first | subst eo204 | (injection eo204 with f1_ f2_ f3_; have f4_ := f1_.symm; have f5_ := f3_.symm; clear f1_ f2_ f3_; subst f4_; subst f5_))
                    have p383 : 0 ≤ (0 : Int) := (by omega)
                    have q383 : 0 < (t380.length : Int) := of_decide_eq_true (by first | (with_reducible assumption) | assumption)
                    obtain ⟨ad383, e383, hx383_0, hx383_1, hx383_2, hx383_3⟩ := at_T39 (Kd.R_reads' HO382.out).2.2 0 p383 q383
                    cases e383
                    have qi383 : (0 < t380.length) = True := eq_true (by omega)
                    (try rw [show ((0 : Int)).toNat = 0 from rfl] at hx383_0)
                    (try rw [show 0 * 4 = 0 from rfl] at hx383_0)
                    (try rw [Addr.add_zero'] at hx383_0)
                    (try rw [show ((0 : Int)).toNat = 0 from rfl] at hx383_1)
                    (try rw [show 0 * 4 = 0 from rfl] at hx383_1)
                    (try rw [Addr.add_zero'] at hx383_1)
                    (try rw [show ((0 : Int)).toNat = 0 from rfl] at hx383_2)
                    (try rw [show 0 * 4 = 0 from rfl] at hx383_2)
                    (try rw [Addr.add_zero'] at hx383_2)
                    (try rw [show ((0 : Int)).toNat = 0 from rfl] at hx383_3)
                    (try rw [show 0 * 4 = 0 from rfl] at hx383_3)
                    (try rw [Addr.add_zero'] at hx383_3)
                    replace p383 := eq_true p383
                    replace q383 := eq_true q383
                    refine hK.out _ _ ⟨(blk_cell BK318.out 0).trans rfl, (blk_cell BK318.out 1).trans rfl, (blk_cell BK318.out 2).trans rfl, (blk_cell BK318.out 3).trans rfl, (blk_cell BK325.out 0).trans rfl, (blk_cell BK325.out 1).trans rfl, (blk_cell BK325.out 2).trans rfl, (blk_cell BK325.out 3).trans rfl⟩ (fun hHeld => ?_)
                    clear hK K
                    clear hHeld
                    refine moreH_ (fun w' => w'.cell? ad383 = some (.string ((rd_T39 t380 0).f0)) ∧ w'.cell? ⟨ad383.block, ad383.off + 1, none⟩ = some (.int .i64 ((rd_T39 t380 0).f1)) ∧ w'.cell? ⟨ad383.block, ad383.off + 2, none⟩ = some (.bool ((rd_T39 t380 0).f2)) ∧ w'.cell? ⟨ad383.block, ad383.off + 3, none⟩ = some (.string ((rd_T39 t380 0).f3))) ⟨(blk_cell BK318.out 0).trans rfl, (blk_cell BK318.out 1).trans rfl, (blk_cell BK318.out 2).trans rfl, (blk_cell BK318.out 3).trans rfl, (blk_cell BK325.out 0).trans rfl, (blk_cell BK325.out 1).trans rfl, (blk_cell BK325.out 2).trans rfl, (blk_cell BK325.out 3).trans rfl⟩ ⟨hx383_0, hx383_1, hx383_2, hx383_3⟩ (fun hHeld => ?_)
                    refine norm_ (a' := ?_) ?_ ?_
                    rotate_left
                    ·
                     show Act.put _ (some 105) _ = _
                     simp only [Act.put, sa_, s0_, s1_, i64_w, i32_w]
                     rfl
                    refine pA_ 13 106 ?_ (b_ 76 16383) (any_of HT_.out (by kernel_rfl)) rfl rfl (fun _ _ _ h => h) (by rfl) ?_ ?_ ?_ ?_
                    rotate_left
                    ·
                     intro w'
                     go_simp
                     with_reducible rfl
                    rotate_left
                    ·
                     simp only [Act.put, sa_, s0_, s1_, i64_w, i32_w]
                     rfl
                    refine tA_ 14 107 ?_ (b_ 76 32767) (take_ofW HT_.out HW_.out (by kernel_rfl)) rfl rfl (fun _ _ _ h => h) (by rfl) ?_ hHeld ?_ ?_ ?_
                    rotate_left
                    ·
                     rintro w' ⟨⟨s0, s1, s2, s3, s4, s5, s6, s7⟩, s8, s9, s10, s11⟩
                     go_simp
                     with_reducible rfl
                    rotate_left
                    ·
                     simp only [Act.put, sa_, s0_, s1_, i64_w, i32_w]
                     rfl
                    refine pA_ 15 108 ?_ (b_ 76 65535) (any_of HT_.out (by kernel_rfl)) rfl rfl (fun _ _ _ h => h) (by rfl) ?_ ?_ ?_ ?_
                    rotate_left
                    ·
                     intro w'
                     go_simp
                     with_reducible rfl
                    rotate_left
                    ·
                     simp only [Act.put, sa_, s0_, s1_, i64_w, i32_w]
                     rfl
                    refine pA_ 16 109 ?_ (b_ 76 131071) (any_of HT_.out (by kernel_rfl)) rfl rfl (fun _ _ _ h => h) (by rfl) ?_ ?_ ?_ ?_
                    rotate_left
                    ·
                     intro w'
                     go_simp
                     with_reducible rfl
                    rotate_left
                    ·
                     simp only [Act.put, sa_, s0_, s1_, i64_w, i32_w]
                     rfl
                    refine pA_ 17 110 ?_ (b_ 76 262143) (any_of HT_.out (by kernel_rfl)) rfl rfl (fun _ _ _ h => h) (by rfl) ?_ ?_ ?_ ?_
                    rotate_left
                    ·
                     intro w'
                     go_simp
                     with_reducible rfl
                    rotate_left
                    ·
                     simp only [Act.put, sa_, s0_, s1_, i64_w, i32_w]
                     rfl
                    refine pA_ 18 111 ?_ (b_ 76 524287) (any_of HT_.out (by kernel_rfl)) rfl rfl (fun _ _ _ h => h) (by rfl) ?_ ?_ ?_ ?_
                    rotate_left
                    ·
                     intro w'
                     go_simp
                     with_reducible rfl
                    rotate_left
                    ·
                     simp only [Act.put, sa_, s0_, s1_, i64_w, i32_w]
                     rfl
                    refine pA_ 19 112 ?_ (b_ 76 1048575) (any_of HT_.out (by kernel_rfl)) rfl rfl (fun _ _ _ h => h) (by rfl) ?_ ?_ ?_ ?_
                    rotate_left
                    ·
                     intro w'
                     go_simp
                     with_reducible rfl
                    rotate_left
                    ·
                     simp only [Act.put, sa_, s0_, s1_, i64_w, i32_w]
                     rfl
                    refine pA_ 20 113 ?_ (b_ 76 2097151) (any_of HT_.out (by kernel_rfl)) rfl rfl (fun _ _ _ h => h) (by rfl) ?_ ?_ ?_ ?_
                    rotate_left
                    ·
                     intro w'
                     go_simp
                     with_reducible rfl
                    rotate_left
                    ·
                     simp only [Act.put, sa_, s0_, s1_, i64_w, i32_w]
                     rfl
                    refine pA_ 21 114 ?_ (b_ 76 4194303) (any_of HT_.out (by kernel_rfl)) rfl rfl (fun _ _ _ h => h) (by rfl) ?_ ?_ ?_ ?_
                    rotate_left
                    ·
                     intro w'
                     go_simp
                     with_reducible rfl
                    rotate_left
                    ·
                     simp only [Act.put, sa_, s0_, s1_, i64_w, i32_w]
                     rfl
                    refine pA_ 22 115 ?_ (b_ 76 8388607) (any_of HT_.out (by kernel_rfl)) rfl rfl (fun _ _ _ h => h) (by rfl) ?_ ?_ ?_ ?_
                    rotate_left
                    ·
                     intro w'
                     go_simp
                     with_reducible rfl
                    rotate_left
                    ·
                     simp only [Act.put, sa_, s0_, s1_, i64_w, i32_w]
                     rfl
                    refine pA_ 23 116 ?_ (b_ 76 16777215) (any_of HT_.out (by kernel_rfl)) rfl rfl (fun _ _ _ h => h) (by rfl) ?_ ?_ ?_ ?_
                    rotate_left
                    ·
                     intro w'
                     go_simp
                     with_reducible rfl
                    rotate_left
                    ·
                     simp only [Act.put, sa_, s0_, s1_, i64_w, i32_w]
                     rfl
                    refine pA_ 24 117 ?_ (b_ 76 33554431) (any_of HT_.out (by kernel_rfl)) rfl rfl (fun _ _ _ h => h) (by rfl) ?_ ?_ ?_ ?_
                    rotate_left
                    ·
                     intro w'
                     go_simp
                     with_reducible rfl
                    rotate_left
                    ·
                     simp only [Act.put, sa_, s0_, s1_, i64_w, i32_w]
                     rfl
                    refine tA_ 25 118 ?_ (b_ 76 67108863) (take_ofW HT_.out HW_.out (by kernel_rfl)) rfl rfl (fun _ _ _ h => h) (by rfl) ?_ hHeld ?_ ?_ ?_
                    rotate_left
                    ·
                     rintro w' ⟨⟨s0, s1, s2, s3, s4, s5, s6, s7⟩, s8, s9, s10, s11⟩
                     go_simp
                     with_reducible rfl
                    rotate_left
                    ·
                     simp only [Act.put, sa_, s0_, s1_, i64_w, i32_w]
                     rfl
                    refine one_ (i := 26) (N := some 119) (b_ 76 134217727) rfl rfl (one_of HT_.out (by kernel_rfl)) (by decide) (fun K hK => ?_)
                    refine goes_ Try.func15 (by kernel_rfl) rfl #[] (by rfl) rfl rfl (by (try simp only [List.map_toArray, List.map_cons, List.map_nil]); first | done | rfl | (simp only [List.length_drop, List.length_take]; rfl)) ?_
                    with_reducible refine (millhandlaw12_three.calls  t384 _ A22.out).mono ?_
                    rintro e w205 ⟨v385, rfl, ho0, hb⟩
                    have HS8_ := (hb.cell (World.block_lt_of_cell? _ _ (hHeld.2.1))).trans (hHeld.2.1)
                    have HS9_ := (hb.cell (World.block_lt_of_cell? _ _ (hHeld.2.2.1))).trans (hHeld.2.2.1)
                    have HS10_ := (hb.cell (World.block_lt_of_cell? _ _ (hHeld.2.2.2.1))).trans (hHeld.2.2.2.1)
                    have HS11_ := (hb.cell (World.block_lt_of_cell? _ _ (hHeld.2.2.2.2))).trans (hHeld.2.2.2.2)
                    refine ⟨_, rfl, ?_⟩
                    obtain ⟨HO307, HO311, HO343, HO346, HO350, HO353, HO357, HO360, HO364, HO382, HO386, BK318, BK325, BK332, BK339, BK371, BK378, HB⟩ := And.intro (Aside0.mk (Kd.R_elder' (by (with_reducible repeat (first | apply Kd.R_alloc | apply Kd.R_drewN | apply Kd.R_drew)); exact HO307.out) (Kd.R_base ho0) hb)) (And.intro (Aside0.mk (Kd.R_below (by (with_reducible repeat (first | apply Kd.R_alloc | apply Kd.R_drewN | apply Kd.R_drew)); exact HO311.out) hb)) (And.intro (Aside0.mk (Kd.R_below (by (with_reducible repeat (first | apply Kd.R_alloc | apply Kd.R_drewN | apply Kd.R_drew)); exact HO343.out) hb)) (And.intro (Aside0.mk (Kd.R_elder' (by (with_reducible repeat (first | apply Kd.R_alloc | apply Kd.R_drewN | apply Kd.R_drew)); exact HO346.out) (Kd.R_base ho0) hb)) (And.intro (Aside0.mk (Kd.R_below (by (with_reducible repeat (first | apply Kd.R_alloc | apply Kd.R_drewN | apply Kd.R_drew)); exact HO350.out) hb)) (And.intro (Aside0.mk (Kd.R_elder' (by (with_reducible repeat (first | apply Kd.R_alloc | apply Kd.R_drewN | apply Kd.R_drew)); exact HO353.out) (Kd.R_base ho0) hb)) (And.intro (Aside0.mk (Kd.R_below (by (with_reducible repeat (first | apply Kd.R_alloc | apply Kd.R_drewN | apply Kd.R_drew)); exact HO357.out) hb)) (And.intro (Aside0.mk (Kd.R_below (by (with_reducible repeat (first | apply Kd.R_alloc | apply Kd.R_drewN | apply Kd.R_drew)); exact HO360.out) hb)) (And.intro (Aside0.mk (Kd.R_elder' (by (with_reducible repeat (first | apply Kd.R_alloc | apply Kd.R_drewN | apply Kd.R_drew)); exact HO364.out) (Kd.R_base ho0) hb)) (And.intro (Aside0.mk (Kd.R_elder' (by (with_reducible repeat (first | apply Kd.R_alloc | apply Kd.R_drewN | apply Kd.R_drew)); exact HO382.out) (Kd.R_base ho0) hb)) (And.intro (Aside0.mk (Kd.R_lower (Kd.R_newB (Kd.R_newB (Kd.R_newB (Kd.R_newB (Kd.R_newB (Kd.R_newB (Kd.R_new' (Kd.R_new' (Kd.R_new' (Kd.R_new' (Kd.R_new' ho0 (Kd.R_lt (by (with_reducible repeat (first | apply Kd.R_alloc | apply Kd.R_drewN | apply Kd.R_drew)); exact HO307.out))) (Kd.R_lt (by (with_reducible repeat (first | apply Kd.R_alloc | apply Kd.R_drewN | apply Kd.R_drew)); exact HO346.out))) (Kd.R_lt (by (with_reducible repeat (first | apply Kd.R_alloc | apply Kd.R_drewN | apply Kd.R_drew)); exact HO353.out))) (Kd.R_lt (by (with_reducible repeat (first | apply Kd.R_alloc | apply Kd.R_drewN | apply Kd.R_drew)); exact HO364.out))) (Kd.R_lt (by (with_reducible repeat (first | apply Kd.R_alloc | apply Kd.R_drewN | apply Kd.R_drew)); exact HO382.out))) (g := gb318) (o := .cells #[.string t312, .int .i64 t313, .bool t314, .string t315] 39 (0, 0)) (by (with_reducible repeat (first | refine blk_drewN ?_ _ | refine blk_drew ?_ | refine blk_alloc ?_ _)); exact BK318.out)) (g := gb325) (o := .cells #[.string t319, .int .i64 t320, .bool t321, .string t322] 39 (0, 0)) (by (with_reducible repeat (first | refine blk_drewN ?_ _ | refine blk_drew ?_ | refine blk_alloc ?_ _)); exact BK325.out)) (g := gb332) (o := .cells #[.string t326, .int .i64 t327, .bool t328, .string t329] 39 (0, 0)) (by (with_reducible repeat (first | refine blk_drewN ?_ _ | refine blk_drew ?_ | refine blk_alloc ?_ _)); exact BK332.out)) (g := gb339) (o := .cells #[.string t333, .int .i64 t334, .bool t335, .string t336] 39 (0, 0)) (by (with_reducible repeat (first | refine blk_drewN ?_ _ | refine blk_drew ?_ | refine blk_alloc ?_ _)); exact BK339.out)) (g := gb371) (o := .cells #[.string t365, .int .i64 t366, .bool t367, .string t368] 39 (0, 0)) (by (with_reducible repeat (first | refine blk_drewN ?_ _ | refine blk_drew ?_ | refine blk_alloc ?_ _)); exact BK371.out)) (g := gb378) (o := .cells #[.string t372, .int .i64 t373, .bool t374, .string t375] 39 (0, 0)) (by (with_reducible repeat (first | refine blk_drewN ?_ _ | refine blk_drew ?_ | refine blk_alloc ?_ _)); exact BK378.out)) (below_size (by repeat (first | (with_reducible first | exact HB.out | apply below_alloc | apply pw_below_drewN | apply below_drew1 | refine below_set ?_ GE318.out | refine below_set ?_ GE325.out | refine below_set ?_ GE332.out | refine below_set ?_ GE339.out | refine below_set ?_ GE371.out | refine below_set ?_ GE378.out) | exact HB.out))))) (And.intro (Aside0.mk (blk_below (g := gb318) (o := .cells #[.string t312, .int .i64 t313, .bool t314, .string t315] 39 (0, 0)) (by (with_reducible repeat (first | refine blk_drewN ?_ _ | refine blk_drew ?_ | refine blk_alloc ?_ _)); exact BK318.out) hb)) (And.intro (Aside0.mk (blk_below (g := gb325) (o := .cells #[.string t319, .int .i64 t320, .bool t321, .string t322] 39 (0, 0)) (by (with_reducible repeat (first | refine blk_drewN ?_ _ | refine blk_drew ?_ | refine blk_alloc ?_ _)); exact BK325.out) hb)) (And.intro (Aside0.mk (blk_below (g := gb332) (o := .cells #[.string t326, .int .i64 t327, .bool t328, .string t329] 39 (0, 0)) (by (with_reducible repeat (first | refine blk_drewN ?_ _ | refine blk_drew ?_ | refine blk_alloc ?_ _)); exact BK332.out) hb)) (And.intro (Aside0.mk (blk_below (g := gb339) (o := .cells #[.string t333, .int .i64 t334, .bool t335, .string t336] 39 (0, 0)) (by (with_reducible repeat (first | refine blk_drewN ?_ _ | refine blk_drew ?_ | refine blk_alloc ?_ _)); exact BK339.out) hb)) (And.intro (Aside0.mk (blk_below (g := gb371) (o := .cells #[.string t365, .int .i64 t366, .bool t367, .string t368] 39 (0, 0)) (by (with_reducible repeat (first | refine blk_drewN ?_ _ | refine blk_drew ?_ | refine blk_alloc ?_ _)); exact BK371.out) hb)) (And.intro (Aside0.mk (blk_below (g := gb378) (o := .cells #[.string t372, .int .i64 t373, .bool t374, .string t375] 39 (0, 0)) (by (with_reducible repeat (first | refine blk_drewN ?_ _ | refine blk_drew ?_ | refine blk_alloc ?_ _)); exact BK378.out) hb)) (Aside0.mk (below_step (by repeat (first | (with_reducible first | exact HB.out | apply below_alloc | apply pw_below_drewN | apply below_drew1 | refine below_set ?_ GE318.out | refine below_set ?_ GE325.out | refine below_set ?_ GE332.out | refine below_set ?_ GE339.out | refine below_set ?_ GE371.out | refine below_set ?_ GE378.out) | exact HB.out)) hb))))))))))))))))))
                    (try clear hb)
                    (try clear hb2)
                    (try clear hk)
                    (try clear hi)
                    (try clear ho0)
                    obtain ⟨Ao206, co206, eo206⟩ := Kd.R_slice HO386.out
                    (first | subst eo206 | (injection eo206 with f1_ f2_ f3_; have f4_ := f1_.symm; have f5_ := f3_.symm; clear f1_ f2_ f3_; subst f4_; subst f5_))
                    have p387 : 0 ≤ (1 : Int) := (by omega)
                    have q387 : 1 < (t384.length : Int) := of_decide_eq_true (by first | (with_reducible assumption) | assumption)
                    obtain ⟨ad387, e387, hx387_0, hx387_1, hx387_2, hx387_3⟩ := at_T39 (Kd.R_reads' HO386.out).2.2 1 p387 q387
                    cases e387
                    (try simp only [show (1 : Int).toNat = 1 from rfl, Nat.reduceMul, Nat.reduceEqDiff, Go.Addr.add, ↓reduceIte] at hx387_0)
                    (try simp only [show (1 : Int).toNat = 1 from rfl, Nat.reduceMul, Nat.reduceEqDiff, Go.Addr.add, ↓reduceIte] at hx387_1)
                    (try simp only [show (1 : Int).toNat = 1 from rfl, Nat.reduceMul, Nat.reduceEqDiff, Go.Addr.add, ↓reduceIte] at hx387_2)
                    (try simp only [show (1 : Int).toNat = 1 from rfl, Nat.reduceMul, Nat.reduceEqDiff, Go.Addr.add, ↓reduceIte] at hx387_3)
                    have qi387 : (1 < t384.length) = True := eq_true (by omega)
                    (try rw [show ((1 : Int)).toNat = 1 from rfl] at hx387_0)
                    (try rw [show 1 * 4 = 4 from rfl] at hx387_0)
                    (try rw [show ((1 : Int)).toNat = 1 from rfl] at hx387_1)
                    (try rw [show 1 * 4 = 4 from rfl] at hx387_1)
                    (try rw [show ((1 : Int)).toNat = 1 from rfl] at hx387_2)
                    (try rw [show 1 * 4 = 4 from rfl] at hx387_2)
                    (try rw [show ((1 : Int)).toNat = 1 from rfl] at hx387_3)
                    (try rw [show 1 * 4 = 4 from rfl] at hx387_3)
                    replace p387 := eq_true p387
                    replace q387 := eq_true q387
                    refine hK.out _ _ ⟨⟨(blk_cell BK318.out 0).trans rfl, (blk_cell BK318.out 1).trans rfl, (blk_cell BK318.out 2).trans rfl, (blk_cell BK318.out 3).trans rfl, (blk_cell BK325.out 0).trans rfl, (blk_cell BK325.out 1).trans rfl, (blk_cell BK325.out 2).trans rfl, (blk_cell BK325.out 3).trans rfl⟩, ⟨HS8_, HS9_, HS10_, HS11_⟩⟩ (fun hHeld => ?_)
                    clear hK K
                    clear hHeld
                    refine moreH_ (fun w' => w'.cell? ⟨ad387.block, ad387.off + 4, none⟩ = some (.string ((rd_T39 t384 1).f0)) ∧ w'.cell? ⟨ad387.block, ad387.off + 4 + 1, none⟩ = some (.int .i64 ((rd_T39 t384 1).f1)) ∧ w'.cell? ⟨ad387.block, ad387.off + 4 + 2, none⟩ = some (.bool ((rd_T39 t384 1).f2)) ∧ w'.cell? ⟨ad387.block, ad387.off + 4 + 3, none⟩ = some (.string ((rd_T39 t384 1).f3))) ⟨⟨(blk_cell BK318.out 0).trans rfl, (blk_cell BK318.out 1).trans rfl, (blk_cell BK318.out 2).trans rfl, (blk_cell BK318.out 3).trans rfl, (blk_cell BK325.out 0).trans rfl, (blk_cell BK325.out 1).trans rfl, (blk_cell BK325.out 2).trans rfl, (blk_cell BK325.out 3).trans rfl⟩, ⟨HS8_, HS9_, HS10_, HS11_⟩⟩ ⟨hx387_0, hx387_1, hx387_2, hx387_3⟩ (fun hHeld => ?_)
                    refine norm_ (a' := ?_) ?_ ?_
                    rotate_left
                    ·
                     show Act.put _ (some 119) _ = _
                     simp only [Act.put, sa_, s0_, s1_, i64_w, i32_w]
                     rfl
                    refine pA_ 27 120 ?_ (b_ 76 268435455) (any_of HT_.out (by kernel_rfl)) rfl rfl (fun _ _ _ h => h) (by rfl) ?_ ?_ ?_ ?_
                    rotate_left
                    ·
                     intro w'
                     go_simp
                     with_reducible rfl
                    rotate_left
                    ·
                     simp only [Act.put, sa_, s0_, s1_, i64_w, i32_w]
                     rfl
                    refine tA_ 28 121 ?_ (b_ 76 536870911) (take_ofW HT_.out HW_.out (by kernel_rfl)) rfl rfl (fun _ _ _ h => h) (by rfl) ?_ hHeld ?_ ?_ ?_
                    rotate_left
                    ·
                     rintro w' ⟨⟨⟨s0, s1, s2, s3, s4, s5, s6, s7⟩, s8, s9, s10, s11⟩, s12, s13, s14, s15⟩
                     go_simp
                     with_reducible rfl
                    rotate_left
                    ·
                     simp only [Act.put, sa_, s0_, s1_, i64_w, i32_w]
                     rfl
                    refine pA_ 29 122 ?_ (b_ 76 1073741823) (any_of HT_.out (by kernel_rfl)) rfl rfl (fun _ _ _ h => h) (by rfl) ?_ ?_ ?_ ?_
                    rotate_left
                    ·
                     intro w'
                     go_simp
                     with_reducible rfl
                    rotate_left
                    ·
                     simp only [Act.put, sa_, s0_, s1_, i64_w, i32_w]
                     rfl
                    refine pA_ 30 123 ?_ (b_ 76 2147483647) (any_of HT_.out (by kernel_rfl)) rfl rfl (fun _ _ _ h => h) (by rfl) ?_ ?_ ?_ ?_
                    rotate_left
                    ·
                     intro w'
                     go_simp
                     with_reducible rfl
                    rotate_left
                    ·
                     simp only [Act.put, sa_, s0_, s1_, i64_w, i32_w]
                     rfl
                    refine pA_ 31 124 ?_ (b_ 76 4294967295) (any_of HT_.out (by kernel_rfl)) rfl rfl (fun _ _ _ h => h) (by rfl) ?_ ?_ ?_ ?_
                    rotate_left
                    ·
                     intro w'
                     go_simp
                     with_reducible rfl
                    rotate_left
                    ·
                     simp only [Act.put, sa_, s0_, s1_, i64_w, i32_w]
                     rfl
                    refine pA_ 32 125 ?_ (b_ 76 8589934591) (any_of HT_.out (by kernel_rfl)) rfl rfl (fun _ _ _ h => h) (by rfl) ?_ ?_ ?_ ?_
                    rotate_left
                    ·
                     intro w'
                     go_simp
                     with_reducible rfl
                    rotate_left
                    ·
                     simp only [Act.put, sa_, s0_, s1_, i64_w, i32_w]
                     rfl
                    refine pA_ 33 126 ?_ (b_ 76 17179869183) (any_of HT_.out (by kernel_rfl)) rfl rfl (fun _ _ _ h => h) (by rfl) ?_ ?_ ?_ ?_
                    rotate_left
                    ·
                     intro w'
                     go_simp
                     with_reducible rfl
                    rotate_left
                    ·
                     simp only [Act.put, sa_, s0_, s1_, i64_w, i32_w]
                     rfl
                    refine pA_ 34 127 ?_ (b_ 76 34359738367) (any_of HT_.out (by kernel_rfl)) rfl rfl (fun _ _ _ h => h) (by rfl) ?_ ?_ ?_ ?_
                    rotate_left
                    ·
                     intro w'
                     go_simp
                     with_reducible rfl
                    rotate_left
                    ·
                     simp only [Act.put, sa_, s0_, s1_, i64_w, i32_w]
                     rfl
                    refine pA_ 35 128 ?_ (b_ 76 68719476735) (any_of HT_.out (by kernel_rfl)) rfl rfl (fun _ _ _ h => h) (by rfl) ?_ ?_ ?_ ?_
                    rotate_left
                    ·
                     intro w'
                     go_simp
                     with_reducible rfl
                    rotate_left
                    ·
                     simp only [Act.put, sa_, s0_, s1_, i64_w, i32_w]
                     rfl
                    refine pA_ 36 129 ?_ (b_ 76 137438953471) (any_of HT_.out (by kernel_rfl)) rfl rfl (fun _ _ _ h => h) (by rfl) ?_ ?_ ?_ ?_
                    rotate_left
                    ·
                     intro w'
                     go_simp
                     with_reducible rfl
                    rotate_left
                    ·
                     simp only [Act.put, sa_, s0_, s1_, i64_w, i32_w]
                     rfl
                    refine pA_ 37 130 ?_ (b_ 76 274877906943) (any_of HT_.out (by kernel_rfl)) rfl rfl (fun _ _ _ h => h) (by rfl) ?_ ?_ ?_ ?_
                    rotate_left
                    ·
                     intro w'
                     go_simp
                     with_reducible rfl
                    rotate_left
                    ·
                     simp only [Act.put, sa_, s0_, s1_, i64_w, i32_w]
                     rfl
                    refine pA_ 38 131 ?_ (b_ 76 549755813887) (any_of HT_.out (by kernel_rfl)) rfl rfl (fun _ _ _ h => h) (by rfl) ?_ ?_ ?_ ?_
                    rotate_left
                    ·
                     intro w'
                     go_simp
                     with_reducible rfl
                    rotate_left
                    ·
                     simp only [Act.put, sa_, s0_, s1_, i64_w, i32_w]
                     rfl
                    refine pA_ 39 132 ?_ (b_ 76 1099511627775) (any_of HT_.out (by kernel_rfl)) rfl rfl (fun _ _ _ h => h) (by rfl) ?_ ?_ ?_ ?_
                    rotate_left
                    ·
                     intro w'
                     go_simp
                     with_reducible rfl
                    rotate_left
                    ·
                     simp only [Act.put, sa_, s0_, s1_, i64_w, i32_w]
                     rfl
                    refine pA_ 40 133 ?_ (b_ 76 2199023255551) (any_of HT_.out (by kernel_rfl)) rfl rfl (fun _ _ _ h => h) (by rfl) ?_ ?_ ?_ ?_
                    rotate_left
                    ·
                     intro w'
                     go_simp
                     with_reducible rfl
                    rotate_left
                    ·
                     simp only [Act.put, sa_, s0_, s1_, i64_w, i32_w]
                     rfl
                    refine pA_ 41 134 ?_ (b_ 76 4398046511103) (any_of HT_.out (by kernel_rfl)) rfl rfl (fun _ _ _ h => h) (by rfl) ?_ ?_ ?_ ?_
                    rotate_left
                    ·
                     intro w'
                     go_simp
                     with_reducible rfl
                    rotate_left
                    ·
                     simp only [Act.put, sa_, s0_, s1_, i64_w, i32_w]
                     rfl
                    refine pA_ 42 135 ?_ (b_ 76 8796093022207) (any_of HT_.out (by kernel_rfl)) rfl rfl (fun _ _ _ h => h) (by rfl) ?_ ?_ ?_ ?_
                    rotate_left
                    ·
                     intro w'
                     go_simp
                     with_reducible rfl
                    rotate_left
                    ·
                     simp only [Act.put, sa_, s0_, s1_, i64_w, i32_w]
                     rfl
                    refine pA_ 43 136 ?_ (b_ 76 17592186044415) (any_of HT_.out (by kernel_rfl)) rfl rfl (fun _ _ _ h => h) (by rfl) ?_ ?_ ?_ ?_
                    rotate_left
                    ·
                     intro w'
                     go_simp
                     with_reducible rfl
                    rotate_left
                    ·
                     simp only [Act.put, sa_, s0_, s1_, i64_w, i32_w]
                     rfl
                    refine pA_ 44 137 ?_ (b_ 76 35184372088831) (any_of HT_.out (by kernel_rfl)) rfl rfl (fun _ _ _ h => h) (by rfl) ?_ ?_ ?_ ?_
                    rotate_left
                    ·
                     intro w'
                     go_simp
                     with_reducible rfl
                    rotate_left
                    ·
                     simp only [Act.put, sa_, s0_, s1_, i64_w, i32_w]
                     rfl
                    refine pA_ 45 138 ?_ (b_ 76 70368744177663) (any_of HT_.out (by kernel_rfl)) rfl rfl (fun _ _ _ h => h) (by rfl) ?_ ?_ ?_ ?_
                    rotate_left
                    ·
                     intro w'
                     go_simp
                     with_reducible rfl
                    rotate_left
                    ·
                     simp only [Act.put, sa_, s0_, s1_, i64_w, i32_w]
                     rfl
                    refine pA_ 46 139 ?_ (b_ 76 140737488355327) (any_of HT_.out (by kernel_rfl)) rfl rfl (fun _ _ _ h => h) (by rfl) ?_ ?_ ?_ ?_
                    rotate_left
                    ·
                     intro w'
                     go_simp
                     with_reducible rfl
                    rotate_left
                    ·
                     simp only [Act.put, sa_, s0_, s1_, i64_w, i32_w]
                     rfl
                    refine pA_ 47 140 ?_ (b_ 76 281474976710655) (any_of HT_.out (by kernel_rfl)) rfl rfl (fun _ _ _ h => h) (by rfl) ?_ ?_ ?_ ?_
                    rotate_left
                    ·
                     intro w'
                     go_simp
                     with_reducible rfl
                    rotate_left
                    ·
                     simp only [Act.put, sa_, s0_, s1_, i64_w, i32_w]
                     rfl
                    refine pA_ 48 141 ?_ (b_ 76 562949953421311) (any_of HT_.out (by kernel_rfl)) rfl rfl (fun _ _ _ h => h) (by rfl) ?_ ?_ ?_ ?_
                    rotate_left
                    ·
                     intro w'
                     go_simp
                     with_reducible rfl
                    rotate_left
                    ·
                     simp only [Act.put, sa_, s0_, s1_, i64_w, i32_w]
                     rfl
                    refine pA_ 49 142 ?_ (b_ 76 1125899906842623) (any_of HT_.out (by kernel_rfl)) rfl rfl (fun _ _ _ h => h) (by rfl) ?_ ?_ ?_ ?_
                    rotate_left
                    ·
                     intro w'
                     go_simp
                     with_reducible rfl
                    rotate_left
                    ·
                     simp only [Act.put, sa_, s0_, s1_, i64_w, i32_w]
                     rfl
                    refine pA_ 50 143 ?_ (b_ 76 2251799813685247) (any_of HT_.out (by kernel_rfl)) rfl rfl (fun _ _ _ h => h) (by rfl) ?_ ?_ ?_ ?_
                    rotate_left
                    ·
                     intro w'
                     go_simp
                     with_reducible rfl
                    rotate_left
                    ·
                     simp only [Act.put, sa_, s0_, s1_, i64_w, i32_w]
                     rfl
                    refine pA_ 51 144 ?_ (b_ 76 4503599627370495) (any_of HT_.out (by kernel_rfl)) rfl rfl (fun _ _ _ h => h) (by rfl) ?_ ?_ ?_ ?_
                    rotate_left
                    ·
                     intro w'
                     go_simp
                     with_reducible rfl
                    rotate_left
                    ·
                     simp only [Act.put, sa_, s0_, s1_, i64_w, i32_w]
                     rfl
                    refine pA_ 52 145 ?_ (b_ 76 9007199254740991) (any_of HT_.out (by kernel_rfl)) rfl rfl (fun _ _ _ h => h) (by rfl) ?_ ?_ ?_ ?_
                    rotate_left
                    ·
                     intro w'
                     go_simp
                     with_reducible rfl
                    rotate_left
                    ·
                     simp only [Act.put, sa_, s0_, s1_, i64_w, i32_w]
                     rfl
                    refine pA_ 53 146 ?_ (b_ 76 18014398509481983) (any_of HT_.out (by kernel_rfl)) rfl rfl (fun _ _ _ h => h) (by rfl) ?_ ?_ ?_ ?_
                    rotate_left
                    ·
                     intro w'
                     go_simp
                     with_reducible rfl
                    rotate_left
                    ·
                     simp only [Act.put, sa_, s0_, s1_, i64_w, i32_w]
                     rfl
                    refine pA_ 54 147 ?_ (b_ 76 36028797018963967) (any_of HT_.out (by kernel_rfl)) rfl rfl (fun _ _ _ h => h) (by rfl) ?_ ?_ ?_ ?_
                    rotate_left
                    ·
                     intro w'
                     go_simp
                     with_reducible rfl
                    rotate_left
                    ·
                     simp only [Act.put, sa_, s0_, s1_, i64_w, i32_w]
                     rfl
                    refine pA_ 55 148 ?_ (b_ 76 72057594037927935) (any_of HT_.out (by kernel_rfl)) rfl rfl (fun _ _ _ h => h) (by rfl) ?_ ?_ ?_ ?_
                    rotate_left
                    ·
                     intro w'
                     go_simp
                     with_reducible rfl
                    rotate_left
                    ·
                     simp only [Act.put, sa_, s0_, s1_, i64_w, i32_w]
                     rfl
                    refine pA_ 56 149 ?_ (b_ 76 144115188075855871) (any_of HT_.out (by kernel_rfl)) rfl rfl (fun _ _ _ h => h) (by rfl) ?_ ?_ ?_ ?_
                    rotate_left
                    ·
                     intro w'
                     go_simp
                     with_reducible rfl
                    rotate_left
                    ·
                     simp only [Act.put, sa_, s0_, s1_, i64_w, i32_w]
                     rfl
                    refine pA_ 57 150 ?_ (b_ 76 288230376151711743) (any_of HT_.out (by kernel_rfl)) rfl rfl (fun _ _ _ h => h) (by rfl) ?_ ?_ ?_ ?_
                    rotate_left
                    ·
                     intro w'
                     go_simp
                     with_reducible rfl
                    rotate_left
                    ·
                     simp only [Act.put, sa_, s0_, s1_, i64_w, i32_w]
                     rfl
                    refine pA_ 58 151 ?_ (b_ 76 576460752303423487) (any_of HT_.out (by kernel_rfl)) rfl rfl (fun _ _ _ h => h) (by rfl) ?_ ?_ ?_ ?_
                    rotate_left
                    ·
                     intro w'
                     go_simp
                     with_reducible rfl
                    rotate_left
                    ·
                     simp only [Act.put, sa_, s0_, s1_, i64_w, i32_w]
                     rfl
                    refine pA_ 59 152 ?_ (b_ 76 1152921504606846975) (any_of HT_.out (by kernel_rfl)) rfl rfl (fun _ _ _ h => h) (by rfl) ?_ ?_ ?_ ?_
                    rotate_left
                    ·
                     intro w'
                     go_simp
                     with_reducible rfl
                    rotate_left
                    ·
                     simp only [Act.put, sa_, s0_, s1_, i64_w, i32_w]
                     rfl
                    refine pA_ 60 153 ?_ (b_ 76 2305843009213693951) (any_of HT_.out (by kernel_rfl)) rfl rfl (fun _ _ _ h => h) (by rfl) ?_ ?_ ?_ ?_
                    rotate_left
                    ·
                     intro w'
                     go_simp
                     with_reducible rfl
                    rotate_left
                    ·
                     simp only [Act.put, sa_, s0_, s1_, i64_w, i32_w]
                     rfl
                    refine pA_ 61 154 ?_ (b_ 76 4611686018427387903) (any_of HT_.out (by kernel_rfl)) rfl rfl (fun _ _ _ h => h) (by rfl) ?_ ?_ ?_ ?_
                    rotate_left
                    ·
                     intro w'
                     go_simp
                     with_reducible rfl
                    rotate_left
                    ·
                     simp only [Act.put, sa_, s0_, s1_, i64_w, i32_w]
                     rfl
                    refine pA_ 62 155 ?_ (b_ 76 9223372036854775807) (any_of HT_.out (by kernel_rfl)) rfl rfl (fun _ _ _ h => h) (by rfl) ?_ ?_ ?_ ?_
                    rotate_left
                    ·
                     intro w'
                     go_simp
                     with_reducible rfl
                    rotate_left
                    ·
                     simp only [Act.put, sa_, s0_, s1_, i64_w, i32_w]
                     rfl
                    refine pA_ 63 156 ?_ (b_ 76 18446744073709551615) (any_of HT_.out (by kernel_rfl)) rfl rfl (fun _ _ _ h => h) (by rfl) ?_ ?_ ?_ ?_
                    rotate_left
                    ·
                     intro w'
                     go_simp
                     with_reducible rfl
                    rotate_left
                    ·
                     simp only [Act.put, sa_, s0_, s1_, i64_w, i32_w]
                     rfl
                    refine pA_ 64 157 ?_ (b_ 76 36893488147419103231) (any_of HT_.out (by kernel_rfl)) rfl rfl (fun _ _ _ h => h) (by rfl) ?_ ?_ ?_ ?_
                    rotate_left
                    ·
                     intro w'
                     go_simp
                     with_reducible rfl
                    rotate_left
                    ·
                     simp only [Act.put, sa_, s0_, s1_, i64_w, i32_w]
                     rfl
                    refine pA_ 65 158 ?_ (b_ 76 73786976294838206463) (any_of HT_.out (by kernel_rfl)) rfl rfl (fun _ _ _ h => h) (by rfl) ?_ ?_ ?_ ?_
                    rotate_left
                    ·
                     intro w'
                     go_simp
                     with_reducible rfl
                    rotate_left
                    ·
                     simp only [Act.put, sa_, s0_, s1_, i64_w, i32_w]
                     rfl
                    refine pA_ 66 159 ?_ (b_ 76 147573952589676412927) (any_of HT_.out (by kernel_rfl)) rfl rfl (fun _ _ _ h => h) (by rfl) ?_ ?_ ?_ ?_
                    rotate_left
                    ·
                     intro w'
                     go_simp
                     with_reducible rfl
                    rotate_left
                    ·
                     simp only [Act.put, sa_, s0_, s1_, i64_w, i32_w]
                     rfl
                    refine pA_ 67 160 ?_ (b_ 76 295147905179352825855) (any_of HT_.out (by kernel_rfl)) rfl rfl (fun _ _ _ h => h) (by rfl) ?_ ?_ ?_ ?_
                    rotate_left
                    ·
                     intro w'
                     go_simp
                     with_reducible rfl
                    rotate_left
                    ·
                     simp only [Act.put, sa_, s0_, s1_, i64_w, i32_w]
                     rfl
                    refine pA_ 68 161 ?_ (b_ 76 590295810358705651711) (any_of HT_.out (by kernel_rfl)) rfl rfl (fun _ _ _ h => h) (by rfl) ?_ ?_ ?_ ?_
                    rotate_left
                    ·
                     intro w'
                     go_simp
                     with_reducible rfl
                    rotate_left
                    ·
                     simp only [Act.put, sa_, s0_, s1_, i64_w, i32_w]
                     rfl
                    refine pA_ 69 162 ?_ (b_ 76 1180591620717411303423) (any_of HT_.out (by kernel_rfl)) rfl rfl (fun _ _ _ h => h) (by rfl) ?_ ?_ ?_ ?_
                    rotate_left
                    ·
                     intro w'
                     go_simp
                     with_reducible rfl
                    rotate_left
                    ·
                     simp only [Act.put, sa_, s0_, s1_, i64_w, i32_w]
                     rfl
                    refine pA_ 70 163 ?_ (b_ 76 2361183241434822606847) (any_of HT_.out (by kernel_rfl)) rfl rfl (fun _ _ _ h => h) (by rfl) ?_ ?_ ?_ ?_
                    rotate_left
                    ·
                     intro w'
                     go_simp
                     with_reducible rfl
                    rotate_left
                    ·
                     simp only [Act.put, sa_, s0_, s1_, i64_w, i32_w]
                     rfl
                    refine pA_ 71 164 ?_ (b_ 76 4722366482869645213695) (any_of HT_.out (by kernel_rfl)) rfl rfl (fun _ _ _ h => h) (by rfl) ?_ ?_ ?_ ?_
                    rotate_left
                    ·
                     intro w'
                     go_simp
                     with_reducible rfl
                    rotate_left
                    ·
                     simp only [Act.put, sa_, s0_, s1_, i64_w, i32_w]
                     rfl
                    refine one_ (i := 72) (N := some 165) (b_ 76 9444732965739290427391) rfl rfl (one_of HT_.out (by kernel_rfl)) (by decide) (fun K hK => ?_)
                    refine goes_ Try.func17 (by kernel_rfl) rfl #[.string (⟨#[97, 98, 99]⟩ : ByteArray), .string (⟨#[97, 98, 100]⟩ : ByteArray)] (by rfl) rfl rfl (by (try simp only [List.map_toArray, List.map_cons, List.map_nil]); first | done | rfl | (simp only [List.length_drop, List.length_take]; rfl)) ?_
                    with_reducible refine (block_Common.calls k (⟨#[97, 98, 99]⟩ : ByteArray) (⟨#[97, 98, 100]⟩ : ByteArray) t388 _ A149.out).mono ?_
                    rintro e w207 ⟨rfl, hb⟩
                    have HS8_ := (hb.cell (World.block_lt_of_cell? _ _ (hHeld.1.2.1))).trans (hHeld.1.2.1)
                    have HS9_ := (hb.cell (World.block_lt_of_cell? _ _ (hHeld.1.2.2.1))).trans (hHeld.1.2.2.1)
                    have HS10_ := (hb.cell (World.block_lt_of_cell? _ _ (hHeld.1.2.2.2.1))).trans (hHeld.1.2.2.2.1)
                    have HS11_ := (hb.cell (World.block_lt_of_cell? _ _ (hHeld.1.2.2.2.2))).trans (hHeld.1.2.2.2.2)
                    have HS12_ := (hb.cell (World.block_lt_of_cell? _ _ (hHeld.2.1))).trans (hHeld.2.1)
                    have HS13_ := (hb.cell (World.block_lt_of_cell? _ _ (hHeld.2.2.1))).trans (hHeld.2.2.1)
                    have HS14_ := (hb.cell (World.block_lt_of_cell? _ _ (hHeld.2.2.2.1))).trans (hHeld.2.2.2.1)
                    have HS15_ := (hb.cell (World.block_lt_of_cell? _ _ (hHeld.2.2.2.2))).trans (hHeld.2.2.2.2)
                    refine ⟨_, rfl, ?_⟩
                    obtain ⟨HO307, HO311, HO343, HO346, HO350, HO353, HO357, HO360, HO364, HO382, HO386, BK318, BK325, BK332, BK339, BK371, BK378, HB⟩ := And.intro (Aside0.mk (Kd.R_below (by (with_reducible repeat (first | apply Kd.R_alloc | apply Kd.R_drewN | apply Kd.R_drew)); exact HO307.out) hb)) (And.intro (Aside0.mk (Kd.R_below (by (with_reducible repeat (first | apply Kd.R_alloc | apply Kd.R_drewN | apply Kd.R_drew)); exact HO311.out) hb)) (And.intro (Aside0.mk (Kd.R_below (by (with_reducible repeat (first | apply Kd.R_alloc | apply Kd.R_drewN | apply Kd.R_drew)); exact HO343.out) hb)) (And.intro (Aside0.mk (Kd.R_below (by (with_reducible repeat (first | apply Kd.R_alloc | apply Kd.R_drewN | apply Kd.R_drew)); exact HO346.out) hb)) (And.intro (Aside0.mk (Kd.R_below (by (with_reducible repeat (first | apply Kd.R_alloc | apply Kd.R_drewN | apply Kd.R_drew)); exact HO350.out) hb)) (And.intro (Aside0.mk (Kd.R_below (by (with_reducible repeat (first | apply Kd.R_alloc | apply Kd.R_drewN | apply Kd.R_drew)); exact HO353.out) hb)) (And.intro (Aside0.mk (Kd.R_below (by (with_reducible repeat (first | apply Kd.R_alloc | apply Kd.R_drewN | apply Kd.R_drew)); exact HO357.out) hb)) (And.intro (Aside0.mk (Kd.R_below (by (with_reducible repeat (first | apply Kd.R_alloc | apply Kd.R_drewN | apply Kd.R_drew)); exact HO360.out) hb)) (And.intro (Aside0.mk (Kd.R_below (by (with_reducible repeat (first | apply Kd.R_alloc | apply Kd.R_drewN | apply Kd.R_drew)); exact HO364.out) hb)) (And.intro (Aside0.mk (Kd.R_below (by (with_reducible repeat (first | apply Kd.R_alloc | apply Kd.R_drewN | apply Kd.R_drew)); exact HO382.out) hb)) (And.intro (Aside0.mk (Kd.R_below (by (with_reducible repeat (first | apply Kd.R_alloc | apply Kd.R_drewN | apply Kd.R_drew)); exact HO386.out) hb)) (And.intro (Aside0.mk (blk_below (g := gb318) (o := .cells #[.string t312, .int .i64 t313, .bool t314, .string t315] 39 (0, 0)) (by (with_reducible repeat (first | refine blk_drewN ?_ _ | refine blk_drew ?_ | refine blk_alloc ?_ _)); exact BK318.out) hb)) (And.intro (Aside0.mk (blk_below (g := gb325) (o := .cells #[.string t319, .int .i64 t320, .bool t321, .string t322] 39 (0, 0)) (by (with_reducible repeat (first | refine blk_drewN ?_ _ | refine blk_drew ?_ | refine blk_alloc ?_ _)); exact BK325.out) hb)) (And.intro (Aside0.mk (blk_below (g := gb332) (o := .cells #[.string t326, .int .i64 t327, .bool t328, .string t329] 39 (0, 0)) (by (with_reducible repeat (first | refine blk_drewN ?_ _ | refine blk_drew ?_ | refine blk_alloc ?_ _)); exact BK332.out) hb)) (And.intro (Aside0.mk (blk_below (g := gb339) (o := .cells #[.string t333, .int .i64 t334, .bool t335, .string t336] 39 (0, 0)) (by (with_reducible repeat (first | refine blk_drewN ?_ _ | refine blk_drew ?_ | refine blk_alloc ?_ _)); exact BK339.out) hb)) (And.intro (Aside0.mk (blk_below (g := gb371) (o := .cells #[.string t365, .int .i64 t366, .bool t367, .string t368] 39 (0, 0)) (by (with_reducible repeat (first | refine blk_drewN ?_ _ | refine blk_drew ?_ | refine blk_alloc ?_ _)); exact BK371.out) hb)) (And.intro (Aside0.mk (blk_below (g := gb378) (o := .cells #[.string t372, .int .i64 t373, .bool t374, .string t375] 39 (0, 0)) (by (with_reducible repeat (first | refine blk_drewN ?_ _ | refine blk_drew ?_ | refine blk_alloc ?_ _)); exact BK378.out) hb)) (Aside0.mk (below_step (by repeat (first | (with_reducible first | exact HB.out | apply below_alloc | apply pw_below_drewN | apply below_drew1 | refine below_set ?_ GE318.out | refine below_set ?_ GE325.out | refine below_set ?_ GE332.out | refine below_set ?_ GE339.out | refine below_set ?_ GE371.out | refine below_set ?_ GE378.out) | exact HB.out)) hb))))))))))))))))))
                    (try clear hb)
                    (try clear hb2)
                    (try clear hk)
                    (try clear hi)
                    refine hK.out _ _ ⟨⟨⟨(blk_cell BK318.out 0).trans rfl, (blk_cell BK318.out 1).trans rfl, (blk_cell BK318.out 2).trans rfl, (blk_cell BK318.out 3).trans rfl, (blk_cell BK325.out 0).trans rfl, (blk_cell BK325.out 1).trans rfl, (blk_cell BK325.out 2).trans rfl, (blk_cell BK325.out 3).trans rfl⟩, ⟨HS8_, HS9_, HS10_, HS11_⟩⟩, ⟨HS12_, HS13_, HS14_, HS15_⟩⟩ (fun hHeld => ?_)
                    clear hK K
                    refine norm_ (a' := ?_) ?_ ?_
                    rotate_left
                    ·
                     show Act.put _ (some 165) _ = _
                     simp only [Act.put, sa_, s0_, s1_, i64_w, i32_w]
                     rfl
                    refine pA_ 73 166 ?_ (b_ 76 18889465931478580854783) (any_of HT_.out (by kernel_rfl)) rfl rfl (fun _ _ _ h => h) (by rfl) ?_ ?_ ?_ ?_
                    rotate_left
                    ·
                     intro w'
                     go_simp
                     with_reducible rfl
                    rotate_left
                    ·
                     simp only [Act.put, sa_, s0_, s1_, i64_w, i32_w]
                     rfl
                    refine pA_ 74 167 ?_ (b_ 76 37778931862957161709567) (any_of HT_.out (by kernel_rfl)) rfl rfl (fun _ _ _ h => h) (by rfl) ?_ ?_ ?_ ?_
                    rotate_left
                    ·
                     intro w'
                     go_simp
                     with_reducible rfl
                    rotate_left
                    ·
                     simp only [Act.put, sa_, s0_, s1_, i64_w, i32_w]
                     rfl
                    refine pA_ 75 0 ?_ (b_ 76 75557863725914323419135) (any_of HT_.out (by kernel_rfl)) rfl rfl (fun _ _ _ h => h) (by rfl) ?_ ?_ ?_ ?_
                    rotate_left
                    ·
                     intro w'
                     go_simp
                     with_reducible rfl
                    rotate_left
                    ·
                     simp only [Act.put, sa_, s0_, s1_, i64_w, i32_w]
                     rfl
                    refine done_ (done_of HT_.out (by kernel_rfl)) ?_
                    try go_wp2
                    go_ret
                    exact ⟨by first | rfl | (simp [errW_none, errW_some] <;> rfl) | (simp [*, errW_none, errW_some] <;> rfl) | exact ret_ie _ | (simp [*, errW_none, errW_some, bne]; done), by repeat (first | (with_reducible first | exact HB.out | apply below_alloc | apply pw_below_drewN | apply below_drew1 | refine below_set ?_ GE318.out | refine below_set ?_ GE325.out | refine below_set ?_ GE332.out | refine below_set ?_ GE339.out | refine below_set ?_ GE371.out | refine below_set ?_ GE378.out) | exact HB.out)⟩
                   ·
                    rw [if_neg c148] at H
                    have c148b0 : (t377 == 2) = false := beq_eq_false_iff_ne.mpr c148
                    have c148b1 : (t377 != 2) = true := bne_iff_ne.mpr c148
                    exact absurd ((Option.some.inj H).trans hr) (by decide)
                  ·
                   rw [if_neg c147] at H
                   have c147b0 : (t370 == 3) = false := beq_eq_false_iff_ne.mpr c147
                   have c147b1 : (t370 != 3) = true := bne_iff_ne.mpr c147
                   exact absurd ((Option.some.inj H).trans hr) (by decide)
                 ·
                  rw [if_neg c146] at H
                  have c146b0 : (t362 == 8) = false := beq_eq_false_iff_ne.mpr c146
                  have c146b1 : (t362 != 8) = true := bne_iff_ne.mpr c146
                  exact absurd ((Option.some.inj H).trans hr) (by decide)
                ·
                 rw [if_neg c145] at H
                 have c145b0 : (t355 == 8) = false := beq_eq_false_iff_ne.mpr c145
                 have c145b1 : (t355 != 8) = true := bne_iff_ne.mpr c145
                 exact absurd ((Option.some.inj H).trans hr) (by decide)
               ·
                rw [if_neg c144] at H
                have c144b0 : (t348 == 8) = false := beq_eq_false_iff_ne.mpr c144
                have c144b1 : (t348 != 8) = true := bne_iff_ne.mpr c144
                exact absurd ((Option.some.inj H).trans hr) (by decide)
              ·
               rw [if_neg c143] at H
               have c143b0 : (t341 == 4) = false := beq_eq_false_iff_ne.mpr c143
               have c143b1 : (t341 != 4) = true := bne_iff_ne.mpr c143
               exact absurd ((Option.some.inj H).trans hr) (by decide)
             ·
              rw [if_neg c142] at H
              have c142b0 : (t338 == 0) = false := beq_eq_false_iff_ne.mpr c142
              have c142b1 : (t338 != 0) = true := bne_iff_ne.mpr c142
              exact absurd ((Option.some.inj H).trans hr) (by decide)
           ·
            rw [if_neg c83] at H
            have c83b0 : (t331 == 0) = false := beq_eq_false_iff_ne.mpr c83
            have c83b1 : (t331 != 0) = true := bne_iff_ne.mpr c83
            exact absurd ((Option.some.inj H).trans hr) (by decide)
         ·
          rw [if_neg c24] at H
          have c24b0 : (t319.toList == (((rd_T39 t384 1).f0).toList) && (t320 == ((rd_T39 t384 1).f1) && (t321 == ((rd_T39 t384 1).f2) && (t322.toList == (((rd_T39 t384 1).f3).toList))))) = false := by simpa using c24
          (try (have c24b1 : decide (t319.toList = (((rd_T39 t384 1).f0).toList) && (t320 == ((rd_T39 t384 1).f1) && (t321 == ((rd_T39 t384 1).f2) && (t322.toList == (((rd_T39 t384 1).f3).toList))))) = false := by simpa using c24))
          (try (have c24b2 : (t319.toList == (((rd_T39 t384 1).f0).toList) && (t320 == ((rd_T39 t384 1).f1) && (t321 == ((rd_T39 t384 1).f2) && (t322.toList == (((rd_T39 t384 1).f3).toList))))) = false := by simpa using c24))
          (try (have c24b3 : ¬ (t319.toList = (((rd_T39 t384 1).f0).toList) && (t320 == ((rd_T39 t384 1).f1) && (t321 == ((rd_T39 t384 1).f2) && (t322.toList == (((rd_T39 t384 1).f3).toList))))) := by simpa using c24))
          clear c24
          exact absurd ((Option.some.inj H).trans hr) (by decide)
        ·
         rw [if_neg c23] at H
         exact absurd H (by simp)
       ·
        rw [if_neg c21] at H
        have c21b0 : (t324 == 0) = false := beq_eq_false_iff_ne.mpr c21
        have c21b1 : (t324 != 0) = true := bne_iff_ne.mpr c21
        exact absurd ((Option.some.inj H).trans hr) (by decide)
      ·
       replace c20 := Bool.eq_false_iff.mpr c20
       subst c20
       have H1 : (some false) = some r := by rw [if_neg (show ¬ (false = true) by decide)] at H; exact H
       clear H
       have H := H1
       clear H1
       exact absurd ((Option.some.inj H).trans hr) (by decide)
     ·
      rw [if_neg c19] at H
      have c19b0 : (t312.toList == (((rd_T39 t380 0).f0).toList) && (t313 == ((rd_T39 t380 0).f1) && (t314 == ((rd_T39 t380 0).f2) && (t315.toList == (((rd_T39 t380 0).f3).toList))))) = false := by simpa using c19
      (try (have c19b1 : decide (t312.toList = (((rd_T39 t380 0).f0).toList) && (t313 == ((rd_T39 t380 0).f1) && (t314 == ((rd_T39 t380 0).f2) && (t315.toList == (((rd_T39 t380 0).f3).toList))))) = false := by simpa using c19))
      (try (have c19b2 : (t312.toList == (((rd_T39 t380 0).f0).toList) && (t313 == ((rd_T39 t380 0).f1) && (t314 == ((rd_T39 t380 0).f2) && (t315.toList == (((rd_T39 t380 0).f3).toList))))) = false := by simpa using c19))
      (try (have c19b3 : ¬ (t312.toList = (((rd_T39 t380 0).f0).toList) && (t313 == ((rd_T39 t380 0).f1) && (t314 == ((rd_T39 t380 0).f2) && (t315.toList == (((rd_T39 t380 0).f3).toList))))) := by simpa using c19))
      clear c19
      exact absurd ((Option.some.inj H).trans hr) (by decide)
    ·
     rw [if_neg c18] at H
     exact absurd H (by simp)
   ·
    rw [if_neg c16] at H
    have c16b0 : (t317 == 0) = false := beq_eq_false_iff_ne.mpr c16
    have c16b1 : (t317 != 0) = true := bne_iff_ne.mpr c16
    exact absurd ((Option.some.inj H).trans hr) (by decide)
  ·
   replace c15 := Bool.eq_false_iff.mpr c15
   subst c15
   have H1 : (some false) = some r := by rw [if_neg (show ¬ (false = true) by decide)] at H; exact H
   clear H
   have H := H1
   clear H1
   exact absurd ((Option.some.inj H).trans hr) (by decide)
 ·
  replace c14 := Bool.eq_false_iff.mpr c14
  subst c14
  have H1 : (some false) = some r := by rw [if_neg (show ¬ (false = true) by decide)] at H; exact H
  clear H
  have H := H1
  clear H1
  exact absurd ((Option.some.inj H).trans hr) (by decide)

end Go.Proofs.Ytpalnbdcemmlnaa.R

/- Contracts of Go functions and what they come to, over the translation of this seat: made by a program of this session (print2.py). -/
import Derived.Test.YtagdmgjdhbmaiaaDoorRx0
import Derived.Test.YtagdmgjdhbmaiaaDoorRx3
import Derived.Test.YtagdmgjdhbmaiaaDoorRx4
import Derived.Test.YtagdmgjdhbmaiaaDoorRx5
import Derived.Test.YtagdmgjdhbmaiaaDoorRx9
import Derived.Test.YtagdmgjdhbmaiaaDoorRx11
namespace Go.Proofs.YtagdmgjdhbmaiaaDoor.R
open Go.RowKit Go.Proofs.YtagdmgjdhbmaiaaDoor.Co Go.Proofs.YtagdmgjdhbmaiaaDoor.Ret Go.Proofs.YtagdmgjdhbmaiaaDoor.Plain Go.Proofs.YtagdmgjdhbmaiaaDoor.Box Go.Proofs.YtagdmgjdhbmaiaaDoorW.PrintWords Go.Proofs.YtagdmgjdhbmaiaaDoorW.PrintLast Go.Proofs.YtagdmgjdhbmaiaaDoorW.PrintMore
attribute [local go_sem] max2_int min2_int max_two min_two max_three min_three max_four min_four   -- for this text's walks alone
set_option linter.unusedVariables false
set_option linter.unusedSimpArgs false

/-! ### millhandlaw01_CodeNames: function 8 -/
def millhandlaw01_CodeNames.f (k : Nat)  : Option (Bool) := (code_Read.f k (([172, 2, 9] : List Int))).bind fun bt330 => ((code_Read.f k (([128, 0] : List Int))).bind fun bt336 => ((code_Cut.f k (([2, 97, 98, 7] : List Int))).bind fun bt342 => ((millhandlaw01_num.f 258).bind fun bt347 => ((code_Key.f k (([(⟨bt347.1, bt347.2.1, bt347.2.2⟩ : S50)] : List (S50)))).bind fun bt353 => ((millhandlaw01_txt.f (⟨#[97]⟩ : ByteArray)).bind fun bt355 => ((millhandlaw01_txt.f (⟨#[]⟩ : ByteArray)).bind fun bt358 => ((code_Key.f k (([(⟨bt355.1, bt355.2.1, bt355.2.2⟩ : S50), (⟨bt358.1, bt358.2.1, bt358.2.2⟩ : S50)] : List (S50)))).bind fun bt364 => ((millhandlaw01_txt.f (⟨#[0]⟩ : ByteArray)).bind fun bt366 => ((code_Key.f k (([(⟨bt366.1, bt366.2.1, bt366.2.2⟩ : S50)] : List (S50)))).bind fun bt372 => ((code_Above.f (⟨#[97, 98]⟩ : ByteArray)).bind fun bt374 => ((code_Above.f (⟨#[97, 255]⟩ : ByteArray)).bind fun bt376 => ((code_Above.f (⟨#[255]⟩ : ByteArray)).bind fun bt378 => ((code_Key.f k ([] : List (S50))).bind fun bt380 => ((code_Parts.f k (⟨#[3]⟩ : ByteArray)).bind fun bt382 => ((code_Parts.f k (⟨#[2, 97, 0]⟩ : ByteArray)).bind fun bt386 => ((code_Small.f k 300).bind fun t390 => (if (strOfNums t390).toList = ([172, 2] : List UInt8) then (if bt330.1 = 300 then (if bt330.2.1 = 2 then (if bt330.2.2 = 0 then (if bt336.2.2 = 8 then ((code_Text.f k (⟨#[97, 98]⟩ : ByteArray)).bind fun t393 => (if (strOfNums t393).toList = ([2, 97, 98] : List UInt8) then (if bt342.1.toList = ([97, 98] : List UInt8) then (if (strOfNums bt342.2.1).toList = ([7] : List UInt8) then (if bt353.1.toList = ([1, 0, 0, 0, 0, 0, 0, 1, 2] : List UInt8) then (if bt353.2 = 0 then (if bt364.1.toList = ([2, 97, 0, 0, 2, 0, 0] : List UInt8) then (if bt364.2 = 0 then (if bt372.1.toList = ([2, 0, 255, 0, 0] : List UInt8) then ((millhandlaw01_alive.f k).bind fun t396 => (if t396 = true then (if bt342.2.2 = 0 then (if bt372.2 = 0 then (if bt374.1.toList = ([97, 99] : List UInt8) then (if bt374.2 = true then (if bt376.1.toList = ([98] : List UInt8) then (if bt376.2 = true then (if bt378.2 = true then (some false) else (if bt380.2 = 4 then (if bt382.2 = 8 then (some (bt386.2 == 8)) else (some false)) else (some false))) else (some false)) else (some false)) else (some false)) else (some false)) else (some false)) else (some false)) else (some false))) else ((millhandlaw01_alive.f k).bind fun t397 => (if t397 = true then (if bt342.2.2 = 0 then (some false) else (some false)) else (some false)))) else ((millhandlaw01_alive.f k).bind fun t398 => (if t398 = true then (if bt342.2.2 = 0 then (some false) else (some false)) else (some false)))) else ((millhandlaw01_alive.f k).bind fun t399 => (if t399 = true then (if bt342.2.2 = 0 then (some false) else (some false)) else (some false)))) else ((millhandlaw01_alive.f k).bind fun t400 => (if t400 = true then (if bt342.2.2 = 0 then (some false) else (some false)) else (some false)))) else ((millhandlaw01_alive.f k).bind fun t401 => (if t401 = true then (if bt342.2.2 = 0 then (some false) else (some false)) else (some false)))) else (if bt353.1.toList = ([1, 0, 0, 0, 0, 0, 0, 1, 2] : List UInt8) then (if bt353.2 = 0 then (if bt364.1.toList = ([2, 97, 0, 0, 2, 0, 0] : List UInt8) then (if bt364.2 = 0 then (if bt372.1.toList = ([2, 0, 255, 0, 0] : List UInt8) then ((millhandlaw01_alive.f k).bind fun t402 => (if t402 = true then (some false) else (some false))) else ((millhandlaw01_alive.f k).bind fun t403 => (if t403 = true then (some false) else (some false)))) else ((millhandlaw01_alive.f k).bind fun t404 => (if t404 = true then (some false) else (some false)))) else ((millhandlaw01_alive.f k).bind fun t405 => (if t405 = true then (some false) else (some false)))) else ((millhandlaw01_alive.f k).bind fun t406 => (if t406 = true then (some false) else (some false)))) else ((millhandlaw01_alive.f k).bind fun t407 => (if t407 = true then (some false) else (some false))))) else (if bt353.1.toList = ([1, 0, 0, 0, 0, 0, 0, 1, 2] : List UInt8) then (if bt353.2 = 0 then (if bt364.1.toList = ([2, 97, 0, 0, 2, 0, 0] : List UInt8) then (if bt364.2 = 0 then (if bt372.1.toList = ([2, 0, 255, 0, 0] : List UInt8) then ((millhandlaw01_alive.f k).bind fun t408 => (if t408 = true then (some false) else (some false))) else ((millhandlaw01_alive.f k).bind fun t409 => (if t409 = true then (some false) else (some false)))) else ((millhandlaw01_alive.f k).bind fun t410 => (if t410 = true then (some false) else (some false)))) else ((millhandlaw01_alive.f k).bind fun t411 => (if t411 = true then (some false) else (some false)))) else ((millhandlaw01_alive.f k).bind fun t412 => (if t412 = true then (some false) else (some false)))) else ((millhandlaw01_alive.f k).bind fun t413 => (if t413 = true then (some false) else (some false))))) else (if bt353.1.toList = ([1, 0, 0, 0, 0, 0, 0, 1, 2] : List UInt8) then (if bt353.2 = 0 then (if bt364.1.toList = ([2, 97, 0, 0, 2, 0, 0] : List UInt8) then (if bt364.2 = 0 then (if bt372.1.toList = ([2, 0, 255, 0, 0] : List UInt8) then ((millhandlaw01_alive.f k).bind fun t414 => (if t414 = true then (some false) else (some false))) else ((millhandlaw01_alive.f k).bind fun t415 => (if t415 = true then (some false) else (some false)))) else ((millhandlaw01_alive.f k).bind fun t416 => (if t416 = true then (some false) else (some false)))) else ((millhandlaw01_alive.f k).bind fun t417 => (if t417 = true then (some false) else (some false)))) else ((millhandlaw01_alive.f k).bind fun t418 => (if t418 = true then (some false) else (some false)))) else ((millhandlaw01_alive.f k).bind fun t419 => (if t419 = true then (some false) else (some false)))))) else (if bt353.1.toList = ([1, 0, 0, 0, 0, 0, 0, 1, 2] : List UInt8) then (if bt353.2 = 0 then (if bt364.1.toList = ([2, 97, 0, 0, 2, 0, 0] : List UInt8) then (if bt364.2 = 0 then (if bt372.1.toList = ([2, 0, 255, 0, 0] : List UInt8) then ((millhandlaw01_alive.f k).bind fun t420 => (if t420 = true then (some false) else (some false))) else ((millhandlaw01_alive.f k).bind fun t421 => (if t421 = true then (some false) else (some false)))) else ((millhandlaw01_alive.f k).bind fun t422 => (if t422 = true then (some false) else (some false)))) else ((millhandlaw01_alive.f k).bind fun t423 => (if t423 = true then (some false) else (some false)))) else ((millhandlaw01_alive.f k).bind fun t424 => (if t424 = true then (some false) else (some false)))) else ((millhandlaw01_alive.f k).bind fun t425 => (if t425 = true then (some false) else (some false))))) else (if bt353.1.toList = ([1, 0, 0, 0, 0, 0, 0, 1, 2] : List UInt8) then (if bt353.2 = 0 then (if bt364.1.toList = ([2, 97, 0, 0, 2, 0, 0] : List UInt8) then (if bt364.2 = 0 then (if bt372.1.toList = ([2, 0, 255, 0, 0] : List UInt8) then ((millhandlaw01_alive.f k).bind fun t426 => (if t426 = true then (some false) else (some false))) else ((millhandlaw01_alive.f k).bind fun t427 => (if t427 = true then (some false) else (some false)))) else ((millhandlaw01_alive.f k).bind fun t428 => (if t428 = true then (some false) else (some false)))) else ((millhandlaw01_alive.f k).bind fun t429 => (if t429 = true then (some false) else (some false)))) else ((millhandlaw01_alive.f k).bind fun t430 => (if t430 = true then (some false) else (some false)))) else ((millhandlaw01_alive.f k).bind fun t431 => (if t431 = true then (some false) else (some false))))) else (if bt353.1.toList = ([1, 0, 0, 0, 0, 0, 0, 1, 2] : List UInt8) then (if bt353.2 = 0 then (if bt364.1.toList = ([2, 97, 0, 0, 2, 0, 0] : List UInt8) then (if bt364.2 = 0 then (if bt372.1.toList = ([2, 0, 255, 0, 0] : List UInt8) then ((millhandlaw01_alive.f k).bind fun t432 => (if t432 = true then (some false) else (some false))) else ((millhandlaw01_alive.f k).bind fun t433 => (if t433 = true then (some false) else (some false)))) else ((millhandlaw01_alive.f k).bind fun t434 => (if t434 = true then (some false) else (some false)))) else ((millhandlaw01_alive.f k).bind fun t435 => (if t435 = true then (some false) else (some false)))) else ((millhandlaw01_alive.f k).bind fun t436 => (if t436 = true then (some false) else (some false)))) else ((millhandlaw01_alive.f k).bind fun t437 => (if t437 = true then (some false) else (some false))))) else (if bt353.1.toList = ([1, 0, 0, 0, 0, 0, 0, 1, 2] : List UInt8) then (if bt353.2 = 0 then (if bt364.1.toList = ([2, 97, 0, 0, 2, 0, 0] : List UInt8) then (if bt364.2 = 0 then (if bt372.1.toList = ([2, 0, 255, 0, 0] : List UInt8) then ((millhandlaw01_alive.f k).bind fun t438 => (if t438 = true then (some false) else (some false))) else ((millhandlaw01_alive.f k).bind fun t439 => (if t439 = true then (some false) else (some false)))) else ((millhandlaw01_alive.f k).bind fun t440 => (if t440 = true then (some false) else (some false)))) else ((millhandlaw01_alive.f k).bind fun t441 => (if t441 = true then (some false) else (some false)))) else ((millhandlaw01_alive.f k).bind fun t442 => (if t442 = true then (some false) else (some false)))) else ((millhandlaw01_alive.f k).bind fun t443 => (if t443 = true then (some false) else (some false))))) else (if bt353.1.toList = ([1, 0, 0, 0, 0, 0, 0, 1, 2] : List UInt8) then (if bt353.2 = 0 then (if bt364.1.toList = ([2, 97, 0, 0, 2, 0, 0] : List UInt8) then (if bt364.2 = 0 then (if bt372.1.toList = ([2, 0, 255, 0, 0] : List UInt8) then ((millhandlaw01_alive.f k).bind fun t444 => (if t444 = true then (some false) else (some false))) else ((millhandlaw01_alive.f k).bind fun t445 => (if t445 = true then (some false) else (some false)))) else ((millhandlaw01_alive.f k).bind fun t446 => (if t446 = true then (some false) else (some false)))) else ((millhandlaw01_alive.f k).bind fun t447 => (if t447 = true then (some false) else (some false)))) else ((millhandlaw01_alive.f k).bind fun t448 => (if t448 = true then (some false) else (some false)))) else ((millhandlaw01_alive.f k).bind fun t449 => (if t449 = true then (some false) else (some false)))))))))))))))))))))
theorem millhandlaw01_CodeNames.mono : ∀ k, LeO (millhandlaw01_CodeNames.f k ) (millhandlaw01_CodeNames.f (k + 1) ) := by
 intro  k
 unfold millhandlaw01_CodeNames.f
 repeat' first
   | (with_reducible exact code_Cut.mono _ _)
   | (with_reducible exact code_Key.mono _ _)
   | (with_reducible exact code_Parts.mono _ _)
   | (with_reducible exact code_Read.mono _ _)
   | (with_reducible exact code_Small.mono _ _)
   | (with_reducible exact code_Text.mono _ _)
   | (with_reducible exact millhandlaw01_alive.mono _)
   | (with_reducible exact LeO.refl _)
   | (with_reducible exact LeO.none _)
   | (with_reducible refine LeO.ite ?_ ?_)
   | (with_reducible refine LeO.bind ?_ (fun _ => ?_))
   | exact code_Cut.mono _ _
   | exact code_Key.mono _ _
   | exact code_Parts.mono _ _
   | exact code_Read.mono _ _
   | exact code_Small.mono _ _
   | exact code_Text.mono _ _
   | exact millhandlaw01_alive.mono _
   | exact LeO.none _
   | refine LeO.ite ?_ ?_
   | refine LeO.bind ?_ (fun _ => ?_)
set_option maxHeartbeats 8000000 in
set_option maxRecDepth 100000 in
theorem millhandlaw01_CodeNames.calls (k : Nat)  (r : Bool) (w : World) (h : millhandlaw01_CodeNames.f k  = some r) (hr : r = true) :
  Calls Tryd.prog 8 #[] w fun e w' => e = .returned (.bool r) ∧ Below w.heap.size w w' := by
 have HB := Aside0.mk (Below.refl w.heap.size w)
 have H : ((code_Read.f k (([172, 2, 9] : List Int))).bind fun bt330 => ((code_Read.f k (([128, 0] : List Int))).bind fun bt336 => ((code_Cut.f k (([2, 97, 98, 7] : List Int))).bind fun bt342 => ((millhandlaw01_num.f 258).bind fun bt347 => ((code_Key.f k (([(⟨bt347.1, bt347.2.1, bt347.2.2⟩ : S50)] : List (S50)))).bind fun bt353 => ((millhandlaw01_txt.f (⟨#[97]⟩ : ByteArray)).bind fun bt355 => ((millhandlaw01_txt.f (⟨#[]⟩ : ByteArray)).bind fun bt358 => ((code_Key.f k (([(⟨bt355.1, bt355.2.1, bt355.2.2⟩ : S50), (⟨bt358.1, bt358.2.1, bt358.2.2⟩ : S50)] : List (S50)))).bind fun bt364 => ((millhandlaw01_txt.f (⟨#[0]⟩ : ByteArray)).bind fun bt366 => ((code_Key.f k (([(⟨bt366.1, bt366.2.1, bt366.2.2⟩ : S50)] : List (S50)))).bind fun bt372 => ((code_Above.f (⟨#[97, 98]⟩ : ByteArray)).bind fun bt374 => ((code_Above.f (⟨#[97, 255]⟩ : ByteArray)).bind fun bt376 => ((code_Above.f (⟨#[255]⟩ : ByteArray)).bind fun bt378 => ((code_Key.f k ([] : List (S50))).bind fun bt380 => ((code_Parts.f k (⟨#[3]⟩ : ByteArray)).bind fun bt382 => ((code_Parts.f k (⟨#[2, 97, 0]⟩ : ByteArray)).bind fun bt386 => ((code_Small.f k 300).bind fun t390 => (if (strOfNums t390).toList = ([172, 2] : List UInt8) then (if bt330.1 = 300 then (if bt330.2.1 = 2 then (if bt330.2.2 = 0 then (if bt336.2.2 = 8 then ((code_Text.f k (⟨#[97, 98]⟩ : ByteArray)).bind fun t393 => (if (strOfNums t393).toList = ([2, 97, 98] : List UInt8) then (if bt342.1.toList = ([97, 98] : List UInt8) then (if (strOfNums bt342.2.1).toList = ([7] : List UInt8) then (if bt353.1.toList = ([1, 0, 0, 0, 0, 0, 0, 1, 2] : List UInt8) then (if bt353.2 = 0 then (if bt364.1.toList = ([2, 97, 0, 0, 2, 0, 0] : List UInt8) then (if bt364.2 = 0 then (if bt372.1.toList = ([2, 0, 255, 0, 0] : List UInt8) then ((millhandlaw01_alive.f k).bind fun t396 => (if t396 = true then (if bt342.2.2 = 0 then (if bt372.2 = 0 then (if bt374.1.toList = ([97, 99] : List UInt8) then (if bt374.2 = true then (if bt376.1.toList = ([98] : List UInt8) then (if bt376.2 = true then (if bt378.2 = true then (some false) else (if bt380.2 = 4 then (if bt382.2 = 8 then (some (bt386.2 == 8)) else (some false)) else (some false))) else (some false)) else (some false)) else (some false)) else (some false)) else (some false)) else (some false)) else (some false))) else ((millhandlaw01_alive.f k).bind fun t397 => (if t397 = true then (if bt342.2.2 = 0 then (some false) else (some false)) else (some false)))) else ((millhandlaw01_alive.f k).bind fun t398 => (if t398 = true then (if bt342.2.2 = 0 then (some false) else (some false)) else (some false)))) else ((millhandlaw01_alive.f k).bind fun t399 => (if t399 = true then (if bt342.2.2 = 0 then (some false) else (some false)) else (some false)))) else ((millhandlaw01_alive.f k).bind fun t400 => (if t400 = true then (if bt342.2.2 = 0 then (some false) else (some false)) else (some false)))) else ((millhandlaw01_alive.f k).bind fun t401 => (if t401 = true then (if bt342.2.2 = 0 then (some false) else (some false)) else (some false)))) else (if bt353.1.toList = ([1, 0, 0, 0, 0, 0, 0, 1, 2] : List UInt8) then (if bt353.2 = 0 then (if bt364.1.toList = ([2, 97, 0, 0, 2, 0, 0] : List UInt8) then (if bt364.2 = 0 then (if bt372.1.toList = ([2, 0, 255, 0, 0] : List UInt8) then ((millhandlaw01_alive.f k).bind fun t402 => (if t402 = true then (some false) else (some false))) else ((millhandlaw01_alive.f k).bind fun t403 => (if t403 = true then (some false) else (some false)))) else ((millhandlaw01_alive.f k).bind fun t404 => (if t404 = true then (some false) else (some false)))) else ((millhandlaw01_alive.f k).bind fun t405 => (if t405 = true then (some false) else (some false)))) else ((millhandlaw01_alive.f k).bind fun t406 => (if t406 = true then (some false) else (some false)))) else ((millhandlaw01_alive.f k).bind fun t407 => (if t407 = true then (some false) else (some false))))) else (if bt353.1.toList = ([1, 0, 0, 0, 0, 0, 0, 1, 2] : List UInt8) then (if bt353.2 = 0 then (if bt364.1.toList = ([2, 97, 0, 0, 2, 0, 0] : List UInt8) then (if bt364.2 = 0 then (if bt372.1.toList = ([2, 0, 255, 0, 0] : List UInt8) then ((millhandlaw01_alive.f k).bind fun t408 => (if t408 = true then (some false) else (some false))) else ((millhandlaw01_alive.f k).bind fun t409 => (if t409 = true then (some false) else (some false)))) else ((millhandlaw01_alive.f k).bind fun t410 => (if t410 = true then (some false) else (some false)))) else ((millhandlaw01_alive.f k).bind fun t411 => (if t411 = true then (some false) else (some false)))) else ((millhandlaw01_alive.f k).bind fun t412 => (if t412 = true then (some false) else (some false)))) else ((millhandlaw01_alive.f k).bind fun t413 => (if t413 = true then (some false) else (some false))))) else (if bt353.1.toList = ([1, 0, 0, 0, 0, 0, 0, 1, 2] : List UInt8) then (if bt353.2 = 0 then (if bt364.1.toList = ([2, 97, 0, 0, 2, 0, 0] : List UInt8) then (if bt364.2 = 0 then (if bt372.1.toList = ([2, 0, 255, 0, 0] : List UInt8) then ((millhandlaw01_alive.f k).bind fun t414 => (if t414 = true then (some false) else (some false))) else ((millhandlaw01_alive.f k).bind fun t415 => (if t415 = true then (some false) else (some false)))) else ((millhandlaw01_alive.f k).bind fun t416 => (if t416 = true then (some false) else (some false)))) else ((millhandlaw01_alive.f k).bind fun t417 => (if t417 = true then (some false) else (some false)))) else ((millhandlaw01_alive.f k).bind fun t418 => (if t418 = true then (some false) else (some false)))) else ((millhandlaw01_alive.f k).bind fun t419 => (if t419 = true then (some false) else (some false)))))) else (if bt353.1.toList = ([1, 0, 0, 0, 0, 0, 0, 1, 2] : List UInt8) then (if bt353.2 = 0 then (if bt364.1.toList = ([2, 97, 0, 0, 2, 0, 0] : List UInt8) then (if bt364.2 = 0 then (if bt372.1.toList = ([2, 0, 255, 0, 0] : List UInt8) then ((millhandlaw01_alive.f k).bind fun t420 => (if t420 = true then (some false) else (some false))) else ((millhandlaw01_alive.f k).bind fun t421 => (if t421 = true then (some false) else (some false)))) else ((millhandlaw01_alive.f k).bind fun t422 => (if t422 = true then (some false) else (some false)))) else ((millhandlaw01_alive.f k).bind fun t423 => (if t423 = true then (some false) else (some false)))) else ((millhandlaw01_alive.f k).bind fun t424 => (if t424 = true then (some false) else (some false)))) else ((millhandlaw01_alive.f k).bind fun t425 => (if t425 = true then (some false) else (some false))))) else (if bt353.1.toList = ([1, 0, 0, 0, 0, 0, 0, 1, 2] : List UInt8) then (if bt353.2 = 0 then (if bt364.1.toList = ([2, 97, 0, 0, 2, 0, 0] : List UInt8) then (if bt364.2 = 0 then (if bt372.1.toList = ([2, 0, 255, 0, 0] : List UInt8) then ((millhandlaw01_alive.f k).bind fun t426 => (if t426 = true then (some false) else (some false))) else ((millhandlaw01_alive.f k).bind fun t427 => (if t427 = true then (some false) else (some false)))) else ((millhandlaw01_alive.f k).bind fun t428 => (if t428 = true then (some false) else (some false)))) else ((millhandlaw01_alive.f k).bind fun t429 => (if t429 = true then (some false) else (some false)))) else ((millhandlaw01_alive.f k).bind fun t430 => (if t430 = true then (some false) else (some false)))) else ((millhandlaw01_alive.f k).bind fun t431 => (if t431 = true then (some false) else (some false))))) else (if bt353.1.toList = ([1, 0, 0, 0, 0, 0, 0, 1, 2] : List UInt8) then (if bt353.2 = 0 then (if bt364.1.toList = ([2, 97, 0, 0, 2, 0, 0] : List UInt8) then (if bt364.2 = 0 then (if bt372.1.toList = ([2, 0, 255, 0, 0] : List UInt8) then ((millhandlaw01_alive.f k).bind fun t432 => (if t432 = true then (some false) else (some false))) else ((millhandlaw01_alive.f k).bind fun t433 => (if t433 = true then (some false) else (some false)))) else ((millhandlaw01_alive.f k).bind fun t434 => (if t434 = true then (some false) else (some false)))) else ((millhandlaw01_alive.f k).bind fun t435 => (if t435 = true then (some false) else (some false)))) else ((millhandlaw01_alive.f k).bind fun t436 => (if t436 = true then (some false) else (some false)))) else ((millhandlaw01_alive.f k).bind fun t437 => (if t437 = true then (some false) else (some false))))) else (if bt353.1.toList = ([1, 0, 0, 0, 0, 0, 0, 1, 2] : List UInt8) then (if bt353.2 = 0 then (if bt364.1.toList = ([2, 97, 0, 0, 2, 0, 0] : List UInt8) then (if bt364.2 = 0 then (if bt372.1.toList = ([2, 0, 255, 0, 0] : List UInt8) then ((millhandlaw01_alive.f k).bind fun t438 => (if t438 = true then (some false) else (some false))) else ((millhandlaw01_alive.f k).bind fun t439 => (if t439 = true then (some false) else (some false)))) else ((millhandlaw01_alive.f k).bind fun t440 => (if t440 = true then (some false) else (some false)))) else ((millhandlaw01_alive.f k).bind fun t441 => (if t441 = true then (some false) else (some false)))) else ((millhandlaw01_alive.f k).bind fun t442 => (if t442 = true then (some false) else (some false)))) else ((millhandlaw01_alive.f k).bind fun t443 => (if t443 = true then (some false) else (some false))))) else (if bt353.1.toList = ([1, 0, 0, 0, 0, 0, 0, 1, 2] : List UInt8) then (if bt353.2 = 0 then (if bt364.1.toList = ([2, 97, 0, 0, 2, 0, 0] : List UInt8) then (if bt364.2 = 0 then (if bt372.1.toList = ([2, 0, 255, 0, 0] : List UInt8) then ((millhandlaw01_alive.f k).bind fun t444 => (if t444 = true then (some false) else (some false))) else ((millhandlaw01_alive.f k).bind fun t445 => (if t445 = true then (some false) else (some false)))) else ((millhandlaw01_alive.f k).bind fun t446 => (if t446 = true then (some false) else (some false)))) else ((millhandlaw01_alive.f k).bind fun t447 => (if t447 = true then (some false) else (some false)))) else ((millhandlaw01_alive.f k).bind fun t448 => (if t448 = true then (some false) else (some false)))) else ((millhandlaw01_alive.f k).bind fun t449 => (if t449 = true then (some false) else (some false)))))))))))))))))))))) = some r := h
 clear h
 obtain ⟨y327, hy327⟩ : ∃ y_ : List Int, y_ = (([172, 2, 9] : List Int)) := ⟨_, rfl⟩
 replace H : ((code_Read.f k y327).bind fun bt330 => ((code_Read.f k (([128, 0] : List Int))).bind fun bt336 => ((code_Cut.f k (([2, 97, 98, 7] : List Int))).bind fun bt342 => ((millhandlaw01_num.f 258).bind fun bt347 => ((code_Key.f k (([(⟨bt347.1, bt347.2.1, bt347.2.2⟩ : S50)] : List (S50)))).bind fun bt353 => ((millhandlaw01_txt.f (⟨#[97]⟩ : ByteArray)).bind fun bt355 => ((millhandlaw01_txt.f (⟨#[]⟩ : ByteArray)).bind fun bt358 => ((code_Key.f k (([(⟨bt355.1, bt355.2.1, bt355.2.2⟩ : S50), (⟨bt358.1, bt358.2.1, bt358.2.2⟩ : S50)] : List (S50)))).bind fun bt364 => ((millhandlaw01_txt.f (⟨#[0]⟩ : ByteArray)).bind fun bt366 => ((code_Key.f k (([(⟨bt366.1, bt366.2.1, bt366.2.2⟩ : S50)] : List (S50)))).bind fun bt372 => ((code_Above.f (⟨#[97, 98]⟩ : ByteArray)).bind fun bt374 => ((code_Above.f (⟨#[97, 255]⟩ : ByteArray)).bind fun bt376 => ((code_Above.f (⟨#[255]⟩ : ByteArray)).bind fun bt378 => ((code_Key.f k ([] : List (S50))).bind fun bt380 => ((code_Parts.f k (⟨#[3]⟩ : ByteArray)).bind fun bt382 => ((code_Parts.f k (⟨#[2, 97, 0]⟩ : ByteArray)).bind fun bt386 => ((code_Small.f k 300).bind fun t390 => (if (strOfNums t390).toList = ([172, 2] : List UInt8) then (if bt330.1 = 300 then (if bt330.2.1 = 2 then (if bt330.2.2 = 0 then (if bt336.2.2 = 8 then ((code_Text.f k (⟨#[97, 98]⟩ : ByteArray)).bind fun t393 => (if (strOfNums t393).toList = ([2, 97, 98] : List UInt8) then (if bt342.1.toList = ([97, 98] : List UInt8) then (if (strOfNums bt342.2.1).toList = ([7] : List UInt8) then (if bt353.1.toList = ([1, 0, 0, 0, 0, 0, 0, 1, 2] : List UInt8) then (if bt353.2 = 0 then (if bt364.1.toList = ([2, 97, 0, 0, 2, 0, 0] : List UInt8) then (if bt364.2 = 0 then (if bt372.1.toList = ([2, 0, 255, 0, 0] : List UInt8) then ((millhandlaw01_alive.f k).bind fun t396 => (if t396 = true then (if bt342.2.2 = 0 then (if bt372.2 = 0 then (if bt374.1.toList = ([97, 99] : List UInt8) then (if bt374.2 = true then (if bt376.1.toList = ([98] : List UInt8) then (if bt376.2 = true then (if bt378.2 = true then (some false) else (if bt380.2 = 4 then (if bt382.2 = 8 then (some (bt386.2 == 8)) else (some false)) else (some false))) else (some false)) else (some false)) else (some false)) else (some false)) else (some false)) else (some false)) else (some false))) else ((millhandlaw01_alive.f k).bind fun t397 => (if t397 = true then (if bt342.2.2 = 0 then (some false) else (some false)) else (some false)))) else ((millhandlaw01_alive.f k).bind fun t398 => (if t398 = true then (if bt342.2.2 = 0 then (some false) else (some false)) else (some false)))) else ((millhandlaw01_alive.f k).bind fun t399 => (if t399 = true then (if bt342.2.2 = 0 then (some false) else (some false)) else (some false)))) else ((millhandlaw01_alive.f k).bind fun t400 => (if t400 = true then (if bt342.2.2 = 0 then (some false) else (some false)) else (some false)))) else ((millhandlaw01_alive.f k).bind fun t401 => (if t401 = true then (if bt342.2.2 = 0 then (some false) else (some false)) else (some false)))) else (if bt353.1.toList = ([1, 0, 0, 0, 0, 0, 0, 1, 2] : List UInt8) then (if bt353.2 = 0 then (if bt364.1.toList = ([2, 97, 0, 0, 2, 0, 0] : List UInt8) then (if bt364.2 = 0 then (if bt372.1.toList = ([2, 0, 255, 0, 0] : List UInt8) then ((millhandlaw01_alive.f k).bind fun t402 => (if t402 = true then (some false) else (some false))) else ((millhandlaw01_alive.f k).bind fun t403 => (if t403 = true then (some false) else (some false)))) else ((millhandlaw01_alive.f k).bind fun t404 => (if t404 = true then (some false) else (some false)))) else ((millhandlaw01_alive.f k).bind fun t405 => (if t405 = true then (some false) else (some false)))) else ((millhandlaw01_alive.f k).bind fun t406 => (if t406 = true then (some false) else (some false)))) else ((millhandlaw01_alive.f k).bind fun t407 => (if t407 = true then (some false) else (some false))))) else (if bt353.1.toList = ([1, 0, 0, 0, 0, 0, 0, 1, 2] : List UInt8) then (if bt353.2 = 0 then (if bt364.1.toList = ([2, 97, 0, 0, 2, 0, 0] : List UInt8) then (if bt364.2 = 0 then (if bt372.1.toList = ([2, 0, 255, 0, 0] : List UInt8) then ((millhandlaw01_alive.f k).bind fun t408 => (if t408 = true then (some false) else (some false))) else ((millhandlaw01_alive.f k).bind fun t409 => (if t409 = true then (some false) else (some false)))) else ((millhandlaw01_alive.f k).bind fun t410 => (if t410 = true then (some false) else (some false)))) else ((millhandlaw01_alive.f k).bind fun t411 => (if t411 = true then (some false) else (some false)))) else ((millhandlaw01_alive.f k).bind fun t412 => (if t412 = true then (some false) else (some false)))) else ((millhandlaw01_alive.f k).bind fun t413 => (if t413 = true then (some false) else (some false))))) else (if bt353.1.toList = ([1, 0, 0, 0, 0, 0, 0, 1, 2] : List UInt8) then (if bt353.2 = 0 then (if bt364.1.toList = ([2, 97, 0, 0, 2, 0, 0] : List UInt8) then (if bt364.2 = 0 then (if bt372.1.toList = ([2, 0, 255, 0, 0] : List UInt8) then ((millhandlaw01_alive.f k).bind fun t414 => (if t414 = true then (some false) else (some false))) else ((millhandlaw01_alive.f k).bind fun t415 => (if t415 = true then (some false) else (some false)))) else ((millhandlaw01_alive.f k).bind fun t416 => (if t416 = true then (some false) else (some false)))) else ((millhandlaw01_alive.f k).bind fun t417 => (if t417 = true then (some false) else (some false)))) else ((millhandlaw01_alive.f k).bind fun t418 => (if t418 = true then (some false) else (some false)))) else ((millhandlaw01_alive.f k).bind fun t419 => (if t419 = true then (some false) else (some false)))))) else (if bt353.1.toList = ([1, 0, 0, 0, 0, 0, 0, 1, 2] : List UInt8) then (if bt353.2 = 0 then (if bt364.1.toList = ([2, 97, 0, 0, 2, 0, 0] : List UInt8) then (if bt364.2 = 0 then (if bt372.1.toList = ([2, 0, 255, 0, 0] : List UInt8) then ((millhandlaw01_alive.f k).bind fun t420 => (if t420 = true then (some false) else (some false))) else ((millhandlaw01_alive.f k).bind fun t421 => (if t421 = true then (some false) else (some false)))) else ((millhandlaw01_alive.f k).bind fun t422 => (if t422 = true then (some false) else (some false)))) else ((millhandlaw01_alive.f k).bind fun t423 => (if t423 = true then (some false) else (some false)))) else ((millhandlaw01_alive.f k).bind fun t424 => (if t424 = true then (some false) else (some false)))) else ((millhandlaw01_alive.f k).bind fun t425 => (if t425 = true then (some false) else (some false))))) else (if bt353.1.toList = ([1, 0, 0, 0, 0, 0, 0, 1, 2] : List UInt8) then (if bt353.2 = 0 then (if bt364.1.toList = ([2, 97, 0, 0, 2, 0, 0] : List UInt8) then (if bt364.2 = 0 then (if bt372.1.toList = ([2, 0, 255, 0, 0] : List UInt8) then ((millhandlaw01_alive.f k).bind fun t426 => (if t426 = true then (some false) else (some false))) else ((millhandlaw01_alive.f k).bind fun t427 => (if t427 = true then (some false) else (some false)))) else ((millhandlaw01_alive.f k).bind fun t428 => (if t428 = true then (some false) else (some false)))) else ((millhandlaw01_alive.f k).bind fun t429 => (if t429 = true then (some false) else (some false)))) else ((millhandlaw01_alive.f k).bind fun t430 => (if t430 = true then (some false) else (some false)))) else ((millhandlaw01_alive.f k).bind fun t431 => (if t431 = true then (some false) else (some false))))) else (if bt353.1.toList = ([1, 0, 0, 0, 0, 0, 0, 1, 2] : List UInt8) then (if bt353.2 = 0 then (if bt364.1.toList = ([2, 97, 0, 0, 2, 0, 0] : List UInt8) then (if bt364.2 = 0 then (if bt372.1.toList = ([2, 0, 255, 0, 0] : List UInt8) then ((millhandlaw01_alive.f k).bind fun t432 => (if t432 = true then (some false) else (some false))) else ((millhandlaw01_alive.f k).bind fun t433 => (if t433 = true then (some false) else (some false)))) else ((millhandlaw01_alive.f k).bind fun t434 => (if t434 = true then (some false) else (some false)))) else ((millhandlaw01_alive.f k).bind fun t435 => (if t435 = true then (some false) else (some false)))) else ((millhandlaw01_alive.f k).bind fun t436 => (if t436 = true then (some false) else (some false)))) else ((millhandlaw01_alive.f k).bind fun t437 => (if t437 = true then (some false) else (some false))))) else (if bt353.1.toList = ([1, 0, 0, 0, 0, 0, 0, 1, 2] : List UInt8) then (if bt353.2 = 0 then (if bt364.1.toList = ([2, 97, 0, 0, 2, 0, 0] : List UInt8) then (if bt364.2 = 0 then (if bt372.1.toList = ([2, 0, 255, 0, 0] : List UInt8) then ((millhandlaw01_alive.f k).bind fun t438 => (if t438 = true then (some false) else (some false))) else ((millhandlaw01_alive.f k).bind fun t439 => (if t439 = true then (some false) else (some false)))) else ((millhandlaw01_alive.f k).bind fun t440 => (if t440 = true then (some false) else (some false)))) else ((millhandlaw01_alive.f k).bind fun t441 => (if t441 = true then (some false) else (some false)))) else ((millhandlaw01_alive.f k).bind fun t442 => (if t442 = true then (some false) else (some false)))) else ((millhandlaw01_alive.f k).bind fun t443 => (if t443 = true then (some false) else (some false))))) else (if bt353.1.toList = ([1, 0, 0, 0, 0, 0, 0, 1, 2] : List UInt8) then (if bt353.2 = 0 then (if bt364.1.toList = ([2, 97, 0, 0, 2, 0, 0] : List UInt8) then (if bt364.2 = 0 then (if bt372.1.toList = ([2, 0, 255, 0, 0] : List UInt8) then ((millhandlaw01_alive.f k).bind fun t444 => (if t444 = true then (some false) else (some false))) else ((millhandlaw01_alive.f k).bind fun t445 => (if t445 = true then (some false) else (some false)))) else ((millhandlaw01_alive.f k).bind fun t446 => (if t446 = true then (some false) else (some false)))) else ((millhandlaw01_alive.f k).bind fun t447 => (if t447 = true then (some false) else (some false)))) else ((millhandlaw01_alive.f k).bind fun t448 => (if t448 = true then (some false) else (some false)))) else ((millhandlaw01_alive.f k).bind fun t449 => (if t449 = true then (some false) else (some false)))))))))))))))))))))) = some r := by first | (rw [hy327]; with_reducible exact H) | (have H2_ := (Option.bind_some _ _).symm.trans H; rw [hy327]; with_reducible exact H2_) | (have H2_ := (Option.bind_some _ _).symm.trans H; with_reducible exact H2_) | with_reducible exact H | (rw [hy327]; exact H) | exact H
 have Ny327 := Aside0.mk hy327
 clear hy327
 replace H := Option.bind_eq_some_iff.mp H
 obtain ⟨⟨t330, t331, t332⟩, A10, H⟩ := H
 try dsimp only at H
 have A1 := Aside0.mk A10
 clear A10
 obtain ⟨y333, hy333⟩ : ∃ y_ : List Int, y_ = (([128, 0] : List Int)) := ⟨_, rfl⟩
 replace H : ((code_Read.f k y333).bind fun bt336 => ((code_Cut.f k (([2, 97, 98, 7] : List Int))).bind fun bt342 => ((millhandlaw01_num.f 258).bind fun bt347 => ((code_Key.f k (([(⟨bt347.1, bt347.2.1, bt347.2.2⟩ : S50)] : List (S50)))).bind fun bt353 => ((millhandlaw01_txt.f (⟨#[97]⟩ : ByteArray)).bind fun bt355 => ((millhandlaw01_txt.f (⟨#[]⟩ : ByteArray)).bind fun bt358 => ((code_Key.f k (([(⟨bt355.1, bt355.2.1, bt355.2.2⟩ : S50), (⟨bt358.1, bt358.2.1, bt358.2.2⟩ : S50)] : List (S50)))).bind fun bt364 => ((millhandlaw01_txt.f (⟨#[0]⟩ : ByteArray)).bind fun bt366 => ((code_Key.f k (([(⟨bt366.1, bt366.2.1, bt366.2.2⟩ : S50)] : List (S50)))).bind fun bt372 => ((code_Above.f (⟨#[97, 98]⟩ : ByteArray)).bind fun bt374 => ((code_Above.f (⟨#[97, 255]⟩ : ByteArray)).bind fun bt376 => ((code_Above.f (⟨#[255]⟩ : ByteArray)).bind fun bt378 => ((code_Key.f k ([] : List (S50))).bind fun bt380 => ((code_Parts.f k (⟨#[3]⟩ : ByteArray)).bind fun bt382 => ((code_Parts.f k (⟨#[2, 97, 0]⟩ : ByteArray)).bind fun bt386 => ((code_Small.f k 300).bind fun t390 => (if (strOfNums t390).toList = ([172, 2] : List UInt8) then (if t330 = 300 then (if t331 = 2 then (if t332 = 0 then (if bt336.2.2 = 8 then ((code_Text.f k (⟨#[97, 98]⟩ : ByteArray)).bind fun t393 => (if (strOfNums t393).toList = ([2, 97, 98] : List UInt8) then (if bt342.1.toList = ([97, 98] : List UInt8) then (if (strOfNums bt342.2.1).toList = ([7] : List UInt8) then (if bt353.1.toList = ([1, 0, 0, 0, 0, 0, 0, 1, 2] : List UInt8) then (if bt353.2 = 0 then (if bt364.1.toList = ([2, 97, 0, 0, 2, 0, 0] : List UInt8) then (if bt364.2 = 0 then (if bt372.1.toList = ([2, 0, 255, 0, 0] : List UInt8) then ((millhandlaw01_alive.f k).bind fun t396 => (if t396 = true then (if bt342.2.2 = 0 then (if bt372.2 = 0 then (if bt374.1.toList = ([97, 99] : List UInt8) then (if bt374.2 = true then (if bt376.1.toList = ([98] : List UInt8) then (if bt376.2 = true then (if bt378.2 = true then (some false) else (if bt380.2 = 4 then (if bt382.2 = 8 then (some (bt386.2 == 8)) else (some false)) else (some false))) else (some false)) else (some false)) else (some false)) else (some false)) else (some false)) else (some false)) else (some false))) else ((millhandlaw01_alive.f k).bind fun t397 => (if t397 = true then (if bt342.2.2 = 0 then (some false) else (some false)) else (some false)))) else ((millhandlaw01_alive.f k).bind fun t398 => (if t398 = true then (if bt342.2.2 = 0 then (some false) else (some false)) else (some false)))) else ((millhandlaw01_alive.f k).bind fun t399 => (if t399 = true then (if bt342.2.2 = 0 then (some false) else (some false)) else (some false)))) else ((millhandlaw01_alive.f k).bind fun t400 => (if t400 = true then (if bt342.2.2 = 0 then (some false) else (some false)) else (some false)))) else ((millhandlaw01_alive.f k).bind fun t401 => (if t401 = true then (if bt342.2.2 = 0 then (some false) else (some false)) else (some false)))) else (if bt353.1.toList = ([1, 0, 0, 0, 0, 0, 0, 1, 2] : List UInt8) then (if bt353.2 = 0 then (if bt364.1.toList = ([2, 97, 0, 0, 2, 0, 0] : List UInt8) then (if bt364.2 = 0 then (if bt372.1.toList = ([2, 0, 255, 0, 0] : List UInt8) then ((millhandlaw01_alive.f k).bind fun t402 => (if t402 = true then (some false) else (some false))) else ((millhandlaw01_alive.f k).bind fun t403 => (if t403 = true then (some false) else (some false)))) else ((millhandlaw01_alive.f k).bind fun t404 => (if t404 = true then (some false) else (some false)))) else ((millhandlaw01_alive.f k).bind fun t405 => (if t405 = true then (some false) else (some false)))) else ((millhandlaw01_alive.f k).bind fun t406 => (if t406 = true then (some false) else (some false)))) else ((millhandlaw01_alive.f k).bind fun t407 => (if t407 = true then (some false) else (some false))))) else (if bt353.1.toList = ([1, 0, 0, 0, 0, 0, 0, 1, 2] : List UInt8) then (if bt353.2 = 0 then (if bt364.1.toList = ([2, 97, 0, 0, 2, 0, 0] : List UInt8) then (if bt364.2 = 0 then (if bt372.1.toList = ([2, 0, 255, 0, 0] : List UInt8) then ((millhandlaw01_alive.f k).bind fun t408 => (if t408 = true then (some false) else (some false))) else ((millhandlaw01_alive.f k).bind fun t409 => (if t409 = true then (some false) else (some false)))) else ((millhandlaw01_alive.f k).bind fun t410 => (if t410 = true then (some false) else (some false)))) else ((millhandlaw01_alive.f k).bind fun t411 => (if t411 = true then (some false) else (some false)))) else ((millhandlaw01_alive.f k).bind fun t412 => (if t412 = true then (some false) else (some false)))) else ((millhandlaw01_alive.f k).bind fun t413 => (if t413 = true then (some false) else (some false))))) else (if bt353.1.toList = ([1, 0, 0, 0, 0, 0, 0, 1, 2] : List UInt8) then (if bt353.2 = 0 then (if bt364.1.toList = ([2, 97, 0, 0, 2, 0, 0] : List UInt8) then (if bt364.2 = 0 then (if bt372.1.toList = ([2, 0, 255, 0, 0] : List UInt8) then ((millhandlaw01_alive.f k).bind fun t414 => (if t414 = true then (some false) else (some false))) else ((millhandlaw01_alive.f k).bind fun t415 => (if t415 = true then (some false) else (some false)))) else ((millhandlaw01_alive.f k).bind fun t416 => (if t416 = true then (some false) else (some false)))) else ((millhandlaw01_alive.f k).bind fun t417 => (if t417 = true then (some false) else (some false)))) else ((millhandlaw01_alive.f k).bind fun t418 => (if t418 = true then (some false) else (some false)))) else ((millhandlaw01_alive.f k).bind fun t419 => (if t419 = true then (some false) else (some false)))))) else (if bt353.1.toList = ([1, 0, 0, 0, 0, 0, 0, 1, 2] : List UInt8) then (if bt353.2 = 0 then (if bt364.1.toList = ([2, 97, 0, 0, 2, 0, 0] : List UInt8) then (if bt364.2 = 0 then (if bt372.1.toList = ([2, 0, 255, 0, 0] : List UInt8) then ((millhandlaw01_alive.f k).bind fun t420 => (if t420 = true then (some false) else (some false))) else ((millhandlaw01_alive.f k).bind fun t421 => (if t421 = true then (some false) else (some false)))) else ((millhandlaw01_alive.f k).bind fun t422 => (if t422 = true then (some false) else (some false)))) else ((millhandlaw01_alive.f k).bind fun t423 => (if t423 = true then (some false) else (some false)))) else ((millhandlaw01_alive.f k).bind fun t424 => (if t424 = true then (some false) else (some false)))) else ((millhandlaw01_alive.f k).bind fun t425 => (if t425 = true then (some false) else (some false))))) else (if bt353.1.toList = ([1, 0, 0, 0, 0, 0, 0, 1, 2] : List UInt8) then (if bt353.2 = 0 then (if bt364.1.toList = ([2, 97, 0, 0, 2, 0, 0] : List UInt8) then (if bt364.2 = 0 then (if bt372.1.toList = ([2, 0, 255, 0, 0] : List UInt8) then ((millhandlaw01_alive.f k).bind fun t426 => (if t426 = true then (some false) else (some false))) else ((millhandlaw01_alive.f k).bind fun t427 => (if t427 = true then (some false) else (some false)))) else ((millhandlaw01_alive.f k).bind fun t428 => (if t428 = true then (some false) else (some false)))) else ((millhandlaw01_alive.f k).bind fun t429 => (if t429 = true then (some false) else (some false)))) else ((millhandlaw01_alive.f k).bind fun t430 => (if t430 = true then (some false) else (some false)))) else ((millhandlaw01_alive.f k).bind fun t431 => (if t431 = true then (some false) else (some false))))) else (if bt353.1.toList = ([1, 0, 0, 0, 0, 0, 0, 1, 2] : List UInt8) then (if bt353.2 = 0 then (if bt364.1.toList = ([2, 97, 0, 0, 2, 0, 0] : List UInt8) then (if bt364.2 = 0 then (if bt372.1.toList = ([2, 0, 255, 0, 0] : List UInt8) then ((millhandlaw01_alive.f k).bind fun t432 => (if t432 = true then (some false) else (some false))) else ((millhandlaw01_alive.f k).bind fun t433 => (if t433 = true then (some false) else (some false)))) else ((millhandlaw01_alive.f k).bind fun t434 => (if t434 = true then (some false) else (some false)))) else ((millhandlaw01_alive.f k).bind fun t435 => (if t435 = true then (some false) else (some false)))) else ((millhandlaw01_alive.f k).bind fun t436 => (if t436 = true then (some false) else (some false)))) else ((millhandlaw01_alive.f k).bind fun t437 => (if t437 = true then (some false) else (some false))))) else (if bt353.1.toList = ([1, 0, 0, 0, 0, 0, 0, 1, 2] : List UInt8) then (if bt353.2 = 0 then (if bt364.1.toList = ([2, 97, 0, 0, 2, 0, 0] : List UInt8) then (if bt364.2 = 0 then (if bt372.1.toList = ([2, 0, 255, 0, 0] : List UInt8) then ((millhandlaw01_alive.f k).bind fun t438 => (if t438 = true then (some false) else (some false))) else ((millhandlaw01_alive.f k).bind fun t439 => (if t439 = true then (some false) else (some false)))) else ((millhandlaw01_alive.f k).bind fun t440 => (if t440 = true then (some false) else (some false)))) else ((millhandlaw01_alive.f k).bind fun t441 => (if t441 = true then (some false) else (some false)))) else ((millhandlaw01_alive.f k).bind fun t442 => (if t442 = true then (some false) else (some false)))) else ((millhandlaw01_alive.f k).bind fun t443 => (if t443 = true then (some false) else (some false))))) else (if bt353.1.toList = ([1, 0, 0, 0, 0, 0, 0, 1, 2] : List UInt8) then (if bt353.2 = 0 then (if bt364.1.toList = ([2, 97, 0, 0, 2, 0, 0] : List UInt8) then (if bt364.2 = 0 then (if bt372.1.toList = ([2, 0, 255, 0, 0] : List UInt8) then ((millhandlaw01_alive.f k).bind fun t444 => (if t444 = true then (some false) else (some false))) else ((millhandlaw01_alive.f k).bind fun t445 => (if t445 = true then (some false) else (some false)))) else ((millhandlaw01_alive.f k).bind fun t446 => (if t446 = true then (some false) else (some false)))) else ((millhandlaw01_alive.f k).bind fun t447 => (if t447 = true then (some false) else (some false)))) else ((millhandlaw01_alive.f k).bind fun t448 => (if t448 = true then (some false) else (some false)))) else ((millhandlaw01_alive.f k).bind fun t449 => (if t449 = true then (some false) else (some false))))))))))))))))))))) = some r := by first | (rw [hy333]; with_reducible exact H) | (have H2_ := (Option.bind_some _ _).symm.trans H; rw [hy333]; with_reducible exact H2_) | (have H2_ := (Option.bind_some _ _).symm.trans H; with_reducible exact H2_) | with_reducible exact H | (rw [hy333]; exact H) | exact H
 have Ny333 := Aside0.mk hy333
 clear hy333
 replace H := Option.bind_eq_some_iff.mp H
 obtain ⟨⟨t336, t337, t338⟩, A20, H⟩ := H
 try dsimp only at H
 have A2 := Aside0.mk A20
 clear A20
 obtain ⟨y339, hy339⟩ : ∃ y_ : List Int, y_ = (([2, 97, 98, 7] : List Int)) := ⟨_, rfl⟩
 replace H : ((code_Cut.f k y339).bind fun bt342 => ((millhandlaw01_num.f 258).bind fun bt347 => ((code_Key.f k (([(⟨bt347.1, bt347.2.1, bt347.2.2⟩ : S50)] : List (S50)))).bind fun bt353 => ((millhandlaw01_txt.f (⟨#[97]⟩ : ByteArray)).bind fun bt355 => ((millhandlaw01_txt.f (⟨#[]⟩ : ByteArray)).bind fun bt358 => ((code_Key.f k (([(⟨bt355.1, bt355.2.1, bt355.2.2⟩ : S50), (⟨bt358.1, bt358.2.1, bt358.2.2⟩ : S50)] : List (S50)))).bind fun bt364 => ((millhandlaw01_txt.f (⟨#[0]⟩ : ByteArray)).bind fun bt366 => ((code_Key.f k (([(⟨bt366.1, bt366.2.1, bt366.2.2⟩ : S50)] : List (S50)))).bind fun bt372 => ((code_Above.f (⟨#[97, 98]⟩ : ByteArray)).bind fun bt374 => ((code_Above.f (⟨#[97, 255]⟩ : ByteArray)).bind fun bt376 => ((code_Above.f (⟨#[255]⟩ : ByteArray)).bind fun bt378 => ((code_Key.f k ([] : List (S50))).bind fun bt380 => ((code_Parts.f k (⟨#[3]⟩ : ByteArray)).bind fun bt382 => ((code_Parts.f k (⟨#[2, 97, 0]⟩ : ByteArray)).bind fun bt386 => ((code_Small.f k 300).bind fun t390 => (if (strOfNums t390).toList = ([172, 2] : List UInt8) then (if t330 = 300 then (if t331 = 2 then (if t332 = 0 then (if t338 = 8 then ((code_Text.f k (⟨#[97, 98]⟩ : ByteArray)).bind fun t393 => (if (strOfNums t393).toList = ([2, 97, 98] : List UInt8) then (if bt342.1.toList = ([97, 98] : List UInt8) then (if (strOfNums bt342.2.1).toList = ([7] : List UInt8) then (if bt353.1.toList = ([1, 0, 0, 0, 0, 0, 0, 1, 2] : List UInt8) then (if bt353.2 = 0 then (if bt364.1.toList = ([2, 97, 0, 0, 2, 0, 0] : List UInt8) then (if bt364.2 = 0 then (if bt372.1.toList = ([2, 0, 255, 0, 0] : List UInt8) then ((millhandlaw01_alive.f k).bind fun t396 => (if t396 = true then (if bt342.2.2 = 0 then (if bt372.2 = 0 then (if bt374.1.toList = ([97, 99] : List UInt8) then (if bt374.2 = true then (if bt376.1.toList = ([98] : List UInt8) then (if bt376.2 = true then (if bt378.2 = true then (some false) else (if bt380.2 = 4 then (if bt382.2 = 8 then (some (bt386.2 == 8)) else (some false)) else (some false))) else (some false)) else (some false)) else (some false)) else (some false)) else (some false)) else (some false)) else (some false))) else ((millhandlaw01_alive.f k).bind fun t397 => (if t397 = true then (if bt342.2.2 = 0 then (some false) else (some false)) else (some false)))) else ((millhandlaw01_alive.f k).bind fun t398 => (if t398 = true then (if bt342.2.2 = 0 then (some false) else (some false)) else (some false)))) else ((millhandlaw01_alive.f k).bind fun t399 => (if t399 = true then (if bt342.2.2 = 0 then (some false) else (some false)) else (some false)))) else ((millhandlaw01_alive.f k).bind fun t400 => (if t400 = true then (if bt342.2.2 = 0 then (some false) else (some false)) else (some false)))) else ((millhandlaw01_alive.f k).bind fun t401 => (if t401 = true then (if bt342.2.2 = 0 then (some false) else (some false)) else (some false)))) else (if bt353.1.toList = ([1, 0, 0, 0, 0, 0, 0, 1, 2] : List UInt8) then (if bt353.2 = 0 then (if bt364.1.toList = ([2, 97, 0, 0, 2, 0, 0] : List UInt8) then (if bt364.2 = 0 then (if bt372.1.toList = ([2, 0, 255, 0, 0] : List UInt8) then ((millhandlaw01_alive.f k).bind fun t402 => (if t402 = true then (some false) else (some false))) else ((millhandlaw01_alive.f k).bind fun t403 => (if t403 = true then (some false) else (some false)))) else ((millhandlaw01_alive.f k).bind fun t404 => (if t404 = true then (some false) else (some false)))) else ((millhandlaw01_alive.f k).bind fun t405 => (if t405 = true then (some false) else (some false)))) else ((millhandlaw01_alive.f k).bind fun t406 => (if t406 = true then (some false) else (some false)))) else ((millhandlaw01_alive.f k).bind fun t407 => (if t407 = true then (some false) else (some false))))) else (if bt353.1.toList = ([1, 0, 0, 0, 0, 0, 0, 1, 2] : List UInt8) then (if bt353.2 = 0 then (if bt364.1.toList = ([2, 97, 0, 0, 2, 0, 0] : List UInt8) then (if bt364.2 = 0 then (if bt372.1.toList = ([2, 0, 255, 0, 0] : List UInt8) then ((millhandlaw01_alive.f k).bind fun t408 => (if t408 = true then (some false) else (some false))) else ((millhandlaw01_alive.f k).bind fun t409 => (if t409 = true then (some false) else (some false)))) else ((millhandlaw01_alive.f k).bind fun t410 => (if t410 = true then (some false) else (some false)))) else ((millhandlaw01_alive.f k).bind fun t411 => (if t411 = true then (some false) else (some false)))) else ((millhandlaw01_alive.f k).bind fun t412 => (if t412 = true then (some false) else (some false)))) else ((millhandlaw01_alive.f k).bind fun t413 => (if t413 = true then (some false) else (some false))))) else (if bt353.1.toList = ([1, 0, 0, 0, 0, 0, 0, 1, 2] : List UInt8) then (if bt353.2 = 0 then (if bt364.1.toList = ([2, 97, 0, 0, 2, 0, 0] : List UInt8) then (if bt364.2 = 0 then (if bt372.1.toList = ([2, 0, 255, 0, 0] : List UInt8) then ((millhandlaw01_alive.f k).bind fun t414 => (if t414 = true then (some false) else (some false))) else ((millhandlaw01_alive.f k).bind fun t415 => (if t415 = true then (some false) else (some false)))) else ((millhandlaw01_alive.f k).bind fun t416 => (if t416 = true then (some false) else (some false)))) else ((millhandlaw01_alive.f k).bind fun t417 => (if t417 = true then (some false) else (some false)))) else ((millhandlaw01_alive.f k).bind fun t418 => (if t418 = true then (some false) else (some false)))) else ((millhandlaw01_alive.f k).bind fun t419 => (if t419 = true then (some false) else (some false)))))) else (if bt353.1.toList = ([1, 0, 0, 0, 0, 0, 0, 1, 2] : List UInt8) then (if bt353.2 = 0 then (if bt364.1.toList = ([2, 97, 0, 0, 2, 0, 0] : List UInt8) then (if bt364.2 = 0 then (if bt372.1.toList = ([2, 0, 255, 0, 0] : List UInt8) then ((millhandlaw01_alive.f k).bind fun t420 => (if t420 = true then (some false) else (some false))) else ((millhandlaw01_alive.f k).bind fun t421 => (if t421 = true then (some false) else (some false)))) else ((millhandlaw01_alive.f k).bind fun t422 => (if t422 = true then (some false) else (some false)))) else ((millhandlaw01_alive.f k).bind fun t423 => (if t423 = true then (some false) else (some false)))) else ((millhandlaw01_alive.f k).bind fun t424 => (if t424 = true then (some false) else (some false)))) else ((millhandlaw01_alive.f k).bind fun t425 => (if t425 = true then (some false) else (some false))))) else (if bt353.1.toList = ([1, 0, 0, 0, 0, 0, 0, 1, 2] : List UInt8) then (if bt353.2 = 0 then (if bt364.1.toList = ([2, 97, 0, 0, 2, 0, 0] : List UInt8) then (if bt364.2 = 0 then (if bt372.1.toList = ([2, 0, 255, 0, 0] : List UInt8) then ((millhandlaw01_alive.f k).bind fun t426 => (if t426 = true then (some false) else (some false))) else ((millhandlaw01_alive.f k).bind fun t427 => (if t427 = true then (some false) else (some false)))) else ((millhandlaw01_alive.f k).bind fun t428 => (if t428 = true then (some false) else (some false)))) else ((millhandlaw01_alive.f k).bind fun t429 => (if t429 = true then (some false) else (some false)))) else ((millhandlaw01_alive.f k).bind fun t430 => (if t430 = true then (some false) else (some false)))) else ((millhandlaw01_alive.f k).bind fun t431 => (if t431 = true then (some false) else (some false))))) else (if bt353.1.toList = ([1, 0, 0, 0, 0, 0, 0, 1, 2] : List UInt8) then (if bt353.2 = 0 then (if bt364.1.toList = ([2, 97, 0, 0, 2, 0, 0] : List UInt8) then (if bt364.2 = 0 then (if bt372.1.toList = ([2, 0, 255, 0, 0] : List UInt8) then ((millhandlaw01_alive.f k).bind fun t432 => (if t432 = true then (some false) else (some false))) else ((millhandlaw01_alive.f k).bind fun t433 => (if t433 = true then (some false) else (some false)))) else ((millhandlaw01_alive.f k).bind fun t434 => (if t434 = true then (some false) else (some false)))) else ((millhandlaw01_alive.f k).bind fun t435 => (if t435 = true then (some false) else (some false)))) else ((millhandlaw01_alive.f k).bind fun t436 => (if t436 = true then (some false) else (some false)))) else ((millhandlaw01_alive.f k).bind fun t437 => (if t437 = true then (some false) else (some false))))) else (if bt353.1.toList = ([1, 0, 0, 0, 0, 0, 0, 1, 2] : List UInt8) then (if bt353.2 = 0 then (if bt364.1.toList = ([2, 97, 0, 0, 2, 0, 0] : List UInt8) then (if bt364.2 = 0 then (if bt372.1.toList = ([2, 0, 255, 0, 0] : List UInt8) then ((millhandlaw01_alive.f k).bind fun t438 => (if t438 = true then (some false) else (some false))) else ((millhandlaw01_alive.f k).bind fun t439 => (if t439 = true then (some false) else (some false)))) else ((millhandlaw01_alive.f k).bind fun t440 => (if t440 = true then (some false) else (some false)))) else ((millhandlaw01_alive.f k).bind fun t441 => (if t441 = true then (some false) else (some false)))) else ((millhandlaw01_alive.f k).bind fun t442 => (if t442 = true then (some false) else (some false)))) else ((millhandlaw01_alive.f k).bind fun t443 => (if t443 = true then (some false) else (some false))))) else (if bt353.1.toList = ([1, 0, 0, 0, 0, 0, 0, 1, 2] : List UInt8) then (if bt353.2 = 0 then (if bt364.1.toList = ([2, 97, 0, 0, 2, 0, 0] : List UInt8) then (if bt364.2 = 0 then (if bt372.1.toList = ([2, 0, 255, 0, 0] : List UInt8) then ((millhandlaw01_alive.f k).bind fun t444 => (if t444 = true then (some false) else (some false))) else ((millhandlaw01_alive.f k).bind fun t445 => (if t445 = true then (some false) else (some false)))) else ((millhandlaw01_alive.f k).bind fun t446 => (if t446 = true then (some false) else (some false)))) else ((millhandlaw01_alive.f k).bind fun t447 => (if t447 = true then (some false) else (some false)))) else ((millhandlaw01_alive.f k).bind fun t448 => (if t448 = true then (some false) else (some false)))) else ((millhandlaw01_alive.f k).bind fun t449 => (if t449 = true then (some false) else (some false)))))))))))))))))))) = some r := by first | (rw [hy339]; with_reducible exact H) | (have H2_ := (Option.bind_some _ _).symm.trans H; rw [hy339]; with_reducible exact H2_) | (have H2_ := (Option.bind_some _ _).symm.trans H; with_reducible exact H2_) | with_reducible exact H | (rw [hy339]; exact H) | exact H
 have Ny339 := Aside0.mk hy339
 clear hy339
 replace H := Option.bind_eq_some_iff.mp H
 obtain ⟨⟨t342, t343, t344⟩, A30, H⟩ := H
 try dsimp only at H
 have A3 := Aside0.mk A30
 clear A30
 replace H := Option.bind_eq_some_iff.mp H
 obtain ⟨⟨t347, t348, t349⟩, A40, H⟩ := H
 try dsimp only at H
 have A4 := Aside0.mk A40
 clear A40
 obtain ⟨y350, hy350⟩ : ∃ y_ : List (S50), y_ = (([(⟨t347, t348, t349⟩ : S50)] : List (S50))) := ⟨_, rfl⟩
 replace H : ((code_Key.f k y350).bind fun bt353 => ((millhandlaw01_txt.f (⟨#[97]⟩ : ByteArray)).bind fun bt355 => ((millhandlaw01_txt.f (⟨#[]⟩ : ByteArray)).bind fun bt358 => ((code_Key.f k (([(⟨bt355.1, bt355.2.1, bt355.2.2⟩ : S50), (⟨bt358.1, bt358.2.1, bt358.2.2⟩ : S50)] : List (S50)))).bind fun bt364 => ((millhandlaw01_txt.f (⟨#[0]⟩ : ByteArray)).bind fun bt366 => ((code_Key.f k (([(⟨bt366.1, bt366.2.1, bt366.2.2⟩ : S50)] : List (S50)))).bind fun bt372 => ((code_Above.f (⟨#[97, 98]⟩ : ByteArray)).bind fun bt374 => ((code_Above.f (⟨#[97, 255]⟩ : ByteArray)).bind fun bt376 => ((code_Above.f (⟨#[255]⟩ : ByteArray)).bind fun bt378 => ((code_Key.f k ([] : List (S50))).bind fun bt380 => ((code_Parts.f k (⟨#[3]⟩ : ByteArray)).bind fun bt382 => ((code_Parts.f k (⟨#[2, 97, 0]⟩ : ByteArray)).bind fun bt386 => ((code_Small.f k 300).bind fun t390 => (if (strOfNums t390).toList = ([172, 2] : List UInt8) then (if t330 = 300 then (if t331 = 2 then (if t332 = 0 then (if t338 = 8 then ((code_Text.f k (⟨#[97, 98]⟩ : ByteArray)).bind fun t393 => (if (strOfNums t393).toList = ([2, 97, 98] : List UInt8) then (if t342.toList = ([97, 98] : List UInt8) then (if (strOfNums t343).toList = ([7] : List UInt8) then (if bt353.1.toList = ([1, 0, 0, 0, 0, 0, 0, 1, 2] : List UInt8) then (if bt353.2 = 0 then (if bt364.1.toList = ([2, 97, 0, 0, 2, 0, 0] : List UInt8) then (if bt364.2 = 0 then (if bt372.1.toList = ([2, 0, 255, 0, 0] : List UInt8) then ((millhandlaw01_alive.f k).bind fun t396 => (if t396 = true then (if t344 = 0 then (if bt372.2 = 0 then (if bt374.1.toList = ([97, 99] : List UInt8) then (if bt374.2 = true then (if bt376.1.toList = ([98] : List UInt8) then (if bt376.2 = true then (if bt378.2 = true then (some false) else (if bt380.2 = 4 then (if bt382.2 = 8 then (some (bt386.2 == 8)) else (some false)) else (some false))) else (some false)) else (some false)) else (some false)) else (some false)) else (some false)) else (some false)) else (some false))) else ((millhandlaw01_alive.f k).bind fun t397 => (if t397 = true then (if t344 = 0 then (some false) else (some false)) else (some false)))) else ((millhandlaw01_alive.f k).bind fun t398 => (if t398 = true then (if t344 = 0 then (some false) else (some false)) else (some false)))) else ((millhandlaw01_alive.f k).bind fun t399 => (if t399 = true then (if t344 = 0 then (some false) else (some false)) else (some false)))) else ((millhandlaw01_alive.f k).bind fun t400 => (if t400 = true then (if t344 = 0 then (some false) else (some false)) else (some false)))) else ((millhandlaw01_alive.f k).bind fun t401 => (if t401 = true then (if t344 = 0 then (some false) else (some false)) else (some false)))) else (if bt353.1.toList = ([1, 0, 0, 0, 0, 0, 0, 1, 2] : List UInt8) then (if bt353.2 = 0 then (if bt364.1.toList = ([2, 97, 0, 0, 2, 0, 0] : List UInt8) then (if bt364.2 = 0 then (if bt372.1.toList = ([2, 0, 255, 0, 0] : List UInt8) then ((millhandlaw01_alive.f k).bind fun t402 => (if t402 = true then (some false) else (some false))) else ((millhandlaw01_alive.f k).bind fun t403 => (if t403 = true then (some false) else (some false)))) else ((millhandlaw01_alive.f k).bind fun t404 => (if t404 = true then (some false) else (some false)))) else ((millhandlaw01_alive.f k).bind fun t405 => (if t405 = true then (some false) else (some false)))) else ((millhandlaw01_alive.f k).bind fun t406 => (if t406 = true then (some false) else (some false)))) else ((millhandlaw01_alive.f k).bind fun t407 => (if t407 = true then (some false) else (some false))))) else (if bt353.1.toList = ([1, 0, 0, 0, 0, 0, 0, 1, 2] : List UInt8) then (if bt353.2 = 0 then (if bt364.1.toList = ([2, 97, 0, 0, 2, 0, 0] : List UInt8) then (if bt364.2 = 0 then (if bt372.1.toList = ([2, 0, 255, 0, 0] : List UInt8) then ((millhandlaw01_alive.f k).bind fun t408 => (if t408 = true then (some false) else (some false))) else ((millhandlaw01_alive.f k).bind fun t409 => (if t409 = true then (some false) else (some false)))) else ((millhandlaw01_alive.f k).bind fun t410 => (if t410 = true then (some false) else (some false)))) else ((millhandlaw01_alive.f k).bind fun t411 => (if t411 = true then (some false) else (some false)))) else ((millhandlaw01_alive.f k).bind fun t412 => (if t412 = true then (some false) else (some false)))) else ((millhandlaw01_alive.f k).bind fun t413 => (if t413 = true then (some false) else (some false))))) else (if bt353.1.toList = ([1, 0, 0, 0, 0, 0, 0, 1, 2] : List UInt8) then (if bt353.2 = 0 then (if bt364.1.toList = ([2, 97, 0, 0, 2, 0, 0] : List UInt8) then (if bt364.2 = 0 then (if bt372.1.toList = ([2, 0, 255, 0, 0] : List UInt8) then ((millhandlaw01_alive.f k).bind fun t414 => (if t414 = true then (some false) else (some false))) else ((millhandlaw01_alive.f k).bind fun t415 => (if t415 = true then (some false) else (some false)))) else ((millhandlaw01_alive.f k).bind fun t416 => (if t416 = true then (some false) else (some false)))) else ((millhandlaw01_alive.f k).bind fun t417 => (if t417 = true then (some false) else (some false)))) else ((millhandlaw01_alive.f k).bind fun t418 => (if t418 = true then (some false) else (some false)))) else ((millhandlaw01_alive.f k).bind fun t419 => (if t419 = true then (some false) else (some false)))))) else (if bt353.1.toList = ([1, 0, 0, 0, 0, 0, 0, 1, 2] : List UInt8) then (if bt353.2 = 0 then (if bt364.1.toList = ([2, 97, 0, 0, 2, 0, 0] : List UInt8) then (if bt364.2 = 0 then (if bt372.1.toList = ([2, 0, 255, 0, 0] : List UInt8) then ((millhandlaw01_alive.f k).bind fun t420 => (if t420 = true then (some false) else (some false))) else ((millhandlaw01_alive.f k).bind fun t421 => (if t421 = true then (some false) else (some false)))) else ((millhandlaw01_alive.f k).bind fun t422 => (if t422 = true then (some false) else (some false)))) else ((millhandlaw01_alive.f k).bind fun t423 => (if t423 = true then (some false) else (some false)))) else ((millhandlaw01_alive.f k).bind fun t424 => (if t424 = true then (some false) else (some false)))) else ((millhandlaw01_alive.f k).bind fun t425 => (if t425 = true then (some false) else (some false))))) else (if bt353.1.toList = ([1, 0, 0, 0, 0, 0, 0, 1, 2] : List UInt8) then (if bt353.2 = 0 then (if bt364.1.toList = ([2, 97, 0, 0, 2, 0, 0] : List UInt8) then (if bt364.2 = 0 then (if bt372.1.toList = ([2, 0, 255, 0, 0] : List UInt8) then ((millhandlaw01_alive.f k).bind fun t426 => (if t426 = true then (some false) else (some false))) else ((millhandlaw01_alive.f k).bind fun t427 => (if t427 = true then (some false) else (some false)))) else ((millhandlaw01_alive.f k).bind fun t428 => (if t428 = true then (some false) else (some false)))) else ((millhandlaw01_alive.f k).bind fun t429 => (if t429 = true then (some false) else (some false)))) else ((millhandlaw01_alive.f k).bind fun t430 => (if t430 = true then (some false) else (some false)))) else ((millhandlaw01_alive.f k).bind fun t431 => (if t431 = true then (some false) else (some false))))) else (if bt353.1.toList = ([1, 0, 0, 0, 0, 0, 0, 1, 2] : List UInt8) then (if bt353.2 = 0 then (if bt364.1.toList = ([2, 97, 0, 0, 2, 0, 0] : List UInt8) then (if bt364.2 = 0 then (if bt372.1.toList = ([2, 0, 255, 0, 0] : List UInt8) then ((millhandlaw01_alive.f k).bind fun t432 => (if t432 = true then (some false) else (some false))) else ((millhandlaw01_alive.f k).bind fun t433 => (if t433 = true then (some false) else (some false)))) else ((millhandlaw01_alive.f k).bind fun t434 => (if t434 = true then (some false) else (some false)))) else ((millhandlaw01_alive.f k).bind fun t435 => (if t435 = true then (some false) else (some false)))) else ((millhandlaw01_alive.f k).bind fun t436 => (if t436 = true then (some false) else (some false)))) else ((millhandlaw01_alive.f k).bind fun t437 => (if t437 = true then (some false) else (some false))))) else (if bt353.1.toList = ([1, 0, 0, 0, 0, 0, 0, 1, 2] : List UInt8) then (if bt353.2 = 0 then (if bt364.1.toList = ([2, 97, 0, 0, 2, 0, 0] : List UInt8) then (if bt364.2 = 0 then (if bt372.1.toList = ([2, 0, 255, 0, 0] : List UInt8) then ((millhandlaw01_alive.f k).bind fun t438 => (if t438 = true then (some false) else (some false))) else ((millhandlaw01_alive.f k).bind fun t439 => (if t439 = true then (some false) else (some false)))) else ((millhandlaw01_alive.f k).bind fun t440 => (if t440 = true then (some false) else (some false)))) else ((millhandlaw01_alive.f k).bind fun t441 => (if t441 = true then (some false) else (some false)))) else ((millhandlaw01_alive.f k).bind fun t442 => (if t442 = true then (some false) else (some false)))) else ((millhandlaw01_alive.f k).bind fun t443 => (if t443 = true then (some false) else (some false))))) else (if bt353.1.toList = ([1, 0, 0, 0, 0, 0, 0, 1, 2] : List UInt8) then (if bt353.2 = 0 then (if bt364.1.toList = ([2, 97, 0, 0, 2, 0, 0] : List UInt8) then (if bt364.2 = 0 then (if bt372.1.toList = ([2, 0, 255, 0, 0] : List UInt8) then ((millhandlaw01_alive.f k).bind fun t444 => (if t444 = true then (some false) else (some false))) else ((millhandlaw01_alive.f k).bind fun t445 => (if t445 = true then (some false) else (some false)))) else ((millhandlaw01_alive.f k).bind fun t446 => (if t446 = true then (some false) else (some false)))) else ((millhandlaw01_alive.f k).bind fun t447 => (if t447 = true then (some false) else (some false)))) else ((millhandlaw01_alive.f k).bind fun t448 => (if t448 = true then (some false) else (some false)))) else ((millhandlaw01_alive.f k).bind fun t449 => (if t449 = true then (some false) else (some false)))))))))))))))))) = some r := by first | (rw [hy350]; with_reducible exact H) | (have H2_ := (Option.bind_some _ _).symm.trans H; rw [hy350]; with_reducible exact H2_) | (have H2_ := (Option.bind_some _ _).symm.trans H; with_reducible exact H2_) | with_reducible exact H | (rw [hy350]; exact H) | exact H
 have Ny350 := Aside0.mk hy350
 clear hy350
 replace H := Option.bind_eq_some_iff.mp H
 obtain ⟨⟨t353, t354⟩, A50, H⟩ := H
 try dsimp only at H
 have A5 := Aside0.mk A50
 clear A50
 replace H := Option.bind_eq_some_iff.mp H
 obtain ⟨⟨t355, t356, t357⟩, A60, H⟩ := H
 try dsimp only at H
 have A6 := Aside0.mk A60
 clear A60
 replace H := Option.bind_eq_some_iff.mp H
 obtain ⟨⟨t358, t359, t360⟩, A70, H⟩ := H
 try dsimp only at H
 have A7 := Aside0.mk A70
 clear A70
 obtain ⟨y361, hy361⟩ : ∃ y_ : List (S50), y_ = (([(⟨t355, t356, t357⟩ : S50), (⟨t358, t359, t360⟩ : S50)] : List (S50))) := ⟨_, rfl⟩
 replace H : ((code_Key.f k y361).bind fun bt364 => ((millhandlaw01_txt.f (⟨#[0]⟩ : ByteArray)).bind fun bt366 => ((code_Key.f k (([(⟨bt366.1, bt366.2.1, bt366.2.2⟩ : S50)] : List (S50)))).bind fun bt372 => ((code_Above.f (⟨#[97, 98]⟩ : ByteArray)).bind fun bt374 => ((code_Above.f (⟨#[97, 255]⟩ : ByteArray)).bind fun bt376 => ((code_Above.f (⟨#[255]⟩ : ByteArray)).bind fun bt378 => ((code_Key.f k ([] : List (S50))).bind fun bt380 => ((code_Parts.f k (⟨#[3]⟩ : ByteArray)).bind fun bt382 => ((code_Parts.f k (⟨#[2, 97, 0]⟩ : ByteArray)).bind fun bt386 => ((code_Small.f k 300).bind fun t390 => (if (strOfNums t390).toList = ([172, 2] : List UInt8) then (if t330 = 300 then (if t331 = 2 then (if t332 = 0 then (if t338 = 8 then ((code_Text.f k (⟨#[97, 98]⟩ : ByteArray)).bind fun t393 => (if (strOfNums t393).toList = ([2, 97, 98] : List UInt8) then (if t342.toList = ([97, 98] : List UInt8) then (if (strOfNums t343).toList = ([7] : List UInt8) then (if t353.toList = ([1, 0, 0, 0, 0, 0, 0, 1, 2] : List UInt8) then (if t354 = 0 then (if bt364.1.toList = ([2, 97, 0, 0, 2, 0, 0] : List UInt8) then (if bt364.2 = 0 then (if bt372.1.toList = ([2, 0, 255, 0, 0] : List UInt8) then ((millhandlaw01_alive.f k).bind fun t396 => (if t396 = true then (if t344 = 0 then (if bt372.2 = 0 then (if bt374.1.toList = ([97, 99] : List UInt8) then (if bt374.2 = true then (if bt376.1.toList = ([98] : List UInt8) then (if bt376.2 = true then (if bt378.2 = true then (some false) else (if bt380.2 = 4 then (if bt382.2 = 8 then (some (bt386.2 == 8)) else (some false)) else (some false))) else (some false)) else (some false)) else (some false)) else (some false)) else (some false)) else (some false)) else (some false))) else ((millhandlaw01_alive.f k).bind fun t397 => (if t397 = true then (if t344 = 0 then (some false) else (some false)) else (some false)))) else ((millhandlaw01_alive.f k).bind fun t398 => (if t398 = true then (if t344 = 0 then (some false) else (some false)) else (some false)))) else ((millhandlaw01_alive.f k).bind fun t399 => (if t399 = true then (if t344 = 0 then (some false) else (some false)) else (some false)))) else ((millhandlaw01_alive.f k).bind fun t400 => (if t400 = true then (if t344 = 0 then (some false) else (some false)) else (some false)))) else ((millhandlaw01_alive.f k).bind fun t401 => (if t401 = true then (if t344 = 0 then (some false) else (some false)) else (some false)))) else (if t353.toList = ([1, 0, 0, 0, 0, 0, 0, 1, 2] : List UInt8) then (if t354 = 0 then (if bt364.1.toList = ([2, 97, 0, 0, 2, 0, 0] : List UInt8) then (if bt364.2 = 0 then (if bt372.1.toList = ([2, 0, 255, 0, 0] : List UInt8) then ((millhandlaw01_alive.f k).bind fun t402 => (if t402 = true then (some false) else (some false))) else ((millhandlaw01_alive.f k).bind fun t403 => (if t403 = true then (some false) else (some false)))) else ((millhandlaw01_alive.f k).bind fun t404 => (if t404 = true then (some false) else (some false)))) else ((millhandlaw01_alive.f k).bind fun t405 => (if t405 = true then (some false) else (some false)))) else ((millhandlaw01_alive.f k).bind fun t406 => (if t406 = true then (some false) else (some false)))) else ((millhandlaw01_alive.f k).bind fun t407 => (if t407 = true then (some false) else (some false))))) else (if t353.toList = ([1, 0, 0, 0, 0, 0, 0, 1, 2] : List UInt8) then (if t354 = 0 then (if bt364.1.toList = ([2, 97, 0, 0, 2, 0, 0] : List UInt8) then (if bt364.2 = 0 then (if bt372.1.toList = ([2, 0, 255, 0, 0] : List UInt8) then ((millhandlaw01_alive.f k).bind fun t408 => (if t408 = true then (some false) else (some false))) else ((millhandlaw01_alive.f k).bind fun t409 => (if t409 = true then (some false) else (some false)))) else ((millhandlaw01_alive.f k).bind fun t410 => (if t410 = true then (some false) else (some false)))) else ((millhandlaw01_alive.f k).bind fun t411 => (if t411 = true then (some false) else (some false)))) else ((millhandlaw01_alive.f k).bind fun t412 => (if t412 = true then (some false) else (some false)))) else ((millhandlaw01_alive.f k).bind fun t413 => (if t413 = true then (some false) else (some false))))) else (if t353.toList = ([1, 0, 0, 0, 0, 0, 0, 1, 2] : List UInt8) then (if t354 = 0 then (if bt364.1.toList = ([2, 97, 0, 0, 2, 0, 0] : List UInt8) then (if bt364.2 = 0 then (if bt372.1.toList = ([2, 0, 255, 0, 0] : List UInt8) then ((millhandlaw01_alive.f k).bind fun t414 => (if t414 = true then (some false) else (some false))) else ((millhandlaw01_alive.f k).bind fun t415 => (if t415 = true then (some false) else (some false)))) else ((millhandlaw01_alive.f k).bind fun t416 => (if t416 = true then (some false) else (some false)))) else ((millhandlaw01_alive.f k).bind fun t417 => (if t417 = true then (some false) else (some false)))) else ((millhandlaw01_alive.f k).bind fun t418 => (if t418 = true then (some false) else (some false)))) else ((millhandlaw01_alive.f k).bind fun t419 => (if t419 = true then (some false) else (some false)))))) else (if t353.toList = ([1, 0, 0, 0, 0, 0, 0, 1, 2] : List UInt8) then (if t354 = 0 then (if bt364.1.toList = ([2, 97, 0, 0, 2, 0, 0] : List UInt8) then (if bt364.2 = 0 then (if bt372.1.toList = ([2, 0, 255, 0, 0] : List UInt8) then ((millhandlaw01_alive.f k).bind fun t420 => (if t420 = true then (some false) else (some false))) else ((millhandlaw01_alive.f k).bind fun t421 => (if t421 = true then (some false) else (some false)))) else ((millhandlaw01_alive.f k).bind fun t422 => (if t422 = true then (some false) else (some false)))) else ((millhandlaw01_alive.f k).bind fun t423 => (if t423 = true then (some false) else (some false)))) else ((millhandlaw01_alive.f k).bind fun t424 => (if t424 = true then (some false) else (some false)))) else ((millhandlaw01_alive.f k).bind fun t425 => (if t425 = true then (some false) else (some false))))) else (if t353.toList = ([1, 0, 0, 0, 0, 0, 0, 1, 2] : List UInt8) then (if t354 = 0 then (if bt364.1.toList = ([2, 97, 0, 0, 2, 0, 0] : List UInt8) then (if bt364.2 = 0 then (if bt372.1.toList = ([2, 0, 255, 0, 0] : List UInt8) then ((millhandlaw01_alive.f k).bind fun t426 => (if t426 = true then (some false) else (some false))) else ((millhandlaw01_alive.f k).bind fun t427 => (if t427 = true then (some false) else (some false)))) else ((millhandlaw01_alive.f k).bind fun t428 => (if t428 = true then (some false) else (some false)))) else ((millhandlaw01_alive.f k).bind fun t429 => (if t429 = true then (some false) else (some false)))) else ((millhandlaw01_alive.f k).bind fun t430 => (if t430 = true then (some false) else (some false)))) else ((millhandlaw01_alive.f k).bind fun t431 => (if t431 = true then (some false) else (some false))))) else (if t353.toList = ([1, 0, 0, 0, 0, 0, 0, 1, 2] : List UInt8) then (if t354 = 0 then (if bt364.1.toList = ([2, 97, 0, 0, 2, 0, 0] : List UInt8) then (if bt364.2 = 0 then (if bt372.1.toList = ([2, 0, 255, 0, 0] : List UInt8) then ((millhandlaw01_alive.f k).bind fun t432 => (if t432 = true then (some false) else (some false))) else ((millhandlaw01_alive.f k).bind fun t433 => (if t433 = true then (some false) else (some false)))) else ((millhandlaw01_alive.f k).bind fun t434 => (if t434 = true then (some false) else (some false)))) else ((millhandlaw01_alive.f k).bind fun t435 => (if t435 = true then (some false) else (some false)))) else ((millhandlaw01_alive.f k).bind fun t436 => (if t436 = true then (some false) else (some false)))) else ((millhandlaw01_alive.f k).bind fun t437 => (if t437 = true then (some false) else (some false))))) else (if t353.toList = ([1, 0, 0, 0, 0, 0, 0, 1, 2] : List UInt8) then (if t354 = 0 then (if bt364.1.toList = ([2, 97, 0, 0, 2, 0, 0] : List UInt8) then (if bt364.2 = 0 then (if bt372.1.toList = ([2, 0, 255, 0, 0] : List UInt8) then ((millhandlaw01_alive.f k).bind fun t438 => (if t438 = true then (some false) else (some false))) else ((millhandlaw01_alive.f k).bind fun t439 => (if t439 = true then (some false) else (some false)))) else ((millhandlaw01_alive.f k).bind fun t440 => (if t440 = true then (some false) else (some false)))) else ((millhandlaw01_alive.f k).bind fun t441 => (if t441 = true then (some false) else (some false)))) else ((millhandlaw01_alive.f k).bind fun t442 => (if t442 = true then (some false) else (some false)))) else ((millhandlaw01_alive.f k).bind fun t443 => (if t443 = true then (some false) else (some false))))) else (if t353.toList = ([1, 0, 0, 0, 0, 0, 0, 1, 2] : List UInt8) then (if t354 = 0 then (if bt364.1.toList = ([2, 97, 0, 0, 2, 0, 0] : List UInt8) then (if bt364.2 = 0 then (if bt372.1.toList = ([2, 0, 255, 0, 0] : List UInt8) then ((millhandlaw01_alive.f k).bind fun t444 => (if t444 = true then (some false) else (some false))) else ((millhandlaw01_alive.f k).bind fun t445 => (if t445 = true then (some false) else (some false)))) else ((millhandlaw01_alive.f k).bind fun t446 => (if t446 = true then (some false) else (some false)))) else ((millhandlaw01_alive.f k).bind fun t447 => (if t447 = true then (some false) else (some false)))) else ((millhandlaw01_alive.f k).bind fun t448 => (if t448 = true then (some false) else (some false)))) else ((millhandlaw01_alive.f k).bind fun t449 => (if t449 = true then (some false) else (some false))))))))))))))) = some r := by first | (rw [hy361]; with_reducible exact H) | (have H2_ := (Option.bind_some _ _).symm.trans H; rw [hy361]; with_reducible exact H2_) | (have H2_ := (Option.bind_some _ _).symm.trans H; with_reducible exact H2_) | with_reducible exact H | (rw [hy361]; exact H) | exact H
 have Ny361 := Aside0.mk hy361
 clear hy361
 replace H := Option.bind_eq_some_iff.mp H
 obtain ⟨⟨t364, t365⟩, A80, H⟩ := H
 try dsimp only at H
 have A8 := Aside0.mk A80
 clear A80
 replace H := Option.bind_eq_some_iff.mp H
 obtain ⟨⟨t366, t367, t368⟩, A90, H⟩ := H
 try dsimp only at H
 have A9 := Aside0.mk A90
 clear A90
 obtain ⟨y369, hy369⟩ : ∃ y_ : List (S50), y_ = (([(⟨t366, t367, t368⟩ : S50)] : List (S50))) := ⟨_, rfl⟩
 replace H : ((code_Key.f k y369).bind fun bt372 => ((code_Above.f (⟨#[97, 98]⟩ : ByteArray)).bind fun bt374 => ((code_Above.f (⟨#[97, 255]⟩ : ByteArray)).bind fun bt376 => ((code_Above.f (⟨#[255]⟩ : ByteArray)).bind fun bt378 => ((code_Key.f k ([] : List (S50))).bind fun bt380 => ((code_Parts.f k (⟨#[3]⟩ : ByteArray)).bind fun bt382 => ((code_Parts.f k (⟨#[2, 97, 0]⟩ : ByteArray)).bind fun bt386 => ((code_Small.f k 300).bind fun t390 => (if (strOfNums t390).toList = ([172, 2] : List UInt8) then (if t330 = 300 then (if t331 = 2 then (if t332 = 0 then (if t338 = 8 then ((code_Text.f k (⟨#[97, 98]⟩ : ByteArray)).bind fun t393 => (if (strOfNums t393).toList = ([2, 97, 98] : List UInt8) then (if t342.toList = ([97, 98] : List UInt8) then (if (strOfNums t343).toList = ([7] : List UInt8) then (if t353.toList = ([1, 0, 0, 0, 0, 0, 0, 1, 2] : List UInt8) then (if t354 = 0 then (if t364.toList = ([2, 97, 0, 0, 2, 0, 0] : List UInt8) then (if t365 = 0 then (if bt372.1.toList = ([2, 0, 255, 0, 0] : List UInt8) then ((millhandlaw01_alive.f k).bind fun t396 => (if t396 = true then (if t344 = 0 then (if bt372.2 = 0 then (if bt374.1.toList = ([97, 99] : List UInt8) then (if bt374.2 = true then (if bt376.1.toList = ([98] : List UInt8) then (if bt376.2 = true then (if bt378.2 = true then (some false) else (if bt380.2 = 4 then (if bt382.2 = 8 then (some (bt386.2 == 8)) else (some false)) else (some false))) else (some false)) else (some false)) else (some false)) else (some false)) else (some false)) else (some false)) else (some false))) else ((millhandlaw01_alive.f k).bind fun t397 => (if t397 = true then (if t344 = 0 then (some false) else (some false)) else (some false)))) else ((millhandlaw01_alive.f k).bind fun t398 => (if t398 = true then (if t344 = 0 then (some false) else (some false)) else (some false)))) else ((millhandlaw01_alive.f k).bind fun t399 => (if t399 = true then (if t344 = 0 then (some false) else (some false)) else (some false)))) else ((millhandlaw01_alive.f k).bind fun t400 => (if t400 = true then (if t344 = 0 then (some false) else (some false)) else (some false)))) else ((millhandlaw01_alive.f k).bind fun t401 => (if t401 = true then (if t344 = 0 then (some false) else (some false)) else (some false)))) else (if t353.toList = ([1, 0, 0, 0, 0, 0, 0, 1, 2] : List UInt8) then (if t354 = 0 then (if t364.toList = ([2, 97, 0, 0, 2, 0, 0] : List UInt8) then (if t365 = 0 then (if bt372.1.toList = ([2, 0, 255, 0, 0] : List UInt8) then ((millhandlaw01_alive.f k).bind fun t402 => (if t402 = true then (some false) else (some false))) else ((millhandlaw01_alive.f k).bind fun t403 => (if t403 = true then (some false) else (some false)))) else ((millhandlaw01_alive.f k).bind fun t404 => (if t404 = true then (some false) else (some false)))) else ((millhandlaw01_alive.f k).bind fun t405 => (if t405 = true then (some false) else (some false)))) else ((millhandlaw01_alive.f k).bind fun t406 => (if t406 = true then (some false) else (some false)))) else ((millhandlaw01_alive.f k).bind fun t407 => (if t407 = true then (some false) else (some false))))) else (if t353.toList = ([1, 0, 0, 0, 0, 0, 0, 1, 2] : List UInt8) then (if t354 = 0 then (if t364.toList = ([2, 97, 0, 0, 2, 0, 0] : List UInt8) then (if t365 = 0 then (if bt372.1.toList = ([2, 0, 255, 0, 0] : List UInt8) then ((millhandlaw01_alive.f k).bind fun t408 => (if t408 = true then (some false) else (some false))) else ((millhandlaw01_alive.f k).bind fun t409 => (if t409 = true then (some false) else (some false)))) else ((millhandlaw01_alive.f k).bind fun t410 => (if t410 = true then (some false) else (some false)))) else ((millhandlaw01_alive.f k).bind fun t411 => (if t411 = true then (some false) else (some false)))) else ((millhandlaw01_alive.f k).bind fun t412 => (if t412 = true then (some false) else (some false)))) else ((millhandlaw01_alive.f k).bind fun t413 => (if t413 = true then (some false) else (some false))))) else (if t353.toList = ([1, 0, 0, 0, 0, 0, 0, 1, 2] : List UInt8) then (if t354 = 0 then (if t364.toList = ([2, 97, 0, 0, 2, 0, 0] : List UInt8) then (if t365 = 0 then (if bt372.1.toList = ([2, 0, 255, 0, 0] : List UInt8) then ((millhandlaw01_alive.f k).bind fun t414 => (if t414 = true then (some false) else (some false))) else ((millhandlaw01_alive.f k).bind fun t415 => (if t415 = true then (some false) else (some false)))) else ((millhandlaw01_alive.f k).bind fun t416 => (if t416 = true then (some false) else (some false)))) else ((millhandlaw01_alive.f k).bind fun t417 => (if t417 = true then (some false) else (some false)))) else ((millhandlaw01_alive.f k).bind fun t418 => (if t418 = true then (some false) else (some false)))) else ((millhandlaw01_alive.f k).bind fun t419 => (if t419 = true then (some false) else (some false)))))) else (if t353.toList = ([1, 0, 0, 0, 0, 0, 0, 1, 2] : List UInt8) then (if t354 = 0 then (if t364.toList = ([2, 97, 0, 0, 2, 0, 0] : List UInt8) then (if t365 = 0 then (if bt372.1.toList = ([2, 0, 255, 0, 0] : List UInt8) then ((millhandlaw01_alive.f k).bind fun t420 => (if t420 = true then (some false) else (some false))) else ((millhandlaw01_alive.f k).bind fun t421 => (if t421 = true then (some false) else (some false)))) else ((millhandlaw01_alive.f k).bind fun t422 => (if t422 = true then (some false) else (some false)))) else ((millhandlaw01_alive.f k).bind fun t423 => (if t423 = true then (some false) else (some false)))) else ((millhandlaw01_alive.f k).bind fun t424 => (if t424 = true then (some false) else (some false)))) else ((millhandlaw01_alive.f k).bind fun t425 => (if t425 = true then (some false) else (some false))))) else (if t353.toList = ([1, 0, 0, 0, 0, 0, 0, 1, 2] : List UInt8) then (if t354 = 0 then (if t364.toList = ([2, 97, 0, 0, 2, 0, 0] : List UInt8) then (if t365 = 0 then (if bt372.1.toList = ([2, 0, 255, 0, 0] : List UInt8) then ((millhandlaw01_alive.f k).bind fun t426 => (if t426 = true then (some false) else (some false))) else ((millhandlaw01_alive.f k).bind fun t427 => (if t427 = true then (some false) else (some false)))) else ((millhandlaw01_alive.f k).bind fun t428 => (if t428 = true then (some false) else (some false)))) else ((millhandlaw01_alive.f k).bind fun t429 => (if t429 = true then (some false) else (some false)))) else ((millhandlaw01_alive.f k).bind fun t430 => (if t430 = true then (some false) else (some false)))) else ((millhandlaw01_alive.f k).bind fun t431 => (if t431 = true then (some false) else (some false))))) else (if t353.toList = ([1, 0, 0, 0, 0, 0, 0, 1, 2] : List UInt8) then (if t354 = 0 then (if t364.toList = ([2, 97, 0, 0, 2, 0, 0] : List UInt8) then (if t365 = 0 then (if bt372.1.toList = ([2, 0, 255, 0, 0] : List UInt8) then ((millhandlaw01_alive.f k).bind fun t432 => (if t432 = true then (some false) else (some false))) else ((millhandlaw01_alive.f k).bind fun t433 => (if t433 = true then (some false) else (some false)))) else ((millhandlaw01_alive.f k).bind fun t434 => (if t434 = true then (some false) else (some false)))) else ((millhandlaw01_alive.f k).bind fun t435 => (if t435 = true then (some false) else (some false)))) else ((millhandlaw01_alive.f k).bind fun t436 => (if t436 = true then (some false) else (some false)))) else ((millhandlaw01_alive.f k).bind fun t437 => (if t437 = true then (some false) else (some false))))) else (if t353.toList = ([1, 0, 0, 0, 0, 0, 0, 1, 2] : List UInt8) then (if t354 = 0 then (if t364.toList = ([2, 97, 0, 0, 2, 0, 0] : List UInt8) then (if t365 = 0 then (if bt372.1.toList = ([2, 0, 255, 0, 0] : List UInt8) then ((millhandlaw01_alive.f k).bind fun t438 => (if t438 = true then (some false) else (some false))) else ((millhandlaw01_alive.f k).bind fun t439 => (if t439 = true then (some false) else (some false)))) else ((millhandlaw01_alive.f k).bind fun t440 => (if t440 = true then (some false) else (some false)))) else ((millhandlaw01_alive.f k).bind fun t441 => (if t441 = true then (some false) else (some false)))) else ((millhandlaw01_alive.f k).bind fun t442 => (if t442 = true then (some false) else (some false)))) else ((millhandlaw01_alive.f k).bind fun t443 => (if t443 = true then (some false) else (some false))))) else (if t353.toList = ([1, 0, 0, 0, 0, 0, 0, 1, 2] : List UInt8) then (if t354 = 0 then (if t364.toList = ([2, 97, 0, 0, 2, 0, 0] : List UInt8) then (if t365 = 0 then (if bt372.1.toList = ([2, 0, 255, 0, 0] : List UInt8) then ((millhandlaw01_alive.f k).bind fun t444 => (if t444 = true then (some false) else (some false))) else ((millhandlaw01_alive.f k).bind fun t445 => (if t445 = true then (some false) else (some false)))) else ((millhandlaw01_alive.f k).bind fun t446 => (if t446 = true then (some false) else (some false)))) else ((millhandlaw01_alive.f k).bind fun t447 => (if t447 = true then (some false) else (some false)))) else ((millhandlaw01_alive.f k).bind fun t448 => (if t448 = true then (some false) else (some false)))) else ((millhandlaw01_alive.f k).bind fun t449 => (if t449 = true then (some false) else (some false))))))))))))) = some r := by first | (rw [hy369]; with_reducible exact H) | (have H2_ := (Option.bind_some _ _).symm.trans H; rw [hy369]; with_reducible exact H2_) | (have H2_ := (Option.bind_some _ _).symm.trans H; with_reducible exact H2_) | with_reducible exact H | (rw [hy369]; exact H) | exact H
 have Ny369 := Aside0.mk hy369
 clear hy369
 replace H := Option.bind_eq_some_iff.mp H
 obtain ⟨⟨t372, t373⟩, A100, H⟩ := H
 try dsimp only at H
 have A10 := Aside0.mk A100
 clear A100
 replace H := Option.bind_eq_some_iff.mp H
 obtain ⟨⟨t374, t375⟩, A110, H⟩ := H
 try dsimp only at H
 have A11 := Aside0.mk A110
 clear A110
 replace H := Option.bind_eq_some_iff.mp H
 obtain ⟨⟨t376, t377⟩, A120, H⟩ := H
 try dsimp only at H
 have A12 := Aside0.mk A120
 clear A120
 replace H := Option.bind_eq_some_iff.mp H
 obtain ⟨⟨t378, t379⟩, A130, H⟩ := H
 try dsimp only at H
 have A13 := Aside0.mk A130
 clear A130
 replace H := Option.bind_eq_some_iff.mp H
 obtain ⟨⟨t380, t381⟩, A140, H⟩ := H
 try dsimp only at H
 have A14 := Aside0.mk A140
 clear A140
 replace H := Option.bind_eq_some_iff.mp H
 obtain ⟨⟨t382, t383⟩, A150, H⟩ := H
 try dsimp only at H
 have A15 := Aside0.mk A150
 clear A150
 replace H := Option.bind_eq_some_iff.mp H
 obtain ⟨⟨t386, t387⟩, A160, H⟩ := H
 try dsimp only at H
 have A16 := Aside0.mk A160
 clear A160
 replace H := Option.bind_eq_some_iff.mp H
 obtain ⟨t390, A170, H⟩ := H
 try dsimp only at H
 have A17 := Aside0.mk A170
 clear A170
 by_cases c18 : (strOfNums t390).toList = ([172, 2] : List UInt8)
 ·
  rw [if_pos c18] at H
  have c18b0 : ((strOfNums t390).toList == ([172, 2] : List UInt8)) = true := beq_iff_eq.mpr c18
  have c18b1 : ((strOfNums t390).toList != ([172, 2] : List UInt8)) = false := bne_eq_false_iff_eq.mpr c18
  clear c18
  by_cases c19 : t330 = 300
  ·
   rw [if_pos c19] at H
   have c19b0 : (t330 == 300) = true := beq_iff_eq.mpr c19
   have c19b1 : (t330 != 300) = false := bne_eq_false_iff_eq.mpr c19
   clear c19
   by_cases c20 : t331 = 2
   ·
    rw [if_pos c20] at H
    have c20b0 : (t331 == 2) = true := beq_iff_eq.mpr c20
    have c20b1 : (t331 != 2) = false := bne_eq_false_iff_eq.mpr c20
    clear c20
    by_cases c21 : t332 = 0
    ·
     rw [if_pos c21] at H
     have c21b0 : (t332 == 0) = true := beq_iff_eq.mpr c21
     have c21b1 : (t332 != 0) = false := bne_eq_false_iff_eq.mpr c21
     clear c21
     by_cases c22 : t338 = 8
     ·
      rw [if_pos c22] at H
      have c22b0 : (t338 == 8) = true := beq_iff_eq.mpr c22
      have c22b1 : (t338 != 8) = false := bne_eq_false_iff_eq.mpr c22
      clear c22
      replace H := Option.bind_eq_some_iff.mp H
      obtain ⟨t393, A230, H⟩ := H
      try dsimp only at H
      have A23 := Aside0.mk A230
      clear A230
      by_cases c24 : (strOfNums t393).toList = ([2, 97, 98] : List UInt8)
      ·
       rw [if_pos c24] at H
       have c24b0 : ((strOfNums t393).toList == ([2, 97, 98] : List UInt8)) = true := beq_iff_eq.mpr c24
       have c24b1 : ((strOfNums t393).toList != ([2, 97, 98] : List UInt8)) = false := bne_eq_false_iff_eq.mpr c24
       clear c24
       by_cases c25 : t342.toList = ([97, 98] : List UInt8)
       ·
        rw [if_pos c25] at H
        have c25b0 : (t342.toList == ([97, 98] : List UInt8)) = true := beq_iff_eq.mpr c25
        have c25b1 : (t342.toList != ([97, 98] : List UInt8)) = false := bne_eq_false_iff_eq.mpr c25
        clear c25
        by_cases c26 : (strOfNums t343).toList = ([7] : List UInt8)
        ·
         rw [if_pos c26] at H
         have c26b0 : ((strOfNums t343).toList == ([7] : List UInt8)) = true := beq_iff_eq.mpr c26
         have c26b1 : ((strOfNums t343).toList != ([7] : List UInt8)) = false := bne_eq_false_iff_eq.mpr c26
         clear c26
         by_cases c27 : t353.toList = ([1, 0, 0, 0, 0, 0, 0, 1, 2] : List UInt8)
         ·
          rw [if_pos c27] at H
          have c27b0 : (t353.toList == ([1, 0, 0, 0, 0, 0, 0, 1, 2] : List UInt8)) = true := beq_iff_eq.mpr c27
          have c27b1 : (t353.toList != ([1, 0, 0, 0, 0, 0, 0, 1, 2] : List UInt8)) = false := bne_eq_false_iff_eq.mpr c27
          clear c27
          by_cases c28 : t354 = 0
          ·
           rw [if_pos c28] at H
           have c28b0 : (t354 == 0) = true := beq_iff_eq.mpr c28
           have c28b1 : (t354 != 0) = false := bne_eq_false_iff_eq.mpr c28
           clear c28
           by_cases c29 : t364.toList = ([2, 97, 0, 0, 2, 0, 0] : List UInt8)
           ·
            rw [if_pos c29] at H
            have c29b0 : (t364.toList == ([2, 97, 0, 0, 2, 0, 0] : List UInt8)) = true := beq_iff_eq.mpr c29
            have c29b1 : (t364.toList != ([2, 97, 0, 0, 2, 0, 0] : List UInt8)) = false := bne_eq_false_iff_eq.mpr c29
            clear c29
            by_cases c30 : t365 = 0
            ·
             rw [if_pos c30] at H
             have c30b0 : (t365 == 0) = true := beq_iff_eq.mpr c30
             have c30b1 : (t365 != 0) = false := bne_eq_false_iff_eq.mpr c30
             clear c30
             by_cases c31 : t372.toList = ([2, 0, 255, 0, 0] : List UInt8)
             ·
              rw [if_pos c31] at H
              have c31b0 : (t372.toList == ([2, 0, 255, 0, 0] : List UInt8)) = true := beq_iff_eq.mpr c31
              have c31b1 : (t372.toList != ([2, 0, 255, 0, 0] : List UInt8)) = false := bne_eq_false_iff_eq.mpr c31
              clear c31
              replace H := Option.bind_eq_some_iff.mp H
              obtain ⟨t396, A320, H⟩ := H
              replace H : (if t396 = true then (if t344 = 0 then (if t373 = 0 then (if t374.toList = ([97, 99] : List UInt8) then (if t375 = true then (if t376.toList = ([98] : List UInt8) then (if t377 = true then (if t379 = true then (some false) else (if t381 = 4 then (if t383 = 8 then (some (t387 == 8)) else (some false)) else (some false))) else (some false)) else (some false)) else (some false)) else (some false)) else (some false)) else (some false)) else (some false)) = some r := H
              have A32 := Aside0.mk A320
              clear A320
              by_cases c33 : t396 = true
              ·
               subst c33
               have H1 : (if t344 = 0 then (if t373 = 0 then (if t374.toList = ([97, 99] : List UInt8) then (if t375 = true then (if t376.toList = ([98] : List UInt8) then (if t377 = true then (if t379 = true then (some false) else (if t381 = 4 then (if t383 = 8 then (some (t387 == 8)) else (some false)) else (some false))) else (some false)) else (some false)) else (some false)) else (some false)) else (some false)) else (some false)) = some r := by rw [if_pos rfl] at H; exact H
               clear H
               have H := H1
               clear H1
               by_cases c34 : t344 = 0
               ·
                rw [if_pos c34] at H
                have c34b0 : (t344 == 0) = true := beq_iff_eq.mpr c34
                have c34b1 : (t344 != 0) = false := bne_eq_false_iff_eq.mpr c34
                clear c34
                by_cases c35 : t373 = 0
                ·
                 rw [if_pos c35] at H
                 have c35b0 : (t373 == 0) = true := beq_iff_eq.mpr c35
                 have c35b1 : (t373 != 0) = false := bne_eq_false_iff_eq.mpr c35
                 clear c35
                 by_cases c36 : t374.toList = ([97, 99] : List UInt8)
                 ·
                  rw [if_pos c36] at H
                  have c36b0 : (t374.toList == ([97, 99] : List UInt8)) = true := beq_iff_eq.mpr c36
                  have c36b1 : (t374.toList != ([97, 99] : List UInt8)) = false := bne_eq_false_iff_eq.mpr c36
                  clear c36
                  by_cases c37 : t375 = true
                  ·
                   subst c37
                   have H1 : (if t376.toList = ([98] : List UInt8) then (if t377 = true then (if t379 = true then (some false) else (if t381 = 4 then (if t383 = 8 then (some (t387 == 8)) else (some false)) else (some false))) else (some false)) else (some false)) = some r := by rw [if_pos rfl] at H; exact H
                   clear H
                   have H := H1
                   clear H1
                   by_cases c38 : t376.toList = ([98] : List UInt8)
                   ·
                    rw [if_pos c38] at H
                    have c38b0 : (t376.toList == ([98] : List UInt8)) = true := beq_iff_eq.mpr c38
                    have c38b1 : (t376.toList != ([98] : List UInt8)) = false := bne_eq_false_iff_eq.mpr c38
                    clear c38
                    by_cases c39 : t377 = true
                    ·
                     subst c39
                     have H1 : (if t379 = true then (some false) else (if t381 = 4 then (if t383 = 8 then (some (t387 == 8)) else (some false)) else (some false))) = some r := by rw [if_pos rfl] at H; exact H
                     clear H
                     have H := H1
                     clear H1
                     by_cases c40 : t379 = true
                     ·
                      subst c40
                      have H1 : (some false) = some r := by rw [if_pos rfl] at H; exact H
                      clear H
                      have H := H1
                      clear H1
                      exact absurd ((Option.some.inj H).trans hr) (by decide)
                     ·
                      replace c40 := Bool.eq_false_iff.mpr c40
                      subst c40
                      have H1 : (if t381 = 4 then (if t383 = 8 then (some (t387 == 8)) else (some false)) else (some false)) = some r := by rw [if_neg (show ¬ (false = true) by decide)] at H; exact H
                      clear H
                      have H := H1
                      clear H1
                      by_cases c81 : t381 = 4
                      ·
                       rw [if_pos c81] at H
                       have c81b0 : (t381 == 4) = true := beq_iff_eq.mpr c81
                       have c81b1 : (t381 != 4) = false := bne_eq_false_iff_eq.mpr c81
                       clear c81
                       by_cases c82 : t383 = 8
                       ·
                        rw [if_pos c82] at H
                        have c82b0 : (t383 == 8) = true := beq_iff_eq.mpr c82
                        have c82b1 : (t383 != 8) = false := bne_eq_false_iff_eq.mpr c82
                        clear c82
                        obtain rfl := Option.some.inj H
                        go_enter Tryd.func8, Tryd.ntmps8
                        go_wp2_with (first | ((with_reducible refine gate_dst (N := 31) rfl ?_); refine Kd.R_lit (Kd.int .u8) _ 5 ?hg (N := 31) ?hd (xs := ([172, 2, 9] : List Int)) (inner := [.int .u8 172, .int .u8 2, .int .u8 9]) (ok := fun _ => True) (okp := fun _ => True) ?hr ?hp (fun _ hk => hk) trivial (Below.refl _ _) (Nat.le_refl _) (by simp) ?_; (case hd => rfl); (case hg => rfl); (case hr => first | (go_simp; done) | (go_simp; rfl)); (case hp => exact (Reps.one (show Kd.M (Kd.int .u8) _ _ _ 172 [.int .u8 172] from rfl) (Reps.one (show Kd.M (Kd.int .u8) _ _ _ 2 [.int .u8 2] from rfl) (Reps.one (show Kd.M (Kd.int .u8) _ _ _ 9 [.int .u8 9] from rfl) (Reps.none _ _))))); intro v328 w83 ho84 hb hg_ hnew_; clear hg_ hnew_; (first | rw [← Ny327.out] at ho84 | (simp only [Int.reduceToNat] at ho84; rw [← Ny327.out] at ho84)); have n0_ := Aside0.mk (Kd.R_lower ho84 (below_size (by repeat (first | (with_reducible first | exact HB.out | apply below_alloc | apply pw_below_drewN | apply below_drew1) | exact HB.out)))); have n1_ := Aside0.mk (below_step (by repeat (first | (with_reducible first | exact HB.out | apply below_alloc | apply pw_below_drewN | apply below_drew1) | exact HB.out)) hb); clear HB; have HO329 := n0_; have HB := n1_; clear n0_ n1_; clear hb ho84; obtain ⟨Ao85, co85, eo85⟩ := Kd.R_slice HO329.out; subst eo85) | ((with_reducible refine gate_callee (f := 24) rfl ?_); refine goesL_ (some 32) rfl rfl Tryd.func24 (by kernel_rfl) rfl #[.slice Ao85 y327.length co85] rfl (by (try simp only [List.map_toArray, List.map_cons, List.map_nil]); first | done | rfl | (simp only [List.length_drop, List.length_take]; rfl)) ?_; (with_reducible refine (code_Read.calls k _ _ y327 t330 t331 t332 _ ?side1 ?side2 A1.out).mono ?_); (case side1 => repeat (first | exact (Kd.R_reads' HO329.out).2.2 | (with_reducible refine Kd.C_alloc ?_ _) | (with_reducible refine Kd.C_drewN ?_ _) | (with_reducible refine Kd.C_drew ?_))); (case side2 => exact (Kd.R_reads' HO329.out).2.1); rintro e w86 ⟨rfl, hb⟩; refine ⟨_, rfl, ?_⟩; have n0_ := Aside0.mk (Kd.R_below (by (with_reducible repeat (first | apply Kd.R_alloc | apply Kd.R_drewN | apply Kd.R_drew)); exact HO329.out) hb); have n1_ := Aside0.mk (below_step (by repeat (first | (with_reducible first | exact HB.out | apply below_alloc | apply pw_below_drewN | apply below_drew1) | exact HB.out)) hb); clear HO329; clear HB; have HO329 := n0_; have HB := n1_; clear n0_ n1_; (try clear hb); (try clear hb2); (try clear hk); (try clear hi)) | ((with_reducible refine gate_dst (N := 37) rfl ?_); refine Kd.R_lit (Kd.int .u8) _ 5 ?hg (N := 37) ?hd (xs := ([128, 0] : List Int)) (inner := [.int .u8 128, .int .u8 0]) (ok := fun _ => True) (okp := fun _ => True) ?hr ?hp (fun _ hk => hk) trivial (Below.refl _ _) (Nat.le_refl _) (by simp) ?_; (case hd => rfl); (case hg => rfl); (case hr => first | (go_simp; done) | (go_simp; rfl)); (case hp => exact (Reps.one (show Kd.M (Kd.int .u8) _ _ _ 128 [.int .u8 128] from rfl) (Reps.one (show Kd.M (Kd.int .u8) _ _ _ 0 [.int .u8 0] from rfl) (Reps.none _ _)))); intro v334 w87 ho88 hb hg_ hnew_; clear hg_ hnew_; (first | rw [← Ny333.out] at ho88 | (simp only [Int.reduceToNat] at ho88; rw [← Ny333.out] at ho88)); have n0_ := Aside0.mk (Kd.R_elder' (by (with_reducible repeat (first | apply Kd.R_alloc | apply Kd.R_drewN | apply Kd.R_drew)); exact HO329.out) (Kd.R_base ho88) hb); have n1_ := Aside0.mk (Kd.R_lower (Kd.R_new' ho88 (Kd.R_lt (by (with_reducible repeat (first | apply Kd.R_alloc | apply Kd.R_drewN | apply Kd.R_drew)); exact HO329.out))) (below_size (by repeat (first | (with_reducible first | exact HB.out | apply below_alloc | apply pw_below_drewN | apply below_drew1) | exact HB.out)))); have n2_ := Aside0.mk (below_step (by repeat (first | (with_reducible first | exact HB.out | apply below_alloc | apply pw_below_drewN | apply below_drew1) | exact HB.out)) hb); clear HO329; clear HB; have HO329 := n0_; have HO335 := n1_; have HB := n2_; clear n0_ n1_ n2_; clear hb ho88; obtain ⟨Ao89, co89, eo89⟩ := Kd.R_slice HO335.out; subst eo89) | ((with_reducible refine gate_callee (f := 24) rfl ?_); refine goesL_ (some 38) rfl rfl Tryd.func24 (by kernel_rfl) rfl #[.slice Ao89 y333.length co89] rfl (by (try simp only [List.map_toArray, List.map_cons, List.map_nil]); first | done | rfl | (simp only [List.length_drop, List.length_take]; rfl)) ?_; (with_reducible refine (code_Read.calls k _ _ y333 t336 t337 t338 _ ?side1 ?side2 A2.out).mono ?_); (case side1 => repeat (first | exact (Kd.R_reads' HO335.out).2.2 | (with_reducible refine Kd.C_alloc ?_ _) | (with_reducible refine Kd.C_drewN ?_ _) | (with_reducible refine Kd.C_drew ?_))); (case side2 => exact (Kd.R_reads' HO335.out).2.1); rintro e w90 ⟨rfl, hb⟩; refine ⟨_, rfl, ?_⟩; have n0_ := Aside0.mk (Kd.R_below (by (with_reducible repeat (first | apply Kd.R_alloc | apply Kd.R_drewN | apply Kd.R_drew)); exact HO329.out) hb); have n1_ := Aside0.mk (Kd.R_below (by (with_reducible repeat (first | apply Kd.R_alloc | apply Kd.R_drewN | apply Kd.R_drew)); exact HO335.out) hb); have n2_ := Aside0.mk (below_step (by repeat (first | (with_reducible first | exact HB.out | apply below_alloc | apply pw_below_drewN | apply below_drew1) | exact HB.out)) hb); clear HO329; clear HO335; clear HB; have HO329 := n0_; have HO335 := n1_; have HB := n2_; clear n0_ n1_ n2_; (try clear hb); (try clear hb2); (try clear hk); (try clear hi)) | ((with_reducible refine gate_dst (N := 43) rfl ?_); refine Kd.R_lit (Kd.int .u8) _ 5 ?hg (N := 43) ?hd (xs := ([2, 97, 98, 7] : List Int)) (inner := [.int .u8 2, .int .u8 97, .int .u8 98, .int .u8 7]) (ok := fun _ => True) (okp := fun _ => True) ?hr ?hp (fun _ hk => hk) trivial (Below.refl _ _) (Nat.le_refl _) (by simp) ?_; (case hd => rfl); (case hg => rfl); (case hr => first | (go_simp; done) | (go_simp; rfl)); (case hp => exact (Reps.one (show Kd.M (Kd.int .u8) _ _ _ 2 [.int .u8 2] from rfl) (Reps.one (show Kd.M (Kd.int .u8) _ _ _ 97 [.int .u8 97] from rfl) (Reps.one (show Kd.M (Kd.int .u8) _ _ _ 98 [.int .u8 98] from rfl) (Reps.one (show Kd.M (Kd.int .u8) _ _ _ 7 [.int .u8 7] from rfl) (Reps.none _ _)))))); intro v340 w91 ho92 hb hg_ hnew_; clear hg_ hnew_; (first | rw [← Ny339.out] at ho92 | (simp only [Int.reduceToNat] at ho92; rw [← Ny339.out] at ho92)); have n0_ := Aside0.mk (Kd.R_elder' (by (with_reducible repeat (first | apply Kd.R_alloc | apply Kd.R_drewN | apply Kd.R_drew)); exact HO329.out) (Kd.R_base ho92) hb); have n1_ := Aside0.mk (Kd.R_elder' (by (with_reducible repeat (first | apply Kd.R_alloc | apply Kd.R_drewN | apply Kd.R_drew)); exact HO335.out) (Kd.R_base ho92) hb); have n2_ := Aside0.mk (Kd.R_lower (Kd.R_new' (Kd.R_new' ho92 (Kd.R_lt (by (with_reducible repeat (first | apply Kd.R_alloc | apply Kd.R_drewN | apply Kd.R_drew)); exact HO329.out))) (Kd.R_lt (by (with_reducible repeat (first | apply Kd.R_alloc | apply Kd.R_drewN | apply Kd.R_drew)); exact HO335.out))) (below_size (by repeat (first | (with_reducible first | exact HB.out | apply below_alloc | apply pw_below_drewN | apply below_drew1) | exact HB.out)))); have n3_ := Aside0.mk (below_step (by repeat (first | (with_reducible first | exact HB.out | apply below_alloc | apply pw_below_drewN | apply below_drew1) | exact HB.out)) hb); clear HO329; clear HO335; clear HB; have HO329 := n0_; have HO335 := n1_; have HO341 := n2_; have HB := n3_; clear n0_ n1_ n2_ n3_; clear hb ho92; obtain ⟨Ao93, co93, eo93⟩ := Kd.R_slice HO341.out; subst eo93) | ((with_reducible refine gate_callee (f := 25) rfl ?_); refine goesL_ (some 44) rfl rfl Tryd.func25 (by kernel_rfl) rfl #[.slice Ao93 y339.length co93] rfl (by (try simp only [List.map_toArray, List.map_cons, List.map_nil]); first | done | rfl | (simp only [List.length_drop, List.length_take]; rfl)) ?_; (with_reducible refine (code_Cut.calls k _ _ y339 t342 t343 t344 _ ?side1 ?side2 A3.out).mono ?_); (case side1 => repeat (first | exact (Kd.R_reads' HO341.out).2.2 | (with_reducible refine Kd.C_alloc ?_ _) | (with_reducible refine Kd.C_drewN ?_ _) | (with_reducible refine Kd.C_drew ?_))); (case side2 => exact (Kd.R_reads' HO341.out).2.1); rintro e w94 ⟨v345, rfl, ho0, hb⟩; refine ⟨_, rfl, ?_⟩; have n0_ := Aside0.mk (Kd.R_elder' (by (with_reducible repeat (first | apply Kd.R_alloc | apply Kd.R_drewN | apply Kd.R_drew)); exact HO329.out) (Kd.R_base ho0) hb); have n1_ := Aside0.mk (Kd.R_elder' (by (with_reducible repeat (first | apply Kd.R_alloc | apply Kd.R_drewN | apply Kd.R_drew)); exact HO335.out) (Kd.R_base ho0) hb); have n2_ := Aside0.mk (Kd.R_elder' (by (with_reducible repeat (first | apply Kd.R_alloc | apply Kd.R_drewN | apply Kd.R_drew)); exact HO341.out) (Kd.R_base ho0) hb); have n3_ := Aside0.mk (Kd.R_lower (Kd.R_new' (Kd.R_new' (Kd.R_new' ho0 (Kd.R_lt (by (with_reducible repeat (first | apply Kd.R_alloc | apply Kd.R_drewN | apply Kd.R_drew)); exact HO329.out))) (Kd.R_lt (by (with_reducible repeat (first | apply Kd.R_alloc | apply Kd.R_drewN | apply Kd.R_drew)); exact HO335.out))) (Kd.R_lt (by (with_reducible repeat (first | apply Kd.R_alloc | apply Kd.R_drewN | apply Kd.R_drew)); exact HO341.out))) (below_size (by repeat (first | (with_reducible first | exact HB.out | apply below_alloc | apply pw_below_drewN | apply below_drew1) | exact HB.out)))); have n4_ := Aside0.mk (below_step (by repeat (first | (with_reducible first | exact HB.out | apply below_alloc | apply pw_below_drewN | apply below_drew1) | exact HB.out)) hb); clear HO329; clear HO335; clear HO341; clear HB; have HO329 := n0_; have HO335 := n1_; have HO341 := n2_; have HO346 := n3_; have HB := n4_; clear n0_ n1_ n2_ n3_ n4_; (try clear hb); (try clear hb2); (try clear hk); (try clear hi); (try clear ho0)) | ((with_reducible refine gate_callee (f := 27) rfl ?_); refine goesL_ (some 49) rfl rfl Tryd.func27 (by kernel_rfl) rfl #[.int .u64 258] rfl (by (try simp only [List.map_toArray, List.map_cons, List.map_nil]); first | done | rfl | (simp only [List.length_drop, List.length_take]; rfl)) ?_; (with_reducible refine (millhandlaw01_num.calls 258 t347 t348 t349 _ A4.out).mono ?_); rintro e w95 ⟨rfl, hb⟩; refine ⟨_, rfl, ?_⟩; have n0_ := Aside0.mk (Kd.R_below (by (with_reducible repeat (first | apply Kd.R_alloc | apply Kd.R_drewN | apply Kd.R_drew)); exact HO329.out) hb); have n1_ := Aside0.mk (Kd.R_below (by (with_reducible repeat (first | apply Kd.R_alloc | apply Kd.R_drewN | apply Kd.R_drew)); exact HO335.out) hb); have n2_ := Aside0.mk (Kd.R_below (by (with_reducible repeat (first | apply Kd.R_alloc | apply Kd.R_drewN | apply Kd.R_drew)); exact HO341.out) hb); have n3_ := Aside0.mk (Kd.R_below (by (with_reducible repeat (first | apply Kd.R_alloc | apply Kd.R_drewN | apply Kd.R_drew)); exact HO346.out) hb); have n4_ := Aside0.mk (below_step (by repeat (first | (with_reducible first | exact HB.out | apply below_alloc | apply pw_below_drewN | apply below_drew1) | exact HB.out)) hb); clear HO329; clear HO335; clear HO341; clear HO346; clear HB; have HO329 := n0_; have HO335 := n1_; have HO341 := n2_; have HO346 := n3_; have HB := n4_; clear n0_ n1_ n2_ n3_ n4_; (try clear hb); (try clear hb2); (try clear hk); (try clear hi)) | ((with_reducible refine gate_dst (N := 50) rfl ?_); refine Kd.R_lit k50 _ 50 ?hg (N := 50) ?hd (xs := ([(⟨t347, t348, t349⟩ : S50)] : List (S50))) (inner := [.bool t347, .int .u64 t348, .string t349]) (ok := fun _ => True) (okp := fun _ => True) ?hr ?hp (fun _ hk => hk) trivial (Below.refl _ _) (Nat.le_refl _) (by simp) ?_; (case hd => rfl); (case hg => rfl); (case hr => first | (go_simp; done) | (go_simp; rfl)); (case hp => exact (Reps.c3 (show Kd.M k50 _ _ _ (⟨t347, t348, t349⟩ : S50) [.bool t347, .int .u64 t348, .string t349] from (k50_mkM _ _ _ (⟨t347, t348, t349⟩ : S50) )) (Reps.none _ _))); intro v351 w96 ho97 hb hg_ hnew_; clear hg_ hnew_; (first | rw [← Ny350.out] at ho97 | (simp only [Int.reduceToNat] at ho97; rw [← Ny350.out] at ho97)); have n0_ := Aside0.mk (Kd.R_below (by (with_reducible repeat (first | apply Kd.R_alloc | apply Kd.R_drewN | apply Kd.R_drew)); exact HO329.out) hb); have n1_ := Aside0.mk (Kd.R_below (by (with_reducible repeat (first | apply Kd.R_alloc | apply Kd.R_drewN | apply Kd.R_drew)); exact HO335.out) hb); have n2_ := Aside0.mk (Kd.R_below (by (with_reducible repeat (first | apply Kd.R_alloc | apply Kd.R_drewN | apply Kd.R_drew)); exact HO341.out) hb); have n3_ := Aside0.mk (Kd.R_below (by (with_reducible repeat (first | apply Kd.R_alloc | apply Kd.R_drewN | apply Kd.R_drew)); exact HO346.out) hb); have n4_ := Aside0.mk (Kd.R_lower ho97 (below_size (by repeat (first | (with_reducible first | exact HB.out | apply below_alloc | apply pw_below_drewN | apply below_drew1) | exact HB.out)))); have n5_ := Aside0.mk (below_step (by repeat (first | (with_reducible first | exact HB.out | apply below_alloc | apply pw_below_drewN | apply below_drew1) | exact HB.out)) hb); clear HO329; clear HO335; clear HO341; clear HO346; clear HB; have HO329 := n0_; have HO335 := n1_; have HO341 := n2_; have HO346 := n3_; have HO352 := n4_; have HB := n5_; clear n0_ n1_ n2_ n3_ n4_ n5_; clear hb ho97; obtain ⟨Ao98, co98, eo98⟩ := Kd.R_slice HO352.out; subst eo98) | ((with_reducible refine gate_callee (f := 15) rfl ?_); refine goesL_ (some 51) rfl rfl Tryd.func15 (by kernel_rfl) rfl #[.slice Ao98 y350.length co98] rfl (by (try simp only [List.map_toArray, List.map_cons, List.map_nil]); first | done | rfl | (simp only [List.length_drop, List.length_take]; rfl)) ?_; (with_reducible refine (code_Key.calls k _ _ y350 t353 t354 _ ?side1 ?side2 A5.out).mono ?_); (case side1 => repeat (first | exact (Kd.R_reads' HO352.out).2.2 | (with_reducible refine Kd.C_alloc ?_ _) | (with_reducible refine Kd.C_drewN ?_ _) | (with_reducible refine Kd.C_drew ?_))); (case side2 => exact (Kd.R_reads' HO352.out).2.1); rintro e w99 ⟨rfl, hb⟩; refine ⟨_, rfl, ?_⟩; have n0_ := Aside0.mk (Kd.R_below (by (with_reducible repeat (first | apply Kd.R_alloc | apply Kd.R_drewN | apply Kd.R_drew)); exact HO329.out) hb); have n1_ := Aside0.mk (Kd.R_below (by (with_reducible repeat (first | apply Kd.R_alloc | apply Kd.R_drewN | apply Kd.R_drew)); exact HO335.out) hb); have n2_ := Aside0.mk (Kd.R_below (by (with_reducible repeat (first | apply Kd.R_alloc | apply Kd.R_drewN | apply Kd.R_drew)); exact HO341.out) hb); have n3_ := Aside0.mk (Kd.R_below (by (with_reducible repeat (first | apply Kd.R_alloc | apply Kd.R_drewN | apply Kd.R_drew)); exact HO346.out) hb); have n4_ := Aside0.mk (Kd.R_below (by (with_reducible repeat (first | apply Kd.R_alloc | apply Kd.R_drewN | apply Kd.R_drew)); exact HO352.out) hb); have n5_ := Aside0.mk (below_step (by repeat (first | (with_reducible first | exact HB.out | apply below_alloc | apply pw_below_drewN | apply below_drew1) | exact HB.out)) hb); clear HO329; clear HO335; clear HO341; clear HO346; clear HO352; clear HB; have HO329 := n0_; have HO335 := n1_; have HO341 := n2_; have HO346 := n3_; have HO352 := n4_; have HB := n5_; clear n0_ n1_ n2_ n3_ n4_ n5_; (try clear hb); (try clear hb2); (try clear hk); (try clear hi)) | ((with_reducible refine gate_callee (f := 28) rfl ?_); refine goesL_ (some 55) rfl rfl Tryd.func28 (by kernel_rfl) rfl #[.string (⟨#[97]⟩ : ByteArray)] rfl (by (try simp only [List.map_toArray, List.map_cons, List.map_nil]); first | done | rfl | (simp only [List.length_drop, List.length_take]; rfl)) ?_; (with_reducible refine (millhandlaw01_txt.calls (⟨#[97]⟩ : ByteArray) t355 t356 t357 _ A6.out).mono ?_); rintro e w100 ⟨rfl, hb⟩; refine ⟨_, rfl, ?_⟩; have n0_ := Aside0.mk (Kd.R_below (by (with_reducible repeat (first | apply Kd.R_alloc | apply Kd.R_drewN | apply Kd.R_drew)); exact HO329.out) hb); have n1_ := Aside0.mk (Kd.R_below (by (with_reducible repeat (first | apply Kd.R_alloc | apply Kd.R_drewN | apply Kd.R_drew)); exact HO335.out) hb); have n2_ := Aside0.mk (Kd.R_below (by (with_reducible repeat (first | apply Kd.R_alloc | apply Kd.R_drewN | apply Kd.R_drew)); exact HO341.out) hb); have n3_ := Aside0.mk (Kd.R_below (by (with_reducible repeat (first | apply Kd.R_alloc | apply Kd.R_drewN | apply Kd.R_drew)); exact HO346.out) hb); have n4_ := Aside0.mk (Kd.R_below (by (with_reducible repeat (first | apply Kd.R_alloc | apply Kd.R_drewN | apply Kd.R_drew)); exact HO352.out) hb); have n5_ := Aside0.mk (below_step (by repeat (first | (with_reducible first | exact HB.out | apply below_alloc | apply pw_below_drewN | apply below_drew1) | exact HB.out)) hb); clear HO329; clear HO335; clear HO341; clear HO346; clear HO352; clear HB; have HO329 := n0_; have HO335 := n1_; have HO341 := n2_; have HO346 := n3_; have HO352 := n4_; have HB := n5_; clear n0_ n1_ n2_ n3_ n4_ n5_; (try clear hb); (try clear hb2); (try clear hk); (try clear hi)) | ((with_reducible refine gate_callee (f := 28) rfl ?_); refine goesL_ (some 56) rfl rfl Tryd.func28 (by kernel_rfl) rfl #[.string (⟨#[]⟩ : ByteArray)] rfl (by (try simp only [List.map_toArray, List.map_cons, List.map_nil]); first | done | rfl | (simp only [List.length_drop, List.length_take]; rfl)) ?_; (with_reducible refine (millhandlaw01_txt.calls (⟨#[]⟩ : ByteArray) t358 t359 t360 _ A7.out).mono ?_); rintro e w101 ⟨rfl, hb⟩; refine ⟨_, rfl, ?_⟩; have n0_ := Aside0.mk (Kd.R_below (by (with_reducible repeat (first | apply Kd.R_alloc | apply Kd.R_drewN | apply Kd.R_drew)); exact HO329.out) hb); have n1_ := Aside0.mk (Kd.R_below (by (with_reducible repeat (first | apply Kd.R_alloc | apply Kd.R_drewN | apply Kd.R_drew)); exact HO335.out) hb); have n2_ := Aside0.mk (Kd.R_below (by (with_reducible repeat (first | apply Kd.R_alloc | apply Kd.R_drewN | apply Kd.R_drew)); exact HO341.out) hb); have n3_ := Aside0.mk (Kd.R_below (by (with_reducible repeat (first | apply Kd.R_alloc | apply Kd.R_drewN | apply Kd.R_drew)); exact HO346.out) hb); have n4_ := Aside0.mk (Kd.R_below (by (with_reducible repeat (first | apply Kd.R_alloc | apply Kd.R_drewN | apply Kd.R_drew)); exact HO352.out) hb); have n5_ := Aside0.mk (below_step (by repeat (first | (with_reducible first | exact HB.out | apply below_alloc | apply pw_below_drewN | apply below_drew1) | exact HB.out)) hb); clear HO329; clear HO335; clear HO341; clear HO346; clear HO352; clear HB; have HO329 := n0_; have HO335 := n1_; have HO341 := n2_; have HO346 := n3_; have HO352 := n4_; have HB := n5_; clear n0_ n1_ n2_ n3_ n4_ n5_; (try clear hb); (try clear hb2); (try clear hk); (try clear hi)) | ((with_reducible refine gate_dst (N := 57) rfl ?_); refine Kd.R_lit k50 _ 50 ?hg (N := 57) ?hd (xs := ([(⟨t355, t356, t357⟩ : S50), (⟨t358, t359, t360⟩ : S50)] : List (S50))) (inner := [.bool t355, .int .u64 t356, .string t357, .bool t358, .int .u64 t359, .string t360]) (ok := fun _ => True) (okp := fun _ => True) ?hr ?hp (fun _ hk => hk) trivial (Below.refl _ _) (Nat.le_refl _) (by simp) ?_; (case hd => rfl); (case hg => rfl); (case hr => first | (go_simp; done) | (go_simp; rfl)); (case hp => exact (Reps.c3 (show Kd.M k50 _ _ _ (⟨t355, t356, t357⟩ : S50) [.bool t355, .int .u64 t356, .string t357] from (k50_mkM _ _ _ (⟨t355, t356, t357⟩ : S50) )) (Reps.c3 (show Kd.M k50 _ _ _ (⟨t358, t359, t360⟩ : S50) [.bool t358, .int .u64 t359, .string t360] from (k50_mkM _ _ _ (⟨t358, t359, t360⟩ : S50) )) (Reps.none _ _)))); intro v362 w102 ho103 hb hg_ hnew_; clear hg_ hnew_; (first | rw [← Ny361.out] at ho103 | (simp only [Int.reduceToNat] at ho103; rw [← Ny361.out] at ho103)); have n0_ := Aside0.mk (Kd.R_below (by (with_reducible repeat (first | apply Kd.R_alloc | apply Kd.R_drewN | apply Kd.R_drew)); exact HO329.out) hb); have n1_ := Aside0.mk (Kd.R_below (by (with_reducible repeat (first | apply Kd.R_alloc | apply Kd.R_drewN | apply Kd.R_drew)); exact HO335.out) hb); have n2_ := Aside0.mk (Kd.R_below (by (with_reducible repeat (first | apply Kd.R_alloc | apply Kd.R_drewN | apply Kd.R_drew)); exact HO341.out) hb); have n3_ := Aside0.mk (Kd.R_below (by (with_reducible repeat (first | apply Kd.R_alloc | apply Kd.R_drewN | apply Kd.R_drew)); exact HO346.out) hb); have n4_ := Aside0.mk (Kd.R_elder' (by (with_reducible repeat (first | apply Kd.R_alloc | apply Kd.R_drewN | apply Kd.R_drew)); exact HO352.out) (Kd.R_base ho103) hb); have n5_ := Aside0.mk (Kd.R_lower (Kd.R_new' ho103 (Kd.R_lt (by (with_reducible repeat (first | apply Kd.R_alloc | apply Kd.R_drewN | apply Kd.R_drew)); exact HO352.out))) (below_size (by repeat (first | (with_reducible first | exact HB.out | apply below_alloc | apply pw_below_drewN | apply below_drew1) | exact HB.out)))); have n6_ := Aside0.mk (below_step (by repeat (first | (with_reducible first | exact HB.out | apply below_alloc | apply pw_below_drewN | apply below_drew1) | exact HB.out)) hb); clear HO329; clear HO335; clear HO341; clear HO346; clear HO352; clear HB; have HO329 := n0_; have HO335 := n1_; have HO341 := n2_; have HO346 := n3_; have HO352 := n4_; have HO363 := n5_; have HB := n6_; clear n0_ n1_ n2_ n3_ n4_ n5_ n6_; clear hb ho103; obtain ⟨Ao104, co104, eo104⟩ := Kd.R_slice HO363.out; subst eo104) | ((with_reducible refine gate_callee (f := 15) rfl ?_); refine goesL_ (some 58) rfl rfl Tryd.func15 (by kernel_rfl) rfl #[.slice Ao104 y361.length co104] rfl (by (try simp only [List.map_toArray, List.map_cons, List.map_nil]); first | done | rfl | (simp only [List.length_drop, List.length_take]; rfl)) ?_; (with_reducible refine (code_Key.calls k _ _ y361 t364 t365 _ ?side1 ?side2 A8.out).mono ?_); (case side1 => repeat (first | exact (Kd.R_reads' HO363.out).2.2 | (with_reducible refine Kd.C_alloc ?_ _) | (with_reducible refine Kd.C_drewN ?_ _) | (with_reducible refine Kd.C_drew ?_))); (case side2 => exact (Kd.R_reads' HO363.out).2.1); rintro e w105 ⟨rfl, hb⟩; refine ⟨_, rfl, ?_⟩; have n0_ := Aside0.mk (Kd.R_below (by (with_reducible repeat (first | apply Kd.R_alloc | apply Kd.R_drewN | apply Kd.R_drew)); exact HO329.out) hb); have n1_ := Aside0.mk (Kd.R_below (by (with_reducible repeat (first | apply Kd.R_alloc | apply Kd.R_drewN | apply Kd.R_drew)); exact HO335.out) hb); have n2_ := Aside0.mk (Kd.R_below (by (with_reducible repeat (first | apply Kd.R_alloc | apply Kd.R_drewN | apply Kd.R_drew)); exact HO341.out) hb); have n3_ := Aside0.mk (Kd.R_below (by (with_reducible repeat (first | apply Kd.R_alloc | apply Kd.R_drewN | apply Kd.R_drew)); exact HO346.out) hb); have n4_ := Aside0.mk (Kd.R_below (by (with_reducible repeat (first | apply Kd.R_alloc | apply Kd.R_drewN | apply Kd.R_drew)); exact HO352.out) hb); have n5_ := Aside0.mk (Kd.R_below (by (with_reducible repeat (first | apply Kd.R_alloc | apply Kd.R_drewN | apply Kd.R_drew)); exact HO363.out) hb); have n6_ := Aside0.mk (below_step (by repeat (first | (with_reducible first | exact HB.out | apply below_alloc | apply pw_below_drewN | apply below_drew1) | exact HB.out)) hb); clear HO329; clear HO335; clear HO341; clear HO346; clear HO352; clear HO363; clear HB; have HO329 := n0_; have HO335 := n1_; have HO341 := n2_; have HO346 := n3_; have HO352 := n4_; have HO363 := n5_; have HB := n6_; clear n0_ n1_ n2_ n3_ n4_ n5_ n6_; (try clear hb); (try clear hb2); (try clear hk); (try clear hi)) | ((with_reducible refine gate_callee (f := 28) rfl ?_); refine goesL_ (some 62) rfl rfl Tryd.func28 (by kernel_rfl) rfl #[.string (⟨#[0]⟩ : ByteArray)] rfl (by (try simp only [List.map_toArray, List.map_cons, List.map_nil]); first | done | rfl | (simp only [List.length_drop, List.length_take]; rfl)) ?_; (with_reducible refine (millhandlaw01_txt.calls (⟨#[0]⟩ : ByteArray) t366 t367 t368 _ A9.out).mono ?_); rintro e w106 ⟨rfl, hb⟩; refine ⟨_, rfl, ?_⟩; have n0_ := Aside0.mk (Kd.R_below (by (with_reducible repeat (first | apply Kd.R_alloc | apply Kd.R_drewN | apply Kd.R_drew)); exact HO329.out) hb); have n1_ := Aside0.mk (Kd.R_below (by (with_reducible repeat (first | apply Kd.R_alloc | apply Kd.R_drewN | apply Kd.R_drew)); exact HO335.out) hb); have n2_ := Aside0.mk (Kd.R_below (by (with_reducible repeat (first | apply Kd.R_alloc | apply Kd.R_drewN | apply Kd.R_drew)); exact HO341.out) hb); have n3_ := Aside0.mk (Kd.R_below (by (with_reducible repeat (first | apply Kd.R_alloc | apply Kd.R_drewN | apply Kd.R_drew)); exact HO346.out) hb); have n4_ := Aside0.mk (Kd.R_below (by (with_reducible repeat (first | apply Kd.R_alloc | apply Kd.R_drewN | apply Kd.R_drew)); exact HO352.out) hb); have n5_ := Aside0.mk (Kd.R_below (by (with_reducible repeat (first | apply Kd.R_alloc | apply Kd.R_drewN | apply Kd.R_drew)); exact HO363.out) hb); have n6_ := Aside0.mk (below_step (by repeat (first | (with_reducible first | exact HB.out | apply below_alloc | apply pw_below_drewN | apply below_drew1) | exact HB.out)) hb); clear HO329; clear HO335; clear HO341; clear HO346; clear HO352; clear HO363; clear HB; have HO329 := n0_; have HO335 := n1_; have HO341 := n2_; have HO346 := n3_; have HO352 := n4_; have HO363 := n5_; have HB := n6_; clear n0_ n1_ n2_ n3_ n4_ n5_ n6_; (try clear hb); (try clear hb2); (try clear hk); (try clear hi)) | ((with_reducible refine gate_dst (N := 63) rfl ?_); refine Kd.R_lit k50 _ 50 ?hg (N := 63) ?hd (xs := ([(⟨t366, t367, t368⟩ : S50)] : List (S50))) (inner := [.bool t366, .int .u64 t367, .string t368]) (ok := fun _ => True) (okp := fun _ => True) ?hr ?hp (fun _ hk => hk) trivial (Below.refl _ _) (Nat.le_refl _) (by simp) ?_; (case hd => rfl); (case hg => rfl); (case hr => first | (go_simp; done) | (go_simp; rfl)); (case hp => exact (Reps.c3 (show Kd.M k50 _ _ _ (⟨t366, t367, t368⟩ : S50) [.bool t366, .int .u64 t367, .string t368] from (k50_mkM _ _ _ (⟨t366, t367, t368⟩ : S50) )) (Reps.none _ _))); intro v370 w107 ho108 hb hg_ hnew_; clear hg_ hnew_; (first | rw [← Ny369.out] at ho108 | (simp only [Int.reduceToNat] at ho108; rw [← Ny369.out] at ho108)); have n0_ := Aside0.mk (Kd.R_below (by (with_reducible repeat (first | apply Kd.R_alloc | apply Kd.R_drewN | apply Kd.R_drew)); exact HO329.out) hb); have n1_ := Aside0.mk (Kd.R_below (by (with_reducible repeat (first | apply Kd.R_alloc | apply Kd.R_drewN | apply Kd.R_drew)); exact HO335.out) hb); have n2_ := Aside0.mk (Kd.R_below (by (with_reducible repeat (first | apply Kd.R_alloc | apply Kd.R_drewN | apply Kd.R_drew)); exact HO341.out) hb); have n3_ := Aside0.mk (Kd.R_below (by (with_reducible repeat (first | apply Kd.R_alloc | apply Kd.R_drewN | apply Kd.R_drew)); exact HO346.out) hb); have n4_ := Aside0.mk (Kd.R_elder' (by (with_reducible repeat (first | apply Kd.R_alloc | apply Kd.R_drewN | apply Kd.R_drew)); exact HO352.out) (Kd.R_base ho108) hb); have n5_ := Aside0.mk (Kd.R_elder' (by (with_reducible repeat (first | apply Kd.R_alloc | apply Kd.R_drewN | apply Kd.R_drew)); exact HO363.out) (Kd.R_base ho108) hb); have n6_ := Aside0.mk (Kd.R_lower (Kd.R_new' (Kd.R_new' ho108 (Kd.R_lt (by (with_reducible repeat (first | apply Kd.R_alloc | apply Kd.R_drewN | apply Kd.R_drew)); exact HO352.out))) (Kd.R_lt (by (with_reducible repeat (first | apply Kd.R_alloc | apply Kd.R_drewN | apply Kd.R_drew)); exact HO363.out))) (below_size (by repeat (first | (with_reducible first | exact HB.out | apply below_alloc | apply pw_below_drewN | apply below_drew1) | exact HB.out)))); have n7_ := Aside0.mk (below_step (by repeat (first | (with_reducible first | exact HB.out | apply below_alloc | apply pw_below_drewN | apply below_drew1) | exact HB.out)) hb); clear HO329; clear HO335; clear HO341; clear HO346; clear HO352; clear HO363; clear HB; have HO329 := n0_; have HO335 := n1_; have HO341 := n2_; have HO346 := n3_; have HO352 := n4_; have HO363 := n5_; have HO371 := n6_; have HB := n7_; clear n0_ n1_ n2_ n3_ n4_ n5_ n6_ n7_; clear hb ho108; obtain ⟨Ao109, co109, eo109⟩ := Kd.R_slice HO371.out; subst eo109) | ((with_reducible refine gate_callee (f := 15) rfl ?_); refine goesL_ (some 64) rfl rfl Tryd.func15 (by kernel_rfl) rfl #[.slice Ao109 y369.length co109] rfl (by (try simp only [List.map_toArray, List.map_cons, List.map_nil]); first | done | rfl | (simp only [List.length_drop, List.length_take]; rfl)) ?_; (with_reducible refine (code_Key.calls k _ _ y369 t372 t373 _ ?side1 ?side2 A10.out).mono ?_); (case side1 => repeat (first | exact (Kd.R_reads' HO371.out).2.2 | (with_reducible refine Kd.C_alloc ?_ _) | (with_reducible refine Kd.C_drewN ?_ _) | (with_reducible refine Kd.C_drew ?_))); (case side2 => exact (Kd.R_reads' HO371.out).2.1); rintro e w110 ⟨rfl, hb⟩; refine ⟨_, rfl, ?_⟩; have n0_ := Aside0.mk (Kd.R_below (by (with_reducible repeat (first | apply Kd.R_alloc | apply Kd.R_drewN | apply Kd.R_drew)); exact HO329.out) hb); have n1_ := Aside0.mk (Kd.R_below (by (with_reducible repeat (first | apply Kd.R_alloc | apply Kd.R_drewN | apply Kd.R_drew)); exact HO335.out) hb); have n2_ := Aside0.mk (Kd.R_below (by (with_reducible repeat (first | apply Kd.R_alloc | apply Kd.R_drewN | apply Kd.R_drew)); exact HO341.out) hb); have n3_ := Aside0.mk (Kd.R_below (by (with_reducible repeat (first | apply Kd.R_alloc | apply Kd.R_drewN | apply Kd.R_drew)); exact HO346.out) hb); have n4_ := Aside0.mk (Kd.R_below (by (with_reducible repeat (first | apply Kd.R_alloc | apply Kd.R_drewN | apply Kd.R_drew)); exact HO352.out) hb); have n5_ := Aside0.mk (Kd.R_below (by (with_reducible repeat (first | apply Kd.R_alloc | apply Kd.R_drewN | apply Kd.R_drew)); exact HO363.out) hb); have n6_ := Aside0.mk (Kd.R_below (by (with_reducible repeat (first | apply Kd.R_alloc | apply Kd.R_drewN | apply Kd.R_drew)); exact HO371.out) hb); have n7_ := Aside0.mk (below_step (by repeat (first | (with_reducible first | exact HB.out | apply below_alloc | apply pw_below_drewN | apply below_drew1) | exact HB.out)) hb); clear HO329; clear HO335; clear HO341; clear HO346; clear HO352; clear HO363; clear HO371; clear HB; have HO329 := n0_; have HO335 := n1_; have HO341 := n2_; have HO346 := n3_; have HO352 := n4_; have HO363 := n5_; have HO371 := n6_; have HB := n7_; clear n0_ n1_ n2_ n3_ n4_ n5_ n6_ n7_; (try clear hb); (try clear hb2); (try clear hk); (try clear hi)) | ((with_reducible refine gate_callee (f := 21) rfl ?_); refine goesL_ (some 68) rfl rfl Tryd.func21 (by kernel_rfl) rfl #[.string (⟨#[97, 98]⟩ : ByteArray)] rfl (by (try simp only [List.map_toArray, List.map_cons, List.map_nil]); first | done | rfl | (simp only [List.length_drop, List.length_take]; rfl)) ?_; (with_reducible refine (code_Above.calls (⟨#[97, 98]⟩ : ByteArray) t374 true _ A11.out).mono ?_); rintro e w111 ⟨rfl, hb⟩; refine ⟨_, rfl, ?_⟩; have n0_ := Aside0.mk (Kd.R_below (by (with_reducible repeat (first | apply Kd.R_alloc | apply Kd.R_drewN | apply Kd.R_drew)); exact HO329.out) hb); have n1_ := Aside0.mk (Kd.R_below (by (with_reducible repeat (first | apply Kd.R_alloc | apply Kd.R_drewN | apply Kd.R_drew)); exact HO335.out) hb); have n2_ := Aside0.mk (Kd.R_below (by (with_reducible repeat (first | apply Kd.R_alloc | apply Kd.R_drewN | apply Kd.R_drew)); exact HO341.out) hb); have n3_ := Aside0.mk (Kd.R_below (by (with_reducible repeat (first | apply Kd.R_alloc | apply Kd.R_drewN | apply Kd.R_drew)); exact HO346.out) hb); have n4_ := Aside0.mk (Kd.R_below (by (with_reducible repeat (first | apply Kd.R_alloc | apply Kd.R_drewN | apply Kd.R_drew)); exact HO352.out) hb); have n5_ := Aside0.mk (Kd.R_below (by (with_reducible repeat (first | apply Kd.R_alloc | apply Kd.R_drewN | apply Kd.R_drew)); exact HO363.out) hb); have n6_ := Aside0.mk (Kd.R_below (by (with_reducible repeat (first | apply Kd.R_alloc | apply Kd.R_drewN | apply Kd.R_drew)); exact HO371.out) hb); have n7_ := Aside0.mk (below_step (by repeat (first | (with_reducible first | exact HB.out | apply below_alloc | apply pw_below_drewN | apply below_drew1) | exact HB.out)) hb); clear HO329; clear HO335; clear HO341; clear HO346; clear HO352; clear HO363; clear HO371; clear HB; have HO329 := n0_; have HO335 := n1_; have HO341 := n2_; have HO346 := n3_; have HO352 := n4_; have HO363 := n5_; have HO371 := n6_; have HB := n7_; clear n0_ n1_ n2_ n3_ n4_ n5_ n6_ n7_; (try clear hb); (try clear hb2); (try clear hk); (try clear hi)) | ((with_reducible refine gate_callee (f := 21) rfl ?_); refine goesL_ (some 72) rfl rfl Tryd.func21 (by kernel_rfl) rfl #[.string (⟨#[97, 255]⟩ : ByteArray)] rfl (by (try simp only [List.map_toArray, List.map_cons, List.map_nil]); first | done | rfl | (simp only [List.length_drop, List.length_take]; rfl)) ?_; (with_reducible refine (code_Above.calls (⟨#[97, 255]⟩ : ByteArray) t376 true _ A12.out).mono ?_); rintro e w112 ⟨rfl, hb⟩; refine ⟨_, rfl, ?_⟩; have n0_ := Aside0.mk (Kd.R_below (by (with_reducible repeat (first | apply Kd.R_alloc | apply Kd.R_drewN | apply Kd.R_drew)); exact HO329.out) hb); have n1_ := Aside0.mk (Kd.R_below (by (with_reducible repeat (first | apply Kd.R_alloc | apply Kd.R_drewN | apply Kd.R_drew)); exact HO335.out) hb); have n2_ := Aside0.mk (Kd.R_below (by (with_reducible repeat (first | apply Kd.R_alloc | apply Kd.R_drewN | apply Kd.R_drew)); exact HO341.out) hb); have n3_ := Aside0.mk (Kd.R_below (by (with_reducible repeat (first | apply Kd.R_alloc | apply Kd.R_drewN | apply Kd.R_drew)); exact HO346.out) hb); have n4_ := Aside0.mk (Kd.R_below (by (with_reducible repeat (first | apply Kd.R_alloc | apply Kd.R_drewN | apply Kd.R_drew)); exact HO352.out) hb); have n5_ := Aside0.mk (Kd.R_below (by (with_reducible repeat (first | apply Kd.R_alloc | apply Kd.R_drewN | apply Kd.R_drew)); exact HO363.out) hb); have n6_ := Aside0.mk (Kd.R_below (by (with_reducible repeat (first | apply Kd.R_alloc | apply Kd.R_drewN | apply Kd.R_drew)); exact HO371.out) hb); have n7_ := Aside0.mk (below_step (by repeat (first | (with_reducible first | exact HB.out | apply below_alloc | apply pw_below_drewN | apply below_drew1) | exact HB.out)) hb); clear HO329; clear HO335; clear HO341; clear HO346; clear HO352; clear HO363; clear HO371; clear HB; have HO329 := n0_; have HO335 := n1_; have HO341 := n2_; have HO346 := n3_; have HO352 := n4_; have HO363 := n5_; have HO371 := n6_; have HB := n7_; clear n0_ n1_ n2_ n3_ n4_ n5_ n6_ n7_; (try clear hb); (try clear hb2); (try clear hk); (try clear hi)) | ((with_reducible refine gate_callee (f := 21) rfl ?_); refine goesL_ (some 76) rfl rfl Tryd.func21 (by kernel_rfl) rfl #[.string (⟨#[255]⟩ : ByteArray)] rfl (by (try simp only [List.map_toArray, List.map_cons, List.map_nil]); first | done | rfl | (simp only [List.length_drop, List.length_take]; rfl)) ?_; (with_reducible refine (code_Above.calls (⟨#[255]⟩ : ByteArray) t378 false _ A13.out).mono ?_); rintro e w113 ⟨rfl, hb⟩; refine ⟨_, rfl, ?_⟩; have n0_ := Aside0.mk (Kd.R_below (by (with_reducible repeat (first | apply Kd.R_alloc | apply Kd.R_drewN | apply Kd.R_drew)); exact HO329.out) hb); have n1_ := Aside0.mk (Kd.R_below (by (with_reducible repeat (first | apply Kd.R_alloc | apply Kd.R_drewN | apply Kd.R_drew)); exact HO335.out) hb); have n2_ := Aside0.mk (Kd.R_below (by (with_reducible repeat (first | apply Kd.R_alloc | apply Kd.R_drewN | apply Kd.R_drew)); exact HO341.out) hb); have n3_ := Aside0.mk (Kd.R_below (by (with_reducible repeat (first | apply Kd.R_alloc | apply Kd.R_drewN | apply Kd.R_drew)); exact HO346.out) hb); have n4_ := Aside0.mk (Kd.R_below (by (with_reducible repeat (first | apply Kd.R_alloc | apply Kd.R_drewN | apply Kd.R_drew)); exact HO352.out) hb); have n5_ := Aside0.mk (Kd.R_below (by (with_reducible repeat (first | apply Kd.R_alloc | apply Kd.R_drewN | apply Kd.R_drew)); exact HO363.out) hb); have n6_ := Aside0.mk (Kd.R_below (by (with_reducible repeat (first | apply Kd.R_alloc | apply Kd.R_drewN | apply Kd.R_drew)); exact HO371.out) hb); have n7_ := Aside0.mk (below_step (by repeat (first | (with_reducible first | exact HB.out | apply below_alloc | apply pw_below_drewN | apply below_drew1) | exact HB.out)) hb); clear HO329; clear HO335; clear HO341; clear HO346; clear HO352; clear HO363; clear HO371; clear HB; have HO329 := n0_; have HO335 := n1_; have HO341 := n2_; have HO346 := n3_; have HO352 := n4_; have HO363 := n5_; have HO371 := n6_; have HB := n7_; clear n0_ n1_ n2_ n3_ n4_ n5_ n6_ n7_; (try clear hb); (try clear hb2); (try clear hk); (try clear hi)) | ((with_reducible refine gate_callee (f := 15) rfl ?_); refine goesL_ (some 80) rfl rfl Tryd.func15 (by kernel_rfl) rfl #[.slice none 0 0] rfl (by (try simp only [List.map_toArray, List.map_cons, List.map_nil]); first | done | rfl | (simp only [List.length_drop, List.length_take]; rfl)) ?_; (refine (code_Key.calls k _ _ ([] : List (S50)) t380 t381 _ ?side1 ?side2 A14.out).mono ?_); (case side1 => exact Kd.C_nil _ _); (case side2 => exact Nat.le_refl _); rintro e w114 ⟨rfl, hb⟩; refine ⟨_, rfl, ?_⟩; have n0_ := Aside0.mk (Kd.R_below (by (with_reducible repeat (first | apply Kd.R_alloc | apply Kd.R_drewN | apply Kd.R_drew)); exact HO329.out) hb); have n1_ := Aside0.mk (Kd.R_below (by (with_reducible repeat (first | apply Kd.R_alloc | apply Kd.R_drewN | apply Kd.R_drew)); exact HO335.out) hb); have n2_ := Aside0.mk (Kd.R_below (by (with_reducible repeat (first | apply Kd.R_alloc | apply Kd.R_drewN | apply Kd.R_drew)); exact HO341.out) hb); have n3_ := Aside0.mk (Kd.R_below (by (with_reducible repeat (first | apply Kd.R_alloc | apply Kd.R_drewN | apply Kd.R_drew)); exact HO346.out) hb); have n4_ := Aside0.mk (Kd.R_below (by (with_reducible repeat (first | apply Kd.R_alloc | apply Kd.R_drewN | apply Kd.R_drew)); exact HO352.out) hb); have n5_ := Aside0.mk (Kd.R_below (by (with_reducible repeat (first | apply Kd.R_alloc | apply Kd.R_drewN | apply Kd.R_drew)); exact HO363.out) hb); have n6_ := Aside0.mk (Kd.R_below (by (with_reducible repeat (first | apply Kd.R_alloc | apply Kd.R_drewN | apply Kd.R_drew)); exact HO371.out) hb); have n7_ := Aside0.mk (below_step (by repeat (first | (with_reducible first | exact HB.out | apply below_alloc | apply pw_below_drewN | apply below_drew1) | exact HB.out)) hb); clear HO329; clear HO335; clear HO341; clear HO346; clear HO352; clear HO363; clear HO371; clear HB; have HO329 := n0_; have HO335 := n1_; have HO341 := n2_; have HO346 := n3_; have HO352 := n4_; have HO363 := n5_; have HO371 := n6_; have HB := n7_; clear n0_ n1_ n2_ n3_ n4_ n5_ n6_ n7_; (try clear hb); (try clear hb2); (try clear hk); (try clear hi)) | ((with_reducible refine gate_callee (f := 17) rfl ?_); refine goesL_ (some 84) rfl rfl Tryd.func17 (by kernel_rfl) rfl #[.string (⟨#[3]⟩ : ByteArray)] rfl (by (try simp only [List.map_toArray, List.map_cons, List.map_nil]); first | done | rfl | (simp only [List.length_drop, List.length_take]; rfl)) ?_; (with_reducible refine (code_Parts.calls k (⟨#[3]⟩ : ByteArray) t382 t383 _ A15.out).mono ?_); rintro e w115 ⟨v384, rfl, ho0, hb⟩; refine ⟨_, rfl, ?_⟩; have n0_ := Aside0.mk (Kd.R_below (by (with_reducible repeat (first | apply Kd.R_alloc | apply Kd.R_drewN | apply Kd.R_drew)); exact HO329.out) hb); have n1_ := Aside0.mk (Kd.R_below (by (with_reducible repeat (first | apply Kd.R_alloc | apply Kd.R_drewN | apply Kd.R_drew)); exact HO335.out) hb); have n2_ := Aside0.mk (Kd.R_below (by (with_reducible repeat (first | apply Kd.R_alloc | apply Kd.R_drewN | apply Kd.R_drew)); exact HO341.out) hb); have n3_ := Aside0.mk (Kd.R_below (by (with_reducible repeat (first | apply Kd.R_alloc | apply Kd.R_drewN | apply Kd.R_drew)); exact HO346.out) hb); have n4_ := Aside0.mk (Kd.R_elder' (by (with_reducible repeat (first | apply Kd.R_alloc | apply Kd.R_drewN | apply Kd.R_drew)); exact HO352.out) (Kd.R_base ho0) hb); have n5_ := Aside0.mk (Kd.R_elder' (by (with_reducible repeat (first | apply Kd.R_alloc | apply Kd.R_drewN | apply Kd.R_drew)); exact HO363.out) (Kd.R_base ho0) hb); have n6_ := Aside0.mk (Kd.R_elder' (by (with_reducible repeat (first | apply Kd.R_alloc | apply Kd.R_drewN | apply Kd.R_drew)); exact HO371.out) (Kd.R_base ho0) hb); have n7_ := Aside0.mk (Kd.R_lower (Kd.R_new' (Kd.R_new' (Kd.R_new' ho0 (Kd.R_lt (by (with_reducible repeat (first | apply Kd.R_alloc | apply Kd.R_drewN | apply Kd.R_drew)); exact HO352.out))) (Kd.R_lt (by (with_reducible repeat (first | apply Kd.R_alloc | apply Kd.R_drewN | apply Kd.R_drew)); exact HO363.out))) (Kd.R_lt (by (with_reducible repeat (first | apply Kd.R_alloc | apply Kd.R_drewN | apply Kd.R_drew)); exact HO371.out))) (below_size (by repeat (first | (with_reducible first | exact HB.out | apply below_alloc | apply pw_below_drewN | apply below_drew1) | exact HB.out)))); have n8_ := Aside0.mk (below_step (by repeat (first | (with_reducible first | exact HB.out | apply below_alloc | apply pw_below_drewN | apply below_drew1) | exact HB.out)) hb); clear HO329; clear HO335; clear HO341; clear HO346; clear HO352; clear HO363; clear HO371; clear HB; have HO329 := n0_; have HO335 := n1_; have HO341 := n2_; have HO346 := n3_; have HO352 := n4_; have HO363 := n5_; have HO371 := n6_; have HO385 := n7_; have HB := n8_; clear n0_ n1_ n2_ n3_ n4_ n5_ n6_ n7_ n8_; (try clear hb); (try clear hb2); (try clear hk); (try clear hi); (try clear ho0)) | ((with_reducible refine gate_callee (f := 17) rfl ?_); refine goesL_ (some 88) rfl rfl Tryd.func17 (by kernel_rfl) rfl #[.string (⟨#[2, 97, 0]⟩ : ByteArray)] rfl (by (try simp only [List.map_toArray, List.map_cons, List.map_nil]); first | done | rfl | (simp only [List.length_drop, List.length_take]; rfl)) ?_; (with_reducible refine (code_Parts.calls k (⟨#[2, 97, 0]⟩ : ByteArray) t386 t387 _ A16.out).mono ?_); rintro e w116 ⟨v388, rfl, ho0, hb⟩; refine ⟨_, rfl, ?_⟩; have n0_ := Aside0.mk (Kd.R_below (by (with_reducible repeat (first | apply Kd.R_alloc | apply Kd.R_drewN | apply Kd.R_drew)); exact HO329.out) hb); have n1_ := Aside0.mk (Kd.R_below (by (with_reducible repeat (first | apply Kd.R_alloc | apply Kd.R_drewN | apply Kd.R_drew)); exact HO335.out) hb); have n2_ := Aside0.mk (Kd.R_below (by (with_reducible repeat (first | apply Kd.R_alloc | apply Kd.R_drewN | apply Kd.R_drew)); exact HO341.out) hb); have n3_ := Aside0.mk (Kd.R_below (by (with_reducible repeat (first | apply Kd.R_alloc | apply Kd.R_drewN | apply Kd.R_drew)); exact HO346.out) hb); have n4_ := Aside0.mk (Kd.R_elder' (by (with_reducible repeat (first | apply Kd.R_alloc | apply Kd.R_drewN | apply Kd.R_drew)); exact HO352.out) (Kd.R_base ho0) hb); have n5_ := Aside0.mk (Kd.R_elder' (by (with_reducible repeat (first | apply Kd.R_alloc | apply Kd.R_drewN | apply Kd.R_drew)); exact HO363.out) (Kd.R_base ho0) hb); have n6_ := Aside0.mk (Kd.R_elder' (by (with_reducible repeat (first | apply Kd.R_alloc | apply Kd.R_drewN | apply Kd.R_drew)); exact HO371.out) (Kd.R_base ho0) hb); have n7_ := Aside0.mk (Kd.R_elder' (by (with_reducible repeat (first | apply Kd.R_alloc | apply Kd.R_drewN | apply Kd.R_drew)); exact HO385.out) (Kd.R_base ho0) hb); have n8_ := Aside0.mk (Kd.R_lower (Kd.R_new' (Kd.R_new' (Kd.R_new' (Kd.R_new' ho0 (Kd.R_lt (by (with_reducible repeat (first | apply Kd.R_alloc | apply Kd.R_drewN | apply Kd.R_drew)); exact HO352.out))) (Kd.R_lt (by (with_reducible repeat (first | apply Kd.R_alloc | apply Kd.R_drewN | apply Kd.R_drew)); exact HO363.out))) (Kd.R_lt (by (with_reducible repeat (first | apply Kd.R_alloc | apply Kd.R_drewN | apply Kd.R_drew)); exact HO371.out))) (Kd.R_lt (by (with_reducible repeat (first | apply Kd.R_alloc | apply Kd.R_drewN | apply Kd.R_drew)); exact HO385.out))) (below_size (by repeat (first | (with_reducible first | exact HB.out | apply below_alloc | apply pw_below_drewN | apply below_drew1) | exact HB.out)))); have n9_ := Aside0.mk (below_step (by repeat (first | (with_reducible first | exact HB.out | apply below_alloc | apply pw_below_drewN | apply below_drew1) | exact HB.out)) hb); clear HO329; clear HO335; clear HO341; clear HO346; clear HO352; clear HO363; clear HO371; clear HO385; clear HB; have HO329 := n0_; have HO335 := n1_; have HO341 := n2_; have HO346 := n3_; have HO352 := n4_; have HO363 := n5_; have HO371 := n6_; have HO385 := n7_; have HO389 := n8_; have HB := n9_; clear n0_ n1_ n2_ n3_ n4_ n5_ n6_ n7_ n8_ n9_; (try clear hb); (try clear hb2); (try clear hk); (try clear hi); (try clear ho0)) | ((with_reducible refine gate_callee (f := 23) rfl ?_); refine goesL_ (some 91) rfl rfl Tryd.func23 (by kernel_rfl) rfl #[.int .u64 300] rfl (by (try simp only [List.map_toArray, List.map_cons, List.map_nil]); first | done | rfl | (simp only [List.length_drop, List.length_take]; rfl)) ?_; (with_reducible refine (code_Small.calls k 300 t390 _ A17.out).mono ?_); rintro e w117 ⟨v391, rfl, ho0, hb⟩; refine ⟨_, rfl, ?_⟩; have n0_ := Aside0.mk (Kd.R_elder' (by (with_reducible repeat (first | apply Kd.R_alloc | apply Kd.R_drewN | apply Kd.R_drew)); exact HO329.out) (Kd.R_base ho0) hb); have n1_ := Aside0.mk (Kd.R_elder' (by (with_reducible repeat (first | apply Kd.R_alloc | apply Kd.R_drewN | apply Kd.R_drew)); exact HO335.out) (Kd.R_base ho0) hb); have n2_ := Aside0.mk (Kd.R_elder' (by (with_reducible repeat (first | apply Kd.R_alloc | apply Kd.R_drewN | apply Kd.R_drew)); exact HO341.out) (Kd.R_base ho0) hb); have n3_ := Aside0.mk (Kd.R_elder' (by (with_reducible repeat (first | apply Kd.R_alloc | apply Kd.R_drewN | apply Kd.R_drew)); exact HO346.out) (Kd.R_base ho0) hb); have n4_ := Aside0.mk (Kd.R_below (by (with_reducible repeat (first | apply Kd.R_alloc | apply Kd.R_drewN | apply Kd.R_drew)); exact HO352.out) hb); have n5_ := Aside0.mk (Kd.R_below (by (with_reducible repeat (first | apply Kd.R_alloc | apply Kd.R_drewN | apply Kd.R_drew)); exact HO363.out) hb); have n6_ := Aside0.mk (Kd.R_below (by (with_reducible repeat (first | apply Kd.R_alloc | apply Kd.R_drewN | apply Kd.R_drew)); exact HO371.out) hb); have n7_ := Aside0.mk (Kd.R_below (by (with_reducible repeat (first | apply Kd.R_alloc | apply Kd.R_drewN | apply Kd.R_drew)); exact HO385.out) hb); have n8_ := Aside0.mk (Kd.R_below (by (with_reducible repeat (first | apply Kd.R_alloc | apply Kd.R_drewN | apply Kd.R_drew)); exact HO389.out) hb); have n9_ := Aside0.mk (Kd.R_lower (Kd.R_new' (Kd.R_new' (Kd.R_new' (Kd.R_new' ho0 (Kd.R_lt (by (with_reducible repeat (first | apply Kd.R_alloc | apply Kd.R_drewN | apply Kd.R_drew)); exact HO329.out))) (Kd.R_lt (by (with_reducible repeat (first | apply Kd.R_alloc | apply Kd.R_drewN | apply Kd.R_drew)); exact HO335.out))) (Kd.R_lt (by (with_reducible repeat (first | apply Kd.R_alloc | apply Kd.R_drewN | apply Kd.R_drew)); exact HO341.out))) (Kd.R_lt (by (with_reducible repeat (first | apply Kd.R_alloc | apply Kd.R_drewN | apply Kd.R_drew)); exact HO346.out))) (below_size (by repeat (first | (with_reducible first | exact HB.out | apply below_alloc | apply pw_below_drewN | apply below_drew1) | exact HB.out)))); have n10_ := Aside0.mk (below_step (by repeat (first | (with_reducible first | exact HB.out | apply below_alloc | apply pw_below_drewN | apply below_drew1) | exact HB.out)) hb); clear HO329; clear HO335; clear HO341; clear HO346; clear HO352; clear HO363; clear HO371; clear HO385; clear HO389; clear HB; have HO329 := n0_; have HO335 := n1_; have HO341 := n2_; have HO346 := n3_; have HO352 := n4_; have HO363 := n5_; have HO371 := n6_; have HO385 := n7_; have HO389 := n8_; have HO392 := n9_; have HB := n10_; clear n0_ n1_ n2_ n3_ n4_ n5_ n6_ n7_ n8_ n9_ n10_; (try clear hb); (try clear hb2); (try clear hk); (try clear hi); (try clear ho0); have hcv118 := own_string (P := Tryd.prog) Tryd.underlying41 Tryd.underlying5 Tryd.underlying9 (Kd.own_of_R HO392.out)) | (go_at_call 26; (with_reducible refine (code_Text.calls k (⟨#[97, 98]⟩ : ByteArray) t393 _ A23.out).mono ?_); rintro e w119 ⟨v394, rfl, ho0, hb⟩; have n0_ := Aside0.mk (Kd.R_elder' (by (with_reducible repeat (first | apply Kd.R_alloc | apply Kd.R_drewN | apply Kd.R_drew)); exact HO329.out) (Kd.R_base ho0) hb); have n1_ := Aside0.mk (Kd.R_elder' (by (with_reducible repeat (first | apply Kd.R_alloc | apply Kd.R_drewN | apply Kd.R_drew)); exact HO335.out) (Kd.R_base ho0) hb); have n2_ := Aside0.mk (Kd.R_elder' (by (with_reducible repeat (first | apply Kd.R_alloc | apply Kd.R_drewN | apply Kd.R_drew)); exact HO341.out) (Kd.R_base ho0) hb); have n3_ := Aside0.mk (Kd.R_elder' (by (with_reducible repeat (first | apply Kd.R_alloc | apply Kd.R_drewN | apply Kd.R_drew)); exact HO346.out) (Kd.R_base ho0) hb); have n4_ := Aside0.mk (Kd.R_below (by (with_reducible repeat (first | apply Kd.R_alloc | apply Kd.R_drewN | apply Kd.R_drew)); exact HO352.out) hb); have n5_ := Aside0.mk (Kd.R_below (by (with_reducible repeat (first | apply Kd.R_alloc | apply Kd.R_drewN | apply Kd.R_drew)); exact HO363.out) hb); have n6_ := Aside0.mk (Kd.R_below (by (with_reducible repeat (first | apply Kd.R_alloc | apply Kd.R_drewN | apply Kd.R_drew)); exact HO371.out) hb); have n7_ := Aside0.mk (Kd.R_below (by (with_reducible repeat (first | apply Kd.R_alloc | apply Kd.R_drewN | apply Kd.R_drew)); exact HO385.out) hb); have n8_ := Aside0.mk (Kd.R_below (by (with_reducible repeat (first | apply Kd.R_alloc | apply Kd.R_drewN | apply Kd.R_drew)); exact HO389.out) hb); have n9_ := Aside0.mk (Kd.R_elder' (by (with_reducible repeat (first | apply Kd.R_alloc | apply Kd.R_drewN | apply Kd.R_drew)); exact HO392.out) (Kd.R_base ho0) hb); have n10_ := Aside0.mk (Kd.R_lower (Kd.R_new' (Kd.R_new' (Kd.R_new' (Kd.R_new' (Kd.R_new' ho0 (Kd.R_lt (by (with_reducible repeat (first | apply Kd.R_alloc | apply Kd.R_drewN | apply Kd.R_drew)); exact HO329.out))) (Kd.R_lt (by (with_reducible repeat (first | apply Kd.R_alloc | apply Kd.R_drewN | apply Kd.R_drew)); exact HO335.out))) (Kd.R_lt (by (with_reducible repeat (first | apply Kd.R_alloc | apply Kd.R_drewN | apply Kd.R_drew)); exact HO341.out))) (Kd.R_lt (by (with_reducible repeat (first | apply Kd.R_alloc | apply Kd.R_drewN | apply Kd.R_drew)); exact HO346.out))) (Kd.R_lt (by (with_reducible repeat (first | apply Kd.R_alloc | apply Kd.R_drewN | apply Kd.R_drew)); exact HO392.out))) (below_size (by repeat (first | (with_reducible first | exact HB.out | apply below_alloc | apply pw_below_drewN | apply below_drew1) | exact HB.out)))); have n11_ := Aside0.mk (below_step (by repeat (first | (with_reducible first | exact HB.out | apply below_alloc | apply pw_below_drewN | apply below_drew1) | exact HB.out)) hb); clear HO329; clear HO335; clear HO341; clear HO346; clear HO352; clear HO363; clear HO371; clear HO385; clear HO389; clear HO392; clear HB; have HO329 := n0_; have HO335 := n1_; have HO341 := n2_; have HO346 := n3_; have HO352 := n4_; have HO363 := n5_; have HO371 := n6_; have HO385 := n7_; have HO389 := n8_; have HO392 := n9_; have HO395 := n10_; have HB := n11_; clear n0_ n1_ n2_ n3_ n4_ n5_ n6_ n7_ n8_ n9_ n10_ n11_; (try clear hb); (try clear hb2); (try clear hk); (try clear hi); (try clear ho0); have hcv120 := own_string (P := Tryd.prog) Tryd.underlying41 Tryd.underlying5 Tryd.underlying9 (Kd.own_of_R HO395.out); have hcv121 := own_string (P := Tryd.prog) Tryd.underlying41 Tryd.underlying5 Tryd.underlying9 (Kd.own_of_R HO346.out)) | (go_at_call 13; (with_reducible refine (millhandlaw01_alive.calls k  true _ A32.out).mono ?_); rintro e w122 ⟨rfl, hb⟩; have n0_ := Aside0.mk (Kd.R_below (by (with_reducible repeat (first | apply Kd.R_alloc | apply Kd.R_drewN | apply Kd.R_drew)); exact HO329.out) hb); have n1_ := Aside0.mk (Kd.R_below (by (with_reducible repeat (first | apply Kd.R_alloc | apply Kd.R_drewN | apply Kd.R_drew)); exact HO335.out) hb); have n2_ := Aside0.mk (Kd.R_below (by (with_reducible repeat (first | apply Kd.R_alloc | apply Kd.R_drewN | apply Kd.R_drew)); exact HO341.out) hb); have n3_ := Aside0.mk (Kd.R_below (by (with_reducible repeat (first | apply Kd.R_alloc | apply Kd.R_drewN | apply Kd.R_drew)); exact HO346.out) hb); have n4_ := Aside0.mk (Kd.R_below (by (with_reducible repeat (first | apply Kd.R_alloc | apply Kd.R_drewN | apply Kd.R_drew)); exact HO352.out) hb); have n5_ := Aside0.mk (Kd.R_below (by (with_reducible repeat (first | apply Kd.R_alloc | apply Kd.R_drewN | apply Kd.R_drew)); exact HO363.out) hb); have n6_ := Aside0.mk (Kd.R_below (by (with_reducible repeat (first | apply Kd.R_alloc | apply Kd.R_drewN | apply Kd.R_drew)); exact HO371.out) hb); have n7_ := Aside0.mk (Kd.R_below (by (with_reducible repeat (first | apply Kd.R_alloc | apply Kd.R_drewN | apply Kd.R_drew)); exact HO385.out) hb); have n8_ := Aside0.mk (Kd.R_below (by (with_reducible repeat (first | apply Kd.R_alloc | apply Kd.R_drewN | apply Kd.R_drew)); exact HO389.out) hb); have n9_ := Aside0.mk (Kd.R_below (by (with_reducible repeat (first | apply Kd.R_alloc | apply Kd.R_drewN | apply Kd.R_drew)); exact HO392.out) hb); have n10_ := Aside0.mk (Kd.R_below (by (with_reducible repeat (first | apply Kd.R_alloc | apply Kd.R_drewN | apply Kd.R_drew)); exact HO395.out) hb); have n11_ := Aside0.mk (below_step (by repeat (first | (with_reducible first | exact HB.out | apply below_alloc | apply pw_below_drewN | apply below_drew1) | exact HB.out)) hb); clear HO329; clear HO335; clear HO341; clear HO346; clear HO352; clear HO363; clear HO371; clear HO385; clear HO389; clear HO392; clear HO395; clear HB; have HO329 := n0_; have HO335 := n1_; have HO341 := n2_; have HO346 := n3_; have HO352 := n4_; have HO363 := n5_; have HO371 := n6_; have HO385 := n7_; have HO389 := n8_; have HO392 := n9_; have HO395 := n10_; have HB := n11_; clear n0_ n1_ n2_ n3_ n4_ n5_ n6_ n7_ n8_ n9_ n10_ n11_; (try clear hb); (try clear hb2); (try clear hk); (try clear hi)))
                        go_ret
                        exact ⟨by first | rfl | (simp [errW_none, errW_some] <;> rfl) | (simp [*, errW_none, errW_some] <;> rfl) | exact ret_ie _ | (simp [*, errW_none, errW_some, bne]; done), by repeat (first | (with_reducible first | exact HB.out | apply below_alloc | apply pw_below_drewN | apply below_drew1) | exact HB.out)⟩
                       ·
                        rw [if_neg c82] at H
                        have c82b0 : (t383 == 8) = false := beq_eq_false_iff_ne.mpr c82
                        have c82b1 : (t383 != 8) = true := bne_iff_ne.mpr c82
                        exact absurd ((Option.some.inj H).trans hr) (by decide)
                      ·
                       rw [if_neg c81] at H
                       have c81b0 : (t381 == 4) = false := beq_eq_false_iff_ne.mpr c81
                       have c81b1 : (t381 != 4) = true := bne_iff_ne.mpr c81
                       exact absurd ((Option.some.inj H).trans hr) (by decide)
                    ·
                     replace c39 := Bool.eq_false_iff.mpr c39
                     subst c39
                     have H1 : (some false) = some r := by rw [if_neg (show ¬ (false = true) by decide)] at H; exact H
                     clear H
                     have H := H1
                     clear H1
                     exact absurd ((Option.some.inj H).trans hr) (by decide)
                   ·
                    rw [if_neg c38] at H
                    have c38b0 : (t376.toList == ([98] : List UInt8)) = false := beq_eq_false_iff_ne.mpr c38
                    have c38b1 : (t376.toList != ([98] : List UInt8)) = true := bne_iff_ne.mpr c38
                    exact absurd ((Option.some.inj H).trans hr) (by decide)
                  ·
                   replace c37 := Bool.eq_false_iff.mpr c37
                   subst c37
                   have H1 : (some false) = some r := by rw [if_neg (show ¬ (false = true) by decide)] at H; exact H
                   clear H
                   have H := H1
                   clear H1
                   exact absurd ((Option.some.inj H).trans hr) (by decide)
                 ·
                  rw [if_neg c36] at H
                  have c36b0 : (t374.toList == ([97, 99] : List UInt8)) = false := beq_eq_false_iff_ne.mpr c36
                  have c36b1 : (t374.toList != ([97, 99] : List UInt8)) = true := bne_iff_ne.mpr c36
                  exact absurd ((Option.some.inj H).trans hr) (by decide)
                ·
                 rw [if_neg c35] at H
                 have c35b0 : (t373 == 0) = false := beq_eq_false_iff_ne.mpr c35
                 have c35b1 : (t373 != 0) = true := bne_iff_ne.mpr c35
                 exact absurd ((Option.some.inj H).trans hr) (by decide)
               ·
                rw [if_neg c34] at H
                have c34b0 : (t344 == 0) = false := beq_eq_false_iff_ne.mpr c34
                have c34b1 : (t344 != 0) = true := bne_iff_ne.mpr c34
                exact absurd ((Option.some.inj H).trans hr) (by decide)
              ·
               replace c33 := Bool.eq_false_iff.mpr c33
               subst c33
               have H1 : (some false) = some r := by rw [if_neg (show ¬ (false = true) by decide)] at H; exact H
               clear H
               have H := H1
               clear H1
               exact absurd ((Option.some.inj H).trans hr) (by decide)
             ·
              rw [if_neg c31] at H
              have c31b0 : (t372.toList == ([2, 0, 255, 0, 0] : List UInt8)) = false := beq_eq_false_iff_ne.mpr c31
              have c31b1 : (t372.toList != ([2, 0, 255, 0, 0] : List UInt8)) = true := bne_iff_ne.mpr c31
              replace H := Option.bind_eq_some_iff.mp H
              obtain ⟨t397, A4830, H⟩ := H
              replace H : (if t397 = true then (if t344 = 0 then (some false) else (some false)) else (some false)) = some r := H
              have A483 := Aside0.mk A4830
              clear A4830
              by_cases c484 : t397 = true
              ·
               subst c484
               have H1 : (if t344 = 0 then (some false) else (some false)) = some r := by rw [if_pos rfl] at H; exact H
               clear H
               have H := H1
               clear H1
               by_cases c485 : t344 = 0
               ·
                rw [if_pos c485] at H
                have c485b0 : (t344 == 0) = true := beq_iff_eq.mpr c485
                have c485b1 : (t344 != 0) = false := bne_eq_false_iff_eq.mpr c485
                clear c485
                exact absurd ((Option.some.inj H).trans hr) (by decide)
               ·
                rw [if_neg c485] at H
                have c485b0 : (t344 == 0) = false := beq_eq_false_iff_ne.mpr c485
                have c485b1 : (t344 != 0) = true := bne_iff_ne.mpr c485
                exact absurd ((Option.some.inj H).trans hr) (by decide)
              ·
               replace c484 := Bool.eq_false_iff.mpr c484
               subst c484
               have H1 : (some false) = some r := by rw [if_neg (show ¬ (false = true) by decide)] at H; exact H
               clear H
               have H := H1
               clear H1
               exact absurd ((Option.some.inj H).trans hr) (by decide)
            ·
             rw [if_neg c30] at H
             have c30b0 : (t365 == 0) = false := beq_eq_false_iff_ne.mpr c30
             have c30b1 : (t365 != 0) = true := bne_iff_ne.mpr c30
             replace H := Option.bind_eq_some_iff.mp H
             obtain ⟨t398, A6060, H⟩ := H
             replace H : (if t398 = true then (if t344 = 0 then (some false) else (some false)) else (some false)) = some r := H
             have A606 := Aside0.mk A6060
             clear A6060
             by_cases c607 : t398 = true
             ·
              subst c607
              have H1 : (if t344 = 0 then (some false) else (some false)) = some r := by rw [if_pos rfl] at H; exact H
              clear H
              have H := H1
              clear H1
              by_cases c608 : t344 = 0
              ·
               rw [if_pos c608] at H
               have c608b0 : (t344 == 0) = true := beq_iff_eq.mpr c608
               have c608b1 : (t344 != 0) = false := bne_eq_false_iff_eq.mpr c608
               clear c608
               exact absurd ((Option.some.inj H).trans hr) (by decide)
              ·
               rw [if_neg c608] at H
               have c608b0 : (t344 == 0) = false := beq_eq_false_iff_ne.mpr c608
               have c608b1 : (t344 != 0) = true := bne_iff_ne.mpr c608
               exact absurd ((Option.some.inj H).trans hr) (by decide)
             ·
              replace c607 := Bool.eq_false_iff.mpr c607
              subst c607
              have H1 : (some false) = some r := by rw [if_neg (show ¬ (false = true) by decide)] at H; exact H
              clear H
              have H := H1
              clear H1
              exact absurd ((Option.some.inj H).trans hr) (by decide)
           ·
            rw [if_neg c29] at H
            have c29b0 : (t364.toList == ([2, 97, 0, 0, 2, 0, 0] : List UInt8)) = false := beq_eq_false_iff_ne.mpr c29
            have c29b1 : (t364.toList != ([2, 97, 0, 0, 2, 0, 0] : List UInt8)) = true := bne_iff_ne.mpr c29
            replace H := Option.bind_eq_some_iff.mp H
            obtain ⟨t399, A7290, H⟩ := H
            replace H : (if t399 = true then (if t344 = 0 then (some false) else (some false)) else (some false)) = some r := H
            have A729 := Aside0.mk A7290
            clear A7290
            by_cases c730 : t399 = true
            ·
             subst c730
             have H1 : (if t344 = 0 then (some false) else (some false)) = some r := by rw [if_pos rfl] at H; exact H
             clear H
             have H := H1
             clear H1
             by_cases c731 : t344 = 0
             ·
              rw [if_pos c731] at H
              have c731b0 : (t344 == 0) = true := beq_iff_eq.mpr c731
              have c731b1 : (t344 != 0) = false := bne_eq_false_iff_eq.mpr c731
              clear c731
              exact absurd ((Option.some.inj H).trans hr) (by decide)
             ·
              rw [if_neg c731] at H
              have c731b0 : (t344 == 0) = false := beq_eq_false_iff_ne.mpr c731
              have c731b1 : (t344 != 0) = true := bne_iff_ne.mpr c731
              exact absurd ((Option.some.inj H).trans hr) (by decide)
            ·
             replace c730 := Bool.eq_false_iff.mpr c730
             subst c730
             have H1 : (some false) = some r := by rw [if_neg (show ¬ (false = true) by decide)] at H; exact H
             clear H
             have H := H1
             clear H1
             exact absurd ((Option.some.inj H).trans hr) (by decide)
          ·
           rw [if_neg c28] at H
           have c28b0 : (t354 == 0) = false := beq_eq_false_iff_ne.mpr c28
           have c28b1 : (t354 != 0) = true := bne_iff_ne.mpr c28
           replace H := Option.bind_eq_some_iff.mp H
           obtain ⟨t400, A8520, H⟩ := H
           replace H : (if t400 = true then (if t344 = 0 then (some false) else (some false)) else (some false)) = some r := H
           have A852 := Aside0.mk A8520
           clear A8520
           by_cases c853 : t400 = true
           ·
            subst c853
            have H1 : (if t344 = 0 then (some false) else (some false)) = some r := by rw [if_pos rfl] at H; exact H
            clear H
            have H := H1
            clear H1
            by_cases c854 : t344 = 0
            ·
             rw [if_pos c854] at H
             have c854b0 : (t344 == 0) = true := beq_iff_eq.mpr c854
             have c854b1 : (t344 != 0) = false := bne_eq_false_iff_eq.mpr c854
             clear c854
             exact absurd ((Option.some.inj H).trans hr) (by decide)
            ·
             rw [if_neg c854] at H
             have c854b0 : (t344 == 0) = false := beq_eq_false_iff_ne.mpr c854
             have c854b1 : (t344 != 0) = true := bne_iff_ne.mpr c854
             exact absurd ((Option.some.inj H).trans hr) (by decide)
           ·
            replace c853 := Bool.eq_false_iff.mpr c853
            subst c853
            have H1 : (some false) = some r := by rw [if_neg (show ¬ (false = true) by decide)] at H; exact H
            clear H
            have H := H1
            clear H1
            exact absurd ((Option.some.inj H).trans hr) (by decide)
         ·
          rw [if_neg c27] at H
          have c27b0 : (t353.toList == ([1, 0, 0, 0, 0, 0, 0, 1, 2] : List UInt8)) = false := beq_eq_false_iff_ne.mpr c27
          have c27b1 : (t353.toList != ([1, 0, 0, 0, 0, 0, 0, 1, 2] : List UInt8)) = true := bne_iff_ne.mpr c27
          replace H := Option.bind_eq_some_iff.mp H
          obtain ⟨t401, A9750, H⟩ := H
          replace H : (if t401 = true then (if t344 = 0 then (some false) else (some false)) else (some false)) = some r := H
          have A975 := Aside0.mk A9750
          clear A9750
          by_cases c976 : t401 = true
          ·
           subst c976
           have H1 : (if t344 = 0 then (some false) else (some false)) = some r := by rw [if_pos rfl] at H; exact H
           clear H
           have H := H1
           clear H1
           by_cases c977 : t344 = 0
           ·
            rw [if_pos c977] at H
            have c977b0 : (t344 == 0) = true := beq_iff_eq.mpr c977
            have c977b1 : (t344 != 0) = false := bne_eq_false_iff_eq.mpr c977
            clear c977
            exact absurd ((Option.some.inj H).trans hr) (by decide)
           ·
            rw [if_neg c977] at H
            have c977b0 : (t344 == 0) = false := beq_eq_false_iff_ne.mpr c977
            have c977b1 : (t344 != 0) = true := bne_iff_ne.mpr c977
            exact absurd ((Option.some.inj H).trans hr) (by decide)
          ·
           replace c976 := Bool.eq_false_iff.mpr c976
           subst c976
           have H1 : (some false) = some r := by rw [if_neg (show ¬ (false = true) by decide)] at H; exact H
           clear H
           have H := H1
           clear H1
           exact absurd ((Option.some.inj H).trans hr) (by decide)
        ·
         rw [if_neg c26] at H
         have c26b0 : ((strOfNums t343).toList == ([7] : List UInt8)) = false := beq_eq_false_iff_ne.mpr c26
         have c26b1 : ((strOfNums t343).toList != ([7] : List UInt8)) = true := bne_iff_ne.mpr c26
         by_cases c1098 : t353.toList = ([1, 0, 0, 0, 0, 0, 0, 1, 2] : List UInt8)
         ·
          rw [if_pos c1098] at H
          have c1098b0 : (t353.toList == ([1, 0, 0, 0, 0, 0, 0, 1, 2] : List UInt8)) = true := beq_iff_eq.mpr c1098
          have c1098b1 : (t353.toList != ([1, 0, 0, 0, 0, 0, 0, 1, 2] : List UInt8)) = false := bne_eq_false_iff_eq.mpr c1098
          clear c1098
          by_cases c1099 : t354 = 0
          ·
           rw [if_pos c1099] at H
           have c1099b0 : (t354 == 0) = true := beq_iff_eq.mpr c1099
           have c1099b1 : (t354 != 0) = false := bne_eq_false_iff_eq.mpr c1099
           clear c1099
           by_cases c1100 : t364.toList = ([2, 97, 0, 0, 2, 0, 0] : List UInt8)
           ·
            rw [if_pos c1100] at H
            have c1100b0 : (t364.toList == ([2, 97, 0, 0, 2, 0, 0] : List UInt8)) = true := beq_iff_eq.mpr c1100
            have c1100b1 : (t364.toList != ([2, 97, 0, 0, 2, 0, 0] : List UInt8)) = false := bne_eq_false_iff_eq.mpr c1100
            clear c1100
            by_cases c1101 : t365 = 0
            ·
             rw [if_pos c1101] at H
             have c1101b0 : (t365 == 0) = true := beq_iff_eq.mpr c1101
             have c1101b1 : (t365 != 0) = false := bne_eq_false_iff_eq.mpr c1101
             clear c1101
             by_cases c1102 : t372.toList = ([2, 0, 255, 0, 0] : List UInt8)
             ·
              rw [if_pos c1102] at H
              have c1102b0 : (t372.toList == ([2, 0, 255, 0, 0] : List UInt8)) = true := beq_iff_eq.mpr c1102
              have c1102b1 : (t372.toList != ([2, 0, 255, 0, 0] : List UInt8)) = false := bne_eq_false_iff_eq.mpr c1102
              clear c1102
              replace H := Option.bind_eq_some_iff.mp H
              obtain ⟨t402, A11030, H⟩ := H
              replace H : (if t402 = true then (some false) else (some false)) = some r := H
              have A1103 := Aside0.mk A11030
              clear A11030
              by_cases c1104 : t402 = true
              ·
               subst c1104
               have H1 : (some false) = some r := by rw [if_pos rfl] at H; exact H
               clear H
               have H := H1
               clear H1
               exact absurd ((Option.some.inj H).trans hr) (by decide)
              ·
               replace c1104 := Bool.eq_false_iff.mpr c1104
               subst c1104
               have H1 : (some false) = some r := by rw [if_neg (show ¬ (false = true) by decide)] at H; exact H
               clear H
               have H := H1
               clear H1
               exact absurd ((Option.some.inj H).trans hr) (by decide)
             ·
              rw [if_neg c1102] at H
              have c1102b0 : (t372.toList == ([2, 0, 255, 0, 0] : List UInt8)) = false := beq_eq_false_iff_ne.mpr c1102
              have c1102b1 : (t372.toList != ([2, 0, 255, 0, 0] : List UInt8)) = true := bne_iff_ne.mpr c1102
              replace H := Option.bind_eq_some_iff.mp H
              obtain ⟨t403, A11850, H⟩ := H
              replace H : (if t403 = true then (some false) else (some false)) = some r := H
              have A1185 := Aside0.mk A11850
              clear A11850
              by_cases c1186 : t403 = true
              ·
               subst c1186
               have H1 : (some false) = some r := by rw [if_pos rfl] at H; exact H
               clear H
               have H := H1
               clear H1
               exact absurd ((Option.some.inj H).trans hr) (by decide)
              ·
               replace c1186 := Bool.eq_false_iff.mpr c1186
               subst c1186
               have H1 : (some false) = some r := by rw [if_neg (show ¬ (false = true) by decide)] at H; exact H
               clear H
               have H := H1
               clear H1
               exact absurd ((Option.some.inj H).trans hr) (by decide)
            ·
             rw [if_neg c1101] at H
             have c1101b0 : (t365 == 0) = false := beq_eq_false_iff_ne.mpr c1101
             have c1101b1 : (t365 != 0) = true := bne_iff_ne.mpr c1101
             replace H := Option.bind_eq_some_iff.mp H
             obtain ⟨t404, A12670, H⟩ := H
             replace H : (if t404 = true then (some false) else (some false)) = some r := H
             have A1267 := Aside0.mk A12670
             clear A12670
             by_cases c1268 : t404 = true
             ·
              subst c1268
              have H1 : (some false) = some r := by rw [if_pos rfl] at H; exact H
              clear H
              have H := H1
              clear H1
              exact absurd ((Option.some.inj H).trans hr) (by decide)
             ·
              replace c1268 := Bool.eq_false_iff.mpr c1268
              subst c1268
              have H1 : (some false) = some r := by rw [if_neg (show ¬ (false = true) by decide)] at H; exact H
              clear H
              have H := H1
              clear H1
              exact absurd ((Option.some.inj H).trans hr) (by decide)
           ·
            rw [if_neg c1100] at H
            have c1100b0 : (t364.toList == ([2, 97, 0, 0, 2, 0, 0] : List UInt8)) = false := beq_eq_false_iff_ne.mpr c1100
            have c1100b1 : (t364.toList != ([2, 97, 0, 0, 2, 0, 0] : List UInt8)) = true := bne_iff_ne.mpr c1100
            replace H := Option.bind_eq_some_iff.mp H
            obtain ⟨t405, A13490, H⟩ := H
            replace H : (if t405 = true then (some false) else (some false)) = some r := H
            have A1349 := Aside0.mk A13490
            clear A13490
            by_cases c1350 : t405 = true
            ·
             subst c1350
             have H1 : (some false) = some r := by rw [if_pos rfl] at H; exact H
             clear H
             have H := H1
             clear H1
             exact absurd ((Option.some.inj H).trans hr) (by decide)
            ·
             replace c1350 := Bool.eq_false_iff.mpr c1350
             subst c1350
             have H1 : (some false) = some r := by rw [if_neg (show ¬ (false = true) by decide)] at H; exact H
             clear H
             have H := H1
             clear H1
             exact absurd ((Option.some.inj H).trans hr) (by decide)
          ·
           rw [if_neg c1099] at H
           have c1099b0 : (t354 == 0) = false := beq_eq_false_iff_ne.mpr c1099
           have c1099b1 : (t354 != 0) = true := bne_iff_ne.mpr c1099
           replace H := Option.bind_eq_some_iff.mp H
           obtain ⟨t406, A14310, H⟩ := H
           replace H : (if t406 = true then (some false) else (some false)) = some r := H
           have A1431 := Aside0.mk A14310
           clear A14310
           by_cases c1432 : t406 = true
           ·
            subst c1432
            have H1 : (some false) = some r := by rw [if_pos rfl] at H; exact H
            clear H
            have H := H1
            clear H1
            exact absurd ((Option.some.inj H).trans hr) (by decide)
           ·
            replace c1432 := Bool.eq_false_iff.mpr c1432
            subst c1432
            have H1 : (some false) = some r := by rw [if_neg (show ¬ (false = true) by decide)] at H; exact H
            clear H
            have H := H1
            clear H1
            exact absurd ((Option.some.inj H).trans hr) (by decide)
         ·
          rw [if_neg c1098] at H
          have c1098b0 : (t353.toList == ([1, 0, 0, 0, 0, 0, 0, 1, 2] : List UInt8)) = false := beq_eq_false_iff_ne.mpr c1098
          have c1098b1 : (t353.toList != ([1, 0, 0, 0, 0, 0, 0, 1, 2] : List UInt8)) = true := bne_iff_ne.mpr c1098
          replace H := Option.bind_eq_some_iff.mp H
          obtain ⟨t407, A15130, H⟩ := H
          replace H : (if t407 = true then (some false) else (some false)) = some r := H
          have A1513 := Aside0.mk A15130
          clear A15130
          by_cases c1514 : t407 = true
          ·
           subst c1514
           have H1 : (some false) = some r := by rw [if_pos rfl] at H; exact H
           clear H
           have H := H1
           clear H1
           exact absurd ((Option.some.inj H).trans hr) (by decide)
          ·
           replace c1514 := Bool.eq_false_iff.mpr c1514
           subst c1514
           have H1 : (some false) = some r := by rw [if_neg (show ¬ (false = true) by decide)] at H; exact H
           clear H
           have H := H1
           clear H1
           exact absurd ((Option.some.inj H).trans hr) (by decide)
       ·
        rw [if_neg c25] at H
        have c25b0 : (t342.toList == ([97, 98] : List UInt8)) = false := beq_eq_false_iff_ne.mpr c25
        have c25b1 : (t342.toList != ([97, 98] : List UInt8)) = true := bne_iff_ne.mpr c25
        by_cases c1595 : t353.toList = ([1, 0, 0, 0, 0, 0, 0, 1, 2] : List UInt8)
        ·
         rw [if_pos c1595] at H
         have c1595b0 : (t353.toList == ([1, 0, 0, 0, 0, 0, 0, 1, 2] : List UInt8)) = true := beq_iff_eq.mpr c1595
         have c1595b1 : (t353.toList != ([1, 0, 0, 0, 0, 0, 0, 1, 2] : List UInt8)) = false := bne_eq_false_iff_eq.mpr c1595
         clear c1595
         by_cases c1596 : t354 = 0
         ·
          rw [if_pos c1596] at H
          have c1596b0 : (t354 == 0) = true := beq_iff_eq.mpr c1596
          have c1596b1 : (t354 != 0) = false := bne_eq_false_iff_eq.mpr c1596
          clear c1596
          by_cases c1597 : t364.toList = ([2, 97, 0, 0, 2, 0, 0] : List UInt8)
          ·
           rw [if_pos c1597] at H
           have c1597b0 : (t364.toList == ([2, 97, 0, 0, 2, 0, 0] : List UInt8)) = true := beq_iff_eq.mpr c1597
           have c1597b1 : (t364.toList != ([2, 97, 0, 0, 2, 0, 0] : List UInt8)) = false := bne_eq_false_iff_eq.mpr c1597
           clear c1597
           by_cases c1598 : t365 = 0
           ·
            rw [if_pos c1598] at H
            have c1598b0 : (t365 == 0) = true := beq_iff_eq.mpr c1598
            have c1598b1 : (t365 != 0) = false := bne_eq_false_iff_eq.mpr c1598
            clear c1598
            by_cases c1599 : t372.toList = ([2, 0, 255, 0, 0] : List UInt8)
            ·
             rw [if_pos c1599] at H
             have c1599b0 : (t372.toList == ([2, 0, 255, 0, 0] : List UInt8)) = true := beq_iff_eq.mpr c1599
             have c1599b1 : (t372.toList != ([2, 0, 255, 0, 0] : List UInt8)) = false := bne_eq_false_iff_eq.mpr c1599
             clear c1599
             replace H := Option.bind_eq_some_iff.mp H
             obtain ⟨t408, A16000, H⟩ := H
             replace H : (if t408 = true then (some false) else (some false)) = some r := H
             have A1600 := Aside0.mk A16000
             clear A16000
             by_cases c1601 : t408 = true
             ·
              subst c1601
              have H1 : (some false) = some r := by rw [if_pos rfl] at H; exact H
              clear H
              have H := H1
              clear H1
              exact absurd ((Option.some.inj H).trans hr) (by decide)
             ·
              replace c1601 := Bool.eq_false_iff.mpr c1601
              subst c1601
              have H1 : (some false) = some r := by rw [if_neg (show ¬ (false = true) by decide)] at H; exact H
              clear H
              have H := H1
              clear H1
              exact absurd ((Option.some.inj H).trans hr) (by decide)
            ·
             rw [if_neg c1599] at H
             have c1599b0 : (t372.toList == ([2, 0, 255, 0, 0] : List UInt8)) = false := beq_eq_false_iff_ne.mpr c1599
             have c1599b1 : (t372.toList != ([2, 0, 255, 0, 0] : List UInt8)) = true := bne_iff_ne.mpr c1599
             replace H := Option.bind_eq_some_iff.mp H
             obtain ⟨t409, A16800, H⟩ := H
             replace H : (if t409 = true then (some false) else (some false)) = some r := H
             have A1680 := Aside0.mk A16800
             clear A16800
             by_cases c1681 : t409 = true
             ·
              subst c1681
              have H1 : (some false) = some r := by rw [if_pos rfl] at H; exact H
              clear H
              have H := H1
              clear H1
              exact absurd ((Option.some.inj H).trans hr) (by decide)
             ·
              replace c1681 := Bool.eq_false_iff.mpr c1681
              subst c1681
              have H1 : (some false) = some r := by rw [if_neg (show ¬ (false = true) by decide)] at H; exact H
              clear H
              have H := H1
              clear H1
              exact absurd ((Option.some.inj H).trans hr) (by decide)
           ·
            rw [if_neg c1598] at H
            have c1598b0 : (t365 == 0) = false := beq_eq_false_iff_ne.mpr c1598
            have c1598b1 : (t365 != 0) = true := bne_iff_ne.mpr c1598
            replace H := Option.bind_eq_some_iff.mp H
            obtain ⟨t410, A17600, H⟩ := H
            replace H : (if t410 = true then (some false) else (some false)) = some r := H
            have A1760 := Aside0.mk A17600
            clear A17600
            by_cases c1761 : t410 = true
            ·
             subst c1761
             have H1 : (some false) = some r := by rw [if_pos rfl] at H; exact H
             clear H
             have H := H1
             clear H1
             exact absurd ((Option.some.inj H).trans hr) (by decide)
            ·
             replace c1761 := Bool.eq_false_iff.mpr c1761
             subst c1761
             have H1 : (some false) = some r := by rw [if_neg (show ¬ (false = true) by decide)] at H; exact H
             clear H
             have H := H1
             clear H1
             exact absurd ((Option.some.inj H).trans hr) (by decide)
          ·
           rw [if_neg c1597] at H
           have c1597b0 : (t364.toList == ([2, 97, 0, 0, 2, 0, 0] : List UInt8)) = false := beq_eq_false_iff_ne.mpr c1597
           have c1597b1 : (t364.toList != ([2, 97, 0, 0, 2, 0, 0] : List UInt8)) = true := bne_iff_ne.mpr c1597
           replace H := Option.bind_eq_some_iff.mp H
           obtain ⟨t411, A18400, H⟩ := H
           replace H : (if t411 = true then (some false) else (some false)) = some r := H
           have A1840 := Aside0.mk A18400
           clear A18400
           by_cases c1841 : t411 = true
           ·
            subst c1841
            have H1 : (some false) = some r := by rw [if_pos rfl] at H; exact H
            clear H
            have H := H1
            clear H1
            exact absurd ((Option.some.inj H).trans hr) (by decide)
           ·
            replace c1841 := Bool.eq_false_iff.mpr c1841
            subst c1841
            have H1 : (some false) = some r := by rw [if_neg (show ¬ (false = true) by decide)] at H; exact H
            clear H
            have H := H1
            clear H1
            exact absurd ((Option.some.inj H).trans hr) (by decide)
         ·
          rw [if_neg c1596] at H
          have c1596b0 : (t354 == 0) = false := beq_eq_false_iff_ne.mpr c1596
          have c1596b1 : (t354 != 0) = true := bne_iff_ne.mpr c1596
          replace H := Option.bind_eq_some_iff.mp H
          obtain ⟨t412, A19200, H⟩ := H
          replace H : (if t412 = true then (some false) else (some false)) = some r := H
          have A1920 := Aside0.mk A19200
          clear A19200
          by_cases c1921 : t412 = true
          ·
           subst c1921
           have H1 : (some false) = some r := by rw [if_pos rfl] at H; exact H
           clear H
           have H := H1
           clear H1
           exact absurd ((Option.some.inj H).trans hr) (by decide)
          ·
           replace c1921 := Bool.eq_false_iff.mpr c1921
           subst c1921
           have H1 : (some false) = some r := by rw [if_neg (show ¬ (false = true) by decide)] at H; exact H
           clear H
           have H := H1
           clear H1
           exact absurd ((Option.some.inj H).trans hr) (by decide)
        ·
         rw [if_neg c1595] at H
         have c1595b0 : (t353.toList == ([1, 0, 0, 0, 0, 0, 0, 1, 2] : List UInt8)) = false := beq_eq_false_iff_ne.mpr c1595
         have c1595b1 : (t353.toList != ([1, 0, 0, 0, 0, 0, 0, 1, 2] : List UInt8)) = true := bne_iff_ne.mpr c1595
         replace H := Option.bind_eq_some_iff.mp H
         obtain ⟨t413, A20000, H⟩ := H
         replace H : (if t413 = true then (some false) else (some false)) = some r := H
         have A2000 := Aside0.mk A20000
         clear A20000
         by_cases c2001 : t413 = true
         ·
          subst c2001
          have H1 : (some false) = some r := by rw [if_pos rfl] at H; exact H
          clear H
          have H := H1
          clear H1
          exact absurd ((Option.some.inj H).trans hr) (by decide)
         ·
          replace c2001 := Bool.eq_false_iff.mpr c2001
          subst c2001
          have H1 : (some false) = some r := by rw [if_neg (show ¬ (false = true) by decide)] at H; exact H
          clear H
          have H := H1
          clear H1
          exact absurd ((Option.some.inj H).trans hr) (by decide)
      ·
       rw [if_neg c24] at H
       have c24b0 : ((strOfNums t393).toList == ([2, 97, 98] : List UInt8)) = false := beq_eq_false_iff_ne.mpr c24
       have c24b1 : ((strOfNums t393).toList != ([2, 97, 98] : List UInt8)) = true := bne_iff_ne.mpr c24
       by_cases c2080 : t353.toList = ([1, 0, 0, 0, 0, 0, 0, 1, 2] : List UInt8)
       ·
        rw [if_pos c2080] at H
        have c2080b0 : (t353.toList == ([1, 0, 0, 0, 0, 0, 0, 1, 2] : List UInt8)) = true := beq_iff_eq.mpr c2080
        have c2080b1 : (t353.toList != ([1, 0, 0, 0, 0, 0, 0, 1, 2] : List UInt8)) = false := bne_eq_false_iff_eq.mpr c2080
        clear c2080
        by_cases c2081 : t354 = 0
        ·
         rw [if_pos c2081] at H
         have c2081b0 : (t354 == 0) = true := beq_iff_eq.mpr c2081
         have c2081b1 : (t354 != 0) = false := bne_eq_false_iff_eq.mpr c2081
         clear c2081
         by_cases c2082 : t364.toList = ([2, 97, 0, 0, 2, 0, 0] : List UInt8)
         ·
          rw [if_pos c2082] at H
          have c2082b0 : (t364.toList == ([2, 97, 0, 0, 2, 0, 0] : List UInt8)) = true := beq_iff_eq.mpr c2082
          have c2082b1 : (t364.toList != ([2, 97, 0, 0, 2, 0, 0] : List UInt8)) = false := bne_eq_false_iff_eq.mpr c2082
          clear c2082
          by_cases c2083 : t365 = 0
          ·
           rw [if_pos c2083] at H
           have c2083b0 : (t365 == 0) = true := beq_iff_eq.mpr c2083
           have c2083b1 : (t365 != 0) = false := bne_eq_false_iff_eq.mpr c2083
           clear c2083
           by_cases c2084 : t372.toList = ([2, 0, 255, 0, 0] : List UInt8)
           ·
            rw [if_pos c2084] at H
            have c2084b0 : (t372.toList == ([2, 0, 255, 0, 0] : List UInt8)) = true := beq_iff_eq.mpr c2084
            have c2084b1 : (t372.toList != ([2, 0, 255, 0, 0] : List UInt8)) = false := bne_eq_false_iff_eq.mpr c2084
            clear c2084
            replace H := Option.bind_eq_some_iff.mp H
            obtain ⟨t414, A20850, H⟩ := H
            replace H : (if t414 = true then (some false) else (some false)) = some r := H
            have A2085 := Aside0.mk A20850
            clear A20850
            by_cases c2086 : t414 = true
            ·
             subst c2086
             have H1 : (some false) = some r := by rw [if_pos rfl] at H; exact H
             clear H
             have H := H1
             clear H1
             exact absurd ((Option.some.inj H).trans hr) (by decide)
            ·
             replace c2086 := Bool.eq_false_iff.mpr c2086
             subst c2086
             have H1 : (some false) = some r := by rw [if_neg (show ¬ (false = true) by decide)] at H; exact H
             clear H
             have H := H1
             clear H1
             exact absurd ((Option.some.inj H).trans hr) (by decide)
           ·
            rw [if_neg c2084] at H
            have c2084b0 : (t372.toList == ([2, 0, 255, 0, 0] : List UInt8)) = false := beq_eq_false_iff_ne.mpr c2084
            have c2084b1 : (t372.toList != ([2, 0, 255, 0, 0] : List UInt8)) = true := bne_iff_ne.mpr c2084
            replace H := Option.bind_eq_some_iff.mp H
            obtain ⟨t415, A21650, H⟩ := H
            replace H : (if t415 = true then (some false) else (some false)) = some r := H
            have A2165 := Aside0.mk A21650
            clear A21650
            by_cases c2166 : t415 = true
            ·
             subst c2166
             have H1 : (some false) = some r := by rw [if_pos rfl] at H; exact H
             clear H
             have H := H1
             clear H1
             exact absurd ((Option.some.inj H).trans hr) (by decide)
            ·
             replace c2166 := Bool.eq_false_iff.mpr c2166
             subst c2166
             have H1 : (some false) = some r := by rw [if_neg (show ¬ (false = true) by decide)] at H; exact H
             clear H
             have H := H1
             clear H1
             exact absurd ((Option.some.inj H).trans hr) (by decide)
          ·
           rw [if_neg c2083] at H
           have c2083b0 : (t365 == 0) = false := beq_eq_false_iff_ne.mpr c2083
           have c2083b1 : (t365 != 0) = true := bne_iff_ne.mpr c2083
           replace H := Option.bind_eq_some_iff.mp H
           obtain ⟨t416, A22450, H⟩ := H
           replace H : (if t416 = true then (some false) else (some false)) = some r := H
           have A2245 := Aside0.mk A22450
           clear A22450
           by_cases c2246 : t416 = true
           ·
            subst c2246
            have H1 : (some false) = some r := by rw [if_pos rfl] at H; exact H
            clear H
            have H := H1
            clear H1
            exact absurd ((Option.some.inj H).trans hr) (by decide)
           ·
            replace c2246 := Bool.eq_false_iff.mpr c2246
            subst c2246
            have H1 : (some false) = some r := by rw [if_neg (show ¬ (false = true) by decide)] at H; exact H
            clear H
            have H := H1
            clear H1
            exact absurd ((Option.some.inj H).trans hr) (by decide)
         ·
          rw [if_neg c2082] at H
          have c2082b0 : (t364.toList == ([2, 97, 0, 0, 2, 0, 0] : List UInt8)) = false := beq_eq_false_iff_ne.mpr c2082
          have c2082b1 : (t364.toList != ([2, 97, 0, 0, 2, 0, 0] : List UInt8)) = true := bne_iff_ne.mpr c2082
          replace H := Option.bind_eq_some_iff.mp H
          obtain ⟨t417, A23250, H⟩ := H
          replace H : (if t417 = true then (some false) else (some false)) = some r := H
          have A2325 := Aside0.mk A23250
          clear A23250
          by_cases c2326 : t417 = true
          ·
           subst c2326
           have H1 : (some false) = some r := by rw [if_pos rfl] at H; exact H
           clear H
           have H := H1
           clear H1
           exact absurd ((Option.some.inj H).trans hr) (by decide)
          ·
           replace c2326 := Bool.eq_false_iff.mpr c2326
           subst c2326
           have H1 : (some false) = some r := by rw [if_neg (show ¬ (false = true) by decide)] at H; exact H
           clear H
           have H := H1
           clear H1
           exact absurd ((Option.some.inj H).trans hr) (by decide)
        ·
         rw [if_neg c2081] at H
         have c2081b0 : (t354 == 0) = false := beq_eq_false_iff_ne.mpr c2081
         have c2081b1 : (t354 != 0) = true := bne_iff_ne.mpr c2081
         replace H := Option.bind_eq_some_iff.mp H
         obtain ⟨t418, A24050, H⟩ := H
         replace H : (if t418 = true then (some false) else (some false)) = some r := H
         have A2405 := Aside0.mk A24050
         clear A24050
         by_cases c2406 : t418 = true
         ·
          subst c2406
          have H1 : (some false) = some r := by rw [if_pos rfl] at H; exact H
          clear H
          have H := H1
          clear H1
          exact absurd ((Option.some.inj H).trans hr) (by decide)
         ·
          replace c2406 := Bool.eq_false_iff.mpr c2406
          subst c2406
          have H1 : (some false) = some r := by rw [if_neg (show ¬ (false = true) by decide)] at H; exact H
          clear H
          have H := H1
          clear H1
          exact absurd ((Option.some.inj H).trans hr) (by decide)
       ·
        rw [if_neg c2080] at H
        have c2080b0 : (t353.toList == ([1, 0, 0, 0, 0, 0, 0, 1, 2] : List UInt8)) = false := beq_eq_false_iff_ne.mpr c2080
        have c2080b1 : (t353.toList != ([1, 0, 0, 0, 0, 0, 0, 1, 2] : List UInt8)) = true := bne_iff_ne.mpr c2080
        replace H := Option.bind_eq_some_iff.mp H
        obtain ⟨t419, A24850, H⟩ := H
        replace H : (if t419 = true then (some false) else (some false)) = some r := H
        have A2485 := Aside0.mk A24850
        clear A24850
        by_cases c2486 : t419 = true
        ·
         subst c2486
         have H1 : (some false) = some r := by rw [if_pos rfl] at H; exact H
         clear H
         have H := H1
         clear H1
         exact absurd ((Option.some.inj H).trans hr) (by decide)
        ·
         replace c2486 := Bool.eq_false_iff.mpr c2486
         subst c2486
         have H1 : (some false) = some r := by rw [if_neg (show ¬ (false = true) by decide)] at H; exact H
         clear H
         have H := H1
         clear H1
         exact absurd ((Option.some.inj H).trans hr) (by decide)
     ·
      rw [if_neg c22] at H
      have c22b0 : (t338 == 8) = false := beq_eq_false_iff_ne.mpr c22
      have c22b1 : (t338 != 8) = true := bne_iff_ne.mpr c22
      by_cases c2565 : t353.toList = ([1, 0, 0, 0, 0, 0, 0, 1, 2] : List UInt8)
      ·
       rw [if_pos c2565] at H
       have c2565b0 : (t353.toList == ([1, 0, 0, 0, 0, 0, 0, 1, 2] : List UInt8)) = true := beq_iff_eq.mpr c2565
       have c2565b1 : (t353.toList != ([1, 0, 0, 0, 0, 0, 0, 1, 2] : List UInt8)) = false := bne_eq_false_iff_eq.mpr c2565
       clear c2565
       by_cases c2566 : t354 = 0
       ·
        rw [if_pos c2566] at H
        have c2566b0 : (t354 == 0) = true := beq_iff_eq.mpr c2566
        have c2566b1 : (t354 != 0) = false := bne_eq_false_iff_eq.mpr c2566
        clear c2566
        by_cases c2567 : t364.toList = ([2, 97, 0, 0, 2, 0, 0] : List UInt8)
        ·
         rw [if_pos c2567] at H
         have c2567b0 : (t364.toList == ([2, 97, 0, 0, 2, 0, 0] : List UInt8)) = true := beq_iff_eq.mpr c2567
         have c2567b1 : (t364.toList != ([2, 97, 0, 0, 2, 0, 0] : List UInt8)) = false := bne_eq_false_iff_eq.mpr c2567
         clear c2567
         by_cases c2568 : t365 = 0
         ·
          rw [if_pos c2568] at H
          have c2568b0 : (t365 == 0) = true := beq_iff_eq.mpr c2568
          have c2568b1 : (t365 != 0) = false := bne_eq_false_iff_eq.mpr c2568
          clear c2568
          by_cases c2569 : t372.toList = ([2, 0, 255, 0, 0] : List UInt8)
          ·
           rw [if_pos c2569] at H
           have c2569b0 : (t372.toList == ([2, 0, 255, 0, 0] : List UInt8)) = true := beq_iff_eq.mpr c2569
           have c2569b1 : (t372.toList != ([2, 0, 255, 0, 0] : List UInt8)) = false := bne_eq_false_iff_eq.mpr c2569
           clear c2569
           replace H := Option.bind_eq_some_iff.mp H
           obtain ⟨t420, A25700, H⟩ := H
           replace H : (if t420 = true then (some false) else (some false)) = some r := H
           have A2570 := Aside0.mk A25700
           clear A25700
           by_cases c2571 : t420 = true
           ·
            subst c2571
            have H1 : (some false) = some r := by rw [if_pos rfl] at H; exact H
            clear H
            have H := H1
            clear H1
            exact absurd ((Option.some.inj H).trans hr) (by decide)
           ·
            replace c2571 := Bool.eq_false_iff.mpr c2571
            subst c2571
            have H1 : (some false) = some r := by rw [if_neg (show ¬ (false = true) by decide)] at H; exact H
            clear H
            have H := H1
            clear H1
            exact absurd ((Option.some.inj H).trans hr) (by decide)
          ·
           rw [if_neg c2569] at H
           have c2569b0 : (t372.toList == ([2, 0, 255, 0, 0] : List UInt8)) = false := beq_eq_false_iff_ne.mpr c2569
           have c2569b1 : (t372.toList != ([2, 0, 255, 0, 0] : List UInt8)) = true := bne_iff_ne.mpr c2569
           replace H := Option.bind_eq_some_iff.mp H
           obtain ⟨t421, A26460, H⟩ := H
           replace H : (if t421 = true then (some false) else (some false)) = some r := H
           have A2646 := Aside0.mk A26460
           clear A26460
           by_cases c2647 : t421 = true
           ·
            subst c2647
            have H1 : (some false) = some r := by rw [if_pos rfl] at H; exact H
            clear H
            have H := H1
            clear H1
            exact absurd ((Option.some.inj H).trans hr) (by decide)
           ·
            replace c2647 := Bool.eq_false_iff.mpr c2647
            subst c2647
            have H1 : (some false) = some r := by rw [if_neg (show ¬ (false = true) by decide)] at H; exact H
            clear H
            have H := H1
            clear H1
            exact absurd ((Option.some.inj H).trans hr) (by decide)
         ·
          rw [if_neg c2568] at H
          have c2568b0 : (t365 == 0) = false := beq_eq_false_iff_ne.mpr c2568
          have c2568b1 : (t365 != 0) = true := bne_iff_ne.mpr c2568
          replace H := Option.bind_eq_some_iff.mp H
          obtain ⟨t422, A27220, H⟩ := H
          replace H : (if t422 = true then (some false) else (some false)) = some r := H
          have A2722 := Aside0.mk A27220
          clear A27220
          by_cases c2723 : t422 = true
          ·
           subst c2723
           have H1 : (some false) = some r := by rw [if_pos rfl] at H; exact H
           clear H
           have H := H1
           clear H1
           exact absurd ((Option.some.inj H).trans hr) (by decide)
          ·
           replace c2723 := Bool.eq_false_iff.mpr c2723
           subst c2723
           have H1 : (some false) = some r := by rw [if_neg (show ¬ (false = true) by decide)] at H; exact H
           clear H
           have H := H1
           clear H1
           exact absurd ((Option.some.inj H).trans hr) (by decide)
        ·
         rw [if_neg c2567] at H
         have c2567b0 : (t364.toList == ([2, 97, 0, 0, 2, 0, 0] : List UInt8)) = false := beq_eq_false_iff_ne.mpr c2567
         have c2567b1 : (t364.toList != ([2, 97, 0, 0, 2, 0, 0] : List UInt8)) = true := bne_iff_ne.mpr c2567
         replace H := Option.bind_eq_some_iff.mp H
         obtain ⟨t423, A27980, H⟩ := H
         replace H : (if t423 = true then (some false) else (some false)) = some r := H
         have A2798 := Aside0.mk A27980
         clear A27980
         by_cases c2799 : t423 = true
         ·
          subst c2799
          have H1 : (some false) = some r := by rw [if_pos rfl] at H; exact H
          clear H
          have H := H1
          clear H1
          exact absurd ((Option.some.inj H).trans hr) (by decide)
         ·
          replace c2799 := Bool.eq_false_iff.mpr c2799
          subst c2799
          have H1 : (some false) = some r := by rw [if_neg (show ¬ (false = true) by decide)] at H; exact H
          clear H
          have H := H1
          clear H1
          exact absurd ((Option.some.inj H).trans hr) (by decide)
       ·
        rw [if_neg c2566] at H
        have c2566b0 : (t354 == 0) = false := beq_eq_false_iff_ne.mpr c2566
        have c2566b1 : (t354 != 0) = true := bne_iff_ne.mpr c2566
        replace H := Option.bind_eq_some_iff.mp H
        obtain ⟨t424, A28740, H⟩ := H
        replace H : (if t424 = true then (some false) else (some false)) = some r := H
        have A2874 := Aside0.mk A28740
        clear A28740
        by_cases c2875 : t424 = true
        ·
         subst c2875
         have H1 : (some false) = some r := by rw [if_pos rfl] at H; exact H
         clear H
         have H := H1
         clear H1
         exact absurd ((Option.some.inj H).trans hr) (by decide)
        ·
         replace c2875 := Bool.eq_false_iff.mpr c2875
         subst c2875
         have H1 : (some false) = some r := by rw [if_neg (show ¬ (false = true) by decide)] at H; exact H
         clear H
         have H := H1
         clear H1
         exact absurd ((Option.some.inj H).trans hr) (by decide)
      ·
       rw [if_neg c2565] at H
       have c2565b0 : (t353.toList == ([1, 0, 0, 0, 0, 0, 0, 1, 2] : List UInt8)) = false := beq_eq_false_iff_ne.mpr c2565
       have c2565b1 : (t353.toList != ([1, 0, 0, 0, 0, 0, 0, 1, 2] : List UInt8)) = true := bne_iff_ne.mpr c2565
       replace H := Option.bind_eq_some_iff.mp H
       obtain ⟨t425, A29500, H⟩ := H
       replace H : (if t425 = true then (some false) else (some false)) = some r := H
       have A2950 := Aside0.mk A29500
       clear A29500
       by_cases c2951 : t425 = true
       ·
        subst c2951
        have H1 : (some false) = some r := by rw [if_pos rfl] at H; exact H
        clear H
        have H := H1
        clear H1
        exact absurd ((Option.some.inj H).trans hr) (by decide)
       ·
        replace c2951 := Bool.eq_false_iff.mpr c2951
        subst c2951
        have H1 : (some false) = some r := by rw [if_neg (show ¬ (false = true) by decide)] at H; exact H
        clear H
        have H := H1
        clear H1
        exact absurd ((Option.some.inj H).trans hr) (by decide)
    ·
     rw [if_neg c21] at H
     have c21b0 : (t332 == 0) = false := beq_eq_false_iff_ne.mpr c21
     have c21b1 : (t332 != 0) = true := bne_iff_ne.mpr c21
     by_cases c3026 : t353.toList = ([1, 0, 0, 0, 0, 0, 0, 1, 2] : List UInt8)
     ·
      rw [if_pos c3026] at H
      have c3026b0 : (t353.toList == ([1, 0, 0, 0, 0, 0, 0, 1, 2] : List UInt8)) = true := beq_iff_eq.mpr c3026
      have c3026b1 : (t353.toList != ([1, 0, 0, 0, 0, 0, 0, 1, 2] : List UInt8)) = false := bne_eq_false_iff_eq.mpr c3026
      clear c3026
      by_cases c3027 : t354 = 0
      ·
       rw [if_pos c3027] at H
       have c3027b0 : (t354 == 0) = true := beq_iff_eq.mpr c3027
       have c3027b1 : (t354 != 0) = false := bne_eq_false_iff_eq.mpr c3027
       clear c3027
       by_cases c3028 : t364.toList = ([2, 97, 0, 0, 2, 0, 0] : List UInt8)
       ·
        rw [if_pos c3028] at H
        have c3028b0 : (t364.toList == ([2, 97, 0, 0, 2, 0, 0] : List UInt8)) = true := beq_iff_eq.mpr c3028
        have c3028b1 : (t364.toList != ([2, 97, 0, 0, 2, 0, 0] : List UInt8)) = false := bne_eq_false_iff_eq.mpr c3028
        clear c3028
        by_cases c3029 : t365 = 0
        ·
         rw [if_pos c3029] at H
         have c3029b0 : (t365 == 0) = true := beq_iff_eq.mpr c3029
         have c3029b1 : (t365 != 0) = false := bne_eq_false_iff_eq.mpr c3029
         clear c3029
         by_cases c3030 : t372.toList = ([2, 0, 255, 0, 0] : List UInt8)
         ·
          rw [if_pos c3030] at H
          have c3030b0 : (t372.toList == ([2, 0, 255, 0, 0] : List UInt8)) = true := beq_iff_eq.mpr c3030
          have c3030b1 : (t372.toList != ([2, 0, 255, 0, 0] : List UInt8)) = false := bne_eq_false_iff_eq.mpr c3030
          clear c3030
          replace H := Option.bind_eq_some_iff.mp H
          obtain ⟨t426, A30310, H⟩ := H
          replace H : (if t426 = true then (some false) else (some false)) = some r := H
          have A3031 := Aside0.mk A30310
          clear A30310
          by_cases c3032 : t426 = true
          ·
           subst c3032
           have H1 : (some false) = some r := by rw [if_pos rfl] at H; exact H
           clear H
           have H := H1
           clear H1
           exact absurd ((Option.some.inj H).trans hr) (by decide)
          ·
           replace c3032 := Bool.eq_false_iff.mpr c3032
           subst c3032
           have H1 : (some false) = some r := by rw [if_neg (show ¬ (false = true) by decide)] at H; exact H
           clear H
           have H := H1
           clear H1
           exact absurd ((Option.some.inj H).trans hr) (by decide)
         ·
          rw [if_neg c3030] at H
          have c3030b0 : (t372.toList == ([2, 0, 255, 0, 0] : List UInt8)) = false := beq_eq_false_iff_ne.mpr c3030
          have c3030b1 : (t372.toList != ([2, 0, 255, 0, 0] : List UInt8)) = true := bne_iff_ne.mpr c3030
          replace H := Option.bind_eq_some_iff.mp H
          obtain ⟨t427, A31070, H⟩ := H
          replace H : (if t427 = true then (some false) else (some false)) = some r := H
          have A3107 := Aside0.mk A31070
          clear A31070
          by_cases c3108 : t427 = true
          ·
           subst c3108
           have H1 : (some false) = some r := by rw [if_pos rfl] at H; exact H
           clear H
           have H := H1
           clear H1
           exact absurd ((Option.some.inj H).trans hr) (by decide)
          ·
           replace c3108 := Bool.eq_false_iff.mpr c3108
           subst c3108
           have H1 : (some false) = some r := by rw [if_neg (show ¬ (false = true) by decide)] at H; exact H
           clear H
           have H := H1
           clear H1
           exact absurd ((Option.some.inj H).trans hr) (by decide)
        ·
         rw [if_neg c3029] at H
         have c3029b0 : (t365 == 0) = false := beq_eq_false_iff_ne.mpr c3029
         have c3029b1 : (t365 != 0) = true := bne_iff_ne.mpr c3029
         replace H := Option.bind_eq_some_iff.mp H
         obtain ⟨t428, A31830, H⟩ := H
         replace H : (if t428 = true then (some false) else (some false)) = some r := H
         have A3183 := Aside0.mk A31830
         clear A31830
         by_cases c3184 : t428 = true
         ·
          subst c3184
          have H1 : (some false) = some r := by rw [if_pos rfl] at H; exact H
          clear H
          have H := H1
          clear H1
          exact absurd ((Option.some.inj H).trans hr) (by decide)
         ·
          replace c3184 := Bool.eq_false_iff.mpr c3184
          subst c3184
          have H1 : (some false) = some r := by rw [if_neg (show ¬ (false = true) by decide)] at H; exact H
          clear H
          have H := H1
          clear H1
          exact absurd ((Option.some.inj H).trans hr) (by decide)
       ·
        rw [if_neg c3028] at H
        have c3028b0 : (t364.toList == ([2, 97, 0, 0, 2, 0, 0] : List UInt8)) = false := beq_eq_false_iff_ne.mpr c3028
        have c3028b1 : (t364.toList != ([2, 97, 0, 0, 2, 0, 0] : List UInt8)) = true := bne_iff_ne.mpr c3028
        replace H := Option.bind_eq_some_iff.mp H
        obtain ⟨t429, A32590, H⟩ := H
        replace H : (if t429 = true then (some false) else (some false)) = some r := H
        have A3259 := Aside0.mk A32590
        clear A32590
        by_cases c3260 : t429 = true
        ·
         subst c3260
         have H1 : (some false) = some r := by rw [if_pos rfl] at H; exact H
         clear H
         have H := H1
         clear H1
         exact absurd ((Option.some.inj H).trans hr) (by decide)
        ·
         replace c3260 := Bool.eq_false_iff.mpr c3260
         subst c3260
         have H1 : (some false) = some r := by rw [if_neg (show ¬ (false = true) by decide)] at H; exact H
         clear H
         have H := H1
         clear H1
         exact absurd ((Option.some.inj H).trans hr) (by decide)
      ·
       rw [if_neg c3027] at H
       have c3027b0 : (t354 == 0) = false := beq_eq_false_iff_ne.mpr c3027
       have c3027b1 : (t354 != 0) = true := bne_iff_ne.mpr c3027
       replace H := Option.bind_eq_some_iff.mp H
       obtain ⟨t430, A33350, H⟩ := H
       replace H : (if t430 = true then (some false) else (some false)) = some r := H
       have A3335 := Aside0.mk A33350
       clear A33350
       by_cases c3336 : t430 = true
       ·
        subst c3336
        have H1 : (some false) = some r := by rw [if_pos rfl] at H; exact H
        clear H
        have H := H1
        clear H1
        exact absurd ((Option.some.inj H).trans hr) (by decide)
       ·
        replace c3336 := Bool.eq_false_iff.mpr c3336
        subst c3336
        have H1 : (some false) = some r := by rw [if_neg (show ¬ (false = true) by decide)] at H; exact H
        clear H
        have H := H1
        clear H1
        exact absurd ((Option.some.inj H).trans hr) (by decide)
     ·
      rw [if_neg c3026] at H
      have c3026b0 : (t353.toList == ([1, 0, 0, 0, 0, 0, 0, 1, 2] : List UInt8)) = false := beq_eq_false_iff_ne.mpr c3026
      have c3026b1 : (t353.toList != ([1, 0, 0, 0, 0, 0, 0, 1, 2] : List UInt8)) = true := bne_iff_ne.mpr c3026
      replace H := Option.bind_eq_some_iff.mp H
      obtain ⟨t431, A34110, H⟩ := H
      replace H : (if t431 = true then (some false) else (some false)) = some r := H
      have A3411 := Aside0.mk A34110
      clear A34110
      by_cases c3412 : t431 = true
      ·
       subst c3412
       have H1 : (some false) = some r := by rw [if_pos rfl] at H; exact H
       clear H
       have H := H1
       clear H1
       exact absurd ((Option.some.inj H).trans hr) (by decide)
      ·
       replace c3412 := Bool.eq_false_iff.mpr c3412
       subst c3412
       have H1 : (some false) = some r := by rw [if_neg (show ¬ (false = true) by decide)] at H; exact H
       clear H
       have H := H1
       clear H1
       exact absurd ((Option.some.inj H).trans hr) (by decide)
   ·
    rw [if_neg c20] at H
    have c20b0 : (t331 == 2) = false := beq_eq_false_iff_ne.mpr c20
    have c20b1 : (t331 != 2) = true := bne_iff_ne.mpr c20
    by_cases c3487 : t353.toList = ([1, 0, 0, 0, 0, 0, 0, 1, 2] : List UInt8)
    ·
     rw [if_pos c3487] at H
     have c3487b0 : (t353.toList == ([1, 0, 0, 0, 0, 0, 0, 1, 2] : List UInt8)) = true := beq_iff_eq.mpr c3487
     have c3487b1 : (t353.toList != ([1, 0, 0, 0, 0, 0, 0, 1, 2] : List UInt8)) = false := bne_eq_false_iff_eq.mpr c3487
     clear c3487
     by_cases c3488 : t354 = 0
     ·
      rw [if_pos c3488] at H
      have c3488b0 : (t354 == 0) = true := beq_iff_eq.mpr c3488
      have c3488b1 : (t354 != 0) = false := bne_eq_false_iff_eq.mpr c3488
      clear c3488
      by_cases c3489 : t364.toList = ([2, 97, 0, 0, 2, 0, 0] : List UInt8)
      ·
       rw [if_pos c3489] at H
       have c3489b0 : (t364.toList == ([2, 97, 0, 0, 2, 0, 0] : List UInt8)) = true := beq_iff_eq.mpr c3489
       have c3489b1 : (t364.toList != ([2, 97, 0, 0, 2, 0, 0] : List UInt8)) = false := bne_eq_false_iff_eq.mpr c3489
       clear c3489
       by_cases c3490 : t365 = 0
       ·
        rw [if_pos c3490] at H
        have c3490b0 : (t365 == 0) = true := beq_iff_eq.mpr c3490
        have c3490b1 : (t365 != 0) = false := bne_eq_false_iff_eq.mpr c3490
        clear c3490
        by_cases c3491 : t372.toList = ([2, 0, 255, 0, 0] : List UInt8)
        ·
         rw [if_pos c3491] at H
         have c3491b0 : (t372.toList == ([2, 0, 255, 0, 0] : List UInt8)) = true := beq_iff_eq.mpr c3491
         have c3491b1 : (t372.toList != ([2, 0, 255, 0, 0] : List UInt8)) = false := bne_eq_false_iff_eq.mpr c3491
         clear c3491
         replace H := Option.bind_eq_some_iff.mp H
         obtain ⟨t432, A34920, H⟩ := H
         replace H : (if t432 = true then (some false) else (some false)) = some r := H
         have A3492 := Aside0.mk A34920
         clear A34920
         by_cases c3493 : t432 = true
         ·
          subst c3493
          have H1 : (some false) = some r := by rw [if_pos rfl] at H; exact H
          clear H
          have H := H1
          clear H1
          exact absurd ((Option.some.inj H).trans hr) (by decide)
         ·
          replace c3493 := Bool.eq_false_iff.mpr c3493
          subst c3493
          have H1 : (some false) = some r := by rw [if_neg (show ¬ (false = true) by decide)] at H; exact H
          clear H
          have H := H1
          clear H1
          exact absurd ((Option.some.inj H).trans hr) (by decide)
        ·
         rw [if_neg c3491] at H
         have c3491b0 : (t372.toList == ([2, 0, 255, 0, 0] : List UInt8)) = false := beq_eq_false_iff_ne.mpr c3491
         have c3491b1 : (t372.toList != ([2, 0, 255, 0, 0] : List UInt8)) = true := bne_iff_ne.mpr c3491
         replace H := Option.bind_eq_some_iff.mp H
         obtain ⟨t433, A35680, H⟩ := H
         replace H : (if t433 = true then (some false) else (some false)) = some r := H
         have A3568 := Aside0.mk A35680
         clear A35680
         by_cases c3569 : t433 = true
         ·
          subst c3569
          have H1 : (some false) = some r := by rw [if_pos rfl] at H; exact H
          clear H
          have H := H1
          clear H1
          exact absurd ((Option.some.inj H).trans hr) (by decide)
         ·
          replace c3569 := Bool.eq_false_iff.mpr c3569
          subst c3569
          have H1 : (some false) = some r := by rw [if_neg (show ¬ (false = true) by decide)] at H; exact H
          clear H
          have H := H1
          clear H1
          exact absurd ((Option.some.inj H).trans hr) (by decide)
       ·
        rw [if_neg c3490] at H
        have c3490b0 : (t365 == 0) = false := beq_eq_false_iff_ne.mpr c3490
        have c3490b1 : (t365 != 0) = true := bne_iff_ne.mpr c3490
        replace H := Option.bind_eq_some_iff.mp H
        obtain ⟨t434, A36440, H⟩ := H
        replace H : (if t434 = true then (some false) else (some false)) = some r := H
        have A3644 := Aside0.mk A36440
        clear A36440
        by_cases c3645 : t434 = true
        ·
         subst c3645
         have H1 : (some false) = some r := by rw [if_pos rfl] at H; exact H
         clear H
         have H := H1
         clear H1
         exact absurd ((Option.some.inj H).trans hr) (by decide)
        ·
         replace c3645 := Bool.eq_false_iff.mpr c3645
         subst c3645
         have H1 : (some false) = some r := by rw [if_neg (show ¬ (false = true) by decide)] at H; exact H
         clear H
         have H := H1
         clear H1
         exact absurd ((Option.some.inj H).trans hr) (by decide)
      ·
       rw [if_neg c3489] at H
       have c3489b0 : (t364.toList == ([2, 97, 0, 0, 2, 0, 0] : List UInt8)) = false := beq_eq_false_iff_ne.mpr c3489
       have c3489b1 : (t364.toList != ([2, 97, 0, 0, 2, 0, 0] : List UInt8)) = true := bne_iff_ne.mpr c3489
       replace H := Option.bind_eq_some_iff.mp H
       obtain ⟨t435, A37200, H⟩ := H
       replace H : (if t435 = true then (some false) else (some false)) = some r := H
       have A3720 := Aside0.mk A37200
       clear A37200
       by_cases c3721 : t435 = true
       ·
        subst c3721
        have H1 : (some false) = some r := by rw [if_pos rfl] at H; exact H
        clear H
        have H := H1
        clear H1
        exact absurd ((Option.some.inj H).trans hr) (by decide)
       ·
        replace c3721 := Bool.eq_false_iff.mpr c3721
        subst c3721
        have H1 : (some false) = some r := by rw [if_neg (show ¬ (false = true) by decide)] at H; exact H
        clear H
        have H := H1
        clear H1
        exact absurd ((Option.some.inj H).trans hr) (by decide)
     ·
      rw [if_neg c3488] at H
      have c3488b0 : (t354 == 0) = false := beq_eq_false_iff_ne.mpr c3488
      have c3488b1 : (t354 != 0) = true := bne_iff_ne.mpr c3488
      replace H := Option.bind_eq_some_iff.mp H
      obtain ⟨t436, A37960, H⟩ := H
      replace H : (if t436 = true then (some false) else (some false)) = some r := H
      have A3796 := Aside0.mk A37960
      clear A37960
      by_cases c3797 : t436 = true
      ·
       subst c3797
       have H1 : (some false) = some r := by rw [if_pos rfl] at H; exact H
       clear H
       have H := H1
       clear H1
       exact absurd ((Option.some.inj H).trans hr) (by decide)
      ·
       replace c3797 := Bool.eq_false_iff.mpr c3797
       subst c3797
       have H1 : (some false) = some r := by rw [if_neg (show ¬ (false = true) by decide)] at H; exact H
       clear H
       have H := H1
       clear H1
       exact absurd ((Option.some.inj H).trans hr) (by decide)
    ·
     rw [if_neg c3487] at H
     have c3487b0 : (t353.toList == ([1, 0, 0, 0, 0, 0, 0, 1, 2] : List UInt8)) = false := beq_eq_false_iff_ne.mpr c3487
     have c3487b1 : (t353.toList != ([1, 0, 0, 0, 0, 0, 0, 1, 2] : List UInt8)) = true := bne_iff_ne.mpr c3487
     replace H := Option.bind_eq_some_iff.mp H
     obtain ⟨t437, A38720, H⟩ := H
     replace H : (if t437 = true then (some false) else (some false)) = some r := H
     have A3872 := Aside0.mk A38720
     clear A38720
     by_cases c3873 : t437 = true
     ·
      subst c3873
      have H1 : (some false) = some r := by rw [if_pos rfl] at H; exact H
      clear H
      have H := H1
      clear H1
      exact absurd ((Option.some.inj H).trans hr) (by decide)
     ·
      replace c3873 := Bool.eq_false_iff.mpr c3873
      subst c3873
      have H1 : (some false) = some r := by rw [if_neg (show ¬ (false = true) by decide)] at H; exact H
      clear H
      have H := H1
      clear H1
      exact absurd ((Option.some.inj H).trans hr) (by decide)
  ·
   rw [if_neg c19] at H
   have c19b0 : (t330 == 300) = false := beq_eq_false_iff_ne.mpr c19
   have c19b1 : (t330 != 300) = true := bne_iff_ne.mpr c19
   by_cases c3948 : t353.toList = ([1, 0, 0, 0, 0, 0, 0, 1, 2] : List UInt8)
   ·
    rw [if_pos c3948] at H
    have c3948b0 : (t353.toList == ([1, 0, 0, 0, 0, 0, 0, 1, 2] : List UInt8)) = true := beq_iff_eq.mpr c3948
    have c3948b1 : (t353.toList != ([1, 0, 0, 0, 0, 0, 0, 1, 2] : List UInt8)) = false := bne_eq_false_iff_eq.mpr c3948
    clear c3948
    by_cases c3949 : t354 = 0
    ·
     rw [if_pos c3949] at H
     have c3949b0 : (t354 == 0) = true := beq_iff_eq.mpr c3949
     have c3949b1 : (t354 != 0) = false := bne_eq_false_iff_eq.mpr c3949
     clear c3949
     by_cases c3950 : t364.toList = ([2, 97, 0, 0, 2, 0, 0] : List UInt8)
     ·
      rw [if_pos c3950] at H
      have c3950b0 : (t364.toList == ([2, 97, 0, 0, 2, 0, 0] : List UInt8)) = true := beq_iff_eq.mpr c3950
      have c3950b1 : (t364.toList != ([2, 97, 0, 0, 2, 0, 0] : List UInt8)) = false := bne_eq_false_iff_eq.mpr c3950
      clear c3950
      by_cases c3951 : t365 = 0
      ·
       rw [if_pos c3951] at H
       have c3951b0 : (t365 == 0) = true := beq_iff_eq.mpr c3951
       have c3951b1 : (t365 != 0) = false := bne_eq_false_iff_eq.mpr c3951
       clear c3951
       by_cases c3952 : t372.toList = ([2, 0, 255, 0, 0] : List UInt8)
       ·
        rw [if_pos c3952] at H
        have c3952b0 : (t372.toList == ([2, 0, 255, 0, 0] : List UInt8)) = true := beq_iff_eq.mpr c3952
        have c3952b1 : (t372.toList != ([2, 0, 255, 0, 0] : List UInt8)) = false := bne_eq_false_iff_eq.mpr c3952
        clear c3952
        replace H := Option.bind_eq_some_iff.mp H
        obtain ⟨t438, A39530, H⟩ := H
        replace H : (if t438 = true then (some false) else (some false)) = some r := H
        have A3953 := Aside0.mk A39530
        clear A39530
        by_cases c3954 : t438 = true
        ·
         subst c3954
         have H1 : (some false) = some r := by rw [if_pos rfl] at H; exact H
         clear H
         have H := H1
         clear H1
         exact absurd ((Option.some.inj H).trans hr) (by decide)
        ·
         replace c3954 := Bool.eq_false_iff.mpr c3954
         subst c3954
         have H1 : (some false) = some r := by rw [if_neg (show ¬ (false = true) by decide)] at H; exact H
         clear H
         have H := H1
         clear H1
         exact absurd ((Option.some.inj H).trans hr) (by decide)
       ·
        rw [if_neg c3952] at H
        have c3952b0 : (t372.toList == ([2, 0, 255, 0, 0] : List UInt8)) = false := beq_eq_false_iff_ne.mpr c3952
        have c3952b1 : (t372.toList != ([2, 0, 255, 0, 0] : List UInt8)) = true := bne_iff_ne.mpr c3952
        replace H := Option.bind_eq_some_iff.mp H
        obtain ⟨t439, A40290, H⟩ := H
        replace H : (if t439 = true then (some false) else (some false)) = some r := H
        have A4029 := Aside0.mk A40290
        clear A40290
        by_cases c4030 : t439 = true
        ·
         subst c4030
         have H1 : (some false) = some r := by rw [if_pos rfl] at H; exact H
         clear H
         have H := H1
         clear H1
         exact absurd ((Option.some.inj H).trans hr) (by decide)
        ·
         replace c4030 := Bool.eq_false_iff.mpr c4030
         subst c4030
         have H1 : (some false) = some r := by rw [if_neg (show ¬ (false = true) by decide)] at H; exact H
         clear H
         have H := H1
         clear H1
         exact absurd ((Option.some.inj H).trans hr) (by decide)
      ·
       rw [if_neg c3951] at H
       have c3951b0 : (t365 == 0) = false := beq_eq_false_iff_ne.mpr c3951
       have c3951b1 : (t365 != 0) = true := bne_iff_ne.mpr c3951
       replace H := Option.bind_eq_some_iff.mp H
       obtain ⟨t440, A41050, H⟩ := H
       replace H : (if t440 = true then (some false) else (some false)) = some r := H
       have A4105 := Aside0.mk A41050
       clear A41050
       by_cases c4106 : t440 = true
       ·
        subst c4106
        have H1 : (some false) = some r := by rw [if_pos rfl] at H; exact H
        clear H
        have H := H1
        clear H1
        exact absurd ((Option.some.inj H).trans hr) (by decide)
       ·
        replace c4106 := Bool.eq_false_iff.mpr c4106
        subst c4106
        have H1 : (some false) = some r := by rw [if_neg (show ¬ (false = true) by decide)] at H; exact H
        clear H
        have H := H1
        clear H1
        exact absurd ((Option.some.inj H).trans hr) (by decide)
     ·
      rw [if_neg c3950] at H
      have c3950b0 : (t364.toList == ([2, 97, 0, 0, 2, 0, 0] : List UInt8)) = false := beq_eq_false_iff_ne.mpr c3950
      have c3950b1 : (t364.toList != ([2, 97, 0, 0, 2, 0, 0] : List UInt8)) = true := bne_iff_ne.mpr c3950
      replace H := Option.bind_eq_some_iff.mp H
      obtain ⟨t441, A41810, H⟩ := H
      replace H : (if t441 = true then (some false) else (some false)) = some r := H
      have A4181 := Aside0.mk A41810
      clear A41810
      by_cases c4182 : t441 = true
      ·
       subst c4182
       have H1 : (some false) = some r := by rw [if_pos rfl] at H; exact H
       clear H
       have H := H1
       clear H1
       exact absurd ((Option.some.inj H).trans hr) (by decide)
      ·
       replace c4182 := Bool.eq_false_iff.mpr c4182
       subst c4182
       have H1 : (some false) = some r := by rw [if_neg (show ¬ (false = true) by decide)] at H; exact H
       clear H
       have H := H1
       clear H1
       exact absurd ((Option.some.inj H).trans hr) (by decide)
    ·
     rw [if_neg c3949] at H
     have c3949b0 : (t354 == 0) = false := beq_eq_false_iff_ne.mpr c3949
     have c3949b1 : (t354 != 0) = true := bne_iff_ne.mpr c3949
     replace H := Option.bind_eq_some_iff.mp H
     obtain ⟨t442, A42570, H⟩ := H
     replace H : (if t442 = true then (some false) else (some false)) = some r := H
     have A4257 := Aside0.mk A42570
     clear A42570
     by_cases c4258 : t442 = true
     ·
      subst c4258
      have H1 : (some false) = some r := by rw [if_pos rfl] at H; exact H
      clear H
      have H := H1
      clear H1
      exact absurd ((Option.some.inj H).trans hr) (by decide)
     ·
      replace c4258 := Bool.eq_false_iff.mpr c4258
      subst c4258
      have H1 : (some false) = some r := by rw [if_neg (show ¬ (false = true) by decide)] at H; exact H
      clear H
      have H := H1
      clear H1
      exact absurd ((Option.some.inj H).trans hr) (by decide)
   ·
    rw [if_neg c3948] at H
    have c3948b0 : (t353.toList == ([1, 0, 0, 0, 0, 0, 0, 1, 2] : List UInt8)) = false := beq_eq_false_iff_ne.mpr c3948
    have c3948b1 : (t353.toList != ([1, 0, 0, 0, 0, 0, 0, 1, 2] : List UInt8)) = true := bne_iff_ne.mpr c3948
    replace H := Option.bind_eq_some_iff.mp H
    obtain ⟨t443, A43330, H⟩ := H
    replace H : (if t443 = true then (some false) else (some false)) = some r := H
    have A4333 := Aside0.mk A43330
    clear A43330
    by_cases c4334 : t443 = true
    ·
     subst c4334
     have H1 : (some false) = some r := by rw [if_pos rfl] at H; exact H
     clear H
     have H := H1
     clear H1
     exact absurd ((Option.some.inj H).trans hr) (by decide)
    ·
     replace c4334 := Bool.eq_false_iff.mpr c4334
     subst c4334
     have H1 : (some false) = some r := by rw [if_neg (show ¬ (false = true) by decide)] at H; exact H
     clear H
     have H := H1
     clear H1
     exact absurd ((Option.some.inj H).trans hr) (by decide)
 ·
  rw [if_neg c18] at H
  have c18b0 : ((strOfNums t390).toList == ([172, 2] : List UInt8)) = false := beq_eq_false_iff_ne.mpr c18
  have c18b1 : ((strOfNums t390).toList != ([172, 2] : List UInt8)) = true := bne_iff_ne.mpr c18
  by_cases c4409 : t353.toList = ([1, 0, 0, 0, 0, 0, 0, 1, 2] : List UInt8)
  ·
   rw [if_pos c4409] at H
   have c4409b0 : (t353.toList == ([1, 0, 0, 0, 0, 0, 0, 1, 2] : List UInt8)) = true := beq_iff_eq.mpr c4409
   have c4409b1 : (t353.toList != ([1, 0, 0, 0, 0, 0, 0, 1, 2] : List UInt8)) = false := bne_eq_false_iff_eq.mpr c4409
   clear c4409
   by_cases c4410 : t354 = 0
   ·
    rw [if_pos c4410] at H
    have c4410b0 : (t354 == 0) = true := beq_iff_eq.mpr c4410
    have c4410b1 : (t354 != 0) = false := bne_eq_false_iff_eq.mpr c4410
    clear c4410
    by_cases c4411 : t364.toList = ([2, 97, 0, 0, 2, 0, 0] : List UInt8)
    ·
     rw [if_pos c4411] at H
     have c4411b0 : (t364.toList == ([2, 97, 0, 0, 2, 0, 0] : List UInt8)) = true := beq_iff_eq.mpr c4411
     have c4411b1 : (t364.toList != ([2, 97, 0, 0, 2, 0, 0] : List UInt8)) = false := bne_eq_false_iff_eq.mpr c4411
     clear c4411
     by_cases c4412 : t365 = 0
     ·
      rw [if_pos c4412] at H
      have c4412b0 : (t365 == 0) = true := beq_iff_eq.mpr c4412
      have c4412b1 : (t365 != 0) = false := bne_eq_false_iff_eq.mpr c4412
      clear c4412
      by_cases c4413 : t372.toList = ([2, 0, 255, 0, 0] : List UInt8)
      ·
       rw [if_pos c4413] at H
       have c4413b0 : (t372.toList == ([2, 0, 255, 0, 0] : List UInt8)) = true := beq_iff_eq.mpr c4413
       have c4413b1 : (t372.toList != ([2, 0, 255, 0, 0] : List UInt8)) = false := bne_eq_false_iff_eq.mpr c4413
       clear c4413
       replace H := Option.bind_eq_some_iff.mp H
       obtain ⟨t444, A44140, H⟩ := H
       replace H : (if t444 = true then (some false) else (some false)) = some r := H
       have A4414 := Aside0.mk A44140
       clear A44140
       by_cases c4415 : t444 = true
       ·
        subst c4415
        have H1 : (some false) = some r := by rw [if_pos rfl] at H; exact H
        clear H
        have H := H1
        clear H1
        exact absurd ((Option.some.inj H).trans hr) (by decide)
       ·
        replace c4415 := Bool.eq_false_iff.mpr c4415
        subst c4415
        have H1 : (some false) = some r := by rw [if_neg (show ¬ (false = true) by decide)] at H; exact H
        clear H
        have H := H1
        clear H1
        exact absurd ((Option.some.inj H).trans hr) (by decide)
      ·
       rw [if_neg c4413] at H
       have c4413b0 : (t372.toList == ([2, 0, 255, 0, 0] : List UInt8)) = false := beq_eq_false_iff_ne.mpr c4413
       have c4413b1 : (t372.toList != ([2, 0, 255, 0, 0] : List UInt8)) = true := bne_iff_ne.mpr c4413
       replace H := Option.bind_eq_some_iff.mp H
       obtain ⟨t445, A44900, H⟩ := H
       replace H : (if t445 = true then (some false) else (some false)) = some r := H
       have A4490 := Aside0.mk A44900
       clear A44900
       by_cases c4491 : t445 = true
       ·
        subst c4491
        have H1 : (some false) = some r := by rw [if_pos rfl] at H; exact H
        clear H
        have H := H1
        clear H1
        exact absurd ((Option.some.inj H).trans hr) (by decide)
       ·
        replace c4491 := Bool.eq_false_iff.mpr c4491
        subst c4491
        have H1 : (some false) = some r := by rw [if_neg (show ¬ (false = true) by decide)] at H; exact H
        clear H
        have H := H1
        clear H1
        exact absurd ((Option.some.inj H).trans hr) (by decide)
     ·
      rw [if_neg c4412] at H
      have c4412b0 : (t365 == 0) = false := beq_eq_false_iff_ne.mpr c4412
      have c4412b1 : (t365 != 0) = true := bne_iff_ne.mpr c4412
      replace H := Option.bind_eq_some_iff.mp H
      obtain ⟨t446, A45660, H⟩ := H
      replace H : (if t446 = true then (some false) else (some false)) = some r := H
      have A4566 := Aside0.mk A45660
      clear A45660
      by_cases c4567 : t446 = true
      ·
       subst c4567
       have H1 : (some false) = some r := by rw [if_pos rfl] at H; exact H
       clear H
       have H := H1
       clear H1
       exact absurd ((Option.some.inj H).trans hr) (by decide)
      ·
       replace c4567 := Bool.eq_false_iff.mpr c4567
       subst c4567
       have H1 : (some false) = some r := by rw [if_neg (show ¬ (false = true) by decide)] at H; exact H
       clear H
       have H := H1
       clear H1
       exact absurd ((Option.some.inj H).trans hr) (by decide)
    ·
     rw [if_neg c4411] at H
     have c4411b0 : (t364.toList == ([2, 97, 0, 0, 2, 0, 0] : List UInt8)) = false := beq_eq_false_iff_ne.mpr c4411
     have c4411b1 : (t364.toList != ([2, 97, 0, 0, 2, 0, 0] : List UInt8)) = true := bne_iff_ne.mpr c4411
     replace H := Option.bind_eq_some_iff.mp H
     obtain ⟨t447, A46420, H⟩ := H
     replace H : (if t447 = true then (some false) else (some false)) = some r := H
     have A4642 := Aside0.mk A46420
     clear A46420
     by_cases c4643 : t447 = true
     ·
      subst c4643
      have H1 : (some false) = some r := by rw [if_pos rfl] at H; exact H
      clear H
      have H := H1
      clear H1
      exact absurd ((Option.some.inj H).trans hr) (by decide)
     ·
      replace c4643 := Bool.eq_false_iff.mpr c4643
      subst c4643
      have H1 : (some false) = some r := by rw [if_neg (show ¬ (false = true) by decide)] at H; exact H
      clear H
      have H := H1
      clear H1
      exact absurd ((Option.some.inj H).trans hr) (by decide)
   ·
    rw [if_neg c4410] at H
    have c4410b0 : (t354 == 0) = false := beq_eq_false_iff_ne.mpr c4410
    have c4410b1 : (t354 != 0) = true := bne_iff_ne.mpr c4410
    replace H := Option.bind_eq_some_iff.mp H
    obtain ⟨t448, A47180, H⟩ := H
    replace H : (if t448 = true then (some false) else (some false)) = some r := H
    have A4718 := Aside0.mk A47180
    clear A47180
    by_cases c4719 : t448 = true
    ·
     subst c4719
     have H1 : (some false) = some r := by rw [if_pos rfl] at H; exact H
     clear H
     have H := H1
     clear H1
     exact absurd ((Option.some.inj H).trans hr) (by decide)
    ·
     replace c4719 := Bool.eq_false_iff.mpr c4719
     subst c4719
     have H1 : (some false) = some r := by rw [if_neg (show ¬ (false = true) by decide)] at H; exact H
     clear H
     have H := H1
     clear H1
     exact absurd ((Option.some.inj H).trans hr) (by decide)
  ·
   rw [if_neg c4409] at H
   have c4409b0 : (t353.toList == ([1, 0, 0, 0, 0, 0, 0, 1, 2] : List UInt8)) = false := beq_eq_false_iff_ne.mpr c4409
   have c4409b1 : (t353.toList != ([1, 0, 0, 0, 0, 0, 0, 1, 2] : List UInt8)) = true := bne_iff_ne.mpr c4409
   replace H := Option.bind_eq_some_iff.mp H
   obtain ⟨t449, A47940, H⟩ := H
   replace H : (if t449 = true then (some false) else (some false)) = some r := H
   have A4794 := Aside0.mk A47940
   clear A47940
   by_cases c4795 : t449 = true
   ·
    subst c4795
    have H1 : (some false) = some r := by rw [if_pos rfl] at H; exact H
    clear H
    have H := H1
    clear H1
    exact absurd ((Option.some.inj H).trans hr) (by decide)
   ·
    replace c4795 := Bool.eq_false_iff.mpr c4795
    subst c4795
    have H1 : (some false) = some r := by rw [if_neg (show ¬ (false = true) by decide)] at H; exact H
    clear H
    have H := H1
    clear H1
    exact absurd ((Option.some.inj H).trans hr) (by decide)

end Go.Proofs.YtagdmgjdhbmaiaaDoor.R

/- Contracts of Go functions and what they come to, over the translation of this seat: made by a program of this session (print2.py). -/
import Derived.Test.YtdigdbbbjeelcaaDoorRx0
import Derived.Test.YtdigdbbbjeelcaaDoorRx3
import Derived.Test.YtdigdbbbjeelcaaDoorRx6
import Derived.Test.YtdigdbbbjeelcaaDoorRx7
namespace Go.Proofs.YtdigdbbbjeelcaaDoor.R
open Go.RowKit Go.Proofs.YtdigdbbbjeelcaaDoor.Co Go.Proofs.YtdigdbbbjeelcaaDoor.Ret Go.Proofs.YtdigdbbbjeelcaaDoor.Plain Go.Proofs.YtdigdbbbjeelcaaDoor.Box Go.Proofs.YtdigdbbbjeelcaaDoorW.PrintWords Go.Proofs.YtdigdbbbjeelcaaDoorW.PrintLast Go.Proofs.YtdigdbbbjeelcaaDoorW.PrintMore
attribute [local go_sem] max2_int min2_int max_two min_two max_three min_three max_four min_four   -- for this text's walks alone
set_option linter.unusedVariables false
set_option linter.unusedSimpArgs false

/-! ### millhandlaw22_KeysNames: function 5 -/
def millhandlaw22_KeysNames.f (k : Nat)  : Option (Bool) := (keys_Name.f k (⟨#[97]⟩ : ByteArray)).bind fun bt220 => ((keys_Event.f k 0).bind fun bt222 => ((keys_Run.f k 7).bind fun bt224 => ((keys_Of.f k bt224.1).bind fun bt226 => ((keys_Range.f k 2).bind fun bt230 => ((keys_Range.f k 5).bind fun bt233 => ((keys_Of.f k (⟨#[]⟩ : ByteArray)).bind fun bt236 => ((keys_Name.f k (⟨#[]⟩ : ByteArray)).bind fun bt240 => ((keys_Head.f k).bind fun t242 => (if t242.toList = (strOfNums (([2, 104, 0, 0] : List Int))).toList then (if bt220.1.toList = (strOfNums (([2, 107, 0, 0, 2, 97, 0, 0] : List Int))).toList then (if bt220.2 = 0 then (if bt222.2 = 2 then (if bt226.1 = 4 then (if bt226.2.1 = 7 then (if bt226.2.2.1.toList = ([] : List UInt8) then ((millhandlaw22_alive.f k).bind fun t249 => (if t249 = true then (if bt226.2.2.2 = 0 then (if bt230.1.toList = (strOfNums (([2, 104, 0, 0] : List Int))).toList then (if bt230.2.1.toList = (strOfNums (([2, 104, 0, 1] : List Int))).toList then (if bt230.2.2 = 0 then (if bt233.2.2 = 2 then (if bt236.2.2.2 = 8 then (some (bt240.2 == 3)) else (some false)) else (some false)) else (some false)) else (some false)) else (some false)) else (some false)) else (some false))) else ((millhandlaw22_alive.f k).bind fun t256 => (if t256 = true then (some false) else (some false)))) else ((millhandlaw22_alive.f k).bind fun t257 => (if t257 = true then (some false) else (some false)))) else ((millhandlaw22_alive.f k).bind fun t258 => (if t258 = true then (some false) else (some false)))) else ((millhandlaw22_alive.f k).bind fun t259 => (if t259 = true then (some false) else (some false)))) else ((millhandlaw22_alive.f k).bind fun t260 => (if t260 = true then (some false) else (some false)))) else ((millhandlaw22_alive.f k).bind fun t261 => (if t261 = true then (some false) else (some false)))) else ((millhandlaw22_alive.f k).bind fun t262 => (if t262 = true then (some false) else (some false))))))))))))
theorem millhandlaw22_KeysNames.mono : ∀ k, LeO (millhandlaw22_KeysNames.f k ) (millhandlaw22_KeysNames.f (k + 1) ) := by
 intro  k
 unfold millhandlaw22_KeysNames.f
 repeat' first
   | (with_reducible exact keys_Event.mono _ _)
   | (with_reducible exact keys_Head.mono _)
   | (with_reducible exact keys_Name.mono _ _)
   | (with_reducible exact keys_Of.mono _ _)
   | (with_reducible exact keys_Range.mono _ _)
   | (with_reducible exact keys_Run.mono _ _)
   | (with_reducible exact millhandlaw22_alive.mono _)
   | (with_reducible exact LeO.refl _)
   | (with_reducible exact LeO.none _)
   | (with_reducible refine LeO.ite ?_ ?_)
   | (with_reducible refine LeO.bind ?_ (fun _ => ?_))
   | exact keys_Event.mono _ _
   | exact keys_Head.mono _
   | exact keys_Name.mono _ _
   | exact keys_Of.mono _ _
   | exact keys_Range.mono _ _
   | exact keys_Run.mono _ _
   | exact millhandlaw22_alive.mono _
   | exact LeO.none _
   | refine LeO.ite ?_ ?_
   | refine LeO.bind ?_ (fun _ => ?_)
def millhandlaw22_KeysNames.T9 : Bool × List (List Nat × List Nat) := (true, [([], []), ([], []), ([1], [1]), ([0, 2], [0, 2]), ([3, 0], [3]), ([4], [4]), ([4], [4]), ([6, 4], [4, 6]), ([5, 7, 4], [4, 5, 7]), ([4, 8], [4, 8]), ([9, 4], [9]), ([10], [10]), ([11, 10], [10, 11]), ([10, 12], [10, 12]), ([13, 10], [13]), ([14], [14]), ([15, 14], [14, 15]), ([14, 16], [14, 16]), ([17, 14], [17]), ([18], [18]), ([19, 18], [18, 19]), ([18, 20], [18, 20]), ([21, 18], [21]), ([22], [22]), ([23, 22], [22, 23]), ([22, 24], [22, 24]), ([25, 22], [25]), ([26], [26]), ([27, 26], [26, 27]), ([26, 28], [26, 28]), ([29, 26], [29]), ([30], [30]), ([31, 30], [30, 31]), ([30, 32], [30, 32]), ([33, 30, 0, 1, 2, 3, 4, 5, 6, 7, 8, 9, 10, 11, 12, 13, 14, 15, 16, 17, 18, 19, 20, 21, 22, 23, 24, 25, 26, 27, 28, 29, 30, 31, 32, 33], [33])])
def millhandlaw22_KeysNames.B9 : List Nat := [0, 0, 2, 7, 15, 31, 31, 95, 255, 511, 1023, 2047, 4095, 8191, 16383, 32767, 65535, 131071, 262143, 524287, 1048575, 2097151, 4194303, 8388607, 16777215, 33554431, 67108863, 134217727, 268435455, 536870911, 1073741823, 2147483647, 4294967295, 8589934591, 17179869183]
theorem millhandlaw22_KeysNames.tab9 : rtab .any (opsOf Tryd.f5 9) = millhandlaw22_KeysNames.T9 := by kernel_rfl
theorem millhandlaw22_KeysNames.bits9 : waitsOk millhandlaw22_KeysNames.T9.2 millhandlaw22_KeysNames.B9 = true := by kernel_rfl
set_option maxHeartbeats 8000000 in
set_option maxRecDepth 100000 in
theorem millhandlaw22_KeysNames.calls (k : Nat)  (r : Bool) (w : World) (h : millhandlaw22_KeysNames.f k  = some r) (hr : r = true) :
  Calls Tryd.prog 5 #[] w fun e w' => e = .returned (.bool r) ∧ Below w.heap.size w w' := by
 have HB := Aside0.mk (Below.refl w.heap.size w)
 have H : ((keys_Name.f k (⟨#[97]⟩ : ByteArray)).bind fun bt220 => ((keys_Event.f k 0).bind fun bt222 => ((keys_Run.f k 7).bind fun bt224 => ((keys_Of.f k bt224.1).bind fun bt226 => ((keys_Range.f k 2).bind fun bt230 => ((keys_Range.f k 5).bind fun bt233 => ((keys_Of.f k (⟨#[]⟩ : ByteArray)).bind fun bt236 => ((keys_Name.f k (⟨#[]⟩ : ByteArray)).bind fun bt240 => ((keys_Head.f k).bind fun t242 => (if t242.toList = (strOfNums (([2, 104, 0, 0] : List Int))).toList then (if bt220.1.toList = (strOfNums (([2, 107, 0, 0, 2, 97, 0, 0] : List Int))).toList then (if bt220.2 = 0 then (if bt222.2 = 2 then (if bt226.1 = 4 then (if bt226.2.1 = 7 then (if bt226.2.2.1.toList = ([] : List UInt8) then ((millhandlaw22_alive.f k).bind fun t249 => (if t249 = true then (if bt226.2.2.2 = 0 then (if bt230.1.toList = (strOfNums (([2, 104, 0, 0] : List Int))).toList then (if bt230.2.1.toList = (strOfNums (([2, 104, 0, 1] : List Int))).toList then (if bt230.2.2 = 0 then (if bt233.2.2 = 2 then (if bt236.2.2.2 = 8 then (some (bt240.2 == 3)) else (some false)) else (some false)) else (some false)) else (some false)) else (some false)) else (some false)) else (some false))) else ((millhandlaw22_alive.f k).bind fun t256 => (if t256 = true then (some false) else (some false)))) else ((millhandlaw22_alive.f k).bind fun t257 => (if t257 = true then (some false) else (some false)))) else ((millhandlaw22_alive.f k).bind fun t258 => (if t258 = true then (some false) else (some false)))) else ((millhandlaw22_alive.f k).bind fun t259 => (if t259 = true then (some false) else (some false)))) else ((millhandlaw22_alive.f k).bind fun t260 => (if t260 = true then (some false) else (some false)))) else ((millhandlaw22_alive.f k).bind fun t261 => (if t261 = true then (some false) else (some false)))) else ((millhandlaw22_alive.f k).bind fun t262 => (if t262 = true then (some false) else (some false))))))))))))) = some r := h
 clear h
 replace H := Option.bind_eq_some_iff.mp H
 obtain ⟨⟨t220, t221⟩, A10, H⟩ := H
 replace H : ((keys_Event.f k 0).bind fun bt222 => ((keys_Run.f k 7).bind fun bt224 => ((keys_Of.f k bt224.1).bind fun bt226 => ((keys_Range.f k 2).bind fun bt230 => ((keys_Range.f k 5).bind fun bt233 => ((keys_Of.f k (⟨#[]⟩ : ByteArray)).bind fun bt236 => ((keys_Name.f k (⟨#[]⟩ : ByteArray)).bind fun bt240 => ((keys_Head.f k).bind fun t242 => (if t242.toList = (strOfNums (([2, 104, 0, 0] : List Int))).toList then (if t220.toList = (strOfNums (([2, 107, 0, 0, 2, 97, 0, 0] : List Int))).toList then (if t221 = 0 then (if bt222.2 = 2 then (if bt226.1 = 4 then (if bt226.2.1 = 7 then (if bt226.2.2.1.toList = ([] : List UInt8) then ((millhandlaw22_alive.f k).bind fun t249 => (if t249 = true then (if bt226.2.2.2 = 0 then (if bt230.1.toList = (strOfNums (([2, 104, 0, 0] : List Int))).toList then (if bt230.2.1.toList = (strOfNums (([2, 104, 0, 1] : List Int))).toList then (if bt230.2.2 = 0 then (if bt233.2.2 = 2 then (if bt236.2.2.2 = 8 then (some (bt240.2 == 3)) else (some false)) else (some false)) else (some false)) else (some false)) else (some false)) else (some false)) else (some false))) else ((millhandlaw22_alive.f k).bind fun t256 => (if t256 = true then (some false) else (some false)))) else ((millhandlaw22_alive.f k).bind fun t257 => (if t257 = true then (some false) else (some false)))) else ((millhandlaw22_alive.f k).bind fun t258 => (if t258 = true then (some false) else (some false)))) else ((millhandlaw22_alive.f k).bind fun t259 => (if t259 = true then (some false) else (some false)))) else ((millhandlaw22_alive.f k).bind fun t260 => (if t260 = true then (some false) else (some false)))) else ((millhandlaw22_alive.f k).bind fun t261 => (if t261 = true then (some false) else (some false)))) else ((millhandlaw22_alive.f k).bind fun t262 => (if t262 = true then (some false) else (some false)))))))))))) = some r := H
 have A1 := Aside0.mk A10
 clear A10
 replace H := Option.bind_eq_some_iff.mp H
 obtain ⟨⟨t222, t223⟩, A20, H⟩ := H
 replace H : ((keys_Run.f k 7).bind fun bt224 => ((keys_Of.f k bt224.1).bind fun bt226 => ((keys_Range.f k 2).bind fun bt230 => ((keys_Range.f k 5).bind fun bt233 => ((keys_Of.f k (⟨#[]⟩ : ByteArray)).bind fun bt236 => ((keys_Name.f k (⟨#[]⟩ : ByteArray)).bind fun bt240 => ((keys_Head.f k).bind fun t242 => (if t242.toList = (strOfNums (([2, 104, 0, 0] : List Int))).toList then (if t220.toList = (strOfNums (([2, 107, 0, 0, 2, 97, 0, 0] : List Int))).toList then (if t221 = 0 then (if t223 = 2 then (if bt226.1 = 4 then (if bt226.2.1 = 7 then (if bt226.2.2.1.toList = ([] : List UInt8) then ((millhandlaw22_alive.f k).bind fun t249 => (if t249 = true then (if bt226.2.2.2 = 0 then (if bt230.1.toList = (strOfNums (([2, 104, 0, 0] : List Int))).toList then (if bt230.2.1.toList = (strOfNums (([2, 104, 0, 1] : List Int))).toList then (if bt230.2.2 = 0 then (if bt233.2.2 = 2 then (if bt236.2.2.2 = 8 then (some (bt240.2 == 3)) else (some false)) else (some false)) else (some false)) else (some false)) else (some false)) else (some false)) else (some false))) else ((millhandlaw22_alive.f k).bind fun t256 => (if t256 = true then (some false) else (some false)))) else ((millhandlaw22_alive.f k).bind fun t257 => (if t257 = true then (some false) else (some false)))) else ((millhandlaw22_alive.f k).bind fun t258 => (if t258 = true then (some false) else (some false)))) else ((millhandlaw22_alive.f k).bind fun t259 => (if t259 = true then (some false) else (some false)))) else ((millhandlaw22_alive.f k).bind fun t260 => (if t260 = true then (some false) else (some false)))) else ((millhandlaw22_alive.f k).bind fun t261 => (if t261 = true then (some false) else (some false)))) else ((millhandlaw22_alive.f k).bind fun t262 => (if t262 = true then (some false) else (some false))))))))))) = some r := H
 have A2 := Aside0.mk A20
 clear A20
 replace H := Option.bind_eq_some_iff.mp H
 obtain ⟨⟨t224, t225⟩, A30, H⟩ := H
 replace H : ((keys_Of.f k t224).bind fun bt226 => ((keys_Range.f k 2).bind fun bt230 => ((keys_Range.f k 5).bind fun bt233 => ((keys_Of.f k (⟨#[]⟩ : ByteArray)).bind fun bt236 => ((keys_Name.f k (⟨#[]⟩ : ByteArray)).bind fun bt240 => ((keys_Head.f k).bind fun t242 => (if t242.toList = (strOfNums (([2, 104, 0, 0] : List Int))).toList then (if t220.toList = (strOfNums (([2, 107, 0, 0, 2, 97, 0, 0] : List Int))).toList then (if t221 = 0 then (if t223 = 2 then (if bt226.1 = 4 then (if bt226.2.1 = 7 then (if bt226.2.2.1.toList = ([] : List UInt8) then ((millhandlaw22_alive.f k).bind fun t249 => (if t249 = true then (if bt226.2.2.2 = 0 then (if bt230.1.toList = (strOfNums (([2, 104, 0, 0] : List Int))).toList then (if bt230.2.1.toList = (strOfNums (([2, 104, 0, 1] : List Int))).toList then (if bt230.2.2 = 0 then (if bt233.2.2 = 2 then (if bt236.2.2.2 = 8 then (some (bt240.2 == 3)) else (some false)) else (some false)) else (some false)) else (some false)) else (some false)) else (some false)) else (some false))) else ((millhandlaw22_alive.f k).bind fun t256 => (if t256 = true then (some false) else (some false)))) else ((millhandlaw22_alive.f k).bind fun t257 => (if t257 = true then (some false) else (some false)))) else ((millhandlaw22_alive.f k).bind fun t258 => (if t258 = true then (some false) else (some false)))) else ((millhandlaw22_alive.f k).bind fun t259 => (if t259 = true then (some false) else (some false)))) else ((millhandlaw22_alive.f k).bind fun t260 => (if t260 = true then (some false) else (some false)))) else ((millhandlaw22_alive.f k).bind fun t261 => (if t261 = true then (some false) else (some false)))) else ((millhandlaw22_alive.f k).bind fun t262 => (if t262 = true then (some false) else (some false)))))))))) = some r := H
 have A3 := Aside0.mk A30
 clear A30
 replace H := Option.bind_eq_some_iff.mp H
 obtain ⟨⟨t226, t227, t228, t229⟩, A40, H⟩ := H
 replace H : ((keys_Range.f k 2).bind fun bt230 => ((keys_Range.f k 5).bind fun bt233 => ((keys_Of.f k (⟨#[]⟩ : ByteArray)).bind fun bt236 => ((keys_Name.f k (⟨#[]⟩ : ByteArray)).bind fun bt240 => ((keys_Head.f k).bind fun t242 => (if t242.toList = (strOfNums (([2, 104, 0, 0] : List Int))).toList then (if t220.toList = (strOfNums (([2, 107, 0, 0, 2, 97, 0, 0] : List Int))).toList then (if t221 = 0 then (if t223 = 2 then (if t226 = 4 then (if t227 = 7 then (if t228.toList = ([] : List UInt8) then ((millhandlaw22_alive.f k).bind fun t249 => (if t249 = true then (if t229 = 0 then (if bt230.1.toList = (strOfNums (([2, 104, 0, 0] : List Int))).toList then (if bt230.2.1.toList = (strOfNums (([2, 104, 0, 1] : List Int))).toList then (if bt230.2.2 = 0 then (if bt233.2.2 = 2 then (if bt236.2.2.2 = 8 then (some (bt240.2 == 3)) else (some false)) else (some false)) else (some false)) else (some false)) else (some false)) else (some false)) else (some false))) else ((millhandlaw22_alive.f k).bind fun t256 => (if t256 = true then (some false) else (some false)))) else ((millhandlaw22_alive.f k).bind fun t257 => (if t257 = true then (some false) else (some false)))) else ((millhandlaw22_alive.f k).bind fun t258 => (if t258 = true then (some false) else (some false)))) else ((millhandlaw22_alive.f k).bind fun t259 => (if t259 = true then (some false) else (some false)))) else ((millhandlaw22_alive.f k).bind fun t260 => (if t260 = true then (some false) else (some false)))) else ((millhandlaw22_alive.f k).bind fun t261 => (if t261 = true then (some false) else (some false)))) else ((millhandlaw22_alive.f k).bind fun t262 => (if t262 = true then (some false) else (some false))))))))) = some r := H
 have A4 := Aside0.mk A40
 clear A40
 replace H := Option.bind_eq_some_iff.mp H
 obtain ⟨⟨t230, t231, t232⟩, A50, H⟩ := H
 replace H : ((keys_Range.f k 5).bind fun bt233 => ((keys_Of.f k (⟨#[]⟩ : ByteArray)).bind fun bt236 => ((keys_Name.f k (⟨#[]⟩ : ByteArray)).bind fun bt240 => ((keys_Head.f k).bind fun t242 => (if t242.toList = (strOfNums (([2, 104, 0, 0] : List Int))).toList then (if t220.toList = (strOfNums (([2, 107, 0, 0, 2, 97, 0, 0] : List Int))).toList then (if t221 = 0 then (if t223 = 2 then (if t226 = 4 then (if t227 = 7 then (if t228.toList = ([] : List UInt8) then ((millhandlaw22_alive.f k).bind fun t249 => (if t249 = true then (if t229 = 0 then (if t230.toList = (strOfNums (([2, 104, 0, 0] : List Int))).toList then (if t231.toList = (strOfNums (([2, 104, 0, 1] : List Int))).toList then (if t232 = 0 then (if bt233.2.2 = 2 then (if bt236.2.2.2 = 8 then (some (bt240.2 == 3)) else (some false)) else (some false)) else (some false)) else (some false)) else (some false)) else (some false)) else (some false))) else ((millhandlaw22_alive.f k).bind fun t256 => (if t256 = true then (some false) else (some false)))) else ((millhandlaw22_alive.f k).bind fun t257 => (if t257 = true then (some false) else (some false)))) else ((millhandlaw22_alive.f k).bind fun t258 => (if t258 = true then (some false) else (some false)))) else ((millhandlaw22_alive.f k).bind fun t259 => (if t259 = true then (some false) else (some false)))) else ((millhandlaw22_alive.f k).bind fun t260 => (if t260 = true then (some false) else (some false)))) else ((millhandlaw22_alive.f k).bind fun t261 => (if t261 = true then (some false) else (some false)))) else ((millhandlaw22_alive.f k).bind fun t262 => (if t262 = true then (some false) else (some false)))))))) = some r := H
 have A5 := Aside0.mk A50
 clear A50
 replace H := Option.bind_eq_some_iff.mp H
 obtain ⟨⟨t233, t234, t235⟩, A60, H⟩ := H
 replace H : ((keys_Of.f k (⟨#[]⟩ : ByteArray)).bind fun bt236 => ((keys_Name.f k (⟨#[]⟩ : ByteArray)).bind fun bt240 => ((keys_Head.f k).bind fun t242 => (if t242.toList = (strOfNums (([2, 104, 0, 0] : List Int))).toList then (if t220.toList = (strOfNums (([2, 107, 0, 0, 2, 97, 0, 0] : List Int))).toList then (if t221 = 0 then (if t223 = 2 then (if t226 = 4 then (if t227 = 7 then (if t228.toList = ([] : List UInt8) then ((millhandlaw22_alive.f k).bind fun t249 => (if t249 = true then (if t229 = 0 then (if t230.toList = (strOfNums (([2, 104, 0, 0] : List Int))).toList then (if t231.toList = (strOfNums (([2, 104, 0, 1] : List Int))).toList then (if t232 = 0 then (if t235 = 2 then (if bt236.2.2.2 = 8 then (some (bt240.2 == 3)) else (some false)) else (some false)) else (some false)) else (some false)) else (some false)) else (some false)) else (some false))) else ((millhandlaw22_alive.f k).bind fun t256 => (if t256 = true then (some false) else (some false)))) else ((millhandlaw22_alive.f k).bind fun t257 => (if t257 = true then (some false) else (some false)))) else ((millhandlaw22_alive.f k).bind fun t258 => (if t258 = true then (some false) else (some false)))) else ((millhandlaw22_alive.f k).bind fun t259 => (if t259 = true then (some false) else (some false)))) else ((millhandlaw22_alive.f k).bind fun t260 => (if t260 = true then (some false) else (some false)))) else ((millhandlaw22_alive.f k).bind fun t261 => (if t261 = true then (some false) else (some false)))) else ((millhandlaw22_alive.f k).bind fun t262 => (if t262 = true then (some false) else (some false))))))) = some r := H
 have A6 := Aside0.mk A60
 clear A60
 replace H := Option.bind_eq_some_iff.mp H
 obtain ⟨⟨t236, t237, t238, t239⟩, A70, H⟩ := H
 replace H : ((keys_Name.f k (⟨#[]⟩ : ByteArray)).bind fun bt240 => ((keys_Head.f k).bind fun t242 => (if t242.toList = (strOfNums (([2, 104, 0, 0] : List Int))).toList then (if t220.toList = (strOfNums (([2, 107, 0, 0, 2, 97, 0, 0] : List Int))).toList then (if t221 = 0 then (if t223 = 2 then (if t226 = 4 then (if t227 = 7 then (if t228.toList = ([] : List UInt8) then ((millhandlaw22_alive.f k).bind fun t249 => (if t249 = true then (if t229 = 0 then (if t230.toList = (strOfNums (([2, 104, 0, 0] : List Int))).toList then (if t231.toList = (strOfNums (([2, 104, 0, 1] : List Int))).toList then (if t232 = 0 then (if t235 = 2 then (if t239 = 8 then (some (bt240.2 == 3)) else (some false)) else (some false)) else (some false)) else (some false)) else (some false)) else (some false)) else (some false))) else ((millhandlaw22_alive.f k).bind fun t256 => (if t256 = true then (some false) else (some false)))) else ((millhandlaw22_alive.f k).bind fun t257 => (if t257 = true then (some false) else (some false)))) else ((millhandlaw22_alive.f k).bind fun t258 => (if t258 = true then (some false) else (some false)))) else ((millhandlaw22_alive.f k).bind fun t259 => (if t259 = true then (some false) else (some false)))) else ((millhandlaw22_alive.f k).bind fun t260 => (if t260 = true then (some false) else (some false)))) else ((millhandlaw22_alive.f k).bind fun t261 => (if t261 = true then (some false) else (some false)))) else ((millhandlaw22_alive.f k).bind fun t262 => (if t262 = true then (some false) else (some false)))))) = some r := H
 have A7 := Aside0.mk A70
 clear A70
 replace H := Option.bind_eq_some_iff.mp H
 obtain ⟨⟨t240, t241⟩, A80, H⟩ := H
 replace H : ((keys_Head.f k).bind fun t242 => (if t242.toList = (strOfNums (([2, 104, 0, 0] : List Int))).toList then (if t220.toList = (strOfNums (([2, 107, 0, 0, 2, 97, 0, 0] : List Int))).toList then (if t221 = 0 then (if t223 = 2 then (if t226 = 4 then (if t227 = 7 then (if t228.toList = ([] : List UInt8) then ((millhandlaw22_alive.f k).bind fun t249 => (if t249 = true then (if t229 = 0 then (if t230.toList = (strOfNums (([2, 104, 0, 0] : List Int))).toList then (if t231.toList = (strOfNums (([2, 104, 0, 1] : List Int))).toList then (if t232 = 0 then (if t235 = 2 then (if t239 = 8 then (some (t241 == 3)) else (some false)) else (some false)) else (some false)) else (some false)) else (some false)) else (some false)) else (some false))) else ((millhandlaw22_alive.f k).bind fun t256 => (if t256 = true then (some false) else (some false)))) else ((millhandlaw22_alive.f k).bind fun t257 => (if t257 = true then (some false) else (some false)))) else ((millhandlaw22_alive.f k).bind fun t258 => (if t258 = true then (some false) else (some false)))) else ((millhandlaw22_alive.f k).bind fun t259 => (if t259 = true then (some false) else (some false)))) else ((millhandlaw22_alive.f k).bind fun t260 => (if t260 = true then (some false) else (some false)))) else ((millhandlaw22_alive.f k).bind fun t261 => (if t261 = true then (some false) else (some false)))) else ((millhandlaw22_alive.f k).bind fun t262 => (if t262 = true then (some false) else (some false))))) = some r := H
 have A8 := Aside0.mk A80
 clear A80
 replace H := Option.bind_eq_some_iff.mp H
 obtain ⟨t242, A90, H⟩ := H
 replace H : (if t242.toList = (strOfNums (([2, 104, 0, 0] : List Int))).toList then (if t220.toList = (strOfNums (([2, 107, 0, 0, 2, 97, 0, 0] : List Int))).toList then (if t221 = 0 then (if t223 = 2 then (if t226 = 4 then (if t227 = 7 then (if t228.toList = ([] : List UInt8) then ((millhandlaw22_alive.f k).bind fun t249 => (if t249 = true then (if t229 = 0 then (if t230.toList = (strOfNums (([2, 104, 0, 0] : List Int))).toList then (if t231.toList = (strOfNums (([2, 104, 0, 1] : List Int))).toList then (if t232 = 0 then (if t235 = 2 then (if t239 = 8 then (some (t241 == 3)) else (some false)) else (some false)) else (some false)) else (some false)) else (some false)) else (some false)) else (some false))) else ((millhandlaw22_alive.f k).bind fun t256 => (if t256 = true then (some false) else (some false)))) else ((millhandlaw22_alive.f k).bind fun t257 => (if t257 = true then (some false) else (some false)))) else ((millhandlaw22_alive.f k).bind fun t258 => (if t258 = true then (some false) else (some false)))) else ((millhandlaw22_alive.f k).bind fun t259 => (if t259 = true then (some false) else (some false)))) else ((millhandlaw22_alive.f k).bind fun t260 => (if t260 = true then (some false) else (some false)))) else ((millhandlaw22_alive.f k).bind fun t261 => (if t261 = true then (some false) else (some false)))) else ((millhandlaw22_alive.f k).bind fun t262 => (if t262 = true then (some false) else (some false)))) = some r := H
 have A9 := Aside0.mk A90
 clear A90
 obtain ⟨y243, hy243⟩ : ∃ y_ : List Int, y_ = (([2, 104, 0, 0] : List Int)) := ⟨_, rfl⟩
 replace H : (if t242.toList = (strOfNums y243).toList then (if t220.toList = (strOfNums (([2, 107, 0, 0, 2, 97, 0, 0] : List Int))).toList then (if t221 = 0 then (if t223 = 2 then (if t226 = 4 then (if t227 = 7 then (if t228.toList = ([] : List UInt8) then ((millhandlaw22_alive.f k).bind fun t249 => (if t249 = true then (if t229 = 0 then (if t230.toList = (strOfNums (([2, 104, 0, 0] : List Int))).toList then (if t231.toList = (strOfNums (([2, 104, 0, 1] : List Int))).toList then (if t232 = 0 then (if t235 = 2 then (if t239 = 8 then (some (t241 == 3)) else (some false)) else (some false)) else (some false)) else (some false)) else (some false)) else (some false)) else (some false))) else ((millhandlaw22_alive.f k).bind fun t256 => (if t256 = true then (some false) else (some false)))) else ((millhandlaw22_alive.f k).bind fun t257 => (if t257 = true then (some false) else (some false)))) else ((millhandlaw22_alive.f k).bind fun t258 => (if t258 = true then (some false) else (some false)))) else ((millhandlaw22_alive.f k).bind fun t259 => (if t259 = true then (some false) else (some false)))) else ((millhandlaw22_alive.f k).bind fun t260 => (if t260 = true then (some false) else (some false)))) else ((millhandlaw22_alive.f k).bind fun t261 => (if t261 = true then (some false) else (some false)))) else ((millhandlaw22_alive.f k).bind fun t262 => (if t262 = true then (some false) else (some false)))) = some r := by first | (rw [hy243]; with_reducible exact H) | (have H2_ := (Option.bind_some _ _).symm.trans H; rw [hy243]; with_reducible exact H2_) | (have H2_ := (Option.bind_some _ _).symm.trans H; with_reducible exact H2_) | with_reducible exact H | (rw [hy243]; exact H) | exact H
 have Ny243 := Aside0.mk hy243
 clear hy243
 by_cases c10 : t242.toList = (strOfNums y243).toList
 ·
  rw [if_pos c10] at H
  have c10b0 : (t242.toList == (strOfNums y243).toList) = true := beq_iff_eq.mpr c10
  have c10b1 : (t242.toList != (strOfNums y243).toList) = false := bne_eq_false_iff_eq.mpr c10
  clear c10
  obtain ⟨y246, hy246⟩ : ∃ y_ : List Int, y_ = (([2, 107, 0, 0, 2, 97, 0, 0] : List Int)) := ⟨_, rfl⟩
  replace H : (if t220.toList = (strOfNums y246).toList then (if t221 = 0 then (if t223 = 2 then (if t226 = 4 then (if t227 = 7 then (if t228.toList = ([] : List UInt8) then ((millhandlaw22_alive.f k).bind fun t249 => (if t249 = true then (if t229 = 0 then (if t230.toList = (strOfNums (([2, 104, 0, 0] : List Int))).toList then (if t231.toList = (strOfNums (([2, 104, 0, 1] : List Int))).toList then (if t232 = 0 then (if t235 = 2 then (if t239 = 8 then (some (t241 == 3)) else (some false)) else (some false)) else (some false)) else (some false)) else (some false)) else (some false)) else (some false))) else ((millhandlaw22_alive.f k).bind fun t256 => (if t256 = true then (some false) else (some false)))) else ((millhandlaw22_alive.f k).bind fun t257 => (if t257 = true then (some false) else (some false)))) else ((millhandlaw22_alive.f k).bind fun t258 => (if t258 = true then (some false) else (some false)))) else ((millhandlaw22_alive.f k).bind fun t259 => (if t259 = true then (some false) else (some false)))) else ((millhandlaw22_alive.f k).bind fun t260 => (if t260 = true then (some false) else (some false)))) else ((millhandlaw22_alive.f k).bind fun t261 => (if t261 = true then (some false) else (some false)))) = some r := by first | (rw [hy246]; with_reducible exact H) | (have H2_ := (Option.bind_some _ _).symm.trans H; rw [hy246]; with_reducible exact H2_) | (have H2_ := (Option.bind_some _ _).symm.trans H; with_reducible exact H2_) | with_reducible exact H | (rw [hy246]; exact H) | exact H
  have Ny246 := Aside0.mk hy246
  clear hy246
  by_cases c11 : t220.toList = (strOfNums y246).toList
  ·
   rw [if_pos c11] at H
   have c11b0 : (t220.toList == (strOfNums y246).toList) = true := beq_iff_eq.mpr c11
   have c11b1 : (t220.toList != (strOfNums y246).toList) = false := bne_eq_false_iff_eq.mpr c11
   clear c11
   by_cases c12 : t221 = 0
   ·
    rw [if_pos c12] at H
    have c12b0 : (t221 == 0) = true := beq_iff_eq.mpr c12
    have c12b1 : (t221 != 0) = false := bne_eq_false_iff_eq.mpr c12
    clear c12
    by_cases c13 : t223 = 2
    ·
     rw [if_pos c13] at H
     have c13b0 : (t223 == 2) = true := beq_iff_eq.mpr c13
     have c13b1 : (t223 != 2) = false := bne_eq_false_iff_eq.mpr c13
     clear c13
     by_cases c14 : t226 = 4
     ·
      rw [if_pos c14] at H
      have c14b0 : (t226 == 4) = true := beq_iff_eq.mpr c14
      have c14b1 : (t226 != 4) = false := bne_eq_false_iff_eq.mpr c14
      clear c14
      by_cases c15 : t227 = 7
      ·
       rw [if_pos c15] at H
       have c15b0 : (t227 == 7) = true := beq_iff_eq.mpr c15
       have c15b1 : (t227 != 7) = false := bne_eq_false_iff_eq.mpr c15
       clear c15
       by_cases c16 : t228.toList = ([] : List UInt8)
       ·
        rw [if_pos c16] at H
        have c16b0 : (t228.toList == ([] : List UInt8)) = true := beq_iff_eq.mpr c16
        have c16b1 : (t228.toList != ([] : List UInt8)) = false := bne_eq_false_iff_eq.mpr c16
        clear c16
        replace H := Option.bind_eq_some_iff.mp H
        obtain ⟨t249, A170, H⟩ := H
        replace H : (if t249 = true then (if t229 = 0 then (if t230.toList = (strOfNums (([2, 104, 0, 0] : List Int))).toList then (if t231.toList = (strOfNums (([2, 104, 0, 1] : List Int))).toList then (if t232 = 0 then (if t235 = 2 then (if t239 = 8 then (some (t241 == 3)) else (some false)) else (some false)) else (some false)) else (some false)) else (some false)) else (some false)) else (some false)) = some r := H
        have A17 := Aside0.mk A170
        clear A170
        by_cases c18 : t249 = true
        ·
         subst c18
         have H1 : (if t229 = 0 then (if t230.toList = (strOfNums (([2, 104, 0, 0] : List Int))).toList then (if t231.toList = (strOfNums (([2, 104, 0, 1] : List Int))).toList then (if t232 = 0 then (if t235 = 2 then (if t239 = 8 then (some (t241 == 3)) else (some false)) else (some false)) else (some false)) else (some false)) else (some false)) else (some false)) = some r := by rw [if_pos rfl] at H; exact H
         clear H
         have H := H1
         clear H1
         by_cases c19 : t229 = 0
         ·
          rw [if_pos c19] at H
          have c19b0 : (t229 == 0) = true := beq_iff_eq.mpr c19
          have c19b1 : (t229 != 0) = false := bne_eq_false_iff_eq.mpr c19
          clear c19
          obtain ⟨y250, hy250⟩ : ∃ y_ : List Int, y_ = (([2, 104, 0, 0] : List Int)) := ⟨_, rfl⟩
          replace H : (if t230.toList = (strOfNums y250).toList then (if t231.toList = (strOfNums (([2, 104, 0, 1] : List Int))).toList then (if t232 = 0 then (if t235 = 2 then (if t239 = 8 then (some (t241 == 3)) else (some false)) else (some false)) else (some false)) else (some false)) else (some false)) = some r := by first | (rw [hy250]; with_reducible exact H) | (have H2_ := (Option.bind_some _ _).symm.trans H; rw [hy250]; with_reducible exact H2_) | (have H2_ := (Option.bind_some _ _).symm.trans H; with_reducible exact H2_) | with_reducible exact H | (rw [hy250]; exact H) | exact H
          have Ny250 := Aside0.mk hy250
          clear hy250
          by_cases c20 : t230.toList = (strOfNums y250).toList
          ·
           rw [if_pos c20] at H
           have c20b0 : (t230.toList == (strOfNums y250).toList) = true := beq_iff_eq.mpr c20
           have c20b1 : (t230.toList != (strOfNums y250).toList) = false := bne_eq_false_iff_eq.mpr c20
           clear c20
           obtain ⟨y253, hy253⟩ : ∃ y_ : List Int, y_ = (([2, 104, 0, 1] : List Int)) := ⟨_, rfl⟩
           replace H : (if t231.toList = (strOfNums y253).toList then (if t232 = 0 then (if t235 = 2 then (if t239 = 8 then (some (t241 == 3)) else (some false)) else (some false)) else (some false)) else (some false)) = some r := by first | (rw [hy253]; with_reducible exact H) | (have H2_ := (Option.bind_some _ _).symm.trans H; rw [hy253]; with_reducible exact H2_) | (have H2_ := (Option.bind_some _ _).symm.trans H; with_reducible exact H2_) | with_reducible exact H | (rw [hy253]; exact H) | exact H
           have Ny253 := Aside0.mk hy253
           clear hy253
           by_cases c21 : t231.toList = (strOfNums y253).toList
           ·
            rw [if_pos c21] at H
            have c21b0 : (t231.toList == (strOfNums y253).toList) = true := beq_iff_eq.mpr c21
            have c21b1 : (t231.toList != (strOfNums y253).toList) = false := bne_eq_false_iff_eq.mpr c21
            clear c21
            by_cases c22 : t232 = 0
            ·
             rw [if_pos c22] at H
             have c22b0 : (t232 == 0) = true := beq_iff_eq.mpr c22
             have c22b1 : (t232 != 0) = false := bne_eq_false_iff_eq.mpr c22
             clear c22
             by_cases c23 : t235 = 2
             ·
              rw [if_pos c23] at H
              have c23b0 : (t235 == 2) = true := beq_iff_eq.mpr c23
              have c23b1 : (t235 != 2) = false := bne_eq_false_iff_eq.mpr c23
              clear c23
              by_cases c24 : t239 = 8
              ·
               rw [if_pos c24] at H
               have c24b0 : (t239 == 8) = true := beq_iff_eq.mpr c24
               have c24b1 : (t239 != 8) = false := bne_eq_false_iff_eq.mpr c24
               clear c24
               obtain rfl := Option.some.inj H
               go_enter Tryd.func5, Tryd.ntmps5
               try go_wp2_with (first | ((with_reducible refine gate_callee (f := 11) rfl ?_); refine goesL_ (some 25) rfl rfl Tryd.func11 (by kernel_rfl) rfl #[.string (⟨#[97]⟩ : ByteArray)] rfl (by (try simp only [List.map_toArray, List.map_cons, List.map_nil]); first | done | rfl | (simp only [List.length_drop, List.length_take]; rfl)) ?_; (with_reducible refine (keys_Name.calls k (⟨#[97]⟩ : ByteArray) t220 t221 _ A1.out).mono ?_); rintro e w25 ⟨rfl, hb⟩; refine ⟨_, rfl, ?_⟩; have n0_ := Aside0.mk (below_step (by repeat (first | (with_reducible first | exact HB.out | apply below_alloc | apply pw_below_drewN | apply below_drew1) | exact HB.out)) hb); clear HB; have HB := n0_; clear n0_; (try clear hb); (try clear hb2); (try clear hk); (try clear hi)) | ((with_reducible refine gate_callee (f := 10) rfl ?_); refine goesL_ (some 29) rfl rfl Tryd.func10 (by kernel_rfl) rfl #[.int .i64 0] rfl (by (try simp only [List.map_toArray, List.map_cons, List.map_nil]); first | done | rfl | (simp only [List.length_drop, List.length_take]; rfl)) ?_; (with_reducible refine (keys_Event.calls k 0 t222 t223 _ A2.out).mono ?_); rintro e w26 ⟨rfl, hb⟩; refine ⟨_, rfl, ?_⟩; have n0_ := Aside0.mk (below_step (by repeat (first | (with_reducible first | exact HB.out | apply below_alloc | apply pw_below_drewN | apply below_drew1) | exact HB.out)) hb); clear HB; have HB := n0_; clear n0_; (try clear hb); (try clear hb2); (try clear hk); (try clear hi)) | ((with_reducible refine gate_callee (f := 9) rfl ?_); refine goesL_ (some 33) rfl rfl Tryd.func9 (by kernel_rfl) rfl #[.int .i64 7] rfl (by (try simp only [List.map_toArray, List.map_cons, List.map_nil]); first | done | rfl | (simp only [List.length_drop, List.length_take]; rfl)) ?_; (with_reducible refine (keys_Run.calls k 7 t224 t225 _ A3.out).mono ?_); rintro e w27 ⟨rfl, hb⟩; refine ⟨_, rfl, ?_⟩; have n0_ := Aside0.mk (below_step (by repeat (first | (with_reducible first | exact HB.out | apply below_alloc | apply pw_below_drewN | apply below_drew1) | exact HB.out)) hb); clear HB; have HB := n0_; clear n0_; (try clear hb); (try clear hb2); (try clear hk); (try clear hi)) | ((with_reducible refine gate_callee (f := 13) rfl ?_); refine goesL_ (some 38) rfl rfl Tryd.func13 (by kernel_rfl) rfl #[.string t224] rfl (by (try simp only [List.map_toArray, List.map_cons, List.map_nil]); first | done | rfl | (simp only [List.length_drop, List.length_take]; rfl)) ?_; (with_reducible refine (keys_Of.calls k t224 t226 t227 t228 t229 _ A4.out).mono ?_); rintro e w28 ⟨rfl, hb⟩; refine ⟨_, rfl, ?_⟩; have n0_ := Aside0.mk (below_step (by repeat (first | (with_reducible first | exact HB.out | apply below_alloc | apply pw_below_drewN | apply below_drew1) | exact HB.out)) hb); clear HB; have HB := n0_; clear n0_; (try clear hb); (try clear hb2); (try clear hk); (try clear hi)) | ((with_reducible refine gate_callee (f := 15) rfl ?_); refine goesL_ (some 44) rfl rfl Tryd.func15 (by kernel_rfl) rfl #[.int .u8 2] rfl (by (try simp only [List.map_toArray, List.map_cons, List.map_nil]); first | done | rfl | (simp only [List.length_drop, List.length_take]; rfl)) ?_; (with_reducible refine (keys_Range.calls k 2 t230 t231 t232 _ A5.out).mono ?_); rintro e w29 ⟨rfl, hb⟩; refine ⟨_, rfl, ?_⟩; have n0_ := Aside0.mk (below_step (by repeat (first | (with_reducible first | exact HB.out | apply below_alloc | apply pw_below_drewN | apply below_drew1) | exact HB.out)) hb); clear HB; have HB := n0_; clear n0_; (try clear hb); (try clear hb2); (try clear hk); (try clear hi)) | ((with_reducible refine gate_callee (f := 15) rfl ?_); refine goesL_ (some 49) rfl rfl Tryd.func15 (by kernel_rfl) rfl #[.int .u8 5] rfl (by (try simp only [List.map_toArray, List.map_cons, List.map_nil]); first | done | rfl | (simp only [List.length_drop, List.length_take]; rfl)) ?_; (with_reducible refine (keys_Range.calls k 5 t233 t234 t235 _ A6.out).mono ?_); rintro e w30 ⟨rfl, hb⟩; refine ⟨_, rfl, ?_⟩; have n0_ := Aside0.mk (below_step (by repeat (first | (with_reducible first | exact HB.out | apply below_alloc | apply pw_below_drewN | apply below_drew1) | exact HB.out)) hb); clear HB; have HB := n0_; clear n0_; (try clear hb); (try clear hb2); (try clear hk); (try clear hi)) | ((with_reducible refine gate_callee (f := 13) rfl ?_); refine goesL_ (some 54) rfl rfl Tryd.func13 (by kernel_rfl) rfl #[.string (⟨#[]⟩ : ByteArray)] rfl (by (try simp only [List.map_toArray, List.map_cons, List.map_nil]); first | done | rfl | (simp only [List.length_drop, List.length_take]; rfl)) ?_; (with_reducible refine (keys_Of.calls k (⟨#[]⟩ : ByteArray) t236 t237 t238 t239 _ A7.out).mono ?_); rintro e w31 ⟨rfl, hb⟩; refine ⟨_, rfl, ?_⟩; have n0_ := Aside0.mk (below_step (by repeat (first | (with_reducible first | exact HB.out | apply below_alloc | apply pw_below_drewN | apply below_drew1) | exact HB.out)) hb); clear HB; have HB := n0_; clear n0_; (try clear hb); (try clear hb2); (try clear hk); (try clear hi)) | ((with_reducible refine gate_callee (f := 11) rfl ?_); refine goesL_ (some 60) rfl rfl Tryd.func11 (by kernel_rfl) rfl #[.string (⟨#[]⟩ : ByteArray)] rfl (by (try simp only [List.map_toArray, List.map_cons, List.map_nil]); first | done | rfl | (simp only [List.length_drop, List.length_take]; rfl)) ?_; (with_reducible refine (keys_Name.calls k (⟨#[]⟩ : ByteArray) t240 t241 _ A8.out).mono ?_); rintro e w32 ⟨rfl, hb⟩; refine ⟨_, rfl, ?_⟩; have n0_ := Aside0.mk (below_step (by repeat (first | (with_reducible first | exact HB.out | apply below_alloc | apply pw_below_drewN | apply below_drew1) | exact HB.out)) hb); clear HB; have HB := n0_; clear n0_; (try clear hb); (try clear hb2); (try clear hk); (try clear hi)))
               have n0_ := Aside0.mk (below_drew1 HB.out)
               clear HB
               have HB := n0_
               clear n0_
               refine start_ (n := 35) (S := fun w' => True) (ds := []) (b_ 35 0) (by kernel_rfl) rfl rfl trivial (fun hHeld => ?_); refine with_tabW millhandlaw22_KeysNames.tab9 millhandlaw22_KeysNames.bits9 (fun HT_ HW_ => ?_)
               generalize w32.drew = w33 at HB hHeld ⊢
               refine join_ (σ := Value) 32 (b_ 35 7) (fun s_ => [(63, .string t242), (64, s_), (65, .string (strOfNums y243))]) (fun s_ w' => (Kd.R (Kd.int .u8) 5 w' w.heap.size (fun _ => True) s_ y243) ∧ (Below w.heap.size w w')) ?_ ?_
               rotate_left
               ·
                intro hCont
                refine two_ (i := 0) (j := 1) (Ni := some 63) (Nj := some 64) (b_ 35 1) (b_ 35 2) rfl rfl rfl rfl (two_of HT_.out (by kernel_rfl)) (by decide) (by decide) (fun K hK => ?_) (fun K hK => ?_)
                ·
                 skip
                 refine goes_ Tryd.func14 (by kernel_rfl) rfl #[] (by rfl) rfl rfl (by (try simp only [List.map_toArray, List.map_cons, List.map_nil]); first | done | rfl | (simp only [List.length_drop, List.length_take]; rfl)) ?_
                 with_reducible refine (keys_Head.calls k  t242 _ A9.out).mono ?_
                 rintro e w34 ⟨rfl, hb⟩
                 refine ⟨_, rfl, ?_⟩
                 have n0_ := Aside0.mk (below_step (by repeat (first | (with_reducible first | exact HB.out | apply below_alloc | apply pw_below_drewN | apply below_drew1) | exact HB.out)) hb)
                 clear HB
                 have HB := n0_
                 clear n0_
                 (try clear hb)
                 (try clear hb2)
                 (try clear hk)
                 (try clear hi)
                 refine hK.out _ _ trivial (fun hHeld => ?_)
                 clear hK K
                 refine norm_ (a' := ?_) ?_ ?_
                 rotate_left
                 ·
                  show Act.put _ (some 63) _ = _
                  simp only [Act.put, sa_, s0_, s1_, i64_w, i32_w]
                  rfl
                 refine one_ (i := 1) (N := some 64) (b_ 35 3) rfl rfl (one_of HT_.out (by kernel_rfl)) (by decide) (fun K hK => ?_)
                 refine Kd.R_lit_step (Kd.int .u8) _ 5 ?hg (N := 64) ?hd (xs := ([2, 104, 0, 0] : List Int)) (inner := [.int .u8 2, .int .u8 104, .int .u8 0, .int .u8 0]) (ok := fun _ => True) (okp := fun _ => True) ?hr ?hp (fun _ hk => hk) trivial (Below.refl _ _) (Nat.le_refl _) (by simp) ?_; (case hd => rfl); (case hg => rfl); (case hr => first | (go_simp; done) | (go_simp; rfl)); (case hp => exact (Reps.one (show Kd.M (Kd.int .u8) _ _ _ 2 [.int .u8 2] from rfl) (Reps.one (show Kd.M (Kd.int .u8) _ _ _ 104 [.int .u8 104] from rfl) (Reps.one (show Kd.M (Kd.int .u8) _ _ _ 0 [.int .u8 0] from rfl) (Reps.one (show Kd.M (Kd.int .u8) _ _ _ 0 [.int .u8 0] from rfl) (Reps.none _ _))))))
                 intro v244 w35 ho36 hb hg_ hnew_
                 clear hg_ hnew_
                 (first | rw [← Ny243.out] at ho36 | (simp only [Int.reduceToNat] at ho36; rw [← Ny243.out] at ho36))
                 obtain ⟨HO245, HB⟩ := And.intro (Aside0.mk (Kd.R_lower ho36 (below_size (by repeat (first | (with_reducible first | exact HB.out | apply below_alloc | apply pw_below_drewN | apply below_drew1) | exact HB.out))))) (Aside0.mk (below_step (by repeat (first | (with_reducible first | exact HB.out | apply below_alloc | apply pw_below_drewN | apply below_drew1) | exact HB.out)) hb))
                 clear hb ho36
                 refine hK.out _ _ trivial (fun hHeld => ?_)
                 clear hK K
                 refine norm_ (a' := ?_) ?_ ?_
                 rotate_left
                 ·
                  show Act.put _ (some 64) _ = _
                  simp only [Act.put, sa_, s0_, s1_, i64_w, i32_w]
                  rfl
                 refine one_ (i := 2) (N := some 65) (b_ 35 7) rfl rfl (one_of HT_.out (by kernel_rfl)) (by decide) (fun K hK => ?_)
                 have hcv37 := own_string (P := Tryd.prog) Tryd.underlying35 Tryd.underlying5 Tryd.underlying9 (Kd.own_of_R HO245.out)
                 refine value_ (w1 := ?_) (v := ?_) (by rfl) rfl ?_ ?_
                 rotate_left 2
                 ·
                  go_simp
                  constructor
                  ·
                   rfl
                  ·
                   rfl
                 clear hcv37
                 refine hK.out _ _ trivial (fun hHeld => ?_)
                 clear hK K
                 refine norm_ (a' := ?_) ?_ ?_
                 rotate_left
                 ·
                  show Act.put _ (some 65) _ = _
                  simp only [Act.put, sa_, s0_, s1_, i64_w, i32_w]
                  rfl
                 exact norm_ (by simp only [putAll, Act.put, sa_, s0_, s1_]) (hCont (v244) _ ⟨(by (with_reducible repeat (first | apply Kd.R_alloc | apply Kd.R_drewN | apply Kd.R_drew)); exact HO245.out), (by repeat (first | (with_reducible first | exact HB.out | apply below_alloc | apply pw_below_drewN | apply below_drew1) | exact HB.out))⟩)
                ·
                 skip
                 refine Kd.R_lit_step (Kd.int .u8) _ 5 ?hg (N := 64) ?hd (xs := ([2, 104, 0, 0] : List Int)) (inner := [.int .u8 2, .int .u8 104, .int .u8 0, .int .u8 0]) (ok := fun _ => True) (okp := fun _ => True) ?hr ?hp (fun _ hk => hk) trivial (Below.refl _ _) (Nat.le_refl _) (by simp) ?_; (case hd => rfl); (case hg => rfl); (case hr => first | (go_simp; done) | (go_simp; rfl)); (case hp => exact (Reps.one (show Kd.M (Kd.int .u8) _ _ _ 2 [.int .u8 2] from rfl) (Reps.one (show Kd.M (Kd.int .u8) _ _ _ 104 [.int .u8 104] from rfl) (Reps.one (show Kd.M (Kd.int .u8) _ _ _ 0 [.int .u8 0] from rfl) (Reps.one (show Kd.M (Kd.int .u8) _ _ _ 0 [.int .u8 0] from rfl) (Reps.none _ _))))))
                 intro v244 w34 ho35 hb hg_ hnew_
                 clear hg_ hnew_
                 (first | rw [← Ny243.out] at ho35 | (simp only [Int.reduceToNat] at ho35; rw [← Ny243.out] at ho35))
                 obtain ⟨HO245, HB⟩ := And.intro (Aside0.mk (Kd.R_lower ho35 (below_size (by repeat (first | (with_reducible first | exact HB.out | apply below_alloc | apply pw_below_drewN | apply below_drew1) | exact HB.out))))) (Aside0.mk (below_step (by repeat (first | (with_reducible first | exact HB.out | apply below_alloc | apply pw_below_drewN | apply below_drew1) | exact HB.out)) hb))
                 clear hb ho35
                 refine hK.out _ _ trivial (fun hHeld => ?_)
                 clear hK K
                 refine norm_ (a' := ?_) ?_ ?_
                 rotate_left
                 ·
                  show Act.put _ (some 64) _ = _
                  simp only [Act.put, sa_, s0_, s1_, i64_w, i32_w]
                  rfl
                 refine two_ (i := 0) (j := 2) (Ni := some 63) (Nj := some 65) (b_ 35 3) (b_ 35 6) rfl rfl rfl rfl (two_of HT_.out (by kernel_rfl)) (by decide) (by decide) (fun K hK => ?_) (fun K hK => ?_)
                 ·
                  skip
                  refine goes_ Tryd.func14 (by kernel_rfl) rfl #[] (by rfl) rfl rfl (by (try simp only [List.map_toArray, List.map_cons, List.map_nil]); first | done | rfl | (simp only [List.length_drop, List.length_take]; rfl)) ?_
                  with_reducible refine (keys_Head.calls k  t242 _ A9.out).mono ?_
                  rintro e w36 ⟨rfl, hb⟩
                  refine ⟨_, rfl, ?_⟩
                  obtain ⟨HO245, HB⟩ := And.intro (Aside0.mk (Kd.R_below (by (with_reducible repeat (first | apply Kd.R_alloc | apply Kd.R_drewN | apply Kd.R_drew)); exact HO245.out) hb)) (Aside0.mk (below_step (by repeat (first | (with_reducible first | exact HB.out | apply below_alloc | apply pw_below_drewN | apply below_drew1) | exact HB.out)) hb))
                  (try clear hb)
                  (try clear hb2)
                  (try clear hk)
                  (try clear hi)
                  refine hK.out _ _ trivial (fun hHeld => ?_)
                  clear hK K
                  refine norm_ (a' := ?_) ?_ ?_
                  rotate_left
                  ·
                   show Act.put _ (some 63) _ = _
                   simp only [Act.put, sa_, s0_, s1_, i64_w, i32_w]
                   rfl
                  refine one_ (i := 2) (N := some 65) (b_ 35 7) rfl rfl (one_of HT_.out (by kernel_rfl)) (by decide) (fun K hK => ?_)
                  have hcv37 := own_string (P := Tryd.prog) Tryd.underlying35 Tryd.underlying5 Tryd.underlying9 (Kd.own_of_R HO245.out)
                  refine value_ (w1 := ?_) (v := ?_) (by rfl) rfl ?_ ?_
                  rotate_left 2
                  ·
                   go_simp
                   constructor
                   ·
                    rfl
                   ·
                    rfl
                  clear hcv37
                  refine hK.out _ _ trivial (fun hHeld => ?_)
                  clear hK K
                  refine norm_ (a' := ?_) ?_ ?_
                  rotate_left
                  ·
                   show Act.put _ (some 65) _ = _
                   simp only [Act.put, sa_, s0_, s1_, i64_w, i32_w]
                   rfl
                  exact norm_ (by simp only [putAll, Act.put, sa_, s0_, s1_]) (hCont (v244) _ ⟨(by (with_reducible repeat (first | apply Kd.R_alloc | apply Kd.R_drewN | apply Kd.R_drew)); exact HO245.out), (by repeat (first | (with_reducible first | exact HB.out | apply below_alloc | apply pw_below_drewN | apply below_drew1) | exact HB.out))⟩)
                 ·
                  skip
                  have hcv36 := own_string (P := Tryd.prog) Tryd.underlying35 Tryd.underlying5 Tryd.underlying9 (Kd.own_of_R HO245.out)
                  refine value_ (w1 := ?_) (v := ?_) (by rfl) rfl ?_ ?_
                  rotate_left 2
                  ·
                   go_simp
                   constructor
                   ·
                    rfl
                   ·
                    rfl
                  clear hcv36
                  refine hK.out _ _ trivial (fun hHeld => ?_)
                  clear hK K
                  refine norm_ (a' := ?_) ?_ ?_
                  rotate_left
                  ·
                   show Act.put _ (some 65) _ = _
                   simp only [Act.put, sa_, s0_, s1_, i64_w, i32_w]
                   rfl
                  refine one_ (i := 0) (N := some 63) (b_ 35 7) rfl rfl (one_of HT_.out (by kernel_rfl)) (by decide) (fun K hK => ?_)
                  refine goes_ Tryd.func14 (by kernel_rfl) rfl #[] (by rfl) rfl rfl (by (try simp only [List.map_toArray, List.map_cons, List.map_nil]); first | done | rfl | (simp only [List.length_drop, List.length_take]; rfl)) ?_
                  with_reducible refine (keys_Head.calls k  t242 _ A9.out).mono ?_
                  rintro e w37 ⟨rfl, hb⟩
                  refine ⟨_, rfl, ?_⟩
                  obtain ⟨HO245, HB⟩ := And.intro (Aside0.mk (Kd.R_below (by (with_reducible repeat (first | apply Kd.R_alloc | apply Kd.R_drewN | apply Kd.R_drew)); exact HO245.out) hb)) (Aside0.mk (below_step (by repeat (first | (with_reducible first | exact HB.out | apply below_alloc | apply pw_below_drewN | apply below_drew1) | exact HB.out)) hb))
                  (try clear hb)
                  (try clear hb2)
                  (try clear hk)
                  (try clear hi)
                  refine hK.out _ _ trivial (fun hHeld => ?_)
                  clear hK K
                  refine norm_ (a' := ?_) ?_ ?_
                  rotate_left
                  ·
                   show Act.put _ (some 63) _ = _
                   simp only [Act.put, sa_, s0_, s1_, i64_w, i32_w]
                   rfl
                  exact norm_ (by simp only [putAll, Act.put, sa_, s0_, s1_]) (hCont (v244) _ ⟨(by (with_reducible repeat (first | apply Kd.R_alloc | apply Kd.R_drewN | apply Kd.R_drew)); exact HO245.out), (by repeat (first | (with_reducible first | exact HB.out | apply below_alloc | apply pw_below_drewN | apply below_drew1) | exact HB.out))⟩)
               rintro v244 w38 ⟨h0_, h1_⟩
               have n0_ : Aside0 (Kd.R (Kd.int .u8) 5 w38 w.heap.size (fun _ => True) v244 y243) := ⟨h0_⟩
               have n1_ : Aside0 (Below w.heap.size w w38) := ⟨h1_⟩
               clear HB
               clear h0_ h1_
               have HO245 := n0_
               have HB := n1_
               clear n0_ n1_
               have hHeld := trivial
               refine norm_ (a' := ?_) ?_ ?_
               rotate_left
               ·
                simp only [putAll, Act.put, sa_, s0_, s1_]
                rfl
               refine pA_ 3 66 ?_ (b_ 35 15) (any_of HT_.out (by kernel_rfl)) rfl rfl (fun _ _ _ h => h) (by rfl) ?_ ?_ ?_ ?_
               rotate_left
               ·
                intro w'
                go_simp
                with_reducible rfl
               rotate_left
               ·
                simp only [Act.put, sa_, s0_, s1_, i64_w, i32_w]
                rfl
               refine pA_ 4 67 ?_ (b_ 35 31) (any_of HT_.out (by kernel_rfl)) rfl rfl (fun _ _ _ h => h) (by rfl) ?_ ?_ ?_ ?_
               rotate_left
               ·
                intro w'
                go_simp
                with_reducible rfl
               rotate_left
               ·
                simp only [Act.put, sa_, s0_, s1_, i64_w, i32_w]
                rfl
               refine pA_ 5 68 ?_ (b_ 35 63) (any_of HT_.out (by kernel_rfl)) rfl rfl (fun _ _ _ h => h) (by rfl) ?_ ?_ ?_ ?_
               rotate_left
               ·
                intro w'
                go_simp
                with_reducible rfl
               rotate_left
               ·
                simp only [Act.put, sa_, s0_, s1_, i64_w, i32_w]
                rfl
               refine one_ (i := 6) (N := some 69) (b_ 35 127) rfl rfl (one_of HT_.out (by kernel_rfl)) (by decide) (fun K hK => ?_)
               refine Kd.R_lit_step (Kd.int .u8) _ 5 ?hg (N := 69) ?hd (xs := ([2, 107, 0, 0, 2, 97, 0, 0] : List Int)) (inner := [.int .u8 2, .int .u8 107, .int .u8 0, .int .u8 0, .int .u8 2, .int .u8 97, .int .u8 0, .int .u8 0]) (ok := fun _ => True) (okp := fun _ => True) ?hr ?hp (fun _ hk => hk) trivial (Below.refl _ _) (Nat.le_refl _) (by simp) ?_; (case hd => rfl); (case hg => rfl); (case hr => first | (go_simp; done) | (go_simp; rfl)); (case hp => exact (Reps.one (show Kd.M (Kd.int .u8) _ _ _ 2 [.int .u8 2] from rfl) (Reps.one (show Kd.M (Kd.int .u8) _ _ _ 107 [.int .u8 107] from rfl) (Reps.one (show Kd.M (Kd.int .u8) _ _ _ 0 [.int .u8 0] from rfl) (Reps.one (show Kd.M (Kd.int .u8) _ _ _ 0 [.int .u8 0] from rfl) (Reps.one (show Kd.M (Kd.int .u8) _ _ _ 2 [.int .u8 2] from rfl) (Reps.one (show Kd.M (Kd.int .u8) _ _ _ 97 [.int .u8 97] from rfl) (Reps.one (show Kd.M (Kd.int .u8) _ _ _ 0 [.int .u8 0] from rfl) (Reps.one (show Kd.M (Kd.int .u8) _ _ _ 0 [.int .u8 0] from rfl) (Reps.none _ _))))))))))
               intro v247 w39 ho40 hb hg_ hnew_
               clear hg_ hnew_
               (first | rw [← Ny246.out] at ho40 | (simp only [Int.reduceToNat] at ho40; rw [← Ny246.out] at ho40))
               obtain ⟨HO245, HO248, HB⟩ := And.intro (Aside0.mk (Kd.R_elder' (by (with_reducible repeat (first | apply Kd.R_alloc | apply Kd.R_drewN | apply Kd.R_drew)); exact HO245.out) (Kd.R_base ho40) hb)) (And.intro (Aside0.mk (Kd.R_lower (Kd.R_new' ho40 (Kd.R_lt (by (with_reducible repeat (first | apply Kd.R_alloc | apply Kd.R_drewN | apply Kd.R_drew)); exact HO245.out))) (below_size (by repeat (first | (with_reducible first | exact HB.out | apply below_alloc | apply pw_below_drewN | apply below_drew1) | exact HB.out))))) (Aside0.mk (below_step (by repeat (first | (with_reducible first | exact HB.out | apply below_alloc | apply pw_below_drewN | apply below_drew1) | exact HB.out)) hb)))
               clear hb ho40
               refine hK.out _ _ trivial (fun hHeld => ?_)
               clear hK K
               refine norm_ (a' := ?_) ?_ ?_
               rotate_left
               ·
                show Act.put _ (some 69) _ = _
                simp only [Act.put, sa_, s0_, s1_, i64_w, i32_w]
                rfl
               refine one_ (i := 7) (N := some 70) (b_ 35 255) rfl rfl (one_of HT_.out (by kernel_rfl)) (by decide) (fun K hK => ?_)
               have hcv41 := own_string (P := Tryd.prog) Tryd.underlying35 Tryd.underlying5 Tryd.underlying9 (Kd.own_of_R HO248.out)
               refine value_ (w1 := ?_) (v := ?_) (by rfl) rfl ?_ ?_
               rotate_left 2
               ·
                go_simp
                constructor
                ·
                 rfl
                ·
                 rfl
               clear hcv41
               refine hK.out _ _ trivial (fun hHeld => ?_)
               clear hK K
               refine norm_ (a' := ?_) ?_ ?_
               rotate_left
               ·
                show Act.put _ (some 70) _ = _
                simp only [Act.put, sa_, s0_, s1_, i64_w, i32_w]
                rfl
               refine pA_ 8 71 ?_ (b_ 35 511) (any_of HT_.out (by kernel_rfl)) rfl rfl (fun _ _ _ h => h) (by rfl) ?_ ?_ ?_ ?_
               rotate_left
               ·
                intro w'
                go_simp
                with_reducible rfl
               rotate_left
               ·
                simp only [Act.put, sa_, s0_, s1_, i64_w, i32_w]
                rfl
               refine pA_ 9 72 ?_ (b_ 35 1023) (any_of HT_.out (by kernel_rfl)) rfl rfl (fun _ _ _ h => h) (by rfl) ?_ ?_ ?_ ?_
               rotate_left
               ·
                intro w'
                go_simp
                with_reducible rfl
               rotate_left
               ·
                simp only [Act.put, sa_, s0_, s1_, i64_w, i32_w]
                rfl
               refine pA_ 10 73 ?_ (b_ 35 2047) (any_of HT_.out (by kernel_rfl)) rfl rfl (fun _ _ _ h => h) (by rfl) ?_ ?_ ?_ ?_
               rotate_left
               ·
                intro w'
                go_simp
                with_reducible rfl
               rotate_left
               ·
                simp only [Act.put, sa_, s0_, s1_, i64_w, i32_w]
                rfl
               refine pA_ 11 74 ?_ (b_ 35 4095) (any_of HT_.out (by kernel_rfl)) rfl rfl (fun _ _ _ h => h) (by rfl) ?_ ?_ ?_ ?_
               rotate_left
               ·
                intro w'
                go_simp
                with_reducible rfl
               rotate_left
               ·
                simp only [Act.put, sa_, s0_, s1_, i64_w, i32_w]
                rfl
               refine pA_ 12 75 ?_ (b_ 35 8191) (any_of HT_.out (by kernel_rfl)) rfl rfl (fun _ _ _ h => h) (by rfl) ?_ ?_ ?_ ?_
               rotate_left
               ·
                intro w'
                go_simp
                with_reducible rfl
               rotate_left
               ·
                simp only [Act.put, sa_, s0_, s1_, i64_w, i32_w]
                rfl
               refine pA_ 13 76 ?_ (b_ 35 16383) (any_of HT_.out (by kernel_rfl)) rfl rfl (fun _ _ _ h => h) (by rfl) ?_ ?_ ?_ ?_
               rotate_left
               ·
                intro w'
                go_simp
                with_reducible rfl
               rotate_left
               ·
                simp only [Act.put, sa_, s0_, s1_, i64_w, i32_w]
                rfl
               refine pA_ 14 77 ?_ (b_ 35 32767) (any_of HT_.out (by kernel_rfl)) rfl rfl (fun _ _ _ h => h) (by rfl) ?_ ?_ ?_ ?_
               rotate_left
               ·
                intro w'
                go_simp
                with_reducible rfl
               rotate_left
               ·
                simp only [Act.put, sa_, s0_, s1_, i64_w, i32_w]
                rfl
               refine pA_ 15 78 ?_ (b_ 35 65535) (any_of HT_.out (by kernel_rfl)) rfl rfl (fun _ _ _ h => h) (by rfl) ?_ ?_ ?_ ?_
               rotate_left
               ·
                intro w'
                go_simp
                with_reducible rfl
               rotate_left
               ·
                simp only [Act.put, sa_, s0_, s1_, i64_w, i32_w]
                rfl
               refine pA_ 16 79 ?_ (b_ 35 131071) (any_of HT_.out (by kernel_rfl)) rfl rfl (fun _ _ _ h => h) (by rfl) ?_ ?_ ?_ ?_
               rotate_left
               ·
                intro w'
                go_simp
                with_reducible rfl
               rotate_left
               ·
                simp only [Act.put, sa_, s0_, s1_, i64_w, i32_w]
                rfl
               refine pA_ 17 80 ?_ (b_ 35 262143) (any_of HT_.out (by kernel_rfl)) rfl rfl (fun _ _ _ h => h) (by rfl) ?_ ?_ ?_ ?_
               rotate_left
               ·
                intro w'
                go_simp
                with_reducible rfl
               rotate_left
               ·
                simp only [Act.put, sa_, s0_, s1_, i64_w, i32_w]
                rfl
               refine pA_ 18 81 ?_ (b_ 35 524287) (any_of HT_.out (by kernel_rfl)) rfl rfl (fun _ _ _ h => h) (by rfl) ?_ ?_ ?_ ?_
               rotate_left
               ·
                intro w'
                go_simp
                with_reducible rfl
               rotate_left
               ·
                simp only [Act.put, sa_, s0_, s1_, i64_w, i32_w]
                rfl
               refine pA_ 19 82 ?_ (b_ 35 1048575) (any_of HT_.out (by kernel_rfl)) rfl rfl (fun _ _ _ h => h) (by rfl) ?_ ?_ ?_ ?_
               rotate_left
               ·
                intro w'
                go_simp
                with_reducible rfl
               rotate_left
               ·
                simp only [Act.put, sa_, s0_, s1_, i64_w, i32_w]
                rfl
               refine pA_ 20 83 ?_ (b_ 35 2097151) (any_of HT_.out (by kernel_rfl)) rfl rfl (fun _ _ _ h => h) (by rfl) ?_ ?_ ?_ ?_
               rotate_left
               ·
                intro w'
                go_simp
                with_reducible rfl
               rotate_left
               ·
                simp only [Act.put, sa_, s0_, s1_, i64_w, i32_w]
                rfl
               refine pA_ 21 84 ?_ (b_ 35 4194303) (any_of HT_.out (by kernel_rfl)) rfl rfl (fun _ _ _ h => h) (by rfl) ?_ ?_ ?_ ?_
               rotate_left
               ·
                intro w'
                go_simp
                with_reducible rfl
               rotate_left
               ·
                simp only [Act.put, sa_, s0_, s1_, i64_w, i32_w]
                rfl
               refine pA_ 22 85 ?_ (b_ 35 8388607) (any_of HT_.out (by kernel_rfl)) rfl rfl (fun _ _ _ h => h) (by rfl) ?_ ?_ ?_ ?_
               rotate_left
               ·
                intro w'
                go_simp
                with_reducible rfl
               rotate_left
               ·
                simp only [Act.put, sa_, s0_, s1_, i64_w, i32_w]
                rfl
               refine pA_ 23 86 ?_ (b_ 35 16777215) (any_of HT_.out (by kernel_rfl)) rfl rfl (fun _ _ _ h => h) (by rfl) ?_ ?_ ?_ ?_
               rotate_left
               ·
                intro w'
                go_simp
                with_reducible rfl
               rotate_left
               ·
                simp only [Act.put, sa_, s0_, s1_, i64_w, i32_w]
                rfl
               refine pA_ 24 87 ?_ (b_ 35 33554431) (any_of HT_.out (by kernel_rfl)) rfl rfl (fun _ _ _ h => h) (by rfl) ?_ ?_ ?_ ?_
               rotate_left
               ·
                intro w'
                go_simp
                with_reducible rfl
               rotate_left
               ·
                simp only [Act.put, sa_, s0_, s1_, i64_w, i32_w]
                rfl
               refine pA_ 25 88 ?_ (b_ 35 67108863) (any_of HT_.out (by kernel_rfl)) rfl rfl (fun _ _ _ h => h) (by rfl) ?_ ?_ ?_ ?_
               rotate_left
               ·
                intro w'
                go_simp
                with_reducible rfl
               rotate_left
               ·
                simp only [Act.put, sa_, s0_, s1_, i64_w, i32_w]
                rfl
               refine pA_ 26 89 ?_ (b_ 35 134217727) (any_of HT_.out (by kernel_rfl)) rfl rfl (fun _ _ _ h => h) (by rfl) ?_ ?_ ?_ ?_
               rotate_left
               ·
                intro w'
                go_simp
                with_reducible rfl
               rotate_left
               ·
                simp only [Act.put, sa_, s0_, s1_, i64_w, i32_w]
                rfl
               refine pA_ 27 90 ?_ (b_ 35 268435455) (any_of HT_.out (by kernel_rfl)) rfl rfl (fun _ _ _ h => h) (by rfl) ?_ ?_ ?_ ?_
               rotate_left
               ·
                intro w'
                go_simp
                with_reducible rfl
               rotate_left
               ·
                simp only [Act.put, sa_, s0_, s1_, i64_w, i32_w]
                rfl
               refine pA_ 28 91 ?_ (b_ 35 536870911) (any_of HT_.out (by kernel_rfl)) rfl rfl (fun _ _ _ h => h) (by rfl) ?_ ?_ ?_ ?_
               rotate_left
               ·
                intro w'
                go_simp
                with_reducible rfl
               rotate_left
               ·
                simp only [Act.put, sa_, s0_, s1_, i64_w, i32_w]
                rfl
               refine pA_ 29 92 ?_ (b_ 35 1073741823) (any_of HT_.out (by kernel_rfl)) rfl rfl (fun _ _ _ h => h) (by rfl) ?_ ?_ ?_ ?_
               rotate_left
               ·
                intro w'
                go_simp
                with_reducible rfl
               rotate_left
               ·
                simp only [Act.put, sa_, s0_, s1_, i64_w, i32_w]
                rfl
               refine pA_ 30 93 ?_ (b_ 35 2147483647) (any_of HT_.out (by kernel_rfl)) rfl rfl (fun _ _ _ h => h) (by rfl) ?_ ?_ ?_ ?_
               rotate_left
               ·
                intro w'
                go_simp
                with_reducible rfl
               rotate_left
               ·
                simp only [Act.put, sa_, s0_, s1_, i64_w, i32_w]
                rfl
               refine pA_ 31 94 ?_ (b_ 35 4294967295) (any_of HT_.out (by kernel_rfl)) rfl rfl (fun _ _ _ h => h) (by rfl) ?_ ?_ ?_ ?_
               rotate_left
               ·
                intro w'
                go_simp
                with_reducible rfl
               rotate_left
               ·
                simp only [Act.put, sa_, s0_, s1_, i64_w, i32_w]
                rfl
               refine pA_ 32 95 ?_ (b_ 35 8589934591) (any_of HT_.out (by kernel_rfl)) rfl rfl (fun _ _ _ h => h) (by rfl) ?_ ?_ ?_ ?_
               rotate_left
               ·
                intro w'
                go_simp
                with_reducible rfl
               rotate_left
               ·
                simp only [Act.put, sa_, s0_, s1_, i64_w, i32_w]
                rfl
               refine pA_ 33 96 ?_ (b_ 35 17179869183) (any_of HT_.out (by kernel_rfl)) rfl rfl (fun _ _ _ h => h) (by rfl) ?_ ?_ ?_ ?_
               rotate_left
               ·
                intro w'
                go_simp
                with_reducible rfl
               rotate_left
               ·
                simp only [Act.put, sa_, s0_, s1_, i64_w, i32_w]
                rfl
               refine pA_ 34 23 ?_ (b_ 35 34359738367) (any_of HT_.out (by kernel_rfl)) rfl rfl (fun _ _ _ h => h) (by rfl) ?_ ?_ ?_ ?_
               rotate_left
               ·
                intro w'
                go_simp
                with_reducible rfl
               rotate_left
               ·
                simp only [Act.put, sa_, s0_, s1_, i64_w, i32_w]
                rfl
               refine done_ (done_of HT_.out (by kernel_rfl)) ?_
               try go_wp2_with (first | (go_at_call 8; (with_reducible refine (millhandlaw22_alive.calls k  true _ A17.out).mono ?_); rintro e w42 ⟨rfl, hb⟩; have n0_ := Aside0.mk (Kd.R_below (by (with_reducible repeat (first | apply Kd.R_alloc | apply Kd.R_drewN | apply Kd.R_drew)); exact HO245.out) hb); have n1_ := Aside0.mk (Kd.R_below (by (with_reducible repeat (first | apply Kd.R_alloc | apply Kd.R_drewN | apply Kd.R_drew)); exact HO248.out) hb); have n2_ := Aside0.mk (below_step (by repeat (first | (with_reducible first | exact HB.out | apply below_alloc | apply pw_below_drewN | apply below_drew1) | exact HB.out)) hb); clear HO245; clear HO248; clear HB; have HO245 := n0_; have HO248 := n1_; have HB := n2_; clear n0_ n1_ n2_; (try clear hb); (try clear hb2); (try clear hk); (try clear hi)) | ((with_reducible refine gate_dst (N := 105) rfl ?_); (try (refine gate_guard (by rfl) ?_; dsimp only)); refine Kd.R_lit (Kd.int .u8) _ 5 ?hg (N := 105) ?hd (xs := ([2, 104, 0, 0] : List Int)) (inner := [.int .u8 2, .int .u8 104, .int .u8 0, .int .u8 0]) (ok := fun _ => True) (okp := fun _ => True) ?hr ?hp (fun _ hk => hk) trivial (Below.refl _ _) (Nat.le_refl _) (by simp) ?_; (case hd => rfl); (case hg => rfl); (case hr => first | (go_simp; done) | (go_simp; rfl)); (case hp => exact (Reps.one (show Kd.M (Kd.int .u8) _ _ _ 2 [.int .u8 2] from rfl) (Reps.one (show Kd.M (Kd.int .u8) _ _ _ 104 [.int .u8 104] from rfl) (Reps.one (show Kd.M (Kd.int .u8) _ _ _ 0 [.int .u8 0] from rfl) (Reps.one (show Kd.M (Kd.int .u8) _ _ _ 0 [.int .u8 0] from rfl) (Reps.none _ _)))))); intro v251 w43 ho44 hb hg_ hnew_; clear hg_ hnew_; (first | rw [← Ny250.out] at ho44 | (simp only [Int.reduceToNat] at ho44; rw [← Ny250.out] at ho44)); have n0_ := Aside0.mk (Kd.R_elder' (by (with_reducible repeat (first | apply Kd.R_alloc | apply Kd.R_drewN | apply Kd.R_drew)); exact HO245.out) (Kd.R_base ho44) hb); have n1_ := Aside0.mk (Kd.R_elder' (by (with_reducible repeat (first | apply Kd.R_alloc | apply Kd.R_drewN | apply Kd.R_drew)); exact HO248.out) (Kd.R_base ho44) hb); have n2_ := Aside0.mk (Kd.R_lower (Kd.R_new' (Kd.R_new' ho44 (Kd.R_lt (by (with_reducible repeat (first | apply Kd.R_alloc | apply Kd.R_drewN | apply Kd.R_drew)); exact HO245.out))) (Kd.R_lt (by (with_reducible repeat (first | apply Kd.R_alloc | apply Kd.R_drewN | apply Kd.R_drew)); exact HO248.out))) (below_size (by repeat (first | (with_reducible first | exact HB.out | apply below_alloc | apply pw_below_drewN | apply below_drew1) | exact HB.out)))); have n3_ := Aside0.mk (below_step (by repeat (first | (with_reducible first | exact HB.out | apply below_alloc | apply pw_below_drewN | apply below_drew1) | exact HB.out)) hb); clear HO245; clear HO248; clear HB; have HO245 := n0_; have HO248 := n1_; have HO252 := n2_; have HB := n3_; clear n0_ n1_ n2_ n3_; clear hb ho44; have hcv45 := own_string (P := Tryd.prog) Tryd.underlying35 Tryd.underlying5 Tryd.underlying9 (Kd.own_of_R HO252.out)) | ((with_reducible refine gate_dst (N := 111) rfl ?_); (try (refine gate_guard (by rfl) ?_; dsimp only)); refine Kd.R_lit (Kd.int .u8) _ 5 ?hg (N := 111) ?hd (xs := ([2, 104, 0, 1] : List Int)) (inner := [.int .u8 2, .int .u8 104, .int .u8 0, .int .u8 1]) (ok := fun _ => True) (okp := fun _ => True) ?hr ?hp (fun _ hk => hk) trivial (Below.refl _ _) (Nat.le_refl _) (by simp) ?_; (case hd => rfl); (case hg => rfl); (case hr => first | (go_simp; done) | (go_simp; rfl)); (case hp => exact (Reps.one (show Kd.M (Kd.int .u8) _ _ _ 2 [.int .u8 2] from rfl) (Reps.one (show Kd.M (Kd.int .u8) _ _ _ 104 [.int .u8 104] from rfl) (Reps.one (show Kd.M (Kd.int .u8) _ _ _ 0 [.int .u8 0] from rfl) (Reps.one (show Kd.M (Kd.int .u8) _ _ _ 1 [.int .u8 1] from rfl) (Reps.none _ _)))))); intro v254 w46 ho47 hb hg_ hnew_; clear hg_ hnew_; (first | rw [← Ny253.out] at ho47 | (simp only [Int.reduceToNat] at ho47; rw [← Ny253.out] at ho47)); have n0_ := Aside0.mk (Kd.R_elder' (by (with_reducible repeat (first | apply Kd.R_alloc | apply Kd.R_drewN | apply Kd.R_drew)); exact HO245.out) (Kd.R_base ho47) hb); have n1_ := Aside0.mk (Kd.R_elder' (by (with_reducible repeat (first | apply Kd.R_alloc | apply Kd.R_drewN | apply Kd.R_drew)); exact HO248.out) (Kd.R_base ho47) hb); have n2_ := Aside0.mk (Kd.R_elder' (by (with_reducible repeat (first | apply Kd.R_alloc | apply Kd.R_drewN | apply Kd.R_drew)); exact HO252.out) (Kd.R_base ho47) hb); have n3_ := Aside0.mk (Kd.R_lower (Kd.R_new' (Kd.R_new' (Kd.R_new' ho47 (Kd.R_lt (by (with_reducible repeat (first | apply Kd.R_alloc | apply Kd.R_drewN | apply Kd.R_drew)); exact HO245.out))) (Kd.R_lt (by (with_reducible repeat (first | apply Kd.R_alloc | apply Kd.R_drewN | apply Kd.R_drew)); exact HO248.out))) (Kd.R_lt (by (with_reducible repeat (first | apply Kd.R_alloc | apply Kd.R_drewN | apply Kd.R_drew)); exact HO252.out))) (below_size (by repeat (first | (with_reducible first | exact HB.out | apply below_alloc | apply pw_below_drewN | apply below_drew1) | exact HB.out)))); have n4_ := Aside0.mk (below_step (by repeat (first | (with_reducible first | exact HB.out | apply below_alloc | apply pw_below_drewN | apply below_drew1) | exact HB.out)) hb); clear HO245; clear HO248; clear HO252; clear HB; have HO245 := n0_; have HO248 := n1_; have HO252 := n2_; have HO255 := n3_; have HB := n4_; clear n0_ n1_ n2_ n3_ n4_; clear hb ho47; have hcv48 := own_string (P := Tryd.prog) Tryd.underlying35 Tryd.underlying5 Tryd.underlying9 (Kd.own_of_R HO255.out)))
               go_ret
               exact ⟨by first | rfl | (simp [errW_none, errW_some] <;> rfl) | (simp [*, errW_none, errW_some] <;> rfl) | exact ret_ie _ | (simp [*, errW_none, errW_some, bne]; done), by repeat (first | (with_reducible first | exact HB.out | apply below_alloc | apply pw_below_drewN | apply below_drew1) | exact HB.out)⟩
              ·
               rw [if_neg c24] at H
               have c24b0 : (t239 == 8) = false := beq_eq_false_iff_ne.mpr c24
               have c24b1 : (t239 != 8) = true := bne_iff_ne.mpr c24
               exact absurd ((Option.some.inj H).trans hr) (by decide)
             ·
              rw [if_neg c23] at H
              have c23b0 : (t235 == 2) = false := beq_eq_false_iff_ne.mpr c23
              have c23b1 : (t235 != 2) = true := bne_iff_ne.mpr c23
              exact absurd ((Option.some.inj H).trans hr) (by decide)
            ·
             rw [if_neg c22] at H
             have c22b0 : (t232 == 0) = false := beq_eq_false_iff_ne.mpr c22
             have c22b1 : (t232 != 0) = true := bne_iff_ne.mpr c22
             exact absurd ((Option.some.inj H).trans hr) (by decide)
           ·
            rw [if_neg c21] at H
            have c21b0 : (t231.toList == (strOfNums y253).toList) = false := beq_eq_false_iff_ne.mpr c21
            have c21b1 : (t231.toList != (strOfNums y253).toList) = true := bne_iff_ne.mpr c21
            exact absurd ((Option.some.inj H).trans hr) (by decide)
          ·
           rw [if_neg c20] at H
           have c20b0 : (t230.toList == (strOfNums y250).toList) = false := beq_eq_false_iff_ne.mpr c20
           have c20b1 : (t230.toList != (strOfNums y250).toList) = true := bne_iff_ne.mpr c20
           exact absurd ((Option.some.inj H).trans hr) (by decide)
         ·
          rw [if_neg c19] at H
          have c19b0 : (t229 == 0) = false := beq_eq_false_iff_ne.mpr c19
          have c19b1 : (t229 != 0) = true := bne_iff_ne.mpr c19
          exact absurd ((Option.some.inj H).trans hr) (by decide)
        ·
         replace c18 := Bool.eq_false_iff.mpr c18
         subst c18
         have H1 : (some false) = some r := by rw [if_neg (show ¬ (false = true) by decide)] at H; exact H
         clear H
         have H := H1
         clear H1
         exact absurd ((Option.some.inj H).trans hr) (by decide)
       ·
        rw [if_neg c16] at H
        have c16b0 : (t228.toList == ([] : List UInt8)) = false := beq_eq_false_iff_ne.mpr c16
        have c16b1 : (t228.toList != ([] : List UInt8)) = true := bne_iff_ne.mpr c16
        replace H := Option.bind_eq_some_iff.mp H
        obtain ⟨t256, A2020, H⟩ := H
        replace H : (if t256 = true then (some false) else (some false)) = some r := H
        have A202 := Aside0.mk A2020
        clear A2020
        by_cases c203 : t256 = true
        ·
         subst c203
         have H1 : (some false) = some r := by rw [if_pos rfl] at H; exact H
         clear H
         have H := H1
         clear H1
         exact absurd ((Option.some.inj H).trans hr) (by decide)
        ·
         replace c203 := Bool.eq_false_iff.mpr c203
         subst c203
         have H1 : (some false) = some r := by rw [if_neg (show ¬ (false = true) by decide)] at H; exact H
         clear H
         have H := H1
         clear H1
         exact absurd ((Option.some.inj H).trans hr) (by decide)
      ·
       rw [if_neg c15] at H
       have c15b0 : (t227 == 7) = false := beq_eq_false_iff_ne.mpr c15
       have c15b1 : (t227 != 7) = true := bne_iff_ne.mpr c15
       replace H := Option.bind_eq_some_iff.mp H
       obtain ⟨t257, A2400, H⟩ := H
       replace H : (if t257 = true then (some false) else (some false)) = some r := H
       have A240 := Aside0.mk A2400
       clear A2400
       by_cases c241 : t257 = true
       ·
        subst c241
        have H1 : (some false) = some r := by rw [if_pos rfl] at H; exact H
        clear H
        have H := H1
        clear H1
        exact absurd ((Option.some.inj H).trans hr) (by decide)
       ·
        replace c241 := Bool.eq_false_iff.mpr c241
        subst c241
        have H1 : (some false) = some r := by rw [if_neg (show ¬ (false = true) by decide)] at H; exact H
        clear H
        have H := H1
        clear H1
        exact absurd ((Option.some.inj H).trans hr) (by decide)
     ·
      rw [if_neg c14] at H
      have c14b0 : (t226 == 4) = false := beq_eq_false_iff_ne.mpr c14
      have c14b1 : (t226 != 4) = true := bne_iff_ne.mpr c14
      replace H := Option.bind_eq_some_iff.mp H
      obtain ⟨t258, A2780, H⟩ := H
      replace H : (if t258 = true then (some false) else (some false)) = some r := H
      have A278 := Aside0.mk A2780
      clear A2780
      by_cases c279 : t258 = true
      ·
       subst c279
       have H1 : (some false) = some r := by rw [if_pos rfl] at H; exact H
       clear H
       have H := H1
       clear H1
       exact absurd ((Option.some.inj H).trans hr) (by decide)
      ·
       replace c279 := Bool.eq_false_iff.mpr c279
       subst c279
       have H1 : (some false) = some r := by rw [if_neg (show ¬ (false = true) by decide)] at H; exact H
       clear H
       have H := H1
       clear H1
       exact absurd ((Option.some.inj H).trans hr) (by decide)
    ·
     rw [if_neg c13] at H
     have c13b0 : (t223 == 2) = false := beq_eq_false_iff_ne.mpr c13
     have c13b1 : (t223 != 2) = true := bne_iff_ne.mpr c13
     replace H := Option.bind_eq_some_iff.mp H
     obtain ⟨t259, A3160, H⟩ := H
     replace H : (if t259 = true then (some false) else (some false)) = some r := H
     have A316 := Aside0.mk A3160
     clear A3160
     by_cases c317 : t259 = true
     ·
      subst c317
      have H1 : (some false) = some r := by rw [if_pos rfl] at H; exact H
      clear H
      have H := H1
      clear H1
      exact absurd ((Option.some.inj H).trans hr) (by decide)
     ·
      replace c317 := Bool.eq_false_iff.mpr c317
      subst c317
      have H1 : (some false) = some r := by rw [if_neg (show ¬ (false = true) by decide)] at H; exact H
      clear H
      have H := H1
      clear H1
      exact absurd ((Option.some.inj H).trans hr) (by decide)
   ·
    rw [if_neg c12] at H
    have c12b0 : (t221 == 0) = false := beq_eq_false_iff_ne.mpr c12
    have c12b1 : (t221 != 0) = true := bne_iff_ne.mpr c12
    replace H := Option.bind_eq_some_iff.mp H
    obtain ⟨t260, A3540, H⟩ := H
    replace H : (if t260 = true then (some false) else (some false)) = some r := H
    have A354 := Aside0.mk A3540
    clear A3540
    by_cases c355 : t260 = true
    ·
     subst c355
     have H1 : (some false) = some r := by rw [if_pos rfl] at H; exact H
     clear H
     have H := H1
     clear H1
     exact absurd ((Option.some.inj H).trans hr) (by decide)
    ·
     replace c355 := Bool.eq_false_iff.mpr c355
     subst c355
     have H1 : (some false) = some r := by rw [if_neg (show ¬ (false = true) by decide)] at H; exact H
     clear H
     have H := H1
     clear H1
     exact absurd ((Option.some.inj H).trans hr) (by decide)
  ·
   rw [if_neg c11] at H
   have c11b0 : (t220.toList == (strOfNums y246).toList) = false := beq_eq_false_iff_ne.mpr c11
   have c11b1 : (t220.toList != (strOfNums y246).toList) = true := bne_iff_ne.mpr c11
   replace H := Option.bind_eq_some_iff.mp H
   obtain ⟨t261, A3920, H⟩ := H
   replace H : (if t261 = true then (some false) else (some false)) = some r := H
   have A392 := Aside0.mk A3920
   clear A3920
   by_cases c393 : t261 = true
   ·
    subst c393
    have H1 : (some false) = some r := by rw [if_pos rfl] at H; exact H
    clear H
    have H := H1
    clear H1
    exact absurd ((Option.some.inj H).trans hr) (by decide)
   ·
    replace c393 := Bool.eq_false_iff.mpr c393
    subst c393
    have H1 : (some false) = some r := by rw [if_neg (show ¬ (false = true) by decide)] at H; exact H
    clear H
    have H := H1
    clear H1
    exact absurd ((Option.some.inj H).trans hr) (by decide)
 ·
  rw [if_neg c10] at H
  have c10b0 : (t242.toList == (strOfNums y243).toList) = false := beq_eq_false_iff_ne.mpr c10
  have c10b1 : (t242.toList != (strOfNums y243).toList) = true := bne_iff_ne.mpr c10
  replace H := Option.bind_eq_some_iff.mp H
  obtain ⟨t262, A4300, H⟩ := H
  replace H : (if t262 = true then (some false) else (some false)) = some r := H
  have A430 := Aside0.mk A4300
  clear A4300
  by_cases c431 : t262 = true
  ·
   subst c431
   have H1 : (some false) = some r := by rw [if_pos rfl] at H; exact H
   clear H
   have H := H1
   clear H1
   exact absurd ((Option.some.inj H).trans hr) (by decide)
  ·
   replace c431 := Bool.eq_false_iff.mpr c431
   subst c431
   have H1 : (some false) = some r := by rw [if_neg (show ¬ (false = true) by decide)] at H; exact H
   clear H
   have H := H1
   clear H1
   exact absurd ((Option.some.inj H).trans hr) (by decide)

/-! ### millhandref01_May: function 43 -/
def millhandref01_May.f (a0_0 : Bool) (a0_1 : Int) (a0_2 : ByteArray) : Option (Bool) := if a0_0 = true then (some (a0_1 == 0)) else (some (a0_2.toList == ([] : List UInt8)))
set_option maxHeartbeats 8000000 in
set_option maxRecDepth 100000 in
theorem millhandref01_May.calls (a0_0 : Bool) (a0_1 : Int) (a0_2 : ByteArray) (r : Bool) (w : World) (h : millhandref01_May.f a0_0 a0_1 a0_2 = some r) :
  Calls Tryd.prog 43 #[.agg #[.bool a0_0, .int .u64 a0_1, .string a0_2]] w fun e w' => e = .returned (.bool r) ∧ Below w.heap.size w w' := by
 have hu49 := Tryd.underlying49
 have HB := Aside0.mk (Below.refl w.heap.size w)
 have H : (if a0_0 = true then (some (a0_1 == 0)) else (some (a0_2.toList == ([] : List UInt8)))) = some r := h
 clear h
 by_cases c2 : a0_0 = true
 ·
  subst c2
  have H1 : (some (a0_1 == 0)) = some r := by rw [if_pos rfl] at H; exact H
  clear H
  have H := H1
  clear H1
  obtain rfl := Option.some.inj H
  go_enter Tryd.func43, Tryd.ntmps43
  go_wp2_with (first | ((with_reducible refine gate_dst (N := 1) rfl ?_); refine box_event ?hg (N := 1) ?hd (cs := #[.bool true, .int .u64 a0_1, .string a0_2]) (t := 49) ?hr ?_; (case hd => rfl); (case hg => rfl); (case hr => first | (go_simp; done) | (go_simp; rfl)); intro gb263 hg w3 hbox hb; have n0_ := Aside0.mk (below_step (by repeat (first | (with_reducible first | exact HB.out | apply below_alloc | apply pw_below_drewN | apply below_drew1) | exact HB.out)) hb); have n1_ := Aside0.mk (hbox); have n2_ := Aside0.mk ((by rw [hg]; exact (below_size (by repeat (first | (with_reducible first | exact HB.out | apply below_alloc | apply pw_below_drewN | apply below_drew1) | exact HB.out))) : w.heap.size ≤ gb263)); have n3_ := Aside0.mk ((by rw [hg]; exact (below_size (by repeat (first | (with_reducible first | exact HB.out | apply below_alloc | apply pw_below_drewN | apply below_drew1) | exact HB.out))) : w.heap.size ≤ gb263)); clear HB; have HB := n0_; have BK263 := n1_; have GW263 := n2_; have GE263 := n3_; clear n0_ n1_ n2_ n3_; clear hb hbox hg; have hcz4_0 : w3.cell? ⟨gb263, 0, none⟩ = some (.bool true) := (blk_cell BK263.out 0).trans rfl; have hcz4_1 : w3.cell? ⟨gb263, 1, none⟩ = some (.int .u64 a0_1) := (blk_cell BK263.out 1).trans rfl; have hcz4_2 : w3.cell? ⟨gb263, 2, none⟩ = some (.string a0_2) := (blk_cell BK263.out 2).trans rfl; have hfz4_0 := blk_frozen BK263.out 0; have hfz4_1 := blk_frozen BK263.out 1; have hfz4_2 := blk_frozen BK263.out 2))
  go_ret
  exact ⟨by first | rfl | (simp [errW_none, errW_some] <;> rfl) | (simp [*, errW_none, errW_some] <;> rfl) | exact ret_ie _ | (simp [*, errW_none, errW_some, bne]; done), by repeat (first | (with_reducible first | exact HB.out | apply below_alloc | apply pw_below_drewN | apply below_drew1 | refine below_set ?_ GE263.out) | exact HB.out)⟩
 ·
  replace c2 := Bool.eq_false_iff.mpr c2
  subst c2
  have H1 : (some (a0_2.toList == ([] : List UInt8))) = some r := by rw [if_neg (show ¬ (false = true) by decide)] at H; exact H
  clear H
  have H := H1
  clear H1
  obtain rfl := Option.some.inj H
  go_enter Tryd.func43, Tryd.ntmps43
  go_wp2_with (first | ((with_reducible refine gate_dst (N := 1) rfl ?_); refine box_event ?hg (N := 1) ?hd (cs := #[.bool false, .int .u64 a0_1, .string a0_2]) (t := 49) ?hr ?_; (case hd => rfl); (case hg => rfl); (case hr => first | (go_simp; done) | (go_simp; rfl)); intro gb263 hg w5 hbox hb; have n0_ := Aside0.mk (below_step (by repeat (first | (with_reducible first | exact HB.out | apply below_alloc | apply pw_below_drewN | apply below_drew1) | exact HB.out)) hb); have n1_ := Aside0.mk (hbox); have n2_ := Aside0.mk ((by rw [hg]; exact (below_size (by repeat (first | (with_reducible first | exact HB.out | apply below_alloc | apply pw_below_drewN | apply below_drew1) | exact HB.out))) : w.heap.size ≤ gb263)); have n3_ := Aside0.mk ((by rw [hg]; exact (below_size (by repeat (first | (with_reducible first | exact HB.out | apply below_alloc | apply pw_below_drewN | apply below_drew1) | exact HB.out))) : w.heap.size ≤ gb263)); clear HB; have HB := n0_; have BK263 := n1_; have GW263 := n2_; have GE263 := n3_; clear n0_ n1_ n2_ n3_; clear hb hbox hg; have hcz6_0 : w5.cell? ⟨gb263, 0, none⟩ = some (.bool false) := (blk_cell BK263.out 0).trans rfl; have hcz6_1 : w5.cell? ⟨gb263, 1, none⟩ = some (.int .u64 a0_1) := (blk_cell BK263.out 1).trans rfl; have hcz6_2 : w5.cell? ⟨gb263, 2, none⟩ = some (.string a0_2) := (blk_cell BK263.out 2).trans rfl; have hfz6_0 := blk_frozen BK263.out 0; have hfz6_1 := blk_frozen BK263.out 1; have hfz6_2 := blk_frozen BK263.out 2))
  go_ret
  exact ⟨by first | rfl | (simp [errW_none, errW_some] <;> rfl) | (simp [*, errW_none, errW_some] <;> rfl) | exact ret_ie _ | (simp [*, errW_none, errW_some, bne]; done), by repeat (first | (with_reducible first | exact HB.out | apply below_alloc | apply pw_below_drewN | apply below_drew1 | refine below_set ?_ GE263.out) | exact HB.out)⟩

end Go.Proofs.YtdigdbbbjeelcaaDoor.R

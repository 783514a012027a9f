/- Small words for the walks. -/
import Derived.Test.YtoplhlacdjlidaaWAll
import Derived.Lib.SliceRun
namespace Go.Proofs.Ytoplhlacdjlidaa.Ret
open Go.RowKit Go.Proofs.YtoplhlacdjlidaaW.PrintWords Go.Proofs.YtoplhlacdjlidaaW.PrintLast
theorem ret_ie (l : List UInt8) : Ending.returned (.bool l.isEmpty) = .returned (.bool (!(l != []))) := by cases l <;> rfl
theorem C_string_ {P : Program} {w : World} {src dst e : TypeId} {A : Option Addr} {n c : Nat} {xs : List Int} (hs : P.underlying src = some (.slice e)) (he : P.underlying e = some (.int .u8)) (hd : P.underlying dst = some .string)
    (h : (Kd.int .u8).C w A n xs) : ∀ m, m = n → (convert src dst (.slice A m c)).run P w = .ok (.string (strOfNums xs)) w := fun _ hm => hm ▸ Kd.C_string hs he hd h
end Go.Proofs.Ytoplhlacdjlidaa.Ret

/- Small words for the walks. -/
import Derived.Test.YtbiphljdommacaaWMore
import Derived.Lib.SliceRun
namespace Go.Proofs.Ytbiphljdommacaa.Ret
open Go.RowKit Go.Proofs.YtbiphljdommacaaW.PrintWords Go.Proofs.YtbiphljdommacaaW.PrintLast
theorem ret_ie (l : List UInt8) : Ending.returned (.bool l.isEmpty) = .returned (.bool (!(l != []))) := by cases l <;> rfl
end Go.Proofs.Ytbiphljdommacaa.Ret

/- Small words for the walks. -/
import Derived.Test.YtoplhlacdjlidaaWAll
import Derived.Lib.SliceRun
namespace Go.Proofs.Ytoplhlacdjlidaa.Ret
open Go.RowKit Go.Proofs.YtoplhlacdjlidaaW.PrintWords Go.Proofs.YtoplhlacdjlidaaW.PrintLast
theorem ret_ie (l : List UInt8) : Ending.returned (.bool l.isEmpty) = .returned (.bool (!(l != []))) := by cases l <;> rfl
end Go.Proofs.Ytoplhlacdjlidaa.Ret

/- Small words for the walks. -/
import Derived.Test.YtdlghckcbbjipaaWMore
import Derived.Lib.SliceRun
namespace Go.Proofs.Ytdlghckcbbjipaa.Ret
open Go.RowKit Go.Proofs.YtdlghckcbbjipaaW.PrintWords Go.Proofs.YtdlghckcbbjipaaW.PrintLast
theorem ret_ie (l : List UInt8) : Ending.returned (.bool l.isEmpty) = .returned (.bool (!(l != []))) := by cases l <;> rfl
end Go.Proofs.Ytdlghckcbbjipaa.Ret

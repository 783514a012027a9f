/- Small words for the walks. -/
import Derived.Test.YtgeeignipammhaaWMore
import Derived.Lib.SliceRun
namespace Go.Proofs.Ytgeeignipammhaa.Ret
open Go.RowKit Go.Proofs.YtgeeignipammhaaW.PrintWords Go.Proofs.YtgeeignipammhaaW.PrintLast
theorem ret_ie (l : List UInt8) : Ending.returned (.bool l.isEmpty) = .returned (.bool (!(l != []))) := by cases l <;> rfl
end Go.Proofs.Ytgeeignipammhaa.Ret

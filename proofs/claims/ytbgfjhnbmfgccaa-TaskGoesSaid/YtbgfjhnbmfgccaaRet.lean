/- Small words for the walks. -/
import Derived.Test.YtbgfjhnbmfgccaaWMore
import Derived.Lib.SliceRun
namespace Go.Proofs.Ytbgfjhnbmfgccaa.Ret
open Go.RowKit Go.Proofs.YtbgfjhnbmfgccaaW.PrintWords Go.Proofs.YtbgfjhnbmfgccaaW.PrintLast
theorem ret_ie (l : List UInt8) : Ending.returned (.bool l.isEmpty) = .returned (.bool (!(l != []))) := by cases l <;> rfl
end Go.Proofs.Ytbgfjhnbmfgccaa.Ret

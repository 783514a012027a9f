/- The chapter's examples. -/
import Derived.Test.YtbgfjhnbmfgccaaRx15
import Derived.Test.YtbgfjhnbmfgccaaRTK
import Derived.Test.YtbgfjhnbmfgccaaRx0
import Derived.Test.YtbgfjhnbmfgccaaOpens
namespace Go.Proofs.Ytbgfjhnbmfgccaa.R
open Go.RowKit Go.Proofs.YtbgfjhnbmfgccaaW.PrintWords Go.Proofs.Ytbgfjhnbmfgccaa.Plain Go.Proofs.Ytbgfjhnbmfgccaa.Opens
set_option linter.unusedVariables false
theorem TaskNames_walk (w : World) : Calls Try.prog 5 #[] w fun e w' => e = .returned (.bool true) ∧ Below w.heap.size w w' := millhandlaw24_TaskNames.calls 12 true w (by decide +kernel)
end Go.Proofs.Ytbgfjhnbmfgccaa.R

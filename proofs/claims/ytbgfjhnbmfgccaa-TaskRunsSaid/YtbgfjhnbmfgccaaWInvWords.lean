/- Words of the walks: those of the print's words that the texts of this seat use. -/
import Derived.Test.YtbgfjhnbmfgccaaWInv
import Derived.Test.YtbgfjhnbmfgccaaWFootNe
namespace Go.Proofs.YtbgfjhnbmfgccaaW.PrintWords
open Go.RowKit
end Go.Proofs.YtbgfjhnbmfgccaaW.PrintWords
namespace Go.Proofs.YtbgfjhnbmfgccaaW.PrintLast
section
variable {ops : Array Oper} {a : Act} {o og : Oper} {g : Nat} {t : Tmp} {u : Bool}
end
end Go.Proofs.YtbgfjhnbmfgccaaW.PrintLast

/- Words of the walks: those of the print's words that the texts of this seat use. -/
import Derived.Test.YtdigdbbbjeelcaaDoorWInv
import Derived.Test.YtdigdbbbjeelcaaDoorWFootNe
namespace Go.Proofs.YtdigdbbbjeelcaaDoorW.PrintWords
open Go.RowKit
end Go.Proofs.YtdigdbbbjeelcaaDoorW.PrintWords
namespace Go.Proofs.YtdigdbbbjeelcaaDoorW.PrintLast
section
variable {ops : Array Oper} {a : Act} {o og : Oper} {g : Nat} {t : Tmp} {u : Bool}
end
end Go.Proofs.YtdigdbbbjeelcaaDoorW.PrintLast

/- Words of the walks: those of the print's words that the texts of this seat use. -/
import Derived.Test.YtpalnbdcemmlnaaWInv
import Derived.Test.YtpalnbdcemmlnaaWFootNe
namespace Go.Proofs.YtpalnbdcemmlnaaW.PrintWords
open Go.RowKit
end Go.Proofs.YtpalnbdcemmlnaaW.PrintWords
namespace Go.Proofs.YtpalnbdcemmlnaaW.PrintLast
section
variable {ops : Array Oper} {a : Act} {o og : Oper} {g : Nat} {t : Tmp} {u : Bool}
end
end Go.Proofs.YtpalnbdcemmlnaaW.PrintLast

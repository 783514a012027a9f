/- Words of the walks: those of the print's words that the texts of this seat use. -/
import Derived.Test.YtdigdbbbjeelcaaDoorWTab
/-! ### 56. Four, five, six operations that may come up next, in any order -/
namespace Go.Proofs.YtdigdbbbjeelcaaDoorW.PrintLast
section
variable {P : Program} {ops : Array Oper} {Q : Exit → Act → World → Prop} {md : Region.Mode} {S : World → Prop} {ds : List Nat} {T : Bool × List (List Nat × List Nat)}
end
end Go.Proofs.YtdigdbbbjeelcaaDoorW.PrintLast

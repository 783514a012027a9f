/- Words of the walks: those of the print's words that the texts of this seat use. -/
import Derived.Test.YtdigdbbbjeelcaaDoorWWords
import Derived.Laws.StructEq
/-! ### 53. '==' of structs as_ one Bool -/
namespace Go.Proofs.YtdigdbbbjeelcaaDoorW.PrintWords
open Go.RowKit
section
variable {P : Program} {d : Nat} {xs ys : Array Value} {f : Field} {fs : List Field} {a b : Value} {r s : Bool} {w : World}
end
end Go.Proofs.YtdigdbbbjeelcaaDoorW.PrintWords

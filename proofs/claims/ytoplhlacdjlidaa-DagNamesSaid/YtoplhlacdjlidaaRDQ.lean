/- Marks, in plain words. -/
import Derived.Test.YtoplhlacdjlidaaRDM
namespace Go.Proofs.Ytoplhlacdjlidaa.R
open Go.RowKit Go.Proofs.YtoplhlacdjlidaaW.PrintWords Go.Proofs.YtoplhlacdjlidaaW.PrintLast Go.Proofs.YtoplhlacdjlidaaW.PrintMore Go.Proofs.Ytoplhlacdjlidaa.Plain
set_option linter.unusedVariables false
set_option linter.unusedSimpArgs false
/-- The nodes of a list as marks. -/
def marks (n : Nat) (acc : List Nat) : List Bool := (List.range n).map fun i => acc.contains i
end Go.Proofs.Ytoplhlacdjlidaa.R

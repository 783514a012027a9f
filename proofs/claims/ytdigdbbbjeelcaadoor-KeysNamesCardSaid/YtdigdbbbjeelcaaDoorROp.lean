/- What the types of the laws' arguments read as. -/
import Derived.Test.YtdigdbbbjeelcaaDoorRx0
import Derived.Test.YtdigdbbbjeelcaaDoorOpens
namespace Go.Proofs.YtdigdbbbjeelcaaDoor.R
open Go.RowKit Go.Proofs.YtdigdbbbjeelcaaDoorW.PrintWords Go.Proofs.YtdigdbbbjeelcaaDoor.Opens
set_option linter.unusedVariables false
theorem op3 : Opens Tryd.prog 3 (Kd.int .i64) (fun x => (Lit.int .i64 x).wf = true) := Opens.int Tryd.underlying3 (by kernel_rfl)
theorem op9 : Opens Tryd.prog 9 Kd.string (fun x => x.size ≤ 140737488351232) := Opens.string Tryd.underlying9 (by kernel_rfl)
theorem op5 : Opens Tryd.prog 5 (Kd.int .u8) (fun x => (Lit.int .u8 x).wf = true) := Opens.int Tryd.underlying5 (by kernel_rfl)
end Go.Proofs.YtdigdbbbjeelcaaDoor.R

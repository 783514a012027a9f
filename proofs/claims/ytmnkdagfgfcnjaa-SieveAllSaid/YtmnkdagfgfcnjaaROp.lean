/- What the types of the laws' arguments read as. -/
import Derived.Test.YtmnkdagfgfcnjaaRx0
import Derived.Test.YtmnkdagfgfcnjaaOpens
namespace Go.Proofs.Ytmnkdagfgfcnjaa.R
open Go.RowKit Go.Proofs.YtmnkdagfgfcnjaaW.PrintWords Go.Proofs.Ytmnkdagfgfcnjaa.Opens
set_option linter.unusedVariables false
theorem op9 : Opens Try.prog 9 Kd.string (fun x => x.size ≤ 140737488351232) := Opens.string Try.underlying9 (by kernel_rfl)
theorem op28 : Opens Try.prog 28 (Kd.slice 9 Kd.string) (fun x => (x.length * 16 ≤ 140737488351232 ∧ x.length ≤ 9223372036854775807 ∧ ∀ y0 ∈ x, y0.size ≤ 140737488351232)) := Opens.slice Try.underlying28 (by kernel_rfl) (B := 16) (by kernel_rfl) op9
end Go.Proofs.Ytmnkdagfgfcnjaa.R

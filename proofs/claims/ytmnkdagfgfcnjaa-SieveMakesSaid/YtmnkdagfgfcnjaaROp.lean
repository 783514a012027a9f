/- What the types of the laws' arguments read as. -/
import Derived.Test.YtmnkdagfgfcnjaaRx0
import Derived.Test.YtmnkdagfgfcnjaaOpens
namespace Go.Proofs.Ytmnkdagfgfcnjaa.R
open Go.RowKit Go.Proofs.YtmnkdagfgfcnjaaW.PrintWords Go.Proofs.Ytmnkdagfgfcnjaa.Opens
set_option linter.unusedVariables false
theorem op9 : Opens Try.prog 9 Kd.string (fun x => x.size ≤ 140737488351232) := Opens.string Try.underlying9 (by kernel_rfl)
theorem op28 : Opens Try.prog 28 (Kd.slice 9 Kd.string) (fun x => (x.length * 16 ≤ 140737488351232 ∧ x.length ≤ 9223372036854775807 ∧ ∀ y0 ∈ x, y0.size ≤ 140737488351232)) := Opens.slice Try.underlying28 (by kernel_rfl) (B := 16) (by kernel_rfl) op9
theorem op5 : Opens Try.prog 5 (Kd.int .u8) (fun x => (Lit.int .u8 x).wf = true) := Opens.int Try.underlying5 (by kernel_rfl)
theorem op22 : Opens Try.prog 22 (Kd.slice 5 (Kd.int .u8)) (fun x => (x.length * 1 ≤ 140737488351232 ∧ x.length ≤ 9223372036854775807 ∧ ∀ y0 ∈ x, (Lit.int .u8 y0).wf = true)) := Opens.slice Try.underlying22 (by kernel_rfl) (B := 1) (by kernel_rfl) op5
theorem op3 : Opens Try.prog 3 (Kd.int .i64) (fun x => (Lit.int .i64 x).wf = true) := Opens.int Try.underlying3 (by kernel_rfl)
end Go.Proofs.Ytmnkdagfgfcnjaa.R

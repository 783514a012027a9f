/- What the types of the laws' arguments read as. -/
import Derived.Test.YtfkhnjjkkkhigaaQx0
import Derived.Test.YtfkhnjjkkkhigaaOpens
namespace Go.Proofs.Ytfkhnjjkkkhigaa.Q
open Go.RowKit Go.Proofs.YtfkhnjjkkkhigaaW.PrintWords Go.Proofs.Ytfkhnjjkkkhigaa.Opens
set_option linter.unusedVariables false
theorem op22 : Opens Try.prog 22 (Kd.int .u64) (fun x => (Lit.int .u64 x).wf = true) := Opens.int Try.underlying22 (by kernel_rfl)
theorem op9 : Opens Try.prog 9 Kd.string (fun x => x.size ≤ 140737488351232) := Opens.string Try.underlying9 (by kernel_rfl)
theorem op5 : Opens Try.prog 5 (Kd.int .u8) (fun x => (Lit.int .u8 x).wf = true) := Opens.int Try.underlying5 (by kernel_rfl)
theorem op23 : Opens Try.prog 23 (Kd.slice 5 (Kd.int .u8)) (fun x => (x.length * 1 ≤ 140737488351232 ∧ x.length ≤ 9223372036854775807 ∧ ∀ y0 ∈ x, (Lit.int .u8 y0).wf = true)) := Opens.slice Try.underlying23 (by kernel_rfl) (B := 1) (by kernel_rfl) op5
end Go.Proofs.Ytfkhnjjkkkhigaa.Q

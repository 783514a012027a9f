/- What the types of the laws' arguments read as. -/
import Derived.Test.YtonbfefceblfgaaRx0
import Derived.Test.YtonbfefceblfgaaOpens
namespace Go.Proofs.Ytonbfefceblfgaa.R
open Go.RowKit Go.Proofs.YtonbfefceblfgaaW.PrintWords Go.Proofs.Ytonbfefceblfgaa.Opens
set_option linter.unusedVariables false
theorem op3 : Opens Try.prog 3 (Kd.int .i64) (fun x => (Lit.int .i64 x).wf = true) := Opens.int Try.underlying3 (by kernel_rfl)
theorem op9 : Opens Try.prog 9 Kd.string (fun x => x.size ≤ 140737488351232) := Opens.string Try.underlying9 (by kernel_rfl)
theorem op4 : Opens Try.prog 4 Kd.bool (fun _ => True) := Opens.bool Try.underlying4 (by kernel_rfl)
abbrev g49 (x : S49) : Prop := x.f0.size ≤ 140737488351232 ∧ True ∧ x.f2.size ≤ 140737488351232
theorem op49 : Opens Try.prog 49 k49 (fun x => g49 x) :=
  Opens.struct (fun x : S49 => (x.f0, x.f1, x.f2)) (fun p => (⟨p.1, p.2.1, p.2.2⟩ : S49)) (fun _ => rfl) Try.underlying49 (fl := [(9, 0), (4, 1), (9, 2)]) (by rfl) (by kernel_rfl) (OpensF.more op9 (OpensF.more op4 (OpensF.one op9)))
theorem op22 : Opens Try.prog 22 (Kd.slice 49 k49) (fun x => (x.length * 40 ≤ 140737488351232 ∧ x.length ≤ 9223372036854775807 ∧ ∀ y0 ∈ x, g49 y0)) := Opens.slice Try.underlying22 (by kernel_rfl) (B := 40) (by kernel_rfl) op49
theorem op5 : Opens Try.prog 5 (Kd.int .u8) (fun x => (Lit.int .u8 x).wf = true) := Opens.int Try.underlying5 (by kernel_rfl)
theorem op24 : Opens Try.prog 24 (Kd.slice 5 (Kd.int .u8)) (fun x => (x.length * 1 ≤ 140737488351232 ∧ x.length ≤ 9223372036854775807 ∧ ∀ y0 ∈ x, (Lit.int .u8 y0).wf = true)) := Opens.slice Try.underlying24 (by kernel_rfl) (B := 1) (by kernel_rfl) op5
end Go.Proofs.Ytonbfefceblfgaa.R

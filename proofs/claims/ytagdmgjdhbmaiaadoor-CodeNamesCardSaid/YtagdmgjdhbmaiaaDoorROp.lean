/- What the types of the laws' arguments read as. -/
import Derived.Test.YtagdmgjdhbmaiaaDoorRx0
import Derived.Test.YtagdmgjdhbmaiaaDoorOpens
namespace Go.Proofs.YtagdmgjdhbmaiaaDoor.R
open Go.RowKit Go.Proofs.YtagdmgjdhbmaiaaDoorW.PrintWords Go.Proofs.YtagdmgjdhbmaiaaDoor.Opens
set_option linter.unusedVariables false
theorem op4 : Opens Tryd.prog 4 Kd.bool (fun _ => True) := Opens.bool Tryd.underlying4 (by kernel_rfl)
theorem op40 : Opens Tryd.prog 40 (Kd.int .u64) (fun x => (Lit.int .u64 x).wf = true) := Opens.int Tryd.underlying40 (by kernel_rfl)
theorem op9 : Opens Tryd.prog 9 Kd.string (fun x => x.size ≤ 140737488351232) := Opens.string Tryd.underlying9 (by kernel_rfl)
abbrev g50 (x : S50) : Prop := True ∧ (Lit.int .u64 x.f1).wf = true ∧ x.f2.size ≤ 140737488351232
theorem op50 : Opens Tryd.prog 50 k50 (fun x => g50 x) :=
  Opens.struct (fun x : S50 => (x.f0, x.f1, x.f2)) (fun p => (⟨p.1, p.2.1, p.2.2⟩ : S50)) (fun _ => rfl) Tryd.underlying50 (fl := [(4, 0), (40, 1), (9, 2)]) (by rfl) (by kernel_rfl) (OpensF.more op4 (OpensF.more op40 (OpensF.one op9)))
theorem op22 : Opens Tryd.prog 22 (Kd.slice 50 k50) (fun x => (x.length * 32 ≤ 140737488351232 ∧ x.length ≤ 9223372036854775807 ∧ ∀ y0 ∈ x, g50 y0)) := Opens.slice Tryd.underlying22 (by kernel_rfl) (B := 32) (by kernel_rfl) op50
theorem op5 : Opens Tryd.prog 5 (Kd.int .u8) (fun x => (Lit.int .u8 x).wf = true) := Opens.int Tryd.underlying5 (by kernel_rfl)
theorem op41 : Opens Tryd.prog 41 (Kd.slice 5 (Kd.int .u8)) (fun x => (x.length * 1 ≤ 140737488351232 ∧ x.length ≤ 9223372036854775807 ∧ ∀ y0 ∈ x, (Lit.int .u8 y0).wf = true)) := Opens.slice Tryd.underlying41 (by kernel_rfl) (B := 1) (by kernel_rfl) op5
theorem op3 : Opens Tryd.prog 3 (Kd.int .i64) (fun x => (Lit.int .i64 x).wf = true) := Opens.int Tryd.underlying3 (by kernel_rfl)
end Go.Proofs.YtagdmgjdhbmaiaaDoor.R

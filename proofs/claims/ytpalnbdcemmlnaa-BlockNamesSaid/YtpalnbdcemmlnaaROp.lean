/- What the types of the laws' arguments read as. -/
import Derived.Test.YtpalnbdcemmlnaaRx0
import Derived.Test.YtpalnbdcemmlnaaOpens
namespace Go.Proofs.Ytpalnbdcemmlnaa.R
open Go.RowKit Go.Proofs.YtpalnbdcemmlnaaW.PrintWords Go.Proofs.Ytpalnbdcemmlnaa.Opens
set_option linter.unusedVariables false
theorem op9 : Opens Try.prog 9 Kd.string (fun x => x.size ≤ 140737488351232) := Opens.string Try.underlying9 (by kernel_rfl)
theorem op3 : Opens Try.prog 3 (Kd.int .i64) (fun x => (Lit.int .i64 x).wf = true) := Opens.int Try.underlying3 (by kernel_rfl)
theorem op4 : Opens Try.prog 4 Kd.bool (fun _ => True) := Opens.bool Try.underlying4 (by kernel_rfl)
abbrev g39 (x : S39) : Prop := x.f0.size ≤ 140737488351232 ∧ (Lit.int .i64 x.f1).wf = true ∧ True ∧ x.f3.size ≤ 140737488351232
theorem op39 : Opens Try.prog 39 k39 (fun x => g39 x) :=
  Opens.struct (fun x : S39 => (x.f0, x.f1, x.f2, x.f3)) (fun p => (⟨p.1, p.2.1, p.2.2.1, p.2.2.2⟩ : S39)) (fun _ => rfl) Try.underlying39 (fl := [(9, 0), (3, 1), (4, 2), (9, 3)]) (by rfl) (by kernel_rfl) (OpensF.more op9 (OpensF.more op3 (OpensF.more op4 (OpensF.one op9))))
theorem op22 : Opens Try.prog 22 (Kd.slice 39 k39) (fun x => (x.length * 48 ≤ 140737488351232 ∧ x.length ≤ 9223372036854775807 ∧ ∀ y0 ∈ x, g39 y0)) := Opens.slice Try.underlying22 (by kernel_rfl) (B := 48) (by kernel_rfl) op39
theorem op5 : Opens Try.prog 5 (Kd.int .u8) (fun x => (Lit.int .u8 x).wf = true) := Opens.int Try.underlying5 (by kernel_rfl)
theorem op23 : Opens Try.prog 23 (Kd.slice 5 (Kd.int .u8)) (fun x => (x.length * 1 ≤ 140737488351232 ∧ x.length ≤ 9223372036854775807 ∧ ∀ y0 ∈ x, (Lit.int .u8 y0).wf = true)) := Opens.slice Try.underlying23 (by kernel_rfl) (B := 1) (by kernel_rfl) op5
end Go.Proofs.Ytpalnbdcemmlnaa.R

/- What the types of the laws' arguments read as. -/
import Derived.Test.YtoplhlacdjlidaaRx0
import Derived.Test.YtoplhlacdjlidaaOpens
namespace Go.Proofs.Ytoplhlacdjlidaa.R
open Go.RowKit Go.Proofs.YtoplhlacdjlidaaW.PrintWords Go.Proofs.Ytoplhlacdjlidaa.Opens
set_option linter.unusedVariables false
theorem op3 : Opens Try.prog 3 (Kd.int .i64) (fun x => (Lit.int .i64 x).wf = true) := Opens.int Try.underlying3 (by kernel_rfl)
theorem op35 : Opens Try.prog 35 (Kd.slice 3 (Kd.int .i64)) (fun x => (x.length * 8 ≤ 140737488351232 ∧ x.length ≤ 9223372036854775807 ∧ ∀ y0 ∈ x, (Lit.int .i64 y0).wf = true)) := Opens.slice Try.underlying35 (by kernel_rfl) (B := 8) (by kernel_rfl) op3
abbrev g40 (x : S40) : Prop := (x.f0.length * 8 ≤ 140737488351232 ∧ x.f0.length ≤ 9223372036854775807 ∧ ∀ y0 ∈ x.f0, (Lit.int .i64 y0).wf = true) ∧ (Lit.int .i64 x.f1).wf = true ∧ (Lit.int .i64 x.f2).wf = true
theorem op40 : Opens Try.prog 40 k40 (fun x => g40 x) :=
  Opens.struct (fun x : S40 => (x.f0, x.f1, x.f2)) (fun p => (⟨p.1, p.2.1, p.2.2⟩ : S40)) (fun _ => rfl) Try.underlying40 (fl := [(35, 0), (3, 1), (3, 2)]) (by rfl) (by kernel_rfl) (OpensF.more op35 (OpensF.more op3 (OpensF.one op3)))
theorem op23 : Opens Try.prog 23 (Kd.slice 40 k40) (fun x => (x.length * 40 ≤ 140737488351232 ∧ x.length ≤ 9223372036854775807 ∧ ∀ y0 ∈ x, g40 y0)) := Opens.slice Try.underlying23 (by kernel_rfl) (B := 40) (by kernel_rfl) op40
structure S25 where
  f0 : List S40
def k25 : Kd S25 := Kd.iso (Kd.slice 40 k40) (fun x : S25 => x.f0)
abbrev g25 (x : S25) : Prop := (x.f0.length * 40 ≤ 140737488351232 ∧ x.f0.length ≤ 9223372036854775807 ∧ ∀ y0 ∈ x.f0, g40 y0)
theorem op25 : Opens Try.prog 25 k25 (fun x => g25 x) :=
  Opens.struct (fun x : S25 => x.f0) (fun p => (⟨p⟩ : S25)) (fun _ => rfl) Try.underlying25 (fl := [(23, 0)]) (by rfl) (by kernel_rfl) (OpensF.one op23)
theorem op4 : Opens Try.prog 4 Kd.bool (fun _ => True) := Opens.bool Try.underlying4 (by kernel_rfl)
theorem op38 : Opens Try.prog 38 (Kd.slice 4 Kd.bool) (fun x => (x.length * 1 ≤ 140737488351232 ∧ x.length ≤ 9223372036854775807 ∧ ∀ y0 ∈ x, True)) := Opens.slice Try.underlying38 (by kernel_rfl) (B := 1) (by kernel_rfl) op4
end Go.Proofs.Ytoplhlacdjlidaa.R

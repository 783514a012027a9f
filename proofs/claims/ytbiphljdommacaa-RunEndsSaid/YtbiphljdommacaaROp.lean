/- What the types of the laws' arguments read as. -/
import Derived.Test.YtbiphljdommacaaRx0
import Derived.Test.YtbiphljdommacaaOpens
namespace Go.Proofs.Ytbiphljdommacaa.R
open Go.RowKit Go.Proofs.YtbiphljdommacaaW.PrintWords Go.Proofs.Ytbiphljdommacaa.Opens
set_option linter.unusedVariables false
theorem op3 : Opens Try.prog 3 (Kd.int .i64) (fun x => (Lit.int .i64 x).wf = true) := Opens.int Try.underlying3 (by kernel_rfl)
theorem op33 : Opens Try.prog 33 (Kd.slice 3 (Kd.int .i64)) (fun x => (x.length * 8 ≤ 140737488351232 ∧ x.length ≤ 9223372036854775807 ∧ ∀ y0 ∈ x, (Lit.int .i64 y0).wf = true)) := Opens.slice Try.underlying33 (by kernel_rfl) (B := 8) (by kernel_rfl) op3
abbrev g60 (x : S60) : Prop := (x.f0.length * 8 ≤ 140737488351232 ∧ x.f0.length ≤ 9223372036854775807 ∧ ∀ y0 ∈ x.f0, (Lit.int .i64 y0).wf = true) ∧ (Lit.int .i64 x.f1).wf = true ∧ (Lit.int .i64 x.f2).wf = true
theorem op60 : Opens Try.prog 60 k60 (fun x => g60 x) :=
  Opens.struct (fun x : S60 => (x.f0, x.f1, x.f2)) (fun p => (⟨p.1, p.2.1, p.2.2⟩ : S60)) (fun _ => rfl) Try.underlying60 (fl := [(33, 0), (3, 1), (3, 2)]) (by rfl) (by kernel_rfl) (OpensF.more op33 (OpensF.more op3 (OpensF.one op3)))
theorem op22 : Opens Try.prog 22 (Kd.slice 60 k60) (fun x => (x.length * 40 ≤ 140737488351232 ∧ x.length ≤ 9223372036854775807 ∧ ∀ y0 ∈ x, g60 y0)) := Opens.slice Try.underlying22 (by kernel_rfl) (B := 40) (by kernel_rfl) op60
structure S24 where
  f0 : List S60
def k24 : Kd S24 := Kd.iso (Kd.slice 60 k60) (fun x : S24 => x.f0)
abbrev g24 (x : S24) : Prop := (x.f0.length * 40 ≤ 140737488351232 ∧ x.f0.length ≤ 9223372036854775807 ∧ ∀ y0 ∈ x.f0, g60 y0)
theorem op24 : Opens Try.prog 24 k24 (fun x => g24 x) :=
  Opens.struct (fun x : S24 => x.f0) (fun p => (⟨p⟩ : S24)) (fun _ => rfl) Try.underlying24 (fl := [(22, 0)]) (by rfl) (by kernel_rfl) (OpensF.one op22)
theorem op5 : Opens Try.prog 5 (Kd.int .u8) (fun x => (Lit.int .u8 x).wf = true) := Opens.int Try.underlying5 (by kernel_rfl)
theorem op25 : Opens Try.prog 25 (Kd.slice 5 (Kd.int .u8)) (fun x => (x.length * 1 ≤ 140737488351232 ∧ x.length ≤ 9223372036854775807 ∧ ∀ y0 ∈ x, (Lit.int .u8 y0).wf = true)) := Opens.slice Try.underlying25 (by kernel_rfl) (B := 1) (by kernel_rfl) op5
end Go.Proofs.Ytbiphljdommacaa.R

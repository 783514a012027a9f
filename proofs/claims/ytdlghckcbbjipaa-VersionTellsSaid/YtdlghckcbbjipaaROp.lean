/- What the types of the laws' arguments read as. -/
import Derived.Test.YtdlghckcbbjipaaRx0
import Derived.Test.YtdlghckcbbjipaaOpens
namespace Go.Proofs.Ytdlghckcbbjipaa.R
open Go.RowKit Go.Proofs.YtdlghckcbbjipaaW.PrintWords Go.Proofs.Ytdlghckcbbjipaa.Opens
set_option linter.unusedVariables false
theorem op9 : Opens Try.prog 9 Kd.string (fun x => x.size ≤ 140737488351232) := Opens.string Try.underlying9 (by kernel_rfl)
theorem op3 : Opens Try.prog 3 (Kd.int .i64) (fun x => (Lit.int .i64 x).wf = true) := Opens.int Try.underlying3 (by kernel_rfl)
abbrev g32 (x : S32) : Prop := x.f0.size ≤ 140737488351232 ∧ (Lit.int .i64 x.f1).wf = true ∧ (Lit.int .i64 x.f2).wf = true ∧ x.f3.size ≤ 140737488351232 ∧ x.f4.size ≤ 140737488351232
theorem op32 : Opens Try.prog 32 k32 (fun x => g32 x) :=
  Opens.struct (fun x : S32 => (x.f0, x.f1, x.f2, x.f3, x.f4)) (fun p => (⟨p.1, p.2.1, p.2.2.1, p.2.2.2.1, p.2.2.2.2⟩ : S32)) (fun _ => rfl) Try.underlying32 (fl := [(9, 0), (3, 1), (3, 2), (9, 3), (9, 4)]) (by rfl) (by kernel_rfl) (OpensF.more op9 (OpensF.more op3 (OpensF.more op3 (OpensF.more op9 (OpensF.one op9)))))
theorem op27 : Opens Try.prog 27 (Kd.slice 32 k32) (fun x => (x.length * 64 ≤ 140737488351232 ∧ x.length ≤ 9223372036854775807 ∧ ∀ y0 ∈ x, g32 y0)) := Opens.slice Try.underlying27 (by kernel_rfl) (B := 64) (by kernel_rfl) op32
theorem op22 : Opens Try.prog 22 (Kd.slice 27 (Kd.slice 32 k32)) (fun x => (x.length * 24 ≤ 140737488351232 ∧ x.length ≤ 9223372036854775807 ∧ ∀ y0 ∈ x, (y0.length * 64 ≤ 140737488351232 ∧ y0.length ≤ 9223372036854775807 ∧ ∀ y1 ∈ y0, g32 y1))) := Opens.slice Try.underlying22 (by kernel_rfl) (B := 24) (by kernel_rfl) op27
structure S24 where
  f0 : List (List S32)
  f1 : Int
  f2 : Int
  f3 : ByteArray
def k24 : Kd S24 := Kd.iso (Kd.pair (Kd.slice 27 (Kd.slice 32 k32)) (Kd.pair (Kd.int .i64) (Kd.pair (Kd.int .i64) Kd.string))) (fun x : S24 => (x.f0, x.f1, x.f2, x.f3))
abbrev g24 (x : S24) : Prop := (x.f0.length * 24 ≤ 140737488351232 ∧ x.f0.length ≤ 9223372036854775807 ∧ ∀ y0 ∈ x.f0, (y0.length * 64 ≤ 140737488351232 ∧ y0.length ≤ 9223372036854775807 ∧ ∀ y1 ∈ y0, g32 y1)) ∧ (Lit.int .i64 x.f1).wf = true ∧ (Lit.int .i64 x.f2).wf = true ∧ x.f3.size ≤ 140737488351232
theorem op24 : Opens Try.prog 24 k24 (fun x => g24 x) :=
  Opens.struct (fun x : S24 => (x.f0, x.f1, x.f2, x.f3)) (fun p => (⟨p.1, p.2.1, p.2.2.1, p.2.2.2⟩ : S24)) (fun _ => rfl) Try.underlying24 (fl := [(22, 0), (3, 1), (3, 2), (9, 3)]) (by rfl) (by kernel_rfl) (OpensF.more op22 (OpensF.more op3 (OpensF.more op3 (OpensF.one op9))))
end Go.Proofs.Ytdlghckcbbjipaa.R

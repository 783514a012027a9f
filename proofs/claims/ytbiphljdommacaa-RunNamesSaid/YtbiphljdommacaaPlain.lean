/- Plain words: the rounds' events, numbers as bytes. No program in sight. -/
import Derived.Test.YtbiphljdommacaaWMore
namespace Go.Proofs.Ytbiphljdommacaa.Plain
open Go.RowKit Go.Proofs.YtbiphljdommacaaW.PrintWords
set_option linter.unusedVariables false

section
variable {α : Type} {c : Prop} [Decidable c] {g f : Nat → Option α} {r : α}
end

theorem w64 {i : Int} (h0 : -9223372036854775808 ≤ i) (h1 : i < 9223372036854775808) : wrap64 i = i := by unfold wrap64; omega
end Go.Proofs.Ytbiphljdommacaa.Plain

/- The chapter's examples. -/
import Derived.Test.YtbiphljdommacaaRx38
import Derived.Test.YtbiphljdommacaaPlain
namespace Go.Proofs.Ytbiphljdommacaa.R
open Go.RowKit Go.Proofs.YtbiphljdommacaaW.PrintWords Go.Proofs.YtbiphljdommacaaW.PrintLast Go.Proofs.YtbiphljdommacaaW.PrintMore Go.Proofs.Ytbiphljdommacaa.Plain
set_option linter.unusedVariables false
theorem RunNames_ev : Ev (fun k => millhandlaw25_RunNames.f k) true := Ev.of millhandlaw25_RunNames.mono (k := 60) (by decide +kernel)
theorem RunNames_walk (w : World) : Calls Try.prog 4 #[] w fun e w' => e = .returned (.bool true) ∧ Below w.heap.size w w' := by
  obtain ⟨k, h⟩ := RunNames_ev.rounds
  exact millhandlaw25_RunNames.calls k true w h rfl
end Go.Proofs.Ytbiphljdommacaa.R

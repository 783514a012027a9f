/- The chapter's examples. -/
import Derived.Test.YtoplhlacdjlidaaRx26
namespace Go.Proofs.Ytoplhlacdjlidaa.R
open Go.RowKit Go.Proofs.YtoplhlacdjlidaaW.PrintWords Go.Proofs.YtoplhlacdjlidaaW.PrintLast Go.Proofs.YtoplhlacdjlidaaW.PrintMore Go.Proofs.Ytoplhlacdjlidaa.Plain
set_option linter.unusedVariables false
set_option linter.unusedSimpArgs false
theorem DagNames_ev : Ev (fun k => millhandlaw23_DagNames.f k) true := Ev.of millhandlaw23_DagNames.mono (k := 60) (by decide +kernel)
theorem DagNames_walk (w : World) : Calls Try.prog 7 #[] w fun e w' => e = .returned (.bool true) ∧ Below w.heap.size w w' := by
  obtain ⟨k, h⟩ := DagNames_ev.rounds
  exact millhandlaw23_DagNames.calls k true w h
end Go.Proofs.Ytoplhlacdjlidaa.R

/- Code: the chapter's examples. -/
import Derived.Test.YtagdmgjdhbmaiaaDoorRx19
import Derived.Test.YtagdmgjdhbmaiaaDoorPlain
namespace Go.Proofs.YtagdmgjdhbmaiaaDoor.R
open Go.RowKit Go.Proofs.YtagdmgjdhbmaiaaDoorW.PrintWords Go.Proofs.YtagdmgjdhbmaiaaDoor.Plain
set_option linter.unusedVariables false
theorem CodeNames_ev : Ev (fun k => millhandlaw01_CodeNames.f k) true := Ev.of millhandlaw01_CodeNames.mono (k := 60) (by decide +kernel)
theorem CodeNames_walk (w : World) :
    Calls Tryd.prog 8 #[] w fun e w' => e = .returned (.bool true) ∧ Below w.heap.size w w' := by
  obtain ⟨k, h⟩ := CodeNames_ev.rounds
  exact millhandlaw01_CodeNames.calls k true w h rfl
end Go.Proofs.YtagdmgjdhbmaiaaDoor.R

/- The chapter's examples. -/
import Derived.Test.YtdigdbbbjeelcaaDoorRx8
import Derived.Test.YtdigdbbbjeelcaaDoorPlain
namespace Go.Proofs.YtdigdbbbjeelcaaDoor.R
open Go.RowKit Go.Proofs.YtdigdbbbjeelcaaDoorW.PrintWords Go.Proofs.YtdigdbbbjeelcaaDoor.Plain
set_option linter.unusedVariables false
theorem KeysNames_ev : Ev (fun k => millhandlaw22_KeysNames.f k) true := Ev.of millhandlaw22_KeysNames.mono (k := 40) (by decide +kernel)
theorem KeysNames_walk (w : World) :
    Calls Tryd.prog 5 #[] w fun e w' => e = .returned (.bool true) ∧ Below w.heap.size w w' := by
  obtain ⟨k, h⟩ := KeysNames_ev.rounds
  exact millhandlaw22_KeysNames.calls k true w h rfl
end Go.Proofs.YtdigdbbbjeelcaaDoor.R

/- Proofs that the walks give often, found from what is at hand. -/
import Derived.Test.YtdlghckcbbjipaaCo
namespace Go.Proofs.Ytdlghckcbbjipaa.Ti
open Go.RowKit Go.Proofs.YtdlghckcbbjipaaW.PrintWords Go.Proofs.YtdlghckcbbjipaaW.PrintLast Go.Proofs.YtdlghckcbbjipaaW.PrintMore
set_option linter.unusedVariables false
/-- What stood before is as it was. -/
theorem hq_ {p : Prop} (h : p := by (repeat (first | exact Aside0.out (by with_reducible assumption) | (with_reducible first | apply below_alloc | apply pw_below_drewN | apply below_drew1 | refine below_set ?_ (Aside0.out (by with_reducible assumption))) | exact Aside0.out (by assumption)))) : p := h
end Go.Proofs.Ytdlghckcbbjipaa.Ti

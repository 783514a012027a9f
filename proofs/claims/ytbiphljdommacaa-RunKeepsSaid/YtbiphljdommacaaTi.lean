/- Proofs that the walks give often, found from what is at hand. -/
import Derived.Test.YtbiphljdommacaaCo
namespace Go.Proofs.Ytbiphljdommacaa.Ti
open Go.RowKit Go.Proofs.YtbiphljdommacaaW.PrintWords Go.Proofs.YtbiphljdommacaaW.PrintLast Go.Proofs.YtbiphljdommacaaW.PrintMore
set_option linter.unusedVariables false
/-- A block is as it was. -/
theorem bq_ {p : Prop} (h : p := by ((with_reducible repeat (first | refine blk_drewN ?_ _ | refine blk_drew ?_ | refine blk_alloc ?_ _)); exact Aside0.out (by first | with_reducible assumption | assumption))) : p := h
/-- A block is as it was, though others were written. -/
theorem bf_ {p : Prop} (h : p := by ((repeat (first | with_reducible refine blk_drewN ?_ _ | with_reducible refine blk_drew ?_ | with_reducible refine blk_alloc ?_ _ | refine blk_far ?_ (Aside0.out (by first | with_reducible assumption | assumption)) _)); exact Aside0.out (by first | with_reducible assumption | assumption))) : p := h
/-- What stood before is as it was. -/
theorem hq_ {p : Prop} (h : p := by (repeat (first | exact Aside0.out (by with_reducible assumption) | (with_reducible first | apply below_alloc | apply pw_below_drewN | apply below_drew1 | refine below_set ?_ (Aside0.out (by with_reducible assumption))) | exact Aside0.out (by assumption)))) : p := h
end Go.Proofs.Ytbiphljdommacaa.Ti

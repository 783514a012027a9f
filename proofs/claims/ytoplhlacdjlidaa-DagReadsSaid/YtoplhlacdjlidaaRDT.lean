/- The document's answers on specs, in plain words. -/
import Derived.Test.YtoplhlacdjlidaaRx12
import Derived.Test.YtoplhlacdjlidaaRx17
import Derived.Test.YtoplhlacdjlidaaRx0
import Derived.Test.YtoplhlacdjlidaaRx5
import Derived.Lib.AppendZerosOnto
import Derived.Lib.SliceRun
import Derived.Test.YtoplhlacdjlidaaRx14
import Derived.Test.YtoplhlacdjlidaaRD2
import Derived.Test.YtoplhlacdjlidaaRx4
import Derived.WalkMore
import Derived.Laws.BitsLemmas
import Derived.Test.YtoplhlacdjlidaaRDO
namespace Go.Proofs.Ytoplhlacdjlidaa.R
open Go.RowKit Go.Proofs.YtoplhlacdjlidaaW.PrintWords Go.Proofs.YtoplhlacdjlidaaW.PrintLast Go.Proofs.YtoplhlacdjlidaaW.PrintMore Go.Proofs.Ytoplhlacdjlidaa.Plain
set_option linter.unusedVariables false
set_option linter.unusedSimpArgs false
theorem numbers_l0 (a b : List Int) (hl : a.length = b.length) (ha : a.length ≤ 1099511627776) : ∀ (d i : Nat), i + d = a.length → Ev (fun k => millhandref23_Numbers.l0 k a b (i : Int)) (decide (a.drop i = b.drop i))
  | 0, i, h => by
    rw [List.drop_eq_nil_of_le (show a.length ≤ i by omega), List.drop_eq_nil_of_le (show b.length ≤ i by omega)]
    exact Ev.step (fun _ => millhandref23_Numbers.l0.eq_2 ..) (ev_neg (by omega) (Ev.now _))
  | d + 1, i, h => by
    have hi : i < a.length := by omega
    have hi2 : i < b.length := by omega
    rw [List.drop_eq_getElem_cons hi, List.drop_eq_getElem_cons hi2]
    refine Ev.step (fun _ => millhandref23_Numbers.l0.eq_2 ..) (ev_pos (by omega) (ev_pos (by omega) (ev_pos (by omega) ?_)))
    rw [rd_int a i hi, rd_int b i hi2]
    by_cases e : a[i] = b[i]
    · refine ev_pos e ?_
      rw [w64 (by omega) (by omega), show (i : Int) + 1 = ((i + 1 : Nat) : Int) by omega]
      refine ev_eq (numbers_l0 a b hl ha d (i + 1) (by omega)) ?_
      rw [decide_eq_decide, List.cons.injEq]
      exact ⟨fun h => ⟨e, h⟩, fun h => h.2⟩
    · refine ev_neg e (ev_some ?_)
      symm
      rw [decide_eq_false_iff_not, List.cons.injEq]
      exact fun h => e h.1
theorem numbers_ev (a b : List Int) (ha : a.length ≤ 1099511627776) : Ev (fun k => millhandref23_Numbers.f k a b) (decide (a = b)) := by
  unfold millhandref23_Numbers.f
  by_cases hl : a.length = b.length
  · have := numbers_l0 a b hl ha a.length 0 (by omega)
    exact ev_pos (by omega) this
  · refine ev_neg (by omega) (ev_some ?_)
    rw [decide_eq_false]
    rintro rfl
    exact hl rfl
end Go.Proofs.Ytoplhlacdjlidaa.R

/- Two specs held against each other, and what specs are written as. -/
import Derived.Test.YtoplhlacdjlidaaRx0
import Derived.Test.YtoplhlacdjlidaaRx17
import Derived.Test.YtoplhlacdjlidaaRx5
import Derived.Lib.AppendZerosOnto
import Derived.Lib.SliceRun
import Derived.Test.YtoplhlacdjlidaaRx13
import Derived.Test.YtoplhlacdjlidaaRx12
import Derived.Test.YtoplhlacdjlidaaRDT
import Derived.Test.YtoplhlacdjlidaaRDS
namespace Go.Proofs.Ytoplhlacdjlidaa.R
open Go.RowKit Go.Proofs.YtoplhlacdjlidaaW.PrintWords Go.Proofs.YtoplhlacdjlidaaW.PrintLast Go.Proofs.YtoplhlacdjlidaaW.PrintMore Go.Proofs.Ytoplhlacdjlidaa.Plain
set_option linter.unusedVariables false
set_option linter.unusedSimpArgs false
theorem sameS_drop (a b : List NodeT) (i : Nat) (h1 : i < a.length) (h2 : i < b.length) : sameS (a.drop i) (b.drop i) = (sameN a[i] b[i] && sameS (a.drop (i + 1)) (b.drop (i + 1))) := by
  rw [List.drop_eq_getElem_cons h1, List.drop_eq_getElem_cons h2, sameS]
theorem refSame_l0 (a b : List NodeT) (hl : a.length = b.length) (hf : fitS a) : ∀ (d i : Nat), i + d = a.length → Ev (fun k => millhandref23_Same.l0 k (i : Int) a b) (sameS (a.drop i) (b.drop i))
  | 0, i, h => by
    rw [List.drop_eq_nil_of_le (show a.length ≤ i by omega), List.drop_eq_nil_of_le (show b.length ≤ i by omega)]
    exact Ev.step (fun _ => millhandref23_Same.l0.eq_2 ..) (ev_neg (by omega) (Ev.now _))
  | d + 1, i, h => by
    have hfl := hf.1
    have hi : i < a.length := by omega
    have hi2 : i < b.length := by omega
    rw [sameS_drop a b i hi hi2, sameN]
    refine Ev.step (fun _ => millhandref23_Same.l0.eq_2 ..) (ev_pos (by omega) (ev_pos (by omega) (ev_pos (by omega) ?_)))
    rw [rd_node a i hi, rd_node b i hi2]
    by_cases h1 : a[i].f1 = b[i].f1
    · rw [decide_eq_true h1, Bool.true_and]
      refine ev_pos h1 ?_
      by_cases h2 : a[i].f2 = b[i].f2
      · rw [decide_eq_true h2, Bool.true_and]
        refine ev_pos h2 (Ev.bind (numbers_ev a[i].f0 b[i].f0 (hf.2 _ (List.getElem_mem hi))) ?_)
        by_cases h3 : a[i].f0 = b[i].f0
        · rw [decide_eq_true h3, Bool.true_and]
          refine ev_pos rfl ?_
          rw [w64 (by omega) (by omega), show (i : Int) + 1 = ((i + 1 : Nat) : Int) by omega]
          exact refSame_l0 a b hl hf d (i + 1) (by omega)
        · rw [decide_eq_false h3, Bool.false_and]
          exact ev_neg (by decide) (Ev.now _)
      · rw [decide_eq_false h2, Bool.false_and, Bool.false_and]
        exact ev_neg h2 (Ev.now _)
    · rw [decide_eq_false h1, Bool.false_and, Bool.false_and]
      exact ev_neg h1 (Ev.now _)
theorem refSame_ev (a b : List NodeT) (hf : fitS a) : Ev (fun k => millhandref23_Same.f k a b) (sameS a b) := by
  unfold millhandref23_Same.f
  by_cases hl : a.length = b.length
  · have := refSame_l0 a b hl hf a.length 0 (by omega)
    exact ev_pos (by omega) this
  · refine ev_neg (by omega) (ev_some ?_)
    rw [sameS_len hl]
end Go.Proofs.Ytoplhlacdjlidaa.R

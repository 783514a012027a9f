/- What specs' functions come to, in plain words. -/
import Derived.Test.YtoplhlacdjlidaaRx4
import Derived.Test.YtoplhlacdjlidaaRx5
import Derived.Test.YtoplhlacdjlidaaRx6
import Derived.Test.YtoplhlacdjlidaaRx7
import Derived.Test.YtoplhlacdjlidaaRx8
import Derived.Laws.BitsLemmas
import Derived.Test.YtoplhlacdjlidaaRDQ
namespace Go.Proofs.Ytoplhlacdjlidaa.R
open Go.RowKit Go.Proofs.YtoplhlacdjlidaaW.PrintWords Go.Proofs.YtoplhlacdjlidaaW.PrintLast Go.Proofs.YtoplhlacdjlidaaW.PrintMore Go.Proofs.Ytoplhlacdjlidaa.Plain
set_option linter.unusedVariables false
set_option linter.unusedSimpArgs false
theorem shaped_l0 (i many : Int) (x : List Int) (hx : x.length ≤ 1099511627776) : ∀ (d j : Nat) (last : Int), j + d = x.length → Ev (fun k => dag_shaped.l0 k i many last x (x.length : Int) (j : Int)) (needsOk i many last (x.drop j))
  | 0, j, last, h => by
    rw [List.drop_eq_nil_of_le (by omega)]
    exact Ev.step (fun _ => dag_shaped.l0.eq_2 ..) (ev_neg (by omega) (Ev.now _))
  | d + 1, j, last, h => by
    have hj : j < x.length := by omega
    refine Ev.step (fun _ => dag_shaped.l0.eq_2 ..) (ev_pos (by omega) (ev_pos (by omega) (ev_pos (by omega) ?_)))
    rw [rd_int x j hj, List.drop_eq_getElem_cons hj, needsOk]
    by_cases h1 : x[j] ≤ last
    · rw [decide_eq_false (show ¬ last < x[j] by omega), Bool.false_and]
      exact ev_pos h1 (Ev.now _)
    · rw [decide_eq_true (show last < x[j] by omega), Bool.true_and]
      refine ev_neg h1 ?_
      by_cases h2 : x[j] ≥ many
      · rw [decide_eq_false (show ¬ x[j] < many by omega), Bool.false_and]
        exact ev_pos h2 (Ev.now _)
      · rw [decide_eq_true (show x[j] < many by omega), Bool.true_and]
        refine ev_neg h2 ?_
        by_cases h3 : x[j] = i
        · rw [decide_eq_false (show ¬ x[j] ≠ i from fun e => e h3), Bool.false_and]
          exact ev_pos h3 (Ev.now _)
        · rw [decide_eq_true (show x[j] ≠ i from h3), Bool.true_and]
          refine ev_neg h3 ?_
          rw [w64 (by omega) (by omega), show (j : Int) + 1 = ((j + 1 : Nat) : Int) by omega]
          exact shaped_l0 i many x hx d (j + 1) x[j] (by omega)
theorem shaped_ev (i many : Int) (x : NodeT) (hx : x.f0.length ≤ 1099511627776) : Ev (fun k => dag_shaped.f k i many x.f0 x.f1 x.f2) (nodeOk i many x) := by
  unfold dag_shaped.f nodeOk
  have bad : boundsOk x = false → Ev (fun k => dag_shaped.j0 k i many true x.f0 x.f1 x.f2) (boundsOk x && needsOk i many (-1) x.f0) := by
    intro h
    rw [h, Bool.false_and]
    exact Ev.step (fun _ => dag_shaped.j0.eq_2 ..) (ev_pos rfl (Ev.now _))
  by_cases h1 : x.f1 < 1
  · exact ev_pos h1 (bad (decide_eq_false (by omega)))
  · refine ev_neg h1 ?_
    by_cases h2 : x.f1 > 5
    · exact ev_pos h2 (bad (decide_eq_false (by omega)))
    · refine ev_neg h2 ?_
      by_cases h3 : x.f2 < 0
      · exact ev_pos h3 (bad (decide_eq_false (by omega)))
      · refine ev_neg h3 ?_
        by_cases h4 : x.f2 > 1048576
        · rw [decide_eq_true h4]
          exact bad (decide_eq_false (by omega))
        · rw [decide_eq_false h4, show boundsOk x = true from decide_eq_true (by omega), Bool.true_and]
          have := shaped_l0 i many x.f0 hx x.f0.length 0 (-1) (by omega)
          exact Ev.step (fun _ => dag_shaped.j0.eq_2 ..) (ev_neg (by decide) this)
/-! ### which specs may be -/
theorem check_l0 (l : List NodeT) (hf : fitS l) (hm : manyOk l = true) : ∀ (d i : Nat), i + d = l.length → (shapeFrom (l.length : Int) i (l.drop i) = shapeS l) → Ev (fun k => dag_Check.l0 k (l.length : Int) l (l.length : Int) (i : Int)) (checkS l)
  | 0, i, h, h1 => by
    have hs : shapeS l = true := by rw [← h1, List.drop_eq_nil_of_le (by omega)]; rfl
    refine Ev.step (fun _ => dag_Check.l0.eq_2 ..) (ev_neg (by omega) (ev_pos (by rw [hm, hs]; rfl) (ev_some ?_)))
    unfold checkS mayS
    rw [hm, hs]
    cases cycS l <;> rfl
  | d + 1, i, h, h1 => by
    have hfl := hf.1
    have hi : i < l.length := by omega
    rw [List.drop_eq_getElem_cons hi, shapeFrom] at h1
    refine Ev.step (fun _ => dag_Check.l0.eq_2 ..) (ev_pos (by omega) (ev_pos (by omega) (ev_pos (by omega) ?_)))
    rw [rd_node l i hi]
    refine Ev.bind (shaped_ev (i : Int) (l.length : Int) l[i] (hf.2 _ (List.getElem_mem hi))) ?_
    cases hb : nodeOk (i : Int) (l.length : Int) l[i] with
    | false =>
      have hs : shapeS l = false := by rw [← h1, hb]; rfl
      refine ev_neg (by decide) (ev_some ?_)
      unfold checkS mayS
      rw [hs, Bool.false_and, Bool.and_false]
      rfl
    | true =>
      rw [hb, Bool.true_and] at h1
      refine ev_pos rfl ?_
      rw [w64 (by omega) (by omega), show (i : Int) + 1 = ((i + 1 : Nat) : Int) by omega]
      exact check_l0 l hf hm d (i + 1) (by omega) h1
theorem check_ev (l : List NodeT) (hf : fitS l) : Ev (fun k => dag_Check.f k l) (checkS l) := by
  unfold dag_Check.f
  have bad : manyOk l = false → Ev (fun k => dag_Check.j0 k (l.length : Int) true l) (checkS l) := by
    intro h
    unfold checkS mayS
    rw [h, Bool.false_and]
    exact Ev.step (fun _ => dag_Check.j0.eq_2 ..) (ev_pos rfl (Ev.now _))
  by_cases h1 : (l.length : Int) < 1
  · exact ev_pos h1 (bad (decide_eq_false (by omega)))
  · refine ev_neg h1 ?_
    by_cases h2 : (l.length : Int) > 12
    · rw [decide_eq_true h2]
      exact bad (decide_eq_false (by omega))
    · rw [decide_eq_false h2]
      have hm : manyOk l = true := decide_eq_true (by omega)
      have := check_l0 l hf hm l.length 0 (by omega) rfl
      exact Ev.step (fun _ => dag_Check.j0.eq_2 ..) (ev_neg (by decide) this)
end Go.Proofs.Ytoplhlacdjlidaa.R

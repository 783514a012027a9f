/- The document's answers on specs, in plain words. -/
import Derived.Test.YtoplhlacdjlidaaRx12
import Derived.Test.YtoplhlacdjlidaaRx17
import Derived.Test.YtoplhlacdjlidaaRx21
import Derived.Test.YtoplhlacdjlidaaRx18
import Derived.Test.YtoplhlacdjlidaaRx14
import Derived.Test.YtoplhlacdjlidaaRD2
import Derived.Test.YtoplhlacdjlidaaRDP
namespace Go.Proofs.Ytoplhlacdjlidaa.R
open Go.RowKit Go.Proofs.YtoplhlacdjlidaaW.PrintWords Go.Proofs.YtoplhlacdjlidaaW.PrintLast Go.Proofs.YtoplhlacdjlidaaW.PrintMore Go.Proofs.Ytoplhlacdjlidaa.Plain
set_option linter.unusedVariables false
set_option linter.unusedSimpArgs false
theorem numbers_l0 (a b : List Int) (hl : a.length = b.length) (ha : a.length ≤ 1099511627776) : ∀ (d i : Nat), i + d = a.length → Ev (fun k => millhandref23_Numbers.l0 k a b (i : Int)) (decide (a.drop i = b.drop i))
  | 0, i, h => by
    rw [List.drop_eq_nil_of_le (show a.length ≤ i by omega), List.drop_eq_nil_of_le (show b.length ≤ i by omega)]
    exact Ev.step (fun _ => millhandref23_Numbers.l0.eq_2 ..) (ev_neg (by omega) (Ev.now _))
  | d + 1, i, h => by
    have hi : i < a.length := by omega
    have hi2 : i < b.length := by omega
    rw [List.drop_eq_getElem_cons hi, List.drop_eq_getElem_cons hi2]
    refine Ev.step (fun _ => millhandref23_Numbers.l0.eq_2 ..) (ev_pos (by omega) (ev_pos (by omega) (ev_pos (by omega) ?_)))
    rw [rd_int a i hi, rd_int b i hi2]
    by_cases e : a[i] = b[i]
    · refine ev_pos e ?_
      rw [w64 (by omega) (by omega), show (i : Int) + 1 = ((i + 1 : Nat) : Int) by omega]
      refine ev_eq (numbers_l0 a b hl ha d (i + 1) (by omega)) ?_
      rw [decide_eq_decide, List.cons.injEq]
      exact ⟨fun h => ⟨e, h⟩, fun h => h.2⟩
    · refine ev_neg e (ev_some ?_)
      symm
      rw [decide_eq_false_iff_not, List.cons.injEq]
      exact fun h => e h.1
theorem numbers_ev (a b : List Int) (ha : a.length ≤ 1099511627776) : Ev (fun k => millhandref23_Numbers.f k a b) (decide (a = b)) := by
  unfold millhandref23_Numbers.f
  by_cases hl : a.length = b.length
  · have := numbers_l0 a b hl ha a.length 0 (by omega)
    exact ev_pos (by omega) this
  · refine ev_neg (by omega) (ev_some ?_)
    rw [decide_eq_false]
    rintro rfl
    exact hl rfl
theorem refOrder_ev (l : List NodeT) (hf : fitS l) : Ev (fun k => millhandref23_Order.f k l) (orderS l) := by
  unfold millhandref23_Order.f orderS checkS
  refine Ev.bind (ref_May_ev l hf) ?_
  cases h : mayS l with
  | true =>
    have hp := may_parts h
    exact ev_pos rfl (Ev.bind (ref_Row_ev l hf hp.2.2.1) (Ev.now _))
  | false => exact ev_neg (by decide) (Ev.now _)
theorem refCheck_ev (l : List NodeT) (hf : fitS l) : Ev (fun k => millhandref23_Check.f k l) (checkS l) := by
  unfold millhandref23_Check.f checkS
  refine Ev.bind (ref_May_ev l hf) ?_
  cases h : mayS l with
  | true => exact ev_pos rfl (Ev.now _)
  | false => exact ev_neg (by decide) (Ev.now _)
theorem refReady_ev (l : List NodeT) (hf : fitS l) (done : List Bool) : Ev (fun k => millhandref23_Ready.f k l done) (readyS l done) := by
  unfold millhandref23_Ready.f readyS checkS
  refine Ev.bind (ref_May_ev l hf) ?_
  cases h : mayS l with
  | true =>
    have hp := may_parts h
    refine ev_pos rfl ?_
    by_cases hd : done.length = l.length
    · rw [if_pos hd]
      exact ev_pos (by omega) (Ev.bind (ref_Open_ev l hf hp.2.2.1 done hd) (Ev.now _))
    · rw [if_neg hd]
      exact ev_neg (by omega) (Ev.now _)
  | false => exact ev_neg (by decide) (Ev.now _)
theorem refRoots_ev (l : List NodeT) (hf : fitS l) : Ev (fun k => millhandref23_Roots.f k l) (readyS l (List.replicate l.length false)) := by
  unfold millhandref23_Roots.f readyS checkS
  have hfl := hf.1
  refine Ev.bind (ref_May_ev l hf) ?_
  cases h : mayS l with
  | true =>
    have hp := may_parts h
    rw [if_pos (show (List.replicate l.length false).length = l.length by simp)]
    refine ev_pos rfl (ev_pos (by omega) (ev_pos (by omega) ?_))
    rw [Int.toNat_natCast]
    exact Ev.bind (ref_Open_ev l hf hp.2.2.1 _ (by simp)) (Ev.now _)
  | false => exact ev_neg (by decide) (Ev.now _)
theorem twin_l0 (l : List NodeT) (h60 : l.length ≤ 60) (hf : fitS l) : ∀ (d i : Nat), i + d = l.length → Ev (fun k => millhandref23_Twin.l0 k (i : Int) l (l.take i)) l
  | 0, i, h => by
    rw [List.take_of_length_le (by omega)]
    exact Ev.step (fun _ => millhandref23_Twin.l0.eq_2 ..) (ev_neg (by omega) (Ev.now _))
  | d + 1, i, h => by
    have hi : i < l.length := by omega
    have hx := hf.2 _ (List.getElem_mem hi)
    refine Ev.step (fun _ => millhandref23_Twin.l0.eq_2 ..) (ev_pos (by omega) (ev_pos (by omega) ?_))
    rw [rd_node l i hi]
    refine ev_pos (by simp; omega) (ev_pos (by rw [List.length_take]; omega) ?_)
    rw [w64 (by omega) (by omega), show (i : Int) + 1 = ((i + 1 : Nat) : Int) by omega]
    have := twin_l0 l h60 hf d (i + 1) (by omega)
    rw [show l.take i ++ [(⟨([] : List Int) ++ l[i].f0, l[i].f1, l[i].f2⟩ : NodeT)] = l.take (i + 1) by rw [List.take_add_one, List.getElem?_eq_getElem hi, List.nil_append]; rfl]
    exact this
theorem twin_ev (l : List NodeT) (h60 : l.length ≤ 60) (hf : fitS l) : Ev (fun k => millhandref23_Twin.f k l) l := by
  have := twin_l0 l h60 hf l.length 0 (by omega)
  exact this
end Go.Proofs.Ytoplhlacdjlidaa.R

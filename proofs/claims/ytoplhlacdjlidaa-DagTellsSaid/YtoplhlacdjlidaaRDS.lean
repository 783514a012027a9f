/- Two specs held against each other. -/
import Derived.Test.YtoplhlacdjlidaaRx2
import Derived.Test.YtoplhlacdjlidaaRx1
import Derived.Test.YtoplhlacdjlidaaRDM
namespace Go.Proofs.Ytoplhlacdjlidaa.R
open Go.RowKit Go.Proofs.Ytoplhlacdjlidaa.Co Go.Proofs.Ytoplhlacdjlidaa.Ret Go.Proofs.YtoplhlacdjlidaaW.PrintWords Go.Proofs.YtoplhlacdjlidaaW.PrintLast Go.Proofs.YtoplhlacdjlidaaW.PrintMore Go.Proofs.Ytoplhlacdjlidaa.Plain
set_option linter.unusedVariables false
set_option linter.unusedSimpArgs false
def sameN (x y : NodeT) : Bool := decide (x.f1 = y.f1) && (decide (x.f2 = y.f2) && decide (x.f0 = y.f0))
def sameS : List NodeT → List NodeT → Bool
  | [], [] => true
  | x :: a, y :: b => sameN x y && sameS a b
  | _, _ => false
theorem node_ext {x y : NodeT} (h0 : x.f0 = y.f0) (h1 : x.f1 = y.f1) (h2 : x.f2 = y.f2) : x = y := by
  obtain ⟨a, b, c⟩ := x
  obtain ⟨d, e, f⟩ := y
  simp only at h0 h1 h2
  rw [h0, h1, h2]
theorem sameS_iff : ∀ a b : List NodeT, sameS a b = true ↔ a = b
  | [], [] => by simp [sameS]
  | [], _ :: _ => by simp [sameS]
  | _ :: _, [] => by simp [sameS]
  | x :: a, y :: b => by
    rw [sameS, Bool.and_eq_true, sameS_iff a b]
    simp only [sameN, Bool.and_eq_true, decide_eq_true_eq, List.cons.injEq]
    constructor
    · rintro ⟨⟨h1, h2, h0⟩, h⟩
      exact ⟨node_ext h0 h1 h2, h⟩
    · rintro ⟨rfl, rfl⟩
      exact ⟨⟨rfl, rfl, rfl⟩, rfl⟩
theorem sameS_len {a b : List NodeT} (h : a.length ≠ b.length) : sameS a b = false := by
  cases hs : sameS a b with
  | false => rfl
  | true => exact absurd (congrArg List.length ((sameS_iff a b).mp hs)) h
theorem equal_l0 (a b : List Int) (hl : a.length = b.length) (ha : a.length ≤ 1099511627776) : ∀ (d i : Nat), i + d = a.length → Ev (fun k => slices_Equal_int_int.l0 k a b (a.length : Int) (i : Int)) (decide (a.drop i = b.drop i))
  | 0, i, h => by
    rw [List.drop_eq_nil_of_le (show a.length ≤ i by omega), List.drop_eq_nil_of_le (show b.length ≤ i by omega)]
    exact Ev.step (fun _ => slices_Equal_int_int.l0.eq_2 ..) (ev_neg (by omega) (Ev.now _))
  | d + 1, i, h => by
    have hi : i < a.length := by omega
    have hi2 : i < b.length := by omega
    rw [List.drop_eq_getElem_cons hi, List.drop_eq_getElem_cons hi2]
    refine Ev.step (fun _ => slices_Equal_int_int.l0.eq_2 ..) (ev_pos (by omega) (ev_pos (by omega) (ev_pos (by omega) (ev_pos (by omega) ?_))))
    rw [rd_int a i hi, rd_int b i hi2]
    by_cases e : a[i] = b[i]
    · refine ev_pos e ?_
      rw [w64 (by omega) (by omega), show (i : Int) + 1 = ((i + 1 : Nat) : Int) by omega]
      refine ev_eq (equal_l0 a b hl ha d (i + 1) (by omega)) ?_
      rw [decide_eq_decide, List.cons.injEq]
      exact ⟨fun h => ⟨e, h⟩, fun h => h.2⟩
    · refine ev_neg e (ev_some ?_)
      symm
      rw [decide_eq_false_iff_not, List.cons.injEq]
      exact fun h => e h.1
theorem equal_ev (a b : List Int) (ha : a.length ≤ 1099511627776) : Ev (fun k => slices_Equal_int_int.f k a b) (decide (a = b)) := by
  unfold slices_Equal_int_int.f
  by_cases hl : a.length = b.length
  · have := equal_l0 a b hl ha a.length 0 (by omega)
    exact ev_pos (by omega) this
  · refine ev_neg (by omega) (ev_some ?_)
    rw [decide_eq_false]
    rintro rfl
    exact hl rfl
theorem same1_ev (x y : NodeT) (hx : x.f0.length ≤ 1099511627776) : Ev (fun k => dag_Same_1.f k x.f0 x.f1 x.f2 y.f0 y.f1 y.f2) (sameN x y) := by
  unfold dag_Same_1.f sameN
  by_cases h1 : x.f1 = y.f1
  · rw [decide_eq_true h1, Bool.true_and]
    refine ev_pos h1 ?_
    by_cases h2 : x.f2 = y.f2
    · rw [decide_eq_true h2, Bool.true_and]
      exact ev_pos h2 (Ev.bind (equal_ev x.f0 y.f0 hx) (Ev.now _))
    · rw [decide_eq_false h2, Bool.false_and]
      exact ev_neg h2 (Ev.now _)
  · rw [decide_eq_false h1, Bool.false_and]
    exact ev_neg h1 (Ev.now _)
end Go.Proofs.Ytoplhlacdjlidaa.R

/- Two specs held against each other, and what specs are written as. -/
import Derived.Test.YtoplhlacdjlidaaRx2
import Derived.Test.YtoplhlacdjlidaaRx1
import Derived.Test.YtoplhlacdjlidaaRx21
import Derived.Test.YtoplhlacdjlidaaRx13
import Derived.Test.YtoplhlacdjlidaaRx12
import Derived.Test.YtoplhlacdjlidaaRx20
import Derived.Test.YtoplhlacdjlidaaRDT
import Derived.Test.YtoplhlacdjlidaaRDS
namespace Go.Proofs.Ytoplhlacdjlidaa.R
open Go.RowKit Go.Proofs.YtoplhlacdjlidaaW.PrintWords Go.Proofs.YtoplhlacdjlidaaW.PrintLast Go.Proofs.YtoplhlacdjlidaaW.PrintMore Go.Proofs.Ytoplhlacdjlidaa.Plain
set_option linter.unusedVariables false
set_option linter.unusedSimpArgs false
theorem sameS_drop (a b : List NodeT) (i : Nat) (h1 : i < a.length) (h2 : i < b.length) : sameS (a.drop i) (b.drop i) = (sameN a[i] b[i] && sameS (a.drop (i + 1)) (b.drop (i + 1))) := by
  rw [List.drop_eq_getElem_cons h1, List.drop_eq_getElem_cons h2, sameS]
theorem equalFunc_l0 (a b : List NodeT) (hl : a.length = b.length) (hf : fitS a) : ∀ (d i : Nat), i + d = a.length → Ev (fun k => api_Node.l0 k b a (a.length : Int) (i : Int)) (sameS (a.drop i) (b.drop i))
  | 0, i, h => by
    rw [List.drop_eq_nil_of_le (show a.length ≤ i by omega), List.drop_eq_nil_of_le (show b.length ≤ i by omega)]
    exact Ev.step (fun _ => api_Node.l0.eq_2 ..) (ev_neg (by omega) (Ev.now _))
  | d + 1, i, h => by
    have hfl := hf.1
    have hi : i < a.length := by omega
    have hi2 : i < b.length := by omega
    rw [sameS_drop a b i hi hi2]
    refine Ev.step (fun _ => api_Node.l0.eq_2 ..) (ev_pos (by omega) (ev_pos (by omega) (ev_pos (by omega) (ev_pos (by omega) ?_))))
    rw [rd_node a i hi, rd_node b i hi2]
    refine Ev.bind (same1_ev a[i] b[i] (hf.2 _ (List.getElem_mem hi))) ?_
    cases hs : sameN a[i] b[i] with
    | true =>
      refine ev_pos rfl ?_
      rw [w64 (by omega) (by omega), show (i : Int) + 1 = ((i + 1 : Nat) : Int) by omega, Bool.true_and]
      exact equalFunc_l0 a b hl hf d (i + 1) (by omega)
    | false => exact ev_neg (by decide) (Ev.now _)
theorem same_ev (a b : List NodeT) (hf : fitS a) : Ev (fun k => dag_Same.f k a b) (sameS a b) := by
  unfold dag_Same.f api_Node.f
  by_cases hl : a.length = b.length
  · have := equalFunc_l0 a b hl hf a.length 0 (by omega)
    exact Ev.bind (ev_pos (by omega) this) (Ev.now _)
  · refine Ev.bind (ev_neg (by omega) (ev_some rfl)) (ev_some ?_)
    rw [sameS_len hl]
theorem refSame_l0 (a b : List NodeT) (hl : a.length = b.length) (hf : fitS a) : ∀ (d i : Nat), i + d = a.length → Ev (fun k => millhandref23_Same.l0 k (i : Int) a b) (sameS (a.drop i) (b.drop i))
  | 0, i, h => by
    rw [List.drop_eq_nil_of_le (show a.length ≤ i by omega), List.drop_eq_nil_of_le (show b.length ≤ i by omega)]
    exact Ev.step (fun _ => millhandref23_Same.l0.eq_2 ..) (ev_neg (by omega) (Ev.now _))
  | d + 1, i, h => by
    have hfl := hf.1
    have hi : i < a.length := by omega
    have hi2 : i < b.length := by omega
    rw [sameS_drop a b i hi hi2, sameN]
    refine Ev.step (fun _ => millhandref23_Same.l0.eq_2 ..) (ev_pos (by omega) (ev_pos (by omega) (ev_pos (by omega) ?_)))
    rw [rd_node a i hi, rd_node b i hi2]
    by_cases h1 : a[i].f1 = b[i].f1
    · rw [decide_eq_true h1, Bool.true_and]
      refine ev_pos h1 ?_
      by_cases h2 : a[i].f2 = b[i].f2
      · rw [decide_eq_true h2, Bool.true_and]
        refine ev_pos h2 (Ev.bind (numbers_ev a[i].f0 b[i].f0 (hf.2 _ (List.getElem_mem hi))) ?_)
        by_cases h3 : a[i].f0 = b[i].f0
        · rw [decide_eq_true h3, Bool.true_and]
          refine ev_pos rfl ?_
          rw [w64 (by omega) (by omega), show (i : Int) + 1 = ((i + 1 : Nat) : Int) by omega]
          exact refSame_l0 a b hl hf d (i + 1) (by omega)
        · rw [decide_eq_false h3, Bool.false_and]
          exact ev_neg (by decide) (Ev.now _)
      · rw [decide_eq_false h2, Bool.false_and, Bool.false_and]
        exact ev_neg h2 (Ev.now _)
    · rw [decide_eq_false h1, Bool.false_and, Bool.false_and]
      exact ev_neg h1 (Ev.now _)
theorem refSame_ev (a b : List NodeT) (hf : fitS a) : Ev (fun k => millhandref23_Same.f k a b) (sameS a b) := by
  unfold millhandref23_Same.f
  by_cases hl : a.length = b.length
  · have := refSame_l0 a b hl hf a.length 0 (by omega)
    exact ev_pos (by omega) this
  · refine ev_neg (by omega) (ev_some ?_)
    rw [sameS_len hl]
theorem rd_list (l : List (List Int)) (i : Nat) (h : i < l.length) : rd_L2 l (i : Int) = l[i] := by simp [rd_L2, List.getD_eq_getElem?_getD, List.getElem?_eq_getElem h]
theorem flat_drop (l : List (List Int)) (i : Nat) (h : i < l.length) : (l.drop i).flatten = l[i] ++ (l.drop (i + 1)).flatten := by
  rw [List.drop_eq_getElem_cons h, List.flatten_cons]
theorem concat_l1 (l : List (List Int)) (hl : l.length ≤ 1000) (ht : l.flatten.length ≤ 1000000) : ∀ (d i : Nat) (x : List Int), i + d = l.length → x.length + (l.drop i).flatten.length ≤ 1000000 → Ev (fun k => slices_Concat_int_int.l1 k x l (l.length : Int) (i : Int)) (x ++ (l.drop i).flatten)
  | 0, i, x, h, hx => by
    rw [List.drop_eq_nil_of_le (by omega), List.flatten_nil, List.append_nil]
    exact Ev.step (fun _ => slices_Concat_int_int.l1.eq_2 ..) (ev_neg (by omega) (Ev.now _))
  | d + 1, i, x, h, hx => by
    have hi : i < l.length := by omega
    rw [flat_drop l i hi, List.length_append] at hx
    refine Ev.step (fun _ => slices_Concat_int_int.l1.eq_2 ..) (ev_pos (by omega) (ev_pos (by omega) (ev_pos (by omega) ?_)))
    rw [rd_list l i hi]
    refine ev_pos (by omega) ?_
    rw [w64 (by omega) (by omega), show (i : Int) + 1 = ((i + 1 : Nat) : Int) by omega, flat_drop l i hi, ← List.append_assoc]
    exact concat_l1 l hl ht d (i + 1) (x ++ l[i]) (by omega) (by rw [List.length_append]; omega)
theorem concat_l0 (l : List (List Int)) (hl : l.length ≤ 1000) (ht : l.flatten.length ≤ 1000000) (h0 : 0 < l.flatten.length) : ∀ (d i n : Nat), i + d = l.length → n + (l.drop i).flatten.length = l.flatten.length → Ev (fun k => slices_Concat_int_int.l0 k l (n : Int) l (l.length : Int) (i : Int)) l.flatten
  | 0, i, n, h, hn => by
    rw [List.drop_eq_nil_of_le (by omega), List.flatten_nil, List.length_nil] at hn
    have := concat_l1 l hl ht l.length 0 [] (by omega) (by rw [List.drop_zero, List.length_nil, Nat.zero_add]; exact ht)
    refine Ev.step (fun _ => slices_Concat_int_int.l0.eq_2 ..) (ev_neg (by omega) (Ev.bind (show Ev (fun _ => slices_Grow_int_int.f [] (n : Int)) [] from ?_) this))
    unfold slices_Grow_int_int.f
    rw [if_pos ⟨rfl, by omega, by omega⟩]
    exact Ev.now _
  | d + 1, i, n, h, hn => by
    have hi : i < l.length := by omega
    rw [flat_drop l i hi, List.length_append] at hn
    refine Ev.step (fun _ => slices_Concat_int_int.l0.eq_2 ..) (ev_pos (by omega) (ev_pos (by omega) (ev_pos (by omega) ?_)))
    rw [rd_list l i hi, w64 (show -9223372036854775808 ≤ (n : Int) + (l[i].length : Int) by omega) (by omega)]
    refine ev_neg (by omega) ?_
    rw [w64 (by omega) (by omega), show (i : Int) + 1 = ((i + 1 : Nat) : Int) by omega, show (n : Int) + (l[i].length : Int) = ((n + l[i].length : Nat) : Int) by omega]
    exact concat_l0 l hl ht h0 d (i + 1) (n + l[i].length) (by omega) (by omega)
theorem concat_ev (l : List (List Int)) (hl : l.length ≤ 1000) (ht : l.flatten.length ≤ 1000000) (h0 : 0 < l.flatten.length) : Ev (fun k => slices_Concat_int_int.f k l) l.flatten := by
  have := concat_l0 l hl ht h0 l.length 0 0 (by omega) (by simp)
  exact this
end Go.Proofs.Ytoplhlacdjlidaa.R

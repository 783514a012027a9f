/- Marks, in plain words. -/
import Derived.Test.YtoplhlacdjlidaaRDM
namespace Go.Proofs.Ytoplhlacdjlidaa.R
open Go.RowKit Go.Proofs.YtoplhlacdjlidaaW.PrintWords Go.Proofs.YtoplhlacdjlidaaW.PrintLast Go.Proofs.YtoplhlacdjlidaaW.PrintMore Go.Proofs.Ytoplhlacdjlidaa.Plain
set_option linter.unusedVariables false
set_option linter.unusedSimpArgs false
theorem rd_boolL (l : List Bool) (i : Nat) (h : i < l.length) : rdOf false l (i : Int) = l[i] := by simp [rdOf, List.getD, List.getElem?_eq_getElem h]
/-- All that is needed is done. -/
def metS (x : List Int) (done : List Bool) : Bool := x.all fun k => done.getD k.toNat false
/-- The nodes of a list as marks. -/
def marks (n : Nat) (acc : List Nat) : List Bool := (List.range n).map fun i => acc.contains i
theorem marks_length (n : Nat) (acc : List Nat) : (marks n acc).length = n := by simp [marks]
theorem marks_at (n : Nat) (acc : List Nat) (i : Nat) (h : i < n) : (marks n acc).getD i false = acc.contains i := by
  simp [marks, List.getD, List.getElem?_map, List.getElem?_range h]
theorem marks_nil (n : Nat) : marks n [] = List.replicate n false := by
  refine List.ext_getElem (by simp [marks]) fun i h1 h2 => ?_
  simp [marks]
theorem marks_set (n : Nat) (acc : List Nat) (i : Nat) (h : i < n) : (marks n acc).set i true = marks n (acc ++ [i]) := by
  refine List.ext_getElem (by simp [marks]) fun j h1 h2 => ?_
  simp only [marks, List.getElem_set, List.getElem_map, List.getElem_range, List.contains_eq_mem, List.mem_append, List.mem_singleton]
  by_cases e : i = j
  · subst e; simp
  · rw [if_neg e]
    congr 1
    simp
    exact fun e2 => absurd e2.symm e
theorem met_marks (l : List NodeT) (hs : shapeS l = true) (acc : List Nat) (i : Nat) (hi : i < l.length) : metS l[i].f0 (marks l.length acc) = (needs l i).all (inN acc) := by
  rw [needs_at l i hi, metS]
  have hn := shape_needs l hs i hi
  rw [needs_at l i hi] at hn
  rw [Bool.eq_iff_iff, List.all_eq_true, List.all_eq_true]
  refine forall_congr' fun k => forall_congr' fun hk => ?_
  obtain ⟨k0, k1, _⟩ := hn k hk
  obtain ⟨v, rfl⟩ := Int.eq_ofNat_of_zero_le k0
  rw [Int.toNat_natCast, marks_at l.length acc v (by omega), inN_nat]
def rowS (l : List NodeT) : List Int := (rowN l).map Int.ofNat
theorem rowS_length (l : List NodeT) : (rowS l).length = (rowN l).length := by simp [rowS]
/-- Those that are not done, and whose needs are. -/
def openS (l : List NodeT) (done : List Bool) : List Int := ((List.range l.length).filter fun i => !(done.getD i false) && metS (needs l i) done).map Int.ofNat
theorem may_parts {l : List NodeT} (h : mayS l = true) : 1 ≤ l.length ∧ l.length ≤ 12 ∧ shapeS l = true ∧ (rowN l).length = l.length := by
  simp only [mayS, Bool.and_eq_true] at h
  obtain ⟨h1, h2, h3⟩ := h
  have h4 := of_decide_eq_true h1
  rw [cyc_row l h2, Bool.not_not] at h3
  exact ⟨h4.1, h4.2, h2, of_decide_eq_true h3⟩
end Go.Proofs.Ytoplhlacdjlidaa.R

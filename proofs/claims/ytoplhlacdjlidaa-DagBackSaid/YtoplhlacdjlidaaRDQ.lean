/- Marks, in plain words. -/
import Derived.Test.YtoplhlacdjlidaaRDM
namespace Go.Proofs.Ytoplhlacdjlidaa.R
open Go.RowKit Go.Proofs.YtoplhlacdjlidaaW.PrintWords Go.Proofs.YtoplhlacdjlidaaW.PrintLast Go.Proofs.YtoplhlacdjlidaaW.PrintMore Go.Proofs.Ytoplhlacdjlidaa.Plain
set_option linter.unusedVariables false
set_option linter.unusedSimpArgs false
/-- The nodes of a list as marks. -/
def marks (n : Nat) (acc : List Nat) : List Bool := (List.range n).map fun i => acc.contains i
theorem may_parts {l : List NodeT} (h : mayS l = true) : 1 ≤ l.length ∧ l.length ≤ 12 ∧ shapeS l = true ∧ (rowN l).length = l.length := by
  simp only [mayS, Bool.and_eq_true] at h
  obtain ⟨h1, h2, h3⟩ := h
  have h4 := of_decide_eq_true h1
  rw [cyc_row l h2, Bool.not_not] at h3
  exact ⟨h4.1, h4.2, h2, of_decide_eq_true h3⟩
end Go.Proofs.Ytoplhlacdjlidaa.R

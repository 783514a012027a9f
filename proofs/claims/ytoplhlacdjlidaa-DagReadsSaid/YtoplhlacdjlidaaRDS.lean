/- Two specs held against each other. -/
import Derived.Test.YtoplhlacdjlidaaRx0
import Derived.Test.YtoplhlacdjlidaaRDM
namespace Go.Proofs.Ytoplhlacdjlidaa.R
open Go.RowKit Go.Proofs.Ytoplhlacdjlidaa.Co Go.Proofs.Ytoplhlacdjlidaa.Ret Go.Proofs.YtoplhlacdjlidaaW.PrintWords Go.Proofs.YtoplhlacdjlidaaW.PrintLast Go.Proofs.YtoplhlacdjlidaaW.PrintMore Go.Proofs.Ytoplhlacdjlidaa.Plain
set_option linter.unusedVariables false
set_option linter.unusedSimpArgs false
def sameN (x y : NodeT) : Bool := decide (x.f1 = y.f1) && (decide (x.f2 = y.f2) && decide (x.f0 = y.f0))
def sameS : List NodeT → List NodeT → Bool
  | [], [] => true
  | x :: a, y :: b => sameN x y && sameS a b
  | _, _ => false
theorem node_ext {x y : NodeT} (h0 : x.f0 = y.f0) (h1 : x.f1 = y.f1) (h2 : x.f2 = y.f2) : x = y := by
  obtain ⟨a, b, c⟩ := x
  obtain ⟨d, e, f⟩ := y
  simp only at h0 h1 h2
  rw [h0, h1, h2]
theorem sameS_iff : ∀ a b : List NodeT, sameS a b = true ↔ a = b
  | [], [] => by simp [sameS]
  | [], _ :: _ => by simp [sameS]
  | _ :: _, [] => by simp [sameS]
  | x :: a, y :: b => by
    rw [sameS, Bool.and_eq_true, sameS_iff a b]
    simp only [sameN, Bool.and_eq_true, decide_eq_true_eq, List.cons.injEq]
    constructor
    · rintro ⟨⟨h1, h2, h0⟩, h⟩
      exact ⟨node_ext h0 h1 h2, h⟩
    · rintro ⟨rfl, rfl⟩
      exact ⟨⟨rfl, rfl, rfl⟩, rfl⟩
theorem sameS_len {a b : List NodeT} (h : a.length ≠ b.length) : sameS a b = false := by
  cases hs : sameS a b with
  | false => rfl
  | true => exact absurd (congrArg List.length ((sameS_iff a b).mp hs)) h
end Go.Proofs.Ytoplhlacdjlidaa.R

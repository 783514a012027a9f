/- Tasks in plain words. -/
import Derived.Test.YtbiphljdommacaaRx17
import Derived.Test.YtbiphljdommacaaRx31
import Derived.Test.YtbiphljdommacaaRx19
import Derived.Test.YtbiphljdommacaaRx13
import Derived.Test.YtbiphljdommacaaRx25
import Derived.Test.YtbiphljdommacaaRx9
import Derived.Test.YtbiphljdommacaaRx11
import Derived.Test.YtbiphljdommacaaRx15
import Derived.Test.YtbiphljdommacaaPlain
namespace Go.Proofs.Ytbiphljdommacaa.R
open Go.RowKit Go.Proofs.YtbiphljdommacaaW.PrintWords Go.Proofs.Ytbiphljdommacaa.Plain
set_option linter.unusedVariables false

/-! ### tasks in plain words -/
theorem ev_at {α : Type} {g : Nat → Option α} {r : α} (n : Nat) (h : ∀ k, g (k + n) = some r) : Ev g r := ⟨n, fun k hk => by
  obtain ⟨m, rfl⟩ : ∃ m, k = m + n := ⟨k - n, by omega⟩
  exact h m⟩
def momS (x : Int) : Bool := decide (0 ≤ x ∧ x ≤ 1099511627776)
theorem moment_eq (x : Int) : task_moment.f x = some (momS x) := by
  unfold task_moment.f momS
  split
  · congr 1; rw [decide_eq_decide]; omega
  · congr 1; symm; rw [decide_eq_false_iff_not]; omega
theorem count_eq (x : Int) : task_count.f x = some (momS x) := by
  unfold task_count.f momS
  split
  · congr 1; rw [decide_eq_decide]; omega
  · congr 1; symm; rw [decide_eq_false_iff_not]; omega
def nodeS (tries wait : Int) : Bool := decide (1 ≤ tries ∧ tries ≤ 5 ∧ 0 ≤ wait ∧ wait ≤ 1048576)
theorem task_node_eq (l : List Int) (tries wait : Int) : task_node.f l tries wait = some (nodeS tries wait) := by
  unfold task_node.f nodeS
  repeat' split
  all_goals (congr 1; rw [Bool.eq_iff_iff]; simp; omega)
abbrev ShapeP (nt s tr un tk rk : Int) : Prop :=
  (s = 0 ∧ tr = 0 ∧ un = 0 ∧ tk = 0 ∧ rk = 0) ∨ (s = 1 ∧ tr < nt ∧ un = 0 ∧ tk = 0) ∨ (s = 2 ∧ 1 ≤ tr ∧ 1 ≤ tk ∧ rk = 0) ∨ (s = 3 ∧ 1 ≤ tr ∧ tr < nt ∧ tk = 0 ∧ rk = 0) ∨
  (s = 4 ∧ 1 ≤ tr ∧ un = 0 ∧ tk = 0 ∧ rk = 0) ∨ (s = 5 ∧ tr = nt ∧ un = 0 ∧ tk = 0 ∧ rk = 0) ∨ (s = 6 ∧ un = 0 ∧ tk = 0 ∧ rk = 0)
abbrev BoundP (nt tr un tk rk : Int) : Prop := 0 ≤ tr ∧ tr ≤ nt ∧ 0 ≤ un ∧ un ≤ 1099511627776 ∧ 0 ≤ tk ∧ tk ≤ 1099511627776 ∧ 0 ≤ rk ∧ rk ≤ 1099511627776
def tmayS (nt s tr un tk rk : Int) : Bool := decide (BoundP nt tr un tk rk ∧ ShapeP nt s tr un tk rk)
theorem may_j1 (k : Nat) (l : List Int) (nt nw s tr un tk rk : Int) (b : Bool) (hb : b = decide (un = 0 ∧ tk = 0 ∧ rk = 0)) : task_may.j1 (k + 1) b l nt nw s tr un tk rk = some (decide (ShapeP nt s tr un tk rk)) := by
  subst hb
  simp only [task_may.j1]
  repeat' split
  all_goals (congr 1; rw [Bool.eq_iff_iff]; simp; omega)
theorem may_j0 (k : Nat) (l : List Int) (nt nw s tr un tk rk : Int) : task_may.j0 (k + 2) false l nt nw s tr un tk rk = some (decide (ShapeP nt s tr un tk rk)) := by
  simp only [task_may.j0, Bool.false_eq_true, if_false]
  repeat' split
  all_goals (refine may_j1 k l nt nw s tr un tk rk _ ?_; rw [Bool.eq_iff_iff]; simp; omega)
theorem may_t (k : Nat) (l : List Int) (nt nw s tr un tk rk : Int) : task_may.j0 (k + 2) true l nt nw s tr un tk rk = some false := by
  simp only [task_may.j0, if_true]
theorem may_eq (k : Nat) (l : List Int) (nt nw s tr un tk rk : Int) : task_may.f (k + 2) l nt nw s tr un tk rk = some (tmayS nt s tr un tk rk) := by
  simp only [task_may.f, moment_eq, count_eq, Option.bind_some]
  by_cases hB : BoundP nt tr un tk rk
  · rw [if_neg (by omega), if_neg (by omega), if_pos (show momS un = true from decide_eq_true (by omega)), if_pos (show momS tk = true from decide_eq_true (by omega))]
    have : momS rk = true := decide_eq_true (by omega)
    rw [this, Bool.not_true, may_j0]
    unfold tmayS
    congr 1
    rw [decide_eq_decide]
    exact ⟨fun h => ⟨hB, h⟩, fun h => h.2⟩
  · have hf : tmayS nt s tr un tk rk = false := decide_eq_false (fun h => hB h.1)
    rw [hf]
    repeat' split
    all_goals try rw [may_t]
    rename_i h1 h2 h3 h4
    have h3' := of_decide_eq_true h3
    have h4' := of_decide_eq_true h4
    have : momS rk = false := decide_eq_false (fun h => hB (by omega))
    rw [this, Bool.not_false, may_t]
def okS (nt nw s tr un tk rk : Int) : Bool := nodeS nt nw && tmayS nt s tr un tk rk
theorem check_eq (k : Nat) (l : List Int) (nt nw s tr un tk rk : Int) : task_Check.f (k + 2) l nt nw s tr un tk rk = some (if okS nt nw s tr un tk rk then 0 else 8) := by
  simp only [task_Check.f, task_node_eq, may_eq, Option.bind_some, okS]
  by_cases h1 : nodeS nt nw = true <;> by_cases h2 : tmayS nt s tr un tk rk = true <;> simp [h1, h2]
theorem check_ev (l : List Int) (nt nw s tr un tk rk : Int) : Ev (fun k => task_Check.f k l nt nw s tr un tk rk) (if okS nt nw s tr un tk rk then 0 else 8) := ev_at 2 fun k => check_eq k l nt nw s tr un tk rk
end Go.Proofs.Ytbiphljdommacaa.R

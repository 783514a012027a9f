/- Tasks in plain words. -/
import Derived.Test.YtbiphljdommacaaS3
import Derived.Test.YtbiphljdommacaaSh
import Derived.Test.YtbiphljdommacaaRx0
import Derived.Test.YtbiphljdommacaaRx6
import Derived.Test.YtbiphljdommacaaRx8
import Derived.Test.YtbiphljdommacaaRx31
import Derived.Test.YtbiphljdommacaaRx11
import Derived.Test.YtbiphljdommacaaRx25
import Derived.Test.YtbiphljdommacaaRx9
import Derived.Test.YtbiphljdommacaaPlain
namespace Go.Proofs.Ytbiphljdommacaa.R
open Go.RowKit Go.Proofs.YtbiphljdommacaaW.PrintWords Go.Proofs.Ytbiphljdommacaa.Plain
set_option linter.unusedVariables false

/-! ### tasks in plain words -/
theorem ev_at {α : Type} {g : Nat → Option α} {r : α} (n : Nat) (h : ∀ k, g (k + n) = some r) : Ev g r := ⟨n, fun k hk => by
  obtain ⟨m, rfl⟩ : ∃ m, k = m + n := ⟨k - n, by omega⟩
  exact h m⟩
def momS (x : Int) : Bool := decide (0 ≤ x ∧ x ≤ 1099511627776)
theorem moment_eq (x : Int) : task_moment.f x = some (momS x) := by
  unfold task_moment.f momS
  split
  · congr 1; rw [decide_eq_decide]; omega
  · congr 1; symm; rw [decide_eq_false_iff_not]; omega
theorem count_eq (x : Int) : task_count.f x = some (momS x) := by
  unfold task_count.f momS
  split
  · congr 1; rw [decide_eq_decide]; omega
  · congr 1; symm; rw [decide_eq_false_iff_not]; omega
def nodeS (tries wait : Int) : Bool := decide (1 ≤ tries ∧ tries ≤ 5 ∧ 0 ≤ wait ∧ wait ≤ 1048576)
theorem task_node_eq (l : List Int) (tries wait : Int) : task_node.f l tries wait = some (nodeS tries wait) := by
  unfold task_node.f nodeS
  repeat' split
  all_goals (congr 1; rw [Bool.eq_iff_iff]; simp; omega)
abbrev ShapeP (nt s tr un tk rk : Int) : Prop :=
  (s = 0 ∧ tr = 0 ∧ un = 0 ∧ tk = 0 ∧ rk = 0) ∨ (s = 1 ∧ tr < nt ∧ un = 0 ∧ tk = 0) ∨ (s = 2 ∧ 1 ≤ tr ∧ 1 ≤ tk ∧ rk = 0) ∨ (s = 3 ∧ 1 ≤ tr ∧ tr < nt ∧ tk = 0 ∧ rk = 0) ∨
  (s = 4 ∧ 1 ≤ tr ∧ un = 0 ∧ tk = 0 ∧ rk = 0) ∨ (s = 5 ∧ tr = nt ∧ un = 0 ∧ tk = 0 ∧ rk = 0) ∨ (s = 6 ∧ un = 0 ∧ tk = 0 ∧ rk = 0)
abbrev BoundP (nt tr un tk rk : Int) : Prop := 0 ≤ tr ∧ tr ≤ nt ∧ 0 ≤ un ∧ un ≤ 1099511627776 ∧ 0 ≤ tk ∧ tk ≤ 1099511627776 ∧ 0 ≤ rk ∧ rk ≤ 1099511627776
def tmayS (nt s tr un tk rk : Int) : Bool := decide (BoundP nt tr un tk rk ∧ ShapeP nt s tr un tk rk)
theorem may_j1 (k : Nat) (l : List Int) (nt nw s tr un tk rk : Int) (b : Bool) (hb : b = decide (un = 0 ∧ tk = 0 ∧ rk = 0)) : task_may.j1 (k + 1) b l nt nw s tr un tk rk = some (decide (ShapeP nt s tr un tk rk)) := by
  subst hb
  simp only [task_may.j1]
  repeat' split
  all_goals (congr 1; rw [Bool.eq_iff_iff]; simp; omega)
theorem may_j0 (k : Nat) (l : List Int) (nt nw s tr un tk rk : Int) : task_may.j0 (k + 2) false l nt nw s tr un tk rk = some (decide (ShapeP nt s tr un tk rk)) := by
  simp only [task_may.j0, Bool.false_eq_true, if_false]
  repeat' split
  all_goals (refine may_j1 k l nt nw s tr un tk rk _ ?_; rw [Bool.eq_iff_iff]; simp; omega)
theorem may_t (k : Nat) (l : List Int) (nt nw s tr un tk rk : Int) : task_may.j0 (k + 2) true l nt nw s tr un tk rk = some false := by
  simp only [task_may.j0, if_true]
theorem may_eq (k : Nat) (l : List Int) (nt nw s tr un tk rk : Int) : task_may.f (k + 2) l nt nw s tr un tk rk = some (tmayS nt s tr un tk rk) := by
  simp only [task_may.f, moment_eq, count_eq, Option.bind_some]
  by_cases hB : BoundP nt tr un tk rk
  · rw [if_neg (by omega), if_neg (by omega), if_pos (show momS un = true from decide_eq_true (by omega)), if_pos (show momS tk = true from decide_eq_true (by omega))]
    have : momS rk = true := decide_eq_true (by omega)
    rw [this, Bool.not_true, may_j0]
    unfold tmayS
    congr 1
    rw [decide_eq_decide]
    exact ⟨fun h => ⟨hB, h⟩, fun h => h.2⟩
  · have hf : tmayS nt s tr un tk rk = false := decide_eq_false (fun h => hB h.1)
    rw [hf]
    repeat' split
    all_goals try rw [may_t]
    rename_i h1 h2 h3 h4
    have h3' := of_decide_eq_true h3
    have h4' := of_decide_eq_true h4
    have : momS rk = false := decide_eq_false (fun h => hB (by omega))
    rw [this, Bool.not_false, may_t]
def okS (nt nw s tr un tk rk : Int) : Bool := nodeS nt nw && tmayS nt s tr un tk rk
theorem check_eq (k : Nat) (l : List Int) (nt nw s tr un tk rk : Int) : task_Check.f (k + 2) l nt nw s tr un tk rk = some (if okS nt nw s tr un tk rk then 0 else 8) := by
  simp only [task_Check.f, task_node_eq, may_eq, Option.bind_some, okS]
  by_cases h1 : nodeS nt nw = true <;> by_cases h2 : tmayS nt s tr un tk rk = true <;> simp [h1, h2]
theorem check_ev (l : List Int) (nt nw s tr un tk rk : Int) : Ev (fun k => task_Check.f k l nt nw s tr un tk rk) (if okS nt nw s tr un tk rk then 0 else 8) := ev_at 2 fun k => check_eq k l nt nw s tr un tk rk
/-- The error of a task, of numbers, of its state. -/
def inS (nt nw s tr un tk rk : Int) (fit : Bool) (st : Int) : Int := if okS nt nw s tr un tk rk then (if fit then (if s = st then 0 else 240) else 2) else 8
theorem in_eq (k : Nat) (l : List Int) (nt nw s tr un tk rk : Int) (fit : Bool) (st : Int) : task_in.f (k + 2) l nt nw s tr un tk rk fit st = some (inS nt nw s tr un tk rk fit st) := by
  simp only [task_in.f, task_asked.f, check_eq, Option.bind_some, inS]
  cases okS nt nw s tr un tk rk <;> cases fit <;> by_cases h : s = st <;> simp [h]
def heldS (nt nw s tr un tk rk : Int) (fit : Bool) (a : Int) : Int :=
  if inS nt nw s tr un tk rk (fit && decide (1 ≤ a) && momS a) 2 = 0 then (if tk = a then 0 else 260) else inS nt nw s tr un tk rk (fit && decide (1 ≤ a) && momS a) 2
theorem held_eq (k : Nat) (l : List Int) (nt nw s tr un tk rk : Int) (fit : Bool) (a : Int) : task_held.f (k + 2) l nt nw s tr un tk rk fit a = some (heldS nt nw s tr un tk rk fit a) := by
  simp only [task_held.f, count_eq, in_eq, Option.bind_some, task_held.j0, heldS]
  cases fit
  · simp only [Bool.false_eq_true, if_false, Bool.false_and]
    repeat' split
    all_goals simp_all
  · simp only [if_true, Bool.true_and]
    by_cases h : a ≥ 1
    · rw [if_pos h, decide_eq_true (show 1 ≤ a from h), Bool.true_and]
      repeat' split
      all_goals simp_all
    · rw [if_neg h, decide_eq_false (show ¬ 1 ≤ a by omega), Bool.false_and]
      repeat' split
      all_goals simp_all
abbrev TT := Int × Int × Int × Int × Int × Int
def openS (nt nw s tr un tk rk a : Int) : TT := if inS nt nw s tr un tk rk (momS a) 0 = 0 then (1, 0, 0, 0, a, 0) else (0, 0, 0, 0, 0, inS nt nw s tr un tk rk (momS a) 0)
theorem open_eq (k : Nat) (l : List Int) (nt nw s tr un tk rk a : Int) : task_Open.f (k + 2) l nt nw s tr un tk rk a = some (openS nt nw s tr un tk rk a) := by
  simp only [task_Open.f, count_eq, in_eq, Option.bind_some, openS]
  split <;> rfl
def leaseS (nt nw s tr un tk rk a b : Int) : TT :=
  if inS nt nw s tr un tk rk (decide (1 ≤ a) && momS a && momS b) 1 = 0 then (2, wrap64 (tr + 1), b, a, 0, 0) else (0, 0, 0, 0, 0, inS nt nw s tr un tk rk (decide (1 ≤ a) && momS a && momS b) 1)
theorem lease_eq (k : Nat) (l : List Int) (nt nw s tr un tk rk a b : Int) : task_Lease.f (k + 2) l nt nw s tr un tk rk a b = some (leaseS nt nw s tr un tk rk a b) := by
  simp only [task_Lease.f, count_eq, moment_eq, in_eq, Option.bind_some, leaseS]
  by_cases h : a ≥ 1
  · rw [if_pos h, decide_eq_true (show 1 ≤ a from h), Bool.true_and]
    cases momS a <;> simp <;> split <;> rfl
  · rw [if_neg h, decide_eq_false (show ¬ 1 ≤ a by omega), Bool.false_and, Bool.false_and]
    split <;> rfl
def doneS (nt nw s tr un tk rk a : Int) : TT := if heldS nt nw s tr un tk rk true a = 0 then (4, tr, 0, 0, 0, 0) else (0, 0, 0, 0, 0, heldS nt nw s tr un tk rk true a)
theorem done_eq (k : Nat) (l : List Int) (nt nw s tr un tk rk a : Int) : task_Done.f (k + 2) l nt nw s tr un tk rk a = some (doneS nt nw s tr un tk rk a) := by
  simp only [task_Done.f, held_eq, Option.bind_some, doneS]
  split <;> rfl
def dropS (nt nw s tr un tk rk : Int) : TT := if okS nt nw s tr un tk rk then (if 4 ≤ s ∧ s ≤ 6 then (0, 0, 0, 0, 0, 240) else (6, tr, 0, 0, 0, 0)) else (0, 0, 0, 0, 0, 8)
theorem drop_eq (k : Nat) (l : List Int) (nt nw s tr un tk rk : Int) : task_Drop.f (k + 2) l nt nw s tr un tk rk = some (dropS nt nw s tr un tk rk) := by
  simp only [task_Drop.f, check_eq, Option.bind_some, dropS]
  cases okS nt nw s tr un tk rk
  · rfl
  · simp only [if_true]
    repeat' split
    all_goals first | rfl | (exfalso; omega) | simp_all
/-! ### pauses -/
theorem node_bounds {nt nw : Int} (h : nodeS nt nw = true) : 1 ≤ nt ∧ nt ≤ 5 ∧ 0 ≤ nw ∧ nw ≤ 1048576 := of_decide_eq_true h
end Go.Proofs.Ytbiphljdommacaa.R

/- Specs in plain words: which may be, their order. -/
import Derived.Test.YtbiphljdommacaaRx0
import Derived.Test.YtbiphljdommacaaPlain
namespace Go.Proofs.Ytbiphljdommacaa.R
open Go.RowKit Go.Proofs.YtbiphljdommacaaW.PrintWords Go.Proofs.YtbiphljdommacaaW.PrintLast Go.Proofs.YtbiphljdommacaaW.PrintMore Go.Proofs.Ytbiphljdommacaa.Plain
set_option linter.unusedVariables false
set_option linter.unusedSimpArgs false
abbrev NodeT := S60
/-! ### specs -/
def needsOk (i many : Int) : Int → List Int → Bool
  | _, [] => true
  | last, k :: r => decide (last < k) && (decide (k < many) && (decide (k ≠ i) && needsOk i many k r))
def boundsOk (x : NodeT) : Bool := decide (1 ≤ x.f1 ∧ x.f1 ≤ 5 ∧ 0 ≤ x.f2 ∧ x.f2 ≤ 1048576)
def nodeOk (i many : Int) (x : NodeT) : Bool := boundsOk x && needsOk i many (-1) x.f0
def shapeFrom (many : Int) : Nat → List NodeT → Bool
  | _, [] => true
  | i, x :: r => nodeOk (i : Int) many x && shapeFrom many (i + 1) r
def shapeS (l : List NodeT) : Bool := shapeFrom (l.length : Int) 0 l
def needs (l : List NodeT) (i : Nat) : List Int := ((l[i]?).map (·.f0)).getD []
theorem needs_at (l : List NodeT) (i : Nat) (h : i < l.length) : needs l i = l[i].f0 := by simp [needs, List.getElem?_eq_getElem h]
theorem needsOk_mem (i many : Int) : ∀ (r : List Int) (last : Int), needsOk i many last r = true → ∀ k ∈ r, last < k ∧ k < many ∧ k ≠ i
  | [], _, _, k, hk => by simp at hk
  | a :: r, last, h, k, hk => by
    simp only [needsOk, Bool.and_eq_true, decide_eq_true_eq] at h
    rcases List.mem_cons.mp hk with rfl | hk
    · exact ⟨h.1, h.2.1, h.2.2.1⟩
    · have := needsOk_mem i many r a h.2.2.2 k hk
      exact ⟨by omega, this.2⟩
theorem shapeFrom_at (many : Int) : ∀ (l : List NodeT) (j : Nat), shapeFrom many j l = true → ∀ (i : Nat) (h : i < l.length), nodeOk ((j + i : Nat) : Int) many l[i] = true
  | [], _, _, i, h => by simp at h
  | x :: l, j, hs, i, h => by
    simp only [shapeFrom, Bool.and_eq_true] at hs
    cases i with
    | zero => exact hs.1
    | succ i =>
      have := shapeFrom_at many l (j + 1) hs.2 i (by simpa using h)
      rw [show j + (i + 1) = j + 1 + i by omega]
      exact this
theorem shape_needs (l : List NodeT) (hs : shapeS l = true) (i : Nat) (hi : i < l.length) : ∀ k ∈ needs l i, 0 ≤ k ∧ k < (l.length : Int) ∧ k ≠ (i : Int) := by
  intro k hk
  rw [needs_at l i hi] at hk
  have := shapeFrom_at _ l 0 hs i hi
  simp only [nodeOk, Bool.and_eq_true] at this
  have := needsOk_mem _ _ _ _ this.2 k hk
  rw [show ((0 + i : Nat) : Int) = (i : Int) by omega] at this
  exact ⟨by omega, this.2⟩
def edge (l : List NodeT) (a b : Nat) : Bool := (needs l a).contains (b : Int)
theorem edge_iff (l : List NodeT) (a b : Nat) : edge l a b = true ↔ (b : Int) ∈ needs l a := by simp [edge]

/-! ### what comes behind what -/
def mat (E : Nat → Nat → Bool) : Nat → Nat → Nat → Bool
  | 0 => E
  | k + 1 => fun a b => mat E k a b || (mat E k a k && mat E k k b)
theorem mat_step (E : Nat → Nat → Bool) (k a b : Nat) : mat E (k + 1) a b = (mat E k a b || (mat E k a k && mat E k k b)) := rfl
theorem mat_cases {E : Nat → Nat → Bool} {k a b : Nat} (h : mat E (k + 1) a b = true) : mat E k a b = true ∨ (mat E k a k = true ∧ mat E k k b = true) := by
  rw [mat_step, Bool.or_eq_true, Bool.and_eq_true] at h
  exact h
theorem edge_out (l : List NodeT) (a b : Nat) (ha : ¬ a < l.length) : edge l a b = false := by
  unfold edge needs
  rw [List.getElem?_eq_none (by omega)]
  rfl
def cycS (l : List NodeT) : Bool := (List.range l.length).any fun i => mat (edge l) l.length i i
def manyOk (l : List NodeT) : Bool := decide (1 ≤ l.length ∧ l.length ≤ 12)
end Go.Proofs.Ytbiphljdommacaa.R

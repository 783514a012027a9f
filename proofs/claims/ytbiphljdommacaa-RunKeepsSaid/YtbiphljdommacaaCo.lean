/- Short forms of steps that the walks take often. -/
import Derived.Test.YtbiphljdommacaaWMore
import Derived.Lib.SliceRun
namespace Go.Proofs.Ytbiphljdommacaa.Co
open Go.RowKit Go.Proofs.YtbiphljdommacaaW.PrintWords Go.Proofs.YtbiphljdommacaaW.PrintLast
set_option linter.unusedVariables false
def bl_ : Nat → Nat → List Bool
  | 0, _ => []
  | k + 1, n => (n % 2 == 1) :: bl_ k (n / 2)
/-- So many bools, as the bits of a number. -/
def b_ (k n : Nat) : Array Bool := ⟨bl_ k n⟩
theorem sa_ {α : Type _} (l : List α) (i : Nat) (a : α) : l.toArray.setIfInBounds i a = (l.set i a).toArray := List.setIfInBounds_toArray ..
theorem s0_ {α : Type _} (x a : α) (l : List α) : (x :: l).set 0 a = a :: l := rfl
theorem s1_ {α : Type _} (x a : α) (l : List α) (n : Nat) : (x :: l).set (n + 1) a = x :: l.set n a := rfl
section
variable {P : Program} {ops : Array Oper} {Q : Exit → Act → World → Prop} {md : Region.Mode} {S : World → Prop} {ds : List Nat} {oi : Oper} {fuel : Nat} {l : Array Bool} {a : Act} {w : World}
theorem pA_ (i : Nat) (N : Tmp) (v : Value) (l' : Array Bool) (hc : anyB md ops l l' i = true) (hi : ops[i]? = some oi) (hN : oi.dst = some N)
    (hQ : ∀ c a w, Q (.panic c) (a.put oi.dst v) w → Q (.panic c) a w) (hw : Region.wanted oi (yielded ops a.tmps) = true) (hy : ∀ w, (execOp a.eval oi).run P w = .ok (.value v) w) (a' : Act) (ha : a.put (some N) v = a')
    (h : wpAnyLast P md ops Q S ds fuel l' a' w) : wpAnyLast P md ops Q S ds (fuel + 1) l a w := pure_ l' hi hN hc hQ (Or.inl ⟨hw, hy⟩) ha h
theorem tA_ (i : Nat) (N : Tmp) (v : Value) (l' : Array Bool) (hc : takeB md ops ds l l' i = true) (hi : ops[i]? = some oi) (hN : oi.dst = some N)
    (hQ : ∀ c a w, Q (.panic c) (a.put oi.dst v) w → Q (.panic c) a w) (hw : Region.wanted oi (yielded ops a.tmps) = true) (hy : ∀ w, S w → (execOp a.eval oi).run P w = .ok (.value v) w) (hS : S w) (a' : Act) (ha : a.put (some N) v = a')
    (h : wpAnyLast P md ops Q S ds fuel l' a' w) : wpAnyLast P md ops Q S ds (fuel + 1) l a w := take_ l' hi hN hc hQ (Or.inl ⟨hw, hy⟩) hS ha h
theorem pB_ (i : Nat) (N : Tmp) (a' : Act) (l' : Array Bool) (hc : anyB md ops l l' i = true) (hi : ops[i]? = some oi) (hN : oi.dst = some N)
    (hQ : ∀ c a w, Q (.panic c) (a.put oi.dst undef) w → Q (.panic c) a w) (hw : Region.wanted oi (yielded ops a.tmps) = false) (ha : a.put (some N) undef = a')
    (h : wpAnyLast P md ops Q S ds fuel l' a' w) : wpAnyLast P md ops Q S ds (fuel + 1) l a w := pure_ l' hi hN hc hQ (Or.inr ⟨hw, rfl⟩) ha h
end
theorem cl_ {w w1 : World} {p : Addr} {v : Value} (hb : Below w.heap.size w w1) (h : w.cell? p = some v) : w1.cell? p = some v := (hb.cell (World.block_lt_of_cell? w _ h)).trans h
theorem ne_ {w : World} {p : Addr} {v : Value} {g : Nat} (h : w.cell? p = some v) (hg : w.heap.size ≤ g) : p.block ≠ g := Nat.ne_of_lt (Nat.lt_of_lt_of_le (World.block_lt_of_cell? _ _ h) hg)
end Go.Proofs.Ytbiphljdommacaa.Co

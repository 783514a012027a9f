/- What is asked of a function value that a call is handed. -/
import Derived.Test.YtbiphljdommacaaRx0
import Derived.Shelf.Abstract
namespace Go.Proofs.Ytbiphljdommacaa.R
open Go.RowKit Go.Proofs.YtbiphljdommacaaW.PrintWords
set_option linter.unusedVariables false
/-- In every world in which all that lay in w lies, the value answers of a task what D tells. -/
def PredT (D : Nat → Int → Int → Int → Int → Int → Option Bool) (fn : Nat) (lb : Array Value) (w : World) : Prop :=
  ∀ (W : World) (k : Nat) (a0 a1 a2 a3 a4 : Int) (r : Bool), Below w.heap.size w W → D k a0 a1 a2 a3 a4 = some r →
    Calls Try.prog fn (#[.agg #[.int .u8 a0, .int .i64 a1, .int .i64 a2, .int .i64 a3, .int .i64 a4]] ++ lb) W fun e w' => e = .returned (.bool r) ∧ Below W.heap.size W w'
/-- The same of a node and a task: what is made of the task, and the error. -/
def DoAt (D : Nat → List Int → Int → Int → Int → Int → Int → Int → Int → Option (Int × Int × Int × Int × Int × Int)) (fn : Nat) (lb : Array Value) (w : World) : Prop :=
  ∀ (W : World) (k : Nat) (A : Option Addr) (c : Nat) (l : List Int) (p1 p2 q0 q1 q2 q3 q4 r1 r2 r3 r4 r5 r6 : Int), Below w.heap.size w W → Kd.C (Kd.int .i64) W A l.length l → l.length ≤ c → D k l p1 p2 q0 q1 q2 q3 q4 = some (r1, r2, r3, r4, r5, r6) →
    Calls Try.prog fn (#[.agg #[.slice A l.length c, .int .i64 p1, .int .i64 p2], .agg #[.int .u8 q0, .int .i64 q1, .int .i64 q2, .int .i64 q3, .int .i64 q4]] ++ lb) W fun e w' =>
      e = .returned (.tuple #[.agg #[.int .u8 r1, .int .i64 r2, .int .i64 r3, .int .i64 r4, .int .i64 r5], .int .i64 r6]) ∧ Below W.heap.size W w'
section
variable {P : Program} {ops : Array Oper} {Q : Exit → Act → World → Prop}
/-- A call of a function's value in a drawn region. -/
theorem goesV_ {oi : Oper} {N : Option Tmp} {a : Act} {w : World} {K : Act → World → Prop} {f : FuncId} {x : Operand} {lb : Array Value} {xs_ : Array Operand} {ts : Array TypeId} (eg : ∀ args w, (callFunc f args).run P w = .ok (.enter f args) w) (args : Array Value)
    (hw : Region.wanted oi (yielded ops a.tmps) = true) (hN : oi.dst = N) (hop : oi.op = .call { callee := .value x, args := xs_, argTypes := ts }) (hx : a.eval x = .func (.func f) #[] lb) (hargs : xs_.map a.eval = args)
    (h : Calls P f (args ++ lb) w fun e w' => ∃ v, e = .returned v ∧ K (a.put N v) w') : if Region.wanted oi (yielded ops a.tmps) = true then Oper.wp P oi a w K Q else K (a.put N undef) w := by
  refine YtbiphljdommacaaW.PrintLast.call_ f (args ++ lb) hw hN ?_ h
  have he := eg (args ++ lb) w
  unfold execOp
  simp [hop, resolve, Deferred.ofValue, invoke, hx, hargs, he]
end
theorem alloc_new (w : World) (cs : Array Value) (t : Nat) : (w.alloc (.cells cs t)).heap[w.heap.size]? = some (.cells cs t (0, 0)) := by
  show (w.heap.push _)[w.heap.size]? = _
  rw [Array.getElem?_push_size]
end Go.Proofs.Ytbiphljdommacaa.R

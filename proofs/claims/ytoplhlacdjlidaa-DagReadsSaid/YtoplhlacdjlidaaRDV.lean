/- What specs are written as. -/
import Derived.Test.YtoplhlacdjlidaaRx0
import Derived.Test.YtoplhlacdjlidaaRx5
import Derived.Lib.AppendZerosOnto
import Derived.Lib.SliceRun
import Derived.Test.YtoplhlacdjlidaaRx17
import Derived.Test.YtoplhlacdjlidaaRDU
namespace Go.Proofs.Ytoplhlacdjlidaa.R
open Go.RowKit Go.Proofs.YtoplhlacdjlidaaW.PrintWords Go.Proofs.YtoplhlacdjlidaaW.PrintLast Go.Proofs.YtoplhlacdjlidaaW.PrintMore Go.Proofs.Ytoplhlacdjlidaa.Plain
set_option linter.unusedVariables false
set_option linter.unusedSimpArgs false

def bytesOf (c : List Int) : List Int := c.flatMap fun v => smallN v.toNat
def numsOf (x : NodeT) : List Int := [[(x.f0.length : Int)], x.f0, [x.f1, x.f2]].flatten
theorem shape_bounds (l : List NodeT) (hs : shapeS l = true) (h12 : l.length ≤ 12) (i : Nat) (hi : i < l.length) : l[i].f0.length ≤ 12 ∧ ∀ v ∈ numsOf l[i], 0 ≤ v ∧ v < 4611686018427387904 := by
  have hsl := shape_len l hs i hi
  have hnd := shape_needs l hs i hi
  rw [needs_at l i hi] at hnd
  have hb := shapeFrom_at _ l 0 hs i hi
  simp only [nodeOk, Bool.and_eq_true] at hb
  have hbo := of_decide_eq_true hb.1
  refine ⟨by omega, fun v hv => ?_⟩
  simp only [numsOf, List.flatten_cons, List.flatten_nil, List.append_nil, List.mem_append, List.mem_cons, List.not_mem_nil, or_false] at hv
  rcases hv with rfl | hv | rfl | rfl
  · omega
  · have := hnd v hv
    omega
  · omega
  · omega
end Go.Proofs.Ytoplhlacdjlidaa.R

/- Contracts of Go functions and what they come to, over the translation of this seat: made by a program of this session (print2.py). -/
import Derived.Test.YtagdmgjdhbmaiaaDoorAbv
import Derived.Test.YtagdmgjdhbmaiaaDoorRx0
namespace Go.Proofs.YtagdmgjdhbmaiaaDoor.R
open Go.RowKit Go.Proofs.YtagdmgjdhbmaiaaDoor.Co Go.Proofs.YtagdmgjdhbmaiaaDoor.Ret Go.Proofs.YtagdmgjdhbmaiaaDoor.Plain Go.Proofs.YtagdmgjdhbmaiaaDoor.Box Go.Proofs.YtagdmgjdhbmaiaaDoorW.PrintWords Go.Proofs.YtagdmgjdhbmaiaaDoorW.PrintLast Go.Proofs.YtagdmgjdhbmaiaaDoorW.PrintMore
attribute [local go_sem] max2_int min2_int max_two min_two max_three min_three max_four min_four   -- for this text's walks alone
set_option linter.unusedVariables false
set_option linter.unusedSimpArgs false

/-! ### code_Above: function 21 -/
def code_Above.f (a0 : ByteArray) : Option (ByteArray × Bool) := if a0.size ≤ 1099511627776 then some (Esc.aboveS a0) else none
set_option maxHeartbeats 8000000 in
set_option maxRecDepth 100000 in
theorem code_Above.calls (a0 : ByteArray) (r1 : ByteArray) (r2 : Bool) (w : World) (h : code_Above.f a0 = some (r1, r2)) :
  Calls Tryd.prog 21 #[.string a0] w fun e w' => e = .returned (.tuple #[.string r1, .bool r2]) ∧ Below w.heap.size w w' := by
 unfold code_Above.f at h
 split at h
 ·
  rename_i hs
  exact Esc.above_walk _ (r1, r2) w hs (Option.some.inj h)
 ·
  exact absurd h (by simp)


end Go.Proofs.YtagdmgjdhbmaiaaDoor.R

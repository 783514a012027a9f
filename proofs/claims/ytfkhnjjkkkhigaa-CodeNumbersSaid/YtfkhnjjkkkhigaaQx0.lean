/- Contracts of Go functions and what they come to, over the translation of this seat: made by a program of this session (print2.py). -/
import Derived.Test.YtfkhnjjkkkhigaaProg
import Derived.Below
import Derived.Deep.Draws
import Derived.Deep.AppendLies
import Derived.Maps.AppendAt
import Derived.OwnWalk
import Derived.Laws.BytesArg
import Derived.Laws.MakeOwn
import Derived.Laws.OwnMore
import Derived.Deep.OwnRows
import Derived.Tactics
import Derived.Lib.ConvBytes
import Derived.Laws.Slices
import Derived.WalkKit
import Derived.KernelRfl
import Derived.RowKit3
import Derived.Deep.LoopGhost
import Derived.Deep.QuietTactic
import Derived.BigQuiet
import Derived.WideLaws
import Derived.Deep.DeepCutAuto
import Derived.Deep.CutBlock
import Derived.Deep.RegionHeld3
import Derived.Laws.Rows
import Derived.Lib.AppendStr
import Derived.ArgAppend
import Derived.Laws.IdiomCopy
import Derived.OrdersHeld
import Derived.Laws.BitsLemmas
import Derived.RowKit
import Derived.Test.YtfkhnjjkkkhigaaRet
import Derived.Test.YtfkhnjjkkkhigaaWWords
import Derived.Test.YtfkhnjjkkkhigaaWLast
import Derived.Test.YtfkhnjjkkkhigaaWTab
import Derived.Test.YtfkhnjjkkkhigaaWFour
import Derived.Test.YtfkhnjjkkkhigaaWQPut
import Derived.Test.YtfkhnjjkkkhigaaWApart
import Derived.Test.YtfkhnjjkkkhigaaWArr
import Derived.Test.YtfkhnjjkkkhigaaWZeros
import Derived.Test.YtfkhnjjkkkhigaaWFoot
import Derived.Test.YtfkhnjjkkkhigaaWKept
import Derived.Test.YtfkhnjjkkkhigaaWShare
import Derived.Test.YtfkhnjjkkkhigaaWN
import Derived.Test.YtfkhnjjkkkhigaaWFootNe
import Derived.Test.YtfkhnjjkkkhigaaWAt
import Derived.Test.YtfkhnjjkkkhigaaWEqStruct
import Derived.Test.YtfkhnjjkkkhigaaWRepsOne
import Derived.Test.YtfkhnjjkkkhigaaWInv
import Derived.Test.YtfkhnjjkkkhigaaWInvWords
import Derived.Test.YtfkhnjjkkkhigaaWGuard
import Derived.Test.YtfkhnjjkkkhigaaWNEv
import Derived.Test.YtfkhnjjkkkhigaaWMore
namespace Go.Proofs.Ytfkhnjjkkkhigaa.Q
open Go.RowKit Go.Proofs.Ytfkhnjjkkkhigaa.Ret Go.Proofs.YtfkhnjjkkkhigaaW.PrintWords Go.Proofs.YtfkhnjjkkkhigaaW.PrintLast Go.Proofs.YtfkhnjjkkkhigaaW.PrintMore
attribute [local go_sem] max2_int min2_int max_two min_two max_three min_three max_four min_four   -- for this text's walks alone
set_option linter.unusedVariables false
set_option linter.unusedSimpArgs false



def errW : Option Int → Value
  | none => .nilIface
  | some c => .iface 0 (.int .i64 c)
theorem errW_none : errW none = .nilIface := rfl
theorem errW_some (c : Int) : errW (some c) = .iface 0 (.int .i64 c) := rfl

theorem info5 : (Try.prog.info? 5).map (fun i => (i.zero, i.size, i.bytes)) = some (some (.int .u8 0), 1, 1) := by kernel_rfl
-- the values' own types

end Go.Proofs.Ytfkhnjjkkkhigaa.Q

/- Contracts of Go functions and what they come to, over the translation of this seat: made by a program of this session (print2.py). -/
import Derived.Test.YtbgfjhnbmfgccaaCo
import Derived.Test.YtbgfjhnbmfgccaaProg
import Derived.Below
import Derived.Deep.Draws
import Derived.Deep.AppendLies
import Derived.Maps.AppendAt
import Derived.OwnWalk
import Derived.Laws.BytesArg
import Derived.Laws.MakeOwn
import Derived.Laws.OwnMore
import Derived.Deep.OwnRows
import Derived.Tactics
import Derived.Lib.ConvBytes
import Derived.Laws.Slices
import Derived.WalkKit
import Derived.KernelRfl
import Derived.RowKit3
import Derived.Deep.LoopGhost
import Derived.Deep.QuietTactic
import Derived.BigQuiet
import Derived.WideLaws
import Derived.Deep.DeepCutAuto
import Derived.Deep.CutBlock
import Derived.Deep.RegionHeld3
import Derived.Laws.Rows
import Derived.Lib.AppendStr
import Derived.ArgAppend
import Derived.Laws.IdiomCopy
import Derived.OrdersHeld
import Derived.Laws.BitsLemmas
import Derived.RowKit
import Derived.Test.YtbgfjhnbmfgccaaRet
import Derived.Test.YtbgfjhnbmfgccaaPlain
import Derived.Test.YtbgfjhnbmfgccaaWMore
import Derived.RangeFuncBox
import Derived.Test.YtbgfjhnbmfgccaaWWords
import Derived.Test.YtbgfjhnbmfgccaaWLast
import Derived.Test.YtbgfjhnbmfgccaaWTab
import Derived.Test.YtbgfjhnbmfgccaaWApart
import Derived.Test.YtbgfjhnbmfgccaaWFoot
import Derived.Test.YtbgfjhnbmfgccaaWKept
import Derived.Test.YtbgfjhnbmfgccaaWShare
import Derived.Test.YtbgfjhnbmfgccaaWN
import Derived.Test.YtbgfjhnbmfgccaaWEqStruct
import Derived.Test.YtbgfjhnbmfgccaaWRepsOne
import Derived.Test.YtbgfjhnbmfgccaaWInv
namespace Go.Proofs.Ytbgfjhnbmfgccaa.R
open Go.RowKit Go.Proofs.Ytbgfjhnbmfgccaa.Co Go.Proofs.Ytbgfjhnbmfgccaa.Ret Go.Proofs.Ytbgfjhnbmfgccaa.Plain Go.Proofs.YtbgfjhnbmfgccaaW.PrintWords Go.Proofs.YtbgfjhnbmfgccaaW.PrintLast Go.Proofs.YtbgfjhnbmfgccaaW.PrintMore
attribute [local go_sem] max2_int min2_int max_two min_two max_three min_three max_four min_four   -- for this text's walks alone
set_option linter.unusedVariables false
set_option linter.unusedSimpArgs false

def errW : Option Int → Value
 | none => .nilIface
 | some c => .iface 0 (.int .i64 c)
theorem errW_none : errW none = .nilIface := rfl
theorem errW_some (c : Int) : errW (some c) = .iface 0 (.int .i64 c) := rfl

-- the values' own types
/-! #### struct type 37 -/
end Go.Proofs.Ytbgfjhnbmfgccaa.R

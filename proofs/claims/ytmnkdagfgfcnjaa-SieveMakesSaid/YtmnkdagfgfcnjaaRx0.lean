/- Contracts of Go functions and what they come to, over the translation of this seat: made by a program of this session (print2.py). -/
import Derived.Test.YtmnkdagfgfcnjaaProg
import Derived.Below
import Derived.Deep.Draws
import Derived.Deep.AppendLies
import Derived.Maps.AppendAt
import Derived.OwnWalk
import Derived.Laws.BytesArg
import Derived.Laws.MakeOwn
import Derived.Laws.OwnMore
import Derived.Deep.OwnRows
import Derived.Tactics
import Derived.Lib.ConvBytes
import Derived.Laws.Slices
import Derived.WalkKit
import Derived.KernelRfl
import Derived.RowKit3
import Derived.Deep.LoopGhost
import Derived.Deep.QuietTactic
import Derived.BigQuiet
import Derived.WideLaws
import Derived.Deep.DeepCutAuto
import Derived.Deep.CutBlock
import Derived.Deep.RegionHeld3
import Derived.Laws.Rows
import Derived.Lib.AppendStr
import Derived.ArgAppend
import Derived.Laws.IdiomCopy
import Derived.OrdersHeld
import Derived.Laws.BitsLemmas
import Derived.RowKit
import Derived.Test.YtmnkdagfgfcnjaaRet
import Derived.Test.YtmnkdagfgfcnjaaPlain
import Derived.Test.YtmnkdagfgfcnjaaBox
import Derived.Test.YtmnkdagfgfcnjaaWWords
import Derived.Test.YtmnkdagfgfcnjaaWLast
import Derived.Test.YtmnkdagfgfcnjaaWTab
import Derived.Test.YtmnkdagfgfcnjaaWFour
import Derived.Test.YtmnkdagfgfcnjaaWQPut
import Derived.Test.YtmnkdagfgfcnjaaWApart
import Derived.Test.YtmnkdagfgfcnjaaWArr
import Derived.Test.YtmnkdagfgfcnjaaWZeros
import Derived.Test.YtmnkdagfgfcnjaaWFoot
import Derived.Test.YtmnkdagfgfcnjaaWKept
import Derived.Test.YtmnkdagfgfcnjaaWShare
import Derived.Test.YtmnkdagfgfcnjaaWN
import Derived.Test.YtmnkdagfgfcnjaaWFootNe
import Derived.Test.YtmnkdagfgfcnjaaWAt
import Derived.Test.YtmnkdagfgfcnjaaWEqStruct
import Derived.Test.YtmnkdagfgfcnjaaWRepsOne
import Derived.Test.YtmnkdagfgfcnjaaWInv
import Derived.Test.YtmnkdagfgfcnjaaWInvWords
import Derived.Test.YtmnkdagfgfcnjaaWGuard
import Derived.Test.YtmnkdagfgfcnjaaWNEv
import Derived.Test.YtmnkdagfgfcnjaaWMore
namespace Go.Proofs.Ytmnkdagfgfcnjaa.R
open Go.RowKit Go.Proofs.Ytmnkdagfgfcnjaa.Ret Go.Proofs.Ytmnkdagfgfcnjaa.Plain Go.Proofs.Ytmnkdagfgfcnjaa.Box Go.Proofs.YtmnkdagfgfcnjaaW.PrintWords Go.Proofs.YtmnkdagfgfcnjaaW.PrintLast Go.Proofs.YtmnkdagfgfcnjaaW.PrintMore
attribute [local go_sem] max2_int min2_int max_two min_two max_three min_three max_four min_four   -- for this text's walks alone
set_option linter.unusedVariables false
set_option linter.unusedSimpArgs false



def errW : Option Int → Value
  | none => .nilIface
  | some c => .iface 0 (.int .i64 c)
theorem errW_none : errW none = .nilIface := rfl
theorem errW_some (c : Int) : errW (some c) = .iface 0 (.int .i64 c) := rfl

theorem info3 : (Try.prog.info? 3).map (fun i => (i.zero, i.size, i.bytes)) = some (some (.int .i64 0), 1, 8) := by kernel_rfl
theorem info5 : (Try.prog.info? 5).map (fun i => (i.zero, i.size, i.bytes)) = some (some (.int .u8 0), 1, 1) := by kernel_rfl
theorem info9 : (Try.prog.info? 9).map (fun i => (i.zero, i.size, i.bytes)) = some (some (.string ⟨#[]⟩), 1, 16) := by kernel_rfl
-- the values' own types

end Go.Proofs.Ytmnkdagfgfcnjaa.R

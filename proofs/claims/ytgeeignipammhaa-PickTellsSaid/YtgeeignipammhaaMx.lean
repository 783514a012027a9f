/- Go's max and min of texts. -/
import Derived.Test.YtgeeignipammhaaOrd
namespace Go.Proofs.Ytgeeignipammhaa.Mx
open Go.RowKit Go.Proofs.YtgeeignipammhaaW.PrintWords
set_option linter.unusedVariables false
/-- The later, the earlier of two texts, as Go's max and min tell it. -/
def mxS (x y : ByteArray) : ByteArray := if Op.bytesLess x.toList y.toList = true then y else x
def mnS (x y : ByteArray) : ByteArray := if Op.bytesLess y.toList x.toList = true then y else x
theorem max2_str (x y : ByteArray) : Builtin.max2 (.string x) (.string y) = pure (.string (mxS x y)) := by
  unfold Builtin.max2 mxS
  cases h : Op.bytesLess x.toList y.toList <;> simp [Op.stringOp, asBool, h]
theorem min2_str (x y : ByteArray) : Builtin.min2 (.string x) (.string y) = pure (.string (mnS x y)) := by
  have hn := Ord.not_le_ x.toList y.toList
  unfold Builtin.min2 mnS
  rw [← hn]
  cases h : Op.bytesLess x.toList y.toList <;> cases h2 : (x.toList == y.toList) <;> simp [Op.stringOp, asBool, h, h2]
end Go.Proofs.Ytgeeignipammhaa.Mx

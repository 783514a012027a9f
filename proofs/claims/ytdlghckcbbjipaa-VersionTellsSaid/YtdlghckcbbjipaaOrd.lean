/- The order of texts, as the print spells it. -/
import Derived.Test.YtdlghckcbbjipaaWMore
namespace Go.Proofs.Ytdlghckcbbjipaa.Ord
open Go.RowKit Go.Proofs.YtdlghckcbbjipaaW.PrintWords
set_option linter.unusedVariables false
theorem u8_tri_ (x y : UInt8) : x < y ∨ x = y ∨ y < x := by
  rw [UInt8.lt_iff_toNat_lt, UInt8.lt_iff_toNat_lt, ← UInt8.toNat_inj]
  omega
theorem not_le_ : ∀ (s t : List UInt8), (!(Op.bytesLess s t || s == t)) = Op.bytesLess t s
  | [], [] => rfl
  | [], _ :: _ => rfl
  | _ :: _, [] => rfl
  | x :: s, y :: t => by
    have ih := not_le_ s t
    rw [Op.bytesLess, Op.bytesLess]
    rcases u8_tri_ x y with g | rfl | g
    · have h1 : ¬ y < x := by rw [UInt8.lt_iff_toNat_lt] at *; omega
      have h2 : (y == x) = false := by
        rw [beq_eq_false_iff_ne]
        rintro rfl
        exact h1 g
      rw [decide_eq_true g, decide_eq_false h1, h2]
      rfl
    · have h1 : ¬ x < x := by rw [UInt8.lt_iff_toNat_lt]; omega
      rw [decide_eq_false h1, ← ih]
      simp
    · have h1 : ¬ x < y := by rw [UInt8.lt_iff_toNat_lt] at *; omega
      have h2 : (x == y) = false := by
        rw [beq_eq_false_iff_ne]
        rintro rfl
        exact h1 g
      have h3 : ((x :: s) == (y :: t)) = false := by
        rw [beq_eq_false_iff_ne]
        intro e
        injection e with e _
        subst e
        exact h1 g
      rw [decide_eq_true g, decide_eq_false h1, h2, h3]
      rfl
theorem gtr_ (t : TypeId) (a b : ByteArray) : binOp .gtr t (.string a) (.string b) = pure (.bool (Op.bytesLess b.toList a.toList)) := by
  rw [← not_le_]
  simp [binOp, Op.stringOp]
theorem leq_ (t : TypeId) (a b : ByteArray) : binOp .leq t (.string a) (.string b) = pure (.bool (!(Op.bytesLess b.toList a.toList))) := by
  rw [← not_le_]
  simp [binOp, Op.stringOp]
theorem geq_ (t : TypeId) (a b : ByteArray) : binOp .geq t (.string a) (.string b) = pure (.bool (!(Op.bytesLess a.toList b.toList))) := by simp [binOp, Op.stringOp]
end Go.Proofs.Ytdlghckcbbjipaa.Ord

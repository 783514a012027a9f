/- Plain words: the rounds' events, numbers as bytes. No program in sight. -/
import Derived.Test.YtbiphljdommacaaWMore
namespace Go.Proofs.Ytbiphljdommacaa.Plain
open Go.RowKit Go.Proofs.YtbiphljdommacaaW.PrintWords
set_option linter.unusedVariables false

section
variable {α : Type} {c : Prop} [Decidable c] {g f : Nat → Option α} {r : α}
theorem ev_pos (h : c) (k : Ev g r) : Ev (fun n => if c then g n else f n) r := by
  simp only [if_pos h]
  exact k
theorem ev_neg (h : ¬c) (k : Ev f r) : Ev (fun n => if c then g n else f n) r := by
  simp only [if_neg h]
  exact k
theorem ev_ite {r1 r2 : α} (h1 : c → Ev g r1) (h2 : ¬c → Ev f r2) : Ev (fun n => if c then g n else f n) (if c then r1 else r2) := by
  by_cases h : c
  · rw [if_pos h]; exact ev_pos h (h1 h)
  · rw [if_neg h]; exact ev_neg h (h2 h)
theorem ev_some {x : α} (h : x = r) : Ev (fun _ => some x) r := by rw [h]; exact Ev.now r
theorem ev_eq {r' : α} (h : Ev g r) (e : r = r') : Ev g r' := e ▸ h
end

theorem w64 {i : Int} (h0 : -9223372036854775808 ≤ i) (h1 : i < 9223372036854775808) : wrap64 i = i := by unfold wrap64; omega
end Go.Proofs.Ytbiphljdommacaa.Plain

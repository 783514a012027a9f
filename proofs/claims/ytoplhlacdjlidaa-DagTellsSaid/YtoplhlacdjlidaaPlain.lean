/- Plain words: the rounds' events, numbers as bytes. No program in sight. -/
import Derived.Test.YtoplhlacdjlidaaWAll
namespace Go.Proofs.Ytoplhlacdjlidaa.Plain
open Go.RowKit Go.Proofs.YtoplhlacdjlidaaW.PrintWords
set_option linter.unusedVariables false

section
variable {α : Type} {c : Prop} [Decidable c] {g f : Nat → Option α} {r : α}
theorem ev_pos (h : c) (k : Ev g r) : Ev (fun n => if c then g n else f n) r := by
  simp only [if_pos h]
  exact k
theorem ev_neg (h : ¬c) (k : Ev f r) : Ev (fun n => if c then g n else f n) r := by
  simp only [if_neg h]
  exact k
theorem ev_some {x : α} (h : x = r) : Ev (fun _ => some x) r := by rw [h]; exact Ev.now r
theorem ev_eq {r' : α} (h : Ev g r) (e : r = r') : Ev g r' := e ▸ h
end

theorem w64 {i : Int} (h0 : -9223372036854775808 ≤ i) (h1 : i < 9223372036854775808) : wrap64 i = i := by unfold wrap64; omega
theorem u64w (i : Int) : IntKind.u64.wrap i = i % 18446744073709551616 := by simp [IntKind.wrap, IntKind.bits, IntKind.signed]
theorem u64w_in {i : Int} (h0 : 0 ≤ i) (h1 : i < 18446744073709551616) : IntKind.u64.wrap i = i := by rw [u64w]; omega
/-- A number in bytes, seven bits each, the least first. -/
def smallN (n : Nat) : List Int := if n < 128 then [(n : Int)] else ((n % 128 + 128 : Nat) : Int) :: smallN (n / 128)
termination_by n
decreasing_by omega
theorem smallN_lt {n : Nat} (h : n < 128) : smallN n = [(n : Int)] := by rw [smallN, if_pos h]
theorem smallN_ge {n : Nat} (h : ¬ n < 128) : smallN n = ((n % 128 + 128 : Nat) : Int) :: smallN (n / 128) := by rw [smallN, if_neg h]
theorem smallN_length : ∀ (d n : Nat), n < 128 ^ (d + 1) → 1 ≤ (smallN n).length ∧ (smallN n).length ≤ d + 1
  | 0, n, h => by rw [smallN_lt (by omega)]; simp
  | d + 1, n, h => by
    by_cases h1 : n < 128
    · rw [smallN_lt h1]; simp
    · rw [smallN_ge h1]
      have := smallN_length d (n / 128) (by rw [Nat.div_lt_iff_lt_mul (by decide)]; rw [Nat.pow_succ] at h; exact h)
      simp only [List.length_cons]
      omega
theorem smallN_len10 {n : Nat} (h : n < 18446744073709551616) : 1 ≤ (smallN n).length ∧ (smallN n).length ≤ 10 := smallN_length 9 n (by omega)
theorem or128 {x : Int} (h0 : 0 ≤ x) (h1 : x < 256) : Go.bits .or .u8 x 128 = x % 128 + 128 := by
  obtain ⟨n, rfl⟩ := Int.eq_ofNat_of_zero_le h0
  have hn : n < 256 := by omega
  have key : ∀ m : Fin 256, Go.bits .or .u8 ((m.val : Nat) : Int) 128 = ((m.val : Nat) : Int) % 128 + 128 := by decide +kernel
  exact key ⟨n, hn⟩
end Go.Proofs.Ytoplhlacdjlidaa.Plain

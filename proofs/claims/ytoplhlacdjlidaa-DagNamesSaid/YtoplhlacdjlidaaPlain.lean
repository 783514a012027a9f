/- Plain words: the rounds' events, numbers as bytes. No program in sight. -/
import Derived.Test.YtoplhlacdjlidaaWAll
namespace Go.Proofs.Ytoplhlacdjlidaa.Plain
open Go.RowKit Go.Proofs.YtoplhlacdjlidaaW.PrintWords
set_option linter.unusedVariables false

section
variable {α : Type} {c : Prop} [Decidable c] {g f : Nat → Option α} {r : α}
theorem ev_pos (h : c) (k : Ev g r) : Ev (fun n => if c then g n else f n) r := by
  simp only [if_pos h]
  exact k
theorem ev_neg (h : ¬c) (k : Ev f r) : Ev (fun n => if c then g n else f n) r := by
  simp only [if_neg h]
  exact k
theorem ev_some {x : α} (h : x = r) : Ev (fun _ => some x) r := by rw [h]; exact Ev.now r
theorem ev_eq {r' : α} (h : Ev g r) (e : r = r') : Ev g r' := e ▸ h
end

theorem w64 {i : Int} (h0 : -9223372036854775808 ≤ i) (h1 : i < 9223372036854775808) : wrap64 i = i := by unfold wrap64; omega
theorem u64w (i : Int) : IntKind.u64.wrap i = i % 18446744073709551616 := by simp [IntKind.wrap, IntKind.bits, IntKind.signed]
theorem u64w_in {i : Int} (h0 : 0 ≤ i) (h1 : i < 18446744073709551616) : IntKind.u64.wrap i = i := by rw [u64w]; omega
/-- A number in bytes, seven bits each, the least first. -/
def smallN (n : Nat) : List Int := if n < 128 then [(n : Int)] else ((n % 128 + 128 : Nat) : Int) :: smallN (n / 128)
termination_by n
decreasing_by omega
theorem smallN_lt {n : Nat} (h : n < 128) : smallN n = [(n : Int)] := by rw [smallN, if_pos h]
theorem smallN_ge {n : Nat} (h : ¬ n < 128) : smallN n = ((n % 128 + 128 : Nat) : Int) :: smallN (n / 128) := by rw [smallN, if_neg h]
/-- A number read, from place i on: it, and how many bytes it has. -/
def rd1 : Nat → List Int → Option (Nat × Nat)
  | _, [] => none
  | i, x :: t => if i = 9 ∧ 1 < x then none else if x < 128 then (if x = 0 ∧ 0 < i then none else some (x.toNat, 1)) else (rd1 (i + 1) t).map fun p => ((x - 128).toNat + 128 * p.1, p.2 + 1)
/-- What reading bytes tells: the number, its bytes, the error. -/
def readS (l : List Int) : Int × Int × Int := match rd1 0 l with | some p => ((p.1 : Int), (p.2 : Int), 0) | none => (0, 0, 8)

theorem rd1_len : ∀ {l : List Int} {i : Nat} {p : Nat × Nat}, rd1 i l = some p → 1 ≤ p.2 ∧ p.2 ≤ l.length
  | [], i, p, h => by simp [rd1] at h
  | x :: t, i, p, h => by
    unfold rd1 at h
    split at h
    · cases h
    · split at h
      · split at h
        · cases h
        · injection h with h
          subst h
          simp
      · cases hr : rd1 (i + 1) t with
        | none => simp [hr] at h
        | some q =>
          simp [hr] at h
          subst h
          have := rd1_len hr
          simp only [List.length_cons]
          omega
/-- What was read was written so. -/
theorem rd1_only : ∀ {l : List Int} {i : Nat} {p : Nat × Nat}, (∀ x ∈ l, 0 ≤ x ∧ x ≤ 255) → rd1 i l = some p → l.take p.2 = smallN p.1 ∧ (0 < i → 0 < p.1) ∧ (i ≤ 9 → p.1 < 2 * 128 ^ (9 - i))
  | [], i, p, _, h => by simp [rd1] at h
  | x :: t, i, p, hb, h => by
    have hx := hb x (by simp)
    unfold rd1 at h
    split at h
    · cases h
    · rename_i h9
      split at h
      · rename_i h128
        split at h
        · cases h
        · rename_i h0
          injection h with h
          subst h
          refine ⟨?_, fun hi => by show 0 < x.toNat; omega, fun hi => ?_⟩
          · rw [smallN_lt (show x.toNat < 128 by omega)]
            simp only [List.take_succ_cons, List.take_zero, List.cons.injEq, and_true]
            show x = (x.toNat : Int)
            omega
          · show x.toNat < _
            by_cases hi9 : i = 9
            · subst hi9
              have : ¬ 1 < x := fun h => h9 ⟨rfl, h⟩
              simp
              omega
            · obtain ⟨m, hm⟩ : ∃ m, 9 - i = m + 1 := ⟨8 - i, by omega⟩
              rw [hm, Nat.pow_succ]
              have : 0 < 128 ^ m := Nat.pow_pos (by decide)
              omega
      · rename_i h128
        cases hr : rd1 (i + 1) t with
        | none => simp [hr] at h
        | some q =>
          simp [hr] at h
          subst h
          obtain ⟨h1, h2, h3⟩ := rd1_only (fun y hy => hb y (List.mem_cons_of_mem _ hy)) hr
          have hq := h2 (by omega)
          have e1 : ((x - 128).toNat + 128 * q.1) / 128 = q.1 := by omega
          have e2 : ((x - 128).toNat + 128 * q.1) % 128 + 128 = x.toNat := by omega
          refine ⟨?_, fun _ => by show 0 < _; omega, fun hi => ?_⟩
          · show (x :: t).take (q.2 + 1) = smallN ((x - 128).toNat + 128 * q.1)
            rw [smallN_ge (show ¬ (x - 128).toNat + 128 * q.1 < 128 by omega), e1, e2, List.take_succ_cons, h1]
            congr 1
            omega
          · show (x - 128).toNat + 128 * q.1 < _
            have hi9 : i ≠ 9 := by
              rintro rfl
              exact h9 ⟨rfl, by omega⟩
            have := h3 (by omega)
            obtain ⟨m, hm⟩ : ∃ m, 9 - i = m + 1 := ⟨8 - i, by omega⟩
            rw [show 9 - (i + 1) = m by omega] at this
            rw [hm, Nat.pow_succ]
            omega
theorem rd1_only0 {l : List Int} {p : Nat × Nat} (hb : ∀ x ∈ l, 0 ≤ x ∧ x ≤ 255) (h : rd1 0 l = some p) : l.take p.2 = smallN p.1 ∧ p.1 < 18446744073709551616 ∧ p.2 = (smallN p.1).length := by
  obtain ⟨h1, _, h3⟩ := rd1_only hb h
  refine ⟨h1, by have := h3 (by omega); simpa using this, ?_⟩
  rw [← h1, List.length_take]
  have := rd1_len h
  omega

theorem and127 {x : Int} (h0 : 0 ≤ x) (h1 : x < 256) : Go.bits .and .u8 x 127 = x % 128 := by
  obtain ⟨n, rfl⟩ := Int.eq_ofNat_of_zero_le h0
  have hn : n < 256 := by omega
  have key : ∀ m : Fin 256, Go.bits .and .u8 ((m.val : Nat) : Int) 127 = ((m.val : Nat) : Int) % 128 := by decide +kernel
  exact key ⟨n, hn⟩

end Go.Proofs.Ytoplhlacdjlidaa.Plain

/- Contracts of Go functions and what they come to, over the translation of this seat: made by a program of this session (print2.py). -/
import Derived.Test.YtagdmgjdhbmaiaaDoorRx0
namespace Go.Proofs.YtagdmgjdhbmaiaaDoor.R
open Go.RowKit Go.Proofs.YtagdmgjdhbmaiaaDoor.Co Go.Proofs.YtagdmgjdhbmaiaaDoor.Ret Go.Proofs.YtagdmgjdhbmaiaaDoor.Plain Go.Proofs.YtagdmgjdhbmaiaaDoor.Box Go.Proofs.YtagdmgjdhbmaiaaDoorW.PrintWords Go.Proofs.YtagdmgjdhbmaiaaDoorW.PrintLast Go.Proofs.YtagdmgjdhbmaiaaDoorW.PrintMore
attribute [local go_sem] max2_int min2_int max_two min_two max_three min_three max_four min_four   -- for this text's walks alone
set_option linter.unusedVariables false
set_option linter.unusedSimpArgs false

/-! ### keys_number: function 51 -/
def keys_number.f (l0 : List (S50)) (a1 : Int) : Option (Int × Bool) := if (l0.length : Int) = 2 then (if 1 < (l0.length : Int) then (if (rd_T50 l0 1).f0 = true then (some (0, false)) else (if ((rd_T50 l0 1).f1) < a1 then (some (0, false)) else (if ((rd_T50 l0 1).f1) > 1099511627776 then (some (0, false)) else (some (wrap64 ((rd_T50 l0 1).f1), true))))) else (none)) else (some (0, false))
set_option maxHeartbeats 8000000 in
set_option maxRecDepth 100000 in
theorem keys_number.calls (A0 : Option Addr) (c0 : Nat) (l0 : List (S50)) (a1 : Int) (r1 : Int) (r2 : Bool) (w : World) (hr0 : Kd.C k50 w A0 l0.length l0) (hc0 : l0.length ≤ c0) (h : keys_number.f l0 a1 = some (r1, r2)) :
  Calls Tryd.prog 51 #[.slice A0 l0.length c0, .int .u64 a1] w fun e w' => e = .returned (.tuple #[.int .i64 r1, .bool r2]) ∧ Drawn0 w w' := by
 have HR0 := Aside0.mk hr0
 have HC0 := Aside0.mk hc0
 clear hr0 hc0
 have H : (if (l0.length : Int) = 2 then (if 1 < (l0.length : Int) then (if (rd_T50 l0 1).f0 = true then (some (0, false)) else (if ((rd_T50 l0 1).f1) < a1 then (some (0, false)) else (if ((rd_T50 l0 1).f1) > 1099511627776 then (some (0, false)) else (some (wrap64 ((rd_T50 l0 1).f1), true))))) else (none)) else (some (0, false))) = some (r1, r2) := h
 clear h
 by_cases c3 : (l0.length : Int) = 2
 ·
  rw [if_pos c3] at H
  have c3b0 : ((l0.length : Int) == 2) = true := beq_iff_eq.mpr c3
  have c3b1 : ((l0.length : Int) != 2) = false := bne_eq_false_iff_eq.mpr c3
  clear c3
  by_cases c4 : 1 < (l0.length : Int)
  ·
   rw [if_pos c4] at H
   have c4b0 : decide (1 < (l0.length : Int)) = true := decide_eq_true c4
   have c4b1 : decide (1 < l0.length) = true := decide_eq_true (by omega)
   clear c4
   obtain ⟨bq5, hbq5⟩ : ∃ b_ : Bool, b_ = ((rd_T50 l0 1).f0) := ⟨_, rfl⟩
   replace H : (if bq5 = true then (some (0, false)) else (if ((rd_T50 l0 1).f1) < a1 then (some (0, false)) else (if ((rd_T50 l0 1).f1) > 1099511627776 then (some (0, false)) else (some (wrap64 ((rd_T50 l0 1).f1), true))))) = some (r1, r2) := by rw [← hbq5] at H; exact H
   have Nbq5 := Aside0.mk hbq5
   clear hbq5
   by_cases c6 : bq5 = true
   ·
    subst c6
    have H1 : (some (0, false)) = some (r1, r2) := by rw [if_pos rfl] at H; exact H
    clear H
    have H := H1
    clear H1
    simp only [Option.some.injEq, Prod.mk.injEq] at H
    obtain ⟨rfl, rfl⟩ := H
    have p497 : 0 ≤ (1 : Int) := (by omega)
    have q497 : 1 < (l0.length : Int) := of_decide_eq_true (by first | (with_reducible assumption) | assumption)
    obtain ⟨ad497, e497, hx497_0, hx497_1, hx497_2⟩ := at_T50 HR0.out 1 p497 q497
    (try rw [← Nbq5.out] at hx497_0)
    cases e497
    (try simp only [show (1 : Int).toNat = 1 from rfl, Nat.reduceMul, Nat.reduceEqDiff, Go.Addr.add, ↓reduceIte] at hx497_0)
    (try simp only [show (1 : Int).toNat = 1 from rfl, Nat.reduceMul, Nat.reduceEqDiff, Go.Addr.add, ↓reduceIte] at hx497_1)
    (try simp only [show (1 : Int).toNat = 1 from rfl, Nat.reduceMul, Nat.reduceEqDiff, Go.Addr.add, ↓reduceIte] at hx497_2)
    have qi497 : (1 < l0.length) = True := eq_true (by omega)
    (try rw [show ((1 : Int)).toNat = 1 from rfl] at hx497_0)
    (try rw [show 1 * 3 = 3 from rfl] at hx497_0)
    (try rw [show ((1 : Int)).toNat = 1 from rfl] at hx497_1)
    (try rw [show 1 * 3 = 3 from rfl] at hx497_1)
    (try rw [show ((1 : Int)).toNat = 1 from rfl] at hx497_2)
    (try rw [show 1 * 3 = 3 from rfl] at hx497_2)
    replace p497 := eq_true p497
    replace q497 := eq_true q497
    go_enter Tryd.func51, Tryd.ntmps51
    go_wp2
    go_ret2
    exact ⟨by first | rfl | (simp; done) | (simp [*]; done), by repeat (first | exact Drawn0.refl _ | apply Drawn0.step)⟩
   ·
    replace c6 := Bool.eq_false_iff.mpr c6
    subst c6
    have H1 : (if ((rd_T50 l0 1).f1) < a1 then (some (0, false)) else (if ((rd_T50 l0 1).f1) > 1099511627776 then (some (0, false)) else (some (wrap64 ((rd_T50 l0 1).f1), true)))) = some (r1, r2) := by rw [if_neg (show ¬ (false = true) by decide)] at H; exact H
    clear H
    have H := H1
    clear H1
    by_cases c7 : ((rd_T50 l0 1).f1) < a1
    ·
     rw [if_pos c7] at H
     have c7b0 : decide (((rd_T50 l0 1).f1) < a1) = true := decide_eq_true c7
     clear c7
     simp only [Option.some.injEq, Prod.mk.injEq] at H
     obtain ⟨rfl, rfl⟩ := H
     have p497 : 0 ≤ (1 : Int) := (by omega)
     have q497 : 1 < (l0.length : Int) := of_decide_eq_true (by first | (with_reducible assumption) | assumption)
     obtain ⟨ad497, e497, hx497_0, hx497_1, hx497_2⟩ := at_T50 HR0.out 1 p497 q497
     (try rw [← Nbq5.out] at hx497_0)
     cases e497
     (try simp only [show (1 : Int).toNat = 1 from rfl, Nat.reduceMul, Nat.reduceEqDiff, Go.Addr.add, ↓reduceIte] at hx497_0)
     (try simp only [show (1 : Int).toNat = 1 from rfl, Nat.reduceMul, Nat.reduceEqDiff, Go.Addr.add, ↓reduceIte] at hx497_1)
     (try simp only [show (1 : Int).toNat = 1 from rfl, Nat.reduceMul, Nat.reduceEqDiff, Go.Addr.add, ↓reduceIte] at hx497_2)
     have qi497 : (1 < l0.length) = True := eq_true (by omega)
     (try rw [show ((1 : Int)).toNat = 1 from rfl] at hx497_0)
     (try rw [show 1 * 3 = 3 from rfl] at hx497_0)
     (try rw [show ((1 : Int)).toNat = 1 from rfl] at hx497_1)
     (try rw [show 1 * 3 = 3 from rfl] at hx497_1)
     (try rw [show ((1 : Int)).toNat = 1 from rfl] at hx497_2)
     (try rw [show 1 * 3 = 3 from rfl] at hx497_2)
     replace p497 := eq_true p497
     replace q497 := eq_true q497
     have p498 : 0 ≤ (1 : Int) := (by omega)
     have q498 : 1 < (l0.length : Int) := of_decide_eq_true (by first | (with_reducible assumption) | assumption)
     obtain ⟨ad498, e498, hx498_0, hx498_1, hx498_2⟩ := at_T50 HR0.out 1 p498 q498
     (try rw [← Nbq5.out] at hx498_0)
     obtain rfl : ad497 = ad498 := (by injection e498)
     (try simp only [show (1 : Int).toNat = 1 from rfl, Nat.reduceMul, Nat.reduceEqDiff, Go.Addr.add, ↓reduceIte] at hx498_0)
     (try simp only [show (1 : Int).toNat = 1 from rfl, Nat.reduceMul, Nat.reduceEqDiff, Go.Addr.add, ↓reduceIte] at hx498_1)
     (try simp only [show (1 : Int).toNat = 1 from rfl, Nat.reduceMul, Nat.reduceEqDiff, Go.Addr.add, ↓reduceIte] at hx498_2)
     have qi498 : (1 < l0.length) = True := eq_true (by omega)
     (try rw [show ((1 : Int)).toNat = 1 from rfl] at hx498_0)
     (try rw [show 1 * 3 = 3 from rfl] at hx498_0)
     (try rw [show ((1 : Int)).toNat = 1 from rfl] at hx498_1)
     (try rw [show 1 * 3 = 3 from rfl] at hx498_1)
     (try rw [show ((1 : Int)).toNat = 1 from rfl] at hx498_2)
     (try rw [show 1 * 3 = 3 from rfl] at hx498_2)
     replace p498 := eq_true p498
     replace q498 := eq_true q498
     go_enter Tryd.func51, Tryd.ntmps51
     go_wp2
     go_ret2
     exact ⟨by first | rfl | (simp; done) | (simp [*]; done), by repeat (first | exact Drawn0.refl _ | apply Drawn0.step)⟩
    ·
     rw [if_neg c7] at H
     have c7b0 : decide (((rd_T50 l0 1).f1) < a1) = false := decide_eq_false c7
     clear c7
     by_cases c8 : ((rd_T50 l0 1).f1) > 1099511627776
     ·
      rw [if_pos c8] at H
      have c8b0 : decide (1099511627776 < ((rd_T50 l0 1).f1)) = true := decide_eq_true c8
      clear c8
      simp only [Option.some.injEq, Prod.mk.injEq] at H
      obtain ⟨rfl, rfl⟩ := H
      have p497 : 0 ≤ (1 : Int) := (by omega)
      have q497 : 1 < (l0.length : Int) := of_decide_eq_true (by first | (with_reducible assumption) | assumption)
      obtain ⟨ad497, e497, hx497_0, hx497_1, hx497_2⟩ := at_T50 HR0.out 1 p497 q497
      (try rw [← Nbq5.out] at hx497_0)
      cases e497
      (try simp only [show (1 : Int).toNat = 1 from rfl, Nat.reduceMul, Nat.reduceEqDiff, Go.Addr.add, ↓reduceIte] at hx497_0)
      (try simp only [show (1 : Int).toNat = 1 from rfl, Nat.reduceMul, Nat.reduceEqDiff, Go.Addr.add, ↓reduceIte] at hx497_1)
      (try simp only [show (1 : Int).toNat = 1 from rfl, Nat.reduceMul, Nat.reduceEqDiff, Go.Addr.add, ↓reduceIte] at hx497_2)
      have qi497 : (1 < l0.length) = True := eq_true (by omega)
      (try rw [show ((1 : Int)).toNat = 1 from rfl] at hx497_0)
      (try rw [show 1 * 3 = 3 from rfl] at hx497_0)
      (try rw [show ((1 : Int)).toNat = 1 from rfl] at hx497_1)
      (try rw [show 1 * 3 = 3 from rfl] at hx497_1)
      (try rw [show ((1 : Int)).toNat = 1 from rfl] at hx497_2)
      (try rw [show 1 * 3 = 3 from rfl] at hx497_2)
      replace p497 := eq_true p497
      replace q497 := eq_true q497
      have p498 : 0 ≤ (1 : Int) := (by omega)
      have q498 : 1 < (l0.length : Int) := of_decide_eq_true (by first | (with_reducible assumption) | assumption)
      obtain ⟨ad498, e498, hx498_0, hx498_1, hx498_2⟩ := at_T50 HR0.out 1 p498 q498
      (try rw [← Nbq5.out] at hx498_0)
      obtain rfl : ad497 = ad498 := (by injection e498)
      (try simp only [show (1 : Int).toNat = 1 from rfl, Nat.reduceMul, Nat.reduceEqDiff, Go.Addr.add, ↓reduceIte] at hx498_0)
      (try simp only [show (1 : Int).toNat = 1 from rfl, Nat.reduceMul, Nat.reduceEqDiff, Go.Addr.add, ↓reduceIte] at hx498_1)
      (try simp only [show (1 : Int).toNat = 1 from rfl, Nat.reduceMul, Nat.reduceEqDiff, Go.Addr.add, ↓reduceIte] at hx498_2)
      have qi498 : (1 < l0.length) = True := eq_true (by omega)
      (try rw [show ((1 : Int)).toNat = 1 from rfl] at hx498_0)
      (try rw [show 1 * 3 = 3 from rfl] at hx498_0)
      (try rw [show ((1 : Int)).toNat = 1 from rfl] at hx498_1)
      (try rw [show 1 * 3 = 3 from rfl] at hx498_1)
      (try rw [show ((1 : Int)).toNat = 1 from rfl] at hx498_2)
      (try rw [show 1 * 3 = 3 from rfl] at hx498_2)
      replace p498 := eq_true p498
      replace q498 := eq_true q498
      have p499 : 0 ≤ (1 : Int) := (by omega)
      have q499 : 1 < (l0.length : Int) := of_decide_eq_true (by first | (with_reducible assumption) | assumption)
      obtain ⟨ad499, e499, hx499_0, hx499_1, hx499_2⟩ := at_T50 HR0.out 1 p499 q499
      (try rw [← Nbq5.out] at hx499_0)
      obtain rfl : ad497 = ad499 := (by injection e499)
      (try simp only [show (1 : Int).toNat = 1 from rfl, Nat.reduceMul, Nat.reduceEqDiff, Go.Addr.add, ↓reduceIte] at hx499_0)
      (try simp only [show (1 : Int).toNat = 1 from rfl, Nat.reduceMul, Nat.reduceEqDiff, Go.Addr.add, ↓reduceIte] at hx499_1)
      (try simp only [show (1 : Int).toNat = 1 from rfl, Nat.reduceMul, Nat.reduceEqDiff, Go.Addr.add, ↓reduceIte] at hx499_2)
      have qi499 : (1 < l0.length) = True := eq_true (by omega)
      (try rw [show ((1 : Int)).toNat = 1 from rfl] at hx499_0)
      (try rw [show 1 * 3 = 3 from rfl] at hx499_0)
      (try rw [show ((1 : Int)).toNat = 1 from rfl] at hx499_1)
      (try rw [show 1 * 3 = 3 from rfl] at hx499_1)
      (try rw [show ((1 : Int)).toNat = 1 from rfl] at hx499_2)
      (try rw [show 1 * 3 = 3 from rfl] at hx499_2)
      replace p499 := eq_true p499
      replace q499 := eq_true q499
      go_enter Tryd.func51, Tryd.ntmps51
      go_wp2
      go_ret2
      exact ⟨by first | rfl | (simp; done) | (simp [*]; done), by repeat (first | exact Drawn0.refl _ | apply Drawn0.step)⟩
     ·
      rw [if_neg c8] at H
      have c8b0 : decide (1099511627776 < ((rd_T50 l0 1).f1)) = false := decide_eq_false c8
      clear c8
      simp only [Option.some.injEq, Prod.mk.injEq] at H
      obtain ⟨rfl, rfl⟩ := H
      have p497 : 0 ≤ (1 : Int) := (by omega)
      have q497 : 1 < (l0.length : Int) := of_decide_eq_true (by first | (with_reducible assumption) | assumption)
      obtain ⟨ad497, e497, hx497_0, hx497_1, hx497_2⟩ := at_T50 HR0.out 1 p497 q497
      (try rw [← Nbq5.out] at hx497_0)
      cases e497
      (try simp only [show (1 : Int).toNat = 1 from rfl, Nat.reduceMul, Nat.reduceEqDiff, Go.Addr.add, ↓reduceIte] at hx497_0)
      (try simp only [show (1 : Int).toNat = 1 from rfl, Nat.reduceMul, Nat.reduceEqDiff, Go.Addr.add, ↓reduceIte] at hx497_1)
      (try simp only [show (1 : Int).toNat = 1 from rfl, Nat.reduceMul, Nat.reduceEqDiff, Go.Addr.add, ↓reduceIte] at hx497_2)
      have qi497 : (1 < l0.length) = True := eq_true (by omega)
      (try rw [show ((1 : Int)).toNat = 1 from rfl] at hx497_0)
      (try rw [show 1 * 3 = 3 from rfl] at hx497_0)
      (try rw [show ((1 : Int)).toNat = 1 from rfl] at hx497_1)
      (try rw [show 1 * 3 = 3 from rfl] at hx497_1)
      (try rw [show ((1 : Int)).toNat = 1 from rfl] at hx497_2)
      (try rw [show 1 * 3 = 3 from rfl] at hx497_2)
      replace p497 := eq_true p497
      replace q497 := eq_true q497
      have p498 : 0 ≤ (1 : Int) := (by omega)
      have q498 : 1 < (l0.length : Int) := of_decide_eq_true (by first | (with_reducible assumption) | assumption)
      obtain ⟨ad498, e498, hx498_0, hx498_1, hx498_2⟩ := at_T50 HR0.out 1 p498 q498
      (try rw [← Nbq5.out] at hx498_0)
      obtain rfl : ad497 = ad498 := (by injection e498)
      (try simp only [show (1 : Int).toNat = 1 from rfl, Nat.reduceMul, Nat.reduceEqDiff, Go.Addr.add, ↓reduceIte] at hx498_0)
      (try simp only [show (1 : Int).toNat = 1 from rfl, Nat.reduceMul, Nat.reduceEqDiff, Go.Addr.add, ↓reduceIte] at hx498_1)
      (try simp only [show (1 : Int).toNat = 1 from rfl, Nat.reduceMul, Nat.reduceEqDiff, Go.Addr.add, ↓reduceIte] at hx498_2)
      have qi498 : (1 < l0.length) = True := eq_true (by omega)
      (try rw [show ((1 : Int)).toNat = 1 from rfl] at hx498_0)
      (try rw [show 1 * 3 = 3 from rfl] at hx498_0)
      (try rw [show ((1 : Int)).toNat = 1 from rfl] at hx498_1)
      (try rw [show 1 * 3 = 3 from rfl] at hx498_1)
      (try rw [show ((1 : Int)).toNat = 1 from rfl] at hx498_2)
      (try rw [show 1 * 3 = 3 from rfl] at hx498_2)
      replace p498 := eq_true p498
      replace q498 := eq_true q498
      have p499 : 0 ≤ (1 : Int) := (by omega)
      have q499 : 1 < (l0.length : Int) := of_decide_eq_true (by first | (with_reducible assumption) | assumption)
      obtain ⟨ad499, e499, hx499_0, hx499_1, hx499_2⟩ := at_T50 HR0.out 1 p499 q499
      (try rw [← Nbq5.out] at hx499_0)
      obtain rfl : ad497 = ad499 := (by injection e499)
      (try simp only [show (1 : Int).toNat = 1 from rfl, Nat.reduceMul, Nat.reduceEqDiff, Go.Addr.add, ↓reduceIte] at hx499_0)
      (try simp only [show (1 : Int).toNat = 1 from rfl, Nat.reduceMul, Nat.reduceEqDiff, Go.Addr.add, ↓reduceIte] at hx499_1)
      (try simp only [show (1 : Int).toNat = 1 from rfl, Nat.reduceMul, Nat.reduceEqDiff, Go.Addr.add, ↓reduceIte] at hx499_2)
      have qi499 : (1 < l0.length) = True := eq_true (by omega)
      (try rw [show ((1 : Int)).toNat = 1 from rfl] at hx499_0)
      (try rw [show 1 * 3 = 3 from rfl] at hx499_0)
      (try rw [show ((1 : Int)).toNat = 1 from rfl] at hx499_1)
      (try rw [show 1 * 3 = 3 from rfl] at hx499_1)
      (try rw [show ((1 : Int)).toNat = 1 from rfl] at hx499_2)
      (try rw [show 1 * 3 = 3 from rfl] at hx499_2)
      replace p499 := eq_true p499
      replace q499 := eq_true q499
      have p500 : 0 ≤ (1 : Int) := (by omega)
      have q500 : 1 < (l0.length : Int) := of_decide_eq_true (by first | (with_reducible assumption) | assumption)
      obtain ⟨ad500, e500, hx500_0, hx500_1, hx500_2⟩ := at_T50 HR0.out 1 p500 q500
      (try rw [← Nbq5.out] at hx500_0)
      obtain rfl : ad497 = ad500 := (by injection e500)
      (try simp only [show (1 : Int).toNat = 1 from rfl, Nat.reduceMul, Nat.reduceEqDiff, Go.Addr.add, ↓reduceIte] at hx500_0)
      (try simp only [show (1 : Int).toNat = 1 from rfl, Nat.reduceMul, Nat.reduceEqDiff, Go.Addr.add, ↓reduceIte] at hx500_1)
      (try simp only [show (1 : Int).toNat = 1 from rfl, Nat.reduceMul, Nat.reduceEqDiff, Go.Addr.add, ↓reduceIte] at hx500_2)
      have qi500 : (1 < l0.length) = True := eq_true (by omega)
      (try rw [show ((1 : Int)).toNat = 1 from rfl] at hx500_0)
      (try rw [show 1 * 3 = 3 from rfl] at hx500_0)
      (try rw [show ((1 : Int)).toNat = 1 from rfl] at hx500_1)
      (try rw [show 1 * 3 = 3 from rfl] at hx500_1)
      (try rw [show ((1 : Int)).toNat = 1 from rfl] at hx500_2)
      (try rw [show 1 * 3 = 3 from rfl] at hx500_2)
      replace p500 := eq_true p500
      replace q500 := eq_true q500
      go_enter Tryd.func51, Tryd.ntmps51
      go_wp2
      go_ret2
      exact ⟨by first | rfl | (simp; done) | (simp [*]; done), by repeat (first | exact Drawn0.refl _ | apply Drawn0.step)⟩
  ·
   rw [if_neg c4] at H
   exact absurd H (by simp)
 ·
  rw [if_neg c3] at H
  have c3b0 : ((l0.length : Int) == 2) = false := beq_eq_false_iff_ne.mpr c3
  have c3b1 : ((l0.length : Int) != 2) = true := bne_iff_ne.mpr c3
  simp only [Option.some.injEq, Prod.mk.injEq] at H
  obtain ⟨rfl, rfl⟩ := H
  go_enter Tryd.func51, Tryd.ntmps51
  go_wp2
  go_ret2
  exact ⟨by first | rfl | (simp; done) | (simp [*]; done), by repeat (first | exact Drawn0.refl _ | apply Drawn0.step)⟩

end Go.Proofs.YtagdmgjdhbmaiaaDoor.R

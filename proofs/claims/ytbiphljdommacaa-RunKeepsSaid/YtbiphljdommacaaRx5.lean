/- Contracts of Go functions and what they come to, over the translation of this seat: made by a program of this session (print2.py). -/
import Derived.Test.YtbiphljdommacaaS3
import Derived.Test.YtbiphljdommacaaRx6
namespace Go.Proofs.Ytbiphljdommacaa.R
open Go.RowKit Go.Proofs.Ytbiphljdommacaa.S3 Go.Proofs.Ytbiphljdommacaa.Co Go.Proofs.Ytbiphljdommacaa.Ret Go.Proofs.Ytbiphljdommacaa.Plain Go.Proofs.YtbiphljdommacaaW.PrintWords Go.Proofs.YtbiphljdommacaaW.PrintLast Go.Proofs.YtbiphljdommacaaW.PrintMore Go.Proofs.Ytbiphljdommacaa.Sh Go.Proofs.Ytbiphljdommacaa.Ti
attribute [local go_sem] max2_int min2_int max_two min_two max_three min_three max_four min_four   -- for this text's walks alone
set_option linter.unusedVariables false
set_option linter.unusedSimpArgs false

/-! ### run_met_1: function 65 -/
def run_met_1.f (a0 : Int) (l1 : List (S35)) : Option (Bool) := if 0 ≤ a0 then (if a0 < (l1.length : Int) then (some (((rd_T35 l1 a0).f0) != 4)) else (none)) else (none)
set_option maxHeartbeats 8000000 in
set_option maxRecDepth 100000 in
theorem run_met_1.calls (a0 : Int) (A1 : Option Addr) (c1 : Nat) (l1 : List (S35)) (r : Bool) (w : World) (hr1 : Kd.C k35 w A1 l1.length l1) (hc1 : l1.length ≤ c1) (g : Nat) (vx0 vx1 vx2 vx3 : Value) (hbx : w.heap[g]? = some (.cells #[vx0, vx1, vx2, vx3, .slice A1 l1.length c1] 29 (0, 0))) (h : run_met_1.f a0 l1 = some r) :
  Calls Try.prog 65 #[.int .i64 a0, .pointer (some ⟨g, 0, none⟩)] w fun e w' => e = .returned (.bool r) ∧ Drawn0 w w' := by
 have hcell : w.cell? ⟨g, 4, none⟩ = some (.slice A1 l1.length c1) := (blk_cell hbx 4).trans rfl
 clear hbx
 have HR1 := A_ hr1
 have HC1 := A_ hc1
 clear hr1 hc1
 have H : (if 0 ≤ a0 then (if a0 < (l1.length : Int) then (some (((rd_T35 l1 a0).f0) != 4)) else (none)) else (none)) = some r := h
 clear h
 by_cases c3 : 0 ≤ a0
 ·
  rw [if_pos c3] at H
  have c3b0 : decide (0 ≤ a0) = true := decide_eq_true c3
  clear c3
  by_cases c4 : a0 < (l1.length : Int)
  ·
   rw [if_pos c4] at H
   have c4b0 : decide (a0 < (l1.length : Int)) = true := decide_eq_true c4
   clear c4
   obtain rfl := Option.some.inj H
   have p109 : 0 ≤ (a0 : Int) := od_
   have q109 : a0 < (l1.length : Int) := od_
   obtain ⟨ad109, e109, hx109_0, hx109_1, hx109_2, hx109_3, hx109_4⟩ := at_T35 HR1.out a0 p109 q109
   cases e109
   replace p109 := eq_true p109
   replace q109 := eq_true q109
   go_enter Try.func65, Try.ntmps65
   go_wp2
   go_ret
   exact ⟨rl_, by repeat (first | exact Drawn0.refl _ | apply Drawn0.step)⟩
  ·
   rw [if_neg c4] at H
   exact absurd H (by simp)
 ·
  rw [if_neg c3] at H
  exact absurd H (by simp)

end Go.Proofs.Ytbiphljdommacaa.R

/- Contracts of Go functions and what they come to, over the translation of this seat: made by a program of this session (print2.py). -/
import Derived.Test.YtbiphljdommacaaS3
import Derived.Test.YtbiphljdommacaaSh
import Derived.Test.YtbiphljdommacaaRx6
namespace Go.Proofs.Ytbiphljdommacaa.R
open Go.RowKit Go.Proofs.Ytbiphljdommacaa.S3 Go.Proofs.Ytbiphljdommacaa.Sh Go.Proofs.Ytbiphljdommacaa.Co Go.Proofs.Ytbiphljdommacaa.Ret Go.Proofs.Ytbiphljdommacaa.Plain Go.Proofs.YtbiphljdommacaaW.PrintWords Go.Proofs.YtbiphljdommacaaW.PrintLast Go.Proofs.YtbiphljdommacaaW.PrintMore Go.Proofs.Ytbiphljdommacaa.Ti
attribute [local go_sem] max2_int min2_int max_two min_two max_three min_three max_four min_four   -- for this text's walks alone
set_option linter.unusedVariables false
set_option linter.unusedSimpArgs false

/-! ### slices_Index_uint8_uint8: function 75 -/
def slices_Index_uint8_uint8.l0 : Nat → List Int → Int → Int → Int → Option (Int)
 | 0, _, _, _, _ => none
 | k + 1, x0, x1, x7, x8 => if x8 < x7 then (if 0 ≤ x8 then (if x8 < (x0.length : Int) then (if x1 = (rd x0 x8) then (some x8) else (slices_Index_uint8_uint8.l0 k x0 x1 x7 (wrap64 (x8 + 1)))) else (none)) else (none)) else (some (-1))
def slices_Index_uint8_uint8.f (k : Nat) (l0 : List Int) (a1 : Int) : Option (Int) := slices_Index_uint8_uint8.l0 k l0 a1 (l0.length : Int) 0
theorem slices_Index_uint8_uint8.mono_l : ∀ k, (∀ y0 y1 y2 y3, LeO (slices_Index_uint8_uint8.l0 k y0 y1 y2 y3) (slices_Index_uint8_uint8.l0 (k + 1) y0 y1 y2 y3))
 | 0 => fun _ _ _ _ r h => by simp [slices_Index_uint8_uint8.l0] at h
 | k + 1 => by
  have ih0 := slices_Index_uint8_uint8.mono_l k
  ·
   intro y0 y1 y2 y3
   unfold slices_Index_uint8_uint8.l0
   repeat' first
   | (with_reducible exact LeO.refl _)
   | (with_reducible refine LeO.ite ?_ ?_)
   | (with_reducible refine LeO.bind ?_ (fun _ => ?_))
   | exact ih0 _ _ _ _
   | exact LeO.none _
   | refine LeO.ite ?_ ?_
   | refine LeO.bind ?_ (fun _ => ?_)
theorem slices_Index_uint8_uint8.mono : ∀ a0 a1 k, LeO (slices_Index_uint8_uint8.f k a0 a1) (slices_Index_uint8_uint8.f (k + 1) a0 a1) := by
 intro a0 a1 k
 have ih0 := slices_Index_uint8_uint8.mono_l k
 unfold slices_Index_uint8_uint8.f
 repeat' first
   | (with_reducible exact LeO.refl _)
   | (with_reducible refine LeO.ite ?_ ?_)
   | (with_reducible refine LeO.bind ?_ (fun _ => ?_))
   | exact ih0 _ _ _ _
   | exact LeO.none _
   | refine LeO.ite ?_ ?_
   | refine LeO.bind ?_ (fun _ => ?_)
set_option maxHeartbeats 8000000 in
set_option maxRecDepth 100000 in
theorem slices_Index_uint8_uint8.calls (k : Nat) (A0 : Option Addr) (c0 : Nat) (l0 : List Int) (a1 : Int) (r : Int) (w : World) (hr0 : Kd.C (Kd.int .u8) w A0 l0.length l0) (hc0 : l0.length ≤ c0) (h : slices_Index_uint8_uint8.f k l0 a1 = some r) :
  Calls Try.prog 75 #[.slice A0 l0.length c0, .int .u8 a1] w fun e w' => e = .returned (.int .i64 r) ∧ Drawn0 w w' := by
 have HR0 := A_ hr0; have HC0 := A_ hc0; clear hr0 hc0; have H : (slices_Index_uint8_uint8.l0 k l0 a1 (l0.length : Int) 0) = some r := h; clear h; have H' := Aside0.mk H; clear H
 go_enter Try.func75, Try.ntmps75
 go_wp2
 go_loopg [8] k (fun kq v8 w' => ∃ (x8_1 : Int), v8 = .int .i64 x8_1 ∧ Aside0 (slices_Index_uint8_uint8.l0 kq l0 a1 (l0.length : Int) x8_1 = some r) ∧ Aside0 (kq ≤ k) ∧ Drawn0 w w')
 case atStart => exact ⟨(0), rl_, H', ⟨Nat.le_refl _⟩, by repeat (first | exact Drawn0.refl _ | apply Drawn0.step)⟩
 case round =>
  clear H'; skip; obtain ⟨x8_1, rfl, HA, HK1, ⟨m1, rfl⟩⟩ := hrel
  cases gk with
  | zero => exact absurd HA.out (by simp [slices_Index_uint8_uint8.l0])
  | succ k1 =>
   have H := HA.out; clear HA; simp only [slices_Index_uint8_uint8.l0] at H
   by_cases c3 : x8_1 < (l0.length : Int)
   ·
    rw [if_pos c3] at H; have c3b0 : decide (x8_1 < (l0.length : Int)) = true := decide_eq_true c3; clear c3
    by_cases c4 : 0 ≤ x8_1
    ·
     rw [if_pos c4] at H; have c4b0 : decide (0 ≤ x8_1) = true := decide_eq_true c4; clear c4
     by_cases c5 : x8_1 < (l0.length : Int)
     ·
      rw [if_pos c5] at H; have c5b0 : decide (x8_1 < (l0.length : Int)) = true := decide_eq_true c5; clear c5
      by_cases c6 : a1 = (rd l0 x8_1)
      ·
       rw [if_pos c6] at H; have c6b0 : (a1 == (rd l0 x8_1)) = true := beq_iff_eq.mpr c6; have c6b1 : (a1 != (rd l0 x8_1)) = false := bne_eq_false_iff_eq.mpr c6; clear c6; obtain rfl := Option.some.inj H; have p101 : 0 ≤ (x8_1 : Int) := od_; have q101 : x8_1 < (l0.length : Int) := od_; obtain ⟨ad101, e101, hx101_0⟩ := Kd.at_int HR0.out x8_1 p101 q101
       cases e101
       replace p101 := eq_true p101; replace q101 := eq_true q101
       go_wp2
       go_ret
       exact ⟨rl_, by repeat (first | exact Drawn0.refl _ | apply Drawn0.step)⟩
      ·
       rw [if_neg c6] at H; have c6b0 : (a1 == (rd l0 x8_1)) = false := beq_eq_false_iff_ne.mpr c6; have c6b1 : (a1 != (rd l0 x8_1)) = true := bne_iff_ne.mpr c6; have H' := Aside0.mk H; clear H; have p101 : 0 ≤ (x8_1 : Int) := od_; have q101 : x8_1 < (l0.length : Int) := od_; obtain ⟨ad101, e101, hx101_0⟩ := Kd.at_int HR0.out x8_1 p101 q101
       cases e101
       replace p101 := eq_true p101; replace q101 := eq_true q101
       go_wp2
       go_roundg k1
       case measure => have := HK1.out; omega
       case rel => exact ⟨(wrap64 (x8_1 + 1)), rl_, H', ⟨by have := HK1.out; omega⟩, by repeat (first | exact Drawn0.refl _ | apply Drawn0.step)⟩
     ·
      rw [if_neg c5] at H; exact absurd H (by simp)
    ·
     rw [if_neg c4] at H; exact absurd H (by simp)
   ·
    rw [if_neg c3] at H; have c3b0 : decide (x8_1 < (l0.length : Int)) = false := decide_eq_false c3; clear c3; obtain rfl := Option.some.inj H
    go_wp2
    go_ret
    exact ⟨rl_, by repeat (first | exact Drawn0.refl _ | apply Drawn0.step)⟩

/-! ### slices_Contains_uint8_uint8: function 74 -/
def slices_Contains_uint8_uint8.f (k : Nat) (l0 : List Int) (a1 : Int) : Option (Bool) := (slices_Index_uint8_uint8.f k l0 a1).bind fun t102 => (some (decide (t102 ≥ 0)))
theorem slices_Contains_uint8_uint8.mono : ∀ a0 a1 k, LeO (slices_Contains_uint8_uint8.f k a0 a1) (slices_Contains_uint8_uint8.f (k + 1) a0 a1) := by
 intro a0 a1 k; unfold slices_Contains_uint8_uint8.f
 repeat' first
   | (with_reducible exact LeO.refl _)
   | (with_reducible refine LeO.ite ?_ ?_)
   | (with_reducible refine LeO.bind ?_ (fun _ => ?_))
   | exact slices_Index_uint8_uint8.mono _ _ _
   | exact LeO.none _
   | refine LeO.ite ?_ ?_
   | refine LeO.bind ?_ (fun _ => ?_)
set_option maxHeartbeats 8000000 in
set_option maxRecDepth 100000 in
theorem slices_Contains_uint8_uint8.calls (k : Nat) (A0 : Option Addr) (c0 : Nat) (l0 : List Int) (a1 : Int) (r : Bool) (w : World) (hr0 : Kd.C (Kd.int .u8) w A0 l0.length l0) (hc0 : l0.length ≤ c0) (h : slices_Contains_uint8_uint8.f k l0 a1 = some r) :
  Calls Try.prog 74 #[.slice A0 l0.length c0, .int .u8 a1] w fun e w' => e = .returned (.bool r) ∧ Drawn0 w w' := by
 have HR0 := A_ hr0; have HC0 := A_ hc0; clear hr0 hc0; have H : ((slices_Index_uint8_uint8.f k l0 a1).bind fun t102 => (some (decide (t102 ≥ 0)))) = some r := h; clear h; replace H := Option.bind_eq_some_iff.mp H; obtain ⟨t102, A30, H⟩ := H; replace H : (some (decide (t102 ≥ 0))) = some r := H; have A3 := Aside0.mk A30; clear A30; obtain rfl := Option.some.inj H
 go_enter Try.func74, Try.ntmps74
 go_wp2_with (first | ((with_reducible refine gc_ 75 rfl ?_); refine gL_ (some 7) Try.func75 #[.slice A0 l0.length c0, .int .u8 a1] ?_; (with_reducible refine (slices_Index_uint8_uint8.calls k _ _ l0 a1 t102 _ ?side1 ?side2 A3.out).mono ?_); (case side1 => exact cX_ HR0.out); (case side2 => exact HC0.out); rintro e w' ⟨rfl, ⟨nd, rfl⟩⟩; refine ⟨_, rfl, ?_⟩))
 go_ret
 exact ⟨rl_, by repeat (first | exact Drawn0.refl _ | apply Drawn0.step)⟩

/-! ### run_state: function 68 -/
def run_state.f (k : Nat) (a0_0 : Int) (a0_1 : Int) (a0_2 : Int) (a0_3 : Int) (a0_4 : Int) (l1 : List Int) : Option (Bool) := (slices_Contains_uint8_uint8.f k l1 a0_0).bind fun t104 => (some t104)
theorem run_state.mono : ∀ a0 a1 a2 a3 a4 a5 k, LeO (run_state.f k a0 a1 a2 a3 a4 a5) (run_state.f (k + 1) a0 a1 a2 a3 a4 a5) := by
 intro a0 a1 a2 a3 a4 a5 k; unfold run_state.f
 repeat' first
   | (with_reducible exact LeO.refl _)
   | (with_reducible refine LeO.ite ?_ ?_)
   | (with_reducible refine LeO.bind ?_ (fun _ => ?_))
   | exact slices_Contains_uint8_uint8.mono _ _ _
   | exact LeO.none _
   | refine LeO.ite ?_ ?_
   | refine LeO.bind ?_ (fun _ => ?_)
set_option maxHeartbeats 8000000 in
set_option maxRecDepth 100000 in
theorem run_state.calls (k : Nat) (a0_0 : Int) (a0_1 : Int) (a0_2 : Int) (a0_3 : Int) (a0_4 : Int) (A1 : Option Addr) (c1 : Nat) (l1 : List Int) (r : Bool) (w : World) (hr1 : Kd.C (Kd.int .u8) w A1 l1.length l1) (hc1 : l1.length ≤ c1) (h : run_state.f k a0_0 a0_1 a0_2 a0_3 a0_4 l1 = some r) :
  Calls Try.prog 68 #[.agg #[.int .u8 a0_0, .int .i64 a0_1, .int .i64 a0_2, .int .i64 a0_3, .int .i64 a0_4], .slice A1 l1.length c1] w fun e w' => e = .returned (.bool r) ∧ Below w.heap.size w w' := by
 have hu35 := Try.underlying35; have HR1 := A_ hr1; have HC1 := A_ hc1; clear hr1 hc1; have HB := A_ (Below.refl w.heap.size w); have H : ((slices_Contains_uint8_uint8.f k l1 a0_0).bind fun t104 => (some t104)) = some r := h; clear h; replace H := Option.bind_eq_some_iff.mp H; obtain ⟨t104, A30, H⟩ := H; replace H : (some t104) = some r := H; have A3 := Aside0.mk A30; clear A30; obtain rfl := Option.some.inj H
 go_enter Try.func68, Try.ntmps68
 go_wp2_with (first | ((with_reducible refine gd_ 2 rfl ?_); refine by0_ 2 #[.int .u8 a0_0, .int .i64 a0_1, .int .i64 a0_2, .int .i64 a0_3, .int .i64 a0_4] 35 ?_; clear HB; intro gb103 w4 BK103 GE103 HB; have hz5 := cz5_ BK103) | ((with_reducible refine gc_ 74 rfl ?_); refine gL_ (some 8) Try.func74 #[.slice A1 l1.length c1, .int .u8 a0_0] ?_; (with_reducible refine (slices_Contains_uint8_uint8.calls k _ _ l1 a0_0 t104 _ ?side1 ?side2 A3.out).mono ?_); (case side1 => exact cB_ HR1); (case side2 => exact HC1.out); rintro e w' ⟨rfl, ⟨nd, rfl⟩⟩; refine ⟨_, rfl, ?_⟩))
 go_ret
 exact ⟨re_, hb_⟩

end Go.Proofs.Ytbiphljdommacaa.R
namespace Go.Proofs.Ytbiphljdommacaa.R
open Go.RowKit Go.Proofs.Ytbiphljdommacaa.S3 Go.Proofs.Ytbiphljdommacaa.Sh Go.Proofs.Ytbiphljdommacaa.Co Go.Proofs.Ytbiphljdommacaa.Ret Go.Proofs.Ytbiphljdommacaa.Plain Go.Proofs.YtbiphljdommacaaW.PrintWords Go.Proofs.YtbiphljdommacaaW.PrintLast Go.Proofs.YtbiphljdommacaaW.PrintMore Go.Proofs.Ytbiphljdommacaa.Ti
attribute [local go_sem] max2_int min2_int max_two min_two max_three min_three max_four min_four   -- for this text's walks alone
set_option linter.unusedVariables false
set_option linter.unusedSimpArgs false

/-! ### run_all_1: function 67 -/
def run_all_1.f (k : Nat) (a0_0 : Int) (a0_1 : Int) (a0_2 : Int) (a0_3 : Int) (a0_4 : Int) (l1 : List Int) : Option (Bool) := (run_state.f k a0_0 a0_1 a0_2 a0_3 a0_4 l1).bind fun t106 => (some (!t106))
theorem run_all_1.mono : ∀ a0 a1 a2 a3 a4 a5 k, LeO (run_all_1.f k a0 a1 a2 a3 a4 a5) (run_all_1.f (k + 1) a0 a1 a2 a3 a4 a5) := by
 intro a0 a1 a2 a3 a4 a5 k
 unfold run_all_1.f
 repeat' first
   | (with_reducible exact LeO.refl _)
   | (with_reducible refine LeO.ite ?_ ?_)
   | (with_reducible refine LeO.bind ?_ (fun _ => ?_))
   | exact run_state.mono _ _ _ _ _ _ _
   | exact LeO.none _
   | refine LeO.ite ?_ ?_
   | refine LeO.bind ?_ (fun _ => ?_)
set_option maxHeartbeats 8000000 in
set_option maxRecDepth 100000 in
theorem run_all_1.calls (k : Nat) (a0_0 : Int) (a0_1 : Int) (a0_2 : Int) (a0_3 : Int) (a0_4 : Int) (A1 : Option Addr) (c1 : Nat) (l1 : List Int) (r : Bool) (w : World) (hr1 : Kd.C (Kd.int .u8) w A1 l1.length l1) (hc1 : l1.length ≤ c1) (g : Nat) (hbx : w.heap[g]? = some (.cells #[.slice A1 l1.length c1] 25 (0, 0))) (h : run_all_1.f k a0_0 a0_1 a0_2 a0_3 a0_4 l1 = some r) :
  Calls Try.prog 67 #[.agg #[.int .u8 a0_0, .int .i64 a0_1, .int .i64 a0_2, .int .i64 a0_3, .int .i64 a0_4], .pointer (some ⟨g, 0, none⟩)] w fun e w' => e = .returned (.bool r) ∧ Below w.heap.size w w' := by
 have HBX := A_ hbx; clear hbx; have hu35 := Try.underlying35; have HR1 := A_ hr1; have HC1 := A_ hc1; clear hr1 hc1; have HB := A_ (Below.refl w.heap.size w); have H : ((run_state.f k a0_0 a0_1 a0_2 a0_3 a0_4 l1).bind fun t106 => (some (!t106))) = some r := h; clear h; replace H := Option.bind_eq_some_iff.mp H; obtain ⟨t106, A30, H⟩ := H; replace H : (some (!t106)) = some r := H; have A3 := Aside0.mk A30; clear A30; obtain rfl := Option.some.inj H
 go_enter Try.func67, Try.ntmps67
 go_wp2_with (first | ((with_reducible refine gd_ 2 rfl ?_); refine by0_ 2 #[.int .u8 a0_0, .int .i64 a0_1, .int .i64 a0_2, .int .i64 a0_3, .int .i64 a0_4] 35 ?_; clear HB; intro gb105 w4 BK105 GE105 HB; have hz5 := cz5_ BK105; have hqc_w4 : w4.cell? ⟨g, 0, none⟩ = some (.slice A1 l1.length c1) := (blk_cell (blk_below (g := g) (o := .cells #[.slice A1 l1.length c1] 25 (0, 0)) HBX.out HB.out) 0).trans rfl) | ((with_reducible refine gc_ 68 rfl ?_); refine gL_ (some 6) Try.func68 #[.agg #[.int .u8 a0_0, .int .i64 a0_1, .int .i64 a0_2, .int .i64 a0_3, .int .i64 a0_4], .slice A1 l1.length c1] ?_; (with_reducible refine (run_state.calls k a0_0 a0_1 a0_2 a0_3 a0_4 _ _ l1 t106 _ ?side1 ?side2 A3.out).mono ?_); (case side1 => exact cB_ HR1); (case side2 => exact HC1.out); rintro e w6 ⟨rfl, hb⟩; refine ⟨_, rfl, ?_⟩; replace BK105 := bs_ BK105 hb; replace HB := bB_ hb; (try clear hb)))
 go_ret
 exact ⟨re_, hb_⟩

end Go.Proofs.Ytbiphljdommacaa.R
namespace Go.Proofs.Ytbiphljdommacaa.R
open Go.RowKit Go.Proofs.Ytbiphljdommacaa.S3 Go.Proofs.Ytbiphljdommacaa.Sh Go.Proofs.Ytbiphljdommacaa.Co Go.Proofs.Ytbiphljdommacaa.Ret Go.Proofs.Ytbiphljdommacaa.Plain Go.Proofs.YtbiphljdommacaaW.PrintWords Go.Proofs.YtbiphljdommacaaW.PrintLast Go.Proofs.YtbiphljdommacaaW.PrintMore Go.Proofs.Ytbiphljdommacaa.Ti
attribute [local go_sem] max2_int min2_int max_two min_two max_three min_three max_four min_four   -- for this text's walks alone
set_option linter.unusedVariables false
set_option linter.unusedSimpArgs false

/-! ### run_some_1: function 71 -/
def run_some_1.f (k : Nat) (a0_0 : Int) (a0_1 : Int) (a0_2 : Int) (a0_3 : Int) (a0_4 : Int) (l1 : List Int) : Option (Bool) := (run_state.f k a0_0 a0_1 a0_2 a0_3 a0_4 l1).bind fun t108 => (some t108)
theorem run_some_1.mono : ∀ a0 a1 a2 a3 a4 a5 k, LeO (run_some_1.f k a0 a1 a2 a3 a4 a5) (run_some_1.f (k + 1) a0 a1 a2 a3 a4 a5) := by
 intro a0 a1 a2 a3 a4 a5 k
 unfold run_some_1.f
 repeat' first
   | (with_reducible exact LeO.refl _)
   | (with_reducible refine LeO.ite ?_ ?_)
   | (with_reducible refine LeO.bind ?_ (fun _ => ?_))
   | exact run_state.mono _ _ _ _ _ _ _
   | exact LeO.none _
   | refine LeO.ite ?_ ?_
   | refine LeO.bind ?_ (fun _ => ?_)
set_option maxHeartbeats 8000000 in
set_option maxRecDepth 100000 in
theorem run_some_1.calls (k : Nat) (a0_0 : Int) (a0_1 : Int) (a0_2 : Int) (a0_3 : Int) (a0_4 : Int) (A1 : Option Addr) (c1 : Nat) (l1 : List Int) (r : Bool) (w : World) (hr1 : Kd.C (Kd.int .u8) w A1 l1.length l1) (hc1 : l1.length ≤ c1) (g : Nat) (hbx : w.heap[g]? = some (.cells #[.slice A1 l1.length c1] 25 (0, 0))) (h : run_some_1.f k a0_0 a0_1 a0_2 a0_3 a0_4 l1 = some r) :
  Calls Try.prog 71 #[.agg #[.int .u8 a0_0, .int .i64 a0_1, .int .i64 a0_2, .int .i64 a0_3, .int .i64 a0_4], .pointer (some ⟨g, 0, none⟩)] w fun e w' => e = .returned (.bool r) ∧ Below w.heap.size w w' := by
 have HBX := A_ hbx; clear hbx; have hu35 := Try.underlying35; have HR1 := A_ hr1; have HC1 := A_ hc1; clear hr1 hc1; have HB := A_ (Below.refl w.heap.size w); have H : ((run_state.f k a0_0 a0_1 a0_2 a0_3 a0_4 l1).bind fun t108 => (some t108)) = some r := h; clear h; replace H := Option.bind_eq_some_iff.mp H; obtain ⟨t108, A30, H⟩ := H; replace H : (some t108) = some r := H; have A3 := Aside0.mk A30; clear A30; obtain rfl := Option.some.inj H
 go_enter Try.func71, Try.ntmps71
 go_wp2_with (first | ((with_reducible refine gd_ 2 rfl ?_); refine by0_ 2 #[.int .u8 a0_0, .int .i64 a0_1, .int .i64 a0_2, .int .i64 a0_3, .int .i64 a0_4] 35 ?_; clear HB; intro gb107 w4 BK107 GE107 HB; have hz5 := cz5_ BK107; have hqc_w4 : w4.cell? ⟨g, 0, none⟩ = some (.slice A1 l1.length c1) := (blk_cell (blk_below (g := g) (o := .cells #[.slice A1 l1.length c1] 25 (0, 0)) HBX.out HB.out) 0).trans rfl) | ((with_reducible refine gc_ 68 rfl ?_); refine gL_ (some 6) Try.func68 #[.agg #[.int .u8 a0_0, .int .i64 a0_1, .int .i64 a0_2, .int .i64 a0_3, .int .i64 a0_4], .slice A1 l1.length c1] ?_; (with_reducible refine (run_state.calls k a0_0 a0_1 a0_2 a0_3 a0_4 _ _ l1 t108 _ ?side1 ?side2 A3.out).mono ?_); (case side1 => exact cB_ HR1); (case side2 => exact HC1.out); rintro e w6 ⟨rfl, hb⟩; refine ⟨_, rfl, ?_⟩; replace BK107 := bs_ BK107 hb; replace HB := bB_ hb; (try clear hb)))
 go_ret
 exact ⟨re_, hb_⟩

end Go.Proofs.Ytbiphljdommacaa.R
namespace Go.Proofs.Ytbiphljdommacaa.R
open Go.RowKit Go.Proofs.Ytbiphljdommacaa.S3 Go.Proofs.Ytbiphljdommacaa.Sh Go.Proofs.Ytbiphljdommacaa.Co Go.Proofs.Ytbiphljdommacaa.Ret Go.Proofs.Ytbiphljdommacaa.Plain Go.Proofs.YtbiphljdommacaaW.PrintWords Go.Proofs.YtbiphljdommacaaW.PrintLast Go.Proofs.YtbiphljdommacaaW.PrintMore Go.Proofs.Ytbiphljdommacaa.Ti
attribute [local go_sem] max2_int min2_int max_two min_two max_three min_three max_four min_four   -- for this text's walks alone
set_option linter.unusedVariables false
set_option linter.unusedSimpArgs false

/-! ### slices_IndexFunc_api_Task: function 73 -/
def slices_IndexFunc_api_Task.l0 (D : Nat → Int → Int → Int → Int → Int → Option Bool) : Nat → List (S35) → List Int → Int → Int → Option (Int)
 | 0, _, _, _, _ => none
 | k + 1, x0, x1, x7, x8 => if x8 < x7 then (if 0 ≤ x8 then (if x8 < (x0.length : Int) then ((D k ((rd_T35 x0 x8).f0) ((rd_T35 x0 x8).f1) ((rd_T35 x0 x8).f2) ((rd_T35 x0 x8).f3) ((rd_T35 x0 x8).f4)).bind fun t318 => (if t318 = true then (some x8) else (slices_IndexFunc_api_Task.l0 D k x0 x1 x7 (wrap64 (x8 + 1))))) else (none)) else (none)) else (some (-1))
def slices_IndexFunc_api_Task.f (D : Nat → Int → Int → Int → Int → Int → Option Bool) (k : Nat) (l0 : List (S35)) (l1 : List Int) : Option (Int) := slices_IndexFunc_api_Task.l0 D k l0 l1 (l0.length : Int) 0
theorem slices_IndexFunc_api_Task.mono_l (D : Nat → Int → Int → Int → Int → Int → Option Bool) (hDm : ∀ a0_ a1_ a2_ a3_ a4_ k, LeO (D k a0_ a1_ a2_ a3_ a4_) (D (k + 1) a0_ a1_ a2_ a3_ a4_)) : ∀ k, (∀ y0 y1 y2 y3, LeO (slices_IndexFunc_api_Task.l0 D k y0 y1 y2 y3) (slices_IndexFunc_api_Task.l0 D (k + 1) y0 y1 y2 y3))
 | 0 => fun _ _ _ _ r h => by simp [slices_IndexFunc_api_Task.l0] at h
 | k + 1 => by
  have ih0 := slices_IndexFunc_api_Task.mono_l D hDm k
  ·
   intro y0 y1 y2 y3
   unfold slices_IndexFunc_api_Task.l0
   repeat' first
   | (with_reducible exact LeO.refl _)
   | (with_reducible refine LeO.ite ?_ ?_)
   | (with_reducible refine LeO.bind ?_ (fun _ => ?_))
   | exact ih0 _ _ _ _
   | exact hDm _ _ _ _ _ _
   | exact LeO.none _
   | refine LeO.ite ?_ ?_
   | refine LeO.bind ?_ (fun _ => ?_)
theorem slices_IndexFunc_api_Task.mono (D : Nat → Int → Int → Int → Int → Int → Option Bool) (hDm : ∀ a0_ a1_ a2_ a3_ a4_ k, LeO (D k a0_ a1_ a2_ a3_ a4_) (D (k + 1) a0_ a1_ a2_ a3_ a4_)) : ∀ a0 a1 k, LeO (slices_IndexFunc_api_Task.f D k a0 a1) (slices_IndexFunc_api_Task.f D (k + 1) a0 a1) := by
 intro a0 a1 k
 have ih0 := slices_IndexFunc_api_Task.mono_l D hDm k
 unfold slices_IndexFunc_api_Task.f
 repeat' first
   | (with_reducible exact LeO.refl _)
   | (with_reducible refine LeO.ite ?_ ?_)
   | (with_reducible refine LeO.bind ?_ (fun _ => ?_))
   | exact ih0 _ _ _ _
   | exact hDm _ _ _ _ _ _
   | exact LeO.none _
   | refine LeO.ite ?_ ?_
   | refine LeO.bind ?_ (fun _ => ?_)
set_option maxHeartbeats 8000000 in
set_option maxRecDepth 100000 in
theorem slices_IndexFunc_api_Task.calls (D : Nat → Int → Int → Int → Int → Int → Option Bool) (fn : Nat) (lb : Array Value) (eg : ∀ args w, (callFunc fn args).run Try.prog w = .ok (.enter fn args) w) (k : Nat) (A0 : Option Addr) (c0 : Nat) (l0 : List (S35)) (A1 : Option Addr) (c1 : Nat) (l1 : List Int) (r : Int) (w : World) (hr0 : Kd.C k35 w A0 l0.length l0) (hc0 : l0.length ≤ c0) (hr1 : Kd.C (Kd.int .u8) w A1 l1.length l1) (hc1 : l1.length ≤ c1) (hcl : PredT D fn lb w) (h : slices_IndexFunc_api_Task.f D k l0 l1 = some r) :
  Calls Try.prog 73 #[.slice A0 l0.length c0, .func (.func fn) #[] lb] w fun e w' => e = .returned (.int .i64 r) ∧ Below w.heap.size w w' := by
 have HCL := A_ hcl; clear hcl; have hu35 := Try.underlying35; have HR0 := A_ hr0; have HC0 := A_ hc0; clear hr0 hc0; have HR1 := A_ hr1; have HC1 := A_ hc1; clear hr1 hc1; have HB := A_ (Below.refl w.heap.size w); have H : (slices_IndexFunc_api_Task.l0 D k l0 l1 (l0.length : Int) 0) = some r := h; clear h; have H' := Aside0.mk H; clear H
 go_enter Try.func73, Try.ntmps73
 go_wp2
 go_loopg [8] k (fun kq v8 w' => ∃ (x8_1 : Int), v8 = .int .i64 x8_1 ∧ Aside0 (slices_IndexFunc_api_Task.l0 D kq l0 l1 (l0.length : Int) x8_1 = some r) ∧ Aside0 (kq ≤ k) ∧ Aside0 (Below w.heap.size w w'))
 case atStart => exact ⟨(0), rl_, H', ⟨Nat.le_refl _⟩, ⟨hb_⟩⟩
 case round =>
  clear H'; (try clear c1); obtain ⟨x8_1, rfl, HA, HK1, HB⟩ := hrel
  cases gk with
  | zero => exact absurd HA.out (by simp [slices_IndexFunc_api_Task.l0])
  | succ k1 =>
   have H := HA.out; clear HA; simp only [slices_IndexFunc_api_Task.l0] at H
   by_cases c3 : x8_1 < (l0.length : Int)
   ·
    rw [if_pos c3] at H; have c3b0 : decide (x8_1 < (l0.length : Int)) = true := decide_eq_true c3; clear c3
    by_cases c4 : 0 ≤ x8_1
    ·
     rw [if_pos c4] at H; have c4b0 : decide (0 ≤ x8_1) = true := decide_eq_true c4; clear c4
     by_cases c5 : x8_1 < (l0.length : Int)
     ·
      rw [if_pos c5] at H; have c5b0 : decide (x8_1 < (l0.length : Int)) = true := decide_eq_true c5; clear c5; replace H := Option.bind_eq_some_iff.mp H; obtain ⟨t318, A60, H⟩ := H; replace H : (if t318 = true then (some x8_1) else (slices_IndexFunc_api_Task.l0 D k1 l0 l1 (l0.length : Int) (wrap64 (x8_1 + 1)))) = some r := H; have A6 := Aside0.mk A60; clear A60
      by_cases c7 : t318 = true
      ·
       subst c7; have H1 : (some x8_1) = some r := by rw [if_pos rfl] at H; exact H
       clear H; have H := H1; clear H1; obtain rfl := Option.some.inj H; have p317 : 0 ≤ (x8_1 : Int) := od_; have q317 : x8_1 < (l0.length : Int) := od_; obtain ⟨ad317, e317, hx317_0, hx317_1, hx317_2, hx317_3, hx317_4⟩ := at_T35 HR0.out x8_1 p317 q317
       cases e317
       replace hx317_0 := cl_ HB.out hx317_0; replace hx317_1 := cl_ HB.out hx317_1; replace hx317_2 := cl_ HB.out hx317_2; replace hx317_3 := cl_ HB.out hx317_3; replace hx317_4 := cl_ HB.out hx317_4; replace p317 := eq_true p317; replace q317 := eq_true q317
       go_wp2_with (first | (go_at_fn fn; refine (HCL.out _ k1 ((rd_T35 l0 x8_1).f0) ((rd_T35 l0 x8_1).f1) ((rd_T35 l0 x8_1).f2) ((rd_T35 l0 x8_1).f3) ((rd_T35 l0 x8_1).f4) true HB.out A6.out).mono ?_; rintro e w8 ⟨rfl, hb⟩; replace HB := bB_ hb; (try clear hb)))
       go_ret
       exact ⟨re_, hb_⟩
      ·
       replace c7 := Bool.eq_false_iff.mpr c7; subst c7; have H1 : (slices_IndexFunc_api_Task.l0 D k1 l0 l1 (l0.length : Int) (wrap64 (x8_1 + 1))) = some r := by rw [if_neg (show ¬ (false = true) by decide)] at H; exact H
       clear H; have H := H1; clear H1; have H' := Aside0.mk H; clear H; have p317 : 0 ≤ (x8_1 : Int) := od_; have q317 : x8_1 < (l0.length : Int) := od_; obtain ⟨ad317, e317, hx317_0, hx317_1, hx317_2, hx317_3, hx317_4⟩ := at_T35 HR0.out x8_1 p317 q317
       cases e317
       replace hx317_0 := cl_ HB.out hx317_0; replace hx317_1 := cl_ HB.out hx317_1; replace hx317_2 := cl_ HB.out hx317_2; replace hx317_3 := cl_ HB.out hx317_3; replace hx317_4 := cl_ HB.out hx317_4; replace p317 := eq_true p317; replace q317 := eq_true q317
       go_wp2_with (first | (go_at_fn fn; refine (HCL.out _ k1 ((rd_T35 l0 x8_1).f0) ((rd_T35 l0 x8_1).f1) ((rd_T35 l0 x8_1).f2) ((rd_T35 l0 x8_1).f3) ((rd_T35 l0 x8_1).f4) false HB.out A6.out).mono ?_; rintro e w9 ⟨rfl, hb⟩; replace HB := bB_ hb; (try clear hb)))
       go_roundg k1
       case measure => have := HK1.out; omega
       case rel => exact ⟨(wrap64 (x8_1 + 1)), rl_, H', ⟨by have := HK1.out; omega⟩, ⟨hb_⟩⟩
     ·
      rw [if_neg c5] at H; exact absurd H (by simp)
    ·
     rw [if_neg c4] at H; exact absurd H (by simp)
   ·
    rw [if_neg c3] at H; have c3b0 : decide (x8_1 < (l0.length : Int)) = false := decide_eq_false c3; clear c3; obtain rfl := Option.some.inj H
    go_wp2
    go_ret
    exact ⟨re_, hb_⟩

/-! ### slices_ContainsFunc_api_Task: function 66 -/
def slices_ContainsFunc_api_Task.f (D : Nat → Int → Int → Int → Int → Int → Option Bool) (k : Nat) (l0 : List (S35)) (l1 : List Int) : Option (Bool) := (slices_IndexFunc_api_Task.f D k l0 l1).bind fun t319 => (some (decide (t319 ≥ 0)))
theorem slices_ContainsFunc_api_Task.mono (D : Nat → Int → Int → Int → Int → Int → Option Bool) (hDm : ∀ a0_ a1_ a2_ a3_ a4_ k, LeO (D k a0_ a1_ a2_ a3_ a4_) (D (k + 1) a0_ a1_ a2_ a3_ a4_)) : ∀ a0 a1 k, LeO (slices_ContainsFunc_api_Task.f D k a0 a1) (slices_ContainsFunc_api_Task.f D (k + 1) a0 a1) := by
 intro a0 a1 k; unfold slices_ContainsFunc_api_Task.f
 repeat' first
   | (with_reducible exact LeO.refl _)
   | (with_reducible refine LeO.ite ?_ ?_)
   | (with_reducible refine LeO.bind ?_ (fun _ => ?_))
   | exact slices_IndexFunc_api_Task.mono D hDm _ _ _
   | exact LeO.none _
   | refine LeO.ite ?_ ?_
   | refine LeO.bind ?_ (fun _ => ?_)
set_option maxHeartbeats 8000000 in
set_option maxRecDepth 100000 in
theorem slices_ContainsFunc_api_Task.calls (D : Nat → Int → Int → Int → Int → Int → Option Bool) (fn : Nat) (lb : Array Value) (eg : ∀ args w, (callFunc fn args).run Try.prog w = .ok (.enter fn args) w) (k : Nat) (A0 : Option Addr) (c0 : Nat) (l0 : List (S35)) (A1 : Option Addr) (c1 : Nat) (l1 : List Int) (r : Bool) (w : World) (hr0 : Kd.C k35 w A0 l0.length l0) (hc0 : l0.length ≤ c0) (hr1 : Kd.C (Kd.int .u8) w A1 l1.length l1) (hc1 : l1.length ≤ c1) (hcl : PredT D fn lb w) (h : slices_ContainsFunc_api_Task.f D k l0 l1 = some r) :
  Calls Try.prog 66 #[.slice A0 l0.length c0, .func (.func fn) #[] lb] w fun e w' => e = .returned (.bool r) ∧ Below w.heap.size w w' := by
 have HCL := A_ hcl; clear hcl; have HR0 := A_ hr0; have HC0 := A_ hc0; clear hr0 hc0; have HR1 := A_ hr1; have HC1 := A_ hc1; clear hr1 hc1; have HB := A_ (Below.refl w.heap.size w); have H : ((slices_IndexFunc_api_Task.f D k l0 l1).bind fun t319 => (some (decide (t319 ≥ 0)))) = some r := h; clear h; replace H := Option.bind_eq_some_iff.mp H; obtain ⟨t319, A30, H⟩ := H; replace H : (some (decide (t319 ≥ 0))) = some r := H; have A3 := Aside0.mk A30; clear A30; obtain rfl := Option.some.inj H
 go_enter Try.func66, Try.ntmps66
 go_wp2_with (first | ((with_reducible refine gc_ 73 rfl ?_); refine gL_ (some 7) Try.func73 #[.slice A0 l0.length c0, .func (.func fn) #[] lb] ?_; (with_reducible refine (slices_IndexFunc_api_Task.calls D fn lb eg k _ _ l0 A1 c1 l1 t319 _ ?side1 ?side2 ?side3 ?side4 HCL.out A3.out).mono ?_); (case side1 => exact cX_ HR0.out); (case side2 => exact HC0.out); (case side3 => exact cX_ HR1.out); (case side4 => exact HC1.out); rintro e w4 ⟨rfl, hb⟩; refine ⟨_, rfl, ?_⟩; replace HB := bB_ hb; (try clear hb)))
 go_ret
 exact ⟨re_, hb_⟩

/-! ### run_all: function 53 -/
def run_all.f (k : Nat) (a0_0 : Int) (a0_1 : ByteArray) (l0_2 : List (S60)) (a0_3 : Int) (l0_4 : List (S35)) (l1 : List Int) : Option (Bool) := (slices_ContainsFunc_api_Task.f (fun k a0_ a1_ a2_ a3_ a4_ => run_all_1.f k a0_ a1_ a2_ a3_ a4_ l1) k l0_4 l1).bind fun t321 => (some (!t321))
theorem run_all.mono : ∀ a0 a1 a2 a3 a4 a5 k, LeO (run_all.f k a0 a1 a2 a3 a4 a5) (run_all.f (k + 1) a0 a1 a2 a3 a4 a5) := by
 intro a0 a1 a2 a3 a4 a5 k; unfold run_all.f
 repeat' first
   | (with_reducible exact slices_ContainsFunc_api_Task.mono _ (fun _ _ _ _ _ _ => run_all_1.mono _ _ _ _ _ _ _) _ _ _)
   | (with_reducible exact LeO.refl _)
   | (with_reducible refine LeO.ite ?_ ?_)
   | (with_reducible refine LeO.bind ?_ (fun _ => ?_))
   | exact slices_ContainsFunc_api_Task.mono _ (fun _ _ _ _ _ _ => run_all_1.mono _ _ _ _ _ _ _) _ _ _
   | exact LeO.none _
   | refine LeO.ite ?_ ?_
   | refine LeO.bind ?_ (fun _ => ?_)
set_option maxHeartbeats 8000000 in
set_option maxRecDepth 100000 in
theorem run_all.calls (k : Nat) (a0_0 : Int) (a0_1 : ByteArray) (A0_2 : Option Addr) (c0_2 : Nat) (l0_2 : List (S60)) (a0_3 : Int) (A0_4 : Option Addr) (c0_4 : Nat) (l0_4 : List (S35)) (A1 : Option Addr) (c1 : Nat) (l1 : List Int) (r : Bool) (w : World) (hr0_2 : Kd.C k60 w A0_2 l0_2.length l0_2) (hc0_2 : l0_2.length ≤ c0_2) (hr0_4 : Kd.C k35 w A0_4 l0_4.length l0_4) (hc0_4 : l0_4.length ≤ c0_4) (hr1 : Kd.C (Kd.int .u8) w A1 l1.length l1) (hc1 : l1.length ≤ c1) (h : run_all.f k a0_0 a0_1 l0_2 a0_3 l0_4 l1 = some r) :
  Calls Try.prog 53 #[.agg #[.int .i64 a0_0, .string a0_1, .slice A0_2 l0_2.length c0_2, .int .u8 a0_3, .slice A0_4 l0_4.length c0_4], .slice A1 l1.length c1] w fun e w' => e = .returned (.bool r) ∧ Below w.heap.size w w' := by
 have hu29 := Try.underlying29; have HR0_2 := A_ hr0_2; have HC0_2 := A_ hc0_2; clear hr0_2 hc0_2; have HR0_4 := A_ hr0_4; have HC0_4 := A_ hc0_4; clear hr0_4 hc0_4; have HR1 := A_ hr1; have HC1 := A_ hc1; clear hr1 hc1; have HB := A_ (Below.refl w.heap.size w); have H : ((slices_ContainsFunc_api_Task.f (fun k a0_ a1_ a2_ a3_ a4_ => run_all_1.f k a0_ a1_ a2_ a3_ a4_ l1) k l0_4 l1).bind fun t321 => (some (!t321))) = some r := h; clear h; replace H := Option.bind_eq_some_iff.mp H; obtain ⟨t321, A30, H⟩ := H; replace H : (some (!t321)) = some r := H; have A3 := Aside0.mk A30; clear A30; obtain rfl := Option.some.inj H
 go_enter Try.func53, Try.ntmps53
 go_wp2_with (first | ((with_reducible refine gd_ 2 rfl ?_); refine by0_ 2 #[.int .i64 a0_0, .string a0_1, .slice A0_2 l0_2.length c0_2, .int .u8 a0_3, .slice A0_4 l0_4.length c0_4] 29 ?_; clear HB; intro gb320 w4 BK320 GE320 HB; have hz5 := cz5_ BK320) | ((with_reducible refine gd_ 3 rfl ?_); refine bx_ 3 #[.slice A1 l1.length c1] 25 ?_; intro gbD hg wD hbox hb; have n0_ := bs_ BK320 hb; have n1_ := A_ (below_step hb_ hb); clear BK320; clear HB; have BK320 := n0_; have HB := n1_; have BKD := A_ hbox; clear n0_ n1_ hb hbox hg; have hczD_0 : wD.cell? ⟨gb320, 0, none⟩ = some (.int .i64 a0_0) := ck_ BK320 0; have hczD_1 : wD.cell? ⟨gb320, 1, none⟩ = some (.string a0_1) := ck_ BK320 1; have hczD_2 : wD.cell? ⟨gb320, 2, none⟩ = some (.slice A0_2 l0_2.length c0_2) := ck_ BK320 2; have hczD_3 : wD.cell? ⟨gb320, 3, none⟩ = some (.int .u8 a0_3) := ck_ BK320 3; have hczD_4 : wD.cell? ⟨gb320, 4, none⟩ = some (.slice A0_4 l0_4.length c0_4) := ck_ BK320 4) | ((with_reducible refine gc_ 66 rfl ?_); refine gL_ (some 8) Try.func66 #[.slice A0_4 l0_4.length c0_4, .func (.func 67) #[] #[.pointer (some ⟨gbD, 0, none⟩)]] ?_; (with_reducible refine (slices_ContainsFunc_api_Task.calls (fun k a0_ a1_ a2_ a3_ a4_ => run_all_1.f k a0_ a1_ a2_ a3_ a4_ l1) 67 #[.pointer (some ⟨gbD, 0, none⟩)] ?eg k _ _ l0_4 A1 c1 l1 t321 _ ?side1 ?side2 ?side3 ?side4 ?clo A3.out).mono ?_); (case side1 => exact cB_ HR0_4); (case side2 => exact HC0_4.out); (case side3 => exact cB_ HR1); (case side4 => exact HC1.out); (case eg => exact enters_of Try.func67 rfl rfl); (case clo => (intro W_ k_ a0_ a1_ a2_ a3_ a4_ r_ hB_ h_; exact run_all_1.calls k_ a0_ a1_ a2_ a3_ a4_ A1 c1 l1 r_ W_ (Kd.C_below (Kd.C_below HR1.out HB.out) hB_) HC1.out gbD (blk_below (g := gbD) (o := .cells #[.slice A1 l1.length c1] 25 (0, 0)) BKD.out hB_) h_)); rintro e w6 ⟨rfl, hb⟩; refine ⟨_, rfl, ?_⟩; replace BK320 := bs_ BK320 hb; replace HB := bB_ hb; (try clear hb)))
 go_ret
 exact ⟨re_, hb_⟩

/-! ### run_some: function 62 -/
def run_some.f (k : Nat) (a0_0 : Int) (a0_1 : ByteArray) (l0_2 : List (S60)) (a0_3 : Int) (l0_4 : List (S35)) (l1 : List Int) : Option (Bool) := (slices_ContainsFunc_api_Task.f (fun k a0_ a1_ a2_ a3_ a4_ => run_some_1.f k a0_ a1_ a2_ a3_ a4_ l1) k l0_4 l1).bind fun t323 => (some t323)
theorem run_some.mono : ∀ a0 a1 a2 a3 a4 a5 k, LeO (run_some.f k a0 a1 a2 a3 a4 a5) (run_some.f (k + 1) a0 a1 a2 a3 a4 a5) := by
 intro a0 a1 a2 a3 a4 a5 k; unfold run_some.f
 repeat' first
   | (with_reducible exact slices_ContainsFunc_api_Task.mono _ (fun _ _ _ _ _ _ => run_some_1.mono _ _ _ _ _ _ _) _ _ _)
   | (with_reducible exact LeO.refl _)
   | (with_reducible refine LeO.ite ?_ ?_)
   | (with_reducible refine LeO.bind ?_ (fun _ => ?_))
   | exact slices_ContainsFunc_api_Task.mono _ (fun _ _ _ _ _ _ => run_some_1.mono _ _ _ _ _ _ _) _ _ _
   | exact LeO.none _
   | refine LeO.ite ?_ ?_
   | refine LeO.bind ?_ (fun _ => ?_)
set_option maxHeartbeats 8000000 in
set_option maxRecDepth 100000 in
theorem run_some.calls (k : Nat) (a0_0 : Int) (a0_1 : ByteArray) (A0_2 : Option Addr) (c0_2 : Nat) (l0_2 : List (S60)) (a0_3 : Int) (A0_4 : Option Addr) (c0_4 : Nat) (l0_4 : List (S35)) (A1 : Option Addr) (c1 : Nat) (l1 : List Int) (r : Bool) (w : World) (hr0_2 : Kd.C k60 w A0_2 l0_2.length l0_2) (hc0_2 : l0_2.length ≤ c0_2) (hr0_4 : Kd.C k35 w A0_4 l0_4.length l0_4) (hc0_4 : l0_4.length ≤ c0_4) (hr1 : Kd.C (Kd.int .u8) w A1 l1.length l1) (hc1 : l1.length ≤ c1) (h : run_some.f k a0_0 a0_1 l0_2 a0_3 l0_4 l1 = some r) :
  Calls Try.prog 62 #[.agg #[.int .i64 a0_0, .string a0_1, .slice A0_2 l0_2.length c0_2, .int .u8 a0_3, .slice A0_4 l0_4.length c0_4], .slice A1 l1.length c1] w fun e w' => e = .returned (.bool r) ∧ Below w.heap.size w w' := by
 have hu29 := Try.underlying29; have HR0_2 := A_ hr0_2; have HC0_2 := A_ hc0_2; clear hr0_2 hc0_2; have HR0_4 := A_ hr0_4; have HC0_4 := A_ hc0_4; clear hr0_4 hc0_4; have HR1 := A_ hr1; have HC1 := A_ hc1; clear hr1 hc1; have HB := A_ (Below.refl w.heap.size w); have H : ((slices_ContainsFunc_api_Task.f (fun k a0_ a1_ a2_ a3_ a4_ => run_some_1.f k a0_ a1_ a2_ a3_ a4_ l1) k l0_4 l1).bind fun t323 => (some t323)) = some r := h; clear h; replace H := Option.bind_eq_some_iff.mp H; obtain ⟨t323, A30, H⟩ := H; replace H : (some t323) = some r := H; have A3 := Aside0.mk A30; clear A30; obtain rfl := Option.some.inj H
 go_enter Try.func62, Try.ntmps62
 go_wp2_with (first | ((with_reducible refine gd_ 2 rfl ?_); refine by0_ 2 #[.int .i64 a0_0, .string a0_1, .slice A0_2 l0_2.length c0_2, .int .u8 a0_3, .slice A0_4 l0_4.length c0_4] 29 ?_; clear HB; intro gb322 w4 BK322 GE322 HB; have hz5 := cz5_ BK322) | ((with_reducible refine gd_ 3 rfl ?_); refine bx_ 3 #[.slice A1 l1.length c1] 25 ?_; intro gbD hg wD hbox hb; have n0_ := bs_ BK322 hb; have n1_ := A_ (below_step hb_ hb); clear BK322; clear HB; have BK322 := n0_; have HB := n1_; have BKD := A_ hbox; clear n0_ n1_ hb hbox hg; have hczD_0 : wD.cell? ⟨gb322, 0, none⟩ = some (.int .i64 a0_0) := ck_ BK322 0; have hczD_1 : wD.cell? ⟨gb322, 1, none⟩ = some (.string a0_1) := ck_ BK322 1; have hczD_2 : wD.cell? ⟨gb322, 2, none⟩ = some (.slice A0_2 l0_2.length c0_2) := ck_ BK322 2; have hczD_3 : wD.cell? ⟨gb322, 3, none⟩ = some (.int .u8 a0_3) := ck_ BK322 3; have hczD_4 : wD.cell? ⟨gb322, 4, none⟩ = some (.slice A0_4 l0_4.length c0_4) := ck_ BK322 4) | ((with_reducible refine gc_ 66 rfl ?_); refine gL_ (some 8) Try.func66 #[.slice A0_4 l0_4.length c0_4, .func (.func 71) #[] #[.pointer (some ⟨gbD, 0, none⟩)]] ?_; (with_reducible refine (slices_ContainsFunc_api_Task.calls (fun k a0_ a1_ a2_ a3_ a4_ => run_some_1.f k a0_ a1_ a2_ a3_ a4_ l1) 71 #[.pointer (some ⟨gbD, 0, none⟩)] ?eg k _ _ l0_4 A1 c1 l1 t323 _ ?side1 ?side2 ?side3 ?side4 ?clo A3.out).mono ?_); (case side1 => exact cB_ HR0_4); (case side2 => exact HC0_4.out); (case side3 => exact cB_ HR1); (case side4 => exact HC1.out); (case eg => exact enters_of Try.func71 rfl rfl); (case clo => (intro W_ k_ a0_ a1_ a2_ a3_ a4_ r_ hB_ h_; exact run_some_1.calls k_ a0_ a1_ a2_ a3_ a4_ A1 c1 l1 r_ W_ (Kd.C_below (Kd.C_below HR1.out HB.out) hB_) HC1.out gbD (blk_below (g := gbD) (o := .cells #[.slice A1 l1.length c1] 25 (0, 0)) BKD.out hB_) h_)); rintro e w6 ⟨rfl, hb⟩; refine ⟨_, rfl, ?_⟩; replace BK322 := bs_ BK322 hb; replace HB := bB_ hb; (try clear hb)))
 go_ret
 exact ⟨re_, hb_⟩

end Go.Proofs.Ytbiphljdommacaa.R

/- Contracts of Go functions and what they come to, over the translation of this seat: made by a program of this session (print2.py). -/
import Derived.Test.YtpalnbdcemmlnaaRx0
import Derived.Test.YtpalnbdcemmlnaaRx1
import Derived.Test.YtpalnbdcemmlnaaRx2
import Derived.Test.YtpalnbdcemmlnaaRx3
import Derived.Test.YtpalnbdcemmlnaaRx10
import Derived.Test.YtpalnbdcemmlnaaRx11
namespace Go.Proofs.Ytpalnbdcemmlnaa.R
open Go.RowKit Go.Proofs.Ytpalnbdcemmlnaa.Co Go.Proofs.Ytpalnbdcemmlnaa.Ret Go.Proofs.Ytpalnbdcemmlnaa.Plain Go.Proofs.Ytpalnbdcemmlnaa.Box Go.Proofs.YtpalnbdcemmlnaaW.PrintWords Go.Proofs.YtpalnbdcemmlnaaW.PrintLast Go.Proofs.YtpalnbdcemmlnaaW.PrintMore
attribute [local go_sem] max2_int min2_int max_two min_two max_three min_three max_four min_four   -- for this text's walks alone
set_option linter.unusedVariables false
set_option linter.unusedSimpArgs false

attribute [local go_sem high] eqA39
/-! ### millhandlaw12_BlockSeen: function 7 -/
mutual
def millhandlaw12_BlockSeen.j0 : Nat → List (S39) → ByteArray → Int → Bool → Bool → Option (Bool)
 | 0, _, _, _, _, _ => none
 | k + 1, x0, x1, x2, x7, x24 => if x24 = true then (some x7) else ((block_Write.f k x0).bind fun bt430 => (if bt430.2 = 0 then ((block_Find.f k bt430.1 x1 x2).bind fun bt434 => (if bt434.2.2.2.2.2 = 0 then (millhandlaw12_BlockSeen.l0 k x0 x1 x2 x7 bt434.2.2.2.2.1 (!bt434.2.2.2.2.1) 0 bt434.1 bt434.2.1 bt434.2.2.1 bt434.2.2.2.1) else (if x7 = true then (if bt434.2.2.2.2.1 = true then (some false) else (if (x1.size : Int) < 1 then (some true) else (if (x1.size : Int) > 64 then (some true) else (if x2 < 0 then (some true) else (some (decide (x2 > 1099511627776))))))) else (some false)))) else (some x7)))
def millhandlaw12_BlockSeen.l0 : Nat → List (S39) → ByteArray → Int → Bool → Bool → Bool → Int → ByteArray → Int → Bool → ByteArray → Option (Bool)
 | 0, _, _, _, _, _, _, _, _, _, _, _ => none
 | k + 1, x0, x1, x2, x7, x11, x13, x14, x441000, x441001, x441002, x441003 => if x14 < (x0.length : Int) then (if 0 ≤ x14 then (if ((rd_T39 x0 x14).f0).toList = x1.toList then (if ((rd_T39 x0 x14).f1) ≤ x2 then (if x11 = true then (if ((rd_T39 x0 x14).f1) > x441001 then (some false) else (if x13 = true then (millhandlaw12_BlockSeen.l0 k x0 x1 x2 x7 x11 true (wrap64 (x14 + 1)) x441000 x441001 x441002 x441003) else (millhandlaw12_BlockSeen.l0 k x0 x1 x2 x7 x11 ((((rd_T39 x0 x14).f0).toList) == x441000.toList && (((rd_T39 x0 x14).f1) == x441001 && (((rd_T39 x0 x14).f2) == x441002 && ((((rd_T39 x0 x14).f3).toList) == x441003.toList)))) (wrap64 (x14 + 1)) x441000 x441001 x441002 x441003))) else (some false)) else (if x13 = true then (millhandlaw12_BlockSeen.l0 k x0 x1 x2 x7 x11 true (wrap64 (x14 + 1)) x441000 x441001 x441002 x441003) else (millhandlaw12_BlockSeen.l0 k x0 x1 x2 x7 x11 ((((rd_T39 x0 x14).f0).toList) == x441000.toList && (((rd_T39 x0 x14).f1) == x441001 && (((rd_T39 x0 x14).f2) == x441002 && ((((rd_T39 x0 x14).f3).toList) == x441003.toList)))) (wrap64 (x14 + 1)) x441000 x441001 x441002 x441003))) else (if x13 = true then (millhandlaw12_BlockSeen.l0 k x0 x1 x2 x7 x11 true (wrap64 (x14 + 1)) x441000 x441001 x441002 x441003) else (millhandlaw12_BlockSeen.l0 k x0 x1 x2 x7 x11 ((((rd_T39 x0 x14).f0).toList) == x441000.toList && (((rd_T39 x0 x14).f1) == x441001 && (((rd_T39 x0 x14).f2) == x441002 && ((((rd_T39 x0 x14).f3).toList) == x441003.toList)))) (wrap64 (x14 + 1)) x441000 x441001 x441002 x441003))) else (none)) else (if x7 = true then (if x13 = true then (if x11 = true then (if x441000.toList = x1.toList then (some (decide (x441001 ≤ x2))) else (some false)) else (some true)) else (some false)) else (some false))
end
def millhandlaw12_BlockSeen.f (k : Nat) (l0 : List (S39)) (a1 : ByteArray) (a2 : Int) : Option (Bool) := (millhandlaw12_alive.f k).bind fun t428 => (if t428 = true then ((millhandref12_Heavy.f k l0).bind fun t429 => (if t429 = true then (millhandlaw12_BlockSeen.j0 k l0 a1 a2 t428 true) else (millhandlaw12_BlockSeen.j0 k l0 a1 a2 t428 (decide ((a1.size : Int) > 1000))))) else (some false))
theorem millhandlaw12_BlockSeen.mono_l : ∀ k, (∀ y0 y1 y2 y3 y4, LeO (millhandlaw12_BlockSeen.j0 k y0 y1 y2 y3 y4) (millhandlaw12_BlockSeen.j0 (k + 1) y0 y1 y2 y3 y4)) ∧ (∀ y0 y1 y2 y3 y4 y5 y6 y7 y8 y9 y10, LeO (millhandlaw12_BlockSeen.l0 k y0 y1 y2 y3 y4 y5 y6 y7 y8 y9 y10) (millhandlaw12_BlockSeen.l0 (k + 1) y0 y1 y2 y3 y4 y5 y6 y7 y8 y9 y10))
 | 0 => ⟨fun _ _ _ _ _ r h => by simp [millhandlaw12_BlockSeen.j0] at h, fun _ _ _ _ _ _ _ _ _ _ _ r h => by simp [millhandlaw12_BlockSeen.l0] at h⟩
 | k + 1 => by
  obtain ⟨ih0, ih1⟩ := millhandlaw12_BlockSeen.mono_l k
  refine ⟨?_, ?_⟩
  ·
   intro y0 y1 y2 y3 y4
   unfold millhandlaw12_BlockSeen.j0
   repeat' first
   | (with_reducible exact ih0 _ _ _ _ _)
   | (with_reducible exact ih1 _ _ _ _ _ _ _ _ _ _ _)
   | (with_reducible exact block_Find.mono _ _ _ _)
   | (with_reducible exact block_Write.mono _ _)
   | (with_reducible exact millhandlaw12_alive.mono _)
   | (with_reducible exact millhandref12_Heavy.mono _ _)
   | (with_reducible exact LeO.refl _)
   | (with_reducible exact LeO.none _)
   | (with_reducible refine LeO.ite ?_ ?_)
   | (with_reducible refine LeO.bind ?_ (fun _ => ?_))
   | exact ih0 _ _ _ _ _
   | exact ih1 _ _ _ _ _ _ _ _ _ _ _
   | exact block_Find.mono _ _ _ _
   | exact block_Write.mono _ _
   | exact millhandlaw12_alive.mono _
   | exact millhandref12_Heavy.mono _ _
   | exact LeO.none _
   | refine LeO.ite ?_ ?_
   | refine LeO.bind ?_ (fun _ => ?_)
  ·
   intro y0 y1 y2 y3 y4 y5 y6 y7 y8 y9 y10
   unfold millhandlaw12_BlockSeen.l0
   repeat' first
   | (with_reducible exact ih0 _ _ _ _ _)
   | (with_reducible exact ih1 _ _ _ _ _ _ _ _ _ _ _)
   | (with_reducible exact block_Find.mono _ _ _ _)
   | (with_reducible exact block_Write.mono _ _)
   | (with_reducible exact millhandlaw12_alive.mono _)
   | (with_reducible exact millhandref12_Heavy.mono _ _)
   | (with_reducible exact LeO.refl _)
   | (with_reducible exact LeO.none _)
   | (with_reducible refine LeO.ite ?_ ?_)
   | (with_reducible refine LeO.bind ?_ (fun _ => ?_))
   | exact ih0 _ _ _ _ _
   | exact ih1 _ _ _ _ _ _ _ _ _ _ _
   | exact block_Find.mono _ _ _ _
   | exact block_Write.mono _ _
   | exact millhandlaw12_alive.mono _
   | exact millhandref12_Heavy.mono _ _
   | exact LeO.none _
   | refine LeO.ite ?_ ?_
   | refine LeO.bind ?_ (fun _ => ?_)
theorem millhandlaw12_BlockSeen.mono : ∀ a0 a1 a2 k, LeO (millhandlaw12_BlockSeen.f k a0 a1 a2) (millhandlaw12_BlockSeen.f (k + 1) a0 a1 a2) := by
 intro a0 a1 a2 k
 obtain ⟨ih0, ih1⟩ := millhandlaw12_BlockSeen.mono_l k
 unfold millhandlaw12_BlockSeen.f
 repeat' first
   | (with_reducible exact ih0 _ _ _ _ _)
   | (with_reducible exact ih1 _ _ _ _ _ _ _ _ _ _ _)
   | (with_reducible exact block_Find.mono _ _ _ _)
   | (with_reducible exact block_Write.mono _ _)
   | (with_reducible exact millhandlaw12_alive.mono _)
   | (with_reducible exact millhandref12_Heavy.mono _ _)
   | (with_reducible exact LeO.refl _)
   | (with_reducible exact LeO.none _)
   | (with_reducible refine LeO.ite ?_ ?_)
   | (with_reducible refine LeO.bind ?_ (fun _ => ?_))
   | exact ih0 _ _ _ _ _
   | exact ih1 _ _ _ _ _ _ _ _ _ _ _
   | exact block_Find.mono _ _ _ _
   | exact block_Write.mono _ _
   | exact millhandlaw12_alive.mono _
   | exact millhandref12_Heavy.mono _ _
   | exact LeO.none _
   | refine LeO.ite ?_ ?_
   | refine LeO.bind ?_ (fun _ => ?_)
set_option maxHeartbeats 8000000 in
set_option maxRecDepth 100000 in
theorem millhandlaw12_BlockSeen.calls (k : Nat) (A0 : Option Addr) (c0 : Nat) (l0 : List (S39)) (a1 : ByteArray) (a2 : Int) (r : Bool) (w : World) (hr0 : Kd.C k39 w A0 l0.length l0) (hc0 : l0.length ≤ c0) (h : millhandlaw12_BlockSeen.f k l0 a1 a2 = some r) :
  Calls Try.prog 7 #[.slice A0 l0.length c0, .string a1, .int .i64 a2] w fun e w' => e = .returned (.bool r) ∧ Below w.heap.size w w' := by
 have hu39 := Try.underlying39
 have HR0 := Aside0.mk hr0
 have HC0 := Aside0.mk hc0
 clear hr0 hc0
 have HB := Aside0.mk (Below.refl w.heap.size w)
 have H : ((millhandlaw12_alive.f k).bind fun t428 => (if t428 = true then ((millhandref12_Heavy.f k l0).bind fun t429 => (if t429 = true then (millhandlaw12_BlockSeen.j0 k l0 a1 a2 t428 true) else (millhandlaw12_BlockSeen.j0 k l0 a1 a2 t428 (decide ((a1.size : Int) > 1000))))) else (some false))) = some r := h
 clear h
 replace H := Option.bind_eq_some_iff.mp H
 obtain ⟨t428, A40, H⟩ := H
 replace H : (if t428 = true then ((millhandref12_Heavy.f k l0).bind fun t429 => (if t429 = true then (millhandlaw12_BlockSeen.j0 k l0 a1 a2 t428 true) else (millhandlaw12_BlockSeen.j0 k l0 a1 a2 t428 (decide ((a1.size : Int) > 1000))))) else (some false)) = some r := H
 have A4 := Aside0.mk A40
 clear A40
 by_cases c5 : t428 = true
 ·
  subst c5
  have H1 : ((millhandref12_Heavy.f k l0).bind fun t429 => (if t429 = true then (millhandlaw12_BlockSeen.j0 k l0 a1 a2 true true) else (millhandlaw12_BlockSeen.j0 k l0 a1 a2 true (decide ((a1.size : Int) > 1000))))) = some r := by rw [if_pos rfl] at H; exact H
  clear H
  have H := H1
  clear H1
  have HC6 := Aside0.mk H
  clear H
  go_enter Try.func7, Try.ntmps7
  go_upto_region 4 with (first | (go_at_call 14; (with_reducible refine (millhandlaw12_alive.calls k  true _ A4.out).mono ?_); rintro e w7 ⟨rfl, hb⟩; have n0_ := Aside0.mk (below_step (by repeat (first | (with_reducible first | exact HB.out | apply below_alloc | apply pw_below_drewN | apply below_drew1) | exact HB.out)) hb); clear HB; have HB := n0_; clear n0_; (try clear hb); (try clear hb2); (try clear hk); (try clear hi)))
  repeat (go_quiet (first | (go_at_call 14; (with_reducible refine (millhandlaw12_alive.calls k  true _ A4.out).mono ?_); rintro e w7 ⟨rfl, hb⟩; have n0_ := Aside0.mk (below_step (by repeat (first | (with_reducible first | exact HB.out | apply below_alloc | apply pw_below_drewN | apply below_drew1) | exact HB.out)) hb); clear HB; have HB := n0_; clear n0_; (try clear hb); (try clear hb2); (try clear hk); (try clear hi))); go_upto_region 4 with (first | (go_at_call 14; (with_reducible refine (millhandlaw12_alive.calls k  true _ A4.out).mono ?_); rintro e w7 ⟨rfl, hb⟩; have n0_ := Aside0.mk (below_step (by repeat (first | (with_reducible first | exact HB.out | apply below_alloc | apply pw_below_drewN | apply below_drew1) | exact HB.out)) hb); clear HB; have HB := n0_; clear n0_; (try clear hb); (try clear hb2); (try clear hk); (try clear hi))))
  (try simp only [Act.put, sa_, s0_, s1_])
  go_cut [24] (fun v24 wc => ∃ (kq : Nat) (x24_5 : Bool), v24 = .bool x24_5 ∧ Aside0 (millhandlaw12_BlockSeen.j0 kq l0 a1 a2 true x24_5 = some r) ∧ Aside0 (kq ≤ k) ∧ Aside0 (Below w.heap.size w wc))
  case first =>
   have H := HC6.out
   clear HC6
   replace H := Option.bind_eq_some_iff.mp H
   obtain ⟨t429, A80, H⟩ := H
   replace H : (if t429 = true then (millhandlaw12_BlockSeen.j0 k l0 a1 a2 true true) else (millhandlaw12_BlockSeen.j0 k l0 a1 a2 true (decide ((a1.size : Int) > 1000)))) = some r := H
   have A8 := Aside0.mk A80
   clear A80
   by_cases c9 : t429 = true
   ·
    subst c9
    have H1 : (millhandlaw12_BlockSeen.j0 k l0 a1 a2 true true) = some r := by rw [if_pos rfl] at H; exact H
    clear H
    have H := H1
    clear H1
    have H' := Aside0.mk H
    clear H
    go_wp2_with (first | (go_at_call 8; (with_reducible refine (millhandref12_Heavy.calls k _ _ l0 true _ ?side1 ?side2 A8.out).mono ?_); (case side1 => repeat (first | exact (Kd.C_below HR0.out HB.out) | (with_reducible refine Kd.C_alloc ?_ _) | (with_reducible refine Kd.C_drewN ?_ _) | (with_reducible refine Kd.C_drew ?_))); (case side2 => exact HC0.out); rintro e w10 ⟨rfl, hb⟩; have n0_ := Aside0.mk (below_step (by repeat (first | (with_reducible first | exact HB.out | apply below_alloc | apply pw_below_drewN | apply below_drew1) | exact HB.out)) hb); clear HB; have HB := n0_; clear n0_; (try clear hb); (try clear hb2); (try clear hk); (try clear hi)))
    repeat (go_quiet (first | (go_at_call 8; (with_reducible refine (millhandref12_Heavy.calls k _ _ l0 true _ ?side1 ?side2 A8.out).mono ?_); (case side1 => repeat (first | exact (Kd.C_below HR0.out HB.out) | (with_reducible refine Kd.C_alloc ?_ _) | (with_reducible refine Kd.C_drewN ?_ _) | (with_reducible refine Kd.C_drew ?_))); (case side2 => exact HC0.out); rintro e w10 ⟨rfl, hb⟩; have n0_ := Aside0.mk (below_step (by repeat (first | (with_reducible first | exact HB.out | apply below_alloc | apply pw_below_drewN | apply below_drew1) | exact HB.out)) hb); clear HB; have HB := n0_; clear n0_; (try clear hb); (try clear hb2); (try clear hk); (try clear hi))); try go_wp2_with (first | (go_at_call 8; (with_reducible refine (millhandref12_Heavy.calls k _ _ l0 true _ ?side1 ?side2 A8.out).mono ?_); (case side1 => repeat (first | exact (Kd.C_below HR0.out HB.out) | (with_reducible refine Kd.C_alloc ?_ _) | (with_reducible refine Kd.C_drewN ?_ _) | (with_reducible refine Kd.C_drew ?_))); (case side2 => exact HC0.out); rintro e w10 ⟨rfl, hb⟩; have n0_ := Aside0.mk (below_step (by repeat (first | (with_reducible first | exact HB.out | apply below_alloc | apply pw_below_drewN | apply below_drew1) | exact HB.out)) hb); clear HB; have HB := n0_; clear n0_; (try clear hb); (try clear hb2); (try clear hk); (try clear hi))))
    go_meet
    case rel => exact ⟨_, (true), (by first | rfl | (simp; done) | (simp [*]; done)), H', ⟨by first | omega | exact Nat.le_refl _⟩, ⟨by repeat (first | (with_reducible first | exact HB.out | apply below_alloc | apply pw_below_drewN | apply below_drew1) | exact HB.out)⟩⟩
   ·
    replace c9 := Bool.eq_false_iff.mpr c9
    subst c9
    have H1 : (millhandlaw12_BlockSeen.j0 k l0 a1 a2 true (decide ((a1.size : Int) > 1000))) = some r := by rw [if_neg (show ¬ (false = true) by decide)] at H; exact H
    clear H
    have H := H1
    clear H1
    have H' := Aside0.mk H
    clear H
    go_wp2_with (first | (go_at_call 8; (with_reducible refine (millhandref12_Heavy.calls k _ _ l0 false _ ?side1 ?side2 A8.out).mono ?_); (case side1 => repeat (first | exact (Kd.C_below HR0.out HB.out) | (with_reducible refine Kd.C_alloc ?_ _) | (with_reducible refine Kd.C_drewN ?_ _) | (with_reducible refine Kd.C_drew ?_))); (case side2 => exact HC0.out); rintro e w11 ⟨rfl, hb⟩; have n0_ := Aside0.mk (below_step (by repeat (first | (with_reducible first | exact HB.out | apply below_alloc | apply pw_below_drewN | apply below_drew1) | exact HB.out)) hb); clear HB; have HB := n0_; clear n0_; (try clear hb); (try clear hb2); (try clear hk); (try clear hi)))
    repeat (go_quiet (first | (go_at_call 8; (with_reducible refine (millhandref12_Heavy.calls k _ _ l0 false _ ?side1 ?side2 A8.out).mono ?_); (case side1 => repeat (first | exact (Kd.C_below HR0.out HB.out) | (with_reducible refine Kd.C_alloc ?_ _) | (with_reducible refine Kd.C_drewN ?_ _) | (with_reducible refine Kd.C_drew ?_))); (case side2 => exact HC0.out); rintro e w11 ⟨rfl, hb⟩; have n0_ := Aside0.mk (below_step (by repeat (first | (with_reducible first | exact HB.out | apply below_alloc | apply pw_below_drewN | apply below_drew1) | exact HB.out)) hb); clear HB; have HB := n0_; clear n0_; (try clear hb); (try clear hb2); (try clear hk); (try clear hi))); try go_wp2_with (first | (go_at_call 8; (with_reducible refine (millhandref12_Heavy.calls k _ _ l0 false _ ?side1 ?side2 A8.out).mono ?_); (case side1 => repeat (first | exact (Kd.C_below HR0.out HB.out) | (with_reducible refine Kd.C_alloc ?_ _) | (with_reducible refine Kd.C_drewN ?_ _) | (with_reducible refine Kd.C_drew ?_))); (case side2 => exact HC0.out); rintro e w11 ⟨rfl, hb⟩; have n0_ := Aside0.mk (below_step (by repeat (first | (with_reducible first | exact HB.out | apply below_alloc | apply pw_below_drewN | apply below_drew1) | exact HB.out)) hb); clear HB; have HB := n0_; clear n0_; (try clear hb); (try clear hb2); (try clear hk); (try clear hi))))
    go_meet
    case rel => exact ⟨_, (decide ((a1.size : Int) > 1000)), (by first | rfl | (simp; done) | (simp [*]; done)), H', ⟨by first | omega | exact Nat.le_refl _⟩, ⟨by repeat (first | (with_reducible first | exact HB.out | apply below_alloc | apply pw_below_drewN | apply below_drew1) | exact HB.out)⟩⟩
  case rest =>
   clear HC6
   try clear p2
   try clear c5
   try clear c7
   try clear c9
   obtain ⟨kq, x24_5, rfl, HA, HJ5, HB⟩ := hcut
   cases kq with
   | zero => exact absurd HA.out (by simp [millhandlaw12_BlockSeen.j0])
   | succ kj5 =>
    have H := HA.out
    clear HA
    simp only [millhandlaw12_BlockSeen.j0] at H
    by_cases c12 : x24_5 = true
    ·
     subst c12
     have H1 : (some true) = some r := by rw [if_pos rfl] at H; exact H
     clear H
     have H := H1
     clear H1
     obtain rfl := Option.some.inj H
     go_wp2
     repeat (go_quiet (fail); try go_wp2)
     go_ret
     exact ⟨by first | rfl | (simp [errW_none, errW_some] <;> rfl) | (simp [*, errW_none, errW_some] <;> rfl) | exact ret_ie _ | (simp [*, errW_none, errW_some, bne]; done), by repeat (first | (with_reducible first | exact HB.out | apply below_alloc | apply pw_below_drewN | apply below_drew1) | exact HB.out)⟩
    ·
     replace c12 := Bool.eq_false_iff.mpr c12
     subst c12
     have H1 : ((block_Write.f kj5 l0).bind fun bt430 => (if bt430.2 = 0 then ((block_Find.f kj5 bt430.1 a1 a2).bind fun bt434 => (if bt434.2.2.2.2.2 = 0 then (millhandlaw12_BlockSeen.l0 kj5 l0 a1 a2 true bt434.2.2.2.2.1 (!bt434.2.2.2.2.1) 0 bt434.1 bt434.2.1 bt434.2.2.1 bt434.2.2.2.1) else (if true = true then (if bt434.2.2.2.2.1 = true then (some false) else (if (a1.size : Int) < 1 then (some true) else (if (a1.size : Int) > 64 then (some true) else (if a2 < 0 then (some true) else (some (decide (a2 > 1099511627776))))))) else (some false)))) else (some true))) = some r := by rw [if_neg (show ¬ (false = true) by decide)] at H; exact H
     clear H
     have H := H1
     clear H1
     replace H := Option.bind_eq_some_iff.mp H
     obtain ⟨⟨t430, t431⟩, A130, H⟩ := H
     replace H : (if t431 = 0 then ((block_Find.f kj5 t430 a1 a2).bind fun bt434 => (if bt434.2.2.2.2.2 = 0 then (millhandlaw12_BlockSeen.l0 kj5 l0 a1 a2 true bt434.2.2.2.2.1 (!bt434.2.2.2.2.1) 0 bt434.1 bt434.2.1 bt434.2.2.1 bt434.2.2.2.1) else (if true = true then (if bt434.2.2.2.2.1 = true then (some false) else (if (a1.size : Int) < 1 then (some true) else (if (a1.size : Int) > 64 then (some true) else (if a2 < 0 then (some true) else (some (decide (a2 > 1099511627776))))))) else (some false)))) else (some true)) = some r := H
     have A13 := Aside0.mk A130
     clear A130
     by_cases c14 : t431 = 0
     ·
      rw [if_pos c14] at H
      have c14b0 : (t431 == 0) = true := beq_iff_eq.mpr c14
      have c14b1 : (t431 != 0) = false := bne_eq_false_iff_eq.mpr c14
      clear c14
      replace H := Option.bind_eq_some_iff.mp H
      obtain ⟨⟨t434, t435, t436, t437, t438, t439⟩, A150, H⟩ := H
      replace H : (if t439 = 0 then (millhandlaw12_BlockSeen.l0 kj5 l0 a1 a2 true t438 (!t438) 0 t434 t435 t436 t437) else (if true = true then (if t438 = true then (some false) else (if (a1.size : Int) < 1 then (some true) else (if (a1.size : Int) > 64 then (some true) else (if a2 < 0 then (some true) else (some (decide (a2 > 1099511627776))))))) else (some false))) = some r := H
      have A15 := Aside0.mk A150
      clear A150
      by_cases c16 : t439 = 0
      ·
       rw [if_pos c16] at H
       have c16b0 : (t439 == 0) = true := beq_iff_eq.mpr c16
       have c16b1 : (t439 != 0) = false := bne_eq_false_iff_eq.mpr c16
       clear c16
       have H' := Aside0.mk H
       clear H
       go_wp2_with (first | (go_at_call 9; (with_reducible refine (block_Write.calls kj5 _ _ l0 t430 t431 _ ?side1 ?side2 A13.out).mono ?_); (case side1 => repeat (first | exact (Kd.C_below HR0.out HB.out) | (with_reducible refine Kd.C_alloc ?_ _) | (with_reducible refine Kd.C_drewN ?_ _) | (with_reducible refine Kd.C_drew ?_))); (case side2 => exact HC0.out); rintro e w17 ⟨v432, rfl, ho0, hb⟩; have n0_ := Aside0.mk (Kd.R_lower ho0 (below_size (by repeat (first | (with_reducible first | exact HB.out | apply below_alloc | apply pw_below_drewN | apply below_drew1) | exact HB.out)))); have n1_ := Aside0.mk (below_step (by repeat (first | (with_reducible first | exact HB.out | apply below_alloc | apply pw_below_drewN | apply below_drew1) | exact HB.out)) hb); clear HB; have HO433 := n0_; have HB := n1_; clear n0_ n1_; (try clear hb); (try clear hb2); (try clear hk); (try clear hi); (try clear ho0); obtain ⟨Ao18, co18, eo18⟩ := Kd.R_slice HO433.out; subst eo18) | (go_at_call 16; (with_reducible refine (block_Find.calls kj5 _ _ t430 a1 a2 t434 t435 t436 t437 t438 t439 _ ?side1 ?side2 A15.out).mono ?_); (case side1 => repeat (first | exact (Kd.R_reads' HO433.out).2.2 | (with_reducible refine Kd.C_alloc ?_ _) | (with_reducible refine Kd.C_drewN ?_ _) | (with_reducible refine Kd.C_drew ?_))); (case side2 => exact (Kd.R_reads' HO433.out).2.1); rintro e w19 ⟨rfl, hb⟩; have n0_ := Aside0.mk (Kd.R_below (by (with_reducible repeat (first | apply Kd.R_alloc | apply Kd.R_drewN | apply Kd.R_drew)); exact HO433.out) hb); have n1_ := Aside0.mk (below_step (by repeat (first | (with_reducible first | exact HB.out | apply below_alloc | apply pw_below_drewN | apply below_drew1) | exact HB.out)) hb); clear HO433; clear HB; have HO433 := n0_; have HB := n1_; clear n0_ n1_; (try clear hb); (try clear hb2); (try clear hk); (try clear hi)) | ((with_reducible refine gate_dst (N := 10) rfl ?_); (try (refine gate_guard (by rfl) ?_; dsimp only)); refine box_event ?hg (N := 10) ?hd (cs := #[.string (⟨#[]⟩ : ByteArray), .int .i64 0, .bool false, .string (⟨#[]⟩ : ByteArray)]) (t := 39) ?hr ?_; (case hd => rfl); (case hg => rfl); (case hr => first | (go_simp; done) | (go_simp; rfl)); intro gb440 hg w20 hbox hb; have n0_ := Aside0.mk (Kd.R_below (by (with_reducible repeat (first | apply Kd.R_alloc | apply Kd.R_drewN | apply Kd.R_drew)); exact HO433.out) hb); have n1_ := Aside0.mk (below_step (by repeat (first | (with_reducible first | exact HB.out | apply below_alloc | apply pw_below_drewN | apply below_drew1) | exact HB.out)) hb); have n2_ := Aside0.mk (hbox); have n3_ := Aside0.mk ((by rw [hg]; exact (below_size (by repeat (first | (with_reducible first | exact HB.out | apply below_alloc | apply pw_below_drewN | apply below_drew1) | exact HB.out))) : w.heap.size ≤ gb440)); have n4_ := Aside0.mk ((by rw [hg]; exact (below_size (by repeat (first | (with_reducible first | exact HB.out | apply below_alloc | apply pw_below_drewN | apply below_drew1) | exact HB.out))) : w.heap.size ≤ gb440)); clear HO433; clear HB; have HO433 := n0_; have HB := n1_; have BK440 := n2_; have GW440 := n3_; have GE440 := n4_; clear n0_ n1_ n2_ n3_ n4_; clear hb hbox hg; have hcz21_0 : w20.cell? ⟨gb440, 0, none⟩ = some (.string (⟨#[]⟩ : ByteArray)) := (blk_cell BK440.out 0).trans rfl; have hcz21_1 : w20.cell? ⟨gb440, 1, none⟩ = some (.int .i64 0) := (blk_cell BK440.out 1).trans rfl; have hcz21_2 : w20.cell? ⟨gb440, 2, none⟩ = some (.bool false) := (blk_cell BK440.out 2).trans rfl; have hcz21_3 : w20.cell? ⟨gb440, 3, none⟩ = some (.string (⟨#[]⟩ : ByteArray)) := (blk_cell BK440.out 3).trans rfl; have hfz21_0 := blk_frozen BK440.out 0; have hfz21_1 := blk_frozen BK440.out 1; have hfz21_2 := blk_frozen BK440.out 2; have hfz21_3 := blk_frozen BK440.out 3))
       repeat (go_quiet (first | (go_at_call 9; (with_reducible refine (block_Write.calls kj5 _ _ l0 t430 t431 _ ?side1 ?side2 A13.out).mono ?_); (case side1 => repeat (first | exact (Kd.C_below HR0.out HB.out) | (with_reducible refine Kd.C_alloc ?_ _) | (with_reducible refine Kd.C_drewN ?_ _) | (with_reducible refine Kd.C_drew ?_))); (case side2 => exact HC0.out); rintro e w17 ⟨v432, rfl, ho0, hb⟩; have n0_ := Aside0.mk (Kd.R_lower ho0 (below_size (by repeat (first | (with_reducible first | exact HB.out | apply below_alloc | apply pw_below_drewN | apply below_drew1) | exact HB.out)))); have n1_ := Aside0.mk (below_step (by repeat (first | (with_reducible first | exact HB.out | apply below_alloc | apply pw_below_drewN | apply below_drew1) | exact HB.out)) hb); clear HB; have HO433 := n0_; have HB := n1_; clear n0_ n1_; (try clear hb); (try clear hb2); (try clear hk); (try clear hi); (try clear ho0); obtain ⟨Ao18, co18, eo18⟩ := Kd.R_slice HO433.out; subst eo18) | (go_at_call 16; (with_reducible refine (block_Find.calls kj5 _ _ t430 a1 a2 t434 t435 t436 t437 t438 t439 _ ?side1 ?side2 A15.out).mono ?_); (case side1 => repeat (first | exact (Kd.R_reads' HO433.out).2.2 | (with_reducible refine Kd.C_alloc ?_ _) | (with_reducible refine Kd.C_drewN ?_ _) | (with_reducible refine Kd.C_drew ?_))); (case side2 => exact (Kd.R_reads' HO433.out).2.1); rintro e w19 ⟨rfl, hb⟩; have n0_ := Aside0.mk (Kd.R_below (by (with_reducible repeat (first | apply Kd.R_alloc | apply Kd.R_drewN | apply Kd.R_drew)); exact HO433.out) hb); have n1_ := Aside0.mk (below_step (by repeat (first | (with_reducible first | exact HB.out | apply below_alloc | apply pw_below_drewN | apply below_drew1) | exact HB.out)) hb); clear HO433; clear HB; have HO433 := n0_; have HB := n1_; clear n0_ n1_; (try clear hb); (try clear hb2); (try clear hk); (try clear hi)) | ((with_reducible refine gate_dst (N := 10) rfl ?_); (try (refine gate_guard (by rfl) ?_; dsimp only)); refine box_event ?hg (N := 10) ?hd (cs := #[.string (⟨#[]⟩ : ByteArray), .int .i64 0, .bool false, .string (⟨#[]⟩ : ByteArray)]) (t := 39) ?hr ?_; (case hd => rfl); (case hg => rfl); (case hr => first | (go_simp; done) | (go_simp; rfl)); intro gb440 hg w20 hbox hb; have n0_ := Aside0.mk (Kd.R_below (by (with_reducible repeat (first | apply Kd.R_alloc | apply Kd.R_drewN | apply Kd.R_drew)); exact HO433.out) hb); have n1_ := Aside0.mk (below_step (by repeat (first | (with_reducible first | exact HB.out | apply below_alloc | apply pw_below_drewN | apply below_drew1) | exact HB.out)) hb); have n2_ := Aside0.mk (hbox); have n3_ := Aside0.mk ((by rw [hg]; exact (below_size (by repeat (first | (with_reducible first | exact HB.out | apply below_alloc | apply pw_below_drewN | apply below_drew1) | exact HB.out))) : w.heap.size ≤ gb440)); have n4_ := Aside0.mk ((by rw [hg]; exact (below_size (by repeat (first | (with_reducible first | exact HB.out | apply below_alloc | apply pw_below_drewN | apply below_drew1) | exact HB.out))) : w.heap.size ≤ gb440)); clear HO433; clear HB; have HO433 := n0_; have HB := n1_; have BK440 := n2_; have GW440 := n3_; have GE440 := n4_; clear n0_ n1_ n2_ n3_ n4_; clear hb hbox hg; have hcz21_0 : w20.cell? ⟨gb440, 0, none⟩ = some (.string (⟨#[]⟩ : ByteArray)) := (blk_cell BK440.out 0).trans rfl; have hcz21_1 : w20.cell? ⟨gb440, 1, none⟩ = some (.int .i64 0) := (blk_cell BK440.out 1).trans rfl; have hcz21_2 : w20.cell? ⟨gb440, 2, none⟩ = some (.bool false) := (blk_cell BK440.out 2).trans rfl; have hcz21_3 : w20.cell? ⟨gb440, 3, none⟩ = some (.string (⟨#[]⟩ : ByteArray)) := (blk_cell BK440.out 3).trans rfl; have hfz21_0 := blk_frozen BK440.out 0; have hfz21_1 := blk_frozen BK440.out 1; have hfz21_2 := blk_frozen BK440.out 2; have hfz21_3 := blk_frozen BK440.out 3)); try go_wp2_with (first | (go_at_call 9; (with_reducible refine (block_Write.calls kj5 _ _ l0 t430 t431 _ ?side1 ?side2 A13.out).mono ?_); (case side1 => repeat (first | exact (Kd.C_below HR0.out HB.out) | (with_reducible refine Kd.C_alloc ?_ _) | (with_reducible refine Kd.C_drewN ?_ _) | (with_reducible refine Kd.C_drew ?_))); (case side2 => exact HC0.out); rintro e w17 ⟨v432, rfl, ho0, hb⟩; have n0_ := Aside0.mk (Kd.R_lower ho0 (below_size (by repeat (first | (with_reducible first | exact HB.out | apply below_alloc | apply pw_below_drewN | apply below_drew1) | exact HB.out)))); have n1_ := Aside0.mk (below_step (by repeat (first | (with_reducible first | exact HB.out | apply below_alloc | apply pw_below_drewN | apply below_drew1) | exact HB.out)) hb); clear HB; have HO433 := n0_; have HB := n1_; clear n0_ n1_; (try clear hb); (try clear hb2); (try clear hk); (try clear hi); (try clear ho0); obtain ⟨Ao18, co18, eo18⟩ := Kd.R_slice HO433.out; subst eo18) | (go_at_call 16; (with_reducible refine (block_Find.calls kj5 _ _ t430 a1 a2 t434 t435 t436 t437 t438 t439 _ ?side1 ?side2 A15.out).mono ?_); (case side1 => repeat (first | exact (Kd.R_reads' HO433.out).2.2 | (with_reducible refine Kd.C_alloc ?_ _) | (with_reducible refine Kd.C_drewN ?_ _) | (with_reducible refine Kd.C_drew ?_))); (case side2 => exact (Kd.R_reads' HO433.out).2.1); rintro e w19 ⟨rfl, hb⟩; have n0_ := Aside0.mk (Kd.R_below (by (with_reducible repeat (first | apply Kd.R_alloc | apply Kd.R_drewN | apply Kd.R_drew)); exact HO433.out) hb); have n1_ := Aside0.mk (below_step (by repeat (first | (with_reducible first | exact HB.out | apply below_alloc | apply pw_below_drewN | apply below_drew1) | exact HB.out)) hb); clear HO433; clear HB; have HO433 := n0_; have HB := n1_; clear n0_ n1_; (try clear hb); (try clear hb2); (try clear hk); (try clear hi)) | ((with_reducible refine gate_dst (N := 10) rfl ?_); (try (refine gate_guard (by rfl) ?_; dsimp only)); refine box_event ?hg (N := 10) ?hd (cs := #[.string (⟨#[]⟩ : ByteArray), .int .i64 0, .bool false, .string (⟨#[]⟩ : ByteArray)]) (t := 39) ?hr ?_; (case hd => rfl); (case hg => rfl); (case hr => first | (go_simp; done) | (go_simp; rfl)); intro gb440 hg w20 hbox hb; have n0_ := Aside0.mk (Kd.R_below (by (with_reducible repeat (first | apply Kd.R_alloc | apply Kd.R_drewN | apply Kd.R_drew)); exact HO433.out) hb); have n1_ := Aside0.mk (below_step (by repeat (first | (with_reducible first | exact HB.out | apply below_alloc | apply pw_below_drewN | apply below_drew1) | exact HB.out)) hb); have n2_ := Aside0.mk (hbox); have n3_ := Aside0.mk ((by rw [hg]; exact (below_size (by repeat (first | (with_reducible first | exact HB.out | apply below_alloc | apply pw_below_drewN | apply below_drew1) | exact HB.out))) : w.heap.size ≤ gb440)); have n4_ := Aside0.mk ((by rw [hg]; exact (below_size (by repeat (first | (with_reducible first | exact HB.out | apply below_alloc | apply pw_below_drewN | apply below_drew1) | exact HB.out))) : w.heap.size ≤ gb440)); clear HO433; clear HB; have HO433 := n0_; have HB := n1_; have BK440 := n2_; have GW440 := n3_; have GE440 := n4_; clear n0_ n1_ n2_ n3_ n4_; clear hb hbox hg; have hcz21_0 : w20.cell? ⟨gb440, 0, none⟩ = some (.string (⟨#[]⟩ : ByteArray)) := (blk_cell BK440.out 0).trans rfl; have hcz21_1 : w20.cell? ⟨gb440, 1, none⟩ = some (.int .i64 0) := (blk_cell BK440.out 1).trans rfl; have hcz21_2 : w20.cell? ⟨gb440, 2, none⟩ = some (.bool false) := (blk_cell BK440.out 2).trans rfl; have hcz21_3 : w20.cell? ⟨gb440, 3, none⟩ = some (.string (⟨#[]⟩ : ByteArray)) := (blk_cell BK440.out 3).trans rfl; have hfz21_0 := blk_frozen BK440.out 0; have hfz21_1 := blk_frozen BK440.out 1; have hfz21_2 := blk_frozen BK440.out 2; have hfz21_3 := blk_frozen BK440.out 3)))
       go_loopg [13, 14] kj5 (fun kq v13 v14 w' => ∃ (x13_2 : Bool) (x14_2 : Int), v13 = .bool x13_2 ∧ v14 = .int .i64 x14_2 ∧ Aside0 (millhandlaw12_BlockSeen.l0 kq l0 a1 a2 true t438 x13_2 x14_2 t434 t435 t436 t437 = some r) ∧ Aside0 (kq ≤ kj5) ∧ Aside0 (w'.heap[gb440]? = some (.cells #[.string t434, .int .i64 t435, .bool t436, .string t437] 39 (0, 0))) ∧ Aside0 (Below w.heap.size w w'))
       case atStart => exact ⟨(!t438), (0), (by first | rfl | (simp; done) | (simp [*]; done)), (by first | rfl | (simp; done) | (simp [*]; done)), H', ⟨Nat.le_refl _⟩, ⟨by (with_reducible repeat (first | refine blk_drewN ?_ _ | refine blk_drew ?_ | refine blk_alloc ?_ _)); refine blk_put (cs := #[.string t434, .int .i64 t435, .bool t436, .string (⟨#[]⟩ : ByteArray)]) ?_ 3 _ rfl; (with_reducible repeat (first | refine blk_drewN ?_ _ | refine blk_drew ?_ | refine blk_alloc ?_ _)); refine blk_put (cs := #[.string t434, .int .i64 t435, .bool false, .string (⟨#[]⟩ : ByteArray)]) ?_ 2 _ rfl; (with_reducible repeat (first | refine blk_drewN ?_ _ | refine blk_drew ?_ | refine blk_alloc ?_ _)); refine blk_put (cs := #[.string t434, .int .i64 0, .bool false, .string (⟨#[]⟩ : ByteArray)]) ?_ 1 _ rfl; (with_reducible repeat (first | refine blk_drewN ?_ _ | refine blk_drew ?_ | refine blk_alloc ?_ _)); refine blk_put (cs := #[.string (⟨#[]⟩ : ByteArray), .int .i64 0, .bool false, .string (⟨#[]⟩ : ByteArray)]) ?_ 0 _ rfl; (with_reducible repeat (first | refine blk_drewN ?_ _ | refine blk_drew ?_ | refine blk_alloc ?_ _)); exact BK440.out⟩, ⟨by repeat (first | (with_reducible first | exact HB.out | apply below_alloc | apply pw_below_drewN | apply below_drew1 | refine below_set ?_ GE440.out) | exact HB.out)⟩⟩
       case round =>
        clear H'
        try clear c1
        try clear p2
        try clear c5
        try clear c7
        try clear c9
        try clear c12
        try clear c14
        try clear c14b0
        try clear c14b1
        try clear c16
        try clear c16b0
        try clear c16b1
        try clear hcz21_0
        try clear hcz21_1
        try clear hcz21_2
        try clear hcz21_3
        try clear hfz21_0
        try clear hfz21_1
        try clear hfz21_2
        try clear hfz21_3
        try clear p2
        obtain ⟨x13_2, x14_2, rfl, rfl, HA, HK2, BK440, HB⟩ := hrel
        cases gk with
        | zero => exact absurd HA.out (by simp [millhandlaw12_BlockSeen.l0])
        | succ k2 =>
         have H := HA.out
         clear HA
         simp only [millhandlaw12_BlockSeen.l0] at H
         by_cases c22 : x14_2 < (l0.length : Int)
         ·
          rw [if_pos c22] at H
          have c22b0 : decide (x14_2 < (l0.length : Int)) = true := decide_eq_true c22
          clear c22
          by_cases c23 : 0 ≤ x14_2
          ·
           rw [if_pos c23] at H
           have c23b0 : decide (0 ≤ x14_2) = true := decide_eq_true c23
           clear c23
           by_cases c24 : ((rd_T39 l0 x14_2).f0).toList = a1.toList
           ·
            rw [if_pos c24] at H
            have c24b0 : (((rd_T39 l0 x14_2).f0).toList == a1.toList) = true := beq_iff_eq.mpr c24
            have c24b1 : (((rd_T39 l0 x14_2).f0).toList != a1.toList) = false := bne_eq_false_iff_eq.mpr c24
            clear c24
            by_cases c25 : ((rd_T39 l0 x14_2).f1) ≤ a2
            ·
             rw [if_pos c25] at H
             have c25b0 : decide (((rd_T39 l0 x14_2).f1) ≤ a2) = true := decide_eq_true c25
             clear c25
             by_cases c26 : t438 = true
             ·
              subst c26
              have H1 : (if ((rd_T39 l0 x14_2).f1) > t435 then (some false) else (if x13_2 = true then (millhandlaw12_BlockSeen.l0 k2 l0 a1 a2 true true true (wrap64 (x14_2 + 1)) t434 t435 t436 t437) else (millhandlaw12_BlockSeen.l0 k2 l0 a1 a2 true true ((((rd_T39 l0 x14_2).f0).toList) == t434.toList && (((rd_T39 l0 x14_2).f1) == t435 && (((rd_T39 l0 x14_2).f2) == t436 && ((((rd_T39 l0 x14_2).f3).toList) == t437.toList)))) (wrap64 (x14_2 + 1)) t434 t435 t436 t437))) = some r := by rw [if_pos rfl] at H; exact H
              clear H
              have H := H1
              clear H1
              by_cases c27 : ((rd_T39 l0 x14_2).f1) > t435
              ·
               rw [if_pos c27] at H
               have c27b0 : decide (t435 < ((rd_T39 l0 x14_2).f1)) = true := decide_eq_true c27
               clear c27
               obtain rfl := Option.some.inj H
               have p441 : 0 ≤ (x14_2 : Int) := of_decide_eq_true (by first | (with_reducible assumption) | assumption)
               have q441 : x14_2 < (l0.length : Int) := of_decide_eq_true (by first | (with_reducible assumption) | assumption)
               obtain ⟨ad441, e441, hx441_0, hx441_1, hx441_2, hx441_3⟩ := at_T39 HR0.out x14_2 p441 q441
               cases e441
               replace hx441_0 := cl_ HB.out hx441_0
               replace hx441_1 := cl_ HB.out hx441_1
               replace hx441_2 := cl_ HB.out hx441_2
               replace hx441_3 := cl_ HB.out hx441_3
               replace p441 := eq_true p441
               replace q441 := eq_true q441
               have p442 : 0 ≤ (x14_2 : Int) := of_decide_eq_true (by first | (with_reducible assumption) | assumption)
               have q442 : x14_2 < (l0.length : Int) := of_decide_eq_true (by first | (with_reducible assumption) | assumption)
               obtain ⟨ad442, e442, hx442_0, hx442_1, hx442_2, hx442_3⟩ := at_T39 HR0.out x14_2 p442 q442
               obtain rfl : ad441 = ad442 := (by injection e442)
               replace hx442_0 := cl_ HB.out hx442_0
               replace hx442_1 := cl_ HB.out hx442_1
               replace hx442_2 := cl_ HB.out hx442_2
               replace hx442_3 := cl_ HB.out hx442_3
               replace p442 := eq_true p442
               replace q442 := eq_true q442
               have p443 : 0 ≤ (x14_2 : Int) := of_decide_eq_true (by first | (with_reducible assumption) | assumption)
               have q443 : x14_2 < (l0.length : Int) := of_decide_eq_true (by first | (with_reducible assumption) | assumption)
               obtain ⟨ad443, e443, hx443_0, hx443_1, hx443_2, hx443_3⟩ := at_T39 HR0.out x14_2 p443 q443
               obtain rfl : ad441 = ad443 := (by injection e443)
               replace hx443_0 := cl_ HB.out hx443_0
               replace hx443_1 := cl_ HB.out hx443_1
               replace hx443_2 := cl_ HB.out hx443_2
               replace hx443_3 := cl_ HB.out hx443_3
               replace p443 := eq_true p443
               replace q443 := eq_true q443
               have hcz28_0 : wr.cell? ⟨gb440, 0, none⟩ = some (.string t434) := (blk_cell BK440.out 0).trans rfl
               have hcz28_1 : wr.cell? ⟨gb440, 1, none⟩ = some (.int .i64 t435) := (blk_cell BK440.out 1).trans rfl
               have hcz28_2 : wr.cell? ⟨gb440, 2, none⟩ = some (.bool t436) := (blk_cell BK440.out 2).trans rfl
               have hcz28_3 : wr.cell? ⟨gb440, 3, none⟩ = some (.string t437) := (blk_cell BK440.out 3).trans rfl
               have hfz28_0 := blk_frozen BK440.out 0
               have hfz28_1 := blk_frozen BK440.out 1
               have hfz28_2 := blk_frozen BK440.out 2
               have hfz28_3 := blk_frozen BK440.out 3
               go_wp2
               repeat (go_quiet (fail); try go_wp2)
               go_ret
               exact ⟨by first | rfl | (simp [errW_none, errW_some] <;> rfl) | (simp [*, errW_none, errW_some] <;> rfl) | exact ret_ie _ | (simp [*, errW_none, errW_some, bne]; done), by repeat (first | (with_reducible first | exact HB.out | apply below_alloc | apply pw_below_drewN | apply below_drew1 | refine below_set ?_ GE440.out) | exact HB.out)⟩
              ·
               rw [if_neg c27] at H
               have c27b0 : decide (t435 < ((rd_T39 l0 x14_2).f1)) = false := decide_eq_false c27
               clear c27
               by_cases c29 : x13_2 = true
               ·
                subst c29
                have H1 : (millhandlaw12_BlockSeen.l0 k2 l0 a1 a2 true true true (wrap64 (x14_2 + 1)) t434 t435 t436 t437) = some r := by rw [if_pos rfl] at H; exact H
                clear H
                have H := H1
                clear H1
                have H' := Aside0.mk H
                clear H
                have p441 : 0 ≤ (x14_2 : Int) := of_decide_eq_true (by first | (with_reducible assumption) | assumption)
                have q441 : x14_2 < (l0.length : Int) := of_decide_eq_true (by first | (with_reducible assumption) | assumption)
                obtain ⟨ad441, e441, hx441_0, hx441_1, hx441_2, hx441_3⟩ := at_T39 HR0.out x14_2 p441 q441
                cases e441
                replace hx441_0 := cl_ HB.out hx441_0
                replace hx441_1 := cl_ HB.out hx441_1
                replace hx441_2 := cl_ HB.out hx441_2
                replace hx441_3 := cl_ HB.out hx441_3
                replace p441 := eq_true p441
                replace q441 := eq_true q441
                have p442 : 0 ≤ (x14_2 : Int) := of_decide_eq_true (by first | (with_reducible assumption) | assumption)
                have q442 : x14_2 < (l0.length : Int) := of_decide_eq_true (by first | (with_reducible assumption) | assumption)
                obtain ⟨ad442, e442, hx442_0, hx442_1, hx442_2, hx442_3⟩ := at_T39 HR0.out x14_2 p442 q442
                obtain rfl : ad441 = ad442 := (by injection e442)
                replace hx442_0 := cl_ HB.out hx442_0
                replace hx442_1 := cl_ HB.out hx442_1
                replace hx442_2 := cl_ HB.out hx442_2
                replace hx442_3 := cl_ HB.out hx442_3
                replace p442 := eq_true p442
                replace q442 := eq_true q442
                have p443 : 0 ≤ (x14_2 : Int) := of_decide_eq_true (by first | (with_reducible assumption) | assumption)
                have q443 : x14_2 < (l0.length : Int) := of_decide_eq_true (by first | (with_reducible assumption) | assumption)
                obtain ⟨ad443, e443, hx443_0, hx443_1, hx443_2, hx443_3⟩ := at_T39 HR0.out x14_2 p443 q443
                obtain rfl : ad441 = ad443 := (by injection e443)
                replace hx443_0 := cl_ HB.out hx443_0
                replace hx443_1 := cl_ HB.out hx443_1
                replace hx443_2 := cl_ HB.out hx443_2
                replace hx443_3 := cl_ HB.out hx443_3
                replace p443 := eq_true p443
                replace q443 := eq_true q443
                have hcz30_0 : wr.cell? ⟨gb440, 0, none⟩ = some (.string t434) := (blk_cell BK440.out 0).trans rfl
                have hcz30_1 : wr.cell? ⟨gb440, 1, none⟩ = some (.int .i64 t435) := (blk_cell BK440.out 1).trans rfl
                have hcz30_2 : wr.cell? ⟨gb440, 2, none⟩ = some (.bool t436) := (blk_cell BK440.out 2).trans rfl
                have hcz30_3 : wr.cell? ⟨gb440, 3, none⟩ = some (.string t437) := (blk_cell BK440.out 3).trans rfl
                have hfz30_0 := blk_frozen BK440.out 0
                have hfz30_1 := blk_frozen BK440.out 1
                have hfz30_2 := blk_frozen BK440.out 2
                have hfz30_3 := blk_frozen BK440.out 3
                go_wp2
                repeat (go_quiet (fail); try go_wp2)
                go_roundg k2
                case measure => have := HJ5.out; have := HK2.out; omega
                case rel => exact ⟨(true), (wrap64 (x14_2 + 1)), (by first | rfl | (simp; done) | (simp [*]; done)), (by first | rfl | (simp; done) | (simp [*]; done)), H', ⟨by have := HJ5.out; have := HK2.out; omega⟩, ⟨by (with_reducible repeat (first | refine blk_drewN ?_ _ | refine blk_drew ?_ | refine blk_alloc ?_ _)); exact BK440.out⟩, ⟨by repeat (first | (with_reducible first | exact HB.out | apply below_alloc | apply pw_below_drewN | apply below_drew1 | refine below_set ?_ GE440.out) | exact HB.out)⟩⟩
               ·
                replace c29 := Bool.eq_false_iff.mpr c29
                subst c29
                have H1 : (millhandlaw12_BlockSeen.l0 k2 l0 a1 a2 true true ((((rd_T39 l0 x14_2).f0).toList) == t434.toList && (((rd_T39 l0 x14_2).f1) == t435 && (((rd_T39 l0 x14_2).f2) == t436 && ((((rd_T39 l0 x14_2).f3).toList) == t437.toList)))) (wrap64 (x14_2 + 1)) t434 t435 t436 t437) = some r := by rw [if_neg (show ¬ (false = true) by decide)] at H; exact H
                clear H
                have H := H1
                clear H1
                have H' := Aside0.mk H
                clear H
                have p441 : 0 ≤ (x14_2 : Int) := of_decide_eq_true (by first | (with_reducible assumption) | assumption)
                have q441 : x14_2 < (l0.length : Int) := of_decide_eq_true (by first | (with_reducible assumption) | assumption)
                obtain ⟨ad441, e441, hx441_0, hx441_1, hx441_2, hx441_3⟩ := at_T39 HR0.out x14_2 p441 q441
                cases e441
                replace hx441_0 := cl_ HB.out hx441_0
                replace hx441_1 := cl_ HB.out hx441_1
                replace hx441_2 := cl_ HB.out hx441_2
                replace hx441_3 := cl_ HB.out hx441_3
                replace p441 := eq_true p441
                replace q441 := eq_true q441
                have p442 : 0 ≤ (x14_2 : Int) := of_decide_eq_true (by first | (with_reducible assumption) | assumption)
                have q442 : x14_2 < (l0.length : Int) := of_decide_eq_true (by first | (with_reducible assumption) | assumption)
                obtain ⟨ad442, e442, hx442_0, hx442_1, hx442_2, hx442_3⟩ := at_T39 HR0.out x14_2 p442 q442
                obtain rfl : ad441 = ad442 := (by injection e442)
                replace hx442_0 := cl_ HB.out hx442_0
                replace hx442_1 := cl_ HB.out hx442_1
                replace hx442_2 := cl_ HB.out hx442_2
                replace hx442_3 := cl_ HB.out hx442_3
                replace p442 := eq_true p442
                replace q442 := eq_true q442
                have p443 : 0 ≤ (x14_2 : Int) := of_decide_eq_true (by first | (with_reducible assumption) | assumption)
                have q443 : x14_2 < (l0.length : Int) := of_decide_eq_true (by first | (with_reducible assumption) | assumption)
                obtain ⟨ad443, e443, hx443_0, hx443_1, hx443_2, hx443_3⟩ := at_T39 HR0.out x14_2 p443 q443
                obtain rfl : ad441 = ad443 := (by injection e443)
                replace hx443_0 := cl_ HB.out hx443_0
                replace hx443_1 := cl_ HB.out hx443_1
                replace hx443_2 := cl_ HB.out hx443_2
                replace hx443_3 := cl_ HB.out hx443_3
                replace p443 := eq_true p443
                replace q443 := eq_true q443
                have hcz31_0 : wr.cell? ⟨gb440, 0, none⟩ = some (.string t434) := (blk_cell BK440.out 0).trans rfl
                have hcz31_1 : wr.cell? ⟨gb440, 1, none⟩ = some (.int .i64 t435) := (blk_cell BK440.out 1).trans rfl
                have hcz31_2 : wr.cell? ⟨gb440, 2, none⟩ = some (.bool t436) := (blk_cell BK440.out 2).trans rfl
                have hcz31_3 : wr.cell? ⟨gb440, 3, none⟩ = some (.string t437) := (blk_cell BK440.out 3).trans rfl
                have hfz31_0 := blk_frozen BK440.out 0
                have hfz31_1 := blk_frozen BK440.out 1
                have hfz31_2 := blk_frozen BK440.out 2
                have hfz31_3 := blk_frozen BK440.out 3
                have p444 : 0 ≤ (x14_2 : Int) := of_decide_eq_true (by first | (with_reducible assumption) | assumption)
                have q444 : x14_2 < (l0.length : Int) := of_decide_eq_true (by first | (with_reducible assumption) | assumption)
                obtain ⟨ad444, e444, hx444_0, hx444_1, hx444_2, hx444_3⟩ := at_T39 HR0.out x14_2 p444 q444
                obtain rfl : ad441 = ad444 := (by injection e444)
                replace hx444_0 := cl_ HB.out hx444_0
                replace hx444_1 := cl_ HB.out hx444_1
                replace hx444_2 := cl_ HB.out hx444_2
                replace hx444_3 := cl_ HB.out hx444_3
                replace p444 := eq_true p444
                replace q444 := eq_true q444
                go_wp2
                repeat (go_quiet (fail); try go_wp2)
                go_roundg k2
                case measure => have := HJ5.out; have := HK2.out; omega
                case rel => exact ⟨(((((rd_T39 l0 x14_2).f0).toList) == t434.toList && (((rd_T39 l0 x14_2).f1) == t435 && (((rd_T39 l0 x14_2).f2) == t436 && ((((rd_T39 l0 x14_2).f3).toList) == t437.toList))))), (wrap64 (x14_2 + 1)), (by first | rfl | (simp; done) | (simp [*]; done)), (by first | rfl | (simp; done) | (simp [*]; done)), H', ⟨by have := HJ5.out; have := HK2.out; omega⟩, ⟨by (with_reducible repeat (first | refine blk_drewN ?_ _ | refine blk_drew ?_ | refine blk_alloc ?_ _)); exact BK440.out⟩, ⟨by repeat (first | (with_reducible first | exact HB.out | apply below_alloc | apply pw_below_drewN | apply below_drew1 | refine below_set ?_ GE440.out) | exact HB.out)⟩⟩
             ·
              replace c26 := Bool.eq_false_iff.mpr c26
              subst c26
              have H1 : (some false) = some r := by rw [if_neg (show ¬ (false = true) by decide)] at H; exact H
              clear H
              have H := H1
              clear H1
              obtain rfl := Option.some.inj H
              have p441 : 0 ≤ (x14_2 : Int) := of_decide_eq_true (by first | (with_reducible assumption) | assumption)
              have q441 : x14_2 < (l0.length : Int) := of_decide_eq_true (by first | (with_reducible assumption) | assumption)
              obtain ⟨ad441, e441, hx441_0, hx441_1, hx441_2, hx441_3⟩ := at_T39 HR0.out x14_2 p441 q441
              cases e441
              replace hx441_0 := cl_ HB.out hx441_0
              replace hx441_1 := cl_ HB.out hx441_1
              replace hx441_2 := cl_ HB.out hx441_2
              replace hx441_3 := cl_ HB.out hx441_3
              replace p441 := eq_true p441
              replace q441 := eq_true q441
              have p442 : 0 ≤ (x14_2 : Int) := of_decide_eq_true (by first | (with_reducible assumption) | assumption)
              have q442 : x14_2 < (l0.length : Int) := of_decide_eq_true (by first | (with_reducible assumption) | assumption)
              obtain ⟨ad442, e442, hx442_0, hx442_1, hx442_2, hx442_3⟩ := at_T39 HR0.out x14_2 p442 q442
              obtain rfl : ad441 = ad442 := (by injection e442)
              replace hx442_0 := cl_ HB.out hx442_0
              replace hx442_1 := cl_ HB.out hx442_1
              replace hx442_2 := cl_ HB.out hx442_2
              replace hx442_3 := cl_ HB.out hx442_3
              replace p442 := eq_true p442
              replace q442 := eq_true q442
              go_wp2
              repeat (go_quiet (fail); try go_wp2)
              go_ret
              exact ⟨by first | rfl | (simp [errW_none, errW_some] <;> rfl) | (simp [*, errW_none, errW_some] <;> rfl) | exact ret_ie _ | (simp [*, errW_none, errW_some, bne]; done), by repeat (first | (with_reducible first | exact HB.out | apply below_alloc | apply pw_below_drewN | apply below_drew1 | refine below_set ?_ GE440.out) | exact HB.out)⟩
            ·
             rw [if_neg c25] at H
             have c25b0 : decide (((rd_T39 l0 x14_2).f1) ≤ a2) = false := decide_eq_false c25
             clear c25
             by_cases c32 : x13_2 = true
             ·
              subst c32
              have H1 : (millhandlaw12_BlockSeen.l0 k2 l0 a1 a2 true t438 true (wrap64 (x14_2 + 1)) t434 t435 t436 t437) = some r := by rw [if_pos rfl] at H; exact H
              clear H
              have H := H1
              clear H1
              have H' := Aside0.mk H
              clear H
              have p441 : 0 ≤ (x14_2 : Int) := of_decide_eq_true (by first | (with_reducible assumption) | assumption)
              have q441 : x14_2 < (l0.length : Int) := of_decide_eq_true (by first | (with_reducible assumption) | assumption)
              obtain ⟨ad441, e441, hx441_0, hx441_1, hx441_2, hx441_3⟩ := at_T39 HR0.out x14_2 p441 q441
              cases e441
              replace hx441_0 := cl_ HB.out hx441_0
              replace hx441_1 := cl_ HB.out hx441_1
              replace hx441_2 := cl_ HB.out hx441_2
              replace hx441_3 := cl_ HB.out hx441_3
              replace p441 := eq_true p441
              replace q441 := eq_true q441
              have p442 : 0 ≤ (x14_2 : Int) := of_decide_eq_true (by first | (with_reducible assumption) | assumption)
              have q442 : x14_2 < (l0.length : Int) := of_decide_eq_true (by first | (with_reducible assumption) | assumption)
              obtain ⟨ad442, e442, hx442_0, hx442_1, hx442_2, hx442_3⟩ := at_T39 HR0.out x14_2 p442 q442
              obtain rfl : ad441 = ad442 := (by injection e442)
              replace hx442_0 := cl_ HB.out hx442_0
              replace hx442_1 := cl_ HB.out hx442_1
              replace hx442_2 := cl_ HB.out hx442_2
              replace hx442_3 := cl_ HB.out hx442_3
              replace p442 := eq_true p442
              replace q442 := eq_true q442
              go_wp2
              repeat (go_quiet (fail); try go_wp2)
              go_roundg k2
              case measure => have := HJ5.out; have := HK2.out; omega
              case rel => exact ⟨(true), (wrap64 (x14_2 + 1)), (by first | rfl | (simp; done) | (simp [*]; done)), (by first | rfl | (simp; done) | (simp [*]; done)), H', ⟨by have := HJ5.out; have := HK2.out; omega⟩, ⟨by (with_reducible repeat (first | refine blk_drewN ?_ _ | refine blk_drew ?_ | refine blk_alloc ?_ _)); exact BK440.out⟩, ⟨by repeat (first | (with_reducible first | exact HB.out | apply below_alloc | apply pw_below_drewN | apply below_drew1 | refine below_set ?_ GE440.out) | exact HB.out)⟩⟩
             ·
              replace c32 := Bool.eq_false_iff.mpr c32
              subst c32
              have H1 : (millhandlaw12_BlockSeen.l0 k2 l0 a1 a2 true t438 ((((rd_T39 l0 x14_2).f0).toList) == t434.toList && (((rd_T39 l0 x14_2).f1) == t435 && (((rd_T39 l0 x14_2).f2) == t436 && ((((rd_T39 l0 x14_2).f3).toList) == t437.toList)))) (wrap64 (x14_2 + 1)) t434 t435 t436 t437) = some r := by rw [if_neg (show ¬ (false = true) by decide)] at H; exact H
              clear H
              have H := H1
              clear H1
              have H' := Aside0.mk H
              clear H
              have p441 : 0 ≤ (x14_2 : Int) := of_decide_eq_true (by first | (with_reducible assumption) | assumption)
              have q441 : x14_2 < (l0.length : Int) := of_decide_eq_true (by first | (with_reducible assumption) | assumption)
              obtain ⟨ad441, e441, hx441_0, hx441_1, hx441_2, hx441_3⟩ := at_T39 HR0.out x14_2 p441 q441
              cases e441
              replace hx441_0 := cl_ HB.out hx441_0
              replace hx441_1 := cl_ HB.out hx441_1
              replace hx441_2 := cl_ HB.out hx441_2
              replace hx441_3 := cl_ HB.out hx441_3
              replace p441 := eq_true p441
              replace q441 := eq_true q441
              have p442 : 0 ≤ (x14_2 : Int) := of_decide_eq_true (by first | (with_reducible assumption) | assumption)
              have q442 : x14_2 < (l0.length : Int) := of_decide_eq_true (by first | (with_reducible assumption) | assumption)
              obtain ⟨ad442, e442, hx442_0, hx442_1, hx442_2, hx442_3⟩ := at_T39 HR0.out x14_2 p442 q442
              obtain rfl : ad441 = ad442 := (by injection e442)
              replace hx442_0 := cl_ HB.out hx442_0
              replace hx442_1 := cl_ HB.out hx442_1
              replace hx442_2 := cl_ HB.out hx442_2
              replace hx442_3 := cl_ HB.out hx442_3
              replace p442 := eq_true p442
              replace q442 := eq_true q442
              have p445 : 0 ≤ (x14_2 : Int) := of_decide_eq_true (by first | (with_reducible assumption) | assumption)
              have q445 : x14_2 < (l0.length : Int) := of_decide_eq_true (by first | (with_reducible assumption) | assumption)
              obtain ⟨ad445, e445, hx445_0, hx445_1, hx445_2, hx445_3⟩ := at_T39 HR0.out x14_2 p445 q445
              obtain rfl : ad441 = ad445 := (by injection e445)
              replace hx445_0 := cl_ HB.out hx445_0
              replace hx445_1 := cl_ HB.out hx445_1
              replace hx445_2 := cl_ HB.out hx445_2
              replace hx445_3 := cl_ HB.out hx445_3
              replace p445 := eq_true p445
              replace q445 := eq_true q445
              have hcz33_0 : wr.cell? ⟨gb440, 0, none⟩ = some (.string t434) := (blk_cell BK440.out 0).trans rfl
              have hcz33_1 : wr.cell? ⟨gb440, 1, none⟩ = some (.int .i64 t435) := (blk_cell BK440.out 1).trans rfl
              have hcz33_2 : wr.cell? ⟨gb440, 2, none⟩ = some (.bool t436) := (blk_cell BK440.out 2).trans rfl
              have hcz33_3 : wr.cell? ⟨gb440, 3, none⟩ = some (.string t437) := (blk_cell BK440.out 3).trans rfl
              have hfz33_0 := blk_frozen BK440.out 0
              have hfz33_1 := blk_frozen BK440.out 1
              have hfz33_2 := blk_frozen BK440.out 2
              have hfz33_3 := blk_frozen BK440.out 3
              go_wp2
              repeat (go_quiet (fail); try go_wp2)
              go_roundg k2
              case measure => have := HJ5.out; have := HK2.out; omega
              case rel => exact ⟨(((((rd_T39 l0 x14_2).f0).toList) == t434.toList && (((rd_T39 l0 x14_2).f1) == t435 && (((rd_T39 l0 x14_2).f2) == t436 && ((((rd_T39 l0 x14_2).f3).toList) == t437.toList))))), (wrap64 (x14_2 + 1)), (by first | rfl | (simp; done) | (simp [*]; done)), (by first | rfl | (simp; done) | (simp [*]; done)), H', ⟨by have := HJ5.out; have := HK2.out; omega⟩, ⟨by (with_reducible repeat (first | refine blk_drewN ?_ _ | refine blk_drew ?_ | refine blk_alloc ?_ _)); exact BK440.out⟩, ⟨by repeat (first | (with_reducible first | exact HB.out | apply below_alloc | apply pw_below_drewN | apply below_drew1 | refine below_set ?_ GE440.out) | exact HB.out)⟩⟩
           ·
            rw [if_neg c24] at H
            have c24b0 : (((rd_T39 l0 x14_2).f0).toList == a1.toList) = false := beq_eq_false_iff_ne.mpr c24
            have c24b1 : (((rd_T39 l0 x14_2).f0).toList != a1.toList) = true := bne_iff_ne.mpr c24
            by_cases c34 : x13_2 = true
            ·
             subst c34
             have H1 : (millhandlaw12_BlockSeen.l0 k2 l0 a1 a2 true t438 true (wrap64 (x14_2 + 1)) t434 t435 t436 t437) = some r := by rw [if_pos rfl] at H; exact H
             clear H
             have H := H1
             clear H1
             have H' := Aside0.mk H
             clear H
             have p441 : 0 ≤ (x14_2 : Int) := of_decide_eq_true (by first | (with_reducible assumption) | assumption)
             have q441 : x14_2 < (l0.length : Int) := of_decide_eq_true (by first | (with_reducible assumption) | assumption)
             obtain ⟨ad441, e441, hx441_0, hx441_1, hx441_2, hx441_3⟩ := at_T39 HR0.out x14_2 p441 q441
             cases e441
             replace hx441_0 := cl_ HB.out hx441_0
             replace hx441_1 := cl_ HB.out hx441_1
             replace hx441_2 := cl_ HB.out hx441_2
             replace hx441_3 := cl_ HB.out hx441_3
             replace p441 := eq_true p441
             replace q441 := eq_true q441
             go_wp2
             repeat (go_quiet (fail); try go_wp2)
             go_roundg k2
             case measure => have := HJ5.out; have := HK2.out; omega
             case rel => exact ⟨(true), (wrap64 (x14_2 + 1)), (by first | rfl | (simp; done) | (simp [*]; done)), (by first | rfl | (simp; done) | (simp [*]; done)), H', ⟨by have := HJ5.out; have := HK2.out; omega⟩, ⟨by (with_reducible repeat (first | refine blk_drewN ?_ _ | refine blk_drew ?_ | refine blk_alloc ?_ _)); exact BK440.out⟩, ⟨by repeat (first | (with_reducible first | exact HB.out | apply below_alloc | apply pw_below_drewN | apply below_drew1 | refine below_set ?_ GE440.out) | exact HB.out)⟩⟩
            ·
             replace c34 := Bool.eq_false_iff.mpr c34
             subst c34
             have H1 : (millhandlaw12_BlockSeen.l0 k2 l0 a1 a2 true t438 ((((rd_T39 l0 x14_2).f0).toList) == t434.toList && (((rd_T39 l0 x14_2).f1) == t435 && (((rd_T39 l0 x14_2).f2) == t436 && ((((rd_T39 l0 x14_2).f3).toList) == t437.toList)))) (wrap64 (x14_2 + 1)) t434 t435 t436 t437) = some r := by rw [if_neg (show ¬ (false = true) by decide)] at H; exact H
             clear H
             have H := H1
             clear H1
             have H' := Aside0.mk H
             clear H
             have p441 : 0 ≤ (x14_2 : Int) := of_decide_eq_true (by first | (with_reducible assumption) | assumption)
             have q441 : x14_2 < (l0.length : Int) := of_decide_eq_true (by first | (with_reducible assumption) | assumption)
             obtain ⟨ad441, e441, hx441_0, hx441_1, hx441_2, hx441_3⟩ := at_T39 HR0.out x14_2 p441 q441
             cases e441
             replace hx441_0 := cl_ HB.out hx441_0
             replace hx441_1 := cl_ HB.out hx441_1
             replace hx441_2 := cl_ HB.out hx441_2
             replace hx441_3 := cl_ HB.out hx441_3
             replace p441 := eq_true p441
             replace q441 := eq_true q441
             have p446 : 0 ≤ (x14_2 : Int) := of_decide_eq_true (by first | (with_reducible assumption) | assumption)
             have q446 : x14_2 < (l0.length : Int) := of_decide_eq_true (by first | (with_reducible assumption) | assumption)
             obtain ⟨ad446, e446, hx446_0, hx446_1, hx446_2, hx446_3⟩ := at_T39 HR0.out x14_2 p446 q446
             obtain rfl : ad441 = ad446 := (by injection e446)
             replace hx446_0 := cl_ HB.out hx446_0
             replace hx446_1 := cl_ HB.out hx446_1
             replace hx446_2 := cl_ HB.out hx446_2
             replace hx446_3 := cl_ HB.out hx446_3
             replace p446 := eq_true p446
             replace q446 := eq_true q446
             have hcz35_0 : wr.cell? ⟨gb440, 0, none⟩ = some (.string t434) := (blk_cell BK440.out 0).trans rfl
             have hcz35_1 : wr.cell? ⟨gb440, 1, none⟩ = some (.int .i64 t435) := (blk_cell BK440.out 1).trans rfl
             have hcz35_2 : wr.cell? ⟨gb440, 2, none⟩ = some (.bool t436) := (blk_cell BK440.out 2).trans rfl
             have hcz35_3 : wr.cell? ⟨gb440, 3, none⟩ = some (.string t437) := (blk_cell BK440.out 3).trans rfl
             have hfz35_0 := blk_frozen BK440.out 0
             have hfz35_1 := blk_frozen BK440.out 1
             have hfz35_2 := blk_frozen BK440.out 2
             have hfz35_3 := blk_frozen BK440.out 3
             go_wp2
             repeat (go_quiet (fail); try go_wp2)
             go_roundg k2
             case measure => have := HJ5.out; have := HK2.out; omega
             case rel => exact ⟨(((((rd_T39 l0 x14_2).f0).toList) == t434.toList && (((rd_T39 l0 x14_2).f1) == t435 && (((rd_T39 l0 x14_2).f2) == t436 && ((((rd_T39 l0 x14_2).f3).toList) == t437.toList))))), (wrap64 (x14_2 + 1)), (by first | rfl | (simp; done) | (simp [*]; done)), (by first | rfl | (simp; done) | (simp [*]; done)), H', ⟨by have := HJ5.out; have := HK2.out; omega⟩, ⟨by (with_reducible repeat (first | refine blk_drewN ?_ _ | refine blk_drew ?_ | refine blk_alloc ?_ _)); exact BK440.out⟩, ⟨by repeat (first | (with_reducible first | exact HB.out | apply below_alloc | apply pw_below_drewN | apply below_drew1 | refine below_set ?_ GE440.out) | exact HB.out)⟩⟩
          ·
           rw [if_neg c23] at H
           exact absurd H (by simp)
         ·
          rw [if_neg c22] at H
          have c22b0 : decide (x14_2 < (l0.length : Int)) = false := decide_eq_false c22
          clear c22
          by_cases c36 : true = true
          ·
           skip
           have H1 : (if x13_2 = true then (if t438 = true then (if t434.toList = a1.toList then (some (decide (t435 ≤ a2))) else (some false)) else (some true)) else (some false)) = some r := by first | (rw [if_pos rfl] at H; exact H) | (rw [if_pos trivial] at H; exact H)
           clear H
           have H := H1
           clear H1
           by_cases c37 : x13_2 = true
           ·
            subst c37
            have H1 : (if t438 = true then (if t434.toList = a1.toList then (some (decide (t435 ≤ a2))) else (some false)) else (some true)) = some r := by rw [if_pos rfl] at H; exact H
            clear H
            have H := H1
            clear H1
            by_cases c38 : t438 = true
            ·
             subst c38
             have H1 : (if t434.toList = a1.toList then (some (decide (t435 ≤ a2))) else (some false)) = some r := by rw [if_pos rfl] at H; exact H
             clear H
             have H := H1
             clear H1
             by_cases c39 : t434.toList = a1.toList
             ·
              rw [if_pos c39] at H
              have c39b0 : (t434.toList == a1.toList) = true := beq_iff_eq.mpr c39
              have c39b1 : (t434.toList != a1.toList) = false := bne_eq_false_iff_eq.mpr c39
              clear c39
              obtain rfl := Option.some.inj H
              have hcz40_0 : wr.cell? ⟨gb440, 0, none⟩ = some (.string t434) := (blk_cell BK440.out 0).trans rfl
              have hcz40_1 : wr.cell? ⟨gb440, 1, none⟩ = some (.int .i64 t435) := (blk_cell BK440.out 1).trans rfl
              have hcz40_2 : wr.cell? ⟨gb440, 2, none⟩ = some (.bool t436) := (blk_cell BK440.out 2).trans rfl
              have hcz40_3 : wr.cell? ⟨gb440, 3, none⟩ = some (.string t437) := (blk_cell BK440.out 3).trans rfl
              have hfz40_0 := blk_frozen BK440.out 0
              have hfz40_1 := blk_frozen BK440.out 1
              have hfz40_2 := blk_frozen BK440.out 2
              have hfz40_3 := blk_frozen BK440.out 3
              go_wp2
              repeat (go_quiet (fail); try go_wp2)
              go_ret
              exact ⟨by first | rfl | (simp [errW_none, errW_some] <;> rfl) | (simp [*, errW_none, errW_some] <;> rfl) | exact ret_ie _ | (simp [*, errW_none, errW_some, bne]; done), by repeat (first | (with_reducible first | exact HB.out | apply below_alloc | apply pw_below_drewN | apply below_drew1 | refine below_set ?_ GE440.out) | exact HB.out)⟩
             ·
              rw [if_neg c39] at H
              have c39b0 : (t434.toList == a1.toList) = false := beq_eq_false_iff_ne.mpr c39
              have c39b1 : (t434.toList != a1.toList) = true := bne_iff_ne.mpr c39
              obtain rfl := Option.some.inj H
              have hcz41_0 : wr.cell? ⟨gb440, 0, none⟩ = some (.string t434) := (blk_cell BK440.out 0).trans rfl
              have hcz41_1 : wr.cell? ⟨gb440, 1, none⟩ = some (.int .i64 t435) := (blk_cell BK440.out 1).trans rfl
              have hcz41_2 : wr.cell? ⟨gb440, 2, none⟩ = some (.bool t436) := (blk_cell BK440.out 2).trans rfl
              have hcz41_3 : wr.cell? ⟨gb440, 3, none⟩ = some (.string t437) := (blk_cell BK440.out 3).trans rfl
              have hfz41_0 := blk_frozen BK440.out 0
              have hfz41_1 := blk_frozen BK440.out 1
              have hfz41_2 := blk_frozen BK440.out 2
              have hfz41_3 := blk_frozen BK440.out 3
              go_wp2
              repeat (go_quiet (fail); try go_wp2)
              go_ret
              exact ⟨by first | rfl | (simp [errW_none, errW_some] <;> rfl) | (simp [*, errW_none, errW_some] <;> rfl) | exact ret_ie _ | (simp [*, errW_none, errW_some, bne]; done), by repeat (first | (with_reducible first | exact HB.out | apply below_alloc | apply pw_below_drewN | apply below_drew1 | refine below_set ?_ GE440.out) | exact HB.out)⟩
            ·
             replace c38 := Bool.eq_false_iff.mpr c38
             subst c38
             have H1 : (some true) = some r := by rw [if_neg (show ¬ (false = true) by decide)] at H; exact H
             clear H
             have H := H1
             clear H1
             obtain rfl := Option.some.inj H
             go_wp2
             repeat (go_quiet (fail); try go_wp2)
             go_ret
             exact ⟨by first | rfl | (simp [errW_none, errW_some] <;> rfl) | (simp [*, errW_none, errW_some] <;> rfl) | exact ret_ie _ | (simp [*, errW_none, errW_some, bne]; done), by repeat (first | (with_reducible first | exact HB.out | apply below_alloc | apply pw_below_drewN | apply below_drew1 | refine below_set ?_ GE440.out) | exact HB.out)⟩
           ·
            replace c37 := Bool.eq_false_iff.mpr c37
            subst c37
            have H1 : (some false) = some r := by rw [if_neg (show ¬ (false = true) by decide)] at H; exact H
            clear H
            have H := H1
            clear H1
            obtain rfl := Option.some.inj H
            go_wp2
            repeat (go_quiet (fail); try go_wp2)
            go_ret
            exact ⟨by first | rfl | (simp [errW_none, errW_some] <;> rfl) | (simp [*, errW_none, errW_some] <;> rfl) | exact ret_ie _ | (simp [*, errW_none, errW_some, bne]; done), by repeat (first | (with_reducible first | exact HB.out | apply below_alloc | apply pw_below_drewN | apply below_drew1 | refine below_set ?_ GE440.out) | exact HB.out)⟩
          ·
           exact absurd rfl c36
      ·
       rw [if_neg c16] at H
       have c16b0 : (t439 == 0) = false := beq_eq_false_iff_ne.mpr c16
       have c16b1 : (t439 != 0) = true := bne_iff_ne.mpr c16
       by_cases c42 : true = true
       ·
        skip
        have H1 : (if t438 = true then (some false) else (if (a1.size : Int) < 1 then (some true) else (if (a1.size : Int) > 64 then (some true) else (if a2 < 0 then (some true) else (some (decide (a2 > 1099511627776))))))) = some r := by first | (rw [if_pos rfl] at H; exact H) | (rw [if_pos trivial] at H; exact H)
        clear H
        have H := H1
        clear H1
        by_cases c43 : t438 = true
        ·
         subst c43
         have H1 : (some false) = some r := by rw [if_pos rfl] at H; exact H
         clear H
         have H := H1
         clear H1
         obtain rfl := Option.some.inj H
         go_wp2_with (first | (go_at_call 9; (with_reducible refine (block_Write.calls kj5 _ _ l0 t430 t431 _ ?side1 ?side2 A13.out).mono ?_); (case side1 => repeat (first | exact (Kd.C_below HR0.out HB.out) | (with_reducible refine Kd.C_alloc ?_ _) | (with_reducible refine Kd.C_drewN ?_ _) | (with_reducible refine Kd.C_drew ?_))); (case side2 => exact HC0.out); rintro e w44 ⟨v432, rfl, ho0, hb⟩; have n0_ := Aside0.mk (Kd.R_lower ho0 (below_size (by repeat (first | (with_reducible first | exact HB.out | apply below_alloc | apply pw_below_drewN | apply below_drew1) | exact HB.out)))); have n1_ := Aside0.mk (below_step (by repeat (first | (with_reducible first | exact HB.out | apply below_alloc | apply pw_below_drewN | apply below_drew1) | exact HB.out)) hb); clear HB; have HO433 := n0_; have HB := n1_; clear n0_ n1_; (try clear hb); (try clear hb2); (try clear hk); (try clear hi); (try clear ho0); obtain ⟨Ao45, co45, eo45⟩ := Kd.R_slice HO433.out; subst eo45) | (go_at_call 16; (with_reducible refine (block_Find.calls kj5 _ _ t430 a1 a2 t434 t435 t436 t437 true t439 _ ?side1 ?side2 A15.out).mono ?_); (case side1 => repeat (first | exact (Kd.R_reads' HO433.out).2.2 | (with_reducible refine Kd.C_alloc ?_ _) | (with_reducible refine Kd.C_drewN ?_ _) | (with_reducible refine Kd.C_drew ?_))); (case side2 => exact (Kd.R_reads' HO433.out).2.1); rintro e w46 ⟨rfl, hb⟩; have n0_ := Aside0.mk (Kd.R_below (by (with_reducible repeat (first | apply Kd.R_alloc | apply Kd.R_drewN | apply Kd.R_drew)); exact HO433.out) hb); have n1_ := Aside0.mk (below_step (by repeat (first | (with_reducible first | exact HB.out | apply below_alloc | apply pw_below_drewN | apply below_drew1) | exact HB.out)) hb); clear HO433; clear HB; have HO433 := n0_; have HB := n1_; clear n0_ n1_; (try clear hb); (try clear hb2); (try clear hk); (try clear hi)) | ((with_reducible refine gate_dst (N := 10) rfl ?_); (try (refine gate_guard (by rfl) ?_; dsimp only)); refine box_event ?hg (N := 10) ?hd (cs := #[.string (⟨#[]⟩ : ByteArray), .int .i64 0, .bool false, .string (⟨#[]⟩ : ByteArray)]) (t := 39) ?hr ?_; (case hd => rfl); (case hg => rfl); (case hr => first | (go_simp; done) | (go_simp; rfl)); intro gb440 hg w47 hbox hb; have n0_ := Aside0.mk (Kd.R_below (by (with_reducible repeat (first | apply Kd.R_alloc | apply Kd.R_drewN | apply Kd.R_drew)); exact HO433.out) hb); have n1_ := Aside0.mk (below_step (by repeat (first | (with_reducible first | exact HB.out | apply below_alloc | apply pw_below_drewN | apply below_drew1) | exact HB.out)) hb); have n2_ := Aside0.mk (hbox); have n3_ := Aside0.mk ((by rw [hg]; exact (below_size (by repeat (first | (with_reducible first | exact HB.out | apply below_alloc | apply pw_below_drewN | apply below_drew1) | exact HB.out))) : w.heap.size ≤ gb440)); have n4_ := Aside0.mk ((by rw [hg]; exact (below_size (by repeat (first | (with_reducible first | exact HB.out | apply below_alloc | apply pw_below_drewN | apply below_drew1) | exact HB.out))) : w.heap.size ≤ gb440)); clear HO433; clear HB; have HO433 := n0_; have HB := n1_; have BK440 := n2_; have GW440 := n3_; have GE440 := n4_; clear n0_ n1_ n2_ n3_ n4_; clear hb hbox hg; have hcz48_0 : w47.cell? ⟨gb440, 0, none⟩ = some (.string (⟨#[]⟩ : ByteArray)) := (blk_cell BK440.out 0).trans rfl; have hcz48_1 : w47.cell? ⟨gb440, 1, none⟩ = some (.int .i64 0) := (blk_cell BK440.out 1).trans rfl; have hcz48_2 : w47.cell? ⟨gb440, 2, none⟩ = some (.bool false) := (blk_cell BK440.out 2).trans rfl; have hcz48_3 : w47.cell? ⟨gb440, 3, none⟩ = some (.string (⟨#[]⟩ : ByteArray)) := (blk_cell BK440.out 3).trans rfl; have hfz48_0 := blk_frozen BK440.out 0; have hfz48_1 := blk_frozen BK440.out 1; have hfz48_2 := blk_frozen BK440.out 2; have hfz48_3 := blk_frozen BK440.out 3))
         repeat (go_quiet (first | (go_at_call 9; (with_reducible refine (block_Write.calls kj5 _ _ l0 t430 t431 _ ?side1 ?side2 A13.out).mono ?_); (case side1 => repeat (first | exact (Kd.C_below HR0.out HB.out) | (with_reducible refine Kd.C_alloc ?_ _) | (with_reducible refine Kd.C_drewN ?_ _) | (with_reducible refine Kd.C_drew ?_))); (case side2 => exact HC0.out); rintro e w44 ⟨v432, rfl, ho0, hb⟩; have n0_ := Aside0.mk (Kd.R_lower ho0 (below_size (by repeat (first | (with_reducible first | exact HB.out | apply below_alloc | apply pw_below_drewN | apply below_drew1) | exact HB.out)))); have n1_ := Aside0.mk (below_step (by repeat (first | (with_reducible first | exact HB.out | apply below_alloc | apply pw_below_drewN | apply below_drew1) | exact HB.out)) hb); clear HB; have HO433 := n0_; have HB := n1_; clear n0_ n1_; (try clear hb); (try clear hb2); (try clear hk); (try clear hi); (try clear ho0); obtain ⟨Ao45, co45, eo45⟩ := Kd.R_slice HO433.out; subst eo45) | (go_at_call 16; (with_reducible refine (block_Find.calls kj5 _ _ t430 a1 a2 t434 t435 t436 t437 true t439 _ ?side1 ?side2 A15.out).mono ?_); (case side1 => repeat (first | exact (Kd.R_reads' HO433.out).2.2 | (with_reducible refine Kd.C_alloc ?_ _) | (with_reducible refine Kd.C_drewN ?_ _) | (with_reducible refine Kd.C_drew ?_))); (case side2 => exact (Kd.R_reads' HO433.out).2.1); rintro e w46 ⟨rfl, hb⟩; have n0_ := Aside0.mk (Kd.R_below (by (with_reducible repeat (first | apply Kd.R_alloc | apply Kd.R_drewN | apply Kd.R_drew)); exact HO433.out) hb); have n1_ := Aside0.mk (below_step (by repeat (first | (with_reducible first | exact HB.out | apply below_alloc | apply pw_below_drewN | apply below_drew1) | exact HB.out)) hb); clear HO433; clear HB; have HO433 := n0_; have HB := n1_; clear n0_ n1_; (try clear hb); (try clear hb2); (try clear hk); (try clear hi)) | ((with_reducible refine gate_dst (N := 10) rfl ?_); (try (refine gate_guard (by rfl) ?_; dsimp only)); refine box_event ?hg (N := 10) ?hd (cs := #[.string (⟨#[]⟩ : ByteArray), .int .i64 0, .bool false, .string (⟨#[]⟩ : ByteArray)]) (t := 39) ?hr ?_; (case hd => rfl); (case hg => rfl); (case hr => first | (go_simp; done) | (go_simp; rfl)); intro gb440 hg w47 hbox hb; have n0_ := Aside0.mk (Kd.R_below (by (with_reducible repeat (first | apply Kd.R_alloc | apply Kd.R_drewN | apply Kd.R_drew)); exact HO433.out) hb); have n1_ := Aside0.mk (below_step (by repeat (first | (with_reducible first | exact HB.out | apply below_alloc | apply pw_below_drewN | apply below_drew1) | exact HB.out)) hb); have n2_ := Aside0.mk (hbox); have n3_ := Aside0.mk ((by rw [hg]; exact (below_size (by repeat (first | (with_reducible first | exact HB.out | apply below_alloc | apply pw_below_drewN | apply below_drew1) | exact HB.out))) : w.heap.size ≤ gb440)); have n4_ := Aside0.mk ((by rw [hg]; exact (below_size (by repeat (first | (with_reducible first | exact HB.out | apply below_alloc | apply pw_below_drewN | apply below_drew1) | exact HB.out))) : w.heap.size ≤ gb440)); clear HO433; clear HB; have HO433 := n0_; have HB := n1_; have BK440 := n2_; have GW440 := n3_; have GE440 := n4_; clear n0_ n1_ n2_ n3_ n4_; clear hb hbox hg; have hcz48_0 : w47.cell? ⟨gb440, 0, none⟩ = some (.string (⟨#[]⟩ : ByteArray)) := (blk_cell BK440.out 0).trans rfl; have hcz48_1 : w47.cell? ⟨gb440, 1, none⟩ = some (.int .i64 0) := (blk_cell BK440.out 1).trans rfl; have hcz48_2 : w47.cell? ⟨gb440, 2, none⟩ = some (.bool false) := (blk_cell BK440.out 2).trans rfl; have hcz48_3 : w47.cell? ⟨gb440, 3, none⟩ = some (.string (⟨#[]⟩ : ByteArray)) := (blk_cell BK440.out 3).trans rfl; have hfz48_0 := blk_frozen BK440.out 0; have hfz48_1 := blk_frozen BK440.out 1; have hfz48_2 := blk_frozen BK440.out 2; have hfz48_3 := blk_frozen BK440.out 3)); try go_wp2_with (first | (go_at_call 9; (with_reducible refine (block_Write.calls kj5 _ _ l0 t430 t431 _ ?side1 ?side2 A13.out).mono ?_); (case side1 => repeat (first | exact (Kd.C_below HR0.out HB.out) | (with_reducible refine Kd.C_alloc ?_ _) | (with_reducible refine Kd.C_drewN ?_ _) | (with_reducible refine Kd.C_drew ?_))); (case side2 => exact HC0.out); rintro e w44 ⟨v432, rfl, ho0, hb⟩; have n0_ := Aside0.mk (Kd.R_lower ho0 (below_size (by repeat (first | (with_reducible first | exact HB.out | apply below_alloc | apply pw_below_drewN | apply below_drew1) | exact HB.out)))); have n1_ := Aside0.mk (below_step (by repeat (first | (with_reducible first | exact HB.out | apply below_alloc | apply pw_below_drewN | apply below_drew1) | exact HB.out)) hb); clear HB; have HO433 := n0_; have HB := n1_; clear n0_ n1_; (try clear hb); (try clear hb2); (try clear hk); (try clear hi); (try clear ho0); obtain ⟨Ao45, co45, eo45⟩ := Kd.R_slice HO433.out; subst eo45) | (go_at_call 16; (with_reducible refine (block_Find.calls kj5 _ _ t430 a1 a2 t434 t435 t436 t437 true t439 _ ?side1 ?side2 A15.out).mono ?_); (case side1 => repeat (first | exact (Kd.R_reads' HO433.out).2.2 | (with_reducible refine Kd.C_alloc ?_ _) | (with_reducible refine Kd.C_drewN ?_ _) | (with_reducible refine Kd.C_drew ?_))); (case side2 => exact (Kd.R_reads' HO433.out).2.1); rintro e w46 ⟨rfl, hb⟩; have n0_ := Aside0.mk (Kd.R_below (by (with_reducible repeat (first | apply Kd.R_alloc | apply Kd.R_drewN | apply Kd.R_drew)); exact HO433.out) hb); have n1_ := Aside0.mk (below_step (by repeat (first | (with_reducible first | exact HB.out | apply below_alloc | apply pw_below_drewN | apply below_drew1) | exact HB.out)) hb); clear HO433; clear HB; have HO433 := n0_; have HB := n1_; clear n0_ n1_; (try clear hb); (try clear hb2); (try clear hk); (try clear hi)) | ((with_reducible refine gate_dst (N := 10) rfl ?_); (try (refine gate_guard (by rfl) ?_; dsimp only)); refine box_event ?hg (N := 10) ?hd (cs := #[.string (⟨#[]⟩ : ByteArray), .int .i64 0, .bool false, .string (⟨#[]⟩ : ByteArray)]) (t := 39) ?hr ?_; (case hd => rfl); (case hg => rfl); (case hr => first | (go_simp; done) | (go_simp; rfl)); intro gb440 hg w47 hbox hb; have n0_ := Aside0.mk (Kd.R_below (by (with_reducible repeat (first | apply Kd.R_alloc | apply Kd.R_drewN | apply Kd.R_drew)); exact HO433.out) hb); have n1_ := Aside0.mk (below_step (by repeat (first | (with_reducible first | exact HB.out | apply below_alloc | apply pw_below_drewN | apply below_drew1) | exact HB.out)) hb); have n2_ := Aside0.mk (hbox); have n3_ := Aside0.mk ((by rw [hg]; exact (below_size (by repeat (first | (with_reducible first | exact HB.out | apply below_alloc | apply pw_below_drewN | apply below_drew1) | exact HB.out))) : w.heap.size ≤ gb440)); have n4_ := Aside0.mk ((by rw [hg]; exact (below_size (by repeat (first | (with_reducible first | exact HB.out | apply below_alloc | apply pw_below_drewN | apply below_drew1) | exact HB.out))) : w.heap.size ≤ gb440)); clear HO433; clear HB; have HO433 := n0_; have HB := n1_; have BK440 := n2_; have GW440 := n3_; have GE440 := n4_; clear n0_ n1_ n2_ n3_ n4_; clear hb hbox hg; have hcz48_0 : w47.cell? ⟨gb440, 0, none⟩ = some (.string (⟨#[]⟩ : ByteArray)) := (blk_cell BK440.out 0).trans rfl; have hcz48_1 : w47.cell? ⟨gb440, 1, none⟩ = some (.int .i64 0) := (blk_cell BK440.out 1).trans rfl; have hcz48_2 : w47.cell? ⟨gb440, 2, none⟩ = some (.bool false) := (blk_cell BK440.out 2).trans rfl; have hcz48_3 : w47.cell? ⟨gb440, 3, none⟩ = some (.string (⟨#[]⟩ : ByteArray)) := (blk_cell BK440.out 3).trans rfl; have hfz48_0 := blk_frozen BK440.out 0; have hfz48_1 := blk_frozen BK440.out 1; have hfz48_2 := blk_frozen BK440.out 2; have hfz48_3 := blk_frozen BK440.out 3)))
         go_ret
         exact ⟨by first | rfl | (simp [errW_none, errW_some] <;> rfl) | (simp [*, errW_none, errW_some] <;> rfl) | exact ret_ie _ | (simp [*, errW_none, errW_some, bne]; done), by repeat (first | (with_reducible first | exact HB.out | apply below_alloc | apply pw_below_drewN | apply below_drew1 | refine below_set ?_ GE440.out) | exact HB.out)⟩
        ·
         replace c43 := Bool.eq_false_iff.mpr c43
         subst c43
         have H1 : (if (a1.size : Int) < 1 then (some true) else (if (a1.size : Int) > 64 then (some true) else (if a2 < 0 then (some true) else (some (decide (a2 > 1099511627776)))))) = some r := by rw [if_neg (show ¬ (false = true) by decide)] at H; exact H
         clear H
         have H := H1
         clear H1
         by_cases c49 : (a1.size : Int) < 1
         ·
          rw [if_pos c49] at H
          have c49b0 : decide ((a1.size : Int) < 1) = true := decide_eq_true c49
          have c49b1 : decide (a1.size < 1) = true := decide_eq_true (by omega)
          clear c49
          obtain rfl := Option.some.inj H
          go_wp2_with (first | (go_at_call 9; (with_reducible refine (block_Write.calls kj5 _ _ l0 t430 t431 _ ?side1 ?side2 A13.out).mono ?_); (case side1 => repeat (first | exact (Kd.C_below HR0.out HB.out) | (with_reducible refine Kd.C_alloc ?_ _) | (with_reducible refine Kd.C_drewN ?_ _) | (with_reducible refine Kd.C_drew ?_))); (case side2 => exact HC0.out); rintro e w50 ⟨v432, rfl, ho0, hb⟩; have n0_ := Aside0.mk (Kd.R_lower ho0 (below_size (by repeat (first | (with_reducible first | exact HB.out | apply below_alloc | apply pw_below_drewN | apply below_drew1) | exact HB.out)))); have n1_ := Aside0.mk (below_step (by repeat (first | (with_reducible first | exact HB.out | apply below_alloc | apply pw_below_drewN | apply below_drew1) | exact HB.out)) hb); clear HB; have HO433 := n0_; have HB := n1_; clear n0_ n1_; (try clear hb); (try clear hb2); (try clear hk); (try clear hi); (try clear ho0); obtain ⟨Ao51, co51, eo51⟩ := Kd.R_slice HO433.out; subst eo51) | (go_at_call 16; (with_reducible refine (block_Find.calls kj5 _ _ t430 a1 a2 t434 t435 t436 t437 false t439 _ ?side1 ?side2 A15.out).mono ?_); (case side1 => repeat (first | exact (Kd.R_reads' HO433.out).2.2 | (with_reducible refine Kd.C_alloc ?_ _) | (with_reducible refine Kd.C_drewN ?_ _) | (with_reducible refine Kd.C_drew ?_))); (case side2 => exact (Kd.R_reads' HO433.out).2.1); rintro e w52 ⟨rfl, hb⟩; have n0_ := Aside0.mk (Kd.R_below (by (with_reducible repeat (first | apply Kd.R_alloc | apply Kd.R_drewN | apply Kd.R_drew)); exact HO433.out) hb); have n1_ := Aside0.mk (below_step (by repeat (first | (with_reducible first | exact HB.out | apply below_alloc | apply pw_below_drewN | apply below_drew1) | exact HB.out)) hb); clear HO433; clear HB; have HO433 := n0_; have HB := n1_; clear n0_ n1_; (try clear hb); (try clear hb2); (try clear hk); (try clear hi)) | ((with_reducible refine gate_dst (N := 10) rfl ?_); (try (refine gate_guard (by rfl) ?_; dsimp only)); refine box_event ?hg (N := 10) ?hd (cs := #[.string (⟨#[]⟩ : ByteArray), .int .i64 0, .bool false, .string (⟨#[]⟩ : ByteArray)]) (t := 39) ?hr ?_; (case hd => rfl); (case hg => rfl); (case hr => first | (go_simp; done) | (go_simp; rfl)); intro gb440 hg w53 hbox hb; have n0_ := Aside0.mk (Kd.R_below (by (with_reducible repeat (first | apply Kd.R_alloc | apply Kd.R_drewN | apply Kd.R_drew)); exact HO433.out) hb); have n1_ := Aside0.mk (below_step (by repeat (first | (with_reducible first | exact HB.out | apply below_alloc | apply pw_below_drewN | apply below_drew1) | exact HB.out)) hb); have n2_ := Aside0.mk (hbox); have n3_ := Aside0.mk ((by rw [hg]; exact (below_size (by repeat (first | (with_reducible first | exact HB.out | apply below_alloc | apply pw_below_drewN | apply below_drew1) | exact HB.out))) : w.heap.size ≤ gb440)); have n4_ := Aside0.mk ((by rw [hg]; exact (below_size (by repeat (first | (with_reducible first | exact HB.out | apply below_alloc | apply pw_below_drewN | apply below_drew1) | exact HB.out))) : w.heap.size ≤ gb440)); clear HO433; clear HB; have HO433 := n0_; have HB := n1_; have BK440 := n2_; have GW440 := n3_; have GE440 := n4_; clear n0_ n1_ n2_ n3_ n4_; clear hb hbox hg; have hcz54_0 : w53.cell? ⟨gb440, 0, none⟩ = some (.string (⟨#[]⟩ : ByteArray)) := (blk_cell BK440.out 0).trans rfl; have hcz54_1 : w53.cell? ⟨gb440, 1, none⟩ = some (.int .i64 0) := (blk_cell BK440.out 1).trans rfl; have hcz54_2 : w53.cell? ⟨gb440, 2, none⟩ = some (.bool false) := (blk_cell BK440.out 2).trans rfl; have hcz54_3 : w53.cell? ⟨gb440, 3, none⟩ = some (.string (⟨#[]⟩ : ByteArray)) := (blk_cell BK440.out 3).trans rfl; have hfz54_0 := blk_frozen BK440.out 0; have hfz54_1 := blk_frozen BK440.out 1; have hfz54_2 := blk_frozen BK440.out 2; have hfz54_3 := blk_frozen BK440.out 3))
          repeat (go_quiet (first | (go_at_call 9; (with_reducible refine (block_Write.calls kj5 _ _ l0 t430 t431 _ ?side1 ?side2 A13.out).mono ?_); (case side1 => repeat (first | exact (Kd.C_below HR0.out HB.out) | (with_reducible refine Kd.C_alloc ?_ _) | (with_reducible refine Kd.C_drewN ?_ _) | (with_reducible refine Kd.C_drew ?_))); (case side2 => exact HC0.out); rintro e w50 ⟨v432, rfl, ho0, hb⟩; have n0_ := Aside0.mk (Kd.R_lower ho0 (below_size (by repeat (first | (with_reducible first | exact HB.out | apply below_alloc | apply pw_below_drewN | apply below_drew1) | exact HB.out)))); have n1_ := Aside0.mk (below_step (by repeat (first | (with_reducible first | exact HB.out | apply below_alloc | apply pw_below_drewN | apply below_drew1) | exact HB.out)) hb); clear HB; have HO433 := n0_; have HB := n1_; clear n0_ n1_; (try clear hb); (try clear hb2); (try clear hk); (try clear hi); (try clear ho0); obtain ⟨Ao51, co51, eo51⟩ := Kd.R_slice HO433.out; subst eo51) | (go_at_call 16; (with_reducible refine (block_Find.calls kj5 _ _ t430 a1 a2 t434 t435 t436 t437 false t439 _ ?side1 ?side2 A15.out).mono ?_); (case side1 => repeat (first | exact (Kd.R_reads' HO433.out).2.2 | (with_reducible refine Kd.C_alloc ?_ _) | (with_reducible refine Kd.C_drewN ?_ _) | (with_reducible refine Kd.C_drew ?_))); (case side2 => exact (Kd.R_reads' HO433.out).2.1); rintro e w52 ⟨rfl, hb⟩; have n0_ := Aside0.mk (Kd.R_below (by (with_reducible repeat (first | apply Kd.R_alloc | apply Kd.R_drewN | apply Kd.R_drew)); exact HO433.out) hb); have n1_ := Aside0.mk (below_step (by repeat (first | (with_reducible first | exact HB.out | apply below_alloc | apply pw_below_drewN | apply below_drew1) | exact HB.out)) hb); clear HO433; clear HB; have HO433 := n0_; have HB := n1_; clear n0_ n1_; (try clear hb); (try clear hb2); (try clear hk); (try clear hi)) | ((with_reducible refine gate_dst (N := 10) rfl ?_); (try (refine gate_guard (by rfl) ?_; dsimp only)); refine box_event ?hg (N := 10) ?hd (cs := #[.string (⟨#[]⟩ : ByteArray), .int .i64 0, .bool false, .string (⟨#[]⟩ : ByteArray)]) (t := 39) ?hr ?_; (case hd => rfl); (case hg => rfl); (case hr => first | (go_simp; done) | (go_simp; rfl)); intro gb440 hg w53 hbox hb; have n0_ := Aside0.mk (Kd.R_below (by (with_reducible repeat (first | apply Kd.R_alloc | apply Kd.R_drewN | apply Kd.R_drew)); exact HO433.out) hb); have n1_ := Aside0.mk (below_step (by repeat (first | (with_reducible first | exact HB.out | apply below_alloc | apply pw_below_drewN | apply below_drew1) | exact HB.out)) hb); have n2_ := Aside0.mk (hbox); have n3_ := Aside0.mk ((by rw [hg]; exact (below_size (by repeat (first | (with_reducible first | exact HB.out | apply below_alloc | apply pw_below_drewN | apply below_drew1) | exact HB.out))) : w.heap.size ≤ gb440)); have n4_ := Aside0.mk ((by rw [hg]; exact (below_size (by repeat (first | (with_reducible first | exact HB.out | apply below_alloc | apply pw_below_drewN | apply below_drew1) | exact HB.out))) : w.heap.size ≤ gb440)); clear HO433; clear HB; have HO433 := n0_; have HB := n1_; have BK440 := n2_; have GW440 := n3_; have GE440 := n4_; clear n0_ n1_ n2_ n3_ n4_; clear hb hbox hg; have hcz54_0 : w53.cell? ⟨gb440, 0, none⟩ = some (.string (⟨#[]⟩ : ByteArray)) := (blk_cell BK440.out 0).trans rfl; have hcz54_1 : w53.cell? ⟨gb440, 1, none⟩ = some (.int .i64 0) := (blk_cell BK440.out 1).trans rfl; have hcz54_2 : w53.cell? ⟨gb440, 2, none⟩ = some (.bool false) := (blk_cell BK440.out 2).trans rfl; have hcz54_3 : w53.cell? ⟨gb440, 3, none⟩ = some (.string (⟨#[]⟩ : ByteArray)) := (blk_cell BK440.out 3).trans rfl; have hfz54_0 := blk_frozen BK440.out 0; have hfz54_1 := blk_frozen BK440.out 1; have hfz54_2 := blk_frozen BK440.out 2; have hfz54_3 := blk_frozen BK440.out 3)); try go_wp2_with (first | (go_at_call 9; (with_reducible refine (block_Write.calls kj5 _ _ l0 t430 t431 _ ?side1 ?side2 A13.out).mono ?_); (case side1 => repeat (first | exact (Kd.C_below HR0.out HB.out) | (with_reducible refine Kd.C_alloc ?_ _) | (with_reducible refine Kd.C_drewN ?_ _) | (with_reducible refine Kd.C_drew ?_))); (case side2 => exact HC0.out); rintro e w50 ⟨v432, rfl, ho0, hb⟩; have n0_ := Aside0.mk (Kd.R_lower ho0 (below_size (by repeat (first | (with_reducible first | exact HB.out | apply below_alloc | apply pw_below_drewN | apply below_drew1) | exact HB.out)))); have n1_ := Aside0.mk (below_step (by repeat (first | (with_reducible first | exact HB.out | apply below_alloc | apply pw_below_drewN | apply below_drew1) | exact HB.out)) hb); clear HB; have HO433 := n0_; have HB := n1_; clear n0_ n1_; (try clear hb); (try clear hb2); (try clear hk); (try clear hi); (try clear ho0); obtain ⟨Ao51, co51, eo51⟩ := Kd.R_slice HO433.out; subst eo51) | (go_at_call 16; (with_reducible refine (block_Find.calls kj5 _ _ t430 a1 a2 t434 t435 t436 t437 false t439 _ ?side1 ?side2 A15.out).mono ?_); (case side1 => repeat (first | exact (Kd.R_reads' HO433.out).2.2 | (with_reducible refine Kd.C_alloc ?_ _) | (with_reducible refine Kd.C_drewN ?_ _) | (with_reducible refine Kd.C_drew ?_))); (case side2 => exact (Kd.R_reads' HO433.out).2.1); rintro e w52 ⟨rfl, hb⟩; have n0_ := Aside0.mk (Kd.R_below (by (with_reducible repeat (first | apply Kd.R_alloc | apply Kd.R_drewN | apply Kd.R_drew)); exact HO433.out) hb); have n1_ := Aside0.mk (below_step (by repeat (first | (with_reducible first | exact HB.out | apply below_alloc | apply pw_below_drewN | apply below_drew1) | exact HB.out)) hb); clear HO433; clear HB; have HO433 := n0_; have HB := n1_; clear n0_ n1_; (try clear hb); (try clear hb2); (try clear hk); (try clear hi)) | ((with_reducible refine gate_dst (N := 10) rfl ?_); (try (refine gate_guard (by rfl) ?_; dsimp only)); refine box_event ?hg (N := 10) ?hd (cs := #[.string (⟨#[]⟩ : ByteArray), .int .i64 0, .bool false, .string (⟨#[]⟩ : ByteArray)]) (t := 39) ?hr ?_; (case hd => rfl); (case hg => rfl); (case hr => first | (go_simp; done) | (go_simp; rfl)); intro gb440 hg w53 hbox hb; have n0_ := Aside0.mk (Kd.R_below (by (with_reducible repeat (first | apply Kd.R_alloc | apply Kd.R_drewN | apply Kd.R_drew)); exact HO433.out) hb); have n1_ := Aside0.mk (below_step (by repeat (first | (with_reducible first | exact HB.out | apply below_alloc | apply pw_below_drewN | apply below_drew1) | exact HB.out)) hb); have n2_ := Aside0.mk (hbox); have n3_ := Aside0.mk ((by rw [hg]; exact (below_size (by repeat (first | (with_reducible first | exact HB.out | apply below_alloc | apply pw_below_drewN | apply below_drew1) | exact HB.out))) : w.heap.size ≤ gb440)); have n4_ := Aside0.mk ((by rw [hg]; exact (below_size (by repeat (first | (with_reducible first | exact HB.out | apply below_alloc | apply pw_below_drewN | apply below_drew1) | exact HB.out))) : w.heap.size ≤ gb440)); clear HO433; clear HB; have HO433 := n0_; have HB := n1_; have BK440 := n2_; have GW440 := n3_; have GE440 := n4_; clear n0_ n1_ n2_ n3_ n4_; clear hb hbox hg; have hcz54_0 : w53.cell? ⟨gb440, 0, none⟩ = some (.string (⟨#[]⟩ : ByteArray)) := (blk_cell BK440.out 0).trans rfl; have hcz54_1 : w53.cell? ⟨gb440, 1, none⟩ = some (.int .i64 0) := (blk_cell BK440.out 1).trans rfl; have hcz54_2 : w53.cell? ⟨gb440, 2, none⟩ = some (.bool false) := (blk_cell BK440.out 2).trans rfl; have hcz54_3 : w53.cell? ⟨gb440, 3, none⟩ = some (.string (⟨#[]⟩ : ByteArray)) := (blk_cell BK440.out 3).trans rfl; have hfz54_0 := blk_frozen BK440.out 0; have hfz54_1 := blk_frozen BK440.out 1; have hfz54_2 := blk_frozen BK440.out 2; have hfz54_3 := blk_frozen BK440.out 3)))
          go_ret
          exact ⟨by first | rfl | (simp [errW_none, errW_some] <;> rfl) | (simp [*, errW_none, errW_some] <;> rfl) | exact ret_ie _ | (simp [*, errW_none, errW_some, bne]; done), by repeat (first | (with_reducible first | exact HB.out | apply below_alloc | apply pw_below_drewN | apply below_drew1 | refine below_set ?_ GE440.out) | exact HB.out)⟩
         ·
          rw [if_neg c49] at H
          have c49b0 : decide ((a1.size : Int) < 1) = false := decide_eq_false c49
          have c49b1 : decide (a1.size < 1) = false := decide_eq_false (by omega)
          clear c49
          by_cases c55 : (a1.size : Int) > 64
          ·
           rw [if_pos c55] at H
           have c55b0 : decide (64 < (a1.size : Int)) = true := decide_eq_true c55
           have c55b1 : decide (64 < a1.size) = true := decide_eq_true (by omega)
           clear c55
           obtain rfl := Option.some.inj H
           go_wp2_with (first | (go_at_call 9; (with_reducible refine (block_Write.calls kj5 _ _ l0 t430 t431 _ ?side1 ?side2 A13.out).mono ?_); (case side1 => repeat (first | exact (Kd.C_below HR0.out HB.out) | (with_reducible refine Kd.C_alloc ?_ _) | (with_reducible refine Kd.C_drewN ?_ _) | (with_reducible refine Kd.C_drew ?_))); (case side2 => exact HC0.out); rintro e w56 ⟨v432, rfl, ho0, hb⟩; have n0_ := Aside0.mk (Kd.R_lower ho0 (below_size (by repeat (first | (with_reducible first | exact HB.out | apply below_alloc | apply pw_below_drewN | apply below_drew1) | exact HB.out)))); have n1_ := Aside0.mk (below_step (by repeat (first | (with_reducible first | exact HB.out | apply below_alloc | apply pw_below_drewN | apply below_drew1) | exact HB.out)) hb); clear HB; have HO433 := n0_; have HB := n1_; clear n0_ n1_; (try clear hb); (try clear hb2); (try clear hk); (try clear hi); (try clear ho0); obtain ⟨Ao57, co57, eo57⟩ := Kd.R_slice HO433.out; subst eo57) | (go_at_call 16; (with_reducible refine (block_Find.calls kj5 _ _ t430 a1 a2 t434 t435 t436 t437 false t439 _ ?side1 ?side2 A15.out).mono ?_); (case side1 => repeat (first | exact (Kd.R_reads' HO433.out).2.2 | (with_reducible refine Kd.C_alloc ?_ _) | (with_reducible refine Kd.C_drewN ?_ _) | (with_reducible refine Kd.C_drew ?_))); (case side2 => exact (Kd.R_reads' HO433.out).2.1); rintro e w58 ⟨rfl, hb⟩; have n0_ := Aside0.mk (Kd.R_below (by (with_reducible repeat (first | apply Kd.R_alloc | apply Kd.R_drewN | apply Kd.R_drew)); exact HO433.out) hb); have n1_ := Aside0.mk (below_step (by repeat (first | (with_reducible first | exact HB.out | apply below_alloc | apply pw_below_drewN | apply below_drew1) | exact HB.out)) hb); clear HO433; clear HB; have HO433 := n0_; have HB := n1_; clear n0_ n1_; (try clear hb); (try clear hb2); (try clear hk); (try clear hi)) | ((with_reducible refine gate_dst (N := 10) rfl ?_); (try (refine gate_guard (by rfl) ?_; dsimp only)); refine box_event ?hg (N := 10) ?hd (cs := #[.string (⟨#[]⟩ : ByteArray), .int .i64 0, .bool false, .string (⟨#[]⟩ : ByteArray)]) (t := 39) ?hr ?_; (case hd => rfl); (case hg => rfl); (case hr => first | (go_simp; done) | (go_simp; rfl)); intro gb440 hg w59 hbox hb; have n0_ := Aside0.mk (Kd.R_below (by (with_reducible repeat (first | apply Kd.R_alloc | apply Kd.R_drewN | apply Kd.R_drew)); exact HO433.out) hb); have n1_ := Aside0.mk (below_step (by repeat (first | (with_reducible first | exact HB.out | apply below_alloc | apply pw_below_drewN | apply below_drew1) | exact HB.out)) hb); have n2_ := Aside0.mk (hbox); have n3_ := Aside0.mk ((by rw [hg]; exact (below_size (by repeat (first | (with_reducible first | exact HB.out | apply below_alloc | apply pw_below_drewN | apply below_drew1) | exact HB.out))) : w.heap.size ≤ gb440)); have n4_ := Aside0.mk ((by rw [hg]; exact (below_size (by repeat (first | (with_reducible first | exact HB.out | apply below_alloc | apply pw_below_drewN | apply below_drew1) | exact HB.out))) : w.heap.size ≤ gb440)); clear HO433; clear HB; have HO433 := n0_; have HB := n1_; have BK440 := n2_; have GW440 := n3_; have GE440 := n4_; clear n0_ n1_ n2_ n3_ n4_; clear hb hbox hg; have hcz60_0 : w59.cell? ⟨gb440, 0, none⟩ = some (.string (⟨#[]⟩ : ByteArray)) := (blk_cell BK440.out 0).trans rfl; have hcz60_1 : w59.cell? ⟨gb440, 1, none⟩ = some (.int .i64 0) := (blk_cell BK440.out 1).trans rfl; have hcz60_2 : w59.cell? ⟨gb440, 2, none⟩ = some (.bool false) := (blk_cell BK440.out 2).trans rfl; have hcz60_3 : w59.cell? ⟨gb440, 3, none⟩ = some (.string (⟨#[]⟩ : ByteArray)) := (blk_cell BK440.out 3).trans rfl; have hfz60_0 := blk_frozen BK440.out 0; have hfz60_1 := blk_frozen BK440.out 1; have hfz60_2 := blk_frozen BK440.out 2; have hfz60_3 := blk_frozen BK440.out 3))
           repeat (go_quiet (first | (go_at_call 9; (with_reducible refine (block_Write.calls kj5 _ _ l0 t430 t431 _ ?side1 ?side2 A13.out).mono ?_); (case side1 => repeat (first | exact (Kd.C_below HR0.out HB.out) | (with_reducible refine Kd.C_alloc ?_ _) | (with_reducible refine Kd.C_drewN ?_ _) | (with_reducible refine Kd.C_drew ?_))); (case side2 => exact HC0.out); rintro e w56 ⟨v432, rfl, ho0, hb⟩; have n0_ := Aside0.mk (Kd.R_lower ho0 (below_size (by repeat (first | (with_reducible first | exact HB.out | apply below_alloc | apply pw_below_drewN | apply below_drew1) | exact HB.out)))); have n1_ := Aside0.mk (below_step (by repeat (first | (with_reducible first | exact HB.out | apply below_alloc | apply pw_below_drewN | apply below_drew1) | exact HB.out)) hb); clear HB; have HO433 := n0_; have HB := n1_; clear n0_ n1_; (try clear hb); (try clear hb2); (try clear hk); (try clear hi); (try clear ho0); obtain ⟨Ao57, co57, eo57⟩ := Kd.R_slice HO433.out; subst eo57) | (go_at_call 16; (with_reducible refine (block_Find.calls kj5 _ _ t430 a1 a2 t434 t435 t436 t437 false t439 _ ?side1 ?side2 A15.out).mono ?_); (case side1 => repeat (first | exact (Kd.R_reads' HO433.out).2.2 | (with_reducible refine Kd.C_alloc ?_ _) | (with_reducible refine Kd.C_drewN ?_ _) | (with_reducible refine Kd.C_drew ?_))); (case side2 => exact (Kd.R_reads' HO433.out).2.1); rintro e w58 ⟨rfl, hb⟩; have n0_ := Aside0.mk (Kd.R_below (by (with_reducible repeat (first | apply Kd.R_alloc | apply Kd.R_drewN | apply Kd.R_drew)); exact HO433.out) hb); have n1_ := Aside0.mk (below_step (by repeat (first | (with_reducible first | exact HB.out | apply below_alloc | apply pw_below_drewN | apply below_drew1) | exact HB.out)) hb); clear HO433; clear HB; have HO433 := n0_; have HB := n1_; clear n0_ n1_; (try clear hb); (try clear hb2); (try clear hk); (try clear hi)) | ((with_reducible refine gate_dst (N := 10) rfl ?_); (try (refine gate_guard (by rfl) ?_; dsimp only)); refine box_event ?hg (N := 10) ?hd (cs := #[.string (⟨#[]⟩ : ByteArray), .int .i64 0, .bool false, .string (⟨#[]⟩ : ByteArray)]) (t := 39) ?hr ?_; (case hd => rfl); (case hg => rfl); (case hr => first | (go_simp; done) | (go_simp; rfl)); intro gb440 hg w59 hbox hb; have n0_ := Aside0.mk (Kd.R_below (by (with_reducible repeat (first | apply Kd.R_alloc | apply Kd.R_drewN | apply Kd.R_drew)); exact HO433.out) hb); have n1_ := Aside0.mk (below_step (by repeat (first | (with_reducible first | exact HB.out | apply below_alloc | apply pw_below_drewN | apply below_drew1) | exact HB.out)) hb); have n2_ := Aside0.mk (hbox); have n3_ := Aside0.mk ((by rw [hg]; exact (below_size (by repeat (first | (with_reducible first | exact HB.out | apply below_alloc | apply pw_below_drewN | apply below_drew1) | exact HB.out))) : w.heap.size ≤ gb440)); have n4_ := Aside0.mk ((by rw [hg]; exact (below_size (by repeat (first | (with_reducible first | exact HB.out | apply below_alloc | apply pw_below_drewN | apply below_drew1) | exact HB.out))) : w.heap.size ≤ gb440)); clear HO433; clear HB; have HO433 := n0_; have HB := n1_; have BK440 := n2_; have GW440 := n3_; have GE440 := n4_; clear n0_ n1_ n2_ n3_ n4_; clear hb hbox hg; have hcz60_0 : w59.cell? ⟨gb440, 0, none⟩ = some (.string (⟨#[]⟩ : ByteArray)) := (blk_cell BK440.out 0).trans rfl; have hcz60_1 : w59.cell? ⟨gb440, 1, none⟩ = some (.int .i64 0) := (blk_cell BK440.out 1).trans rfl; have hcz60_2 : w59.cell? ⟨gb440, 2, none⟩ = some (.bool false) := (blk_cell BK440.out 2).trans rfl; have hcz60_3 : w59.cell? ⟨gb440, 3, none⟩ = some (.string (⟨#[]⟩ : ByteArray)) := (blk_cell BK440.out 3).trans rfl; have hfz60_0 := blk_frozen BK440.out 0; have hfz60_1 := blk_frozen BK440.out 1; have hfz60_2 := blk_frozen BK440.out 2; have hfz60_3 := blk_frozen BK440.out 3)); try go_wp2_with (first | (go_at_call 9; (with_reducible refine (block_Write.calls kj5 _ _ l0 t430 t431 _ ?side1 ?side2 A13.out).mono ?_); (case side1 => repeat (first | exact (Kd.C_below HR0.out HB.out) | (with_reducible refine Kd.C_alloc ?_ _) | (with_reducible refine Kd.C_drewN ?_ _) | (with_reducible refine Kd.C_drew ?_))); (case side2 => exact HC0.out); rintro e w56 ⟨v432, rfl, ho0, hb⟩; have n0_ := Aside0.mk (Kd.R_lower ho0 (below_size (by repeat (first | (with_reducible first | exact HB.out | apply below_alloc | apply pw_below_drewN | apply below_drew1) | exact HB.out)))); have n1_ := Aside0.mk (below_step (by repeat (first | (with_reducible first | exact HB.out | apply below_alloc | apply pw_below_drewN | apply below_drew1) | exact HB.out)) hb); clear HB; have HO433 := n0_; have HB := n1_; clear n0_ n1_; (try clear hb); (try clear hb2); (try clear hk); (try clear hi); (try clear ho0); obtain ⟨Ao57, co57, eo57⟩ := Kd.R_slice HO433.out; subst eo57) | (go_at_call 16; (with_reducible refine (block_Find.calls kj5 _ _ t430 a1 a2 t434 t435 t436 t437 false t439 _ ?side1 ?side2 A15.out).mono ?_); (case side1 => repeat (first | exact (Kd.R_reads' HO433.out).2.2 | (with_reducible refine Kd.C_alloc ?_ _) | (with_reducible refine Kd.C_drewN ?_ _) | (with_reducible refine Kd.C_drew ?_))); (case side2 => exact (Kd.R_reads' HO433.out).2.1); rintro e w58 ⟨rfl, hb⟩; have n0_ := Aside0.mk (Kd.R_below (by (with_reducible repeat (first | apply Kd.R_alloc | apply Kd.R_drewN | apply Kd.R_drew)); exact HO433.out) hb); have n1_ := Aside0.mk (below_step (by repeat (first | (with_reducible first | exact HB.out | apply below_alloc | apply pw_below_drewN | apply below_drew1) | exact HB.out)) hb); clear HO433; clear HB; have HO433 := n0_; have HB := n1_; clear n0_ n1_; (try clear hb); (try clear hb2); (try clear hk); (try clear hi)) | ((with_reducible refine gate_dst (N := 10) rfl ?_); (try (refine gate_guard (by rfl) ?_; dsimp only)); refine box_event ?hg (N := 10) ?hd (cs := #[.string (⟨#[]⟩ : ByteArray), .int .i64 0, .bool false, .string (⟨#[]⟩ : ByteArray)]) (t := 39) ?hr ?_; (case hd => rfl); (case hg => rfl); (case hr => first | (go_simp; done) | (go_simp; rfl)); intro gb440 hg w59 hbox hb; have n0_ := Aside0.mk (Kd.R_below (by (with_reducible repeat (first | apply Kd.R_alloc | apply Kd.R_drewN | apply Kd.R_drew)); exact HO433.out) hb); have n1_ := Aside0.mk (below_step (by repeat (first | (with_reducible first | exact HB.out | apply below_alloc | apply pw_below_drewN | apply below_drew1) | exact HB.out)) hb); have n2_ := Aside0.mk (hbox); have n3_ := Aside0.mk ((by rw [hg]; exact (below_size (by repeat (first | (with_reducible first | exact HB.out | apply below_alloc | apply pw_below_drewN | apply below_drew1) | exact HB.out))) : w.heap.size ≤ gb440)); have n4_ := Aside0.mk ((by rw [hg]; exact (below_size (by repeat (first | (with_reducible first | exact HB.out | apply below_alloc | apply pw_below_drewN | apply below_drew1) | exact HB.out))) : w.heap.size ≤ gb440)); clear HO433; clear HB; have HO433 := n0_; have HB := n1_; have BK440 := n2_; have GW440 := n3_; have GE440 := n4_; clear n0_ n1_ n2_ n3_ n4_; clear hb hbox hg; have hcz60_0 : w59.cell? ⟨gb440, 0, none⟩ = some (.string (⟨#[]⟩ : ByteArray)) := (blk_cell BK440.out 0).trans rfl; have hcz60_1 : w59.cell? ⟨gb440, 1, none⟩ = some (.int .i64 0) := (blk_cell BK440.out 1).trans rfl; have hcz60_2 : w59.cell? ⟨gb440, 2, none⟩ = some (.bool false) := (blk_cell BK440.out 2).trans rfl; have hcz60_3 : w59.cell? ⟨gb440, 3, none⟩ = some (.string (⟨#[]⟩ : ByteArray)) := (blk_cell BK440.out 3).trans rfl; have hfz60_0 := blk_frozen BK440.out 0; have hfz60_1 := blk_frozen BK440.out 1; have hfz60_2 := blk_frozen BK440.out 2; have hfz60_3 := blk_frozen BK440.out 3)))
           go_ret
           exact ⟨by first | rfl | (simp [errW_none, errW_some] <;> rfl) | (simp [*, errW_none, errW_some] <;> rfl) | exact ret_ie _ | (simp [*, errW_none, errW_some, bne]; done), by repeat (first | (with_reducible first | exact HB.out | apply below_alloc | apply pw_below_drewN | apply below_drew1 | refine below_set ?_ GE440.out) | exact HB.out)⟩
          ·
           rw [if_neg c55] at H
           have c55b0 : decide (64 < (a1.size : Int)) = false := decide_eq_false c55
           have c55b1 : decide (64 < a1.size) = false := decide_eq_false (by omega)
           clear c55
           by_cases c61 : a2 < 0
           ·
            rw [if_pos c61] at H
            have c61b0 : decide (a2 < 0) = true := decide_eq_true c61
            clear c61
            obtain rfl := Option.some.inj H
            go_wp2_with (first | (go_at_call 9; (with_reducible refine (block_Write.calls kj5 _ _ l0 t430 t431 _ ?side1 ?side2 A13.out).mono ?_); (case side1 => repeat (first | exact (Kd.C_below HR0.out HB.out) | (with_reducible refine Kd.C_alloc ?_ _) | (with_reducible refine Kd.C_drewN ?_ _) | (with_reducible refine Kd.C_drew ?_))); (case side2 => exact HC0.out); rintro e w62 ⟨v432, rfl, ho0, hb⟩; have n0_ := Aside0.mk (Kd.R_lower ho0 (below_size (by repeat (first | (with_reducible first | exact HB.out | apply below_alloc | apply pw_below_drewN | apply below_drew1) | exact HB.out)))); have n1_ := Aside0.mk (below_step (by repeat (first | (with_reducible first | exact HB.out | apply below_alloc | apply pw_below_drewN | apply below_drew1) | exact HB.out)) hb); clear HB; have HO433 := n0_; have HB := n1_; clear n0_ n1_; (try clear hb); (try clear hb2); (try clear hk); (try clear hi); (try clear ho0); obtain ⟨Ao63, co63, eo63⟩ := Kd.R_slice HO433.out; subst eo63) | (go_at_call 16; (with_reducible refine (block_Find.calls kj5 _ _ t430 a1 a2 t434 t435 t436 t437 false t439 _ ?side1 ?side2 A15.out).mono ?_); (case side1 => repeat (first | exact (Kd.R_reads' HO433.out).2.2 | (with_reducible refine Kd.C_alloc ?_ _) | (with_reducible refine Kd.C_drewN ?_ _) | (with_reducible refine Kd.C_drew ?_))); (case side2 => exact (Kd.R_reads' HO433.out).2.1); rintro e w64 ⟨rfl, hb⟩; have n0_ := Aside0.mk (Kd.R_below (by (with_reducible repeat (first | apply Kd.R_alloc | apply Kd.R_drewN | apply Kd.R_drew)); exact HO433.out) hb); have n1_ := Aside0.mk (below_step (by repeat (first | (with_reducible first | exact HB.out | apply below_alloc | apply pw_below_drewN | apply below_drew1) | exact HB.out)) hb); clear HO433; clear HB; have HO433 := n0_; have HB := n1_; clear n0_ n1_; (try clear hb); (try clear hb2); (try clear hk); (try clear hi)) | ((with_reducible refine gate_dst (N := 10) rfl ?_); (try (refine gate_guard (by rfl) ?_; dsimp only)); refine box_event ?hg (N := 10) ?hd (cs := #[.string (⟨#[]⟩ : ByteArray), .int .i64 0, .bool false, .string (⟨#[]⟩ : ByteArray)]) (t := 39) ?hr ?_; (case hd => rfl); (case hg => rfl); (case hr => first | (go_simp; done) | (go_simp; rfl)); intro gb440 hg w65 hbox hb; have n0_ := Aside0.mk (Kd.R_below (by (with_reducible repeat (first | apply Kd.R_alloc | apply Kd.R_drewN | apply Kd.R_drew)); exact HO433.out) hb); have n1_ := Aside0.mk (below_step (by repeat (first | (with_reducible first | exact HB.out | apply below_alloc | apply pw_below_drewN | apply below_drew1) | exact HB.out)) hb); have n2_ := Aside0.mk (hbox); have n3_ := Aside0.mk ((by rw [hg]; exact (below_size (by repeat (first | (with_reducible first | exact HB.out | apply below_alloc | apply pw_below_drewN | apply below_drew1) | exact HB.out))) : w.heap.size ≤ gb440)); have n4_ := Aside0.mk ((by rw [hg]; exact (below_size (by repeat (first | (with_reducible first | exact HB.out | apply below_alloc | apply pw_below_drewN | apply below_drew1) | exact HB.out))) : w.heap.size ≤ gb440)); clear HO433; clear HB; have HO433 := n0_; have HB := n1_; have BK440 := n2_; have GW440 := n3_; have GE440 := n4_; clear n0_ n1_ n2_ n3_ n4_; clear hb hbox hg; have hcz66_0 : w65.cell? ⟨gb440, 0, none⟩ = some (.string (⟨#[]⟩ : ByteArray)) := (blk_cell BK440.out 0).trans rfl; have hcz66_1 : w65.cell? ⟨gb440, 1, none⟩ = some (.int .i64 0) := (blk_cell BK440.out 1).trans rfl; have hcz66_2 : w65.cell? ⟨gb440, 2, none⟩ = some (.bool false) := (blk_cell BK440.out 2).trans rfl; have hcz66_3 : w65.cell? ⟨gb440, 3, none⟩ = some (.string (⟨#[]⟩ : ByteArray)) := (blk_cell BK440.out 3).trans rfl; have hfz66_0 := blk_frozen BK440.out 0; have hfz66_1 := blk_frozen BK440.out 1; have hfz66_2 := blk_frozen BK440.out 2; have hfz66_3 := blk_frozen BK440.out 3))
            repeat (go_quiet (first | (go_at_call 9; (with_reducible refine (block_Write.calls kj5 _ _ l0 t430 t431 _ ?side1 ?side2 A13.out).mono ?_); (case side1 => repeat (first | exact (Kd.C_below HR0.out HB.out) | (with_reducible refine Kd.C_alloc ?_ _) | (with_reducible refine Kd.C_drewN ?_ _) | (with_reducible refine Kd.C_drew ?_))); (case side2 => exact HC0.out); rintro e w62 ⟨v432, rfl, ho0, hb⟩; have n0_ := Aside0.mk (Kd.R_lower ho0 (below_size (by repeat (first | (with_reducible first | exact HB.out | apply below_alloc | apply pw_below_drewN | apply below_drew1) | exact HB.out)))); have n1_ := Aside0.mk (below_step (by repeat (first | (with_reducible first | exact HB.out | apply below_alloc | apply pw_below_drewN | apply below_drew1) | exact HB.out)) hb); clear HB; have HO433 := n0_; have HB := n1_; clear n0_ n1_; (try clear hb); (try clear hb2); (try clear hk); (try clear hi); (try clear ho0); obtain ⟨Ao63, co63, eo63⟩ := Kd.R_slice HO433.out; subst eo63) | (go_at_call 16; (with_reducible refine (block_Find.calls kj5 _ _ t430 a1 a2 t434 t435 t436 t437 false t439 _ ?side1 ?side2 A15.out).mono ?_); (case side1 => repeat (first | exact (Kd.R_reads' HO433.out).2.2 | (with_reducible refine Kd.C_alloc ?_ _) | (with_reducible refine Kd.C_drewN ?_ _) | (with_reducible refine Kd.C_drew ?_))); (case side2 => exact (Kd.R_reads' HO433.out).2.1); rintro e w64 ⟨rfl, hb⟩; have n0_ := Aside0.mk (Kd.R_below (by (with_reducible repeat (first | apply Kd.R_alloc | apply Kd.R_drewN | apply Kd.R_drew)); exact HO433.out) hb); have n1_ := Aside0.mk (below_step (by repeat (first | (with_reducible first | exact HB.out | apply below_alloc | apply pw_below_drewN | apply below_drew1) | exact HB.out)) hb); clear HO433; clear HB; have HO433 := n0_; have HB := n1_; clear n0_ n1_; (try clear hb); (try clear hb2); (try clear hk); (try clear hi)) | ((with_reducible refine gate_dst (N := 10) rfl ?_); (try (refine gate_guard (by rfl) ?_; dsimp only)); refine box_event ?hg (N := 10) ?hd (cs := #[.string (⟨#[]⟩ : ByteArray), .int .i64 0, .bool false, .string (⟨#[]⟩ : ByteArray)]) (t := 39) ?hr ?_; (case hd => rfl); (case hg => rfl); (case hr => first | (go_simp; done) | (go_simp; rfl)); intro gb440 hg w65 hbox hb; have n0_ := Aside0.mk (Kd.R_below (by (with_reducible repeat (first | apply Kd.R_alloc | apply Kd.R_drewN | apply Kd.R_drew)); exact HO433.out) hb); have n1_ := Aside0.mk (below_step (by repeat (first | (with_reducible first | exact HB.out | apply below_alloc | apply pw_below_drewN | apply below_drew1) | exact HB.out)) hb); have n2_ := Aside0.mk (hbox); have n3_ := Aside0.mk ((by rw [hg]; exact (below_size (by repeat (first | (with_reducible first | exact HB.out | apply below_alloc | apply pw_below_drewN | apply below_drew1) | exact HB.out))) : w.heap.size ≤ gb440)); have n4_ := Aside0.mk ((by rw [hg]; exact (below_size (by repeat (first | (with_reducible first | exact HB.out | apply below_alloc | apply pw_below_drewN | apply below_drew1) | exact HB.out))) : w.heap.size ≤ gb440)); clear HO433; clear HB; have HO433 := n0_; have HB := n1_; have BK440 := n2_; have GW440 := n3_; have GE440 := n4_; clear n0_ n1_ n2_ n3_ n4_; clear hb hbox hg; have hcz66_0 : w65.cell? ⟨gb440, 0, none⟩ = some (.string (⟨#[]⟩ : ByteArray)) := (blk_cell BK440.out 0).trans rfl; have hcz66_1 : w65.cell? ⟨gb440, 1, none⟩ = some (.int .i64 0) := (blk_cell BK440.out 1).trans rfl; have hcz66_2 : w65.cell? ⟨gb440, 2, none⟩ = some (.bool false) := (blk_cell BK440.out 2).trans rfl; have hcz66_3 : w65.cell? ⟨gb440, 3, none⟩ = some (.string (⟨#[]⟩ : ByteArray)) := (blk_cell BK440.out 3).trans rfl; have hfz66_0 := blk_frozen BK440.out 0; have hfz66_1 := blk_frozen BK440.out 1; have hfz66_2 := blk_frozen BK440.out 2; have hfz66_3 := blk_frozen BK440.out 3)); try go_wp2_with (first | (go_at_call 9; (with_reducible refine (block_Write.calls kj5 _ _ l0 t430 t431 _ ?side1 ?side2 A13.out).mono ?_); (case side1 => repeat (first | exact (Kd.C_below HR0.out HB.out) | (with_reducible refine Kd.C_alloc ?_ _) | (with_reducible refine Kd.C_drewN ?_ _) | (with_reducible refine Kd.C_drew ?_))); (case side2 => exact HC0.out); rintro e w62 ⟨v432, rfl, ho0, hb⟩; have n0_ := Aside0.mk (Kd.R_lower ho0 (below_size (by repeat (first | (with_reducible first | exact HB.out | apply below_alloc | apply pw_below_drewN | apply below_drew1) | exact HB.out)))); have n1_ := Aside0.mk (below_step (by repeat (first | (with_reducible first | exact HB.out | apply below_alloc | apply pw_below_drewN | apply below_drew1) | exact HB.out)) hb); clear HB; have HO433 := n0_; have HB := n1_; clear n0_ n1_; (try clear hb); (try clear hb2); (try clear hk); (try clear hi); (try clear ho0); obtain ⟨Ao63, co63, eo63⟩ := Kd.R_slice HO433.out; subst eo63) | (go_at_call 16; (with_reducible refine (block_Find.calls kj5 _ _ t430 a1 a2 t434 t435 t436 t437 false t439 _ ?side1 ?side2 A15.out).mono ?_); (case side1 => repeat (first | exact (Kd.R_reads' HO433.out).2.2 | (with_reducible refine Kd.C_alloc ?_ _) | (with_reducible refine Kd.C_drewN ?_ _) | (with_reducible refine Kd.C_drew ?_))); (case side2 => exact (Kd.R_reads' HO433.out).2.1); rintro e w64 ⟨rfl, hb⟩; have n0_ := Aside0.mk (Kd.R_below (by (with_reducible repeat (first | apply Kd.R_alloc | apply Kd.R_drewN | apply Kd.R_drew)); exact HO433.out) hb); have n1_ := Aside0.mk (below_step (by repeat (first | (with_reducible first | exact HB.out | apply below_alloc | apply pw_below_drewN | apply below_drew1) | exact HB.out)) hb); clear HO433; clear HB; have HO433 := n0_; have HB := n1_; clear n0_ n1_; (try clear hb); (try clear hb2); (try clear hk); (try clear hi)) | ((with_reducible refine gate_dst (N := 10) rfl ?_); (try (refine gate_guard (by rfl) ?_; dsimp only)); refine box_event ?hg (N := 10) ?hd (cs := #[.string (⟨#[]⟩ : ByteArray), .int .i64 0, .bool false, .string (⟨#[]⟩ : ByteArray)]) (t := 39) ?hr ?_; (case hd => rfl); (case hg => rfl); (case hr => first | (go_simp; done) | (go_simp; rfl)); intro gb440 hg w65 hbox hb; have n0_ := Aside0.mk (Kd.R_below (by (with_reducible repeat (first | apply Kd.R_alloc | apply Kd.R_drewN | apply Kd.R_drew)); exact HO433.out) hb); have n1_ := Aside0.mk (below_step (by repeat (first | (with_reducible first | exact HB.out | apply below_alloc | apply pw_below_drewN | apply below_drew1) | exact HB.out)) hb); have n2_ := Aside0.mk (hbox); have n3_ := Aside0.mk ((by rw [hg]; exact (below_size (by repeat (first | (with_reducible first | exact HB.out | apply below_alloc | apply pw_below_drewN | apply below_drew1) | exact HB.out))) : w.heap.size ≤ gb440)); have n4_ := Aside0.mk ((by rw [hg]; exact (below_size (by repeat (first | (with_reducible first | exact HB.out | apply below_alloc | apply pw_below_drewN | apply below_drew1) | exact HB.out))) : w.heap.size ≤ gb440)); clear HO433; clear HB; have HO433 := n0_; have HB := n1_; have BK440 := n2_; have GW440 := n3_; have GE440 := n4_; clear n0_ n1_ n2_ n3_ n4_; clear hb hbox hg; have hcz66_0 : w65.cell? ⟨gb440, 0, none⟩ = some (.string (⟨#[]⟩ : ByteArray)) := (blk_cell BK440.out 0).trans rfl; have hcz66_1 : w65.cell? ⟨gb440, 1, none⟩ = some (.int .i64 0) := (blk_cell BK440.out 1).trans rfl; have hcz66_2 : w65.cell? ⟨gb440, 2, none⟩ = some (.bool false) := (blk_cell BK440.out 2).trans rfl; have hcz66_3 : w65.cell? ⟨gb440, 3, none⟩ = some (.string (⟨#[]⟩ : ByteArray)) := (blk_cell BK440.out 3).trans rfl; have hfz66_0 := blk_frozen BK440.out 0; have hfz66_1 := blk_frozen BK440.out 1; have hfz66_2 := blk_frozen BK440.out 2; have hfz66_3 := blk_frozen BK440.out 3)))
            go_ret
            exact ⟨by first | rfl | (simp [errW_none, errW_some] <;> rfl) | (simp [*, errW_none, errW_some] <;> rfl) | exact ret_ie _ | (simp [*, errW_none, errW_some, bne]; done), by repeat (first | (with_reducible first | exact HB.out | apply below_alloc | apply pw_below_drewN | apply below_drew1 | refine below_set ?_ GE440.out) | exact HB.out)⟩
           ·
            rw [if_neg c61] at H
            have c61b0 : decide (a2 < 0) = false := decide_eq_false c61
            clear c61
            obtain rfl := Option.some.inj H
            go_wp2_with (first | (go_at_call 9; (with_reducible refine (block_Write.calls kj5 _ _ l0 t430 t431 _ ?side1 ?side2 A13.out).mono ?_); (case side1 => repeat (first | exact (Kd.C_below HR0.out HB.out) | (with_reducible refine Kd.C_alloc ?_ _) | (with_reducible refine Kd.C_drewN ?_ _) | (with_reducible refine Kd.C_drew ?_))); (case side2 => exact HC0.out); rintro e w67 ⟨v432, rfl, ho0, hb⟩; have n0_ := Aside0.mk (Kd.R_lower ho0 (below_size (by repeat (first | (with_reducible first | exact HB.out | apply below_alloc | apply pw_below_drewN | apply below_drew1) | exact HB.out)))); have n1_ := Aside0.mk (below_step (by repeat (first | (with_reducible first | exact HB.out | apply below_alloc | apply pw_below_drewN | apply below_drew1) | exact HB.out)) hb); clear HB; have HO433 := n0_; have HB := n1_; clear n0_ n1_; (try clear hb); (try clear hb2); (try clear hk); (try clear hi); (try clear ho0); obtain ⟨Ao68, co68, eo68⟩ := Kd.R_slice HO433.out; subst eo68) | (go_at_call 16; (with_reducible refine (block_Find.calls kj5 _ _ t430 a1 a2 t434 t435 t436 t437 false t439 _ ?side1 ?side2 A15.out).mono ?_); (case side1 => repeat (first | exact (Kd.R_reads' HO433.out).2.2 | (with_reducible refine Kd.C_alloc ?_ _) | (with_reducible refine Kd.C_drewN ?_ _) | (with_reducible refine Kd.C_drew ?_))); (case side2 => exact (Kd.R_reads' HO433.out).2.1); rintro e w69 ⟨rfl, hb⟩; have n0_ := Aside0.mk (Kd.R_below (by (with_reducible repeat (first | apply Kd.R_alloc | apply Kd.R_drewN | apply Kd.R_drew)); exact HO433.out) hb); have n1_ := Aside0.mk (below_step (by repeat (first | (with_reducible first | exact HB.out | apply below_alloc | apply pw_below_drewN | apply below_drew1) | exact HB.out)) hb); clear HO433; clear HB; have HO433 := n0_; have HB := n1_; clear n0_ n1_; (try clear hb); (try clear hb2); (try clear hk); (try clear hi)) | ((with_reducible refine gate_dst (N := 10) rfl ?_); (try (refine gate_guard (by rfl) ?_; dsimp only)); refine box_event ?hg (N := 10) ?hd (cs := #[.string (⟨#[]⟩ : ByteArray), .int .i64 0, .bool false, .string (⟨#[]⟩ : ByteArray)]) (t := 39) ?hr ?_; (case hd => rfl); (case hg => rfl); (case hr => first | (go_simp; done) | (go_simp; rfl)); intro gb440 hg w70 hbox hb; have n0_ := Aside0.mk (Kd.R_below (by (with_reducible repeat (first | apply Kd.R_alloc | apply Kd.R_drewN | apply Kd.R_drew)); exact HO433.out) hb); have n1_ := Aside0.mk (below_step (by repeat (first | (with_reducible first | exact HB.out | apply below_alloc | apply pw_below_drewN | apply below_drew1) | exact HB.out)) hb); have n2_ := Aside0.mk (hbox); have n3_ := Aside0.mk ((by rw [hg]; exact (below_size (by repeat (first | (with_reducible first | exact HB.out | apply below_alloc | apply pw_below_drewN | apply below_drew1) | exact HB.out))) : w.heap.size ≤ gb440)); have n4_ := Aside0.mk ((by rw [hg]; exact (below_size (by repeat (first | (with_reducible first | exact HB.out | apply below_alloc | apply pw_below_drewN | apply below_drew1) | exact HB.out))) : w.heap.size ≤ gb440)); clear HO433; clear HB; have HO433 := n0_; have HB := n1_; have BK440 := n2_; have GW440 := n3_; have GE440 := n4_; clear n0_ n1_ n2_ n3_ n4_; clear hb hbox hg; have hcz71_0 : w70.cell? ⟨gb440, 0, none⟩ = some (.string (⟨#[]⟩ : ByteArray)) := (blk_cell BK440.out 0).trans rfl; have hcz71_1 : w70.cell? ⟨gb440, 1, none⟩ = some (.int .i64 0) := (blk_cell BK440.out 1).trans rfl; have hcz71_2 : w70.cell? ⟨gb440, 2, none⟩ = some (.bool false) := (blk_cell BK440.out 2).trans rfl; have hcz71_3 : w70.cell? ⟨gb440, 3, none⟩ = some (.string (⟨#[]⟩ : ByteArray)) := (blk_cell BK440.out 3).trans rfl; have hfz71_0 := blk_frozen BK440.out 0; have hfz71_1 := blk_frozen BK440.out 1; have hfz71_2 := blk_frozen BK440.out 2; have hfz71_3 := blk_frozen BK440.out 3))
            repeat (go_quiet (first | (go_at_call 9; (with_reducible refine (block_Write.calls kj5 _ _ l0 t430 t431 _ ?side1 ?side2 A13.out).mono ?_); (case side1 => repeat (first | exact (Kd.C_below HR0.out HB.out) | (with_reducible refine Kd.C_alloc ?_ _) | (with_reducible refine Kd.C_drewN ?_ _) | (with_reducible refine Kd.C_drew ?_))); (case side2 => exact HC0.out); rintro e w67 ⟨v432, rfl, ho0, hb⟩; have n0_ := Aside0.mk (Kd.R_lower ho0 (below_size (by repeat (first | (with_reducible first | exact HB.out | apply below_alloc | apply pw_below_drewN | apply below_drew1) | exact HB.out)))); have n1_ := Aside0.mk (below_step (by repeat (first | (with_reducible first | exact HB.out | apply below_alloc | apply pw_below_drewN | apply below_drew1) | exact HB.out)) hb); clear HB; have HO433 := n0_; have HB := n1_; clear n0_ n1_; (try clear hb); (try clear hb2); (try clear hk); (try clear hi); (try clear ho0); obtain ⟨Ao68, co68, eo68⟩ := Kd.R_slice HO433.out; subst eo68) | (go_at_call 16; (with_reducible refine (block_Find.calls kj5 _ _ t430 a1 a2 t434 t435 t436 t437 false t439 _ ?side1 ?side2 A15.out).mono ?_); (case side1 => repeat (first | exact (Kd.R_reads' HO433.out).2.2 | (with_reducible refine Kd.C_alloc ?_ _) | (with_reducible refine Kd.C_drewN ?_ _) | (with_reducible refine Kd.C_drew ?_))); (case side2 => exact (Kd.R_reads' HO433.out).2.1); rintro e w69 ⟨rfl, hb⟩; have n0_ := Aside0.mk (Kd.R_below (by (with_reducible repeat (first | apply Kd.R_alloc | apply Kd.R_drewN | apply Kd.R_drew)); exact HO433.out) hb); have n1_ := Aside0.mk (below_step (by repeat (first | (with_reducible first | exact HB.out | apply below_alloc | apply pw_below_drewN | apply below_drew1) | exact HB.out)) hb); clear HO433; clear HB; have HO433 := n0_; have HB := n1_; clear n0_ n1_; (try clear hb); (try clear hb2); (try clear hk); (try clear hi)) | ((with_reducible refine gate_dst (N := 10) rfl ?_); (try (refine gate_guard (by rfl) ?_; dsimp only)); refine box_event ?hg (N := 10) ?hd (cs := #[.string (⟨#[]⟩ : ByteArray), .int .i64 0, .bool false, .string (⟨#[]⟩ : ByteArray)]) (t := 39) ?hr ?_; (case hd => rfl); (case hg => rfl); (case hr => first | (go_simp; done) | (go_simp; rfl)); intro gb440 hg w70 hbox hb; have n0_ := Aside0.mk (Kd.R_below (by (with_reducible repeat (first | apply Kd.R_alloc | apply Kd.R_drewN | apply Kd.R_drew)); exact HO433.out) hb); have n1_ := Aside0.mk (below_step (by repeat (first | (with_reducible first | exact HB.out | apply below_alloc | apply pw_below_drewN | apply below_drew1) | exact HB.out)) hb); have n2_ := Aside0.mk (hbox); have n3_ := Aside0.mk ((by rw [hg]; exact (below_size (by repeat (first | (with_reducible first | exact HB.out | apply below_alloc | apply pw_below_drewN | apply below_drew1) | exact HB.out))) : w.heap.size ≤ gb440)); have n4_ := Aside0.mk ((by rw [hg]; exact (below_size (by repeat (first | (with_reducible first | exact HB.out | apply below_alloc | apply pw_below_drewN | apply below_drew1) | exact HB.out))) : w.heap.size ≤ gb440)); clear HO433; clear HB; have HO433 := n0_; have HB := n1_; have BK440 := n2_; have GW440 := n3_; have GE440 := n4_; clear n0_ n1_ n2_ n3_ n4_; clear hb hbox hg; have hcz71_0 : w70.cell? ⟨gb440, 0, none⟩ = some (.string (⟨#[]⟩ : ByteArray)) := (blk_cell BK440.out 0).trans rfl; have hcz71_1 : w70.cell? ⟨gb440, 1, none⟩ = some (.int .i64 0) := (blk_cell BK440.out 1).trans rfl; have hcz71_2 : w70.cell? ⟨gb440, 2, none⟩ = some (.bool false) := (blk_cell BK440.out 2).trans rfl; have hcz71_3 : w70.cell? ⟨gb440, 3, none⟩ = some (.string (⟨#[]⟩ : ByteArray)) := (blk_cell BK440.out 3).trans rfl; have hfz71_0 := blk_frozen BK440.out 0; have hfz71_1 := blk_frozen BK440.out 1; have hfz71_2 := blk_frozen BK440.out 2; have hfz71_3 := blk_frozen BK440.out 3)); try go_wp2_with (first | (go_at_call 9; (with_reducible refine (block_Write.calls kj5 _ _ l0 t430 t431 _ ?side1 ?side2 A13.out).mono ?_); (case side1 => repeat (first | exact (Kd.C_below HR0.out HB.out) | (with_reducible refine Kd.C_alloc ?_ _) | (with_reducible refine Kd.C_drewN ?_ _) | (with_reducible refine Kd.C_drew ?_))); (case side2 => exact HC0.out); rintro e w67 ⟨v432, rfl, ho0, hb⟩; have n0_ := Aside0.mk (Kd.R_lower ho0 (below_size (by repeat (first | (with_reducible first | exact HB.out | apply below_alloc | apply pw_below_drewN | apply below_drew1) | exact HB.out)))); have n1_ := Aside0.mk (below_step (by repeat (first | (with_reducible first | exact HB.out | apply below_alloc | apply pw_below_drewN | apply below_drew1) | exact HB.out)) hb); clear HB; have HO433 := n0_; have HB := n1_; clear n0_ n1_; (try clear hb); (try clear hb2); (try clear hk); (try clear hi); (try clear ho0); obtain ⟨Ao68, co68, eo68⟩ := Kd.R_slice HO433.out; subst eo68) | (go_at_call 16; (with_reducible refine (block_Find.calls kj5 _ _ t430 a1 a2 t434 t435 t436 t437 false t439 _ ?side1 ?side2 A15.out).mono ?_); (case side1 => repeat (first | exact (Kd.R_reads' HO433.out).2.2 | (with_reducible refine Kd.C_alloc ?_ _) | (with_reducible refine Kd.C_drewN ?_ _) | (with_reducible refine Kd.C_drew ?_))); (case side2 => exact (Kd.R_reads' HO433.out).2.1); rintro e w69 ⟨rfl, hb⟩; have n0_ := Aside0.mk (Kd.R_below (by (with_reducible repeat (first | apply Kd.R_alloc | apply Kd.R_drewN | apply Kd.R_drew)); exact HO433.out) hb); have n1_ := Aside0.mk (below_step (by repeat (first | (with_reducible first | exact HB.out | apply below_alloc | apply pw_below_drewN | apply below_drew1) | exact HB.out)) hb); clear HO433; clear HB; have HO433 := n0_; have HB := n1_; clear n0_ n1_; (try clear hb); (try clear hb2); (try clear hk); (try clear hi)) | ((with_reducible refine gate_dst (N := 10) rfl ?_); (try (refine gate_guard (by rfl) ?_; dsimp only)); refine box_event ?hg (N := 10) ?hd (cs := #[.string (⟨#[]⟩ : ByteArray), .int .i64 0, .bool false, .string (⟨#[]⟩ : ByteArray)]) (t := 39) ?hr ?_; (case hd => rfl); (case hg => rfl); (case hr => first | (go_simp; done) | (go_simp; rfl)); intro gb440 hg w70 hbox hb; have n0_ := Aside0.mk (Kd.R_below (by (with_reducible repeat (first | apply Kd.R_alloc | apply Kd.R_drewN | apply Kd.R_drew)); exact HO433.out) hb); have n1_ := Aside0.mk (below_step (by repeat (first | (with_reducible first | exact HB.out | apply below_alloc | apply pw_below_drewN | apply below_drew1) | exact HB.out)) hb); have n2_ := Aside0.mk (hbox); have n3_ := Aside0.mk ((by rw [hg]; exact (below_size (by repeat (first | (with_reducible first | exact HB.out | apply below_alloc | apply pw_below_drewN | apply below_drew1) | exact HB.out))) : w.heap.size ≤ gb440)); have n4_ := Aside0.mk ((by rw [hg]; exact (below_size (by repeat (first | (with_reducible first | exact HB.out | apply below_alloc | apply pw_below_drewN | apply below_drew1) | exact HB.out))) : w.heap.size ≤ gb440)); clear HO433; clear HB; have HO433 := n0_; have HB := n1_; have BK440 := n2_; have GW440 := n3_; have GE440 := n4_; clear n0_ n1_ n2_ n3_ n4_; clear hb hbox hg; have hcz71_0 : w70.cell? ⟨gb440, 0, none⟩ = some (.string (⟨#[]⟩ : ByteArray)) := (blk_cell BK440.out 0).trans rfl; have hcz71_1 : w70.cell? ⟨gb440, 1, none⟩ = some (.int .i64 0) := (blk_cell BK440.out 1).trans rfl; have hcz71_2 : w70.cell? ⟨gb440, 2, none⟩ = some (.bool false) := (blk_cell BK440.out 2).trans rfl; have hcz71_3 : w70.cell? ⟨gb440, 3, none⟩ = some (.string (⟨#[]⟩ : ByteArray)) := (blk_cell BK440.out 3).trans rfl; have hfz71_0 := blk_frozen BK440.out 0; have hfz71_1 := blk_frozen BK440.out 1; have hfz71_2 := blk_frozen BK440.out 2; have hfz71_3 := blk_frozen BK440.out 3)))
            go_ret
            exact ⟨by first | rfl | (simp [errW_none, errW_some] <;> rfl) | (simp [*, errW_none, errW_some] <;> rfl) | exact ret_ie _ | (simp [*, errW_none, errW_some, bne]; done), by repeat (first | (with_reducible first | exact HB.out | apply below_alloc | apply pw_below_drewN | apply below_drew1 | refine below_set ?_ GE440.out) | exact HB.out)⟩
       ·
        exact absurd rfl c42
     ·
      rw [if_neg c14] at H
      have c14b0 : (t431 == 0) = false := beq_eq_false_iff_ne.mpr c14
      have c14b1 : (t431 != 0) = true := bne_iff_ne.mpr c14
      obtain rfl := Option.some.inj H
      go_wp2_with (first | (go_at_call 9; (with_reducible refine (block_Write.calls kj5 _ _ l0 t430 t431 _ ?side1 ?side2 A13.out).mono ?_); (case side1 => repeat (first | exact (Kd.C_below HR0.out HB.out) | (with_reducible refine Kd.C_alloc ?_ _) | (with_reducible refine Kd.C_drewN ?_ _) | (with_reducible refine Kd.C_drew ?_))); (case side2 => exact HC0.out); rintro e w77 ⟨v432, rfl, ho0, hb⟩; have n0_ := Aside0.mk (Kd.R_lower ho0 (below_size (by repeat (first | (with_reducible first | exact HB.out | apply below_alloc | apply pw_below_drewN | apply below_drew1) | exact HB.out)))); have n1_ := Aside0.mk (below_step (by repeat (first | (with_reducible first | exact HB.out | apply below_alloc | apply pw_below_drewN | apply below_drew1) | exact HB.out)) hb); clear HB; have HO433 := n0_; have HB := n1_; clear n0_ n1_; (try clear hb); (try clear hb2); (try clear hk); (try clear hi); (try clear ho0)))
      repeat (go_quiet (first | (go_at_call 9; (with_reducible refine (block_Write.calls kj5 _ _ l0 t430 t431 _ ?side1 ?side2 A13.out).mono ?_); (case side1 => repeat (first | exact (Kd.C_below HR0.out HB.out) | (with_reducible refine Kd.C_alloc ?_ _) | (with_reducible refine Kd.C_drewN ?_ _) | (with_reducible refine Kd.C_drew ?_))); (case side2 => exact HC0.out); rintro e w77 ⟨v432, rfl, ho0, hb⟩; have n0_ := Aside0.mk (Kd.R_lower ho0 (below_size (by repeat (first | (with_reducible first | exact HB.out | apply below_alloc | apply pw_below_drewN | apply below_drew1) | exact HB.out)))); have n1_ := Aside0.mk (below_step (by repeat (first | (with_reducible first | exact HB.out | apply below_alloc | apply pw_below_drewN | apply below_drew1) | exact HB.out)) hb); clear HB; have HO433 := n0_; have HB := n1_; clear n0_ n1_; (try clear hb); (try clear hb2); (try clear hk); (try clear hi); (try clear ho0))); try go_wp2_with (first | (go_at_call 9; (with_reducible refine (block_Write.calls kj5 _ _ l0 t430 t431 _ ?side1 ?side2 A13.out).mono ?_); (case side1 => repeat (first | exact (Kd.C_below HR0.out HB.out) | (with_reducible refine Kd.C_alloc ?_ _) | (with_reducible refine Kd.C_drewN ?_ _) | (with_reducible refine Kd.C_drew ?_))); (case side2 => exact HC0.out); rintro e w77 ⟨v432, rfl, ho0, hb⟩; have n0_ := Aside0.mk (Kd.R_lower ho0 (below_size (by repeat (first | (with_reducible first | exact HB.out | apply below_alloc | apply pw_below_drewN | apply below_drew1) | exact HB.out)))); have n1_ := Aside0.mk (below_step (by repeat (first | (with_reducible first | exact HB.out | apply below_alloc | apply pw_below_drewN | apply below_drew1) | exact HB.out)) hb); clear HB; have HO433 := n0_; have HB := n1_; clear n0_ n1_; (try clear hb); (try clear hb2); (try clear hk); (try clear hi); (try clear ho0))))
      go_ret
      exact ⟨by first | rfl | (simp [errW_none, errW_some] <;> rfl) | (simp [*, errW_none, errW_some] <;> rfl) | exact ret_ie _ | (simp [*, errW_none, errW_some, bne]; done), by repeat (first | (with_reducible first | exact HB.out | apply below_alloc | apply pw_below_drewN | apply below_drew1) | exact HB.out)⟩
 ·
  replace c5 := Bool.eq_false_iff.mpr c5
  subst c5
  have H1 : (some false) = some r := by rw [if_neg (show ¬ (false = true) by decide)] at H; exact H
  clear H
  have H := H1
  clear H1
  obtain rfl := Option.some.inj H
  go_enter Try.func7, Try.ntmps7
  go_wp2_with (first | (go_at_call 14; (with_reducible refine (millhandlaw12_alive.calls k  false _ A4.out).mono ?_); rintro e w78 ⟨rfl, hb⟩; have n0_ := Aside0.mk (below_step (by repeat (first | (with_reducible first | exact HB.out | apply below_alloc | apply pw_below_drewN | apply below_drew1) | exact HB.out)) hb); clear HB; have HB := n0_; clear n0_; (try clear hb); (try clear hb2); (try clear hk); (try clear hi)))
  repeat (go_quiet (first | (go_at_call 14; (with_reducible refine (millhandlaw12_alive.calls k  false _ A4.out).mono ?_); rintro e w78 ⟨rfl, hb⟩; have n0_ := Aside0.mk (below_step (by repeat (first | (with_reducible first | exact HB.out | apply below_alloc | apply pw_below_drewN | apply below_drew1) | exact HB.out)) hb); clear HB; have HB := n0_; clear n0_; (try clear hb); (try clear hb2); (try clear hk); (try clear hi))); try go_wp2_with (first | (go_at_call 14; (with_reducible refine (millhandlaw12_alive.calls k  false _ A4.out).mono ?_); rintro e w78 ⟨rfl, hb⟩; have n0_ := Aside0.mk (below_step (by repeat (first | (with_reducible first | exact HB.out | apply below_alloc | apply pw_below_drewN | apply below_drew1) | exact HB.out)) hb); clear HB; have HB := n0_; clear n0_; (try clear hb); (try clear hb2); (try clear hk); (try clear hi))))
  go_ret
  exact ⟨by first | rfl | (simp [errW_none, errW_some] <;> rfl) | (simp [*, errW_none, errW_some] <;> rfl) | exact ret_ie _ | (simp [*, errW_none, errW_some, bne]; done), by repeat (first | (with_reducible first | exact HB.out | apply below_alloc | apply pw_below_drewN | apply below_drew1) | exact HB.out)⟩

end Go.Proofs.Ytpalnbdcemmlnaa.R

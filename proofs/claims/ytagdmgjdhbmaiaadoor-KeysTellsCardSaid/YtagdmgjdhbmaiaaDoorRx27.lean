/- Contracts of Go functions and what they come to, over the translation of this seat: made by a program of this session (print2.py). -/
import Derived.Test.YtagdmgjdhbmaiaaDoorRx0
import Derived.Test.YtagdmgjdhbmaiaaDoorRx16
import Derived.Test.YtagdmgjdhbmaiaaDoorRx26
namespace Go.Proofs.YtagdmgjdhbmaiaaDoor.R
open Go.RowKit Go.Proofs.YtagdmgjdhbmaiaaDoor.Co Go.Proofs.YtagdmgjdhbmaiaaDoor.Ret Go.Proofs.YtagdmgjdhbmaiaaDoor.Plain Go.Proofs.YtagdmgjdhbmaiaaDoor.Box Go.Proofs.YtagdmgjdhbmaiaaDoorW.PrintWords Go.Proofs.YtagdmgjdhbmaiaaDoorW.PrintLast Go.Proofs.YtagdmgjdhbmaiaaDoorW.PrintMore
attribute [local go_sem] max2_int min2_int max_two min_two max_three min_three max_four min_four   -- for this text's walks alone
set_option linter.unusedVariables false
set_option linter.unusedSimpArgs false

/-! ### millhandref22_Of: function 39 -/
mutual
def millhandref22_Of.j0 : Nat → List (S50) → Bool → Option (Int × Int × ByteArray × Int)
 | 0, _, _ => none
 | k + 1, x6, x29 => if x29 = true then (some (0, 0, (⟨#[]⟩ : ByteArray), 8)) else (if 0 < (x6.length : Int) then (if ((rd_T50 x6 0).f2).toList = ([107] : List UInt8) then (if 1 < (x6.length : Int) then (if (rd_T50 x6 1).f0 = true then (if (((rd_T50 x6 1).f2).size : Int) ≥ 1 then (millhandref22_Of.j1 k x6 (decide ((((rd_T50 x6 1).f2).size : Int) ≤ 24))) else (millhandref22_Of.j1 k x6 false)) else (millhandref22_Of.j1 k x6 false)) else (none)) else (millhandref22_Of.j1 k x6 false)) else (none))
def millhandref22_Of.j1 : Nat → List (S50) → Bool → Option (Int × Int × ByteArray × Int)
 | 0, _, _ => none
 | k + 1, x6, x56 => if x56 = true then (if 1 < (x6.length : Int) then (some (3, 0, (rd_T50 x6 1).f2, 0)) else (none)) else (if 1 < (x6.length : Int) then (if (rd_T50 x6 1).f0 = true then (millhandref22_Of.j2 k x6 true) else (millhandref22_Of.j2 k x6 (decide (((rd_T50 x6 1).f1) > 1099511627776)))) else (none))
def millhandref22_Of.j2 : Nat → List (S50) → Bool → Option (Int × Int × ByteArray × Int)
 | 0, _, _ => none
 | k + 1, x6, x71 => if x71 = true then (some (0, 0, (⟨#[]⟩ : ByteArray), 8)) else (if 0 < (x6.length : Int) then (if ((rd_T50 x6 0).f2).toList = ([101] : List UInt8) then (if 1 < (x6.length : Int) then (millhandref22_Of.j3 k x6 (decide (((rd_T50 x6 1).f1) > 0))) else (none)) else (millhandref22_Of.j3 k x6 false)) else (none))
def millhandref22_Of.j3 : Nat → List (S50) → Bool → Option (Int × Int × ByteArray × Int)
 | 0, _, _ => none
 | k + 1, x6, x83 => if x83 = true then (if 1 < (x6.length : Int) then (some (1, wrap64 ((rd_T50 x6 1).f1), (⟨#[]⟩ : ByteArray), 0)) else (none)) else (if 0 < (x6.length : Int) then (if ((rd_T50 x6 0).f2).toList = ([114] : List UInt8) then (if 1 < (x6.length : Int) then (some (4, wrap64 ((rd_T50 x6 1).f1), (⟨#[]⟩ : ByteArray), 0)) else (none)) else (some (0, 0, (⟨#[]⟩ : ByteArray), 8))) else (none))
end
def millhandref22_Of.f (k : Nat) (a0 : ByteArray) : Option (Int × Int × ByteArray × Int) := (millhandref22_Head.f k).bind fun t548 => (if a0.toList = t548.toList then (some (2, 0, (⟨#[]⟩ : ByteArray), 0)) else ((millhandref01_Parts.f k a0).bind fun bt549 => (if bt549.2 = 0 then (if (bt549.1.length : Int) = 2 then (if 0 < (bt549.1.length : Int) then (millhandref22_Of.j0 k bt549.1 (!((rd_T50 bt549.1 0).f0))) else (none)) else (millhandref22_Of.j0 k bt549.1 true)) else (millhandref22_Of.j0 k bt549.1 true))))
theorem millhandref22_Of.mono_l : ∀ k, (∀ y0 y1, LeO (millhandref22_Of.j0 k y0 y1) (millhandref22_Of.j0 (k + 1) y0 y1)) ∧ (∀ y0 y1, LeO (millhandref22_Of.j1 k y0 y1) (millhandref22_Of.j1 (k + 1) y0 y1)) ∧ (∀ y0 y1, LeO (millhandref22_Of.j2 k y0 y1) (millhandref22_Of.j2 (k + 1) y0 y1)) ∧ (∀ y0 y1, LeO (millhandref22_Of.j3 k y0 y1) (millhandref22_Of.j3 (k + 1) y0 y1))
 | 0 => ⟨fun _ _ r h => by simp [millhandref22_Of.j0] at h, fun _ _ r h => by simp [millhandref22_Of.j1] at h, fun _ _ r h => by simp [millhandref22_Of.j2] at h, fun _ _ r h => by simp [millhandref22_Of.j3] at h⟩
 | k + 1 => by
  obtain ⟨ih0, ih1, ih2, ih3⟩ := millhandref22_Of.mono_l k
  refine ⟨?_, ?_, ?_, ?_⟩
  ·
   intro y0 y1
   unfold millhandref22_Of.j0
   repeat' first
   | (with_reducible exact ih0 _ _)
   | (with_reducible exact ih1 _ _)
   | (with_reducible exact ih2 _ _)
   | (with_reducible exact ih3 _ _)
   | (with_reducible exact millhandref01_Parts.mono _ _)
   | (with_reducible exact millhandref22_Head.mono _)
   | (with_reducible exact LeO.refl _)
   | (with_reducible exact LeO.none _)
   | (with_reducible refine LeO.ite ?_ ?_)
   | (with_reducible refine LeO.bind ?_ (fun _ => ?_))
   | exact ih0 _ _
   | exact ih1 _ _
   | exact ih2 _ _
   | exact ih3 _ _
   | exact millhandref01_Parts.mono _ _
   | exact millhandref22_Head.mono _
   | exact LeO.none _
   | refine LeO.ite ?_ ?_
   | refine LeO.bind ?_ (fun _ => ?_)
  ·
   intro y0 y1
   unfold millhandref22_Of.j1
   repeat' first
   | (with_reducible exact ih0 _ _)
   | (with_reducible exact ih1 _ _)
   | (with_reducible exact ih2 _ _)
   | (with_reducible exact ih3 _ _)
   | (with_reducible exact millhandref01_Parts.mono _ _)
   | (with_reducible exact millhandref22_Head.mono _)
   | (with_reducible exact LeO.refl _)
   | (with_reducible exact LeO.none _)
   | (with_reducible refine LeO.ite ?_ ?_)
   | (with_reducible refine LeO.bind ?_ (fun _ => ?_))
   | exact ih0 _ _
   | exact ih1 _ _
   | exact ih2 _ _
   | exact ih3 _ _
   | exact millhandref01_Parts.mono _ _
   | exact millhandref22_Head.mono _
   | exact LeO.none _
   | refine LeO.ite ?_ ?_
   | refine LeO.bind ?_ (fun _ => ?_)
  ·
   intro y0 y1
   unfold millhandref22_Of.j2
   repeat' first
   | (with_reducible exact ih0 _ _)
   | (with_reducible exact ih1 _ _)
   | (with_reducible exact ih2 _ _)
   | (with_reducible exact ih3 _ _)
   | (with_reducible exact millhandref01_Parts.mono _ _)
   | (with_reducible exact millhandref22_Head.mono _)
   | (with_reducible exact LeO.refl _)
   | (with_reducible exact LeO.none _)
   | (with_reducible refine LeO.ite ?_ ?_)
   | (with_reducible refine LeO.bind ?_ (fun _ => ?_))
   | exact ih0 _ _
   | exact ih1 _ _
   | exact ih2 _ _
   | exact ih3 _ _
   | exact millhandref01_Parts.mono _ _
   | exact millhandref22_Head.mono _
   | exact LeO.none _
   | refine LeO.ite ?_ ?_
   | refine LeO.bind ?_ (fun _ => ?_)
  ·
   intro y0 y1
   unfold millhandref22_Of.j3
   repeat' first
   | (with_reducible exact ih0 _ _)
   | (with_reducible exact ih1 _ _)
   | (with_reducible exact ih2 _ _)
   | (with_reducible exact ih3 _ _)
   | (with_reducible exact millhandref01_Parts.mono _ _)
   | (with_reducible exact millhandref22_Head.mono _)
   | (with_reducible exact LeO.refl _)
   | (with_reducible exact LeO.none _)
   | (with_reducible refine LeO.ite ?_ ?_)
   | (with_reducible refine LeO.bind ?_ (fun _ => ?_))
   | exact ih0 _ _
   | exact ih1 _ _
   | exact ih2 _ _
   | exact ih3 _ _
   | exact millhandref01_Parts.mono _ _
   | exact millhandref22_Head.mono _
   | exact LeO.none _
   | refine LeO.ite ?_ ?_
   | refine LeO.bind ?_ (fun _ => ?_)
theorem millhandref22_Of.mono : ∀ a0 k, LeO (millhandref22_Of.f k a0) (millhandref22_Of.f (k + 1) a0) := by
 intro a0 k
 obtain ⟨ih0, ih1, ih2, ih3⟩ := millhandref22_Of.mono_l k
 unfold millhandref22_Of.f
 repeat' first
   | (with_reducible exact ih0 _ _)
   | (with_reducible exact ih1 _ _)
   | (with_reducible exact ih2 _ _)
   | (with_reducible exact ih3 _ _)
   | (with_reducible exact millhandref01_Parts.mono _ _)
   | (with_reducible exact millhandref22_Head.mono _)
   | (with_reducible exact LeO.refl _)
   | (with_reducible exact LeO.none _)
   | (with_reducible refine LeO.ite ?_ ?_)
   | (with_reducible refine LeO.bind ?_ (fun _ => ?_))
   | exact ih0 _ _
   | exact ih1 _ _
   | exact ih2 _ _
   | exact ih3 _ _
   | exact millhandref01_Parts.mono _ _
   | exact millhandref22_Head.mono _
   | exact LeO.none _
   | refine LeO.ite ?_ ?_
   | refine LeO.bind ?_ (fun _ => ?_)
set_option maxHeartbeats 8000000 in
set_option maxRecDepth 100000 in
theorem millhandref22_Of.calls (k : Nat) (a0 : ByteArray) (r1 : Int) (r2 : Int) (r3 : ByteArray) (r4 : Int) (w : World) (h : millhandref22_Of.f k a0 = some (r1, r2, r3, r4)) :
  Calls Tryd.prog 39 #[.string a0] w fun e w' => e = .returned (.tuple #[.int .u8 r1, .int .i64 r2, .string r3, .int .i64 r4]) ∧ Below w.heap.size w w' := by
 have HB := Aside0.mk (Below.refl w.heap.size w)
 have H : ((millhandref22_Head.f k).bind fun t548 => (if a0.toList = t548.toList then (some (2, 0, (⟨#[]⟩ : ByteArray), 0)) else ((millhandref01_Parts.f k a0).bind fun bt549 => (if bt549.2 = 0 then (if (bt549.1.length : Int) = 2 then (if 0 < (bt549.1.length : Int) then (millhandref22_Of.j0 k bt549.1 (!((rd_T50 bt549.1 0).f0))) else (none)) else (millhandref22_Of.j0 k bt549.1 true)) else (millhandref22_Of.j0 k bt549.1 true))))) = some (r1, r2, r3, r4) := h
 clear h
 replace H := Option.bind_eq_some_iff.mp H
 obtain ⟨t548, A20, H⟩ := H
 replace H : (if a0.toList = t548.toList then (some (2, 0, (⟨#[]⟩ : ByteArray), 0)) else ((millhandref01_Parts.f k a0).bind fun bt549 => (if bt549.2 = 0 then (if (bt549.1.length : Int) = 2 then (if 0 < (bt549.1.length : Int) then (millhandref22_Of.j0 k bt549.1 (!((rd_T50 bt549.1 0).f0))) else (none)) else (millhandref22_Of.j0 k bt549.1 true)) else (millhandref22_Of.j0 k bt549.1 true)))) = some (r1, r2, r3, r4) := H
 have A2 := Aside0.mk A20
 clear A20
 by_cases c3 : a0.toList = t548.toList
 ·
  rw [if_pos c3] at H
  have c3b0 : (a0.toList == t548.toList) = true := beq_iff_eq.mpr c3
  have c3b1 : (a0.toList != t548.toList) = false := bne_eq_false_iff_eq.mpr c3
  clear c3
  simp only [Option.some.injEq, Prod.mk.injEq] at H
  obtain ⟨rfl, rfl, rfl, rfl⟩ := H
  go_enter Tryd.func39, Tryd.ntmps39
  go_wp2_with (first | (go_at_call 42; (with_reducible refine (millhandref22_Head.calls k  t548 _ A2.out).mono ?_); rintro e w4 ⟨rfl, hb⟩; have n0_ := Aside0.mk (below_step (by repeat (first | (with_reducible first | exact HB.out | apply below_alloc | apply pw_below_drewN | apply below_drew1) | exact HB.out)) hb); clear HB; have HB := n0_; clear n0_; (try clear hb); (try clear hb2); (try clear hk); (try clear hi)))
  repeat (go_quiet (first | (go_at_call 42; (with_reducible refine (millhandref22_Head.calls k  t548 _ A2.out).mono ?_); rintro e w4 ⟨rfl, hb⟩; have n0_ := Aside0.mk (below_step (by repeat (first | (with_reducible first | exact HB.out | apply below_alloc | apply pw_below_drewN | apply below_drew1) | exact HB.out)) hb); clear HB; have HB := n0_; clear n0_; (try clear hb); (try clear hb2); (try clear hk); (try clear hi))); try go_wp2_with (first | (go_at_call 42; (with_reducible refine (millhandref22_Head.calls k  t548 _ A2.out).mono ?_); rintro e w4 ⟨rfl, hb⟩; have n0_ := Aside0.mk (below_step (by repeat (first | (with_reducible first | exact HB.out | apply below_alloc | apply pw_below_drewN | apply below_drew1) | exact HB.out)) hb); clear HB; have HB := n0_; clear n0_; (try clear hb); (try clear hb2); (try clear hk); (try clear hi))))
  refine bodyPost_ret (results_list (rs := [.tmp 2, .tmp 3, .tmp 4, .tmp 5]) rfl (by simp) (.tmp (.tmp (.tmp (.tmp .nil))))) rfl ?_
  exact ⟨by first | rfl | (simp [errW_none, errW_some] <;> rfl) | (simp [*, errW_none, errW_some] <;> rfl) | exact ret_ie _ | (simp [*, errW_none, errW_some, bne]; done), by repeat (first | (with_reducible first | exact HB.out | apply below_alloc | apply pw_below_drewN | apply below_drew1) | exact HB.out)⟩
 ·
  rw [if_neg c3] at H
  have c3b0 : (a0.toList == t548.toList) = false := beq_eq_false_iff_ne.mpr c3
  have c3b1 : (a0.toList != t548.toList) = true := bne_iff_ne.mpr c3
  replace H := Option.bind_eq_some_iff.mp H
  obtain ⟨⟨t549, t550⟩, A50, H⟩ := H
  replace H : (if t550 = 0 then (if (t549.length : Int) = 2 then (if 0 < (t549.length : Int) then (millhandref22_Of.j0 k t549 (!((rd_T50 t549 0).f0))) else (none)) else (millhandref22_Of.j0 k t549 true)) else (millhandref22_Of.j0 k t549 true)) = some (r1, r2, r3, r4) := H
  have A5 := Aside0.mk A50
  clear A50
  have HC6 := Aside0.mk H
  clear H
  go_enter Tryd.func39, Tryd.ntmps39
  go_upto_region 4 with (first | (go_at_call 42; (with_reducible refine (millhandref22_Head.calls k  t548 _ A2.out).mono ?_); rintro e w7 ⟨rfl, hb⟩; have n0_ := Aside0.mk (below_step (by repeat (first | (with_reducible first | exact HB.out | apply below_alloc | apply pw_below_drewN | apply below_drew1) | exact HB.out)) hb); clear HB; have HB := n0_; clear n0_; (try clear hb); (try clear hb2); (try clear hk); (try clear hi)) | (go_at_call 20; (with_reducible refine (millhandref01_Parts.calls k a0 t549 t550 _ A5.out).mono ?_); rintro e w8 ⟨v551, rfl, ho0, hb⟩; have n0_ := Aside0.mk (Kd.R_lower ho0 (below_size (by repeat (first | (with_reducible first | exact HB.out | apply below_alloc | apply pw_below_drewN | apply below_drew1) | exact HB.out)))); have n1_ := Aside0.mk (below_step (by repeat (first | (with_reducible first | exact HB.out | apply below_alloc | apply pw_below_drewN | apply below_drew1) | exact HB.out)) hb); clear HB; have HO552 := n0_; have HB := n1_; clear n0_ n1_; (try clear hb); (try clear hb2); (try clear hk); (try clear hi); (try clear ho0)))
  repeat (go_quiet (first | (go_at_call 42; (with_reducible refine (millhandref22_Head.calls k  t548 _ A2.out).mono ?_); rintro e w7 ⟨rfl, hb⟩; have n0_ := Aside0.mk (below_step (by repeat (first | (with_reducible first | exact HB.out | apply below_alloc | apply pw_below_drewN | apply below_drew1) | exact HB.out)) hb); clear HB; have HB := n0_; clear n0_; (try clear hb); (try clear hb2); (try clear hk); (try clear hi)) | (go_at_call 20; (with_reducible refine (millhandref01_Parts.calls k a0 t549 t550 _ A5.out).mono ?_); rintro e w8 ⟨v551, rfl, ho0, hb⟩; have n0_ := Aside0.mk (Kd.R_lower ho0 (below_size (by repeat (first | (with_reducible first | exact HB.out | apply below_alloc | apply pw_below_drewN | apply below_drew1) | exact HB.out)))); have n1_ := Aside0.mk (below_step (by repeat (first | (with_reducible first | exact HB.out | apply below_alloc | apply pw_below_drewN | apply below_drew1) | exact HB.out)) hb); clear HB; have HO552 := n0_; have HB := n1_; clear n0_ n1_; (try clear hb); (try clear hb2); (try clear hk); (try clear hi); (try clear ho0))); go_upto_region 4 with (first | (go_at_call 42; (with_reducible refine (millhandref22_Head.calls k  t548 _ A2.out).mono ?_); rintro e w7 ⟨rfl, hb⟩; have n0_ := Aside0.mk (below_step (by repeat (first | (with_reducible first | exact HB.out | apply below_alloc | apply pw_below_drewN | apply below_drew1) | exact HB.out)) hb); clear HB; have HB := n0_; clear n0_; (try clear hb); (try clear hb2); (try clear hk); (try clear hi)) | (go_at_call 20; (with_reducible refine (millhandref01_Parts.calls k a0 t549 t550 _ A5.out).mono ?_); rintro e w8 ⟨v551, rfl, ho0, hb⟩; have n0_ := Aside0.mk (Kd.R_lower ho0 (below_size (by repeat (first | (with_reducible first | exact HB.out | apply below_alloc | apply pw_below_drewN | apply below_drew1) | exact HB.out)))); have n1_ := Aside0.mk (below_step (by repeat (first | (with_reducible first | exact HB.out | apply below_alloc | apply pw_below_drewN | apply below_drew1) | exact HB.out)) hb); clear HB; have HO552 := n0_; have HB := n1_; clear n0_ n1_; (try clear hb); (try clear hb2); (try clear hk); (try clear hi); (try clear ho0))))
  (try simp only [Act.put, sa_, s0_, s1_])
  go_cut [29] (fun v29 wc => ∃ (kq : Nat) (x29_5 : Bool), v29 = .bool x29_5 ∧ Aside0 (millhandref22_Of.j0 kq t549 x29_5 = some (r1, r2, r3, r4)) ∧ Aside0 (kq ≤ k) ∧ Aside0 (Kd.R k50 50 wc w.heap.size (fun _ => True) v551 t549) ∧ Aside0 (Below w.heap.size w wc))
  case first =>
   have H := HC6.out
   clear HC6
   by_cases c9 : t550 = 0
   ·
    rw [if_pos c9] at H
    have c9b0 : (t550 == 0) = true := beq_iff_eq.mpr c9
    have c9b1 : (t550 != 0) = false := bne_eq_false_iff_eq.mpr c9
    clear c9
    (first | rw [c9b0] | (simp only [i64_w, i32_w]; rw [c9b0]) | skip)
    by_cases c10 : (t549.length : Int) = 2
    ·
     rw [if_pos c10] at H
     have c10b0 : ((t549.length : Int) == 2) = true := beq_iff_eq.mpr c10
     have c10b1 : ((t549.length : Int) != 2) = false := bne_eq_false_iff_eq.mpr c10
     clear c10
     by_cases c11 : 0 < (t549.length : Int)
     ·
      rw [if_pos c11] at H
      have c11b0 : decide (0 < (t549.length : Int)) = true := decide_eq_true c11
      have c11b1 : decide (0 < t549.length) = true := decide_eq_true (by omega)
      clear c11
      have H' := Aside0.mk H
      clear H
      obtain ⟨Ao12, co12, eo12⟩ := Kd.R_slice HO552.out
      subst eo12
      have p553 : 0 ≤ (0 : Int) := (by omega)
      have q553 : 0 < (t549.length : Int) := of_decide_eq_true (by first | (with_reducible assumption) | assumption)
      obtain ⟨ad553, e553, hx553_0, hx553_1, hx553_2⟩ := at_T50 (Kd.R_reads' HO552.out).2.2 0 p553 q553
      cases e553
      have qi553 : (0 < t549.length) = True := eq_true (by omega)
      (try rw [show ((0 : Int)).toNat = 0 from rfl] at hx553_0)
      (try rw [show 0 * 3 = 0 from rfl] at hx553_0)
      (try rw [Addr.add_zero'] at hx553_0)
      (try rw [show ((0 : Int)).toNat = 0 from rfl] at hx553_1)
      (try rw [show 0 * 3 = 0 from rfl] at hx553_1)
      (try rw [Addr.add_zero'] at hx553_1)
      (try rw [show ((0 : Int)).toNat = 0 from rfl] at hx553_2)
      (try rw [show 0 * 3 = 0 from rfl] at hx553_2)
      (try rw [Addr.add_zero'] at hx553_2)
      replace p553 := eq_true p553
      replace q553 := eq_true q553
      go_wp2
      repeat (go_quiet (fail); try go_wp2)
      go_meet
      case rel => exact ⟨_, (!((rd_T50 t549 0).f0)), (by first | rfl | (simp; done) | (simp [*]; done)), H', ⟨by first | omega | exact Nat.le_refl _⟩, ⟨by (with_reducible repeat (first | apply Kd.R_alloc | apply Kd.R_drewN | apply Kd.R_drew)); exact HO552.out⟩, ⟨by repeat (first | (with_reducible first | exact HB.out | apply below_alloc | apply pw_below_drewN | apply below_drew1) | exact HB.out)⟩⟩
     ·
      rw [if_neg c11] at H
      exact absurd H (by simp)
    ·
     rw [if_neg c10] at H
     have c10b0 : ((t549.length : Int) == 2) = false := beq_eq_false_iff_ne.mpr c10
     have c10b1 : ((t549.length : Int) != 2) = true := bne_iff_ne.mpr c10
     have H' := Aside0.mk H
     clear H
     obtain ⟨Ao13, co13, eo13⟩ := Kd.R_slice HO552.out
     subst eo13
     go_wp2
     repeat (go_quiet (fail); try go_wp2)
     go_meet
     case rel => exact ⟨_, (true), (by first | rfl | (simp; done) | (simp [*]; done)), H', ⟨by first | omega | exact Nat.le_refl _⟩, ⟨by (with_reducible repeat (first | apply Kd.R_alloc | apply Kd.R_drewN | apply Kd.R_drew)); exact HO552.out⟩, ⟨by repeat (first | (with_reducible first | exact HB.out | apply below_alloc | apply pw_below_drewN | apply below_drew1) | exact HB.out)⟩⟩
   ·
    rw [if_neg c9] at H
    have c9b0 : (t550 == 0) = false := beq_eq_false_iff_ne.mpr c9
    have c9b1 : (t550 != 0) = true := bne_iff_ne.mpr c9
    (first | rw [c9b0] | (simp only [i64_w, i32_w]; rw [c9b0]) | skip)
    have H' := Aside0.mk H
    clear H
    go_wp2
    repeat (go_quiet (fail); try go_wp2)
    go_meet
    case rel => exact ⟨_, (true), (by first | rfl | (simp; done) | (simp [*]; done)), H', ⟨by first | omega | exact Nat.le_refl _⟩, ⟨by (with_reducible repeat (first | apply Kd.R_alloc | apply Kd.R_drewN | apply Kd.R_drew)); exact HO552.out⟩, ⟨by repeat (first | (with_reducible first | exact HB.out | apply below_alloc | apply pw_below_drewN | apply below_drew1) | exact HB.out)⟩⟩
  case rest =>
   clear HC6
   try clear c1
   try clear p2
   try clear c3
   try clear c3b0
   try clear c3b1
   try clear p5
   try clear q5
   try clear hx5
   try clear qi5
   try clear c9
   try clear c9b0
   try clear c9b1
   try clear c10
   try clear c10b0
   try clear c10b1
   try clear c11
   try clear c11b0
   try clear c11b1
   try clear hx553_0
   try clear hx553_1
   try clear hx553_2
   try clear p553
   try clear q553
   obtain ⟨kq, x29_5, rfl, HA, HJ5, HO_6, HB⟩ := hcut
   cases kq with
   | zero => exact absurd HA.out (by simp [millhandref22_Of.j0])
   | succ kj5 =>
    have H := HA.out
    clear HA
    simp only [millhandref22_Of.j0] at H
    by_cases c14 : x29_5 = true
    ·
     subst c14
     have H1 : (some (0, 0, (⟨#[]⟩ : ByteArray), 8)) = some (r1, r2, r3, r4) := by rw [if_pos rfl] at H; exact H
     clear H
     have H := H1
     clear H1
     simp only [Option.some.injEq, Prod.mk.injEq] at H
     obtain ⟨rfl, rfl, rfl, rfl⟩ := H
     go_wp2
     repeat (go_quiet (fail); try go_wp2)
     refine bodyPost_ret (results_list (rs := [.tmp 2, .tmp 3, .tmp 4, .tmp 5]) rfl (by simp) (.tmp (.tmp (.tmp (.tmp .nil))))) rfl ?_
     exact ⟨by first | rfl | (simp [errW_none, errW_some] <;> rfl) | (simp [*, errW_none, errW_some] <;> rfl) | exact ret_ie _ | (simp [*, errW_none, errW_some, bne]; done), by repeat (first | (with_reducible first | exact HB.out | apply below_alloc | apply pw_below_drewN | apply below_drew1) | exact HB.out)⟩
    ·
     replace c14 := Bool.eq_false_iff.mpr c14
     subst c14
     have H1 : (if 0 < (t549.length : Int) then (if ((rd_T50 t549 0).f2).toList = ([107] : List UInt8) then (if 1 < (t549.length : Int) then (if (rd_T50 t549 1).f0 = true then (if (((rd_T50 t549 1).f2).size : Int) ≥ 1 then (millhandref22_Of.j1 kj5 t549 (decide ((((rd_T50 t549 1).f2).size : Int) ≤ 24))) else (millhandref22_Of.j1 kj5 t549 false)) else (millhandref22_Of.j1 kj5 t549 false)) else (none)) else (millhandref22_Of.j1 kj5 t549 false)) else (none)) = some (r1, r2, r3, r4) := by rw [if_neg (show ¬ (false = true) by decide)] at H; exact H
     clear H
     have H := H1
     clear H1
     have HC15 := Aside0.mk H
     clear H
     go_upto_region 6 with (fail)
     repeat (go_quiet (fail); go_upto_region 6 with (fail))
     go_cut [56] (fun v56 wc => ∃ (kq : Nat) (x56_14 : Bool), v56 = .bool x56_14 ∧ Aside0 (millhandref22_Of.j1 kq t549 x56_14 = some (r1, r2, r3, r4)) ∧ Aside0 (kq ≤ kj5) ∧ Aside0 (Kd.R k50 50 wc w.heap.size (fun _ => True) v551 t549) ∧ Aside0 (Below w.heap.size w wc))
     case first =>
      have H := HC15.out
      clear HC15
      by_cases c16 : 0 < (t549.length : Int)
      ·
       rw [if_pos c16] at H
       have c16b0 : decide (0 < (t549.length : Int)) = true := decide_eq_true c16
       have c16b1 : decide (0 < t549.length) = true := decide_eq_true (by omega)
       clear c16
       (first | rw [c16b0] | (simp only [i64_w, i32_w]; rw [c16b0]) | skip)
       by_cases c17 : ((rd_T50 t549 0).f2).toList = ([107] : List UInt8)
       ·
        rw [if_pos c17] at H
        have c17b0 : (((rd_T50 t549 0).f2).toList == ([107] : List UInt8)) = true := beq_iff_eq.mpr c17
        have c17b1 : (((rd_T50 t549 0).f2).toList != ([107] : List UInt8)) = false := bne_eq_false_iff_eq.mpr c17
        clear c17
        by_cases c18 : 1 < (t549.length : Int)
        ·
         rw [if_pos c18] at H
         have c18b0 : decide (1 < (t549.length : Int)) = true := decide_eq_true c18
         have c18b1 : decide (1 < t549.length) = true := decide_eq_true (by omega)
         clear c18
         obtain ⟨bq19, hbq19⟩ : ∃ b_ : Bool, b_ = ((rd_T50 t549 1).f0) := ⟨_, rfl⟩
         replace H : (if bq19 = true then (if (((rd_T50 t549 1).f2).size : Int) ≥ 1 then (millhandref22_Of.j1 kj5 t549 (decide ((((rd_T50 t549 1).f2).size : Int) ≤ 24))) else (millhandref22_Of.j1 kj5 t549 false)) else (millhandref22_Of.j1 kj5 t549 false)) = some (r1, r2, r3, r4) := by rw [← hbq19] at H; exact H
         have Nbq19 := Aside0.mk hbq19
         clear hbq19
         by_cases c20 : bq19 = true
         ·
          subst c20
          have H1 : (if (((rd_T50 t549 1).f2).size : Int) ≥ 1 then (millhandref22_Of.j1 kj5 t549 (decide ((((rd_T50 t549 1).f2).size : Int) ≤ 24))) else (millhandref22_Of.j1 kj5 t549 false)) = some (r1, r2, r3, r4) := by rw [if_pos rfl] at H; exact H
          clear H
          have H := H1
          clear H1
          by_cases c21 : (((rd_T50 t549 1).f2).size : Int) ≥ 1
          ·
           rw [if_pos c21] at H
           have c21b0 : decide (1 ≤ (((rd_T50 t549 1).f2).size : Int)) = true := decide_eq_true c21
           have c21b1 : decide (1 ≤ ((rd_T50 t549 1).f2).size) = true := decide_eq_true (by omega)
           clear c21
           have H' := Aside0.mk H
           clear H
           obtain ⟨Ao22, co22, eo22⟩ := Kd.R_slice HO_6.out
           subst eo22
           have p554 : 0 ≤ (0 : Int) := (by omega)
           have q554 : 0 < (t549.length : Int) := of_decide_eq_true (by first | (with_reducible assumption) | assumption)
           obtain ⟨ad554, e554, hx554_0, hx554_1, hx554_2⟩ := at_T50 (Kd.R_reads' HO_6.out).2.2 0 p554 q554
           (try rw [← Nbq19.out] at hx554_0)
           cases e554
           have qi554 : (0 < t549.length) = True := eq_true (by omega)
           (try rw [show ((0 : Int)).toNat = 0 from rfl] at hx554_0)
           (try rw [show 0 * 3 = 0 from rfl] at hx554_0)
           (try rw [Addr.add_zero'] at hx554_0)
           (try rw [show ((0 : Int)).toNat = 0 from rfl] at hx554_1)
           (try rw [show 0 * 3 = 0 from rfl] at hx554_1)
           (try rw [Addr.add_zero'] at hx554_1)
           (try rw [show ((0 : Int)).toNat = 0 from rfl] at hx554_2)
           (try rw [show 0 * 3 = 0 from rfl] at hx554_2)
           (try rw [Addr.add_zero'] at hx554_2)
           replace p554 := eq_true p554
           replace q554 := eq_true q554
           have p555 : 0 ≤ (1 : Int) := (by omega)
           have q555 : 1 < (t549.length : Int) := of_decide_eq_true (by first | (with_reducible assumption) | assumption)
           obtain ⟨ad555, e555, hx555_0, hx555_1, hx555_2⟩ := at_T50 (Kd.R_reads' HO_6.out).2.2 1 p555 q555
           (try rw [← Nbq19.out] at hx555_0)
           obtain rfl : ad554 = ad555 := (by injection e555)
           (try simp only [show (1 : Int).toNat = 1 from rfl, Nat.reduceMul, Nat.reduceEqDiff, Go.Addr.add, ↓reduceIte] at hx555_0)
           (try simp only [show (1 : Int).toNat = 1 from rfl, Nat.reduceMul, Nat.reduceEqDiff, Go.Addr.add, ↓reduceIte] at hx555_1)
           (try simp only [show (1 : Int).toNat = 1 from rfl, Nat.reduceMul, Nat.reduceEqDiff, Go.Addr.add, ↓reduceIte] at hx555_2)
           have qi555 : (1 < t549.length) = True := eq_true (by omega)
           (try rw [show ((1 : Int)).toNat = 1 from rfl] at hx555_0)
           (try rw [show 1 * 3 = 3 from rfl] at hx555_0)
           (try rw [show ((1 : Int)).toNat = 1 from rfl] at hx555_1)
           (try rw [show 1 * 3 = 3 from rfl] at hx555_1)
           (try rw [show ((1 : Int)).toNat = 1 from rfl] at hx555_2)
           (try rw [show 1 * 3 = 3 from rfl] at hx555_2)
           replace p555 := eq_true p555
           replace q555 := eq_true q555
           have p556 : 0 ≤ (1 : Int) := (by omega)
           have q556 : 1 < (t549.length : Int) := of_decide_eq_true (by first | (with_reducible assumption) | assumption)
           obtain ⟨ad556, e556, hx556_0, hx556_1, hx556_2⟩ := at_T50 (Kd.R_reads' HO_6.out).2.2 1 p556 q556
           (try rw [← Nbq19.out] at hx556_0)
           obtain rfl : ad554 = ad556 := (by injection e556)
           (try simp only [show (1 : Int).toNat = 1 from rfl, Nat.reduceMul, Nat.reduceEqDiff, Go.Addr.add, ↓reduceIte] at hx556_0)
           (try simp only [show (1 : Int).toNat = 1 from rfl, Nat.reduceMul, Nat.reduceEqDiff, Go.Addr.add, ↓reduceIte] at hx556_1)
           (try simp only [show (1 : Int).toNat = 1 from rfl, Nat.reduceMul, Nat.reduceEqDiff, Go.Addr.add, ↓reduceIte] at hx556_2)
           have qi556 : (1 < t549.length) = True := eq_true (by omega)
           (try rw [show ((1 : Int)).toNat = 1 from rfl] at hx556_0)
           (try rw [show 1 * 3 = 3 from rfl] at hx556_0)
           (try rw [show ((1 : Int)).toNat = 1 from rfl] at hx556_1)
           (try rw [show 1 * 3 = 3 from rfl] at hx556_1)
           (try rw [show ((1 : Int)).toNat = 1 from rfl] at hx556_2)
           (try rw [show 1 * 3 = 3 from rfl] at hx556_2)
           replace p556 := eq_true p556
           replace q556 := eq_true q556
           have p557 : 0 ≤ (1 : Int) := (by omega)
           have q557 : 1 < (t549.length : Int) := of_decide_eq_true (by first | (with_reducible assumption) | assumption)
           obtain ⟨ad557, e557, hx557_0, hx557_1, hx557_2⟩ := at_T50 (Kd.R_reads' HO_6.out).2.2 1 p557 q557
           (try rw [← Nbq19.out] at hx557_0)
           obtain rfl : ad554 = ad557 := (by injection e557)
           (try simp only [show (1 : Int).toNat = 1 from rfl, Nat.reduceMul, Nat.reduceEqDiff, Go.Addr.add, ↓reduceIte] at hx557_0)
           (try simp only [show (1 : Int).toNat = 1 from rfl, Nat.reduceMul, Nat.reduceEqDiff, Go.Addr.add, ↓reduceIte] at hx557_1)
           (try simp only [show (1 : Int).toNat = 1 from rfl, Nat.reduceMul, Nat.reduceEqDiff, Go.Addr.add, ↓reduceIte] at hx557_2)
           have qi557 : (1 < t549.length) = True := eq_true (by omega)
           (try rw [show ((1 : Int)).toNat = 1 from rfl] at hx557_0)
           (try rw [show 1 * 3 = 3 from rfl] at hx557_0)
           (try rw [show ((1 : Int)).toNat = 1 from rfl] at hx557_1)
           (try rw [show 1 * 3 = 3 from rfl] at hx557_1)
           (try rw [show ((1 : Int)).toNat = 1 from rfl] at hx557_2)
           (try rw [show 1 * 3 = 3 from rfl] at hx557_2)
           replace p557 := eq_true p557
           replace q557 := eq_true q557
           go_wp2
           repeat (go_quiet (fail); try go_wp2)
           go_meet
           case rel => exact ⟨_, (decide ((((rd_T50 t549 1).f2).size : Int) ≤ 24)), (by first | rfl | (simp; done) | (simp [*]; done)), H', ⟨by have := HJ5.out; first | omega | exact Nat.le_refl _⟩, ⟨by (with_reducible repeat (first | apply Kd.R_alloc | apply Kd.R_drewN | apply Kd.R_drew)); exact HO_6.out⟩, ⟨by repeat (first | (with_reducible first | exact HB.out | apply below_alloc | apply pw_below_drewN | apply below_drew1) | exact HB.out)⟩⟩
          ·
           rw [if_neg c21] at H
           have c21b0 : decide (1 ≤ (((rd_T50 t549 1).f2).size : Int)) = false := decide_eq_false c21
           have c21b1 : decide (1 ≤ ((rd_T50 t549 1).f2).size) = false := decide_eq_false (by omega)
           clear c21
           have H' := Aside0.mk H
           clear H
           obtain ⟨Ao23, co23, eo23⟩ := Kd.R_slice HO_6.out
           subst eo23
           have p554 : 0 ≤ (0 : Int) := (by omega)
           have q554 : 0 < (t549.length : Int) := of_decide_eq_true (by first | (with_reducible assumption) | assumption)
           obtain ⟨ad554, e554, hx554_0, hx554_1, hx554_2⟩ := at_T50 (Kd.R_reads' HO_6.out).2.2 0 p554 q554
           (try rw [← Nbq19.out] at hx554_0)
           cases e554
           have qi554 : (0 < t549.length) = True := eq_true (by omega)
           (try rw [show ((0 : Int)).toNat = 0 from rfl] at hx554_0)
           (try rw [show 0 * 3 = 0 from rfl] at hx554_0)
           (try rw [Addr.add_zero'] at hx554_0)
           (try rw [show ((0 : Int)).toNat = 0 from rfl] at hx554_1)
           (try rw [show 0 * 3 = 0 from rfl] at hx554_1)
           (try rw [Addr.add_zero'] at hx554_1)
           (try rw [show ((0 : Int)).toNat = 0 from rfl] at hx554_2)
           (try rw [show 0 * 3 = 0 from rfl] at hx554_2)
           (try rw [Addr.add_zero'] at hx554_2)
           replace p554 := eq_true p554
           replace q554 := eq_true q554
           have p555 : 0 ≤ (1 : Int) := (by omega)
           have q555 : 1 < (t549.length : Int) := of_decide_eq_true (by first | (with_reducible assumption) | assumption)
           obtain ⟨ad555, e555, hx555_0, hx555_1, hx555_2⟩ := at_T50 (Kd.R_reads' HO_6.out).2.2 1 p555 q555
           (try rw [← Nbq19.out] at hx555_0)
           obtain rfl : ad554 = ad555 := (by injection e555)
           (try simp only [show (1 : Int).toNat = 1 from rfl, Nat.reduceMul, Nat.reduceEqDiff, Go.Addr.add, ↓reduceIte] at hx555_0)
           (try simp only [show (1 : Int).toNat = 1 from rfl, Nat.reduceMul, Nat.reduceEqDiff, Go.Addr.add, ↓reduceIte] at hx555_1)
           (try simp only [show (1 : Int).toNat = 1 from rfl, Nat.reduceMul, Nat.reduceEqDiff, Go.Addr.add, ↓reduceIte] at hx555_2)
           have qi555 : (1 < t549.length) = True := eq_true (by omega)
           (try rw [show ((1 : Int)).toNat = 1 from rfl] at hx555_0)
           (try rw [show 1 * 3 = 3 from rfl] at hx555_0)
           (try rw [show ((1 : Int)).toNat = 1 from rfl] at hx555_1)
           (try rw [show 1 * 3 = 3 from rfl] at hx555_1)
           (try rw [show ((1 : Int)).toNat = 1 from rfl] at hx555_2)
           (try rw [show 1 * 3 = 3 from rfl] at hx555_2)
           replace p555 := eq_true p555
           replace q555 := eq_true q555
           have p556 : 0 ≤ (1 : Int) := (by omega)
           have q556 : 1 < (t549.length : Int) := of_decide_eq_true (by first | (with_reducible assumption) | assumption)
           obtain ⟨ad556, e556, hx556_0, hx556_1, hx556_2⟩ := at_T50 (Kd.R_reads' HO_6.out).2.2 1 p556 q556
           (try rw [← Nbq19.out] at hx556_0)
           obtain rfl : ad554 = ad556 := (by injection e556)
           (try simp only [show (1 : Int).toNat = 1 from rfl, Nat.reduceMul, Nat.reduceEqDiff, Go.Addr.add, ↓reduceIte] at hx556_0)
           (try simp only [show (1 : Int).toNat = 1 from rfl, Nat.reduceMul, Nat.reduceEqDiff, Go.Addr.add, ↓reduceIte] at hx556_1)
           (try simp only [show (1 : Int).toNat = 1 from rfl, Nat.reduceMul, Nat.reduceEqDiff, Go.Addr.add, ↓reduceIte] at hx556_2)
           have qi556 : (1 < t549.length) = True := eq_true (by omega)
           (try rw [show ((1 : Int)).toNat = 1 from rfl] at hx556_0)
           (try rw [show 1 * 3 = 3 from rfl] at hx556_0)
           (try rw [show ((1 : Int)).toNat = 1 from rfl] at hx556_1)
           (try rw [show 1 * 3 = 3 from rfl] at hx556_1)
           (try rw [show ((1 : Int)).toNat = 1 from rfl] at hx556_2)
           (try rw [show 1 * 3 = 3 from rfl] at hx556_2)
           replace p556 := eq_true p556
           replace q556 := eq_true q556
           go_wp2
           repeat (go_quiet (fail); try go_wp2)
           go_meet
           case rel => exact ⟨_, (false), (by first | rfl | (simp; done) | (simp [*]; done)), H', ⟨by have := HJ5.out; first | omega | exact Nat.le_refl _⟩, ⟨by (with_reducible repeat (first | apply Kd.R_alloc | apply Kd.R_drewN | apply Kd.R_drew)); exact HO_6.out⟩, ⟨by repeat (first | (with_reducible first | exact HB.out | apply below_alloc | apply pw_below_drewN | apply below_drew1) | exact HB.out)⟩⟩
         ·
          replace c20 := Bool.eq_false_iff.mpr c20
          subst c20
          have H1 : (millhandref22_Of.j1 kj5 t549 false) = some (r1, r2, r3, r4) := by rw [if_neg (show ¬ (false = true) by decide)] at H; exact H
          clear H
          have H := H1
          clear H1
          have H' := Aside0.mk H
          clear H
          obtain ⟨Ao24, co24, eo24⟩ := Kd.R_slice HO_6.out
          subst eo24
          have p554 : 0 ≤ (0 : Int) := (by omega)
          have q554 : 0 < (t549.length : Int) := of_decide_eq_true (by first | (with_reducible assumption) | assumption)
          obtain ⟨ad554, e554, hx554_0, hx554_1, hx554_2⟩ := at_T50 (Kd.R_reads' HO_6.out).2.2 0 p554 q554
          (try rw [← Nbq19.out] at hx554_0)
          cases e554
          have qi554 : (0 < t549.length) = True := eq_true (by omega)
          (try rw [show ((0 : Int)).toNat = 0 from rfl] at hx554_0)
          (try rw [show 0 * 3 = 0 from rfl] at hx554_0)
          (try rw [Addr.add_zero'] at hx554_0)
          (try rw [show ((0 : Int)).toNat = 0 from rfl] at hx554_1)
          (try rw [show 0 * 3 = 0 from rfl] at hx554_1)
          (try rw [Addr.add_zero'] at hx554_1)
          (try rw [show ((0 : Int)).toNat = 0 from rfl] at hx554_2)
          (try rw [show 0 * 3 = 0 from rfl] at hx554_2)
          (try rw [Addr.add_zero'] at hx554_2)
          replace p554 := eq_true p554
          replace q554 := eq_true q554
          have p555 : 0 ≤ (1 : Int) := (by omega)
          have q555 : 1 < (t549.length : Int) := of_decide_eq_true (by first | (with_reducible assumption) | assumption)
          obtain ⟨ad555, e555, hx555_0, hx555_1, hx555_2⟩ := at_T50 (Kd.R_reads' HO_6.out).2.2 1 p555 q555
          (try rw [← Nbq19.out] at hx555_0)
          obtain rfl : ad554 = ad555 := (by injection e555)
          (try simp only [show (1 : Int).toNat = 1 from rfl, Nat.reduceMul, Nat.reduceEqDiff, Go.Addr.add, ↓reduceIte] at hx555_0)
          (try simp only [show (1 : Int).toNat = 1 from rfl, Nat.reduceMul, Nat.reduceEqDiff, Go.Addr.add, ↓reduceIte] at hx555_1)
          (try simp only [show (1 : Int).toNat = 1 from rfl, Nat.reduceMul, Nat.reduceEqDiff, Go.Addr.add, ↓reduceIte] at hx555_2)
          have qi555 : (1 < t549.length) = True := eq_true (by omega)
          (try rw [show ((1 : Int)).toNat = 1 from rfl] at hx555_0)
          (try rw [show 1 * 3 = 3 from rfl] at hx555_0)
          (try rw [show ((1 : Int)).toNat = 1 from rfl] at hx555_1)
          (try rw [show 1 * 3 = 3 from rfl] at hx555_1)
          (try rw [show ((1 : Int)).toNat = 1 from rfl] at hx555_2)
          (try rw [show 1 * 3 = 3 from rfl] at hx555_2)
          replace p555 := eq_true p555
          replace q555 := eq_true q555
          go_wp2
          repeat (go_quiet (fail); try go_wp2)
          go_meet
          case rel => exact ⟨_, (false), (by first | rfl | (simp; done) | (simp [*]; done)), H', ⟨by have := HJ5.out; first | omega | exact Nat.le_refl _⟩, ⟨by (with_reducible repeat (first | apply Kd.R_alloc | apply Kd.R_drewN | apply Kd.R_drew)); exact HO_6.out⟩, ⟨by repeat (first | (with_reducible first | exact HB.out | apply below_alloc | apply pw_below_drewN | apply below_drew1) | exact HB.out)⟩⟩
        ·
         rw [if_neg c18] at H
         exact absurd H (by simp)
       ·
        rw [if_neg c17] at H
        have c17b0 : (((rd_T50 t549 0).f2).toList == ([107] : List UInt8)) = false := beq_eq_false_iff_ne.mpr c17
        have c17b1 : (((rd_T50 t549 0).f2).toList != ([107] : List UInt8)) = true := bne_iff_ne.mpr c17
        have H' := Aside0.mk H
        clear H
        obtain ⟨Ao25, co25, eo25⟩ := Kd.R_slice HO_6.out
        subst eo25
        have p554 : 0 ≤ (0 : Int) := (by omega)
        have q554 : 0 < (t549.length : Int) := of_decide_eq_true (by first | (with_reducible assumption) | assumption)
        obtain ⟨ad554, e554, hx554_0, hx554_1, hx554_2⟩ := at_T50 (Kd.R_reads' HO_6.out).2.2 0 p554 q554
        cases e554
        have qi554 : (0 < t549.length) = True := eq_true (by omega)
        (try rw [show ((0 : Int)).toNat = 0 from rfl] at hx554_0)
        (try rw [show 0 * 3 = 0 from rfl] at hx554_0)
        (try rw [Addr.add_zero'] at hx554_0)
        (try rw [show ((0 : Int)).toNat = 0 from rfl] at hx554_1)
        (try rw [show 0 * 3 = 0 from rfl] at hx554_1)
        (try rw [Addr.add_zero'] at hx554_1)
        (try rw [show ((0 : Int)).toNat = 0 from rfl] at hx554_2)
        (try rw [show 0 * 3 = 0 from rfl] at hx554_2)
        (try rw [Addr.add_zero'] at hx554_2)
        replace p554 := eq_true p554
        replace q554 := eq_true q554
        go_wp2
        repeat (go_quiet (fail); try go_wp2)
        go_meet
        case rel => exact ⟨_, (false), (by first | rfl | (simp; done) | (simp [*]; done)), H', ⟨by have := HJ5.out; first | omega | exact Nat.le_refl _⟩, ⟨by (with_reducible repeat (first | apply Kd.R_alloc | apply Kd.R_drewN | apply Kd.R_drew)); exact HO_6.out⟩, ⟨by repeat (first | (with_reducible first | exact HB.out | apply below_alloc | apply pw_below_drewN | apply below_drew1) | exact HB.out)⟩⟩
      ·
       rw [if_neg c16] at H
       exact absurd H (by simp)
     case rest =>
      clear HC15
      try clear c1
      try clear q1
      try clear c2
      try clear p2
      try clear c3
      try clear c3b0
      try clear c3b1
      try clear p5
      try clear q5
      try clear hx5
      try clear qi5
      try clear c9
      try clear c9b0
      try clear c9b1
      try clear c10
      try clear c10b0
      try clear c10b1
      try clear c11
      try clear c11b0
      try clear c11b1
      try clear c14
      try clear c16
      try clear c16b0
      try clear c16b1
      try clear c17
      try clear c17b0
      try clear c17b1
      try clear c18
      try clear c18b0
      try clear c18b1
      try clear q19
      try clear c20
      try clear c21
      try clear c21b0
      try clear c21b1
      try clear hx553_0
      try clear hx553_1
      try clear hx553_2
      try clear hx554_0
      try clear hx554_1
      try clear hx554_2
      try clear hx555_0
      try clear hx555_1
      try clear hx555_2
      try clear hx556_0
      try clear hx556_1
      try clear hx556_2
      try clear hx557_0
      try clear hx557_1
      try clear hx557_2
      try clear p2
      try clear p5
      try clear p553
      try clear p554
      try clear p555
      try clear p556
      try clear p557
      try clear q5
      try clear q553
      try clear q554
      try clear q555
      try clear q556
      try clear q557
      obtain ⟨kq, x56_14, rfl, HA, HJ14, HO_6, HB⟩ := hcut
      cases kq with
      | zero => exact absurd HA.out (by simp [millhandref22_Of.j1])
      | succ kj14 =>
       have H := HA.out
       clear HA
       simp only [millhandref22_Of.j1] at H
       by_cases c26 : x56_14 = true
       ·
        subst c26
        have H1 : (if 1 < (t549.length : Int) then (some (3, 0, (rd_T50 t549 1).f2, 0)) else (none)) = some (r1, r2, r3, r4) := by rw [if_pos rfl] at H; exact H
        clear H
        have H := H1
        clear H1
        by_cases c27 : 1 < (t549.length : Int)
        ·
         rw [if_pos c27] at H
         have c27b0 : decide (1 < (t549.length : Int)) = true := decide_eq_true c27
         have c27b1 : decide (1 < t549.length) = true := decide_eq_true (by omega)
         clear c27
         simp only [Option.some.injEq, Prod.mk.injEq] at H
         obtain ⟨rfl, rfl, rfl, rfl⟩ := H
         obtain ⟨Ao28, co28, eo28⟩ := Kd.R_slice HO_6.out
         subst eo28
         have p558 : 0 ≤ (1 : Int) := (by omega)
         have q558 : 1 < (t549.length : Int) := of_decide_eq_true (by first | (with_reducible assumption) | assumption)
         obtain ⟨ad558, e558, hx558_0, hx558_1, hx558_2⟩ := at_T50 (Kd.R_reads' HO_6.out).2.2 1 p558 q558
         cases e558
         (try simp only [show (1 : Int).toNat = 1 from rfl, Nat.reduceMul, Nat.reduceEqDiff, Go.Addr.add, ↓reduceIte] at hx558_0)
         (try simp only [show (1 : Int).toNat = 1 from rfl, Nat.reduceMul, Nat.reduceEqDiff, Go.Addr.add, ↓reduceIte] at hx558_1)
         (try simp only [show (1 : Int).toNat = 1 from rfl, Nat.reduceMul, Nat.reduceEqDiff, Go.Addr.add, ↓reduceIte] at hx558_2)
         have qi558 : (1 < t549.length) = True := eq_true (by omega)
         (try rw [show ((1 : Int)).toNat = 1 from rfl] at hx558_0)
         (try rw [show 1 * 3 = 3 from rfl] at hx558_0)
         (try rw [show ((1 : Int)).toNat = 1 from rfl] at hx558_1)
         (try rw [show 1 * 3 = 3 from rfl] at hx558_1)
         (try rw [show ((1 : Int)).toNat = 1 from rfl] at hx558_2)
         (try rw [show 1 * 3 = 3 from rfl] at hx558_2)
         replace p558 := eq_true p558
         replace q558 := eq_true q558
         go_wp2
         repeat (go_quiet (fail); try go_wp2)
         refine bodyPost_ret (results_list (rs := [.tmp 2, .tmp 3, .tmp 4, .tmp 5]) rfl (by simp) (.tmp (.tmp (.tmp (.tmp .nil))))) rfl ?_
         exact ⟨by first | rfl | (simp [errW_none, errW_some] <;> rfl) | (simp [*, errW_none, errW_some] <;> rfl) | exact ret_ie _ | (simp [*, errW_none, errW_some, bne]; done), by repeat (first | (with_reducible first | exact HB.out | apply below_alloc | apply pw_below_drewN | apply below_drew1) | exact HB.out)⟩
        ·
         rw [if_neg c27] at H
         exact absurd H (by simp)
       ·
        replace c26 := Bool.eq_false_iff.mpr c26
        subst c26
        have H1 : (if 1 < (t549.length : Int) then (if (rd_T50 t549 1).f0 = true then (millhandref22_Of.j2 kj14 t549 true) else (millhandref22_Of.j2 kj14 t549 (decide (((rd_T50 t549 1).f1) > 1099511627776)))) else (none)) = some (r1, r2, r3, r4) := by rw [if_neg (show ¬ (false = true) by decide)] at H; exact H
        clear H
        have H := H1
        clear H1
        have HC29 := Aside0.mk H
        clear H
        go_upto_region 8 with (fail)
        repeat (go_quiet (fail); go_upto_region 8 with (fail))
        go_cut [71] (fun v71 wc => ∃ (kq : Nat) (x71_28 : Bool), v71 = .bool x71_28 ∧ Aside0 (millhandref22_Of.j2 kq t549 x71_28 = some (r1, r2, r3, r4)) ∧ Aside0 (kq ≤ kj14) ∧ Aside0 (Kd.R k50 50 wc w.heap.size (fun _ => True) v551 t549) ∧ Aside0 (Below w.heap.size w wc))
        case first =>
         have H := HC29.out
         clear HC29
         by_cases c30 : 1 < (t549.length : Int)
         ·
          rw [if_pos c30] at H
          have c30b0 : decide (1 < (t549.length : Int)) = true := decide_eq_true c30
          have c30b1 : decide (1 < t549.length) = true := decide_eq_true (by omega)
          clear c30
          (first | rw [c30b0] | (simp only [i64_w, i32_w]; rw [c30b0]) | skip)
          obtain ⟨bq31, hbq31⟩ : ∃ b_ : Bool, b_ = ((rd_T50 t549 1).f0) := ⟨_, rfl⟩
          replace H : (if bq31 = true then (millhandref22_Of.j2 kj14 t549 true) else (millhandref22_Of.j2 kj14 t549 (decide (((rd_T50 t549 1).f1) > 1099511627776)))) = some (r1, r2, r3, r4) := by rw [← hbq31] at H; exact H
          have Nbq31 := Aside0.mk hbq31
          clear hbq31
          by_cases c32 : bq31 = true
          ·
           subst c32
           have H1 : (millhandref22_Of.j2 kj14 t549 true) = some (r1, r2, r3, r4) := by rw [if_pos rfl] at H; exact H
           clear H
           have H := H1
           clear H1
           have H' := Aside0.mk H
           clear H
           obtain ⟨Ao33, co33, eo33⟩ := Kd.R_slice HO_6.out
           subst eo33
           have p559 : 0 ≤ (1 : Int) := (by omega)
           have q559 : 1 < (t549.length : Int) := of_decide_eq_true (by first | (with_reducible assumption) | assumption)
           obtain ⟨ad559, e559, hx559_0, hx559_1, hx559_2⟩ := at_T50 (Kd.R_reads' HO_6.out).2.2 1 p559 q559
           (try rw [← Nbq31.out] at hx559_0)
           cases e559
           (try simp only [show (1 : Int).toNat = 1 from rfl, Nat.reduceMul, Nat.reduceEqDiff, Go.Addr.add, ↓reduceIte] at hx559_0)
           (try simp only [show (1 : Int).toNat = 1 from rfl, Nat.reduceMul, Nat.reduceEqDiff, Go.Addr.add, ↓reduceIte] at hx559_1)
           (try simp only [show (1 : Int).toNat = 1 from rfl, Nat.reduceMul, Nat.reduceEqDiff, Go.Addr.add, ↓reduceIte] at hx559_2)
           have qi559 : (1 < t549.length) = True := eq_true (by omega)
           (try rw [show ((1 : Int)).toNat = 1 from rfl] at hx559_0)
           (try rw [show 1 * 3 = 3 from rfl] at hx559_0)
           (try rw [show ((1 : Int)).toNat = 1 from rfl] at hx559_1)
           (try rw [show 1 * 3 = 3 from rfl] at hx559_1)
           (try rw [show ((1 : Int)).toNat = 1 from rfl] at hx559_2)
           (try rw [show 1 * 3 = 3 from rfl] at hx559_2)
           replace p559 := eq_true p559
           replace q559 := eq_true q559
           go_wp2
           repeat (go_quiet (fail); try go_wp2)
           go_meet
           case rel => exact ⟨_, (true), (by first | rfl | (simp; done) | (simp [*]; done)), H', ⟨by have := HJ5.out; have := HJ14.out; first | omega | exact Nat.le_refl _⟩, ⟨by (with_reducible repeat (first | apply Kd.R_alloc | apply Kd.R_drewN | apply Kd.R_drew)); exact HO_6.out⟩, ⟨by repeat (first | (with_reducible first | exact HB.out | apply below_alloc | apply pw_below_drewN | apply below_drew1) | exact HB.out)⟩⟩
          ·
           replace c32 := Bool.eq_false_iff.mpr c32
           subst c32
           have H1 : (millhandref22_Of.j2 kj14 t549 (decide (((rd_T50 t549 1).f1) > 1099511627776))) = some (r1, r2, r3, r4) := by rw [if_neg (show ¬ (false = true) by decide)] at H; exact H
           clear H
           have H := H1
           clear H1
           have H' := Aside0.mk H
           clear H
           obtain ⟨Ao34, co34, eo34⟩ := Kd.R_slice HO_6.out
           subst eo34
           have p559 : 0 ≤ (1 : Int) := (by omega)
           have q559 : 1 < (t549.length : Int) := of_decide_eq_true (by first | (with_reducible assumption) | assumption)
           obtain ⟨ad559, e559, hx559_0, hx559_1, hx559_2⟩ := at_T50 (Kd.R_reads' HO_6.out).2.2 1 p559 q559
           (try rw [← Nbq31.out] at hx559_0)
           cases e559
           (try simp only [show (1 : Int).toNat = 1 from rfl, Nat.reduceMul, Nat.reduceEqDiff, Go.Addr.add, ↓reduceIte] at hx559_0)
           (try simp only [show (1 : Int).toNat = 1 from rfl, Nat.reduceMul, Nat.reduceEqDiff, Go.Addr.add, ↓reduceIte] at hx559_1)
           (try simp only [show (1 : Int).toNat = 1 from rfl, Nat.reduceMul, Nat.reduceEqDiff, Go.Addr.add, ↓reduceIte] at hx559_2)
           have qi559 : (1 < t549.length) = True := eq_true (by omega)
           (try rw [show ((1 : Int)).toNat = 1 from rfl] at hx559_0)
           (try rw [show 1 * 3 = 3 from rfl] at hx559_0)
           (try rw [show ((1 : Int)).toNat = 1 from rfl] at hx559_1)
           (try rw [show 1 * 3 = 3 from rfl] at hx559_1)
           (try rw [show ((1 : Int)).toNat = 1 from rfl] at hx559_2)
           (try rw [show 1 * 3 = 3 from rfl] at hx559_2)
           replace p559 := eq_true p559
           replace q559 := eq_true q559
           have p560 : 0 ≤ (1 : Int) := (by omega)
           have q560 : 1 < (t549.length : Int) := of_decide_eq_true (by first | (with_reducible assumption) | assumption)
           obtain ⟨ad560, e560, hx560_0, hx560_1, hx560_2⟩ := at_T50 (Kd.R_reads' HO_6.out).2.2 1 p560 q560
           (try rw [← Nbq31.out] at hx560_0)
           obtain rfl : ad559 = ad560 := (by injection e560)
           (try simp only [show (1 : Int).toNat = 1 from rfl, Nat.reduceMul, Nat.reduceEqDiff, Go.Addr.add, ↓reduceIte] at hx560_0)
           (try simp only [show (1 : Int).toNat = 1 from rfl, Nat.reduceMul, Nat.reduceEqDiff, Go.Addr.add, ↓reduceIte] at hx560_1)
           (try simp only [show (1 : Int).toNat = 1 from rfl, Nat.reduceMul, Nat.reduceEqDiff, Go.Addr.add, ↓reduceIte] at hx560_2)
           have qi560 : (1 < t549.length) = True := eq_true (by omega)
           (try rw [show ((1 : Int)).toNat = 1 from rfl] at hx560_0)
           (try rw [show 1 * 3 = 3 from rfl] at hx560_0)
           (try rw [show ((1 : Int)).toNat = 1 from rfl] at hx560_1)
           (try rw [show 1 * 3 = 3 from rfl] at hx560_1)
           (try rw [show ((1 : Int)).toNat = 1 from rfl] at hx560_2)
           (try rw [show 1 * 3 = 3 from rfl] at hx560_2)
           replace p560 := eq_true p560
           replace q560 := eq_true q560
           go_wp2
           repeat (go_quiet (fail); try go_wp2)
           go_meet
           case rel => exact ⟨_, (decide (((rd_T50 t549 1).f1) > 1099511627776)), (by first | rfl | (simp; done) | (simp [*]; done)), H', ⟨by have := HJ5.out; have := HJ14.out; first | omega | exact Nat.le_refl _⟩, ⟨by (with_reducible repeat (first | apply Kd.R_alloc | apply Kd.R_drewN | apply Kd.R_drew)); exact HO_6.out⟩, ⟨by repeat (first | (with_reducible first | exact HB.out | apply below_alloc | apply pw_below_drewN | apply below_drew1) | exact HB.out)⟩⟩
         ·
          rw [if_neg c30] at H
          exact absurd H (by simp)
        case rest =>
         clear HC29
         try clear c1
         try clear q1
         try clear c2
         try clear p2
         try clear c3
         try clear c3b0
         try clear c3b1
         try clear q3
         try clear p5
         try clear q5
         try clear hx5
         try clear qi5
         try clear c9
         try clear c9b0
         try clear c9b1
         try clear c10
         try clear c10b0
         try clear c10b1
         try clear c11
         try clear c11b0
         try clear c11b1
         try clear c14
         try clear c16
         try clear c16b0
         try clear c16b1
         try clear c17
         try clear c17b0
         try clear c17b1
         try clear c18
         try clear c18b0
         try clear c18b1
         try clear q19
         try clear c20
         try clear c21
         try clear c21b0
         try clear c21b1
         try clear c26
         try clear c27
         try clear c27b0
         try clear c27b1
         try clear c30
         try clear c30b0
         try clear c30b1
         try clear q31
         try clear c32
         try clear hx553_0
         try clear hx553_1
         try clear hx553_2
         try clear hx554_0
         try clear hx554_1
         try clear hx554_2
         try clear hx555_0
         try clear hx555_1
         try clear hx555_2
         try clear hx556_0
         try clear hx556_1
         try clear hx556_2
         try clear hx557_0
         try clear hx557_1
         try clear hx557_2
         try clear hx558_0
         try clear hx558_1
         try clear hx558_2
         try clear hx559_0
         try clear hx559_1
         try clear hx559_2
         try clear hx560_0
         try clear hx560_1
         try clear hx560_2
         try clear p2
         try clear p5
         try clear p553
         try clear p554
         try clear p555
         try clear p556
         try clear p557
         try clear p558
         try clear p559
         try clear p560
         try clear q1
         try clear q19
         try clear q5
         try clear q553
         try clear q554
         try clear q555
         try clear q556
         try clear q557
         try clear q558
         try clear q559
         try clear q560
         obtain ⟨kq, x71_28, rfl, HA, HJ28, HO_6, HB⟩ := hcut
         cases kq with
         | zero => exact absurd HA.out (by simp [millhandref22_Of.j2])
         | succ kj28 =>
          have H := HA.out
          clear HA
          simp only [millhandref22_Of.j2] at H
          by_cases c35 : x71_28 = true
          ·
           subst c35
           have H1 : (some (0, 0, (⟨#[]⟩ : ByteArray), 8)) = some (r1, r2, r3, r4) := by rw [if_pos rfl] at H; exact H
           clear H
           have H := H1
           clear H1
           simp only [Option.some.injEq, Prod.mk.injEq] at H
           obtain ⟨rfl, rfl, rfl, rfl⟩ := H
           go_wp2
           repeat (go_quiet (fail); try go_wp2)
           refine bodyPost_ret (results_list (rs := [.tmp 2, .tmp 3, .tmp 4, .tmp 5]) rfl (by simp) (.tmp (.tmp (.tmp (.tmp .nil))))) rfl ?_
           exact ⟨by first | rfl | (simp [errW_none, errW_some] <;> rfl) | (simp [*, errW_none, errW_some] <;> rfl) | exact ret_ie _ | (simp [*, errW_none, errW_some, bne]; done), by repeat (first | (with_reducible first | exact HB.out | apply below_alloc | apply pw_below_drewN | apply below_drew1) | exact HB.out)⟩
          ·
           replace c35 := Bool.eq_false_iff.mpr c35
           subst c35
           have H1 : (if 0 < (t549.length : Int) then (if ((rd_T50 t549 0).f2).toList = ([101] : List UInt8) then (if 1 < (t549.length : Int) then (millhandref22_Of.j3 kj28 t549 (decide (((rd_T50 t549 1).f1) > 0))) else (none)) else (millhandref22_Of.j3 kj28 t549 false)) else (none)) = some (r1, r2, r3, r4) := by rw [if_neg (show ¬ (false = true) by decide)] at H; exact H
           clear H
           have H := H1
           clear H1
           have HC36 := Aside0.mk H
           clear H
           go_upto_region 10 with (fail)
           repeat (go_quiet (fail); go_upto_region 10 with (fail))
           go_cut [83] (fun v83 wc => ∃ (kq : Nat) (x83_35 : Bool), v83 = .bool x83_35 ∧ Aside0 (millhandref22_Of.j3 kq t549 x83_35 = some (r1, r2, r3, r4)) ∧ Aside0 (kq ≤ kj28) ∧ Aside0 (Kd.R k50 50 wc w.heap.size (fun _ => True) v551 t549) ∧ Aside0 (Below w.heap.size w wc))
           case first =>
            have H := HC36.out
            clear HC36
            by_cases c37 : 0 < (t549.length : Int)
            ·
             rw [if_pos c37] at H
             have c37b0 : decide (0 < (t549.length : Int)) = true := decide_eq_true c37
             have c37b1 : decide (0 < t549.length) = true := decide_eq_true (by omega)
             clear c37
             (first | rw [c37b0] | (simp only [i64_w, i32_w]; rw [c37b0]) | skip)
             by_cases c38 : ((rd_T50 t549 0).f2).toList = ([101] : List UInt8)
             ·
              rw [if_pos c38] at H
              have c38b0 : (((rd_T50 t549 0).f2).toList == ([101] : List UInt8)) = true := beq_iff_eq.mpr c38
              have c38b1 : (((rd_T50 t549 0).f2).toList != ([101] : List UInt8)) = false := bne_eq_false_iff_eq.mpr c38
              clear c38
              by_cases c39 : 1 < (t549.length : Int)
              ·
               rw [if_pos c39] at H
               have c39b0 : decide (1 < (t549.length : Int)) = true := decide_eq_true c39
               have c39b1 : decide (1 < t549.length) = true := decide_eq_true (by omega)
               clear c39
               have H' := Aside0.mk H
               clear H
               obtain ⟨Ao40, co40, eo40⟩ := Kd.R_slice HO_6.out
               subst eo40
               have p561 : 0 ≤ (0 : Int) := (by omega)
               have q561 : 0 < (t549.length : Int) := of_decide_eq_true (by first | (with_reducible assumption) | assumption)
               obtain ⟨ad561, e561, hx561_0, hx561_1, hx561_2⟩ := at_T50 (Kd.R_reads' HO_6.out).2.2 0 p561 q561
               cases e561
               have qi561 : (0 < t549.length) = True := eq_true (by omega)
               (try rw [show ((0 : Int)).toNat = 0 from rfl] at hx561_0)
               (try rw [show 0 * 3 = 0 from rfl] at hx561_0)
               (try rw [Addr.add_zero'] at hx561_0)
               (try rw [show ((0 : Int)).toNat = 0 from rfl] at hx561_1)
               (try rw [show 0 * 3 = 0 from rfl] at hx561_1)
               (try rw [Addr.add_zero'] at hx561_1)
               (try rw [show ((0 : Int)).toNat = 0 from rfl] at hx561_2)
               (try rw [show 0 * 3 = 0 from rfl] at hx561_2)
               (try rw [Addr.add_zero'] at hx561_2)
               replace p561 := eq_true p561
               replace q561 := eq_true q561
               have p562 : 0 ≤ (1 : Int) := (by omega)
               have q562 : 1 < (t549.length : Int) := of_decide_eq_true (by first | (with_reducible assumption) | assumption)
               obtain ⟨ad562, e562, hx562_0, hx562_1, hx562_2⟩ := at_T50 (Kd.R_reads' HO_6.out).2.2 1 p562 q562
               obtain rfl : ad561 = ad562 := (by injection e562)
               (try simp only [show (1 : Int).toNat = 1 from rfl, Nat.reduceMul, Nat.reduceEqDiff, Go.Addr.add, ↓reduceIte] at hx562_0)
               (try simp only [show (1 : Int).toNat = 1 from rfl, Nat.reduceMul, Nat.reduceEqDiff, Go.Addr.add, ↓reduceIte] at hx562_1)
               (try simp only [show (1 : Int).toNat = 1 from rfl, Nat.reduceMul, Nat.reduceEqDiff, Go.Addr.add, ↓reduceIte] at hx562_2)
               have qi562 : (1 < t549.length) = True := eq_true (by omega)
               (try rw [show ((1 : Int)).toNat = 1 from rfl] at hx562_0)
               (try rw [show 1 * 3 = 3 from rfl] at hx562_0)
               (try rw [show ((1 : Int)).toNat = 1 from rfl] at hx562_1)
               (try rw [show 1 * 3 = 3 from rfl] at hx562_1)
               (try rw [show ((1 : Int)).toNat = 1 from rfl] at hx562_2)
               (try rw [show 1 * 3 = 3 from rfl] at hx562_2)
               replace p562 := eq_true p562
               replace q562 := eq_true q562
               go_wp2
               repeat (go_quiet (fail); try go_wp2)
               go_meet
               case rel => exact ⟨_, (decide (((rd_T50 t549 1).f1) > 0)), (by first | rfl | (simp; done) | (simp [*]; done)), H', ⟨by have := HJ5.out; have := HJ14.out; have := HJ28.out; first | omega | exact Nat.le_refl _⟩, ⟨by (with_reducible repeat (first | apply Kd.R_alloc | apply Kd.R_drewN | apply Kd.R_drew)); exact HO_6.out⟩, ⟨by repeat (first | (with_reducible first | exact HB.out | apply below_alloc | apply pw_below_drewN | apply below_drew1) | exact HB.out)⟩⟩
              ·
               rw [if_neg c39] at H
               exact absurd H (by simp)
             ·
              rw [if_neg c38] at H
              have c38b0 : (((rd_T50 t549 0).f2).toList == ([101] : List UInt8)) = false := beq_eq_false_iff_ne.mpr c38
              have c38b1 : (((rd_T50 t549 0).f2).toList != ([101] : List UInt8)) = true := bne_iff_ne.mpr c38
              have H' := Aside0.mk H
              clear H
              obtain ⟨Ao41, co41, eo41⟩ := Kd.R_slice HO_6.out
              subst eo41
              have p561 : 0 ≤ (0 : Int) := (by omega)
              have q561 : 0 < (t549.length : Int) := of_decide_eq_true (by first | (with_reducible assumption) | assumption)
              obtain ⟨ad561, e561, hx561_0, hx561_1, hx561_2⟩ := at_T50 (Kd.R_reads' HO_6.out).2.2 0 p561 q561
              cases e561
              have qi561 : (0 < t549.length) = True := eq_true (by omega)
              (try rw [show ((0 : Int)).toNat = 0 from rfl] at hx561_0)
              (try rw [show 0 * 3 = 0 from rfl] at hx561_0)
              (try rw [Addr.add_zero'] at hx561_0)
              (try rw [show ((0 : Int)).toNat = 0 from rfl] at hx561_1)
              (try rw [show 0 * 3 = 0 from rfl] at hx561_1)
              (try rw [Addr.add_zero'] at hx561_1)
              (try rw [show ((0 : Int)).toNat = 0 from rfl] at hx561_2)
              (try rw [show 0 * 3 = 0 from rfl] at hx561_2)
              (try rw [Addr.add_zero'] at hx561_2)
              replace p561 := eq_true p561
              replace q561 := eq_true q561
              go_wp2
              repeat (go_quiet (fail); try go_wp2)
              go_meet
              case rel => exact ⟨_, (false), (by first | rfl | (simp; done) | (simp [*]; done)), H', ⟨by have := HJ5.out; have := HJ14.out; have := HJ28.out; first | omega | exact Nat.le_refl _⟩, ⟨by (with_reducible repeat (first | apply Kd.R_alloc | apply Kd.R_drewN | apply Kd.R_drew)); exact HO_6.out⟩, ⟨by repeat (first | (with_reducible first | exact HB.out | apply below_alloc | apply pw_below_drewN | apply below_drew1) | exact HB.out)⟩⟩
            ·
             rw [if_neg c37] at H
             exact absurd H (by simp)
           case rest =>
            clear HC36
            try clear c1
            try clear q1
            try clear c2
            try clear p2
            try clear c3
            try clear c3b0
            try clear c3b1
            try clear q3
            try clear p5
            try clear q5
            try clear hx5
            try clear qi5
            try clear c9
            try clear c9b0
            try clear c9b1
            try clear c10
            try clear c10b0
            try clear c10b1
            try clear c11
            try clear c11b0
            try clear c11b1
            try clear c14
            try clear c16
            try clear c16b0
            try clear c16b1
            try clear c17
            try clear c17b0
            try clear c17b1
            try clear c18
            try clear c18b0
            try clear c18b1
            try clear q19
            try clear c20
            try clear c21
            try clear c21b0
            try clear c21b1
            try clear c26
            try clear c27
            try clear c27b0
            try clear c27b1
            try clear c30
            try clear c30b0
            try clear c30b1
            try clear q31
            try clear c32
            try clear c35
            try clear c37
            try clear c37b0
            try clear c37b1
            try clear c38
            try clear c38b0
            try clear c38b1
            try clear c39
            try clear c39b0
            try clear c39b1
            try clear hx553_0
            try clear hx553_1
            try clear hx553_2
            try clear hx554_0
            try clear hx554_1
            try clear hx554_2
            try clear hx555_0
            try clear hx555_1
            try clear hx555_2
            try clear hx556_0
            try clear hx556_1
            try clear hx556_2
            try clear hx557_0
            try clear hx557_1
            try clear hx557_2
            try clear hx558_0
            try clear hx558_1
            try clear hx558_2
            try clear hx559_0
            try clear hx559_1
            try clear hx559_2
            try clear hx560_0
            try clear hx560_1
            try clear hx560_2
            try clear hx561_0
            try clear hx561_1
            try clear hx561_2
            try clear hx562_0
            try clear hx562_1
            try clear hx562_2
            try clear p2
            try clear p5
            try clear p553
            try clear p554
            try clear p555
            try clear p556
            try clear p557
            try clear p558
            try clear p559
            try clear p560
            try clear p561
            try clear p562
            try clear q1
            try clear q19
            try clear q3
            try clear q31
            try clear q5
            try clear q553
            try clear q554
            try clear q555
            try clear q556
            try clear q557
            try clear q558
            try clear q559
            try clear q560
            try clear q561
            try clear q562
            obtain ⟨kq, x83_35, rfl, HA, HJ35, HO_6, HB⟩ := hcut
            cases kq with
            | zero => exact absurd HA.out (by simp [millhandref22_Of.j3])
            | succ kj35 =>
             have H := HA.out
             clear HA
             simp only [millhandref22_Of.j3] at H
             by_cases c42 : x83_35 = true
             ·
              subst c42
              have H1 : (if 1 < (t549.length : Int) then (some (1, wrap64 ((rd_T50 t549 1).f1), (⟨#[]⟩ : ByteArray), 0)) else (none)) = some (r1, r2, r3, r4) := by rw [if_pos rfl] at H; exact H
              clear H
              have H := H1
              clear H1
              by_cases c43 : 1 < (t549.length : Int)
              ·
               rw [if_pos c43] at H
               have c43b0 : decide (1 < (t549.length : Int)) = true := decide_eq_true c43
               have c43b1 : decide (1 < t549.length) = true := decide_eq_true (by omega)
               clear c43
               simp only [Option.some.injEq, Prod.mk.injEq] at H
               obtain ⟨rfl, rfl, rfl, rfl⟩ := H
               obtain ⟨Ao44, co44, eo44⟩ := Kd.R_slice HO_6.out
               subst eo44
               have p563 : 0 ≤ (1 : Int) := (by omega)
               have q563 : 1 < (t549.length : Int) := of_decide_eq_true (by first | (with_reducible assumption) | assumption)
               obtain ⟨ad563, e563, hx563_0, hx563_1, hx563_2⟩ := at_T50 (Kd.R_reads' HO_6.out).2.2 1 p563 q563
               cases e563
               (try simp only [show (1 : Int).toNat = 1 from rfl, Nat.reduceMul, Nat.reduceEqDiff, Go.Addr.add, ↓reduceIte] at hx563_0)
               (try simp only [show (1 : Int).toNat = 1 from rfl, Nat.reduceMul, Nat.reduceEqDiff, Go.Addr.add, ↓reduceIte] at hx563_1)
               (try simp only [show (1 : Int).toNat = 1 from rfl, Nat.reduceMul, Nat.reduceEqDiff, Go.Addr.add, ↓reduceIte] at hx563_2)
               have qi563 : (1 < t549.length) = True := eq_true (by omega)
               (try rw [show ((1 : Int)).toNat = 1 from rfl] at hx563_0)
               (try rw [show 1 * 3 = 3 from rfl] at hx563_0)
               (try rw [show ((1 : Int)).toNat = 1 from rfl] at hx563_1)
               (try rw [show 1 * 3 = 3 from rfl] at hx563_1)
               (try rw [show ((1 : Int)).toNat = 1 from rfl] at hx563_2)
               (try rw [show 1 * 3 = 3 from rfl] at hx563_2)
               replace p563 := eq_true p563
               replace q563 := eq_true q563
               go_wp2
               repeat (go_quiet (fail); try go_wp2)
               refine bodyPost_ret (results_list (rs := [.tmp 2, .tmp 3, .tmp 4, .tmp 5]) rfl (by simp) (.tmp (.tmp (.tmp (.tmp .nil))))) rfl ?_
               exact ⟨by first | rfl | (simp [errW_none, errW_some] <;> rfl) | (simp [*, errW_none, errW_some] <;> rfl) | exact ret_ie _ | (simp [*, errW_none, errW_some, bne]; done), by repeat (first | (with_reducible first | exact HB.out | apply below_alloc | apply pw_below_drewN | apply below_drew1) | exact HB.out)⟩
              ·
               rw [if_neg c43] at H
               exact absurd H (by simp)
             ·
              replace c42 := Bool.eq_false_iff.mpr c42
              subst c42
              have H1 : (if 0 < (t549.length : Int) then (if ((rd_T50 t549 0).f2).toList = ([114] : List UInt8) then (if 1 < (t549.length : Int) then (some (4, wrap64 ((rd_T50 t549 1).f1), (⟨#[]⟩ : ByteArray), 0)) else (none)) else (some (0, 0, (⟨#[]⟩ : ByteArray), 8))) else (none)) = some (r1, r2, r3, r4) := by rw [if_neg (show ¬ (false = true) by decide)] at H; exact H
              clear H
              have H := H1
              clear H1
              by_cases c45 : 0 < (t549.length : Int)
              ·
               rw [if_pos c45] at H
               have c45b0 : decide (0 < (t549.length : Int)) = true := decide_eq_true c45
               have c45b1 : decide (0 < t549.length) = true := decide_eq_true (by omega)
               clear c45
               by_cases c46 : ((rd_T50 t549 0).f2).toList = ([114] : List UInt8)
               ·
                rw [if_pos c46] at H
                have c46b0 : (((rd_T50 t549 0).f2).toList == ([114] : List UInt8)) = true := beq_iff_eq.mpr c46
                have c46b1 : (((rd_T50 t549 0).f2).toList != ([114] : List UInt8)) = false := bne_eq_false_iff_eq.mpr c46
                clear c46
                by_cases c47 : 1 < (t549.length : Int)
                ·
                 rw [if_pos c47] at H
                 have c47b0 : decide (1 < (t549.length : Int)) = true := decide_eq_true c47
                 have c47b1 : decide (1 < t549.length) = true := decide_eq_true (by omega)
                 clear c47
                 simp only [Option.some.injEq, Prod.mk.injEq] at H
                 obtain ⟨rfl, rfl, rfl, rfl⟩ := H
                 obtain ⟨Ao48, co48, eo48⟩ := Kd.R_slice HO_6.out
                 subst eo48
                 have p564 : 0 ≤ (0 : Int) := (by omega)
                 have q564 : 0 < (t549.length : Int) := of_decide_eq_true (by first | (with_reducible assumption) | assumption)
                 obtain ⟨ad564, e564, hx564_0, hx564_1, hx564_2⟩ := at_T50 (Kd.R_reads' HO_6.out).2.2 0 p564 q564
                 cases e564
                 have qi564 : (0 < t549.length) = True := eq_true (by omega)
                 (try rw [show ((0 : Int)).toNat = 0 from rfl] at hx564_0)
                 (try rw [show 0 * 3 = 0 from rfl] at hx564_0)
                 (try rw [Addr.add_zero'] at hx564_0)
                 (try rw [show ((0 : Int)).toNat = 0 from rfl] at hx564_1)
                 (try rw [show 0 * 3 = 0 from rfl] at hx564_1)
                 (try rw [Addr.add_zero'] at hx564_1)
                 (try rw [show ((0 : Int)).toNat = 0 from rfl] at hx564_2)
                 (try rw [show 0 * 3 = 0 from rfl] at hx564_2)
                 (try rw [Addr.add_zero'] at hx564_2)
                 replace p564 := eq_true p564
                 replace q564 := eq_true q564
                 have p565 : 0 ≤ (1 : Int) := (by omega)
                 have q565 : 1 < (t549.length : Int) := of_decide_eq_true (by first | (with_reducible assumption) | assumption)
                 obtain ⟨ad565, e565, hx565_0, hx565_1, hx565_2⟩ := at_T50 (Kd.R_reads' HO_6.out).2.2 1 p565 q565
                 obtain rfl : ad564 = ad565 := (by injection e565)
                 (try simp only [show (1 : Int).toNat = 1 from rfl, Nat.reduceMul, Nat.reduceEqDiff, Go.Addr.add, ↓reduceIte] at hx565_0)
                 (try simp only [show (1 : Int).toNat = 1 from rfl, Nat.reduceMul, Nat.reduceEqDiff, Go.Addr.add, ↓reduceIte] at hx565_1)
                 (try simp only [show (1 : Int).toNat = 1 from rfl, Nat.reduceMul, Nat.reduceEqDiff, Go.Addr.add, ↓reduceIte] at hx565_2)
                 have qi565 : (1 < t549.length) = True := eq_true (by omega)
                 (try rw [show ((1 : Int)).toNat = 1 from rfl] at hx565_0)
                 (try rw [show 1 * 3 = 3 from rfl] at hx565_0)
                 (try rw [show ((1 : Int)).toNat = 1 from rfl] at hx565_1)
                 (try rw [show 1 * 3 = 3 from rfl] at hx565_1)
                 (try rw [show ((1 : Int)).toNat = 1 from rfl] at hx565_2)
                 (try rw [show 1 * 3 = 3 from rfl] at hx565_2)
                 replace p565 := eq_true p565
                 replace q565 := eq_true q565
                 go_wp2
                 repeat (go_quiet (fail); try go_wp2)
                 refine bodyPost_ret (results_list (rs := [.tmp 2, .tmp 3, .tmp 4, .tmp 5]) rfl (by simp) (.tmp (.tmp (.tmp (.tmp .nil))))) rfl ?_
                 exact ⟨by first | rfl | (simp [errW_none, errW_some] <;> rfl) | (simp [*, errW_none, errW_some] <;> rfl) | exact ret_ie _ | (simp [*, errW_none, errW_some, bne]; done), by repeat (first | (with_reducible first | exact HB.out | apply below_alloc | apply pw_below_drewN | apply below_drew1) | exact HB.out)⟩
                ·
                 rw [if_neg c47] at H
                 exact absurd H (by simp)
               ·
                rw [if_neg c46] at H
                have c46b0 : (((rd_T50 t549 0).f2).toList == ([114] : List UInt8)) = false := beq_eq_false_iff_ne.mpr c46
                have c46b1 : (((rd_T50 t549 0).f2).toList != ([114] : List UInt8)) = true := bne_iff_ne.mpr c46
                simp only [Option.some.injEq, Prod.mk.injEq] at H
                obtain ⟨rfl, rfl, rfl, rfl⟩ := H
                obtain ⟨Ao49, co49, eo49⟩ := Kd.R_slice HO_6.out
                subst eo49
                have p564 : 0 ≤ (0 : Int) := (by omega)
                have q564 : 0 < (t549.length : Int) := of_decide_eq_true (by first | (with_reducible assumption) | assumption)
                obtain ⟨ad564, e564, hx564_0, hx564_1, hx564_2⟩ := at_T50 (Kd.R_reads' HO_6.out).2.2 0 p564 q564
                cases e564
                have qi564 : (0 < t549.length) = True := eq_true (by omega)
                (try rw [show ((0 : Int)).toNat = 0 from rfl] at hx564_0)
                (try rw [show 0 * 3 = 0 from rfl] at hx564_0)
                (try rw [Addr.add_zero'] at hx564_0)
                (try rw [show ((0 : Int)).toNat = 0 from rfl] at hx564_1)
                (try rw [show 0 * 3 = 0 from rfl] at hx564_1)
                (try rw [Addr.add_zero'] at hx564_1)
                (try rw [show ((0 : Int)).toNat = 0 from rfl] at hx564_2)
                (try rw [show 0 * 3 = 0 from rfl] at hx564_2)
                (try rw [Addr.add_zero'] at hx564_2)
                replace p564 := eq_true p564
                replace q564 := eq_true q564
                go_wp2
                repeat (go_quiet (fail); try go_wp2)
                refine bodyPost_ret (results_list (rs := [.tmp 2, .tmp 3, .tmp 4, .tmp 5]) rfl (by simp) (.tmp (.tmp (.tmp (.tmp .nil))))) rfl ?_
                exact ⟨by first | rfl | (simp [errW_none, errW_some] <;> rfl) | (simp [*, errW_none, errW_some] <;> rfl) | exact ret_ie _ | (simp [*, errW_none, errW_some, bne]; done), by repeat (first | (with_reducible first | exact HB.out | apply below_alloc | apply pw_below_drewN | apply below_drew1) | exact HB.out)⟩
              ·
               rw [if_neg c45] at H
               exact absurd H (by simp)

end Go.Proofs.YtagdmgjdhbmaiaaDoor.R

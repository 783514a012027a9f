/- Contracts of Go functions and what they come to, over the translation of this seat: made by a program of this session (print2.py). -/
import Derived.Test.YtagdmgjdhbmaiaaDoorOrd
import Derived.Test.YtagdmgjdhbmaiaaDoorRx0
import Derived.Test.YtagdmgjdhbmaiaaDoorRx23
import Derived.Test.YtagdmgjdhbmaiaaDoorRx28
namespace Go.Proofs.YtagdmgjdhbmaiaaDoor.R
open Go.RowKit Go.Proofs.YtagdmgjdhbmaiaaDoor.Co Go.Proofs.YtagdmgjdhbmaiaaDoor.Ret Go.Proofs.YtagdmgjdhbmaiaaDoor.Plain Go.Proofs.YtagdmgjdhbmaiaaDoor.Box Go.Proofs.YtagdmgjdhbmaiaaDoorW.PrintWords Go.Proofs.YtagdmgjdhbmaiaaDoorW.PrintLast Go.Proofs.YtagdmgjdhbmaiaaDoorW.PrintMore
attribute [local go_sem] max2_int min2_int max_two min_two max_three min_three max_four min_four   -- for this text's walks alone
set_option linter.unusedVariables false
set_option linter.unusedSimpArgs false

/-! ### millhandlaw22_in: function 54 -/
def millhandlaw22_in.l0 : Nat → ByteArray → Int → Int → Option (Bool)
 | 0, _, _, _ => none
 | k + 1, x0, x1, x5 => if x5 ≤ 4 then ((keys_Range.f k x5).bind fun bt600 => (if bt600.2.2 = 0 then (if ((Op.bytesLess x0.toList bt600.1.toList) = true) then (if (false != (x5 == x1)) = true then (some false) else (millhandlaw22_in.l0 k x0 x1 ((x5 + 1) % 256))) else (if ((Op.bytesLess x0.toList bt600.2.1.toList) != (x5 == x1)) = true then (some false) else (millhandlaw22_in.l0 k x0 x1 ((x5 + 1) % 256)))) else (some false))) else (some true)
def millhandlaw22_in.f (k : Nat) (a0 : ByteArray) (a1 : Int) : Option (Bool) := millhandlaw22_in.l0 k a0 a1 1
theorem millhandlaw22_in.mono_l : ∀ k, (∀ y0 y1 y2, LeO (millhandlaw22_in.l0 k y0 y1 y2) (millhandlaw22_in.l0 (k + 1) y0 y1 y2))
 | 0 => fun _ _ _ r h => by simp [millhandlaw22_in.l0] at h
 | k + 1 => by
  have ih0 := millhandlaw22_in.mono_l k
  ·
   intro y0 y1 y2
   unfold millhandlaw22_in.l0
   repeat' first
   | (with_reducible exact ih0 _ _ _)
   | (with_reducible exact keys_Range.mono _ _)
   | (with_reducible exact LeO.refl _)
   | (with_reducible exact LeO.none _)
   | (with_reducible refine LeO.ite ?_ ?_)
   | (with_reducible refine LeO.bind ?_ (fun _ => ?_))
   | exact ih0 _ _ _
   | exact keys_Range.mono _ _
   | exact LeO.none _
   | refine LeO.ite ?_ ?_
   | refine LeO.bind ?_ (fun _ => ?_)
theorem millhandlaw22_in.mono : ∀ a0 a1 k, LeO (millhandlaw22_in.f k a0 a1) (millhandlaw22_in.f (k + 1) a0 a1) := by
 intro a0 a1 k
 have ih0 := millhandlaw22_in.mono_l k
 unfold millhandlaw22_in.f
 repeat' first
   | (with_reducible exact ih0 _ _ _)
   | (with_reducible exact keys_Range.mono _ _)
   | (with_reducible exact LeO.refl _)
   | (with_reducible exact LeO.none _)
   | (with_reducible refine LeO.ite ?_ ?_)
   | (with_reducible refine LeO.bind ?_ (fun _ => ?_))
   | exact ih0 _ _ _
   | exact keys_Range.mono _ _
   | exact LeO.none _
   | refine LeO.ite ?_ ?_
   | refine LeO.bind ?_ (fun _ => ?_)
set_option maxHeartbeats 8000000 in
set_option maxRecDepth 100000 in
theorem millhandlaw22_in.calls (k : Nat) (a0 : ByteArray) (a1 : Int) (r : Bool) (w : World) (h : millhandlaw22_in.f k a0 a1 = some r) :
  Calls Tryd.prog 54 #[.string a0, .int .u8 a1] w fun e w' => e = .returned (.bool r) ∧ Below w.heap.size w w' := by
 have gq1_ := @Ord.gtr_
 have gq2_ := @Ord.leq_
 have gq3_ := @Ord.geq_
 have HB := Aside0.mk (Below.refl w.heap.size w)
 have H : (millhandlaw22_in.l0 k a0 a1 1) = some r := h
 clear h
 have H' := Aside0.mk H
 clear H
 go_enter Tryd.func54, Tryd.ntmps54
 go_wp2
 go_loopg [5] k (fun kq v5 w' => ∃ (x5_1 : Int), v5 = .int .u8 x5_1 ∧ Aside0 (millhandlaw22_in.l0 kq a0 a1 x5_1 = some r) ∧ Aside0 (kq ≤ k) ∧ Aside0 (Below w.heap.size w w'))
 case atStart => exact ⟨(1), (by first | rfl | (simp; done) | (simp [*]; done)), H', ⟨Nat.le_refl _⟩, ⟨by repeat (first | (with_reducible first | exact HB.out | apply below_alloc | apply pw_below_drewN | apply below_drew1) | exact HB.out)⟩⟩
 case round =>
  clear H'
  try clear p2
  obtain ⟨x5_1, rfl, HA, HK1, HB⟩ := hrel
  cases gk with
  | zero => exact absurd HA.out (by simp [millhandlaw22_in.l0])
  | succ k1 =>
   have H := HA.out
   clear HA
   simp only [millhandlaw22_in.l0] at H
   by_cases c3 : x5_1 ≤ 4
   ·
    rw [if_pos c3] at H
    have c3b0 : decide (x5_1 ≤ 4) = true := decide_eq_true c3
    clear c3
    replace H := Option.bind_eq_some_iff.mp H
    obtain ⟨⟨t600, t601, t602⟩, A40, H⟩ := H
    replace H : (if t602 = 0 then (if ((Op.bytesLess a0.toList t600.toList) = true) then (if (false != (x5_1 == a1)) = true then (some false) else (millhandlaw22_in.l0 k1 a0 a1 ((x5_1 + 1) % 256))) else (if ((Op.bytesLess a0.toList t601.toList) != (x5_1 == a1)) = true then (some false) else (millhandlaw22_in.l0 k1 a0 a1 ((x5_1 + 1) % 256)))) else (some false)) = some r := H
    have A4 := Aside0.mk A40
    clear A40
    by_cases c5 : t602 = 0
    ·
     rw [if_pos c5] at H
     have c5b0 : (t602 == 0) = true := beq_iff_eq.mpr c5
     have c5b1 : (t602 != 0) = false := bne_eq_false_iff_eq.mpr c5
     clear c5
     by_cases c6 : ((Op.bytesLess a0.toList t600.toList) = true)
     ·
      rw [if_pos c6] at H
      have c6b0 : (Op.bytesLess a0.toList t600.toList) = true := c6
      clear c6
      by_cases c7 : (false != (x5_1 == a1)) = true
      ·
       rw [if_pos c7] at H
       have c7b0 : (false != (x5_1 == a1)) = true := c7
       (try (have c7b1 : decide (false = (x5_1 == a1)) = false := by simpa using c7))
       (try (have c7b2 : (false == (x5_1 == a1)) = false := by simpa using c7))
       (try (have c7b3 : ¬ (false = (x5_1 == a1)) := by simpa using c7))
       clear c7
       obtain rfl := Option.some.inj H
       go_wp2_with (first | ((with_reducible refine gate_callee (f := 40) rfl ?_); refine goesL_ (some 15) rfl rfl Tryd.func40 (by kernel_rfl) rfl #[.int .u8 x5_1] rfl (by (try simp only [List.map_toArray, List.map_cons, List.map_nil]); first | done | rfl | (simp only [List.length_drop, List.length_take]; rfl)) ?_; (with_reducible refine (keys_Range.calls k1 x5_1 t600 t601 t602 _ A4.out).mono ?_); rintro e w8 ⟨rfl, hb⟩; refine ⟨_, rfl, ?_⟩; have n0_ := Aside0.mk (below_step (by repeat (first | (with_reducible first | exact HB.out | apply below_alloc | apply pw_below_drewN | apply below_drew1) | exact HB.out)) hb); clear HB; have HB := n0_; clear n0_; (try clear hb); (try clear hb2); (try clear hk); (try clear hi)))
       go_ret
       exact ⟨by first | rfl | (simp [errW_none, errW_some] <;> rfl) | (simp [*, errW_none, errW_some] <;> rfl) | exact ret_ie _ | (simp [*, errW_none, errW_some, bne]; done), by repeat (first | (with_reducible first | exact HB.out | apply below_alloc | apply pw_below_drewN | apply below_drew1) | exact HB.out)⟩
      ·
       rw [if_neg c7] at H
       have c7b0 : (false != (x5_1 == a1)) = false := by simpa using c7
       (try (have c7b1 : decide (false = (x5_1 == a1)) = true := by simpa using c7))
       (try (have c7b2 : (false == (x5_1 == a1)) = true := by simpa using c7))
       clear c7
       have H' := Aside0.mk H
       clear H
       go_wp2_with (first | ((with_reducible refine gate_callee (f := 40) rfl ?_); refine goesL_ (some 15) rfl rfl Tryd.func40 (by kernel_rfl) rfl #[.int .u8 x5_1] rfl (by (try simp only [List.map_toArray, List.map_cons, List.map_nil]); first | done | rfl | (simp only [List.length_drop, List.length_take]; rfl)) ?_; (with_reducible refine (keys_Range.calls k1 x5_1 t600 t601 t602 _ A4.out).mono ?_); rintro e w9 ⟨rfl, hb⟩; refine ⟨_, rfl, ?_⟩; have n0_ := Aside0.mk (below_step (by repeat (first | (with_reducible first | exact HB.out | apply below_alloc | apply pw_below_drewN | apply below_drew1) | exact HB.out)) hb); clear HB; have HB := n0_; clear n0_; (try clear hb); (try clear hb2); (try clear hk); (try clear hi)))
       go_roundg k1
       case measure => have := HK1.out; omega
       case rel => exact ⟨((x5_1 + 1) % 256), (by first | rfl | (simp; done) | (simp [*]; done)), H', ⟨by have := HK1.out; omega⟩, ⟨by repeat (first | (with_reducible first | exact HB.out | apply below_alloc | apply pw_below_drewN | apply below_drew1) | exact HB.out)⟩⟩
     ·
      rw [if_neg c6] at H
      have c6b0 : (Op.bytesLess a0.toList t600.toList) = false := by simpa using c6
      clear c6
      by_cases c10 : ((Op.bytesLess a0.toList t601.toList) != (x5_1 == a1)) = true
      ·
       rw [if_pos c10] at H
       have c10b0 : ((Op.bytesLess a0.toList t601.toList) != (x5_1 == a1)) = true := c10
       (try (have c10b1 : decide ((Op.bytesLess a0.toList t601.toList) = (x5_1 == a1)) = false := by simpa using c10))
       (try (have c10b2 : ((Op.bytesLess a0.toList t601.toList) == (x5_1 == a1)) = false := by simpa using c10))
       (try (have c10b3 : ¬ ((Op.bytesLess a0.toList t601.toList) = (x5_1 == a1)) := by simpa using c10))
       clear c10
       obtain rfl := Option.some.inj H
       go_wp2_with (first | ((with_reducible refine gate_callee (f := 40) rfl ?_); refine goesL_ (some 15) rfl rfl Tryd.func40 (by kernel_rfl) rfl #[.int .u8 x5_1] rfl (by (try simp only [List.map_toArray, List.map_cons, List.map_nil]); first | done | rfl | (simp only [List.length_drop, List.length_take]; rfl)) ?_; (with_reducible refine (keys_Range.calls k1 x5_1 t600 t601 t602 _ A4.out).mono ?_); rintro e w11 ⟨rfl, hb⟩; refine ⟨_, rfl, ?_⟩; have n0_ := Aside0.mk (below_step (by repeat (first | (with_reducible first | exact HB.out | apply below_alloc | apply pw_below_drewN | apply below_drew1) | exact HB.out)) hb); clear HB; have HB := n0_; clear n0_; (try clear hb); (try clear hb2); (try clear hk); (try clear hi)))
       go_ret
       exact ⟨by first | rfl | (simp [errW_none, errW_some] <;> rfl) | (simp [*, errW_none, errW_some] <;> rfl) | exact ret_ie _ | (simp [*, errW_none, errW_some, bne]; done), by repeat (first | (with_reducible first | exact HB.out | apply below_alloc | apply pw_below_drewN | apply below_drew1) | exact HB.out)⟩
      ·
       rw [if_neg c10] at H
       have c10b0 : ((Op.bytesLess a0.toList t601.toList) != (x5_1 == a1)) = false := by simpa using c10
       (try (have c10b1 : decide ((Op.bytesLess a0.toList t601.toList) = (x5_1 == a1)) = true := by simpa using c10))
       (try (have c10b2 : ((Op.bytesLess a0.toList t601.toList) == (x5_1 == a1)) = true := by simpa using c10))
       clear c10
       have H' := Aside0.mk H
       clear H
       go_wp2_with (first | ((with_reducible refine gate_callee (f := 40) rfl ?_); refine goesL_ (some 15) rfl rfl Tryd.func40 (by kernel_rfl) rfl #[.int .u8 x5_1] rfl (by (try simp only [List.map_toArray, List.map_cons, List.map_nil]); first | done | rfl | (simp only [List.length_drop, List.length_take]; rfl)) ?_; (with_reducible refine (keys_Range.calls k1 x5_1 t600 t601 t602 _ A4.out).mono ?_); rintro e w12 ⟨rfl, hb⟩; refine ⟨_, rfl, ?_⟩; have n0_ := Aside0.mk (below_step (by repeat (first | (with_reducible first | exact HB.out | apply below_alloc | apply pw_below_drewN | apply below_drew1) | exact HB.out)) hb); clear HB; have HB := n0_; clear n0_; (try clear hb); (try clear hb2); (try clear hk); (try clear hi)))
       go_roundg k1
       case measure => have := HK1.out; omega
       case rel => exact ⟨((x5_1 + 1) % 256), (by first | rfl | (simp; done) | (simp [*]; done)), H', ⟨by have := HK1.out; omega⟩, ⟨by repeat (first | (with_reducible first | exact HB.out | apply below_alloc | apply pw_below_drewN | apply below_drew1) | exact HB.out)⟩⟩
    ·
     rw [if_neg c5] at H
     have c5b0 : (t602 == 0) = false := beq_eq_false_iff_ne.mpr c5
     have c5b1 : (t602 != 0) = true := bne_iff_ne.mpr c5
     obtain rfl := Option.some.inj H
     go_wp2_with (first | ((with_reducible refine gate_callee (f := 40) rfl ?_); refine goesL_ (some 15) rfl rfl Tryd.func40 (by kernel_rfl) rfl #[.int .u8 x5_1] rfl (by (try simp only [List.map_toArray, List.map_cons, List.map_nil]); first | done | rfl | (simp only [List.length_drop, List.length_take]; rfl)) ?_; (with_reducible refine (keys_Range.calls k1 x5_1 t600 t601 t602 _ A4.out).mono ?_); rintro e w13 ⟨rfl, hb⟩; refine ⟨_, rfl, ?_⟩; have n0_ := Aside0.mk (below_step (by repeat (first | (with_reducible first | exact HB.out | apply below_alloc | apply pw_below_drewN | apply below_drew1) | exact HB.out)) hb); clear HB; have HB := n0_; clear n0_; (try clear hb); (try clear hb2); (try clear hk); (try clear hi)))
     go_ret
     exact ⟨by first | rfl | (simp [errW_none, errW_some] <;> rfl) | (simp [*, errW_none, errW_some] <;> rfl) | exact ret_ie _ | (simp [*, errW_none, errW_some, bne]; done), by repeat (first | (with_reducible first | exact HB.out | apply below_alloc | apply pw_below_drewN | apply below_drew1) | exact HB.out)⟩
   ·
    rw [if_neg c3] at H
    have c3b0 : decide (x5_1 ≤ 4) = false := decide_eq_false c3
    clear c3
    obtain rfl := Option.some.inj H
    go_wp2
    go_ret
    exact ⟨by first | rfl | (simp [errW_none, errW_some] <;> rfl) | (simp [*, errW_none, errW_some] <;> rfl) | exact ret_ie _ | (simp [*, errW_none, errW_some, bne]; done), by repeat (first | (with_reducible first | exact HB.out | apply below_alloc | apply pw_below_drewN | apply below_drew1) | exact HB.out)⟩

/-! ### millhandlaw22_is: function 43 -/
def millhandlaw22_is.f (k : Nat) (a0 : ByteArray) (a1 : Int) (a2 : Int) (a3 : ByteArray) : Option (Bool) := (keys_Of.f k a0).bind fun bt603 => (if bt603.2.2.2 = 0 then (if bt603.1 = a1 then (if bt603.2.1 = a2 then (if bt603.2.2.1.toList = a3.toList then ((millhandlaw22_in.f k a0 a1).bind fun t607 => (if t607 = true then (if (a0.size : Int) ≥ 1 then (some (decide ((a0.size : Int) ≤ 64))) else (some false)) else (some false))) else (some false)) else (some false)) else (some false)) else (some false))
theorem millhandlaw22_is.mono : ∀ a0 a1 a2 a3 k, LeO (millhandlaw22_is.f k a0 a1 a2 a3) (millhandlaw22_is.f (k + 1) a0 a1 a2 a3) := by
 intro a0 a1 a2 a3 k
 unfold millhandlaw22_is.f
 repeat' first
   | (with_reducible exact keys_Of.mono _ _)
   | (with_reducible exact millhandlaw22_in.mono _ _ _)
   | (with_reducible exact LeO.refl _)
   | (with_reducible exact LeO.none _)
   | (with_reducible refine LeO.ite ?_ ?_)
   | (with_reducible refine LeO.bind ?_ (fun _ => ?_))
   | exact keys_Of.mono _ _
   | exact millhandlaw22_in.mono _ _ _
   | exact LeO.none _
   | refine LeO.ite ?_ ?_
   | refine LeO.bind ?_ (fun _ => ?_)
set_option maxHeartbeats 8000000 in
set_option maxRecDepth 100000 in
theorem millhandlaw22_is.calls (k : Nat) (a0 : ByteArray) (a1 : Int) (a2 : Int) (a3 : ByteArray) (r : Bool) (w : World) (h : millhandlaw22_is.f k a0 a1 a2 a3 = some r) :
  Calls Tryd.prog 43 #[.string a0, .int .u8 a1, .int .i64 a2, .string a3] w fun e w' => e = .returned (.bool r) ∧ Below w.heap.size w w' := by
 have HB := Aside0.mk (Below.refl w.heap.size w)
 have H : ((keys_Of.f k a0).bind fun bt603 => (if bt603.2.2.2 = 0 then (if bt603.1 = a1 then (if bt603.2.1 = a2 then (if bt603.2.2.1.toList = a3.toList then ((millhandlaw22_in.f k a0 a1).bind fun t607 => (if t607 = true then (if (a0.size : Int) ≥ 1 then (some (decide ((a0.size : Int) ≤ 64))) else (some false)) else (some false))) else (some false)) else (some false)) else (some false)) else (some false))) = some r := h
 clear h
 replace H := Option.bind_eq_some_iff.mp H
 obtain ⟨⟨t603, t604, t605, t606⟩, A50, H⟩ := H
 replace H : (if t606 = 0 then (if t603 = a1 then (if t604 = a2 then (if t605.toList = a3.toList then ((millhandlaw22_in.f k a0 a1).bind fun t607 => (if t607 = true then (if (a0.size : Int) ≥ 1 then (some (decide ((a0.size : Int) ≤ 64))) else (some false)) else (some false))) else (some false)) else (some false)) else (some false)) else (some false)) = some r := H
 have A5 := Aside0.mk A50
 clear A50
 by_cases c6 : t606 = 0
 ·
  rw [if_pos c6] at H
  have c6b0 : (t606 == 0) = true := beq_iff_eq.mpr c6
  have c6b1 : (t606 != 0) = false := bne_eq_false_iff_eq.mpr c6
  clear c6
  by_cases c7 : t603 = a1
  ·
   rw [if_pos c7] at H
   have c7b0 : (t603 == a1) = true := beq_iff_eq.mpr c7
   have c7b1 : (t603 != a1) = false := bne_eq_false_iff_eq.mpr c7
   clear c7
   by_cases c8 : t604 = a2
   ·
    rw [if_pos c8] at H
    have c8b0 : (t604 == a2) = true := beq_iff_eq.mpr c8
    have c8b1 : (t604 != a2) = false := bne_eq_false_iff_eq.mpr c8
    clear c8
    by_cases c9 : t605.toList = a3.toList
    ·
     rw [if_pos c9] at H
     have c9b0 : (t605.toList == a3.toList) = true := beq_iff_eq.mpr c9
     have c9b1 : (t605.toList != a3.toList) = false := bne_eq_false_iff_eq.mpr c9
     clear c9
     replace H := Option.bind_eq_some_iff.mp H
     obtain ⟨t607, A100, H⟩ := H
     replace H : (if t607 = true then (if (a0.size : Int) ≥ 1 then (some (decide ((a0.size : Int) ≤ 64))) else (some false)) else (some false)) = some r := H
     have A10 := Aside0.mk A100
     clear A100
     by_cases c11 : t607 = true
     ·
      subst c11
      have H1 : (if (a0.size : Int) ≥ 1 then (some (decide ((a0.size : Int) ≤ 64))) else (some false)) = some r := by rw [if_pos rfl] at H; exact H
      clear H
      have H := H1
      clear H1
      by_cases c12 : (a0.size : Int) ≥ 1
      ·
       rw [if_pos c12] at H
       have c12b0 : decide (1 ≤ (a0.size : Int)) = true := decide_eq_true c12
       have c12b1 : decide (1 ≤ a0.size) = true := decide_eq_true (by omega)
       clear c12
       obtain rfl := Option.some.inj H
       go_enter Tryd.func43, Tryd.ntmps43
       go_wp2_with (first | ((with_reducible refine gate_callee (f := 34) rfl ?_); refine goesL_ (some 15) rfl rfl Tryd.func34 (by kernel_rfl) rfl #[.string a0] rfl (by (try simp only [List.map_toArray, List.map_cons, List.map_nil]); first | done | rfl | (simp only [List.length_drop, List.length_take]; rfl)) ?_; (with_reducible refine (keys_Of.calls k a0 t603 t604 t605 t606 _ A5.out).mono ?_); rintro e w13 ⟨rfl, hb⟩; refine ⟨_, rfl, ?_⟩; have n0_ := Aside0.mk (below_step (by repeat (first | (with_reducible first | exact HB.out | apply below_alloc | apply pw_below_drewN | apply below_drew1) | exact HB.out)) hb); clear HB; have HB := n0_; clear n0_; (try clear hb); (try clear hb2); (try clear hk); (try clear hi)) | (go_at_call 54; (with_reducible refine (millhandlaw22_in.calls k a0 a1 true _ A10.out).mono ?_); rintro e w14 ⟨rfl, hb⟩; have n0_ := Aside0.mk (below_step (by repeat (first | (with_reducible first | exact HB.out | apply below_alloc | apply pw_below_drewN | apply below_drew1) | exact HB.out)) hb); clear HB; have HB := n0_; clear n0_; (try clear hb); (try clear hb2); (try clear hk); (try clear hi)))
       go_ret
       exact ⟨by first | rfl | (simp [errW_none, errW_some] <;> rfl) | (simp [*, errW_none, errW_some] <;> rfl) | exact ret_ie _ | (simp [*, errW_none, errW_some, bne]; done), by repeat (first | (with_reducible first | exact HB.out | apply below_alloc | apply pw_below_drewN | apply below_drew1) | exact HB.out)⟩
      ·
       rw [if_neg c12] at H
       have c12b0 : decide (1 ≤ (a0.size : Int)) = false := decide_eq_false c12
       have c12b1 : decide (1 ≤ a0.size) = false := decide_eq_false (by omega)
       clear c12
       obtain rfl := Option.some.inj H
       go_enter Tryd.func43, Tryd.ntmps43
       go_wp2_with (first | ((with_reducible refine gate_callee (f := 34) rfl ?_); refine goesL_ (some 15) rfl rfl Tryd.func34 (by kernel_rfl) rfl #[.string a0] rfl (by (try simp only [List.map_toArray, List.map_cons, List.map_nil]); first | done | rfl | (simp only [List.length_drop, List.length_take]; rfl)) ?_; (with_reducible refine (keys_Of.calls k a0 t603 t604 t605 t606 _ A5.out).mono ?_); rintro e w15 ⟨rfl, hb⟩; refine ⟨_, rfl, ?_⟩; have n0_ := Aside0.mk (below_step (by repeat (first | (with_reducible first | exact HB.out | apply below_alloc | apply pw_below_drewN | apply below_drew1) | exact HB.out)) hb); clear HB; have HB := n0_; clear n0_; (try clear hb); (try clear hb2); (try clear hk); (try clear hi)) | (go_at_call 54; (with_reducible refine (millhandlaw22_in.calls k a0 a1 true _ A10.out).mono ?_); rintro e w16 ⟨rfl, hb⟩; have n0_ := Aside0.mk (below_step (by repeat (first | (with_reducible first | exact HB.out | apply below_alloc | apply pw_below_drewN | apply below_drew1) | exact HB.out)) hb); clear HB; have HB := n0_; clear n0_; (try clear hb); (try clear hb2); (try clear hk); (try clear hi)))
       go_ret
       exact ⟨by first | rfl | (simp [errW_none, errW_some] <;> rfl) | (simp [*, errW_none, errW_some] <;> rfl) | exact ret_ie _ | (simp [*, errW_none, errW_some, bne]; done), by repeat (first | (with_reducible first | exact HB.out | apply below_alloc | apply pw_below_drewN | apply below_drew1) | exact HB.out)⟩
     ·
      replace c11 := Bool.eq_false_iff.mpr c11
      subst c11
      have H1 : (some false) = some r := by rw [if_neg (show ¬ (false = true) by decide)] at H; exact H
      clear H
      have H := H1
      clear H1
      obtain rfl := Option.some.inj H
      go_enter Tryd.func43, Tryd.ntmps43
      go_wp2_with (first | ((with_reducible refine gate_callee (f := 34) rfl ?_); refine goesL_ (some 15) rfl rfl Tryd.func34 (by kernel_rfl) rfl #[.string a0] rfl (by (try simp only [List.map_toArray, List.map_cons, List.map_nil]); first | done | rfl | (simp only [List.length_drop, List.length_take]; rfl)) ?_; (with_reducible refine (keys_Of.calls k a0 t603 t604 t605 t606 _ A5.out).mono ?_); rintro e w17 ⟨rfl, hb⟩; refine ⟨_, rfl, ?_⟩; have n0_ := Aside0.mk (below_step (by repeat (first | (with_reducible first | exact HB.out | apply below_alloc | apply pw_below_drewN | apply below_drew1) | exact HB.out)) hb); clear HB; have HB := n0_; clear n0_; (try clear hb); (try clear hb2); (try clear hk); (try clear hi)) | (go_at_call 54; (with_reducible refine (millhandlaw22_in.calls k a0 a1 false _ A10.out).mono ?_); rintro e w18 ⟨rfl, hb⟩; have n0_ := Aside0.mk (below_step (by repeat (first | (with_reducible first | exact HB.out | apply below_alloc | apply pw_below_drewN | apply below_drew1) | exact HB.out)) hb); clear HB; have HB := n0_; clear n0_; (try clear hb); (try clear hb2); (try clear hk); (try clear hi)))
      go_ret
      exact ⟨by first | rfl | (simp [errW_none, errW_some] <;> rfl) | (simp [*, errW_none, errW_some] <;> rfl) | exact ret_ie _ | (simp [*, errW_none, errW_some, bne]; done), by repeat (first | (with_reducible first | exact HB.out | apply below_alloc | apply pw_below_drewN | apply below_drew1) | exact HB.out)⟩
    ·
     rw [if_neg c9] at H
     have c9b0 : (t605.toList == a3.toList) = false := beq_eq_false_iff_ne.mpr c9
     have c9b1 : (t605.toList != a3.toList) = true := bne_iff_ne.mpr c9
     obtain rfl := Option.some.inj H
     go_enter Tryd.func43, Tryd.ntmps43
     go_wp2_with (first | ((with_reducible refine gate_callee (f := 34) rfl ?_); refine goesL_ (some 15) rfl rfl Tryd.func34 (by kernel_rfl) rfl #[.string a0] rfl (by (try simp only [List.map_toArray, List.map_cons, List.map_nil]); first | done | rfl | (simp only [List.length_drop, List.length_take]; rfl)) ?_; (with_reducible refine (keys_Of.calls k a0 t603 t604 t605 t606 _ A5.out).mono ?_); rintro e w19 ⟨rfl, hb⟩; refine ⟨_, rfl, ?_⟩; have n0_ := Aside0.mk (below_step (by repeat (first | (with_reducible first | exact HB.out | apply below_alloc | apply pw_below_drewN | apply below_drew1) | exact HB.out)) hb); clear HB; have HB := n0_; clear n0_; (try clear hb); (try clear hb2); (try clear hk); (try clear hi)))
     go_ret
     exact ⟨by first | rfl | (simp [errW_none, errW_some] <;> rfl) | (simp [*, errW_none, errW_some] <;> rfl) | exact ret_ie _ | (simp [*, errW_none, errW_some, bne]; done), by repeat (first | (with_reducible first | exact HB.out | apply below_alloc | apply pw_below_drewN | apply below_drew1) | exact HB.out)⟩
   ·
    rw [if_neg c8] at H
    have c8b0 : (t604 == a2) = false := beq_eq_false_iff_ne.mpr c8
    have c8b1 : (t604 != a2) = true := bne_iff_ne.mpr c8
    obtain rfl := Option.some.inj H
    go_enter Tryd.func43, Tryd.ntmps43
    go_wp2_with (first | ((with_reducible refine gate_callee (f := 34) rfl ?_); refine goesL_ (some 15) rfl rfl Tryd.func34 (by kernel_rfl) rfl #[.string a0] rfl (by (try simp only [List.map_toArray, List.map_cons, List.map_nil]); first | done | rfl | (simp only [List.length_drop, List.length_take]; rfl)) ?_; (with_reducible refine (keys_Of.calls k a0 t603 t604 t605 t606 _ A5.out).mono ?_); rintro e w20 ⟨rfl, hb⟩; refine ⟨_, rfl, ?_⟩; have n0_ := Aside0.mk (below_step (by repeat (first | (with_reducible first | exact HB.out | apply below_alloc | apply pw_below_drewN | apply below_drew1) | exact HB.out)) hb); clear HB; have HB := n0_; clear n0_; (try clear hb); (try clear hb2); (try clear hk); (try clear hi)))
    go_ret
    exact ⟨by first | rfl | (simp [errW_none, errW_some] <;> rfl) | (simp [*, errW_none, errW_some] <;> rfl) | exact ret_ie _ | (simp [*, errW_none, errW_some, bne]; done), by repeat (first | (with_reducible first | exact HB.out | apply below_alloc | apply pw_below_drewN | apply below_drew1) | exact HB.out)⟩
  ·
   rw [if_neg c7] at H
   have c7b0 : (t603 == a1) = false := beq_eq_false_iff_ne.mpr c7
   have c7b1 : (t603 != a1) = true := bne_iff_ne.mpr c7
   obtain rfl := Option.some.inj H
   go_enter Tryd.func43, Tryd.ntmps43
   go_wp2_with (first | ((with_reducible refine gate_callee (f := 34) rfl ?_); refine goesL_ (some 15) rfl rfl Tryd.func34 (by kernel_rfl) rfl #[.string a0] rfl (by (try simp only [List.map_toArray, List.map_cons, List.map_nil]); first | done | rfl | (simp only [List.length_drop, List.length_take]; rfl)) ?_; (with_reducible refine (keys_Of.calls k a0 t603 t604 t605 t606 _ A5.out).mono ?_); rintro e w21 ⟨rfl, hb⟩; refine ⟨_, rfl, ?_⟩; have n0_ := Aside0.mk (below_step (by repeat (first | (with_reducible first | exact HB.out | apply below_alloc | apply pw_below_drewN | apply below_drew1) | exact HB.out)) hb); clear HB; have HB := n0_; clear n0_; (try clear hb); (try clear hb2); (try clear hk); (try clear hi)))
   go_ret
   exact ⟨by first | rfl | (simp [errW_none, errW_some] <;> rfl) | (simp [*, errW_none, errW_some] <;> rfl) | exact ret_ie _ | (simp [*, errW_none, errW_some, bne]; done), by repeat (first | (with_reducible first | exact HB.out | apply below_alloc | apply pw_below_drewN | apply below_drew1) | exact HB.out)⟩
 ·
  rw [if_neg c6] at H
  have c6b0 : (t606 == 0) = false := beq_eq_false_iff_ne.mpr c6
  have c6b1 : (t606 != 0) = true := bne_iff_ne.mpr c6
  obtain rfl := Option.some.inj H
  go_enter Tryd.func43, Tryd.ntmps43
  go_wp2_with (first | ((with_reducible refine gate_callee (f := 34) rfl ?_); refine goesL_ (some 15) rfl rfl Tryd.func34 (by kernel_rfl) rfl #[.string a0] rfl (by (try simp only [List.map_toArray, List.map_cons, List.map_nil]); first | done | rfl | (simp only [List.length_drop, List.length_take]; rfl)) ?_; (with_reducible refine (keys_Of.calls k a0 t603 t604 t605 t606 _ A5.out).mono ?_); rintro e w22 ⟨rfl, hb⟩; refine ⟨_, rfl, ?_⟩; have n0_ := Aside0.mk (below_step (by repeat (first | (with_reducible first | exact HB.out | apply below_alloc | apply pw_below_drewN | apply below_drew1) | exact HB.out)) hb); clear HB; have HB := n0_; clear n0_; (try clear hb); (try clear hb2); (try clear hk); (try clear hi)))
  go_ret
  exact ⟨by first | rfl | (simp [errW_none, errW_some] <;> rfl) | (simp [*, errW_none, errW_some] <;> rfl) | exact ret_ie _ | (simp [*, errW_none, errW_some, bne]; done), by repeat (first | (with_reducible first | exact HB.out | apply below_alloc | apply pw_below_drewN | apply below_drew1) | exact HB.out)⟩

end Go.Proofs.YtagdmgjdhbmaiaaDoor.R

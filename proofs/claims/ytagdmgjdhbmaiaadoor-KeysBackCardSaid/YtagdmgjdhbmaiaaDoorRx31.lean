/- Contracts of Go functions and what they come to, over the translation of this seat: made by a program of this session (print2.py). -/
import Derived.Test.YtagdmgjdhbmaiaaDoorRx0
import Derived.Test.YtagdmgjdhbmaiaaDoorRx20
import Derived.Test.YtagdmgjdhbmaiaaDoorRx24
import Derived.Test.YtagdmgjdhbmaiaaDoorRx30
namespace Go.Proofs.YtagdmgjdhbmaiaaDoor.R
open Go.RowKit Go.Proofs.YtagdmgjdhbmaiaaDoor.Co Go.Proofs.YtagdmgjdhbmaiaaDoor.Ret Go.Proofs.YtagdmgjdhbmaiaaDoor.Plain Go.Proofs.YtagdmgjdhbmaiaaDoor.Box Go.Proofs.YtagdmgjdhbmaiaaDoorW.PrintWords Go.Proofs.YtagdmgjdhbmaiaaDoorW.PrintLast Go.Proofs.YtagdmgjdhbmaiaaDoorW.PrintMore
attribute [local go_sem] max2_int min2_int max_two min_two max_three min_three max_four min_four   -- for this text's walks alone
set_option linter.unusedVariables false
set_option linter.unusedSimpArgs false

/-! ### millhandlaw22_KeysBack: function 12 -/
mutual
def millhandlaw22_KeysBack.j0 : Nat → Int → ByteArray → Bool → Bool → Option (Bool)
 | 0, _, _, _, _ => none
 | k + 1, x0, x1, x5, x19 => if x19 = true then (some x5) else ((keys_Run.f k x0).bind fun bt609 => ((keys_Event.f k x0).bind fun bt611 => ((keys_Name.f k x1).bind fun bt613 => (if bt609.2 = 0 then ((millhandlaw22_is.f k bt609.1 4 x0 (⟨#[]⟩ : ByteArray)).bind fun t615 => (if t615 = true then (if bt611.2 = 0 then ((millhandlaw22_is.f k bt611.1 1 x0 (⟨#[]⟩ : ByteArray)).bind fun t616 => (if t616 = true then (if bt613.2 = 0 then ((millhandlaw22_is.f k bt613.1 3 0 x1).bind fun t617 => (millhandlaw22_KeysBack.j1 k (!t617))) else (millhandlaw22_KeysBack.j1 k false)) else (millhandlaw22_KeysBack.j1 k true))) else (if bt613.2 = 0 then ((millhandlaw22_is.f k bt613.1 3 0 x1).bind fun t618 => (millhandlaw22_KeysBack.j1 k (!t618))) else (millhandlaw22_KeysBack.j1 k false))) else (millhandlaw22_KeysBack.j1 k true))) else (if bt611.2 = 0 then ((millhandlaw22_is.f k bt611.1 1 x0 (⟨#[]⟩ : ByteArray)).bind fun t619 => (if t619 = true then (if bt613.2 = 0 then ((millhandlaw22_is.f k bt613.1 3 0 x1).bind fun t620 => (millhandlaw22_KeysBack.j1 k (!t620))) else (millhandlaw22_KeysBack.j1 k false)) else (millhandlaw22_KeysBack.j1 k true))) else (if bt613.2 = 0 then ((millhandlaw22_is.f k bt613.1 3 0 x1).bind fun t621 => (millhandlaw22_KeysBack.j1 k (!t621))) else (millhandlaw22_KeysBack.j1 k false)))))))
def millhandlaw22_KeysBack.j1 : Nat → Bool → Option (Bool)
 | 0, _ => none
 | k + 1, x63 => if x63 = true then (some false) else ((keys_Head.f k).bind fun t622 => ((millhandlaw22_is.f k t622 2 0 (⟨#[]⟩ : ByteArray)).bind fun t623 => (some t623)))
end
def millhandlaw22_KeysBack.f (k : Nat) (a0 : Int) (a1 : ByteArray) : Option (Bool) := (millhandlaw22_alive.f k).bind fun t608 => (if (a1.size : Int) > 5000 then (millhandlaw22_KeysBack.j0 k a0 a1 t608 true) else (millhandlaw22_KeysBack.j0 k a0 a1 t608 (!t608)))
theorem millhandlaw22_KeysBack.mono_l : ∀ k, (∀ y0 y1 y2 y3, LeO (millhandlaw22_KeysBack.j0 k y0 y1 y2 y3) (millhandlaw22_KeysBack.j0 (k + 1) y0 y1 y2 y3)) ∧ (∀ y0, LeO (millhandlaw22_KeysBack.j1 k y0) (millhandlaw22_KeysBack.j1 (k + 1) y0))
 | 0 => ⟨fun _ _ _ _ r h => by simp [millhandlaw22_KeysBack.j0] at h, fun _ r h => by simp [millhandlaw22_KeysBack.j1] at h⟩
 | k + 1 => by
  obtain ⟨ih0, ih1⟩ := millhandlaw22_KeysBack.mono_l k
  refine ⟨?_, ?_⟩
  ·
   intro y0 y1 y2 y3
   unfold millhandlaw22_KeysBack.j0
   repeat' first
   | (with_reducible exact ih0 _ _ _ _)
   | (with_reducible exact ih1 _)
   | (with_reducible exact keys_Event.mono _ _)
   | (with_reducible exact keys_Head.mono _)
   | (with_reducible exact keys_Name.mono _ _)
   | (with_reducible exact keys_Run.mono _ _)
   | (with_reducible exact millhandlaw22_alive.mono _)
   | (with_reducible exact millhandlaw22_is.mono _ _ _ _ _)
   | (with_reducible exact LeO.refl _)
   | (with_reducible exact LeO.none _)
   | (with_reducible refine LeO.ite ?_ ?_)
   | (with_reducible refine LeO.bind ?_ (fun _ => ?_))
   | exact ih0 _ _ _ _
   | exact ih1 _
   | exact keys_Event.mono _ _
   | exact keys_Head.mono _
   | exact keys_Name.mono _ _
   | exact keys_Run.mono _ _
   | exact millhandlaw22_alive.mono _
   | exact millhandlaw22_is.mono _ _ _ _ _
   | exact LeO.none _
   | refine LeO.ite ?_ ?_
   | refine LeO.bind ?_ (fun _ => ?_)
  ·
   intro y0
   unfold millhandlaw22_KeysBack.j1
   repeat' first
   | (with_reducible exact ih0 _ _ _ _)
   | (with_reducible exact ih1 _)
   | (with_reducible exact keys_Event.mono _ _)
   | (with_reducible exact keys_Head.mono _)
   | (with_reducible exact keys_Name.mono _ _)
   | (with_reducible exact keys_Run.mono _ _)
   | (with_reducible exact millhandlaw22_alive.mono _)
   | (with_reducible exact millhandlaw22_is.mono _ _ _ _ _)
   | (with_reducible exact LeO.refl _)
   | (with_reducible exact LeO.none _)
   | (with_reducible refine LeO.ite ?_ ?_)
   | (with_reducible refine LeO.bind ?_ (fun _ => ?_))
   | exact ih0 _ _ _ _
   | exact ih1 _
   | exact keys_Event.mono _ _
   | exact keys_Head.mono _
   | exact keys_Name.mono _ _
   | exact keys_Run.mono _ _
   | exact millhandlaw22_alive.mono _
   | exact millhandlaw22_is.mono _ _ _ _ _
   | exact LeO.none _
   | refine LeO.ite ?_ ?_
   | refine LeO.bind ?_ (fun _ => ?_)
theorem millhandlaw22_KeysBack.mono : ∀ a0 a1 k, LeO (millhandlaw22_KeysBack.f k a0 a1) (millhandlaw22_KeysBack.f (k + 1) a0 a1) := by
 intro a0 a1 k
 obtain ⟨ih0, ih1⟩ := millhandlaw22_KeysBack.mono_l k
 unfold millhandlaw22_KeysBack.f
 repeat' first
   | (with_reducible exact ih0 _ _ _ _)
   | (with_reducible exact ih1 _)
   | (with_reducible exact keys_Event.mono _ _)
   | (with_reducible exact keys_Head.mono _)
   | (with_reducible exact keys_Name.mono _ _)
   | (with_reducible exact keys_Run.mono _ _)
   | (with_reducible exact millhandlaw22_alive.mono _)
   | (with_reducible exact millhandlaw22_is.mono _ _ _ _ _)
   | (with_reducible exact LeO.refl _)
   | (with_reducible exact LeO.none _)
   | (with_reducible refine LeO.ite ?_ ?_)
   | (with_reducible refine LeO.bind ?_ (fun _ => ?_))
   | exact ih0 _ _ _ _
   | exact ih1 _
   | exact keys_Event.mono _ _
   | exact keys_Head.mono _
   | exact keys_Name.mono _ _
   | exact keys_Run.mono _ _
   | exact millhandlaw22_alive.mono _
   | exact millhandlaw22_is.mono _ _ _ _ _
   | exact LeO.none _
   | refine LeO.ite ?_ ?_
   | refine LeO.bind ?_ (fun _ => ?_)
set_option maxHeartbeats 8000000 in
set_option maxRecDepth 100000 in
theorem millhandlaw22_KeysBack.calls (k : Nat) (a0 : Int) (a1 : ByteArray) (r : Bool) (w : World) (h : millhandlaw22_KeysBack.f k a0 a1 = some r) :
  Calls Tryd.prog 12 #[.int .i64 a0, .string a1] w fun e w' => e = .returned (.bool r) ∧ Below w.heap.size w w' := by
 have HB := Aside0.mk (Below.refl w.heap.size w)
 have H : ((millhandlaw22_alive.f k).bind fun t608 => (if (a1.size : Int) > 5000 then (millhandlaw22_KeysBack.j0 k a0 a1 t608 true) else (millhandlaw22_KeysBack.j0 k a0 a1 t608 (!t608)))) = some r := h
 clear h
 replace H := Option.bind_eq_some_iff.mp H
 obtain ⟨t608, A30, H⟩ := H
 replace H : (if (a1.size : Int) > 5000 then (millhandlaw22_KeysBack.j0 k a0 a1 t608 true) else (millhandlaw22_KeysBack.j0 k a0 a1 t608 (!t608))) = some r := H
 have A3 := Aside0.mk A30
 clear A30
 have HC4 := Aside0.mk H
 clear H
 go_enter Tryd.func12, Tryd.ntmps12
 go_upto_region 2 with (first | ((with_reducible refine gate_callee (f := 29) rfl ?_); refine goesL_ (some 12) rfl rfl Tryd.func29 (by kernel_rfl) rfl #[] rfl (by (try simp only [List.map_toArray, List.map_cons, List.map_nil]); first | done | rfl | (simp only [List.length_drop, List.length_take]; rfl)) ?_; (with_reducible refine (millhandlaw22_alive.calls k  t608 _ A3.out).mono ?_); rintro e w5 ⟨rfl, hb⟩; refine ⟨_, rfl, ?_⟩; have n0_ := Aside0.mk (below_step (by repeat (first | (with_reducible first | exact HB.out | apply below_alloc | apply pw_below_drewN | apply below_drew1) | exact HB.out)) hb); clear HB; have HB := n0_; clear n0_; (try clear hb); (try clear hb2); (try clear hk); (try clear hi)))
 (try simp only [Act.put, sa_, s0_, s1_])
 go_cut [19] (fun v19 wc => ∃ (kq : Nat) (x19_3 : Bool), v19 = .bool x19_3 ∧ Aside0 (millhandlaw22_KeysBack.j0 kq a0 a1 t608 x19_3 = some r) ∧ Aside0 (kq ≤ k) ∧ Aside0 (Below w.heap.size w wc))
 case first =>
  have H := HC4.out
  clear HC4
  by_cases c6 : (a1.size : Int) > 5000
  ·
   rw [if_pos c6] at H
   have c6b0 : decide (5000 < (a1.size : Int)) = true := decide_eq_true c6
   have c6b1 : decide (5000 < a1.size) = true := decide_eq_true (by omega)
   clear c6
   (first | rw [c6b0] | (simp only [i64_w, i32_w]; rw [c6b0]) | skip)
   have H' := Aside0.mk H
   clear H
   go_wp2
   go_meet
   case rel => exact ⟨_, (true), (by first | rfl | (simp; done) | (simp [*]; done)), H', ⟨by first | omega | exact Nat.le_refl _⟩, ⟨by repeat (first | (with_reducible first | exact HB.out | apply below_alloc | apply pw_below_drewN | apply below_drew1) | exact HB.out)⟩⟩
  ·
   rw [if_neg c6] at H
   have c6b0 : decide (5000 < (a1.size : Int)) = false := decide_eq_false c6
   have c6b1 : decide (5000 < a1.size) = false := decide_eq_false (by omega)
   clear c6
   (first | rw [c6b0] | (simp only [i64_w, i32_w]; rw [c6b0]) | skip)
   have H' := Aside0.mk H
   clear H
   go_wp2
   go_meet
   case rel => exact ⟨_, (!t608), (by first | rfl | (simp; done) | (simp [*]; done)), H', ⟨by first | omega | exact Nat.le_refl _⟩, ⟨by repeat (first | (with_reducible first | exact HB.out | apply below_alloc | apply pw_below_drewN | apply below_drew1) | exact HB.out)⟩⟩
 case rest =>
  clear HC4
  try clear c1
  try clear c2
  try clear p2
  try clear c6
  try clear c6b0
  try clear c6b1
  obtain ⟨kq, x19_3, rfl, HA, HJ3, HB⟩ := hcut
  cases kq with
  | zero => exact absurd HA.out (by simp [millhandlaw22_KeysBack.j0])
  | succ kj3 =>
   have H := HA.out
   clear HA
   simp only [millhandlaw22_KeysBack.j0] at H
   by_cases c7 : x19_3 = true
   ·
    subst c7
    have H1 : (some t608) = some r := by rw [if_pos rfl] at H; exact H
    clear H
    have H := H1
    clear H1
    obtain rfl := Option.some.inj H
    go_wp2
    go_ret
    exact ⟨by first | rfl | (simp [errW_none, errW_some] <;> rfl) | (simp [*, errW_none, errW_some] <;> rfl) | exact ret_ie _ | (simp [*, errW_none, errW_some, bne]; done), by repeat (first | (with_reducible first | exact HB.out | apply below_alloc | apply pw_below_drewN | apply below_drew1) | exact HB.out)⟩
   ·
    replace c7 := Bool.eq_false_iff.mpr c7
    subst c7
    have H1 : ((keys_Run.f kj3 a0).bind fun bt609 => ((keys_Event.f kj3 a0).bind fun bt611 => ((keys_Name.f kj3 a1).bind fun bt613 => (if bt609.2 = 0 then ((millhandlaw22_is.f kj3 bt609.1 4 a0 (⟨#[]⟩ : ByteArray)).bind fun t615 => (if t615 = true then (if bt611.2 = 0 then ((millhandlaw22_is.f kj3 bt611.1 1 a0 (⟨#[]⟩ : ByteArray)).bind fun t616 => (if t616 = true then (if bt613.2 = 0 then ((millhandlaw22_is.f kj3 bt613.1 3 0 a1).bind fun t617 => (millhandlaw22_KeysBack.j1 kj3 (!t617))) else (millhandlaw22_KeysBack.j1 kj3 false)) else (millhandlaw22_KeysBack.j1 kj3 true))) else (if bt613.2 = 0 then ((millhandlaw22_is.f kj3 bt613.1 3 0 a1).bind fun t618 => (millhandlaw22_KeysBack.j1 kj3 (!t618))) else (millhandlaw22_KeysBack.j1 kj3 false))) else (millhandlaw22_KeysBack.j1 kj3 true))) else (if bt611.2 = 0 then ((millhandlaw22_is.f kj3 bt611.1 1 a0 (⟨#[]⟩ : ByteArray)).bind fun t619 => (if t619 = true then (if bt613.2 = 0 then ((millhandlaw22_is.f kj3 bt613.1 3 0 a1).bind fun t620 => (millhandlaw22_KeysBack.j1 kj3 (!t620))) else (millhandlaw22_KeysBack.j1 kj3 false)) else (millhandlaw22_KeysBack.j1 kj3 true))) else (if bt613.2 = 0 then ((millhandlaw22_is.f kj3 bt613.1 3 0 a1).bind fun t621 => (millhandlaw22_KeysBack.j1 kj3 (!t621))) else (millhandlaw22_KeysBack.j1 kj3 false))))))) = some r := by rw [if_neg (show ¬ (false = true) by decide)] at H; exact H
    clear H
    have H := H1
    clear H1
    replace H := Option.bind_eq_some_iff.mp H
    obtain ⟨⟨t609, t610⟩, A80, H⟩ := H
    replace H : ((keys_Event.f kj3 a0).bind fun bt611 => ((keys_Name.f kj3 a1).bind fun bt613 => (if t610 = 0 then ((millhandlaw22_is.f kj3 t609 4 a0 (⟨#[]⟩ : ByteArray)).bind fun t615 => (if t615 = true then (if bt611.2 = 0 then ((millhandlaw22_is.f kj3 bt611.1 1 a0 (⟨#[]⟩ : ByteArray)).bind fun t616 => (if t616 = true then (if bt613.2 = 0 then ((millhandlaw22_is.f kj3 bt613.1 3 0 a1).bind fun t617 => (millhandlaw22_KeysBack.j1 kj3 (!t617))) else (millhandlaw22_KeysBack.j1 kj3 false)) else (millhandlaw22_KeysBack.j1 kj3 true))) else (if bt613.2 = 0 then ((millhandlaw22_is.f kj3 bt613.1 3 0 a1).bind fun t618 => (millhandlaw22_KeysBack.j1 kj3 (!t618))) else (millhandlaw22_KeysBack.j1 kj3 false))) else (millhandlaw22_KeysBack.j1 kj3 true))) else (if bt611.2 = 0 then ((millhandlaw22_is.f kj3 bt611.1 1 a0 (⟨#[]⟩ : ByteArray)).bind fun t619 => (if t619 = true then (if bt613.2 = 0 then ((millhandlaw22_is.f kj3 bt613.1 3 0 a1).bind fun t620 => (millhandlaw22_KeysBack.j1 kj3 (!t620))) else (millhandlaw22_KeysBack.j1 kj3 false)) else (millhandlaw22_KeysBack.j1 kj3 true))) else (if bt613.2 = 0 then ((millhandlaw22_is.f kj3 bt613.1 3 0 a1).bind fun t621 => (millhandlaw22_KeysBack.j1 kj3 (!t621))) else (millhandlaw22_KeysBack.j1 kj3 false)))))) = some r := H
    have A8 := Aside0.mk A80
    clear A80
    replace H := Option.bind_eq_some_iff.mp H
    obtain ⟨⟨t611, t612⟩, A90, H⟩ := H
    replace H : ((keys_Name.f kj3 a1).bind fun bt613 => (if t610 = 0 then ((millhandlaw22_is.f kj3 t609 4 a0 (⟨#[]⟩ : ByteArray)).bind fun t615 => (if t615 = true then (if t612 = 0 then ((millhandlaw22_is.f kj3 t611 1 a0 (⟨#[]⟩ : ByteArray)).bind fun t616 => (if t616 = true then (if bt613.2 = 0 then ((millhandlaw22_is.f kj3 bt613.1 3 0 a1).bind fun t617 => (millhandlaw22_KeysBack.j1 kj3 (!t617))) else (millhandlaw22_KeysBack.j1 kj3 false)) else (millhandlaw22_KeysBack.j1 kj3 true))) else (if bt613.2 = 0 then ((millhandlaw22_is.f kj3 bt613.1 3 0 a1).bind fun t618 => (millhandlaw22_KeysBack.j1 kj3 (!t618))) else (millhandlaw22_KeysBack.j1 kj3 false))) else (millhandlaw22_KeysBack.j1 kj3 true))) else (if t612 = 0 then ((millhandlaw22_is.f kj3 t611 1 a0 (⟨#[]⟩ : ByteArray)).bind fun t619 => (if t619 = true then (if bt613.2 = 0 then ((millhandlaw22_is.f kj3 bt613.1 3 0 a1).bind fun t620 => (millhandlaw22_KeysBack.j1 kj3 (!t620))) else (millhandlaw22_KeysBack.j1 kj3 false)) else (millhandlaw22_KeysBack.j1 kj3 true))) else (if bt613.2 = 0 then ((millhandlaw22_is.f kj3 bt613.1 3 0 a1).bind fun t621 => (millhandlaw22_KeysBack.j1 kj3 (!t621))) else (millhandlaw22_KeysBack.j1 kj3 false))))) = some r := H
    have A9 := Aside0.mk A90
    clear A90
    replace H := Option.bind_eq_some_iff.mp H
    obtain ⟨⟨t613, t614⟩, A100, H⟩ := H
    replace H : (if t610 = 0 then ((millhandlaw22_is.f kj3 t609 4 a0 (⟨#[]⟩ : ByteArray)).bind fun t615 => (if t615 = true then (if t612 = 0 then ((millhandlaw22_is.f kj3 t611 1 a0 (⟨#[]⟩ : ByteArray)).bind fun t616 => (if t616 = true then (if t614 = 0 then ((millhandlaw22_is.f kj3 t613 3 0 a1).bind fun t617 => (millhandlaw22_KeysBack.j1 kj3 (!t617))) else (millhandlaw22_KeysBack.j1 kj3 false)) else (millhandlaw22_KeysBack.j1 kj3 true))) else (if t614 = 0 then ((millhandlaw22_is.f kj3 t613 3 0 a1).bind fun t618 => (millhandlaw22_KeysBack.j1 kj3 (!t618))) else (millhandlaw22_KeysBack.j1 kj3 false))) else (millhandlaw22_KeysBack.j1 kj3 true))) else (if t612 = 0 then ((millhandlaw22_is.f kj3 t611 1 a0 (⟨#[]⟩ : ByteArray)).bind fun t619 => (if t619 = true then (if t614 = 0 then ((millhandlaw22_is.f kj3 t613 3 0 a1).bind fun t620 => (millhandlaw22_KeysBack.j1 kj3 (!t620))) else (millhandlaw22_KeysBack.j1 kj3 false)) else (millhandlaw22_KeysBack.j1 kj3 true))) else (if t614 = 0 then ((millhandlaw22_is.f kj3 t613 3 0 a1).bind fun t621 => (millhandlaw22_KeysBack.j1 kj3 (!t621))) else (millhandlaw22_KeysBack.j1 kj3 false)))) = some r := H
    have A10 := Aside0.mk A100
    clear A100
    have HC11 := Aside0.mk H
    clear H
    go_upto_region 7 with (first | ((with_reducible refine gate_callee (f := 30) rfl ?_); refine goesL_ (some 23) rfl rfl Tryd.func30 (by kernel_rfl) rfl #[.int .i64 a0] rfl (by (try simp only [List.map_toArray, List.map_cons, List.map_nil]); first | done | rfl | (simp only [List.length_drop, List.length_take]; rfl)) ?_; (with_reducible refine (keys_Run.calls kj3 a0 t609 t610 _ A8.out).mono ?_); rintro e w12 ⟨rfl, hb⟩; refine ⟨_, rfl, ?_⟩; have n0_ := Aside0.mk (below_step (by repeat (first | (with_reducible first | exact HB.out | apply below_alloc | apply pw_below_drewN | apply below_drew1) | exact HB.out)) hb); clear HB; have HB := n0_; clear n0_; (try clear hb); (try clear hb2); (try clear hk); (try clear hi)) | ((with_reducible refine gate_callee (f := 31) rfl ?_); refine goesL_ (some 28) rfl rfl Tryd.func31 (by kernel_rfl) rfl #[.int .i64 a0] rfl (by (try simp only [List.map_toArray, List.map_cons, List.map_nil]); first | done | rfl | (simp only [List.length_drop, List.length_take]; rfl)) ?_; (with_reducible refine (keys_Event.calls kj3 a0 t611 t612 _ A9.out).mono ?_); rintro e w13 ⟨rfl, hb⟩; refine ⟨_, rfl, ?_⟩; have n0_ := Aside0.mk (below_step (by repeat (first | (with_reducible first | exact HB.out | apply below_alloc | apply pw_below_drewN | apply below_drew1) | exact HB.out)) hb); clear HB; have HB := n0_; clear n0_; (try clear hb); (try clear hb2); (try clear hk); (try clear hi)) | ((with_reducible refine gate_callee (f := 32) rfl ?_); refine goesL_ (some 33) rfl rfl Tryd.func32 (by kernel_rfl) rfl #[.string a1] rfl (by (try simp only [List.map_toArray, List.map_cons, List.map_nil]); first | done | rfl | (simp only [List.length_drop, List.length_take]; rfl)) ?_; (with_reducible refine (keys_Name.calls kj3 a1 t613 t614 _ A10.out).mono ?_); rintro e w14 ⟨rfl, hb⟩; refine ⟨_, rfl, ?_⟩; have n0_ := Aside0.mk (below_step (by repeat (first | (with_reducible first | exact HB.out | apply below_alloc | apply pw_below_drewN | apply below_drew1) | exact HB.out)) hb); clear HB; have HB := n0_; clear n0_; (try clear hb); (try clear hb2); (try clear hk); (try clear hi)))
    (try simp only [Act.put, sa_, s0_, s1_])
    go_cut [63] (fun v63 wc => ∃ (kq : Nat) (x63_10 : Bool), v63 = .bool x63_10 ∧ Aside0 (millhandlaw22_KeysBack.j1 kq x63_10 = some r) ∧ Aside0 (kq ≤ kj3) ∧ Aside0 (Below w.heap.size w wc))
    case first =>
     have H := HC11.out
     clear HC11
     by_cases c15 : t610 = 0
     ·
      rw [if_pos c15] at H
      have c15b0 : (t610 == 0) = true := beq_iff_eq.mpr c15
      have c15b1 : (t610 != 0) = false := bne_eq_false_iff_eq.mpr c15
      clear c15
      (first | rw [c15b0] | (simp only [i64_w, i32_w]; rw [c15b0]) | skip)
      replace H := Option.bind_eq_some_iff.mp H
      obtain ⟨t615, A160, H⟩ := H
      replace H : (if t615 = true then (if t612 = 0 then ((millhandlaw22_is.f kj3 t611 1 a0 (⟨#[]⟩ : ByteArray)).bind fun t616 => (if t616 = true then (if t614 = 0 then ((millhandlaw22_is.f kj3 t613 3 0 a1).bind fun t617 => (millhandlaw22_KeysBack.j1 kj3 (!t617))) else (millhandlaw22_KeysBack.j1 kj3 false)) else (millhandlaw22_KeysBack.j1 kj3 true))) else (if t614 = 0 then ((millhandlaw22_is.f kj3 t613 3 0 a1).bind fun t618 => (millhandlaw22_KeysBack.j1 kj3 (!t618))) else (millhandlaw22_KeysBack.j1 kj3 false))) else (millhandlaw22_KeysBack.j1 kj3 true)) = some r := H
      have A16 := Aside0.mk A160
      clear A160
      by_cases c17 : t615 = true
      ·
       subst c17
       have H1 : (if t612 = 0 then ((millhandlaw22_is.f kj3 t611 1 a0 (⟨#[]⟩ : ByteArray)).bind fun t616 => (if t616 = true then (if t614 = 0 then ((millhandlaw22_is.f kj3 t613 3 0 a1).bind fun t617 => (millhandlaw22_KeysBack.j1 kj3 (!t617))) else (millhandlaw22_KeysBack.j1 kj3 false)) else (millhandlaw22_KeysBack.j1 kj3 true))) else (if t614 = 0 then ((millhandlaw22_is.f kj3 t613 3 0 a1).bind fun t618 => (millhandlaw22_KeysBack.j1 kj3 (!t618))) else (millhandlaw22_KeysBack.j1 kj3 false))) = some r := by rw [if_pos rfl] at H; exact H
       clear H
       have H := H1
       clear H1
       by_cases c18 : t612 = 0
       ·
        rw [if_pos c18] at H
        have c18b0 : (t612 == 0) = true := beq_iff_eq.mpr c18
        have c18b1 : (t612 != 0) = false := bne_eq_false_iff_eq.mpr c18
        clear c18
        replace H := Option.bind_eq_some_iff.mp H
        obtain ⟨t616, A190, H⟩ := H
        replace H : (if t616 = true then (if t614 = 0 then ((millhandlaw22_is.f kj3 t613 3 0 a1).bind fun t617 => (millhandlaw22_KeysBack.j1 kj3 (!t617))) else (millhandlaw22_KeysBack.j1 kj3 false)) else (millhandlaw22_KeysBack.j1 kj3 true)) = some r := H
        have A19 := Aside0.mk A190
        clear A190
        by_cases c20 : t616 = true
        ·
         subst c20
         have H1 : (if t614 = 0 then ((millhandlaw22_is.f kj3 t613 3 0 a1).bind fun t617 => (millhandlaw22_KeysBack.j1 kj3 (!t617))) else (millhandlaw22_KeysBack.j1 kj3 false)) = some r := by rw [if_pos rfl] at H; exact H
         clear H
         have H := H1
         clear H1
         by_cases c21 : t614 = 0
         ·
          rw [if_pos c21] at H
          have c21b0 : (t614 == 0) = true := beq_iff_eq.mpr c21
          have c21b1 : (t614 != 0) = false := bne_eq_false_iff_eq.mpr c21
          clear c21
          replace H := Option.bind_eq_some_iff.mp H
          obtain ⟨t617, A220, H⟩ := H
          replace H : (millhandlaw22_KeysBack.j1 kj3 (!t617)) = some r := H
          have A22 := Aside0.mk A220
          clear A220
          have H' := Aside0.mk H
          clear H
          go_wp2_with (first | (go_at_call 43; (with_reducible refine (millhandlaw22_is.calls kj3 t609 4 a0 (⟨#[]⟩ : ByteArray) true _ A16.out).mono ?_); rintro e w23 ⟨rfl, hb⟩; have n0_ := Aside0.mk (below_step (by repeat (first | (with_reducible first | exact HB.out | apply below_alloc | apply pw_below_drewN | apply below_drew1) | exact HB.out)) hb); clear HB; have HB := n0_; clear n0_; (try clear hb); (try clear hb2); (try clear hk); (try clear hi)) | (go_at_call 43; (with_reducible refine (millhandlaw22_is.calls kj3 t611 1 a0 (⟨#[]⟩ : ByteArray) true _ A19.out).mono ?_); rintro e w24 ⟨rfl, hb⟩; have n0_ := Aside0.mk (below_step (by repeat (first | (with_reducible first | exact HB.out | apply below_alloc | apply pw_below_drewN | apply below_drew1) | exact HB.out)) hb); clear HB; have HB := n0_; clear n0_; (try clear hb); (try clear hb2); (try clear hk); (try clear hi)) | (go_at_call 43; (with_reducible refine (millhandlaw22_is.calls kj3 t613 3 0 a1 t617 _ A22.out).mono ?_); rintro e w25 ⟨rfl, hb⟩; have n0_ := Aside0.mk (below_step (by repeat (first | (with_reducible first | exact HB.out | apply below_alloc | apply pw_below_drewN | apply below_drew1) | exact HB.out)) hb); clear HB; have HB := n0_; clear n0_; (try clear hb); (try clear hb2); (try clear hk); (try clear hi)))
          go_meet
          case rel => exact ⟨_, (!t617), (by first | rfl | (simp; done) | (simp [*]; done)), H', ⟨by have := HJ3.out; first | omega | exact Nat.le_refl _⟩, ⟨by repeat (first | (with_reducible first | exact HB.out | apply below_alloc | apply pw_below_drewN | apply below_drew1) | exact HB.out)⟩⟩
         ·
          rw [if_neg c21] at H
          have c21b0 : (t614 == 0) = false := beq_eq_false_iff_ne.mpr c21
          have c21b1 : (t614 != 0) = true := bne_iff_ne.mpr c21
          have H' := Aside0.mk H
          clear H
          go_wp2_with (first | (go_at_call 43; (with_reducible refine (millhandlaw22_is.calls kj3 t609 4 a0 (⟨#[]⟩ : ByteArray) true _ A16.out).mono ?_); rintro e w26 ⟨rfl, hb⟩; have n0_ := Aside0.mk (below_step (by repeat (first | (with_reducible first | exact HB.out | apply below_alloc | apply pw_below_drewN | apply below_drew1) | exact HB.out)) hb); clear HB; have HB := n0_; clear n0_; (try clear hb); (try clear hb2); (try clear hk); (try clear hi)) | (go_at_call 43; (with_reducible refine (millhandlaw22_is.calls kj3 t611 1 a0 (⟨#[]⟩ : ByteArray) true _ A19.out).mono ?_); rintro e w27 ⟨rfl, hb⟩; have n0_ := Aside0.mk (below_step (by repeat (first | (with_reducible first | exact HB.out | apply below_alloc | apply pw_below_drewN | apply below_drew1) | exact HB.out)) hb); clear HB; have HB := n0_; clear n0_; (try clear hb); (try clear hb2); (try clear hk); (try clear hi)))
          go_meet
          case rel => exact ⟨_, (false), (by first | rfl | (simp; done) | (simp [*]; done)), H', ⟨by have := HJ3.out; first | omega | exact Nat.le_refl _⟩, ⟨by repeat (first | (with_reducible first | exact HB.out | apply below_alloc | apply pw_below_drewN | apply below_drew1) | exact HB.out)⟩⟩
        ·
         replace c20 := Bool.eq_false_iff.mpr c20
         subst c20
         have H1 : (millhandlaw22_KeysBack.j1 kj3 true) = some r := by rw [if_neg (show ¬ (false = true) by decide)] at H; exact H
         clear H
         have H := H1
         clear H1
         have H' := Aside0.mk H
         clear H
         go_wp2_with (first | (go_at_call 43; (with_reducible refine (millhandlaw22_is.calls kj3 t609 4 a0 (⟨#[]⟩ : ByteArray) true _ A16.out).mono ?_); rintro e w28 ⟨rfl, hb⟩; have n0_ := Aside0.mk (below_step (by repeat (first | (with_reducible first | exact HB.out | apply below_alloc | apply pw_below_drewN | apply below_drew1) | exact HB.out)) hb); clear HB; have HB := n0_; clear n0_; (try clear hb); (try clear hb2); (try clear hk); (try clear hi)) | (go_at_call 43; (with_reducible refine (millhandlaw22_is.calls kj3 t611 1 a0 (⟨#[]⟩ : ByteArray) false _ A19.out).mono ?_); rintro e w29 ⟨rfl, hb⟩; have n0_ := Aside0.mk (below_step (by repeat (first | (with_reducible first | exact HB.out | apply below_alloc | apply pw_below_drewN | apply below_drew1) | exact HB.out)) hb); clear HB; have HB := n0_; clear n0_; (try clear hb); (try clear hb2); (try clear hk); (try clear hi)))
         go_meet
         case rel => exact ⟨_, (true), (by first | rfl | (simp; done) | (simp [*]; done)), H', ⟨by have := HJ3.out; first | omega | exact Nat.le_refl _⟩, ⟨by repeat (first | (with_reducible first | exact HB.out | apply below_alloc | apply pw_below_drewN | apply below_drew1) | exact HB.out)⟩⟩
       ·
        rw [if_neg c18] at H
        have c18b0 : (t612 == 0) = false := beq_eq_false_iff_ne.mpr c18
        have c18b1 : (t612 != 0) = true := bne_iff_ne.mpr c18
        by_cases c30 : t614 = 0
        ·
         rw [if_pos c30] at H
         have c30b0 : (t614 == 0) = true := beq_iff_eq.mpr c30
         have c30b1 : (t614 != 0) = false := bne_eq_false_iff_eq.mpr c30
         clear c30
         replace H := Option.bind_eq_some_iff.mp H
         obtain ⟨t618, A310, H⟩ := H
         replace H : (millhandlaw22_KeysBack.j1 kj3 (!t618)) = some r := H
         have A31 := Aside0.mk A310
         clear A310
         have H' := Aside0.mk H
         clear H
         go_wp2_with (first | (go_at_call 43; (with_reducible refine (millhandlaw22_is.calls kj3 t609 4 a0 (⟨#[]⟩ : ByteArray) true _ A16.out).mono ?_); rintro e w32 ⟨rfl, hb⟩; have n0_ := Aside0.mk (below_step (by repeat (first | (with_reducible first | exact HB.out | apply below_alloc | apply pw_below_drewN | apply below_drew1) | exact HB.out)) hb); clear HB; have HB := n0_; clear n0_; (try clear hb); (try clear hb2); (try clear hk); (try clear hi)) | (go_at_call 43; (with_reducible refine (millhandlaw22_is.calls kj3 t613 3 0 a1 t618 _ A31.out).mono ?_); rintro e w33 ⟨rfl, hb⟩; have n0_ := Aside0.mk (below_step (by repeat (first | (with_reducible first | exact HB.out | apply below_alloc | apply pw_below_drewN | apply below_drew1) | exact HB.out)) hb); clear HB; have HB := n0_; clear n0_; (try clear hb); (try clear hb2); (try clear hk); (try clear hi)))
         go_meet
         case rel => exact ⟨_, (!t618), (by first | rfl | (simp; done) | (simp [*]; done)), H', ⟨by have := HJ3.out; first | omega | exact Nat.le_refl _⟩, ⟨by repeat (first | (with_reducible first | exact HB.out | apply below_alloc | apply pw_below_drewN | apply below_drew1) | exact HB.out)⟩⟩
        ·
         rw [if_neg c30] at H
         have c30b0 : (t614 == 0) = false := beq_eq_false_iff_ne.mpr c30
         have c30b1 : (t614 != 0) = true := bne_iff_ne.mpr c30
         have H' := Aside0.mk H
         clear H
         go_wp2_with (first | (go_at_call 43; (with_reducible refine (millhandlaw22_is.calls kj3 t609 4 a0 (⟨#[]⟩ : ByteArray) true _ A16.out).mono ?_); rintro e w34 ⟨rfl, hb⟩; have n0_ := Aside0.mk (below_step (by repeat (first | (with_reducible first | exact HB.out | apply below_alloc | apply pw_below_drewN | apply below_drew1) | exact HB.out)) hb); clear HB; have HB := n0_; clear n0_; (try clear hb); (try clear hb2); (try clear hk); (try clear hi)))
         go_meet
         case rel => exact ⟨_, (false), (by first | rfl | (simp; done) | (simp [*]; done)), H', ⟨by have := HJ3.out; first | omega | exact Nat.le_refl _⟩, ⟨by repeat (first | (with_reducible first | exact HB.out | apply below_alloc | apply pw_below_drewN | apply below_drew1) | exact HB.out)⟩⟩
      ·
       replace c17 := Bool.eq_false_iff.mpr c17
       subst c17
       have H1 : (millhandlaw22_KeysBack.j1 kj3 true) = some r := by rw [if_neg (show ¬ (false = true) by decide)] at H; exact H
       clear H
       have H := H1
       clear H1
       have H' := Aside0.mk H
       clear H
       go_wp2_with (first | (go_at_call 43; (with_reducible refine (millhandlaw22_is.calls kj3 t609 4 a0 (⟨#[]⟩ : ByteArray) false _ A16.out).mono ?_); rintro e w35 ⟨rfl, hb⟩; have n0_ := Aside0.mk (below_step (by repeat (first | (with_reducible first | exact HB.out | apply below_alloc | apply pw_below_drewN | apply below_drew1) | exact HB.out)) hb); clear HB; have HB := n0_; clear n0_; (try clear hb); (try clear hb2); (try clear hk); (try clear hi)))
       go_meet
       case rel => exact ⟨_, (true), (by first | rfl | (simp; done) | (simp [*]; done)), H', ⟨by have := HJ3.out; first | omega | exact Nat.le_refl _⟩, ⟨by repeat (first | (with_reducible first | exact HB.out | apply below_alloc | apply pw_below_drewN | apply below_drew1) | exact HB.out)⟩⟩
     ·
      rw [if_neg c15] at H
      have c15b0 : (t610 == 0) = false := beq_eq_false_iff_ne.mpr c15
      have c15b1 : (t610 != 0) = true := bne_iff_ne.mpr c15
      (first | rw [c15b0] | (simp only [i64_w, i32_w]; rw [c15b0]) | skip)
      by_cases c36 : t612 = 0
      ·
       rw [if_pos c36] at H
       have c36b0 : (t612 == 0) = true := beq_iff_eq.mpr c36
       have c36b1 : (t612 != 0) = false := bne_eq_false_iff_eq.mpr c36
       clear c36
       replace H := Option.bind_eq_some_iff.mp H
       obtain ⟨t619, A370, H⟩ := H
       replace H : (if t619 = true then (if t614 = 0 then ((millhandlaw22_is.f kj3 t613 3 0 a1).bind fun t620 => (millhandlaw22_KeysBack.j1 kj3 (!t620))) else (millhandlaw22_KeysBack.j1 kj3 false)) else (millhandlaw22_KeysBack.j1 kj3 true)) = some r := H
       have A37 := Aside0.mk A370
       clear A370
       by_cases c38 : t619 = true
       ·
        subst c38
        have H1 : (if t614 = 0 then ((millhandlaw22_is.f kj3 t613 3 0 a1).bind fun t620 => (millhandlaw22_KeysBack.j1 kj3 (!t620))) else (millhandlaw22_KeysBack.j1 kj3 false)) = some r := by rw [if_pos rfl] at H; exact H
        clear H
        have H := H1
        clear H1
        by_cases c39 : t614 = 0
        ·
         rw [if_pos c39] at H
         have c39b0 : (t614 == 0) = true := beq_iff_eq.mpr c39
         have c39b1 : (t614 != 0) = false := bne_eq_false_iff_eq.mpr c39
         clear c39
         replace H := Option.bind_eq_some_iff.mp H
         obtain ⟨t620, A400, H⟩ := H
         replace H : (millhandlaw22_KeysBack.j1 kj3 (!t620)) = some r := H
         have A40 := Aside0.mk A400
         clear A400
         have H' := Aside0.mk H
         clear H
         go_wp2_with (first | (go_at_call 43; (with_reducible refine (millhandlaw22_is.calls kj3 t611 1 a0 (⟨#[]⟩ : ByteArray) true _ A37.out).mono ?_); rintro e w41 ⟨rfl, hb⟩; have n0_ := Aside0.mk (below_step (by repeat (first | (with_reducible first | exact HB.out | apply below_alloc | apply pw_below_drewN | apply below_drew1) | exact HB.out)) hb); clear HB; have HB := n0_; clear n0_; (try clear hb); (try clear hb2); (try clear hk); (try clear hi)) | (go_at_call 43; (with_reducible refine (millhandlaw22_is.calls kj3 t613 3 0 a1 t620 _ A40.out).mono ?_); rintro e w42 ⟨rfl, hb⟩; have n0_ := Aside0.mk (below_step (by repeat (first | (with_reducible first | exact HB.out | apply below_alloc | apply pw_below_drewN | apply below_drew1) | exact HB.out)) hb); clear HB; have HB := n0_; clear n0_; (try clear hb); (try clear hb2); (try clear hk); (try clear hi)))
         go_meet
         case rel => exact ⟨_, (!t620), (by first | rfl | (simp; done) | (simp [*]; done)), H', ⟨by have := HJ3.out; first | omega | exact Nat.le_refl _⟩, ⟨by repeat (first | (with_reducible first | exact HB.out | apply below_alloc | apply pw_below_drewN | apply below_drew1) | exact HB.out)⟩⟩
        ·
         rw [if_neg c39] at H
         have c39b0 : (t614 == 0) = false := beq_eq_false_iff_ne.mpr c39
         have c39b1 : (t614 != 0) = true := bne_iff_ne.mpr c39
         have H' := Aside0.mk H
         clear H
         go_wp2_with (first | (go_at_call 43; (with_reducible refine (millhandlaw22_is.calls kj3 t611 1 a0 (⟨#[]⟩ : ByteArray) true _ A37.out).mono ?_); rintro e w43 ⟨rfl, hb⟩; have n0_ := Aside0.mk (below_step (by repeat (first | (with_reducible first | exact HB.out | apply below_alloc | apply pw_below_drewN | apply below_drew1) | exact HB.out)) hb); clear HB; have HB := n0_; clear n0_; (try clear hb); (try clear hb2); (try clear hk); (try clear hi)))
         go_meet
         case rel => exact ⟨_, (false), (by first | rfl | (simp; done) | (simp [*]; done)), H', ⟨by have := HJ3.out; first | omega | exact Nat.le_refl _⟩, ⟨by repeat (first | (with_reducible first | exact HB.out | apply below_alloc | apply pw_below_drewN | apply below_drew1) | exact HB.out)⟩⟩
       ·
        replace c38 := Bool.eq_false_iff.mpr c38
        subst c38
        have H1 : (millhandlaw22_KeysBack.j1 kj3 true) = some r := by rw [if_neg (show ¬ (false = true) by decide)] at H; exact H
        clear H
        have H := H1
        clear H1
        have H' := Aside0.mk H
        clear H
        go_wp2_with (first | (go_at_call 43; (with_reducible refine (millhandlaw22_is.calls kj3 t611 1 a0 (⟨#[]⟩ : ByteArray) false _ A37.out).mono ?_); rintro e w44 ⟨rfl, hb⟩; have n0_ := Aside0.mk (below_step (by repeat (first | (with_reducible first | exact HB.out | apply below_alloc | apply pw_below_drewN | apply below_drew1) | exact HB.out)) hb); clear HB; have HB := n0_; clear n0_; (try clear hb); (try clear hb2); (try clear hk); (try clear hi)))
        go_meet
        case rel => exact ⟨_, (true), (by first | rfl | (simp; done) | (simp [*]; done)), H', ⟨by have := HJ3.out; first | omega | exact Nat.le_refl _⟩, ⟨by repeat (first | (with_reducible first | exact HB.out | apply below_alloc | apply pw_below_drewN | apply below_drew1) | exact HB.out)⟩⟩
      ·
       rw [if_neg c36] at H
       have c36b0 : (t612 == 0) = false := beq_eq_false_iff_ne.mpr c36
       have c36b1 : (t612 != 0) = true := bne_iff_ne.mpr c36
       by_cases c45 : t614 = 0
       ·
        rw [if_pos c45] at H
        have c45b0 : (t614 == 0) = true := beq_iff_eq.mpr c45
        have c45b1 : (t614 != 0) = false := bne_eq_false_iff_eq.mpr c45
        clear c45
        replace H := Option.bind_eq_some_iff.mp H
        obtain ⟨t621, A460, H⟩ := H
        replace H : (millhandlaw22_KeysBack.j1 kj3 (!t621)) = some r := H
        have A46 := Aside0.mk A460
        clear A460
        have H' := Aside0.mk H
        clear H
        go_wp2_with (first | (go_at_call 43; (with_reducible refine (millhandlaw22_is.calls kj3 t613 3 0 a1 t621 _ A46.out).mono ?_); rintro e w47 ⟨rfl, hb⟩; have n0_ := Aside0.mk (below_step (by repeat (first | (with_reducible first | exact HB.out | apply below_alloc | apply pw_below_drewN | apply below_drew1) | exact HB.out)) hb); clear HB; have HB := n0_; clear n0_; (try clear hb); (try clear hb2); (try clear hk); (try clear hi)))
        go_meet
        case rel => exact ⟨_, (!t621), (by first | rfl | (simp; done) | (simp [*]; done)), H', ⟨by have := HJ3.out; first | omega | exact Nat.le_refl _⟩, ⟨by repeat (first | (with_reducible first | exact HB.out | apply below_alloc | apply pw_below_drewN | apply below_drew1) | exact HB.out)⟩⟩
       ·
        rw [if_neg c45] at H
        have c45b0 : (t614 == 0) = false := beq_eq_false_iff_ne.mpr c45
        have c45b1 : (t614 != 0) = true := bne_iff_ne.mpr c45
        have H' := Aside0.mk H
        clear H
        go_wp2
        go_meet
        case rel => exact ⟨_, (false), (by first | rfl | (simp; done) | (simp [*]; done)), H', ⟨by have := HJ3.out; first | omega | exact Nat.le_refl _⟩, ⟨by repeat (first | (with_reducible first | exact HB.out | apply below_alloc | apply pw_below_drewN | apply below_drew1) | exact HB.out)⟩⟩
    case rest =>
     clear HC11
     try clear c1
     try clear c2
     try clear p2
     try clear c3
     try clear c4
     try clear c6
     try clear c6b0
     try clear c6b1
     try clear c7
     try clear c12
     try clear c15
     try clear c15b0
     try clear c15b1
     try clear c17
     try clear c18
     try clear c18b0
     try clear c18b1
     try clear c20
     try clear c21
     try clear c21b0
     try clear c21b1
     try clear c29
     try clear c30
     try clear c30b0
     try clear c30b1
     try clear c31
     try clear c32
     try clear c36
     try clear c36b0
     try clear c36b1
     try clear c38
     try clear c39
     try clear c39b0
     try clear c39b1
     try clear c45
     try clear c45b0
     try clear c45b1
     try clear p2
     obtain ⟨kq, x63_10, rfl, HA, HJ10, HB⟩ := hcut
     cases kq with
     | zero => exact absurd HA.out (by simp [millhandlaw22_KeysBack.j1])
     | succ kj10 =>
      have H := HA.out
      clear HA
      simp only [millhandlaw22_KeysBack.j1] at H
      by_cases c48 : x63_10 = true
      ·
       subst c48
       have H1 : (some false) = some r := by rw [if_pos rfl] at H; exact H
       clear H
       have H := H1
       clear H1
       obtain rfl := Option.some.inj H
       go_wp2
       go_ret
       exact ⟨by first | rfl | (simp [errW_none, errW_some] <;> rfl) | (simp [*, errW_none, errW_some] <;> rfl) | exact ret_ie _ | (simp [*, errW_none, errW_some, bne]; done), by repeat (first | (with_reducible first | exact HB.out | apply below_alloc | apply pw_below_drewN | apply below_drew1) | exact HB.out)⟩
      ·
       replace c48 := Bool.eq_false_iff.mpr c48
       subst c48
       have H1 : ((keys_Head.f kj10).bind fun t622 => ((millhandlaw22_is.f kj10 t622 2 0 (⟨#[]⟩ : ByteArray)).bind fun t623 => (some t623))) = some r := by rw [if_neg (show ¬ (false = true) by decide)] at H; exact H
       clear H
       have H := H1
       clear H1
       replace H := Option.bind_eq_some_iff.mp H
       obtain ⟨t622, A490, H⟩ := H
       replace H : ((millhandlaw22_is.f kj10 t622 2 0 (⟨#[]⟩ : ByteArray)).bind fun t623 => (some t623)) = some r := H
       have A49 := Aside0.mk A490
       clear A490
       replace H := Option.bind_eq_some_iff.mp H
       obtain ⟨t623, A500, H⟩ := H
       replace H : (some t623) = some r := H
       have A50 := Aside0.mk A500
       clear A500
       obtain rfl := Option.some.inj H
       go_wp2_with (first | ((with_reducible refine gate_callee (f := 35) rfl ?_); refine goesL_ (some 64) rfl rfl Tryd.func35 (by kernel_rfl) rfl #[] rfl (by (try simp only [List.map_toArray, List.map_cons, List.map_nil]); first | done | rfl | (simp only [List.length_drop, List.length_take]; rfl)) ?_; (with_reducible refine (keys_Head.calls kj10  t622 _ A49.out).mono ?_); rintro e w51 ⟨rfl, hb⟩; refine ⟨_, rfl, ?_⟩; have n0_ := Aside0.mk (below_step (by repeat (first | (with_reducible first | exact HB.out | apply below_alloc | apply pw_below_drewN | apply below_drew1) | exact HB.out)) hb); clear HB; have HB := n0_; clear n0_; (try clear hb); (try clear hb2); (try clear hk); (try clear hi)) | ((with_reducible refine gate_callee (f := 43) rfl ?_); refine goesL_ (some 65) rfl rfl Tryd.func43 (by kernel_rfl) rfl #[.string t622, .int .u8 2, .int .i64 0, .string (⟨#[]⟩ : ByteArray)] rfl (by (try simp only [List.map_toArray, List.map_cons, List.map_nil]); first | done | rfl | (simp only [List.length_drop, List.length_take]; rfl)) ?_; (with_reducible refine (millhandlaw22_is.calls kj10 t622 2 0 (⟨#[]⟩ : ByteArray) t623 _ A50.out).mono ?_); rintro e w52 ⟨rfl, hb⟩; refine ⟨_, rfl, ?_⟩; have n0_ := Aside0.mk (below_step (by repeat (first | (with_reducible first | exact HB.out | apply below_alloc | apply pw_below_drewN | apply below_drew1) | exact HB.out)) hb); clear HB; have HB := n0_; clear n0_; (try clear hb); (try clear hb2); (try clear hk); (try clear hi)))
       go_ret
       exact ⟨by first | rfl | (simp [errW_none, errW_some] <;> rfl) | (simp [*, errW_none, errW_some] <;> rfl) | exact ret_ie _ | (simp [*, errW_none, errW_some, bne]; done), by repeat (first | (with_reducible first | exact HB.out | apply below_alloc | apply pw_below_drewN | apply below_drew1) | exact HB.out)⟩

end Go.Proofs.YtagdmgjdhbmaiaaDoor.R

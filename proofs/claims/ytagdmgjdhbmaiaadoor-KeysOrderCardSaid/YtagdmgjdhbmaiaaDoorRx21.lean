/- Contracts of Go functions and what they come to, over the translation of this seat: made by a program of this session (print2.py). -/
import Derived.Test.YtagdmgjdhbmaiaaDoorOrd
import Derived.Test.YtagdmgjdhbmaiaaDoorRx0
import Derived.Test.YtagdmgjdhbmaiaaDoorRx20
namespace Go.Proofs.YtagdmgjdhbmaiaaDoor.R
open Go.RowKit Go.Proofs.YtagdmgjdhbmaiaaDoor.Co Go.Proofs.YtagdmgjdhbmaiaaDoor.Ret Go.Proofs.YtagdmgjdhbmaiaaDoor.Plain Go.Proofs.YtagdmgjdhbmaiaaDoor.Box Go.Proofs.YtagdmgjdhbmaiaaDoorW.PrintWords Go.Proofs.YtagdmgjdhbmaiaaDoorW.PrintLast Go.Proofs.YtagdmgjdhbmaiaaDoorW.PrintMore
attribute [local go_sem] max2_int min2_int max_two min_two max_three min_three max_four min_four   -- for this text's walks alone
set_option linter.unusedVariables false
set_option linter.unusedSimpArgs false

/-! ### millhandlaw22_KeysOrder: function 9 -/
mutual
def millhandlaw22_KeysOrder.j0 : Nat → Int → Int → ByteArray → ByteArray → Bool → Bool → Option (Bool)
 | 0, _, _, _, _, _, _ => none
 | k + 1, x0, x1, x2, x3, x9, x34 => if x34 = true then (some x9) else ((keys_Run.f k x0).bind fun bt480 => ((keys_Run.f k x1).bind fun bt482 => ((keys_Event.f k x0).bind fun bt484 => ((keys_Event.f k x1).bind fun bt486 => ((keys_Name.f k x2).bind fun bt488 => ((keys_Name.f k x3).bind fun bt490 => (if bt480.2 = 0 then (if bt482.2 = 0 then (if ((Op.bytesLess bt480.1.toList bt482.1.toList) != (decide (x0 < x1))) = true then (millhandlaw22_KeysOrder.j1 k x0 x1 x2 x3 bt484.1 bt484.2 bt486.1 bt486.2 bt488.1 bt488.2 bt490.1 bt490.2 true) else (if ((bt480.1.toList == bt482.1.toList) != (x0 == x1)) = true then (millhandlaw22_KeysOrder.j1 k x0 x1 x2 x3 bt484.1 bt484.2 bt486.1 bt486.2 bt488.1 bt488.2 bt490.1 bt490.2 true) else ((millhandlaw22_begins.f bt480.1 bt482.1).bind fun t492 => (millhandlaw22_KeysOrder.j1 k x0 x1 x2 x3 bt484.1 bt484.2 bt486.1 bt486.2 bt488.1 bt488.2 bt490.1 bt490.2 t492)))) else (millhandlaw22_KeysOrder.j1 k x0 x1 x2 x3 bt484.1 bt484.2 bt486.1 bt486.2 bt488.1 bt488.2 bt490.1 bt490.2 false)) else (millhandlaw22_KeysOrder.j1 k x0 x1 x2 x3 bt484.1 bt484.2 bt486.1 bt486.2 bt488.1 bt488.2 bt490.1 bt490.2 false))))))))
def millhandlaw22_KeysOrder.j1 : Nat → Int → Int → ByteArray → ByteArray → ByteArray → Int → ByteArray → Int → ByteArray → Int → ByteArray → Int → Bool → Option (Bool)
 | 0, _, _, _, _, _, _, _, _, _, _, _, _, _ => none
 | k + 1, x0, x1, x2, x3, x14, x15, x16, x17, x18, x19, x20, x21, x94 => if x94 = true then (some false) else (if x15 = 0 then (if x17 = 0 then (if ((Op.bytesLess x14.toList x16.toList) != (decide (x0 < x1))) = true then (some false) else (if ((x14.toList == x16.toList) != (x0 == x1)) = true then (some false) else ((millhandlaw22_begins.f x14 x16).bind fun t493 => (if t493 = true then (some false) else (if x19 = 0 then (if x21 = 0 then (if ((Op.bytesLess x18.toList x20.toList) == (Op.bytesLess x2.toList x3.toList)) = true then (if ((x18.toList == x20.toList) == (x2.toList == x3.toList)) = true then ((millhandlaw22_begins.f x18 x20).bind fun t494 => (some (!t494))) else (some false)) else (some false)) else (some true)) else (some true)))))) else (if x19 = 0 then (if x21 = 0 then (if ((Op.bytesLess x18.toList x20.toList) == (Op.bytesLess x2.toList x3.toList)) = true then (if ((x18.toList == x20.toList) == (x2.toList == x3.toList)) = true then ((millhandlaw22_begins.f x18 x20).bind fun t495 => (some (!t495))) else (some false)) else (some false)) else (some true)) else (some true))) else (if x19 = 0 then (if x21 = 0 then (if ((Op.bytesLess x18.toList x20.toList) == (Op.bytesLess x2.toList x3.toList)) = true then (if ((x18.toList == x20.toList) == (x2.toList == x3.toList)) = true then ((millhandlaw22_begins.f x18 x20).bind fun t496 => (some (!t496))) else (some false)) else (some false)) else (some true)) else (some true)))
end
def millhandlaw22_KeysOrder.f (k : Nat) (a0 : Int) (a1 : Int) (a2 : ByteArray) (a3 : ByteArray) : Option (Bool) := (millhandlaw22_alive.f k).bind fun t479 => (if (a2.size : Int) > 5000 then (millhandlaw22_KeysOrder.j0 k a0 a1 a2 a3 t479 true) else (if (a3.size : Int) > 5000 then (millhandlaw22_KeysOrder.j0 k a0 a1 a2 a3 t479 true) else (millhandlaw22_KeysOrder.j0 k a0 a1 a2 a3 t479 (!t479))))
theorem millhandlaw22_KeysOrder.mono_l : ∀ k, (∀ y0 y1 y2 y3 y4 y5, LeO (millhandlaw22_KeysOrder.j0 k y0 y1 y2 y3 y4 y5) (millhandlaw22_KeysOrder.j0 (k + 1) y0 y1 y2 y3 y4 y5)) ∧ (∀ y0 y1 y2 y3 y4 y5 y6 y7 y8 y9 y10 y11 y12, LeO (millhandlaw22_KeysOrder.j1 k y0 y1 y2 y3 y4 y5 y6 y7 y8 y9 y10 y11 y12) (millhandlaw22_KeysOrder.j1 (k + 1) y0 y1 y2 y3 y4 y5 y6 y7 y8 y9 y10 y11 y12))
 | 0 => ⟨fun _ _ _ _ _ _ r h => by simp [millhandlaw22_KeysOrder.j0] at h, fun _ _ _ _ _ _ _ _ _ _ _ _ _ r h => by simp [millhandlaw22_KeysOrder.j1] at h⟩
 | k + 1 => by
  obtain ⟨ih0, ih1⟩ := millhandlaw22_KeysOrder.mono_l k
  refine ⟨?_, ?_⟩
  ·
   intro y0 y1 y2 y3 y4 y5
   unfold millhandlaw22_KeysOrder.j0
   repeat' first
   | (with_reducible exact ih0 _ _ _ _ _ _)
   | (with_reducible exact ih1 _ _ _ _ _ _ _ _ _ _ _ _ _)
   | (with_reducible exact keys_Event.mono _ _)
   | (with_reducible exact keys_Name.mono _ _)
   | (with_reducible exact keys_Run.mono _ _)
   | (with_reducible exact millhandlaw22_alive.mono _)
   | (with_reducible exact LeO.refl _)
   | (with_reducible exact LeO.none _)
   | (with_reducible refine LeO.ite ?_ ?_)
   | (with_reducible refine LeO.bind ?_ (fun _ => ?_))
   | exact ih0 _ _ _ _ _ _
   | exact ih1 _ _ _ _ _ _ _ _ _ _ _ _ _
   | exact keys_Event.mono _ _
   | exact keys_Name.mono _ _
   | exact keys_Run.mono _ _
   | exact millhandlaw22_alive.mono _
   | exact LeO.none _
   | refine LeO.ite ?_ ?_
   | refine LeO.bind ?_ (fun _ => ?_)
  ·
   intro y0 y1 y2 y3 y4 y5 y6 y7 y8 y9 y10 y11 y12
   unfold millhandlaw22_KeysOrder.j1
   repeat' first
   | (with_reducible exact ih0 _ _ _ _ _ _)
   | (with_reducible exact ih1 _ _ _ _ _ _ _ _ _ _ _ _ _)
   | (with_reducible exact keys_Event.mono _ _)
   | (with_reducible exact keys_Name.mono _ _)
   | (with_reducible exact keys_Run.mono _ _)
   | (with_reducible exact millhandlaw22_alive.mono _)
   | (with_reducible exact LeO.refl _)
   | (with_reducible exact LeO.none _)
   | (with_reducible refine LeO.ite ?_ ?_)
   | (with_reducible refine LeO.bind ?_ (fun _ => ?_))
   | exact ih0 _ _ _ _ _ _
   | exact ih1 _ _ _ _ _ _ _ _ _ _ _ _ _
   | exact keys_Event.mono _ _
   | exact keys_Name.mono _ _
   | exact keys_Run.mono _ _
   | exact millhandlaw22_alive.mono _
   | exact LeO.none _
   | refine LeO.ite ?_ ?_
   | refine LeO.bind ?_ (fun _ => ?_)
theorem millhandlaw22_KeysOrder.mono : ∀ a0 a1 a2 a3 k, LeO (millhandlaw22_KeysOrder.f k a0 a1 a2 a3) (millhandlaw22_KeysOrder.f (k + 1) a0 a1 a2 a3) := by
 intro a0 a1 a2 a3 k
 obtain ⟨ih0, ih1⟩ := millhandlaw22_KeysOrder.mono_l k
 unfold millhandlaw22_KeysOrder.f
 repeat' first
   | (with_reducible exact ih0 _ _ _ _ _ _)
   | (with_reducible exact ih1 _ _ _ _ _ _ _ _ _ _ _ _ _)
   | (with_reducible exact keys_Event.mono _ _)
   | (with_reducible exact keys_Name.mono _ _)
   | (with_reducible exact keys_Run.mono _ _)
   | (with_reducible exact millhandlaw22_alive.mono _)
   | (with_reducible exact LeO.refl _)
   | (with_reducible exact LeO.none _)
   | (with_reducible refine LeO.ite ?_ ?_)
   | (with_reducible refine LeO.bind ?_ (fun _ => ?_))
   | exact ih0 _ _ _ _ _ _
   | exact ih1 _ _ _ _ _ _ _ _ _ _ _ _ _
   | exact keys_Event.mono _ _
   | exact keys_Name.mono _ _
   | exact keys_Run.mono _ _
   | exact millhandlaw22_alive.mono _
   | exact LeO.none _
   | refine LeO.ite ?_ ?_
   | refine LeO.bind ?_ (fun _ => ?_)
set_option maxHeartbeats 8000000 in
set_option maxRecDepth 100000 in
theorem millhandlaw22_KeysOrder.calls (k : Nat) (a0 : Int) (a1 : Int) (a2 : ByteArray) (a3 : ByteArray) (r : Bool) (w : World) (h : millhandlaw22_KeysOrder.f k a0 a1 a2 a3 = some r) :
  Calls Tryd.prog 9 #[.int .i64 a0, .int .i64 a1, .string a2, .string a3] w fun e w' => e = .returned (.bool r) ∧ Below w.heap.size w w' := by
 have gq1_ := @Ord.gtr_
 have gq2_ := @Ord.leq_
 have gq3_ := @Ord.geq_
 have HB := Aside0.mk (Below.refl w.heap.size w)
 have H : ((millhandlaw22_alive.f k).bind fun t479 => (if (a2.size : Int) > 5000 then (millhandlaw22_KeysOrder.j0 k a0 a1 a2 a3 t479 true) else (if (a3.size : Int) > 5000 then (millhandlaw22_KeysOrder.j0 k a0 a1 a2 a3 t479 true) else (millhandlaw22_KeysOrder.j0 k a0 a1 a2 a3 t479 (!t479))))) = some r := h
 clear h
 replace H := Option.bind_eq_some_iff.mp H
 obtain ⟨t479, A50, H⟩ := H
 replace H : (if (a2.size : Int) > 5000 then (millhandlaw22_KeysOrder.j0 k a0 a1 a2 a3 t479 true) else (if (a3.size : Int) > 5000 then (millhandlaw22_KeysOrder.j0 k a0 a1 a2 a3 t479 true) else (millhandlaw22_KeysOrder.j0 k a0 a1 a2 a3 t479 (!t479)))) = some r := H
 have A5 := Aside0.mk A50
 clear A50
 have HC6 := Aside0.mk H
 clear H
 go_enter Tryd.func9, Tryd.ntmps9
 go_upto_region 2 with (first | ((with_reducible refine gate_callee (f := 29) rfl ?_); refine goesL_ (some 22) rfl rfl Tryd.func29 (by kernel_rfl) rfl #[] rfl (by (try simp only [List.map_toArray, List.map_cons, List.map_nil]); first | done | rfl | (simp only [List.length_drop, List.length_take]; rfl)) ?_; (with_reducible refine (millhandlaw22_alive.calls k  t479 _ A5.out).mono ?_); rintro e w7 ⟨rfl, hb⟩; refine ⟨_, rfl, ?_⟩; have n0_ := Aside0.mk (below_step (by repeat (first | (with_reducible first | exact HB.out | apply below_alloc | apply pw_below_drewN | apply below_drew1) | exact HB.out)) hb); clear HB; have HB := n0_; clear n0_; (try clear hb); (try clear hb2); (try clear hk); (try clear hi)))
 (try simp only [Act.put, sa_, s0_, s1_])
 go_cut [34] (fun v34 wc => ∃ (kq : Nat) (x34_5 : Bool), v34 = .bool x34_5 ∧ Aside0 (millhandlaw22_KeysOrder.j0 kq a0 a1 a2 a3 t479 x34_5 = some r) ∧ Aside0 (kq ≤ k) ∧ Aside0 (Below w.heap.size w wc))
 case first =>
  have H := HC6.out
  clear HC6
  by_cases c8 : (a2.size : Int) > 5000
  ·
   rw [if_pos c8] at H
   have c8b0 : decide (5000 < (a2.size : Int)) = true := decide_eq_true c8
   have c8b1 : decide (5000 < a2.size) = true := decide_eq_true (by omega)
   clear c8
   (first | rw [c8b0] | (simp only [i64_w, i32_w]; rw [c8b0]) | skip)
   have H' := Aside0.mk H
   clear H
   go_wp2
   go_meet
   case rel => exact ⟨_, (true), (by first | rfl | (simp; done) | (simp [*]; done)), H', ⟨by first | omega | exact Nat.le_refl _⟩, ⟨by repeat (first | (with_reducible first | exact HB.out | apply below_alloc | apply pw_below_drewN | apply below_drew1) | exact HB.out)⟩⟩
  ·
   rw [if_neg c8] at H
   have c8b0 : decide (5000 < (a2.size : Int)) = false := decide_eq_false c8
   have c8b1 : decide (5000 < a2.size) = false := decide_eq_false (by omega)
   clear c8
   (first | rw [c8b0] | (simp only [i64_w, i32_w]; rw [c8b0]) | skip)
   by_cases c9 : (a3.size : Int) > 5000
   ·
    rw [if_pos c9] at H
    have c9b0 : decide (5000 < (a3.size : Int)) = true := decide_eq_true c9
    have c9b1 : decide (5000 < a3.size) = true := decide_eq_true (by omega)
    clear c9
    have H' := Aside0.mk H
    clear H
    go_wp2
    go_meet
    case rel => exact ⟨_, (true), (by first | rfl | (simp; done) | (simp [*]; done)), H', ⟨by first | omega | exact Nat.le_refl _⟩, ⟨by repeat (first | (with_reducible first | exact HB.out | apply below_alloc | apply pw_below_drewN | apply below_drew1) | exact HB.out)⟩⟩
   ·
    rw [if_neg c9] at H
    have c9b0 : decide (5000 < (a3.size : Int)) = false := decide_eq_false c9
    have c9b1 : decide (5000 < a3.size) = false := decide_eq_false (by omega)
    clear c9
    have H' := Aside0.mk H
    clear H
    go_wp2
    go_meet
    case rel => exact ⟨_, (!t479), (by first | rfl | (simp; done) | (simp [*]; done)), H', ⟨by first | omega | exact Nat.le_refl _⟩, ⟨by repeat (first | (with_reducible first | exact HB.out | apply below_alloc | apply pw_below_drewN | apply below_drew1) | exact HB.out)⟩⟩
 case rest =>
  clear HC6
  try clear c2
  try clear p2
  try clear c8
  try clear c8b0
  try clear c8b1
  try clear c9
  try clear c9b0
  try clear c9b1
  obtain ⟨kq, x34_5, rfl, HA, HJ5, HB⟩ := hcut
  cases kq with
  | zero => exact absurd HA.out (by simp [millhandlaw22_KeysOrder.j0])
  | succ kj5 =>
   have H := HA.out
   clear HA
   simp only [millhandlaw22_KeysOrder.j0] at H
   by_cases c10 : x34_5 = true
   ·
    subst c10
    have H1 : (some t479) = some r := by rw [if_pos rfl] at H; exact H
    clear H
    have H := H1
    clear H1
    obtain rfl := Option.some.inj H
    go_wp2
    go_ret
    exact ⟨by first | rfl | (simp [errW_none, errW_some] <;> rfl) | (simp [*, errW_none, errW_some] <;> rfl) | exact ret_ie _ | (simp [*, errW_none, errW_some, bne]; done), by repeat (first | (with_reducible first | exact HB.out | apply below_alloc | apply pw_below_drewN | apply below_drew1) | exact HB.out)⟩
   ·
    replace c10 := Bool.eq_false_iff.mpr c10
    subst c10
    have H1 : ((keys_Run.f kj5 a0).bind fun bt480 => ((keys_Run.f kj5 a1).bind fun bt482 => ((keys_Event.f kj5 a0).bind fun bt484 => ((keys_Event.f kj5 a1).bind fun bt486 => ((keys_Name.f kj5 a2).bind fun bt488 => ((keys_Name.f kj5 a3).bind fun bt490 => (if bt480.2 = 0 then (if bt482.2 = 0 then (if ((Op.bytesLess bt480.1.toList bt482.1.toList) != (decide (a0 < a1))) = true then (millhandlaw22_KeysOrder.j1 kj5 a0 a1 a2 a3 bt484.1 bt484.2 bt486.1 bt486.2 bt488.1 bt488.2 bt490.1 bt490.2 true) else (if ((bt480.1.toList == bt482.1.toList) != (a0 == a1)) = true then (millhandlaw22_KeysOrder.j1 kj5 a0 a1 a2 a3 bt484.1 bt484.2 bt486.1 bt486.2 bt488.1 bt488.2 bt490.1 bt490.2 true) else ((millhandlaw22_begins.f bt480.1 bt482.1).bind fun t492 => (millhandlaw22_KeysOrder.j1 kj5 a0 a1 a2 a3 bt484.1 bt484.2 bt486.1 bt486.2 bt488.1 bt488.2 bt490.1 bt490.2 t492)))) else (millhandlaw22_KeysOrder.j1 kj5 a0 a1 a2 a3 bt484.1 bt484.2 bt486.1 bt486.2 bt488.1 bt488.2 bt490.1 bt490.2 false)) else (millhandlaw22_KeysOrder.j1 kj5 a0 a1 a2 a3 bt484.1 bt484.2 bt486.1 bt486.2 bt488.1 bt488.2 bt490.1 bt490.2 false)))))))) = some r := by rw [if_neg (show ¬ (false = true) by decide)] at H; exact H
    clear H
    have H := H1
    clear H1
    replace H := Option.bind_eq_some_iff.mp H
    obtain ⟨⟨t480, t481⟩, A110, H⟩ := H
    replace H : ((keys_Run.f kj5 a1).bind fun bt482 => ((keys_Event.f kj5 a0).bind fun bt484 => ((keys_Event.f kj5 a1).bind fun bt486 => ((keys_Name.f kj5 a2).bind fun bt488 => ((keys_Name.f kj5 a3).bind fun bt490 => (if t481 = 0 then (if bt482.2 = 0 then (if ((Op.bytesLess t480.toList bt482.1.toList) != (decide (a0 < a1))) = true then (millhandlaw22_KeysOrder.j1 kj5 a0 a1 a2 a3 bt484.1 bt484.2 bt486.1 bt486.2 bt488.1 bt488.2 bt490.1 bt490.2 true) else (if ((t480.toList == bt482.1.toList) != (a0 == a1)) = true then (millhandlaw22_KeysOrder.j1 kj5 a0 a1 a2 a3 bt484.1 bt484.2 bt486.1 bt486.2 bt488.1 bt488.2 bt490.1 bt490.2 true) else ((millhandlaw22_begins.f t480 bt482.1).bind fun t492 => (millhandlaw22_KeysOrder.j1 kj5 a0 a1 a2 a3 bt484.1 bt484.2 bt486.1 bt486.2 bt488.1 bt488.2 bt490.1 bt490.2 t492)))) else (millhandlaw22_KeysOrder.j1 kj5 a0 a1 a2 a3 bt484.1 bt484.2 bt486.1 bt486.2 bt488.1 bt488.2 bt490.1 bt490.2 false)) else (millhandlaw22_KeysOrder.j1 kj5 a0 a1 a2 a3 bt484.1 bt484.2 bt486.1 bt486.2 bt488.1 bt488.2 bt490.1 bt490.2 false))))))) = some r := H
    have A11 := Aside0.mk A110
    clear A110
    replace H := Option.bind_eq_some_iff.mp H
    obtain ⟨⟨t482, t483⟩, A120, H⟩ := H
    replace H : ((keys_Event.f kj5 a0).bind fun bt484 => ((keys_Event.f kj5 a1).bind fun bt486 => ((keys_Name.f kj5 a2).bind fun bt488 => ((keys_Name.f kj5 a3).bind fun bt490 => (if t481 = 0 then (if t483 = 0 then (if ((Op.bytesLess t480.toList t482.toList) != (decide (a0 < a1))) = true then (millhandlaw22_KeysOrder.j1 kj5 a0 a1 a2 a3 bt484.1 bt484.2 bt486.1 bt486.2 bt488.1 bt488.2 bt490.1 bt490.2 true) else (if ((t480.toList == t482.toList) != (a0 == a1)) = true then (millhandlaw22_KeysOrder.j1 kj5 a0 a1 a2 a3 bt484.1 bt484.2 bt486.1 bt486.2 bt488.1 bt488.2 bt490.1 bt490.2 true) else ((millhandlaw22_begins.f t480 t482).bind fun t492 => (millhandlaw22_KeysOrder.j1 kj5 a0 a1 a2 a3 bt484.1 bt484.2 bt486.1 bt486.2 bt488.1 bt488.2 bt490.1 bt490.2 t492)))) else (millhandlaw22_KeysOrder.j1 kj5 a0 a1 a2 a3 bt484.1 bt484.2 bt486.1 bt486.2 bt488.1 bt488.2 bt490.1 bt490.2 false)) else (millhandlaw22_KeysOrder.j1 kj5 a0 a1 a2 a3 bt484.1 bt484.2 bt486.1 bt486.2 bt488.1 bt488.2 bt490.1 bt490.2 false)))))) = some r := H
    have A12 := Aside0.mk A120
    clear A120
    replace H := Option.bind_eq_some_iff.mp H
    obtain ⟨⟨t484, t485⟩, A130, H⟩ := H
    replace H : ((keys_Event.f kj5 a1).bind fun bt486 => ((keys_Name.f kj5 a2).bind fun bt488 => ((keys_Name.f kj5 a3).bind fun bt490 => (if t481 = 0 then (if t483 = 0 then (if ((Op.bytesLess t480.toList t482.toList) != (decide (a0 < a1))) = true then (millhandlaw22_KeysOrder.j1 kj5 a0 a1 a2 a3 t484 t485 bt486.1 bt486.2 bt488.1 bt488.2 bt490.1 bt490.2 true) else (if ((t480.toList == t482.toList) != (a0 == a1)) = true then (millhandlaw22_KeysOrder.j1 kj5 a0 a1 a2 a3 t484 t485 bt486.1 bt486.2 bt488.1 bt488.2 bt490.1 bt490.2 true) else ((millhandlaw22_begins.f t480 t482).bind fun t492 => (millhandlaw22_KeysOrder.j1 kj5 a0 a1 a2 a3 t484 t485 bt486.1 bt486.2 bt488.1 bt488.2 bt490.1 bt490.2 t492)))) else (millhandlaw22_KeysOrder.j1 kj5 a0 a1 a2 a3 t484 t485 bt486.1 bt486.2 bt488.1 bt488.2 bt490.1 bt490.2 false)) else (millhandlaw22_KeysOrder.j1 kj5 a0 a1 a2 a3 t484 t485 bt486.1 bt486.2 bt488.1 bt488.2 bt490.1 bt490.2 false))))) = some r := H
    have A13 := Aside0.mk A130
    clear A130
    replace H := Option.bind_eq_some_iff.mp H
    obtain ⟨⟨t486, t487⟩, A140, H⟩ := H
    replace H : ((keys_Name.f kj5 a2).bind fun bt488 => ((keys_Name.f kj5 a3).bind fun bt490 => (if t481 = 0 then (if t483 = 0 then (if ((Op.bytesLess t480.toList t482.toList) != (decide (a0 < a1))) = true then (millhandlaw22_KeysOrder.j1 kj5 a0 a1 a2 a3 t484 t485 t486 t487 bt488.1 bt488.2 bt490.1 bt490.2 true) else (if ((t480.toList == t482.toList) != (a0 == a1)) = true then (millhandlaw22_KeysOrder.j1 kj5 a0 a1 a2 a3 t484 t485 t486 t487 bt488.1 bt488.2 bt490.1 bt490.2 true) else ((millhandlaw22_begins.f t480 t482).bind fun t492 => (millhandlaw22_KeysOrder.j1 kj5 a0 a1 a2 a3 t484 t485 t486 t487 bt488.1 bt488.2 bt490.1 bt490.2 t492)))) else (millhandlaw22_KeysOrder.j1 kj5 a0 a1 a2 a3 t484 t485 t486 t487 bt488.1 bt488.2 bt490.1 bt490.2 false)) else (millhandlaw22_KeysOrder.j1 kj5 a0 a1 a2 a3 t484 t485 t486 t487 bt488.1 bt488.2 bt490.1 bt490.2 false)))) = some r := H
    have A14 := Aside0.mk A140
    clear A140
    replace H := Option.bind_eq_some_iff.mp H
    obtain ⟨⟨t488, t489⟩, A150, H⟩ := H
    replace H : ((keys_Name.f kj5 a3).bind fun bt490 => (if t481 = 0 then (if t483 = 0 then (if ((Op.bytesLess t480.toList t482.toList) != (decide (a0 < a1))) = true then (millhandlaw22_KeysOrder.j1 kj5 a0 a1 a2 a3 t484 t485 t486 t487 t488 t489 bt490.1 bt490.2 true) else (if ((t480.toList == t482.toList) != (a0 == a1)) = true then (millhandlaw22_KeysOrder.j1 kj5 a0 a1 a2 a3 t484 t485 t486 t487 t488 t489 bt490.1 bt490.2 true) else ((millhandlaw22_begins.f t480 t482).bind fun t492 => (millhandlaw22_KeysOrder.j1 kj5 a0 a1 a2 a3 t484 t485 t486 t487 t488 t489 bt490.1 bt490.2 t492)))) else (millhandlaw22_KeysOrder.j1 kj5 a0 a1 a2 a3 t484 t485 t486 t487 t488 t489 bt490.1 bt490.2 false)) else (millhandlaw22_KeysOrder.j1 kj5 a0 a1 a2 a3 t484 t485 t486 t487 t488 t489 bt490.1 bt490.2 false))) = some r := H
    have A15 := Aside0.mk A150
    clear A150
    replace H := Option.bind_eq_some_iff.mp H
    obtain ⟨⟨t490, t491⟩, A160, H⟩ := H
    replace H : (if t481 = 0 then (if t483 = 0 then (if ((Op.bytesLess t480.toList t482.toList) != (decide (a0 < a1))) = true then (millhandlaw22_KeysOrder.j1 kj5 a0 a1 a2 a3 t484 t485 t486 t487 t488 t489 t490 t491 true) else (if ((t480.toList == t482.toList) != (a0 == a1)) = true then (millhandlaw22_KeysOrder.j1 kj5 a0 a1 a2 a3 t484 t485 t486 t487 t488 t489 t490 t491 true) else ((millhandlaw22_begins.f t480 t482).bind fun t492 => (millhandlaw22_KeysOrder.j1 kj5 a0 a1 a2 a3 t484 t485 t486 t487 t488 t489 t490 t491 t492)))) else (millhandlaw22_KeysOrder.j1 kj5 a0 a1 a2 a3 t484 t485 t486 t487 t488 t489 t490 t491 false)) else (millhandlaw22_KeysOrder.j1 kj5 a0 a1 a2 a3 t484 t485 t486 t487 t488 t489 t490 t491 false)) = some r := H
    have A16 := Aside0.mk A160
    clear A160
    have HC17 := Aside0.mk H
    clear H
    go_upto_region 10 with (first | ((with_reducible refine gate_callee (f := 30) rfl ?_); refine goesL_ (some 38) rfl rfl Tryd.func30 (by kernel_rfl) rfl #[.int .i64 a0] rfl (by (try simp only [List.map_toArray, List.map_cons, List.map_nil]); first | done | rfl | (simp only [List.length_drop, List.length_take]; rfl)) ?_; (with_reducible refine (keys_Run.calls kj5 a0 t480 t481 _ A11.out).mono ?_); rintro e w18 ⟨rfl, hb⟩; refine ⟨_, rfl, ?_⟩; have n0_ := Aside0.mk (below_step (by repeat (first | (with_reducible first | exact HB.out | apply below_alloc | apply pw_below_drewN | apply below_drew1) | exact HB.out)) hb); clear HB; have HB := n0_; clear n0_; (try clear hb); (try clear hb2); (try clear hk); (try clear hi)) | ((with_reducible refine gate_callee (f := 30) rfl ?_); refine goesL_ (some 43) rfl rfl Tryd.func30 (by kernel_rfl) rfl #[.int .i64 a1] rfl (by (try simp only [List.map_toArray, List.map_cons, List.map_nil]); first | done | rfl | (simp only [List.length_drop, List.length_take]; rfl)) ?_; (with_reducible refine (keys_Run.calls kj5 a1 t482 t483 _ A12.out).mono ?_); rintro e w19 ⟨rfl, hb⟩; refine ⟨_, rfl, ?_⟩; have n0_ := Aside0.mk (below_step (by repeat (first | (with_reducible first | exact HB.out | apply below_alloc | apply pw_below_drewN | apply below_drew1) | exact HB.out)) hb); clear HB; have HB := n0_; clear n0_; (try clear hb); (try clear hb2); (try clear hk); (try clear hi)) | ((with_reducible refine gate_callee (f := 31) rfl ?_); refine goesL_ (some 48) rfl rfl Tryd.func31 (by kernel_rfl) rfl #[.int .i64 a0] rfl (by (try simp only [List.map_toArray, List.map_cons, List.map_nil]); first | done | rfl | (simp only [List.length_drop, List.length_take]; rfl)) ?_; (with_reducible refine (keys_Event.calls kj5 a0 t484 t485 _ A13.out).mono ?_); rintro e w20 ⟨rfl, hb⟩; refine ⟨_, rfl, ?_⟩; have n0_ := Aside0.mk (below_step (by repeat (first | (with_reducible first | exact HB.out | apply below_alloc | apply pw_below_drewN | apply below_drew1) | exact HB.out)) hb); clear HB; have HB := n0_; clear n0_; (try clear hb); (try clear hb2); (try clear hk); (try clear hi)) | ((with_reducible refine gate_callee (f := 31) rfl ?_); refine goesL_ (some 53) rfl rfl Tryd.func31 (by kernel_rfl) rfl #[.int .i64 a1] rfl (by (try simp only [List.map_toArray, List.map_cons, List.map_nil]); first | done | rfl | (simp only [List.length_drop, List.length_take]; rfl)) ?_; (with_reducible refine (keys_Event.calls kj5 a1 t486 t487 _ A14.out).mono ?_); rintro e w21 ⟨rfl, hb⟩; refine ⟨_, rfl, ?_⟩; have n0_ := Aside0.mk (below_step (by repeat (first | (with_reducible first | exact HB.out | apply below_alloc | apply pw_below_drewN | apply below_drew1) | exact HB.out)) hb); clear HB; have HB := n0_; clear n0_; (try clear hb); (try clear hb2); (try clear hk); (try clear hi)) | ((with_reducible refine gate_callee (f := 32) rfl ?_); refine goesL_ (some 58) rfl rfl Tryd.func32 (by kernel_rfl) rfl #[.string a2] rfl (by (try simp only [List.map_toArray, List.map_cons, List.map_nil]); first | done | rfl | (simp only [List.length_drop, List.length_take]; rfl)) ?_; (with_reducible refine (keys_Name.calls kj5 a2 t488 t489 _ A15.out).mono ?_); rintro e w22 ⟨rfl, hb⟩; refine ⟨_, rfl, ?_⟩; have n0_ := Aside0.mk (below_step (by repeat (first | (with_reducible first | exact HB.out | apply below_alloc | apply pw_below_drewN | apply below_drew1) | exact HB.out)) hb); clear HB; have HB := n0_; clear n0_; (try clear hb); (try clear hb2); (try clear hk); (try clear hi)) | ((with_reducible refine gate_callee (f := 32) rfl ?_); refine goesL_ (some 63) rfl rfl Tryd.func32 (by kernel_rfl) rfl #[.string a3] rfl (by (try simp only [List.map_toArray, List.map_cons, List.map_nil]); first | done | rfl | (simp only [List.length_drop, List.length_take]; rfl)) ?_; (with_reducible refine (keys_Name.calls kj5 a3 t490 t491 _ A16.out).mono ?_); rintro e w23 ⟨rfl, hb⟩; refine ⟨_, rfl, ?_⟩; have n0_ := Aside0.mk (below_step (by repeat (first | (with_reducible first | exact HB.out | apply below_alloc | apply pw_below_drewN | apply below_drew1) | exact HB.out)) hb); clear HB; have HB := n0_; clear n0_; (try clear hb); (try clear hb2); (try clear hk); (try clear hi)))
    (try simp only [Act.put, sa_, s0_, s1_])
    go_cut [94] (fun v94 wc => ∃ (kq : Nat) (x94_16 : Bool), v94 = .bool x94_16 ∧ Aside0 (millhandlaw22_KeysOrder.j1 kq a0 a1 a2 a3 t484 t485 t486 t487 t488 t489 t490 t491 x94_16 = some r) ∧ Aside0 (kq ≤ kj5) ∧ Aside0 (Below w.heap.size w wc))
    case first =>
     have H := HC17.out
     clear HC17
     by_cases c24 : t481 = 0
     ·
      rw [if_pos c24] at H
      have c24b0 : (t481 == 0) = true := beq_iff_eq.mpr c24
      have c24b1 : (t481 != 0) = false := bne_eq_false_iff_eq.mpr c24
      clear c24
      (first | rw [c24b0] | (simp only [i64_w, i32_w]; rw [c24b0]) | skip)
      by_cases c25 : t483 = 0
      ·
       rw [if_pos c25] at H
       have c25b0 : (t483 == 0) = true := beq_iff_eq.mpr c25
       have c25b1 : (t483 != 0) = false := bne_eq_false_iff_eq.mpr c25
       clear c25
       by_cases c26 : ((Op.bytesLess t480.toList t482.toList) != (decide (a0 < a1))) = true
       ·
        rw [if_pos c26] at H
        have c26b0 : ((Op.bytesLess t480.toList t482.toList) != (decide (a0 < a1))) = true := c26
        (try (have c26b1 : decide ((Op.bytesLess t480.toList t482.toList) = (decide (a0 < a1))) = false := by simpa using c26))
        (try (have c26b2 : ((Op.bytesLess t480.toList t482.toList) == (decide (a0 < a1))) = false := by simpa using c26))
        (try (have c26b3 : ¬ ((Op.bytesLess t480.toList t482.toList) = (decide (a0 < a1))) := by simpa using c26))
        clear c26
        have H' := Aside0.mk H
        clear H
        go_wp2
        go_meet
        case rel => exact ⟨_, (true), (by first | rfl | (simp; done) | (simp [*]; done)), H', ⟨by have := HJ5.out; first | omega | exact Nat.le_refl _⟩, ⟨by repeat (first | (with_reducible first | exact HB.out | apply below_alloc | apply pw_below_drewN | apply below_drew1) | exact HB.out)⟩⟩
       ·
        rw [if_neg c26] at H
        have c26b0 : ((Op.bytesLess t480.toList t482.toList) != (decide (a0 < a1))) = false := by simpa using c26
        (try (have c26b1 : decide ((Op.bytesLess t480.toList t482.toList) = (decide (a0 < a1))) = true := by simpa using c26))
        (try (have c26b2 : ((Op.bytesLess t480.toList t482.toList) == (decide (a0 < a1))) = true := by simpa using c26))
        clear c26
        by_cases c27 : ((t480.toList == t482.toList) != (a0 == a1)) = true
        ·
         rw [if_pos c27] at H
         have c27b0 : ((t480.toList == t482.toList) != (a0 == a1)) = true := c27
         (try (have c27b1 : decide ((t480.toList == t482.toList) = (a0 == a1)) = false := by simpa using c27))
         (try (have c27b2 : ((t480.toList == t482.toList) == (a0 == a1)) = false := by simpa using c27))
         (try (have c27b3 : ¬ ((t480.toList == t482.toList) = (a0 == a1)) := by simpa using c27))
         clear c27
         have H' := Aside0.mk H
         clear H
         go_wp2
         go_meet
         case rel => exact ⟨_, (true), (by first | rfl | (simp; done) | (simp [*]; done)), H', ⟨by have := HJ5.out; first | omega | exact Nat.le_refl _⟩, ⟨by repeat (first | (with_reducible first | exact HB.out | apply below_alloc | apply pw_below_drewN | apply below_drew1) | exact HB.out)⟩⟩
        ·
         rw [if_neg c27] at H
         have c27b0 : ((t480.toList == t482.toList) != (a0 == a1)) = false := by simpa using c27
         (try (have c27b1 : decide ((t480.toList == t482.toList) = (a0 == a1)) = true := by simpa using c27))
         (try (have c27b2 : ((t480.toList == t482.toList) == (a0 == a1)) = true := by simpa using c27))
         clear c27
         replace H := Option.bind_eq_some_iff.mp H
         obtain ⟨t492, A280, H⟩ := H
         replace H : (millhandlaw22_KeysOrder.j1 kj5 a0 a1 a2 a3 t484 t485 t486 t487 t488 t489 t490 t491 t492) = some r := H
         have A28 := Aside0.mk A280
         clear A280
         have H' := Aside0.mk H
         clear H
         go_wp2_with (first | (go_at_call 33; (with_reducible refine (millhandlaw22_begins.calls t480 t482 t492 _ A28.out).mono ?_); rintro e w' ⟨rfl, ⟨nd, rfl⟩⟩))
         go_meet
         case rel => exact ⟨_, (t492), (by first | rfl | (simp; done) | (simp [*]; done)), H', ⟨by have := HJ5.out; first | omega | exact Nat.le_refl _⟩, ⟨by repeat (first | (with_reducible first | exact HB.out | apply below_alloc | apply pw_below_drewN | apply below_drew1) | exact HB.out)⟩⟩
      ·
       rw [if_neg c25] at H
       have c25b0 : (t483 == 0) = false := beq_eq_false_iff_ne.mpr c25
       have c25b1 : (t483 != 0) = true := bne_iff_ne.mpr c25
       have H' := Aside0.mk H
       clear H
       go_wp2
       go_meet
       case rel => exact ⟨_, (false), (by first | rfl | (simp; done) | (simp [*]; done)), H', ⟨by have := HJ5.out; first | omega | exact Nat.le_refl _⟩, ⟨by repeat (first | (with_reducible first | exact HB.out | apply below_alloc | apply pw_below_drewN | apply below_drew1) | exact HB.out)⟩⟩
     ·
      rw [if_neg c24] at H
      have c24b0 : (t481 == 0) = false := beq_eq_false_iff_ne.mpr c24
      have c24b1 : (t481 != 0) = true := bne_iff_ne.mpr c24
      (first | rw [c24b0] | (simp only [i64_w, i32_w]; rw [c24b0]) | skip)
      have H' := Aside0.mk H
      clear H
      go_wp2
      go_meet
      case rel => exact ⟨_, (false), (by first | rfl | (simp; done) | (simp [*]; done)), H', ⟨by have := HJ5.out; first | omega | exact Nat.le_refl _⟩, ⟨by repeat (first | (with_reducible first | exact HB.out | apply below_alloc | apply pw_below_drewN | apply below_drew1) | exact HB.out)⟩⟩
    case rest =>
     clear HC17
     try clear c1
     try clear c2
     try clear p2
     try clear c3
     try clear c8
     try clear c8b0
     try clear c8b1
     try clear c9
     try clear c9b0
     try clear c9b1
     try clear c10
     try clear c24
     try clear c24b0
     try clear c24b1
     try clear c25
     try clear c25b0
     try clear c25b1
     try clear c26
     try clear c26b0
     try clear c26b1
     try clear c26b2
     try clear c27
     try clear c27b0
     try clear c27b1
     try clear c27b2
     try clear p2
     obtain ⟨kq, x94_16, rfl, HA, HJ16, HB⟩ := hcut
     cases kq with
     | zero => exact absurd HA.out (by simp [millhandlaw22_KeysOrder.j1])
     | succ kj16 =>
      have H := HA.out
      clear HA
      simp only [millhandlaw22_KeysOrder.j1] at H
      by_cases c29 : x94_16 = true
      ·
       subst c29
       have H1 : (some false) = some r := by rw [if_pos rfl] at H; exact H
       clear H
       have H := H1
       clear H1
       obtain rfl := Option.some.inj H
       go_wp2
       go_ret
       exact ⟨by first | rfl | (simp [errW_none, errW_some] <;> rfl) | (simp [*, errW_none, errW_some] <;> rfl) | exact ret_ie _ | (simp [*, errW_none, errW_some, bne]; done), by repeat (first | (with_reducible first | exact HB.out | apply below_alloc | apply pw_below_drewN | apply below_drew1) | exact HB.out)⟩
      ·
       replace c29 := Bool.eq_false_iff.mpr c29
       subst c29
       have H1 : (if t485 = 0 then (if t487 = 0 then (if ((Op.bytesLess t484.toList t486.toList) != (decide (a0 < a1))) = true then (some false) else (if ((t484.toList == t486.toList) != (a0 == a1)) = true then (some false) else ((millhandlaw22_begins.f t484 t486).bind fun t493 => (if t493 = true then (some false) else (if t489 = 0 then (if t491 = 0 then (if ((Op.bytesLess t488.toList t490.toList) == (Op.bytesLess a2.toList a3.toList)) = true then (if ((t488.toList == t490.toList) == (a2.toList == a3.toList)) = true then ((millhandlaw22_begins.f t488 t490).bind fun t494 => (some (!t494))) else (some false)) else (some false)) else (some true)) else (some true)))))) else (if t489 = 0 then (if t491 = 0 then (if ((Op.bytesLess t488.toList t490.toList) == (Op.bytesLess a2.toList a3.toList)) = true then (if ((t488.toList == t490.toList) == (a2.toList == a3.toList)) = true then ((millhandlaw22_begins.f t488 t490).bind fun t495 => (some (!t495))) else (some false)) else (some false)) else (some true)) else (some true))) else (if t489 = 0 then (if t491 = 0 then (if ((Op.bytesLess t488.toList t490.toList) == (Op.bytesLess a2.toList a3.toList)) = true then (if ((t488.toList == t490.toList) == (a2.toList == a3.toList)) = true then ((millhandlaw22_begins.f t488 t490).bind fun t496 => (some (!t496))) else (some false)) else (some false)) else (some true)) else (some true))) = some r := by rw [if_neg (show ¬ (false = true) by decide)] at H; exact H
       clear H
       have H := H1
       clear H1
       by_cases c30 : t485 = 0
       ·
        rw [if_pos c30] at H
        have c30b0 : (t485 == 0) = true := beq_iff_eq.mpr c30
        have c30b1 : (t485 != 0) = false := bne_eq_false_iff_eq.mpr c30
        clear c30
        by_cases c31 : t487 = 0
        ·
         rw [if_pos c31] at H
         have c31b0 : (t487 == 0) = true := beq_iff_eq.mpr c31
         have c31b1 : (t487 != 0) = false := bne_eq_false_iff_eq.mpr c31
         clear c31
         by_cases c32 : ((Op.bytesLess t484.toList t486.toList) != (decide (a0 < a1))) = true
         ·
          rw [if_pos c32] at H
          have c32b0 : ((Op.bytesLess t484.toList t486.toList) != (decide (a0 < a1))) = true := c32
          (try (have c32b1 : decide ((Op.bytesLess t484.toList t486.toList) = (decide (a0 < a1))) = false := by simpa using c32))
          (try (have c32b2 : ((Op.bytesLess t484.toList t486.toList) == (decide (a0 < a1))) = false := by simpa using c32))
          (try (have c32b3 : ¬ ((Op.bytesLess t484.toList t486.toList) = (decide (a0 < a1))) := by simpa using c32))
          clear c32
          obtain rfl := Option.some.inj H
          go_wp2
          go_ret
          exact ⟨by first | rfl | (simp [errW_none, errW_some] <;> rfl) | (simp [*, errW_none, errW_some] <;> rfl) | exact ret_ie _ | (simp [*, errW_none, errW_some, bne]; done), by repeat (first | (with_reducible first | exact HB.out | apply below_alloc | apply pw_below_drewN | apply below_drew1) | exact HB.out)⟩
         ·
          rw [if_neg c32] at H
          have c32b0 : ((Op.bytesLess t484.toList t486.toList) != (decide (a0 < a1))) = false := by simpa using c32
          (try (have c32b1 : decide ((Op.bytesLess t484.toList t486.toList) = (decide (a0 < a1))) = true := by simpa using c32))
          (try (have c32b2 : ((Op.bytesLess t484.toList t486.toList) == (decide (a0 < a1))) = true := by simpa using c32))
          clear c32
          by_cases c33 : ((t484.toList == t486.toList) != (a0 == a1)) = true
          ·
           rw [if_pos c33] at H
           have c33b0 : ((t484.toList == t486.toList) != (a0 == a1)) = true := c33
           (try (have c33b1 : decide ((t484.toList == t486.toList) = (a0 == a1)) = false := by simpa using c33))
           (try (have c33b2 : ((t484.toList == t486.toList) == (a0 == a1)) = false := by simpa using c33))
           (try (have c33b3 : ¬ ((t484.toList == t486.toList) = (a0 == a1)) := by simpa using c33))
           clear c33
           obtain rfl := Option.some.inj H
           go_wp2
           go_ret
           exact ⟨by first | rfl | (simp [errW_none, errW_some] <;> rfl) | (simp [*, errW_none, errW_some] <;> rfl) | exact ret_ie _ | (simp [*, errW_none, errW_some, bne]; done), by repeat (first | (with_reducible first | exact HB.out | apply below_alloc | apply pw_below_drewN | apply below_drew1) | exact HB.out)⟩
          ·
           rw [if_neg c33] at H
           have c33b0 : ((t484.toList == t486.toList) != (a0 == a1)) = false := by simpa using c33
           (try (have c33b1 : decide ((t484.toList == t486.toList) = (a0 == a1)) = true := by simpa using c33))
           (try (have c33b2 : ((t484.toList == t486.toList) == (a0 == a1)) = true := by simpa using c33))
           clear c33
           replace H := Option.bind_eq_some_iff.mp H
           obtain ⟨t493, A340, H⟩ := H
           replace H : (if t493 = true then (some false) else (if t489 = 0 then (if t491 = 0 then (if ((Op.bytesLess t488.toList t490.toList) == (Op.bytesLess a2.toList a3.toList)) = true then (if ((t488.toList == t490.toList) == (a2.toList == a3.toList)) = true then ((millhandlaw22_begins.f t488 t490).bind fun t494 => (some (!t494))) else (some false)) else (some false)) else (some true)) else (some true))) = some r := H
           have A34 := Aside0.mk A340
           clear A340
           by_cases c35 : t493 = true
           ·
            subst c35
            have H1 : (some false) = some r := by rw [if_pos rfl] at H; exact H
            clear H
            have H := H1
            clear H1
            obtain rfl := Option.some.inj H
            go_wp2_with (first | (go_at_call 33; (with_reducible refine (millhandlaw22_begins.calls t484 t486 true _ A34.out).mono ?_); rintro e w' ⟨rfl, ⟨nd, rfl⟩⟩))
            go_ret
            exact ⟨by first | rfl | (simp [errW_none, errW_some] <;> rfl) | (simp [*, errW_none, errW_some] <;> rfl) | exact ret_ie _ | (simp [*, errW_none, errW_some, bne]; done), by repeat (first | (with_reducible first | exact HB.out | apply below_alloc | apply pw_below_drewN | apply below_drew1) | exact HB.out)⟩
           ·
            replace c35 := Bool.eq_false_iff.mpr c35
            subst c35
            have H1 : (if t489 = 0 then (if t491 = 0 then (if ((Op.bytesLess t488.toList t490.toList) == (Op.bytesLess a2.toList a3.toList)) = true then (if ((t488.toList == t490.toList) == (a2.toList == a3.toList)) = true then ((millhandlaw22_begins.f t488 t490).bind fun t494 => (some (!t494))) else (some false)) else (some false)) else (some true)) else (some true)) = some r := by rw [if_neg (show ¬ (false = true) by decide)] at H; exact H
            clear H
            have H := H1
            clear H1
            by_cases c36 : t489 = 0
            ·
             rw [if_pos c36] at H
             have c36b0 : (t489 == 0) = true := beq_iff_eq.mpr c36
             have c36b1 : (t489 != 0) = false := bne_eq_false_iff_eq.mpr c36
             clear c36
             by_cases c37 : t491 = 0
             ·
              rw [if_pos c37] at H
              have c37b0 : (t491 == 0) = true := beq_iff_eq.mpr c37
              have c37b1 : (t491 != 0) = false := bne_eq_false_iff_eq.mpr c37
              clear c37
              by_cases c38 : ((Op.bytesLess t488.toList t490.toList) == (Op.bytesLess a2.toList a3.toList)) = true
              ·
               rw [if_pos c38] at H
               have c38b0 : ((Op.bytesLess t488.toList t490.toList) == (Op.bytesLess a2.toList a3.toList)) = true := c38
               (try (have c38b1 : decide ((Op.bytesLess t488.toList t490.toList) = (Op.bytesLess a2.toList a3.toList)) = true := by simpa using c38))
               (try (have c38b2 : ((Op.bytesLess t488.toList t490.toList) == (Op.bytesLess a2.toList a3.toList)) = true := by simpa using c38))
               clear c38
               by_cases c39 : ((t488.toList == t490.toList) == (a2.toList == a3.toList)) = true
               ·
                rw [if_pos c39] at H
                have c39b0 : ((t488.toList == t490.toList) == (a2.toList == a3.toList)) = true := c39
                (try (have c39b1 : decide ((t488.toList == t490.toList) = (a2.toList == a3.toList)) = true := by simpa using c39))
                (try (have c39b2 : ((t488.toList == t490.toList) == (a2.toList == a3.toList)) = true := by simpa using c39))
                clear c39
                replace H := Option.bind_eq_some_iff.mp H
                obtain ⟨t494, A400, H⟩ := H
                replace H : (some (!t494)) = some r := H
                have A40 := Aside0.mk A400
                clear A400
                obtain rfl := Option.some.inj H
                go_wp2_with (first | (go_at_call 33; (with_reducible refine (millhandlaw22_begins.calls t484 t486 false _ A34.out).mono ?_); rintro e w' ⟨rfl, ⟨nd, rfl⟩⟩) | (go_at_call 33; (with_reducible refine (millhandlaw22_begins.calls t488 t490 t494 _ A40.out).mono ?_); rintro e w' ⟨rfl, ⟨nd, rfl⟩⟩))
                go_ret
                exact ⟨by first | rfl | (simp [errW_none, errW_some] <;> rfl) | (simp [*, errW_none, errW_some] <;> rfl) | exact ret_ie _ | (simp [*, errW_none, errW_some, bne]; done), by repeat (first | (with_reducible first | exact HB.out | apply below_alloc | apply pw_below_drewN | apply below_drew1) | exact HB.out)⟩
               ·
                rw [if_neg c39] at H
                have c39b0 : ((t488.toList == t490.toList) == (a2.toList == a3.toList)) = false := by simpa using c39
                (try (have c39b1 : decide ((t488.toList == t490.toList) = (a2.toList == a3.toList)) = false := by simpa using c39))
                (try (have c39b2 : ((t488.toList == t490.toList) == (a2.toList == a3.toList)) = false := by simpa using c39))
                (try (have c39b3 : ¬ ((t488.toList == t490.toList) = (a2.toList == a3.toList)) := by simpa using c39))
                clear c39
                obtain rfl := Option.some.inj H
                go_wp2_with (first | (go_at_call 33; (with_reducible refine (millhandlaw22_begins.calls t484 t486 false _ A34.out).mono ?_); rintro e w' ⟨rfl, ⟨nd, rfl⟩⟩))
                go_ret
                exact ⟨by first | rfl | (simp [errW_none, errW_some] <;> rfl) | (simp [*, errW_none, errW_some] <;> rfl) | exact ret_ie _ | (simp [*, errW_none, errW_some, bne]; done), by repeat (first | (with_reducible first | exact HB.out | apply below_alloc | apply pw_below_drewN | apply below_drew1) | exact HB.out)⟩
              ·
               rw [if_neg c38] at H
               have c38b0 : ((Op.bytesLess t488.toList t490.toList) == (Op.bytesLess a2.toList a3.toList)) = false := by simpa using c38
               (try (have c38b1 : decide ((Op.bytesLess t488.toList t490.toList) = (Op.bytesLess a2.toList a3.toList)) = false := by simpa using c38))
               (try (have c38b2 : ((Op.bytesLess t488.toList t490.toList) == (Op.bytesLess a2.toList a3.toList)) = false := by simpa using c38))
               (try (have c38b3 : ¬ ((Op.bytesLess t488.toList t490.toList) = (Op.bytesLess a2.toList a3.toList)) := by simpa using c38))
               clear c38
               obtain rfl := Option.some.inj H
               go_wp2_with (first | (go_at_call 33; (with_reducible refine (millhandlaw22_begins.calls t484 t486 false _ A34.out).mono ?_); rintro e w' ⟨rfl, ⟨nd, rfl⟩⟩))
               go_ret
               exact ⟨by first | rfl | (simp [errW_none, errW_some] <;> rfl) | (simp [*, errW_none, errW_some] <;> rfl) | exact ret_ie _ | (simp [*, errW_none, errW_some, bne]; done), by repeat (first | (with_reducible first | exact HB.out | apply below_alloc | apply pw_below_drewN | apply below_drew1) | exact HB.out)⟩
             ·
              rw [if_neg c37] at H
              have c37b0 : (t491 == 0) = false := beq_eq_false_iff_ne.mpr c37
              have c37b1 : (t491 != 0) = true := bne_iff_ne.mpr c37
              obtain rfl := Option.some.inj H
              go_wp2_with (first | (go_at_call 33; (with_reducible refine (millhandlaw22_begins.calls t484 t486 false _ A34.out).mono ?_); rintro e w' ⟨rfl, ⟨nd, rfl⟩⟩))
              go_ret
              exact ⟨by first | rfl | (simp [errW_none, errW_some] <;> rfl) | (simp [*, errW_none, errW_some] <;> rfl) | exact ret_ie _ | (simp [*, errW_none, errW_some, bne]; done), by repeat (first | (with_reducible first | exact HB.out | apply below_alloc | apply pw_below_drewN | apply below_drew1) | exact HB.out)⟩
            ·
             rw [if_neg c36] at H
             have c36b0 : (t489 == 0) = false := beq_eq_false_iff_ne.mpr c36
             have c36b1 : (t489 != 0) = true := bne_iff_ne.mpr c36
             obtain rfl := Option.some.inj H
             go_wp2_with (first | (go_at_call 33; (with_reducible refine (millhandlaw22_begins.calls t484 t486 false _ A34.out).mono ?_); rintro e w' ⟨rfl, ⟨nd, rfl⟩⟩))
             go_ret
             exact ⟨by first | rfl | (simp [errW_none, errW_some] <;> rfl) | (simp [*, errW_none, errW_some] <;> rfl) | exact ret_ie _ | (simp [*, errW_none, errW_some, bne]; done), by repeat (first | (with_reducible first | exact HB.out | apply below_alloc | apply pw_below_drewN | apply below_drew1) | exact HB.out)⟩
        ·
         rw [if_neg c31] at H
         have c31b0 : (t487 == 0) = false := beq_eq_false_iff_ne.mpr c31
         have c31b1 : (t487 != 0) = true := bne_iff_ne.mpr c31
         by_cases c41 : t489 = 0
         ·
          rw [if_pos c41] at H
          have c41b0 : (t489 == 0) = true := beq_iff_eq.mpr c41
          have c41b1 : (t489 != 0) = false := bne_eq_false_iff_eq.mpr c41
          clear c41
          by_cases c42 : t491 = 0
          ·
           rw [if_pos c42] at H
           have c42b0 : (t491 == 0) = true := beq_iff_eq.mpr c42
           have c42b1 : (t491 != 0) = false := bne_eq_false_iff_eq.mpr c42
           clear c42
           by_cases c43 : ((Op.bytesLess t488.toList t490.toList) == (Op.bytesLess a2.toList a3.toList)) = true
           ·
            rw [if_pos c43] at H
            have c43b0 : ((Op.bytesLess t488.toList t490.toList) == (Op.bytesLess a2.toList a3.toList)) = true := c43
            (try (have c43b1 : decide ((Op.bytesLess t488.toList t490.toList) = (Op.bytesLess a2.toList a3.toList)) = true := by simpa using c43))
            (try (have c43b2 : ((Op.bytesLess t488.toList t490.toList) == (Op.bytesLess a2.toList a3.toList)) = true := by simpa using c43))
            clear c43
            by_cases c44 : ((t488.toList == t490.toList) == (a2.toList == a3.toList)) = true
            ·
             rw [if_pos c44] at H
             have c44b0 : ((t488.toList == t490.toList) == (a2.toList == a3.toList)) = true := c44
             (try (have c44b1 : decide ((t488.toList == t490.toList) = (a2.toList == a3.toList)) = true := by simpa using c44))
             (try (have c44b2 : ((t488.toList == t490.toList) == (a2.toList == a3.toList)) = true := by simpa using c44))
             clear c44
             replace H := Option.bind_eq_some_iff.mp H
             obtain ⟨t495, A450, H⟩ := H
             replace H : (some (!t495)) = some r := H
             have A45 := Aside0.mk A450
             clear A450
             obtain rfl := Option.some.inj H
             go_wp2_with (first | (go_at_call 33; (with_reducible refine (millhandlaw22_begins.calls t488 t490 t495 _ A45.out).mono ?_); rintro e w' ⟨rfl, ⟨nd, rfl⟩⟩))
             go_ret
             exact ⟨by first | rfl | (simp [errW_none, errW_some] <;> rfl) | (simp [*, errW_none, errW_some] <;> rfl) | exact ret_ie _ | (simp [*, errW_none, errW_some, bne]; done), by repeat (first | (with_reducible first | exact HB.out | apply below_alloc | apply pw_below_drewN | apply below_drew1) | exact HB.out)⟩
            ·
             rw [if_neg c44] at H
             have c44b0 : ((t488.toList == t490.toList) == (a2.toList == a3.toList)) = false := by simpa using c44
             (try (have c44b1 : decide ((t488.toList == t490.toList) = (a2.toList == a3.toList)) = false := by simpa using c44))
             (try (have c44b2 : ((t488.toList == t490.toList) == (a2.toList == a3.toList)) = false := by simpa using c44))
             (try (have c44b3 : ¬ ((t488.toList == t490.toList) = (a2.toList == a3.toList)) := by simpa using c44))
             clear c44
             obtain rfl := Option.some.inj H
             go_wp2
             go_ret
             exact ⟨by first | rfl | (simp [errW_none, errW_some] <;> rfl) | (simp [*, errW_none, errW_some] <;> rfl) | exact ret_ie _ | (simp [*, errW_none, errW_some, bne]; done), by repeat (first | (with_reducible first | exact HB.out | apply below_alloc | apply pw_below_drewN | apply below_drew1) | exact HB.out)⟩
           ·
            rw [if_neg c43] at H
            have c43b0 : ((Op.bytesLess t488.toList t490.toList) == (Op.bytesLess a2.toList a3.toList)) = false := by simpa using c43
            (try (have c43b1 : decide ((Op.bytesLess t488.toList t490.toList) = (Op.bytesLess a2.toList a3.toList)) = false := by simpa using c43))
            (try (have c43b2 : ((Op.bytesLess t488.toList t490.toList) == (Op.bytesLess a2.toList a3.toList)) = false := by simpa using c43))
            (try (have c43b3 : ¬ ((Op.bytesLess t488.toList t490.toList) = (Op.bytesLess a2.toList a3.toList)) := by simpa using c43))
            clear c43
            obtain rfl := Option.some.inj H
            go_wp2
            go_ret
            exact ⟨by first | rfl | (simp [errW_none, errW_some] <;> rfl) | (simp [*, errW_none, errW_some] <;> rfl) | exact ret_ie _ | (simp [*, errW_none, errW_some, bne]; done), by repeat (first | (with_reducible first | exact HB.out | apply below_alloc | apply pw_below_drewN | apply below_drew1) | exact HB.out)⟩
          ·
           rw [if_neg c42] at H
           have c42b0 : (t491 == 0) = false := beq_eq_false_iff_ne.mpr c42
           have c42b1 : (t491 != 0) = true := bne_iff_ne.mpr c42
           obtain rfl := Option.some.inj H
           go_wp2
           go_ret
           exact ⟨by first | rfl | (simp [errW_none, errW_some] <;> rfl) | (simp [*, errW_none, errW_some] <;> rfl) | exact ret_ie _ | (simp [*, errW_none, errW_some, bne]; done), by repeat (first | (with_reducible first | exact HB.out | apply below_alloc | apply pw_below_drewN | apply below_drew1) | exact HB.out)⟩
         ·
          rw [if_neg c41] at H
          have c41b0 : (t489 == 0) = false := beq_eq_false_iff_ne.mpr c41
          have c41b1 : (t489 != 0) = true := bne_iff_ne.mpr c41
          obtain rfl := Option.some.inj H
          go_wp2
          go_ret
          exact ⟨by first | rfl | (simp [errW_none, errW_some] <;> rfl) | (simp [*, errW_none, errW_some] <;> rfl) | exact ret_ie _ | (simp [*, errW_none, errW_some, bne]; done), by repeat (first | (with_reducible first | exact HB.out | apply below_alloc | apply pw_below_drewN | apply below_drew1) | exact HB.out)⟩
       ·
        rw [if_neg c30] at H
        have c30b0 : (t485 == 0) = false := beq_eq_false_iff_ne.mpr c30
        have c30b1 : (t485 != 0) = true := bne_iff_ne.mpr c30
        by_cases c46 : t489 = 0
        ·
         rw [if_pos c46] at H
         have c46b0 : (t489 == 0) = true := beq_iff_eq.mpr c46
         have c46b1 : (t489 != 0) = false := bne_eq_false_iff_eq.mpr c46
         clear c46
         by_cases c47 : t491 = 0
         ·
          rw [if_pos c47] at H
          have c47b0 : (t491 == 0) = true := beq_iff_eq.mpr c47
          have c47b1 : (t491 != 0) = false := bne_eq_false_iff_eq.mpr c47
          clear c47
          by_cases c48 : ((Op.bytesLess t488.toList t490.toList) == (Op.bytesLess a2.toList a3.toList)) = true
          ·
           rw [if_pos c48] at H
           have c48b0 : ((Op.bytesLess t488.toList t490.toList) == (Op.bytesLess a2.toList a3.toList)) = true := c48
           (try (have c48b1 : decide ((Op.bytesLess t488.toList t490.toList) = (Op.bytesLess a2.toList a3.toList)) = true := by simpa using c48))
           (try (have c48b2 : ((Op.bytesLess t488.toList t490.toList) == (Op.bytesLess a2.toList a3.toList)) = true := by simpa using c48))
           clear c48
           by_cases c49 : ((t488.toList == t490.toList) == (a2.toList == a3.toList)) = true
           ·
            rw [if_pos c49] at H
            have c49b0 : ((t488.toList == t490.toList) == (a2.toList == a3.toList)) = true := c49
            (try (have c49b1 : decide ((t488.toList == t490.toList) = (a2.toList == a3.toList)) = true := by simpa using c49))
            (try (have c49b2 : ((t488.toList == t490.toList) == (a2.toList == a3.toList)) = true := by simpa using c49))
            clear c49
            replace H := Option.bind_eq_some_iff.mp H
            obtain ⟨t496, A500, H⟩ := H
            replace H : (some (!t496)) = some r := H
            have A50 := Aside0.mk A500
            clear A500
            obtain rfl := Option.some.inj H
            go_wp2_with (first | (go_at_call 33; (with_reducible refine (millhandlaw22_begins.calls t488 t490 t496 _ A50.out).mono ?_); rintro e w' ⟨rfl, ⟨nd, rfl⟩⟩))
            go_ret
            exact ⟨by first | rfl | (simp [errW_none, errW_some] <;> rfl) | (simp [*, errW_none, errW_some] <;> rfl) | exact ret_ie _ | (simp [*, errW_none, errW_some, bne]; done), by repeat (first | (with_reducible first | exact HB.out | apply below_alloc | apply pw_below_drewN | apply below_drew1) | exact HB.out)⟩
           ·
            rw [if_neg c49] at H
            have c49b0 : ((t488.toList == t490.toList) == (a2.toList == a3.toList)) = false := by simpa using c49
            (try (have c49b1 : decide ((t488.toList == t490.toList) = (a2.toList == a3.toList)) = false := by simpa using c49))
            (try (have c49b2 : ((t488.toList == t490.toList) == (a2.toList == a3.toList)) = false := by simpa using c49))
            (try (have c49b3 : ¬ ((t488.toList == t490.toList) = (a2.toList == a3.toList)) := by simpa using c49))
            clear c49
            obtain rfl := Option.some.inj H
            go_wp2
            go_ret
            exact ⟨by first | rfl | (simp [errW_none, errW_some] <;> rfl) | (simp [*, errW_none, errW_some] <;> rfl) | exact ret_ie _ | (simp [*, errW_none, errW_some, bne]; done), by repeat (first | (with_reducible first | exact HB.out | apply below_alloc | apply pw_below_drewN | apply below_drew1) | exact HB.out)⟩
          ·
           rw [if_neg c48] at H
           have c48b0 : ((Op.bytesLess t488.toList t490.toList) == (Op.bytesLess a2.toList a3.toList)) = false := by simpa using c48
           (try (have c48b1 : decide ((Op.bytesLess t488.toList t490.toList) = (Op.bytesLess a2.toList a3.toList)) = false := by simpa using c48))
           (try (have c48b2 : ((Op.bytesLess t488.toList t490.toList) == (Op.bytesLess a2.toList a3.toList)) = false := by simpa using c48))
           (try (have c48b3 : ¬ ((Op.bytesLess t488.toList t490.toList) = (Op.bytesLess a2.toList a3.toList)) := by simpa using c48))
           clear c48
           obtain rfl := Option.some.inj H
           go_wp2
           go_ret
           exact ⟨by first | rfl | (simp [errW_none, errW_some] <;> rfl) | (simp [*, errW_none, errW_some] <;> rfl) | exact ret_ie _ | (simp [*, errW_none, errW_some, bne]; done), by repeat (first | (with_reducible first | exact HB.out | apply below_alloc | apply pw_below_drewN | apply below_drew1) | exact HB.out)⟩
         ·
          rw [if_neg c47] at H
          have c47b0 : (t491 == 0) = false := beq_eq_false_iff_ne.mpr c47
          have c47b1 : (t491 != 0) = true := bne_iff_ne.mpr c47
          obtain rfl := Option.some.inj H
          go_wp2
          go_ret
          exact ⟨by first | rfl | (simp [errW_none, errW_some] <;> rfl) | (simp [*, errW_none, errW_some] <;> rfl) | exact ret_ie _ | (simp [*, errW_none, errW_some, bne]; done), by repeat (first | (with_reducible first | exact HB.out | apply below_alloc | apply pw_below_drewN | apply below_drew1) | exact HB.out)⟩
        ·
         rw [if_neg c46] at H
         have c46b0 : (t489 == 0) = false := beq_eq_false_iff_ne.mpr c46
         have c46b1 : (t489 != 0) = true := bne_iff_ne.mpr c46
         obtain rfl := Option.some.inj H
         go_wp2
         go_ret
         exact ⟨by first | rfl | (simp [errW_none, errW_some] <;> rfl) | (simp [*, errW_none, errW_some] <;> rfl) | exact ret_ie _ | (simp [*, errW_none, errW_some, bne]; done), by repeat (first | (with_reducible first | exact HB.out | apply below_alloc | apply pw_below_drewN | apply below_drew1) | exact HB.out)⟩

end Go.Proofs.YtagdmgjdhbmaiaaDoor.R

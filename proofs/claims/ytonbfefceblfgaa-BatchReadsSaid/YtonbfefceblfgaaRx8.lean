/- Contracts of Go functions and what they come to, over the translation of this seat: made by a program of this session (print2.py). -/
import Derived.Test.YtonbfefceblfgaaRx0
import Derived.Test.YtonbfefceblfgaaRx2
import Derived.Test.YtonbfefceblfgaaRx4
import Derived.Test.YtonbfefceblfgaaRx5
import Derived.Test.YtonbfefceblfgaaRx6
import Derived.Test.YtonbfefceblfgaaRx7
namespace Go.Proofs.Ytonbfefceblfgaa.R
open Go.RowKit Go.Proofs.Ytonbfefceblfgaa.Ret Go.Proofs.Ytonbfefceblfgaa.Plain Go.Proofs.Ytonbfefceblfgaa.Box Go.Proofs.YtonbfefceblfgaaW.PrintWords Go.Proofs.YtonbfefceblfgaaW.PrintLast Go.Proofs.YtonbfefceblfgaaW.PrintMore
attribute [local go_sem] max2_int min2_int max_two min_two max_three min_three max_four min_four   -- for this text's walks alone
set_option linter.unusedVariables false
set_option linter.unusedSimpArgs false

attribute [local go_sem high] eqA51
/-! ### millhandlaw10_BatchNames: function 7 -/
mutual
def millhandlaw10_BatchNames.j0 : Nat → List (S51) → Int → List Int → Bool → Option (Bool)
  | 0, _, _, _, _ => none
  | k + 1, x1, x2, x3, x34 => if x34 = true then (some false) else (if 0 ≤ (wrap64 ((x3.length : Int) - 1)) then (if (wrap64 ((x3.length : Int) - 1)) ≤ (x3.length : Int) then ((batch_Read.f (x3.take ((wrap64 ((x3.length : Int) - 1)) : Int).toNat)).bind fun bt259 => ((batch_Write.f k 1 ([] : List (S49))).bind fun bt264 => ((millhandlaw10_two.f).bind fun t268 => ((batch_Write.f k 0 t268).bind fun bt271 => (if 16385 ≤ 281474976710656 then ((batch_Read.f (List.replicate 16385 0)).bind fun bt278 => ((some (([(⟨(⟨#[97]⟩ : ByteArray), true, (⟨#[120]⟩ : ByteArray)⟩ : S49)] : List (S49)) : List (S49))).bind fun y283 => (if x2 = 0 then (if 0 < (x1.length : Int) then (if ((((rd_T51 x1 0).f0).toList) == ([97] : List UInt8) && (((rd_T51 x1 0).f1) == 300 && (!((rd_T51 x1 0).f2) && ((((rd_T51 x1 0).f3).toList) == ([120, 121] : List UInt8))))) = true then (if 1 < (x1.length : Int) then (millhandlaw10_BatchNames.j1 k bt259.2.2 bt264.2 bt271.2 bt278.2.2 y283 ((((rd_T51 x1 1).f0).toList) == ([98] : List UInt8) && (((rd_T51 x1 1).f1) == 301 && (((rd_T51 x1 1).f2) && ((((rd_T51 x1 1).f3).toList) == ([] : List UInt8)))))) else (none)) else (millhandlaw10_BatchNames.j1 k bt259.2.2 bt264.2 bt271.2 bt278.2.2 y283 false)) else (none)) else (millhandlaw10_BatchNames.j1 k bt259.2.2 bt264.2 bt271.2 bt278.2.2 y283 false)))) else (none)))))) else (none)) else (none))
def millhandlaw10_BatchNames.j1 : Nat → Int → Int → Int → Int → List (S49) → Bool → Option (Bool)
  | 0, _, _, _, _, _, _ => none
  | k + 1, x7, x9, x11, x14, x15, x16 => (millhandlaw10_alive.f k).bind fun t288 => (if t288 = true then (if x16 = true then (if x7 = 8 then (if x9 = 4 then (if x11 = 2 then (if x14 = 3 then ((batch_Check.f k x15).bind fun t289 => (if t289 = 8 then ((millhandlaw10_two.f).bind fun t290 => ((batch_Check.f k t290).bind fun t293 => (some (t293 == 0)))) else (some false))) else (some false)) else (some false)) else (some false)) else (some false)) else (some false)) else (some false))
end
def millhandlaw10_BatchNames.f (k : Nat)  : Option (Bool) := (millhandlaw10_two.f).bind fun t241 => ((batch_Entries.f k 300 t241).bind fun bt244 => ((millhandlaw10_two.f).bind fun t248 => ((batch_Write.f k 300 t248).bind fun bt251 => (if (bt251.1.length : Int) = 0 then (millhandlaw10_BatchNames.j0 k bt244.1 bt244.2 bt251.1 true) else (millhandlaw10_BatchNames.j0 k bt244.1 bt244.2 bt251.1 ((bt244.1.length : Int) != 2))))))
theorem millhandlaw10_BatchNames.mono_l : ∀ k, (∀ y0 y1 y2 y3, LeO (millhandlaw10_BatchNames.j0 k y0 y1 y2 y3) (millhandlaw10_BatchNames.j0 (k + 1) y0 y1 y2 y3)) ∧ (∀ y0 y1 y2 y3 y4 y5, LeO (millhandlaw10_BatchNames.j1 k y0 y1 y2 y3 y4 y5) (millhandlaw10_BatchNames.j1 (k + 1) y0 y1 y2 y3 y4 y5))
  | 0 => ⟨fun _ _ _ _ r h => by simp [millhandlaw10_BatchNames.j0] at h, fun _ _ _ _ _ _ r h => by simp [millhandlaw10_BatchNames.j1] at h⟩
  | k + 1 => by
    obtain ⟨ih0, ih1⟩ := millhandlaw10_BatchNames.mono_l k
    refine ⟨?_, ?_⟩
    · intro y0 y1 y2 y3
      unfold millhandlaw10_BatchNames.j0
      repeat' first
      | (with_reducible exact ih0 _ _ _ _)
      | (with_reducible exact ih1 _ _ _ _ _ _)
      | (with_reducible exact batch_Check.mono _ _)
      | (with_reducible exact batch_Entries.mono _ _ _)
      | (with_reducible exact batch_Write.mono _ _ _)
      | (with_reducible exact millhandlaw10_alive.mono _)
      | (with_reducible exact LeO.refl _)
      | (with_reducible exact LeO.none _)
      | (with_reducible refine LeO.ite ?_ ?_)
      | (with_reducible refine LeO.bind ?_ (fun _ => ?_))
      | exact ih0 _ _ _ _
      | exact ih1 _ _ _ _ _ _
      | exact batch_Check.mono _ _
      | exact batch_Entries.mono _ _ _
      | exact batch_Write.mono _ _ _
      | exact millhandlaw10_alive.mono _
      | exact LeO.none _
      | refine LeO.ite ?_ ?_
      | refine LeO.bind ?_ (fun _ => ?_)
    · intro y0 y1 y2 y3 y4 y5
      unfold millhandlaw10_BatchNames.j1
      repeat' first
      | (with_reducible exact ih0 _ _ _ _)
      | (with_reducible exact ih1 _ _ _ _ _ _)
      | (with_reducible exact batch_Check.mono _ _)
      | (with_reducible exact batch_Entries.mono _ _ _)
      | (with_reducible exact batch_Write.mono _ _ _)
      | (with_reducible exact millhandlaw10_alive.mono _)
      | (with_reducible exact LeO.refl _)
      | (with_reducible exact LeO.none _)
      | (with_reducible refine LeO.ite ?_ ?_)
      | (with_reducible refine LeO.bind ?_ (fun _ => ?_))
      | exact ih0 _ _ _ _
      | exact ih1 _ _ _ _ _ _
      | exact batch_Check.mono _ _
      | exact batch_Entries.mono _ _ _
      | exact batch_Write.mono _ _ _
      | exact millhandlaw10_alive.mono _
      | exact LeO.none _
      | refine LeO.ite ?_ ?_
      | refine LeO.bind ?_ (fun _ => ?_)
theorem millhandlaw10_BatchNames.mono : ∀ k, LeO (millhandlaw10_BatchNames.f k ) (millhandlaw10_BatchNames.f (k + 1) ) := by
  intro  k
  obtain ⟨ih0, ih1⟩ := millhandlaw10_BatchNames.mono_l k
  unfold millhandlaw10_BatchNames.f
  repeat' first
      | (with_reducible exact ih0 _ _ _ _)
      | (with_reducible exact ih1 _ _ _ _ _ _)
      | (with_reducible exact batch_Check.mono _ _)
      | (with_reducible exact batch_Entries.mono _ _ _)
      | (with_reducible exact batch_Write.mono _ _ _)
      | (with_reducible exact millhandlaw10_alive.mono _)
      | (with_reducible exact LeO.refl _)
      | (with_reducible exact LeO.none _)
      | (with_reducible refine LeO.ite ?_ ?_)
      | (with_reducible refine LeO.bind ?_ (fun _ => ?_))
      | exact ih0 _ _ _ _
      | exact ih1 _ _ _ _ _ _
      | exact batch_Check.mono _ _
      | exact batch_Entries.mono _ _ _
      | exact batch_Write.mono _ _ _
      | exact millhandlaw10_alive.mono _
      | exact LeO.none _
      | refine LeO.ite ?_ ?_
      | refine LeO.bind ?_ (fun _ => ?_)
set_option maxHeartbeats 8000000 in
set_option maxRecDepth 100000 in
theorem millhandlaw10_BatchNames.calls (k : Nat)  (r : Bool) (w : World) (h : millhandlaw10_BatchNames.f k  = some r) :
    Calls Try.prog 7 #[] w fun e w' => e = .returned (.bool r) ∧ Below w.heap.size w w' := by
  have hu49 := Try.underlying49
  have hu51 := Try.underlying51
  have HB := Aside0.mk (Below.refl w.heap.size w)
  have H : ((millhandlaw10_two.f).bind fun t241 => ((batch_Entries.f k 300 t241).bind fun bt244 => ((millhandlaw10_two.f).bind fun t248 => ((batch_Write.f k 300 t248).bind fun bt251 => (if (bt251.1.length : Int) = 0 then (millhandlaw10_BatchNames.j0 k bt244.1 bt244.2 bt251.1 true) else (millhandlaw10_BatchNames.j0 k bt244.1 bt244.2 bt251.1 ((bt244.1.length : Int) != 2))))))) = some r := h
  clear h
  replace H := Option.bind_eq_some_iff.mp H
  obtain ⟨t241, A10, H⟩ := H
  replace H : ((batch_Entries.f k 300 t241).bind fun bt244 => ((millhandlaw10_two.f).bind fun t248 => ((batch_Write.f k 300 t248).bind fun bt251 => (if (bt251.1.length : Int) = 0 then (millhandlaw10_BatchNames.j0 k bt244.1 bt244.2 bt251.1 true) else (millhandlaw10_BatchNames.j0 k bt244.1 bt244.2 bt251.1 ((bt244.1.length : Int) != 2)))))) = some r := H
  have A1 := Aside0.mk A10
  clear A10
  replace H := Option.bind_eq_some_iff.mp H
  obtain ⟨⟨t244, t245⟩, A20, H⟩ := H
  replace H : ((millhandlaw10_two.f).bind fun t248 => ((batch_Write.f k 300 t248).bind fun bt251 => (if (bt251.1.length : Int) = 0 then (millhandlaw10_BatchNames.j0 k t244 t245 bt251.1 true) else (millhandlaw10_BatchNames.j0 k t244 t245 bt251.1 ((t244.length : Int) != 2))))) = some r := H
  have A2 := Aside0.mk A20
  clear A20
  replace H := Option.bind_eq_some_iff.mp H
  obtain ⟨t248, A30, H⟩ := H
  replace H : ((batch_Write.f k 300 t248).bind fun bt251 => (if (bt251.1.length : Int) = 0 then (millhandlaw10_BatchNames.j0 k t244 t245 bt251.1 true) else (millhandlaw10_BatchNames.j0 k t244 t245 bt251.1 ((t244.length : Int) != 2)))) = some r := H
  have A3 := Aside0.mk A30
  clear A30
  replace H := Option.bind_eq_some_iff.mp H
  obtain ⟨⟨t251, t252⟩, A40, H⟩ := H
  replace H : (if (t251.length : Int) = 0 then (millhandlaw10_BatchNames.j0 k t244 t245 t251 true) else (millhandlaw10_BatchNames.j0 k t244 t245 t251 ((t244.length : Int) != 2))) = some r := H
  have A4 := Aside0.mk A40
  clear A40
  have HC5 := Aside0.mk H
  clear H
  go_enter Try.func7, Try.ntmps7
  go_upto_region 3 with (first | ((with_reducible refine gate_callee (f := 20) rfl ?_); refine goesL_ (some 18) rfl rfl Try.func20 (by kernel_rfl) rfl #[] rfl (by (try simp only [List.map_toArray, List.map_cons, List.map_nil]); first | done | rfl | (simp only [List.length_drop, List.length_take]; rfl)) ?_; (with_reducible refine (millhandlaw10_two.calls  t241 _ A1.out).mono ?_); rintro e w6 ⟨v242, rfl, ho0, hb⟩; refine ⟨_, rfl, ?_⟩; have n0_ := Aside0.mk (Kd.R_lower ho0 (below_size (by repeat (first | (with_reducible first | exact HB.out | apply below_alloc | apply pw_below_drewN | apply below_drew1) | exact HB.out)))); have n1_ := Aside0.mk (below_step (by repeat (first | (with_reducible first | exact HB.out | apply below_alloc | apply pw_below_drewN | apply below_drew1) | exact HB.out)) hb); clear HB; have HO243 := n0_; have HB := n1_; clear n0_ n1_; (try clear hb); (try clear hb2); (try clear hk); (try clear hi); (try clear ho0); obtain ⟨Ao7, co7, eo7⟩ := Kd.R_slice HO243.out; subst eo7) | ((with_reducible refine gate_callee (f := 11) rfl ?_); refine goesL_ (some 19) rfl rfl Try.func11 (by kernel_rfl) rfl #[.int .i64 300, .slice Ao7 t241.length co7] rfl (by (try simp only [List.map_toArray, List.map_cons, List.map_nil]); first | done | rfl | (simp only [List.length_drop, List.length_take]; rfl)) ?_; (with_reducible refine (batch_Entries.calls k 300 _ _ t241 t244 t245 _ ?side1 ?side2 A2.out).mono ?_); (case side1 => repeat (first | exact (Kd.R_reads' HO243.out).2.2 | (with_reducible refine Kd.C_alloc ?_ _) | (with_reducible refine Kd.C_drewN ?_ _) | (with_reducible refine Kd.C_drew ?_))); (case side2 => exact (Kd.R_reads' HO243.out).2.1); rintro e w8 ⟨v246, rfl, ho0, hb⟩; refine ⟨_, rfl, ?_⟩; have n0_ := Aside0.mk (Kd.R_below (by (with_reducible repeat (first | apply Kd.R_alloc | apply Kd.R_drewN | apply Kd.R_drew)); exact HO243.out) hb); have n1_ := Aside0.mk (Kd.R_lower ho0 (below_size (by repeat (first | (with_reducible first | exact HB.out | apply below_alloc | apply pw_below_drewN | apply below_drew1) | exact HB.out)))); have n2_ := Aside0.mk (below_step (by repeat (first | (with_reducible first | exact HB.out | apply below_alloc | apply pw_below_drewN | apply below_drew1) | exact HB.out)) hb); clear HO243; clear HB; have HO243 := n0_; have HO247 := n1_; have HB := n2_; clear n0_ n1_ n2_; (try clear hb); (try clear hb2); (try clear hk); (try clear hi); (try clear ho0)) | ((with_reducible refine gate_callee (f := 20) rfl ?_); refine goesL_ (some 23) rfl rfl Try.func20 (by kernel_rfl) rfl #[] rfl (by (try simp only [List.map_toArray, List.map_cons, List.map_nil]); first | done | rfl | (simp only [List.length_drop, List.length_take]; rfl)) ?_; (with_reducible refine (millhandlaw10_two.calls  t248 _ A3.out).mono ?_); rintro e w9 ⟨v249, rfl, ho0, hb⟩; refine ⟨_, rfl, ?_⟩; have n0_ := Aside0.mk (Kd.R_elder' (by (with_reducible repeat (first | apply Kd.R_alloc | apply Kd.R_drewN | apply Kd.R_drew)); exact HO243.out) (Kd.R_base ho0) hb); have n1_ := Aside0.mk (Kd.R_below (by (with_reducible repeat (first | apply Kd.R_alloc | apply Kd.R_drewN | apply Kd.R_drew)); exact HO247.out) hb); have n2_ := Aside0.mk (Kd.R_lower (Kd.R_new' ho0 (Kd.R_lt (by (with_reducible repeat (first | apply Kd.R_alloc | apply Kd.R_drewN | apply Kd.R_drew)); exact HO243.out))) (below_size (by repeat (first | (with_reducible first | exact HB.out | apply below_alloc | apply pw_below_drewN | apply below_drew1) | exact HB.out)))); have n3_ := Aside0.mk (below_step (by repeat (first | (with_reducible first | exact HB.out | apply below_alloc | apply pw_below_drewN | apply below_drew1) | exact HB.out)) hb); clear HO243; clear HO247; clear HB; have HO243 := n0_; have HO247 := n1_; have HO250 := n2_; have HB := n3_; clear n0_ n1_ n2_ n3_; (try clear hb); (try clear hb2); (try clear hk); (try clear hi); (try clear ho0); obtain ⟨Ao10, co10, eo10⟩ := Kd.R_slice HO250.out; subst eo10) | ((with_reducible refine gate_callee (f := 9) rfl ?_); refine goesL_ (some 24) rfl rfl Try.func9 (by kernel_rfl) rfl #[.int .i64 300, .slice Ao10 t248.length co10] rfl (by (try simp only [List.map_toArray, List.map_cons, List.map_nil]); first | done | rfl | (simp only [List.length_drop, List.length_take]; rfl)) ?_; (with_reducible refine (batch_Write.calls k 300 _ _ t248 t251 t252 _ ?side1 ?side2 A4.out).mono ?_); (case side1 => repeat (first | exact (Kd.R_reads' HO250.out).2.2 | (with_reducible refine Kd.C_alloc ?_ _) | (with_reducible refine Kd.C_drewN ?_ _) | (with_reducible refine Kd.C_drew ?_))); (case side2 => exact (Kd.R_reads' HO250.out).2.1); rintro e w11 ⟨v253, rfl, ho0, hb⟩; refine ⟨_, rfl, ?_⟩; have n0_ := Aside0.mk (Kd.R_below (by (with_reducible repeat (first | apply Kd.R_alloc | apply Kd.R_drewN | apply Kd.R_drew)); exact HO243.out) hb); have n1_ := Aside0.mk (Kd.R_below (by (with_reducible repeat (first | apply Kd.R_alloc | apply Kd.R_drewN | apply Kd.R_drew)); exact HO247.out) hb); have n2_ := Aside0.mk (Kd.R_below (by (with_reducible repeat (first | apply Kd.R_alloc | apply Kd.R_drewN | apply Kd.R_drew)); exact HO250.out) hb); have n3_ := Aside0.mk (Kd.R_lower ho0 (below_size (by repeat (first | (with_reducible first | exact HB.out | apply below_alloc | apply pw_below_drewN | apply below_drew1) | exact HB.out)))); have n4_ := Aside0.mk (below_step (by repeat (first | (with_reducible first | exact HB.out | apply below_alloc | apply pw_below_drewN | apply below_drew1) | exact HB.out)) hb); clear HO243; clear HO247; clear HO250; clear HB; have HO243 := n0_; have HO247 := n1_; have HO250 := n2_; have HO254 := n3_; have HB := n4_; clear n0_ n1_ n2_ n3_ n4_; (try clear hb); (try clear hb2); (try clear hk); (try clear hi); (try clear ho0)))
  (try simp only [Act.put, List.setIfInBounds_toArray, List.set_cons_zero, List.set_cons_succ])
  go_cut [34] (fun v34 wc => ∃ (kq : Nat) (x34_4 : Bool), v34 = .bool x34_4 ∧ Aside0 (millhandlaw10_BatchNames.j0 kq t244 t245 t251 x34_4 = some r) ∧ Aside0 (kq ≤ k) ∧ Aside0 (Kd.R k51 51 wc w.heap.size (fun _ => True) v246 t244) ∧ Aside0 (Kd.R (Kd.int .u8) 5 wc w.heap.size (fun _ => True) v253 t251) ∧ Aside0 (Below w.heap.size w wc))
  case first =>
    have H := HC5.out
    clear HC5
    by_cases c12 : (t251.length : Int) = 0
    · rw [if_pos c12] at H
      have c12b0 : ((t251.length : Int) == 0) = true := beq_iff_eq.mpr c12
      have c12b1 : ((t251.length : Int) != 0) = false := bne_eq_false_iff_eq.mpr c12
      clear c12
      (first | rw [c12b0] | (simp only [i64_w, i32_w]; rw [c12b0]) | skip)
      have H' := Aside0.mk H
      clear H
      obtain ⟨Ao13, co13, eo13⟩ := Kd.R_slice HO254.out
      subst eo13
      go_wp2
      go_meet
      case rel => exact ⟨_, (true), (by first | rfl | (simp; done) | (simp [*]; done)), H', ⟨by first | omega | exact Nat.le_refl _⟩, ⟨by (with_reducible repeat (first | apply Kd.R_alloc | apply Kd.R_drewN | apply Kd.R_drew)); exact HO247.out⟩, ⟨by (with_reducible repeat (first | apply Kd.R_alloc | apply Kd.R_drewN | apply Kd.R_drew)); exact HO254.out⟩, ⟨by repeat (first | (with_reducible first | exact HB.out | apply below_alloc | apply pw_below_drewN | apply below_drew1) | exact HB.out)⟩⟩
    · rw [if_neg c12] at H
      have c12b0 : ((t251.length : Int) == 0) = false := beq_eq_false_iff_ne.mpr c12
      have c12b1 : ((t251.length : Int) != 0) = true := bne_iff_ne.mpr c12
      have c12b2 : ¬ (t251 = []) := fun h_ => c12 (by rw [h_]; rfl)
      (first | rw [c12b0] | (simp only [i64_w, i32_w]; rw [c12b0]) | skip)
      have H' := Aside0.mk H
      clear H
      obtain ⟨Ao14, co14, eo14⟩ := Kd.R_slice HO254.out
      subst eo14
      obtain ⟨Ao15, co15, eo15⟩ := Kd.R_slice HO247.out
      subst eo15
      go_wp2
      go_meet
      case rel => exact ⟨_, (((t244.length : Int) != 2)), (by first | rfl | (simp; done) | (simp [*]; done)), H', ⟨by first | omega | exact Nat.le_refl _⟩, ⟨by (with_reducible repeat (first | apply Kd.R_alloc | apply Kd.R_drewN | apply Kd.R_drew)); exact HO247.out⟩, ⟨by (with_reducible repeat (first | apply Kd.R_alloc | apply Kd.R_drewN | apply Kd.R_drew)); exact HO254.out⟩, ⟨by repeat (first | (with_reducible first | exact HB.out | apply below_alloc | apply pw_below_drewN | apply below_drew1) | exact HB.out)⟩⟩
  case rest =>
    clear HC5
    try clear c1
    try clear c2
    try clear p2
    try clear c7
    try clear c9
    try clear c11
    try clear c12
    try clear c12b0
    try clear c12b1
    try clear c12b2
    obtain ⟨kq, x34_4, rfl, HA, HJ4, HO_1, HO_3, HB⟩ := hcut
    cases kq with
    | zero => exact absurd HA.out (by simp [millhandlaw10_BatchNames.j0])
    | succ kj4 =>
      have H := HA.out
      clear HA
      simp only [millhandlaw10_BatchNames.j0] at H
      by_cases c16 : x34_4 = true
      · subst c16
        have H1 : (some false) = some r := by rw [if_pos rfl] at H; exact H
        clear H
        have H := H1
        clear H1
        obtain rfl := Option.some.inj H
        go_wp2
        go_ret
        exact ⟨by first | rfl | (simp [errW_none, errW_some] <;> rfl) | (simp [*, errW_none, errW_some] <;> rfl) | exact ret_ie _ | (simp [*, errW_none, errW_some, bne]; done), by repeat (first | (with_reducible first | exact HB.out | apply below_alloc | apply pw_below_drewN | apply below_drew1) | exact HB.out)⟩
      · replace c16 := Bool.eq_false_iff.mpr c16
        subst c16
        have H1 : (if 0 ≤ (wrap64 ((t251.length : Int) - 1)) then (if (wrap64 ((t251.length : Int) - 1)) ≤ (t251.length : Int) then ((batch_Read.f (t251.take ((wrap64 ((t251.length : Int) - 1)) : Int).toNat)).bind fun bt259 => ((batch_Write.f kj4 1 ([] : List (S49))).bind fun bt264 => ((millhandlaw10_two.f).bind fun t268 => ((batch_Write.f kj4 0 t268).bind fun bt271 => (if 16385 ≤ 281474976710656 then ((batch_Read.f (List.replicate 16385 0)).bind fun bt278 => ((some (([(⟨(⟨#[97]⟩ : ByteArray), true, (⟨#[120]⟩ : ByteArray)⟩ : S49)] : List (S49)) : List (S49))).bind fun y283 => (if t245 = 0 then (if 0 < (t244.length : Int) then (if ((((rd_T51 t244 0).f0).toList) == ([97] : List UInt8) && (((rd_T51 t244 0).f1) == 300 && (!((rd_T51 t244 0).f2) && ((((rd_T51 t244 0).f3).toList) == ([120, 121] : List UInt8))))) = true then (if 1 < (t244.length : Int) then (millhandlaw10_BatchNames.j1 kj4 bt259.2.2 bt264.2 bt271.2 bt278.2.2 y283 ((((rd_T51 t244 1).f0).toList) == ([98] : List UInt8) && (((rd_T51 t244 1).f1) == 301 && (((rd_T51 t244 1).f2) && ((((rd_T51 t244 1).f3).toList) == ([] : List UInt8)))))) else (none)) else (millhandlaw10_BatchNames.j1 kj4 bt259.2.2 bt264.2 bt271.2 bt278.2.2 y283 false)) else (none)) else (millhandlaw10_BatchNames.j1 kj4 bt259.2.2 bt264.2 bt271.2 bt278.2.2 y283 false)))) else (none)))))) else (none)) else (none)) = some r := by rw [if_neg (show ¬ (false = true) by decide)] at H; exact H
        clear H
        have H := H1
        clear H1
        obtain ⟨ji17, hji17⟩ : ∃ j_ : Int, (wrap64 ((t251.length : Int) - 1)) = j_ := ⟨_, rfl⟩
        replace H : (if 0 ≤ (ji17) then (if (ji17) ≤ (t251.length : Int) then ((batch_Read.f (t251.take ((ji17) : Int).toNat)).bind fun bt259 => ((batch_Write.f kj4 1 ([] : List (S49))).bind fun bt264 => ((millhandlaw10_two.f).bind fun t268 => ((batch_Write.f kj4 0 t268).bind fun bt271 => (if 16385 ≤ 281474976710656 then ((batch_Read.f (List.replicate 16385 0)).bind fun bt278 => ((some (([(⟨(⟨#[97]⟩ : ByteArray), true, (⟨#[120]⟩ : ByteArray)⟩ : S49)] : List (S49)) : List (S49))).bind fun y283 => (if t245 = 0 then (if 0 < (t244.length : Int) then (if ((((rd_T51 t244 0).f0).toList) == ([97] : List UInt8) && (((rd_T51 t244 0).f1) == 300 && (!((rd_T51 t244 0).f2) && ((((rd_T51 t244 0).f3).toList) == ([120, 121] : List UInt8))))) = true then (if 1 < (t244.length : Int) then (millhandlaw10_BatchNames.j1 kj4 bt259.2.2 bt264.2 bt271.2 bt278.2.2 y283 ((((rd_T51 t244 1).f0).toList) == ([98] : List UInt8) && (((rd_T51 t244 1).f1) == 301 && (((rd_T51 t244 1).f2) && ((((rd_T51 t244 1).f3).toList) == ([] : List UInt8)))))) else (none)) else (millhandlaw10_BatchNames.j1 kj4 bt259.2.2 bt264.2 bt271.2 bt278.2.2 y283 false)) else (none)) else (millhandlaw10_BatchNames.j1 kj4 bt259.2.2 bt264.2 bt271.2 bt278.2.2 y283 false)))) else (none)))))) else (none)) else (none)) = some r := by first | (rw [hji17] at H; exact H) | (simp only [hji17] at H ⊢; exact H)
        have hji17w : (IntKind.i64.wrap ((t251.length : Int) - 1)) = ji17 := (i64_w _).trans hji17
        by_cases c18 : 0 ≤ (ji17)
        · rw [if_pos c18] at H
          have c18b0 := eq_true c18
          have c18b1 : decide (0 ≤ (ji17)) = true := decide_eq_true c18
          clear c18
          by_cases c19 : (ji17) ≤ (t251.length : Int)
          · rw [if_pos c19] at H
            have c19b0 := eq_true c19
            have c19b1 : decide ((ji17) ≤ (t251.length : Int)) = true := decide_eq_true c19
            clear c19
            obtain ⟨y255, hy255⟩ : ∃ y_ : List Int, y_ = (t251.take ((ji17) : Int).toNat) := ⟨_, rfl⟩
            replace H : ((batch_Read.f y255).bind fun bt259 => ((batch_Write.f kj4 1 ([] : List (S49))).bind fun bt264 => ((millhandlaw10_two.f).bind fun t268 => ((batch_Write.f kj4 0 t268).bind fun bt271 => (if 16385 ≤ 281474976710656 then ((batch_Read.f (List.replicate 16385 0)).bind fun bt278 => ((some (([(⟨(⟨#[97]⟩ : ByteArray), true, (⟨#[120]⟩ : ByteArray)⟩ : S49)] : List (S49)) : List (S49))).bind fun y283 => (if t245 = 0 then (if 0 < (t244.length : Int) then (if ((((rd_T51 t244 0).f0).toList) == ([97] : List UInt8) && (((rd_T51 t244 0).f1) == 300 && (!((rd_T51 t244 0).f2) && ((((rd_T51 t244 0).f3).toList) == ([120, 121] : List UInt8))))) = true then (if 1 < (t244.length : Int) then (millhandlaw10_BatchNames.j1 kj4 bt259.2.2 bt264.2 bt271.2 bt278.2.2 y283 ((((rd_T51 t244 1).f0).toList) == ([98] : List UInt8) && (((rd_T51 t244 1).f1) == 301 && (((rd_T51 t244 1).f2) && ((((rd_T51 t244 1).f3).toList) == ([] : List UInt8)))))) else (none)) else (millhandlaw10_BatchNames.j1 kj4 bt259.2.2 bt264.2 bt271.2 bt278.2.2 y283 false)) else (none)) else (millhandlaw10_BatchNames.j1 kj4 bt259.2.2 bt264.2 bt271.2 bt278.2.2 y283 false)))) else (none)))))) = some r := by first | (rw [hy255]; with_reducible exact H) | (have H2_ := (Option.bind_some _ _).symm.trans H; rw [hy255]; with_reducible exact H2_) | (have H2_ := (Option.bind_some _ _).symm.trans H; with_reducible exact H2_) | with_reducible exact H | (rw [hy255]; exact H) | exact H
            have Ny255 := Aside0.mk hy255
            clear hy255
            replace H := Option.bind_eq_some_iff.mp H
            obtain ⟨⟨t259, t260, t261⟩, A200, H⟩ := H
            replace H : ((batch_Write.f kj4 1 ([] : List (S49))).bind fun bt264 => ((millhandlaw10_two.f).bind fun t268 => ((batch_Write.f kj4 0 t268).bind fun bt271 => (if 16385 ≤ 281474976710656 then ((batch_Read.f (List.replicate 16385 0)).bind fun bt278 => ((some (([(⟨(⟨#[97]⟩ : ByteArray), true, (⟨#[120]⟩ : ByteArray)⟩ : S49)] : List (S49)) : List (S49))).bind fun y283 => (if t245 = 0 then (if 0 < (t244.length : Int) then (if ((((rd_T51 t244 0).f0).toList) == ([97] : List UInt8) && (((rd_T51 t244 0).f1) == 300 && (!((rd_T51 t244 0).f2) && ((((rd_T51 t244 0).f3).toList) == ([120, 121] : List UInt8))))) = true then (if 1 < (t244.length : Int) then (millhandlaw10_BatchNames.j1 kj4 t261 bt264.2 bt271.2 bt278.2.2 y283 ((((rd_T51 t244 1).f0).toList) == ([98] : List UInt8) && (((rd_T51 t244 1).f1) == 301 && (((rd_T51 t244 1).f2) && ((((rd_T51 t244 1).f3).toList) == ([] : List UInt8)))))) else (none)) else (millhandlaw10_BatchNames.j1 kj4 t261 bt264.2 bt271.2 bt278.2.2 y283 false)) else (none)) else (millhandlaw10_BatchNames.j1 kj4 t261 bt264.2 bt271.2 bt278.2.2 y283 false)))) else (none))))) = some r := H
            have A20 := Aside0.mk A200
            clear A200
            replace H := Option.bind_eq_some_iff.mp H
            obtain ⟨⟨t264, t265⟩, A210, H⟩ := H
            replace H : ((millhandlaw10_two.f).bind fun t268 => ((batch_Write.f kj4 0 t268).bind fun bt271 => (if 16385 ≤ 281474976710656 then ((batch_Read.f (List.replicate 16385 0)).bind fun bt278 => ((some (([(⟨(⟨#[97]⟩ : ByteArray), true, (⟨#[120]⟩ : ByteArray)⟩ : S49)] : List (S49)) : List (S49))).bind fun y283 => (if t245 = 0 then (if 0 < (t244.length : Int) then (if ((((rd_T51 t244 0).f0).toList) == ([97] : List UInt8) && (((rd_T51 t244 0).f1) == 300 && (!((rd_T51 t244 0).f2) && ((((rd_T51 t244 0).f3).toList) == ([120, 121] : List UInt8))))) = true then (if 1 < (t244.length : Int) then (millhandlaw10_BatchNames.j1 kj4 t261 t265 bt271.2 bt278.2.2 y283 ((((rd_T51 t244 1).f0).toList) == ([98] : List UInt8) && (((rd_T51 t244 1).f1) == 301 && (((rd_T51 t244 1).f2) && ((((rd_T51 t244 1).f3).toList) == ([] : List UInt8)))))) else (none)) else (millhandlaw10_BatchNames.j1 kj4 t261 t265 bt271.2 bt278.2.2 y283 false)) else (none)) else (millhandlaw10_BatchNames.j1 kj4 t261 t265 bt271.2 bt278.2.2 y283 false)))) else (none)))) = some r := H
            have A21 := Aside0.mk A210
            clear A210
            replace H := Option.bind_eq_some_iff.mp H
            obtain ⟨t268, A220, H⟩ := H
            replace H : ((batch_Write.f kj4 0 t268).bind fun bt271 => (if 16385 ≤ 281474976710656 then ((batch_Read.f (List.replicate 16385 0)).bind fun bt278 => ((some (([(⟨(⟨#[97]⟩ : ByteArray), true, (⟨#[120]⟩ : ByteArray)⟩ : S49)] : List (S49)) : List (S49))).bind fun y283 => (if t245 = 0 then (if 0 < (t244.length : Int) then (if ((((rd_T51 t244 0).f0).toList) == ([97] : List UInt8) && (((rd_T51 t244 0).f1) == 300 && (!((rd_T51 t244 0).f2) && ((((rd_T51 t244 0).f3).toList) == ([120, 121] : List UInt8))))) = true then (if 1 < (t244.length : Int) then (millhandlaw10_BatchNames.j1 kj4 t261 t265 bt271.2 bt278.2.2 y283 ((((rd_T51 t244 1).f0).toList) == ([98] : List UInt8) && (((rd_T51 t244 1).f1) == 301 && (((rd_T51 t244 1).f2) && ((((rd_T51 t244 1).f3).toList) == ([] : List UInt8)))))) else (none)) else (millhandlaw10_BatchNames.j1 kj4 t261 t265 bt271.2 bt278.2.2 y283 false)) else (none)) else (millhandlaw10_BatchNames.j1 kj4 t261 t265 bt271.2 bt278.2.2 y283 false)))) else (none))) = some r := H
            have A22 := Aside0.mk A220
            clear A220
            replace H := Option.bind_eq_some_iff.mp H
            obtain ⟨⟨t271, t272⟩, A230, H⟩ := H
            replace H : (if 16385 ≤ 281474976710656 then ((batch_Read.f (List.replicate 16385 0)).bind fun bt278 => ((some (([(⟨(⟨#[97]⟩ : ByteArray), true, (⟨#[120]⟩ : ByteArray)⟩ : S49)] : List (S49)) : List (S49))).bind fun y283 => (if t245 = 0 then (if 0 < (t244.length : Int) then (if ((((rd_T51 t244 0).f0).toList) == ([97] : List UInt8) && (((rd_T51 t244 0).f1) == 300 && (!((rd_T51 t244 0).f2) && ((((rd_T51 t244 0).f3).toList) == ([120, 121] : List UInt8))))) = true then (if 1 < (t244.length : Int) then (millhandlaw10_BatchNames.j1 kj4 t261 t265 t272 bt278.2.2 y283 ((((rd_T51 t244 1).f0).toList) == ([98] : List UInt8) && (((rd_T51 t244 1).f1) == 301 && (((rd_T51 t244 1).f2) && ((((rd_T51 t244 1).f3).toList) == ([] : List UInt8)))))) else (none)) else (millhandlaw10_BatchNames.j1 kj4 t261 t265 t272 bt278.2.2 y283 false)) else (none)) else (millhandlaw10_BatchNames.j1 kj4 t261 t265 t272 bt278.2.2 y283 false)))) else (none)) = some r := H
            have A23 := Aside0.mk A230
            clear A230
            by_cases c24 : 16385 ≤ 281474976710656
            · rw [if_pos c24] at H
              have c24b0 := eq_true c24
              have c24b1 : decide (16385 ≤ 281474976710656) = true := decide_eq_true c24
              clear c24
              obtain ⟨y275, hy275⟩ : ∃ y_ : List Int, y_ = (List.replicate 16385 0) := ⟨_, rfl⟩
              replace H : ((batch_Read.f y275).bind fun bt278 => ((some (([(⟨(⟨#[97]⟩ : ByteArray), true, (⟨#[120]⟩ : ByteArray)⟩ : S49)] : List (S49)) : List (S49))).bind fun y283 => (if t245 = 0 then (if 0 < (t244.length : Int) then (if ((((rd_T51 t244 0).f0).toList) == ([97] : List UInt8) && (((rd_T51 t244 0).f1) == 300 && (!((rd_T51 t244 0).f2) && ((((rd_T51 t244 0).f3).toList) == ([120, 121] : List UInt8))))) = true then (if 1 < (t244.length : Int) then (millhandlaw10_BatchNames.j1 kj4 t261 t265 t272 bt278.2.2 y283 ((((rd_T51 t244 1).f0).toList) == ([98] : List UInt8) && (((rd_T51 t244 1).f1) == 301 && (((rd_T51 t244 1).f2) && ((((rd_T51 t244 1).f3).toList) == ([] : List UInt8)))))) else (none)) else (millhandlaw10_BatchNames.j1 kj4 t261 t265 t272 bt278.2.2 y283 false)) else (none)) else (millhandlaw10_BatchNames.j1 kj4 t261 t265 t272 bt278.2.2 y283 false)))) = some r := by first | (rw [hy275]; with_reducible exact H) | (have H2_ := (Option.bind_some _ _).symm.trans H; rw [hy275]; with_reducible exact H2_) | (have H2_ := (Option.bind_some _ _).symm.trans H; with_reducible exact H2_) | with_reducible exact H | (rw [hy275]; exact H) | exact H
              have Ny275 := Aside0.mk hy275
              clear hy275
              replace H := Option.bind_eq_some_iff.mp H
              obtain ⟨⟨t278, t279, t280⟩, A250, H⟩ := H
              replace H : ((some (([(⟨(⟨#[97]⟩ : ByteArray), true, (⟨#[120]⟩ : ByteArray)⟩ : S49)] : List (S49)) : List (S49))).bind fun y283 => (if t245 = 0 then (if 0 < (t244.length : Int) then (if ((((rd_T51 t244 0).f0).toList) == ([97] : List UInt8) && (((rd_T51 t244 0).f1) == 300 && (!((rd_T51 t244 0).f2) && ((((rd_T51 t244 0).f3).toList) == ([120, 121] : List UInt8))))) = true then (if 1 < (t244.length : Int) then (millhandlaw10_BatchNames.j1 kj4 t261 t265 t272 t280 y283 ((((rd_T51 t244 1).f0).toList) == ([98] : List UInt8) && (((rd_T51 t244 1).f1) == 301 && (((rd_T51 t244 1).f2) && ((((rd_T51 t244 1).f3).toList) == ([] : List UInt8)))))) else (none)) else (millhandlaw10_BatchNames.j1 kj4 t261 t265 t272 t280 y283 false)) else (none)) else (millhandlaw10_BatchNames.j1 kj4 t261 t265 t272 t280 y283 false))) = some r := H
              have A25 := Aside0.mk A250
              clear A250
              obtain ⟨y283, hy283⟩ : ∃ y_ : List (S49), y_ = (([(⟨(⟨#[97]⟩ : ByteArray), true, (⟨#[120]⟩ : ByteArray)⟩ : S49)] : List (S49))) := ⟨_, rfl⟩
              replace H : (if t245 = 0 then (if 0 < (t244.length : Int) then (if ((((rd_T51 t244 0).f0).toList) == ([97] : List UInt8) && (((rd_T51 t244 0).f1) == 300 && (!((rd_T51 t244 0).f2) && ((((rd_T51 t244 0).f3).toList) == ([120, 121] : List UInt8))))) = true then (if 1 < (t244.length : Int) then (millhandlaw10_BatchNames.j1 kj4 t261 t265 t272 t280 y283 ((((rd_T51 t244 1).f0).toList) == ([98] : List UInt8) && (((rd_T51 t244 1).f1) == 301 && (((rd_T51 t244 1).f2) && ((((rd_T51 t244 1).f3).toList) == ([] : List UInt8)))))) else (none)) else (millhandlaw10_BatchNames.j1 kj4 t261 t265 t272 t280 y283 false)) else (none)) else (millhandlaw10_BatchNames.j1 kj4 t261 t265 t272 t280 y283 false)) = some r := by first | (rw [hy283]; with_reducible exact H) | (have H2_ := (Option.bind_some _ _).symm.trans H; rw [hy283]; with_reducible exact H2_) | (have H2_ := (Option.bind_some _ _).symm.trans H; with_reducible exact H2_) | with_reducible exact H | (rw [hy283]; exact H) | exact H
              have Ny283 := Aside0.mk hy283
              clear hy283
              have HC26 := Aside0.mk H
              clear H
              obtain ⟨Ao27, co27, eo27⟩ := Kd.R_slice HO_3.out
              subst eo27
              have q28 : ((ji17) : Int) ≤ ((t251.length : Int) : Int) := of_decide_eq_true (by first | (with_reducible assumption) | assumption)
              obtain ⟨i028, hi028, _, hsz28, _⟩ := info_parts info5
              have hroom28 : t251.length ≤ co27 := (Kd.R_reads' HO_3.out).2.1
              have hC28 : Kd.C (Kd.int .u8) _ Ao27 t251.length t251 := (Kd.R_reads' HO_3.out).2.2
              have hcut28 := cut_to (P := Try.prog) 24 5 .i64 Try.underlying24 hi028 Ao27 t251.length co27 (ji17) (of_decide_eq_true (by first | (with_reducible assumption) | assumption)) q28 hroom28
              have hr28 := Kd.C_take (m := ((ji17) : Int).toNat) hC28 (by omega)
              have hy28 : y255.length = ((ji17) : Int).toNat := (by rw [Ny255.out, List.length_take]; omega)
              rw [← Ny255.out] at hr28
              rw [← hy28] at hcut28
              have HR258 := Aside0.mk hr28
              have HC258 := Aside0.mk (show y255.length ≤ co27 from by omega)
              clear hr28 hC28 hroom28 hi028 hsz28
              have KY28 := Aside0.mk hy28
              clear hy28
              have KL28 := Aside0.mk (show ((ji17) : Int).toNat ≤ t251.length from by omega)
              replace q28 := eq_true q28
              go_upto_region 10 with (first | ((with_reducible refine gate_callee (f := 17) rfl ?_); refine goesL_ (some 41) rfl rfl Try.func17 (by kernel_rfl) rfl #[.slice Ao27 y255.length co27] rfl (by (try simp only [List.map_toArray, List.map_cons, List.map_nil]); first | done | rfl | (simp only [List.length_drop, List.length_take]; rfl)) ?_; (with_reducible refine (batch_Read.calls _ _ y255 t259 t260 t261 _ ?side1 ?side2 A20.out).mono ?_); (case side1 => repeat (first | exact (by repeat (first | (with_reducible exact HR258.out) | (with_reducible refine Kd.C_alloc ?_ _) | (with_reducible refine Kd.C_drewN ?_ _) | (with_reducible refine Kd.C_drew ?_) | exact HR258.out)) | (with_reducible refine Kd.C_alloc ?_ _) | (with_reducible refine Kd.C_drewN ?_ _) | (with_reducible refine Kd.C_drew ?_))); (case side2 => exact HC258.out); rintro e w29 ⟨v262, rfl, ho0, hb⟩; refine ⟨_, rfl, ?_⟩; have n0_ := Aside0.mk (Kd.R_below (by (with_reducible repeat (first | apply Kd.R_alloc | apply Kd.R_drewN | apply Kd.R_drew)); exact HO_1.out) hb); have n1_ := Aside0.mk (Kd.R_below (by (with_reducible repeat (first | apply Kd.R_alloc | apply Kd.R_drewN | apply Kd.R_drew)); exact HO_3.out) hb); have n2_ := Aside0.mk (Kd.R_lower ho0 (below_size (by repeat (first | (with_reducible first | exact HB.out | apply below_alloc | apply pw_below_drewN | apply below_drew1) | exact HB.out)))); have n3_ := Aside0.mk (Kd.C_below (by repeat (first | (with_reducible exact HR258.out) | (with_reducible refine Kd.C_alloc ?_ _) | (with_reducible refine Kd.C_drewN ?_ _) | (with_reducible refine Kd.C_drew ?_) | exact HR258.out)) hb); have n4_ := Aside0.mk (below_step (by repeat (first | (with_reducible first | exact HB.out | apply below_alloc | apply pw_below_drewN | apply below_drew1) | exact HB.out)) hb); clear HO_1; clear HO_3; clear HR258; clear HB; have HO_1 := n0_; have HO_3 := n1_; have HO263 := n2_; have HR258 := n3_; have HB := n4_; clear n0_ n1_ n2_ n3_ n4_; (try clear hb); (try clear hb2); (try clear hk); (try clear hi); (try clear ho0)) | ((with_reducible refine gate_callee (f := 9) rfl ?_); refine goesL_ (some 46) rfl rfl Try.func9 (by kernel_rfl) rfl #[.int .i64 1, .slice none 0 0] rfl (by (try simp only [List.map_toArray, List.map_cons, List.map_nil]); first | done | rfl | (simp only [List.length_drop, List.length_take]; rfl)) ?_; (refine (batch_Write.calls kj4 1 _ _ ([] : List (S49)) t264 t265 _ ?side1 ?side2 A21.out).mono ?_); (case side1 => exact Kd.C_nil _ _); (case side2 => exact Nat.le_refl _); rintro e w30 ⟨v266, rfl, ho0, hb⟩; refine ⟨_, rfl, ?_⟩; have n0_ := Aside0.mk (Kd.R_below (by (with_reducible repeat (first | apply Kd.R_alloc | apply Kd.R_drewN | apply Kd.R_drew)); exact HO_1.out) hb); have n1_ := Aside0.mk (Kd.R_elder' (by (with_reducible repeat (first | apply Kd.R_alloc | apply Kd.R_drewN | apply Kd.R_drew)); exact HO_3.out) (Kd.R_base ho0) hb); have n2_ := Aside0.mk (Kd.R_below (by (with_reducible repeat (first | apply Kd.R_alloc | apply Kd.R_drewN | apply Kd.R_drew)); exact HO263.out) hb); have n3_ := Aside0.mk (Kd.R_lower (Kd.R_new' ho0 (Kd.R_lt (by (with_reducible repeat (first | apply Kd.R_alloc | apply Kd.R_drewN | apply Kd.R_drew)); exact HO_3.out))) (below_size (by repeat (first | (with_reducible first | exact HB.out | apply below_alloc | apply pw_below_drewN | apply below_drew1) | exact HB.out)))); have n4_ := Aside0.mk (Kd.C_below (by repeat (first | (with_reducible exact HR258.out) | (with_reducible refine Kd.C_alloc ?_ _) | (with_reducible refine Kd.C_drewN ?_ _) | (with_reducible refine Kd.C_drew ?_) | exact HR258.out)) hb); have n5_ := Aside0.mk (below_step (by repeat (first | (with_reducible first | exact HB.out | apply below_alloc | apply pw_below_drewN | apply below_drew1) | exact HB.out)) hb); clear HO_1; clear HO_3; clear HO263; clear HR258; clear HB; have HO_1 := n0_; have HO_3 := n1_; have HO263 := n2_; have HO267 := n3_; have HR258 := n4_; have HB := n5_; clear n0_ n1_ n2_ n3_ n4_ n5_; (try clear hb); (try clear hb2); (try clear hk); (try clear hi); (try clear ho0)) | ((with_reducible refine gate_callee (f := 20) rfl ?_); refine goesL_ (some 50) rfl rfl Try.func20 (by kernel_rfl) rfl #[] rfl (by (try simp only [List.map_toArray, List.map_cons, List.map_nil]); first | done | rfl | (simp only [List.length_drop, List.length_take]; rfl)) ?_; (with_reducible refine (millhandlaw10_two.calls  t268 _ A22.out).mono ?_); rintro e w31 ⟨v269, rfl, ho0, hb⟩; refine ⟨_, rfl, ?_⟩; have n0_ := Aside0.mk (Kd.R_below (by (with_reducible repeat (first | apply Kd.R_alloc | apply Kd.R_drewN | apply Kd.R_drew)); exact HO_1.out) hb); have n1_ := Aside0.mk (Kd.R_below (by (with_reducible repeat (first | apply Kd.R_alloc | apply Kd.R_drewN | apply Kd.R_drew)); exact HO_3.out) hb); have n2_ := Aside0.mk (Kd.R_elder' (by (with_reducible repeat (first | apply Kd.R_alloc | apply Kd.R_drewN | apply Kd.R_drew)); exact HO263.out) (Kd.R_base ho0) hb); have n3_ := Aside0.mk (Kd.R_below (by (with_reducible repeat (first | apply Kd.R_alloc | apply Kd.R_drewN | apply Kd.R_drew)); exact HO267.out) hb); have n4_ := Aside0.mk (Kd.R_lower (Kd.R_new' ho0 (Kd.R_lt (by (with_reducible repeat (first | apply Kd.R_alloc | apply Kd.R_drewN | apply Kd.R_drew)); exact HO263.out))) (below_size (by repeat (first | (with_reducible first | exact HB.out | apply below_alloc | apply pw_below_drewN | apply below_drew1) | exact HB.out)))); have n5_ := Aside0.mk (Kd.C_below (by repeat (first | (with_reducible exact HR258.out) | (with_reducible refine Kd.C_alloc ?_ _) | (with_reducible refine Kd.C_drewN ?_ _) | (with_reducible refine Kd.C_drew ?_) | exact HR258.out)) hb); have n6_ := Aside0.mk (below_step (by repeat (first | (with_reducible first | exact HB.out | apply below_alloc | apply pw_below_drewN | apply below_drew1) | exact HB.out)) hb); clear HO_1; clear HO_3; clear HO263; clear HO267; clear HR258; clear HB; have HO_1 := n0_; have HO_3 := n1_; have HO263 := n2_; have HO267 := n3_; have HO270 := n4_; have HR258 := n5_; have HB := n6_; clear n0_ n1_ n2_ n3_ n4_ n5_ n6_; (try clear hb); (try clear hb2); (try clear hk); (try clear hi); (try clear ho0); obtain ⟨Ao32, co32, eo32⟩ := Kd.R_slice HO270.out; subst eo32) | ((with_reducible refine gate_callee (f := 9) rfl ?_); refine goesL_ (some 51) rfl rfl Try.func9 (by kernel_rfl) rfl #[.int .i64 0, .slice Ao32 t268.length co32] rfl (by (try simp only [List.map_toArray, List.map_cons, List.map_nil]); first | done | rfl | (simp only [List.length_drop, List.length_take]; rfl)) ?_; (with_reducible refine (batch_Write.calls kj4 0 _ _ t268 t271 t272 _ ?side1 ?side2 A23.out).mono ?_); (case side1 => repeat (first | exact (Kd.R_reads' HO270.out).2.2 | (with_reducible refine Kd.C_alloc ?_ _) | (with_reducible refine Kd.C_drewN ?_ _) | (with_reducible refine Kd.C_drew ?_))); (case side2 => exact (Kd.R_reads' HO270.out).2.1); rintro e w33 ⟨v273, rfl, ho0, hb⟩; refine ⟨_, rfl, ?_⟩; have n0_ := Aside0.mk (Kd.R_below (by (with_reducible repeat (first | apply Kd.R_alloc | apply Kd.R_drewN | apply Kd.R_drew)); exact HO_1.out) hb); have n1_ := Aside0.mk (Kd.R_elder' (by (with_reducible repeat (first | apply Kd.R_alloc | apply Kd.R_drewN | apply Kd.R_drew)); exact HO_3.out) (Kd.R_base ho0) hb); have n2_ := Aside0.mk (Kd.R_below (by (with_reducible repeat (first | apply Kd.R_alloc | apply Kd.R_drewN | apply Kd.R_drew)); exact HO263.out) hb); have n3_ := Aside0.mk (Kd.R_elder' (by (with_reducible repeat (first | apply Kd.R_alloc | apply Kd.R_drewN | apply Kd.R_drew)); exact HO267.out) (Kd.R_base ho0) hb); have n4_ := Aside0.mk (Kd.R_below (by (with_reducible repeat (first | apply Kd.R_alloc | apply Kd.R_drewN | apply Kd.R_drew)); exact HO270.out) hb); have n5_ := Aside0.mk (Kd.R_lower (Kd.R_new' (Kd.R_new' ho0 (Kd.R_lt (by (with_reducible repeat (first | apply Kd.R_alloc | apply Kd.R_drewN | apply Kd.R_drew)); exact HO_3.out))) (Kd.R_lt (by (with_reducible repeat (first | apply Kd.R_alloc | apply Kd.R_drewN | apply Kd.R_drew)); exact HO267.out))) (below_size (by repeat (first | (with_reducible first | exact HB.out | apply below_alloc | apply pw_below_drewN | apply below_drew1) | exact HB.out)))); have n6_ := Aside0.mk (Kd.C_below (by repeat (first | (with_reducible exact HR258.out) | (with_reducible refine Kd.C_alloc ?_ _) | (with_reducible refine Kd.C_drewN ?_ _) | (with_reducible refine Kd.C_drew ?_) | exact HR258.out)) hb); have n7_ := Aside0.mk (below_step (by repeat (first | (with_reducible first | exact HB.out | apply below_alloc | apply pw_below_drewN | apply below_drew1) | exact HB.out)) hb); clear HO_1; clear HO_3; clear HO263; clear HO267; clear HO270; clear HR258; clear HB; have HO_1 := n0_; have HO_3 := n1_; have HO263 := n2_; have HO267 := n3_; have HO270 := n4_; have HO274 := n5_; have HR258 := n6_; have HB := n7_; clear n0_ n1_ n2_ n3_ n4_ n5_ n6_ n7_; (try clear hb); (try clear hb2); (try clear hk); (try clear hi); (try clear ho0)) | ((with_reducible refine gate_dst (N := 55) rfl ?_); (try (refine gate_guard (by rfl) ?_; dsimp only)); refine Kd.R_make (Kd.int .u8) _ 5 rfl (N := 55) rfl 24 _ _ rfl 16385 rfl rfl Try.underlying24 (.int .u8 0) 1 info5 rfl (by decide) (by omega) 0 (ok := fun _ => True) (okp := fun _ => True) rfl (fun _ hk => hk) trivial (by omega) (by omega) (Below.refl _ _) (Nat.le_refl _) ?_; intro v276 w34 ho35 hb hg_ hnew_; clear hg_ hnew_; (first | rw [← Ny275.out] at ho35 | (simp only [Int.reduceToNat] at ho35; rw [← Ny275.out] at ho35)); have n0_ := Aside0.mk (Kd.R_below (by (with_reducible repeat (first | apply Kd.R_alloc | apply Kd.R_drewN | apply Kd.R_drew)); exact HO_1.out) hb); have n1_ := Aside0.mk (Kd.R_elder' (by (with_reducible repeat (first | apply Kd.R_alloc | apply Kd.R_drewN | apply Kd.R_drew)); exact HO_3.out) (Kd.R_base ho35) hb); have n2_ := Aside0.mk (Kd.R_below (by (with_reducible repeat (first | apply Kd.R_alloc | apply Kd.R_drewN | apply Kd.R_drew)); exact HO263.out) hb); have n3_ := Aside0.mk (Kd.R_elder' (by (with_reducible repeat (first | apply Kd.R_alloc | apply Kd.R_drewN | apply Kd.R_drew)); exact HO267.out) (Kd.R_base ho35) hb); have n4_ := Aside0.mk (Kd.R_below (by (with_reducible repeat (first | apply Kd.R_alloc | apply Kd.R_drewN | apply Kd.R_drew)); exact HO270.out) hb); have n5_ := Aside0.mk (Kd.R_elder' (by (with_reducible repeat (first | apply Kd.R_alloc | apply Kd.R_drewN | apply Kd.R_drew)); exact HO274.out) (Kd.R_base ho35) hb); have n6_ := Aside0.mk (Kd.R_lower (Kd.R_new' (Kd.R_new' (Kd.R_new' ho35 (Kd.R_lt (by (with_reducible repeat (first | apply Kd.R_alloc | apply Kd.R_drewN | apply Kd.R_drew)); exact HO_3.out))) (Kd.R_lt (by (with_reducible repeat (first | apply Kd.R_alloc | apply Kd.R_drewN | apply Kd.R_drew)); exact HO267.out))) (Kd.R_lt (by (with_reducible repeat (first | apply Kd.R_alloc | apply Kd.R_drewN | apply Kd.R_drew)); exact HO274.out))) (below_size (by repeat (first | (with_reducible first | exact HB.out | apply below_alloc | apply pw_below_drewN | apply below_drew1) | exact HB.out)))); have n7_ := Aside0.mk (Kd.C_below (by repeat (first | (with_reducible exact HR258.out) | (with_reducible refine Kd.C_alloc ?_ _) | (with_reducible refine Kd.C_drewN ?_ _) | (with_reducible refine Kd.C_drew ?_) | exact HR258.out)) hb); have n8_ := Aside0.mk (below_step (by repeat (first | (with_reducible first | exact HB.out | apply below_alloc | apply pw_below_drewN | apply below_drew1) | exact HB.out)) hb); clear HO_1; clear HO_3; clear HO263; clear HO267; clear HO270; clear HO274; clear HR258; clear HB; have HO_1 := n0_; have HO_3 := n1_; have HO263 := n2_; have HO267 := n3_; have HO270 := n4_; have HO274 := n5_; have HO277 := n6_; have HR258 := n7_; have HB := n8_; clear n0_ n1_ n2_ n3_ n4_ n5_ n6_ n7_ n8_; clear hb ho35; obtain ⟨Ao36, co36, eo36⟩ := Kd.R_slice HO277.out; subst eo36) | ((with_reducible refine gate_callee (f := 17) rfl ?_); refine goesL_ (some 56) rfl rfl Try.func17 (by kernel_rfl) rfl #[.slice Ao36 y275.length co36] rfl (by (try simp only [List.map_toArray, List.map_cons, List.map_nil]); first | done | rfl | (simp only [List.length_drop, List.length_take]; rfl)) ?_; (with_reducible refine (batch_Read.calls _ _ y275 t278 t279 t280 _ ?side1 ?side2 A25.out).mono ?_); (case side1 => repeat (first | exact (Kd.R_reads' HO277.out).2.2 | (with_reducible refine Kd.C_alloc ?_ _) | (with_reducible refine Kd.C_drewN ?_ _) | (with_reducible refine Kd.C_drew ?_))); (case side2 => exact (Kd.R_reads' HO277.out).2.1); rintro e w37 ⟨v281, rfl, ho0, hb⟩; refine ⟨_, rfl, ?_⟩; have n0_ := Aside0.mk (Kd.R_below (by (with_reducible repeat (first | apply Kd.R_alloc | apply Kd.R_drewN | apply Kd.R_drew)); exact HO_1.out) hb); have n1_ := Aside0.mk (Kd.R_below (by (with_reducible repeat (first | apply Kd.R_alloc | apply Kd.R_drewN | apply Kd.R_drew)); exact HO_3.out) hb); have n2_ := Aside0.mk (Kd.R_elder' (by (with_reducible repeat (first | apply Kd.R_alloc | apply Kd.R_drewN | apply Kd.R_drew)); exact HO263.out) (Kd.R_base ho0) hb); have n3_ := Aside0.mk (Kd.R_below (by (with_reducible repeat (first | apply Kd.R_alloc | apply Kd.R_drewN | apply Kd.R_drew)); exact HO267.out) hb); have n4_ := Aside0.mk (Kd.R_elder' (by (with_reducible repeat (first | apply Kd.R_alloc | apply Kd.R_drewN | apply Kd.R_drew)); exact HO270.out) (Kd.R_base ho0) hb); have n5_ := Aside0.mk (Kd.R_below (by (with_reducible repeat (first | apply Kd.R_alloc | apply Kd.R_drewN | apply Kd.R_drew)); exact HO274.out) hb); have n6_ := Aside0.mk (Kd.R_below (by (with_reducible repeat (first | apply Kd.R_alloc | apply Kd.R_drewN | apply Kd.R_drew)); exact HO277.out) hb); have n7_ := Aside0.mk (Kd.R_lower (Kd.R_new' (Kd.R_new' ho0 (Kd.R_lt (by (with_reducible repeat (first | apply Kd.R_alloc | apply Kd.R_drewN | apply Kd.R_drew)); exact HO263.out))) (Kd.R_lt (by (with_reducible repeat (first | apply Kd.R_alloc | apply Kd.R_drewN | apply Kd.R_drew)); exact HO270.out))) (below_size (by repeat (first | (with_reducible first | exact HB.out | apply below_alloc | apply pw_below_drewN | apply below_drew1) | exact HB.out)))); have n8_ := Aside0.mk (Kd.C_below (by repeat (first | (with_reducible exact HR258.out) | (with_reducible refine Kd.C_alloc ?_ _) | (with_reducible refine Kd.C_drewN ?_ _) | (with_reducible refine Kd.C_drew ?_) | exact HR258.out)) hb); have n9_ := Aside0.mk (below_step (by repeat (first | (with_reducible first | exact HB.out | apply below_alloc | apply pw_below_drewN | apply below_drew1) | exact HB.out)) hb); clear HO_1; clear HO_3; clear HO263; clear HO267; clear HO270; clear HO274; clear HO277; clear HR258; clear HB; have HO_1 := n0_; have HO_3 := n1_; have HO263 := n2_; have HO267 := n3_; have HO270 := n4_; have HO274 := n5_; have HO277 := n6_; have HO282 := n7_; have HR258 := n8_; have HB := n9_; clear n0_ n1_ n2_ n3_ n4_ n5_ n6_ n7_ n8_ n9_; (try clear hb); (try clear hb2); (try clear hk); (try clear hi); (try clear ho0)) | ((with_reducible refine gate_dst (N := 61) rfl ?_); (try (refine gate_guard (by rfl) ?_; dsimp only)); refine Kd.R_lit k49 _ 49 ?hg (N := 61) ?hd (xs := ([(⟨(⟨#[97]⟩ : ByteArray), true, (⟨#[120]⟩ : ByteArray)⟩ : S49)] : List (S49))) (inner := [.string (⟨#[97]⟩ : ByteArray), .bool true, .string (⟨#[120]⟩ : ByteArray)]) (ok := fun _ => True) (okp := fun _ => True) ?hr ?hp (fun _ hk => hk) trivial (Below.refl _ _) (Nat.le_refl _) (by simp) ?_; (case hd => rfl); (case hg => rfl); (case hr => first | (go_simp; done) | (go_simp; rfl)); (case hp => exact (Reps.c3 (show Kd.M k49 _ _ _ (⟨(⟨#[97]⟩ : ByteArray), true, (⟨#[120]⟩ : ByteArray)⟩ : S49) [.string (⟨#[97]⟩ : ByteArray), .bool true, .string (⟨#[120]⟩ : ByteArray)] from (k49_mkM _ _ _ (⟨(⟨#[97]⟩ : ByteArray), true, (⟨#[120]⟩ : ByteArray)⟩ : S49) )) (Reps.none _ _))); intro v284 w38 ho39 hb hg_ hnew_; clear hg_ hnew_; (first | rw [← Ny283.out] at ho39 | (simp only [Int.reduceToNat] at ho39; rw [← Ny283.out] at ho39)); have n0_ := Aside0.mk (Kd.R_below (by (with_reducible repeat (first | apply Kd.R_alloc | apply Kd.R_drewN | apply Kd.R_drew)); exact HO_1.out) hb); have n1_ := Aside0.mk (Kd.R_below (by (with_reducible repeat (first | apply Kd.R_alloc | apply Kd.R_drewN | apply Kd.R_drew)); exact HO_3.out) hb); have n2_ := Aside0.mk (Kd.R_elder' (by (with_reducible repeat (first | apply Kd.R_alloc | apply Kd.R_drewN | apply Kd.R_drew)); exact HO263.out) (Kd.R_base ho39) hb); have n3_ := Aside0.mk (Kd.R_below (by (with_reducible repeat (first | apply Kd.R_alloc | apply Kd.R_drewN | apply Kd.R_drew)); exact HO267.out) hb); have n4_ := Aside0.mk (Kd.R_elder' (by (with_reducible repeat (first | apply Kd.R_alloc | apply Kd.R_drewN | apply Kd.R_drew)); exact HO270.out) (Kd.R_base ho39) hb); have n5_ := Aside0.mk (Kd.R_below (by (with_reducible repeat (first | apply Kd.R_alloc | apply Kd.R_drewN | apply Kd.R_drew)); exact HO274.out) hb); have n6_ := Aside0.mk (Kd.R_below (by (with_reducible repeat (first | apply Kd.R_alloc | apply Kd.R_drewN | apply Kd.R_drew)); exact HO277.out) hb); have n7_ := Aside0.mk (Kd.R_elder' (by (with_reducible repeat (first | apply Kd.R_alloc | apply Kd.R_drewN | apply Kd.R_drew)); exact HO282.out) (Kd.R_base ho39) hb); have n8_ := Aside0.mk (Kd.R_lower (Kd.R_new' (Kd.R_new' (Kd.R_new' ho39 (Kd.R_lt (by (with_reducible repeat (first | apply Kd.R_alloc | apply Kd.R_drewN | apply Kd.R_drew)); exact HO263.out))) (Kd.R_lt (by (with_reducible repeat (first | apply Kd.R_alloc | apply Kd.R_drewN | apply Kd.R_drew)); exact HO270.out))) (Kd.R_lt (by (with_reducible repeat (first | apply Kd.R_alloc | apply Kd.R_drewN | apply Kd.R_drew)); exact HO282.out))) (below_size (by repeat (first | (with_reducible first | exact HB.out | apply below_alloc | apply pw_below_drewN | apply below_drew1) | exact HB.out)))); have n9_ := Aside0.mk (Kd.C_below (by repeat (first | (with_reducible exact HR258.out) | (with_reducible refine Kd.C_alloc ?_ _) | (with_reducible refine Kd.C_drewN ?_ _) | (with_reducible refine Kd.C_drew ?_) | exact HR258.out)) hb); have n10_ := Aside0.mk (below_step (by repeat (first | (with_reducible first | exact HB.out | apply below_alloc | apply pw_below_drewN | apply below_drew1) | exact HB.out)) hb); clear HO_1; clear HO_3; clear HO263; clear HO267; clear HO270; clear HO274; clear HO277; clear HO282; clear HR258; clear HB; have HO_1 := n0_; have HO_3 := n1_; have HO263 := n2_; have HO267 := n3_; have HO270 := n4_; have HO274 := n5_; have HO277 := n6_; have HO282 := n7_; have HO285 := n8_; have HR258 := n9_; have HB := n10_; clear n0_ n1_ n2_ n3_ n4_ n5_ n6_ n7_ n8_ n9_ n10_; clear hb ho39))
              (try simp only [Act.put, List.setIfInBounds_toArray, List.set_cons_zero, List.set_cons_succ])
              go_cut [16] (fun v16 wc => ∃ (kq : Nat) (x16_25 : Bool), v16 = .bool x16_25 ∧ Aside0 (millhandlaw10_BatchNames.j1 kq t261 t265 t272 t280 y283 x16_25 = some r) ∧ Aside0 (kq ≤ kj4) ∧ Aside0 (Kd.R k49 49 wc w.heap.size (fun _ => True) v284 y283) ∧ Aside0 (Kd.C (Kd.int .u8) wc Ao27 y255.length y255) ∧ Aside0 (Below w.heap.size w wc))
              case first =>
                have H := HC26.out
                clear HC26
                by_cases c40 : t245 = 0
                · rw [if_pos c40] at H
                  have c40b0 : (t245 == 0) = true := beq_iff_eq.mpr c40
                  have c40b1 : (t245 != 0) = false := bne_eq_false_iff_eq.mpr c40
                  clear c40
                  (first | rw [c40b0] | (simp only [i64_w, i32_w]; rw [c40b0]) | skip)
                  by_cases c41 : 0 < (t244.length : Int)
                  · rw [if_pos c41] at H
                    have c41b0 : decide (0 < (t244.length : Int)) = true := decide_eq_true c41
                    have c41b1 : decide (0 < t244.length) = true := decide_eq_true (by omega)
                    clear c41
                    by_cases c42 : ((((rd_T51 t244 0).f0).toList) == ([97] : List UInt8) && (((rd_T51 t244 0).f1) == 300 && (!((rd_T51 t244 0).f2) && ((((rd_T51 t244 0).f3).toList) == ([120, 121] : List UInt8))))) = true
                    · rw [if_pos c42] at H
                      have c42b0 : ((((rd_T51 t244 0).f0).toList) == ([97] : List UInt8) && (((rd_T51 t244 0).f1) == 300 && (!((rd_T51 t244 0).f2) && ((((rd_T51 t244 0).f3).toList) == ([120, 121] : List UInt8))))) = true := c42
                      (try (have c42b1 : decide ((((rd_T51 t244 0).f0).toList) = ([97] : List UInt8) && (((rd_T51 t244 0).f1) == 300 && (!((rd_T51 t244 0).f2) && ((((rd_T51 t244 0).f3).toList) == ([120, 121] : List UInt8))))) = true := by simpa using c42))
                      (try (have c42b2 : ((((rd_T51 t244 0).f0).toList) == ([97] : List UInt8) && (((rd_T51 t244 0).f1) == 300 && (!((rd_T51 t244 0).f2) && ((((rd_T51 t244 0).f3).toList) == ([120, 121] : List UInt8))))) = true := by simpa using c42))
                      clear c42
                      by_cases c43 : 1 < (t244.length : Int)
                      · rw [if_pos c43] at H
                        have c43b0 : decide (1 < (t244.length : Int)) = true := decide_eq_true c43
                        have c43b1 : decide (1 < t244.length) = true := decide_eq_true (by omega)
                        clear c43
                        have H' := Aside0.mk H
                        clear H
                        obtain ⟨Ao44, co44, eo44⟩ := Kd.R_slice HO_1.out
                        subst eo44
                        have p286 : 0 ≤ (0 : Int) := (by omega)
                        have q286 : 0 < (t244.length : Int) := of_decide_eq_true (by first | (with_reducible assumption) | assumption)
                        obtain ⟨ad286, e286, hx286_0, hx286_1, hx286_2, hx286_3⟩ := at_T51 (Kd.R_reads' HO_1.out).2.2 0 p286 q286
                        cases e286
                        have qi286 : (0 < t244.length) = True := eq_true (by omega)
                        (try rw [show ((0 : Int)).toNat = 0 from rfl] at hx286_0)
                        (try rw [show 0 * 4 = 0 from rfl] at hx286_0)
                        (try rw [Addr.add_zero'] at hx286_0)
                        (try rw [show ((0 : Int)).toNat = 0 from rfl] at hx286_1)
                        (try rw [show 0 * 4 = 0 from rfl] at hx286_1)
                        (try rw [Addr.add_zero'] at hx286_1)
                        (try rw [show ((0 : Int)).toNat = 0 from rfl] at hx286_2)
                        (try rw [show 0 * 4 = 0 from rfl] at hx286_2)
                        (try rw [Addr.add_zero'] at hx286_2)
                        (try rw [show ((0 : Int)).toNat = 0 from rfl] at hx286_3)
                        (try rw [show 0 * 4 = 0 from rfl] at hx286_3)
                        (try rw [Addr.add_zero'] at hx286_3)
                        replace p286 := eq_true p286
                        replace q286 := eq_true q286
                        have p287 : 0 ≤ (1 : Int) := (by omega)
                        have q287 : 1 < (t244.length : Int) := of_decide_eq_true (by first | (with_reducible assumption) | assumption)
                        obtain ⟨ad287, e287, hx287_0, hx287_1, hx287_2, hx287_3⟩ := at_T51 (Kd.R_reads' HO_1.out).2.2 1 p287 q287
                        obtain rfl : ad286 = ad287 := (by injection e287)
                        (try simp only [show (1 : Int).toNat = 1 from rfl, Nat.reduceMul, Nat.reduceEqDiff, Go.Addr.add, ↓reduceIte] at hx287_0)
                        (try simp only [show (1 : Int).toNat = 1 from rfl, Nat.reduceMul, Nat.reduceEqDiff, Go.Addr.add, ↓reduceIte] at hx287_1)
                        (try simp only [show (1 : Int).toNat = 1 from rfl, Nat.reduceMul, Nat.reduceEqDiff, Go.Addr.add, ↓reduceIte] at hx287_2)
                        (try simp only [show (1 : Int).toNat = 1 from rfl, Nat.reduceMul, Nat.reduceEqDiff, Go.Addr.add, ↓reduceIte] at hx287_3)
                        have qi287 : (1 < t244.length) = True := eq_true (by omega)
                        (try rw [show ((1 : Int)).toNat = 1 from rfl] at hx287_0)
                        (try rw [show 1 * 4 = 4 from rfl] at hx287_0)
                        (try rw [show ((1 : Int)).toNat = 1 from rfl] at hx287_1)
                        (try rw [show 1 * 4 = 4 from rfl] at hx287_1)
                        (try rw [show ((1 : Int)).toNat = 1 from rfl] at hx287_2)
                        (try rw [show 1 * 4 = 4 from rfl] at hx287_2)
                        (try rw [show ((1 : Int)).toNat = 1 from rfl] at hx287_3)
                        (try rw [show 1 * 4 = 4 from rfl] at hx287_3)
                        replace p287 := eq_true p287
                        replace q287 := eq_true q287
                        go_wp2
                        go_meet
                        case rel => exact ⟨_, (((((rd_T51 t244 1).f0).toList) == ([98] : List UInt8) && (((rd_T51 t244 1).f1) == 301 && (((rd_T51 t244 1).f2) && ((((rd_T51 t244 1).f3).toList) == ([] : List UInt8)))))), (by first | rfl | (simp; done) | (simp [*]; done)), H', ⟨by have := HJ4.out; first | omega | exact Nat.le_refl _⟩, ⟨by (with_reducible repeat (first | apply Kd.R_alloc | apply Kd.R_drewN | apply Kd.R_drew)); exact Kd.R_mono HO285.out (fun _ hk => trivial)⟩, ⟨by repeat (first | (with_reducible exact HR258.out) | (with_reducible refine Kd.C_alloc ?_ _) | (with_reducible refine Kd.C_drewN ?_ _) | (with_reducible refine Kd.C_drew ?_) | exact HR258.out)⟩, ⟨by repeat (first | (with_reducible first | exact HB.out | apply below_alloc | apply pw_below_drewN | apply below_drew1) | exact HB.out)⟩⟩
                      · rw [if_neg c43] at H
                        exact absurd H (by simp)
                    · rw [if_neg c42] at H
                      have c42b0 : ((((rd_T51 t244 0).f0).toList) == ([97] : List UInt8) && (((rd_T51 t244 0).f1) == 300 && (!((rd_T51 t244 0).f2) && ((((rd_T51 t244 0).f3).toList) == ([120, 121] : List UInt8))))) = false := by simpa using c42
                      (try (have c42b1 : decide ((((rd_T51 t244 0).f0).toList) = ([97] : List UInt8) && (((rd_T51 t244 0).f1) == 300 && (!((rd_T51 t244 0).f2) && ((((rd_T51 t244 0).f3).toList) == ([120, 121] : List UInt8))))) = false := by simpa using c42))
                      (try (have c42b2 : ((((rd_T51 t244 0).f0).toList) == ([97] : List UInt8) && (((rd_T51 t244 0).f1) == 300 && (!((rd_T51 t244 0).f2) && ((((rd_T51 t244 0).f3).toList) == ([120, 121] : List UInt8))))) = false := by simpa using c42))
                      (try (have c42b3 : ¬ ((((rd_T51 t244 0).f0).toList) = ([97] : List UInt8) && (((rd_T51 t244 0).f1) == 300 && (!((rd_T51 t244 0).f2) && ((((rd_T51 t244 0).f3).toList) == ([120, 121] : List UInt8))))) := by simpa using c42))
                      clear c42
                      have H' := Aside0.mk H
                      clear H
                      obtain ⟨Ao45, co45, eo45⟩ := Kd.R_slice HO_1.out
                      subst eo45
                      have p286 : 0 ≤ (0 : Int) := (by omega)
                      have q286 : 0 < (t244.length : Int) := of_decide_eq_true (by first | (with_reducible assumption) | assumption)
                      obtain ⟨ad286, e286, hx286_0, hx286_1, hx286_2, hx286_3⟩ := at_T51 (Kd.R_reads' HO_1.out).2.2 0 p286 q286
                      cases e286
                      have qi286 : (0 < t244.length) = True := eq_true (by omega)
                      (try rw [show ((0 : Int)).toNat = 0 from rfl] at hx286_0)
                      (try rw [show 0 * 4 = 0 from rfl] at hx286_0)
                      (try rw [Addr.add_zero'] at hx286_0)
                      (try rw [show ((0 : Int)).toNat = 0 from rfl] at hx286_1)
                      (try rw [show 0 * 4 = 0 from rfl] at hx286_1)
                      (try rw [Addr.add_zero'] at hx286_1)
                      (try rw [show ((0 : Int)).toNat = 0 from rfl] at hx286_2)
                      (try rw [show 0 * 4 = 0 from rfl] at hx286_2)
                      (try rw [Addr.add_zero'] at hx286_2)
                      (try rw [show ((0 : Int)).toNat = 0 from rfl] at hx286_3)
                      (try rw [show 0 * 4 = 0 from rfl] at hx286_3)
                      (try rw [Addr.add_zero'] at hx286_3)
                      replace p286 := eq_true p286
                      replace q286 := eq_true q286
                      go_wp2
                      go_meet
                      case rel => exact ⟨_, (false), (by first | rfl | (simp; done) | (simp [*]; done)), H', ⟨by have := HJ4.out; first | omega | exact Nat.le_refl _⟩, ⟨by (with_reducible repeat (first | apply Kd.R_alloc | apply Kd.R_drewN | apply Kd.R_drew)); exact Kd.R_mono HO285.out (fun _ hk => trivial)⟩, ⟨by repeat (first | (with_reducible exact HR258.out) | (with_reducible refine Kd.C_alloc ?_ _) | (with_reducible refine Kd.C_drewN ?_ _) | (with_reducible refine Kd.C_drew ?_) | exact HR258.out)⟩, ⟨by repeat (first | (with_reducible first | exact HB.out | apply below_alloc | apply pw_below_drewN | apply below_drew1) | exact HB.out)⟩⟩
                  · rw [if_neg c41] at H
                    exact absurd H (by simp)
                · rw [if_neg c40] at H
                  have c40b0 : (t245 == 0) = false := beq_eq_false_iff_ne.mpr c40
                  have c40b1 : (t245 != 0) = true := bne_iff_ne.mpr c40
                  (first | rw [c40b0] | (simp only [i64_w, i32_w]; rw [c40b0]) | skip)
                  have H' := Aside0.mk H
                  clear H
                  go_wp2
                  go_meet
                  case rel => exact ⟨_, (false), (by first | rfl | (simp; done) | (simp [*]; done)), H', ⟨by have := HJ4.out; first | omega | exact Nat.le_refl _⟩, ⟨by (with_reducible repeat (first | apply Kd.R_alloc | apply Kd.R_drewN | apply Kd.R_drew)); exact Kd.R_mono HO285.out (fun _ hk => trivial)⟩, ⟨by repeat (first | (with_reducible exact HR258.out) | (with_reducible refine Kd.C_alloc ?_ _) | (with_reducible refine Kd.C_drewN ?_ _) | (with_reducible refine Kd.C_drew ?_) | exact HR258.out)⟩, ⟨by repeat (first | (with_reducible first | exact HB.out | apply below_alloc | apply pw_below_drewN | apply below_drew1) | exact HB.out)⟩⟩
              case rest =>
                clear HC26
                try clear c1
                try clear c2
                try clear p2
                try clear q2
                try clear hx2
                try clear qi2
                try clear c3
                try clear c4
                try clear p6
                try clear c7
                try clear c9
                try clear c11
                try clear c12
                try clear c12b0
                try clear c12b1
                try clear c12b2
                try clear c16
                try clear c17
                try clear c18
                try clear c18b0
                try clear c18b1
                try clear c19
                try clear c19b0
                try clear c19b1
                try clear c20
                try clear c24
                try clear c24b0
                try clear c24b1
                try clear p28
                try clear q28
                try clear hx28
                try clear qi28
                try clear c40
                try clear c40b0
                try clear c40b1
                try clear c41
                try clear c41b0
                try clear c41b1
                try clear c42
                try clear c42b0
                try clear c42b1
                try clear c42b2
                try clear c43
                try clear c43b0
                try clear c43b1
                try clear hx286_0
                try clear hx286_1
                try clear hx286_2
                try clear hx286_3
                try clear hx287_0
                try clear hx287_1
                try clear hx287_2
                try clear hx287_3
                try clear p2
                try clear p286
                try clear p287
                try clear q28
                try clear q286
                try clear q287
                obtain ⟨kq, x16_25, rfl, HA, HJ25, HO_15, HR258, HB⟩ := hcut
                cases kq with
                | zero => exact absurd HA.out (by simp [millhandlaw10_BatchNames.j1])
                | succ kj25 =>
                  have H := HA.out
                  clear HA
                  simp only [millhandlaw10_BatchNames.j1] at H
                  replace H := Option.bind_eq_some_iff.mp H
                  obtain ⟨t288, A460, H⟩ := H
                  replace H : (if t288 = true then (if x16_25 = true then (if t261 = 8 then (if t265 = 4 then (if t272 = 2 then (if t280 = 3 then ((batch_Check.f kj25 y283).bind fun t289 => (if t289 = 8 then ((millhandlaw10_two.f).bind fun t290 => ((batch_Check.f kj25 t290).bind fun t293 => (some (t293 == 0)))) else (some false))) else (some false)) else (some false)) else (some false)) else (some false)) else (some false)) else (some false)) = some r := H
                  have A46 := Aside0.mk A460
                  clear A460
                  by_cases c47 : t288 = true
                  · subst c47
                    have H1 : (if x16_25 = true then (if t261 = 8 then (if t265 = 4 then (if t272 = 2 then (if t280 = 3 then ((batch_Check.f kj25 y283).bind fun t289 => (if t289 = 8 then ((millhandlaw10_two.f).bind fun t290 => ((batch_Check.f kj25 t290).bind fun t293 => (some (t293 == 0)))) else (some false))) else (some false)) else (some false)) else (some false)) else (some false)) else (some false)) = some r := by rw [if_pos rfl] at H; exact H
                    clear H
                    have H := H1
                    clear H1
                    by_cases c48 : x16_25 = true
                    · subst c48
                      have H1 : (if t261 = 8 then (if t265 = 4 then (if t272 = 2 then (if t280 = 3 then ((batch_Check.f kj25 y283).bind fun t289 => (if t289 = 8 then ((millhandlaw10_two.f).bind fun t290 => ((batch_Check.f kj25 t290).bind fun t293 => (some (t293 == 0)))) else (some false))) else (some false)) else (some false)) else (some false)) else (some false)) = some r := by rw [if_pos rfl] at H; exact H
                      clear H
                      have H := H1
                      clear H1
                      by_cases c49 : t261 = 8
                      · rw [if_pos c49] at H
                        have c49b0 : (t261 == 8) = true := beq_iff_eq.mpr c49
                        have c49b1 : (t261 != 8) = false := bne_eq_false_iff_eq.mpr c49
                        clear c49
                        by_cases c50 : t265 = 4
                        · rw [if_pos c50] at H
                          have c50b0 : (t265 == 4) = true := beq_iff_eq.mpr c50
                          have c50b1 : (t265 != 4) = false := bne_eq_false_iff_eq.mpr c50
                          clear c50
                          by_cases c51 : t272 = 2
                          · rw [if_pos c51] at H
                            have c51b0 : (t272 == 2) = true := beq_iff_eq.mpr c51
                            have c51b1 : (t272 != 2) = false := bne_eq_false_iff_eq.mpr c51
                            clear c51
                            by_cases c52 : t280 = 3
                            · rw [if_pos c52] at H
                              have c52b0 : (t280 == 3) = true := beq_iff_eq.mpr c52
                              have c52b1 : (t280 != 3) = false := bne_eq_false_iff_eq.mpr c52
                              clear c52
                              replace H := Option.bind_eq_some_iff.mp H
                              obtain ⟨t289, A530, H⟩ := H
                              replace H : (if t289 = 8 then ((millhandlaw10_two.f).bind fun t290 => ((batch_Check.f kj25 t290).bind fun t293 => (some (t293 == 0)))) else (some false)) = some r := H
                              have A53 := Aside0.mk A530
                              clear A530
                              by_cases c54 : t289 = 8
                              · rw [if_pos c54] at H
                                have c54b0 : (t289 == 8) = true := beq_iff_eq.mpr c54
                                have c54b1 : (t289 != 8) = false := bne_eq_false_iff_eq.mpr c54
                                clear c54
                                replace H := Option.bind_eq_some_iff.mp H
                                obtain ⟨t290, A550, H⟩ := H
                                replace H : ((batch_Check.f kj25 t290).bind fun t293 => (some (t293 == 0))) = some r := H
                                have A55 := Aside0.mk A550
                                clear A550
                                replace H := Option.bind_eq_some_iff.mp H
                                obtain ⟨t293, A560, H⟩ := H
                                replace H : (some (t293 == 0)) = some r := H
                                have A56 := Aside0.mk A560
                                clear A560
                                obtain rfl := Option.some.inj H
                                go_wp2_with (first | (go_at_call 19; (with_reducible refine (millhandlaw10_alive.calls kj25  true _ A46.out).mono ?_); rintro e w57 ⟨rfl, hb⟩; have n0_ := Aside0.mk (Kd.R_below (by (with_reducible repeat (first | apply Kd.R_alloc | apply Kd.R_drewN | apply Kd.R_drew)); exact HO_15.out) hb); have n1_ := Aside0.mk (Kd.C_below (by repeat (first | (with_reducible exact HR258.out) | (with_reducible refine Kd.C_alloc ?_ _) | (with_reducible refine Kd.C_drewN ?_ _) | (with_reducible refine Kd.C_drew ?_) | exact HR258.out)) hb); have n2_ := Aside0.mk (below_step (by repeat (first | (with_reducible first | exact HB.out | apply below_alloc | apply pw_below_drewN | apply below_drew1) | exact HB.out)) hb); clear HO_15; clear HR258; clear HB; have HO_15 := n0_; have HR258 := n1_; have HB := n2_; clear n0_ n1_ n2_; (try clear hb); (try clear hb2); (try clear hk); (try clear hi); obtain ⟨Ao58, co58, eo58⟩ := Kd.R_slice HO_15.out; subst eo58) | (go_at_call 14; (with_reducible refine (batch_Check.calls kj25 _ _ y283 t289 _ ?side1 ?side2 A53.out).mono ?_); (case side1 => repeat (first | exact (Kd.R_reads' HO_15.out).2.2 | (with_reducible refine Kd.C_alloc ?_ _) | (with_reducible refine Kd.C_drewN ?_ _) | (with_reducible refine Kd.C_drew ?_))); (case side2 => exact (Kd.R_reads' HO_15.out).2.1); rintro e w59 ⟨rfl, hb⟩; have n0_ := Aside0.mk (Kd.R_below (by (with_reducible repeat (first | apply Kd.R_alloc | apply Kd.R_drewN | apply Kd.R_drew)); exact HO_15.out) hb); have n1_ := Aside0.mk (Kd.C_below (by repeat (first | (with_reducible exact HR258.out) | (with_reducible refine Kd.C_alloc ?_ _) | (with_reducible refine Kd.C_drewN ?_ _) | (with_reducible refine Kd.C_drew ?_) | exact HR258.out)) hb); have n2_ := Aside0.mk (below_step (by repeat (first | (with_reducible first | exact HB.out | apply below_alloc | apply pw_below_drewN | apply below_drew1) | exact HB.out)) hb); clear HO_15; clear HR258; clear HB; have HO_15 := n0_; have HR258 := n1_; have HB := n2_; clear n0_ n1_ n2_; (try clear hb); (try clear hb2); (try clear hk); (try clear hi)) | (go_at_call 20; (with_reducible refine (millhandlaw10_two.calls  t290 _ A55.out).mono ?_); rintro e w60 ⟨v291, rfl, ho0, hb⟩; have n0_ := Aside0.mk (Kd.R_elder' (by (with_reducible repeat (first | apply Kd.R_alloc | apply Kd.R_drewN | apply Kd.R_drew)); exact HO_15.out) (Kd.R_base ho0) hb); have n1_ := Aside0.mk (Kd.R_lower (Kd.R_new' ho0 (Kd.R_lt (by (with_reducible repeat (first | apply Kd.R_alloc | apply Kd.R_drewN | apply Kd.R_drew)); exact HO_15.out))) (below_size (by repeat (first | (with_reducible first | exact HB.out | apply below_alloc | apply pw_below_drewN | apply below_drew1) | exact HB.out)))); have n2_ := Aside0.mk (Kd.C_below (by repeat (first | (with_reducible exact HR258.out) | (with_reducible refine Kd.C_alloc ?_ _) | (with_reducible refine Kd.C_drewN ?_ _) | (with_reducible refine Kd.C_drew ?_) | exact HR258.out)) hb); have n3_ := Aside0.mk (below_step (by repeat (first | (with_reducible first | exact HB.out | apply below_alloc | apply pw_below_drewN | apply below_drew1) | exact HB.out)) hb); clear HO_15; clear HR258; clear HB; have HO_15 := n0_; have HO292 := n1_; have HR258 := n2_; have HB := n3_; clear n0_ n1_ n2_ n3_; (try clear hb); (try clear hb2); (try clear hk); (try clear hi); (try clear ho0); obtain ⟨Ao61, co61, eo61⟩ := Kd.R_slice HO292.out; subst eo61) | (go_at_call 14; (with_reducible refine (batch_Check.calls kj25 _ _ t290 t293 _ ?side1 ?side2 A56.out).mono ?_); (case side1 => repeat (first | exact (Kd.R_reads' HO292.out).2.2 | (with_reducible refine Kd.C_alloc ?_ _) | (with_reducible refine Kd.C_drewN ?_ _) | (with_reducible refine Kd.C_drew ?_))); (case side2 => exact (Kd.R_reads' HO292.out).2.1); rintro e w62 ⟨rfl, hb⟩; have n0_ := Aside0.mk (Kd.R_below (by (with_reducible repeat (first | apply Kd.R_alloc | apply Kd.R_drewN | apply Kd.R_drew)); exact HO_15.out) hb); have n1_ := Aside0.mk (Kd.R_below (by (with_reducible repeat (first | apply Kd.R_alloc | apply Kd.R_drewN | apply Kd.R_drew)); exact HO292.out) hb); have n2_ := Aside0.mk (Kd.C_below (by repeat (first | (with_reducible exact HR258.out) | (with_reducible refine Kd.C_alloc ?_ _) | (with_reducible refine Kd.C_drewN ?_ _) | (with_reducible refine Kd.C_drew ?_) | exact HR258.out)) hb); have n3_ := Aside0.mk (below_step (by repeat (first | (with_reducible first | exact HB.out | apply below_alloc | apply pw_below_drewN | apply below_drew1) | exact HB.out)) hb); clear HO_15; clear HO292; clear HR258; clear HB; have HO_15 := n0_; have HO292 := n1_; have HR258 := n2_; have HB := n3_; clear n0_ n1_ n2_ n3_; (try clear hb); (try clear hb2); (try clear hk); (try clear hi)))
                                go_ret
                                exact ⟨by first | rfl | (simp [errW_none, errW_some] <;> rfl) | (simp only [← hji17]; first | rfl | (simp [errW_none, errW_some] <;> rfl)) | (simp [*, errW_none, errW_some] <;> rfl) | exact ret_ie _ | (simp [*, errW_none, errW_some, bne]; done), by repeat (first | (with_reducible first | exact HB.out | apply below_alloc | apply pw_below_drewN | apply below_drew1) | exact HB.out)⟩
                              · rw [if_neg c54] at H
                                have c54b0 : (t289 == 8) = false := beq_eq_false_iff_ne.mpr c54
                                have c54b1 : (t289 != 8) = true := bne_iff_ne.mpr c54
                                obtain rfl := Option.some.inj H
                                go_wp2_with (first | (go_at_call 19; (with_reducible refine (millhandlaw10_alive.calls kj25  true _ A46.out).mono ?_); rintro e w63 ⟨rfl, hb⟩; have n0_ := Aside0.mk (Kd.R_below (by (with_reducible repeat (first | apply Kd.R_alloc | apply Kd.R_drewN | apply Kd.R_drew)); exact HO_15.out) hb); have n1_ := Aside0.mk (Kd.C_below (by repeat (first | (with_reducible exact HR258.out) | (with_reducible refine Kd.C_alloc ?_ _) | (with_reducible refine Kd.C_drewN ?_ _) | (with_reducible refine Kd.C_drew ?_) | exact HR258.out)) hb); have n2_ := Aside0.mk (below_step (by repeat (first | (with_reducible first | exact HB.out | apply below_alloc | apply pw_below_drewN | apply below_drew1) | exact HB.out)) hb); clear HO_15; clear HR258; clear HB; have HO_15 := n0_; have HR258 := n1_; have HB := n2_; clear n0_ n1_ n2_; (try clear hb); (try clear hb2); (try clear hk); (try clear hi); obtain ⟨Ao64, co64, eo64⟩ := Kd.R_slice HO_15.out; subst eo64) | (go_at_call 14; (with_reducible refine (batch_Check.calls kj25 _ _ y283 t289 _ ?side1 ?side2 A53.out).mono ?_); (case side1 => repeat (first | exact (Kd.R_reads' HO_15.out).2.2 | (with_reducible refine Kd.C_alloc ?_ _) | (with_reducible refine Kd.C_drewN ?_ _) | (with_reducible refine Kd.C_drew ?_))); (case side2 => exact (Kd.R_reads' HO_15.out).2.1); rintro e w65 ⟨rfl, hb⟩; have n0_ := Aside0.mk (Kd.R_below (by (with_reducible repeat (first | apply Kd.R_alloc | apply Kd.R_drewN | apply Kd.R_drew)); exact HO_15.out) hb); have n1_ := Aside0.mk (Kd.C_below (by repeat (first | (with_reducible exact HR258.out) | (with_reducible refine Kd.C_alloc ?_ _) | (with_reducible refine Kd.C_drewN ?_ _) | (with_reducible refine Kd.C_drew ?_) | exact HR258.out)) hb); have n2_ := Aside0.mk (below_step (by repeat (first | (with_reducible first | exact HB.out | apply below_alloc | apply pw_below_drewN | apply below_drew1) | exact HB.out)) hb); clear HO_15; clear HR258; clear HB; have HO_15 := n0_; have HR258 := n1_; have HB := n2_; clear n0_ n1_ n2_; (try clear hb); (try clear hb2); (try clear hk); (try clear hi)))
                                go_ret
                                exact ⟨by first | rfl | (simp [errW_none, errW_some] <;> rfl) | (simp only [← hji17]; first | rfl | (simp [errW_none, errW_some] <;> rfl)) | (simp [*, errW_none, errW_some] <;> rfl) | exact ret_ie _ | (simp [*, errW_none, errW_some, bne]; done), by repeat (first | (with_reducible first | exact HB.out | apply below_alloc | apply pw_below_drewN | apply below_drew1) | exact HB.out)⟩
                            · rw [if_neg c52] at H
                              have c52b0 : (t280 == 3) = false := beq_eq_false_iff_ne.mpr c52
                              have c52b1 : (t280 != 3) = true := bne_iff_ne.mpr c52
                              obtain rfl := Option.some.inj H
                              go_wp2_with (first | (go_at_call 19; (with_reducible refine (millhandlaw10_alive.calls kj25  true _ A46.out).mono ?_); rintro e w66 ⟨rfl, hb⟩; have n0_ := Aside0.mk (Kd.R_below (by (with_reducible repeat (first | apply Kd.R_alloc | apply Kd.R_drewN | apply Kd.R_drew)); exact HO_15.out) hb); have n1_ := Aside0.mk (Kd.C_below (by repeat (first | (with_reducible exact HR258.out) | (with_reducible refine Kd.C_alloc ?_ _) | (with_reducible refine Kd.C_drewN ?_ _) | (with_reducible refine Kd.C_drew ?_) | exact HR258.out)) hb); have n2_ := Aside0.mk (below_step (by repeat (first | (with_reducible first | exact HB.out | apply below_alloc | apply pw_below_drewN | apply below_drew1) | exact HB.out)) hb); clear HO_15; clear HR258; clear HB; have HO_15 := n0_; have HR258 := n1_; have HB := n2_; clear n0_ n1_ n2_; (try clear hb); (try clear hb2); (try clear hk); (try clear hi)))
                              go_ret
                              exact ⟨by first | rfl | (simp [errW_none, errW_some] <;> rfl) | (simp only [← hji17]; first | rfl | (simp [errW_none, errW_some] <;> rfl)) | (simp [*, errW_none, errW_some] <;> rfl) | exact ret_ie _ | (simp [*, errW_none, errW_some, bne]; done), by repeat (first | (with_reducible first | exact HB.out | apply below_alloc | apply pw_below_drewN | apply below_drew1) | exact HB.out)⟩
                          · rw [if_neg c51] at H
                            have c51b0 : (t272 == 2) = false := beq_eq_false_iff_ne.mpr c51
                            have c51b1 : (t272 != 2) = true := bne_iff_ne.mpr c51
                            obtain rfl := Option.some.inj H
                            go_wp2_with (first | (go_at_call 19; (with_reducible refine (millhandlaw10_alive.calls kj25  true _ A46.out).mono ?_); rintro e w67 ⟨rfl, hb⟩; have n0_ := Aside0.mk (Kd.R_below (by (with_reducible repeat (first | apply Kd.R_alloc | apply Kd.R_drewN | apply Kd.R_drew)); exact HO_15.out) hb); have n1_ := Aside0.mk (Kd.C_below (by repeat (first | (with_reducible exact HR258.out) | (with_reducible refine Kd.C_alloc ?_ _) | (with_reducible refine Kd.C_drewN ?_ _) | (with_reducible refine Kd.C_drew ?_) | exact HR258.out)) hb); have n2_ := Aside0.mk (below_step (by repeat (first | (with_reducible first | exact HB.out | apply below_alloc | apply pw_below_drewN | apply below_drew1) | exact HB.out)) hb); clear HO_15; clear HR258; clear HB; have HO_15 := n0_; have HR258 := n1_; have HB := n2_; clear n0_ n1_ n2_; (try clear hb); (try clear hb2); (try clear hk); (try clear hi)))
                            go_ret
                            exact ⟨by first | rfl | (simp [errW_none, errW_some] <;> rfl) | (simp only [← hji17]; first | rfl | (simp [errW_none, errW_some] <;> rfl)) | (simp [*, errW_none, errW_some] <;> rfl) | exact ret_ie _ | (simp [*, errW_none, errW_some, bne]; done), by repeat (first | (with_reducible first | exact HB.out | apply below_alloc | apply pw_below_drewN | apply below_drew1) | exact HB.out)⟩
                        · rw [if_neg c50] at H
                          have c50b0 : (t265 == 4) = false := beq_eq_false_iff_ne.mpr c50
                          have c50b1 : (t265 != 4) = true := bne_iff_ne.mpr c50
                          obtain rfl := Option.some.inj H
                          go_wp2_with (first | (go_at_call 19; (with_reducible refine (millhandlaw10_alive.calls kj25  true _ A46.out).mono ?_); rintro e w68 ⟨rfl, hb⟩; have n0_ := Aside0.mk (Kd.R_below (by (with_reducible repeat (first | apply Kd.R_alloc | apply Kd.R_drewN | apply Kd.R_drew)); exact HO_15.out) hb); have n1_ := Aside0.mk (Kd.C_below (by repeat (first | (with_reducible exact HR258.out) | (with_reducible refine Kd.C_alloc ?_ _) | (with_reducible refine Kd.C_drewN ?_ _) | (with_reducible refine Kd.C_drew ?_) | exact HR258.out)) hb); have n2_ := Aside0.mk (below_step (by repeat (first | (with_reducible first | exact HB.out | apply below_alloc | apply pw_below_drewN | apply below_drew1) | exact HB.out)) hb); clear HO_15; clear HR258; clear HB; have HO_15 := n0_; have HR258 := n1_; have HB := n2_; clear n0_ n1_ n2_; (try clear hb); (try clear hb2); (try clear hk); (try clear hi)))
                          go_ret
                          exact ⟨by first | rfl | (simp [errW_none, errW_some] <;> rfl) | (simp only [← hji17]; first | rfl | (simp [errW_none, errW_some] <;> rfl)) | (simp [*, errW_none, errW_some] <;> rfl) | exact ret_ie _ | (simp [*, errW_none, errW_some, bne]; done), by repeat (first | (with_reducible first | exact HB.out | apply below_alloc | apply pw_below_drewN | apply below_drew1) | exact HB.out)⟩
                      · rw [if_neg c49] at H
                        have c49b0 : (t261 == 8) = false := beq_eq_false_iff_ne.mpr c49
                        have c49b1 : (t261 != 8) = true := bne_iff_ne.mpr c49
                        obtain rfl := Option.some.inj H
                        go_wp2_with (first | (go_at_call 19; (with_reducible refine (millhandlaw10_alive.calls kj25  true _ A46.out).mono ?_); rintro e w69 ⟨rfl, hb⟩; have n0_ := Aside0.mk (Kd.R_below (by (with_reducible repeat (first | apply Kd.R_alloc | apply Kd.R_drewN | apply Kd.R_drew)); exact HO_15.out) hb); have n1_ := Aside0.mk (Kd.C_below (by repeat (first | (with_reducible exact HR258.out) | (with_reducible refine Kd.C_alloc ?_ _) | (with_reducible refine Kd.C_drewN ?_ _) | (with_reducible refine Kd.C_drew ?_) | exact HR258.out)) hb); have n2_ := Aside0.mk (below_step (by repeat (first | (with_reducible first | exact HB.out | apply below_alloc | apply pw_below_drewN | apply below_drew1) | exact HB.out)) hb); clear HO_15; clear HR258; clear HB; have HO_15 := n0_; have HR258 := n1_; have HB := n2_; clear n0_ n1_ n2_; (try clear hb); (try clear hb2); (try clear hk); (try clear hi)))
                        go_ret
                        exact ⟨by first | rfl | (simp [errW_none, errW_some] <;> rfl) | (simp only [← hji17]; first | rfl | (simp [errW_none, errW_some] <;> rfl)) | (simp [*, errW_none, errW_some] <;> rfl) | exact ret_ie _ | (simp [*, errW_none, errW_some, bne]; done), by repeat (first | (with_reducible first | exact HB.out | apply below_alloc | apply pw_below_drewN | apply below_drew1) | exact HB.out)⟩
                    · replace c48 := Bool.eq_false_iff.mpr c48
                      subst c48
                      have H1 : (some false) = some r := by rw [if_neg (show ¬ (false = true) by decide)] at H; exact H
                      clear H
                      have H := H1
                      clear H1
                      obtain rfl := Option.some.inj H
                      go_wp2_with (first | (go_at_call 19; (with_reducible refine (millhandlaw10_alive.calls kj25  true _ A46.out).mono ?_); rintro e w70 ⟨rfl, hb⟩; have n0_ := Aside0.mk (Kd.R_below (by (with_reducible repeat (first | apply Kd.R_alloc | apply Kd.R_drewN | apply Kd.R_drew)); exact HO_15.out) hb); have n1_ := Aside0.mk (Kd.C_below (by repeat (first | (with_reducible exact HR258.out) | (with_reducible refine Kd.C_alloc ?_ _) | (with_reducible refine Kd.C_drewN ?_ _) | (with_reducible refine Kd.C_drew ?_) | exact HR258.out)) hb); have n2_ := Aside0.mk (below_step (by repeat (first | (with_reducible first | exact HB.out | apply below_alloc | apply pw_below_drewN | apply below_drew1) | exact HB.out)) hb); clear HO_15; clear HR258; clear HB; have HO_15 := n0_; have HR258 := n1_; have HB := n2_; clear n0_ n1_ n2_; (try clear hb); (try clear hb2); (try clear hk); (try clear hi)))
                      go_ret
                      exact ⟨by first | rfl | (simp [errW_none, errW_some] <;> rfl) | (simp only [← hji17]; first | rfl | (simp [errW_none, errW_some] <;> rfl)) | (simp [*, errW_none, errW_some] <;> rfl) | exact ret_ie _ | (simp [*, errW_none, errW_some, bne]; done), by repeat (first | (with_reducible first | exact HB.out | apply below_alloc | apply pw_below_drewN | apply below_drew1) | exact HB.out)⟩
                  · replace c47 := Bool.eq_false_iff.mpr c47
                    subst c47
                    have H1 : (some false) = some r := by rw [if_neg (show ¬ (false = true) by decide)] at H; exact H
                    clear H
                    have H := H1
                    clear H1
                    obtain rfl := Option.some.inj H
                    go_wp2_with (first | (go_at_call 19; (with_reducible refine (millhandlaw10_alive.calls kj25  false _ A46.out).mono ?_); rintro e w71 ⟨rfl, hb⟩; have n0_ := Aside0.mk (Kd.R_below (by (with_reducible repeat (first | apply Kd.R_alloc | apply Kd.R_drewN | apply Kd.R_drew)); exact HO_15.out) hb); have n1_ := Aside0.mk (Kd.C_below (by repeat (first | (with_reducible exact HR258.out) | (with_reducible refine Kd.C_alloc ?_ _) | (with_reducible refine Kd.C_drewN ?_ _) | (with_reducible refine Kd.C_drew ?_) | exact HR258.out)) hb); have n2_ := Aside0.mk (below_step (by repeat (first | (with_reducible first | exact HB.out | apply below_alloc | apply pw_below_drewN | apply below_drew1) | exact HB.out)) hb); clear HO_15; clear HR258; clear HB; have HO_15 := n0_; have HR258 := n1_; have HB := n2_; clear n0_ n1_ n2_; (try clear hb); (try clear hb2); (try clear hk); (try clear hi)))
                    go_ret
                    exact ⟨by first | rfl | (simp [errW_none, errW_some] <;> rfl) | (simp only [← hji17]; first | rfl | (simp [errW_none, errW_some] <;> rfl)) | (simp [*, errW_none, errW_some] <;> rfl) | exact ret_ie _ | (simp [*, errW_none, errW_some, bne]; done), by repeat (first | (with_reducible first | exact HB.out | apply below_alloc | apply pw_below_drewN | apply below_drew1) | exact HB.out)⟩
            · rw [if_neg c24] at H
              exact absurd H (by simp)
          · rw [if_neg c19] at H
            exact absurd H (by simp)
        · rw [if_neg c18] at H
          exact absurd H (by simp)

/-! ### millhandref10_Op: function 28 -/
def millhandref10_Op.f (a0_0 : ByteArray) (a0_1 : Bool) (a0_2 : ByteArray) : Option (Bool) := if (a0_0.size : Int) ≥ 1 then (if (a0_0.size : Int) ≤ 64 then (if (a0_2.size : Int) ≤ 512 then (if a0_1 = true then (some (a0_2.toList == ([] : List UInt8))) else (some true)) else (some false)) else (some false)) else (some false)
set_option maxHeartbeats 8000000 in
set_option maxRecDepth 100000 in
theorem millhandref10_Op.calls (a0_0 : ByteArray) (a0_1 : Bool) (a0_2 : ByteArray) (r : Bool) (w : World) (h : millhandref10_Op.f a0_0 a0_1 a0_2 = some r) :
    Calls Try.prog 28 #[.agg #[.string a0_0, .bool a0_1, .string a0_2]] w fun e w' => e = .returned (.bool r) ∧ Below w.heap.size w w' := by
  have hu49 := Try.underlying49
  have HB := Aside0.mk (Below.refl w.heap.size w)
  have H : (if (a0_0.size : Int) ≥ 1 then (if (a0_0.size : Int) ≤ 64 then (if (a0_2.size : Int) ≤ 512 then (if a0_1 = true then (some (a0_2.toList == ([] : List UInt8))) else (some true)) else (some false)) else (some false)) else (some false)) = some r := h
  clear h
  by_cases c2 : (a0_0.size : Int) ≥ 1
  · rw [if_pos c2] at H
    have c2b0 : decide (1 ≤ (a0_0.size : Int)) = true := decide_eq_true c2
    have c2b1 : decide (1 ≤ a0_0.size) = true := decide_eq_true (by omega)
    clear c2
    by_cases c3 : (a0_0.size : Int) ≤ 64
    · rw [if_pos c3] at H
      have c3b0 : decide ((a0_0.size : Int) ≤ 64) = true := decide_eq_true c3
      have c3b1 : decide (a0_0.size ≤ 64) = true := decide_eq_true (by omega)
      clear c3
      by_cases c4 : (a0_2.size : Int) ≤ 512
      · rw [if_pos c4] at H
        have c4b0 : decide ((a0_2.size : Int) ≤ 512) = true := decide_eq_true c4
        have c4b1 : decide (a0_2.size ≤ 512) = true := decide_eq_true (by omega)
        clear c4
        by_cases c5 : a0_1 = true
        · subst c5
          have H1 : (some (a0_2.toList == ([] : List UInt8))) = some r := by rw [if_pos rfl] at H; exact H
          clear H
          have H := H1
          clear H1
          obtain rfl := Option.some.inj H
          go_enter Try.func28, Try.ntmps28
          go_wp2_with (first | ((with_reducible refine gate_dst (N := 1) rfl ?_); (try (refine gate_guard (by rfl) ?_; dsimp only)); refine box_event ?hg (N := 1) ?hd (cs := #[.string a0_0, .bool true, .string a0_2]) (t := 49) ?hr ?_; (case hd => rfl); (case hg => rfl); (case hr => first | (go_simp; done) | (go_simp; rfl)); intro gb294 hg w6 hbox hb; have n0_ := Aside0.mk (below_step (by repeat (first | (with_reducible first | exact HB.out | apply below_alloc | apply pw_below_drewN | apply below_drew1) | exact HB.out)) hb); have n1_ := Aside0.mk (hbox); have n2_ := Aside0.mk ((by rw [hg]; exact (below_size (by repeat (first | (with_reducible first | exact HB.out | apply below_alloc | apply pw_below_drewN | apply below_drew1) | exact HB.out))) : w.heap.size ≤ gb294)); have n3_ := Aside0.mk ((by rw [hg]; exact (below_size (by repeat (first | (with_reducible first | exact HB.out | apply below_alloc | apply pw_below_drewN | apply below_drew1) | exact HB.out))) : w.heap.size ≤ gb294)); clear HB; have HB := n0_; have BK294 := n1_; have GW294 := n2_; have GE294 := n3_; clear n0_ n1_ n2_ n3_; clear hb hbox hg; have hcz7_0 : w6.cell? ⟨gb294, 0, none⟩ = some (.string a0_0) := (blk_cell BK294.out 0).trans rfl; have hcz7_1 : w6.cell? ⟨gb294, 1, none⟩ = some (.bool true) := (blk_cell BK294.out 1).trans rfl; have hcz7_2 : w6.cell? ⟨gb294, 2, none⟩ = some (.string a0_2) := (blk_cell BK294.out 2).trans rfl; have hfz7_0 := blk_frozen BK294.out 0; have hfz7_1 := blk_frozen BK294.out 1; have hfz7_2 := blk_frozen BK294.out 2))
          go_ret
          exact ⟨by first | rfl | (simp [errW_none, errW_some] <;> rfl) | (simp [*, errW_none, errW_some] <;> rfl) | exact ret_ie _ | (simp [*, errW_none, errW_some, bne]; done), by repeat (first | (with_reducible first | exact HB.out | apply below_alloc | apply pw_below_drewN | apply below_drew1 | refine below_set ?_ GE294.out) | exact HB.out)⟩
        · replace c5 := Bool.eq_false_iff.mpr c5
          subst c5
          have H1 : (some true) = some r := by rw [if_neg (show ¬ (false = true) by decide)] at H; exact H
          clear H
          have H := H1
          clear H1
          obtain rfl := Option.some.inj H
          go_enter Try.func28, Try.ntmps28
          go_wp2_with (first | ((with_reducible refine gate_dst (N := 1) rfl ?_); (try (refine gate_guard (by rfl) ?_; dsimp only)); refine box_event ?hg (N := 1) ?hd (cs := #[.string a0_0, .bool false, .string a0_2]) (t := 49) ?hr ?_; (case hd => rfl); (case hg => rfl); (case hr => first | (go_simp; done) | (go_simp; rfl)); intro gb294 hg w8 hbox hb; have n0_ := Aside0.mk (below_step (by repeat (first | (with_reducible first | exact HB.out | apply below_alloc | apply pw_below_drewN | apply below_drew1) | exact HB.out)) hb); have n1_ := Aside0.mk (hbox); have n2_ := Aside0.mk ((by rw [hg]; exact (below_size (by repeat (first | (with_reducible first | exact HB.out | apply below_alloc | apply pw_below_drewN | apply below_drew1) | exact HB.out))) : w.heap.size ≤ gb294)); have n3_ := Aside0.mk ((by rw [hg]; exact (below_size (by repeat (first | (with_reducible first | exact HB.out | apply below_alloc | apply pw_below_drewN | apply below_drew1) | exact HB.out))) : w.heap.size ≤ gb294)); clear HB; have HB := n0_; have BK294 := n1_; have GW294 := n2_; have GE294 := n3_; clear n0_ n1_ n2_ n3_; clear hb hbox hg; have hcz9_0 : w8.cell? ⟨gb294, 0, none⟩ = some (.string a0_0) := (blk_cell BK294.out 0).trans rfl; have hcz9_1 : w8.cell? ⟨gb294, 1, none⟩ = some (.bool false) := (blk_cell BK294.out 1).trans rfl; have hcz9_2 : w8.cell? ⟨gb294, 2, none⟩ = some (.string a0_2) := (blk_cell BK294.out 2).trans rfl; have hfz9_0 := blk_frozen BK294.out 0; have hfz9_1 := blk_frozen BK294.out 1; have hfz9_2 := blk_frozen BK294.out 2))
          go_ret
          exact ⟨by first | rfl | (simp [errW_none, errW_some] <;> rfl) | (simp [*, errW_none, errW_some] <;> rfl) | exact ret_ie _ | (simp [*, errW_none, errW_some, bne]; done), by repeat (first | (with_reducible first | exact HB.out | apply below_alloc | apply pw_below_drewN | apply below_drew1 | refine below_set ?_ GE294.out) | exact HB.out)⟩
      · rw [if_neg c4] at H
        have c4b0 : decide ((a0_2.size : Int) ≤ 512) = false := decide_eq_false c4
        have c4b1 : decide (a0_2.size ≤ 512) = false := decide_eq_false (by omega)
        clear c4
        obtain rfl := Option.some.inj H
        go_enter Try.func28, Try.ntmps28
        go_wp2_with (first | ((with_reducible refine gate_dst (N := 1) rfl ?_); (try (refine gate_guard (by rfl) ?_; dsimp only)); refine box_event ?hg (N := 1) ?hd (cs := #[.string a0_0, .bool a0_1, .string a0_2]) (t := 49) ?hr ?_; (case hd => rfl); (case hg => rfl); (case hr => first | (go_simp; done) | (go_simp; rfl)); intro gb294 hg w10 hbox hb; have n0_ := Aside0.mk (below_step (by repeat (first | (with_reducible first | exact HB.out | apply below_alloc | apply pw_below_drewN | apply below_drew1) | exact HB.out)) hb); have n1_ := Aside0.mk (hbox); have n2_ := Aside0.mk ((by rw [hg]; exact (below_size (by repeat (first | (with_reducible first | exact HB.out | apply below_alloc | apply pw_below_drewN | apply below_drew1) | exact HB.out))) : w.heap.size ≤ gb294)); have n3_ := Aside0.mk ((by rw [hg]; exact (below_size (by repeat (first | (with_reducible first | exact HB.out | apply below_alloc | apply pw_below_drewN | apply below_drew1) | exact HB.out))) : w.heap.size ≤ gb294)); clear HB; have HB := n0_; have BK294 := n1_; have GW294 := n2_; have GE294 := n3_; clear n0_ n1_ n2_ n3_; clear hb hbox hg; have hcz11_0 : w10.cell? ⟨gb294, 0, none⟩ = some (.string a0_0) := (blk_cell BK294.out 0).trans rfl; have hcz11_1 : w10.cell? ⟨gb294, 1, none⟩ = some (.bool a0_1) := (blk_cell BK294.out 1).trans rfl; have hcz11_2 : w10.cell? ⟨gb294, 2, none⟩ = some (.string a0_2) := (blk_cell BK294.out 2).trans rfl; have hfz11_0 := blk_frozen BK294.out 0; have hfz11_1 := blk_frozen BK294.out 1; have hfz11_2 := blk_frozen BK294.out 2))
        go_ret
        exact ⟨by first | rfl | (simp [errW_none, errW_some] <;> rfl) | (simp [*, errW_none, errW_some] <;> rfl) | exact ret_ie _ | (simp [*, errW_none, errW_some, bne]; done), by repeat (first | (with_reducible first | exact HB.out | apply below_alloc | apply pw_below_drewN | apply below_drew1 | refine below_set ?_ GE294.out) | exact HB.out)⟩
    · rw [if_neg c3] at H
      have c3b0 : decide ((a0_0.size : Int) ≤ 64) = false := decide_eq_false c3
      have c3b1 : decide (a0_0.size ≤ 64) = false := decide_eq_false (by omega)
      clear c3
      obtain rfl := Option.some.inj H
      go_enter Try.func28, Try.ntmps28
      go_wp2_with (first | ((with_reducible refine gate_dst (N := 1) rfl ?_); (try (refine gate_guard (by rfl) ?_; dsimp only)); refine box_event ?hg (N := 1) ?hd (cs := #[.string a0_0, .bool a0_1, .string a0_2]) (t := 49) ?hr ?_; (case hd => rfl); (case hg => rfl); (case hr => first | (go_simp; done) | (go_simp; rfl)); intro gb294 hg w12 hbox hb; have n0_ := Aside0.mk (below_step (by repeat (first | (with_reducible first | exact HB.out | apply below_alloc | apply pw_below_drewN | apply below_drew1) | exact HB.out)) hb); have n1_ := Aside0.mk (hbox); have n2_ := Aside0.mk ((by rw [hg]; exact (below_size (by repeat (first | (with_reducible first | exact HB.out | apply below_alloc | apply pw_below_drewN | apply below_drew1) | exact HB.out))) : w.heap.size ≤ gb294)); have n3_ := Aside0.mk ((by rw [hg]; exact (below_size (by repeat (first | (with_reducible first | exact HB.out | apply below_alloc | apply pw_below_drewN | apply below_drew1) | exact HB.out))) : w.heap.size ≤ gb294)); clear HB; have HB := n0_; have BK294 := n1_; have GW294 := n2_; have GE294 := n3_; clear n0_ n1_ n2_ n3_; clear hb hbox hg; have hcz13_0 : w12.cell? ⟨gb294, 0, none⟩ = some (.string a0_0) := (blk_cell BK294.out 0).trans rfl; have hcz13_1 : w12.cell? ⟨gb294, 1, none⟩ = some (.bool a0_1) := (blk_cell BK294.out 1).trans rfl; have hcz13_2 : w12.cell? ⟨gb294, 2, none⟩ = some (.string a0_2) := (blk_cell BK294.out 2).trans rfl; have hfz13_0 := blk_frozen BK294.out 0; have hfz13_1 := blk_frozen BK294.out 1; have hfz13_2 := blk_frozen BK294.out 2))
      go_ret
      exact ⟨by first | rfl | (simp [errW_none, errW_some] <;> rfl) | (simp [*, errW_none, errW_some] <;> rfl) | exact ret_ie _ | (simp [*, errW_none, errW_some, bne]; done), by repeat (first | (with_reducible first | exact HB.out | apply below_alloc | apply pw_below_drewN | apply below_drew1 | refine below_set ?_ GE294.out) | exact HB.out)⟩
  · rw [if_neg c2] at H
    have c2b0 : decide (1 ≤ (a0_0.size : Int)) = false := decide_eq_false c2
    have c2b1 : decide (1 ≤ a0_0.size) = false := decide_eq_false (by omega)
    clear c2
    obtain rfl := Option.some.inj H
    go_enter Try.func28, Try.ntmps28
    go_wp2_with (first | ((with_reducible refine gate_dst (N := 1) rfl ?_); (try (refine gate_guard (by rfl) ?_; dsimp only)); refine box_event ?hg (N := 1) ?hd (cs := #[.string a0_0, .bool a0_1, .string a0_2]) (t := 49) ?hr ?_; (case hd => rfl); (case hg => rfl); (case hr => first | (go_simp; done) | (go_simp; rfl)); intro gb294 hg w14 hbox hb; have n0_ := Aside0.mk (below_step (by repeat (first | (with_reducible first | exact HB.out | apply below_alloc | apply pw_below_drewN | apply below_drew1) | exact HB.out)) hb); have n1_ := Aside0.mk (hbox); have n2_ := Aside0.mk ((by rw [hg]; exact (below_size (by repeat (first | (with_reducible first | exact HB.out | apply below_alloc | apply pw_below_drewN | apply below_drew1) | exact HB.out))) : w.heap.size ≤ gb294)); have n3_ := Aside0.mk ((by rw [hg]; exact (below_size (by repeat (first | (with_reducible first | exact HB.out | apply below_alloc | apply pw_below_drewN | apply below_drew1) | exact HB.out))) : w.heap.size ≤ gb294)); clear HB; have HB := n0_; have BK294 := n1_; have GW294 := n2_; have GE294 := n3_; clear n0_ n1_ n2_ n3_; clear hb hbox hg; have hcz15_0 : w14.cell? ⟨gb294, 0, none⟩ = some (.string a0_0) := (blk_cell BK294.out 0).trans rfl; have hcz15_1 : w14.cell? ⟨gb294, 1, none⟩ = some (.bool a0_1) := (blk_cell BK294.out 1).trans rfl; have hcz15_2 : w14.cell? ⟨gb294, 2, none⟩ = some (.string a0_2) := (blk_cell BK294.out 2).trans rfl; have hfz15_0 := blk_frozen BK294.out 0; have hfz15_1 := blk_frozen BK294.out 1; have hfz15_2 := blk_frozen BK294.out 2))
    go_ret
    exact ⟨by first | rfl | (simp [errW_none, errW_some] <;> rfl) | (simp [*, errW_none, errW_some] <;> rfl) | exact ret_ie _ | (simp [*, errW_none, errW_some, bne]; done), by repeat (first | (with_reducible first | exact HB.out | apply below_alloc | apply pw_below_drewN | apply below_drew1 | refine below_set ?_ GE294.out) | exact HB.out)⟩

/-! ### millhandref10_Check: function 15 -/
mutual
def millhandref10_Check.j0 : Nat → List (S49) → Bool → Option (Int)
  | 0, _, _ => none
  | k + 1, x0, x11 => if x11 = true then (some 4) else (millhandref10_Check.l0 k x0 0)
def millhandref10_Check.l0 : Nat → List (S49) → Int → Option (Int)
  | 0, _, _ => none
  | k + 1, x0, x3 => if x3 < (x0.length : Int) then (if 0 ≤ x3 then ((millhandref10_Op.f ((rd_T49 x0 x3).f0) ((rd_T49 x0 x3).f1) ((rd_T49 x0 x3).f2)).bind fun t296 => (if t296 = true then (millhandref10_Check.l0 k x0 (wrap64 (x3 + 1))) else (some 8))) else (none)) else (some 0)
end
def millhandref10_Check.f (k : Nat) (l0 : List (S49)) : Option (Int) := if (l0.length : Int) < 1 then (millhandref10_Check.j0 k l0 true) else (millhandref10_Check.j0 k l0 (decide ((l0.length : Int) > 64)))
theorem millhandref10_Check.mono_l : ∀ k, (∀ y0 y1, LeO (millhandref10_Check.j0 k y0 y1) (millhandref10_Check.j0 (k + 1) y0 y1)) ∧ (∀ y0 y1, LeO (millhandref10_Check.l0 k y0 y1) (millhandref10_Check.l0 (k + 1) y0 y1))
  | 0 => ⟨fun _ _ r h => by simp [millhandref10_Check.j0] at h, fun _ _ r h => by simp [millhandref10_Check.l0] at h⟩
  | k + 1 => by
    obtain ⟨ih0, ih1⟩ := millhandref10_Check.mono_l k
    refine ⟨?_, ?_⟩
    · intro y0 y1
      unfold millhandref10_Check.j0
      repeat' first
      | (with_reducible exact ih0 _ _)
      | (with_reducible exact ih1 _ _)
      | (with_reducible exact LeO.refl _)
      | (with_reducible exact LeO.none _)
      | (with_reducible refine LeO.ite ?_ ?_)
      | (with_reducible refine LeO.bind ?_ (fun _ => ?_))
      | exact ih0 _ _
      | exact ih1 _ _
      | exact LeO.none _
      | refine LeO.ite ?_ ?_
      | refine LeO.bind ?_ (fun _ => ?_)
    · intro y0 y1
      unfold millhandref10_Check.l0
      repeat' first
      | (with_reducible exact ih0 _ _)
      | (with_reducible exact ih1 _ _)
      | (with_reducible exact LeO.refl _)
      | (with_reducible exact LeO.none _)
      | (with_reducible refine LeO.ite ?_ ?_)
      | (with_reducible refine LeO.bind ?_ (fun _ => ?_))
      | exact ih0 _ _
      | exact ih1 _ _
      | exact LeO.none _
      | refine LeO.ite ?_ ?_
      | refine LeO.bind ?_ (fun _ => ?_)
theorem millhandref10_Check.mono : ∀ a0 k, LeO (millhandref10_Check.f k a0) (millhandref10_Check.f (k + 1) a0) := by
  intro a0 k
  obtain ⟨ih0, ih1⟩ := millhandref10_Check.mono_l k
  unfold millhandref10_Check.f
  repeat' first
      | (with_reducible exact ih0 _ _)
      | (with_reducible exact ih1 _ _)
      | (with_reducible exact LeO.refl _)
      | (with_reducible exact LeO.none _)
      | (with_reducible refine LeO.ite ?_ ?_)
      | (with_reducible refine LeO.bind ?_ (fun _ => ?_))
      | exact ih0 _ _
      | exact ih1 _ _
      | exact LeO.none _
      | refine LeO.ite ?_ ?_
      | refine LeO.bind ?_ (fun _ => ?_)
set_option maxHeartbeats 8000000 in
set_option maxRecDepth 100000 in
theorem millhandref10_Check.calls (k : Nat) (A0 : Option Addr) (c0 : Nat) (l0 : List (S49)) (r : Int) (w : World) (hr0 : Kd.C k49 w A0 l0.length l0) (hc0 : l0.length ≤ c0) (h : millhandref10_Check.f k l0 = some r) :
    Calls Try.prog 15 #[.slice A0 l0.length c0] w fun e w' => e = .returned (.int .i64 r) ∧ Below w.heap.size w w' := by
  have hu49 := Try.underlying49
  have HR0 := Aside0.mk hr0
  have HC0 := Aside0.mk hc0
  clear hr0 hc0
  have HB := Aside0.mk (Below.refl w.heap.size w)
  have H : (if (l0.length : Int) < 1 then (millhandref10_Check.j0 k l0 true) else (millhandref10_Check.j0 k l0 (decide ((l0.length : Int) > 64)))) = some r := h
  clear h
  have HC2 := Aside0.mk H
  clear H
  go_enter Try.func15, Try.ntmps15
  go_upto_region 1 with (fail)
  go_cut [11] (fun v11 wc => ∃ (kq : Nat) (x11_1 : Bool), v11 = .bool x11_1 ∧ Aside0 (millhandref10_Check.j0 kq l0 x11_1 = some r) ∧ Aside0 (kq ≤ k) ∧ Aside0 (Below w.heap.size w wc))
  case first =>
    have H := HC2.out
    clear HC2
    by_cases c3 : (l0.length : Int) < 1
    · rw [if_pos c3] at H
      have c3b0 : decide ((l0.length : Int) < 1) = true := decide_eq_true c3
      have c3b1 : decide (l0.length < 1) = true := decide_eq_true (by omega)
      clear c3
      (first | rw [c3b0] | (simp only [i64_w, i32_w]; rw [c3b0]) | skip)
      have H' := Aside0.mk H
      clear H
      go_wp2
      go_meet
      case rel => exact ⟨_, (true), (by first | rfl | (simp; done) | (simp [*]; done)), H', ⟨by first | omega | exact Nat.le_refl _⟩, ⟨by repeat (first | (with_reducible first | exact HB.out | apply below_alloc | apply pw_below_drewN | apply below_drew1) | exact HB.out)⟩⟩
    · rw [if_neg c3] at H
      have c3b0 : decide ((l0.length : Int) < 1) = false := decide_eq_false c3
      have c3b1 : decide (l0.length < 1) = false := decide_eq_false (by omega)
      clear c3
      (first | rw [c3b0] | (simp only [i64_w, i32_w]; rw [c3b0]) | skip)
      have H' := Aside0.mk H
      clear H
      go_wp2
      go_meet
      case rel => exact ⟨_, (decide ((l0.length : Int) > 64)), (by first | rfl | (simp; done) | (simp [*]; done)), H', ⟨by first | omega | exact Nat.le_refl _⟩, ⟨by repeat (first | (with_reducible first | exact HB.out | apply below_alloc | apply pw_below_drewN | apply below_drew1) | exact HB.out)⟩⟩
  case rest =>
    clear HC2
    try clear c1
    try clear p2
    try clear c3
    try clear c3b0
    try clear c3b1
    obtain ⟨kq, x11_1, rfl, HA, HJ1, HB⟩ := hcut
    cases kq with
    | zero => exact absurd HA.out (by simp [millhandref10_Check.j0])
    | succ kj1 =>
      have H := HA.out
      clear HA
      simp only [millhandref10_Check.j0] at H
      by_cases c4 : x11_1 = true
      · subst c4
        have H1 : (some 4) = some r := by rw [if_pos rfl] at H; exact H
        clear H
        have H := H1
        clear H1
        obtain rfl := Option.some.inj H
        go_wp2
        go_ret
        exact ⟨by first | rfl | (simp [errW_none, errW_some] <;> rfl) | (simp [*, errW_none, errW_some] <;> rfl) | exact ret_ie _ | (simp [*, errW_none, errW_some, bne]; done), by repeat (first | (with_reducible first | exact HB.out | apply below_alloc | apply pw_below_drewN | apply below_drew1) | exact HB.out)⟩
      · replace c4 := Bool.eq_false_iff.mpr c4
        subst c4
        have H1 : (millhandref10_Check.l0 kj1 l0 0) = some r := by rw [if_neg (show ¬ (false = true) by decide)] at H; exact H
        clear H
        have H := H1
        clear H1
        have H' := Aside0.mk H
        clear H
        go_wp2
        go_loopg [3] kj1 (fun kq v3 w' => ∃ (x3_2 : Int), v3 = .int .i64 x3_2 ∧ Aside0 (millhandref10_Check.l0 kq l0 x3_2 = some r) ∧ Aside0 (kq ≤ kj1) ∧ Aside0 (Below w.heap.size w w'))
        case atStart => exact ⟨(0), (by first | rfl | (simp; done) | (simp [*]; done)), H', ⟨Nat.le_refl _⟩, ⟨by repeat (first | (with_reducible first | exact HB.out | apply below_alloc | apply pw_below_drewN | apply below_drew1) | exact HB.out)⟩⟩
        case round =>
          clear H'
          try clear c1
          try clear p2
          try clear c3
          try clear c3b0
          try clear c3b1
          try clear c4
          try clear p2
          obtain ⟨x3_2, rfl, HA, HK2, HB⟩ := hrel
          cases gk with
          | zero => exact absurd HA.out (by simp [millhandref10_Check.l0])
          | succ k2 =>
            have H := HA.out
            clear HA
            simp only [millhandref10_Check.l0] at H
            by_cases c5 : x3_2 < (l0.length : Int)
            · rw [if_pos c5] at H
              have c5b0 : decide (x3_2 < (l0.length : Int)) = true := decide_eq_true c5
              clear c5
              by_cases c6 : 0 ≤ x3_2
              · rw [if_pos c6] at H
                have c6b0 : decide (0 ≤ x3_2) = true := decide_eq_true c6
                clear c6
                replace H := Option.bind_eq_some_iff.mp H
                obtain ⟨t296, A70, H⟩ := H
                replace H : (if t296 = true then (millhandref10_Check.l0 k2 l0 (wrap64 (x3_2 + 1))) else (some 8)) = some r := H
                have A7 := Aside0.mk A70
                clear A70
                by_cases c8 : t296 = true
                · subst c8
                  have H1 : (millhandref10_Check.l0 k2 l0 (wrap64 (x3_2 + 1))) = some r := by rw [if_pos rfl] at H; exact H
                  clear H
                  have H := H1
                  clear H1
                  have H' := Aside0.mk H
                  clear H
                  have p295 : 0 ≤ (x3_2 : Int) := of_decide_eq_true (by first | (with_reducible assumption) | assumption)
                  have q295 : x3_2 < (l0.length : Int) := of_decide_eq_true (by first | (with_reducible assumption) | assumption)
                  obtain ⟨ad295, e295, hx295_0, hx295_1, hx295_2⟩ := at_T49 HR0.out x3_2 p295 q295
                  cases e295
                  replace hx295_0 := (HB.out.cell (World.block_lt_of_cell? w _ hx295_0)).trans hx295_0
                  replace hx295_1 := (HB.out.cell (World.block_lt_of_cell? w _ hx295_1)).trans hx295_1
                  replace hx295_2 := (HB.out.cell (World.block_lt_of_cell? w _ hx295_2)).trans hx295_2
                  replace p295 := eq_true p295
                  replace q295 := eq_true q295
                  go_wp2_with (first | ((with_reducible refine gate_callee (f := 28) rfl ?_); refine goesL_ (some 22) rfl rfl Try.func28 (by kernel_rfl) rfl #[.agg #[.string ((rd_T49 l0 x3_2).f0), .bool ((rd_T49 l0 x3_2).f1), .string ((rd_T49 l0 x3_2).f2)]] rfl (by (try simp only [List.map_toArray, List.map_cons, List.map_nil]); first | done | rfl | (simp only [List.length_drop, List.length_take]; rfl)) ?_; (with_reducible refine (millhandref10_Op.calls ((rd_T49 l0 x3_2).f0) ((rd_T49 l0 x3_2).f1) ((rd_T49 l0 x3_2).f2) true _ A7.out).mono ?_); rintro e w9 ⟨rfl, hb⟩; refine ⟨_, rfl, ?_⟩; have n0_ := Aside0.mk (below_step (by repeat (first | (with_reducible first | exact HB.out | apply below_alloc | apply pw_below_drewN | apply below_drew1) | exact HB.out)) hb); clear HB; have HB := n0_; clear n0_; (try clear hb); (try clear hb2); (try clear hk); (try clear hi)))
                  go_roundg k2
                  case measure => have := HJ1.out; have := HK2.out; omega
                  case rel => exact ⟨(wrap64 (x3_2 + 1)), (by first | rfl | (simp; done) | (simp [*]; done)), H', ⟨by have := HJ1.out; have := HK2.out; omega⟩, ⟨by repeat (first | (with_reducible first | exact HB.out | apply below_alloc | apply pw_below_drewN | apply below_drew1) | exact HB.out)⟩⟩
                · replace c8 := Bool.eq_false_iff.mpr c8
                  subst c8
                  have H1 : (some 8) = some r := by rw [if_neg (show ¬ (false = true) by decide)] at H; exact H
                  clear H
                  have H := H1
                  clear H1
                  obtain rfl := Option.some.inj H
                  have p295 : 0 ≤ (x3_2 : Int) := of_decide_eq_true (by first | (with_reducible assumption) | assumption)
                  have q295 : x3_2 < (l0.length : Int) := of_decide_eq_true (by first | (with_reducible assumption) | assumption)
                  obtain ⟨ad295, e295, hx295_0, hx295_1, hx295_2⟩ := at_T49 HR0.out x3_2 p295 q295
                  cases e295
                  replace hx295_0 := (HB.out.cell (World.block_lt_of_cell? w _ hx295_0)).trans hx295_0
                  replace hx295_1 := (HB.out.cell (World.block_lt_of_cell? w _ hx295_1)).trans hx295_1
                  replace hx295_2 := (HB.out.cell (World.block_lt_of_cell? w _ hx295_2)).trans hx295_2
                  replace p295 := eq_true p295
                  replace q295 := eq_true q295
                  go_wp2_with (first | ((with_reducible refine gate_callee (f := 28) rfl ?_); refine goesL_ (some 22) rfl rfl Try.func28 (by kernel_rfl) rfl #[.agg #[.string ((rd_T49 l0 x3_2).f0), .bool ((rd_T49 l0 x3_2).f1), .string ((rd_T49 l0 x3_2).f2)]] rfl (by (try simp only [List.map_toArray, List.map_cons, List.map_nil]); first | done | rfl | (simp only [List.length_drop, List.length_take]; rfl)) ?_; (with_reducible refine (millhandref10_Op.calls ((rd_T49 l0 x3_2).f0) ((rd_T49 l0 x3_2).f1) ((rd_T49 l0 x3_2).f2) false _ A7.out).mono ?_); rintro e w10 ⟨rfl, hb⟩; refine ⟨_, rfl, ?_⟩; have n0_ := Aside0.mk (below_step (by repeat (first | (with_reducible first | exact HB.out | apply below_alloc | apply pw_below_drewN | apply below_drew1) | exact HB.out)) hb); clear HB; have HB := n0_; clear n0_; (try clear hb); (try clear hb2); (try clear hk); (try clear hi)))
                  go_ret
                  exact ⟨by first | rfl | (simp [errW_none, errW_some] <;> rfl) | (simp [*, errW_none, errW_some] <;> rfl) | exact ret_ie _ | (simp [*, errW_none, errW_some, bne]; done), by repeat (first | (with_reducible first | exact HB.out | apply below_alloc | apply pw_below_drewN | apply below_drew1) | exact HB.out)⟩
              · rw [if_neg c6] at H
                exact absurd H (by simp)
            · rw [if_neg c5] at H
              have c5b0 : decide (x3_2 < (l0.length : Int)) = false := decide_eq_false c5
              clear c5
              obtain rfl := Option.some.inj H
              go_wp2
              go_ret
              exact ⟨by first | rfl | (simp [errW_none, errW_some] <;> rfl) | (simp [*, errW_none, errW_some] <;> rfl) | exact ret_ie _ | (simp [*, errW_none, errW_some, bne]; done), by repeat (first | (with_reducible first | exact HB.out | apply below_alloc | apply pw_below_drewN | apply below_drew1) | exact HB.out)⟩

end Go.Proofs.Ytonbfefceblfgaa.R

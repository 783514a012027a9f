/- Contracts of Go functions and what they come to, over the translation of this seat: made by a program of this session (print2.py). -/
import Derived.Test.YtfkhnjjkkkhigaaQx0
import Derived.Test.YtfkhnjjkkkhigaaQx1
import Derived.Test.YtfkhnjjkkkhigaaQx2
namespace Go.Proofs.Ytfkhnjjkkkhigaa.Q
open Go.RowKit Go.Proofs.Ytfkhnjjkkkhigaa.Ret Go.Proofs.YtfkhnjjkkkhigaaW.PrintWords Go.Proofs.YtfkhnjjkkkhigaaW.PrintLast Go.Proofs.YtfkhnjjkkkhigaaW.PrintMore
attribute [local go_sem] max2_int min2_int max_two min_two max_three min_three max_four min_four   -- for this text's walks alone
set_option linter.unusedVariables false
set_option linter.unusedSimpArgs false

/-! ### millhandlaw01_CodeNumbers: function 3 -/
mutual
def millhandlaw01_CodeNumbers.j0 : Nat → Int → ByteArray → List Int → Bool → Option (Bool)
  | 0, _, _, _, _ => none
  | k + 1, x0, x1, x2, x28 => if x28 = true then (some true) else (if ([] : List Int).length + x2.length < 140737488355328 then ((some (([] : List Int) ++ x2 : List Int)).bind fun y153 => ((code_Read.f k y153).bind fun bt156 => ((millhandref01_Read.f k x2).bind fun bt159 => ((code_Cut.f k y153).bind fun bt162 => ((millhandref01_Cut.f k x2).bind fun bt167 => ((code_Small.f k x0).bind fun t172 => ((millhandref01_Small.f k x0).bind fun t175 => (if (strOfNums t172).toList = (strOfNums t175).toList then ((code_Text.f k x1).bind fun t178 => ((millhandref01_Text.f k x1).bind fun t181 => (if (strOfNums t178).toList = (strOfNums t181).toList then (if bt156.1 = bt159.1 then (if bt156.2.1 = bt159.2.1 then (if bt156.2.2 = bt159.2.2 then (if bt162.1.toList = bt167.1.toList then (if (strOfNums bt162.2.1).toList = (strOfNums bt167.2.1).toList then (millhandlaw01_CodeNumbers.j1 k x2 y153 bt162.2.1 (bt162.2.2 != bt167.2.2)) else (millhandlaw01_CodeNumbers.j1 k x2 y153 bt162.2.1 true)) else (millhandlaw01_CodeNumbers.j1 k x2 y153 bt162.2.1 true)) else (millhandlaw01_CodeNumbers.j1 k x2 y153 bt162.2.1 true)) else (millhandlaw01_CodeNumbers.j1 k x2 y153 bt162.2.1 true)) else (millhandlaw01_CodeNumbers.j1 k x2 y153 bt162.2.1 true)) else (millhandlaw01_CodeNumbers.j1 k x2 y153 bt162.2.1 true)))) else (millhandlaw01_CodeNumbers.j1 k x2 y153 bt162.2.1 true))))))))) else (none))
def millhandlaw01_CodeNumbers.j1 : Nat → List Int → List Int → List Int → Bool → Option (Bool)
  | 0, _, _, _, _ => none
  | k + 1, x2, x7, x15, x102 => if x102 = true then (some false) else (millhandlaw01_CodeNumbers.l0 k x2 x7 x15 0)
def millhandlaw01_CodeNumbers.l0 : Nat → List Int → List Int → List Int → Int → Option (Bool)
  | 0, _, _, _, _ => none
  | k + 1, x2, x7, x15, x20 => if x20 < (x15.length : Int) then (if 0 ≤ x20 then (millhandlaw01_CodeNumbers.l0 k x2 x7 (x15.set (x20 : Int).toNat (((rd x15 x20) + 1) % 256)) (wrap64 (x20 + 1))) else (none)) else (some ((strOfNums x7).toList == (strOfNums x2).toList))
end
def millhandlaw01_CodeNumbers.f (k : Nat) (a0 : Int) (a1 : ByteArray) (l2 : List Int) : Option (Bool) := if (a1.size : Int) > 100000 then (millhandlaw01_CodeNumbers.j0 k a0 a1 l2 true) else (millhandlaw01_CodeNumbers.j0 k a0 a1 l2 (decide ((l2.length : Int) > 100000)))
theorem millhandlaw01_CodeNumbers.mono_l : ∀ k, (∀ y0 y1 y2 y3, LeO (millhandlaw01_CodeNumbers.j0 k y0 y1 y2 y3) (millhandlaw01_CodeNumbers.j0 (k + 1) y0 y1 y2 y3)) ∧ (∀ y0 y1 y2 y3, LeO (millhandlaw01_CodeNumbers.j1 k y0 y1 y2 y3) (millhandlaw01_CodeNumbers.j1 (k + 1) y0 y1 y2 y3)) ∧ (∀ y0 y1 y2 y3, LeO (millhandlaw01_CodeNumbers.l0 k y0 y1 y2 y3) (millhandlaw01_CodeNumbers.l0 (k + 1) y0 y1 y2 y3))
  | 0 => ⟨fun _ _ _ _ r h => by simp [millhandlaw01_CodeNumbers.j0] at h, fun _ _ _ _ r h => by simp [millhandlaw01_CodeNumbers.j1] at h, fun _ _ _ _ r h => by simp [millhandlaw01_CodeNumbers.l0] at h⟩
  | k + 1 => by
    obtain ⟨ih0, ih1, ih2⟩ := millhandlaw01_CodeNumbers.mono_l k
    refine ⟨?_, ?_, ?_⟩
    · intro y0 y1 y2 y3
      unfold millhandlaw01_CodeNumbers.j0
      repeat' first
      | (with_reducible exact ih0 _ _ _ _)
      | (with_reducible exact ih1 _ _ _ _)
      | (with_reducible exact ih2 _ _ _ _)
      | (with_reducible exact code_Cut.mono _ _)
      | (with_reducible exact code_Read.mono _ _)
      | (with_reducible exact code_Small.mono _ _)
      | (with_reducible exact code_Text.mono _ _)
      | (with_reducible exact millhandref01_Cut.mono _ _)
      | (with_reducible exact millhandref01_Read.mono _ _)
      | (with_reducible exact millhandref01_Small.mono _ _)
      | (with_reducible exact millhandref01_Text.mono _ _)
      | (with_reducible exact LeO.refl _)
      | (with_reducible exact LeO.none _)
      | (with_reducible refine LeO.ite ?_ ?_)
      | (with_reducible refine LeO.bind ?_ (fun _ => ?_))
      | exact ih0 _ _ _ _
      | exact ih1 _ _ _ _
      | exact ih2 _ _ _ _
      | exact code_Cut.mono _ _
      | exact code_Read.mono _ _
      | exact code_Small.mono _ _
      | exact code_Text.mono _ _
      | exact millhandref01_Cut.mono _ _
      | exact millhandref01_Read.mono _ _
      | exact millhandref01_Small.mono _ _
      | exact millhandref01_Text.mono _ _
      | exact LeO.none _
      | refine LeO.ite ?_ ?_
      | refine LeO.bind ?_ (fun _ => ?_)
    · intro y0 y1 y2 y3
      unfold millhandlaw01_CodeNumbers.j1
      repeat' first
      | (with_reducible exact ih0 _ _ _ _)
      | (with_reducible exact ih1 _ _ _ _)
      | (with_reducible exact ih2 _ _ _ _)
      | (with_reducible exact code_Cut.mono _ _)
      | (with_reducible exact code_Read.mono _ _)
      | (with_reducible exact code_Small.mono _ _)
      | (with_reducible exact code_Text.mono _ _)
      | (with_reducible exact millhandref01_Cut.mono _ _)
      | (with_reducible exact millhandref01_Read.mono _ _)
      | (with_reducible exact millhandref01_Small.mono _ _)
      | (with_reducible exact millhandref01_Text.mono _ _)
      | (with_reducible exact LeO.refl _)
      | (with_reducible exact LeO.none _)
      | (with_reducible refine LeO.ite ?_ ?_)
      | (with_reducible refine LeO.bind ?_ (fun _ => ?_))
      | exact ih0 _ _ _ _
      | exact ih1 _ _ _ _
      | exact ih2 _ _ _ _
      | exact code_Cut.mono _ _
      | exact code_Read.mono _ _
      | exact code_Small.mono _ _
      | exact code_Text.mono _ _
      | exact millhandref01_Cut.mono _ _
      | exact millhandref01_Read.mono _ _
      | exact millhandref01_Small.mono _ _
      | exact millhandref01_Text.mono _ _
      | exact LeO.none _
      | refine LeO.ite ?_ ?_
      | refine LeO.bind ?_ (fun _ => ?_)
    · intro y0 y1 y2 y3
      unfold millhandlaw01_CodeNumbers.l0
      repeat' first
      | (with_reducible exact ih0 _ _ _ _)
      | (with_reducible exact ih1 _ _ _ _)
      | (with_reducible exact ih2 _ _ _ _)
      | (with_reducible exact code_Cut.mono _ _)
      | (with_reducible exact code_Read.mono _ _)
      | (with_reducible exact code_Small.mono _ _)
      | (with_reducible exact code_Text.mono _ _)
      | (with_reducible exact millhandref01_Cut.mono _ _)
      | (with_reducible exact millhandref01_Read.mono _ _)
      | (with_reducible exact millhandref01_Small.mono _ _)
      | (with_reducible exact millhandref01_Text.mono _ _)
      | (with_reducible exact LeO.refl _)
      | (with_reducible exact LeO.none _)
      | (with_reducible refine LeO.ite ?_ ?_)
      | (with_reducible refine LeO.bind ?_ (fun _ => ?_))
      | exact ih0 _ _ _ _
      | exact ih1 _ _ _ _
      | exact ih2 _ _ _ _
      | exact code_Cut.mono _ _
      | exact code_Read.mono _ _
      | exact code_Small.mono _ _
      | exact code_Text.mono _ _
      | exact millhandref01_Cut.mono _ _
      | exact millhandref01_Read.mono _ _
      | exact millhandref01_Small.mono _ _
      | exact millhandref01_Text.mono _ _
      | exact LeO.none _
      | refine LeO.ite ?_ ?_
      | refine LeO.bind ?_ (fun _ => ?_)
theorem millhandlaw01_CodeNumbers.mono : ∀ a0 a1 a2 k, LeO (millhandlaw01_CodeNumbers.f k a0 a1 a2) (millhandlaw01_CodeNumbers.f (k + 1) a0 a1 a2) := by
  intro a0 a1 a2 k
  obtain ⟨ih0, ih1, ih2⟩ := millhandlaw01_CodeNumbers.mono_l k
  unfold millhandlaw01_CodeNumbers.f
  repeat' first
      | (with_reducible exact ih0 _ _ _ _)
      | (with_reducible exact ih1 _ _ _ _)
      | (with_reducible exact ih2 _ _ _ _)
      | (with_reducible exact code_Cut.mono _ _)
      | (with_reducible exact code_Read.mono _ _)
      | (with_reducible exact code_Small.mono _ _)
      | (with_reducible exact code_Text.mono _ _)
      | (with_reducible exact millhandref01_Cut.mono _ _)
      | (with_reducible exact millhandref01_Read.mono _ _)
      | (with_reducible exact millhandref01_Small.mono _ _)
      | (with_reducible exact millhandref01_Text.mono _ _)
      | (with_reducible exact LeO.refl _)
      | (with_reducible exact LeO.none _)
      | (with_reducible refine LeO.ite ?_ ?_)
      | (with_reducible refine LeO.bind ?_ (fun _ => ?_))
      | exact ih0 _ _ _ _
      | exact ih1 _ _ _ _
      | exact ih2 _ _ _ _
      | exact code_Cut.mono _ _
      | exact code_Read.mono _ _
      | exact code_Small.mono _ _
      | exact code_Text.mono _ _
      | exact millhandref01_Cut.mono _ _
      | exact millhandref01_Read.mono _ _
      | exact millhandref01_Small.mono _ _
      | exact millhandref01_Text.mono _ _
      | exact LeO.none _
      | refine LeO.ite ?_ ?_
      | refine LeO.bind ?_ (fun _ => ?_)
theorem CodeNumbers_j1 (k : Nat) (x2 x7 x15 : List Int) (r : Bool) (h : millhandlaw01_CodeNumbers.j1 k x2 x7 x15 true = some r) : r = false := by
  cases k with
  | zero => simp [millhandlaw01_CodeNumbers.j1] at h
  | succ k =>
    simp only [millhandlaw01_CodeNumbers.j1] at h
    first | exact (Option.some.inj h).symm | (rw [if_pos rfl] at h; exact (Option.some.inj h).symm) | simpa using h.symm
set_option maxHeartbeats 8000000 in
set_option maxRecDepth 100000 in
theorem millhandlaw01_CodeNumbers.calls (k : Nat) (a0 : Int) (a1 : ByteArray) (A2 : Option Addr) (c2 : Nat) (l2 : List Int) (r : Bool) (w : World) (hr2 : Kd.C (Kd.int .u8) w A2 l2.length l2) (hc2 : l2.length ≤ c2) (h : millhandlaw01_CodeNumbers.f k a0 a1 l2 = some r) (hr : r = true) :
    Calls Try.prog 3 #[.int .u64 a0, .string a1, .slice A2 l2.length c2] w fun e w' => e = .returned (.bool r) ∧ Below w.heap.size w w' := by
  have HR2 := Aside0.mk hr2
  have HC2 := Aside0.mk hc2
  clear hr2 hc2
  have HB := Aside0.mk (Below.refl w.heap.size w)
  have H : (if (a1.size : Int) > 100000 then (millhandlaw01_CodeNumbers.j0 k a0 a1 l2 true) else (millhandlaw01_CodeNumbers.j0 k a0 a1 l2 (decide ((l2.length : Int) > 100000)))) = some r := h
  clear h
  have HC4 := Aside0.mk H
  clear H
  go_enter Try.func3, Try.ntmps3
  go_upto_region 1 with (fail)
  go_cut [28] (fun v28 wc => ∃ (kq : Nat) (x28_3 : Bool), v28 = .bool x28_3 ∧ Aside0 (millhandlaw01_CodeNumbers.j0 kq a0 a1 l2 x28_3 = some r) ∧ Aside0 (kq ≤ k) ∧ Aside0 (Below w.heap.size w wc))
  case first =>
    have H := HC4.out
    clear HC4
    by_cases c5 : (a1.size : Int) > 100000
    · rw [if_pos c5] at H
      have c5b0 : decide (100000 < (a1.size : Int)) = true := decide_eq_true c5
      have c5b1 : decide (100000 < a1.size) = true := decide_eq_true (by omega)
      clear c5
      (first | rw [c5b0] | (simp only [i64_w, i32_w]; rw [c5b0]) | skip)
      have H' := Aside0.mk H
      clear H
      go_wp2
      go_meet
      case rel => exact ⟨_, (true), (by first | rfl | (simp; done) | (simp [*]; done)), H', ⟨by first | omega | exact Nat.le_refl _⟩, ⟨by repeat (first | (with_reducible first | exact HB.out | apply below_alloc | apply pw_below_drewN | apply below_drew1) | exact HB.out)⟩⟩
    · rw [if_neg c5] at H
      have c5b0 : decide (100000 < (a1.size : Int)) = false := decide_eq_false c5
      have c5b1 : decide (100000 < a1.size) = false := decide_eq_false (by omega)
      clear c5
      (first | rw [c5b0] | (simp only [i64_w, i32_w]; rw [c5b0]) | skip)
      have H' := Aside0.mk H
      clear H
      go_wp2
      go_meet
      case rel => exact ⟨_, (decide ((l2.length : Int) > 100000)), (by first | rfl | (simp; done) | (simp [*]; done)), H', ⟨by first | omega | exact Nat.le_refl _⟩, ⟨by repeat (first | (with_reducible first | exact HB.out | apply below_alloc | apply pw_below_drewN | apply below_drew1) | exact HB.out)⟩⟩
  case rest =>
    clear HC4
    try clear c2
    try clear p2
    try clear c3
    try clear c5
    try clear c5b0
    try clear c5b1
    obtain ⟨kq, x28_3, rfl, HA, HJ3, HB⟩ := hcut
    cases kq with
    | zero => exact absurd HA.out (by simp [millhandlaw01_CodeNumbers.j0])
    | succ kj3 =>
      have H := HA.out
      clear HA
      simp only [millhandlaw01_CodeNumbers.j0] at H
      by_cases c6 : x28_3 = true
      · subst c6
        have H1 : (some true) = some r := by rw [if_pos rfl] at H; exact H
        clear H
        have H := H1
        clear H1
        obtain rfl := Option.some.inj H
        go_wp2
        go_ret
        exact ⟨by first | rfl | (simp [errW_none, errW_some] <;> rfl) | (simp [*, errW_none, errW_some] <;> rfl) | exact ret_ie _ | (simp [*, errW_none, errW_some, bne]; done), by repeat (first | (with_reducible first | exact HB.out | apply below_alloc | apply pw_below_drewN | apply below_drew1) | exact HB.out)⟩
      · replace c6 := Bool.eq_false_iff.mpr c6
        subst c6
        have H1 : (if ([] : List Int).length + l2.length < 140737488355328 then ((some (([] : List Int) ++ l2 : List Int)).bind fun y153 => ((code_Read.f kj3 y153).bind fun bt156 => ((millhandref01_Read.f kj3 l2).bind fun bt159 => ((code_Cut.f kj3 y153).bind fun bt162 => ((millhandref01_Cut.f kj3 l2).bind fun bt167 => ((code_Small.f kj3 a0).bind fun t172 => ((millhandref01_Small.f kj3 a0).bind fun t175 => (if (strOfNums t172).toList = (strOfNums t175).toList then ((code_Text.f kj3 a1).bind fun t178 => ((millhandref01_Text.f kj3 a1).bind fun t181 => (if (strOfNums t178).toList = (strOfNums t181).toList then (if bt156.1 = bt159.1 then (if bt156.2.1 = bt159.2.1 then (if bt156.2.2 = bt159.2.2 then (if bt162.1.toList = bt167.1.toList then (if (strOfNums bt162.2.1).toList = (strOfNums bt167.2.1).toList then (millhandlaw01_CodeNumbers.j1 kj3 l2 y153 bt162.2.1 (bt162.2.2 != bt167.2.2)) else (millhandlaw01_CodeNumbers.j1 kj3 l2 y153 bt162.2.1 true)) else (millhandlaw01_CodeNumbers.j1 kj3 l2 y153 bt162.2.1 true)) else (millhandlaw01_CodeNumbers.j1 kj3 l2 y153 bt162.2.1 true)) else (millhandlaw01_CodeNumbers.j1 kj3 l2 y153 bt162.2.1 true)) else (millhandlaw01_CodeNumbers.j1 kj3 l2 y153 bt162.2.1 true)) else (millhandlaw01_CodeNumbers.j1 kj3 l2 y153 bt162.2.1 true)))) else (millhandlaw01_CodeNumbers.j1 kj3 l2 y153 bt162.2.1 true))))))))) else (none)) = some r := by rw [if_neg (show ¬ (false = true) by decide)] at H; exact H
        clear H
        have H := H1
        clear H1
        by_cases c7 : ([] : List Int).length + l2.length < 140737488355328
        · rw [if_pos c7] at H
          have LMc7 := Aside0.mk c7
          clear c7
          obtain ⟨y153, hy153⟩ : ∃ y_ : List Int, y_ = (([] : List Int) ++ l2) := ⟨_, rfl⟩
          replace H : ((code_Read.f kj3 y153).bind fun bt156 => ((millhandref01_Read.f kj3 l2).bind fun bt159 => ((code_Cut.f kj3 y153).bind fun bt162 => ((millhandref01_Cut.f kj3 l2).bind fun bt167 => ((code_Small.f kj3 a0).bind fun t172 => ((millhandref01_Small.f kj3 a0).bind fun t175 => (if (strOfNums t172).toList = (strOfNums t175).toList then ((code_Text.f kj3 a1).bind fun t178 => ((millhandref01_Text.f kj3 a1).bind fun t181 => (if (strOfNums t178).toList = (strOfNums t181).toList then (if bt156.1 = bt159.1 then (if bt156.2.1 = bt159.2.1 then (if bt156.2.2 = bt159.2.2 then (if bt162.1.toList = bt167.1.toList then (if (strOfNums bt162.2.1).toList = (strOfNums bt167.2.1).toList then (millhandlaw01_CodeNumbers.j1 kj3 l2 y153 bt162.2.1 (bt162.2.2 != bt167.2.2)) else (millhandlaw01_CodeNumbers.j1 kj3 l2 y153 bt162.2.1 true)) else (millhandlaw01_CodeNumbers.j1 kj3 l2 y153 bt162.2.1 true)) else (millhandlaw01_CodeNumbers.j1 kj3 l2 y153 bt162.2.1 true)) else (millhandlaw01_CodeNumbers.j1 kj3 l2 y153 bt162.2.1 true)) else (millhandlaw01_CodeNumbers.j1 kj3 l2 y153 bt162.2.1 true)) else (millhandlaw01_CodeNumbers.j1 kj3 l2 y153 bt162.2.1 true)))) else (millhandlaw01_CodeNumbers.j1 kj3 l2 y153 bt162.2.1 true)))))))) = some r := by first | (rw [hy153]; with_reducible exact H) | (have H2_ := (Option.bind_some _ _).symm.trans H; rw [hy153]; with_reducible exact H2_) | (have H2_ := (Option.bind_some _ _).symm.trans H; with_reducible exact H2_) | with_reducible exact H | (rw [hy153]; exact H) | exact H
          have Ny153 := Aside0.mk hy153
          clear hy153
          replace H := Option.bind_eq_some_iff.mp H
          obtain ⟨⟨t156, t157, t158⟩, A80, H⟩ := H
          replace H : ((millhandref01_Read.f kj3 l2).bind fun bt159 => ((code_Cut.f kj3 y153).bind fun bt162 => ((millhandref01_Cut.f kj3 l2).bind fun bt167 => ((code_Small.f kj3 a0).bind fun t172 => ((millhandref01_Small.f kj3 a0).bind fun t175 => (if (strOfNums t172).toList = (strOfNums t175).toList then ((code_Text.f kj3 a1).bind fun t178 => ((millhandref01_Text.f kj3 a1).bind fun t181 => (if (strOfNums t178).toList = (strOfNums t181).toList then (if t156 = bt159.1 then (if t157 = bt159.2.1 then (if t158 = bt159.2.2 then (if bt162.1.toList = bt167.1.toList then (if (strOfNums bt162.2.1).toList = (strOfNums bt167.2.1).toList then (millhandlaw01_CodeNumbers.j1 kj3 l2 y153 bt162.2.1 (bt162.2.2 != bt167.2.2)) else (millhandlaw01_CodeNumbers.j1 kj3 l2 y153 bt162.2.1 true)) else (millhandlaw01_CodeNumbers.j1 kj3 l2 y153 bt162.2.1 true)) else (millhandlaw01_CodeNumbers.j1 kj3 l2 y153 bt162.2.1 true)) else (millhandlaw01_CodeNumbers.j1 kj3 l2 y153 bt162.2.1 true)) else (millhandlaw01_CodeNumbers.j1 kj3 l2 y153 bt162.2.1 true)) else (millhandlaw01_CodeNumbers.j1 kj3 l2 y153 bt162.2.1 true)))) else (millhandlaw01_CodeNumbers.j1 kj3 l2 y153 bt162.2.1 true))))))) = some r := H
          have A8 := Aside0.mk A80
          clear A80
          replace H := Option.bind_eq_some_iff.mp H
          obtain ⟨⟨t159, t160, t161⟩, A90, H⟩ := H
          replace H : ((code_Cut.f kj3 y153).bind fun bt162 => ((millhandref01_Cut.f kj3 l2).bind fun bt167 => ((code_Small.f kj3 a0).bind fun t172 => ((millhandref01_Small.f kj3 a0).bind fun t175 => (if (strOfNums t172).toList = (strOfNums t175).toList then ((code_Text.f kj3 a1).bind fun t178 => ((millhandref01_Text.f kj3 a1).bind fun t181 => (if (strOfNums t178).toList = (strOfNums t181).toList then (if t156 = t159 then (if t157 = t160 then (if t158 = t161 then (if bt162.1.toList = bt167.1.toList then (if (strOfNums bt162.2.1).toList = (strOfNums bt167.2.1).toList then (millhandlaw01_CodeNumbers.j1 kj3 l2 y153 bt162.2.1 (bt162.2.2 != bt167.2.2)) else (millhandlaw01_CodeNumbers.j1 kj3 l2 y153 bt162.2.1 true)) else (millhandlaw01_CodeNumbers.j1 kj3 l2 y153 bt162.2.1 true)) else (millhandlaw01_CodeNumbers.j1 kj3 l2 y153 bt162.2.1 true)) else (millhandlaw01_CodeNumbers.j1 kj3 l2 y153 bt162.2.1 true)) else (millhandlaw01_CodeNumbers.j1 kj3 l2 y153 bt162.2.1 true)) else (millhandlaw01_CodeNumbers.j1 kj3 l2 y153 bt162.2.1 true)))) else (millhandlaw01_CodeNumbers.j1 kj3 l2 y153 bt162.2.1 true)))))) = some r := H
          have A9 := Aside0.mk A90
          clear A90
          replace H := Option.bind_eq_some_iff.mp H
          obtain ⟨⟨t162, t163, t164⟩, A100, H⟩ := H
          replace H : ((millhandref01_Cut.f kj3 l2).bind fun bt167 => ((code_Small.f kj3 a0).bind fun t172 => ((millhandref01_Small.f kj3 a0).bind fun t175 => (if (strOfNums t172).toList = (strOfNums t175).toList then ((code_Text.f kj3 a1).bind fun t178 => ((millhandref01_Text.f kj3 a1).bind fun t181 => (if (strOfNums t178).toList = (strOfNums t181).toList then (if t156 = t159 then (if t157 = t160 then (if t158 = t161 then (if t162.toList = bt167.1.toList then (if (strOfNums t163).toList = (strOfNums bt167.2.1).toList then (millhandlaw01_CodeNumbers.j1 kj3 l2 y153 t163 (t164 != bt167.2.2)) else (millhandlaw01_CodeNumbers.j1 kj3 l2 y153 t163 true)) else (millhandlaw01_CodeNumbers.j1 kj3 l2 y153 t163 true)) else (millhandlaw01_CodeNumbers.j1 kj3 l2 y153 t163 true)) else (millhandlaw01_CodeNumbers.j1 kj3 l2 y153 t163 true)) else (millhandlaw01_CodeNumbers.j1 kj3 l2 y153 t163 true)) else (millhandlaw01_CodeNumbers.j1 kj3 l2 y153 t163 true)))) else (millhandlaw01_CodeNumbers.j1 kj3 l2 y153 t163 true))))) = some r := H
          have A10 := Aside0.mk A100
          clear A100
          replace H := Option.bind_eq_some_iff.mp H
          obtain ⟨⟨t167, t168, t169⟩, A110, H⟩ := H
          replace H : ((code_Small.f kj3 a0).bind fun t172 => ((millhandref01_Small.f kj3 a0).bind fun t175 => (if (strOfNums t172).toList = (strOfNums t175).toList then ((code_Text.f kj3 a1).bind fun t178 => ((millhandref01_Text.f kj3 a1).bind fun t181 => (if (strOfNums t178).toList = (strOfNums t181).toList then (if t156 = t159 then (if t157 = t160 then (if t158 = t161 then (if t162.toList = t167.toList then (if (strOfNums t163).toList = (strOfNums t168).toList then (millhandlaw01_CodeNumbers.j1 kj3 l2 y153 t163 (t164 != t169)) else (millhandlaw01_CodeNumbers.j1 kj3 l2 y153 t163 true)) else (millhandlaw01_CodeNumbers.j1 kj3 l2 y153 t163 true)) else (millhandlaw01_CodeNumbers.j1 kj3 l2 y153 t163 true)) else (millhandlaw01_CodeNumbers.j1 kj3 l2 y153 t163 true)) else (millhandlaw01_CodeNumbers.j1 kj3 l2 y153 t163 true)) else (millhandlaw01_CodeNumbers.j1 kj3 l2 y153 t163 true)))) else (millhandlaw01_CodeNumbers.j1 kj3 l2 y153 t163 true)))) = some r := H
          have A11 := Aside0.mk A110
          clear A110
          have HC12 := Aside0.mk H
          clear H
          go_upto_region 8 with (first | ((with_reducible refine gate_builtin (b := .append) (xs := #[.const (.slice none 0 0), .tmp 29]) rfl ?_); (try (refine gate_guard (by rfl) ?_; dsimp only)); at_builtin; refine Kd.R_append_rows (Kd.int .u8) (w0 := w) w.heap.size rfl (.const (.slice none 0 0)) (.tmp 29) 23 5 (.int .u8 0) 1 rfl Try.underlying23 info5 rfl (by decide) (by omega) (.slice none 0 0) ([] : List Int) l2 _ _ _ (fun _ => True) (fun _ => False) rfl rfl ?aO ?aR (fun _ _ h => h) (fun _ h => h.elim) ?aF ?aB ?aS ?aL ?_; (case aR => repeat (first | exact (Kd.C_below HR2.out HB.out) | (with_reducible refine Kd.C_alloc ?_ _) | (with_reducible refine Kd.C_drewN ?_ _) | (with_reducible refine Kd.C_drew ?_))); (case aB => exact (by repeat (first | (with_reducible first | exact HB.out | apply below_alloc | apply pw_below_drewN | apply below_drew1) | exact HB.out))); (case aF => exact (fun _ _ => trivial)); (case aO => exact ((Kd.R_nil _ _ _ _ (fun _ => True)))); (case aS => exact (below_size (by repeat (first | (with_reducible first | exact HB.out | apply below_alloc | apply pw_below_drewN | apply below_drew1) | exact HB.out)))); (case aL => have := LMc7.out; omega); intro v154 w13 ho hb hg hat; rw [← Ny153.out] at ho; have n0_ := Aside0.mk (hb); have n1_ := Aside0.mk (ho); clear HB; have HB := n0_; have HO155 := n1_; clear n0_ n1_; clear ho hb hg hat; obtain ⟨Ao14, co14, eo14⟩ := Kd.R_slice HO155.out; subst eo14) | ((with_reducible refine gate_callee (f := 4) rfl ?_); refine goesL_ (some 33) rfl rfl Try.func4 (by kernel_rfl) rfl #[.slice Ao14 y153.length co14] rfl (by (try simp only [List.map_toArray, List.map_cons, List.map_nil]); first | done | rfl | (simp only [List.length_drop, List.length_take]; rfl)) ?_; (with_reducible refine (code_Read.calls kj3 _ _ y153 t156 t157 t158 _ ?side1 ?side2 A8.out).mono ?_); (case side1 => repeat (first | exact (Kd.R_reads' HO155.out).2.2 | (with_reducible refine Kd.C_alloc ?_ _) | (with_reducible refine Kd.C_drewN ?_ _) | (with_reducible refine Kd.C_drew ?_))); (case side2 => exact (Kd.R_reads' HO155.out).2.1); rintro e w15 ⟨rfl, hb⟩; refine ⟨_, rfl, ?_⟩; have n0_ := Aside0.mk (Kd.R_below (by (with_reducible repeat (first | apply Kd.R_alloc | apply Kd.R_drewN | apply Kd.R_drew)); exact HO155.out) hb); have n1_ := Aside0.mk (below_step (by repeat (first | (with_reducible first | exact HB.out | apply below_alloc | apply pw_below_drewN | apply below_drew1) | exact HB.out)) hb); clear HO155; clear HB; have HO155 := n0_; have HB := n1_; clear n0_ n1_; (try clear hb); (try clear hb2); (try clear hk); (try clear hi)) | ((with_reducible refine gate_callee (f := 5) rfl ?_); refine goesL_ (some 39) rfl rfl Try.func5 (by kernel_rfl) rfl #[.slice A2 l2.length c2] rfl (by (try simp only [List.map_toArray, List.map_cons, List.map_nil]); first | done | rfl | (simp only [List.length_drop, List.length_take]; rfl)) ?_; (with_reducible refine (millhandref01_Read.calls kj3 _ _ l2 t159 t160 t161 _ ?side1 ?side2 A9.out).mono ?_); (case side1 => repeat (first | exact (Kd.C_below HR2.out HB.out) | (with_reducible refine Kd.C_alloc ?_ _) | (with_reducible refine Kd.C_drewN ?_ _) | (with_reducible refine Kd.C_drew ?_))); (case side2 => exact HC2.out); rintro e w16 ⟨rfl, hb⟩; refine ⟨_, rfl, ?_⟩; have n0_ := Aside0.mk (Kd.R_below (by (with_reducible repeat (first | apply Kd.R_alloc | apply Kd.R_drewN | apply Kd.R_drew)); exact HO155.out) hb); have n1_ := Aside0.mk (below_step (by repeat (first | (with_reducible first | exact HB.out | apply below_alloc | apply pw_below_drewN | apply below_drew1) | exact HB.out)) hb); clear HO155; clear HB; have HO155 := n0_; have HB := n1_; clear n0_ n1_; (try clear hb); (try clear hb2); (try clear hk); (try clear hi)) | ((with_reducible refine gate_callee (f := 6) rfl ?_); refine goesL_ (some 45) rfl rfl Try.func6 (by kernel_rfl) rfl #[.slice Ao14 y153.length co14] rfl (by (try simp only [List.map_toArray, List.map_cons, List.map_nil]); first | done | rfl | (simp only [List.length_drop, List.length_take]; rfl)) ?_; (with_reducible refine (code_Cut.calls kj3 _ _ y153 t162 t163 t164 _ ?side1 ?side2 A10.out).mono ?_); (case side1 => repeat (first | exact (Kd.R_reads' HO155.out).2.2 | (with_reducible refine Kd.C_alloc ?_ _) | (with_reducible refine Kd.C_drewN ?_ _) | (with_reducible refine Kd.C_drew ?_))); (case side2 => exact (Kd.R_reads' HO155.out).2.1); rintro e w17 ⟨v165, rfl, ho0, hb⟩; refine ⟨_, rfl, ?_⟩; have n0_ := Aside0.mk (Kd.R_elder' (by (with_reducible repeat (first | apply Kd.R_alloc | apply Kd.R_drewN | apply Kd.R_drew)); exact HO155.out) (Kd.R_base ho0) hb); have n1_ := Aside0.mk (Kd.R_lower (Kd.R_new' ho0 (Kd.R_lt (by (with_reducible repeat (first | apply Kd.R_alloc | apply Kd.R_drewN | apply Kd.R_drew)); exact HO155.out))) (below_size (by repeat (first | (with_reducible first | exact HB.out | apply below_alloc | apply pw_below_drewN | apply below_drew1) | exact HB.out)))); have n2_ := Aside0.mk (below_step (by repeat (first | (with_reducible first | exact HB.out | apply below_alloc | apply pw_below_drewN | apply below_drew1) | exact HB.out)) hb); clear HO155; clear HB; have HO155 := n0_; have HO166 := n1_; have HB := n2_; clear n0_ n1_ n2_; (try clear hb); (try clear hb2); (try clear hk); (try clear hi); (try clear ho0)) | ((with_reducible refine gate_callee (f := 7) rfl ?_); refine goesL_ (some 51) rfl rfl Try.func7 (by kernel_rfl) rfl #[.slice A2 l2.length c2] rfl (by (try simp only [List.map_toArray, List.map_cons, List.map_nil]); first | done | rfl | (simp only [List.length_drop, List.length_take]; rfl)) ?_; (with_reducible refine (millhandref01_Cut.calls kj3 _ _ l2 t167 t168 t169 _ ?side1 ?side2 A11.out).mono ?_); (case side1 => repeat (first | exact (Kd.C_below HR2.out HB.out) | (with_reducible refine Kd.C_alloc ?_ _) | (with_reducible refine Kd.C_drewN ?_ _) | (with_reducible refine Kd.C_drew ?_))); (case side2 => exact HC2.out); rintro e w18 ⟨v170, rfl, ho0, hb⟩; refine ⟨_, rfl, ?_⟩; have n0_ := Aside0.mk (Kd.R_elder' (by (with_reducible repeat (first | apply Kd.R_alloc | apply Kd.R_drewN | apply Kd.R_drew)); exact HO155.out) (Kd.R_base ho0) hb); have n1_ := Aside0.mk (Kd.R_elder' (by (with_reducible repeat (first | apply Kd.R_alloc | apply Kd.R_drewN | apply Kd.R_drew)); exact HO166.out) (Kd.R_base ho0) hb); have n2_ := Aside0.mk (Kd.R_lower (Kd.R_new' (Kd.R_new' ho0 (Kd.R_lt (by (with_reducible repeat (first | apply Kd.R_alloc | apply Kd.R_drewN | apply Kd.R_drew)); exact HO155.out))) (Kd.R_lt (by (with_reducible repeat (first | apply Kd.R_alloc | apply Kd.R_drewN | apply Kd.R_drew)); exact HO166.out))) (below_size (by repeat (first | (with_reducible first | exact HB.out | apply below_alloc | apply pw_below_drewN | apply below_drew1) | exact HB.out)))); have n3_ := Aside0.mk (below_step (by repeat (first | (with_reducible first | exact HB.out | apply below_alloc | apply pw_below_drewN | apply below_drew1) | exact HB.out)) hb); clear HO155; clear HO166; clear HB; have HO155 := n0_; have HO166 := n1_; have HO171 := n2_; have HB := n3_; clear n0_ n1_ n2_ n3_; (try clear hb); (try clear hb2); (try clear hk); (try clear hi); (try clear ho0)))
          (try simp only [Act.put, List.setIfInBounds_toArray, List.set_cons_zero, List.set_cons_succ])
          go_cut [102] (fun v102 wc => ∃ (kq : Nat) (x102_11 : Bool), v102 = .bool x102_11 ∧ Aside0 (millhandlaw01_CodeNumbers.j1 kq l2 y153 t163 x102_11 = some r) ∧ Aside0 (kq ≤ kj3) ∧ Aside0 (Kd.R (Kd.int .u8) 5 wc w.heap.size (fun k_ => some k_ ≠ (v165 : Value).ownBlock) (.slice Ao14 y153.length co14) y153) ∧ Aside0 (Kd.R (Kd.int .u8) 5 wc w.heap.size (fun k_ => some k_ ≠ ((.slice Ao14 y153.length co14) : Value).ownBlock) v165 t163) ∧ Aside0 (Below w.heap.size w wc))
          case first =>
            have H := HC12.out
            clear HC12
            replace H := Option.bind_eq_some_iff.mp H
            obtain ⟨t172, A190, H⟩ := H
            replace H : ((millhandref01_Small.f kj3 a0).bind fun t175 => (if (strOfNums t172).toList = (strOfNums t175).toList then ((code_Text.f kj3 a1).bind fun t178 => ((millhandref01_Text.f kj3 a1).bind fun t181 => (if (strOfNums t178).toList = (strOfNums t181).toList then (if t156 = t159 then (if t157 = t160 then (if t158 = t161 then (if t162.toList = t167.toList then (if (strOfNums t163).toList = (strOfNums t168).toList then (millhandlaw01_CodeNumbers.j1 kj3 l2 y153 t163 (t164 != t169)) else (millhandlaw01_CodeNumbers.j1 kj3 l2 y153 t163 true)) else (millhandlaw01_CodeNumbers.j1 kj3 l2 y153 t163 true)) else (millhandlaw01_CodeNumbers.j1 kj3 l2 y153 t163 true)) else (millhandlaw01_CodeNumbers.j1 kj3 l2 y153 t163 true)) else (millhandlaw01_CodeNumbers.j1 kj3 l2 y153 t163 true)) else (millhandlaw01_CodeNumbers.j1 kj3 l2 y153 t163 true)))) else (millhandlaw01_CodeNumbers.j1 kj3 l2 y153 t163 true))) = some r := H
            have A19 := Aside0.mk A190
            clear A190
            replace H := Option.bind_eq_some_iff.mp H
            obtain ⟨t175, A200, H⟩ := H
            replace H : (if (strOfNums t172).toList = (strOfNums t175).toList then ((code_Text.f kj3 a1).bind fun t178 => ((millhandref01_Text.f kj3 a1).bind fun t181 => (if (strOfNums t178).toList = (strOfNums t181).toList then (if t156 = t159 then (if t157 = t160 then (if t158 = t161 then (if t162.toList = t167.toList then (if (strOfNums t163).toList = (strOfNums t168).toList then (millhandlaw01_CodeNumbers.j1 kj3 l2 y153 t163 (t164 != t169)) else (millhandlaw01_CodeNumbers.j1 kj3 l2 y153 t163 true)) else (millhandlaw01_CodeNumbers.j1 kj3 l2 y153 t163 true)) else (millhandlaw01_CodeNumbers.j1 kj3 l2 y153 t163 true)) else (millhandlaw01_CodeNumbers.j1 kj3 l2 y153 t163 true)) else (millhandlaw01_CodeNumbers.j1 kj3 l2 y153 t163 true)) else (millhandlaw01_CodeNumbers.j1 kj3 l2 y153 t163 true)))) else (millhandlaw01_CodeNumbers.j1 kj3 l2 y153 t163 true)) = some r := H
            have A20 := Aside0.mk A200
            clear A200
            by_cases c21 : (strOfNums t172).toList = (strOfNums t175).toList
            · rw [if_pos c21] at H
              have c21b0 : ((strOfNums t172).toList == (strOfNums t175).toList) = true := beq_iff_eq.mpr c21
              have c21b1 : ((strOfNums t172).toList != (strOfNums t175).toList) = false := bne_eq_false_iff_eq.mpr c21
              clear c21
              (first | rw [c21b0] | (simp only [i64_w, i32_w]; rw [c21b0]) | skip)
              replace H := Option.bind_eq_some_iff.mp H
              obtain ⟨t178, A220, H⟩ := H
              replace H : ((millhandref01_Text.f kj3 a1).bind fun t181 => (if (strOfNums t178).toList = (strOfNums t181).toList then (if t156 = t159 then (if t157 = t160 then (if t158 = t161 then (if t162.toList = t167.toList then (if (strOfNums t163).toList = (strOfNums t168).toList then (millhandlaw01_CodeNumbers.j1 kj3 l2 y153 t163 (t164 != t169)) else (millhandlaw01_CodeNumbers.j1 kj3 l2 y153 t163 true)) else (millhandlaw01_CodeNumbers.j1 kj3 l2 y153 t163 true)) else (millhandlaw01_CodeNumbers.j1 kj3 l2 y153 t163 true)) else (millhandlaw01_CodeNumbers.j1 kj3 l2 y153 t163 true)) else (millhandlaw01_CodeNumbers.j1 kj3 l2 y153 t163 true)) else (millhandlaw01_CodeNumbers.j1 kj3 l2 y153 t163 true))) = some r := H
              have A22 := Aside0.mk A220
              clear A220
              replace H := Option.bind_eq_some_iff.mp H
              obtain ⟨t181, A230, H⟩ := H
              replace H : (if (strOfNums t178).toList = (strOfNums t181).toList then (if t156 = t159 then (if t157 = t160 then (if t158 = t161 then (if t162.toList = t167.toList then (if (strOfNums t163).toList = (strOfNums t168).toList then (millhandlaw01_CodeNumbers.j1 kj3 l2 y153 t163 (t164 != t169)) else (millhandlaw01_CodeNumbers.j1 kj3 l2 y153 t163 true)) else (millhandlaw01_CodeNumbers.j1 kj3 l2 y153 t163 true)) else (millhandlaw01_CodeNumbers.j1 kj3 l2 y153 t163 true)) else (millhandlaw01_CodeNumbers.j1 kj3 l2 y153 t163 true)) else (millhandlaw01_CodeNumbers.j1 kj3 l2 y153 t163 true)) else (millhandlaw01_CodeNumbers.j1 kj3 l2 y153 t163 true)) = some r := H
              have A23 := Aside0.mk A230
              clear A230
              by_cases c24 : (strOfNums t178).toList = (strOfNums t181).toList
              · rw [if_pos c24] at H
                have c24b0 : ((strOfNums t178).toList == (strOfNums t181).toList) = true := beq_iff_eq.mpr c24
                have c24b1 : ((strOfNums t178).toList != (strOfNums t181).toList) = false := bne_eq_false_iff_eq.mpr c24
                clear c24
                by_cases c25 : t156 = t159
                · rw [if_pos c25] at H
                  have c25b0 : (t156 == t159) = true := beq_iff_eq.mpr c25
                  have c25b1 : (t156 != t159) = false := bne_eq_false_iff_eq.mpr c25
                  clear c25
                  by_cases c26 : t157 = t160
                  · rw [if_pos c26] at H
                    have c26b0 : (t157 == t160) = true := beq_iff_eq.mpr c26
                    have c26b1 : (t157 != t160) = false := bne_eq_false_iff_eq.mpr c26
                    clear c26
                    by_cases c27 : t158 = t161
                    · rw [if_pos c27] at H
                      have c27b0 : (t158 == t161) = true := beq_iff_eq.mpr c27
                      have c27b1 : (t158 != t161) = false := bne_eq_false_iff_eq.mpr c27
                      clear c27
                      by_cases c28 : t162.toList = t167.toList
                      · rw [if_pos c28] at H
                        have c28b0 : (t162.toList == t167.toList) = true := beq_iff_eq.mpr c28
                        have c28b1 : (t162.toList != t167.toList) = false := bne_eq_false_iff_eq.mpr c28
                        clear c28
                        by_cases c29 : (strOfNums t163).toList = (strOfNums t168).toList
                        · rw [if_pos c29] at H
                          have c29b0 : ((strOfNums t163).toList == (strOfNums t168).toList) = true := beq_iff_eq.mpr c29
                          have c29b1 : ((strOfNums t163).toList != (strOfNums t168).toList) = false := bne_eq_false_iff_eq.mpr c29
                          clear c29
                          have H' := Aside0.mk H
                          clear H
                          refine start_ (n := 48) (S := fun _ => True) (ds := []) #[false, false, false, false, false, false, false, false, false, false, false, false, false, false, false, false, false, false, false, false, false, false, false, false, false, false, false, false, false, false, false, false, false, false, false, false, false, false, false, false, false, false, false, false, false, false, false, false] (by kernel_rfl) rfl rfl trivial (fun hHeld => ?_)
                          have n0_ := Aside0.mk (below_drew1 HB.out)
                          clear HB
                          have HB := n0_
                          clear n0_
                          have n0_ := Aside0.mk (Kd.R_drew HO155.out)
                          clear HO155
                          have HO155 := n0_
                          clear n0_
                          have n0_ := Aside0.mk (Kd.R_drew HO166.out)
                          clear HO166
                          have HO166 := n0_
                          clear n0_
                          have n0_ := Aside0.mk (Kd.R_drew HO171.out)
                          clear HO171
                          have HO171 := n0_
                          clear n0_
                          refine pure_ (i := 0) (N := some 55) (v := ?_) (a' := ?_) #[true, false, false, false, false, false, false, false, false, false, false, false, false, false, false, false, false, false, false, false, false, false, false, false, false, false, false, false, false, false, false, false, false, false, false, false, false, false, false, false, false, false, false, false, false, false, false, false] rfl rfl (by kernel_rfl) (fun _ _ _ h => h) (Or.inl ⟨by rfl, ?_⟩) ?_ ?_
                          rotate_left
                          · intro w'
                            go_simp
                            with_reducible rfl
                          rotate_left
                          · simp only [Act.put, List.setIfInBounds_toArray, List.set_cons_zero, List.set_cons_succ, i64_w, i32_w]
                            rfl
                          refine pure_ (i := 3) (N := some 58) (v := ?_) (a' := ?_) #[true, false, false, true, false, false, false, false, false, false, false, false, false, false, false, false, false, false, false, false, false, false, false, false, false, false, false, false, false, false, false, false, false, false, false, false, false, false, false, false, false, false, false, false, false, false, false, false] rfl rfl (by kernel_rfl) (fun _ _ _ h => h) (Or.inl ⟨by rfl, ?_⟩) ?_ ?_
                          rotate_left
                          · intro w'
                            go_simp
                            with_reducible rfl
                          rotate_left
                          · simp only [Act.put, List.setIfInBounds_toArray, List.set_cons_zero, List.set_cons_succ, i64_w, i32_w]
                            rfl
                          refine one_ (i := 1) (N := some 56) #[true, true, false, true, false, false, false, false, false, false, false, false, false, false, false, false, false, false, false, false, false, false, false, false, false, false, false, false, false, false, false, false, false, false, false, false, false, false, false, false, false, false, false, false, false, false, false, false] rfl rfl (by kernel_rfl) (by decide) (fun K hK => ?_)
                          refine goes_ Try.func8 (by kernel_rfl) rfl #[.int .u64 a0] (by rfl) rfl rfl (by (try simp only [List.map_toArray, List.map_cons, List.map_nil]); first | done | rfl) ?_
                          (with_reducible refine (code_Small.calls kj3 a0 t172 _ A19.out).mono ?_)
                          rintro e w30 ⟨v173, rfl, ho0, hb⟩
                          refine ⟨_, rfl, ?_⟩
                          have hbk_ := hb
                          have n0_ := Aside0.mk (Kd.R_elder' (by (with_reducible repeat (first | apply Kd.R_alloc | apply Kd.R_drewN | apply Kd.R_drew)); exact HO155.out) (Kd.R_base ho0) hb); have n1_ := Aside0.mk (Kd.R_elder' (by (with_reducible repeat (first | apply Kd.R_alloc | apply Kd.R_drewN | apply Kd.R_drew)); exact HO166.out) (Kd.R_base ho0) hb); have n2_ := Aside0.mk (Kd.R_elder' (by (with_reducible repeat (first | apply Kd.R_alloc | apply Kd.R_drewN | apply Kd.R_drew)); exact HO171.out) (Kd.R_base ho0) hb); have n3_ := Aside0.mk (Kd.R_lower (Kd.R_new' (Kd.R_new' (Kd.R_new' ho0 (Kd.R_lt (by (with_reducible repeat (first | apply Kd.R_alloc | apply Kd.R_drewN | apply Kd.R_drew)); exact HO155.out))) (Kd.R_lt (by (with_reducible repeat (first | apply Kd.R_alloc | apply Kd.R_drewN | apply Kd.R_drew)); exact HO166.out))) (Kd.R_lt (by (with_reducible repeat (first | apply Kd.R_alloc | apply Kd.R_drewN | apply Kd.R_drew)); exact HO171.out))) (below_size (by repeat (first | (with_reducible first | exact HB.out | apply below_alloc | apply pw_below_drewN | apply below_drew1) | exact HB.out)))); have n4_ := Aside0.mk (below_step (by repeat (first | (with_reducible first | exact HB.out | apply below_alloc | apply pw_below_drewN | apply below_drew1) | exact HB.out)) hb); clear HO155; clear HO166; clear HO171; clear HB; have HO155 := n0_; have HO166 := n1_; have HO171 := n2_; have HO174 := n3_; have HB := n4_; clear n0_ n1_ n2_ n3_ n4_; (try clear hb); (try clear hb2); (try clear hk); (try clear hi); (try clear ho0)
                          refine hK.out _ _ trivial (fun _ => ?_)
                          clear hbk_
                          clear hK K
                          refine norm_ (a' := ?_) ?_ ?_
                          rotate_left
                          · show Act.put _ (some 56) _ = _
                            simp only [Act.put, List.setIfInBounds_toArray, List.set_cons_zero, List.set_cons_succ, i64_w, i32_w]
                            rfl
                          refine more_ (S2 := fun w' => Below w30.heap.size w30 w') trivial (Below.refl _ _) ?_
                          have hHeld2 := And.intro trivial (Below.refl w30.heap.size w30)
                          clear hHeld
                          have hHeld := hHeld2
                          clear hHeld2
                          have HX1 := Aside0.mk HO174.out
                          refine take_ (i := 2) (N := some 57) (v := ?_) (a' := ?_) #[true, true, true, true, false, false, false, false, false, false, false, false, false, false, false, false, false, false, false, false, false, false, false, false, false, false, false, false, false, false, false, false, false, false, false, false, false, false, false, false, false, false, false, false, false, false, false, false] rfl rfl (by kernel_rfl) (fun _ _ _ h => h) (Or.inl ⟨by rfl, ?_⟩) hHeld ?_ ?_
                          rotate_left
                          · intro w' hS_
                            have hcv_ := own_string (P := Try.prog) Try.underlying23 Try.underlying5 Try.underlying9 (Kd.own_of_R (Kd.R_below HX1.out hS_.2))
                            go_simp
                            with_reducible rfl
                          rotate_left
                          · simp only [Act.put, List.setIfInBounds_toArray, List.set_cons_zero, List.set_cons_succ, i64_w, i32_w]
                            rfl
                          refine one_ (i := 4) (N := some 59) #[true, true, true, true, true, false, false, false, false, false, false, false, false, false, false, false, false, false, false, false, false, false, false, false, false, false, false, false, false, false, false, false, false, false, false, false, false, false, false, false, false, false, false, false, false, false, false, false] rfl rfl (by kernel_rfl) (by decide) (fun K hK => ?_)
                          refine goes_ Try.func9 (by kernel_rfl) rfl #[.int .u64 a0] (by rfl) rfl rfl (by (try simp only [List.map_toArray, List.map_cons, List.map_nil]); first | done | rfl) ?_
                          (with_reducible refine (millhandref01_Small.calls kj3 a0 t175 _ A20.out).mono ?_)
                          rintro e w32 ⟨v176, rfl, ho0, hb⟩
                          refine ⟨_, rfl, ?_⟩
                          have hbk_ := hb
                          have n0_ := Aside0.mk (Kd.R_elder' (by (with_reducible repeat (first | apply Kd.R_alloc | apply Kd.R_drewN | apply Kd.R_drew)); exact HO155.out) (Kd.R_base ho0) hb); have n1_ := Aside0.mk (Kd.R_elder' (by (with_reducible repeat (first | apply Kd.R_alloc | apply Kd.R_drewN | apply Kd.R_drew)); exact HO166.out) (Kd.R_base ho0) hb); have n2_ := Aside0.mk (Kd.R_elder' (by (with_reducible repeat (first | apply Kd.R_alloc | apply Kd.R_drewN | apply Kd.R_drew)); exact HO171.out) (Kd.R_base ho0) hb); have n3_ := Aside0.mk (Kd.R_elder' (by (with_reducible repeat (first | apply Kd.R_alloc | apply Kd.R_drewN | apply Kd.R_drew)); exact HO174.out) (Kd.R_base ho0) hb); have n4_ := Aside0.mk (Kd.R_lower (Kd.R_new' (Kd.R_new' (Kd.R_new' (Kd.R_new' ho0 (Kd.R_lt (by (with_reducible repeat (first | apply Kd.R_alloc | apply Kd.R_drewN | apply Kd.R_drew)); exact HO155.out))) (Kd.R_lt (by (with_reducible repeat (first | apply Kd.R_alloc | apply Kd.R_drewN | apply Kd.R_drew)); exact HO166.out))) (Kd.R_lt (by (with_reducible repeat (first | apply Kd.R_alloc | apply Kd.R_drewN | apply Kd.R_drew)); exact HO171.out))) (Kd.R_lt (by (with_reducible repeat (first | apply Kd.R_alloc | apply Kd.R_drewN | apply Kd.R_drew)); exact HO174.out))) (below_size (by repeat (first | (with_reducible first | exact HB.out | apply below_alloc | apply pw_below_drewN | apply below_drew1) | exact HB.out)))); have n5_ := Aside0.mk (below_step (by repeat (first | (with_reducible first | exact HB.out | apply below_alloc | apply pw_below_drewN | apply below_drew1) | exact HB.out)) hb); clear HO155; clear HO166; clear HO171; clear HO174; clear HB; have HO155 := n0_; have HO166 := n1_; have HO171 := n2_; have HO174 := n3_; have HO177 := n4_; have HB := n5_; clear n0_ n1_ n2_ n3_ n4_ n5_; (try clear hb); (try clear hb2); (try clear hk); (try clear hi); (try clear ho0)
                          refine hK.out _ _ ⟨trivial, below_step hHeld.2 hbk_⟩ (fun hHeld3 => ?_)
                          clear hHeld
                          have hHeld := hHeld3
                          clear hHeld3
                          clear hbk_
                          clear hK K
                          refine norm_ (a' := ?_) ?_ ?_
                          rotate_left
                          · show Act.put _ (some 59) _ = _
                            simp only [Act.put, List.setIfInBounds_toArray, List.set_cons_zero, List.set_cons_succ, i64_w, i32_w]
                            rfl
                          refine more_ (S2 := fun w' => Below w32.heap.size w32 w') hHeld (Below.refl _ _) ?_
                          have hHeld2 := And.intro hHeld (Below.refl w32.heap.size w32)
                          clear hHeld
                          have hHeld := hHeld2
                          clear hHeld2
                          have HX2 := Aside0.mk HO177.out
                          refine take_ (i := 5) (N := some 60) (v := ?_) (a' := ?_) #[true, true, true, true, true, true, false, false, false, false, false, false, false, false, false, false, false, false, false, false, false, false, false, false, false, false, false, false, false, false, false, false, false, false, false, false, false, false, false, false, false, false, false, false, false, false, false, false] rfl rfl (by kernel_rfl) (fun _ _ _ h => h) (Or.inl ⟨by rfl, ?_⟩) hHeld ?_ ?_
                          rotate_left
                          · intro w' hS_
                            have hcv_ := own_string (P := Try.prog) Try.underlying23 Try.underlying5 Try.underlying9 (Kd.own_of_R (Kd.R_below HX2.out hS_.2))
                            go_simp
                            with_reducible rfl
                          rotate_left
                          · simp only [Act.put, List.setIfInBounds_toArray, List.set_cons_zero, List.set_cons_succ, i64_w, i32_w]
                            rfl
                          refine pure_ (i := 6) (N := some 61) (v := ?_) (a' := ?_) #[true, true, true, true, true, true, true, false, false, false, false, false, false, false, false, false, false, false, false, false, false, false, false, false, false, false, false, false, false, false, false, false, false, false, false, false, false, false, false, false, false, false, false, false, false, false, false, false] rfl rfl (by kernel_rfl) (fun _ _ _ h => h) (Or.inl ⟨by rfl, ?_⟩) ?_ ?_
                          rotate_left
                          · intro w'
                            go_simp
                            with_reducible rfl
                          rotate_left
                          · simp only [Act.put, List.setIfInBounds_toArray, List.set_cons_zero, List.set_cons_succ, i64_w, i32_w]
                            rfl
                          refine pure_ (i := 7) (N := some 62) (v := ?_) (a' := ?_) #[true, true, true, true, true, true, true, true, false, false, false, false, false, false, false, false, false, false, false, false, false, false, false, false, false, false, false, false, false, false, false, false, false, false, false, false, false, false, false, false, false, false, false, false, false, false, false, false] rfl rfl (by kernel_rfl) (fun _ _ _ h => h) (Or.inl ⟨by rfl, ?_⟩) ?_ ?_
                          rotate_left
                          · intro w'
                            go_simp
                            with_reducible rfl
                          rotate_left
                          · simp only [Act.put, List.setIfInBounds_toArray, List.set_cons_zero, List.set_cons_succ, i64_w, i32_w]
                            rfl
                          refine pure_ (i := 8) (N := some 63) (v := ?_) (a' := ?_) #[true, true, true, true, true, true, true, true, true, false, false, false, false, false, false, false, false, false, false, false, false, false, false, false, false, false, false, false, false, false, false, false, false, false, false, false, false, false, false, false, false, false, false, false, false, false, false, false] rfl rfl (by kernel_rfl) (fun _ _ _ h => h) (Or.inl ⟨by rfl, ?_⟩) ?_ ?_
                          rotate_left
                          · intro w'
                            go_simp
                            with_reducible rfl
                          rotate_left
                          · simp only [Act.put, List.setIfInBounds_toArray, List.set_cons_zero, List.set_cons_succ, i64_w, i32_w]
                            rfl
                          refine pure_ (i := 11) (N := some 66) (v := ?_) (a' := ?_) #[true, true, true, true, true, true, true, true, true, false, false, true, false, false, false, false, false, false, false, false, false, false, false, false, false, false, false, false, false, false, false, false, false, false, false, false, false, false, false, false, false, false, false, false, false, false, false, false] rfl rfl (by kernel_rfl) (fun _ _ _ h => h) (Or.inl ⟨by rfl, ?_⟩) ?_ ?_
                          rotate_left
                          · intro w'
                            go_simp
                            with_reducible rfl
                          rotate_left
                          · simp only [Act.put, List.setIfInBounds_toArray, List.set_cons_zero, List.set_cons_succ, i64_w, i32_w]
                            rfl
                          refine one_ (i := 9) (N := some 64) #[true, true, true, true, true, true, true, true, true, true, false, true, false, false, false, false, false, false, false, false, false, false, false, false, false, false, false, false, false, false, false, false, false, false, false, false, false, false, false, false, false, false, false, false, false, false, false, false] rfl rfl (by kernel_rfl) (by decide) (fun K hK => ?_)
                          refine goes_ Try.func10 (by kernel_rfl) rfl #[.string a1] (by rfl) rfl rfl (by (try simp only [List.map_toArray, List.map_cons, List.map_nil]); first | done | rfl) ?_
                          (with_reducible refine (code_Text.calls kj3 a1 t178 _ A22.out).mono ?_)
                          rintro e w34 ⟨v179, rfl, ho0, hb⟩
                          refine ⟨_, rfl, ?_⟩
                          have hbk_ := hb
                          have n0_ := Aside0.mk (Kd.R_elder' (by (with_reducible repeat (first | apply Kd.R_alloc | apply Kd.R_drewN | apply Kd.R_drew)); exact HO155.out) (Kd.R_base ho0) hb); have n1_ := Aside0.mk (Kd.R_elder' (by (with_reducible repeat (first | apply Kd.R_alloc | apply Kd.R_drewN | apply Kd.R_drew)); exact HO166.out) (Kd.R_base ho0) hb); have n2_ := Aside0.mk (Kd.R_elder' (by (with_reducible repeat (first | apply Kd.R_alloc | apply Kd.R_drewN | apply Kd.R_drew)); exact HO171.out) (Kd.R_base ho0) hb); have n3_ := Aside0.mk (Kd.R_elder' (by (with_reducible repeat (first | apply Kd.R_alloc | apply Kd.R_drewN | apply Kd.R_drew)); exact HO174.out) (Kd.R_base ho0) hb); have n4_ := Aside0.mk (Kd.R_elder' (by (with_reducible repeat (first | apply Kd.R_alloc | apply Kd.R_drewN | apply Kd.R_drew)); exact HO177.out) (Kd.R_base ho0) hb); have n5_ := Aside0.mk (Kd.R_lower (Kd.R_new' (Kd.R_new' (Kd.R_new' (Kd.R_new' (Kd.R_new' ho0 (Kd.R_lt (by (with_reducible repeat (first | apply Kd.R_alloc | apply Kd.R_drewN | apply Kd.R_drew)); exact HO155.out))) (Kd.R_lt (by (with_reducible repeat (first | apply Kd.R_alloc | apply Kd.R_drewN | apply Kd.R_drew)); exact HO166.out))) (Kd.R_lt (by (with_reducible repeat (first | apply Kd.R_alloc | apply Kd.R_drewN | apply Kd.R_drew)); exact HO171.out))) (Kd.R_lt (by (with_reducible repeat (first | apply Kd.R_alloc | apply Kd.R_drewN | apply Kd.R_drew)); exact HO174.out))) (Kd.R_lt (by (with_reducible repeat (first | apply Kd.R_alloc | apply Kd.R_drewN | apply Kd.R_drew)); exact HO177.out))) (below_size (by repeat (first | (with_reducible first | exact HB.out | apply below_alloc | apply pw_below_drewN | apply below_drew1) | exact HB.out)))); have n6_ := Aside0.mk (below_step (by repeat (first | (with_reducible first | exact HB.out | apply below_alloc | apply pw_below_drewN | apply below_drew1) | exact HB.out)) hb); clear HO155; clear HO166; clear HO171; clear HO174; clear HO177; clear HB; have HO155 := n0_; have HO166 := n1_; have HO171 := n2_; have HO174 := n3_; have HO177 := n4_; have HO180 := n5_; have HB := n6_; clear n0_ n1_ n2_ n3_ n4_ n5_ n6_; (try clear hb); (try clear hb2); (try clear hk); (try clear hi); (try clear ho0)
                          refine hK.out _ _ ⟨⟨trivial, below_step hHeld.1.2 hbk_⟩, below_step hHeld.2 hbk_⟩ (fun hHeld3 => ?_)
                          clear hHeld
                          have hHeld := hHeld3
                          clear hHeld3
                          clear hbk_
                          clear hK K
                          refine norm_ (a' := ?_) ?_ ?_
                          rotate_left
                          · show Act.put _ (some 64) _ = _
                            simp only [Act.put, List.setIfInBounds_toArray, List.set_cons_zero, List.set_cons_succ, i64_w, i32_w]
                            rfl
                          refine more_ (S2 := fun w' => Below w34.heap.size w34 w') hHeld (Below.refl _ _) ?_
                          have hHeld2 := And.intro hHeld (Below.refl w34.heap.size w34)
                          clear hHeld
                          have hHeld := hHeld2
                          clear hHeld2
                          have HX3 := Aside0.mk HO180.out
                          refine take_ (i := 10) (N := some 65) (v := ?_) (a' := ?_) #[true, true, true, true, true, true, true, true, true, true, true, true, false, false, false, false, false, false, false, false, false, false, false, false, false, false, false, false, false, false, false, false, false, false, false, false, false, false, false, false, false, false, false, false, false, false, false, false] rfl rfl (by kernel_rfl) (fun _ _ _ h => h) (Or.inl ⟨by rfl, ?_⟩) hHeld ?_ ?_
                          rotate_left
                          · intro w' hS_
                            have hcv_ := own_string (P := Try.prog) Try.underlying23 Try.underlying5 Try.underlying9 (Kd.own_of_R (Kd.R_below HX3.out hS_.2))
                            go_simp
                            with_reducible rfl
                          rotate_left
                          · simp only [Act.put, List.setIfInBounds_toArray, List.set_cons_zero, List.set_cons_succ, i64_w, i32_w]
                            rfl
                          refine one_ (i := 12) (N := some 67) #[true, true, true, true, true, true, true, true, true, true, true, true, true, false, false, false, false, false, false, false, false, false, false, false, false, false, false, false, false, false, false, false, false, false, false, false, false, false, false, false, false, false, false, false, false, false, false, false] rfl rfl (by kernel_rfl) (by decide) (fun K hK => ?_)
                          refine goes_ Try.func11 (by kernel_rfl) rfl #[.string a1] (by rfl) rfl rfl (by (try simp only [List.map_toArray, List.map_cons, List.map_nil]); first | done | rfl) ?_
                          (with_reducible refine (millhandref01_Text.calls kj3 a1 t181 _ A23.out).mono ?_)
                          rintro e w36 ⟨v182, rfl, ho0, hb⟩
                          refine ⟨_, rfl, ?_⟩
                          have hbk_ := hb
                          have n0_ := Aside0.mk (Kd.R_elder' (by (with_reducible repeat (first | apply Kd.R_alloc | apply Kd.R_drewN | apply Kd.R_drew)); exact HO155.out) (Kd.R_base ho0) hb); have n1_ := Aside0.mk (Kd.R_elder' (by (with_reducible repeat (first | apply Kd.R_alloc | apply Kd.R_drewN | apply Kd.R_drew)); exact HO166.out) (Kd.R_base ho0) hb); have n2_ := Aside0.mk (Kd.R_elder' (by (with_reducible repeat (first | apply Kd.R_alloc | apply Kd.R_drewN | apply Kd.R_drew)); exact HO171.out) (Kd.R_base ho0) hb); have n3_ := Aside0.mk (Kd.R_elder' (by (with_reducible repeat (first | apply Kd.R_alloc | apply Kd.R_drewN | apply Kd.R_drew)); exact HO174.out) (Kd.R_base ho0) hb); have n4_ := Aside0.mk (Kd.R_elder' (by (with_reducible repeat (first | apply Kd.R_alloc | apply Kd.R_drewN | apply Kd.R_drew)); exact HO177.out) (Kd.R_base ho0) hb); have n5_ := Aside0.mk (Kd.R_elder' (by (with_reducible repeat (first | apply Kd.R_alloc | apply Kd.R_drewN | apply Kd.R_drew)); exact HO180.out) (Kd.R_base ho0) hb); have n6_ := Aside0.mk (Kd.R_lower (Kd.R_new' (Kd.R_new' (Kd.R_new' (Kd.R_new' (Kd.R_new' (Kd.R_new' ho0 (Kd.R_lt (by (with_reducible repeat (first | apply Kd.R_alloc | apply Kd.R_drewN | apply Kd.R_drew)); exact HO155.out))) (Kd.R_lt (by (with_reducible repeat (first | apply Kd.R_alloc | apply Kd.R_drewN | apply Kd.R_drew)); exact HO166.out))) (Kd.R_lt (by (with_reducible repeat (first | apply Kd.R_alloc | apply Kd.R_drewN | apply Kd.R_drew)); exact HO171.out))) (Kd.R_lt (by (with_reducible repeat (first | apply Kd.R_alloc | apply Kd.R_drewN | apply Kd.R_drew)); exact HO174.out))) (Kd.R_lt (by (with_reducible repeat (first | apply Kd.R_alloc | apply Kd.R_drewN | apply Kd.R_drew)); exact HO177.out))) (Kd.R_lt (by (with_reducible repeat (first | apply Kd.R_alloc | apply Kd.R_drewN | apply Kd.R_drew)); exact HO180.out))) (below_size (by repeat (first | (with_reducible first | exact HB.out | apply below_alloc | apply pw_below_drewN | apply below_drew1) | exact HB.out)))); have n7_ := Aside0.mk (below_step (by repeat (first | (with_reducible first | exact HB.out | apply below_alloc | apply pw_below_drewN | apply below_drew1) | exact HB.out)) hb); clear HO155; clear HO166; clear HO171; clear HO174; clear HO177; clear HO180; clear HB; have HO155 := n0_; have HO166 := n1_; have HO171 := n2_; have HO174 := n3_; have HO177 := n4_; have HO180 := n5_; have HO183 := n6_; have HB := n7_; clear n0_ n1_ n2_ n3_ n4_ n5_ n6_ n7_; (try clear hb); (try clear hb2); (try clear hk); (try clear hi); (try clear ho0)
                          refine hK.out _ _ ⟨⟨⟨trivial, below_step hHeld.1.1.2 hbk_⟩, below_step hHeld.1.2 hbk_⟩, below_step hHeld.2 hbk_⟩ (fun hHeld3 => ?_)
                          clear hHeld
                          have hHeld := hHeld3
                          clear hHeld3
                          clear hbk_
                          clear hK K
                          refine norm_ (a' := ?_) ?_ ?_
                          rotate_left
                          · show Act.put _ (some 67) _ = _
                            simp only [Act.put, List.setIfInBounds_toArray, List.set_cons_zero, List.set_cons_succ, i64_w, i32_w]
                            rfl
                          refine more_ (S2 := fun w' => Below w36.heap.size w36 w') hHeld (Below.refl _ _) ?_
                          have hHeld2 := And.intro hHeld (Below.refl w36.heap.size w36)
                          clear hHeld
                          have hHeld := hHeld2
                          clear hHeld2
                          have HX4 := Aside0.mk HO183.out
                          have HX5 := Aside0.mk HO166.out
                          have HX6 := Aside0.mk HO171.out
                          refine take_ (i := 13) (N := some 68) (v := ?_) (a' := ?_) #[true, true, true, true, true, true, true, true, true, true, true, true, true, true, false, false, false, false, false, false, false, false, false, false, false, false, false, false, false, false, false, false, false, false, false, false, false, false, false, false, false, false, false, false, false, false, false, false] rfl rfl (by kernel_rfl) (fun _ _ _ h => h) (Or.inl ⟨by rfl, ?_⟩) hHeld ?_ ?_
                          rotate_left
                          · intro w' hS_
                            have hcv_ := own_string (P := Try.prog) Try.underlying23 Try.underlying5 Try.underlying9 (Kd.own_of_R (Kd.R_below HX4.out hS_.2))
                            go_simp
                            with_reducible rfl
                          rotate_left
                          · simp only [Act.put, List.setIfInBounds_toArray, List.set_cons_zero, List.set_cons_succ, i64_w, i32_w]
                            rfl
                          refine pure_ (i := 14) (N := some 69) (v := ?_) (a' := ?_) #[true, true, true, true, true, true, true, true, true, true, true, true, true, true, true, false, false, false, false, false, false, false, false, false, false, false, false, false, false, false, false, false, false, false, false, false, false, false, false, false, false, false, false, false, false, false, false, false] rfl rfl (by kernel_rfl) (fun _ _ _ h => h) (Or.inl ⟨by rfl, ?_⟩) ?_ ?_
                          rotate_left
                          · intro w'
                            go_simp
                            with_reducible rfl
                          rotate_left
                          · simp only [Act.put, List.setIfInBounds_toArray, List.set_cons_zero, List.set_cons_succ, i64_w, i32_w]
                            rfl
                          refine pure_ (i := 15) (N := some 70) (v := ?_) (a' := ?_) #[true, true, true, true, true, true, true, true, true, true, true, true, true, true, true, true, false, false, false, false, false, false, false, false, false, false, false, false, false, false, false, false, false, false, false, false, false, false, false, false, false, false, false, false, false, false, false, false] rfl rfl (by kernel_rfl) (fun _ _ _ h => h) (Or.inl ⟨by rfl, ?_⟩) ?_ ?_
                          rotate_left
                          · intro w'
                            go_simp
                            with_reducible rfl
                          rotate_left
                          · simp only [Act.put, List.setIfInBounds_toArray, List.set_cons_zero, List.set_cons_succ, i64_w, i32_w]
                            rfl
                          refine pure_ (i := 16) (N := some 71) (v := ?_) (a' := ?_) #[true, true, true, true, true, true, true, true, true, true, true, true, true, true, true, true, true, false, false, false, false, false, false, false, false, false, false, false, false, false, false, false, false, false, false, false, false, false, false, false, false, false, false, false, false, false, false, false] rfl rfl (by kernel_rfl) (fun _ _ _ h => h) (Or.inl ⟨by rfl, ?_⟩) ?_ ?_
                          rotate_left
                          · intro w'
                            go_simp
                            with_reducible rfl
                          rotate_left
                          · simp only [Act.put, List.setIfInBounds_toArray, List.set_cons_zero, List.set_cons_succ, i64_w, i32_w]
                            rfl
                          refine pure_ (i := 17) (N := some 72) (v := ?_) (a' := ?_) #[true, true, true, true, true, true, true, true, true, true, true, true, true, true, true, true, true, true, false, false, false, false, false, false, false, false, false, false, false, false, false, false, false, false, false, false, false, false, false, false, false, false, false, false, false, false, false, false] rfl rfl (by kernel_rfl) (fun _ _ _ h => h) (Or.inl ⟨by rfl, ?_⟩) ?_ ?_
                          rotate_left
                          · intro w'
                            go_simp
                            with_reducible rfl
                          rotate_left
                          · simp only [Act.put, List.setIfInBounds_toArray, List.set_cons_zero, List.set_cons_succ, i64_w, i32_w]
                            rfl
                          refine pure_ (i := 18) (N := some 73) (v := ?_) (a' := ?_) #[true, true, true, true, true, true, true, true, true, true, true, true, true, true, true, true, true, true, true, false, false, false, false, false, false, false, false, false, false, false, false, false, false, false, false, false, false, false, false, false, false, false, false, false, false, false, false, false] rfl rfl (by kernel_rfl) (fun _ _ _ h => h) (Or.inl ⟨by rfl, ?_⟩) ?_ ?_
                          rotate_left
                          · intro w'
                            go_simp
                            with_reducible rfl
                          rotate_left
                          · simp only [Act.put, List.setIfInBounds_toArray, List.set_cons_zero, List.set_cons_succ, i64_w, i32_w]
                            rfl
                          refine pure_ (i := 19) (N := some 74) (v := ?_) (a' := ?_) #[true, true, true, true, true, true, true, true, true, true, true, true, true, true, true, true, true, true, true, true, false, false, false, false, false, false, false, false, false, false, false, false, false, false, false, false, false, false, false, false, false, false, false, false, false, false, false, false] rfl rfl (by kernel_rfl) (fun _ _ _ h => h) (Or.inl ⟨by rfl, ?_⟩) ?_ ?_
                          rotate_left
                          · intro w'
                            go_simp
                            with_reducible rfl
                          rotate_left
                          · simp only [Act.put, List.setIfInBounds_toArray, List.set_cons_zero, List.set_cons_succ, i64_w, i32_w]
                            rfl
                          refine pure_ (i := 20) (N := some 75) (v := ?_) (a' := ?_) #[true, true, true, true, true, true, true, true, true, true, true, true, true, true, true, true, true, true, true, true, true, false, false, false, false, false, false, false, false, false, false, false, false, false, false, false, false, false, false, false, false, false, false, false, false, false, false, false] rfl rfl (by kernel_rfl) (fun _ _ _ h => h) (Or.inl ⟨by rfl, ?_⟩) ?_ ?_
                          rotate_left
                          · intro w'
                            go_simp
                            with_reducible rfl
                          rotate_left
                          · simp only [Act.put, List.setIfInBounds_toArray, List.set_cons_zero, List.set_cons_succ, i64_w, i32_w]
                            rfl
                          refine pure_ (i := 21) (N := some 76) (v := ?_) (a' := ?_) #[true, true, true, true, true, true, true, true, true, true, true, true, true, true, true, true, true, true, true, true, true, true, false, false, false, false, false, false, false, false, false, false, false, false, false, false, false, false, false, false, false, false, false, false, false, false, false, false] rfl rfl (by kernel_rfl) (fun _ _ _ h => h) (Or.inl ⟨by rfl, ?_⟩) ?_ ?_
                          rotate_left
                          · intro w'
                            go_simp
                            with_reducible rfl
                          rotate_left
                          · simp only [Act.put, List.setIfInBounds_toArray, List.set_cons_zero, List.set_cons_succ, i64_w, i32_w]
                            rfl
                          refine pure_ (i := 22) (N := some 77) (v := ?_) (a' := ?_) #[true, true, true, true, true, true, true, true, true, true, true, true, true, true, true, true, true, true, true, true, true, true, true, false, false, false, false, false, false, false, false, false, false, false, false, false, false, false, false, false, false, false, false, false, false, false, false, false] rfl rfl (by kernel_rfl) (fun _ _ _ h => h) (Or.inl ⟨by rfl, ?_⟩) ?_ ?_
                          rotate_left
                          · intro w'
                            go_simp
                            with_reducible rfl
                          rotate_left
                          · simp only [Act.put, List.setIfInBounds_toArray, List.set_cons_zero, List.set_cons_succ, i64_w, i32_w]
                            rfl
                          refine pure_ (i := 23) (N := some 78) (v := ?_) (a' := ?_) #[true, true, true, true, true, true, true, true, true, true, true, true, true, true, true, true, true, true, true, true, true, true, true, true, false, false, false, false, false, false, false, false, false, false, false, false, false, false, false, false, false, false, false, false, false, false, false, false] rfl rfl (by kernel_rfl) (fun _ _ _ h => h) (Or.inl ⟨by rfl, ?_⟩) ?_ ?_
                          rotate_left
                          · intro w'
                            go_simp
                            with_reducible rfl
                          rotate_left
                          · simp only [Act.put, List.setIfInBounds_toArray, List.set_cons_zero, List.set_cons_succ, i64_w, i32_w]
                            rfl
                          refine pure_ (i := 24) (N := some 79) (v := ?_) (a' := ?_) #[true, true, true, true, true, true, true, true, true, true, true, true, true, true, true, true, true, true, true, true, true, true, true, true, true, false, false, false, false, false, false, false, false, false, false, false, false, false, false, false, false, false, false, false, false, false, false, false] rfl rfl (by kernel_rfl) (fun _ _ _ h => h) (Or.inl ⟨by rfl, ?_⟩) ?_ ?_
                          rotate_left
                          · intro w'
                            go_simp
                            with_reducible rfl
                          rotate_left
                          · simp only [Act.put, List.setIfInBounds_toArray, List.set_cons_zero, List.set_cons_succ, i64_w, i32_w]
                            rfl
                          refine pure_ (i := 25) (N := some 80) (v := ?_) (a' := ?_) #[true, true, true, true, true, true, true, true, true, true, true, true, true, true, true, true, true, true, true, true, true, true, true, true, true, true, false, false, false, false, false, false, false, false, false, false, false, false, false, false, false, false, false, false, false, false, false, false] rfl rfl (by kernel_rfl) (fun _ _ _ h => h) (Or.inl ⟨by rfl, ?_⟩) ?_ ?_
                          rotate_left
                          · intro w'
                            go_simp
                            with_reducible rfl
                          rotate_left
                          · simp only [Act.put, List.setIfInBounds_toArray, List.set_cons_zero, List.set_cons_succ, i64_w, i32_w]
                            rfl
                          refine pure_ (i := 26) (N := some 81) (v := ?_) (a' := ?_) #[true, true, true, true, true, true, true, true, true, true, true, true, true, true, true, true, true, true, true, true, true, true, true, true, true, true, true, false, false, false, false, false, false, false, false, false, false, false, false, false, false, false, false, false, false, false, false, false] rfl rfl (by kernel_rfl) (fun _ _ _ h => h) (Or.inl ⟨by rfl, ?_⟩) ?_ ?_
                          rotate_left
                          · intro w'
                            go_simp
                            with_reducible rfl
                          rotate_left
                          · simp only [Act.put, List.setIfInBounds_toArray, List.set_cons_zero, List.set_cons_succ, i64_w, i32_w]
                            rfl
                          refine pure_ (i := 27) (N := some 82) (v := ?_) (a' := ?_) #[true, true, true, true, true, true, true, true, true, true, true, true, true, true, true, true, true, true, true, true, true, true, true, true, true, true, true, true, false, false, false, false, false, false, false, false, false, false, false, false, false, false, false, false, false, false, false, false] rfl rfl (by kernel_rfl) (fun _ _ _ h => h) (Or.inl ⟨by rfl, ?_⟩) ?_ ?_
                          rotate_left
                          · intro w'
                            go_simp
                            with_reducible rfl
                          rotate_left
                          · simp only [Act.put, List.setIfInBounds_toArray, List.set_cons_zero, List.set_cons_succ, i64_w, i32_w]
                            rfl
                          refine pure_ (i := 28) (N := some 83) (v := ?_) (a' := ?_) #[true, true, true, true, true, true, true, true, true, true, true, true, true, true, true, true, true, true, true, true, true, true, true, true, true, true, true, true, true, false, false, false, false, false, false, false, false, false, false, false, false, false, false, false, false, false, false, false] rfl rfl (by kernel_rfl) (fun _ _ _ h => h) (Or.inl ⟨by rfl, ?_⟩) ?_ ?_
                          rotate_left
                          · intro w'
                            go_simp
                            with_reducible rfl
                          rotate_left
                          · simp only [Act.put, List.setIfInBounds_toArray, List.set_cons_zero, List.set_cons_succ, i64_w, i32_w]
                            rfl
                          refine pure_ (i := 29) (N := some 84) (v := ?_) (a' := ?_) #[true, true, true, true, true, true, true, true, true, true, true, true, true, true, true, true, true, true, true, true, true, true, true, true, true, true, true, true, true, true, false, false, false, false, false, false, false, false, false, false, false, false, false, false, false, false, false, false] rfl rfl (by kernel_rfl) (fun _ _ _ h => h) (Or.inl ⟨by rfl, ?_⟩) ?_ ?_
                          rotate_left
                          · intro w'
                            go_simp
                            with_reducible rfl
                          rotate_left
                          · simp only [Act.put, List.setIfInBounds_toArray, List.set_cons_zero, List.set_cons_succ, i64_w, i32_w]
                            rfl
                          refine pure_ (i := 30) (N := some 85) (v := ?_) (a' := ?_) #[true, true, true, true, true, true, true, true, true, true, true, true, true, true, true, true, true, true, true, true, true, true, true, true, true, true, true, true, true, true, true, false, false, false, false, false, false, false, false, false, false, false, false, false, false, false, false, false] rfl rfl (by kernel_rfl) (fun _ _ _ h => h) (Or.inl ⟨by rfl, ?_⟩) ?_ ?_
                          rotate_left
                          · intro w'
                            go_simp
                            with_reducible rfl
                          rotate_left
                          · simp only [Act.put, List.setIfInBounds_toArray, List.set_cons_zero, List.set_cons_succ, i64_w, i32_w]
                            rfl
                          refine pure_ (i := 31) (N := some 86) (v := ?_) (a' := ?_) #[true, true, true, true, true, true, true, true, true, true, true, true, true, true, true, true, true, true, true, true, true, true, true, true, true, true, true, true, true, true, true, true, false, false, false, false, false, false, false, false, false, false, false, false, false, false, false, false] rfl rfl (by kernel_rfl) (fun _ _ _ h => h) (Or.inl ⟨by rfl, ?_⟩) ?_ ?_
                          rotate_left
                          · intro w'
                            go_simp
                            with_reducible rfl
                          rotate_left
                          · simp only [Act.put, List.setIfInBounds_toArray, List.set_cons_zero, List.set_cons_succ, i64_w, i32_w]
                            rfl
                          refine pure_ (i := 32) (N := some 87) (v := ?_) (a' := ?_) #[true, true, true, true, true, true, true, true, true, true, true, true, true, true, true, true, true, true, true, true, true, true, true, true, true, true, true, true, true, true, true, true, true, false, false, false, false, false, false, false, false, false, false, false, false, false, false, false] rfl rfl (by kernel_rfl) (fun _ _ _ h => h) (Or.inl ⟨by rfl, ?_⟩) ?_ ?_
                          rotate_left
                          · intro w'
                            go_simp
                            with_reducible rfl
                          rotate_left
                          · simp only [Act.put, List.setIfInBounds_toArray, List.set_cons_zero, List.set_cons_succ, i64_w, i32_w]
                            rfl
                          refine pure_ (i := 33) (N := some 88) (v := ?_) (a' := ?_) #[true, true, true, true, true, true, true, true, true, true, true, true, true, true, true, true, true, true, true, true, true, true, true, true, true, true, true, true, true, true, true, true, true, true, false, false, false, false, false, false, false, false, false, false, false, false, false, false] rfl rfl (by kernel_rfl) (fun _ _ _ h => h) (Or.inl ⟨by rfl, ?_⟩) ?_ ?_
                          rotate_left
                          · intro w'
                            go_simp
                            with_reducible rfl
                          rotate_left
                          · simp only [Act.put, List.setIfInBounds_toArray, List.set_cons_zero, List.set_cons_succ, i64_w, i32_w]
                            rfl
                          refine pure_ (i := 34) (N := some 89) (v := ?_) (a' := ?_) #[true, true, true, true, true, true, true, true, true, true, true, true, true, true, true, true, true, true, true, true, true, true, true, true, true, true, true, true, true, true, true, true, true, true, true, false, false, false, false, false, false, false, false, false, false, false, false, false] rfl rfl (by kernel_rfl) (fun _ _ _ h => h) (Or.inl ⟨by rfl, ?_⟩) ?_ ?_
                          rotate_left
                          · intro w'
                            go_simp
                            with_reducible rfl
                          rotate_left
                          · simp only [Act.put, List.setIfInBounds_toArray, List.set_cons_zero, List.set_cons_succ, i64_w, i32_w]
                            rfl
                          refine pure_ (i := 35) (N := some 90) (v := ?_) (a' := ?_) #[true, true, true, true, true, true, true, true, true, true, true, true, true, true, true, true, true, true, true, true, true, true, true, true, true, true, true, true, true, true, true, true, true, true, true, true, false, false, false, false, false, false, false, false, false, false, false, false] rfl rfl (by kernel_rfl) (fun _ _ _ h => h) (Or.inl ⟨by rfl, ?_⟩) ?_ ?_
                          rotate_left
                          · intro w'
                            go_simp
                            with_reducible rfl
                          rotate_left
                          · simp only [Act.put, List.setIfInBounds_toArray, List.set_cons_zero, List.set_cons_succ, i64_w, i32_w]
                            rfl
                          refine pure_ (i := 36) (N := some 91) (v := ?_) (a' := ?_) #[true, true, true, true, true, true, true, true, true, true, true, true, true, true, true, true, true, true, true, true, true, true, true, true, true, true, true, true, true, true, true, true, true, true, true, true, true, false, false, false, false, false, false, false, false, false, false, false] rfl rfl (by kernel_rfl) (fun _ _ _ h => h) (Or.inl ⟨by rfl, ?_⟩) ?_ ?_
                          rotate_left
                          · intro w'
                            go_simp
                            with_reducible rfl
                          rotate_left
                          · simp only [Act.put, List.setIfInBounds_toArray, List.set_cons_zero, List.set_cons_succ, i64_w, i32_w]
                            rfl
                          refine pure_ (i := 37) (N := some 92) (v := ?_) (a' := ?_) #[true, true, true, true, true, true, true, true, true, true, true, true, true, true, true, true, true, true, true, true, true, true, true, true, true, true, true, true, true, true, true, true, true, true, true, true, true, true, false, false, false, false, false, false, false, false, false, false] rfl rfl (by kernel_rfl) (fun _ _ _ h => h) (Or.inl ⟨by rfl, ?_⟩) ?_ ?_
                          rotate_left
                          · intro w'
                            go_simp
                            with_reducible rfl
                          rotate_left
                          · simp only [Act.put, List.setIfInBounds_toArray, List.set_cons_zero, List.set_cons_succ, i64_w, i32_w]
                            rfl
                          refine pure_ (i := 39) (N := some 94) (v := ?_) (a' := ?_) #[true, true, true, true, true, true, true, true, true, true, true, true, true, true, true, true, true, true, true, true, true, true, true, true, true, true, true, true, true, true, true, true, true, true, true, true, true, true, false, true, false, false, false, false, false, false, false, false] rfl rfl (by kernel_rfl) (fun _ _ _ h => h) (Or.inl ⟨by rfl, ?_⟩) ?_ ?_
                          rotate_left
                          · intro w'
                            go_simp
                            with_reducible rfl
                          rotate_left
                          · simp only [Act.put, List.setIfInBounds_toArray, List.set_cons_zero, List.set_cons_succ, i64_w, i32_w]
                            rfl
                          refine take_ (i := 38) (N := some 93) (v := ?_) (a' := ?_) #[true, true, true, true, true, true, true, true, true, true, true, true, true, true, true, true, true, true, true, true, true, true, true, true, true, true, true, true, true, true, true, true, true, true, true, true, true, true, true, true, false, false, false, false, false, false, false, false] rfl rfl (by kernel_rfl) (fun _ _ _ h => h) (Or.inl ⟨by rfl, ?_⟩) hHeld ?_ ?_
                          rotate_left
                          · intro w' hS_
                            have hcv_ := own_string (P := Try.prog) Try.underlying23 Try.underlying5 Try.underlying9 (Kd.own_of_R (Kd.R_below HX5.out hS_.2))
                            go_simp
                            with_reducible rfl
                          rotate_left
                          · simp only [Act.put, List.setIfInBounds_toArray, List.set_cons_zero, List.set_cons_succ, i64_w, i32_w]
                            rfl
                          refine take_ (i := 40) (N := some 95) (v := ?_) (a' := ?_) #[true, true, true, true, true, true, true, true, true, true, true, true, true, true, true, true, true, true, true, true, true, true, true, true, true, true, true, true, true, true, true, true, true, true, true, true, true, true, true, true, true, false, false, false, false, false, false, false] rfl rfl (by kernel_rfl) (fun _ _ _ h => h) (Or.inl ⟨by rfl, ?_⟩) hHeld ?_ ?_
                          rotate_left
                          · intro w' hS_
                            have hcv_ := own_string (P := Try.prog) Try.underlying23 Try.underlying5 Try.underlying9 (Kd.own_of_R (Kd.R_below HX6.out hS_.2))
                            go_simp
                            with_reducible rfl
                          rotate_left
                          · simp only [Act.put, List.setIfInBounds_toArray, List.set_cons_zero, List.set_cons_succ, i64_w, i32_w]
                            rfl
                          refine pure_ (i := 41) (N := some 96) (v := ?_) (a' := ?_) #[true, true, true, true, true, true, true, true, true, true, true, true, true, true, true, true, true, true, true, true, true, true, true, true, true, true, true, true, true, true, true, true, true, true, true, true, true, true, true, true, true, true, false, false, false, false, false, false] rfl rfl (by kernel_rfl) (fun _ _ _ h => h) (Or.inl ⟨by rfl, ?_⟩) ?_ ?_
                          rotate_left
                          · intro w'
                            go_simp
                            with_reducible rfl
                          rotate_left
                          · simp only [Act.put, List.setIfInBounds_toArray, List.set_cons_zero, List.set_cons_succ, i64_w, i32_w]
                            rfl
                          refine pure_ (i := 42) (N := some 97) (v := ?_) (a' := ?_) #[true, true, true, true, true, true, true, true, true, true, true, true, true, true, true, true, true, true, true, true, true, true, true, true, true, true, true, true, true, true, true, true, true, true, true, true, true, true, true, true, true, true, true, false, false, false, false, false] rfl rfl (by kernel_rfl) (fun _ _ _ h => h) (Or.inl ⟨by rfl, ?_⟩) ?_ ?_
                          rotate_left
                          · intro w'
                            go_simp
                            with_reducible rfl
                          rotate_left
                          · simp only [Act.put, List.setIfInBounds_toArray, List.set_cons_zero, List.set_cons_succ, i64_w, i32_w]
                            rfl
                          refine pure_ (i := 43) (N := some 98) (v := ?_) (a' := ?_) #[true, true, true, true, true, true, true, true, true, true, true, true, true, true, true, true, true, true, true, true, true, true, true, true, true, true, true, true, true, true, true, true, true, true, true, true, true, true, true, true, true, true, true, true, false, false, false, false] rfl rfl (by kernel_rfl) (fun _ _ _ h => h) (Or.inl ⟨by rfl, ?_⟩) ?_ ?_
                          rotate_left
                          · intro w'
                            go_simp
                            with_reducible rfl
                          rotate_left
                          · simp only [Act.put, List.setIfInBounds_toArray, List.set_cons_zero, List.set_cons_succ, i64_w, i32_w]
                            rfl
                          refine pure_ (i := 44) (N := some 99) (v := ?_) (a' := ?_) #[true, true, true, true, true, true, true, true, true, true, true, true, true, true, true, true, true, true, true, true, true, true, true, true, true, true, true, true, true, true, true, true, true, true, true, true, true, true, true, true, true, true, true, true, true, false, false, false] rfl rfl (by kernel_rfl) (fun _ _ _ h => h) (Or.inl ⟨by rfl, ?_⟩) ?_ ?_
                          rotate_left
                          · intro w'
                            go_simp
                            with_reducible rfl
                          rotate_left
                          · simp only [Act.put, List.setIfInBounds_toArray, List.set_cons_zero, List.set_cons_succ, i64_w, i32_w]
                            rfl
                          refine pure_ (i := 45) (N := some 100) (v := ?_) (a' := ?_) #[true, true, true, true, true, true, true, true, true, true, true, true, true, true, true, true, true, true, true, true, true, true, true, true, true, true, true, true, true, true, true, true, true, true, true, true, true, true, true, true, true, true, true, true, true, true, false, false] rfl rfl (by kernel_rfl) (fun _ _ _ h => h) (Or.inl ⟨by rfl, ?_⟩) ?_ ?_
                          rotate_left
                          · intro w'
                            go_simp
                            with_reducible rfl
                          rotate_left
                          · simp only [Act.put, List.setIfInBounds_toArray, List.set_cons_zero, List.set_cons_succ, i64_w, i32_w]
                            rfl
                          refine pure_ (i := 46) (N := some 101) (v := ?_) (a' := ?_) #[true, true, true, true, true, true, true, true, true, true, true, true, true, true, true, true, true, true, true, true, true, true, true, true, true, true, true, true, true, true, true, true, true, true, true, true, true, true, true, true, true, true, true, true, true, true, true, false] rfl rfl (by kernel_rfl) (fun _ _ _ h => h) (Or.inl ⟨by rfl, ?_⟩) ?_ ?_
                          rotate_left
                          · intro w'
                            go_simp
                            with_reducible rfl
                          rotate_left
                          · simp only [Act.put, List.setIfInBounds_toArray, List.set_cons_zero, List.set_cons_succ, i64_w, i32_w]
                            rfl
                          refine pure_ (i := 47) (N := some 102) (v := ?_) (a' := ?_) #[true, true, true, true, true, true, true, true, true, true, true, true, true, true, true, true, true, true, true, true, true, true, true, true, true, true, true, true, true, true, true, true, true, true, true, true, true, true, true, true, true, true, true, true, true, true, true, true] rfl rfl (by kernel_rfl) (fun _ _ _ h => h) (Or.inl ⟨by rfl, ?_⟩) ?_ ?_
                          rotate_left
                          · intro w'
                            go_simp
                            with_reducible rfl
                          rotate_left
                          · simp only [Act.put, List.setIfInBounds_toArray, List.set_cons_zero, List.set_cons_succ, i64_w, i32_w]
                            rfl
                          refine done_ (by kernel_rfl) ?_
                          clear hHeld
                          clear HX1
                          clear HX2
                          clear HX3
                          clear HX4
                          clear HX5
                          clear HX6
                          try go_wp2
                          go_meet
                          case rel => exact ⟨_, ((t164 != t169)), (by first | rfl | (simp; done) | (simp [*]; done)), H', ⟨by have := HJ3.out; first | omega | exact Nat.le_refl _⟩, ⟨by (with_reducible repeat (first | apply Kd.R_alloc | apply Kd.R_drewN | apply Kd.R_drew)); exact Kd.R_mono HO155.out (fun _ hk => hk.1.1.1.1.1.2)⟩, ⟨by (with_reducible repeat (first | apply Kd.R_alloc | apply Kd.R_drewN | apply Kd.R_drew)); exact Kd.R_mono HO166.out (fun _ hk => hk.1.1.1.1.1.2)⟩, ⟨by repeat (first | (with_reducible first | exact HB.out | apply below_alloc | apply pw_below_drewN | apply below_drew1) | exact HB.out)⟩⟩
                        · rw [if_neg c29] at H
                          have c29b0 : ((strOfNums t163).toList == (strOfNums t168).toList) = false := beq_eq_false_iff_ne.mpr c29
                          have c29b1 : ((strOfNums t163).toList != (strOfNums t168).toList) = true := bne_iff_ne.mpr c29
                          exact absurd (hr.symm.trans (CodeNumbers_j1 _ _ _ _ _ H)) (by decide)
                      · rw [if_neg c28] at H
                        have c28b0 : (t162.toList == t167.toList) = false := beq_eq_false_iff_ne.mpr c28
                        have c28b1 : (t162.toList != t167.toList) = true := bne_iff_ne.mpr c28
                        exact absurd (hr.symm.trans (CodeNumbers_j1 _ _ _ _ _ H)) (by decide)
                    · rw [if_neg c27] at H
                      have c27b0 : (t158 == t161) = false := beq_eq_false_iff_ne.mpr c27
                      have c27b1 : (t158 != t161) = true := bne_iff_ne.mpr c27
                      exact absurd (hr.symm.trans (CodeNumbers_j1 _ _ _ _ _ H)) (by decide)
                  · rw [if_neg c26] at H
                    have c26b0 : (t157 == t160) = false := beq_eq_false_iff_ne.mpr c26
                    have c26b1 : (t157 != t160) = true := bne_iff_ne.mpr c26
                    exact absurd (hr.symm.trans (CodeNumbers_j1 _ _ _ _ _ H)) (by decide)
                · rw [if_neg c25] at H
                  have c25b0 : (t156 == t159) = false := beq_eq_false_iff_ne.mpr c25
                  have c25b1 : (t156 != t159) = true := bne_iff_ne.mpr c25
                  exact absurd (hr.symm.trans (CodeNumbers_j1 _ _ _ _ _ H)) (by decide)
              · rw [if_neg c24] at H
                have c24b0 : ((strOfNums t178).toList == (strOfNums t181).toList) = false := beq_eq_false_iff_ne.mpr c24
                have c24b1 : ((strOfNums t178).toList != (strOfNums t181).toList) = true := bne_iff_ne.mpr c24
                exact absurd (hr.symm.trans (CodeNumbers_j1 _ _ _ _ _ H)) (by decide)
            · rw [if_neg c21] at H
              have c21b0 : ((strOfNums t172).toList == (strOfNums t175).toList) = false := beq_eq_false_iff_ne.mpr c21
              have c21b1 : ((strOfNums t172).toList != (strOfNums t175).toList) = true := bne_iff_ne.mpr c21
              (first | rw [c21b0] | (simp only [i64_w, i32_w]; rw [c21b0]) | skip)
              exact absurd (hr.symm.trans (CodeNumbers_j1 _ _ _ _ _ H)) (by decide)
          case rest =>
            clear HC12
            try clear c2
            try clear p2
            try clear c3
            try clear hcv3
            try clear c4
            try clear hcv4
            try clear c5
            try clear c5b0
            try clear c5b1
            try clear hcv5
            try clear c6
            try clear hcv6
            try clear c7
            try clear hcv7
            try clear c8
            try clear hcv8
            try clear c9
            try clear hcv9
            try clear c21
            try clear c21b0
            try clear c21b1
            try clear c24
            try clear c24b0
            try clear c24b1
            try clear c25
            try clear c25b0
            try clear c25b1
            try clear c26
            try clear c26b0
            try clear c26b1
            try clear c27
            try clear c27b0
            try clear c27b1
            try clear c28
            try clear c28b0
            try clear c28b1
            try clear c29
            try clear c29b0
            try clear c29b1
            try clear hcv31
            try clear hcv33
            try clear hcv35
            try clear hcv37
            try clear hcv38
            try clear hcv39
            try clear hcv41
            try clear hcv43
            try clear hcv45
            try clear hcv47
            try clear hcv48
            try clear hcv49
            try clear hcv51
            try clear hcv53
            try clear hcv55
            try clear hcv57
            try clear hcv59
            try clear hcv61
            try clear hcv63
            try clear hcv65
            try clear hcv67
            try clear hcv69
            try clear hcv71
            try clear hcv73
            try clear hcv75
            try clear hcv77
            try clear hcv79
            try clear hcv81
            try clear hcv83
            try clear hcv85
            try clear hcv87
            try clear hcv89
            try clear hcv91
            try clear hcv93
            try clear p2
            obtain ⟨kq, x102_11, rfl, HA, HJ11, HO_7, HO_15, HB⟩ := hcut
            cases kq with
            | zero => exact absurd HA.out (by simp [millhandlaw01_CodeNumbers.j1])
            | succ kj11 =>
              have H := HA.out
              clear HA
              simp only [millhandlaw01_CodeNumbers.j1] at H
              by_cases c94 : x102_11 = true
              · subst c94
                have H1 : (some false) = some r := by rw [if_pos rfl] at H; exact H
                clear H
                have H := H1
                clear H1
                obtain rfl := Option.some.inj H
                go_wp2
                go_ret
                exact ⟨by first | rfl | (simp [errW_none, errW_some] <;> rfl) | (simp [*, errW_none, errW_some] <;> rfl) | exact ret_ie _ | (simp [*, errW_none, errW_some, bne]; done), by repeat (first | (with_reducible first | exact HB.out | apply below_alloc | apply pw_below_drewN | apply below_drew1) | exact HB.out)⟩
              · replace c94 := Bool.eq_false_iff.mpr c94
                subst c94
                have H1 : (millhandlaw01_CodeNumbers.l0 kj11 l2 y153 t163 0) = some r := by rw [if_neg (show ¬ (false = true) by decide)] at H; exact H
                clear H
                have H := H1
                clear H1
                have H' := Aside0.mk H
                clear H
                go_wp2
                go_loopg [20] kj11 (fun kq v20 w' => ∃ (x15_3 : List Int) (x20_3 : Int), v20 = .int .i64 x20_3 ∧ Aside0 (millhandlaw01_CodeNumbers.l0 kq l2 y153 x15_3 x20_3 = some r) ∧ Aside0 (kq ≤ kj11) ∧ Aside0 (Kd.R (Kd.int .u8) 5 w' w.heap.size (fun k_ => some k_ ≠ (v165 : Value).ownBlock) (.slice Ao14 y153.length co14) y153) ∧ Aside0 (Kd.R (Kd.int .u8) 5 w' w.heap.size (fun k_ => some k_ ≠ ((.slice Ao14 y153.length co14) : Value).ownBlock) v165 x15_3) ∧ Aside0 (Below w.heap.size w w'))
                case atStart => exact ⟨(t163), (0), (by first | rfl | (simp; done) | (simp [*]; done)), H', ⟨Nat.le_refl _⟩, ⟨by (with_reducible repeat (first | apply Kd.R_alloc | apply Kd.R_drewN | apply Kd.R_drew)); exact HO_7.out⟩, ⟨by (with_reducible repeat (first | apply Kd.R_alloc | apply Kd.R_drewN | apply Kd.R_drew)); exact HO_15.out⟩, ⟨by repeat (first | (with_reducible first | exact HB.out | apply below_alloc | apply pw_below_drewN | apply below_drew1) | exact HB.out)⟩⟩
                case round =>
                  clear H'
                  try clear c2
                  try clear p2
                  try clear c3
                  try clear hcv3
                  try clear c4
                  try clear hcv4
                  try clear c5
                  try clear c5b0
                  try clear c5b1
                  try clear hcv5
                  try clear c6
                  try clear hcv6
                  try clear c7
                  try clear hcv7
                  try clear c8
                  try clear hcv8
                  try clear c9
                  try clear hcv9
                  try clear c21
                  try clear c21b0
                  try clear c21b1
                  try clear c24
                  try clear c24b0
                  try clear c24b1
                  try clear c25
                  try clear c25b0
                  try clear c25b1
                  try clear c26
                  try clear c26b0
                  try clear c26b1
                  try clear c27
                  try clear c27b0
                  try clear c27b1
                  try clear c28
                  try clear c28b0
                  try clear c28b1
                  try clear c29
                  try clear c29b0
                  try clear c29b1
                  try clear hcv31
                  try clear hcv33
                  try clear hcv35
                  try clear hcv37
                  try clear hcv38
                  try clear hcv39
                  try clear hcv41
                  try clear hcv43
                  try clear hcv45
                  try clear hcv47
                  try clear hcv48
                  try clear hcv49
                  try clear hcv51
                  try clear hcv53
                  try clear hcv55
                  try clear hcv57
                  try clear hcv59
                  try clear hcv61
                  try clear hcv63
                  try clear hcv65
                  try clear hcv67
                  try clear hcv69
                  try clear hcv71
                  try clear hcv73
                  try clear hcv75
                  try clear hcv77
                  try clear hcv79
                  try clear hcv81
                  try clear hcv83
                  try clear hcv85
                  try clear hcv87
                  try clear hcv89
                  try clear hcv91
                  try clear hcv93
                  try clear c94
                  try clear p2
                  obtain ⟨x15_3, x20_3, rfl, HA, HK3, HO_7, HO_15, HB⟩ := hrel
                  cases gk with
                  | zero => exact absurd HA.out (by simp [millhandlaw01_CodeNumbers.l0])
                  | succ k3 =>
                    have H := HA.out
                    clear HA
                    simp only [millhandlaw01_CodeNumbers.l0] at H
                    by_cases c95 : x20_3 < (x15_3.length : Int)
                    · rw [if_pos c95] at H
                      have c95b0 : decide (x20_3 < (x15_3.length : Int)) = true := decide_eq_true c95
                      clear c95
                      by_cases c96 : 0 ≤ x20_3
                      · rw [if_pos c96] at H
                        have c96b0 : decide (0 ≤ x20_3) = true := decide_eq_true c96
                        clear c96
                        obtain ⟨y185, hy185⟩ : ∃ y_ : List Int, y_ = (x15_3.set (x20_3 : Int).toNat (((rd x15_3 x20_3) + 1) % 256)) := ⟨_, rfl⟩
                        replace H : (millhandlaw01_CodeNumbers.l0 k3 l2 y153 y185 (wrap64 (x20_3 + 1))) = some r := by first | (rw [hy185]; with_reducible exact H) | (have H2_ := (Option.bind_some _ _).symm.trans H; rw [hy185]; with_reducible exact H2_) | (have H2_ := (Option.bind_some _ _).symm.trans H; with_reducible exact H2_) | with_reducible exact H | (rw [hy185]; exact H) | exact H
                        have Ny185 := Aside0.mk hy185
                        clear hy185
                        have H' := Aside0.mk H
                        clear H
                        obtain ⟨Ao98, co98, eo98⟩ := Kd.R_slice HO_15.out
                        subst eo98
                        have p184 : 0 ≤ (x20_3 : Int) := of_decide_eq_true (by first | (with_reducible assumption) | assumption)
                        have q184 : x20_3 < (x15_3.length : Int) := of_decide_eq_true (by first | (with_reducible assumption) | assumption)
                        obtain ⟨ad184, e184, hx184_0⟩ := Kd.at_int (Kd.R_reads' HO_15.out).2.2 x20_3 p184 q184
                        cases e184
                        replace p184 := eq_true p184
                        replace q184 := eq_true q184
                        have p97 : 0 ≤ (x20_3 : Int) := of_decide_eq_true (by first | (with_reducible assumption) | assumption)
                        have q97 : (x20_3 : Int) < ((x15_3.length : Int) : Int) := of_decide_eq_true (by first | (with_reducible assumption) | assumption)
                        obtain ⟨go97, co97, eo97, gb97, gl97, cl97, HG97⟩ := Kd.R_form HO_15.out (by omega)
                        (first | cases eo97 | (injection eo97 with ea_ en_ ec_; (first | subst ea_ | (injection ea_ with ea_; subst ea_)); subst ec_; clear en_))
                        have GB97 := Aside0.mk gb97
                        have GG97 := Aside0.mk HG97
                        clear gb97 gl97 HG97
                        (first | simp only [add_plain] at hx184_0 | skip)
                        obtain ⟨hx97_0, hf97_0⟩ := Kd.R_celln 0 HO_15.out (x20_3 : Int) p97 q97
                        replace p97 := eq_true p97
                        replace q97 := eq_true q97
                        have HP99 := Kd.R_putg HO_15.out (x20_3 : Int) (((rd x15_3 x20_3) + 1) % 256)
                        go_wp2_with (first | ((with_reducible refine gate_store (t := 5) (p := 116) rfl ?_); refine store_event (t := 5) (p := 116) (v := ?vo_w100) (w1 := (wr.setCell ⟨go97, (x20_3 : Int).toNat, none⟩ (.int .u8 (((rd x15_3 x20_3) + 1) % 256)))) ?hg ?ho ?hn ?hr ?_; (case ho => rfl); (case hg => rfl); (case hn => rfl); (case hr => first | (go_simp; done) | (go_simp; rfl)); intro w100 hw; have hg : wr.grownBy w100 (some go97) := (by rw [hw]; exact HP99.2); have hp_ : Kd.R (Kd.int .u8) 5 w100 w.heap.size (fun k_ => some k_ ≠ (.slice Ao14 y153.length co14 : Value).ownBlock) (.slice (some ⟨go97, 0, none⟩) x15_3.length co98) y185 := (by rw [hw, Ny185.out]; exact HP99.1); clear HP99; have n0_ := Aside0.mk (Kd.R_after (v := (.slice (some ⟨go97, 0, none⟩) x15_3.length co98)) (v1 := (.slice (some ⟨go97, 0, none⟩) x15_3.length co98)) (ok := (fun _ => True)) (by (with_reducible repeat (first | apply Kd.R_alloc | apply Kd.R_drewN | apply Kd.R_drew)); exact Kd.R_mono HO_7.out (fun _ hk => ⟨trivial, hk⟩)) hg (.inl rfl)); have n1_ := Aside0.mk (hp_); have n2_ := Aside0.mk ((by rw [hw]; exact below_set (HB.out) GB97.out : Below w.heap.size w w100)); clear HO_7; clear HO_15; clear HB; have HO_7 := n0_; have HO_15 := n1_; have HB := n2_; clear n0_ n1_ n2_; clear hg hw hp_))
                        go_roundg k3
                        case measure => have := HJ3.out; have := HJ11.out; have := HK3.out; omega
                        case rel => exact ⟨(y185), (wrap64 (x20_3 + 1)), (by first | rfl | (simp; done) | (simp [*]; done)), H', ⟨by have := HJ3.out; have := HJ11.out; have := HK3.out; omega⟩, ⟨by (with_reducible repeat (first | apply Kd.R_alloc | apply Kd.R_drewN | apply Kd.R_drew)); exact Kd.R_mono HO_7.out (fun _ hk => hk.2)⟩, ⟨by (with_reducible repeat (first | apply Kd.R_alloc | apply Kd.R_drewN | apply Kd.R_drew)); exact HO_15.out⟩, ⟨by repeat (first | (with_reducible first | exact HB.out | apply below_alloc | apply pw_below_drewN | apply below_drew1) | exact HB.out)⟩⟩
                      · rw [if_neg c96] at H
                        exact absurd H (by simp)
                    · rw [if_neg c95] at H
                      have c95b0 : decide (x20_3 < (x15_3.length : Int)) = false := decide_eq_false c95
                      clear c95
                      obtain rfl := Option.some.inj H
                      obtain ⟨Ao101, co101, eo101⟩ := Kd.R_slice HO_15.out
                      subst eo101
                      have hcv102 := own_string (P := Try.prog) Try.underlying23 Try.underlying5 Try.underlying9 (Kd.own_of_R HO_7.out)
                      have hcv103 := C_string_ (P := Try.prog) (A := A2) (c := c2) Try.underlying23 Try.underlying5 Try.underlying9 (Kd.C_below HR2.out HB.out)
                      go_wp2
                      go_ret
                      exact ⟨by first | rfl | (simp [errW_none, errW_some] <;> rfl) | (simp [*, errW_none, errW_some] <;> rfl) | exact ret_ie _ | (simp [*, errW_none, errW_some, bne]; done), by repeat (first | (with_reducible first | exact HB.out | apply below_alloc | apply pw_below_drewN | apply below_drew1) | exact HB.out)⟩
        · rw [if_neg c7] at H
          exact absurd H (by simp)

end Go.Proofs.Ytfkhnjjkkkhigaa.Q

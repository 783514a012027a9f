/- Contracts of Go functions and what they come to, over the translation of this seat: made by a program of this session (print2.py). -/
import Derived.Test.YtbiphljdommacaaS3
import Derived.Test.YtbiphljdommacaaSh
import Derived.Test.YtbiphljdommacaaRx6
namespace Go.Proofs.Ytbiphljdommacaa.R
open Go.RowKit Go.Proofs.Ytbiphljdommacaa.S3 Go.Proofs.Ytbiphljdommacaa.Sh Go.Proofs.Ytbiphljdommacaa.Co Go.Proofs.Ytbiphljdommacaa.Ret Go.Proofs.Ytbiphljdommacaa.Plain Go.Proofs.YtbiphljdommacaaW.PrintWords Go.Proofs.YtbiphljdommacaaW.PrintLast Go.Proofs.YtbiphljdommacaaW.PrintMore Go.Proofs.Ytbiphljdommacaa.Ti
attribute [local go_sem] max2_int min2_int max_two min_two max_three min_three max_four min_four   -- for this text's walks alone
set_option linter.unusedVariables false
set_option linter.unusedSimpArgs false

/-! ### task_may: function 61 -/
mutual
def task_may.j0 : Nat → Bool → List Int → Int → Int → Int → Int → Int → Int → Int → Option (Bool)
 | 0, _, _, _, _, _, _, _, _, _ => none
 | k + 1, x33, x112000, x112001, x112002, x113000, x113001, x113002, x113003, x113004 => if x33 = true then (some false) else (if x113002 = 0 then (if x113003 = 0 then (task_may.j1 k (x113004 == 0) x112000 x112001 x112002 x113000 x113001 x113002 x113003 x113004) else (task_may.j1 k false x112000 x112001 x112002 x113000 x113001 x113002 x113003 x113004)) else (task_may.j1 k false x112000 x112001 x112002 x113000 x113001 x113002 x113003 x113004))
def task_may.j1 : Nat → Bool → List Int → Int → Int → Int → Int → Int → Int → Int → Option (Bool)
 | 0, _, _, _, _, _, _, _, _, _ => none
 | k + 1, x5, x112000, x112001, x112002, x113000, x113001, x113002, x113003, x113004 => if x113000 = 0 then (if x113001 = 0 then (some x5) else (some false)) else (if x113000 = 1 then (if x113001 < x112001 then (if x113002 = 0 then (some (x113003 == 0)) else (some false)) else (some false)) else (if x113000 = 2 then (if x113001 ≥ 1 then (if x113003 ≥ 1 then (some (x113004 == 0)) else (some false)) else (some false)) else (if x113000 = 3 then (if x113001 ≥ 1 then (if x113001 < x112001 then (if x113003 = 0 then (some (x113004 == 0)) else (some false)) else (some false)) else (some false)) else (if x113000 = 4 then (if x113001 ≥ 1 then (some x5) else (some false)) else (if x113000 = 5 then (if x113001 = x112001 then (some x5) else (some false)) else (if x113000 = 6 then (some x5) else (some false)))))))
end
def task_may.f (k : Nat) (l0_0 : List Int) (a0_1 : Int) (a0_2 : Int) (a1_0 : Int) (a1_1 : Int) (a1_2 : Int) (a1_3 : Int) (a1_4 : Int) : Option (Bool) := if a1_1 < 0 then (task_may.j0 k true l0_0 a0_1 a0_2 a1_0 a1_1 a1_2 a1_3 a1_4) else (if a1_1 > a0_1 then (task_may.j0 k true l0_0 a0_1 a0_2 a1_0 a1_1 a1_2 a1_3 a1_4) else ((task_moment.f a1_2).bind fun t113 => (if t113 = true then ((task_count.f a1_3).bind fun t114 => (if t114 = true then ((task_count.f a1_4).bind fun t115 => (task_may.j0 k (!t115) l0_0 a0_1 a0_2 a1_0 a1_1 a1_2 a1_3 a1_4)) else (task_may.j0 k true l0_0 a0_1 a0_2 a1_0 a1_1 a1_2 a1_3 a1_4))) else (task_may.j0 k true l0_0 a0_1 a0_2 a1_0 a1_1 a1_2 a1_3 a1_4))))
theorem task_may.mono_l : ∀ k, (∀ y0 y1 y2 y3 y4 y5 y6 y7 y8, LeO (task_may.j0 k y0 y1 y2 y3 y4 y5 y6 y7 y8) (task_may.j0 (k + 1) y0 y1 y2 y3 y4 y5 y6 y7 y8)) ∧ (∀ y0 y1 y2 y3 y4 y5 y6 y7 y8, LeO (task_may.j1 k y0 y1 y2 y3 y4 y5 y6 y7 y8) (task_may.j1 (k + 1) y0 y1 y2 y3 y4 y5 y6 y7 y8))
 | 0 => ⟨fun _ _ _ _ _ _ _ _ _ r h => by simp [task_may.j0] at h, fun _ _ _ _ _ _ _ _ _ r h => by simp [task_may.j1] at h⟩
 | k + 1 => by
  obtain ⟨ih0, ih1⟩ := task_may.mono_l k
  refine ⟨?_, ?_⟩
  ·
   intro y0 y1 y2 y3 y4 y5 y6 y7 y8
   unfold task_may.j0
   repeat' first
   | (with_reducible exact LeO.refl _)
   | (with_reducible refine LeO.ite ?_ ?_)
   | (with_reducible refine LeO.bind ?_ (fun _ => ?_))
   | exact ih0 _ _ _ _ _ _ _ _ _
   | exact ih1 _ _ _ _ _ _ _ _ _
   | exact LeO.none _
   | refine LeO.ite ?_ ?_
   | refine LeO.bind ?_ (fun _ => ?_)
  ·
   intro y0 y1 y2 y3 y4 y5 y6 y7 y8
   unfold task_may.j1
   repeat' first
   | (with_reducible exact LeO.refl _)
   | (with_reducible refine LeO.ite ?_ ?_)
   | (with_reducible refine LeO.bind ?_ (fun _ => ?_))
   | exact ih0 _ _ _ _ _ _ _ _ _
   | exact ih1 _ _ _ _ _ _ _ _ _
   | exact LeO.none _
   | refine LeO.ite ?_ ?_
   | refine LeO.bind ?_ (fun _ => ?_)
theorem task_may.mono : ∀ a0 a1 a2 a3 a4 a5 a6 a7 k, LeO (task_may.f k a0 a1 a2 a3 a4 a5 a6 a7) (task_may.f (k + 1) a0 a1 a2 a3 a4 a5 a6 a7) := by
 intro a0 a1 a2 a3 a4 a5 a6 a7 k
 obtain ⟨ih0, ih1⟩ := task_may.mono_l k
 unfold task_may.f
 repeat' first
   | (with_reducible exact LeO.refl _)
   | (with_reducible refine LeO.ite ?_ ?_)
   | (with_reducible refine LeO.bind ?_ (fun _ => ?_))
   | exact ih0 _ _ _ _ _ _ _ _ _
   | exact ih1 _ _ _ _ _ _ _ _ _
   | exact LeO.none _
   | refine LeO.ite ?_ ?_
   | refine LeO.bind ?_ (fun _ => ?_)
set_option maxHeartbeats 8000000 in
set_option maxRecDepth 100000 in
theorem task_may.calls (k : Nat) (A0_0 : Option Addr) (c0_0 : Nat) (l0_0 : List Int) (a0_1 : Int) (a0_2 : Int) (a1_0 : Int) (a1_1 : Int) (a1_2 : Int) (a1_3 : Int) (a1_4 : Int) (r : Bool) (w : World) (hr0_0 : Kd.C (Kd.int .i64) w A0_0 l0_0.length l0_0) (hc0_0 : l0_0.length ≤ c0_0) (h : task_may.f k l0_0 a0_1 a0_2 a1_0 a1_1 a1_2 a1_3 a1_4 = some r) :
  Calls Try.prog 61 #[.agg #[.slice A0_0 l0_0.length c0_0, .int .i64 a0_1, .int .i64 a0_2], .agg #[.int .u8 a1_0, .int .i64 a1_1, .int .i64 a1_2, .int .i64 a1_3, .int .i64 a1_4]] w fun e w' => e = .returned (.bool r) ∧ Below w.heap.size w w' := by
 have hu60 := Try.underlying60; have hu35 := Try.underlying35; have HR0_0 := A_ hr0_0; have HC0_0 := A_ hc0_0; clear hr0_0 hc0_0; have HB := A_ (Below.refl w.heap.size w); have H : (if a1_1 < 0 then (task_may.j0 k true l0_0 a0_1 a0_2 a1_0 a1_1 a1_2 a1_3 a1_4) else (if a1_1 > a0_1 then (task_may.j0 k true l0_0 a0_1 a0_2 a1_0 a1_1 a1_2 a1_3 a1_4) else ((task_moment.f a1_2).bind fun t113 => (if t113 = true then ((task_count.f a1_3).bind fun t114 => (if t114 = true then ((task_count.f a1_4).bind fun t115 => (task_may.j0 k (!t115) l0_0 a0_1 a0_2 a1_0 a1_1 a1_2 a1_3 a1_4)) else (task_may.j0 k true l0_0 a0_1 a0_2 a1_0 a1_1 a1_2 a1_3 a1_4))) else (task_may.j0 k true l0_0 a0_1 a0_2 a1_0 a1_1 a1_2 a1_3 a1_4))))) = some r := h; clear h; have HC3 := Aside0.mk H; clear H
 go_enter Try.func61, Try.ntmps61
 go_upto_region 1 with (first | ((with_reducible refine gd_ 2 rfl ?_); refine by0_ 2 #[.slice A0_0 l0_0.length c0_0, .int .i64 a0_1, .int .i64 a0_2] 60 ?_; clear HB; intro gb111 w4 BK111 GE111 HB; have GW111 := GE111) | ((with_reducible refine gd_ 3 rfl ?_); refine by1_ 3 #[.int .u8 a1_0, .int .i64 a1_1, .int .i64 a1_2, .int .i64 a1_3, .int .i64 a1_4] 35 BK111 ?_; clear HB BK111; intro gb112 w5 BK112 GE112 HB NB111_112 NB112_111 BK111; have GW112 := GE112))
 (try simp only [Act.put, sa_, s0_, s1_])
 go_cut [33] (fun v33 wc => ∃ (kq : Nat) (x33_2 : Bool), v33 = .bool x33_2 ∧ Aside0 (task_may.j0 kq x33_2 l0_0 a0_1 a0_2 a1_0 a1_1 a1_2 a1_3 a1_4 = some r) ∧ Aside0 (kq ≤ k) ∧ Aside0 (wc.heap[gb111]? = some (.cells #[(.slice A0_0 l0_0.length c0_0), .int .i64 a0_1, .int .i64 a0_2] 60 (0, 0))) ∧ Aside0 (wc.heap[gb112]? = some (.cells #[.int .u8 a1_0, .int .i64 a1_1, .int .i64 a1_2, .int .i64 a1_3, .int .i64 a1_4] 35 (0, 0))) ∧ Aside0 (Below w.heap.size w wc))
 case first =>
  have H := HC3.out; clear HC3
  by_cases c6 : a1_1 < 0
  ·
   rw [if_pos c6] at H; have c6b0 : decide (a1_1 < 0) = true := decide_eq_true c6; clear c6
   (first | rw [c6b0] | (simp only [i64_w, i32_w]; rw [c6b0]) | skip)
   have H' := Aside0.mk H; clear H; have hz8 := cz5_ BK112
   go_wp2
   go_meet
   case rel => exact ⟨_, (true), rl_, H', ⟨le_⟩, ⟨bY_ BK111⟩, ⟨bY_ BK112⟩, ⟨hb_⟩⟩
  ·
   rw [if_neg c6] at H; have c6b0 : decide (a1_1 < 0) = false := decide_eq_false c6; clear c6
   (first | rw [c6b0] | (simp only [i64_w, i32_w]; rw [c6b0]) | skip)
   by_cases c9 : a1_1 > a0_1
   ·
    rw [if_pos c9] at H; have c9b0 : decide (a0_1 < a1_1) = true := decide_eq_true c9; clear c9; have H' := Aside0.mk H; clear H; have hnb10 := NB112_111.out; have hnc10 := NB111_112.out; have hz11 := cz5_ BK112; have hz12 := cz3_ BK111
    go_wp2
    go_meet
    case rel => exact ⟨_, (true), rl_, H', ⟨le_⟩, ⟨bY_ BK111⟩, ⟨bY_ BK112⟩, ⟨hb_⟩⟩
   ·
    rw [if_neg c9] at H; have c9b0 : decide (a0_1 < a1_1) = false := decide_eq_false c9; clear c9; replace H := Option.bind_eq_some_iff.mp H; obtain ⟨t113, A130, H⟩ := H
    try dsimp only at H
    have A13 := Aside0.mk A130; clear A130
    by_cases c14 : t113 = true
    ·
     subst c14; have H1 : ((task_count.f a1_3).bind fun t114 => (if t114 = true then ((task_count.f a1_4).bind fun t115 => (task_may.j0 k (!t115) l0_0 a0_1 a0_2 a1_0 a1_1 a1_2 a1_3 a1_4)) else (task_may.j0 k true l0_0 a0_1 a0_2 a1_0 a1_1 a1_2 a1_3 a1_4))) = some r := by rw [if_pos rfl] at H; exact H
     clear H; have H := H1; clear H1; replace H := Option.bind_eq_some_iff.mp H; obtain ⟨t114, A150, H⟩ := H; replace H : (if t114 = true then ((task_count.f a1_4).bind fun t115 => (task_may.j0 k (!t115) l0_0 a0_1 a0_2 a1_0 a1_1 a1_2 a1_3 a1_4)) else (task_may.j0 k true l0_0 a0_1 a0_2 a1_0 a1_1 a1_2 a1_3 a1_4)) = some r := H; have A15 := Aside0.mk A150; clear A150
     by_cases c16 : t114 = true
     ·
      subst c16; have H1 : ((task_count.f a1_4).bind fun t115 => (task_may.j0 k (!t115) l0_0 a0_1 a0_2 a1_0 a1_1 a1_2 a1_3 a1_4)) = some r := by rw [if_pos rfl] at H; exact H
      clear H; have H := H1; clear H1; replace H := Option.bind_eq_some_iff.mp H; obtain ⟨t115, A170, H⟩ := H; replace H : (task_may.j0 k (!t115) l0_0 a0_1 a0_2 a1_0 a1_1 a1_2 a1_3 a1_4) = some r := H; have A17 := Aside0.mk A170; clear A170; have H' := Aside0.mk H; clear H; have hnb18 := NB112_111.out; have hnc18 := NB111_112.out; have hz19 := cz5_ BK112; have hz20 := cz3_ BK111
      go_wp2_with (first | (go_at_call 56; (with_reducible refine (task_moment.calls a1_2 true _ A13.out).mono ?_); rintro e w' ⟨rfl, ⟨nd, rfl⟩⟩) | (go_at_call 55; (with_reducible refine (task_count.calls a1_3 true _ A15.out).mono ?_); rintro e w' ⟨rfl, ⟨nd, rfl⟩⟩) | (go_at_call 55; (with_reducible refine (task_count.calls a1_4 t115 _ A17.out).mono ?_); rintro e w' ⟨rfl, ⟨nd, rfl⟩⟩))
      go_meet
      case rel => exact ⟨_, (!t115), rl_, H', ⟨le_⟩, ⟨bY_ BK111⟩, ⟨bY_ BK112⟩, ⟨hb_⟩⟩
     ·
      replace c16 := Bool.eq_false_iff.mpr c16; subst c16; have H1 : (task_may.j0 k true l0_0 a0_1 a0_2 a1_0 a1_1 a1_2 a1_3 a1_4) = some r := by rw [if_neg (show ¬ (false = true) by decide)] at H; exact H
      clear H; have H := H1; clear H1; have H' := Aside0.mk H; clear H; have hnb21 := NB112_111.out; have hnc21 := NB111_112.out; have hz22 := cz5_ BK112; have hz23 := cz3_ BK111
      go_wp2_with (first | (go_at_call 56; (with_reducible refine (task_moment.calls a1_2 true _ A13.out).mono ?_); rintro e w' ⟨rfl, ⟨nd, rfl⟩⟩) | (go_at_call 55; (with_reducible refine (task_count.calls a1_3 false _ A15.out).mono ?_); rintro e w' ⟨rfl, ⟨nd, rfl⟩⟩))
      go_meet
      case rel => exact ⟨_, (true), rl_, H', ⟨le_⟩, ⟨bY_ BK111⟩, ⟨bY_ BK112⟩, ⟨hb_⟩⟩
    ·
     replace c14 := Bool.eq_false_iff.mpr c14; subst c14; have H1 : (task_may.j0 k true l0_0 a0_1 a0_2 a1_0 a1_1 a1_2 a1_3 a1_4) = some r := by rw [if_neg (show ¬ (false = true) by decide)] at H; exact H
     clear H; have H := H1; clear H1; have H' := Aside0.mk H; clear H; have hnb24 := NB112_111.out; have hnc24 := NB111_112.out; have hz25 := cz5_ BK112; have hz26 := cz3_ BK111
     go_wp2_with (first | (go_at_call 56; (with_reducible refine (task_moment.calls a1_2 false _ A13.out).mono ?_); rintro e w' ⟨rfl, ⟨nd, rfl⟩⟩))
     go_meet
     case rel => exact ⟨_, (true), rl_, H', ⟨le_⟩, ⟨bY_ BK111⟩, ⟨bY_ BK112⟩, ⟨hb_⟩⟩
 case rest =>
  clear HC3; (try clear c6); (try clear c6b0); (try clear c9); (try clear c9b0); (try clear c14); (try clear c16); (try clear hz11); (try clear hz12); (try clear hz19); (try clear hz20); (try clear hz22); (try clear hz23); (try clear hz25); (try clear hz26); (try clear hz8)
  (try clear hz23); (try clear hz25); (try clear hz26); (try clear hz8); obtain ⟨kq, x33_2, rfl, HA, HJ2, BK111, BK112, HB⟩ := hcut
  cases kq with
  | zero => exact absurd HA.out (by simp [task_may.j0])
  | succ kj2 =>
   have H := HA.out; clear HA; simp only [task_may.j0] at H
   by_cases c27 : x33_2 = true
   ·
    subst c27; have H1 : (some false) = some r := by rw [if_pos rfl] at H; exact H
    clear H; have H := H1; clear H1; obtain rfl := Option.some.inj H
    go_wp2
    go_ret
    exact ⟨re_, hb_⟩
   ·
    replace c27 := Bool.eq_false_iff.mpr c27; subst c27; have H1 : (if a1_2 = 0 then (if a1_3 = 0 then (task_may.j1 kj2 (a1_4 == 0) l0_0 a0_1 a0_2 a1_0 a1_1 a1_2 a1_3 a1_4) else (task_may.j1 kj2 false l0_0 a0_1 a0_2 a1_0 a1_1 a1_2 a1_3 a1_4)) else (task_may.j1 kj2 false l0_0 a0_1 a0_2 a1_0 a1_1 a1_2 a1_3 a1_4)) = some r := by rw [if_neg (show ¬ (false = true) by decide)] at H; exact H
    clear H; have H := H1; clear H1; have HC28 := Aside0.mk H; clear H
    go_upto_region 3 with (fail)
    go_cut [5] (fun v5 wc => ∃ (kq : Nat) (x5_27 : Bool), v5 = .bool x5_27 ∧ Aside0 (task_may.j1 kq x5_27 l0_0 a0_1 a0_2 a1_0 a1_1 a1_2 a1_3 a1_4 = some r) ∧ Aside0 (kq ≤ kj2) ∧ Aside0 (wc.heap[gb111]? = some (.cells #[(.slice A0_0 l0_0.length c0_0), .int .i64 a0_1, .int .i64 a0_2] 60 (0, 0))) ∧ Aside0 (wc.heap[gb112]? = some (.cells #[.int .u8 a1_0, .int .i64 a1_1, .int .i64 a1_2, .int .i64 a1_3, .int .i64 a1_4] 35 (0, 0))) ∧ Aside0 (Below w.heap.size w wc))
    case first =>
     have H := HC28.out; clear HC28
     by_cases c29 : a1_2 = 0
     ·
      rw [if_pos c29] at H; have c29b0 : (a1_2 == 0) = true := beq_iff_eq.mpr c29; have c29b1 : (a1_2 != 0) = false := bne_eq_false_iff_eq.mpr c29; clear c29
      (first | rw [c29b0] | (simp only [i64_w, i32_w]; rw [c29b0]) | skip)
      by_cases c30 : a1_3 = 0
      ·
       rw [if_pos c30] at H; have c30b0 : (a1_3 == 0) = true := beq_iff_eq.mpr c30; have c30b1 : (a1_3 != 0) = false := bne_eq_false_iff_eq.mpr c30; clear c30; have H' := Aside0.mk H; clear H; have hz32 := cz5_ BK112
       go_wp2
       go_meet
       case rel => exact ⟨_, ((a1_4 == 0)), rl_, H', ⟨by have := HJ2.out; first | omega | exact Nat.le_refl _⟩, ⟨bY_ BK111⟩, ⟨bY_ BK112⟩, ⟨hb_⟩⟩
      ·
       rw [if_neg c30] at H; have c30b0 : (a1_3 == 0) = false := beq_eq_false_iff_ne.mpr c30; have c30b1 : (a1_3 != 0) = true := bne_iff_ne.mpr c30; have H' := Aside0.mk H; clear H; have hz34 := cz5_ BK112
       go_wp2
       go_meet
       case rel => exact ⟨_, (false), rl_, H', ⟨by have := HJ2.out; first | omega | exact Nat.le_refl _⟩, ⟨bY_ BK111⟩, ⟨bY_ BK112⟩, ⟨hb_⟩⟩
     ·
      rw [if_neg c29] at H; have c29b0 : (a1_2 == 0) = false := beq_eq_false_iff_ne.mpr c29; have c29b1 : (a1_2 != 0) = true := bne_iff_ne.mpr c29
      (first | rw [c29b0] | (simp only [i64_w, i32_w]; rw [c29b0]) | skip)
      have H' := Aside0.mk H; clear H; have hz36 := cz5_ BK112
      go_wp2
      go_meet
      case rel => exact ⟨_, (false), rl_, H', ⟨by have := HJ2.out; first | omega | exact Nat.le_refl _⟩, ⟨bY_ BK111⟩, ⟨bY_ BK112⟩, ⟨hb_⟩⟩
    case rest =>
     clear HC28; (try clear c6); (try clear c6b0); (try clear c9); (try clear c9b0); (try clear c14); (try clear c16); (try clear c27); (try clear c29); (try clear c29b0); (try clear c29b1); (try clear c30); (try clear c30b0); (try clear c30b1); (try clear hz11); (try clear hz12); (try clear hz19); (try clear hz20); (try clear hz22); (try clear hz23); (try clear hz25); (try clear hz26); (try clear hz32); (try clear hz34); (try clear hz36); (try clear hz8)
     (try clear hz8); (try clear hz11); (try clear hz12); (try clear hz19); (try clear hz20); (try clear hz22); (try clear hz23); (try clear hz25); (try clear hz26); (try clear hz32); (try clear hz34); (try clear hz36); obtain ⟨kq, x5_27, rfl, HA, HJ27, BK111, BK112, HB⟩ := hcut
     cases kq with
     | zero => exact absurd HA.out (by simp [task_may.j1])
     | succ kj27 =>
      have H := HA.out; clear HA; simp only [task_may.j1] at H
      by_cases c37 : a1_0 = 0
      ·
       rw [if_pos c37] at H; have c37b0 : (a1_0 == 0) = true := beq_iff_eq.mpr c37; have c37b1 : (a1_0 != 0) = false := bne_eq_false_iff_eq.mpr c37; clear c37
       by_cases c38 : a1_1 = 0
       ·
        rw [if_pos c38] at H; have c38b0 : (a1_1 == 0) = true := beq_iff_eq.mpr c38; have c38b1 : (a1_1 != 0) = false := bne_eq_false_iff_eq.mpr c38; clear c38; obtain rfl := Option.some.inj H; have hz40 := cz5_ BK112
        go_wp2
        go_ret
        exact ⟨re_, hb_⟩
       ·
        rw [if_neg c38] at H; have c38b0 : (a1_1 == 0) = false := beq_eq_false_iff_ne.mpr c38; have c38b1 : (a1_1 != 0) = true := bne_iff_ne.mpr c38; obtain rfl := Option.some.inj H; have hz42 := cz5_ BK112
        go_wp2
        go_ret
        exact ⟨re_, hb_⟩
      ·
       rw [if_neg c37] at H; have c37b0 : (a1_0 == 0) = false := beq_eq_false_iff_ne.mpr c37; have c37b1 : (a1_0 != 0) = true := bne_iff_ne.mpr c37
       by_cases c43 : a1_0 = 1
       ·
        rw [if_pos c43] at H; have c43b0 : (a1_0 == 1) = true := beq_iff_eq.mpr c43; have c43b1 : (a1_0 != 1) = false := bne_eq_false_iff_eq.mpr c43; clear c43
        by_cases c44 : a1_1 < a0_1
        ·
         rw [if_pos c44] at H; have c44b0 : decide (a1_1 < a0_1) = true := decide_eq_true c44; clear c44
         by_cases c45 : a1_2 = 0
         ·
          rw [if_pos c45] at H; have c45b0 : (a1_2 == 0) = true := beq_iff_eq.mpr c45; have c45b1 : (a1_2 != 0) = false := bne_eq_false_iff_eq.mpr c45; clear c45; obtain rfl := Option.some.inj H; have hnb46 := NB112_111.out; have hnc46 := NB111_112.out; have hz47 := cz5_ BK112; have hz48 := cz3_ BK111
          go_wp2
          go_ret
          exact ⟨re_, hb_⟩
         ·
          rw [if_neg c45] at H; have c45b0 : (a1_2 == 0) = false := beq_eq_false_iff_ne.mpr c45; have c45b1 : (a1_2 != 0) = true := bne_iff_ne.mpr c45; obtain rfl := Option.some.inj H; have hnb49 := NB112_111.out; have hnc49 := NB111_112.out; have hz50 := cz5_ BK112; have hz51 := cz3_ BK111
          go_wp2
          go_ret
          exact ⟨re_, hb_⟩
        ·
         rw [if_neg c44] at H; have c44b0 : decide (a1_1 < a0_1) = false := decide_eq_false c44; clear c44; obtain rfl := Option.some.inj H; have hnb52 := NB112_111.out; have hnc52 := NB111_112.out; have hz53 := cz5_ BK112; have hz54 := cz3_ BK111
         go_wp2
         go_ret
         exact ⟨re_, hb_⟩
       ·
        rw [if_neg c43] at H; have c43b0 : (a1_0 == 1) = false := beq_eq_false_iff_ne.mpr c43; have c43b1 : (a1_0 != 1) = true := bne_iff_ne.mpr c43
        by_cases c55 : a1_0 = 2
        ·
         rw [if_pos c55] at H; have c55b0 : (a1_0 == 2) = true := beq_iff_eq.mpr c55; have c55b1 : (a1_0 != 2) = false := bne_eq_false_iff_eq.mpr c55; clear c55
         by_cases c56 : a1_1 ≥ 1
         ·
          rw [if_pos c56] at H; have c56b0 : decide (1 ≤ a1_1) = true := decide_eq_true c56; clear c56
          by_cases c57 : a1_3 ≥ 1
          ·
           rw [if_pos c57] at H; have c57b0 : decide (1 ≤ a1_3) = true := decide_eq_true c57; clear c57; obtain rfl := Option.some.inj H; have hz59 := cz5_ BK112
           go_wp2
           go_ret
           exact ⟨re_, hb_⟩
          ·
           rw [if_neg c57] at H; have c57b0 : decide (1 ≤ a1_3) = false := decide_eq_false c57; clear c57; obtain rfl := Option.some.inj H; have hz61 := cz5_ BK112
           go_wp2
           go_ret
           exact ⟨re_, hb_⟩
         ·
          rw [if_neg c56] at H; have c56b0 : decide (1 ≤ a1_1) = false := decide_eq_false c56; clear c56; obtain rfl := Option.some.inj H; have hz63 := cz5_ BK112
          go_wp2
          go_ret
          exact ⟨re_, hb_⟩
        ·
         rw [if_neg c55] at H; have c55b0 : (a1_0 == 2) = false := beq_eq_false_iff_ne.mpr c55; have c55b1 : (a1_0 != 2) = true := bne_iff_ne.mpr c55
         by_cases c64 : a1_0 = 3
         ·
          rw [if_pos c64] at H; have c64b0 : (a1_0 == 3) = true := beq_iff_eq.mpr c64; have c64b1 : (a1_0 != 3) = false := bne_eq_false_iff_eq.mpr c64; clear c64
          by_cases c65 : a1_1 ≥ 1
          ·
           rw [if_pos c65] at H; have c65b0 : decide (1 ≤ a1_1) = true := decide_eq_true c65; clear c65
           by_cases c66 : a1_1 < a0_1
           ·
            rw [if_pos c66] at H; have c66b0 : decide (a1_1 < a0_1) = true := decide_eq_true c66; clear c66
            by_cases c67 : a1_3 = 0
            ·
             rw [if_pos c67] at H; have c67b0 : (a1_3 == 0) = true := beq_iff_eq.mpr c67; have c67b1 : (a1_3 != 0) = false := bne_eq_false_iff_eq.mpr c67; clear c67; obtain rfl := Option.some.inj H; have hnb68 := NB112_111.out; have hnc68 := NB111_112.out; have hz69 := cz5_ BK112; have hz70 := cz3_ BK111
             go_wp2
             go_ret
             exact ⟨re_, hb_⟩
            ·
             rw [if_neg c67] at H; have c67b0 : (a1_3 == 0) = false := beq_eq_false_iff_ne.mpr c67; have c67b1 : (a1_3 != 0) = true := bne_iff_ne.mpr c67; obtain rfl := Option.some.inj H; have hnb71 := NB112_111.out; have hnc71 := NB111_112.out; have hz72 := cz5_ BK112; have hz73 := cz3_ BK111
             go_wp2
             go_ret
             exact ⟨re_, hb_⟩
           ·
            rw [if_neg c66] at H; have c66b0 : decide (a1_1 < a0_1) = false := decide_eq_false c66; clear c66; obtain rfl := Option.some.inj H; have hnb74 := NB112_111.out; have hnc74 := NB111_112.out; have hz75 := cz5_ BK112; have hz76 := cz3_ BK111
            go_wp2
            go_ret
            exact ⟨re_, hb_⟩
          ·
           rw [if_neg c65] at H; have c65b0 : decide (1 ≤ a1_1) = false := decide_eq_false c65; clear c65; obtain rfl := Option.some.inj H; have hz78 := cz5_ BK112
           go_wp2
           go_ret
           exact ⟨re_, hb_⟩
         ·
          rw [if_neg c64] at H; have c64b0 : (a1_0 == 3) = false := beq_eq_false_iff_ne.mpr c64; have c64b1 : (a1_0 != 3) = true := bne_iff_ne.mpr c64
          by_cases c79 : a1_0 = 4
          ·
           rw [if_pos c79] at H; have c79b0 : (a1_0 == 4) = true := beq_iff_eq.mpr c79; have c79b1 : (a1_0 != 4) = false := bne_eq_false_iff_eq.mpr c79; clear c79
           by_cases c80 : a1_1 ≥ 1
           ·
            rw [if_pos c80] at H; have c80b0 : decide (1 ≤ a1_1) = true := decide_eq_true c80; clear c80; obtain rfl := Option.some.inj H; have hz82 := cz5_ BK112
            go_wp2
            go_ret
            exact ⟨re_, hb_⟩
           ·
            rw [if_neg c80] at H; have c80b0 : decide (1 ≤ a1_1) = false := decide_eq_false c80; clear c80; obtain rfl := Option.some.inj H; have hz84 := cz5_ BK112
            go_wp2
            go_ret
            exact ⟨re_, hb_⟩
          ·
           rw [if_neg c79] at H; have c79b0 : (a1_0 == 4) = false := beq_eq_false_iff_ne.mpr c79; have c79b1 : (a1_0 != 4) = true := bne_iff_ne.mpr c79
           by_cases c85 : a1_0 = 5
           ·
            rw [if_pos c85] at H; have c85b0 : (a1_0 == 5) = true := beq_iff_eq.mpr c85; have c85b1 : (a1_0 != 5) = false := bne_eq_false_iff_eq.mpr c85; clear c85
            by_cases c86 : a1_1 = a0_1
            ·
             rw [if_pos c86] at H; have c86b0 : (a1_1 == a0_1) = true := beq_iff_eq.mpr c86; have c86b1 : (a1_1 != a0_1) = false := bne_eq_false_iff_eq.mpr c86; clear c86; obtain rfl := Option.some.inj H; have hnb87 := NB112_111.out; have hnc87 := NB111_112.out; have hz88 := cz5_ BK112; have hz89 := cz3_ BK111
             go_wp2
             go_ret
             exact ⟨re_, hb_⟩
            ·
             rw [if_neg c86] at H; have c86b0 : (a1_1 == a0_1) = false := beq_eq_false_iff_ne.mpr c86; have c86b1 : (a1_1 != a0_1) = true := bne_iff_ne.mpr c86; obtain rfl := Option.some.inj H; have hnb90 := NB112_111.out; have hnc90 := NB111_112.out; have hz91 := cz5_ BK112; have hz92 := cz3_ BK111
             go_wp2
             go_ret
             exact ⟨re_, hb_⟩
           ·
            rw [if_neg c85] at H; have c85b0 : (a1_0 == 5) = false := beq_eq_false_iff_ne.mpr c85; have c85b1 : (a1_0 != 5) = true := bne_iff_ne.mpr c85
            by_cases c93 : a1_0 = 6
            ·
             rw [if_pos c93] at H; have c93b0 : (a1_0 == 6) = true := beq_iff_eq.mpr c93; have c93b1 : (a1_0 != 6) = false := bne_eq_false_iff_eq.mpr c93; clear c93; obtain rfl := Option.some.inj H; have hz95 := cz5_ BK112
             go_wp2
             go_ret
             exact ⟨re_, hb_⟩
            ·
             rw [if_neg c93] at H; have c93b0 : (a1_0 == 6) = false := beq_eq_false_iff_ne.mpr c93; have c93b1 : (a1_0 != 6) = true := bne_iff_ne.mpr c93; obtain rfl := Option.some.inj H; have hz97 := cz5_ BK112
             go_wp2
             go_ret
             exact ⟨re_, hb_⟩

end Go.Proofs.Ytbiphljdommacaa.R

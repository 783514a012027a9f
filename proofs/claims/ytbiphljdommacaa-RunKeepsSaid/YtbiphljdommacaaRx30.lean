/- Contracts of Go functions and what they come to, over the translation of this seat: made by a program of this session (print2.py). -/
import Derived.Test.YtbiphljdommacaaS3
import Derived.Test.YtbiphljdommacaaSh
import Derived.Test.YtbiphljdommacaaRx6
import Derived.Test.YtbiphljdommacaaRx8
import Derived.Test.YtbiphljdommacaaRx24
import Derived.Test.YtbiphljdommacaaRx29
namespace Go.Proofs.Ytbiphljdommacaa.R
open Go.RowKit Go.Proofs.Ytbiphljdommacaa.S3 Go.Proofs.Ytbiphljdommacaa.Sh Go.Proofs.Ytbiphljdommacaa.Co Go.Proofs.Ytbiphljdommacaa.Ret Go.Proofs.Ytbiphljdommacaa.Plain Go.Proofs.YtbiphljdommacaaW.PrintWords Go.Proofs.YtbiphljdommacaaW.PrintLast Go.Proofs.YtbiphljdommacaaW.PrintMore Go.Proofs.Ytbiphljdommacaa.Ti
attribute [local go_sem] max2_int min2_int max_two min_two max_three min_three max_four min_four   -- for this text's walks alone
set_option linter.unusedVariables false
set_option linter.unusedSimpArgs false

/-! ### run_Check: function 15 -/
mutual
def run_Check.j0 : Nat → Bool → Int → ByteArray → List (S60) → Int → List (S35) → Option (Int)
 | 0, _, _, _, _, _, _ => none
 | k + 1, x40, x358000, x358001, x358002, x358003, x358004 => if x40 = true then (some 8) else (run_Check.l0 k x358002 (x358002.length : Int) 0 x358000 x358001 x358002 x358003 x358004)
def run_Check.l0 : Nat → List (S60) → Int → Int → Int → ByteArray → List (S60) → Int → List (S35) → Option (Int)
 | 0, _, _, _, _, _, _, _, _ => none
 | k + 1, x43, x44, x45, x358000, x358001, x358002, x358003, x358004 => if x45 < x44 then (if 0 ≤ x45 then (if x45 < (x43.length : Int) then (if x45 < (x358004.length : Int) then ((task_Check.f k ((rd_T60 x43 x45).f0) ((rd_T60 x43 x45).f1) ((rd_T60 x43 x45).f2) ((rd_T35 x358004 x45).f0) ((rd_T35 x358004 x45).f1) ((rd_T35 x358004 x45).f2) ((rd_T35 x358004 x45).f3) ((rd_T35 x358004 x45).f4)).bind fun t362 => (if t362 = 0 then (run_Check.l0 k x43 x44 (wrap64 (x45 + 1)) x358000 x358001 x358002 x358003 x358004) else (some 8))) else (none)) else (none)) else (none)) else ((run_stands.f k x358000 x358001 x358002 x358003 x358004).bind fun t363 => (if t363 = true then (some 0) else (some 8)))
end
def run_Check.f (k : Nat) (a0_0 : Int) (a0_1 : ByteArray) (l0_2 : List (S60)) (a0_3 : Int) (l0_4 : List (S35)) : Option (Int) := if a0_0 < 0 then (run_Check.j0 k true a0_0 a0_1 l0_2 a0_3 l0_4) else (if a0_0 > 1099511627776 then (run_Check.j0 k true a0_0 a0_1 l0_2 a0_3 l0_4) else (if (a0_1.size : Int) < 1 then (run_Check.j0 k true a0_0 a0_1 l0_2 a0_3 l0_4) else (if (a0_1.size : Int) > 24 then (run_Check.j0 k true a0_0 a0_1 l0_2 a0_3 l0_4) else ((dag_Check.f k l0_2).bind fun t358 => (if t358 = 0 then (run_Check.j0 k ((l0_4.length : Int) != (l0_2.length : Int)) a0_0 a0_1 l0_2 a0_3 l0_4) else (run_Check.j0 k true a0_0 a0_1 l0_2 a0_3 l0_4))))))
theorem run_Check.mono_l : ∀ k, (∀ y0 y1 y2 y3 y4 y5, LeO (run_Check.j0 k y0 y1 y2 y3 y4 y5) (run_Check.j0 (k + 1) y0 y1 y2 y3 y4 y5)) ∧ (∀ y0 y1 y2 y3 y4 y5 y6 y7, LeO (run_Check.l0 k y0 y1 y2 y3 y4 y5 y6 y7) (run_Check.l0 (k + 1) y0 y1 y2 y3 y4 y5 y6 y7))
 | 0 => ⟨fun _ _ _ _ _ _ r h => by simp [run_Check.j0] at h, fun _ _ _ _ _ _ _ _ r h => by simp [run_Check.l0] at h⟩
 | k + 1 => by
  obtain ⟨ih0, ih1⟩ := run_Check.mono_l k
  refine ⟨?_, ?_⟩
  ·
   intro y0 y1 y2 y3 y4 y5
   unfold run_Check.j0
   repeat' first
   | (with_reducible exact LeO.refl _)
   | (with_reducible refine LeO.ite ?_ ?_)
   | (with_reducible refine LeO.bind ?_ (fun _ => ?_))
   | exact ih0 _ _ _ _ _ _
   | exact ih1 _ _ _ _ _ _ _ _
   | exact dag_Check.mono _ _
   | exact run_stands.mono _ _ _ _ _ _
   | exact task_Check.mono _ _ _ _ _ _ _ _ _
   | exact LeO.none _
   | refine LeO.ite ?_ ?_
   | refine LeO.bind ?_ (fun _ => ?_)
  ·
   intro y0 y1 y2 y3 y4 y5 y6 y7
   unfold run_Check.l0
   repeat' first
   | (with_reducible exact LeO.refl _)
   | (with_reducible refine LeO.ite ?_ ?_)
   | (with_reducible refine LeO.bind ?_ (fun _ => ?_))
   | exact ih0 _ _ _ _ _ _
   | exact ih1 _ _ _ _ _ _ _ _
   | exact dag_Check.mono _ _
   | exact run_stands.mono _ _ _ _ _ _
   | exact task_Check.mono _ _ _ _ _ _ _ _ _
   | exact LeO.none _
   | refine LeO.ite ?_ ?_
   | refine LeO.bind ?_ (fun _ => ?_)
theorem run_Check.mono : ∀ a0 a1 a2 a3 a4 k, LeO (run_Check.f k a0 a1 a2 a3 a4) (run_Check.f (k + 1) a0 a1 a2 a3 a4) := by
 intro a0 a1 a2 a3 a4 k
 obtain ⟨ih0, ih1⟩ := run_Check.mono_l k
 unfold run_Check.f
 repeat' first
   | (with_reducible exact LeO.refl _)
   | (with_reducible refine LeO.ite ?_ ?_)
   | (with_reducible refine LeO.bind ?_ (fun _ => ?_))
   | exact ih0 _ _ _ _ _ _
   | exact ih1 _ _ _ _ _ _ _ _
   | exact dag_Check.mono _ _
   | exact run_stands.mono _ _ _ _ _ _
   | exact task_Check.mono _ _ _ _ _ _ _ _ _
   | exact LeO.none _
   | refine LeO.ite ?_ ?_
   | refine LeO.bind ?_ (fun _ => ?_)
def run_Check.T6 : Bool × List (List Nat × List Nat) := (true, [([], []), ([], []), ([1], [1]), ([], []), ([2, 3], [2, 3]), ([4], [4]), ([0, 5], [0, 5]), ([6], [6])])
def run_Check.B6 : List Nat := [0, 0, 2, 0, 14, 30, 63, 127]
theorem run_Check.tab6 : rtab .any (opsOf Try.f15 6) = run_Check.T6 := by kernel_rfl
theorem run_Check.bits6 : waitsOk run_Check.T6.2 run_Check.B6 = true := by kernel_rfl
set_option maxHeartbeats 8000000 in
set_option maxRecDepth 100000 in
theorem run_Check.calls (k : Nat) (a0_0 : Int) (a0_1 : ByteArray) (A0_2 : Option Addr) (c0_2 : Nat) (l0_2 : List (S60)) (a0_3 : Int) (A0_4 : Option Addr) (c0_4 : Nat) (l0_4 : List (S35)) (r : Int) (w : World) (hr0_2 : Kd.C k60 w A0_2 l0_2.length l0_2) (hc0_2 : l0_2.length ≤ c0_2) (hr0_4 : Kd.C k35 w A0_4 l0_4.length l0_4) (hc0_4 : l0_4.length ≤ c0_4) (h : run_Check.f k a0_0 a0_1 l0_2 a0_3 l0_4 = some r) :
  Calls Try.prog 15 #[.agg #[.int .i64 a0_0, .string a0_1, .slice A0_2 l0_2.length c0_2, .int .u8 a0_3, .slice A0_4 l0_4.length c0_4]] w fun e w' => e = .returned (.int .i64 r) ∧ Below w.heap.size w w' := by
 have hu29 := Try.underlying29; have hu24 := Try.underlying24; have hu60 := Try.underlying60; have hu35 := Try.underlying35; have HR0_2 := A_ hr0_2; have HC0_2 := A_ hc0_2; clear hr0_2 hc0_2; have HR0_4 := A_ hr0_4; have HC0_4 := A_ hc0_4; clear hr0_4 hc0_4; have HB := A_ (Below.refl w.heap.size w); have H : (if a0_0 < 0 then (run_Check.j0 k true a0_0 a0_1 l0_2 a0_3 l0_4) else (if a0_0 > 1099511627776 then (run_Check.j0 k true a0_0 a0_1 l0_2 a0_3 l0_4) else (if (a0_1.size : Int) < 1 then (run_Check.j0 k true a0_0 a0_1 l0_2 a0_3 l0_4) else (if (a0_1.size : Int) > 24 then (run_Check.j0 k true a0_0 a0_1 l0_2 a0_3 l0_4) else ((dag_Check.f k l0_2).bind fun t358 => (if t358 = 0 then (run_Check.j0 k ((l0_4.length : Int) != (l0_2.length : Int)) a0_0 a0_1 l0_2 a0_3 l0_4) else (run_Check.j0 k true a0_0 a0_1 l0_2 a0_3 l0_4))))))) = some r := h; clear h; have HC2 := Aside0.mk H; clear H
 go_enter Try.func15, Try.ntmps15
 go_upto_region 1 with (first | ((with_reducible refine gd_ 1 rfl ?_); (try (refine gate_guard (by rfl) ?_; dsimp only)); refine by0_ 1 #[.int .i64 a0_0, .string a0_1, .slice A0_2 l0_2.length c0_2, .int .u8 a0_3, .slice A0_4 l0_4.length c0_4] 29 ?_; clear HB; intro gb357 w3 BK357 GE357 HB; have GW357 := GE357))
 (try simp only [Act.put, sa_, s0_, s1_])
 go_cut [40] (fun v40 wc => ∃ (kq : Nat) (x40_1 : Bool), v40 = .bool x40_1 ∧ Aside0 (run_Check.j0 kq x40_1 a0_0 a0_1 l0_2 a0_3 l0_4 = some r) ∧ Aside0 (kq ≤ k) ∧ Aside0 (wc.heap[gb357]? = some (.cells #[.int .i64 a0_0, .string a0_1, (.slice A0_2 l0_2.length c0_2), .int .u8 a0_3, (.slice A0_4 l0_4.length c0_4)] 29 (0, 0))) ∧ Aside0 (Below w.heap.size w wc))
 case first =>
  have H := HC2.out; clear HC2
  by_cases c4 : a0_0 < 0
  ·
   rw [if_pos c4] at H; have c4b0 : decide (a0_0 < 0) = true := decide_eq_true c4; clear c4
   (first | rw [c4b0] | (simp only [i64_w, i32_w]; rw [c4b0]) | skip)
   have H' := Aside0.mk H; clear H; have hz5 := cz5_ BK357
   go_wp2
   go_meet
   case rel => exact ⟨_, (true), rl_, H', ⟨le_⟩, ⟨bY_ BK357⟩, ⟨hb_⟩⟩
  ·
   rw [if_neg c4] at H; have c4b0 : decide (a0_0 < 0) = false := decide_eq_false c4; clear c4
   (first | rw [c4b0] | (simp only [i64_w, i32_w]; rw [c4b0]) | skip)
   by_cases c6 : a0_0 > 1099511627776
   ·
    rw [if_pos c6] at H; have c6b0 : decide (1099511627776 < a0_0) = true := decide_eq_true c6; clear c6; have H' := Aside0.mk H; clear H; have hz7 := cz5_ BK357
    go_wp2
    go_meet
    case rel => exact ⟨_, (true), rl_, H', ⟨le_⟩, ⟨bY_ BK357⟩, ⟨hb_⟩⟩
   ·
    rw [if_neg c6] at H; have c6b0 : decide (1099511627776 < a0_0) = false := decide_eq_false c6; clear c6
    by_cases c8 : (a0_1.size : Int) < 1
    ·
     rw [if_pos c8] at H; have c8b0 : decide ((a0_1.size : Int) < 1) = true := decide_eq_true c8; have c8b1 : decide (a0_1.size < 1) = true := decide_eq_true (by omega); clear c8; have H' := Aside0.mk H; clear H; have hz9 := cz5_ BK357
     go_wp2
     go_meet
     case rel => exact ⟨_, (true), rl_, H', ⟨le_⟩, ⟨bY_ BK357⟩, ⟨hb_⟩⟩
    ·
     rw [if_neg c8] at H; have c8b0 : decide ((a0_1.size : Int) < 1) = false := decide_eq_false c8; have c8b1 : decide (a0_1.size < 1) = false := decide_eq_false (by omega); clear c8
     by_cases c10 : (a0_1.size : Int) > 24
     ·
      rw [if_pos c10] at H; have c10b0 : decide (24 < (a0_1.size : Int)) = true := decide_eq_true c10; have c10b1 : decide (24 < a0_1.size) = true := decide_eq_true (by omega); clear c10; have H' := Aside0.mk H; clear H; have hz11 := cz5_ BK357
      go_wp2
      go_meet
      case rel => exact ⟨_, (true), rl_, H', ⟨le_⟩, ⟨bY_ BK357⟩, ⟨hb_⟩⟩
     ·
      rw [if_neg c10] at H; have c10b0 : decide (24 < (a0_1.size : Int)) = false := decide_eq_false c10; have c10b1 : decide (24 < a0_1.size) = false := decide_eq_false (by omega); clear c10; replace H := Option.bind_eq_some_iff.mp H; obtain ⟨t358, A120, H⟩ := H; replace H : (if t358 = 0 then (run_Check.j0 k ((l0_4.length : Int) != (l0_2.length : Int)) a0_0 a0_1 l0_2 a0_3 l0_4) else (run_Check.j0 k true a0_0 a0_1 l0_2 a0_3 l0_4)) = some r := H; have A12 := Aside0.mk A120; clear A120
      by_cases c13 : t358 = 0
      ·
       rw [if_pos c13] at H; have c13b0 : (t358 == 0) = true := beq_iff_eq.mpr c13; have c13b1 : (t358 != 0) = false := bne_eq_false_iff_eq.mpr c13; clear c13; have H' := Aside0.mk H; clear H; have hz14 := cz5_ BK357
       go_wp2_with (first | (go_at_call 24; (with_reducible refine (dag_Check.calls k _ _ l0_2 t358 _ ?side1 ?side2 A12.out).mono ?_); (case side1 => exact cB_ HR0_2); (case side2 => exact HC0_2.out); rintro e w15 ⟨rfl, hb⟩; replace BK357 := bs_ BK357 hb; replace HB := bB_ hb; (try clear hb); have hz16 := cz5_ BK357))
       go_meet
       case rel => exact ⟨_, (((l0_4.length : Int) != (l0_2.length : Int))), rl_, H', ⟨le_⟩, ⟨bY_ BK357⟩, ⟨hb_⟩⟩
      ·
       rw [if_neg c13] at H; have c13b0 : (t358 == 0) = false := beq_eq_false_iff_ne.mpr c13; have c13b1 : (t358 != 0) = true := bne_iff_ne.mpr c13; have H' := Aside0.mk H; clear H; have hz17 := cz5_ BK357
       go_wp2_with (first | (go_at_call 24; (with_reducible refine (dag_Check.calls k _ _ l0_2 t358 _ ?side1 ?side2 A12.out).mono ?_); (case side1 => exact cB_ HR0_2); (case side2 => exact HC0_2.out); rintro e w18 ⟨rfl, hb⟩; replace BK357 := bs_ BK357 hb; replace HB := bB_ hb; (try clear hb)))
       go_meet
       case rel => exact ⟨_, (true), rl_, H', ⟨le_⟩, ⟨bY_ BK357⟩, ⟨hb_⟩⟩
 case rest =>
  clear HC2; (try clear c4); (try clear c4b0); (try clear c6); (try clear c6b0); (try clear c8); (try clear c8b0); (try clear c8b1); (try clear c10); (try clear c10b0); (try clear c10b1); (try clear c13); (try clear c13b0); (try clear c13b1); (try clear hz11); (try clear hz14); (try clear hz16); (try clear hz17); (try clear hz5); (try clear hz7); (try clear hz9)
  (try clear hz5); (try clear hz7); (try clear hz9); obtain ⟨kq, x40_1, rfl, HA, HJ1, BK357, HB⟩ := hcut
  cases kq with
  | zero => exact absurd HA.out (by simp [run_Check.j0])
  | succ kj1 =>
   have H := HA.out; clear HA; simp only [run_Check.j0] at H
   by_cases c19 : x40_1 = true
   ·
    subst c19; have H1 : (some 8) = some r := by rw [if_pos rfl] at H; exact H
    clear H; have H := H1; clear H1; obtain rfl := Option.some.inj H
    go_wp2
    go_ret
    exact ⟨re_, hb_⟩
   ·
    replace c19 := Bool.eq_false_iff.mpr c19; subst c19; have H1 : (run_Check.l0 kj1 l0_2 (l0_2.length : Int) 0 a0_0 a0_1 l0_2 a0_3 l0_4) = some r := by rw [if_neg (show ¬ (false = true) by decide)] at H; exact H
    clear H; have H := H1; clear H1; have H' := Aside0.mk H; clear H; have hz20 := cz5_ BK357
    go_wp2
    go_loopg [45] kj1 (fun kq v45 w' => ∃ (x45_2 : Int), v45 = .int .i64 x45_2 ∧ Aside0 (run_Check.l0 kq l0_2 (l0_2.length : Int) x45_2 a0_0 a0_1 l0_2 a0_3 l0_4 = some r) ∧ Aside0 (kq ≤ kj1) ∧ Aside0 (w'.heap[gb357]? = some (.cells #[.int .i64 a0_0, .string a0_1, (.slice A0_2 l0_2.length c0_2), .int .u8 a0_3, (.slice A0_4 l0_4.length c0_4)] 29 (0, 0))) ∧ Aside0 (Below w.heap.size w w'))
    case atStart => exact ⟨(0), rl_, H', ⟨Nat.le_refl _⟩, ⟨bY_ BK357⟩, ⟨hb_⟩⟩
    case round =>
     clear H'; (try clear c4); (try clear c4b0); (try clear c6); (try clear c6b0); (try clear c8); (try clear c8b0); (try clear c8b1); (try clear c10); (try clear c10b0); (try clear c10b1); (try clear c13); (try clear c13b0); (try clear c13b1); (try clear c19); (try clear hz11); (try clear hz14); (try clear hz16); (try clear hz17); (try clear hz20); (try clear hz5); (try clear hz7); (try clear hz9)
     (try clear hz17); (try clear hz20); (try clear hz5); (try clear hz7); (try clear hz9); obtain ⟨x45_2, rfl, HA, HK2, BK357, HB⟩ := hrel
     cases gk with
     | zero => exact absurd HA.out (by simp [run_Check.l0])
     | succ k2 =>
      have H := HA.out; clear HA; simp only [run_Check.l0] at H
      by_cases c21 : x45_2 < (l0_2.length : Int)
      ·
       rw [if_pos c21] at H; have c21b0 : decide (x45_2 < (l0_2.length : Int)) = true := decide_eq_true c21; clear c21
       by_cases c22 : 0 ≤ x45_2
       ·
        rw [if_pos c22] at H; have c22b0 : decide (0 ≤ x45_2) = true := decide_eq_true c22; clear c22
        by_cases c23 : x45_2 < (l0_2.length : Int)
        ·
         rw [if_pos c23] at H; have c23b0 : decide (x45_2 < (l0_2.length : Int)) = true := decide_eq_true c23; clear c23
         by_cases c24 : x45_2 < (l0_4.length : Int)
         ·
          rw [if_pos c24] at H; have c24b0 : decide (x45_2 < (l0_4.length : Int)) = true := decide_eq_true c24; clear c24; replace H := Option.bind_eq_some_iff.mp H; obtain ⟨t362, A250, H⟩ := H; replace H : (if t362 = 0 then (run_Check.l0 k2 l0_2 (l0_2.length : Int) (wrap64 (x45_2 + 1)) a0_0 a0_1 l0_2 a0_3 l0_4) else (some 8)) = some r := H; have A25 := Aside0.mk A250; clear A250
          by_cases c26 : t362 = 0
          ·
           rw [if_pos c26] at H; have c26b0 : (t362 == 0) = true := beq_iff_eq.mpr c26; have c26b1 : (t362 != 0) = false := bne_eq_false_iff_eq.mpr c26; clear c26; have H' := Aside0.mk H; clear H; have p359 : 0 ≤ (x45_2 : Int) := od_; have q359 : x45_2 < (l0_2.length : Int) := od_; obtain ⟨ad359, A359_0, c359_0, e359, hx359_0, hx359_1, hx359_2, hl359_0, hi359_0⟩ := at_T60 HR0_2.out x45_2 p359 q359
           cases e359
           replace hx359_0 := cl_ HB.out hx359_0; replace hx359_1 := cl_ HB.out hx359_1; replace hx359_2 := cl_ HB.out hx359_2; have HR359_0 := A_ hi359_0; have HC359_0 := A_ hl359_0; clear hi359_0 hl359_0; replace p359 := eq_true p359; replace q359 := eq_true q359
           try go_wp2_with (first | ((with_reducible refine gd_ 4 rfl ?_); (try (refine gate_guard (by rfl) ?_; dsimp only)); refine by1_ 4 #[.slice none 0 0, .int .i64 0, .int .i64 0] 60 BK357 ?_; clear HB BK357; intro gb360 w27 BK360 GE360 HB NB357_360 NB360_357 BK357; have hnb28 := NB360_357.out; have hnc28 := NB357_360.out; have hz29 := cz3_ BK360))
           have n0_ : Aside0 ((((w27.setCell ⟨gb360, 0, none⟩ (.slice A359_0 ((rd_T60 l0_2 x45_2).f0).length c359_0)).setCell ⟨gb360, 1, none⟩ (.int .i64 ((rd_T60 l0_2 x45_2).f1))).setCell ⟨gb360, 2, none⟩ (.int .i64 ((rd_T60 l0_2 x45_2).f2))).heap[gb357]? = some (.cells #[.int .i64 a0_0, .string a0_1, .slice (some ad359) l0_2.length c0_2, .int .u8 a0_3, .slice A0_4 l0_4.length c0_4] 29 (0, 0))) := ⟨bZ_ BK357⟩; have n1_ : Aside0 ((((w27.setCell ⟨gb360, 0, none⟩ (.slice A359_0 ((rd_T60 l0_2 x45_2).f0).length c359_0)).setCell ⟨gb360, 1, none⟩ (.int .i64 ((rd_T60 l0_2 x45_2).f1))).setCell ⟨gb360, 2, none⟩ (.int .i64 ((rd_T60 l0_2 x45_2).f2))).heap[gb360]? = some (.cells #[.slice A359_0 ((rd_T60 l0_2 x45_2).f0).length c359_0, .int .i64 ((rd_T60 l0_2 x45_2).f1), .int .i64 ((rd_T60 l0_2 x45_2).f2)] 60 (0, 0))) := ⟨bP_ BK360⟩
           have n2_ : Aside0 (Below w.heap.size w (((w27.setCell ⟨gb360, 0, none⟩ (.slice A359_0 ((rd_T60 l0_2 x45_2).f0).length c359_0)).setCell ⟨gb360, 1, none⟩ (.int .i64 ((rd_T60 l0_2 x45_2).f1))).setCell ⟨gb360, 2, none⟩ (.int .i64 ((rd_T60 l0_2 x45_2).f2)))) := ⟨hb_⟩; (try clear BK357); (try clear BK360); (try clear HB); generalize (((w27.setCell ⟨gb360, 0, none⟩ (.slice A359_0 ((rd_T60 l0_2 x45_2).f0).length c359_0)).setCell ⟨gb360, 1, none⟩ (.int .i64 ((rd_T60 l0_2 x45_2).f1))).setCell ⟨gb360, 2, none⟩ (.int .i64 ((rd_T60 l0_2 x45_2).f2))) = w30 at n0_ n1_ n2_ ⊢; have BK357 := n0_; have BK360 := n1_; have HB := n2_; clear n0_ n1_ n2_; replace BK357 := A_ (blk_drew BK357.out); replace BK360 := A_ (blk_drew BK360.out); replace HB := A_ (below_drew1 HB.out); have p361 : 0 ≤ (x45_2 : Int) := od_; have q361 : x45_2 < (l0_4.length : Int) := od_; obtain ⟨ad361, e361, hx361_0, hx361_1, hx361_2, hx361_3, hx361_4⟩ := at_T35 HR0_4.out x45_2 p361 q361; have hw361_4 := hx361_4; have hw361_3 := hx361_3; have hw361_2 := hx361_2; have hw361_1 := hx361_1; have hw361_0 := hx361_0
           cases e361
           replace hx361_0 := cl_ HB.out hx361_0; replace hx361_1 := cl_ HB.out hx361_1; replace hx361_2 := cl_ HB.out hx361_2; replace hx361_3 := cl_ HB.out hx361_3; replace hx361_4 := cl_ HB.out hx361_4; replace p361 := eq_true p361; replace q361 := eq_true q361; refine start_ (n := 8) (S := fun w' => w'.cell? ⟨gb360, 0, none⟩ = some (.slice A359_0 ((rd_T60 l0_2 x45_2).f0).length c359_0) ∧ w'.cell? ⟨gb360, 1, none⟩ = some (.int .i64 ((rd_T60 l0_2 x45_2).f1)) ∧ w'.cell? ⟨gb360, 2, none⟩ = some (.int .i64 ((rd_T60 l0_2 x45_2).f2)) ∧ w'.cell? ⟨gb357, 0, none⟩ = some (.int .i64 a0_0) ∧ w'.cell? ⟨gb357, 1, none⟩ = some (.string a0_1) ∧ w'.cell? ⟨gb357, 2, none⟩ = some (.slice (some ad359) l0_2.length c0_2) ∧ w'.cell? ⟨gb357, 3, none⟩ = some (.int .u8 a0_3) ∧ w'.cell? ⟨gb357, 4, none⟩ = some (.slice (some ad361) l0_4.length c0_4) ∧ w'.cell? (ad361.add ((x45_2).toNat * 5)) = some (.int .u8 ((rd_T35 l0_4 x45_2).f0)) ∧ w'.cell? ⟨(ad361.add ((x45_2).toNat * 5)).block, (ad361.add ((x45_2).toNat * 5)).off + 1, none⟩ = some (.int .i64 ((rd_T35 l0_4 x45_2).f1)) ∧ w'.cell? ⟨(ad361.add ((x45_2).toNat * 5)).block, (ad361.add ((x45_2).toNat * 5)).off + 2, none⟩ = some (.int .i64 ((rd_T35 l0_4 x45_2).f2)) ∧ w'.cell? ⟨(ad361.add ((x45_2).toNat * 5)).block, (ad361.add ((x45_2).toNat * 5)).off + 3, none⟩ = some (.int .i64 ((rd_T35 l0_4 x45_2).f3)) ∧ w'.cell? ⟨(ad361.add ((x45_2).toNat * 5)).block, (ad361.add ((x45_2).toNat * 5)).off + 4, none⟩ = some (.int .i64 ((rd_T35 l0_4 x45_2).f4))) (ds := []) (b_ 8 0) (by kernel_rfl) rfl rfl ⟨ck_ BK360 0, ck_ BK360 1, ck_ BK360 2, ck_ BK357 0, ck_ BK357 1, ck_ BK357 2, ck_ BK357 3, ck_ BK357 4, (cl_ HB.out hw361_0), (cl_ HB.out hw361_1), (cl_ HB.out hw361_2), (cl_ HB.out hw361_3), (cl_ HB.out hw361_4)⟩ (fun hHeld => ?_); refine with_tabW run_Check.tab6 run_Check.bits6 (fun HT_ HW_ => ?_)
           generalize w30.drew = w31 at BK357 BK360 HB hx361_0 hx361_1 hx361_2 hx361_3 hx361_4 hHeld ⊢; refine qX_ 1 51 (b_ 8 2) ?_; refine qX_ 3 53 (b_ 8 10) ?_; refine uX_ 0 50 (b_ 8 11) hHeld ?_; refine uX_ 2 52 (b_ 8 15) hHeld ?_; refine qX_ 4 54 (b_ 8 31) ?_; refine uX_ 5 55 (b_ 8 63) hHeld ?_; refine one_ (i := 6) (N := some 56) (b_ 8 127) rfl rfl (one_of HT_.out (by kernel_rfl)) (by decide) (fun K hK => ?_); refine goes_ Try.func36 (by kernel_rfl) rfl #[.agg #[.slice A359_0 ((rd_T60 l0_2 x45_2).f0).length c359_0, .int .i64 ((rd_T60 l0_2 x45_2).f1), .int .i64 ((rd_T60 l0_2 x45_2).f2)], .agg #[.int .u8 ((rd_T35 l0_4 x45_2).f0), .int .i64 ((rd_T35 l0_4 x45_2).f1), .int .i64 ((rd_T35 l0_4 x45_2).f2), .int .i64 ((rd_T35 l0_4 x45_2).f3), .int .i64 ((rd_T35 l0_4 x45_2).f4)]] (by rfl) rfl rfl ga_ ?_; (with_reducible refine (task_Check.calls k2 _ _ ((rd_T60 l0_2 x45_2).f0) ((rd_T60 l0_2 x45_2).f1) ((rd_T60 l0_2 x45_2).f2) ((rd_T35 l0_4 x45_2).f0) ((rd_T35 l0_4 x45_2).f1) ((rd_T35 l0_4 x45_2).f2) ((rd_T35 l0_4 x45_2).f3) ((rd_T35 l0_4 x45_2).f4) t362 _ ?side1 ?side2 A25.out).mono ?_)
           (case side1 => exact cB_ HR359_0); (case side2 => exact HC359_0.out); rintro e w32 ⟨rfl, hb⟩; refine ⟨_, rfl, ?_⟩; replace BK357 := bs_ BK357 hb; replace BK360 := bs_ BK360 hb; replace HB := bB_ hb; (try clear hb); refine hK.out _ _ ⟨ck_ BK360 0, ck_ BK360 1, ck_ BK360 2, ck_ BK357 0, ck_ BK357 1, ck_ BK357 2, ck_ BK357 3, ck_ BK357 4, cW_ hw361_0, cW_ hw361_1, cW_ hw361_2, cW_ hw361_3, cW_ hw361_4⟩ (fun hHeld => ?_); clear hK K; refine norm_ (a' := ?_) ?_ ?_; rotate_left
           ·
            show Act.put _ (some 56) _ = _; simp only [Act.put, sa_, s0_, s1_, i64_w, i32_w]
            rfl
           refine qX_ 7 57 (b_ 8 255) ?_; refine done_ (done_of HT_.out (by kernel_rfl)) ?_
           try go_wp2
           go_roundg k2
           case measure => have := HJ1.out; have := HK2.out; omega
           case rel => exact ⟨(wrap64 (x45_2 + 1)), rl_, H', ⟨by have := HJ1.out; have := HK2.out; omega⟩, ⟨bY_ BK357⟩, ⟨hb_⟩⟩
          ·
           rw [if_neg c26] at H; have c26b0 : (t362 == 0) = false := beq_eq_false_iff_ne.mpr c26; have c26b1 : (t362 != 0) = true := bne_iff_ne.mpr c26; obtain rfl := Option.some.inj H; have p359 : 0 ≤ (x45_2 : Int) := od_; have q359 : x45_2 < (l0_2.length : Int) := od_; obtain ⟨ad359, A359_0, c359_0, e359, hx359_0, hx359_1, hx359_2, hl359_0, hi359_0⟩ := at_T60 HR0_2.out x45_2 p359 q359
           cases e359
           replace hx359_0 := cl_ HB.out hx359_0; replace hx359_1 := cl_ HB.out hx359_1; replace hx359_2 := cl_ HB.out hx359_2; have HR359_0 := A_ hi359_0; have HC359_0 := A_ hl359_0; clear hi359_0 hl359_0; replace p359 := eq_true p359; replace q359 := eq_true q359
           try go_wp2_with (first | ((with_reducible refine gd_ 4 rfl ?_); (try (refine gate_guard (by rfl) ?_; dsimp only)); refine by1_ 4 #[.slice none 0 0, .int .i64 0, .int .i64 0] 60 BK357 ?_; clear HB BK357; intro gb360 w33 BK360 GE360 HB NB357_360 NB360_357 BK357; have hnb34 := NB360_357.out; have hnc34 := NB357_360.out; have hz35 := cz3_ BK360))
           have n0_ : Aside0 ((((w33.setCell ⟨gb360, 0, none⟩ (.slice A359_0 ((rd_T60 l0_2 x45_2).f0).length c359_0)).setCell ⟨gb360, 1, none⟩ (.int .i64 ((rd_T60 l0_2 x45_2).f1))).setCell ⟨gb360, 2, none⟩ (.int .i64 ((rd_T60 l0_2 x45_2).f2))).heap[gb357]? = some (.cells #[.int .i64 a0_0, .string a0_1, .slice (some ad359) l0_2.length c0_2, .int .u8 a0_3, .slice A0_4 l0_4.length c0_4] 29 (0, 0))) := ⟨bZ_ BK357⟩; have n1_ : Aside0 ((((w33.setCell ⟨gb360, 0, none⟩ (.slice A359_0 ((rd_T60 l0_2 x45_2).f0).length c359_0)).setCell ⟨gb360, 1, none⟩ (.int .i64 ((rd_T60 l0_2 x45_2).f1))).setCell ⟨gb360, 2, none⟩ (.int .i64 ((rd_T60 l0_2 x45_2).f2))).heap[gb360]? = some (.cells #[.slice A359_0 ((rd_T60 l0_2 x45_2).f0).length c359_0, .int .i64 ((rd_T60 l0_2 x45_2).f1), .int .i64 ((rd_T60 l0_2 x45_2).f2)] 60 (0, 0))) := ⟨bP_ BK360⟩
           have n2_ : Aside0 (Below w.heap.size w (((w33.setCell ⟨gb360, 0, none⟩ (.slice A359_0 ((rd_T60 l0_2 x45_2).f0).length c359_0)).setCell ⟨gb360, 1, none⟩ (.int .i64 ((rd_T60 l0_2 x45_2).f1))).setCell ⟨gb360, 2, none⟩ (.int .i64 ((rd_T60 l0_2 x45_2).f2)))) := ⟨hb_⟩; (try clear BK357); (try clear BK360); (try clear HB); generalize (((w33.setCell ⟨gb360, 0, none⟩ (.slice A359_0 ((rd_T60 l0_2 x45_2).f0).length c359_0)).setCell ⟨gb360, 1, none⟩ (.int .i64 ((rd_T60 l0_2 x45_2).f1))).setCell ⟨gb360, 2, none⟩ (.int .i64 ((rd_T60 l0_2 x45_2).f2))) = w36 at n0_ n1_ n2_ ⊢; have BK357 := n0_; have BK360 := n1_; have HB := n2_; clear n0_ n1_ n2_; replace BK357 := A_ (blk_drew BK357.out); replace BK360 := A_ (blk_drew BK360.out); replace HB := A_ (below_drew1 HB.out); have p361 : 0 ≤ (x45_2 : Int) := od_; have q361 : x45_2 < (l0_4.length : Int) := od_; obtain ⟨ad361, e361, hx361_0, hx361_1, hx361_2, hx361_3, hx361_4⟩ := at_T35 HR0_4.out x45_2 p361 q361; have hw361_4 := hx361_4; have hw361_3 := hx361_3; have hw361_2 := hx361_2; have hw361_1 := hx361_1; have hw361_0 := hx361_0
           cases e361
           replace hx361_0 := cl_ HB.out hx361_0; replace hx361_1 := cl_ HB.out hx361_1; replace hx361_2 := cl_ HB.out hx361_2; replace hx361_3 := cl_ HB.out hx361_3; replace hx361_4 := cl_ HB.out hx361_4; replace p361 := eq_true p361; replace q361 := eq_true q361; refine start_ (n := 8) (S := fun w' => w'.cell? ⟨gb360, 0, none⟩ = some (.slice A359_0 ((rd_T60 l0_2 x45_2).f0).length c359_0) ∧ w'.cell? ⟨gb360, 1, none⟩ = some (.int .i64 ((rd_T60 l0_2 x45_2).f1)) ∧ w'.cell? ⟨gb360, 2, none⟩ = some (.int .i64 ((rd_T60 l0_2 x45_2).f2)) ∧ w'.cell? ⟨gb357, 0, none⟩ = some (.int .i64 a0_0) ∧ w'.cell? ⟨gb357, 1, none⟩ = some (.string a0_1) ∧ w'.cell? ⟨gb357, 2, none⟩ = some (.slice (some ad359) l0_2.length c0_2) ∧ w'.cell? ⟨gb357, 3, none⟩ = some (.int .u8 a0_3) ∧ w'.cell? ⟨gb357, 4, none⟩ = some (.slice (some ad361) l0_4.length c0_4) ∧ w'.cell? (ad361.add ((x45_2).toNat * 5)) = some (.int .u8 ((rd_T35 l0_4 x45_2).f0)) ∧ w'.cell? ⟨(ad361.add ((x45_2).toNat * 5)).block, (ad361.add ((x45_2).toNat * 5)).off + 1, none⟩ = some (.int .i64 ((rd_T35 l0_4 x45_2).f1)) ∧ w'.cell? ⟨(ad361.add ((x45_2).toNat * 5)).block, (ad361.add ((x45_2).toNat * 5)).off + 2, none⟩ = some (.int .i64 ((rd_T35 l0_4 x45_2).f2)) ∧ w'.cell? ⟨(ad361.add ((x45_2).toNat * 5)).block, (ad361.add ((x45_2).toNat * 5)).off + 3, none⟩ = some (.int .i64 ((rd_T35 l0_4 x45_2).f3)) ∧ w'.cell? ⟨(ad361.add ((x45_2).toNat * 5)).block, (ad361.add ((x45_2).toNat * 5)).off + 4, none⟩ = some (.int .i64 ((rd_T35 l0_4 x45_2).f4))) (ds := []) (b_ 8 0) (by kernel_rfl) rfl rfl ⟨ck_ BK360 0, ck_ BK360 1, ck_ BK360 2, ck_ BK357 0, ck_ BK357 1, ck_ BK357 2, ck_ BK357 3, ck_ BK357 4, (cl_ HB.out hw361_0), (cl_ HB.out hw361_1), (cl_ HB.out hw361_2), (cl_ HB.out hw361_3), (cl_ HB.out hw361_4)⟩ (fun hHeld => ?_); refine with_tabW run_Check.tab6 run_Check.bits6 (fun HT_ HW_ => ?_)
           generalize w36.drew = w37 at BK357 BK360 HB hx361_0 hx361_1 hx361_2 hx361_3 hx361_4 hHeld ⊢; refine qX_ 1 51 (b_ 8 2) ?_; refine qX_ 3 53 (b_ 8 10) ?_; refine uX_ 0 50 (b_ 8 11) hHeld ?_; refine uX_ 2 52 (b_ 8 15) hHeld ?_; refine qX_ 4 54 (b_ 8 31) ?_; refine uX_ 5 55 (b_ 8 63) hHeld ?_; refine one_ (i := 6) (N := some 56) (b_ 8 127) rfl rfl (one_of HT_.out (by kernel_rfl)) (by decide) (fun K hK => ?_); refine goes_ Try.func36 (by kernel_rfl) rfl #[.agg #[.slice A359_0 ((rd_T60 l0_2 x45_2).f0).length c359_0, .int .i64 ((rd_T60 l0_2 x45_2).f1), .int .i64 ((rd_T60 l0_2 x45_2).f2)], .agg #[.int .u8 ((rd_T35 l0_4 x45_2).f0), .int .i64 ((rd_T35 l0_4 x45_2).f1), .int .i64 ((rd_T35 l0_4 x45_2).f2), .int .i64 ((rd_T35 l0_4 x45_2).f3), .int .i64 ((rd_T35 l0_4 x45_2).f4)]] (by rfl) rfl rfl ga_ ?_; (with_reducible refine (task_Check.calls k2 _ _ ((rd_T60 l0_2 x45_2).f0) ((rd_T60 l0_2 x45_2).f1) ((rd_T60 l0_2 x45_2).f2) ((rd_T35 l0_4 x45_2).f0) ((rd_T35 l0_4 x45_2).f1) ((rd_T35 l0_4 x45_2).f2) ((rd_T35 l0_4 x45_2).f3) ((rd_T35 l0_4 x45_2).f4) t362 _ ?side1 ?side2 A25.out).mono ?_)
           (case side1 => exact cB_ HR359_0); (case side2 => exact HC359_0.out); rintro e w38 ⟨rfl, hb⟩; refine ⟨_, rfl, ?_⟩; replace BK357 := bs_ BK357 hb; replace BK360 := bs_ BK360 hb; replace HB := bB_ hb; (try clear hb); refine hK.out _ _ ⟨ck_ BK360 0, ck_ BK360 1, ck_ BK360 2, ck_ BK357 0, ck_ BK357 1, ck_ BK357 2, ck_ BK357 3, ck_ BK357 4, cW_ hw361_0, cW_ hw361_1, cW_ hw361_2, cW_ hw361_3, cW_ hw361_4⟩ (fun hHeld => ?_); clear hK K; refine norm_ (a' := ?_) ?_ ?_; rotate_left
           ·
            show Act.put _ (some 56) _ = _; simp only [Act.put, sa_, s0_, s1_, i64_w, i32_w]
            rfl
           refine qX_ 7 57 (b_ 8 255) ?_; refine done_ (done_of HT_.out (by kernel_rfl)) ?_
           try go_wp2
           go_ret
           exact ⟨re_, hb_⟩
         ·
          rw [if_neg c24] at H; exact absurd H (by simp)
        ·
         rw [if_neg c23] at H; exact absurd H (by simp)
       ·
        rw [if_neg c22] at H; exact absurd H (by simp)
      ·
       rw [if_neg c21] at H; have c21b0 : decide (x45_2 < (l0_2.length : Int)) = false := decide_eq_false c21; clear c21; replace H := Option.bind_eq_some_iff.mp H; obtain ⟨t363, A390, H⟩ := H; replace H : (if t363 = true then (some 0) else (some 8)) = some r := H; have A39 := Aside0.mk A390; clear A390
       by_cases c40 : t363 = true
       ·
        subst c40; have H1 : (some 0) = some r := by rw [if_pos rfl] at H; exact H
        clear H; have H := H1; clear H1; obtain rfl := Option.some.inj H; have hz41 := cz5_ BK357
        go_wp2_with (first | ((with_reducible refine gc_ 37 rfl ?_); refine gL_ (some 60) Try.func37 #[.agg #[.int .i64 a0_0, .string a0_1, .slice A0_2 l0_2.length c0_2, .int .u8 a0_3, .slice A0_4 l0_4.length c0_4]] ?_; (with_reducible refine (run_stands.calls k2 a0_0 a0_1 _ _ l0_2 a0_3 _ _ l0_4 true _ ?side1 ?side2 ?side3 ?side4 A39.out).mono ?_); (case side1 => exact cB_ HR0_2); (case side2 => exact HC0_2.out); (case side3 => exact cB_ HR0_4); (case side4 => exact HC0_4.out); rintro e w42 ⟨rfl, hb⟩; refine ⟨_, rfl, ?_⟩; replace BK357 := bs_ BK357 hb; replace HB := bB_ hb; (try clear hb)))
        go_ret
        exact ⟨re_, hb_⟩
       ·
        replace c40 := Bool.eq_false_iff.mpr c40; subst c40; have H1 : (some 8) = some r := by rw [if_neg (show ¬ (false = true) by decide)] at H; exact H
        clear H; have H := H1; clear H1; obtain rfl := Option.some.inj H; have hz43 := cz5_ BK357
        go_wp2_with (first | ((with_reducible refine gc_ 37 rfl ?_); refine gL_ (some 60) Try.func37 #[.agg #[.int .i64 a0_0, .string a0_1, .slice A0_2 l0_2.length c0_2, .int .u8 a0_3, .slice A0_4 l0_4.length c0_4]] ?_; (with_reducible refine (run_stands.calls k2 a0_0 a0_1 _ _ l0_2 a0_3 _ _ l0_4 false _ ?side1 ?side2 ?side3 ?side4 A39.out).mono ?_); (case side1 => exact cB_ HR0_2); (case side2 => exact HC0_2.out); (case side3 => exact cB_ HR0_4); (case side4 => exact HC0_4.out); rintro e w44 ⟨rfl, hb⟩; refine ⟨_, rfl, ?_⟩; replace BK357 := bs_ BK357 hb; replace HB := bB_ hb; (try clear hb)))
        go_ret
        exact ⟨re_, hb_⟩

end Go.Proofs.Ytbiphljdommacaa.R

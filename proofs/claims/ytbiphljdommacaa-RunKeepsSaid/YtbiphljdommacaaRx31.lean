/- Contracts of Go functions and what they come to, over the translation of this seat: made by a program of this session (print2.py). -/
import Derived.Test.YtbiphljdommacaaS3
import Derived.Test.YtbiphljdommacaaSh
import Derived.Test.YtbiphljdommacaaRx6
import Derived.Test.YtbiphljdommacaaRx8
namespace Go.Proofs.Ytbiphljdommacaa.R
open Go.RowKit Go.Proofs.Ytbiphljdommacaa.S3 Go.Proofs.Ytbiphljdommacaa.Sh Go.Proofs.Ytbiphljdommacaa.Co Go.Proofs.Ytbiphljdommacaa.Ret Go.Proofs.Ytbiphljdommacaa.Plain Go.Proofs.YtbiphljdommacaaW.PrintWords Go.Proofs.YtbiphljdommacaaW.PrintLast Go.Proofs.YtbiphljdommacaaW.PrintMore Go.Proofs.Ytbiphljdommacaa.Ti
attribute [local go_sem] max2_int min2_int max_two min_two max_three min_three max_four min_four   -- for this text's walks alone
set_option linter.unusedVariables false
set_option linter.unusedSimpArgs false

/-! ### task_Drop: function 59 -/
def task_Drop.f (k : Nat) (l0_0 : List Int) (a0_1 : Int) (a0_2 : Int) (a1_0 : Int) (a1_1 : Int) (a1_2 : Int) (a1_3 : Int) (a1_4 : Int) : Option (Int × Int × Int × Int × Int × Int) := (task_Check.f k l0_0 a0_1 a0_2 a1_0 a1_1 a1_2 a1_3 a1_4).bind fun t367 => (if t367 = 0 then (if a1_0 = 4 then (some (0, 0, 0, 0, 0, 240)) else (if a1_0 = 5 then (some (0, 0, 0, 0, 0, 240)) else (if a1_0 = 6 then (some (0, 0, 0, 0, 0, 240)) else (some (6, a1_1, 0, 0, 0, 0))))) else (some (0, 0, 0, 0, 0, t367)))
theorem task_Drop.mono : ∀ a0 a1 a2 a3 a4 a5 a6 a7 k, LeO (task_Drop.f k a0 a1 a2 a3 a4 a5 a6 a7) (task_Drop.f (k + 1) a0 a1 a2 a3 a4 a5 a6 a7) := by
 intro a0 a1 a2 a3 a4 a5 a6 a7 k
 unfold task_Drop.f
 repeat' first
   | (with_reducible exact LeO.refl _)
   | (with_reducible refine LeO.ite ?_ ?_)
   | (with_reducible refine LeO.bind ?_ (fun _ => ?_))
   | exact task_Check.mono _ _ _ _ _ _ _ _ _
   | exact LeO.none _
   | refine LeO.ite ?_ ?_
   | refine LeO.bind ?_ (fun _ => ?_)
set_option maxHeartbeats 8000000 in
set_option maxRecDepth 100000 in
theorem task_Drop.calls (k : Nat) (A0_0 : Option Addr) (c0_0 : Nat) (l0_0 : List Int) (a0_1 : Int) (a0_2 : Int) (a1_0 : Int) (a1_1 : Int) (a1_2 : Int) (a1_3 : Int) (a1_4 : Int) (r1 : Int) (r2 : Int) (r3 : Int) (r4 : Int) (r5 : Int) (r6 : Int) (w : World) (hr0_0 : Kd.C (Kd.int .i64) w A0_0 l0_0.length l0_0) (hc0_0 : l0_0.length ≤ c0_0) (h : task_Drop.f k l0_0 a0_1 a0_2 a1_0 a1_1 a1_2 a1_3 a1_4 = some (r1, r2, r3, r4, r5, r6)) :
  Calls Try.prog 59 #[.agg #[.slice A0_0 l0_0.length c0_0, .int .i64 a0_1, .int .i64 a0_2], .agg #[.int .u8 a1_0, .int .i64 a1_1, .int .i64 a1_2, .int .i64 a1_3, .int .i64 a1_4]] w fun e w' => e = .returned (.tuple #[.agg #[.int .u8 r1, .int .i64 r2, .int .i64 r3, .int .i64 r4, .int .i64 r5], .int .i64 r6]) ∧ Below w.heap.size w w' := by
 have hu60 := Try.underlying60; have hu35 := Try.underlying35; have HR0_0 := A_ hr0_0; have HC0_0 := A_ hc0_0; clear hr0_0 hc0_0; have HB := A_ (Below.refl w.heap.size w); have H : ((task_Check.f k l0_0 a0_1 a0_2 a1_0 a1_1 a1_2 a1_3 a1_4).bind fun t367 => (if t367 = 0 then (if a1_0 = 4 then (some (0, 0, 0, 0, 0, 240)) else (if a1_0 = 5 then (some (0, 0, 0, 0, 0, 240)) else (if a1_0 = 6 then (some (0, 0, 0, 0, 0, 240)) else (some (6, a1_1, 0, 0, 0, 0))))) else (some (0, 0, 0, 0, 0, t367)))) = some (r1, r2, r3, r4, r5, r6) := h; clear h; replace H := Option.bind_eq_some_iff.mp H; obtain ⟨t367, A30, H⟩ := H
 try dsimp only at H
 have A3 := Aside0.mk A30; clear A30
 by_cases c4 : t367 = 0
 ·
  rw [if_pos c4] at H; have c4b0 : (t367 == 0) = true := beq_iff_eq.mpr c4; have c4b1 : (t367 != 0) = false := bne_eq_false_iff_eq.mpr c4; clear c4
  by_cases c5 : a1_0 = 4
  ·
   rw [if_pos c5] at H; have c5b0 : (a1_0 == 4) = true := beq_iff_eq.mpr c5; have c5b1 : (a1_0 != 4) = false := bne_eq_false_iff_eq.mpr c5; clear c5; simp only [Option.some.injEq, Prod.mk.injEq] at H; obtain ⟨rfl, rfl, rfl, rfl, rfl, rfl⟩ := H
   go_enter Try.func59, Try.ntmps59
   go_wp2_with (first | ((with_reducible refine gd_ 2 rfl ?_); refine by0_ 2 #[.slice A0_0 l0_0.length c0_0, .int .i64 a0_1, .int .i64 a0_2] 60 ?_; clear HB; intro gb364 w6 BK364 GE364 HB; have GW364 := GE364) | ((with_reducible refine gd_ 3 rfl ?_); refine by1_ 3 #[.int .u8 a1_0, .int .i64 a1_1, .int .i64 a1_2, .int .i64 a1_3, .int .i64 a1_4] 35 BK364 ?_; clear HB BK364; intro gb365 w7 BK365 GE365 HB NB364_365 NB365_364 BK364; have GW365 := GE365) | ((with_reducible refine gd_ 4 rfl ?_); refine by2_ 4 #[.int .u8 0, .int .i64 0, .int .i64 0, .int .i64 0, .int .i64 0] 35 BK364 BK365 ?_; clear HB BK364 BK365; intro gb366 w8 BK366 GE366 HB NB364_366 NB366_364 BK364 NB365_366 NB366_365 BK365; have hnb9 := NB364_365.out; have hnc9 := NB365_364.out; have hz11 := cz3_ BK364; have hz13 := cz5_ BK365) | ((with_reducible refine gc_ 36 rfl ?_); refine gL_ (some 9) Try.func36 #[.agg #[.slice A0_0 l0_0.length c0_0, .int .i64 a0_1, .int .i64 a0_2], .agg #[.int .u8 a1_0, .int .i64 a1_1, .int .i64 a1_2, .int .i64 a1_3, .int .i64 a1_4]] ?_; (with_reducible refine (task_Check.calls k _ _ l0_0 a0_1 a0_2 a1_0 a1_1 a1_2 a1_3 a1_4 t367 _ ?side1 ?side2 A3.out).mono ?_); (case side1 => exact cB_ HR0_0); (case side2 => exact HC0_0.out); rintro e w14 ⟨rfl, hb⟩; refine ⟨_, rfl, ?_⟩; replace BK364 := bs_ BK364 hb; replace BK365 := bs_ BK365 hb; replace BK366 := bs_ BK366 hb; replace HB := bB_ hb; (try clear hb); have hz15 := cz5_ BK365; have hz16 := cz5_ BK366; have hnp365366 := NB365_366.out; have hnq365366 := NB366_365.out))
   refine bodyPost_ret (results_ct rfl _ _ gb366 35 #[.int .u8 0, .int .i64 0, .int .i64 0, .int .i64 0, .int .i64 0] (0, 0) _ rfl (bP_ BK366) Try.underlying35 rfl (by kernel_rfl)) rfl ?_
   exact ⟨re_, hb_⟩
  ·
   rw [if_neg c5] at H; have c5b0 : (a1_0 == 4) = false := beq_eq_false_iff_ne.mpr c5; have c5b1 : (a1_0 != 4) = true := bne_iff_ne.mpr c5
   by_cases c17 : a1_0 = 5
   ·
    rw [if_pos c17] at H; have c17b0 : (a1_0 == 5) = true := beq_iff_eq.mpr c17; have c17b1 : (a1_0 != 5) = false := bne_eq_false_iff_eq.mpr c17; clear c17; simp only [Option.some.injEq, Prod.mk.injEq] at H; obtain ⟨rfl, rfl, rfl, rfl, rfl, rfl⟩ := H
    go_enter Try.func59, Try.ntmps59
    go_wp2_with (first | ((with_reducible refine gd_ 2 rfl ?_); refine by0_ 2 #[.slice A0_0 l0_0.length c0_0, .int .i64 a0_1, .int .i64 a0_2] 60 ?_; clear HB; intro gb364 w18 BK364 GE364 HB; have GW364 := GE364) | ((with_reducible refine gd_ 3 rfl ?_); refine by1_ 3 #[.int .u8 a1_0, .int .i64 a1_1, .int .i64 a1_2, .int .i64 a1_3, .int .i64 a1_4] 35 BK364 ?_; clear HB BK364; intro gb365 w19 BK365 GE365 HB NB364_365 NB365_364 BK364; have GW365 := GE365) | ((with_reducible refine gd_ 4 rfl ?_); refine by2_ 4 #[.int .u8 0, .int .i64 0, .int .i64 0, .int .i64 0, .int .i64 0] 35 BK364 BK365 ?_; clear HB BK364 BK365; intro gb366 w20 BK366 GE366 HB NB364_366 NB366_364 BK364 NB365_366 NB366_365 BK365; have hnb21 := NB364_365.out; have hnc21 := NB365_364.out; have hz23 := cz3_ BK364; have hz25 := cz5_ BK365) | ((with_reducible refine gc_ 36 rfl ?_); refine gL_ (some 9) Try.func36 #[.agg #[.slice A0_0 l0_0.length c0_0, .int .i64 a0_1, .int .i64 a0_2], .agg #[.int .u8 a1_0, .int .i64 a1_1, .int .i64 a1_2, .int .i64 a1_3, .int .i64 a1_4]] ?_; (with_reducible refine (task_Check.calls k _ _ l0_0 a0_1 a0_2 a1_0 a1_1 a1_2 a1_3 a1_4 t367 _ ?side1 ?side2 A3.out).mono ?_); (case side1 => exact cB_ HR0_0); (case side2 => exact HC0_0.out); rintro e w26 ⟨rfl, hb⟩; refine ⟨_, rfl, ?_⟩; replace BK364 := bs_ BK364 hb; replace BK365 := bs_ BK365 hb; replace BK366 := bs_ BK366 hb; replace HB := bB_ hb; (try clear hb); have hz27 := cz5_ BK365; have hz28 := cz5_ BK366; have hnp365366 := NB365_366.out; have hnq365366 := NB366_365.out))
    refine bodyPost_ret (results_ct rfl _ _ gb366 35 #[.int .u8 0, .int .i64 0, .int .i64 0, .int .i64 0, .int .i64 0] (0, 0) _ rfl (bP_ BK366) Try.underlying35 rfl (by kernel_rfl)) rfl ?_
    exact ⟨re_, hb_⟩
   ·
    rw [if_neg c17] at H; have c17b0 : (a1_0 == 5) = false := beq_eq_false_iff_ne.mpr c17; have c17b1 : (a1_0 != 5) = true := bne_iff_ne.mpr c17
    by_cases c29 : a1_0 = 6
    ·
     rw [if_pos c29] at H; have c29b0 : (a1_0 == 6) = true := beq_iff_eq.mpr c29; have c29b1 : (a1_0 != 6) = false := bne_eq_false_iff_eq.mpr c29; clear c29; simp only [Option.some.injEq, Prod.mk.injEq] at H; obtain ⟨rfl, rfl, rfl, rfl, rfl, rfl⟩ := H
     go_enter Try.func59, Try.ntmps59
     go_wp2_with (first | ((with_reducible refine gd_ 2 rfl ?_); refine by0_ 2 #[.slice A0_0 l0_0.length c0_0, .int .i64 a0_1, .int .i64 a0_2] 60 ?_; clear HB; intro gb364 w30 BK364 GE364 HB; have GW364 := GE364) | ((with_reducible refine gd_ 3 rfl ?_); refine by1_ 3 #[.int .u8 a1_0, .int .i64 a1_1, .int .i64 a1_2, .int .i64 a1_3, .int .i64 a1_4] 35 BK364 ?_; clear HB BK364; intro gb365 w31 BK365 GE365 HB NB364_365 NB365_364 BK364; have GW365 := GE365) | ((with_reducible refine gd_ 4 rfl ?_); refine by2_ 4 #[.int .u8 0, .int .i64 0, .int .i64 0, .int .i64 0, .int .i64 0] 35 BK364 BK365 ?_; clear HB BK364 BK365; intro gb366 w32 BK366 GE366 HB NB364_366 NB366_364 BK364 NB365_366 NB366_365 BK365; have hnb33 := NB364_365.out; have hnc33 := NB365_364.out; have hz35 := cz3_ BK364; have hz37 := cz5_ BK365) | ((with_reducible refine gc_ 36 rfl ?_); refine gL_ (some 9) Try.func36 #[.agg #[.slice A0_0 l0_0.length c0_0, .int .i64 a0_1, .int .i64 a0_2], .agg #[.int .u8 a1_0, .int .i64 a1_1, .int .i64 a1_2, .int .i64 a1_3, .int .i64 a1_4]] ?_; (with_reducible refine (task_Check.calls k _ _ l0_0 a0_1 a0_2 a1_0 a1_1 a1_2 a1_3 a1_4 t367 _ ?side1 ?side2 A3.out).mono ?_); (case side1 => exact cB_ HR0_0); (case side2 => exact HC0_0.out); rintro e w38 ⟨rfl, hb⟩; refine ⟨_, rfl, ?_⟩; replace BK364 := bs_ BK364 hb; replace BK365 := bs_ BK365 hb; replace BK366 := bs_ BK366 hb; replace HB := bB_ hb; (try clear hb); have hz39 := cz5_ BK365; have hz40 := cz5_ BK366; have hnp365366 := NB365_366.out; have hnq365366 := NB366_365.out))
     refine bodyPost_ret (results_ct rfl _ _ gb366 35 #[.int .u8 0, .int .i64 0, .int .i64 0, .int .i64 0, .int .i64 0] (0, 0) _ rfl (bP_ BK366) Try.underlying35 rfl (by kernel_rfl)) rfl ?_
     exact ⟨re_, hb_⟩
    ·
     rw [if_neg c29] at H; have c29b0 : (a1_0 == 6) = false := beq_eq_false_iff_ne.mpr c29; have c29b1 : (a1_0 != 6) = true := bne_iff_ne.mpr c29; simp only [Option.some.injEq, Prod.mk.injEq] at H; obtain ⟨rfl, rfl, rfl, rfl, rfl, rfl⟩ := H
     go_enter Try.func59, Try.ntmps59
     go_wp2_with (first | ((with_reducible refine gd_ 2 rfl ?_); refine by0_ 2 #[.slice A0_0 l0_0.length c0_0, .int .i64 a0_1, .int .i64 a0_2] 60 ?_; clear HB; intro gb364 w41 BK364 GE364 HB; have GW364 := GE364) | ((with_reducible refine gd_ 3 rfl ?_); refine by1_ 3 #[.int .u8 a1_0, .int .i64 a1_1, .int .i64 a1_2, .int .i64 a1_3, .int .i64 a1_4] 35 BK364 ?_; clear HB BK364; intro gb365 w42 BK365 GE365 HB NB364_365 NB365_364 BK364; have GW365 := GE365) | ((with_reducible refine gd_ 4 rfl ?_); refine by2_ 4 #[.int .u8 0, .int .i64 0, .int .i64 0, .int .i64 0, .int .i64 0] 35 BK364 BK365 ?_; clear HB BK364 BK365; intro gb366 w43 BK366 GE366 HB NB364_366 NB366_364 BK364 NB365_366 NB366_365 BK365; have hnb44 := NB364_365.out; have hnc44 := NB365_364.out; have hz46 := cz3_ BK364; have hz48 := cz5_ BK365) | ((with_reducible refine gc_ 36 rfl ?_); refine gL_ (some 9) Try.func36 #[.agg #[.slice A0_0 l0_0.length c0_0, .int .i64 a0_1, .int .i64 a0_2], .agg #[.int .u8 a1_0, .int .i64 a1_1, .int .i64 a1_2, .int .i64 a1_3, .int .i64 a1_4]] ?_; (with_reducible refine (task_Check.calls k _ _ l0_0 a0_1 a0_2 a1_0 a1_1 a1_2 a1_3 a1_4 t367 _ ?side1 ?side2 A3.out).mono ?_); (case side1 => exact cB_ HR0_0); (case side2 => exact HC0_0.out); rintro e w49 ⟨rfl, hb⟩; refine ⟨_, rfl, ?_⟩; replace BK364 := bs_ BK364 hb; replace BK365 := bs_ BK365 hb; replace BK366 := bs_ BK366 hb; replace HB := bB_ hb; (try clear hb); have hz50 := cz5_ BK365; have hz51 := cz5_ BK366; have hnp365366 := NB365_366.out; have hnq365366 := NB366_365.out))
     refine bodyPost_ret (results_ct rfl _ _ gb366 35 #[.int .u8 6, .int .i64 a1_1, .int .i64 0, .int .i64 0, .int .i64 0] (0, 0) _ rfl (bP_ BK366) Try.underlying35 rfl (by kernel_rfl)) rfl ?_
     exact ⟨re_, hb_⟩
 ·
  rw [if_neg c4] at H; have c4b0 : (t367 == 0) = false := beq_eq_false_iff_ne.mpr c4; have c4b1 : (t367 != 0) = true := bne_iff_ne.mpr c4; simp only [Option.some.injEq, Prod.mk.injEq] at H; obtain ⟨rfl, rfl, rfl, rfl, rfl, rfl⟩ := H
  go_enter Try.func59, Try.ntmps59
  go_wp2_with (first | ((with_reducible refine gd_ 2 rfl ?_); refine by0_ 2 #[.slice A0_0 l0_0.length c0_0, .int .i64 a0_1, .int .i64 a0_2] 60 ?_; clear HB; intro gb364 w52 BK364 GE364 HB; have GW364 := GE364) | ((with_reducible refine gd_ 3 rfl ?_); refine by1_ 3 #[.int .u8 a1_0, .int .i64 a1_1, .int .i64 a1_2, .int .i64 a1_3, .int .i64 a1_4] 35 BK364 ?_; clear HB BK364; intro gb365 w53 BK365 GE365 HB NB364_365 NB365_364 BK364; have GW365 := GE365) | ((with_reducible refine gd_ 4 rfl ?_); refine by2_ 4 #[.int .u8 0, .int .i64 0, .int .i64 0, .int .i64 0, .int .i64 0] 35 BK364 BK365 ?_; clear HB BK364 BK365; intro gb366 w54 BK366 GE366 HB NB364_366 NB366_364 BK364 NB365_366 NB366_365 BK365; have hnb55 := NB364_365.out; have hnc55 := NB365_364.out; have hz57 := cz3_ BK364; have hz59 := cz5_ BK365) | ((with_reducible refine gc_ 36 rfl ?_); refine gL_ (some 9) Try.func36 #[.agg #[.slice A0_0 l0_0.length c0_0, .int .i64 a0_1, .int .i64 a0_2], .agg #[.int .u8 a1_0, .int .i64 a1_1, .int .i64 a1_2, .int .i64 a1_3, .int .i64 a1_4]] ?_; (with_reducible refine (task_Check.calls k _ _ l0_0 a0_1 a0_2 a1_0 a1_1 a1_2 a1_3 a1_4 t367 _ ?side1 ?side2 A3.out).mono ?_); (case side1 => exact cB_ HR0_0); (case side2 => exact HC0_0.out); rintro e w60 ⟨rfl, hb⟩; refine ⟨_, rfl, ?_⟩; replace BK364 := bs_ BK364 hb; replace BK365 := bs_ BK365 hb; replace BK366 := bs_ BK366 hb; replace HB := bB_ hb; (try clear hb); have hz61 := cz5_ BK366))
  refine bodyPost_ret (results_ct rfl _ _ gb366 35 #[.int .u8 0, .int .i64 0, .int .i64 0, .int .i64 0, .int .i64 0] (0, 0) _ rfl (bP_ BK366) Try.underlying35 rfl (by kernel_rfl)) rfl ?_
  exact ⟨re_, hb_⟩

end Go.Proofs.Ytbiphljdommacaa.R

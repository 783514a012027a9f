/- Contracts of Go functions and what they come to, over the translation of this seat: made by a program of this session (print2.py). -/
import Derived.Test.YtbiphljdommacaaS3
import Derived.Test.YtbiphljdommacaaSh
import Derived.Test.YtbiphljdommacaaRx6
import Derived.Test.YtbiphljdommacaaRx8
namespace Go.Proofs.Ytbiphljdommacaa.R
open Go.RowKit Go.Proofs.Ytbiphljdommacaa.S3 Go.Proofs.Ytbiphljdommacaa.Sh Go.Proofs.Ytbiphljdommacaa.Co Go.Proofs.Ytbiphljdommacaa.Ret Go.Proofs.Ytbiphljdommacaa.Plain Go.Proofs.YtbiphljdommacaaW.PrintWords Go.Proofs.YtbiphljdommacaaW.PrintLast Go.Proofs.YtbiphljdommacaaW.PrintMore Go.Proofs.Ytbiphljdommacaa.Ti
attribute [local go_sem] max2_int min2_int max_two min_two max_three min_three max_four min_four   -- for this text's walks alone
set_option linter.unusedVariables false
set_option linter.unusedSimpArgs false

/-! ### task_Lease: function 30 -/
def task_Lease.f (k : Nat) (l0_0 : List Int) (a0_1 : Int) (a0_2 : Int) (a1_0 : Int) (a1_1 : Int) (a1_2 : Int) (a1_3 : Int) (a1_4 : Int) (a2 : Int) (a3 : Int) : Option (Int × Int × Int × Int × Int × Int) := if a2 ≥ 1 then ((task_count.f a2).bind fun t129 => (if t129 = true then ((task_moment.f a3).bind fun t130 => ((task_in.f k l0_0 a0_1 a0_2 a1_0 a1_1 a1_2 a1_3 a1_4 t130 1).bind fun t131 => (if t131 = 0 then (some (2, wrap64 (a1_1 + 1), a3, a2, 0, 0)) else (some (0, 0, 0, 0, 0, t131))))) else ((task_in.f k l0_0 a0_1 a0_2 a1_0 a1_1 a1_2 a1_3 a1_4 false 1).bind fun t132 => (if t132 = 0 then (some (2, wrap64 (a1_1 + 1), a3, a2, 0, 0)) else (some (0, 0, 0, 0, 0, t132)))))) else ((task_in.f k l0_0 a0_1 a0_2 a1_0 a1_1 a1_2 a1_3 a1_4 false 1).bind fun t133 => (if t133 = 0 then (some (2, wrap64 (a1_1 + 1), a3, a2, 0, 0)) else (some (0, 0, 0, 0, 0, t133))))
theorem task_Lease.mono : ∀ a0 a1 a2 a3 a4 a5 a6 a7 a8 a9 k, LeO (task_Lease.f k a0 a1 a2 a3 a4 a5 a6 a7 a8 a9) (task_Lease.f (k + 1) a0 a1 a2 a3 a4 a5 a6 a7 a8 a9) := by
 intro a0 a1 a2 a3 a4 a5 a6 a7 a8 a9 k
 unfold task_Lease.f
 repeat' first
   | (with_reducible exact LeO.refl _)
   | (with_reducible refine LeO.ite ?_ ?_)
   | (with_reducible refine LeO.bind ?_ (fun _ => ?_))
   | exact task_in.mono _ _ _ _ _ _ _ _ _ _ _
   | exact LeO.none _
   | refine LeO.ite ?_ ?_
   | refine LeO.bind ?_ (fun _ => ?_)
def task_Lease.T1 : Bool × List (List Nat × List Nat) := (true, [([], []), ([], []), ([], []), ([2], [2]), ([3], [3]), ([4], [4]), ([5, 4, 4], [4, 5]), ([4, 6], [4, 6]), ([7, 6], [7]), ([8], [8]), ([9, 8, 8], [8, 9]), ([8, 10], [8, 10]), ([0, 1, 11, 10], [0, 1, 11]), ([12, 12, 0, 1, 2, 3, 4, 5, 6, 7, 8, 9, 10, 11, 12], [12])])
def task_Lease.B1 : List Nat := [0, 0, 0, 4, 12, 28, 60, 124, 252, 508, 1020, 2044, 4095, 8191]
theorem task_Lease.tab1 : rtab .any (opsOf Try.f30 1) = task_Lease.T1 := by kernel_rfl
theorem task_Lease.bits1 : waitsOk task_Lease.T1.2 task_Lease.B1 = true := by kernel_rfl
set_option maxHeartbeats 8000000 in
set_option maxRecDepth 100000 in
theorem task_Lease.calls (k : Nat) (A0_0 : Option Addr) (c0_0 : Nat) (l0_0 : List Int) (a0_1 : Int) (a0_2 : Int) (a1_0 : Int) (a1_1 : Int) (a1_2 : Int) (a1_3 : Int) (a1_4 : Int) (a2 : Int) (a3 : Int) (r1 : Int) (r2 : Int) (r3 : Int) (r4 : Int) (r5 : Int) (r6 : Int) (w : World) (hr0_0 : Kd.C (Kd.int .i64) w A0_0 l0_0.length l0_0) (hc0_0 : l0_0.length ≤ c0_0) (h : task_Lease.f k l0_0 a0_1 a0_2 a1_0 a1_1 a1_2 a1_3 a1_4 a2 a3 = some (r1, r2, r3, r4, r5, r6)) :
  Calls Try.prog 30 #[.agg #[.slice A0_0 l0_0.length c0_0, .int .i64 a0_1, .int .i64 a0_2], .agg #[.int .u8 a1_0, .int .i64 a1_1, .int .i64 a1_2, .int .i64 a1_3, .int .i64 a1_4], .int .i64 a2, .int .i64 a3] w fun e w' => e = .returned (.tuple #[.agg #[.int .u8 r1, .int .i64 r2, .int .i64 r3, .int .i64 r4, .int .i64 r5], .int .i64 r6]) ∧ Below w.heap.size w w' := by
 have hu60 := Try.underlying60; have hu35 := Try.underlying35; have HR0_0 := A_ hr0_0; have HC0_0 := A_ hc0_0; clear hr0_0 hc0_0; have HB := A_ (Below.refl w.heap.size w); have H : (if a2 ≥ 1 then ((task_count.f a2).bind fun t129 => (if t129 = true then ((task_moment.f a3).bind fun t130 => ((task_in.f k l0_0 a0_1 a0_2 a1_0 a1_1 a1_2 a1_3 a1_4 t130 1).bind fun t131 => (if t131 = 0 then (some (2, wrap64 (a1_1 + 1), a3, a2, 0, 0)) else (some (0, 0, 0, 0, 0, t131))))) else ((task_in.f k l0_0 a0_1 a0_2 a1_0 a1_1 a1_2 a1_3 a1_4 false 1).bind fun t132 => (if t132 = 0 then (some (2, wrap64 (a1_1 + 1), a3, a2, 0, 0)) else (some (0, 0, 0, 0, 0, t132)))))) else ((task_in.f k l0_0 a0_1 a0_2 a1_0 a1_1 a1_2 a1_3 a1_4 false 1).bind fun t133 => (if t133 = 0 then (some (2, wrap64 (a1_1 + 1), a3, a2, 0, 0)) else (some (0, 0, 0, 0, 0, t133))))) = some (r1, r2, r3, r4, r5, r6) := h; clear h
 by_cases c5 : a2 ≥ 1
 ·
  rw [if_pos c5] at H; have c5b0 : decide (1 ≤ a2) = true := decide_eq_true c5; clear c5; replace H := Option.bind_eq_some_iff.mp H; obtain ⟨t129, A60, H⟩ := H
  try dsimp only at H
  have A6 := Aside0.mk A60; clear A60
  by_cases c7 : t129 = true
  ·
   subst c7; have H1 : ((task_moment.f a3).bind fun t130 => ((task_in.f k l0_0 a0_1 a0_2 a1_0 a1_1 a1_2 a1_3 a1_4 t130 1).bind fun t131 => (if t131 = 0 then (some (2, wrap64 (a1_1 + 1), a3, a2, 0, 0)) else (some (0, 0, 0, 0, 0, t131))))) = some (r1, r2, r3, r4, r5, r6) := by rw [if_pos rfl] at H; exact H
   clear H; have H := H1; clear H1; replace H := Option.bind_eq_some_iff.mp H; obtain ⟨t130, A80, H⟩ := H
   try dsimp only at H
   have A8 := Aside0.mk A80; clear A80; replace H := Option.bind_eq_some_iff.mp H; obtain ⟨t131, A90, H⟩ := H; replace H : (if t131 = 0 then (some (2, wrap64 (a1_1 + 1), a3, a2, 0, 0)) else (some (0, 0, 0, 0, 0, t131))) = some (r1, r2, r3, r4, r5, r6) := H; have A9 := Aside0.mk A90; clear A90
   by_cases c10 : t131 = 0
   ·
    rw [if_pos c10] at H; have c10b0 : (t131 == 0) = true := beq_iff_eq.mpr c10; have c10b1 : (t131 != 0) = false := bne_eq_false_iff_eq.mpr c10; clear c10; simp only [Option.some.injEq, Prod.mk.injEq] at H; obtain ⟨rfl, rfl, rfl, rfl, rfl, rfl⟩ := H
    go_enter Try.func30, Try.ntmps30
    try go_wp2_with (first | ((with_reducible refine gd_ 4 rfl ?_); refine by0_ 4 #[.slice A0_0 l0_0.length c0_0, .int .i64 a0_1, .int .i64 a0_2] 60 ?_; clear HB; intro gb126 w11 BK126 GE126 HB; have GW126 := GE126) | ((with_reducible refine gd_ 5 rfl ?_); refine by1_ 5 #[.int .u8 a1_0, .int .i64 a1_1, .int .i64 a1_2, .int .i64 a1_3, .int .i64 a1_4] 35 BK126 ?_; clear HB BK126; intro gb127 w12 BK127 GE127 HB NB126_127 NB127_126 BK126; have GW127 := GE127) | ((with_reducible refine gd_ 8 rfl ?_); refine by2_ 8 #[.int .u8 0, .int .i64 0, .int .i64 0, .int .i64 0, .int .i64 0] 35 BK126 BK127 ?_; clear HB BK126 BK127; intro gb128 w13 BK128 GE128 HB NB126_128 NB128_126 BK126 NB127_128 NB128_127 BK127; have GW128 := GE128))
    replace BK126 := A_ (blk_drew BK126.out); replace BK127 := A_ (blk_drew BK127.out); replace BK128 := A_ (blk_drew BK128.out); replace HB := A_ (below_drew1 HB.out); refine start_ (n := 14) (S := fun w' => w'.cell? ⟨gb126, 0, none⟩ = some (.slice A0_0 l0_0.length c0_0) ∧ w'.cell? ⟨gb126, 1, none⟩ = some (.int .i64 a0_1) ∧ w'.cell? ⟨gb126, 2, none⟩ = some (.int .i64 a0_2) ∧ w'.cell? ⟨gb127, 0, none⟩ = some (.int .u8 a1_0) ∧ w'.cell? ⟨gb127, 1, none⟩ = some (.int .i64 a1_1) ∧ w'.cell? ⟨gb127, 2, none⟩ = some (.int .i64 a1_2) ∧ w'.cell? ⟨gb127, 3, none⟩ = some (.int .i64 a1_3) ∧ w'.cell? ⟨gb127, 4, none⟩ = some (.int .i64 a1_4)) (ds := []) (b_ 14 0) (by kernel_rfl) rfl rfl ⟨ck_ BK126 0, ck_ BK126 1, ck_ BK126 2, ck_ BK127 0, ck_ BK127 1, ck_ BK127 2, ck_ BK127 3, ck_ BK127 4⟩ (fun hHeld => ?_); refine with_tabW task_Lease.tab1 task_Lease.bits1 (fun HT_ HW_ => ?_); generalize w13.drew = w14 at BK126 BK127 BK128 HB hHeld ⊢; refine qX_ 2 13 (b_ 14 4) ?_; refine qX_ 3 14 (b_ 14 12) ?_; refine qX_ 4 15 (b_ 14 28) ?_; refine qX_ 5 16 (b_ 14 60) ?_; refine uX_ 0 11 (b_ 14 61) hHeld ?_; refine uX_ 1 12 (b_ 14 63) hHeld ?_
    refine one_ (i := 6) (N := some 17) (b_ 14 127) rfl rfl (one_of HT_.out (by kernel_rfl)) (by decide) (fun K hK => ?_); refine goes_ Try.func55 (by kernel_rfl) rfl #[.int .i64 a2] (by rfl) rfl rfl ga_ ?_; (with_reducible refine (task_count.calls a2 true _ A6.out).mono ?_); rintro e w' ⟨rfl, ⟨nd, rfl⟩⟩; refine ⟨_, rfl, ?_⟩; refine hK.out _ _ ⟨ck_ BK126 0, ck_ BK126 1, ck_ BK126 2, ck_ BK127 0, ck_ BK127 1, ck_ BK127 2, ck_ BK127 3, ck_ BK127 4⟩ (fun hHeld => ?_); clear hK K; refine norm_ (a' := ?_) ?_ ?_; rotate_left
    ·
     show Act.put _ (some 17) _ = _; simp only [Act.put, sa_, s0_, s1_, i64_w, i32_w]
     rfl
    refine qX_ 7 18 (b_ 14 255) ?_; refine qX_ 8 19 (b_ 14 511) ?_; refine qX_ 9 20 (b_ 14 1023) ?_; refine one_ (i := 10) (N := some 21) (b_ 14 2047) rfl rfl (one_of HT_.out (by kernel_rfl)) (by decide) (fun K hK => ?_); refine goes_ Try.func56 (by kernel_rfl) rfl #[.int .i64 a3] (by rfl) rfl rfl ga_ ?_; (with_reducible refine (task_moment.calls a3 t130 _ A8.out).mono ?_); rintro e w' ⟨rfl, ⟨nd, rfl⟩⟩; refine ⟨_, rfl, ?_⟩; refine hK.out _ _ ⟨ck_ BK126 0, ck_ BK126 1, ck_ BK126 2, ck_ BK127 0, ck_ BK127 1, ck_ BK127 2, ck_ BK127 3, ck_ BK127 4⟩ (fun hHeld => ?_); clear hK K; refine norm_ (a' := ?_) ?_ ?_; rotate_left
    ·
     show Act.put _ (some 21) _ = _; simp only [Act.put, sa_, s0_, s1_, i64_w, i32_w]
     rfl
    refine qX_ 11 22 (b_ 14 4095) ?_; refine one_ (i := 12) (N := some 23) (b_ 14 8191) rfl rfl (one_of HT_.out (by kernel_rfl)) (by decide) (fun K hK => ?_); refine goes_ Try.func54 (by kernel_rfl) rfl #[.agg #[.slice A0_0 l0_0.length c0_0, .int .i64 a0_1, .int .i64 a0_2], .agg #[.int .u8 a1_0, .int .i64 a1_1, .int .i64 a1_2, .int .i64 a1_3, .int .i64 a1_4], .bool t130, .int .u8 1] (by rfl) rfl rfl ga_ ?_; (with_reducible refine (task_in.calls k _ _ l0_0 a0_1 a0_2 a1_0 a1_1 a1_2 a1_3 a1_4 t130 1 t131 _ ?side1 ?side2 A9.out).mono ?_); (case side1 => exact cX_ (Kd.C_below HR0_0.out hb_)); (case side2 => exact HC0_0.out); rintro e w15 ⟨rfl, hb⟩; refine ⟨_, rfl, ?_⟩; replace BK126 := bs_ BK126 hb; replace BK127 := bs_ BK127 hb; replace BK128 := bs_ BK128 hb; replace HB := bB_ hb; (try clear hb); refine hK.out _ _ ⟨ck_ BK126 0, ck_ BK126 1, ck_ BK126 2, ck_ BK127 0, ck_ BK127 1, ck_ BK127 2, ck_ BK127 3, ck_ BK127 4⟩ (fun hHeld => ?_)
    clear hK K; refine norm_ (a' := ?_) ?_ ?_; rotate_left
    ·
     show Act.put _ (some 23) _ = _; simp only [Act.put, sa_, s0_, s1_, i64_w, i32_w]
     rfl
    refine qX_ 13 10 (b_ 14 16383) ?_; refine done_ (done_of HT_.out (by kernel_rfl)) ?_; have hnb17 := NB127_128.out; have hnc17 := NB128_127.out; have hz18 := cz5_ BK127; have hz20 := cz5_ BK128
    try go_wp2
    refine bodyPost_ret (results_ct rfl _ _ gb128 35 #[.int .u8 2, .int .i64 (wrap64 (a1_1 + 1)), .int .i64 a3, .int .i64 a2, .int .i64 0] (0, 0) _ rfl (bP_ BK128) Try.underlying35 rfl (by kernel_rfl)) rfl ?_
    exact ⟨re_, hb_⟩
   ·
    rw [if_neg c10] at H; have c10b0 : (t131 == 0) = false := beq_eq_false_iff_ne.mpr c10; have c10b1 : (t131 != 0) = true := bne_iff_ne.mpr c10; simp only [Option.some.injEq, Prod.mk.injEq] at H; obtain ⟨rfl, rfl, rfl, rfl, rfl, rfl⟩ := H
    go_enter Try.func30, Try.ntmps30
    try go_wp2_with (first | ((with_reducible refine gd_ 4 rfl ?_); refine by0_ 4 #[.slice A0_0 l0_0.length c0_0, .int .i64 a0_1, .int .i64 a0_2] 60 ?_; clear HB; intro gb126 w21 BK126 GE126 HB; have GW126 := GE126) | ((with_reducible refine gd_ 5 rfl ?_); refine by1_ 5 #[.int .u8 a1_0, .int .i64 a1_1, .int .i64 a1_2, .int .i64 a1_3, .int .i64 a1_4] 35 BK126 ?_; clear HB BK126; intro gb127 w22 BK127 GE127 HB NB126_127 NB127_126 BK126; have GW127 := GE127) | ((with_reducible refine gd_ 8 rfl ?_); refine by2_ 8 #[.int .u8 0, .int .i64 0, .int .i64 0, .int .i64 0, .int .i64 0] 35 BK126 BK127 ?_; clear HB BK126 BK127; intro gb128 w23 BK128 GE128 HB NB126_128 NB128_126 BK126 NB127_128 NB128_127 BK127; have GW128 := GE128))
    replace BK126 := A_ (blk_drew BK126.out); replace BK127 := A_ (blk_drew BK127.out); replace BK128 := A_ (blk_drew BK128.out); replace HB := A_ (below_drew1 HB.out); refine start_ (n := 14) (S := fun w' => w'.cell? ⟨gb126, 0, none⟩ = some (.slice A0_0 l0_0.length c0_0) ∧ w'.cell? ⟨gb126, 1, none⟩ = some (.int .i64 a0_1) ∧ w'.cell? ⟨gb126, 2, none⟩ = some (.int .i64 a0_2) ∧ w'.cell? ⟨gb127, 0, none⟩ = some (.int .u8 a1_0) ∧ w'.cell? ⟨gb127, 1, none⟩ = some (.int .i64 a1_1) ∧ w'.cell? ⟨gb127, 2, none⟩ = some (.int .i64 a1_2) ∧ w'.cell? ⟨gb127, 3, none⟩ = some (.int .i64 a1_3) ∧ w'.cell? ⟨gb127, 4, none⟩ = some (.int .i64 a1_4)) (ds := []) (b_ 14 0) (by kernel_rfl) rfl rfl ⟨ck_ BK126 0, ck_ BK126 1, ck_ BK126 2, ck_ BK127 0, ck_ BK127 1, ck_ BK127 2, ck_ BK127 3, ck_ BK127 4⟩ (fun hHeld => ?_); refine with_tabW task_Lease.tab1 task_Lease.bits1 (fun HT_ HW_ => ?_); generalize w23.drew = w24 at BK126 BK127 BK128 HB hHeld ⊢; refine qX_ 2 13 (b_ 14 4) ?_; refine qX_ 3 14 (b_ 14 12) ?_; refine qX_ 4 15 (b_ 14 28) ?_; refine qX_ 5 16 (b_ 14 60) ?_; refine uX_ 0 11 (b_ 14 61) hHeld ?_; refine uX_ 1 12 (b_ 14 63) hHeld ?_
    refine one_ (i := 6) (N := some 17) (b_ 14 127) rfl rfl (one_of HT_.out (by kernel_rfl)) (by decide) (fun K hK => ?_); refine goes_ Try.func55 (by kernel_rfl) rfl #[.int .i64 a2] (by rfl) rfl rfl ga_ ?_; (with_reducible refine (task_count.calls a2 true _ A6.out).mono ?_); rintro e w' ⟨rfl, ⟨nd, rfl⟩⟩; refine ⟨_, rfl, ?_⟩; refine hK.out _ _ ⟨ck_ BK126 0, ck_ BK126 1, ck_ BK126 2, ck_ BK127 0, ck_ BK127 1, ck_ BK127 2, ck_ BK127 3, ck_ BK127 4⟩ (fun hHeld => ?_); clear hK K; refine norm_ (a' := ?_) ?_ ?_; rotate_left
    ·
     show Act.put _ (some 17) _ = _; simp only [Act.put, sa_, s0_, s1_, i64_w, i32_w]
     rfl
    refine qX_ 7 18 (b_ 14 255) ?_; refine qX_ 8 19 (b_ 14 511) ?_; refine qX_ 9 20 (b_ 14 1023) ?_; refine one_ (i := 10) (N := some 21) (b_ 14 2047) rfl rfl (one_of HT_.out (by kernel_rfl)) (by decide) (fun K hK => ?_); refine goes_ Try.func56 (by kernel_rfl) rfl #[.int .i64 a3] (by rfl) rfl rfl ga_ ?_; (with_reducible refine (task_moment.calls a3 t130 _ A8.out).mono ?_); rintro e w' ⟨rfl, ⟨nd, rfl⟩⟩; refine ⟨_, rfl, ?_⟩; refine hK.out _ _ ⟨ck_ BK126 0, ck_ BK126 1, ck_ BK126 2, ck_ BK127 0, ck_ BK127 1, ck_ BK127 2, ck_ BK127 3, ck_ BK127 4⟩ (fun hHeld => ?_); clear hK K; refine norm_ (a' := ?_) ?_ ?_; rotate_left
    ·
     show Act.put _ (some 21) _ = _; simp only [Act.put, sa_, s0_, s1_, i64_w, i32_w]
     rfl
    refine qX_ 11 22 (b_ 14 4095) ?_; refine one_ (i := 12) (N := some 23) (b_ 14 8191) rfl rfl (one_of HT_.out (by kernel_rfl)) (by decide) (fun K hK => ?_); refine goes_ Try.func54 (by kernel_rfl) rfl #[.agg #[.slice A0_0 l0_0.length c0_0, .int .i64 a0_1, .int .i64 a0_2], .agg #[.int .u8 a1_0, .int .i64 a1_1, .int .i64 a1_2, .int .i64 a1_3, .int .i64 a1_4], .bool t130, .int .u8 1] (by rfl) rfl rfl ga_ ?_; (with_reducible refine (task_in.calls k _ _ l0_0 a0_1 a0_2 a1_0 a1_1 a1_2 a1_3 a1_4 t130 1 t131 _ ?side1 ?side2 A9.out).mono ?_); (case side1 => exact cX_ (Kd.C_below HR0_0.out hb_)); (case side2 => exact HC0_0.out); rintro e w25 ⟨rfl, hb⟩; refine ⟨_, rfl, ?_⟩; replace BK126 := bs_ BK126 hb; replace BK127 := bs_ BK127 hb; replace BK128 := bs_ BK128 hb; replace HB := bB_ hb; (try clear hb); refine hK.out _ _ ⟨ck_ BK126 0, ck_ BK126 1, ck_ BK126 2, ck_ BK127 0, ck_ BK127 1, ck_ BK127 2, ck_ BK127 3, ck_ BK127 4⟩ (fun hHeld => ?_)
    clear hK K; refine norm_ (a' := ?_) ?_ ?_; rotate_left
    ·
     show Act.put _ (some 23) _ = _; simp only [Act.put, sa_, s0_, s1_, i64_w, i32_w]
     rfl
    refine qX_ 13 10 (b_ 14 16383) ?_; refine done_ (done_of HT_.out (by kernel_rfl)) ?_; have hz28 := cz5_ BK128
    try go_wp2
    refine bodyPost_ret (results_ct rfl _ _ gb128 35 #[.int .u8 0, .int .i64 0, .int .i64 0, .int .i64 0, .int .i64 0] (0, 0) _ rfl (bP_ BK128) Try.underlying35 rfl (by kernel_rfl)) rfl ?_
    exact ⟨re_, hb_⟩
  ·
   replace c7 := Bool.eq_false_iff.mpr c7; subst c7; have H1 : ((task_in.f k l0_0 a0_1 a0_2 a1_0 a1_1 a1_2 a1_3 a1_4 false 1).bind fun t132 => (if t132 = 0 then (some (2, wrap64 (a1_1 + 1), a3, a2, 0, 0)) else (some (0, 0, 0, 0, 0, t132)))) = some (r1, r2, r3, r4, r5, r6) := by rw [if_neg (show ¬ (false = true) by decide)] at H; exact H
   clear H; have H := H1; clear H1; replace H := Option.bind_eq_some_iff.mp H; obtain ⟨t132, A290, H⟩ := H; replace H : (if t132 = 0 then (some (2, wrap64 (a1_1 + 1), a3, a2, 0, 0)) else (some (0, 0, 0, 0, 0, t132))) = some (r1, r2, r3, r4, r5, r6) := H; have A29 := Aside0.mk A290; clear A290
   by_cases c30 : t132 = 0
   ·
    rw [if_pos c30] at H; have c30b0 : (t132 == 0) = true := beq_iff_eq.mpr c30; have c30b1 : (t132 != 0) = false := bne_eq_false_iff_eq.mpr c30; clear c30; simp only [Option.some.injEq, Prod.mk.injEq] at H; obtain ⟨rfl, rfl, rfl, rfl, rfl, rfl⟩ := H
    go_enter Try.func30, Try.ntmps30
    try go_wp2_with (first | ((with_reducible refine gd_ 4 rfl ?_); refine by0_ 4 #[.slice A0_0 l0_0.length c0_0, .int .i64 a0_1, .int .i64 a0_2] 60 ?_; clear HB; intro gb126 w31 BK126 GE126 HB; have GW126 := GE126) | ((with_reducible refine gd_ 5 rfl ?_); refine by1_ 5 #[.int .u8 a1_0, .int .i64 a1_1, .int .i64 a1_2, .int .i64 a1_3, .int .i64 a1_4] 35 BK126 ?_; clear HB BK126; intro gb127 w32 BK127 GE127 HB NB126_127 NB127_126 BK126; have GW127 := GE127) | ((with_reducible refine gd_ 8 rfl ?_); refine by2_ 8 #[.int .u8 0, .int .i64 0, .int .i64 0, .int .i64 0, .int .i64 0] 35 BK126 BK127 ?_; clear HB BK126 BK127; intro gb128 w33 BK128 GE128 HB NB126_128 NB128_126 BK126 NB127_128 NB128_127 BK127; have GW128 := GE128))
    replace BK126 := A_ (blk_drew BK126.out); replace BK127 := A_ (blk_drew BK127.out); replace BK128 := A_ (blk_drew BK128.out); replace HB := A_ (below_drew1 HB.out); refine start_ (n := 14) (S := fun w' => w'.cell? ⟨gb126, 0, none⟩ = some (.slice A0_0 l0_0.length c0_0) ∧ w'.cell? ⟨gb126, 1, none⟩ = some (.int .i64 a0_1) ∧ w'.cell? ⟨gb126, 2, none⟩ = some (.int .i64 a0_2) ∧ w'.cell? ⟨gb127, 0, none⟩ = some (.int .u8 a1_0) ∧ w'.cell? ⟨gb127, 1, none⟩ = some (.int .i64 a1_1) ∧ w'.cell? ⟨gb127, 2, none⟩ = some (.int .i64 a1_2) ∧ w'.cell? ⟨gb127, 3, none⟩ = some (.int .i64 a1_3) ∧ w'.cell? ⟨gb127, 4, none⟩ = some (.int .i64 a1_4)) (ds := []) (b_ 14 0) (by kernel_rfl) rfl rfl ⟨ck_ BK126 0, ck_ BK126 1, ck_ BK126 2, ck_ BK127 0, ck_ BK127 1, ck_ BK127 2, ck_ BK127 3, ck_ BK127 4⟩ (fun hHeld => ?_); refine with_tabW task_Lease.tab1 task_Lease.bits1 (fun HT_ HW_ => ?_); generalize w33.drew = w34 at BK126 BK127 BK128 HB hHeld ⊢; refine qX_ 2 13 (b_ 14 4) ?_; refine qX_ 3 14 (b_ 14 12) ?_; refine qX_ 4 15 (b_ 14 28) ?_; refine qX_ 5 16 (b_ 14 60) ?_; refine uX_ 0 11 (b_ 14 61) hHeld ?_; refine uX_ 1 12 (b_ 14 63) hHeld ?_
    refine one_ (i := 6) (N := some 17) (b_ 14 127) rfl rfl (one_of HT_.out (by kernel_rfl)) (by decide) (fun K hK => ?_); refine goes_ Try.func55 (by kernel_rfl) rfl #[.int .i64 a2] (by rfl) rfl rfl ga_ ?_; (with_reducible refine (task_count.calls a2 false _ A6.out).mono ?_); rintro e w' ⟨rfl, ⟨nd, rfl⟩⟩; refine ⟨_, rfl, ?_⟩; refine hK.out _ _ ⟨ck_ BK126 0, ck_ BK126 1, ck_ BK126 2, ck_ BK127 0, ck_ BK127 1, ck_ BK127 2, ck_ BK127 3, ck_ BK127 4⟩ (fun hHeld => ?_); clear hK K; refine norm_ (a' := ?_) ?_ ?_; rotate_left
    ·
     show Act.put _ (some 17) _ = _; simp only [Act.put, sa_, s0_, s1_, i64_w, i32_w]
     rfl
    refine qX_ 7 18 (b_ 14 255) ?_; refine qX_ 8 19 (b_ 14 511) ?_; refine pB_ 9 20 ?_ (b_ 14 1023) (any_of HT_.out (by kernel_rfl)) rfl rfl (fun _ _ _ h => h) (by rfl) ?_ ?_; rotate_left
    ·
     simp only [Act.put, sa_, s0_, s1_, i64_w, i32_w]
     rfl
    refine pB_ 10 21 ?_ (b_ 14 2047) (any_of HT_.out (by kernel_rfl)) rfl rfl (fun _ _ _ h => h) (by rfl) ?_ ?_; rotate_left
    ·
     simp only [Act.put, sa_, s0_, s1_, i64_w, i32_w]
     rfl
    refine qX_ 11 22 (b_ 14 4095) ?_; refine one_ (i := 12) (N := some 23) (b_ 14 8191) rfl rfl (one_of HT_.out (by kernel_rfl)) (by decide) (fun K hK => ?_); refine goes_ Try.func54 (by kernel_rfl) rfl #[.agg #[.slice A0_0 l0_0.length c0_0, .int .i64 a0_1, .int .i64 a0_2], .agg #[.int .u8 a1_0, .int .i64 a1_1, .int .i64 a1_2, .int .i64 a1_3, .int .i64 a1_4], .bool false, .int .u8 1] (by rfl) rfl rfl ga_ ?_; (with_reducible refine (task_in.calls k _ _ l0_0 a0_1 a0_2 a1_0 a1_1 a1_2 a1_3 a1_4 false 1 t132 _ ?side1 ?side2 A29.out).mono ?_); (case side1 => exact cX_ (Kd.C_below HR0_0.out hb_)); (case side2 => exact HC0_0.out); rintro e w35 ⟨rfl, hb⟩; refine ⟨_, rfl, ?_⟩; replace BK126 := bs_ BK126 hb; replace BK127 := bs_ BK127 hb; replace BK128 := bs_ BK128 hb; replace HB := bB_ hb; (try clear hb); refine hK.out _ _ ⟨ck_ BK126 0, ck_ BK126 1, ck_ BK126 2, ck_ BK127 0, ck_ BK127 1, ck_ BK127 2, ck_ BK127 3, ck_ BK127 4⟩ (fun hHeld => ?_)
    clear hK K; refine norm_ (a' := ?_) ?_ ?_; rotate_left
    ·
     show Act.put _ (some 23) _ = _; simp only [Act.put, sa_, s0_, s1_, i64_w, i32_w]
     rfl
    refine qX_ 13 10 (b_ 14 16383) ?_; refine done_ (done_of HT_.out (by kernel_rfl)) ?_; have hnb37 := NB127_128.out; have hnc37 := NB128_127.out; have hz38 := cz5_ BK127; have hz40 := cz5_ BK128
    try go_wp2
    refine bodyPost_ret (results_ct rfl _ _ gb128 35 #[.int .u8 2, .int .i64 (wrap64 (a1_1 + 1)), .int .i64 a3, .int .i64 a2, .int .i64 0] (0, 0) _ rfl (bP_ BK128) Try.underlying35 rfl (by kernel_rfl)) rfl ?_
    exact ⟨re_, hb_⟩
   ·
    rw [if_neg c30] at H; have c30b0 : (t132 == 0) = false := beq_eq_false_iff_ne.mpr c30; have c30b1 : (t132 != 0) = true := bne_iff_ne.mpr c30; simp only [Option.some.injEq, Prod.mk.injEq] at H; obtain ⟨rfl, rfl, rfl, rfl, rfl, rfl⟩ := H
    go_enter Try.func30, Try.ntmps30
    try go_wp2_with (first | ((with_reducible refine gd_ 4 rfl ?_); refine by0_ 4 #[.slice A0_0 l0_0.length c0_0, .int .i64 a0_1, .int .i64 a0_2] 60 ?_; clear HB; intro gb126 w41 BK126 GE126 HB; have GW126 := GE126) | ((with_reducible refine gd_ 5 rfl ?_); refine by1_ 5 #[.int .u8 a1_0, .int .i64 a1_1, .int .i64 a1_2, .int .i64 a1_3, .int .i64 a1_4] 35 BK126 ?_; clear HB BK126; intro gb127 w42 BK127 GE127 HB NB126_127 NB127_126 BK126; have GW127 := GE127) | ((with_reducible refine gd_ 8 rfl ?_); refine by2_ 8 #[.int .u8 0, .int .i64 0, .int .i64 0, .int .i64 0, .int .i64 0] 35 BK126 BK127 ?_; clear HB BK126 BK127; intro gb128 w43 BK128 GE128 HB NB126_128 NB128_126 BK126 NB127_128 NB128_127 BK127; have GW128 := GE128))
    replace BK126 := A_ (blk_drew BK126.out); replace BK127 := A_ (blk_drew BK127.out); replace BK128 := A_ (blk_drew BK128.out); replace HB := A_ (below_drew1 HB.out); refine start_ (n := 14) (S := fun w' => w'.cell? ⟨gb126, 0, none⟩ = some (.slice A0_0 l0_0.length c0_0) ∧ w'.cell? ⟨gb126, 1, none⟩ = some (.int .i64 a0_1) ∧ w'.cell? ⟨gb126, 2, none⟩ = some (.int .i64 a0_2) ∧ w'.cell? ⟨gb127, 0, none⟩ = some (.int .u8 a1_0) ∧ w'.cell? ⟨gb127, 1, none⟩ = some (.int .i64 a1_1) ∧ w'.cell? ⟨gb127, 2, none⟩ = some (.int .i64 a1_2) ∧ w'.cell? ⟨gb127, 3, none⟩ = some (.int .i64 a1_3) ∧ w'.cell? ⟨gb127, 4, none⟩ = some (.int .i64 a1_4)) (ds := []) (b_ 14 0) (by kernel_rfl) rfl rfl ⟨ck_ BK126 0, ck_ BK126 1, ck_ BK126 2, ck_ BK127 0, ck_ BK127 1, ck_ BK127 2, ck_ BK127 3, ck_ BK127 4⟩ (fun hHeld => ?_); refine with_tabW task_Lease.tab1 task_Lease.bits1 (fun HT_ HW_ => ?_); generalize w43.drew = w44 at BK126 BK127 BK128 HB hHeld ⊢; refine qX_ 2 13 (b_ 14 4) ?_; refine qX_ 3 14 (b_ 14 12) ?_; refine qX_ 4 15 (b_ 14 28) ?_; refine qX_ 5 16 (b_ 14 60) ?_; refine uX_ 0 11 (b_ 14 61) hHeld ?_; refine uX_ 1 12 (b_ 14 63) hHeld ?_
    refine one_ (i := 6) (N := some 17) (b_ 14 127) rfl rfl (one_of HT_.out (by kernel_rfl)) (by decide) (fun K hK => ?_); refine goes_ Try.func55 (by kernel_rfl) rfl #[.int .i64 a2] (by rfl) rfl rfl ga_ ?_; (with_reducible refine (task_count.calls a2 false _ A6.out).mono ?_); rintro e w' ⟨rfl, ⟨nd, rfl⟩⟩; refine ⟨_, rfl, ?_⟩; refine hK.out _ _ ⟨ck_ BK126 0, ck_ BK126 1, ck_ BK126 2, ck_ BK127 0, ck_ BK127 1, ck_ BK127 2, ck_ BK127 3, ck_ BK127 4⟩ (fun hHeld => ?_); clear hK K; refine norm_ (a' := ?_) ?_ ?_; rotate_left
    ·
     show Act.put _ (some 17) _ = _; simp only [Act.put, sa_, s0_, s1_, i64_w, i32_w]
     rfl
    refine qX_ 7 18 (b_ 14 255) ?_; refine qX_ 8 19 (b_ 14 511) ?_; refine pB_ 9 20 ?_ (b_ 14 1023) (any_of HT_.out (by kernel_rfl)) rfl rfl (fun _ _ _ h => h) (by rfl) ?_ ?_; rotate_left
    ·
     simp only [Act.put, sa_, s0_, s1_, i64_w, i32_w]
     rfl
    refine pB_ 10 21 ?_ (b_ 14 2047) (any_of HT_.out (by kernel_rfl)) rfl rfl (fun _ _ _ h => h) (by rfl) ?_ ?_; rotate_left
    ·
     simp only [Act.put, sa_, s0_, s1_, i64_w, i32_w]
     rfl
    refine qX_ 11 22 (b_ 14 4095) ?_; refine one_ (i := 12) (N := some 23) (b_ 14 8191) rfl rfl (one_of HT_.out (by kernel_rfl)) (by decide) (fun K hK => ?_); refine goes_ Try.func54 (by kernel_rfl) rfl #[.agg #[.slice A0_0 l0_0.length c0_0, .int .i64 a0_1, .int .i64 a0_2], .agg #[.int .u8 a1_0, .int .i64 a1_1, .int .i64 a1_2, .int .i64 a1_3, .int .i64 a1_4], .bool false, .int .u8 1] (by rfl) rfl rfl ga_ ?_; (with_reducible refine (task_in.calls k _ _ l0_0 a0_1 a0_2 a1_0 a1_1 a1_2 a1_3 a1_4 false 1 t132 _ ?side1 ?side2 A29.out).mono ?_); (case side1 => exact cX_ (Kd.C_below HR0_0.out hb_)); (case side2 => exact HC0_0.out); rintro e w45 ⟨rfl, hb⟩; refine ⟨_, rfl, ?_⟩; replace BK126 := bs_ BK126 hb; replace BK127 := bs_ BK127 hb; replace BK128 := bs_ BK128 hb; replace HB := bB_ hb; (try clear hb); refine hK.out _ _ ⟨ck_ BK126 0, ck_ BK126 1, ck_ BK126 2, ck_ BK127 0, ck_ BK127 1, ck_ BK127 2, ck_ BK127 3, ck_ BK127 4⟩ (fun hHeld => ?_)
    clear hK K; refine norm_ (a' := ?_) ?_ ?_; rotate_left
    ·
     show Act.put _ (some 23) _ = _; simp only [Act.put, sa_, s0_, s1_, i64_w, i32_w]
     rfl
    refine qX_ 13 10 (b_ 14 16383) ?_; refine done_ (done_of HT_.out (by kernel_rfl)) ?_; have hz48 := cz5_ BK128
    try go_wp2
    refine bodyPost_ret (results_ct rfl _ _ gb128 35 #[.int .u8 0, .int .i64 0, .int .i64 0, .int .i64 0, .int .i64 0] (0, 0) _ rfl (bP_ BK128) Try.underlying35 rfl (by kernel_rfl)) rfl ?_
    exact ⟨re_, hb_⟩
 ·
  rw [if_neg c5] at H; have c5b0 : decide (1 ≤ a2) = false := decide_eq_false c5; clear c5; replace H := Option.bind_eq_some_iff.mp H; obtain ⟨t133, A490, H⟩ := H; replace H : (if t133 = 0 then (some (2, wrap64 (a1_1 + 1), a3, a2, 0, 0)) else (some (0, 0, 0, 0, 0, t133))) = some (r1, r2, r3, r4, r5, r6) := H; have A49 := Aside0.mk A490; clear A490
  by_cases c50 : t133 = 0
  ·
   rw [if_pos c50] at H; have c50b0 : (t133 == 0) = true := beq_iff_eq.mpr c50; have c50b1 : (t133 != 0) = false := bne_eq_false_iff_eq.mpr c50; clear c50; simp only [Option.some.injEq, Prod.mk.injEq] at H; obtain ⟨rfl, rfl, rfl, rfl, rfl, rfl⟩ := H
   go_enter Try.func30, Try.ntmps30
   try go_wp2_with (first | ((with_reducible refine gd_ 4 rfl ?_); refine by0_ 4 #[.slice A0_0 l0_0.length c0_0, .int .i64 a0_1, .int .i64 a0_2] 60 ?_; clear HB; intro gb126 w51 BK126 GE126 HB; have GW126 := GE126) | ((with_reducible refine gd_ 5 rfl ?_); refine by1_ 5 #[.int .u8 a1_0, .int .i64 a1_1, .int .i64 a1_2, .int .i64 a1_3, .int .i64 a1_4] 35 BK126 ?_; clear HB BK126; intro gb127 w52 BK127 GE127 HB NB126_127 NB127_126 BK126; have GW127 := GE127) | ((with_reducible refine gd_ 8 rfl ?_); refine by2_ 8 #[.int .u8 0, .int .i64 0, .int .i64 0, .int .i64 0, .int .i64 0] 35 BK126 BK127 ?_; clear HB BK126 BK127; intro gb128 w53 BK128 GE128 HB NB126_128 NB128_126 BK126 NB127_128 NB128_127 BK127; have GW128 := GE128))
   replace BK126 := A_ (blk_drew BK126.out); replace BK127 := A_ (blk_drew BK127.out); replace BK128 := A_ (blk_drew BK128.out); replace HB := A_ (below_drew1 HB.out); refine start_ (n := 14) (S := fun w' => w'.cell? ⟨gb126, 0, none⟩ = some (.slice A0_0 l0_0.length c0_0) ∧ w'.cell? ⟨gb126, 1, none⟩ = some (.int .i64 a0_1) ∧ w'.cell? ⟨gb126, 2, none⟩ = some (.int .i64 a0_2) ∧ w'.cell? ⟨gb127, 0, none⟩ = some (.int .u8 a1_0) ∧ w'.cell? ⟨gb127, 1, none⟩ = some (.int .i64 a1_1) ∧ w'.cell? ⟨gb127, 2, none⟩ = some (.int .i64 a1_2) ∧ w'.cell? ⟨gb127, 3, none⟩ = some (.int .i64 a1_3) ∧ w'.cell? ⟨gb127, 4, none⟩ = some (.int .i64 a1_4)) (ds := []) (b_ 14 0) (by kernel_rfl) rfl rfl ⟨ck_ BK126 0, ck_ BK126 1, ck_ BK126 2, ck_ BK127 0, ck_ BK127 1, ck_ BK127 2, ck_ BK127 3, ck_ BK127 4⟩ (fun hHeld => ?_); refine with_tabW task_Lease.tab1 task_Lease.bits1 (fun HT_ HW_ => ?_); generalize w53.drew = w54 at BK126 BK127 BK128 HB hHeld ⊢; refine qX_ 2 13 (b_ 14 4) ?_; refine qX_ 3 14 (b_ 14 12) ?_; refine qX_ 4 15 (b_ 14 28) ?_; refine pB_ 5 16 ?_ (b_ 14 60) (any_of HT_.out (by kernel_rfl)) rfl rfl (fun _ _ _ h => h) (by rfl) ?_ ?_; rotate_left
   ·
    simp only [Act.put, sa_, s0_, s1_, i64_w, i32_w]
    rfl
   refine pB_ 6 17 ?_ (b_ 14 124) (any_of HT_.out (by kernel_rfl)) rfl rfl (fun _ _ _ h => h) (by rfl) ?_ ?_; rotate_left
   ·
    simp only [Act.put, sa_, s0_, s1_, i64_w, i32_w]
    rfl
   refine qX_ 7 18 (b_ 14 252) ?_; refine qX_ 8 19 (b_ 14 508) ?_; refine pB_ 9 20 ?_ (b_ 14 1020) (any_of HT_.out (by kernel_rfl)) rfl rfl (fun _ _ _ h => h) (by rfl) ?_ ?_; rotate_left
   ·
    simp only [Act.put, sa_, s0_, s1_, i64_w, i32_w]
    rfl
   refine pB_ 10 21 ?_ (b_ 14 2044) (any_of HT_.out (by kernel_rfl)) rfl rfl (fun _ _ _ h => h) (by rfl) ?_ ?_; rotate_left
   ·
    simp only [Act.put, sa_, s0_, s1_, i64_w, i32_w]
    rfl
   refine qX_ 11 22 (b_ 14 4092) ?_; refine uX_ 0 11 (b_ 14 4093) hHeld ?_; refine uX_ 1 12 (b_ 14 4095) hHeld ?_; refine one_ (i := 12) (N := some 23) (b_ 14 8191) rfl rfl (one_of HT_.out (by kernel_rfl)) (by decide) (fun K hK => ?_); refine goes_ Try.func54 (by kernel_rfl) rfl #[.agg #[.slice A0_0 l0_0.length c0_0, .int .i64 a0_1, .int .i64 a0_2], .agg #[.int .u8 a1_0, .int .i64 a1_1, .int .i64 a1_2, .int .i64 a1_3, .int .i64 a1_4], .bool false, .int .u8 1] (by rfl) rfl rfl ga_ ?_; (with_reducible refine (task_in.calls k _ _ l0_0 a0_1 a0_2 a1_0 a1_1 a1_2 a1_3 a1_4 false 1 t133 _ ?side1 ?side2 A49.out).mono ?_); (case side1 => exact cB_ HR0_0); (case side2 => exact HC0_0.out); rintro e w55 ⟨rfl, hb⟩; refine ⟨_, rfl, ?_⟩; replace BK126 := bs_ BK126 hb; replace BK127 := bs_ BK127 hb; replace BK128 := bs_ BK128 hb; replace HB := bB_ hb; (try clear hb)
   skip; refine hK.out _ _ ⟨ck_ BK126 0, ck_ BK126 1, ck_ BK126 2, ck_ BK127 0, ck_ BK127 1, ck_ BK127 2, ck_ BK127 3, ck_ BK127 4⟩ (fun hHeld => ?_); clear hK K; refine norm_ (a' := ?_) ?_ ?_; rotate_left
   ·
    show Act.put _ (some 23) _ = _; simp only [Act.put, sa_, s0_, s1_, i64_w, i32_w]
    rfl
   refine qX_ 13 10 (b_ 14 16383) ?_; refine done_ (done_of HT_.out (by kernel_rfl)) ?_; have hnb57 := NB127_128.out; have hnc57 := NB128_127.out; have hz58 := cz5_ BK127; have hz60 := cz5_ BK128
   try go_wp2
   refine bodyPost_ret (results_ct rfl _ _ gb128 35 #[.int .u8 2, .int .i64 (wrap64 (a1_1 + 1)), .int .i64 a3, .int .i64 a2, .int .i64 0] (0, 0) _ rfl (bP_ BK128) Try.underlying35 rfl (by kernel_rfl)) rfl ?_
   exact ⟨re_, hb_⟩
  ·
   rw [if_neg c50] at H; have c50b0 : (t133 == 0) = false := beq_eq_false_iff_ne.mpr c50; have c50b1 : (t133 != 0) = true := bne_iff_ne.mpr c50; simp only [Option.some.injEq, Prod.mk.injEq] at H; obtain ⟨rfl, rfl, rfl, rfl, rfl, rfl⟩ := H
   go_enter Try.func30, Try.ntmps30
   try go_wp2_with (first | ((with_reducible refine gd_ 4 rfl ?_); refine by0_ 4 #[.slice A0_0 l0_0.length c0_0, .int .i64 a0_1, .int .i64 a0_2] 60 ?_; clear HB; intro gb126 w61 BK126 GE126 HB; have GW126 := GE126) | ((with_reducible refine gd_ 5 rfl ?_); refine by1_ 5 #[.int .u8 a1_0, .int .i64 a1_1, .int .i64 a1_2, .int .i64 a1_3, .int .i64 a1_4] 35 BK126 ?_; clear HB BK126; intro gb127 w62 BK127 GE127 HB NB126_127 NB127_126 BK126; have GW127 := GE127) | ((with_reducible refine gd_ 8 rfl ?_); refine by2_ 8 #[.int .u8 0, .int .i64 0, .int .i64 0, .int .i64 0, .int .i64 0] 35 BK126 BK127 ?_; clear HB BK126 BK127; intro gb128 w63 BK128 GE128 HB NB126_128 NB128_126 BK126 NB127_128 NB128_127 BK127; have GW128 := GE128))
   replace BK126 := A_ (blk_drew BK126.out); replace BK127 := A_ (blk_drew BK127.out); replace BK128 := A_ (blk_drew BK128.out); replace HB := A_ (below_drew1 HB.out); refine start_ (n := 14) (S := fun w' => w'.cell? ⟨gb126, 0, none⟩ = some (.slice A0_0 l0_0.length c0_0) ∧ w'.cell? ⟨gb126, 1, none⟩ = some (.int .i64 a0_1) ∧ w'.cell? ⟨gb126, 2, none⟩ = some (.int .i64 a0_2) ∧ w'.cell? ⟨gb127, 0, none⟩ = some (.int .u8 a1_0) ∧ w'.cell? ⟨gb127, 1, none⟩ = some (.int .i64 a1_1) ∧ w'.cell? ⟨gb127, 2, none⟩ = some (.int .i64 a1_2) ∧ w'.cell? ⟨gb127, 3, none⟩ = some (.int .i64 a1_3) ∧ w'.cell? ⟨gb127, 4, none⟩ = some (.int .i64 a1_4)) (ds := []) (b_ 14 0) (by kernel_rfl) rfl rfl ⟨ck_ BK126 0, ck_ BK126 1, ck_ BK126 2, ck_ BK127 0, ck_ BK127 1, ck_ BK127 2, ck_ BK127 3, ck_ BK127 4⟩ (fun hHeld => ?_); refine with_tabW task_Lease.tab1 task_Lease.bits1 (fun HT_ HW_ => ?_); generalize w63.drew = w64 at BK126 BK127 BK128 HB hHeld ⊢; refine qX_ 2 13 (b_ 14 4) ?_; refine qX_ 3 14 (b_ 14 12) ?_; refine qX_ 4 15 (b_ 14 28) ?_; refine pB_ 5 16 ?_ (b_ 14 60) (any_of HT_.out (by kernel_rfl)) rfl rfl (fun _ _ _ h => h) (by rfl) ?_ ?_; rotate_left
   ·
    simp only [Act.put, sa_, s0_, s1_, i64_w, i32_w]
    rfl
   refine pB_ 6 17 ?_ (b_ 14 124) (any_of HT_.out (by kernel_rfl)) rfl rfl (fun _ _ _ h => h) (by rfl) ?_ ?_; rotate_left
   ·
    simp only [Act.put, sa_, s0_, s1_, i64_w, i32_w]
    rfl
   refine qX_ 7 18 (b_ 14 252) ?_; refine qX_ 8 19 (b_ 14 508) ?_; refine pB_ 9 20 ?_ (b_ 14 1020) (any_of HT_.out (by kernel_rfl)) rfl rfl (fun _ _ _ h => h) (by rfl) ?_ ?_; rotate_left
   ·
    simp only [Act.put, sa_, s0_, s1_, i64_w, i32_w]
    rfl
   refine pB_ 10 21 ?_ (b_ 14 2044) (any_of HT_.out (by kernel_rfl)) rfl rfl (fun _ _ _ h => h) (by rfl) ?_ ?_; rotate_left
   ·
    simp only [Act.put, sa_, s0_, s1_, i64_w, i32_w]
    rfl
   refine qX_ 11 22 (b_ 14 4092) ?_; refine uX_ 0 11 (b_ 14 4093) hHeld ?_; refine uX_ 1 12 (b_ 14 4095) hHeld ?_; refine one_ (i := 12) (N := some 23) (b_ 14 8191) rfl rfl (one_of HT_.out (by kernel_rfl)) (by decide) (fun K hK => ?_); refine goes_ Try.func54 (by kernel_rfl) rfl #[.agg #[.slice A0_0 l0_0.length c0_0, .int .i64 a0_1, .int .i64 a0_2], .agg #[.int .u8 a1_0, .int .i64 a1_1, .int .i64 a1_2, .int .i64 a1_3, .int .i64 a1_4], .bool false, .int .u8 1] (by rfl) rfl rfl ga_ ?_; (with_reducible refine (task_in.calls k _ _ l0_0 a0_1 a0_2 a1_0 a1_1 a1_2 a1_3 a1_4 false 1 t133 _ ?side1 ?side2 A49.out).mono ?_); (case side1 => exact cB_ HR0_0); (case side2 => exact HC0_0.out); rintro e w65 ⟨rfl, hb⟩; refine ⟨_, rfl, ?_⟩; replace BK126 := bs_ BK126 hb; replace BK127 := bs_ BK127 hb; replace BK128 := bs_ BK128 hb; replace HB := bB_ hb; (try clear hb)
   skip; refine hK.out _ _ ⟨ck_ BK126 0, ck_ BK126 1, ck_ BK126 2, ck_ BK127 0, ck_ BK127 1, ck_ BK127 2, ck_ BK127 3, ck_ BK127 4⟩ (fun hHeld => ?_); clear hK K; refine norm_ (a' := ?_) ?_ ?_; rotate_left
   ·
    show Act.put _ (some 23) _ = _; simp only [Act.put, sa_, s0_, s1_, i64_w, i32_w]
    rfl
   refine qX_ 13 10 (b_ 14 16383) ?_; refine done_ (done_of HT_.out (by kernel_rfl)) ?_; have hz68 := cz5_ BK128
   try go_wp2
   refine bodyPost_ret (results_ct rfl _ _ gb128 35 #[.int .u8 0, .int .i64 0, .int .i64 0, .int .i64 0, .int .i64 0] (0, 0) _ rfl (bP_ BK128) Try.underlying35 rfl (by kernel_rfl)) rfl ?_
   exact ⟨re_, hb_⟩

end Go.Proofs.Ytbiphljdommacaa.R

/- Contracts of Go functions and what they come to, over the translation of this seat: made by a program of this session (print2.py). -/
import Derived.Test.YtbiphljdommacaaRx6
import Derived.Test.YtbiphljdommacaaS3
import Derived.Test.YtbiphljdommacaaSh
import Derived.Test.YtbiphljdommacaaRx8
namespace Go.Proofs.Ytbiphljdommacaa.R
open Go.RowKit Go.Proofs.Ytbiphljdommacaa.Co Go.Proofs.Ytbiphljdommacaa.Ret Go.Proofs.Ytbiphljdommacaa.Plain Go.Proofs.YtbiphljdommacaaW.PrintWords Go.Proofs.YtbiphljdommacaaW.PrintLast Go.Proofs.YtbiphljdommacaaW.PrintMore
attribute [local go_sem] max2_int min2_int max_two min_two max_three min_three max_four min_four   -- for this text's walks alone
set_option linter.unusedVariables false
set_option linter.unusedSimpArgs false

theorem eqA35 (d : Nat) (w : World) (x0 y0 : Int) (x1 y1 : Int) (x2 y2 : Int) (x3 y3 : Int) (x4 y4 : Int) :
  (Op.equalIn (d + 2) 35 (.agg #[.int .u8 x0, .int .i64 x1, .int .i64 x2, .int .i64 x3, .int .i64 x4]) (.agg #[.int .u8 y0, .int .i64 y1, .int .i64 y2, .int .i64 y3, .int .i64 y4])).run Try.prog w = .ok (x0 == y0 && (x1 == y1 && (x2 == y2 && (x3 == y3 && (x4 == y4))))) w := by
 refine eqA_of Try.underlying35 (by kernel_rfl) ?_
 refine eqf_cons (by rfl) (by go_simp; rfl) (by go_simp; rfl) (by go_simp) ?_
 refine eqf_cons (by rfl) (by go_simp; rfl) (by go_simp; rfl) (by go_simp) ?_
 refine eqf_cons (by rfl) (by go_simp; rfl) (by go_simp; rfl) (by go_simp) ?_
 refine eqf_cons (by rfl) (by go_simp; rfl) (by go_simp; rfl) (by go_simp) ?_
 exact eqf_last (by rfl) (by go_simp; rfl) (by go_simp; rfl) (by go_simp)
end Go.Proofs.Ytbiphljdommacaa.R
namespace Go.Proofs.Ytbiphljdommacaa.R
open Go.RowKit Go.Proofs.Ytbiphljdommacaa.S3 Go.Proofs.Ytbiphljdommacaa.Sh Go.Proofs.Ytbiphljdommacaa.Co Go.Proofs.Ytbiphljdommacaa.Ret Go.Proofs.Ytbiphljdommacaa.Plain Go.Proofs.YtbiphljdommacaaW.PrintWords Go.Proofs.YtbiphljdommacaaW.PrintLast Go.Proofs.YtbiphljdommacaaW.PrintMore Go.Proofs.Ytbiphljdommacaa.Ti
attribute [local go_sem] max2_int min2_int max_two min_two max_three min_three max_four min_four   -- for this text's walks alone
set_option linter.unusedVariables false
set_option linter.unusedSimpArgs false

/-! ### task_Due: function 63 -/
def task_Due.f (a0_0 : Int) (a0_1 : Int) (a0_2 : Int) (a0_3 : Int) (a0_4 : Int) (a1 : Int) : Option (Bool) := if a0_0 = 2 then (some (decide (a0_2 ≤ a1))) else (if a0_0 = 3 then (some (decide (a0_2 ≤ a1))) else (some false))
set_option maxHeartbeats 8000000 in
set_option maxRecDepth 100000 in
theorem task_Due.calls (a0_0 : Int) (a0_1 : Int) (a0_2 : Int) (a0_3 : Int) (a0_4 : Int) (a1 : Int) (r : Bool) (w : World) (h : task_Due.f a0_0 a0_1 a0_2 a0_3 a0_4 a1 = some r) :
  Calls Try.prog 63 #[.agg #[.int .u8 a0_0, .int .i64 a0_1, .int .i64 a0_2, .int .i64 a0_3, .int .i64 a0_4], .int .i64 a1] w fun e w' => e = .returned (.bool r) ∧ Below w.heap.size w w' := by
 have hu35 := Try.underlying35; have HB := A_ (Below.refl w.heap.size w); have H : (if a0_0 = 2 then (some (decide (a0_2 ≤ a1))) else (if a0_0 = 3 then (some (decide (a0_2 ≤ a1))) else (some false))) = some r := h; clear h
 by_cases c3 : a0_0 = 2
 ·
  rw [if_pos c3] at H; have c3b0 : (a0_0 == 2) = true := beq_iff_eq.mpr c3; have c3b1 : (a0_0 != 2) = false := bne_eq_false_iff_eq.mpr c3; clear c3; obtain rfl := Option.some.inj H
  go_enter Try.func63, Try.ntmps63
  go_wp2_with (first | ((with_reducible refine gd_ 2 rfl ?_); refine by0_ 2 #[.int .u8 a0_0, .int .i64 a0_1, .int .i64 a0_2, .int .i64 a0_3, .int .i64 a0_4] 35 ?_; clear HB; intro gb200 w4 BK200 GE200 HB; have hz5 := cz5_ BK200))
  go_ret
  exact ⟨re_, hb_⟩
 ·
  rw [if_neg c3] at H; have c3b0 : (a0_0 == 2) = false := beq_eq_false_iff_ne.mpr c3; have c3b1 : (a0_0 != 2) = true := bne_iff_ne.mpr c3
  by_cases c6 : a0_0 = 3
  ·
   rw [if_pos c6] at H; have c6b0 : (a0_0 == 3) = true := beq_iff_eq.mpr c6; have c6b1 : (a0_0 != 3) = false := bne_eq_false_iff_eq.mpr c6; clear c6; obtain rfl := Option.some.inj H
   go_enter Try.func63, Try.ntmps63
   go_wp2_with (first | ((with_reducible refine gd_ 2 rfl ?_); refine by0_ 2 #[.int .u8 a0_0, .int .i64 a0_1, .int .i64 a0_2, .int .i64 a0_3, .int .i64 a0_4] 35 ?_; clear HB; intro gb200 w7 BK200 GE200 HB; have hz8 := cz5_ BK200))
   go_ret
   exact ⟨re_, hb_⟩
  ·
   rw [if_neg c6] at H; have c6b0 : (a0_0 == 3) = false := beq_eq_false_iff_ne.mpr c6; have c6b1 : (a0_0 != 3) = true := bne_iff_ne.mpr c6; obtain rfl := Option.some.inj H
   go_enter Try.func63, Try.ntmps63
   go_wp2_with (first | ((with_reducible refine gd_ 2 rfl ?_); refine by0_ 2 #[.int .u8 a0_0, .int .i64 a0_1, .int .i64 a0_2, .int .i64 a0_3, .int .i64 a0_4] 35 ?_; clear HB; intro gb200 w9 BK200 GE200 HB; have hz10 := cz5_ BK200))
   go_ret
   exact ⟨re_, hb_⟩

/-! ### task_Wake: function 42 -/
def task_Wake.j0 : Nat → Int → Int → Int → Int → Int → Int → Int → Int → Option (Int × Int × Int × Int × Int × Int)
 | 0, _, _, _, _, _, _, _, _ => none
 | k + 1, x2, x3, x10, x203000, x203001, x203002, x203003, x203004 => if x10 = 0 then ((task_Due.f x203000 x203001 x203002 x203003 x203004 x3).bind fun t208 => (if t208 = true then (some (1, x203001, 0, 0, x2, 0)) else (some (0, 0, 0, 0, 0, 240)))) else (some (0, 0, 0, 0, 0, x10))
def task_Wake.f (k : Nat) (l0_0 : List Int) (a0_1 : Int) (a0_2 : Int) (a1_0 : Int) (a1_1 : Int) (a1_2 : Int) (a1_3 : Int) (a1_4 : Int) (a2 : Int) (a3 : Int) : Option (Int × Int × Int × Int × Int × Int) := (task_count.f a2).bind fun t204 => (if t204 = true then ((task_moment.f a3).bind fun t205 => ((task_in.f k l0_0 a0_1 a0_2 a1_0 a1_1 a1_2 a1_3 a1_4 t205 3).bind fun t206 => (task_Wake.j0 k a2 a3 t206 a1_0 a1_1 a1_2 a1_3 a1_4))) else ((task_in.f k l0_0 a0_1 a0_2 a1_0 a1_1 a1_2 a1_3 a1_4 false 3).bind fun t207 => (task_Wake.j0 k a2 a3 t207 a1_0 a1_1 a1_2 a1_3 a1_4)))
def task_Wake.T1 : Bool × List (List Nat × List Nat) := (true, [([], []), ([], []), ([], []), ([2], [2]), ([3, 3], [3]), ([4], [4]), ([5, 4, 4], [4, 5]), ([4, 6], [4, 6]), ([0, 1, 7, 6], [0, 1, 7]), ([8, 8, 0, 1, 2, 3, 4, 5, 6, 7, 8], [8])])
def task_Wake.B1 : List Nat := [0, 0, 0, 4, 12, 28, 60, 124, 255, 511]
theorem task_Wake.tab1 : rtab .any (opsOf Try.f42 1) = task_Wake.T1 := by kernel_rfl
theorem task_Wake.bits1 : waitsOk task_Wake.T1.2 task_Wake.B1 = true := by kernel_rfl
set_option maxHeartbeats 8000000 in
set_option maxRecDepth 100000 in
theorem task_Wake.calls (k : Nat) (A0_0 : Option Addr) (c0_0 : Nat) (l0_0 : List Int) (a0_1 : Int) (a0_2 : Int) (a1_0 : Int) (a1_1 : Int) (a1_2 : Int) (a1_3 : Int) (a1_4 : Int) (a2 : Int) (a3 : Int) (r1 : Int) (r2 : Int) (r3 : Int) (r4 : Int) (r5 : Int) (r6 : Int) (w : World) (hr0_0 : Kd.C (Kd.int .i64) w A0_0 l0_0.length l0_0) (hc0_0 : l0_0.length ≤ c0_0) (h : task_Wake.f k l0_0 a0_1 a0_2 a1_0 a1_1 a1_2 a1_3 a1_4 a2 a3 = some (r1, r2, r3, r4, r5, r6)) :
  Calls Try.prog 42 #[.agg #[.slice A0_0 l0_0.length c0_0, .int .i64 a0_1, .int .i64 a0_2], .agg #[.int .u8 a1_0, .int .i64 a1_1, .int .i64 a1_2, .int .i64 a1_3, .int .i64 a1_4], .int .i64 a2, .int .i64 a3] w fun e w' => e = .returned (.tuple #[.agg #[.int .u8 r1, .int .i64 r2, .int .i64 r3, .int .i64 r4, .int .i64 r5], .int .i64 r6]) ∧ Below w.heap.size w w' := by
 have hu60 := Try.underlying60; have hu35 := Try.underlying35; have HR0_0 := A_ hr0_0; have HC0_0 := A_ hc0_0; clear hr0_0 hc0_0; have HB := A_ (Below.refl w.heap.size w); have H : ((task_count.f a2).bind fun t204 => (if t204 = true then ((task_moment.f a3).bind fun t205 => ((task_in.f k l0_0 a0_1 a0_2 a1_0 a1_1 a1_2 a1_3 a1_4 t205 3).bind fun t206 => (task_Wake.j0 k a2 a3 t206 a1_0 a1_1 a1_2 a1_3 a1_4))) else ((task_in.f k l0_0 a0_1 a0_2 a1_0 a1_1 a1_2 a1_3 a1_4 false 3).bind fun t207 => (task_Wake.j0 k a2 a3 t207 a1_0 a1_1 a1_2 a1_3 a1_4)))) = some (r1, r2, r3, r4, r5, r6) := h; clear h; have HC5 := Aside0.mk H; clear H
 go_enter Try.func42, Try.ntmps42
 go_upto_region 1 with (first | ((with_reducible refine gd_ 4 rfl ?_); refine by0_ 4 #[.slice A0_0 l0_0.length c0_0, .int .i64 a0_1, .int .i64 a0_2] 60 ?_; clear HB; intro gb201 w6 BK201 GE201 HB; have GW201 := GE201) | ((with_reducible refine gd_ 5 rfl ?_); refine by1_ 5 #[.int .u8 a1_0, .int .i64 a1_1, .int .i64 a1_2, .int .i64 a1_3, .int .i64 a1_4] 35 BK201 ?_; clear HB BK201; intro gb202 w7 BK202 GE202 HB NB201_202 NB202_201 BK201; have GW202 := GE202) | ((with_reducible refine gd_ 8 rfl ?_); refine by2_ 8 #[.int .u8 0, .int .i64 0, .int .i64 0, .int .i64 0, .int .i64 0] 35 BK201 BK202 ?_; clear HB BK201 BK202; intro gb203 w8 BK203 GE203 HB NB201_203 NB203_201 BK201 NB202_203 NB203_202 BK202; have GW203 := GE203))
 (try simp only [Act.put, sa_, s0_, s1_])
 go_cut [10] (fun v10 wc => ∃ (kq : Nat) (x10_4 : Int), v10 = .int .i64 x10_4 ∧ Aside0 (task_Wake.j0 kq a2 a3 x10_4 a1_0 a1_1 a1_2 a1_3 a1_4 = some (r1, r2, r3, r4, r5, r6)) ∧ Aside0 (kq ≤ k) ∧ Aside0 (wc.heap[gb201]? = some (.cells #[(.slice A0_0 l0_0.length c0_0), .int .i64 a0_1, .int .i64 a0_2] 60 (0, 0))) ∧ Aside0 (wc.heap[gb202]? = some (.cells #[.int .u8 a1_0, .int .i64 a1_1, .int .i64 a1_2, .int .i64 a1_3, .int .i64 a1_4] 35 (0, 0))) ∧ Aside0 (wc.heap[gb203]? = some (.cells #[.int .u8 0, .int .i64 0, .int .i64 0, .int .i64 0, .int .i64 0] 35 (0, 0))) ∧ Aside0 (Below w.heap.size w wc))
 case first =>
  have H := HC5.out; clear HC5; replace H := Option.bind_eq_some_iff.mp H; obtain ⟨t204, A90, H⟩ := H
  try dsimp only at H
  have A9 := Aside0.mk A90; clear A90
  by_cases c10 : t204 = true
  ·
   subst c10; have H1 : ((task_moment.f a3).bind fun t205 => ((task_in.f k l0_0 a0_1 a0_2 a1_0 a1_1 a1_2 a1_3 a1_4 t205 3).bind fun t206 => (task_Wake.j0 k a2 a3 t206 a1_0 a1_1 a1_2 a1_3 a1_4))) = some (r1, r2, r3, r4, r5, r6) := by rw [if_pos rfl] at H; exact H
   clear H; have H := H1; clear H1; replace H := Option.bind_eq_some_iff.mp H; obtain ⟨t205, A110, H⟩ := H; replace H : ((task_in.f k l0_0 a0_1 a0_2 a1_0 a1_1 a1_2 a1_3 a1_4 t205 3).bind fun t206 => (task_Wake.j0 k a2 a3 t206 a1_0 a1_1 a1_2 a1_3 a1_4)) = some (r1, r2, r3, r4, r5, r6) := H; have A11 := Aside0.mk A110; clear A110; replace H := Option.bind_eq_some_iff.mp H; obtain ⟨t206, A120, H⟩ := H; replace H : (task_Wake.j0 k a2 a3 t206 a1_0 a1_1 a1_2 a1_3 a1_4) = some (r1, r2, r3, r4, r5, r6) := H; have A12 := Aside0.mk A120; clear A120; have H' := Aside0.mk H; clear H
   try go_wp2
   replace BK201 := A_ (blk_drew BK201.out); replace BK202 := A_ (blk_drew BK202.out); replace BK203 := A_ (blk_drew BK203.out); replace HB := A_ (below_drew1 HB.out); refine start_ (n := 10) (S := fun w' => w'.cell? ⟨gb201, 0, none⟩ = some (.slice A0_0 l0_0.length c0_0) ∧ w'.cell? ⟨gb201, 1, none⟩ = some (.int .i64 a0_1) ∧ w'.cell? ⟨gb201, 2, none⟩ = some (.int .i64 a0_2) ∧ w'.cell? ⟨gb202, 0, none⟩ = some (.int .u8 a1_0) ∧ w'.cell? ⟨gb202, 1, none⟩ = some (.int .i64 a1_1) ∧ w'.cell? ⟨gb202, 2, none⟩ = some (.int .i64 a1_2) ∧ w'.cell? ⟨gb202, 3, none⟩ = some (.int .i64 a1_3) ∧ w'.cell? ⟨gb202, 4, none⟩ = some (.int .i64 a1_4)) (ds := []) (b_ 10 0) (by kernel_rfl) rfl rfl ⟨ck_ BK201 0, ck_ BK201 1, ck_ BK201 2, ck_ BK202 0, ck_ BK202 1, ck_ BK202 2, ck_ BK202 3, ck_ BK202 4⟩ (fun hHeld => ?_); refine with_tabW task_Wake.tab1 task_Wake.bits1 (fun HT_ HW_ => ?_); generalize w8.drew = w13 at BK201 BK202 BK203 HB hHeld ⊢; refine qX_ 2 13 (b_ 10 4) ?_; refine uX_ 0 11 (b_ 10 5) hHeld ?_; refine uX_ 1 12 (b_ 10 7) hHeld ?_; refine one_ (i := 3) (N := some 14) (b_ 10 15) rfl rfl (one_of HT_.out (by kernel_rfl)) (by decide) (fun K hK => ?_); refine goes_ Try.func55 (by kernel_rfl) rfl #[.int .i64 a2] (by rfl) rfl rfl ga_ ?_
   (with_reducible refine (task_count.calls a2 true _ A9.out).mono ?_); rintro e w' ⟨rfl, ⟨nd, rfl⟩⟩
   refine ⟨_, rfl, ?_⟩; refine hK.out _ _ ⟨ck_ BK201 0, ck_ BK201 1, ck_ BK201 2, ck_ BK202 0, ck_ BK202 1, ck_ BK202 2, ck_ BK202 3, ck_ BK202 4⟩ (fun hHeld => ?_); clear hK K; refine norm_ (a' := ?_) ?_ ?_; rotate_left
   ·
    show Act.put _ (some 14) _ = _; simp only [Act.put, sa_, s0_, s1_, i64_w, i32_w]
    rfl
   refine qX_ 4 15 (b_ 10 31) ?_; refine qX_ 5 16 (b_ 10 63) ?_; refine one_ (i := 6) (N := some 17) (b_ 10 127) rfl rfl (one_of HT_.out (by kernel_rfl)) (by decide) (fun K hK => ?_); refine goes_ Try.func56 (by kernel_rfl) rfl #[.int .i64 a3] (by rfl) rfl rfl ga_ ?_; (with_reducible refine (task_moment.calls a3 t205 _ A11.out).mono ?_); rintro e w' ⟨rfl, ⟨nd, rfl⟩⟩; refine ⟨_, rfl, ?_⟩; refine hK.out _ _ ⟨ck_ BK201 0, ck_ BK201 1, ck_ BK201 2, ck_ BK202 0, ck_ BK202 1, ck_ BK202 2, ck_ BK202 3, ck_ BK202 4⟩ (fun hHeld => ?_); clear hK K; refine norm_ (a' := ?_) ?_ ?_; rotate_left
   ·
    show Act.put _ (some 17) _ = _; simp only [Act.put, sa_, s0_, s1_, i64_w, i32_w]
    rfl
   refine qX_ 7 18 (b_ 10 255) ?_; refine one_ (i := 8) (N := some 19) (b_ 10 511) rfl rfl (one_of HT_.out (by kernel_rfl)) (by decide) (fun K hK => ?_); refine goes_ Try.func54 (by kernel_rfl) rfl #[.agg #[.slice A0_0 l0_0.length c0_0, .int .i64 a0_1, .int .i64 a0_2], .agg #[.int .u8 a1_0, .int .i64 a1_1, .int .i64 a1_2, .int .i64 a1_3, .int .i64 a1_4], .bool t205, .int .u8 3] (by rfl) rfl rfl ga_ ?_; (with_reducible refine (task_in.calls k _ _ l0_0 a0_1 a0_2 a1_0 a1_1 a1_2 a1_3 a1_4 t205 3 t206 _ ?side1 ?side2 A12.out).mono ?_); (case side1 => exact cX_ (Kd.C_below HR0_0.out hb_)); (case side2 => exact HC0_0.out); rintro e w14 ⟨rfl, hb⟩; refine ⟨_, rfl, ?_⟩; replace BK201 := bs_ BK201 hb; replace BK202 := bs_ BK202 hb; replace BK203 := bs_ BK203 hb; replace HB := bB_ hb; (try clear hb); refine hK.out _ _ ⟨ck_ BK201 0, ck_ BK201 1, ck_ BK201 2, ck_ BK202 0, ck_ BK202 1, ck_ BK202 2, ck_ BK202 3, ck_ BK202 4⟩ (fun hHeld => ?_)
   clear hK K; refine norm_ (a' := ?_) ?_ ?_; rotate_left
   ·
    show Act.put _ (some 19) _ = _; simp only [Act.put, sa_, s0_, s1_, i64_w, i32_w]
    rfl
   refine qX_ 9 10 (b_ 10 1023) ?_; refine done_ (done_of HT_.out (by kernel_rfl)) ?_
   try go_wp2
   go_meet
   case rel => exact ⟨_, (t206), rl_, H', ⟨le_⟩, ⟨bY_ BK201⟩, ⟨bY_ BK202⟩, ⟨bY_ BK203⟩, ⟨hb_⟩⟩
  ·
   replace c10 := Bool.eq_false_iff.mpr c10; subst c10; have H1 : ((task_in.f k l0_0 a0_1 a0_2 a1_0 a1_1 a1_2 a1_3 a1_4 false 3).bind fun t207 => (task_Wake.j0 k a2 a3 t207 a1_0 a1_1 a1_2 a1_3 a1_4)) = some (r1, r2, r3, r4, r5, r6) := by rw [if_neg (show ¬ (false = true) by decide)] at H; exact H
   clear H; have H := H1; clear H1; replace H := Option.bind_eq_some_iff.mp H; obtain ⟨t207, A150, H⟩ := H; replace H : (task_Wake.j0 k a2 a3 t207 a1_0 a1_1 a1_2 a1_3 a1_4) = some (r1, r2, r3, r4, r5, r6) := H; have A15 := Aside0.mk A150; clear A150; have H' := Aside0.mk H; clear H
   try go_wp2
   replace BK201 := A_ (blk_drew BK201.out); replace BK202 := A_ (blk_drew BK202.out); replace BK203 := A_ (blk_drew BK203.out); replace HB := A_ (below_drew1 HB.out); refine start_ (n := 10) (S := fun w' => w'.cell? ⟨gb201, 0, none⟩ = some (.slice A0_0 l0_0.length c0_0) ∧ w'.cell? ⟨gb201, 1, none⟩ = some (.int .i64 a0_1) ∧ w'.cell? ⟨gb201, 2, none⟩ = some (.int .i64 a0_2) ∧ w'.cell? ⟨gb202, 0, none⟩ = some (.int .u8 a1_0) ∧ w'.cell? ⟨gb202, 1, none⟩ = some (.int .i64 a1_1) ∧ w'.cell? ⟨gb202, 2, none⟩ = some (.int .i64 a1_2) ∧ w'.cell? ⟨gb202, 3, none⟩ = some (.int .i64 a1_3) ∧ w'.cell? ⟨gb202, 4, none⟩ = some (.int .i64 a1_4)) (ds := []) (b_ 10 0) (by kernel_rfl) rfl rfl ⟨ck_ BK201 0, ck_ BK201 1, ck_ BK201 2, ck_ BK202 0, ck_ BK202 1, ck_ BK202 2, ck_ BK202 3, ck_ BK202 4⟩ (fun hHeld => ?_); refine with_tabW task_Wake.tab1 task_Wake.bits1 (fun HT_ HW_ => ?_); generalize w8.drew = w16 at BK201 BK202 BK203 HB hHeld ⊢; refine qX_ 2 13 (b_ 10 4) ?_; refine uX_ 0 11 (b_ 10 5) hHeld ?_; refine uX_ 1 12 (b_ 10 7) hHeld ?_; refine one_ (i := 3) (N := some 14) (b_ 10 15) rfl rfl (one_of HT_.out (by kernel_rfl)) (by decide) (fun K hK => ?_); refine goes_ Try.func55 (by kernel_rfl) rfl #[.int .i64 a2] (by rfl) rfl rfl ga_ ?_
   (with_reducible refine (task_count.calls a2 false _ A9.out).mono ?_); rintro e w' ⟨rfl, ⟨nd, rfl⟩⟩
   refine ⟨_, rfl, ?_⟩; refine hK.out _ _ ⟨ck_ BK201 0, ck_ BK201 1, ck_ BK201 2, ck_ BK202 0, ck_ BK202 1, ck_ BK202 2, ck_ BK202 3, ck_ BK202 4⟩ (fun hHeld => ?_); clear hK K; refine norm_ (a' := ?_) ?_ ?_; rotate_left
   ·
    show Act.put _ (some 14) _ = _; simp only [Act.put, sa_, s0_, s1_, i64_w, i32_w]
    rfl
   refine qX_ 4 15 (b_ 10 31) ?_; refine pB_ 5 16 ?_ (b_ 10 63) (any_of HT_.out (by kernel_rfl)) rfl rfl (fun _ _ _ h => h) (by rfl) ?_ ?_; rotate_left
   ·
    simp only [Act.put, sa_, s0_, s1_, i64_w, i32_w]
    rfl
   refine pB_ 6 17 ?_ (b_ 10 127) (any_of HT_.out (by kernel_rfl)) rfl rfl (fun _ _ _ h => h) (by rfl) ?_ ?_; rotate_left
   ·
    simp only [Act.put, sa_, s0_, s1_, i64_w, i32_w]
    rfl
   refine qX_ 7 18 (b_ 10 255) ?_; refine one_ (i := 8) (N := some 19) (b_ 10 511) rfl rfl (one_of HT_.out (by kernel_rfl)) (by decide) (fun K hK => ?_); refine goes_ Try.func54 (by kernel_rfl) rfl #[.agg #[.slice A0_0 l0_0.length c0_0, .int .i64 a0_1, .int .i64 a0_2], .agg #[.int .u8 a1_0, .int .i64 a1_1, .int .i64 a1_2, .int .i64 a1_3, .int .i64 a1_4], .bool false, .int .u8 3] (by rfl) rfl rfl ga_ ?_; (with_reducible refine (task_in.calls k _ _ l0_0 a0_1 a0_2 a1_0 a1_1 a1_2 a1_3 a1_4 false 3 t207 _ ?side1 ?side2 A15.out).mono ?_); (case side1 => exact cX_ (Kd.C_below HR0_0.out hb_)); (case side2 => exact HC0_0.out); rintro e w17 ⟨rfl, hb⟩; refine ⟨_, rfl, ?_⟩; replace BK201 := bs_ BK201 hb; replace BK202 := bs_ BK202 hb; replace BK203 := bs_ BK203 hb; replace HB := bB_ hb; (try clear hb); refine hK.out _ _ ⟨ck_ BK201 0, ck_ BK201 1, ck_ BK201 2, ck_ BK202 0, ck_ BK202 1, ck_ BK202 2, ck_ BK202 3, ck_ BK202 4⟩ (fun hHeld => ?_)
   clear hK K; refine norm_ (a' := ?_) ?_ ?_; rotate_left
   ·
    show Act.put _ (some 19) _ = _; simp only [Act.put, sa_, s0_, s1_, i64_w, i32_w]
    rfl
   refine qX_ 9 10 (b_ 10 1023) ?_; refine done_ (done_of HT_.out (by kernel_rfl)) ?_
   try go_wp2
   go_meet
   case rel => exact ⟨_, (t207), rl_, H', ⟨le_⟩, ⟨bY_ BK201⟩, ⟨bY_ BK202⟩, ⟨bY_ BK203⟩, ⟨hb_⟩⟩
 case rest =>
  clear HC5; (try clear c10); obtain ⟨kq, x10_4, rfl, HA, HJ4, BK201, BK202, BK203, HB⟩ := hcut
  cases kq with
  | zero => exact absurd HA.out (by simp [task_Wake.j0])
  | succ kj4 =>
   have H := HA.out; clear HA; simp only [task_Wake.j0] at H
   by_cases c18 : x10_4 = 0
   ·
    rw [if_pos c18] at H; have c18b0 : (x10_4 == 0) = true := beq_iff_eq.mpr c18; have c18b1 : (x10_4 != 0) = false := bne_eq_false_iff_eq.mpr c18; clear c18; replace H := Option.bind_eq_some_iff.mp H; obtain ⟨t208, A190, H⟩ := H; replace H : (if t208 = true then (some (1, a1_1, 0, 0, a2, 0)) else (some (0, 0, 0, 0, 0, 240))) = some (r1, r2, r3, r4, r5, r6) := H; have A19 := Aside0.mk A190; clear A190
    by_cases c20 : t208 = true
    ·
     subst c20; have H1 : (some (1, a1_1, 0, 0, a2, 0)) = some (r1, r2, r3, r4, r5, r6) := by rw [if_pos rfl] at H; exact H
     clear H; have H := H1; clear H1; simp only [Option.some.injEq, Prod.mk.injEq] at H; obtain ⟨rfl, rfl, rfl, rfl, rfl, rfl⟩ := H; have hz23 := cz5_ BK202
     go_wp2_with (first | ((with_reducible refine gc_ 63 rfl ?_); refine gL_ (some 26) Try.func63 #[.agg #[.int .u8 a1_0, .int .i64 a1_1, .int .i64 a1_2, .int .i64 a1_3, .int .i64 a1_4], .int .i64 a3] ?_; (with_reducible refine (task_Due.calls a1_0 a1_1 a1_2 a1_3 a1_4 a3 true _ A19.out).mono ?_); rintro e w24 ⟨rfl, hb⟩; refine ⟨_, rfl, ?_⟩; replace BK201 := bs_ BK201 hb; replace BK202 := bs_ BK202 hb; replace BK203 := bs_ BK203 hb; replace HB := bB_ hb; (try clear hb); have hz25 := cz5_ BK202; have hnb26 := NB203_201.out; have hnc26 := NB201_203.out; have hz27 := cz5_ BK203; have hnp202203 := NB202_203.out; have hnq202203 := NB203_202.out))
     refine bodyPost_ret (results_ct rfl _ _ gb203 35 #[.int .u8 1, .int .i64 a1_1, .int .i64 0, .int .i64 0, .int .i64 a2] (0, 0) _ rfl (bP_ BK203) Try.underlying35 rfl (by kernel_rfl)) rfl ?_
     exact ⟨re_, hb_⟩
    ·
     replace c20 := Bool.eq_false_iff.mpr c20; subst c20; have H1 : (some (0, 0, 0, 0, 0, 240)) = some (r1, r2, r3, r4, r5, r6) := by rw [if_neg (show ¬ (false = true) by decide)] at H; exact H
     clear H; have H := H1; clear H1; simp only [Option.some.injEq, Prod.mk.injEq] at H; obtain ⟨rfl, rfl, rfl, rfl, rfl, rfl⟩ := H; have hz30 := cz5_ BK202
     go_wp2_with (first | ((with_reducible refine gc_ 63 rfl ?_); refine gL_ (some 26) Try.func63 #[.agg #[.int .u8 a1_0, .int .i64 a1_1, .int .i64 a1_2, .int .i64 a1_3, .int .i64 a1_4], .int .i64 a3] ?_; (with_reducible refine (task_Due.calls a1_0 a1_1 a1_2 a1_3 a1_4 a3 false _ A19.out).mono ?_); rintro e w31 ⟨rfl, hb⟩; refine ⟨_, rfl, ?_⟩; replace BK201 := bs_ BK201 hb; replace BK202 := bs_ BK202 hb; replace BK203 := bs_ BK203 hb; replace HB := bB_ hb; (try clear hb); have hnb32 := NB203_201.out; have hnc32 := NB201_203.out; have hz33 := cz5_ BK203))
     refine bodyPost_ret (results_ct rfl _ _ gb203 35 #[.int .u8 0, .int .i64 0, .int .i64 0, .int .i64 0, .int .i64 0] (0, 0) _ rfl (bP_ BK203) Try.underlying35 rfl (by kernel_rfl)) rfl ?_
     exact ⟨re_, hb_⟩
   ·
    rw [if_neg c18] at H; have c18b0 : (x10_4 == 0) = false := beq_eq_false_iff_ne.mpr c18; have c18b1 : (x10_4 != 0) = true := bne_iff_ne.mpr c18; simp only [Option.some.injEq, Prod.mk.injEq] at H; obtain ⟨rfl, rfl, rfl, rfl, rfl, rfl⟩ := H; have hz36 := cz5_ BK203
    go_wp2
    refine bodyPost_ret (results_ct rfl _ _ gb203 35 #[.int .u8 0, .int .i64 0, .int .i64 0, .int .i64 0, .int .i64 0] (0, 0) _ rfl (bP_ BK203) Try.underlying35 rfl (by kernel_rfl)) rfl ?_
    exact ⟨re_, hb_⟩

end Go.Proofs.Ytbiphljdommacaa.R

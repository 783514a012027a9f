/- Contracts of Go functions and what they come to, over the translation of this seat: made by a program of this session (print2.py). -/
import Derived.Test.YtbiphljdommacaaS3
import Derived.Test.YtbiphljdommacaaSh
import Derived.Test.YtbiphljdommacaaRx6
import Derived.Test.YtbiphljdommacaaRx17
import Derived.Test.YtbiphljdommacaaRx8
import Derived.Test.YtbiphljdommacaaRx13
namespace Go.Proofs.Ytbiphljdommacaa.R
open Go.RowKit Go.Proofs.Ytbiphljdommacaa.S3 Go.Proofs.Ytbiphljdommacaa.Sh Go.Proofs.Ytbiphljdommacaa.Co Go.Proofs.Ytbiphljdommacaa.Ret Go.Proofs.Ytbiphljdommacaa.Plain Go.Proofs.YtbiphljdommacaaW.PrintWords Go.Proofs.YtbiphljdommacaaW.PrintLast Go.Proofs.YtbiphljdommacaaW.PrintMore Go.Proofs.Ytbiphljdommacaa.Ti
attribute [local go_sem] max2_int min2_int max_two min_two max_three min_three max_four min_four   -- for this text's walks alone
set_option linter.unusedVariables false
set_option linter.unusedSimpArgs false

/-! ### run_Wake_1: function 41 -/
def run_Wake_1.f (k : Nat) (l0_0 : List Int) (a0_1 : Int) (a0_2 : Int) (a1_0 : Int) (a1_1 : Int) (a1_2 : Int) (a1_3 : Int) (a1_4 : Int) (a2 : Int) (a3 : Int) : Option (Int × Int × Int × Int × Int × Int) := (task_Wake.f k l0_0 a0_1 a0_2 a1_0 a1_1 a1_2 a1_3 a1_4 a2 a3).bind fun bt212 => (some (bt212.1, bt212.2.1, bt212.2.2.1, bt212.2.2.2.1, bt212.2.2.2.2.1, bt212.2.2.2.2.2))
set_option maxHeartbeats 8000000 in
set_option maxRecDepth 100000 in
theorem run_Wake_1.calls (k : Nat) (A0_0 : Option Addr) (c0_0 : Nat) (l0_0 : List Int) (a0_1 : Int) (a0_2 : Int) (a1_0 : Int) (a1_1 : Int) (a1_2 : Int) (a1_3 : Int) (a1_4 : Int) (a2 : Int) (a3 : Int) (r1 : Int) (r2 : Int) (r3 : Int) (r4 : Int) (r5 : Int) (r6 : Int) (w : World) (hr0_0 : Kd.C (Kd.int .i64) w A0_0 l0_0.length l0_0) (hc0_0 : l0_0.length ≤ c0_0) (ga2 : Nat) (hbxa2 : w.heap[ga2]? = some (.cells #[.int .i64 a2] 3 (0, 0))) (ga3 : Nat) (hbxa3 : w.heap[ga3]? = some (.cells #[.int .i64 a3] 3 (0, 0))) (h : run_Wake_1.f k l0_0 a0_1 a0_2 a1_0 a1_1 a1_2 a1_3 a1_4 a2 a3 = some (r1, r2, r3, r4, r5, r6)) :
  Calls Try.prog 41 #[.agg #[.slice A0_0 l0_0.length c0_0, .int .i64 a0_1, .int .i64 a0_2], .agg #[.int .u8 a1_0, .int .i64 a1_1, .int .i64 a1_2, .int .i64 a1_3, .int .i64 a1_4], .pointer (some ⟨ga2, 0, none⟩), .pointer (some ⟨ga3, 0, none⟩)] w fun e w' => e = .returned (.tuple #[.agg #[.int .u8 r1, .int .i64 r2, .int .i64 r3, .int .i64 r4, .int .i64 r5], .int .i64 r6]) ∧ Below w.heap.size w w' := by
 have HBXa2 := A_ hbxa2; clear hbxa2; have HBXa3 := A_ hbxa3; clear hbxa3; have hu60 := Try.underlying60; have hu35 := Try.underlying35; have HR0_0 := A_ hr0_0; have HC0_0 := A_ hc0_0; clear hr0_0 hc0_0; have HB := A_ (Below.refl w.heap.size w); have H : ((task_Wake.f k l0_0 a0_1 a0_2 a1_0 a1_1 a1_2 a1_3 a1_4 a2 a3).bind fun bt212 => (some (bt212.1, bt212.2.1, bt212.2.2.1, bt212.2.2.2.1, bt212.2.2.2.2.1, bt212.2.2.2.2.2))) = some (r1, r2, r3, r4, r5, r6) := h; clear h; replace H := Option.bind_eq_some_iff.mp H; obtain ⟨⟨t212, t213, t214, t215, t216, t217⟩, A50, H⟩ := H; replace H : (some (t212, t213, t214, t215, t216, t217)) = some (r1, r2, r3, r4, r5, r6) := H; have A5 := Aside0.mk A50; clear A50; simp only [Option.some.injEq, Prod.mk.injEq] at H; obtain ⟨rfl, rfl, rfl, rfl, rfl, rfl⟩ := H
 go_enter Try.func41, Try.ntmps41
 go_wp2_with (first | ((with_reducible refine gd_ 4 rfl ?_); refine by0_ 4 #[.slice A0_0 l0_0.length c0_0, .int .i64 a0_1, .int .i64 a0_2] 60 ?_; clear HB; intro gb209 w6 BK209 GE209 HB; have hqca2_w6 : w6.cell? ⟨ga2, 0, none⟩ = some (.int .i64 a2) := (blk_cell (blk_below (g := ga2) (o := .cells #[.int .i64 a2] 3 (0, 0)) HBXa2.out HB.out) 0).trans rfl; have hqca3_w6 : w6.cell? ⟨ga3, 0, none⟩ = some (.int .i64 a3) := (blk_cell (blk_below (g := ga3) (o := .cells #[.int .i64 a3] 3 (0, 0)) HBXa3.out HB.out) 0).trans rfl) | ((with_reducible refine gd_ 5 rfl ?_); refine by1_ 5 #[.int .u8 a1_0, .int .i64 a1_1, .int .i64 a1_2, .int .i64 a1_3, .int .i64 a1_4] 35 BK209 ?_; clear HB BK209; intro gb210 w7 BK210 GE210 HB NB209_210 NB210_209 BK209; have hqca2_w7 : w7.cell? ⟨ga2, 0, none⟩ = some (.int .i64 a2) := (blk_cell (blk_below (g := ga2) (o := .cells #[.int .i64 a2] 3 (0, 0)) HBXa2.out HB.out) 0).trans rfl; have hqca3_w7 : w7.cell? ⟨ga3, 0, none⟩ = some (.int .i64 a3) := (blk_cell (blk_below (g := ga3) (o := .cells #[.int .i64 a3] 3 (0, 0)) HBXa3.out HB.out) 0).trans rfl) | ((with_reducible refine gd_ 6 rfl ?_); refine by2_ 6 #[.int .u8 0, .int .i64 0, .int .i64 0, .int .i64 0, .int .i64 0] 35 BK209 BK210 ?_; clear HB BK209 BK210; intro gb211 w8 BK211 GE211 HB NB209_211 NB211_209 BK209 NB210_211 NB211_210 BK210; have hnb9 := NB209_210.out; have hnc9 := NB210_209.out; have hz11 := cz3_ BK209; have hz13 := cz5_ BK210; have hqca2_w8 : w8.cell? ⟨ga2, 0, none⟩ = some (.int .i64 a2) := (blk_cell (blk_below (g := ga2) (o := .cells #[.int .i64 a2] 3 (0, 0)) HBXa2.out HB.out) 0).trans rfl; have hqca3_w8 : w8.cell? ⟨ga3, 0, none⟩ = some (.int .i64 a3) := (blk_cell (blk_below (g := ga3) (o := .cells #[.int .i64 a3] 3 (0, 0)) HBXa3.out HB.out) 0).trans rfl) | ((with_reducible refine gc_ 42 rfl ?_); refine gL_ (some 12) Try.func42 #[.agg #[.slice A0_0 l0_0.length c0_0, .int .i64 a0_1, .int .i64 a0_2], .agg #[.int .u8 a1_0, .int .i64 a1_1, .int .i64 a1_2, .int .i64 a1_3, .int .i64 a1_4], .int .i64 a2, .int .i64 a3] ?_; (with_reducible refine (task_Wake.calls k _ _ l0_0 a0_1 a0_2 a1_0 a1_1 a1_2 a1_3 a1_4 a2 a3 t212 t213 t214 t215 t216 t217 _ ?side1 ?side2 A5.out).mono ?_); (case side1 => exact cB_ HR0_0); (case side2 => exact HC0_0.out); rintro e w14 ⟨rfl, hb⟩; refine ⟨_, rfl, ?_⟩; replace BK209 := bs_ BK209 hb; replace BK210 := bs_ BK210 hb; replace BK211 := bs_ BK211 hb; replace HB := bB_ hb; (try clear hb); have hz15 := cz5_ BK211))
 refine bodyPost_ret (results_ct rfl _ _ gb211 35 #[.int .u8 t212, .int .i64 t213, .int .i64 t214, .int .i64 t215, .int .i64 t216] (0, 0) _ rfl (bP_ BK211) Try.underlying35 rfl (by kernel_rfl)) rfl ?_
 exact ⟨re_, hb_⟩

end Go.Proofs.Ytbiphljdommacaa.R
namespace Go.Proofs.Ytbiphljdommacaa.R
open Go.RowKit Go.Proofs.Ytbiphljdommacaa.S3 Go.Proofs.Ytbiphljdommacaa.Sh Go.Proofs.Ytbiphljdommacaa.Co Go.Proofs.Ytbiphljdommacaa.Ret Go.Proofs.Ytbiphljdommacaa.Plain Go.Proofs.YtbiphljdommacaaW.PrintWords Go.Proofs.YtbiphljdommacaaW.PrintLast Go.Proofs.YtbiphljdommacaaW.PrintMore Go.Proofs.Ytbiphljdommacaa.Ti
attribute [local go_sem] max2_int min2_int max_two min_two max_three min_three max_four min_four   -- for this text's walks alone
set_option linter.unusedVariables false
set_option linter.unusedSimpArgs false

/-! ### task_Lapse: function 44 -/
def task_Lapse.f (k : Nat) (l0_0 : List Int) (a0_1 : Int) (a0_2 : Int) (a1_0 : Int) (a1_1 : Int) (a1_2 : Int) (a1_3 : Int) (a1_4 : Int) (a2 : Int) : Option (Int × Int × Int × Int × Int × Int) := (task_moment.f a2).bind fun t221 => ((task_in.f k l0_0 a0_1 a0_2 a1_0 a1_1 a1_2 a1_3 a1_4 t221 2).bind fun t222 => (if t222 = 0 then ((task_Due.f a1_0 a1_1 a1_2 a1_3 a1_4 a2).bind fun t223 => (if t223 = true then ((task_fails.f k l0_0 a0_1 a0_2 a1_0 a1_1 a1_2 a1_3 a1_4 a2).bind fun bt224 => (some (bt224.1, bt224.2.1, bt224.2.2.1, bt224.2.2.2.1, bt224.2.2.2.2, 0))) else (some (0, 0, 0, 0, 0, 240)))) else (some (0, 0, 0, 0, 0, t222))))
set_option maxHeartbeats 8000000 in
set_option maxRecDepth 100000 in
theorem task_Lapse.calls (k : Nat) (A0_0 : Option Addr) (c0_0 : Nat) (l0_0 : List Int) (a0_1 : Int) (a0_2 : Int) (a1_0 : Int) (a1_1 : Int) (a1_2 : Int) (a1_3 : Int) (a1_4 : Int) (a2 : Int) (r1 : Int) (r2 : Int) (r3 : Int) (r4 : Int) (r5 : Int) (r6 : Int) (w : World) (hr0_0 : Kd.C (Kd.int .i64) w A0_0 l0_0.length l0_0) (hc0_0 : l0_0.length ≤ c0_0) (h : task_Lapse.f k l0_0 a0_1 a0_2 a1_0 a1_1 a1_2 a1_3 a1_4 a2 = some (r1, r2, r3, r4, r5, r6)) :
  Calls Try.prog 44 #[.agg #[.slice A0_0 l0_0.length c0_0, .int .i64 a0_1, .int .i64 a0_2], .agg #[.int .u8 a1_0, .int .i64 a1_1, .int .i64 a1_2, .int .i64 a1_3, .int .i64 a1_4], .int .i64 a2] w fun e w' => e = .returned (.tuple #[.agg #[.int .u8 r1, .int .i64 r2, .int .i64 r3, .int .i64 r4, .int .i64 r5], .int .i64 r6]) ∧ Below w.heap.size w w' := by
 have hu60 := Try.underlying60; have hu35 := Try.underlying35; have HR0_0 := A_ hr0_0; have HC0_0 := A_ hc0_0; clear hr0_0 hc0_0; have HB := A_ (Below.refl w.heap.size w); have H : ((task_moment.f a2).bind fun t221 => ((task_in.f k l0_0 a0_1 a0_2 a1_0 a1_1 a1_2 a1_3 a1_4 t221 2).bind fun t222 => (if t222 = 0 then ((task_Due.f a1_0 a1_1 a1_2 a1_3 a1_4 a2).bind fun t223 => (if t223 = true then ((task_fails.f k l0_0 a0_1 a0_2 a1_0 a1_1 a1_2 a1_3 a1_4 a2).bind fun bt224 => (some (bt224.1, bt224.2.1, bt224.2.2.1, bt224.2.2.2.1, bt224.2.2.2.2, 0))) else (some (0, 0, 0, 0, 0, 240)))) else (some (0, 0, 0, 0, 0, t222))))) = some (r1, r2, r3, r4, r5, r6) := h; clear h; replace H := Option.bind_eq_some_iff.mp H; obtain ⟨t221, A40, H⟩ := H
 try dsimp only at H
 have A4 := Aside0.mk A40; clear A40; replace H := Option.bind_eq_some_iff.mp H; obtain ⟨t222, A50, H⟩ := H
 try dsimp only at H
 have A5 := Aside0.mk A50; clear A50
 by_cases c6 : t222 = 0
 ·
  rw [if_pos c6] at H; have c6b0 : (t222 == 0) = true := beq_iff_eq.mpr c6; have c6b1 : (t222 != 0) = false := bne_eq_false_iff_eq.mpr c6; clear c6; replace H := Option.bind_eq_some_iff.mp H; obtain ⟨t223, A70, H⟩ := H
  try dsimp only at H
  have A7 := Aside0.mk A70; clear A70
  by_cases c8 : t223 = true
  ·
   subst c8; have H1 : ((task_fails.f k l0_0 a0_1 a0_2 a1_0 a1_1 a1_2 a1_3 a1_4 a2).bind fun bt224 => (some (bt224.1, bt224.2.1, bt224.2.2.1, bt224.2.2.2.1, bt224.2.2.2.2, 0))) = some (r1, r2, r3, r4, r5, r6) := by rw [if_pos rfl] at H; exact H
   clear H; have H := H1; clear H1; replace H := Option.bind_eq_some_iff.mp H; obtain ⟨⟨t224, t225, t226, t227, t228⟩, A90, H⟩ := H; replace H : (some (t224, t225, t226, t227, t228, 0)) = some (r1, r2, r3, r4, r5, r6) := H; have A9 := Aside0.mk A90; clear A90; simp only [Option.some.injEq, Prod.mk.injEq] at H; obtain ⟨rfl, rfl, rfl, rfl, rfl, rfl⟩ := H
   go_enter Try.func44, Try.ntmps44
   try go_wp2_with (first | ((with_reducible refine gd_ 3 rfl ?_); refine by0_ 3 #[.slice A0_0 l0_0.length c0_0, .int .i64 a0_1, .int .i64 a0_2] 60 ?_; clear HB; intro gb218 w10 BK218 GE218 HB; have GW218 := GE218) | ((with_reducible refine gd_ 4 rfl ?_); refine by1_ 4 #[.int .u8 a1_0, .int .i64 a1_1, .int .i64 a1_2, .int .i64 a1_3, .int .i64 a1_4] 35 BK218 ?_; clear HB BK218; intro gb219 w11 BK219 GE219 HB NB218_219 NB219_218 BK218; have GW219 := GE219) | ((with_reducible refine gd_ 6 rfl ?_); refine by2_ 6 #[.int .u8 0, .int .i64 0, .int .i64 0, .int .i64 0, .int .i64 0] 35 BK218 BK219 ?_; clear HB BK218 BK219; intro gb220 w12 BK220 GE220 HB NB218_220 NB220_218 BK218 NB219_220 NB220_219 BK219; have GW220 := GE220))
   replace BK218 := A_ (blk_drew BK218.out); replace BK219 := A_ (blk_drew BK219.out); replace BK220 := A_ (blk_drew BK220.out); replace HB := A_ (below_drew1 HB.out); refine start_ (n := 6) (S := fun w' => w'.cell? ⟨gb218, 0, none⟩ = some (.slice A0_0 l0_0.length c0_0) ∧ w'.cell? ⟨gb218, 1, none⟩ = some (.int .i64 a0_1) ∧ w'.cell? ⟨gb218, 2, none⟩ = some (.int .i64 a0_2) ∧ w'.cell? ⟨gb219, 0, none⟩ = some (.int .u8 a1_0) ∧ w'.cell? ⟨gb219, 1, none⟩ = some (.int .i64 a1_1) ∧ w'.cell? ⟨gb219, 2, none⟩ = some (.int .i64 a1_2) ∧ w'.cell? ⟨gb219, 3, none⟩ = some (.int .i64 a1_3) ∧ w'.cell? ⟨gb219, 4, none⟩ = some (.int .i64 a1_4)) (ds := []) (b_ 6 0) (by kernel_rfl) rfl rfl ⟨ck_ BK218 0, ck_ BK218 1, ck_ BK218 2, ck_ BK219 0, ck_ BK219 1, ck_ BK219 2, ck_ BK219 3, ck_ BK219 4⟩ (fun hHeld => ?_); generalize w12.drew = w13 at BK218 BK219 BK220 HB hHeld ⊢; refine pure_ (i := 2) (N := some 11) (v := ?_) (a' := ?_) (b_ 6 4) rfl rfl (by kernel_rfl) (fun _ _ _ h => h) (Or.inl ⟨by rfl, ?_⟩) ?_ ?_; rotate_left
   ·
    intro w'; go_simp; (with_reducible rfl)
   rotate_left
   ·
    simp only [Act.put, sa_, s0_, s1_, i64_w, i32_w]
    rfl
   refine take_ (i := 0) (N := some 9) (v := ?_) (a' := ?_) (b_ 6 5) rfl rfl (by kernel_rfl) (fun _ _ _ h => h) (Or.inl ⟨by rfl, ?_⟩) hHeld ?_ ?_; rotate_left
   ·
    rintro w' ⟨s0, s1, s2, s3, s4, s5, s6, s7⟩; go_simp; (with_reducible rfl)
   rotate_left
   ·
    simp only [Act.put, sa_, s0_, s1_, i64_w, i32_w]
    rfl
   refine take_ (i := 1) (N := some 10) (v := ?_) (a' := ?_) (b_ 6 7) rfl rfl (by kernel_rfl) (fun _ _ _ h => h) (Or.inl ⟨by rfl, ?_⟩) hHeld ?_ ?_; rotate_left
   ·
    rintro w' ⟨s0, s1, s2, s3, s4, s5, s6, s7⟩; go_simp; (with_reducible rfl)
   rotate_left
   ·
    simp only [Act.put, sa_, s0_, s1_, i64_w, i32_w]
    rfl
   refine one_ (i := 3) (N := some 12) (b_ 6 15) rfl rfl (by kernel_rfl) (by decide) (fun K hK => ?_); refine goes_ Try.func56 (by kernel_rfl) rfl #[.int .i64 a2] (by rfl) rfl rfl ga_ ?_; (with_reducible refine (task_moment.calls a2 t221 _ A4.out).mono ?_); rintro e w' ⟨rfl, ⟨nd, rfl⟩⟩; refine ⟨_, rfl, ?_⟩; refine hK.out _ _ ⟨ck_ BK218 0, ck_ BK218 1, ck_ BK218 2, ck_ BK219 0, ck_ BK219 1, ck_ BK219 2, ck_ BK219 3, ck_ BK219 4⟩ (fun hHeld => ?_); clear hK K; refine norm_ (a' := ?_) ?_ ?_; rotate_left
   ·
    show Act.put _ (some 12) _ = _; simp only [Act.put, sa_, s0_, s1_, i64_w, i32_w]
    rfl
   refine one_ (i := 4) (N := some 13) (b_ 6 31) rfl rfl (by kernel_rfl) (by decide) (fun K hK => ?_); refine goes_ Try.func54 (by kernel_rfl) rfl #[.agg #[.slice A0_0 l0_0.length c0_0, .int .i64 a0_1, .int .i64 a0_2], .agg #[.int .u8 a1_0, .int .i64 a1_1, .int .i64 a1_2, .int .i64 a1_3, .int .i64 a1_4], .bool t221, .int .u8 2] (by rfl) rfl rfl ga_ ?_; (with_reducible refine (task_in.calls k _ _ l0_0 a0_1 a0_2 a1_0 a1_1 a1_2 a1_3 a1_4 t221 2 t222 _ ?side1 ?side2 A5.out).mono ?_); (case side1 => exact cX_ (Kd.C_below HR0_0.out hb_)); (case side2 => exact HC0_0.out); rintro e w14 ⟨rfl, hb⟩; refine ⟨_, rfl, ?_⟩; replace BK218 := bs_ BK218 hb; replace BK219 := bs_ BK219 hb; replace BK220 := bs_ BK220 hb; replace HB := bB_ hb; (try clear hb); refine hK.out _ _ ⟨ck_ BK218 0, ck_ BK218 1, ck_ BK218 2, ck_ BK219 0, ck_ BK219 1, ck_ BK219 2, ck_ BK219 3, ck_ BK219 4⟩ (fun hHeld => ?_); clear hK K; refine norm_ (a' := ?_) ?_ ?_
   rotate_left
   ·
    show Act.put _ (some 13) _ = _; simp only [Act.put, sa_, s0_, s1_, i64_w, i32_w]
    rfl
   refine pure_ (i := 5) (N := some 8) (v := ?_) (a' := ?_) (b_ 6 63) rfl rfl (by kernel_rfl) (fun _ _ _ h => h) (Or.inl ⟨by rfl, ?_⟩) ?_ ?_; rotate_left
   ·
    intro w'; go_simp; (with_reducible rfl)
   rotate_left
   ·
    simp only [Act.put, sa_, s0_, s1_, i64_w, i32_w]
    rfl
   refine done_ (by kernel_rfl) ?_; have hz17 := cz5_ BK219
   try go_wp2_with (first | ((with_reducible refine gc_ 63 rfl ?_); refine gL_ (some 20) Try.func63 #[.agg #[.int .u8 a1_0, .int .i64 a1_1, .int .i64 a1_2, .int .i64 a1_3, .int .i64 a1_4], .int .i64 a2] ?_; (with_reducible refine (task_Due.calls a1_0 a1_1 a1_2 a1_3 a1_4 a2 true _ A7.out).mono ?_); rintro e w18 ⟨rfl, hb⟩; refine ⟨_, rfl, ?_⟩; replace BK218 := bs_ BK218 hb; replace BK219 := bs_ BK219 hb; replace BK220 := bs_ BK220 hb; replace HB := bB_ hb; (try clear hb); have hnb19 := NB218_220.out; have hnc19 := NB220_218.out; have hz20 := cz3_ BK218; have hz21 := cz5_ BK219) | ((with_reducible refine gc_ 58 rfl ?_); refine gL_ (some 26) Try.func58 #[.agg #[.slice A0_0 l0_0.length c0_0, .int .i64 a0_1, .int .i64 a0_2], .agg #[.int .u8 a1_0, .int .i64 a1_1, .int .i64 a1_2, .int .i64 a1_3, .int .i64 a1_4], .int .i64 a2] ?_; (with_reducible refine (task_fails.calls k _ _ l0_0 a0_1 a0_2 a1_0 a1_1 a1_2 a1_3 a1_4 a2 t224 t225 t226 t227 t228 _ ?side1 ?side2 A9.out).mono ?_); (case side1 => exact cB_ HR0_0); (case side2 => exact HC0_0.out); rintro e w22 ⟨rfl, hb⟩; refine ⟨_, rfl, ?_⟩; replace BK218 := bs_ BK218 hb; replace BK219 := bs_ BK219 hb; replace BK220 := bs_ BK220 hb; replace HB := bB_ hb; (try clear hb); have hz23 := cz5_ BK220))
   refine bodyPost_ret (results_ct rfl _ _ gb220 35 #[.int .u8 t224, .int .i64 t225, .int .i64 t226, .int .i64 t227, .int .i64 t228] (0, 0) _ rfl (bP_ BK220) Try.underlying35 rfl (by kernel_rfl)) rfl ?_
   exact ⟨re_, hb_⟩
  ·
   replace c8 := Bool.eq_false_iff.mpr c8; subst c8; have H1 : (some (0, 0, 0, 0, 0, 240)) = some (r1, r2, r3, r4, r5, r6) := by rw [if_neg (show ¬ (false = true) by decide)] at H; exact H
   clear H; have H := H1; clear H1; simp only [Option.some.injEq, Prod.mk.injEq] at H; obtain ⟨rfl, rfl, rfl, rfl, rfl, rfl⟩ := H
   go_enter Try.func44, Try.ntmps44
   try go_wp2_with (first | ((with_reducible refine gd_ 3 rfl ?_); refine by0_ 3 #[.slice A0_0 l0_0.length c0_0, .int .i64 a0_1, .int .i64 a0_2] 60 ?_; clear HB; intro gb218 w24 BK218 GE218 HB; have GW218 := GE218) | ((with_reducible refine gd_ 4 rfl ?_); refine by1_ 4 #[.int .u8 a1_0, .int .i64 a1_1, .int .i64 a1_2, .int .i64 a1_3, .int .i64 a1_4] 35 BK218 ?_; clear HB BK218; intro gb219 w25 BK219 GE219 HB NB218_219 NB219_218 BK218; have GW219 := GE219) | ((with_reducible refine gd_ 6 rfl ?_); refine by2_ 6 #[.int .u8 0, .int .i64 0, .int .i64 0, .int .i64 0, .int .i64 0] 35 BK218 BK219 ?_; clear HB BK218 BK219; intro gb220 w26 BK220 GE220 HB NB218_220 NB220_218 BK218 NB219_220 NB220_219 BK219; have GW220 := GE220))
   replace BK218 := A_ (blk_drew BK218.out); replace BK219 := A_ (blk_drew BK219.out); replace BK220 := A_ (blk_drew BK220.out); replace HB := A_ (below_drew1 HB.out); refine start_ (n := 6) (S := fun w' => w'.cell? ⟨gb218, 0, none⟩ = some (.slice A0_0 l0_0.length c0_0) ∧ w'.cell? ⟨gb218, 1, none⟩ = some (.int .i64 a0_1) ∧ w'.cell? ⟨gb218, 2, none⟩ = some (.int .i64 a0_2) ∧ w'.cell? ⟨gb219, 0, none⟩ = some (.int .u8 a1_0) ∧ w'.cell? ⟨gb219, 1, none⟩ = some (.int .i64 a1_1) ∧ w'.cell? ⟨gb219, 2, none⟩ = some (.int .i64 a1_2) ∧ w'.cell? ⟨gb219, 3, none⟩ = some (.int .i64 a1_3) ∧ w'.cell? ⟨gb219, 4, none⟩ = some (.int .i64 a1_4)) (ds := []) (b_ 6 0) (by kernel_rfl) rfl rfl ⟨ck_ BK218 0, ck_ BK218 1, ck_ BK218 2, ck_ BK219 0, ck_ BK219 1, ck_ BK219 2, ck_ BK219 3, ck_ BK219 4⟩ (fun hHeld => ?_); generalize w26.drew = w27 at BK218 BK219 BK220 HB hHeld ⊢; refine pure_ (i := 2) (N := some 11) (v := ?_) (a' := ?_) (b_ 6 4) rfl rfl (by kernel_rfl) (fun _ _ _ h => h) (Or.inl ⟨by rfl, ?_⟩) ?_ ?_; rotate_left
   ·
    intro w'; go_simp; (with_reducible rfl)
   rotate_left
   ·
    simp only [Act.put, sa_, s0_, s1_, i64_w, i32_w]
    rfl
   refine take_ (i := 0) (N := some 9) (v := ?_) (a' := ?_) (b_ 6 5) rfl rfl (by kernel_rfl) (fun _ _ _ h => h) (Or.inl ⟨by rfl, ?_⟩) hHeld ?_ ?_; rotate_left
   ·
    rintro w' ⟨s0, s1, s2, s3, s4, s5, s6, s7⟩; go_simp; (with_reducible rfl)
   rotate_left
   ·
    simp only [Act.put, sa_, s0_, s1_, i64_w, i32_w]
    rfl
   refine take_ (i := 1) (N := some 10) (v := ?_) (a' := ?_) (b_ 6 7) rfl rfl (by kernel_rfl) (fun _ _ _ h => h) (Or.inl ⟨by rfl, ?_⟩) hHeld ?_ ?_; rotate_left
   ·
    rintro w' ⟨s0, s1, s2, s3, s4, s5, s6, s7⟩; go_simp; (with_reducible rfl)
   rotate_left
   ·
    simp only [Act.put, sa_, s0_, s1_, i64_w, i32_w]
    rfl
   refine one_ (i := 3) (N := some 12) (b_ 6 15) rfl rfl (by kernel_rfl) (by decide) (fun K hK => ?_); refine goes_ Try.func56 (by kernel_rfl) rfl #[.int .i64 a2] (by rfl) rfl rfl ga_ ?_; (with_reducible refine (task_moment.calls a2 t221 _ A4.out).mono ?_); rintro e w' ⟨rfl, ⟨nd, rfl⟩⟩; refine ⟨_, rfl, ?_⟩; refine hK.out _ _ ⟨ck_ BK218 0, ck_ BK218 1, ck_ BK218 2, ck_ BK219 0, ck_ BK219 1, ck_ BK219 2, ck_ BK219 3, ck_ BK219 4⟩ (fun hHeld => ?_); clear hK K; refine norm_ (a' := ?_) ?_ ?_; rotate_left
   ·
    show Act.put _ (some 12) _ = _; simp only [Act.put, sa_, s0_, s1_, i64_w, i32_w]
    rfl
   refine one_ (i := 4) (N := some 13) (b_ 6 31) rfl rfl (by kernel_rfl) (by decide) (fun K hK => ?_); refine goes_ Try.func54 (by kernel_rfl) rfl #[.agg #[.slice A0_0 l0_0.length c0_0, .int .i64 a0_1, .int .i64 a0_2], .agg #[.int .u8 a1_0, .int .i64 a1_1, .int .i64 a1_2, .int .i64 a1_3, .int .i64 a1_4], .bool t221, .int .u8 2] (by rfl) rfl rfl ga_ ?_; (with_reducible refine (task_in.calls k _ _ l0_0 a0_1 a0_2 a1_0 a1_1 a1_2 a1_3 a1_4 t221 2 t222 _ ?side1 ?side2 A5.out).mono ?_); (case side1 => exact cX_ (Kd.C_below HR0_0.out hb_)); (case side2 => exact HC0_0.out); rintro e w28 ⟨rfl, hb⟩; refine ⟨_, rfl, ?_⟩; replace BK218 := bs_ BK218 hb; replace BK219 := bs_ BK219 hb; replace BK220 := bs_ BK220 hb; replace HB := bB_ hb; (try clear hb); refine hK.out _ _ ⟨ck_ BK218 0, ck_ BK218 1, ck_ BK218 2, ck_ BK219 0, ck_ BK219 1, ck_ BK219 2, ck_ BK219 3, ck_ BK219 4⟩ (fun hHeld => ?_); clear hK K; refine norm_ (a' := ?_) ?_ ?_
   rotate_left
   ·
    show Act.put _ (some 13) _ = _; simp only [Act.put, sa_, s0_, s1_, i64_w, i32_w]
    rfl
   refine pure_ (i := 5) (N := some 8) (v := ?_) (a' := ?_) (b_ 6 63) rfl rfl (by kernel_rfl) (fun _ _ _ h => h) (Or.inl ⟨by rfl, ?_⟩) ?_ ?_; rotate_left
   ·
    intro w'; go_simp; (with_reducible rfl)
   rotate_left
   ·
    simp only [Act.put, sa_, s0_, s1_, i64_w, i32_w]
    rfl
   refine done_ (by kernel_rfl) ?_; have hz31 := cz5_ BK219
   try go_wp2_with (first | ((with_reducible refine gc_ 63 rfl ?_); refine gL_ (some 20) Try.func63 #[.agg #[.int .u8 a1_0, .int .i64 a1_1, .int .i64 a1_2, .int .i64 a1_3, .int .i64 a1_4], .int .i64 a2] ?_; (with_reducible refine (task_Due.calls a1_0 a1_1 a1_2 a1_3 a1_4 a2 false _ A7.out).mono ?_); rintro e w32 ⟨rfl, hb⟩; refine ⟨_, rfl, ?_⟩; replace BK218 := bs_ BK218 hb; replace BK219 := bs_ BK219 hb; replace BK220 := bs_ BK220 hb; replace HB := bB_ hb; (try clear hb); have hnb33 := NB220_218.out; have hnc33 := NB218_220.out; have hz34 := cz5_ BK220))
   refine bodyPost_ret (results_ct rfl _ _ gb220 35 #[.int .u8 0, .int .i64 0, .int .i64 0, .int .i64 0, .int .i64 0] (0, 0) _ rfl (bP_ BK220) Try.underlying35 rfl (by kernel_rfl)) rfl ?_
   exact ⟨re_, hb_⟩
 ·
  rw [if_neg c6] at H; have c6b0 : (t222 == 0) = false := beq_eq_false_iff_ne.mpr c6; have c6b1 : (t222 != 0) = true := bne_iff_ne.mpr c6; simp only [Option.some.injEq, Prod.mk.injEq] at H; obtain ⟨rfl, rfl, rfl, rfl, rfl, rfl⟩ := H
  go_enter Try.func44, Try.ntmps44
  try go_wp2_with (first | ((with_reducible refine gd_ 3 rfl ?_); refine by0_ 3 #[.slice A0_0 l0_0.length c0_0, .int .i64 a0_1, .int .i64 a0_2] 60 ?_; clear HB; intro gb218 w35 BK218 GE218 HB; have GW218 := GE218) | ((with_reducible refine gd_ 4 rfl ?_); refine by1_ 4 #[.int .u8 a1_0, .int .i64 a1_1, .int .i64 a1_2, .int .i64 a1_3, .int .i64 a1_4] 35 BK218 ?_; clear HB BK218; intro gb219 w36 BK219 GE219 HB NB218_219 NB219_218 BK218; have GW219 := GE219) | ((with_reducible refine gd_ 6 rfl ?_); refine by2_ 6 #[.int .u8 0, .int .i64 0, .int .i64 0, .int .i64 0, .int .i64 0] 35 BK218 BK219 ?_; clear HB BK218 BK219; intro gb220 w37 BK220 GE220 HB NB218_220 NB220_218 BK218 NB219_220 NB220_219 BK219; have GW220 := GE220))
  replace BK218 := A_ (blk_drew BK218.out); replace BK219 := A_ (blk_drew BK219.out); replace BK220 := A_ (blk_drew BK220.out); replace HB := A_ (below_drew1 HB.out); refine start_ (n := 6) (S := fun w' => w'.cell? ⟨gb218, 0, none⟩ = some (.slice A0_0 l0_0.length c0_0) ∧ w'.cell? ⟨gb218, 1, none⟩ = some (.int .i64 a0_1) ∧ w'.cell? ⟨gb218, 2, none⟩ = some (.int .i64 a0_2) ∧ w'.cell? ⟨gb219, 0, none⟩ = some (.int .u8 a1_0) ∧ w'.cell? ⟨gb219, 1, none⟩ = some (.int .i64 a1_1) ∧ w'.cell? ⟨gb219, 2, none⟩ = some (.int .i64 a1_2) ∧ w'.cell? ⟨gb219, 3, none⟩ = some (.int .i64 a1_3) ∧ w'.cell? ⟨gb219, 4, none⟩ = some (.int .i64 a1_4)) (ds := []) (b_ 6 0) (by kernel_rfl) rfl rfl ⟨ck_ BK218 0, ck_ BK218 1, ck_ BK218 2, ck_ BK219 0, ck_ BK219 1, ck_ BK219 2, ck_ BK219 3, ck_ BK219 4⟩ (fun hHeld => ?_); generalize w37.drew = w38 at BK218 BK219 BK220 HB hHeld ⊢; refine pure_ (i := 2) (N := some 11) (v := ?_) (a' := ?_) (b_ 6 4) rfl rfl (by kernel_rfl) (fun _ _ _ h => h) (Or.inl ⟨by rfl, ?_⟩) ?_ ?_; rotate_left
  ·
   intro w'; go_simp; (with_reducible rfl)
  rotate_left
  ·
   simp only [Act.put, sa_, s0_, s1_, i64_w, i32_w]
   rfl
  refine take_ (i := 0) (N := some 9) (v := ?_) (a' := ?_) (b_ 6 5) rfl rfl (by kernel_rfl) (fun _ _ _ h => h) (Or.inl ⟨by rfl, ?_⟩) hHeld ?_ ?_; rotate_left
  ·
   rintro w' ⟨s0, s1, s2, s3, s4, s5, s6, s7⟩; go_simp; (with_reducible rfl)
  rotate_left
  ·
   simp only [Act.put, sa_, s0_, s1_, i64_w, i32_w]
   rfl
  refine take_ (i := 1) (N := some 10) (v := ?_) (a' := ?_) (b_ 6 7) rfl rfl (by kernel_rfl) (fun _ _ _ h => h) (Or.inl ⟨by rfl, ?_⟩) hHeld ?_ ?_; rotate_left
  ·
   rintro w' ⟨s0, s1, s2, s3, s4, s5, s6, s7⟩; go_simp; (with_reducible rfl)
  rotate_left
  ·
   simp only [Act.put, sa_, s0_, s1_, i64_w, i32_w]
   rfl
  refine one_ (i := 3) (N := some 12) (b_ 6 15) rfl rfl (by kernel_rfl) (by decide) (fun K hK => ?_); refine goes_ Try.func56 (by kernel_rfl) rfl #[.int .i64 a2] (by rfl) rfl rfl ga_ ?_; (with_reducible refine (task_moment.calls a2 t221 _ A4.out).mono ?_); rintro e w' ⟨rfl, ⟨nd, rfl⟩⟩; refine ⟨_, rfl, ?_⟩; refine hK.out _ _ ⟨ck_ BK218 0, ck_ BK218 1, ck_ BK218 2, ck_ BK219 0, ck_ BK219 1, ck_ BK219 2, ck_ BK219 3, ck_ BK219 4⟩ (fun hHeld => ?_); clear hK K; refine norm_ (a' := ?_) ?_ ?_; rotate_left
  ·
   show Act.put _ (some 12) _ = _; simp only [Act.put, sa_, s0_, s1_, i64_w, i32_w]
   rfl
  refine one_ (i := 4) (N := some 13) (b_ 6 31) rfl rfl (by kernel_rfl) (by decide) (fun K hK => ?_); refine goes_ Try.func54 (by kernel_rfl) rfl #[.agg #[.slice A0_0 l0_0.length c0_0, .int .i64 a0_1, .int .i64 a0_2], .agg #[.int .u8 a1_0, .int .i64 a1_1, .int .i64 a1_2, .int .i64 a1_3, .int .i64 a1_4], .bool t221, .int .u8 2] (by rfl) rfl rfl ga_ ?_; (with_reducible refine (task_in.calls k _ _ l0_0 a0_1 a0_2 a1_0 a1_1 a1_2 a1_3 a1_4 t221 2 t222 _ ?side1 ?side2 A5.out).mono ?_); (case side1 => exact cX_ (Kd.C_below HR0_0.out hb_)); (case side2 => exact HC0_0.out); rintro e w39 ⟨rfl, hb⟩; refine ⟨_, rfl, ?_⟩; replace BK218 := bs_ BK218 hb; replace BK219 := bs_ BK219 hb; replace BK220 := bs_ BK220 hb; replace HB := bB_ hb; (try clear hb); refine hK.out _ _ ⟨ck_ BK218 0, ck_ BK218 1, ck_ BK218 2, ck_ BK219 0, ck_ BK219 1, ck_ BK219 2, ck_ BK219 3, ck_ BK219 4⟩ (fun hHeld => ?_); clear hK K; refine norm_ (a' := ?_) ?_ ?_
  rotate_left
  ·
   show Act.put _ (some 13) _ = _; simp only [Act.put, sa_, s0_, s1_, i64_w, i32_w]
   rfl
  refine pure_ (i := 5) (N := some 8) (v := ?_) (a' := ?_) (b_ 6 63) rfl rfl (by kernel_rfl) (fun _ _ _ h => h) (Or.inl ⟨by rfl, ?_⟩) ?_ ?_; rotate_left
  ·
   intro w'; go_simp; (with_reducible rfl)
  rotate_left
  ·
   simp only [Act.put, sa_, s0_, s1_, i64_w, i32_w]
   rfl
  refine done_ (by kernel_rfl) ?_; have hz42 := cz5_ BK220
  try go_wp2
  refine bodyPost_ret (results_ct rfl _ _ gb220 35 #[.int .u8 0, .int .i64 0, .int .i64 0, .int .i64 0, .int .i64 0] (0, 0) _ rfl (bP_ BK220) Try.underlying35 rfl (by kernel_rfl)) rfl ?_
  exact ⟨re_, hb_⟩

end Go.Proofs.Ytbiphljdommacaa.R

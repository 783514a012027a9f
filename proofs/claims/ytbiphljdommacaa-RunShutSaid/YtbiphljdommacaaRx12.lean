/- Contracts of Go functions and what they come to, over the translation of this seat: made by a program of this session (print2.py). -/
import Derived.Test.YtbiphljdommacaaS3
import Derived.Test.YtbiphljdommacaaSh
import Derived.Test.YtbiphljdommacaaRx6
import Derived.Test.YtbiphljdommacaaRx11
namespace Go.Proofs.Ytbiphljdommacaa.R
open Go.RowKit Go.Proofs.Ytbiphljdommacaa.S3 Go.Proofs.Ytbiphljdommacaa.Sh Go.Proofs.Ytbiphljdommacaa.Co Go.Proofs.Ytbiphljdommacaa.Ret Go.Proofs.Ytbiphljdommacaa.Plain Go.Proofs.YtbiphljdommacaaW.PrintWords Go.Proofs.YtbiphljdommacaaW.PrintLast Go.Proofs.YtbiphljdommacaaW.PrintMore Go.Proofs.Ytbiphljdommacaa.Ti
attribute [local go_sem] max2_int min2_int max_two min_two max_three min_three max_four min_four   -- for this text's walks alone
set_option linter.unusedVariables false
set_option linter.unusedSimpArgs false

/-! ### run_Complete_1: function 31 -/
def run_Complete_1.f (k : Nat) (l0_0 : List Int) (a0_1 : Int) (a0_2 : Int) (a1_0 : Int) (a1_1 : Int) (a1_2 : Int) (a1_3 : Int) (a1_4 : Int) (a2 : Int) : Option (Int × Int × Int × Int × Int × Int) := (task_Done.f k l0_0 a0_1 a0_2 a1_0 a1_1 a1_2 a1_3 a1_4 a2).bind fun bt156 => (some (bt156.1, bt156.2.1, bt156.2.2.1, bt156.2.2.2.1, bt156.2.2.2.2.1, bt156.2.2.2.2.2))
theorem run_Complete_1.mono : ∀ a0 a1 a2 a3 a4 a5 a6 a7 a8 k, LeO (run_Complete_1.f k a0 a1 a2 a3 a4 a5 a6 a7 a8) (run_Complete_1.f (k + 1) a0 a1 a2 a3 a4 a5 a6 a7 a8) := by
 intro a0 a1 a2 a3 a4 a5 a6 a7 a8 k
 unfold run_Complete_1.f
 repeat' first
   | (with_reducible exact LeO.refl _)
   | (with_reducible refine LeO.ite ?_ ?_)
   | (with_reducible refine LeO.bind ?_ (fun _ => ?_))
   | exact task_Done.mono _ _ _ _ _ _ _ _ _ _
   | exact LeO.none _
   | refine LeO.ite ?_ ?_
   | refine LeO.bind ?_ (fun _ => ?_)
set_option maxHeartbeats 8000000 in
set_option maxRecDepth 100000 in
theorem run_Complete_1.calls (k : Nat) (A0_0 : Option Addr) (c0_0 : Nat) (l0_0 : List Int) (a0_1 : Int) (a0_2 : Int) (a1_0 : Int) (a1_1 : Int) (a1_2 : Int) (a1_3 : Int) (a1_4 : Int) (a2 : Int) (r1 : Int) (r2 : Int) (r3 : Int) (r4 : Int) (r5 : Int) (r6 : Int) (w : World) (hr0_0 : Kd.C (Kd.int .i64) w A0_0 l0_0.length l0_0) (hc0_0 : l0_0.length ≤ c0_0) (ga2 : Nat) (hbxa2 : w.heap[ga2]? = some (.cells #[.int .i64 a2] 3 (0, 0))) (h : run_Complete_1.f k l0_0 a0_1 a0_2 a1_0 a1_1 a1_2 a1_3 a1_4 a2 = some (r1, r2, r3, r4, r5, r6)) :
  Calls Try.prog 31 #[.agg #[.slice A0_0 l0_0.length c0_0, .int .i64 a0_1, .int .i64 a0_2], .agg #[.int .u8 a1_0, .int .i64 a1_1, .int .i64 a1_2, .int .i64 a1_3, .int .i64 a1_4], .pointer (some ⟨ga2, 0, none⟩)] w fun e w' => e = .returned (.tuple #[.agg #[.int .u8 r1, .int .i64 r2, .int .i64 r3, .int .i64 r4, .int .i64 r5], .int .i64 r6]) ∧ Below w.heap.size w w' := by
 have HBXa2 := A_ hbxa2; clear hbxa2; have hu60 := Try.underlying60; have hu35 := Try.underlying35; have HR0_0 := A_ hr0_0; have HC0_0 := A_ hc0_0; clear hr0_0 hc0_0; have HB := A_ (Below.refl w.heap.size w); have H : ((task_Done.f k l0_0 a0_1 a0_2 a1_0 a1_1 a1_2 a1_3 a1_4 a2).bind fun bt156 => (some (bt156.1, bt156.2.1, bt156.2.2.1, bt156.2.2.2.1, bt156.2.2.2.2.1, bt156.2.2.2.2.2))) = some (r1, r2, r3, r4, r5, r6) := h; clear h; replace H := Option.bind_eq_some_iff.mp H; obtain ⟨⟨t156, t157, t158, t159, t160, t161⟩, A40, H⟩ := H; replace H : (some (t156, t157, t158, t159, t160, t161)) = some (r1, r2, r3, r4, r5, r6) := H; have A4 := Aside0.mk A40; clear A40; simp only [Option.some.injEq, Prod.mk.injEq] at H; obtain ⟨rfl, rfl, rfl, rfl, rfl, rfl⟩ := H
 go_enter Try.func31, Try.ntmps31
 go_wp2_with (first | ((with_reducible refine gd_ 3 rfl ?_); refine by0_ 3 #[.slice A0_0 l0_0.length c0_0, .int .i64 a0_1, .int .i64 a0_2] 60 ?_; clear HB; intro gb153 w5 BK153 GE153 HB; have hqca2_w5 : w5.cell? ⟨ga2, 0, none⟩ = some (.int .i64 a2) := (blk_cell (blk_below (g := ga2) (o := .cells #[.int .i64 a2] 3 (0, 0)) HBXa2.out HB.out) 0).trans rfl) | ((with_reducible refine gd_ 4 rfl ?_); refine by1_ 4 #[.int .u8 a1_0, .int .i64 a1_1, .int .i64 a1_2, .int .i64 a1_3, .int .i64 a1_4] 35 BK153 ?_; clear HB BK153; intro gb154 w6 BK154 GE154 HB NB153_154 NB154_153 BK153; have hqca2_w6 : w6.cell? ⟨ga2, 0, none⟩ = some (.int .i64 a2) := (blk_cell (blk_below (g := ga2) (o := .cells #[.int .i64 a2] 3 (0, 0)) HBXa2.out HB.out) 0).trans rfl) | ((with_reducible refine gd_ 5 rfl ?_); refine by2_ 5 #[.int .u8 0, .int .i64 0, .int .i64 0, .int .i64 0, .int .i64 0] 35 BK153 BK154 ?_; clear HB BK153 BK154; intro gb155 w7 BK155 GE155 HB NB153_155 NB155_153 BK153 NB154_155 NB155_154 BK154; have hnb8 := NB153_154.out; have hnc8 := NB154_153.out; have hz10 := cz3_ BK153; have hz12 := cz5_ BK154; have hqca2_w7 : w7.cell? ⟨ga2, 0, none⟩ = some (.int .i64 a2) := (blk_cell (blk_below (g := ga2) (o := .cells #[.int .i64 a2] 3 (0, 0)) HBXa2.out HB.out) 0).trans rfl) | ((with_reducible refine gc_ 32 rfl ?_); refine gL_ (some 10) Try.func32 #[.agg #[.slice A0_0 l0_0.length c0_0, .int .i64 a0_1, .int .i64 a0_2], .agg #[.int .u8 a1_0, .int .i64 a1_1, .int .i64 a1_2, .int .i64 a1_3, .int .i64 a1_4], .int .i64 a2] ?_; (with_reducible refine (task_Done.calls k _ _ l0_0 a0_1 a0_2 a1_0 a1_1 a1_2 a1_3 a1_4 a2 t156 t157 t158 t159 t160 t161 _ ?side1 ?side2 A4.out).mono ?_); (case side1 => exact cB_ HR0_0); (case side2 => exact HC0_0.out); rintro e w13 ⟨rfl, hb⟩; refine ⟨_, rfl, ?_⟩; replace BK153 := bs_ BK153 hb; replace BK154 := bs_ BK154 hb; replace BK155 := bs_ BK155 hb; replace HB := bB_ hb; (try clear hb); have hz14 := cz5_ BK155))
 refine bodyPost_ret (results_ct rfl _ _ gb155 35 #[.int .u8 t156, .int .i64 t157, .int .i64 t158, .int .i64 t159, .int .i64 t160] (0, 0) _ rfl (bP_ BK155) Try.underlying35 rfl (by kernel_rfl)) rfl ?_
 exact ⟨re_, hb_⟩

end Go.Proofs.Ytbiphljdommacaa.R

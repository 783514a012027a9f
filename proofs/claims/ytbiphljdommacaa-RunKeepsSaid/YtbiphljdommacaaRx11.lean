/- Contracts of Go functions and what they come to, over the translation of this seat: made by a program of this session (print2.py). -/
import Derived.Test.YtbiphljdommacaaS3
import Derived.Test.YtbiphljdommacaaSh
import Derived.Test.YtbiphljdommacaaRx6
import Derived.Test.YtbiphljdommacaaRx9
import Derived.Test.YtbiphljdommacaaRx8
namespace Go.Proofs.Ytbiphljdommacaa.R
open Go.RowKit Go.Proofs.Ytbiphljdommacaa.S3 Go.Proofs.Ytbiphljdommacaa.Sh Go.Proofs.Ytbiphljdommacaa.Co Go.Proofs.Ytbiphljdommacaa.Ret Go.Proofs.Ytbiphljdommacaa.Plain Go.Proofs.YtbiphljdommacaaW.PrintWords Go.Proofs.YtbiphljdommacaaW.PrintLast Go.Proofs.YtbiphljdommacaaW.PrintMore Go.Proofs.Ytbiphljdommacaa.Ti
attribute [local go_sem] max2_int min2_int max_two min_two max_three min_three max_four min_four   -- for this text's walks alone
set_option linter.unusedVariables false
set_option linter.unusedSimpArgs false

/-! ### run_Lease_1: function 29 -/
def run_Lease_1.f (k : Nat) (l0_0 : List Int) (a0_1 : Int) (a0_2 : Int) (a1_0 : Int) (a1_1 : Int) (a1_2 : Int) (a1_3 : Int) (a1_4 : Int) (a2 : Int) (a3 : Int) : Option (Int × Int × Int × Int × Int × Int) := (task_Lease.f k l0_0 a0_1 a0_2 a1_0 a1_1 a1_2 a1_3 a1_4 a2 a3).bind fun bt137 => (some (bt137.1, bt137.2.1, bt137.2.2.1, bt137.2.2.2.1, bt137.2.2.2.2.1, bt137.2.2.2.2.2))
theorem run_Lease_1.mono : ∀ a0 a1 a2 a3 a4 a5 a6 a7 a8 a9 k, LeO (run_Lease_1.f k a0 a1 a2 a3 a4 a5 a6 a7 a8 a9) (run_Lease_1.f (k + 1) a0 a1 a2 a3 a4 a5 a6 a7 a8 a9) := by
 intro a0 a1 a2 a3 a4 a5 a6 a7 a8 a9 k
 unfold run_Lease_1.f
 repeat' first
   | (with_reducible exact LeO.refl _)
   | (with_reducible refine LeO.ite ?_ ?_)
   | (with_reducible refine LeO.bind ?_ (fun _ => ?_))
   | exact task_Lease.mono _ _ _ _ _ _ _ _ _ _ _
   | exact LeO.none _
   | refine LeO.ite ?_ ?_
   | refine LeO.bind ?_ (fun _ => ?_)
set_option maxHeartbeats 8000000 in
set_option maxRecDepth 100000 in
theorem run_Lease_1.calls (k : Nat) (A0_0 : Option Addr) (c0_0 : Nat) (l0_0 : List Int) (a0_1 : Int) (a0_2 : Int) (a1_0 : Int) (a1_1 : Int) (a1_2 : Int) (a1_3 : Int) (a1_4 : Int) (a2 : Int) (a3 : Int) (r1 : Int) (r2 : Int) (r3 : Int) (r4 : Int) (r5 : Int) (r6 : Int) (w : World) (hr0_0 : Kd.C (Kd.int .i64) w A0_0 l0_0.length l0_0) (hc0_0 : l0_0.length ≤ c0_0) (ga2 : Nat) (hbxa2 : w.heap[ga2]? = some (.cells #[.int .i64 a2] 3 (0, 0))) (ga3 : Nat) (hbxa3 : w.heap[ga3]? = some (.cells #[.int .i64 a3] 3 (0, 0))) (h : run_Lease_1.f k l0_0 a0_1 a0_2 a1_0 a1_1 a1_2 a1_3 a1_4 a2 a3 = some (r1, r2, r3, r4, r5, r6)) :
  Calls Try.prog 29 #[.agg #[.slice A0_0 l0_0.length c0_0, .int .i64 a0_1, .int .i64 a0_2], .agg #[.int .u8 a1_0, .int .i64 a1_1, .int .i64 a1_2, .int .i64 a1_3, .int .i64 a1_4], .pointer (some ⟨ga2, 0, none⟩), .pointer (some ⟨ga3, 0, none⟩)] w fun e w' => e = .returned (.tuple #[.agg #[.int .u8 r1, .int .i64 r2, .int .i64 r3, .int .i64 r4, .int .i64 r5], .int .i64 r6]) ∧ Below w.heap.size w w' := by
 have HBXa2 := A_ hbxa2; clear hbxa2; have HBXa3 := A_ hbxa3; clear hbxa3; have hu60 := Try.underlying60; have hu35 := Try.underlying35; have HR0_0 := A_ hr0_0; have HC0_0 := A_ hc0_0; clear hr0_0 hc0_0; have HB := A_ (Below.refl w.heap.size w); have H : ((task_Lease.f k l0_0 a0_1 a0_2 a1_0 a1_1 a1_2 a1_3 a1_4 a2 a3).bind fun bt137 => (some (bt137.1, bt137.2.1, bt137.2.2.1, bt137.2.2.2.1, bt137.2.2.2.2.1, bt137.2.2.2.2.2))) = some (r1, r2, r3, r4, r5, r6) := h; clear h; replace H := Option.bind_eq_some_iff.mp H; obtain ⟨⟨t137, t138, t139, t140, t141, t142⟩, A50, H⟩ := H; replace H : (some (t137, t138, t139, t140, t141, t142)) = some (r1, r2, r3, r4, r5, r6) := H; have A5 := Aside0.mk A50; clear A50; simp only [Option.some.injEq, Prod.mk.injEq] at H; obtain ⟨rfl, rfl, rfl, rfl, rfl, rfl⟩ := H
 go_enter Try.func29, Try.ntmps29
 go_wp2_with (first | ((with_reducible refine gd_ 4 rfl ?_); refine by0_ 4 #[.slice A0_0 l0_0.length c0_0, .int .i64 a0_1, .int .i64 a0_2] 60 ?_; clear HB; intro gb134 w6 BK134 GE134 HB; have hqca2_w6 : w6.cell? ⟨ga2, 0, none⟩ = some (.int .i64 a2) := (blk_cell (blk_below (g := ga2) (o := .cells #[.int .i64 a2] 3 (0, 0)) HBXa2.out HB.out) 0).trans rfl; have hqca3_w6 : w6.cell? ⟨ga3, 0, none⟩ = some (.int .i64 a3) := (blk_cell (blk_below (g := ga3) (o := .cells #[.int .i64 a3] 3 (0, 0)) HBXa3.out HB.out) 0).trans rfl) | ((with_reducible refine gd_ 5 rfl ?_); refine by1_ 5 #[.int .u8 a1_0, .int .i64 a1_1, .int .i64 a1_2, .int .i64 a1_3, .int .i64 a1_4] 35 BK134 ?_; clear HB BK134; intro gb135 w7 BK135 GE135 HB NB134_135 NB135_134 BK134; have hqca2_w7 : w7.cell? ⟨ga2, 0, none⟩ = some (.int .i64 a2) := (blk_cell (blk_below (g := ga2) (o := .cells #[.int .i64 a2] 3 (0, 0)) HBXa2.out HB.out) 0).trans rfl; have hqca3_w7 : w7.cell? ⟨ga3, 0, none⟩ = some (.int .i64 a3) := (blk_cell (blk_below (g := ga3) (o := .cells #[.int .i64 a3] 3 (0, 0)) HBXa3.out HB.out) 0).trans rfl) | ((with_reducible refine gd_ 6 rfl ?_); refine by2_ 6 #[.int .u8 0, .int .i64 0, .int .i64 0, .int .i64 0, .int .i64 0] 35 BK134 BK135 ?_; clear HB BK134 BK135; intro gb136 w8 BK136 GE136 HB NB134_136 NB136_134 BK134 NB135_136 NB136_135 BK135; have hnb9 := NB134_135.out; have hnc9 := NB135_134.out; have hz11 := cz3_ BK134; have hz13 := cz5_ BK135; have hqca2_w8 : w8.cell? ⟨ga2, 0, none⟩ = some (.int .i64 a2) := (blk_cell (blk_below (g := ga2) (o := .cells #[.int .i64 a2] 3 (0, 0)) HBXa2.out HB.out) 0).trans rfl; have hqca3_w8 : w8.cell? ⟨ga3, 0, none⟩ = some (.int .i64 a3) := (blk_cell (blk_below (g := ga3) (o := .cells #[.int .i64 a3] 3 (0, 0)) HBXa3.out HB.out) 0).trans rfl) | ((with_reducible refine gc_ 30 rfl ?_); refine gL_ (some 12) Try.func30 #[.agg #[.slice A0_0 l0_0.length c0_0, .int .i64 a0_1, .int .i64 a0_2], .agg #[.int .u8 a1_0, .int .i64 a1_1, .int .i64 a1_2, .int .i64 a1_3, .int .i64 a1_4], .int .i64 a2, .int .i64 a3] ?_; (with_reducible refine (task_Lease.calls k _ _ l0_0 a0_1 a0_2 a1_0 a1_1 a1_2 a1_3 a1_4 a2 a3 t137 t138 t139 t140 t141 t142 _ ?side1 ?side2 A5.out).mono ?_); (case side1 => exact cB_ HR0_0); (case side2 => exact HC0_0.out); rintro e w14 ⟨rfl, hb⟩; refine ⟨_, rfl, ?_⟩; replace BK134 := bs_ BK134 hb; replace BK135 := bs_ BK135 hb; replace BK136 := bs_ BK136 hb; replace HB := bB_ hb; (try clear hb); have hz15 := cz5_ BK136))
 refine bodyPost_ret (results_ct rfl _ _ gb136 35 #[.int .u8 t137, .int .i64 t138, .int .i64 t139, .int .i64 t140, .int .i64 t141] (0, 0) _ rfl (bP_ BK136) Try.underlying35 rfl (by kernel_rfl)) rfl ?_
 exact ⟨re_, hb_⟩

end Go.Proofs.Ytbiphljdommacaa.R
namespace Go.Proofs.Ytbiphljdommacaa.R
open Go.RowKit Go.Proofs.Ytbiphljdommacaa.S3 Go.Proofs.Ytbiphljdommacaa.Sh Go.Proofs.Ytbiphljdommacaa.Co Go.Proofs.Ytbiphljdommacaa.Ret Go.Proofs.Ytbiphljdommacaa.Plain Go.Proofs.YtbiphljdommacaaW.PrintWords Go.Proofs.YtbiphljdommacaaW.PrintLast Go.Proofs.YtbiphljdommacaaW.PrintMore Go.Proofs.Ytbiphljdommacaa.Ti
attribute [local go_sem] max2_int min2_int max_two min_two max_three min_three max_four min_four   -- for this text's walks alone
set_option linter.unusedVariables false
set_option linter.unusedSimpArgs false

/-! ### task_held: function 57 -/
def task_held.j0 : Nat → Int → Int → Int → Int → Int → Int → Int → Option (Int)
 | 0, _, _, _, _, _, _, _ => none
 | k + 1, x3, x9, x145000, x145001, x145002, x145003, x145004 => if x9 = 0 then (if x145003 = x3 then (some 0) else (some 260)) else (some x9)
def task_held.f (k : Nat) (l0_0 : List Int) (a0_1 : Int) (a0_2 : Int) (a1_0 : Int) (a1_1 : Int) (a1_2 : Int) (a1_3 : Int) (a1_4 : Int) (a2 : Bool) (a3 : Int) : Option (Int) := if a2 = true then (if a3 ≥ 1 then ((task_count.f a3).bind fun t145 => ((task_in.f k l0_0 a0_1 a0_2 a1_0 a1_1 a1_2 a1_3 a1_4 t145 2).bind fun t146 => (task_held.j0 k a3 t146 a1_0 a1_1 a1_2 a1_3 a1_4))) else ((task_in.f k l0_0 a0_1 a0_2 a1_0 a1_1 a1_2 a1_3 a1_4 false 2).bind fun t147 => (task_held.j0 k a3 t147 a1_0 a1_1 a1_2 a1_3 a1_4))) else ((task_in.f k l0_0 a0_1 a0_2 a1_0 a1_1 a1_2 a1_3 a1_4 false 2).bind fun t148 => (task_held.j0 k a3 t148 a1_0 a1_1 a1_2 a1_3 a1_4))
theorem task_held.mono_l : ∀ k, (∀ y0 y1 y2 y3 y4 y5 y6, LeO (task_held.j0 k y0 y1 y2 y3 y4 y5 y6) (task_held.j0 (k + 1) y0 y1 y2 y3 y4 y5 y6))
 | 0 => fun _ _ _ _ _ _ _ r h => by simp [task_held.j0] at h
 | k + 1 => by
  have ih0 := task_held.mono_l k
  ·
   intro y0 y1 y2 y3 y4 y5 y6
   unfold task_held.j0
   repeat' first
   | (with_reducible exact LeO.refl _)
   | (with_reducible refine LeO.ite ?_ ?_)
   | (with_reducible refine LeO.bind ?_ (fun _ => ?_))
   | exact ih0 _ _ _ _ _ _ _
   | exact task_in.mono _ _ _ _ _ _ _ _ _ _ _
   | exact LeO.none _
   | refine LeO.ite ?_ ?_
   | refine LeO.bind ?_ (fun _ => ?_)
theorem task_held.mono : ∀ a0 a1 a2 a3 a4 a5 a6 a7 a8 a9 k, LeO (task_held.f k a0 a1 a2 a3 a4 a5 a6 a7 a8 a9) (task_held.f (k + 1) a0 a1 a2 a3 a4 a5 a6 a7 a8 a9) := by
 intro a0 a1 a2 a3 a4 a5 a6 a7 a8 a9 k
 have ih0 := task_held.mono_l k
 unfold task_held.f
 repeat' first
   | (with_reducible exact LeO.refl _)
   | (with_reducible refine LeO.ite ?_ ?_)
   | (with_reducible refine LeO.bind ?_ (fun _ => ?_))
   | exact ih0 _ _ _ _ _ _ _
   | exact task_in.mono _ _ _ _ _ _ _ _ _ _ _
   | exact LeO.none _
   | refine LeO.ite ?_ ?_
   | refine LeO.bind ?_ (fun _ => ?_)
def task_held.T1 : Bool × List (List Nat × List Nat) := (true, [([], []), ([], []), ([], []), ([2], [2]), ([3], [3]), ([4, 3], [3, 4]), ([3, 5], [3, 5]), ([6, 3], [6]), ([7], [7]), ([8, 7, 7], [7, 8]), ([7, 9], [7, 9]), ([0, 1, 10, 9], [0, 1, 10]), ([11, 11, 0, 1, 2, 3, 4, 5, 6, 7, 8, 9, 10, 11], [11])])
def task_held.B1 : List Nat := [0, 0, 0, 4, 12, 28, 60, 124, 252, 508, 1020, 2047, 4095]
theorem task_held.tab1 : rtab .any (opsOf Try.f57 1) = task_held.T1 := by kernel_rfl
theorem task_held.bits1 : waitsOk task_held.T1.2 task_held.B1 = true := by kernel_rfl
set_option maxHeartbeats 8000000 in
set_option maxRecDepth 100000 in
theorem task_held.calls (k : Nat) (A0_0 : Option Addr) (c0_0 : Nat) (l0_0 : List Int) (a0_1 : Int) (a0_2 : Int) (a1_0 : Int) (a1_1 : Int) (a1_2 : Int) (a1_3 : Int) (a1_4 : Int) (a2 : Bool) (a3 : Int) (r : Int) (w : World) (hr0_0 : Kd.C (Kd.int .i64) w A0_0 l0_0.length l0_0) (hc0_0 : l0_0.length ≤ c0_0) (h : task_held.f k l0_0 a0_1 a0_2 a1_0 a1_1 a1_2 a1_3 a1_4 a2 a3 = some r) :
  Calls Try.prog 57 #[.agg #[.slice A0_0 l0_0.length c0_0, .int .i64 a0_1, .int .i64 a0_2], .agg #[.int .u8 a1_0, .int .i64 a1_1, .int .i64 a1_2, .int .i64 a1_3, .int .i64 a1_4], .bool a2, .int .i64 a3] w fun e w' => e = .returned (.int .i64 r) ∧ Below w.heap.size w w' := by
 have hu60 := Try.underlying60; have hu35 := Try.underlying35; have HR0_0 := A_ hr0_0; have HC0_0 := A_ hc0_0; clear hr0_0 hc0_0; have HB := A_ (Below.refl w.heap.size w); have H : (if a2 = true then (if a3 ≥ 1 then ((task_count.f a3).bind fun t145 => ((task_in.f k l0_0 a0_1 a0_2 a1_0 a1_1 a1_2 a1_3 a1_4 t145 2).bind fun t146 => (task_held.j0 k a3 t146 a1_0 a1_1 a1_2 a1_3 a1_4))) else ((task_in.f k l0_0 a0_1 a0_2 a1_0 a1_1 a1_2 a1_3 a1_4 false 2).bind fun t147 => (task_held.j0 k a3 t147 a1_0 a1_1 a1_2 a1_3 a1_4))) else ((task_in.f k l0_0 a0_1 a0_2 a1_0 a1_1 a1_2 a1_3 a1_4 false 2).bind fun t148 => (task_held.j0 k a3 t148 a1_0 a1_1 a1_2 a1_3 a1_4))) = some r := h; clear h; have HC5 := Aside0.mk H; clear H
 go_enter Try.func57, Try.ntmps57
 go_upto_region 1 with (first | ((with_reducible refine gd_ 4 rfl ?_); refine by0_ 4 #[.slice A0_0 l0_0.length c0_0, .int .i64 a0_1, .int .i64 a0_2] 60 ?_; clear HB; intro gb143 w6 BK143 GE143 HB; have GW143 := GE143) | ((with_reducible refine gd_ 5 rfl ?_); refine by1_ 5 #[.int .u8 a1_0, .int .i64 a1_1, .int .i64 a1_2, .int .i64 a1_3, .int .i64 a1_4] 35 BK143 ?_; clear HB BK143; intro gb144 w7 BK144 GE144 HB NB143_144 NB144_143 BK143; have GW144 := GE144))
 (try simp only [Act.put, sa_, s0_, s1_])
 go_cut [9] (fun v9 wc => ∃ (kq : Nat) (x9_4 : Int), v9 = .int .i64 x9_4 ∧ Aside0 (task_held.j0 kq a3 x9_4 a1_0 a1_1 a1_2 a1_3 a1_4 = some r) ∧ Aside0 (kq ≤ k) ∧ Aside0 (wc.heap[gb143]? = some (.cells #[(.slice A0_0 l0_0.length c0_0), .int .i64 a0_1, .int .i64 a0_2] 60 (0, 0))) ∧ Aside0 (wc.heap[gb144]? = some (.cells #[.int .u8 a1_0, .int .i64 a1_1, .int .i64 a1_2, .int .i64 a1_3, .int .i64 a1_4] 35 (0, 0))) ∧ Aside0 (Below w.heap.size w wc))
 case first =>
  have H := HC5.out; clear HC5
  by_cases c8 : a2 = true
  ·
   subst c8; have H1 : (if a3 ≥ 1 then ((task_count.f a3).bind fun t145 => ((task_in.f k l0_0 a0_1 a0_2 a1_0 a1_1 a1_2 a1_3 a1_4 t145 2).bind fun t146 => (task_held.j0 k a3 t146 a1_0 a1_1 a1_2 a1_3 a1_4))) else ((task_in.f k l0_0 a0_1 a0_2 a1_0 a1_1 a1_2 a1_3 a1_4 false 2).bind fun t147 => (task_held.j0 k a3 t147 a1_0 a1_1 a1_2 a1_3 a1_4))) = some r := by rw [if_pos rfl] at H; exact H
   clear H; have H := H1; clear H1
   by_cases c9 : a3 ≥ 1
   ·
    rw [if_pos c9] at H; have c9b0 : decide (1 ≤ a3) = true := decide_eq_true c9; clear c9
    (first | rw [c9b0] | (simp only [i64_w, i32_w]; rw [c9b0]) | skip)
    replace H := Option.bind_eq_some_iff.mp H; obtain ⟨t145, A100, H⟩ := H; replace H : ((task_in.f k l0_0 a0_1 a0_2 a1_0 a1_1 a1_2 a1_3 a1_4 t145 2).bind fun t146 => (task_held.j0 k a3 t146 a1_0 a1_1 a1_2 a1_3 a1_4)) = some r := H; have A10 := Aside0.mk A100; clear A100; replace H := Option.bind_eq_some_iff.mp H; obtain ⟨t146, A110, H⟩ := H; replace H : (task_held.j0 k a3 t146 a1_0 a1_1 a1_2 a1_3 a1_4) = some r := H; have A11 := Aside0.mk A110; clear A110; have H' := Aside0.mk H; clear H
    try go_wp2
    replace BK143 := A_ (blk_drew BK143.out); replace BK144 := A_ (blk_drew BK144.out); replace HB := A_ (below_drew1 HB.out); refine start_ (n := 13) (S := fun w' => w'.cell? ⟨gb143, 0, none⟩ = some (.slice A0_0 l0_0.length c0_0) ∧ w'.cell? ⟨gb143, 1, none⟩ = some (.int .i64 a0_1) ∧ w'.cell? ⟨gb143, 2, none⟩ = some (.int .i64 a0_2) ∧ w'.cell? ⟨gb144, 0, none⟩ = some (.int .u8 a1_0) ∧ w'.cell? ⟨gb144, 1, none⟩ = some (.int .i64 a1_1) ∧ w'.cell? ⟨gb144, 2, none⟩ = some (.int .i64 a1_2) ∧ w'.cell? ⟨gb144, 3, none⟩ = some (.int .i64 a1_3) ∧ w'.cell? ⟨gb144, 4, none⟩ = some (.int .i64 a1_4)) (ds := []) (b_ 13 0) (by kernel_rfl) rfl rfl ⟨ck_ BK143 0, ck_ BK143 1, ck_ BK143 2, ck_ BK144 0, ck_ BK144 1, ck_ BK144 2, ck_ BK144 3, ck_ BK144 4⟩ (fun hHeld => ?_); refine with_tabW task_held.tab1 task_held.bits1 (fun HT_ HW_ => ?_); generalize w7.drew = w12 at BK143 BK144 HB hHeld ⊢; refine qX_ 2 12 (b_ 13 4) ?_; refine qX_ 3 13 (b_ 13 12) ?_; refine qX_ 4 14 (b_ 13 28) ?_; refine qX_ 5 15 (b_ 13 60) ?_; refine qX_ 6 16 (b_ 13 124) ?_; refine qX_ 7 17 (b_ 13 252) ?_; refine qX_ 8 18 (b_ 13 508) ?_; refine uX_ 0 10 (b_ 13 509) hHeld ?_
    refine uX_ 1 11 (b_ 13 511) hHeld ?_; refine one_ (i := 9) (N := some 19) (b_ 13 1023) rfl rfl (one_of HT_.out (by kernel_rfl)) (by decide) (fun K hK => ?_); refine goes_ Try.func55 (by kernel_rfl) rfl #[.int .i64 a3] (by rfl) rfl rfl ga_ ?_; (with_reducible refine (task_count.calls a3 t145 _ A10.out).mono ?_); rintro e w' ⟨rfl, ⟨nd, rfl⟩⟩; refine ⟨_, rfl, ?_⟩; refine hK.out _ _ ⟨ck_ BK143 0, ck_ BK143 1, ck_ BK143 2, ck_ BK144 0, ck_ BK144 1, ck_ BK144 2, ck_ BK144 3, ck_ BK144 4⟩ (fun hHeld => ?_); clear hK K; refine norm_ (a' := ?_) ?_ ?_; rotate_left
    ·
     show Act.put _ (some 19) _ = _; simp only [Act.put, sa_, s0_, s1_, i64_w, i32_w]
     rfl
    refine qX_ 10 20 (b_ 13 2047) ?_; refine one_ (i := 11) (N := some 21) (b_ 13 4095) rfl rfl (one_of HT_.out (by kernel_rfl)) (by decide) (fun K hK => ?_); refine goes_ Try.func54 (by kernel_rfl) rfl #[.agg #[.slice A0_0 l0_0.length c0_0, .int .i64 a0_1, .int .i64 a0_2], .agg #[.int .u8 a1_0, .int .i64 a1_1, .int .i64 a1_2, .int .i64 a1_3, .int .i64 a1_4], .bool t145, .int .u8 2] (by rfl) rfl rfl ga_ ?_; (with_reducible refine (task_in.calls k _ _ l0_0 a0_1 a0_2 a1_0 a1_1 a1_2 a1_3 a1_4 t145 2 t146 _ ?side1 ?side2 A11.out).mono ?_); (case side1 => exact cX_ (Kd.C_below HR0_0.out hb_)); (case side2 => exact HC0_0.out); rintro e w13 ⟨rfl, hb⟩; refine ⟨_, rfl, ?_⟩; replace BK143 := bs_ BK143 hb; replace BK144 := bs_ BK144 hb; replace HB := bB_ hb; (try clear hb); refine hK.out _ _ ⟨ck_ BK143 0, ck_ BK143 1, ck_ BK143 2, ck_ BK144 0, ck_ BK144 1, ck_ BK144 2, ck_ BK144 3, ck_ BK144 4⟩ (fun hHeld => ?_)
    clear hK K; refine norm_ (a' := ?_) ?_ ?_; rotate_left
    ·
     show Act.put _ (some 21) _ = _; simp only [Act.put, sa_, s0_, s1_, i64_w, i32_w]
     rfl
    refine qX_ 12 9 (b_ 13 8191) ?_; refine done_ (done_of HT_.out (by kernel_rfl)) ?_
    try go_wp2
    go_meet
    case rel => exact ⟨_, (t146), rl_, H', ⟨le_⟩, ⟨bY_ BK143⟩, ⟨bY_ BK144⟩, ⟨hb_⟩⟩
   ·
    rw [if_neg c9] at H; have c9b0 : decide (1 ≤ a3) = false := decide_eq_false c9; clear c9
    (first | rw [c9b0] | (simp only [i64_w, i32_w]; rw [c9b0]) | skip)
    replace H := Option.bind_eq_some_iff.mp H; obtain ⟨t147, A140, H⟩ := H; replace H : (task_held.j0 k a3 t147 a1_0 a1_1 a1_2 a1_3 a1_4) = some r := H; have A14 := Aside0.mk A140; clear A140; have H' := Aside0.mk H; clear H
    try go_wp2
    replace BK143 := A_ (blk_drew BK143.out); replace BK144 := A_ (blk_drew BK144.out); replace HB := A_ (below_drew1 HB.out); refine start_ (n := 13) (S := fun w' => w'.cell? ⟨gb143, 0, none⟩ = some (.slice A0_0 l0_0.length c0_0) ∧ w'.cell? ⟨gb143, 1, none⟩ = some (.int .i64 a0_1) ∧ w'.cell? ⟨gb143, 2, none⟩ = some (.int .i64 a0_2) ∧ w'.cell? ⟨gb144, 0, none⟩ = some (.int .u8 a1_0) ∧ w'.cell? ⟨gb144, 1, none⟩ = some (.int .i64 a1_1) ∧ w'.cell? ⟨gb144, 2, none⟩ = some (.int .i64 a1_2) ∧ w'.cell? ⟨gb144, 3, none⟩ = some (.int .i64 a1_3) ∧ w'.cell? ⟨gb144, 4, none⟩ = some (.int .i64 a1_4)) (ds := []) (b_ 13 0) (by kernel_rfl) rfl rfl ⟨ck_ BK143 0, ck_ BK143 1, ck_ BK143 2, ck_ BK144 0, ck_ BK144 1, ck_ BK144 2, ck_ BK144 3, ck_ BK144 4⟩ (fun hHeld => ?_); refine with_tabW task_held.tab1 task_held.bits1 (fun HT_ HW_ => ?_); generalize w7.drew = w15 at BK143 BK144 HB hHeld ⊢; refine qX_ 2 12 (b_ 13 4) ?_; refine qX_ 3 13 (b_ 13 12) ?_; refine qX_ 4 14 (b_ 13 28) ?_; refine qX_ 5 15 (b_ 13 60) ?_; refine qX_ 6 16 (b_ 13 124) ?_; refine qX_ 7 17 (b_ 13 252) ?_; refine pB_ 8 18 ?_ (b_ 13 508) (any_of HT_.out (by kernel_rfl)) rfl rfl (fun _ _ _ h => h) (by rfl) ?_ ?_; rotate_left
    ·
     simp only [Act.put, sa_, s0_, s1_, i64_w, i32_w]
     rfl
    refine pB_ 9 19 ?_ (b_ 13 1020) (any_of HT_.out (by kernel_rfl)) rfl rfl (fun _ _ _ h => h) (by rfl) ?_ ?_; rotate_left
    ·
     simp only [Act.put, sa_, s0_, s1_, i64_w, i32_w]
     rfl
    refine qX_ 10 20 (b_ 13 2044) ?_; refine uX_ 0 10 (b_ 13 2045) hHeld ?_; refine uX_ 1 11 (b_ 13 2047) hHeld ?_; refine one_ (i := 11) (N := some 21) (b_ 13 4095) rfl rfl (one_of HT_.out (by kernel_rfl)) (by decide) (fun K hK => ?_); refine goes_ Try.func54 (by kernel_rfl) rfl #[.agg #[.slice A0_0 l0_0.length c0_0, .int .i64 a0_1, .int .i64 a0_2], .agg #[.int .u8 a1_0, .int .i64 a1_1, .int .i64 a1_2, .int .i64 a1_3, .int .i64 a1_4], .bool false, .int .u8 2] (by rfl) rfl rfl ga_ ?_; (with_reducible refine (task_in.calls k _ _ l0_0 a0_1 a0_2 a1_0 a1_1 a1_2 a1_3 a1_4 false 2 t147 _ ?side1 ?side2 A14.out).mono ?_); (case side1 => exact cB_ HR0_0); (case side2 => exact HC0_0.out); rintro e w16 ⟨rfl, hb⟩; refine ⟨_, rfl, ?_⟩; replace BK143 := bs_ BK143 hb; replace BK144 := bs_ BK144 hb; replace HB := bB_ hb; (try clear hb); refine hK.out _ _ ⟨ck_ BK143 0, ck_ BK143 1, ck_ BK143 2, ck_ BK144 0, ck_ BK144 1, ck_ BK144 2, ck_ BK144 3, ck_ BK144 4⟩ (fun hHeld => ?_)
    clear hK K; refine norm_ (a' := ?_) ?_ ?_; rotate_left
    ·
     show Act.put _ (some 21) _ = _; simp only [Act.put, sa_, s0_, s1_, i64_w, i32_w]
     rfl
    refine qX_ 12 9 (b_ 13 8191) ?_; refine done_ (done_of HT_.out (by kernel_rfl)) ?_
    try go_wp2
    go_meet
    case rel => exact ⟨_, (t147), rl_, H', ⟨le_⟩, ⟨bY_ BK143⟩, ⟨bY_ BK144⟩, ⟨hb_⟩⟩
  ·
   replace c8 := Bool.eq_false_iff.mpr c8; subst c8; have H1 : ((task_in.f k l0_0 a0_1 a0_2 a1_0 a1_1 a1_2 a1_3 a1_4 false 2).bind fun t148 => (task_held.j0 k a3 t148 a1_0 a1_1 a1_2 a1_3 a1_4)) = some r := by rw [if_neg (show ¬ (false = true) by decide)] at H; exact H
   clear H; have H := H1; clear H1; replace H := Option.bind_eq_some_iff.mp H; obtain ⟨t148, A170, H⟩ := H; replace H : (task_held.j0 k a3 t148 a1_0 a1_1 a1_2 a1_3 a1_4) = some r := H; have A17 := Aside0.mk A170; clear A170; have H' := Aside0.mk H; clear H
   try go_wp2
   replace BK143 := A_ (blk_drew BK143.out); replace BK144 := A_ (blk_drew BK144.out); replace HB := A_ (below_drew1 HB.out); refine start_ (n := 13) (S := fun w' => w'.cell? ⟨gb143, 0, none⟩ = some (.slice A0_0 l0_0.length c0_0) ∧ w'.cell? ⟨gb143, 1, none⟩ = some (.int .i64 a0_1) ∧ w'.cell? ⟨gb143, 2, none⟩ = some (.int .i64 a0_2) ∧ w'.cell? ⟨gb144, 0, none⟩ = some (.int .u8 a1_0) ∧ w'.cell? ⟨gb144, 1, none⟩ = some (.int .i64 a1_1) ∧ w'.cell? ⟨gb144, 2, none⟩ = some (.int .i64 a1_2) ∧ w'.cell? ⟨gb144, 3, none⟩ = some (.int .i64 a1_3) ∧ w'.cell? ⟨gb144, 4, none⟩ = some (.int .i64 a1_4)) (ds := []) (b_ 13 0) (by kernel_rfl) rfl rfl ⟨ck_ BK143 0, ck_ BK143 1, ck_ BK143 2, ck_ BK144 0, ck_ BK144 1, ck_ BK144 2, ck_ BK144 3, ck_ BK144 4⟩ (fun hHeld => ?_); refine with_tabW task_held.tab1 task_held.bits1 (fun HT_ HW_ => ?_); generalize w7.drew = w18 at BK143 BK144 HB hHeld ⊢; refine qX_ 2 12 (b_ 13 4) ?_; refine qX_ 3 13 (b_ 13 12) ?_; refine pB_ 4 14 ?_ (b_ 13 28) (any_of HT_.out (by kernel_rfl)) rfl rfl (fun _ _ _ h => h) (by rfl) ?_ ?_; rotate_left
   ·
    simp only [Act.put, sa_, s0_, s1_, i64_w, i32_w]
    rfl
   refine pB_ 5 15 ?_ (b_ 13 60) (any_of HT_.out (by kernel_rfl)) rfl rfl (fun _ _ _ h => h) (by rfl) ?_ ?_; rotate_left
   ·
    simp only [Act.put, sa_, s0_, s1_, i64_w, i32_w]
    rfl
   refine qX_ 6 16 (b_ 13 124) ?_; refine qX_ 7 17 (b_ 13 252) ?_; refine pB_ 8 18 ?_ (b_ 13 508) (any_of HT_.out (by kernel_rfl)) rfl rfl (fun _ _ _ h => h) (by rfl) ?_ ?_; rotate_left
   ·
    simp only [Act.put, sa_, s0_, s1_, i64_w, i32_w]
    rfl
   refine pB_ 9 19 ?_ (b_ 13 1020) (any_of HT_.out (by kernel_rfl)) rfl rfl (fun _ _ _ h => h) (by rfl) ?_ ?_; rotate_left
   ·
    simp only [Act.put, sa_, s0_, s1_, i64_w, i32_w]
    rfl
   refine qX_ 10 20 (b_ 13 2044) ?_; refine uX_ 0 10 (b_ 13 2045) hHeld ?_; refine uX_ 1 11 (b_ 13 2047) hHeld ?_; refine one_ (i := 11) (N := some 21) (b_ 13 4095) rfl rfl (one_of HT_.out (by kernel_rfl)) (by decide) (fun K hK => ?_); refine goes_ Try.func54 (by kernel_rfl) rfl #[.agg #[.slice A0_0 l0_0.length c0_0, .int .i64 a0_1, .int .i64 a0_2], .agg #[.int .u8 a1_0, .int .i64 a1_1, .int .i64 a1_2, .int .i64 a1_3, .int .i64 a1_4], .bool false, .int .u8 2] (by rfl) rfl rfl ga_ ?_; (with_reducible refine (task_in.calls k _ _ l0_0 a0_1 a0_2 a1_0 a1_1 a1_2 a1_3 a1_4 false 2 t148 _ ?side1 ?side2 A17.out).mono ?_); (case side1 => exact cB_ HR0_0); (case side2 => exact HC0_0.out); rintro e w19 ⟨rfl, hb⟩; refine ⟨_, rfl, ?_⟩; replace BK143 := bs_ BK143 hb; replace BK144 := bs_ BK144 hb; replace HB := bB_ hb; (try clear hb); refine hK.out _ _ ⟨ck_ BK143 0, ck_ BK143 1, ck_ BK143 2, ck_ BK144 0, ck_ BK144 1, ck_ BK144 2, ck_ BK144 3, ck_ BK144 4⟩ (fun hHeld => ?_)
   clear hK K; refine norm_ (a' := ?_) ?_ ?_; rotate_left
   ·
    show Act.put _ (some 21) _ = _; simp only [Act.put, sa_, s0_, s1_, i64_w, i32_w]
    rfl
   refine qX_ 12 9 (b_ 13 8191) ?_; refine done_ (done_of HT_.out (by kernel_rfl)) ?_
   try go_wp2
   go_meet
   case rel => exact ⟨_, (t148), rl_, H', ⟨le_⟩, ⟨bY_ BK143⟩, ⟨bY_ BK144⟩, ⟨hb_⟩⟩
 case rest =>
  clear HC5; (try clear c8); (try clear c9); (try clear c9b0); obtain ⟨kq, x9_4, rfl, HA, HJ4, BK143, BK144, HB⟩ := hcut
  cases kq with
  | zero => exact absurd HA.out (by simp [task_held.j0])
  | succ kj4 =>
   have H := HA.out; clear HA; simp only [task_held.j0] at H
   by_cases c20 : x9_4 = 0
   ·
    rw [if_pos c20] at H; have c20b0 : (x9_4 == 0) = true := beq_iff_eq.mpr c20; have c20b1 : (x9_4 != 0) = false := bne_eq_false_iff_eq.mpr c20; clear c20
    by_cases c21 : a1_3 = a3
    ·
     rw [if_pos c21] at H; have c21b0 : (a1_3 == a3) = true := beq_iff_eq.mpr c21; have c21b1 : (a1_3 != a3) = false := bne_eq_false_iff_eq.mpr c21; clear c21; obtain rfl := Option.some.inj H; have hz23 := cz5_ BK144
     go_wp2
     go_ret
     exact ⟨re_, hb_⟩
    ·
     rw [if_neg c21] at H; have c21b0 : (a1_3 == a3) = false := beq_eq_false_iff_ne.mpr c21; have c21b1 : (a1_3 != a3) = true := bne_iff_ne.mpr c21; obtain rfl := Option.some.inj H; have hz25 := cz5_ BK144
     go_wp2
     go_ret
     exact ⟨re_, hb_⟩
   ·
    rw [if_neg c20] at H; have c20b0 : (x9_4 == 0) = false := beq_eq_false_iff_ne.mpr c20; have c20b1 : (x9_4 != 0) = true := bne_iff_ne.mpr c20; obtain rfl := Option.some.inj H
    go_wp2
    go_ret
    exact ⟨re_, hb_⟩

/-! ### task_Done: function 32 -/
def task_Done.f (k : Nat) (l0_0 : List Int) (a0_1 : Int) (a0_2 : Int) (a1_0 : Int) (a1_1 : Int) (a1_2 : Int) (a1_3 : Int) (a1_4 : Int) (a2 : Int) : Option (Int × Int × Int × Int × Int × Int) := (task_held.f k l0_0 a0_1 a0_2 a1_0 a1_1 a1_2 a1_3 a1_4 true a2).bind fun t152 => (if t152 = 0 then (some (4, a1_1, 0, 0, 0, 0)) else (some (0, 0, 0, 0, 0, t152)))
theorem task_Done.mono : ∀ a0 a1 a2 a3 a4 a5 a6 a7 a8 k, LeO (task_Done.f k a0 a1 a2 a3 a4 a5 a6 a7 a8) (task_Done.f (k + 1) a0 a1 a2 a3 a4 a5 a6 a7 a8) := by
 intro a0 a1 a2 a3 a4 a5 a6 a7 a8 k; unfold task_Done.f
 repeat' first
   | (with_reducible exact LeO.refl _)
   | (with_reducible refine LeO.ite ?_ ?_)
   | (with_reducible refine LeO.bind ?_ (fun _ => ?_))
   | exact task_held.mono _ _ _ _ _ _ _ _ _ _ _
   | exact LeO.none _
   | refine LeO.ite ?_ ?_
   | refine LeO.bind ?_ (fun _ => ?_)
set_option maxHeartbeats 8000000 in
set_option maxRecDepth 100000 in
theorem task_Done.calls (k : Nat) (A0_0 : Option Addr) (c0_0 : Nat) (l0_0 : List Int) (a0_1 : Int) (a0_2 : Int) (a1_0 : Int) (a1_1 : Int) (a1_2 : Int) (a1_3 : Int) (a1_4 : Int) (a2 : Int) (r1 : Int) (r2 : Int) (r3 : Int) (r4 : Int) (r5 : Int) (r6 : Int) (w : World) (hr0_0 : Kd.C (Kd.int .i64) w A0_0 l0_0.length l0_0) (hc0_0 : l0_0.length ≤ c0_0) (h : task_Done.f k l0_0 a0_1 a0_2 a1_0 a1_1 a1_2 a1_3 a1_4 a2 = some (r1, r2, r3, r4, r5, r6)) :
  Calls Try.prog 32 #[.agg #[.slice A0_0 l0_0.length c0_0, .int .i64 a0_1, .int .i64 a0_2], .agg #[.int .u8 a1_0, .int .i64 a1_1, .int .i64 a1_2, .int .i64 a1_3, .int .i64 a1_4], .int .i64 a2] w fun e w' => e = .returned (.tuple #[.agg #[.int .u8 r1, .int .i64 r2, .int .i64 r3, .int .i64 r4, .int .i64 r5], .int .i64 r6]) ∧ Below w.heap.size w w' := by
 have hu60 := Try.underlying60; have hu35 := Try.underlying35; have HR0_0 := A_ hr0_0; have HC0_0 := A_ hc0_0; clear hr0_0 hc0_0; have HB := A_ (Below.refl w.heap.size w); have H : ((task_held.f k l0_0 a0_1 a0_2 a1_0 a1_1 a1_2 a1_3 a1_4 true a2).bind fun t152 => (if t152 = 0 then (some (4, a1_1, 0, 0, 0, 0)) else (some (0, 0, 0, 0, 0, t152)))) = some (r1, r2, r3, r4, r5, r6) := h; clear h; replace H := Option.bind_eq_some_iff.mp H; obtain ⟨t152, A40, H⟩ := H; replace H : (if t152 = 0 then (some (4, a1_1, 0, 0, 0, 0)) else (some (0, 0, 0, 0, 0, t152))) = some (r1, r2, r3, r4, r5, r6) := H; have A4 := Aside0.mk A40; clear A40
 by_cases c5 : t152 = 0
 ·
  rw [if_pos c5] at H; have c5b0 : (t152 == 0) = true := beq_iff_eq.mpr c5; have c5b1 : (t152 != 0) = false := bne_eq_false_iff_eq.mpr c5; clear c5; simp only [Option.some.injEq, Prod.mk.injEq] at H; obtain ⟨rfl, rfl, rfl, rfl, rfl, rfl⟩ := H
  go_enter Try.func32, Try.ntmps32
  go_wp2_with (first | ((with_reducible refine gd_ 3 rfl ?_); refine by0_ 3 #[.slice A0_0 l0_0.length c0_0, .int .i64 a0_1, .int .i64 a0_2] 60 ?_; clear HB; intro gb149 w6 BK149 GE149 HB; have GW149 := GE149) | ((with_reducible refine gd_ 4 rfl ?_); refine by1_ 4 #[.int .u8 a1_0, .int .i64 a1_1, .int .i64 a1_2, .int .i64 a1_3, .int .i64 a1_4] 35 BK149 ?_; clear HB BK149; intro gb150 w7 BK150 GE150 HB NB149_150 NB150_149 BK149; have GW150 := GE150) | ((with_reducible refine gd_ 6 rfl ?_); refine by2_ 6 #[.int .u8 0, .int .i64 0, .int .i64 0, .int .i64 0, .int .i64 0] 35 BK149 BK150 ?_; clear HB BK149 BK150; intro gb151 w8 BK151 GE151 HB NB149_151 NB151_149 BK149 NB150_151 NB151_150 BK150; have hnb9 := NB149_150.out; have hnc9 := NB150_149.out; have hz11 := cz3_ BK149; have hz13 := cz5_ BK150) | ((with_reducible refine gc_ 57 rfl ?_); refine gL_ (some 12) Try.func57 #[.agg #[.slice A0_0 l0_0.length c0_0, .int .i64 a0_1, .int .i64 a0_2], .agg #[.int .u8 a1_0, .int .i64 a1_1, .int .i64 a1_2, .int .i64 a1_3, .int .i64 a1_4], .bool true, .int .i64 a2] ?_; (with_reducible refine (task_held.calls k _ _ l0_0 a0_1 a0_2 a1_0 a1_1 a1_2 a1_3 a1_4 true a2 t152 _ ?side1 ?side2 A4.out).mono ?_); (case side1 => exact cB_ HR0_0); (case side2 => exact HC0_0.out); rintro e w14 ⟨rfl, hb⟩; refine ⟨_, rfl, ?_⟩; replace BK149 := bs_ BK149 hb; replace BK150 := bs_ BK150 hb; replace BK151 := bs_ BK151 hb; replace HB := bB_ hb; (try clear hb); have hz15 := cz5_ BK150; have hz16 := cz5_ BK151; have hnp150151 := NB150_151.out; have hnq150151 := NB151_150.out))
  refine bodyPost_ret (results_ct rfl _ _ gb151 35 #[.int .u8 4, .int .i64 a1_1, .int .i64 0, .int .i64 0, .int .i64 0] (0, 0) _ rfl (bP_ BK151) Try.underlying35 rfl (by kernel_rfl)) rfl ?_
  exact ⟨re_, hb_⟩
 ·
  rw [if_neg c5] at H; have c5b0 : (t152 == 0) = false := beq_eq_false_iff_ne.mpr c5; have c5b1 : (t152 != 0) = true := bne_iff_ne.mpr c5; simp only [Option.some.injEq, Prod.mk.injEq] at H; obtain ⟨rfl, rfl, rfl, rfl, rfl, rfl⟩ := H
  go_enter Try.func32, Try.ntmps32
  go_wp2_with (first | ((with_reducible refine gd_ 3 rfl ?_); refine by0_ 3 #[.slice A0_0 l0_0.length c0_0, .int .i64 a0_1, .int .i64 a0_2] 60 ?_; clear HB; intro gb149 w17 BK149 GE149 HB; have GW149 := GE149) | ((with_reducible refine gd_ 4 rfl ?_); refine by1_ 4 #[.int .u8 a1_0, .int .i64 a1_1, .int .i64 a1_2, .int .i64 a1_3, .int .i64 a1_4] 35 BK149 ?_; clear HB BK149; intro gb150 w18 BK150 GE150 HB NB149_150 NB150_149 BK149; have GW150 := GE150) | ((with_reducible refine gd_ 6 rfl ?_); refine by2_ 6 #[.int .u8 0, .int .i64 0, .int .i64 0, .int .i64 0, .int .i64 0] 35 BK149 BK150 ?_; clear HB BK149 BK150; intro gb151 w19 BK151 GE151 HB NB149_151 NB151_149 BK149 NB150_151 NB151_150 BK150; have hnb20 := NB149_150.out; have hnc20 := NB150_149.out; have hz22 := cz3_ BK149; have hz24 := cz5_ BK150) | ((with_reducible refine gc_ 57 rfl ?_); refine gL_ (some 12) Try.func57 #[.agg #[.slice A0_0 l0_0.length c0_0, .int .i64 a0_1, .int .i64 a0_2], .agg #[.int .u8 a1_0, .int .i64 a1_1, .int .i64 a1_2, .int .i64 a1_3, .int .i64 a1_4], .bool true, .int .i64 a2] ?_; (with_reducible refine (task_held.calls k _ _ l0_0 a0_1 a0_2 a1_0 a1_1 a1_2 a1_3 a1_4 true a2 t152 _ ?side1 ?side2 A4.out).mono ?_); (case side1 => exact cB_ HR0_0); (case side2 => exact HC0_0.out); rintro e w25 ⟨rfl, hb⟩; refine ⟨_, rfl, ?_⟩; replace BK149 := bs_ BK149 hb; replace BK150 := bs_ BK150 hb; replace BK151 := bs_ BK151 hb; replace HB := bB_ hb; (try clear hb); have hz26 := cz5_ BK151))
  refine bodyPost_ret (results_ct rfl _ _ gb151 35 #[.int .u8 0, .int .i64 0, .int .i64 0, .int .i64 0, .int .i64 0] (0, 0) _ rfl (bP_ BK151) Try.underlying35 rfl (by kernel_rfl)) rfl ?_
  exact ⟨re_, hb_⟩

end Go.Proofs.Ytbiphljdommacaa.R

/- Contracts of Go functions and what they come to, over the translation of this seat: made by a program of this session (print2.py). -/
import Derived.Test.YtbgfjhnbmfgccaaSh
import Derived.Test.YtbgfjhnbmfgccaaRx0
import Derived.Test.YtbgfjhnbmfgccaaRx2
import Derived.Test.YtbgfjhnbmfgccaaRx4
namespace Go.Proofs.Ytbgfjhnbmfgccaa.R
open Go.RowKit Go.Proofs.Ytbgfjhnbmfgccaa.Sh Go.Proofs.Ytbgfjhnbmfgccaa.Co Go.Proofs.Ytbgfjhnbmfgccaa.Ret Go.Proofs.Ytbgfjhnbmfgccaa.Plain Go.Proofs.YtbgfjhnbmfgccaaW.PrintWords Go.Proofs.YtbgfjhnbmfgccaaW.PrintLast Go.Proofs.YtbgfjhnbmfgccaaW.PrintMore
attribute [local go_sem] max2_int min2_int max_two min_two max_three min_three max_four min_four   -- for this text's walks alone
set_option linter.unusedVariables false
set_option linter.unusedSimpArgs false

/-! ### task_held: function 35 -/
def task_held.j0 : Nat → Int → Int → Int → Int → Int → Int → Int → Option (Int)
 | 0, _, _, _, _, _, _, _ => none
 | k + 1, x3, x9, x133000, x133001, x133002, x133003, x133004 => if x9 = 0 then (if x133003 = x3 then (some 0) else (some 260)) else (some x9)
def task_held.f (k : Nat) (l0_0 : List Int) (a0_1 : Int) (a0_2 : Int) (a1_0 : Int) (a1_1 : Int) (a1_2 : Int) (a1_3 : Int) (a1_4 : Int) (a2 : Bool) (a3 : Int) : Option (Int) := if a2 = true then (if a3 ≥ 1 then ((task_count.f a3).bind fun t133 => ((task_in.f k l0_0 a0_1 a0_2 a1_0 a1_1 a1_2 a1_3 a1_4 t133 2).bind fun t134 => (task_held.j0 k a3 t134 a1_0 a1_1 a1_2 a1_3 a1_4))) else ((task_in.f k l0_0 a0_1 a0_2 a1_0 a1_1 a1_2 a1_3 a1_4 false 2).bind fun t135 => (task_held.j0 k a3 t135 a1_0 a1_1 a1_2 a1_3 a1_4))) else ((task_in.f k l0_0 a0_1 a0_2 a1_0 a1_1 a1_2 a1_3 a1_4 false 2).bind fun t136 => (task_held.j0 k a3 t136 a1_0 a1_1 a1_2 a1_3 a1_4))
theorem task_held.mono_l : ∀ k, (∀ y0 y1 y2 y3 y4 y5 y6, LeO (task_held.j0 k y0 y1 y2 y3 y4 y5 y6) (task_held.j0 (k + 1) y0 y1 y2 y3 y4 y5 y6))
 | 0 => fun _ _ _ _ _ _ _ r h => by simp [task_held.j0] at h
 | k + 1 => by
  have ih0 := task_held.mono_l k
  ·
   intro y0 y1 y2 y3 y4 y5 y6
   unfold task_held.j0
   repeat' first
   | (with_reducible exact ih0 _ _ _ _ _ _ _)
   | (with_reducible exact task_in.mono _ _ _ _ _ _ _ _ _ _ _)
   | (with_reducible exact LeO.refl _)
   | (with_reducible exact LeO.none _)
   | (with_reducible refine LeO.ite ?_ ?_)
   | (with_reducible refine LeO.bind ?_ (fun _ => ?_))
   | exact ih0 _ _ _ _ _ _ _
   | exact task_in.mono _ _ _ _ _ _ _ _ _ _ _
   | exact LeO.none _
   | refine LeO.ite ?_ ?_
   | refine LeO.bind ?_ (fun _ => ?_)
theorem task_held.mono : ∀ a0 a1 a2 a3 a4 a5 a6 a7 a8 a9 k, LeO (task_held.f k a0 a1 a2 a3 a4 a5 a6 a7 a8 a9) (task_held.f (k + 1) a0 a1 a2 a3 a4 a5 a6 a7 a8 a9) := by
 intro a0 a1 a2 a3 a4 a5 a6 a7 a8 a9 k
 have ih0 := task_held.mono_l k
 unfold task_held.f
 repeat' first
   | (with_reducible exact ih0 _ _ _ _ _ _ _)
   | (with_reducible exact task_in.mono _ _ _ _ _ _ _ _ _ _ _)
   | (with_reducible exact LeO.refl _)
   | (with_reducible exact LeO.none _)
   | (with_reducible refine LeO.ite ?_ ?_)
   | (with_reducible refine LeO.bind ?_ (fun _ => ?_))
   | exact ih0 _ _ _ _ _ _ _
   | exact task_in.mono _ _ _ _ _ _ _ _ _ _ _
   | exact LeO.none _
   | refine LeO.ite ?_ ?_
   | refine LeO.bind ?_ (fun _ => ?_)
def task_held.T1 : Bool × List (List Nat × List Nat) := (true, [([], []), ([], []), ([], []), ([2], [2]), ([3], [3]), ([4, 3], [3, 4]), ([3, 5], [3, 5]), ([6, 3], [6]), ([7], [7]), ([8, 7, 7], [7, 8]), ([7, 9], [7, 9]), ([0, 1, 10, 9], [0, 1, 10]), ([11, 11, 0, 1, 2, 3, 4, 5, 6, 7, 8, 9, 10, 11], [11])])
def task_held.B1 : List Nat := [0, 0, 0, 4, 12, 28, 60, 124, 252, 508, 1020, 2047, 4095]
theorem task_held.tab1 : rtab .any (opsOf Try.f35 1) = task_held.T1 := by kernel_rfl
theorem task_held.bits1 : waitsOk task_held.T1.2 task_held.B1 = true := by kernel_rfl
set_option maxHeartbeats 8000000 in
set_option maxRecDepth 100000 in
theorem task_held.calls (k : Nat) (A0_0 : Option Addr) (c0_0 : Nat) (l0_0 : List Int) (a0_1 : Int) (a0_2 : Int) (a1_0 : Int) (a1_1 : Int) (a1_2 : Int) (a1_3 : Int) (a1_4 : Int) (a2 : Bool) (a3 : Int) (r : Int) (w : World) (hr0_0 : Kd.C (Kd.int .i64) w A0_0 l0_0.length l0_0) (hc0_0 : l0_0.length ≤ c0_0) (h : task_held.f k l0_0 a0_1 a0_2 a1_0 a1_1 a1_2 a1_3 a1_4 a2 a3 = some r) :
  Calls Try.prog 35 #[.agg #[.slice A0_0 l0_0.length c0_0, .int .i64 a0_1, .int .i64 a0_2], .agg #[.int .u8 a1_0, .int .i64 a1_1, .int .i64 a1_2, .int .i64 a1_3, .int .i64 a1_4], .bool a2, .int .i64 a3] w fun e w' => e = .returned (.int .i64 r) ∧ Below w.heap.size w w' := by
 have hu24 := Try.underlying24
 have hu31 := Try.underlying31
 have HR0_0 := Aside0.mk hr0_0
 have HC0_0 := Aside0.mk hc0_0
 clear hr0_0 hc0_0
 have HB := Aside0.mk (Below.refl w.heap.size w)
 have H : (if a2 = true then (if a3 ≥ 1 then ((task_count.f a3).bind fun t133 => ((task_in.f k l0_0 a0_1 a0_2 a1_0 a1_1 a1_2 a1_3 a1_4 t133 2).bind fun t134 => (task_held.j0 k a3 t134 a1_0 a1_1 a1_2 a1_3 a1_4))) else ((task_in.f k l0_0 a0_1 a0_2 a1_0 a1_1 a1_2 a1_3 a1_4 false 2).bind fun t135 => (task_held.j0 k a3 t135 a1_0 a1_1 a1_2 a1_3 a1_4))) else ((task_in.f k l0_0 a0_1 a0_2 a1_0 a1_1 a1_2 a1_3 a1_4 false 2).bind fun t136 => (task_held.j0 k a3 t136 a1_0 a1_1 a1_2 a1_3 a1_4))) = some r := h
 clear h
 have HC5 := Aside0.mk H
 clear H
 go_enter Try.func35, Try.ntmps35
 go_upto_region 1 with (first | ((with_reducible refine gate_dst (N := 4) rfl ?_); refine box_event ?hg (N := 4) ?hd (cs := #[.slice A0_0 l0_0.length c0_0, .int .i64 a0_1, .int .i64 a0_2]) (t := 24) ?hr ?_; (case hd => rfl); (case hg => rfl); (case hr => first | (go_simp; done) | (go_simp; rfl)); intro gb131 hg w6 hbox hb; have BK131 := Aside0.mk (hbox); have GW131 := bz_ (hB_ HB.out) hg; have GE131 := bz_ (hB_ HB.out) hg; replace HB := Aside0.mk (below_step (hB_ HB.out) hb); clear hb hbox hg) | ((with_reducible refine gate_dst (N := 5) rfl ?_); refine box_event ?hg (N := 5) ?hd (cs := #[.int .u8 a1_0, .int .i64 a1_1, .int .i64 a1_2, .int .i64 a1_3, .int .i64 a1_4]) (t := 31) ?hr ?_; (case hd => rfl); (case hg => rfl); (case hr => first | (go_simp; done) | (go_simp; rfl)); intro gb132 hg w7 hbox hb; have BK132 := Aside0.mk (hbox); have GW132 := bz_ (hB_ HB.out) hg; have GE132 := bz_ (hB_ HB.out) hg; replace HB := Aside0.mk (below_step (hB_ HB.out) hb); have NB131_132 := bn_ BK131 hg; have NB132_131 := bm_ BK131 hg; replace BK131 := bs_ BK131 hb; clear hb hbox hg))
 (try simp only [Act.put, sa_, s0_, s1_])
 go_cut [9] (fun v9 wc => ∃ (kq : Nat) (x9_4 : Int), v9 = .int .i64 x9_4 ∧ Aside0 (task_held.j0 kq a3 x9_4 a1_0 a1_1 a1_2 a1_3 a1_4 = some r) ∧ Aside0 (kq ≤ k) ∧ Aside0 (wc.heap[gb131]? = some (.cells #[(.slice A0_0 l0_0.length c0_0), .int .i64 a0_1, .int .i64 a0_2] 24 (0, 0))) ∧ Aside0 (wc.heap[gb132]? = some (.cells #[.int .u8 a1_0, .int .i64 a1_1, .int .i64 a1_2, .int .i64 a1_3, .int .i64 a1_4] 31 (0, 0))) ∧ Aside0 (Below w.heap.size w wc))
 case first =>
  have H := HC5.out
  clear HC5
  by_cases c8 : a2 = true
  ·
   subst c8
   have H1 : (if a3 ≥ 1 then ((task_count.f a3).bind fun t133 => ((task_in.f k l0_0 a0_1 a0_2 a1_0 a1_1 a1_2 a1_3 a1_4 t133 2).bind fun t134 => (task_held.j0 k a3 t134 a1_0 a1_1 a1_2 a1_3 a1_4))) else ((task_in.f k l0_0 a0_1 a0_2 a1_0 a1_1 a1_2 a1_3 a1_4 false 2).bind fun t135 => (task_held.j0 k a3 t135 a1_0 a1_1 a1_2 a1_3 a1_4))) = some r := by rw [if_pos rfl] at H; exact H
   clear H
   have H := H1
   clear H1
   by_cases c9 : a3 ≥ 1
   ·
    rw [if_pos c9] at H
    have c9b0 : decide (1 ≤ a3) = true := decide_eq_true c9
    clear c9
    (first | rw [c9b0] | (simp only [i64_w, i32_w]; rw [c9b0]) | skip)
    replace H := Option.bind_eq_some_iff.mp H
    obtain ⟨t133, A100, H⟩ := H
    replace H : ((task_in.f k l0_0 a0_1 a0_2 a1_0 a1_1 a1_2 a1_3 a1_4 t133 2).bind fun t134 => (task_held.j0 k a3 t134 a1_0 a1_1 a1_2 a1_3 a1_4)) = some r := H
    have A10 := Aside0.mk A100
    clear A100
    replace H := Option.bind_eq_some_iff.mp H
    obtain ⟨t134, A110, H⟩ := H
    replace H : (task_held.j0 k a3 t134 a1_0 a1_1 a1_2 a1_3 a1_4) = some r := H
    have A11 := Aside0.mk A110
    clear A110
    have H' := Aside0.mk H
    clear H
    try go_wp2
    replace BK131 := Aside0.mk (blk_drew BK131.out)
    replace BK132 := Aside0.mk (blk_drew BK132.out)
    replace HB := Aside0.mk (below_drew1 HB.out)
    refine start_ (n := 13) (S := fun w' => w'.cell? ⟨gb131, 0, none⟩ = some (.slice A0_0 l0_0.length c0_0) ∧ w'.cell? ⟨gb131, 1, none⟩ = some (.int .i64 a0_1) ∧ w'.cell? ⟨gb131, 2, none⟩ = some (.int .i64 a0_2) ∧ w'.cell? ⟨gb132, 0, none⟩ = some (.int .u8 a1_0) ∧ w'.cell? ⟨gb132, 1, none⟩ = some (.int .i64 a1_1) ∧ w'.cell? ⟨gb132, 2, none⟩ = some (.int .i64 a1_2) ∧ w'.cell? ⟨gb132, 3, none⟩ = some (.int .i64 a1_3) ∧ w'.cell? ⟨gb132, 4, none⟩ = some (.int .i64 a1_4)) (ds := []) (b_ 13 0) (by kernel_rfl) rfl rfl ⟨ck_ BK131 0, ck_ BK131 1, ck_ BK131 2, ck_ BK132 0, ck_ BK132 1, ck_ BK132 2, ck_ BK132 3, ck_ BK132 4⟩ (fun hHeld => ?_); refine with_tabW task_held.tab1 task_held.bits1 (fun HT_ HW_ => ?_)
    generalize w7.drew = w12 at BK131 BK132 HB hHeld ⊢
    refine pA_ 2 12 ?_ (b_ 13 4) (any_of HT_.out (by kernel_rfl)) rfl rfl (fun _ _ _ h => h) (by rfl) ?_ ?_ ?_ ?_
    rotate_left
    ·
     intro w'
     go_simp
     with_reducible rfl
    rotate_left
    ·
     simp only [Act.put, sa_, s0_, s1_, i64_w, i32_w]
     rfl
    refine pA_ 3 13 ?_ (b_ 13 12) (any_of HT_.out (by kernel_rfl)) rfl rfl (fun _ _ _ h => h) (by rfl) ?_ ?_ ?_ ?_
    rotate_left
    ·
     intro w'
     go_simp
     with_reducible rfl
    rotate_left
    ·
     simp only [Act.put, sa_, s0_, s1_, i64_w, i32_w]
     rfl
    refine pA_ 4 14 ?_ (b_ 13 28) (any_of HT_.out (by kernel_rfl)) rfl rfl (fun _ _ _ h => h) (by rfl) ?_ ?_ ?_ ?_
    rotate_left
    ·
     intro w'
     go_simp
     with_reducible rfl
    rotate_left
    ·
     simp only [Act.put, sa_, s0_, s1_, i64_w, i32_w]
     rfl
    refine pA_ 5 15 ?_ (b_ 13 60) (any_of HT_.out (by kernel_rfl)) rfl rfl (fun _ _ _ h => h) (by rfl) ?_ ?_ ?_ ?_
    rotate_left
    ·
     intro w'
     go_simp
     with_reducible rfl
    rotate_left
    ·
     simp only [Act.put, sa_, s0_, s1_, i64_w, i32_w]
     rfl
    refine pA_ 6 16 ?_ (b_ 13 124) (any_of HT_.out (by kernel_rfl)) rfl rfl (fun _ _ _ h => h) (by rfl) ?_ ?_ ?_ ?_
    rotate_left
    ·
     intro w'
     go_simp
     with_reducible rfl
    rotate_left
    ·
     simp only [Act.put, sa_, s0_, s1_, i64_w, i32_w]
     rfl
    refine pA_ 7 17 ?_ (b_ 13 252) (any_of HT_.out (by kernel_rfl)) rfl rfl (fun _ _ _ h => h) (by rfl) ?_ ?_ ?_ ?_
    rotate_left
    ·
     intro w'
     go_simp
     with_reducible rfl
    rotate_left
    ·
     simp only [Act.put, sa_, s0_, s1_, i64_w, i32_w]
     rfl
    refine pA_ 8 18 ?_ (b_ 13 508) (any_of HT_.out (by kernel_rfl)) rfl rfl (fun _ _ _ h => h) (by rfl) ?_ ?_ ?_ ?_
    rotate_left
    ·
     intro w'
     go_simp
     with_reducible rfl
    rotate_left
    ·
     simp only [Act.put, sa_, s0_, s1_, i64_w, i32_w]
     rfl
    refine tA_ 0 10 ?_ (b_ 13 509) (take_ofW HT_.out HW_.out (by kernel_rfl)) rfl rfl (fun _ _ _ h => h) (by rfl) ?_ hHeld ?_ ?_ ?_
    rotate_left
    ·
     rintro w' ⟨s0, s1, s2, s3, s4, s5, s6, s7⟩
     go_simp
     with_reducible rfl
    rotate_left
    ·
     simp only [Act.put, sa_, s0_, s1_, i64_w, i32_w]
     rfl
    refine tA_ 1 11 ?_ (b_ 13 511) (take_ofW HT_.out HW_.out (by kernel_rfl)) rfl rfl (fun _ _ _ h => h) (by rfl) ?_ hHeld ?_ ?_ ?_
    rotate_left
    ·
     rintro w' ⟨s0, s1, s2, s3, s4, s5, s6, s7⟩
     go_simp
     with_reducible rfl
    rotate_left
    ·
     simp only [Act.put, sa_, s0_, s1_, i64_w, i32_w]
     rfl
    refine one_ (i := 9) (N := some 19) (b_ 13 1023) rfl rfl (one_of HT_.out (by kernel_rfl)) (by decide) (fun K hK => ?_)
    refine goes_ Try.func39 (by kernel_rfl) rfl #[.int .i64 a3] (by rfl) rfl rfl (by (try simp only [List.map_toArray, List.map_cons, List.map_nil]); first | done | rfl | (simp only [List.length_drop, List.length_take]; rfl)) ?_
    with_reducible refine (task_count.calls a3 t133 _ A10.out).mono ?_
    rintro e w' ⟨rfl, ⟨nd, rfl⟩⟩
    refine ⟨_, rfl, ?_⟩
    refine hK.out _ _ ⟨ck_ BK131 0, ck_ BK131 1, ck_ BK131 2, ck_ BK132 0, ck_ BK132 1, ck_ BK132 2, ck_ BK132 3, ck_ BK132 4⟩ (fun hHeld => ?_)
    clear hK K
    refine norm_ (a' := ?_) ?_ ?_
    rotate_left
    ·
     show Act.put _ (some 19) _ = _
     simp only [Act.put, sa_, s0_, s1_, i64_w, i32_w]
     rfl
    refine pA_ 10 20 ?_ (b_ 13 2047) (any_of HT_.out (by kernel_rfl)) rfl rfl (fun _ _ _ h => h) (by rfl) ?_ ?_ ?_ ?_
    rotate_left
    ·
     intro w'
     go_simp
     with_reducible rfl
    rotate_left
    ·
     simp only [Act.put, sa_, s0_, s1_, i64_w, i32_w]
     rfl
    refine one_ (i := 11) (N := some 21) (b_ 13 4095) rfl rfl (one_of HT_.out (by kernel_rfl)) (by decide) (fun K hK => ?_)
    refine goes_ Try.func37 (by kernel_rfl) rfl #[.agg #[.slice A0_0 l0_0.length c0_0, .int .i64 a0_1, .int .i64 a0_2], .agg #[.int .u8 a1_0, .int .i64 a1_1, .int .i64 a1_2, .int .i64 a1_3, .int .i64 a1_4], .bool t133, .int .u8 2] (by rfl) rfl rfl (by (try simp only [List.map_toArray, List.map_cons, List.map_nil]); first | done | rfl | (simp only [List.length_drop, List.length_take]; rfl)) ?_
    with_reducible refine (task_in.calls k _ _ l0_0 a0_1 a0_2 a1_0 a1_1 a1_2 a1_3 a1_4 t133 2 t134 _ ?side1 ?side2 A11.out).mono ?_
    (case side1 => repeat (first | exact (Kd.C_below HR0_0.out (by repeat (first | (with_reducible first | exact HB.out | apply below_alloc | apply pw_below_drewN | apply below_drew1 | refine below_set ?_ GE131.out | refine below_set ?_ GE132.out) | exact HB.out))) | (with_reducible refine Kd.C_alloc ?_ _) | (with_reducible refine Kd.C_drewN ?_ _) | (with_reducible refine Kd.C_drew ?_)))
    (case side2 => exact HC0_0.out)
    rintro e w13 ⟨rfl, hb⟩
    refine ⟨_, rfl, ?_⟩
    replace BK131 := bs_ BK131 hb
    replace BK132 := bs_ BK132 hb
    replace HB := Aside0.mk (below_step (hB_ HB.out) hb)
    (try clear hb)
    (try clear hb2)
    (try clear hk)
    (try clear hi)
    refine hK.out _ _ ⟨ck_ BK131 0, ck_ BK131 1, ck_ BK131 2, ck_ BK132 0, ck_ BK132 1, ck_ BK132 2, ck_ BK132 3, ck_ BK132 4⟩ (fun hHeld => ?_)
    clear hK K
    refine norm_ (a' := ?_) ?_ ?_
    rotate_left
    ·
     show Act.put _ (some 21) _ = _
     simp only [Act.put, sa_, s0_, s1_, i64_w, i32_w]
     rfl
    refine pA_ 12 9 ?_ (b_ 13 8191) (any_of HT_.out (by kernel_rfl)) rfl rfl (fun _ _ _ h => h) (by rfl) ?_ ?_ ?_ ?_
    rotate_left
    ·
     intro w'
     go_simp
     with_reducible rfl
    rotate_left
    ·
     simp only [Act.put, sa_, s0_, s1_, i64_w, i32_w]
     rfl
    refine done_ (done_of HT_.out (by kernel_rfl)) ?_
    try go_wp2
    go_meet
    case rel => exact ⟨_, (t134), (by first | rfl | (simp; done) | (simp [*]; done)), H', ⟨by first | omega | exact Nat.le_refl _⟩, ⟨by (with_reducible repeat (first | refine blk_drewN ?_ _ | refine blk_drew ?_ | refine blk_alloc ?_ _)); exact BK131.out⟩, ⟨by (with_reducible repeat (first | refine blk_drewN ?_ _ | refine blk_drew ?_ | refine blk_alloc ?_ _)); exact BK132.out⟩, ⟨by repeat (first | (with_reducible first | exact HB.out | apply below_alloc | apply pw_below_drewN | apply below_drew1 | refine below_set ?_ GE131.out | refine below_set ?_ GE132.out) | exact HB.out)⟩⟩
   ·
    rw [if_neg c9] at H
    have c9b0 : decide (1 ≤ a3) = false := decide_eq_false c9
    clear c9
    (first | rw [c9b0] | (simp only [i64_w, i32_w]; rw [c9b0]) | skip)
    replace H := Option.bind_eq_some_iff.mp H
    obtain ⟨t135, A140, H⟩ := H
    replace H : (task_held.j0 k a3 t135 a1_0 a1_1 a1_2 a1_3 a1_4) = some r := H
    have A14 := Aside0.mk A140
    clear A140
    have H' := Aside0.mk H
    clear H
    try go_wp2
    replace BK131 := Aside0.mk (blk_drew BK131.out)
    replace BK132 := Aside0.mk (blk_drew BK132.out)
    replace HB := Aside0.mk (below_drew1 HB.out)
    refine start_ (n := 13) (S := fun w' => w'.cell? ⟨gb131, 0, none⟩ = some (.slice A0_0 l0_0.length c0_0) ∧ w'.cell? ⟨gb131, 1, none⟩ = some (.int .i64 a0_1) ∧ w'.cell? ⟨gb131, 2, none⟩ = some (.int .i64 a0_2) ∧ w'.cell? ⟨gb132, 0, none⟩ = some (.int .u8 a1_0) ∧ w'.cell? ⟨gb132, 1, none⟩ = some (.int .i64 a1_1) ∧ w'.cell? ⟨gb132, 2, none⟩ = some (.int .i64 a1_2) ∧ w'.cell? ⟨gb132, 3, none⟩ = some (.int .i64 a1_3) ∧ w'.cell? ⟨gb132, 4, none⟩ = some (.int .i64 a1_4)) (ds := []) (b_ 13 0) (by kernel_rfl) rfl rfl ⟨ck_ BK131 0, ck_ BK131 1, ck_ BK131 2, ck_ BK132 0, ck_ BK132 1, ck_ BK132 2, ck_ BK132 3, ck_ BK132 4⟩ (fun hHeld => ?_); refine with_tabW task_held.tab1 task_held.bits1 (fun HT_ HW_ => ?_)
    generalize w7.drew = w15 at BK131 BK132 HB hHeld ⊢
    refine pA_ 2 12 ?_ (b_ 13 4) (any_of HT_.out (by kernel_rfl)) rfl rfl (fun _ _ _ h => h) (by rfl) ?_ ?_ ?_ ?_
    rotate_left
    ·
     intro w'
     go_simp
     with_reducible rfl
    rotate_left
    ·
     simp only [Act.put, sa_, s0_, s1_, i64_w, i32_w]
     rfl
    refine pA_ 3 13 ?_ (b_ 13 12) (any_of HT_.out (by kernel_rfl)) rfl rfl (fun _ _ _ h => h) (by rfl) ?_ ?_ ?_ ?_
    rotate_left
    ·
     intro w'
     go_simp
     with_reducible rfl
    rotate_left
    ·
     simp only [Act.put, sa_, s0_, s1_, i64_w, i32_w]
     rfl
    refine pA_ 4 14 ?_ (b_ 13 28) (any_of HT_.out (by kernel_rfl)) rfl rfl (fun _ _ _ h => h) (by rfl) ?_ ?_ ?_ ?_
    rotate_left
    ·
     intro w'
     go_simp
     with_reducible rfl
    rotate_left
    ·
     simp only [Act.put, sa_, s0_, s1_, i64_w, i32_w]
     rfl
    refine pA_ 5 15 ?_ (b_ 13 60) (any_of HT_.out (by kernel_rfl)) rfl rfl (fun _ _ _ h => h) (by rfl) ?_ ?_ ?_ ?_
    rotate_left
    ·
     intro w'
     go_simp
     with_reducible rfl
    rotate_left
    ·
     simp only [Act.put, sa_, s0_, s1_, i64_w, i32_w]
     rfl
    refine pA_ 6 16 ?_ (b_ 13 124) (any_of HT_.out (by kernel_rfl)) rfl rfl (fun _ _ _ h => h) (by rfl) ?_ ?_ ?_ ?_
    rotate_left
    ·
     intro w'
     go_simp
     with_reducible rfl
    rotate_left
    ·
     simp only [Act.put, sa_, s0_, s1_, i64_w, i32_w]
     rfl
    refine pA_ 7 17 ?_ (b_ 13 252) (any_of HT_.out (by kernel_rfl)) rfl rfl (fun _ _ _ h => h) (by rfl) ?_ ?_ ?_ ?_
    rotate_left
    ·
     intro w'
     go_simp
     with_reducible rfl
    rotate_left
    ·
     simp only [Act.put, sa_, s0_, s1_, i64_w, i32_w]
     rfl
    refine pB_ 8 18 ?_ (b_ 13 508) (any_of HT_.out (by kernel_rfl)) rfl rfl (fun _ _ _ h => h) (by rfl) ?_ ?_
    rotate_left
    ·
     simp only [Act.put, sa_, s0_, s1_, i64_w, i32_w]
     rfl
    refine pB_ 9 19 ?_ (b_ 13 1020) (any_of HT_.out (by kernel_rfl)) rfl rfl (fun _ _ _ h => h) (by rfl) ?_ ?_
    rotate_left
    ·
     simp only [Act.put, sa_, s0_, s1_, i64_w, i32_w]
     rfl
    refine pA_ 10 20 ?_ (b_ 13 2044) (any_of HT_.out (by kernel_rfl)) rfl rfl (fun _ _ _ h => h) (by rfl) ?_ ?_ ?_ ?_
    rotate_left
    ·
     intro w'
     go_simp
     with_reducible rfl
    rotate_left
    ·
     simp only [Act.put, sa_, s0_, s1_, i64_w, i32_w]
     rfl
    refine tA_ 0 10 ?_ (b_ 13 2045) (take_ofW HT_.out HW_.out (by kernel_rfl)) rfl rfl (fun _ _ _ h => h) (by rfl) ?_ hHeld ?_ ?_ ?_
    rotate_left
    ·
     rintro w' ⟨s0, s1, s2, s3, s4, s5, s6, s7⟩
     go_simp
     with_reducible rfl
    rotate_left
    ·
     simp only [Act.put, sa_, s0_, s1_, i64_w, i32_w]
     rfl
    refine tA_ 1 11 ?_ (b_ 13 2047) (take_ofW HT_.out HW_.out (by kernel_rfl)) rfl rfl (fun _ _ _ h => h) (by rfl) ?_ hHeld ?_ ?_ ?_
    rotate_left
    ·
     rintro w' ⟨s0, s1, s2, s3, s4, s5, s6, s7⟩
     go_simp
     with_reducible rfl
    rotate_left
    ·
     simp only [Act.put, sa_, s0_, s1_, i64_w, i32_w]
     rfl
    refine one_ (i := 11) (N := some 21) (b_ 13 4095) rfl rfl (one_of HT_.out (by kernel_rfl)) (by decide) (fun K hK => ?_)
    refine goes_ Try.func37 (by kernel_rfl) rfl #[.agg #[.slice A0_0 l0_0.length c0_0, .int .i64 a0_1, .int .i64 a0_2], .agg #[.int .u8 a1_0, .int .i64 a1_1, .int .i64 a1_2, .int .i64 a1_3, .int .i64 a1_4], .bool false, .int .u8 2] (by rfl) rfl rfl (by (try simp only [List.map_toArray, List.map_cons, List.map_nil]); first | done | rfl | (simp only [List.length_drop, List.length_take]; rfl)) ?_
    with_reducible refine (task_in.calls k _ _ l0_0 a0_1 a0_2 a1_0 a1_1 a1_2 a1_3 a1_4 false 2 t135 _ ?side1 ?side2 A14.out).mono ?_
    (case side1 => repeat (first | exact (Kd.C_below HR0_0.out HB.out) | (with_reducible refine Kd.C_alloc ?_ _) | (with_reducible refine Kd.C_drewN ?_ _) | (with_reducible refine Kd.C_drew ?_)))
    (case side2 => exact HC0_0.out)
    rintro e w16 ⟨rfl, hb⟩
    refine ⟨_, rfl, ?_⟩
    replace BK131 := bs_ BK131 hb
    replace BK132 := bs_ BK132 hb
    replace HB := Aside0.mk (below_step (hB_ HB.out) hb)
    (try clear hb)
    (try clear hb2)
    (try clear hk)
    (try clear hi)
    refine hK.out _ _ ⟨ck_ BK131 0, ck_ BK131 1, ck_ BK131 2, ck_ BK132 0, ck_ BK132 1, ck_ BK132 2, ck_ BK132 3, ck_ BK132 4⟩ (fun hHeld => ?_)
    clear hK K
    refine norm_ (a' := ?_) ?_ ?_
    rotate_left
    ·
     show Act.put _ (some 21) _ = _
     simp only [Act.put, sa_, s0_, s1_, i64_w, i32_w]
     rfl
    refine pA_ 12 9 ?_ (b_ 13 8191) (any_of HT_.out (by kernel_rfl)) rfl rfl (fun _ _ _ h => h) (by rfl) ?_ ?_ ?_ ?_
    rotate_left
    ·
     intro w'
     go_simp
     with_reducible rfl
    rotate_left
    ·
     simp only [Act.put, sa_, s0_, s1_, i64_w, i32_w]
     rfl
    refine done_ (done_of HT_.out (by kernel_rfl)) ?_
    try go_wp2
    go_meet
    case rel => exact ⟨_, (t135), (by first | rfl | (simp; done) | (simp [*]; done)), H', ⟨by first | omega | exact Nat.le_refl _⟩, ⟨by (with_reducible repeat (first | refine blk_drewN ?_ _ | refine blk_drew ?_ | refine blk_alloc ?_ _)); exact BK131.out⟩, ⟨by (with_reducible repeat (first | refine blk_drewN ?_ _ | refine blk_drew ?_ | refine blk_alloc ?_ _)); exact BK132.out⟩, ⟨by repeat (first | (with_reducible first | exact HB.out | apply below_alloc | apply pw_below_drewN | apply below_drew1 | refine below_set ?_ GE131.out | refine below_set ?_ GE132.out) | exact HB.out)⟩⟩
  ·
   replace c8 := Bool.eq_false_iff.mpr c8
   subst c8
   have H1 : ((task_in.f k l0_0 a0_1 a0_2 a1_0 a1_1 a1_2 a1_3 a1_4 false 2).bind fun t136 => (task_held.j0 k a3 t136 a1_0 a1_1 a1_2 a1_3 a1_4)) = some r := by rw [if_neg (show ¬ (false = true) by decide)] at H; exact H
   clear H
   have H := H1
   clear H1
   replace H := Option.bind_eq_some_iff.mp H
   obtain ⟨t136, A170, H⟩ := H
   replace H : (task_held.j0 k a3 t136 a1_0 a1_1 a1_2 a1_3 a1_4) = some r := H
   have A17 := Aside0.mk A170
   clear A170
   have H' := Aside0.mk H
   clear H
   try go_wp2
   replace BK131 := Aside0.mk (blk_drew BK131.out)
   replace BK132 := Aside0.mk (blk_drew BK132.out)
   replace HB := Aside0.mk (below_drew1 HB.out)
   refine start_ (n := 13) (S := fun w' => w'.cell? ⟨gb131, 0, none⟩ = some (.slice A0_0 l0_0.length c0_0) ∧ w'.cell? ⟨gb131, 1, none⟩ = some (.int .i64 a0_1) ∧ w'.cell? ⟨gb131, 2, none⟩ = some (.int .i64 a0_2) ∧ w'.cell? ⟨gb132, 0, none⟩ = some (.int .u8 a1_0) ∧ w'.cell? ⟨gb132, 1, none⟩ = some (.int .i64 a1_1) ∧ w'.cell? ⟨gb132, 2, none⟩ = some (.int .i64 a1_2) ∧ w'.cell? ⟨gb132, 3, none⟩ = some (.int .i64 a1_3) ∧ w'.cell? ⟨gb132, 4, none⟩ = some (.int .i64 a1_4)) (ds := []) (b_ 13 0) (by kernel_rfl) rfl rfl ⟨ck_ BK131 0, ck_ BK131 1, ck_ BK131 2, ck_ BK132 0, ck_ BK132 1, ck_ BK132 2, ck_ BK132 3, ck_ BK132 4⟩ (fun hHeld => ?_); refine with_tabW task_held.tab1 task_held.bits1 (fun HT_ HW_ => ?_)
   generalize w7.drew = w18 at BK131 BK132 HB hHeld ⊢
   refine pA_ 2 12 ?_ (b_ 13 4) (any_of HT_.out (by kernel_rfl)) rfl rfl (fun _ _ _ h => h) (by rfl) ?_ ?_ ?_ ?_
   rotate_left
   ·
    intro w'
    go_simp
    with_reducible rfl
   rotate_left
   ·
    simp only [Act.put, sa_, s0_, s1_, i64_w, i32_w]
    rfl
   refine pA_ 3 13 ?_ (b_ 13 12) (any_of HT_.out (by kernel_rfl)) rfl rfl (fun _ _ _ h => h) (by rfl) ?_ ?_ ?_ ?_
   rotate_left
   ·
    intro w'
    go_simp
    with_reducible rfl
   rotate_left
   ·
    simp only [Act.put, sa_, s0_, s1_, i64_w, i32_w]
    rfl
   refine pB_ 4 14 ?_ (b_ 13 28) (any_of HT_.out (by kernel_rfl)) rfl rfl (fun _ _ _ h => h) (by rfl) ?_ ?_
   rotate_left
   ·
    simp only [Act.put, sa_, s0_, s1_, i64_w, i32_w]
    rfl
   refine pB_ 5 15 ?_ (b_ 13 60) (any_of HT_.out (by kernel_rfl)) rfl rfl (fun _ _ _ h => h) (by rfl) ?_ ?_
   rotate_left
   ·
    simp only [Act.put, sa_, s0_, s1_, i64_w, i32_w]
    rfl
   refine pA_ 6 16 ?_ (b_ 13 124) (any_of HT_.out (by kernel_rfl)) rfl rfl (fun _ _ _ h => h) (by rfl) ?_ ?_ ?_ ?_
   rotate_left
   ·
    intro w'
    go_simp
    with_reducible rfl
   rotate_left
   ·
    simp only [Act.put, sa_, s0_, s1_, i64_w, i32_w]
    rfl
   refine pA_ 7 17 ?_ (b_ 13 252) (any_of HT_.out (by kernel_rfl)) rfl rfl (fun _ _ _ h => h) (by rfl) ?_ ?_ ?_ ?_
   rotate_left
   ·
    intro w'
    go_simp
    with_reducible rfl
   rotate_left
   ·
    simp only [Act.put, sa_, s0_, s1_, i64_w, i32_w]
    rfl
   refine pB_ 8 18 ?_ (b_ 13 508) (any_of HT_.out (by kernel_rfl)) rfl rfl (fun _ _ _ h => h) (by rfl) ?_ ?_
   rotate_left
   ·
    simp only [Act.put, sa_, s0_, s1_, i64_w, i32_w]
    rfl
   refine pB_ 9 19 ?_ (b_ 13 1020) (any_of HT_.out (by kernel_rfl)) rfl rfl (fun _ _ _ h => h) (by rfl) ?_ ?_
   rotate_left
   ·
    simp only [Act.put, sa_, s0_, s1_, i64_w, i32_w]
    rfl
   refine pA_ 10 20 ?_ (b_ 13 2044) (any_of HT_.out (by kernel_rfl)) rfl rfl (fun _ _ _ h => h) (by rfl) ?_ ?_ ?_ ?_
   rotate_left
   ·
    intro w'
    go_simp
    with_reducible rfl
   rotate_left
   ·
    simp only [Act.put, sa_, s0_, s1_, i64_w, i32_w]
    rfl
   refine tA_ 0 10 ?_ (b_ 13 2045) (take_ofW HT_.out HW_.out (by kernel_rfl)) rfl rfl (fun _ _ _ h => h) (by rfl) ?_ hHeld ?_ ?_ ?_
   rotate_left
   ·
    rintro w' ⟨s0, s1, s2, s3, s4, s5, s6, s7⟩
    go_simp
    with_reducible rfl
   rotate_left
   ·
    simp only [Act.put, sa_, s0_, s1_, i64_w, i32_w]
    rfl
   refine tA_ 1 11 ?_ (b_ 13 2047) (take_ofW HT_.out HW_.out (by kernel_rfl)) rfl rfl (fun _ _ _ h => h) (by rfl) ?_ hHeld ?_ ?_ ?_
   rotate_left
   ·
    rintro w' ⟨s0, s1, s2, s3, s4, s5, s6, s7⟩
    go_simp
    with_reducible rfl
   rotate_left
   ·
    simp only [Act.put, sa_, s0_, s1_, i64_w, i32_w]
    rfl
   refine one_ (i := 11) (N := some 21) (b_ 13 4095) rfl rfl (one_of HT_.out (by kernel_rfl)) (by decide) (fun K hK => ?_)
   refine goes_ Try.func37 (by kernel_rfl) rfl #[.agg #[.slice A0_0 l0_0.length c0_0, .int .i64 a0_1, .int .i64 a0_2], .agg #[.int .u8 a1_0, .int .i64 a1_1, .int .i64 a1_2, .int .i64 a1_3, .int .i64 a1_4], .bool false, .int .u8 2] (by rfl) rfl rfl (by (try simp only [List.map_toArray, List.map_cons, List.map_nil]); first | done | rfl | (simp only [List.length_drop, List.length_take]; rfl)) ?_
   with_reducible refine (task_in.calls k _ _ l0_0 a0_1 a0_2 a1_0 a1_1 a1_2 a1_3 a1_4 false 2 t136 _ ?side1 ?side2 A17.out).mono ?_
   (case side1 => repeat (first | exact (Kd.C_below HR0_0.out HB.out) | (with_reducible refine Kd.C_alloc ?_ _) | (with_reducible refine Kd.C_drewN ?_ _) | (with_reducible refine Kd.C_drew ?_)))
   (case side2 => exact HC0_0.out)
   rintro e w19 ⟨rfl, hb⟩
   refine ⟨_, rfl, ?_⟩
   replace BK131 := bs_ BK131 hb
   replace BK132 := bs_ BK132 hb
   replace HB := Aside0.mk (below_step (hB_ HB.out) hb)
   (try clear hb)
   (try clear hb2)
   (try clear hk)
   (try clear hi)
   refine hK.out _ _ ⟨ck_ BK131 0, ck_ BK131 1, ck_ BK131 2, ck_ BK132 0, ck_ BK132 1, ck_ BK132 2, ck_ BK132 3, ck_ BK132 4⟩ (fun hHeld => ?_)
   clear hK K
   refine norm_ (a' := ?_) ?_ ?_
   rotate_left
   ·
    show Act.put _ (some 21) _ = _
    simp only [Act.put, sa_, s0_, s1_, i64_w, i32_w]
    rfl
   refine pA_ 12 9 ?_ (b_ 13 8191) (any_of HT_.out (by kernel_rfl)) rfl rfl (fun _ _ _ h => h) (by rfl) ?_ ?_ ?_ ?_
   rotate_left
   ·
    intro w'
    go_simp
    with_reducible rfl
   rotate_left
   ·
    simp only [Act.put, sa_, s0_, s1_, i64_w, i32_w]
    rfl
   refine done_ (done_of HT_.out (by kernel_rfl)) ?_
   try go_wp2
   go_meet
   case rel => exact ⟨_, (t136), (by first | rfl | (simp; done) | (simp [*]; done)), H', ⟨by first | omega | exact Nat.le_refl _⟩, ⟨by (with_reducible repeat (first | refine blk_drewN ?_ _ | refine blk_drew ?_ | refine blk_alloc ?_ _)); exact BK131.out⟩, ⟨by (with_reducible repeat (first | refine blk_drewN ?_ _ | refine blk_drew ?_ | refine blk_alloc ?_ _)); exact BK132.out⟩, ⟨by repeat (first | (with_reducible first | exact HB.out | apply below_alloc | apply pw_below_drewN | apply below_drew1 | refine below_set ?_ GE131.out | refine below_set ?_ GE132.out) | exact HB.out)⟩⟩
 case rest =>
  clear HC5
  try clear p2
  try clear c3
  try clear c8
  try clear c9
  try clear c9b0
  obtain ⟨kq, x9_4, rfl, HA, HJ4, BK131, BK132, HB⟩ := hcut
  cases kq with
  | zero => exact absurd HA.out (by simp [task_held.j0])
  | succ kj4 =>
   have H := HA.out
   clear HA
   simp only [task_held.j0] at H
   by_cases c20 : x9_4 = 0
   ·
    rw [if_pos c20] at H
    have c20b0 : (x9_4 == 0) = true := beq_iff_eq.mpr c20
    have c20b1 : (x9_4 != 0) = false := bne_eq_false_iff_eq.mpr c20
    clear c20
    by_cases c21 : a1_3 = a3
    ·
     rw [if_pos c21] at H
     have c21b0 : (a1_3 == a3) = true := beq_iff_eq.mpr c21
     have c21b1 : (a1_3 != a3) = false := bne_eq_false_iff_eq.mpr c21
     clear c21
     obtain rfl := Option.some.inj H
     have hcz23_0 : wc.cell? ⟨gb132, 0, none⟩ = some (.int .u8 a1_0) := ck_ BK132 0
     have hcz23_1 : wc.cell? ⟨gb132, 1, none⟩ = some (.int .i64 a1_1) := ck_ BK132 1
     have hcz23_2 : wc.cell? ⟨gb132, 2, none⟩ = some (.int .i64 a1_2) := ck_ BK132 2
     have hcz23_3 : wc.cell? ⟨gb132, 3, none⟩ = some (.int .i64 a1_3) := ck_ BK132 3
     have hcz23_4 : wc.cell? ⟨gb132, 4, none⟩ = some (.int .i64 a1_4) := ck_ BK132 4
     have hfz23_0 := blk_frozen BK132.out 0
     have hfz23_1 := blk_frozen BK132.out 1
     have hfz23_2 := blk_frozen BK132.out 2
     have hfz23_3 := blk_frozen BK132.out 3
     have hfz23_4 := blk_frozen BK132.out 4
     go_wp2
     go_ret
     exact ⟨by first | rfl | (simp [errW_none, errW_some] <;> rfl) | (simp [*, errW_none, errW_some] <;> rfl) | exact ret_ie _ | (simp [*, errW_none, errW_some, bne]; done), by repeat (first | (with_reducible first | exact HB.out | apply below_alloc | apply pw_below_drewN | apply below_drew1 | refine below_set ?_ GE131.out | refine below_set ?_ GE132.out) | exact HB.out)⟩
    ·
     rw [if_neg c21] at H
     have c21b0 : (a1_3 == a3) = false := beq_eq_false_iff_ne.mpr c21
     have c21b1 : (a1_3 != a3) = true := bne_iff_ne.mpr c21
     obtain rfl := Option.some.inj H
     have hcz25_0 : wc.cell? ⟨gb132, 0, none⟩ = some (.int .u8 a1_0) := ck_ BK132 0
     have hcz25_1 : wc.cell? ⟨gb132, 1, none⟩ = some (.int .i64 a1_1) := ck_ BK132 1
     have hcz25_2 : wc.cell? ⟨gb132, 2, none⟩ = some (.int .i64 a1_2) := ck_ BK132 2
     have hcz25_3 : wc.cell? ⟨gb132, 3, none⟩ = some (.int .i64 a1_3) := ck_ BK132 3
     have hcz25_4 : wc.cell? ⟨gb132, 4, none⟩ = some (.int .i64 a1_4) := ck_ BK132 4
     have hfz25_0 := blk_frozen BK132.out 0
     have hfz25_1 := blk_frozen BK132.out 1
     have hfz25_2 := blk_frozen BK132.out 2
     have hfz25_3 := blk_frozen BK132.out 3
     have hfz25_4 := blk_frozen BK132.out 4
     go_wp2
     go_ret
     exact ⟨by first | rfl | (simp [errW_none, errW_some] <;> rfl) | (simp [*, errW_none, errW_some] <;> rfl) | exact ret_ie _ | (simp [*, errW_none, errW_some, bne]; done), by repeat (first | (with_reducible first | exact HB.out | apply below_alloc | apply pw_below_drewN | apply below_drew1 | refine below_set ?_ GE131.out | refine below_set ?_ GE132.out) | exact HB.out)⟩
   ·
    rw [if_neg c20] at H
    have c20b0 : (x9_4 == 0) = false := beq_eq_false_iff_ne.mpr c20
    have c20b1 : (x9_4 != 0) = true := bne_iff_ne.mpr c20
    obtain rfl := Option.some.inj H
    go_wp2
    go_ret
    exact ⟨by first | rfl | (simp [errW_none, errW_some] <;> rfl) | (simp [*, errW_none, errW_some] <;> rfl) | exact ret_ie _ | (simp [*, errW_none, errW_some, bne]; done), by repeat (first | (with_reducible first | exact HB.out | apply below_alloc | apply pw_below_drewN | apply below_drew1 | refine below_set ?_ GE131.out | refine below_set ?_ GE132.out) | exact HB.out)⟩

/-! ### task_pause: function 33 -/
def task_pause.l0 : Nat → Int → Int → Int → Option (Int)
 | 0, _, _, _ => none
 | k + 1, x1, x5, x6 => if x6 < x1 then (task_pause.l0 k x1 (mn (wrap64 (2 * x5)) 1048576) (wrap64 (x6 + 1))) else (some x5)
def task_pause.f (k : Nat) (l0_0 : List Int) (a0_1 : Int) (a0_2 : Int) (a1 : Int) : Option (Int) := task_pause.l0 k a1 a0_2 1
theorem task_pause.mono_l : ∀ k, (∀ y0 y1 y2, LeO (task_pause.l0 k y0 y1 y2) (task_pause.l0 (k + 1) y0 y1 y2))
 | 0 => fun _ _ _ r h => by simp [task_pause.l0] at h
 | k + 1 => by
  have ih0 := task_pause.mono_l k
  ·
   intro y0 y1 y2
   unfold task_pause.l0
   repeat' first
   | (with_reducible exact ih0 _ _ _)
   | (with_reducible exact LeO.refl _)
   | (with_reducible exact LeO.none _)
   | (with_reducible refine LeO.ite ?_ ?_)
   | (with_reducible refine LeO.bind ?_ (fun _ => ?_))
   | exact ih0 _ _ _
   | exact LeO.none _
   | refine LeO.ite ?_ ?_
   | refine LeO.bind ?_ (fun _ => ?_)
theorem task_pause.mono : ∀ a0 a1 a2 a3 k, LeO (task_pause.f k a0 a1 a2 a3) (task_pause.f (k + 1) a0 a1 a2 a3) := by
 intro a0 a1 a2 a3 k
 have ih0 := task_pause.mono_l k
 unfold task_pause.f
 repeat' first
   | (with_reducible exact ih0 _ _ _)
   | (with_reducible exact LeO.refl _)
   | (with_reducible exact LeO.none _)
   | (with_reducible refine LeO.ite ?_ ?_)
   | (with_reducible refine LeO.bind ?_ (fun _ => ?_))
   | exact ih0 _ _ _
   | exact LeO.none _
   | refine LeO.ite ?_ ?_
   | refine LeO.bind ?_ (fun _ => ?_)
set_option maxHeartbeats 8000000 in
set_option maxRecDepth 100000 in
theorem task_pause.calls (k : Nat) (A0_0 : Option Addr) (c0_0 : Nat) (l0_0 : List Int) (a0_1 : Int) (a0_2 : Int) (a1 : Int) (r : Int) (w : World) (hr0_0 : Kd.C (Kd.int .i64) w A0_0 l0_0.length l0_0) (hc0_0 : l0_0.length ≤ c0_0) (h : task_pause.f k l0_0 a0_1 a0_2 a1 = some r) :
  Calls Try.prog 33 #[.agg #[.slice A0_0 l0_0.length c0_0, .int .i64 a0_1, .int .i64 a0_2], .int .i64 a1] w fun e w' => e = .returned (.int .i64 r) ∧ Below w.heap.size w w' := by
 have hu24 := Try.underlying24
 have HR0_0 := Aside0.mk hr0_0
 have HC0_0 := Aside0.mk hc0_0
 clear hr0_0 hc0_0
 have HB := Aside0.mk (Below.refl w.heap.size w)
 have H : (task_pause.l0 k a1 a0_2 1) = some r := h
 clear h
 have H' := Aside0.mk H
 clear H
 go_enter Try.func33, Try.ntmps33
 go_wp2_with (first | ((with_reducible refine gate_dst (N := 2) rfl ?_); refine box_event ?hg (N := 2) ?hd (cs := #[.slice A0_0 l0_0.length c0_0, .int .i64 a0_1, .int .i64 a0_2]) (t := 24) ?hr ?_; (case hd => rfl); (case hg => rfl); (case hr => first | (go_simp; done) | (go_simp; rfl)); intro gb137 hg w3 hbox hb; have BK137 := Aside0.mk (hbox); have GW137 := bz_ (hB_ HB.out) hg; have GE137 := bz_ (hB_ HB.out) hg; replace HB := Aside0.mk (below_step (hB_ HB.out) hb); clear hb hbox hg; have hcz4_0 : w3.cell? ⟨gb137, 0, none⟩ = some (.slice A0_0 l0_0.length c0_0) := ck_ BK137 0; have hcz4_1 : w3.cell? ⟨gb137, 1, none⟩ = some (.int .i64 a0_1) := ck_ BK137 1; have hcz4_2 : w3.cell? ⟨gb137, 2, none⟩ = some (.int .i64 a0_2) := ck_ BK137 2; have hfz4_0 := blk_frozen BK137.out 0; have hfz4_1 := blk_frozen BK137.out 1; have hfz4_2 := blk_frozen BK137.out 2))
 go_loopg [5, 6] k (fun kq v5 v6 w' => ∃ (x5_1 : Int) (x6_1 : Int), v5 = .int .i64 x5_1 ∧ v6 = .int .i64 x6_1 ∧ Aside0 (task_pause.l0 kq a1 x5_1 x6_1 = some r) ∧ Aside0 (kq ≤ k) ∧ Aside0 (w'.heap[gb137]? = some (.cells #[(.slice A0_0 l0_0.length c0_0), .int .i64 a0_1, .int .i64 a0_2] 24 (0, 0))) ∧ Aside0 (Below w.heap.size w w'))
 case atStart => exact ⟨(a0_2), (1), (by first | rfl | (simp; done) | (simp [*]; done)), (by first | rfl | (simp; done) | (simp [*]; done)), H', ⟨Nat.le_refl _⟩, ⟨by (with_reducible repeat (first | refine blk_drewN ?_ _ | refine blk_drew ?_ | refine blk_alloc ?_ _)); exact BK137.out⟩, ⟨by repeat (first | (with_reducible first | exact HB.out | apply below_alloc | apply pw_below_drewN | apply below_drew1 | refine below_set ?_ GE137.out) | exact HB.out)⟩⟩
 case round =>
  clear H'
  try clear p2
  try clear c3
  try clear hcz4_0
  try clear hcz4_1
  try clear hcz4_2
  try clear hfz4_0
  try clear hfz4_1
  try clear hfz4_2
  obtain ⟨x5_1, x6_1, rfl, rfl, HA, HK1, BK137, HB⟩ := hrel
  cases gk with
  | zero => exact absurd HA.out (by simp [task_pause.l0])
  | succ k1 =>
   have H := HA.out
   clear HA
   simp only [task_pause.l0] at H
   by_cases c5 : x6_1 < a1
   ·
    rw [if_pos c5] at H
    have c5b0 : decide (x6_1 < a1) = true := decide_eq_true c5
    clear c5
    obtain ⟨ji6, hji6⟩ : ∃ j_ : Int, (mn (wrap64 (2 * x5_1)) 1048576) = j_ := ⟨_, rfl⟩
    replace H : (task_pause.l0 k1 a1 ji6 (wrap64 (x6_1 + 1))) = some r := by first | (rw [hji6] at H; exact H) | (simp only [hji6] at H ⊢; exact H)
    have hji6_ : (if 1048576 < (wrap64 (2 * x5_1)) then 1048576 else (wrap64 (2 * x5_1))) = ji6 := hji6
    have H' := Aside0.mk H
    clear H
    go_wp2
    go_roundg k1
    case measure => have := HK1.out; omega
    case rel => exact ⟨(ji6), (wrap64 (x6_1 + 1)), (by first | rfl | (simp; done) | (simp only [← hji6] <;> (first | rfl | simp)) | (simp [*]; done)), (by first | rfl | (simp; done) | (simp [*]; done)), H', ⟨by have := HK1.out; omega⟩, ⟨by (with_reducible repeat (first | refine blk_drewN ?_ _ | refine blk_drew ?_ | refine blk_alloc ?_ _)); exact BK137.out⟩, ⟨by repeat (first | (with_reducible first | exact HB.out | apply below_alloc | apply pw_below_drewN | apply below_drew1 | refine below_set ?_ GE137.out) | exact HB.out)⟩⟩
   ·
    rw [if_neg c5] at H
    have c5b0 : decide (x6_1 < a1) = false := decide_eq_false c5
    clear c5
    obtain rfl := Option.some.inj H
    go_wp2
    go_ret
    exact ⟨by first | rfl | (simp [errW_none, errW_some] <;> rfl) | (simp [*, errW_none, errW_some] <;> rfl) | exact ret_ie _ | (simp [*, errW_none, errW_some, bne]; done), by repeat (first | (with_reducible first | exact HB.out | apply below_alloc | apply pw_below_drewN | apply below_drew1 | refine below_set ?_ GE137.out) | exact HB.out)⟩

end Go.Proofs.Ytbgfjhnbmfgccaa.R

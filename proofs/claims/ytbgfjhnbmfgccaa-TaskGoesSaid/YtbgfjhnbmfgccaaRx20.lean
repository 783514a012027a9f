/- Contracts of Go functions and what they come to, over the translation of this seat: made by a program of this session (print2.py). -/
import Derived.Test.YtbgfjhnbmfgccaaSh
import Derived.Test.YtbgfjhnbmfgccaaRx0
import Derived.Test.YtbgfjhnbmfgccaaRx16
import Derived.Test.YtbgfjhnbmfgccaaRx18
namespace Go.Proofs.Ytbgfjhnbmfgccaa.R
open Go.RowKit Go.Proofs.Ytbgfjhnbmfgccaa.Sh Go.Proofs.Ytbgfjhnbmfgccaa.Co Go.Proofs.Ytbgfjhnbmfgccaa.Ret Go.Proofs.Ytbgfjhnbmfgccaa.Plain Go.Proofs.YtbgfjhnbmfgccaaW.PrintWords Go.Proofs.YtbgfjhnbmfgccaaW.PrintLast Go.Proofs.YtbgfjhnbmfgccaaW.PrintMore
attribute [local go_sem] max2_int min2_int max_two min_two max_three min_three max_four min_four   -- for this text's walks alone
set_option linter.unusedVariables false
set_option linter.unusedSimpArgs false

/-! ### millhandref24_owned: function 42 -/
def millhandref24_owned.f (k : Nat) (l0_0 : List Int) (a0_1 : Int) (a0_2 : Int) (a1_0 : Int) (a1_1 : Int) (a1_2 : Int) (a1_3 : Int) (a1_4 : Int) (a2 : Int) (a3 : Bool) : Option (Int) := if a2 > 0 then ((millhandref24_In.f a2).bind fun t446 => (if t446 = true then ((millhandref24_state.f k l0_0 a0_1 a0_2 a1_0 a1_1 a1_2 a1_3 a1_4 a3 2).bind fun t447 => (if t447 = 0 then (if a1_3 = a2 then (some t447) else (some 260)) else (some t447))) else ((millhandref24_state.f k l0_0 a0_1 a0_2 a1_0 a1_1 a1_2 a1_3 a1_4 false 2).bind fun t448 => (if t448 = 0 then (if a1_3 = a2 then (some t448) else (some 260)) else (some t448))))) else ((millhandref24_state.f k l0_0 a0_1 a0_2 a1_0 a1_1 a1_2 a1_3 a1_4 false 2).bind fun t449 => (if t449 = 0 then (if a1_3 = a2 then (some t449) else (some 260)) else (some t449)))
theorem millhandref24_owned.mono : ∀ a0 a1 a2 a3 a4 a5 a6 a7 a8 a9 k, LeO (millhandref24_owned.f k a0 a1 a2 a3 a4 a5 a6 a7 a8 a9) (millhandref24_owned.f (k + 1) a0 a1 a2 a3 a4 a5 a6 a7 a8 a9) := by
 intro a0 a1 a2 a3 a4 a5 a6 a7 a8 a9 k
 unfold millhandref24_owned.f
 repeat' first
   | (with_reducible exact millhandref24_state.mono _ _ _ _ _ _ _ _ _ _ _)
   | (with_reducible exact LeO.refl _)
   | (with_reducible exact LeO.none _)
   | (with_reducible refine LeO.ite ?_ ?_)
   | (with_reducible refine LeO.bind ?_ (fun _ => ?_))
   | exact millhandref24_state.mono _ _ _ _ _ _ _ _ _ _ _
   | exact LeO.none _
   | refine LeO.ite ?_ ?_
   | refine LeO.bind ?_ (fun _ => ?_)
def millhandref24_owned.T1 : Bool × List (List Nat × List Nat) := (true, [([], []), ([], []), ([], []), ([2], [2]), ([3], [3]), ([4], [4]), ([5, 4, 4], [4, 5]), ([4, 6], [4, 6]), ([7, 6], [7]), ([8], [8]), ([8, 9], [8, 9]), ([0, 1, 10, 8], [0, 1, 10]), ([11, 11, 0, 1, 2, 3, 4, 5, 6, 7, 8, 9, 10, 11], [11])])
def millhandref24_owned.B1 : List Nat := [0, 0, 0, 4, 12, 28, 60, 124, 252, 508, 1020, 2047, 4095]
theorem millhandref24_owned.tab1 : rtab .any (opsOf Try.f42 1) = millhandref24_owned.T1 := by kernel_rfl
theorem millhandref24_owned.bits1 : waitsOk millhandref24_owned.T1.2 millhandref24_owned.B1 = true := by kernel_rfl
set_option maxHeartbeats 8000000 in
set_option maxRecDepth 100000 in
theorem millhandref24_owned.calls (k : Nat) (A0_0 : Option Addr) (c0_0 : Nat) (l0_0 : List Int) (a0_1 : Int) (a0_2 : Int) (a1_0 : Int) (a1_1 : Int) (a1_2 : Int) (a1_3 : Int) (a1_4 : Int) (a2 : Int) (a3 : Bool) (r : Int) (w : World) (hr0_0 : Kd.C (Kd.int .i64) w A0_0 l0_0.length l0_0) (hc0_0 : l0_0.length ≤ c0_0) (h : millhandref24_owned.f k l0_0 a0_1 a0_2 a1_0 a1_1 a1_2 a1_3 a1_4 a2 a3 = some r) :
  Calls Try.prog 42 #[.agg #[.slice A0_0 l0_0.length c0_0, .int .i64 a0_1, .int .i64 a0_2], .agg #[.int .u8 a1_0, .int .i64 a1_1, .int .i64 a1_2, .int .i64 a1_3, .int .i64 a1_4], .int .i64 a2, .bool a3] w fun e w' => e = .returned (.int .i64 r) ∧ Below w.heap.size w w' := by
 have hu24 := Try.underlying24
 have hu31 := Try.underlying31
 have HR0_0 := Aside0.mk hr0_0
 have HC0_0 := Aside0.mk hc0_0
 clear hr0_0 hc0_0
 have HB := Aside0.mk (Below.refl w.heap.size w)
 have H : (if a2 > 0 then ((millhandref24_In.f a2).bind fun t446 => (if t446 = true then ((millhandref24_state.f k l0_0 a0_1 a0_2 a1_0 a1_1 a1_2 a1_3 a1_4 a3 2).bind fun t447 => (if t447 = 0 then (if a1_3 = a2 then (some t447) else (some 260)) else (some t447))) else ((millhandref24_state.f k l0_0 a0_1 a0_2 a1_0 a1_1 a1_2 a1_3 a1_4 false 2).bind fun t448 => (if t448 = 0 then (if a1_3 = a2 then (some t448) else (some 260)) else (some t448))))) else ((millhandref24_state.f k l0_0 a0_1 a0_2 a1_0 a1_1 a1_2 a1_3 a1_4 false 2).bind fun t449 => (if t449 = 0 then (if a1_3 = a2 then (some t449) else (some 260)) else (some t449)))) = some r := h
 clear h
 by_cases c5 : a2 > 0
 ·
  rw [if_pos c5] at H
  have c5b0 : decide (0 < a2) = true := decide_eq_true c5
  clear c5
  replace H := Option.bind_eq_some_iff.mp H
  obtain ⟨t446, A60, H⟩ := H
  try dsimp only at H
  have A6 := Aside0.mk A60
  clear A60
  by_cases c7 : t446 = true
  ·
   subst c7
   have H1 : ((millhandref24_state.f k l0_0 a0_1 a0_2 a1_0 a1_1 a1_2 a1_3 a1_4 a3 2).bind fun t447 => (if t447 = 0 then (if a1_3 = a2 then (some t447) else (some 260)) else (some t447))) = some r := by rw [if_pos rfl] at H; exact H
   clear H
   have H := H1
   clear H1
   replace H := Option.bind_eq_some_iff.mp H
   obtain ⟨t447, A80, H⟩ := H
   replace H : (if t447 = 0 then (if a1_3 = a2 then (some t447) else (some 260)) else (some t447)) = some r := H
   have A8 := Aside0.mk A80
   clear A80
   by_cases c9 : t447 = 0
   ·
    rw [if_pos c9] at H
    have c9b0 : (t447 == 0) = true := beq_iff_eq.mpr c9
    have c9b1 : (t447 != 0) = false := bne_eq_false_iff_eq.mpr c9
    clear c9
    by_cases c10 : a1_3 = a2
    ·
     rw [if_pos c10] at H
     have c10b0 : (a1_3 == a2) = true := beq_iff_eq.mpr c10
     have c10b1 : (a1_3 != a2) = false := bne_eq_false_iff_eq.mpr c10
     clear c10
     obtain rfl := Option.some.inj H
     go_enter Try.func42, Try.ntmps42
     try go_wp2_with (first | ((with_reducible refine gate_dst (N := 4) rfl ?_); refine box_event ?hg (N := 4) ?hd (cs := #[.slice A0_0 l0_0.length c0_0, .int .i64 a0_1, .int .i64 a0_2]) (t := 24) ?hr ?_; (case hd => rfl); (case hg => rfl); (case hr => first | (go_simp; done) | (go_simp; rfl)); intro gb444 hg w11 hbox hb; have BK444 := Aside0.mk (hbox); have GW444 := bz_ (hB_ HB.out) hg; have GE444 := bz_ (hB_ HB.out) hg; replace HB := Aside0.mk (below_step (hB_ HB.out) hb); clear hb hbox hg) | ((with_reducible refine gate_dst (N := 5) rfl ?_); refine box_event ?hg (N := 5) ?hd (cs := #[.int .u8 a1_0, .int .i64 a1_1, .int .i64 a1_2, .int .i64 a1_3, .int .i64 a1_4]) (t := 31) ?hr ?_; (case hd => rfl); (case hg => rfl); (case hr => first | (go_simp; done) | (go_simp; rfl)); intro gb445 hg w12 hbox hb; have BK445 := Aside0.mk (hbox); have GW445 := bz_ (hB_ HB.out) hg; have GE445 := bz_ (hB_ HB.out) hg; replace HB := Aside0.mk (below_step (hB_ HB.out) hb); have NB444_445 := bn_ BK444 hg; have NB445_444 := bm_ BK444 hg; replace BK444 := bs_ BK444 hb; clear hb hbox hg))
     replace BK444 := Aside0.mk (blk_drew BK444.out)
     replace BK445 := Aside0.mk (blk_drew BK445.out)
     replace HB := Aside0.mk (below_drew1 HB.out)
     refine start_ (n := 13) (S := fun w' => w'.cell? ⟨gb444, 0, none⟩ = some (.slice A0_0 l0_0.length c0_0) ∧ w'.cell? ⟨gb444, 1, none⟩ = some (.int .i64 a0_1) ∧ w'.cell? ⟨gb444, 2, none⟩ = some (.int .i64 a0_2) ∧ w'.cell? ⟨gb445, 0, none⟩ = some (.int .u8 a1_0) ∧ w'.cell? ⟨gb445, 1, none⟩ = some (.int .i64 a1_1) ∧ w'.cell? ⟨gb445, 2, none⟩ = some (.int .i64 a1_2) ∧ w'.cell? ⟨gb445, 3, none⟩ = some (.int .i64 a1_3) ∧ w'.cell? ⟨gb445, 4, none⟩ = some (.int .i64 a1_4)) (ds := []) (b_ 13 0) (by kernel_rfl) rfl rfl ⟨ck_ BK444 0, ck_ BK444 1, ck_ BK444 2, ck_ BK445 0, ck_ BK445 1, ck_ BK445 2, ck_ BK445 3, ck_ BK445 4⟩ (fun hHeld => ?_); refine with_tabW millhandref24_owned.tab1 millhandref24_owned.bits1 (fun HT_ HW_ => ?_)
     generalize w12.drew = w13 at BK444 BK445 HB hHeld ⊢
     refine pA_ 2 12 ?_ (b_ 13 4) (any_of HT_.out (by kernel_rfl)) rfl rfl (fun _ _ _ h => h) (by rfl) ?_ ?_ ?_ ?_
     rotate_left
     ·
      intro w'
      go_simp
      with_reducible rfl
     rotate_left
     ·
      simp only [Act.put, sa_, s0_, s1_, i64_w, i32_w]
      rfl
     refine pA_ 3 13 ?_ (b_ 13 12) (any_of HT_.out (by kernel_rfl)) rfl rfl (fun _ _ _ h => h) (by rfl) ?_ ?_ ?_ ?_
     rotate_left
     ·
      intro w'
      go_simp
      with_reducible rfl
     rotate_left
     ·
      simp only [Act.put, sa_, s0_, s1_, i64_w, i32_w]
      rfl
     refine pA_ 4 14 ?_ (b_ 13 28) (any_of HT_.out (by kernel_rfl)) rfl rfl (fun _ _ _ h => h) (by rfl) ?_ ?_ ?_ ?_
     rotate_left
     ·
      intro w'
      go_simp
      with_reducible rfl
     rotate_left
     ·
      simp only [Act.put, sa_, s0_, s1_, i64_w, i32_w]
      rfl
     refine pA_ 5 15 ?_ (b_ 13 60) (any_of HT_.out (by kernel_rfl)) rfl rfl (fun _ _ _ h => h) (by rfl) ?_ ?_ ?_ ?_
     rotate_left
     ·
      intro w'
      go_simp
      with_reducible rfl
     rotate_left
     ·
      simp only [Act.put, sa_, s0_, s1_, i64_w, i32_w]
      rfl
     refine tA_ 0 10 ?_ (b_ 13 61) (take_ofW HT_.out HW_.out (by kernel_rfl)) rfl rfl (fun _ _ _ h => h) (by rfl) ?_ hHeld ?_ ?_ ?_
     rotate_left
     ·
      rintro w' ⟨s0, s1, s2, s3, s4, s5, s6, s7⟩
      go_simp
      with_reducible rfl
     rotate_left
     ·
      simp only [Act.put, sa_, s0_, s1_, i64_w, i32_w]
      rfl
     refine tA_ 1 11 ?_ (b_ 13 63) (take_ofW HT_.out HW_.out (by kernel_rfl)) rfl rfl (fun _ _ _ h => h) (by rfl) ?_ hHeld ?_ ?_ ?_
     rotate_left
     ·
      rintro w' ⟨s0, s1, s2, s3, s4, s5, s6, s7⟩
      go_simp
      with_reducible rfl
     rotate_left
     ·
      simp only [Act.put, sa_, s0_, s1_, i64_w, i32_w]
      rfl
     refine one_ (i := 6) (N := some 16) (b_ 13 127) rfl rfl (one_of HT_.out (by kernel_rfl)) (by decide) (fun K hK => ?_)
     refine goes_ Try.func41 (by kernel_rfl) rfl #[.int .i64 a2] (by rfl) rfl rfl (by (try simp only [List.map_toArray, List.map_cons, List.map_nil]); first | done | rfl | (simp only [List.length_drop, List.length_take]; rfl)) ?_
     with_reducible refine (millhandref24_In.calls a2 true _ A6.out).mono ?_
     rintro e w' ⟨rfl, ⟨nd, rfl⟩⟩
     refine ⟨_, rfl, ?_⟩
     refine hK.out _ _ ⟨ck_ BK444 0, ck_ BK444 1, ck_ BK444 2, ck_ BK445 0, ck_ BK445 1, ck_ BK445 2, ck_ BK445 3, ck_ BK445 4⟩ (fun hHeld => ?_)
     clear hK K
     refine norm_ (a' := ?_) ?_ ?_
     rotate_left
     ·
      show Act.put _ (some 16) _ = _
      simp only [Act.put, sa_, s0_, s1_, i64_w, i32_w]
      rfl
     refine pA_ 7 17 ?_ (b_ 13 255) (any_of HT_.out (by kernel_rfl)) rfl rfl (fun _ _ _ h => h) (by rfl) ?_ ?_ ?_ ?_
     rotate_left
     ·
      intro w'
      go_simp
      with_reducible rfl
     rotate_left
     ·
      simp only [Act.put, sa_, s0_, s1_, i64_w, i32_w]
      rfl
     refine pA_ 8 18 ?_ (b_ 13 511) (any_of HT_.out (by kernel_rfl)) rfl rfl (fun _ _ _ h => h) (by rfl) ?_ ?_ ?_ ?_
     rotate_left
     ·
      intro w'
      go_simp
      with_reducible rfl
     rotate_left
     ·
      simp only [Act.put, sa_, s0_, s1_, i64_w, i32_w]
      rfl
     refine pA_ 9 19 ?_ (b_ 13 1023) (any_of HT_.out (by kernel_rfl)) rfl rfl (fun _ _ _ h => h) (by rfl) ?_ ?_ ?_ ?_
     rotate_left
     ·
      intro w'
      go_simp
      with_reducible rfl
     rotate_left
     ·
      simp only [Act.put, sa_, s0_, s1_, i64_w, i32_w]
      rfl
     refine pA_ 10 20 ?_ (b_ 13 2047) (any_of HT_.out (by kernel_rfl)) rfl rfl (fun _ _ _ h => h) (by rfl) ?_ ?_ ?_ ?_
     rotate_left
     ·
      intro w'
      go_simp
      with_reducible rfl
     rotate_left
     ·
      simp only [Act.put, sa_, s0_, s1_, i64_w, i32_w]
      rfl
     refine one_ (i := 11) (N := some 21) (b_ 13 4095) rfl rfl (one_of HT_.out (by kernel_rfl)) (by decide) (fun K hK => ?_)
     refine goes_ Try.func40 (by kernel_rfl) rfl #[.agg #[.slice A0_0 l0_0.length c0_0, .int .i64 a0_1, .int .i64 a0_2], .agg #[.int .u8 a1_0, .int .i64 a1_1, .int .i64 a1_2, .int .i64 a1_3, .int .i64 a1_4], .bool a3, .int .u8 2] (by rfl) rfl rfl (by (try simp only [List.map_toArray, List.map_cons, List.map_nil]); first | done | rfl | (simp only [List.length_drop, List.length_take]; rfl)) ?_
     with_reducible refine (millhandref24_state.calls k _ _ l0_0 a0_1 a0_2 a1_0 a1_1 a1_2 a1_3 a1_4 a3 2 t447 _ ?side1 ?side2 A8.out).mono ?_
     (case side1 => repeat (first | exact (Kd.C_below HR0_0.out (by repeat (first | (with_reducible first | exact HB.out | apply below_alloc | apply pw_below_drewN | apply below_drew1 | refine below_set ?_ GE444.out | refine below_set ?_ GE445.out) | exact HB.out))) | (with_reducible refine Kd.C_alloc ?_ _) | (with_reducible refine Kd.C_drewN ?_ _) | (with_reducible refine Kd.C_drew ?_)))
     (case side2 => exact HC0_0.out)
     rintro e w14 ⟨rfl, hb⟩
     refine ⟨_, rfl, ?_⟩
     replace BK444 := bs_ BK444 hb
     replace BK445 := bs_ BK445 hb
     replace HB := Aside0.mk (below_step (hB_ HB.out) hb)
     (try clear hb)
     (try clear hb2)
     (try clear hk)
     (try clear hi)
     refine hK.out _ _ ⟨ck_ BK444 0, ck_ BK444 1, ck_ BK444 2, ck_ BK445 0, ck_ BK445 1, ck_ BK445 2, ck_ BK445 3, ck_ BK445 4⟩ (fun hHeld => ?_)
     clear hK K
     refine norm_ (a' := ?_) ?_ ?_
     rotate_left
     ·
      show Act.put _ (some 21) _ = _
      simp only [Act.put, sa_, s0_, s1_, i64_w, i32_w]
      rfl
     refine pA_ 12 9 ?_ (b_ 13 8191) (any_of HT_.out (by kernel_rfl)) rfl rfl (fun _ _ _ h => h) (by rfl) ?_ ?_ ?_ ?_
     rotate_left
     ·
      intro w'
      go_simp
      with_reducible rfl
     rotate_left
     ·
      simp only [Act.put, sa_, s0_, s1_, i64_w, i32_w]
      rfl
     refine done_ (done_of HT_.out (by kernel_rfl)) ?_
     have hcz16_0 : w14.cell? ⟨gb445, 0, none⟩ = some (.int .u8 a1_0) := ck_ BK445 0
     have hcz16_1 : w14.cell? ⟨gb445, 1, none⟩ = some (.int .i64 a1_1) := ck_ BK445 1
     have hcz16_2 : w14.cell? ⟨gb445, 2, none⟩ = some (.int .i64 a1_2) := ck_ BK445 2
     have hcz16_3 : w14.cell? ⟨gb445, 3, none⟩ = some (.int .i64 a1_3) := ck_ BK445 3
     have hcz16_4 : w14.cell? ⟨gb445, 4, none⟩ = some (.int .i64 a1_4) := ck_ BK445 4
     have hfz16_0 := blk_frozen BK445.out 0
     have hfz16_1 := blk_frozen BK445.out 1
     have hfz16_2 := blk_frozen BK445.out 2
     have hfz16_3 := blk_frozen BK445.out 3
     have hfz16_4 := blk_frozen BK445.out 4
     try go_wp2
     go_ret
     exact ⟨by first | rfl | (simp [errW_none, errW_some] <;> rfl) | (simp [*, errW_none, errW_some] <;> rfl) | exact ret_ie _ | (simp [*, errW_none, errW_some, bne]; done), by repeat (first | (with_reducible first | exact HB.out | apply below_alloc | apply pw_below_drewN | apply below_drew1 | refine below_set ?_ GE444.out | refine below_set ?_ GE445.out) | exact HB.out)⟩
    ·
     rw [if_neg c10] at H
     have c10b0 : (a1_3 == a2) = false := beq_eq_false_iff_ne.mpr c10
     have c10b1 : (a1_3 != a2) = true := bne_iff_ne.mpr c10
     obtain rfl := Option.some.inj H
     go_enter Try.func42, Try.ntmps42
     try go_wp2_with (first | ((with_reducible refine gate_dst (N := 4) rfl ?_); refine box_event ?hg (N := 4) ?hd (cs := #[.slice A0_0 l0_0.length c0_0, .int .i64 a0_1, .int .i64 a0_2]) (t := 24) ?hr ?_; (case hd => rfl); (case hg => rfl); (case hr => first | (go_simp; done) | (go_simp; rfl)); intro gb444 hg w17 hbox hb; have BK444 := Aside0.mk (hbox); have GW444 := bz_ (hB_ HB.out) hg; have GE444 := bz_ (hB_ HB.out) hg; replace HB := Aside0.mk (below_step (hB_ HB.out) hb); clear hb hbox hg) | ((with_reducible refine gate_dst (N := 5) rfl ?_); refine box_event ?hg (N := 5) ?hd (cs := #[.int .u8 a1_0, .int .i64 a1_1, .int .i64 a1_2, .int .i64 a1_3, .int .i64 a1_4]) (t := 31) ?hr ?_; (case hd => rfl); (case hg => rfl); (case hr => first | (go_simp; done) | (go_simp; rfl)); intro gb445 hg w18 hbox hb; have BK445 := Aside0.mk (hbox); have GW445 := bz_ (hB_ HB.out) hg; have GE445 := bz_ (hB_ HB.out) hg; replace HB := Aside0.mk (below_step (hB_ HB.out) hb); have NB444_445 := bn_ BK444 hg; have NB445_444 := bm_ BK444 hg; replace BK444 := bs_ BK444 hb; clear hb hbox hg))
     replace BK444 := Aside0.mk (blk_drew BK444.out)
     replace BK445 := Aside0.mk (blk_drew BK445.out)
     replace HB := Aside0.mk (below_drew1 HB.out)
     refine start_ (n := 13) (S := fun w' => w'.cell? ⟨gb444, 0, none⟩ = some (.slice A0_0 l0_0.length c0_0) ∧ w'.cell? ⟨gb444, 1, none⟩ = some (.int .i64 a0_1) ∧ w'.cell? ⟨gb444, 2, none⟩ = some (.int .i64 a0_2) ∧ w'.cell? ⟨gb445, 0, none⟩ = some (.int .u8 a1_0) ∧ w'.cell? ⟨gb445, 1, none⟩ = some (.int .i64 a1_1) ∧ w'.cell? ⟨gb445, 2, none⟩ = some (.int .i64 a1_2) ∧ w'.cell? ⟨gb445, 3, none⟩ = some (.int .i64 a1_3) ∧ w'.cell? ⟨gb445, 4, none⟩ = some (.int .i64 a1_4)) (ds := []) (b_ 13 0) (by kernel_rfl) rfl rfl ⟨ck_ BK444 0, ck_ BK444 1, ck_ BK444 2, ck_ BK445 0, ck_ BK445 1, ck_ BK445 2, ck_ BK445 3, ck_ BK445 4⟩ (fun hHeld => ?_); refine with_tabW millhandref24_owned.tab1 millhandref24_owned.bits1 (fun HT_ HW_ => ?_)
     generalize w18.drew = w19 at BK444 BK445 HB hHeld ⊢
     refine pA_ 2 12 ?_ (b_ 13 4) (any_of HT_.out (by kernel_rfl)) rfl rfl (fun _ _ _ h => h) (by rfl) ?_ ?_ ?_ ?_
     rotate_left
     ·
      intro w'
      go_simp
      with_reducible rfl
     rotate_left
     ·
      simp only [Act.put, sa_, s0_, s1_, i64_w, i32_w]
      rfl
     refine pA_ 3 13 ?_ (b_ 13 12) (any_of HT_.out (by kernel_rfl)) rfl rfl (fun _ _ _ h => h) (by rfl) ?_ ?_ ?_ ?_
     rotate_left
     ·
      intro w'
      go_simp
      with_reducible rfl
     rotate_left
     ·
      simp only [Act.put, sa_, s0_, s1_, i64_w, i32_w]
      rfl
     refine pA_ 4 14 ?_ (b_ 13 28) (any_of HT_.out (by kernel_rfl)) rfl rfl (fun _ _ _ h => h) (by rfl) ?_ ?_ ?_ ?_
     rotate_left
     ·
      intro w'
      go_simp
      with_reducible rfl
     rotate_left
     ·
      simp only [Act.put, sa_, s0_, s1_, i64_w, i32_w]
      rfl
     refine pA_ 5 15 ?_ (b_ 13 60) (any_of HT_.out (by kernel_rfl)) rfl rfl (fun _ _ _ h => h) (by rfl) ?_ ?_ ?_ ?_
     rotate_left
     ·
      intro w'
      go_simp
      with_reducible rfl
     rotate_left
     ·
      simp only [Act.put, sa_, s0_, s1_, i64_w, i32_w]
      rfl
     refine tA_ 0 10 ?_ (b_ 13 61) (take_ofW HT_.out HW_.out (by kernel_rfl)) rfl rfl (fun _ _ _ h => h) (by rfl) ?_ hHeld ?_ ?_ ?_
     rotate_left
     ·
      rintro w' ⟨s0, s1, s2, s3, s4, s5, s6, s7⟩
      go_simp
      with_reducible rfl
     rotate_left
     ·
      simp only [Act.put, sa_, s0_, s1_, i64_w, i32_w]
      rfl
     refine tA_ 1 11 ?_ (b_ 13 63) (take_ofW HT_.out HW_.out (by kernel_rfl)) rfl rfl (fun _ _ _ h => h) (by rfl) ?_ hHeld ?_ ?_ ?_
     rotate_left
     ·
      rintro w' ⟨s0, s1, s2, s3, s4, s5, s6, s7⟩
      go_simp
      with_reducible rfl
     rotate_left
     ·
      simp only [Act.put, sa_, s0_, s1_, i64_w, i32_w]
      rfl
     refine one_ (i := 6) (N := some 16) (b_ 13 127) rfl rfl (one_of HT_.out (by kernel_rfl)) (by decide) (fun K hK => ?_)
     refine goes_ Try.func41 (by kernel_rfl) rfl #[.int .i64 a2] (by rfl) rfl rfl (by (try simp only [List.map_toArray, List.map_cons, List.map_nil]); first | done | rfl | (simp only [List.length_drop, List.length_take]; rfl)) ?_
     with_reducible refine (millhandref24_In.calls a2 true _ A6.out).mono ?_
     rintro e w' ⟨rfl, ⟨nd, rfl⟩⟩
     refine ⟨_, rfl, ?_⟩
     refine hK.out _ _ ⟨ck_ BK444 0, ck_ BK444 1, ck_ BK444 2, ck_ BK445 0, ck_ BK445 1, ck_ BK445 2, ck_ BK445 3, ck_ BK445 4⟩ (fun hHeld => ?_)
     clear hK K
     refine norm_ (a' := ?_) ?_ ?_
     rotate_left
     ·
      show Act.put _ (some 16) _ = _
      simp only [Act.put, sa_, s0_, s1_, i64_w, i32_w]
      rfl
     refine pA_ 7 17 ?_ (b_ 13 255) (any_of HT_.out (by kernel_rfl)) rfl rfl (fun _ _ _ h => h) (by rfl) ?_ ?_ ?_ ?_
     rotate_left
     ·
      intro w'
      go_simp
      with_reducible rfl
     rotate_left
     ·
      simp only [Act.put, sa_, s0_, s1_, i64_w, i32_w]
      rfl
     refine pA_ 8 18 ?_ (b_ 13 511) (any_of HT_.out (by kernel_rfl)) rfl rfl (fun _ _ _ h => h) (by rfl) ?_ ?_ ?_ ?_
     rotate_left
     ·
      intro w'
      go_simp
      with_reducible rfl
     rotate_left
     ·
      simp only [Act.put, sa_, s0_, s1_, i64_w, i32_w]
      rfl
     refine pA_ 9 19 ?_ (b_ 13 1023) (any_of HT_.out (by kernel_rfl)) rfl rfl (fun _ _ _ h => h) (by rfl) ?_ ?_ ?_ ?_
     rotate_left
     ·
      intro w'
      go_simp
      with_reducible rfl
     rotate_left
     ·
      simp only [Act.put, sa_, s0_, s1_, i64_w, i32_w]
      rfl
     refine pA_ 10 20 ?_ (b_ 13 2047) (any_of HT_.out (by kernel_rfl)) rfl rfl (fun _ _ _ h => h) (by rfl) ?_ ?_ ?_ ?_
     rotate_left
     ·
      intro w'
      go_simp
      with_reducible rfl
     rotate_left
     ·
      simp only [Act.put, sa_, s0_, s1_, i64_w, i32_w]
      rfl
     refine one_ (i := 11) (N := some 21) (b_ 13 4095) rfl rfl (one_of HT_.out (by kernel_rfl)) (by decide) (fun K hK => ?_)
     refine goes_ Try.func40 (by kernel_rfl) rfl #[.agg #[.slice A0_0 l0_0.length c0_0, .int .i64 a0_1, .int .i64 a0_2], .agg #[.int .u8 a1_0, .int .i64 a1_1, .int .i64 a1_2, .int .i64 a1_3, .int .i64 a1_4], .bool a3, .int .u8 2] (by rfl) rfl rfl (by (try simp only [List.map_toArray, List.map_cons, List.map_nil]); first | done | rfl | (simp only [List.length_drop, List.length_take]; rfl)) ?_
     with_reducible refine (millhandref24_state.calls k _ _ l0_0 a0_1 a0_2 a1_0 a1_1 a1_2 a1_3 a1_4 a3 2 t447 _ ?side1 ?side2 A8.out).mono ?_
     (case side1 => repeat (first | exact (Kd.C_below HR0_0.out (by repeat (first | (with_reducible first | exact HB.out | apply below_alloc | apply pw_below_drewN | apply below_drew1 | refine below_set ?_ GE444.out | refine below_set ?_ GE445.out) | exact HB.out))) | (with_reducible refine Kd.C_alloc ?_ _) | (with_reducible refine Kd.C_drewN ?_ _) | (with_reducible refine Kd.C_drew ?_)))
     (case side2 => exact HC0_0.out)
     rintro e w20 ⟨rfl, hb⟩
     refine ⟨_, rfl, ?_⟩
     replace BK444 := bs_ BK444 hb
     replace BK445 := bs_ BK445 hb
     replace HB := Aside0.mk (below_step (hB_ HB.out) hb)
     (try clear hb)
     (try clear hb2)
     (try clear hk)
     (try clear hi)
     refine hK.out _ _ ⟨ck_ BK444 0, ck_ BK444 1, ck_ BK444 2, ck_ BK445 0, ck_ BK445 1, ck_ BK445 2, ck_ BK445 3, ck_ BK445 4⟩ (fun hHeld => ?_)
     clear hK K
     refine norm_ (a' := ?_) ?_ ?_
     rotate_left
     ·
      show Act.put _ (some 21) _ = _
      simp only [Act.put, sa_, s0_, s1_, i64_w, i32_w]
      rfl
     refine pA_ 12 9 ?_ (b_ 13 8191) (any_of HT_.out (by kernel_rfl)) rfl rfl (fun _ _ _ h => h) (by rfl) ?_ ?_ ?_ ?_
     rotate_left
     ·
      intro w'
      go_simp
      with_reducible rfl
     rotate_left
     ·
      simp only [Act.put, sa_, s0_, s1_, i64_w, i32_w]
      rfl
     refine done_ (done_of HT_.out (by kernel_rfl)) ?_
     have hcz22_0 : w20.cell? ⟨gb445, 0, none⟩ = some (.int .u8 a1_0) := ck_ BK445 0
     have hcz22_1 : w20.cell? ⟨gb445, 1, none⟩ = some (.int .i64 a1_1) := ck_ BK445 1
     have hcz22_2 : w20.cell? ⟨gb445, 2, none⟩ = some (.int .i64 a1_2) := ck_ BK445 2
     have hcz22_3 : w20.cell? ⟨gb445, 3, none⟩ = some (.int .i64 a1_3) := ck_ BK445 3
     have hcz22_4 : w20.cell? ⟨gb445, 4, none⟩ = some (.int .i64 a1_4) := ck_ BK445 4
     have hfz22_0 := blk_frozen BK445.out 0
     have hfz22_1 := blk_frozen BK445.out 1
     have hfz22_2 := blk_frozen BK445.out 2
     have hfz22_3 := blk_frozen BK445.out 3
     have hfz22_4 := blk_frozen BK445.out 4
     try go_wp2
     go_ret
     exact ⟨by first | rfl | (simp [errW_none, errW_some] <;> rfl) | (simp [*, errW_none, errW_some] <;> rfl) | exact ret_ie _ | (simp [*, errW_none, errW_some, bne]; done), by repeat (first | (with_reducible first | exact HB.out | apply below_alloc | apply pw_below_drewN | apply below_drew1 | refine below_set ?_ GE444.out | refine below_set ?_ GE445.out) | exact HB.out)⟩
   ·
    rw [if_neg c9] at H
    have c9b0 : (t447 == 0) = false := beq_eq_false_iff_ne.mpr c9
    have c9b1 : (t447 != 0) = true := bne_iff_ne.mpr c9
    obtain rfl := Option.some.inj H
    go_enter Try.func42, Try.ntmps42
    try go_wp2_with (first | ((with_reducible refine gate_dst (N := 4) rfl ?_); refine box_event ?hg (N := 4) ?hd (cs := #[.slice A0_0 l0_0.length c0_0, .int .i64 a0_1, .int .i64 a0_2]) (t := 24) ?hr ?_; (case hd => rfl); (case hg => rfl); (case hr => first | (go_simp; done) | (go_simp; rfl)); intro gb444 hg w23 hbox hb; have BK444 := Aside0.mk (hbox); have GW444 := bz_ (hB_ HB.out) hg; have GE444 := bz_ (hB_ HB.out) hg; replace HB := Aside0.mk (below_step (hB_ HB.out) hb); clear hb hbox hg) | ((with_reducible refine gate_dst (N := 5) rfl ?_); refine box_event ?hg (N := 5) ?hd (cs := #[.int .u8 a1_0, .int .i64 a1_1, .int .i64 a1_2, .int .i64 a1_3, .int .i64 a1_4]) (t := 31) ?hr ?_; (case hd => rfl); (case hg => rfl); (case hr => first | (go_simp; done) | (go_simp; rfl)); intro gb445 hg w24 hbox hb; have BK445 := Aside0.mk (hbox); have GW445 := bz_ (hB_ HB.out) hg; have GE445 := bz_ (hB_ HB.out) hg; replace HB := Aside0.mk (below_step (hB_ HB.out) hb); have NB444_445 := bn_ BK444 hg; have NB445_444 := bm_ BK444 hg; replace BK444 := bs_ BK444 hb; clear hb hbox hg))
    replace BK444 := Aside0.mk (blk_drew BK444.out)
    replace BK445 := Aside0.mk (blk_drew BK445.out)
    replace HB := Aside0.mk (below_drew1 HB.out)
    refine start_ (n := 13) (S := fun w' => w'.cell? ⟨gb444, 0, none⟩ = some (.slice A0_0 l0_0.length c0_0) ∧ w'.cell? ⟨gb444, 1, none⟩ = some (.int .i64 a0_1) ∧ w'.cell? ⟨gb444, 2, none⟩ = some (.int .i64 a0_2) ∧ w'.cell? ⟨gb445, 0, none⟩ = some (.int .u8 a1_0) ∧ w'.cell? ⟨gb445, 1, none⟩ = some (.int .i64 a1_1) ∧ w'.cell? ⟨gb445, 2, none⟩ = some (.int .i64 a1_2) ∧ w'.cell? ⟨gb445, 3, none⟩ = some (.int .i64 a1_3) ∧ w'.cell? ⟨gb445, 4, none⟩ = some (.int .i64 a1_4)) (ds := []) (b_ 13 0) (by kernel_rfl) rfl rfl ⟨ck_ BK444 0, ck_ BK444 1, ck_ BK444 2, ck_ BK445 0, ck_ BK445 1, ck_ BK445 2, ck_ BK445 3, ck_ BK445 4⟩ (fun hHeld => ?_); refine with_tabW millhandref24_owned.tab1 millhandref24_owned.bits1 (fun HT_ HW_ => ?_)
    generalize w24.drew = w25 at BK444 BK445 HB hHeld ⊢
    refine pA_ 2 12 ?_ (b_ 13 4) (any_of HT_.out (by kernel_rfl)) rfl rfl (fun _ _ _ h => h) (by rfl) ?_ ?_ ?_ ?_
    rotate_left
    ·
     intro w'
     go_simp
     with_reducible rfl
    rotate_left
    ·
     simp only [Act.put, sa_, s0_, s1_, i64_w, i32_w]
     rfl
    refine pA_ 3 13 ?_ (b_ 13 12) (any_of HT_.out (by kernel_rfl)) rfl rfl (fun _ _ _ h => h) (by rfl) ?_ ?_ ?_ ?_
    rotate_left
    ·
     intro w'
     go_simp
     with_reducible rfl
    rotate_left
    ·
     simp only [Act.put, sa_, s0_, s1_, i64_w, i32_w]
     rfl
    refine pA_ 4 14 ?_ (b_ 13 28) (any_of HT_.out (by kernel_rfl)) rfl rfl (fun _ _ _ h => h) (by rfl) ?_ ?_ ?_ ?_
    rotate_left
    ·
     intro w'
     go_simp
     with_reducible rfl
    rotate_left
    ·
     simp only [Act.put, sa_, s0_, s1_, i64_w, i32_w]
     rfl
    refine pA_ 5 15 ?_ (b_ 13 60) (any_of HT_.out (by kernel_rfl)) rfl rfl (fun _ _ _ h => h) (by rfl) ?_ ?_ ?_ ?_
    rotate_left
    ·
     intro w'
     go_simp
     with_reducible rfl
    rotate_left
    ·
     simp only [Act.put, sa_, s0_, s1_, i64_w, i32_w]
     rfl
    refine tA_ 0 10 ?_ (b_ 13 61) (take_ofW HT_.out HW_.out (by kernel_rfl)) rfl rfl (fun _ _ _ h => h) (by rfl) ?_ hHeld ?_ ?_ ?_
    rotate_left
    ·
     rintro w' ⟨s0, s1, s2, s3, s4, s5, s6, s7⟩
     go_simp
     with_reducible rfl
    rotate_left
    ·
     simp only [Act.put, sa_, s0_, s1_, i64_w, i32_w]
     rfl
    refine tA_ 1 11 ?_ (b_ 13 63) (take_ofW HT_.out HW_.out (by kernel_rfl)) rfl rfl (fun _ _ _ h => h) (by rfl) ?_ hHeld ?_ ?_ ?_
    rotate_left
    ·
     rintro w' ⟨s0, s1, s2, s3, s4, s5, s6, s7⟩
     go_simp
     with_reducible rfl
    rotate_left
    ·
     simp only [Act.put, sa_, s0_, s1_, i64_w, i32_w]
     rfl
    refine one_ (i := 6) (N := some 16) (b_ 13 127) rfl rfl (one_of HT_.out (by kernel_rfl)) (by decide) (fun K hK => ?_)
    refine goes_ Try.func41 (by kernel_rfl) rfl #[.int .i64 a2] (by rfl) rfl rfl (by (try simp only [List.map_toArray, List.map_cons, List.map_nil]); first | done | rfl | (simp only [List.length_drop, List.length_take]; rfl)) ?_
    with_reducible refine (millhandref24_In.calls a2 true _ A6.out).mono ?_
    rintro e w' ⟨rfl, ⟨nd, rfl⟩⟩
    refine ⟨_, rfl, ?_⟩
    refine hK.out _ _ ⟨ck_ BK444 0, ck_ BK444 1, ck_ BK444 2, ck_ BK445 0, ck_ BK445 1, ck_ BK445 2, ck_ BK445 3, ck_ BK445 4⟩ (fun hHeld => ?_)
    clear hK K
    refine norm_ (a' := ?_) ?_ ?_
    rotate_left
    ·
     show Act.put _ (some 16) _ = _
     simp only [Act.put, sa_, s0_, s1_, i64_w, i32_w]
     rfl
    refine pA_ 7 17 ?_ (b_ 13 255) (any_of HT_.out (by kernel_rfl)) rfl rfl (fun _ _ _ h => h) (by rfl) ?_ ?_ ?_ ?_
    rotate_left
    ·
     intro w'
     go_simp
     with_reducible rfl
    rotate_left
    ·
     simp only [Act.put, sa_, s0_, s1_, i64_w, i32_w]
     rfl
    refine pA_ 8 18 ?_ (b_ 13 511) (any_of HT_.out (by kernel_rfl)) rfl rfl (fun _ _ _ h => h) (by rfl) ?_ ?_ ?_ ?_
    rotate_left
    ·
     intro w'
     go_simp
     with_reducible rfl
    rotate_left
    ·
     simp only [Act.put, sa_, s0_, s1_, i64_w, i32_w]
     rfl
    refine pA_ 9 19 ?_ (b_ 13 1023) (any_of HT_.out (by kernel_rfl)) rfl rfl (fun _ _ _ h => h) (by rfl) ?_ ?_ ?_ ?_
    rotate_left
    ·
     intro w'
     go_simp
     with_reducible rfl
    rotate_left
    ·
     simp only [Act.put, sa_, s0_, s1_, i64_w, i32_w]
     rfl
    refine pA_ 10 20 ?_ (b_ 13 2047) (any_of HT_.out (by kernel_rfl)) rfl rfl (fun _ _ _ h => h) (by rfl) ?_ ?_ ?_ ?_
    rotate_left
    ·
     intro w'
     go_simp
     with_reducible rfl
    rotate_left
    ·
     simp only [Act.put, sa_, s0_, s1_, i64_w, i32_w]
     rfl
    refine one_ (i := 11) (N := some 21) (b_ 13 4095) rfl rfl (one_of HT_.out (by kernel_rfl)) (by decide) (fun K hK => ?_)
    refine goes_ Try.func40 (by kernel_rfl) rfl #[.agg #[.slice A0_0 l0_0.length c0_0, .int .i64 a0_1, .int .i64 a0_2], .agg #[.int .u8 a1_0, .int .i64 a1_1, .int .i64 a1_2, .int .i64 a1_3, .int .i64 a1_4], .bool a3, .int .u8 2] (by rfl) rfl rfl (by (try simp only [List.map_toArray, List.map_cons, List.map_nil]); first | done | rfl | (simp only [List.length_drop, List.length_take]; rfl)) ?_
    with_reducible refine (millhandref24_state.calls k _ _ l0_0 a0_1 a0_2 a1_0 a1_1 a1_2 a1_3 a1_4 a3 2 t447 _ ?side1 ?side2 A8.out).mono ?_
    (case side1 => repeat (first | exact (Kd.C_below HR0_0.out (by repeat (first | (with_reducible first | exact HB.out | apply below_alloc | apply pw_below_drewN | apply below_drew1 | refine below_set ?_ GE444.out | refine below_set ?_ GE445.out) | exact HB.out))) | (with_reducible refine Kd.C_alloc ?_ _) | (with_reducible refine Kd.C_drewN ?_ _) | (with_reducible refine Kd.C_drew ?_)))
    (case side2 => exact HC0_0.out)
    rintro e w26 ⟨rfl, hb⟩
    refine ⟨_, rfl, ?_⟩
    replace BK444 := bs_ BK444 hb
    replace BK445 := bs_ BK445 hb
    replace HB := Aside0.mk (below_step (hB_ HB.out) hb)
    (try clear hb)
    (try clear hb2)
    (try clear hk)
    (try clear hi)
    refine hK.out _ _ ⟨ck_ BK444 0, ck_ BK444 1, ck_ BK444 2, ck_ BK445 0, ck_ BK445 1, ck_ BK445 2, ck_ BK445 3, ck_ BK445 4⟩ (fun hHeld => ?_)
    clear hK K
    refine norm_ (a' := ?_) ?_ ?_
    rotate_left
    ·
     show Act.put _ (some 21) _ = _
     simp only [Act.put, sa_, s0_, s1_, i64_w, i32_w]
     rfl
    refine pA_ 12 9 ?_ (b_ 13 8191) (any_of HT_.out (by kernel_rfl)) rfl rfl (fun _ _ _ h => h) (by rfl) ?_ ?_ ?_ ?_
    rotate_left
    ·
     intro w'
     go_simp
     with_reducible rfl
    rotate_left
    ·
     simp only [Act.put, sa_, s0_, s1_, i64_w, i32_w]
     rfl
    refine done_ (done_of HT_.out (by kernel_rfl)) ?_
    try go_wp2
    go_ret
    exact ⟨by first | rfl | (simp [errW_none, errW_some] <;> rfl) | (simp [*, errW_none, errW_some] <;> rfl) | exact ret_ie _ | (simp [*, errW_none, errW_some, bne]; done), by repeat (first | (with_reducible first | exact HB.out | apply below_alloc | apply pw_below_drewN | apply below_drew1 | refine below_set ?_ GE444.out | refine below_set ?_ GE445.out) | exact HB.out)⟩
  ·
   replace c7 := Bool.eq_false_iff.mpr c7
   subst c7
   have H1 : ((millhandref24_state.f k l0_0 a0_1 a0_2 a1_0 a1_1 a1_2 a1_3 a1_4 false 2).bind fun t448 => (if t448 = 0 then (if a1_3 = a2 then (some t448) else (some 260)) else (some t448))) = some r := by rw [if_neg (show ¬ (false = true) by decide)] at H; exact H
   clear H
   have H := H1
   clear H1
   replace H := Option.bind_eq_some_iff.mp H
   obtain ⟨t448, A270, H⟩ := H
   replace H : (if t448 = 0 then (if a1_3 = a2 then (some t448) else (some 260)) else (some t448)) = some r := H
   have A27 := Aside0.mk A270
   clear A270
   by_cases c28 : t448 = 0
   ·
    rw [if_pos c28] at H
    have c28b0 : (t448 == 0) = true := beq_iff_eq.mpr c28
    have c28b1 : (t448 != 0) = false := bne_eq_false_iff_eq.mpr c28
    clear c28
    by_cases c29 : a1_3 = a2
    ·
     rw [if_pos c29] at H
     have c29b0 : (a1_3 == a2) = true := beq_iff_eq.mpr c29
     have c29b1 : (a1_3 != a2) = false := bne_eq_false_iff_eq.mpr c29
     clear c29
     obtain rfl := Option.some.inj H
     go_enter Try.func42, Try.ntmps42
     try go_wp2_with (first | ((with_reducible refine gate_dst (N := 4) rfl ?_); refine box_event ?hg (N := 4) ?hd (cs := #[.slice A0_0 l0_0.length c0_0, .int .i64 a0_1, .int .i64 a0_2]) (t := 24) ?hr ?_; (case hd => rfl); (case hg => rfl); (case hr => first | (go_simp; done) | (go_simp; rfl)); intro gb444 hg w30 hbox hb; have BK444 := Aside0.mk (hbox); have GW444 := bz_ (hB_ HB.out) hg; have GE444 := bz_ (hB_ HB.out) hg; replace HB := Aside0.mk (below_step (hB_ HB.out) hb); clear hb hbox hg) | ((with_reducible refine gate_dst (N := 5) rfl ?_); refine box_event ?hg (N := 5) ?hd (cs := #[.int .u8 a1_0, .int .i64 a1_1, .int .i64 a1_2, .int .i64 a1_3, .int .i64 a1_4]) (t := 31) ?hr ?_; (case hd => rfl); (case hg => rfl); (case hr => first | (go_simp; done) | (go_simp; rfl)); intro gb445 hg w31 hbox hb; have BK445 := Aside0.mk (hbox); have GW445 := bz_ (hB_ HB.out) hg; have GE445 := bz_ (hB_ HB.out) hg; replace HB := Aside0.mk (below_step (hB_ HB.out) hb); have NB444_445 := bn_ BK444 hg; have NB445_444 := bm_ BK444 hg; replace BK444 := bs_ BK444 hb; clear hb hbox hg))
     replace BK444 := Aside0.mk (blk_drew BK444.out)
     replace BK445 := Aside0.mk (blk_drew BK445.out)
     replace HB := Aside0.mk (below_drew1 HB.out)
     refine start_ (n := 13) (S := fun w' => w'.cell? ⟨gb444, 0, none⟩ = some (.slice A0_0 l0_0.length c0_0) ∧ w'.cell? ⟨gb444, 1, none⟩ = some (.int .i64 a0_1) ∧ w'.cell? ⟨gb444, 2, none⟩ = some (.int .i64 a0_2) ∧ w'.cell? ⟨gb445, 0, none⟩ = some (.int .u8 a1_0) ∧ w'.cell? ⟨gb445, 1, none⟩ = some (.int .i64 a1_1) ∧ w'.cell? ⟨gb445, 2, none⟩ = some (.int .i64 a1_2) ∧ w'.cell? ⟨gb445, 3, none⟩ = some (.int .i64 a1_3) ∧ w'.cell? ⟨gb445, 4, none⟩ = some (.int .i64 a1_4)) (ds := []) (b_ 13 0) (by kernel_rfl) rfl rfl ⟨ck_ BK444 0, ck_ BK444 1, ck_ BK444 2, ck_ BK445 0, ck_ BK445 1, ck_ BK445 2, ck_ BK445 3, ck_ BK445 4⟩ (fun hHeld => ?_); refine with_tabW millhandref24_owned.tab1 millhandref24_owned.bits1 (fun HT_ HW_ => ?_)
     generalize w31.drew = w32 at BK444 BK445 HB hHeld ⊢
     refine pA_ 2 12 ?_ (b_ 13 4) (any_of HT_.out (by kernel_rfl)) rfl rfl (fun _ _ _ h => h) (by rfl) ?_ ?_ ?_ ?_
     rotate_left
     ·
      intro w'
      go_simp
      with_reducible rfl
     rotate_left
     ·
      simp only [Act.put, sa_, s0_, s1_, i64_w, i32_w]
      rfl
     refine pA_ 3 13 ?_ (b_ 13 12) (any_of HT_.out (by kernel_rfl)) rfl rfl (fun _ _ _ h => h) (by rfl) ?_ ?_ ?_ ?_
     rotate_left
     ·
      intro w'
      go_simp
      with_reducible rfl
     rotate_left
     ·
      simp only [Act.put, sa_, s0_, s1_, i64_w, i32_w]
      rfl
     refine pA_ 4 14 ?_ (b_ 13 28) (any_of HT_.out (by kernel_rfl)) rfl rfl (fun _ _ _ h => h) (by rfl) ?_ ?_ ?_ ?_
     rotate_left
     ·
      intro w'
      go_simp
      with_reducible rfl
     rotate_left
     ·
      simp only [Act.put, sa_, s0_, s1_, i64_w, i32_w]
      rfl
     refine pA_ 5 15 ?_ (b_ 13 60) (any_of HT_.out (by kernel_rfl)) rfl rfl (fun _ _ _ h => h) (by rfl) ?_ ?_ ?_ ?_
     rotate_left
     ·
      intro w'
      go_simp
      with_reducible rfl
     rotate_left
     ·
      simp only [Act.put, sa_, s0_, s1_, i64_w, i32_w]
      rfl
     refine tA_ 0 10 ?_ (b_ 13 61) (take_ofW HT_.out HW_.out (by kernel_rfl)) rfl rfl (fun _ _ _ h => h) (by rfl) ?_ hHeld ?_ ?_ ?_
     rotate_left
     ·
      rintro w' ⟨s0, s1, s2, s3, s4, s5, s6, s7⟩
      go_simp
      with_reducible rfl
     rotate_left
     ·
      simp only [Act.put, sa_, s0_, s1_, i64_w, i32_w]
      rfl
     refine tA_ 1 11 ?_ (b_ 13 63) (take_ofW HT_.out HW_.out (by kernel_rfl)) rfl rfl (fun _ _ _ h => h) (by rfl) ?_ hHeld ?_ ?_ ?_
     rotate_left
     ·
      rintro w' ⟨s0, s1, s2, s3, s4, s5, s6, s7⟩
      go_simp
      with_reducible rfl
     rotate_left
     ·
      simp only [Act.put, sa_, s0_, s1_, i64_w, i32_w]
      rfl
     refine one_ (i := 6) (N := some 16) (b_ 13 127) rfl rfl (one_of HT_.out (by kernel_rfl)) (by decide) (fun K hK => ?_)
     refine goes_ Try.func41 (by kernel_rfl) rfl #[.int .i64 a2] (by rfl) rfl rfl (by (try simp only [List.map_toArray, List.map_cons, List.map_nil]); first | done | rfl | (simp only [List.length_drop, List.length_take]; rfl)) ?_
     with_reducible refine (millhandref24_In.calls a2 false _ A6.out).mono ?_
     rintro e w' ⟨rfl, ⟨nd, rfl⟩⟩
     refine ⟨_, rfl, ?_⟩
     refine hK.out _ _ ⟨ck_ BK444 0, ck_ BK444 1, ck_ BK444 2, ck_ BK445 0, ck_ BK445 1, ck_ BK445 2, ck_ BK445 3, ck_ BK445 4⟩ (fun hHeld => ?_)
     clear hK K
     refine norm_ (a' := ?_) ?_ ?_
     rotate_left
     ·
      show Act.put _ (some 16) _ = _
      simp only [Act.put, sa_, s0_, s1_, i64_w, i32_w]
      rfl
     refine pA_ 7 17 ?_ (b_ 13 255) (any_of HT_.out (by kernel_rfl)) rfl rfl (fun _ _ _ h => h) (by rfl) ?_ ?_ ?_ ?_
     rotate_left
     ·
      intro w'
      go_simp
      with_reducible rfl
     rotate_left
     ·
      simp only [Act.put, sa_, s0_, s1_, i64_w, i32_w]
      rfl
     refine pA_ 8 18 ?_ (b_ 13 511) (any_of HT_.out (by kernel_rfl)) rfl rfl (fun _ _ _ h => h) (by rfl) ?_ ?_ ?_ ?_
     rotate_left
     ·
      intro w'
      go_simp
      with_reducible rfl
     rotate_left
     ·
      simp only [Act.put, sa_, s0_, s1_, i64_w, i32_w]
      rfl
     refine pB_ 9 19 ?_ (b_ 13 1023) (any_of HT_.out (by kernel_rfl)) rfl rfl (fun _ _ _ h => h) (by rfl) ?_ ?_
     rotate_left
     ·
      simp only [Act.put, sa_, s0_, s1_, i64_w, i32_w]
      rfl
     refine pA_ 10 20 ?_ (b_ 13 2047) (any_of HT_.out (by kernel_rfl)) rfl rfl (fun _ _ _ h => h) (by rfl) ?_ ?_ ?_ ?_
     rotate_left
     ·
      intro w'
      go_simp
      with_reducible rfl
     rotate_left
     ·
      simp only [Act.put, sa_, s0_, s1_, i64_w, i32_w]
      rfl
     refine one_ (i := 11) (N := some 21) (b_ 13 4095) rfl rfl (one_of HT_.out (by kernel_rfl)) (by decide) (fun K hK => ?_)
     refine goes_ Try.func40 (by kernel_rfl) rfl #[.agg #[.slice A0_0 l0_0.length c0_0, .int .i64 a0_1, .int .i64 a0_2], .agg #[.int .u8 a1_0, .int .i64 a1_1, .int .i64 a1_2, .int .i64 a1_3, .int .i64 a1_4], .bool false, .int .u8 2] (by rfl) rfl rfl (by (try simp only [List.map_toArray, List.map_cons, List.map_nil]); first | done | rfl | (simp only [List.length_drop, List.length_take]; rfl)) ?_
     with_reducible refine (millhandref24_state.calls k _ _ l0_0 a0_1 a0_2 a1_0 a1_1 a1_2 a1_3 a1_4 false 2 t448 _ ?side1 ?side2 A27.out).mono ?_
     (case side1 => repeat (first | exact (Kd.C_below HR0_0.out (by repeat (first | (with_reducible first | exact HB.out | apply below_alloc | apply pw_below_drewN | apply below_drew1 | refine below_set ?_ GE444.out | refine below_set ?_ GE445.out) | exact HB.out))) | (with_reducible refine Kd.C_alloc ?_ _) | (with_reducible refine Kd.C_drewN ?_ _) | (with_reducible refine Kd.C_drew ?_)))
     (case side2 => exact HC0_0.out)
     rintro e w33 ⟨rfl, hb⟩
     refine ⟨_, rfl, ?_⟩
     replace BK444 := bs_ BK444 hb
     replace BK445 := bs_ BK445 hb
     replace HB := Aside0.mk (below_step (hB_ HB.out) hb)
     (try clear hb)
     (try clear hb2)
     (try clear hk)
     (try clear hi)
     refine hK.out _ _ ⟨ck_ BK444 0, ck_ BK444 1, ck_ BK444 2, ck_ BK445 0, ck_ BK445 1, ck_ BK445 2, ck_ BK445 3, ck_ BK445 4⟩ (fun hHeld => ?_)
     clear hK K
     refine norm_ (a' := ?_) ?_ ?_
     rotate_left
     ·
      show Act.put _ (some 21) _ = _
      simp only [Act.put, sa_, s0_, s1_, i64_w, i32_w]
      rfl
     refine pA_ 12 9 ?_ (b_ 13 8191) (any_of HT_.out (by kernel_rfl)) rfl rfl (fun _ _ _ h => h) (by rfl) ?_ ?_ ?_ ?_
     rotate_left
     ·
      intro w'
      go_simp
      with_reducible rfl
     rotate_left
     ·
      simp only [Act.put, sa_, s0_, s1_, i64_w, i32_w]
      rfl
     refine done_ (done_of HT_.out (by kernel_rfl)) ?_
     have hcz35_0 : w33.cell? ⟨gb445, 0, none⟩ = some (.int .u8 a1_0) := ck_ BK445 0
     have hcz35_1 : w33.cell? ⟨gb445, 1, none⟩ = some (.int .i64 a1_1) := ck_ BK445 1
     have hcz35_2 : w33.cell? ⟨gb445, 2, none⟩ = some (.int .i64 a1_2) := ck_ BK445 2
     have hcz35_3 : w33.cell? ⟨gb445, 3, none⟩ = some (.int .i64 a1_3) := ck_ BK445 3
     have hcz35_4 : w33.cell? ⟨gb445, 4, none⟩ = some (.int .i64 a1_4) := ck_ BK445 4
     have hfz35_0 := blk_frozen BK445.out 0
     have hfz35_1 := blk_frozen BK445.out 1
     have hfz35_2 := blk_frozen BK445.out 2
     have hfz35_3 := blk_frozen BK445.out 3
     have hfz35_4 := blk_frozen BK445.out 4
     try go_wp2
     go_ret
     exact ⟨by first | rfl | (simp [errW_none, errW_some] <;> rfl) | (simp [*, errW_none, errW_some] <;> rfl) | exact ret_ie _ | (simp [*, errW_none, errW_some, bne]; done), by repeat (first | (with_reducible first | exact HB.out | apply below_alloc | apply pw_below_drewN | apply below_drew1 | refine below_set ?_ GE444.out | refine below_set ?_ GE445.out) | exact HB.out)⟩
    ·
     rw [if_neg c29] at H
     have c29b0 : (a1_3 == a2) = false := beq_eq_false_iff_ne.mpr c29
     have c29b1 : (a1_3 != a2) = true := bne_iff_ne.mpr c29
     obtain rfl := Option.some.inj H
     go_enter Try.func42, Try.ntmps42
     try go_wp2_with (first | ((with_reducible refine gate_dst (N := 4) rfl ?_); refine box_event ?hg (N := 4) ?hd (cs := #[.slice A0_0 l0_0.length c0_0, .int .i64 a0_1, .int .i64 a0_2]) (t := 24) ?hr ?_; (case hd => rfl); (case hg => rfl); (case hr => first | (go_simp; done) | (go_simp; rfl)); intro gb444 hg w36 hbox hb; have BK444 := Aside0.mk (hbox); have GW444 := bz_ (hB_ HB.out) hg; have GE444 := bz_ (hB_ HB.out) hg; replace HB := Aside0.mk (below_step (hB_ HB.out) hb); clear hb hbox hg) | ((with_reducible refine gate_dst (N := 5) rfl ?_); refine box_event ?hg (N := 5) ?hd (cs := #[.int .u8 a1_0, .int .i64 a1_1, .int .i64 a1_2, .int .i64 a1_3, .int .i64 a1_4]) (t := 31) ?hr ?_; (case hd => rfl); (case hg => rfl); (case hr => first | (go_simp; done) | (go_simp; rfl)); intro gb445 hg w37 hbox hb; have BK445 := Aside0.mk (hbox); have GW445 := bz_ (hB_ HB.out) hg; have GE445 := bz_ (hB_ HB.out) hg; replace HB := Aside0.mk (below_step (hB_ HB.out) hb); have NB444_445 := bn_ BK444 hg; have NB445_444 := bm_ BK444 hg; replace BK444 := bs_ BK444 hb; clear hb hbox hg))
     replace BK444 := Aside0.mk (blk_drew BK444.out)
     replace BK445 := Aside0.mk (blk_drew BK445.out)
     replace HB := Aside0.mk (below_drew1 HB.out)
     refine start_ (n := 13) (S := fun w' => w'.cell? ⟨gb444, 0, none⟩ = some (.slice A0_0 l0_0.length c0_0) ∧ w'.cell? ⟨gb444, 1, none⟩ = some (.int .i64 a0_1) ∧ w'.cell? ⟨gb444, 2, none⟩ = some (.int .i64 a0_2) ∧ w'.cell? ⟨gb445, 0, none⟩ = some (.int .u8 a1_0) ∧ w'.cell? ⟨gb445, 1, none⟩ = some (.int .i64 a1_1) ∧ w'.cell? ⟨gb445, 2, none⟩ = some (.int .i64 a1_2) ∧ w'.cell? ⟨gb445, 3, none⟩ = some (.int .i64 a1_3) ∧ w'.cell? ⟨gb445, 4, none⟩ = some (.int .i64 a1_4)) (ds := []) (b_ 13 0) (by kernel_rfl) rfl rfl ⟨ck_ BK444 0, ck_ BK444 1, ck_ BK444 2, ck_ BK445 0, ck_ BK445 1, ck_ BK445 2, ck_ BK445 3, ck_ BK445 4⟩ (fun hHeld => ?_); refine with_tabW millhandref24_owned.tab1 millhandref24_owned.bits1 (fun HT_ HW_ => ?_)
     generalize w37.drew = w38 at BK444 BK445 HB hHeld ⊢
     refine pA_ 2 12 ?_ (b_ 13 4) (any_of HT_.out (by kernel_rfl)) rfl rfl (fun _ _ _ h => h) (by rfl) ?_ ?_ ?_ ?_
     rotate_left
     ·
      intro w'
      go_simp
      with_reducible rfl
     rotate_left
     ·
      simp only [Act.put, sa_, s0_, s1_, i64_w, i32_w]
      rfl
     refine pA_ 3 13 ?_ (b_ 13 12) (any_of HT_.out (by kernel_rfl)) rfl rfl (fun _ _ _ h => h) (by rfl) ?_ ?_ ?_ ?_
     rotate_left
     ·
      intro w'
      go_simp
      with_reducible rfl
     rotate_left
     ·
      simp only [Act.put, sa_, s0_, s1_, i64_w, i32_w]
      rfl
     refine pA_ 4 14 ?_ (b_ 13 28) (any_of HT_.out (by kernel_rfl)) rfl rfl (fun _ _ _ h => h) (by rfl) ?_ ?_ ?_ ?_
     rotate_left
     ·
      intro w'
      go_simp
      with_reducible rfl
     rotate_left
     ·
      simp only [Act.put, sa_, s0_, s1_, i64_w, i32_w]
      rfl
     refine pA_ 5 15 ?_ (b_ 13 60) (any_of HT_.out (by kernel_rfl)) rfl rfl (fun _ _ _ h => h) (by rfl) ?_ ?_ ?_ ?_
     rotate_left
     ·
      intro w'
      go_simp
      with_reducible rfl
     rotate_left
     ·
      simp only [Act.put, sa_, s0_, s1_, i64_w, i32_w]
      rfl
     refine tA_ 0 10 ?_ (b_ 13 61) (take_ofW HT_.out HW_.out (by kernel_rfl)) rfl rfl (fun _ _ _ h => h) (by rfl) ?_ hHeld ?_ ?_ ?_
     rotate_left
     ·
      rintro w' ⟨s0, s1, s2, s3, s4, s5, s6, s7⟩
      go_simp
      with_reducible rfl
     rotate_left
     ·
      simp only [Act.put, sa_, s0_, s1_, i64_w, i32_w]
      rfl
     refine tA_ 1 11 ?_ (b_ 13 63) (take_ofW HT_.out HW_.out (by kernel_rfl)) rfl rfl (fun _ _ _ h => h) (by rfl) ?_ hHeld ?_ ?_ ?_
     rotate_left
     ·
      rintro w' ⟨s0, s1, s2, s3, s4, s5, s6, s7⟩
      go_simp
      with_reducible rfl
     rotate_left
     ·
      simp only [Act.put, sa_, s0_, s1_, i64_w, i32_w]
      rfl
     refine one_ (i := 6) (N := some 16) (b_ 13 127) rfl rfl (one_of HT_.out (by kernel_rfl)) (by decide) (fun K hK => ?_)
     refine goes_ Try.func41 (by kernel_rfl) rfl #[.int .i64 a2] (by rfl) rfl rfl (by (try simp only [List.map_toArray, List.map_cons, List.map_nil]); first | done | rfl | (simp only [List.length_drop, List.length_take]; rfl)) ?_
     with_reducible refine (millhandref24_In.calls a2 false _ A6.out).mono ?_
     rintro e w' ⟨rfl, ⟨nd, rfl⟩⟩
     refine ⟨_, rfl, ?_⟩
     refine hK.out _ _ ⟨ck_ BK444 0, ck_ BK444 1, ck_ BK444 2, ck_ BK445 0, ck_ BK445 1, ck_ BK445 2, ck_ BK445 3, ck_ BK445 4⟩ (fun hHeld => ?_)
     clear hK K
     refine norm_ (a' := ?_) ?_ ?_
     rotate_left
     ·
      show Act.put _ (some 16) _ = _
      simp only [Act.put, sa_, s0_, s1_, i64_w, i32_w]
      rfl
     refine pA_ 7 17 ?_ (b_ 13 255) (any_of HT_.out (by kernel_rfl)) rfl rfl (fun _ _ _ h => h) (by rfl) ?_ ?_ ?_ ?_
     rotate_left
     ·
      intro w'
      go_simp
      with_reducible rfl
     rotate_left
     ·
      simp only [Act.put, sa_, s0_, s1_, i64_w, i32_w]
      rfl
     refine pA_ 8 18 ?_ (b_ 13 511) (any_of HT_.out (by kernel_rfl)) rfl rfl (fun _ _ _ h => h) (by rfl) ?_ ?_ ?_ ?_
     rotate_left
     ·
      intro w'
      go_simp
      with_reducible rfl
     rotate_left
     ·
      simp only [Act.put, sa_, s0_, s1_, i64_w, i32_w]
      rfl
     refine pB_ 9 19 ?_ (b_ 13 1023) (any_of HT_.out (by kernel_rfl)) rfl rfl (fun _ _ _ h => h) (by rfl) ?_ ?_
     rotate_left
     ·
      simp only [Act.put, sa_, s0_, s1_, i64_w, i32_w]
      rfl
     refine pA_ 10 20 ?_ (b_ 13 2047) (any_of HT_.out (by kernel_rfl)) rfl rfl (fun _ _ _ h => h) (by rfl) ?_ ?_ ?_ ?_
     rotate_left
     ·
      intro w'
      go_simp
      with_reducible rfl
     rotate_left
     ·
      simp only [Act.put, sa_, s0_, s1_, i64_w, i32_w]
      rfl
     refine one_ (i := 11) (N := some 21) (b_ 13 4095) rfl rfl (one_of HT_.out (by kernel_rfl)) (by decide) (fun K hK => ?_)
     refine goes_ Try.func40 (by kernel_rfl) rfl #[.agg #[.slice A0_0 l0_0.length c0_0, .int .i64 a0_1, .int .i64 a0_2], .agg #[.int .u8 a1_0, .int .i64 a1_1, .int .i64 a1_2, .int .i64 a1_3, .int .i64 a1_4], .bool false, .int .u8 2] (by rfl) rfl rfl (by (try simp only [List.map_toArray, List.map_cons, List.map_nil]); first | done | rfl | (simp only [List.length_drop, List.length_take]; rfl)) ?_
     with_reducible refine (millhandref24_state.calls k _ _ l0_0 a0_1 a0_2 a1_0 a1_1 a1_2 a1_3 a1_4 false 2 t448 _ ?side1 ?side2 A27.out).mono ?_
     (case side1 => repeat (first | exact (Kd.C_below HR0_0.out (by repeat (first | (with_reducible first | exact HB.out | apply below_alloc | apply pw_below_drewN | apply below_drew1 | refine below_set ?_ GE444.out | refine below_set ?_ GE445.out) | exact HB.out))) | (with_reducible refine Kd.C_alloc ?_ _) | (with_reducible refine Kd.C_drewN ?_ _) | (with_reducible refine Kd.C_drew ?_)))
     (case side2 => exact HC0_0.out)
     rintro e w39 ⟨rfl, hb⟩
     refine ⟨_, rfl, ?_⟩
     replace BK444 := bs_ BK444 hb
     replace BK445 := bs_ BK445 hb
     replace HB := Aside0.mk (below_step (hB_ HB.out) hb)
     (try clear hb)
     (try clear hb2)
     (try clear hk)
     (try clear hi)
     refine hK.out _ _ ⟨ck_ BK444 0, ck_ BK444 1, ck_ BK444 2, ck_ BK445 0, ck_ BK445 1, ck_ BK445 2, ck_ BK445 3, ck_ BK445 4⟩ (fun hHeld => ?_)
     clear hK K
     refine norm_ (a' := ?_) ?_ ?_
     rotate_left
     ·
      show Act.put _ (some 21) _ = _
      simp only [Act.put, sa_, s0_, s1_, i64_w, i32_w]
      rfl
     refine pA_ 12 9 ?_ (b_ 13 8191) (any_of HT_.out (by kernel_rfl)) rfl rfl (fun _ _ _ h => h) (by rfl) ?_ ?_ ?_ ?_
     rotate_left
     ·
      intro w'
      go_simp
      with_reducible rfl
     rotate_left
     ·
      simp only [Act.put, sa_, s0_, s1_, i64_w, i32_w]
      rfl
     refine done_ (done_of HT_.out (by kernel_rfl)) ?_
     have hcz41_0 : w39.cell? ⟨gb445, 0, none⟩ = some (.int .u8 a1_0) := ck_ BK445 0
     have hcz41_1 : w39.cell? ⟨gb445, 1, none⟩ = some (.int .i64 a1_1) := ck_ BK445 1
     have hcz41_2 : w39.cell? ⟨gb445, 2, none⟩ = some (.int .i64 a1_2) := ck_ BK445 2
     have hcz41_3 : w39.cell? ⟨gb445, 3, none⟩ = some (.int .i64 a1_3) := ck_ BK445 3
     have hcz41_4 : w39.cell? ⟨gb445, 4, none⟩ = some (.int .i64 a1_4) := ck_ BK445 4
     have hfz41_0 := blk_frozen BK445.out 0
     have hfz41_1 := blk_frozen BK445.out 1
     have hfz41_2 := blk_frozen BK445.out 2
     have hfz41_3 := blk_frozen BK445.out 3
     have hfz41_4 := blk_frozen BK445.out 4
     try go_wp2
     go_ret
     exact ⟨by first | rfl | (simp [errW_none, errW_some] <;> rfl) | (simp [*, errW_none, errW_some] <;> rfl) | exact ret_ie _ | (simp [*, errW_none, errW_some, bne]; done), by repeat (first | (with_reducible first | exact HB.out | apply below_alloc | apply pw_below_drewN | apply below_drew1 | refine below_set ?_ GE444.out | refine below_set ?_ GE445.out) | exact HB.out)⟩
   ·
    rw [if_neg c28] at H
    have c28b0 : (t448 == 0) = false := beq_eq_false_iff_ne.mpr c28
    have c28b1 : (t448 != 0) = true := bne_iff_ne.mpr c28
    obtain rfl := Option.some.inj H
    go_enter Try.func42, Try.ntmps42
    try go_wp2_with (first | ((with_reducible refine gate_dst (N := 4) rfl ?_); refine box_event ?hg (N := 4) ?hd (cs := #[.slice A0_0 l0_0.length c0_0, .int .i64 a0_1, .int .i64 a0_2]) (t := 24) ?hr ?_; (case hd => rfl); (case hg => rfl); (case hr => first | (go_simp; done) | (go_simp; rfl)); intro gb444 hg w42 hbox hb; have BK444 := Aside0.mk (hbox); have GW444 := bz_ (hB_ HB.out) hg; have GE444 := bz_ (hB_ HB.out) hg; replace HB := Aside0.mk (below_step (hB_ HB.out) hb); clear hb hbox hg) | ((with_reducible refine gate_dst (N := 5) rfl ?_); refine box_event ?hg (N := 5) ?hd (cs := #[.int .u8 a1_0, .int .i64 a1_1, .int .i64 a1_2, .int .i64 a1_3, .int .i64 a1_4]) (t := 31) ?hr ?_; (case hd => rfl); (case hg => rfl); (case hr => first | (go_simp; done) | (go_simp; rfl)); intro gb445 hg w43 hbox hb; have BK445 := Aside0.mk (hbox); have GW445 := bz_ (hB_ HB.out) hg; have GE445 := bz_ (hB_ HB.out) hg; replace HB := Aside0.mk (below_step (hB_ HB.out) hb); have NB444_445 := bn_ BK444 hg; have NB445_444 := bm_ BK444 hg; replace BK444 := bs_ BK444 hb; clear hb hbox hg))
    replace BK444 := Aside0.mk (blk_drew BK444.out)
    replace BK445 := Aside0.mk (blk_drew BK445.out)
    replace HB := Aside0.mk (below_drew1 HB.out)
    refine start_ (n := 13) (S := fun w' => w'.cell? ⟨gb444, 0, none⟩ = some (.slice A0_0 l0_0.length c0_0) ∧ w'.cell? ⟨gb444, 1, none⟩ = some (.int .i64 a0_1) ∧ w'.cell? ⟨gb444, 2, none⟩ = some (.int .i64 a0_2) ∧ w'.cell? ⟨gb445, 0, none⟩ = some (.int .u8 a1_0) ∧ w'.cell? ⟨gb445, 1, none⟩ = some (.int .i64 a1_1) ∧ w'.cell? ⟨gb445, 2, none⟩ = some (.int .i64 a1_2) ∧ w'.cell? ⟨gb445, 3, none⟩ = some (.int .i64 a1_3) ∧ w'.cell? ⟨gb445, 4, none⟩ = some (.int .i64 a1_4)) (ds := []) (b_ 13 0) (by kernel_rfl) rfl rfl ⟨ck_ BK444 0, ck_ BK444 1, ck_ BK444 2, ck_ BK445 0, ck_ BK445 1, ck_ BK445 2, ck_ BK445 3, ck_ BK445 4⟩ (fun hHeld => ?_); refine with_tabW millhandref24_owned.tab1 millhandref24_owned.bits1 (fun HT_ HW_ => ?_)
    generalize w43.drew = w44 at BK444 BK445 HB hHeld ⊢
    refine pA_ 2 12 ?_ (b_ 13 4) (any_of HT_.out (by kernel_rfl)) rfl rfl (fun _ _ _ h => h) (by rfl) ?_ ?_ ?_ ?_
    rotate_left
    ·
     intro w'
     go_simp
     with_reducible rfl
    rotate_left
    ·
     simp only [Act.put, sa_, s0_, s1_, i64_w, i32_w]
     rfl
    refine pA_ 3 13 ?_ (b_ 13 12) (any_of HT_.out (by kernel_rfl)) rfl rfl (fun _ _ _ h => h) (by rfl) ?_ ?_ ?_ ?_
    rotate_left
    ·
     intro w'
     go_simp
     with_reducible rfl
    rotate_left
    ·
     simp only [Act.put, sa_, s0_, s1_, i64_w, i32_w]
     rfl
    refine pA_ 4 14 ?_ (b_ 13 28) (any_of HT_.out (by kernel_rfl)) rfl rfl (fun _ _ _ h => h) (by rfl) ?_ ?_ ?_ ?_
    rotate_left
    ·
     intro w'
     go_simp
     with_reducible rfl
    rotate_left
    ·
     simp only [Act.put, sa_, s0_, s1_, i64_w, i32_w]
     rfl
    refine pA_ 5 15 ?_ (b_ 13 60) (any_of HT_.out (by kernel_rfl)) rfl rfl (fun _ _ _ h => h) (by rfl) ?_ ?_ ?_ ?_
    rotate_left
    ·
     intro w'
     go_simp
     with_reducible rfl
    rotate_left
    ·
     simp only [Act.put, sa_, s0_, s1_, i64_w, i32_w]
     rfl
    refine tA_ 0 10 ?_ (b_ 13 61) (take_ofW HT_.out HW_.out (by kernel_rfl)) rfl rfl (fun _ _ _ h => h) (by rfl) ?_ hHeld ?_ ?_ ?_
    rotate_left
    ·
     rintro w' ⟨s0, s1, s2, s3, s4, s5, s6, s7⟩
     go_simp
     with_reducible rfl
    rotate_left
    ·
     simp only [Act.put, sa_, s0_, s1_, i64_w, i32_w]
     rfl
    refine tA_ 1 11 ?_ (b_ 13 63) (take_ofW HT_.out HW_.out (by kernel_rfl)) rfl rfl (fun _ _ _ h => h) (by rfl) ?_ hHeld ?_ ?_ ?_
    rotate_left
    ·
     rintro w' ⟨s0, s1, s2, s3, s4, s5, s6, s7⟩
     go_simp
     with_reducible rfl
    rotate_left
    ·
     simp only [Act.put, sa_, s0_, s1_, i64_w, i32_w]
     rfl
    refine one_ (i := 6) (N := some 16) (b_ 13 127) rfl rfl (one_of HT_.out (by kernel_rfl)) (by decide) (fun K hK => ?_)
    refine goes_ Try.func41 (by kernel_rfl) rfl #[.int .i64 a2] (by rfl) rfl rfl (by (try simp only [List.map_toArray, List.map_cons, List.map_nil]); first | done | rfl | (simp only [List.length_drop, List.length_take]; rfl)) ?_
    with_reducible refine (millhandref24_In.calls a2 false _ A6.out).mono ?_
    rintro e w' ⟨rfl, ⟨nd, rfl⟩⟩
    refine ⟨_, rfl, ?_⟩
    refine hK.out _ _ ⟨ck_ BK444 0, ck_ BK444 1, ck_ BK444 2, ck_ BK445 0, ck_ BK445 1, ck_ BK445 2, ck_ BK445 3, ck_ BK445 4⟩ (fun hHeld => ?_)
    clear hK K
    refine norm_ (a' := ?_) ?_ ?_
    rotate_left
    ·
     show Act.put _ (some 16) _ = _
     simp only [Act.put, sa_, s0_, s1_, i64_w, i32_w]
     rfl
    refine pA_ 7 17 ?_ (b_ 13 255) (any_of HT_.out (by kernel_rfl)) rfl rfl (fun _ _ _ h => h) (by rfl) ?_ ?_ ?_ ?_
    rotate_left
    ·
     intro w'
     go_simp
     with_reducible rfl
    rotate_left
    ·
     simp only [Act.put, sa_, s0_, s1_, i64_w, i32_w]
     rfl
    refine pA_ 8 18 ?_ (b_ 13 511) (any_of HT_.out (by kernel_rfl)) rfl rfl (fun _ _ _ h => h) (by rfl) ?_ ?_ ?_ ?_
    rotate_left
    ·
     intro w'
     go_simp
     with_reducible rfl
    rotate_left
    ·
     simp only [Act.put, sa_, s0_, s1_, i64_w, i32_w]
     rfl
    refine pB_ 9 19 ?_ (b_ 13 1023) (any_of HT_.out (by kernel_rfl)) rfl rfl (fun _ _ _ h => h) (by rfl) ?_ ?_
    rotate_left
    ·
     simp only [Act.put, sa_, s0_, s1_, i64_w, i32_w]
     rfl
    refine pA_ 10 20 ?_ (b_ 13 2047) (any_of HT_.out (by kernel_rfl)) rfl rfl (fun _ _ _ h => h) (by rfl) ?_ ?_ ?_ ?_
    rotate_left
    ·
     intro w'
     go_simp
     with_reducible rfl
    rotate_left
    ·
     simp only [Act.put, sa_, s0_, s1_, i64_w, i32_w]
     rfl
    refine one_ (i := 11) (N := some 21) (b_ 13 4095) rfl rfl (one_of HT_.out (by kernel_rfl)) (by decide) (fun K hK => ?_)
    refine goes_ Try.func40 (by kernel_rfl) rfl #[.agg #[.slice A0_0 l0_0.length c0_0, .int .i64 a0_1, .int .i64 a0_2], .agg #[.int .u8 a1_0, .int .i64 a1_1, .int .i64 a1_2, .int .i64 a1_3, .int .i64 a1_4], .bool false, .int .u8 2] (by rfl) rfl rfl (by (try simp only [List.map_toArray, List.map_cons, List.map_nil]); first | done | rfl | (simp only [List.length_drop, List.length_take]; rfl)) ?_
    with_reducible refine (millhandref24_state.calls k _ _ l0_0 a0_1 a0_2 a1_0 a1_1 a1_2 a1_3 a1_4 false 2 t448 _ ?side1 ?side2 A27.out).mono ?_
    (case side1 => repeat (first | exact (Kd.C_below HR0_0.out (by repeat (first | (with_reducible first | exact HB.out | apply below_alloc | apply pw_below_drewN | apply below_drew1 | refine below_set ?_ GE444.out | refine below_set ?_ GE445.out) | exact HB.out))) | (with_reducible refine Kd.C_alloc ?_ _) | (with_reducible refine Kd.C_drewN ?_ _) | (with_reducible refine Kd.C_drew ?_)))
    (case side2 => exact HC0_0.out)
    rintro e w45 ⟨rfl, hb⟩
    refine ⟨_, rfl, ?_⟩
    replace BK444 := bs_ BK444 hb
    replace BK445 := bs_ BK445 hb
    replace HB := Aside0.mk (below_step (hB_ HB.out) hb)
    (try clear hb)
    (try clear hb2)
    (try clear hk)
    (try clear hi)
    refine hK.out _ _ ⟨ck_ BK444 0, ck_ BK444 1, ck_ BK444 2, ck_ BK445 0, ck_ BK445 1, ck_ BK445 2, ck_ BK445 3, ck_ BK445 4⟩ (fun hHeld => ?_)
    clear hK K
    refine norm_ (a' := ?_) ?_ ?_
    rotate_left
    ·
     show Act.put _ (some 21) _ = _
     simp only [Act.put, sa_, s0_, s1_, i64_w, i32_w]
     rfl
    refine pA_ 12 9 ?_ (b_ 13 8191) (any_of HT_.out (by kernel_rfl)) rfl rfl (fun _ _ _ h => h) (by rfl) ?_ ?_ ?_ ?_
    rotate_left
    ·
     intro w'
     go_simp
     with_reducible rfl
    rotate_left
    ·
     simp only [Act.put, sa_, s0_, s1_, i64_w, i32_w]
     rfl
    refine done_ (done_of HT_.out (by kernel_rfl)) ?_
    try go_wp2
    go_ret
    exact ⟨by first | rfl | (simp [errW_none, errW_some] <;> rfl) | (simp [*, errW_none, errW_some] <;> rfl) | exact ret_ie _ | (simp [*, errW_none, errW_some, bne]; done), by repeat (first | (with_reducible first | exact HB.out | apply below_alloc | apply pw_below_drewN | apply below_drew1 | refine below_set ?_ GE444.out | refine below_set ?_ GE445.out) | exact HB.out)⟩
 ·
  rw [if_neg c5] at H
  have c5b0 : decide (0 < a2) = false := decide_eq_false c5
  clear c5
  replace H := Option.bind_eq_some_iff.mp H
  obtain ⟨t449, A460, H⟩ := H
  replace H : (if t449 = 0 then (if a1_3 = a2 then (some t449) else (some 260)) else (some t449)) = some r := H
  have A46 := Aside0.mk A460
  clear A460
  by_cases c47 : t449 = 0
  ·
   rw [if_pos c47] at H
   have c47b0 : (t449 == 0) = true := beq_iff_eq.mpr c47
   have c47b1 : (t449 != 0) = false := bne_eq_false_iff_eq.mpr c47
   clear c47
   by_cases c48 : a1_3 = a2
   ·
    rw [if_pos c48] at H
    have c48b0 : (a1_3 == a2) = true := beq_iff_eq.mpr c48
    have c48b1 : (a1_3 != a2) = false := bne_eq_false_iff_eq.mpr c48
    clear c48
    obtain rfl := Option.some.inj H
    go_enter Try.func42, Try.ntmps42
    try go_wp2_with (first | ((with_reducible refine gate_dst (N := 4) rfl ?_); refine box_event ?hg (N := 4) ?hd (cs := #[.slice A0_0 l0_0.length c0_0, .int .i64 a0_1, .int .i64 a0_2]) (t := 24) ?hr ?_; (case hd => rfl); (case hg => rfl); (case hr => first | (go_simp; done) | (go_simp; rfl)); intro gb444 hg w49 hbox hb; have BK444 := Aside0.mk (hbox); have GW444 := bz_ (hB_ HB.out) hg; have GE444 := bz_ (hB_ HB.out) hg; replace HB := Aside0.mk (below_step (hB_ HB.out) hb); clear hb hbox hg) | ((with_reducible refine gate_dst (N := 5) rfl ?_); refine box_event ?hg (N := 5) ?hd (cs := #[.int .u8 a1_0, .int .i64 a1_1, .int .i64 a1_2, .int .i64 a1_3, .int .i64 a1_4]) (t := 31) ?hr ?_; (case hd => rfl); (case hg => rfl); (case hr => first | (go_simp; done) | (go_simp; rfl)); intro gb445 hg w50 hbox hb; have BK445 := Aside0.mk (hbox); have GW445 := bz_ (hB_ HB.out) hg; have GE445 := bz_ (hB_ HB.out) hg; replace HB := Aside0.mk (below_step (hB_ HB.out) hb); have NB444_445 := bn_ BK444 hg; have NB445_444 := bm_ BK444 hg; replace BK444 := bs_ BK444 hb; clear hb hbox hg))
    replace BK444 := Aside0.mk (blk_drew BK444.out)
    replace BK445 := Aside0.mk (blk_drew BK445.out)
    replace HB := Aside0.mk (below_drew1 HB.out)
    refine start_ (n := 13) (S := fun w' => w'.cell? ⟨gb444, 0, none⟩ = some (.slice A0_0 l0_0.length c0_0) ∧ w'.cell? ⟨gb444, 1, none⟩ = some (.int .i64 a0_1) ∧ w'.cell? ⟨gb444, 2, none⟩ = some (.int .i64 a0_2) ∧ w'.cell? ⟨gb445, 0, none⟩ = some (.int .u8 a1_0) ∧ w'.cell? ⟨gb445, 1, none⟩ = some (.int .i64 a1_1) ∧ w'.cell? ⟨gb445, 2, none⟩ = some (.int .i64 a1_2) ∧ w'.cell? ⟨gb445, 3, none⟩ = some (.int .i64 a1_3) ∧ w'.cell? ⟨gb445, 4, none⟩ = some (.int .i64 a1_4)) (ds := []) (b_ 13 0) (by kernel_rfl) rfl rfl ⟨ck_ BK444 0, ck_ BK444 1, ck_ BK444 2, ck_ BK445 0, ck_ BK445 1, ck_ BK445 2, ck_ BK445 3, ck_ BK445 4⟩ (fun hHeld => ?_); refine with_tabW millhandref24_owned.tab1 millhandref24_owned.bits1 (fun HT_ HW_ => ?_)
    generalize w50.drew = w51 at BK444 BK445 HB hHeld ⊢
    refine pA_ 2 12 ?_ (b_ 13 4) (any_of HT_.out (by kernel_rfl)) rfl rfl (fun _ _ _ h => h) (by rfl) ?_ ?_ ?_ ?_
    rotate_left
    ·
     intro w'
     go_simp
     with_reducible rfl
    rotate_left
    ·
     simp only [Act.put, sa_, s0_, s1_, i64_w, i32_w]
     rfl
    refine pA_ 3 13 ?_ (b_ 13 12) (any_of HT_.out (by kernel_rfl)) rfl rfl (fun _ _ _ h => h) (by rfl) ?_ ?_ ?_ ?_
    rotate_left
    ·
     intro w'
     go_simp
     with_reducible rfl
    rotate_left
    ·
     simp only [Act.put, sa_, s0_, s1_, i64_w, i32_w]
     rfl
    refine pA_ 4 14 ?_ (b_ 13 28) (any_of HT_.out (by kernel_rfl)) rfl rfl (fun _ _ _ h => h) (by rfl) ?_ ?_ ?_ ?_
    rotate_left
    ·
     intro w'
     go_simp
     with_reducible rfl
    rotate_left
    ·
     simp only [Act.put, sa_, s0_, s1_, i64_w, i32_w]
     rfl
    refine pB_ 5 15 ?_ (b_ 13 60) (any_of HT_.out (by kernel_rfl)) rfl rfl (fun _ _ _ h => h) (by rfl) ?_ ?_
    rotate_left
    ·
     simp only [Act.put, sa_, s0_, s1_, i64_w, i32_w]
     rfl
    refine pB_ 6 16 ?_ (b_ 13 124) (any_of HT_.out (by kernel_rfl)) rfl rfl (fun _ _ _ h => h) (by rfl) ?_ ?_
    rotate_left
    ·
     simp only [Act.put, sa_, s0_, s1_, i64_w, i32_w]
     rfl
    refine pA_ 7 17 ?_ (b_ 13 252) (any_of HT_.out (by kernel_rfl)) rfl rfl (fun _ _ _ h => h) (by rfl) ?_ ?_ ?_ ?_
    rotate_left
    ·
     intro w'
     go_simp
     with_reducible rfl
    rotate_left
    ·
     simp only [Act.put, sa_, s0_, s1_, i64_w, i32_w]
     rfl
    refine pA_ 8 18 ?_ (b_ 13 508) (any_of HT_.out (by kernel_rfl)) rfl rfl (fun _ _ _ h => h) (by rfl) ?_ ?_ ?_ ?_
    rotate_left
    ·
     intro w'
     go_simp
     with_reducible rfl
    rotate_left
    ·
     simp only [Act.put, sa_, s0_, s1_, i64_w, i32_w]
     rfl
    refine pB_ 9 19 ?_ (b_ 13 1020) (any_of HT_.out (by kernel_rfl)) rfl rfl (fun _ _ _ h => h) (by rfl) ?_ ?_
    rotate_left
    ·
     simp only [Act.put, sa_, s0_, s1_, i64_w, i32_w]
     rfl
    refine pA_ 10 20 ?_ (b_ 13 2044) (any_of HT_.out (by kernel_rfl)) rfl rfl (fun _ _ _ h => h) (by rfl) ?_ ?_ ?_ ?_
    rotate_left
    ·
     intro w'
     go_simp
     with_reducible rfl
    rotate_left
    ·
     simp only [Act.put, sa_, s0_, s1_, i64_w, i32_w]
     rfl
    refine tA_ 0 10 ?_ (b_ 13 2045) (take_ofW HT_.out HW_.out (by kernel_rfl)) rfl rfl (fun _ _ _ h => h) (by rfl) ?_ hHeld ?_ ?_ ?_
    rotate_left
    ·
     rintro w' ⟨s0, s1, s2, s3, s4, s5, s6, s7⟩
     go_simp
     with_reducible rfl
    rotate_left
    ·
     simp only [Act.put, sa_, s0_, s1_, i64_w, i32_w]
     rfl
    refine tA_ 1 11 ?_ (b_ 13 2047) (take_ofW HT_.out HW_.out (by kernel_rfl)) rfl rfl (fun _ _ _ h => h) (by rfl) ?_ hHeld ?_ ?_ ?_
    rotate_left
    ·
     rintro w' ⟨s0, s1, s2, s3, s4, s5, s6, s7⟩
     go_simp
     with_reducible rfl
    rotate_left
    ·
     simp only [Act.put, sa_, s0_, s1_, i64_w, i32_w]
     rfl
    refine one_ (i := 11) (N := some 21) (b_ 13 4095) rfl rfl (one_of HT_.out (by kernel_rfl)) (by decide) (fun K hK => ?_)
    refine goes_ Try.func40 (by kernel_rfl) rfl #[.agg #[.slice A0_0 l0_0.length c0_0, .int .i64 a0_1, .int .i64 a0_2], .agg #[.int .u8 a1_0, .int .i64 a1_1, .int .i64 a1_2, .int .i64 a1_3, .int .i64 a1_4], .bool false, .int .u8 2] (by rfl) rfl rfl (by (try simp only [List.map_toArray, List.map_cons, List.map_nil]); first | done | rfl | (simp only [List.length_drop, List.length_take]; rfl)) ?_
    with_reducible refine (millhandref24_state.calls k _ _ l0_0 a0_1 a0_2 a1_0 a1_1 a1_2 a1_3 a1_4 false 2 t449 _ ?side1 ?side2 A46.out).mono ?_
    (case side1 => repeat (first | exact (Kd.C_below HR0_0.out HB.out) | (with_reducible refine Kd.C_alloc ?_ _) | (with_reducible refine Kd.C_drewN ?_ _) | (with_reducible refine Kd.C_drew ?_)))
    (case side2 => exact HC0_0.out)
    rintro e w52 ⟨rfl, hb⟩
    refine ⟨_, rfl, ?_⟩
    replace BK444 := bs_ BK444 hb
    replace BK445 := bs_ BK445 hb
    replace HB := Aside0.mk (below_step (hB_ HB.out) hb)
    (try clear hb)
    (try clear hb2)
    (try clear hk)
    (try clear hi)
    refine hK.out _ _ ⟨ck_ BK444 0, ck_ BK444 1, ck_ BK444 2, ck_ BK445 0, ck_ BK445 1, ck_ BK445 2, ck_ BK445 3, ck_ BK445 4⟩ (fun hHeld => ?_)
    clear hK K
    refine norm_ (a' := ?_) ?_ ?_
    rotate_left
    ·
     show Act.put _ (some 21) _ = _
     simp only [Act.put, sa_, s0_, s1_, i64_w, i32_w]
     rfl
    refine pA_ 12 9 ?_ (b_ 13 8191) (any_of HT_.out (by kernel_rfl)) rfl rfl (fun _ _ _ h => h) (by rfl) ?_ ?_ ?_ ?_
    rotate_left
    ·
     intro w'
     go_simp
     with_reducible rfl
    rotate_left
    ·
     simp only [Act.put, sa_, s0_, s1_, i64_w, i32_w]
     rfl
    refine done_ (done_of HT_.out (by kernel_rfl)) ?_
    have hcz54_0 : w52.cell? ⟨gb445, 0, none⟩ = some (.int .u8 a1_0) := ck_ BK445 0
    have hcz54_1 : w52.cell? ⟨gb445, 1, none⟩ = some (.int .i64 a1_1) := ck_ BK445 1
    have hcz54_2 : w52.cell? ⟨gb445, 2, none⟩ = some (.int .i64 a1_2) := ck_ BK445 2
    have hcz54_3 : w52.cell? ⟨gb445, 3, none⟩ = some (.int .i64 a1_3) := ck_ BK445 3
    have hcz54_4 : w52.cell? ⟨gb445, 4, none⟩ = some (.int .i64 a1_4) := ck_ BK445 4
    have hfz54_0 := blk_frozen BK445.out 0
    have hfz54_1 := blk_frozen BK445.out 1
    have hfz54_2 := blk_frozen BK445.out 2
    have hfz54_3 := blk_frozen BK445.out 3
    have hfz54_4 := blk_frozen BK445.out 4
    try go_wp2
    go_ret
    exact ⟨by first | rfl | (simp [errW_none, errW_some] <;> rfl) | (simp [*, errW_none, errW_some] <;> rfl) | exact ret_ie _ | (simp [*, errW_none, errW_some, bne]; done), by repeat (first | (with_reducible first | exact HB.out | apply below_alloc | apply pw_below_drewN | apply below_drew1 | refine below_set ?_ GE444.out | refine below_set ?_ GE445.out) | exact HB.out)⟩
   ·
    rw [if_neg c48] at H
    have c48b0 : (a1_3 == a2) = false := beq_eq_false_iff_ne.mpr c48
    have c48b1 : (a1_3 != a2) = true := bne_iff_ne.mpr c48
    obtain rfl := Option.some.inj H
    go_enter Try.func42, Try.ntmps42
    try go_wp2_with (first | ((with_reducible refine gate_dst (N := 4) rfl ?_); refine box_event ?hg (N := 4) ?hd (cs := #[.slice A0_0 l0_0.length c0_0, .int .i64 a0_1, .int .i64 a0_2]) (t := 24) ?hr ?_; (case hd => rfl); (case hg => rfl); (case hr => first | (go_simp; done) | (go_simp; rfl)); intro gb444 hg w55 hbox hb; have BK444 := Aside0.mk (hbox); have GW444 := bz_ (hB_ HB.out) hg; have GE444 := bz_ (hB_ HB.out) hg; replace HB := Aside0.mk (below_step (hB_ HB.out) hb); clear hb hbox hg) | ((with_reducible refine gate_dst (N := 5) rfl ?_); refine box_event ?hg (N := 5) ?hd (cs := #[.int .u8 a1_0, .int .i64 a1_1, .int .i64 a1_2, .int .i64 a1_3, .int .i64 a1_4]) (t := 31) ?hr ?_; (case hd => rfl); (case hg => rfl); (case hr => first | (go_simp; done) | (go_simp; rfl)); intro gb445 hg w56 hbox hb; have BK445 := Aside0.mk (hbox); have GW445 := bz_ (hB_ HB.out) hg; have GE445 := bz_ (hB_ HB.out) hg; replace HB := Aside0.mk (below_step (hB_ HB.out) hb); have NB444_445 := bn_ BK444 hg; have NB445_444 := bm_ BK444 hg; replace BK444 := bs_ BK444 hb; clear hb hbox hg))
    replace BK444 := Aside0.mk (blk_drew BK444.out)
    replace BK445 := Aside0.mk (blk_drew BK445.out)
    replace HB := Aside0.mk (below_drew1 HB.out)
    refine start_ (n := 13) (S := fun w' => w'.cell? ⟨gb444, 0, none⟩ = some (.slice A0_0 l0_0.length c0_0) ∧ w'.cell? ⟨gb444, 1, none⟩ = some (.int .i64 a0_1) ∧ w'.cell? ⟨gb444, 2, none⟩ = some (.int .i64 a0_2) ∧ w'.cell? ⟨gb445, 0, none⟩ = some (.int .u8 a1_0) ∧ w'.cell? ⟨gb445, 1, none⟩ = some (.int .i64 a1_1) ∧ w'.cell? ⟨gb445, 2, none⟩ = some (.int .i64 a1_2) ∧ w'.cell? ⟨gb445, 3, none⟩ = some (.int .i64 a1_3) ∧ w'.cell? ⟨gb445, 4, none⟩ = some (.int .i64 a1_4)) (ds := []) (b_ 13 0) (by kernel_rfl) rfl rfl ⟨ck_ BK444 0, ck_ BK444 1, ck_ BK444 2, ck_ BK445 0, ck_ BK445 1, ck_ BK445 2, ck_ BK445 3, ck_ BK445 4⟩ (fun hHeld => ?_); refine with_tabW millhandref24_owned.tab1 millhandref24_owned.bits1 (fun HT_ HW_ => ?_)
    generalize w56.drew = w57 at BK444 BK445 HB hHeld ⊢
    refine pA_ 2 12 ?_ (b_ 13 4) (any_of HT_.out (by kernel_rfl)) rfl rfl (fun _ _ _ h => h) (by rfl) ?_ ?_ ?_ ?_
    rotate_left
    ·
     intro w'
     go_simp
     with_reducible rfl
    rotate_left
    ·
     simp only [Act.put, sa_, s0_, s1_, i64_w, i32_w]
     rfl
    refine pA_ 3 13 ?_ (b_ 13 12) (any_of HT_.out (by kernel_rfl)) rfl rfl (fun _ _ _ h => h) (by rfl) ?_ ?_ ?_ ?_
    rotate_left
    ·
     intro w'
     go_simp
     with_reducible rfl
    rotate_left
    ·
     simp only [Act.put, sa_, s0_, s1_, i64_w, i32_w]
     rfl
    refine pA_ 4 14 ?_ (b_ 13 28) (any_of HT_.out (by kernel_rfl)) rfl rfl (fun _ _ _ h => h) (by rfl) ?_ ?_ ?_ ?_
    rotate_left
    ·
     intro w'
     go_simp
     with_reducible rfl
    rotate_left
    ·
     simp only [Act.put, sa_, s0_, s1_, i64_w, i32_w]
     rfl
    refine pB_ 5 15 ?_ (b_ 13 60) (any_of HT_.out (by kernel_rfl)) rfl rfl (fun _ _ _ h => h) (by rfl) ?_ ?_
    rotate_left
    ·
     simp only [Act.put, sa_, s0_, s1_, i64_w, i32_w]
     rfl
    refine pB_ 6 16 ?_ (b_ 13 124) (any_of HT_.out (by kernel_rfl)) rfl rfl (fun _ _ _ h => h) (by rfl) ?_ ?_
    rotate_left
    ·
     simp only [Act.put, sa_, s0_, s1_, i64_w, i32_w]
     rfl
    refine pA_ 7 17 ?_ (b_ 13 252) (any_of HT_.out (by kernel_rfl)) rfl rfl (fun _ _ _ h => h) (by rfl) ?_ ?_ ?_ ?_
    rotate_left
    ·
     intro w'
     go_simp
     with_reducible rfl
    rotate_left
    ·
     simp only [Act.put, sa_, s0_, s1_, i64_w, i32_w]
     rfl
    refine pA_ 8 18 ?_ (b_ 13 508) (any_of HT_.out (by kernel_rfl)) rfl rfl (fun _ _ _ h => h) (by rfl) ?_ ?_ ?_ ?_
    rotate_left
    ·
     intro w'
     go_simp
     with_reducible rfl
    rotate_left
    ·
     simp only [Act.put, sa_, s0_, s1_, i64_w, i32_w]
     rfl
    refine pB_ 9 19 ?_ (b_ 13 1020) (any_of HT_.out (by kernel_rfl)) rfl rfl (fun _ _ _ h => h) (by rfl) ?_ ?_
    rotate_left
    ·
     simp only [Act.put, sa_, s0_, s1_, i64_w, i32_w]
     rfl
    refine pA_ 10 20 ?_ (b_ 13 2044) (any_of HT_.out (by kernel_rfl)) rfl rfl (fun _ _ _ h => h) (by rfl) ?_ ?_ ?_ ?_
    rotate_left
    ·
     intro w'
     go_simp
     with_reducible rfl
    rotate_left
    ·
     simp only [Act.put, sa_, s0_, s1_, i64_w, i32_w]
     rfl
    refine tA_ 0 10 ?_ (b_ 13 2045) (take_ofW HT_.out HW_.out (by kernel_rfl)) rfl rfl (fun _ _ _ h => h) (by rfl) ?_ hHeld ?_ ?_ ?_
    rotate_left
    ·
     rintro w' ⟨s0, s1, s2, s3, s4, s5, s6, s7⟩
     go_simp
     with_reducible rfl
    rotate_left
    ·
     simp only [Act.put, sa_, s0_, s1_, i64_w, i32_w]
     rfl
    refine tA_ 1 11 ?_ (b_ 13 2047) (take_ofW HT_.out HW_.out (by kernel_rfl)) rfl rfl (fun _ _ _ h => h) (by rfl) ?_ hHeld ?_ ?_ ?_
    rotate_left
    ·
     rintro w' ⟨s0, s1, s2, s3, s4, s5, s6, s7⟩
     go_simp
     with_reducible rfl
    rotate_left
    ·
     simp only [Act.put, sa_, s0_, s1_, i64_w, i32_w]
     rfl
    refine one_ (i := 11) (N := some 21) (b_ 13 4095) rfl rfl (one_of HT_.out (by kernel_rfl)) (by decide) (fun K hK => ?_)
    refine goes_ Try.func40 (by kernel_rfl) rfl #[.agg #[.slice A0_0 l0_0.length c0_0, .int .i64 a0_1, .int .i64 a0_2], .agg #[.int .u8 a1_0, .int .i64 a1_1, .int .i64 a1_2, .int .i64 a1_3, .int .i64 a1_4], .bool false, .int .u8 2] (by rfl) rfl rfl (by (try simp only [List.map_toArray, List.map_cons, List.map_nil]); first | done | rfl | (simp only [List.length_drop, List.length_take]; rfl)) ?_
    with_reducible refine (millhandref24_state.calls k _ _ l0_0 a0_1 a0_2 a1_0 a1_1 a1_2 a1_3 a1_4 false 2 t449 _ ?side1 ?side2 A46.out).mono ?_
    (case side1 => repeat (first | exact (Kd.C_below HR0_0.out HB.out) | (with_reducible refine Kd.C_alloc ?_ _) | (with_reducible refine Kd.C_drewN ?_ _) | (with_reducible refine Kd.C_drew ?_)))
    (case side2 => exact HC0_0.out)
    rintro e w58 ⟨rfl, hb⟩
    refine ⟨_, rfl, ?_⟩
    replace BK444 := bs_ BK444 hb
    replace BK445 := bs_ BK445 hb
    replace HB := Aside0.mk (below_step (hB_ HB.out) hb)
    (try clear hb)
    (try clear hb2)
    (try clear hk)
    (try clear hi)
    refine hK.out _ _ ⟨ck_ BK444 0, ck_ BK444 1, ck_ BK444 2, ck_ BK445 0, ck_ BK445 1, ck_ BK445 2, ck_ BK445 3, ck_ BK445 4⟩ (fun hHeld => ?_)
    clear hK K
    refine norm_ (a' := ?_) ?_ ?_
    rotate_left
    ·
     show Act.put _ (some 21) _ = _
     simp only [Act.put, sa_, s0_, s1_, i64_w, i32_w]
     rfl
    refine pA_ 12 9 ?_ (b_ 13 8191) (any_of HT_.out (by kernel_rfl)) rfl rfl (fun _ _ _ h => h) (by rfl) ?_ ?_ ?_ ?_
    rotate_left
    ·
     intro w'
     go_simp
     with_reducible rfl
    rotate_left
    ·
     simp only [Act.put, sa_, s0_, s1_, i64_w, i32_w]
     rfl
    refine done_ (done_of HT_.out (by kernel_rfl)) ?_
    have hcz60_0 : w58.cell? ⟨gb445, 0, none⟩ = some (.int .u8 a1_0) := ck_ BK445 0
    have hcz60_1 : w58.cell? ⟨gb445, 1, none⟩ = some (.int .i64 a1_1) := ck_ BK445 1
    have hcz60_2 : w58.cell? ⟨gb445, 2, none⟩ = some (.int .i64 a1_2) := ck_ BK445 2
    have hcz60_3 : w58.cell? ⟨gb445, 3, none⟩ = some (.int .i64 a1_3) := ck_ BK445 3
    have hcz60_4 : w58.cell? ⟨gb445, 4, none⟩ = some (.int .i64 a1_4) := ck_ BK445 4
    have hfz60_0 := blk_frozen BK445.out 0
    have hfz60_1 := blk_frozen BK445.out 1
    have hfz60_2 := blk_frozen BK445.out 2
    have hfz60_3 := blk_frozen BK445.out 3
    have hfz60_4 := blk_frozen BK445.out 4
    try go_wp2
    go_ret
    exact ⟨by first | rfl | (simp [errW_none, errW_some] <;> rfl) | (simp [*, errW_none, errW_some] <;> rfl) | exact ret_ie _ | (simp [*, errW_none, errW_some, bne]; done), by repeat (first | (with_reducible first | exact HB.out | apply below_alloc | apply pw_below_drewN | apply below_drew1 | refine below_set ?_ GE444.out | refine below_set ?_ GE445.out) | exact HB.out)⟩
  ·
   rw [if_neg c47] at H
   have c47b0 : (t449 == 0) = false := beq_eq_false_iff_ne.mpr c47
   have c47b1 : (t449 != 0) = true := bne_iff_ne.mpr c47
   obtain rfl := Option.some.inj H
   go_enter Try.func42, Try.ntmps42
   try go_wp2_with (first | ((with_reducible refine gate_dst (N := 4) rfl ?_); refine box_event ?hg (N := 4) ?hd (cs := #[.slice A0_0 l0_0.length c0_0, .int .i64 a0_1, .int .i64 a0_2]) (t := 24) ?hr ?_; (case hd => rfl); (case hg => rfl); (case hr => first | (go_simp; done) | (go_simp; rfl)); intro gb444 hg w61 hbox hb; have BK444 := Aside0.mk (hbox); have GW444 := bz_ (hB_ HB.out) hg; have GE444 := bz_ (hB_ HB.out) hg; replace HB := Aside0.mk (below_step (hB_ HB.out) hb); clear hb hbox hg) | ((with_reducible refine gate_dst (N := 5) rfl ?_); refine box_event ?hg (N := 5) ?hd (cs := #[.int .u8 a1_0, .int .i64 a1_1, .int .i64 a1_2, .int .i64 a1_3, .int .i64 a1_4]) (t := 31) ?hr ?_; (case hd => rfl); (case hg => rfl); (case hr => first | (go_simp; done) | (go_simp; rfl)); intro gb445 hg w62 hbox hb; have BK445 := Aside0.mk (hbox); have GW445 := bz_ (hB_ HB.out) hg; have GE445 := bz_ (hB_ HB.out) hg; replace HB := Aside0.mk (below_step (hB_ HB.out) hb); have NB444_445 := bn_ BK444 hg; have NB445_444 := bm_ BK444 hg; replace BK444 := bs_ BK444 hb; clear hb hbox hg))
   replace BK444 := Aside0.mk (blk_drew BK444.out)
   replace BK445 := Aside0.mk (blk_drew BK445.out)
   replace HB := Aside0.mk (below_drew1 HB.out)
   refine start_ (n := 13) (S := fun w' => w'.cell? ⟨gb444, 0, none⟩ = some (.slice A0_0 l0_0.length c0_0) ∧ w'.cell? ⟨gb444, 1, none⟩ = some (.int .i64 a0_1) ∧ w'.cell? ⟨gb444, 2, none⟩ = some (.int .i64 a0_2) ∧ w'.cell? ⟨gb445, 0, none⟩ = some (.int .u8 a1_0) ∧ w'.cell? ⟨gb445, 1, none⟩ = some (.int .i64 a1_1) ∧ w'.cell? ⟨gb445, 2, none⟩ = some (.int .i64 a1_2) ∧ w'.cell? ⟨gb445, 3, none⟩ = some (.int .i64 a1_3) ∧ w'.cell? ⟨gb445, 4, none⟩ = some (.int .i64 a1_4)) (ds := []) (b_ 13 0) (by kernel_rfl) rfl rfl ⟨ck_ BK444 0, ck_ BK444 1, ck_ BK444 2, ck_ BK445 0, ck_ BK445 1, ck_ BK445 2, ck_ BK445 3, ck_ BK445 4⟩ (fun hHeld => ?_); refine with_tabW millhandref24_owned.tab1 millhandref24_owned.bits1 (fun HT_ HW_ => ?_)
   generalize w62.drew = w63 at BK444 BK445 HB hHeld ⊢
   refine pA_ 2 12 ?_ (b_ 13 4) (any_of HT_.out (by kernel_rfl)) rfl rfl (fun _ _ _ h => h) (by rfl) ?_ ?_ ?_ ?_
   rotate_left
   ·
    intro w'
    go_simp
    with_reducible rfl
   rotate_left
   ·
    simp only [Act.put, sa_, s0_, s1_, i64_w, i32_w]
    rfl
   refine pA_ 3 13 ?_ (b_ 13 12) (any_of HT_.out (by kernel_rfl)) rfl rfl (fun _ _ _ h => h) (by rfl) ?_ ?_ ?_ ?_
   rotate_left
   ·
    intro w'
    go_simp
    with_reducible rfl
   rotate_left
   ·
    simp only [Act.put, sa_, s0_, s1_, i64_w, i32_w]
    rfl
   refine pA_ 4 14 ?_ (b_ 13 28) (any_of HT_.out (by kernel_rfl)) rfl rfl (fun _ _ _ h => h) (by rfl) ?_ ?_ ?_ ?_
   rotate_left
   ·
    intro w'
    go_simp
    with_reducible rfl
   rotate_left
   ·
    simp only [Act.put, sa_, s0_, s1_, i64_w, i32_w]
    rfl
   refine pB_ 5 15 ?_ (b_ 13 60) (any_of HT_.out (by kernel_rfl)) rfl rfl (fun _ _ _ h => h) (by rfl) ?_ ?_
   rotate_left
   ·
    simp only [Act.put, sa_, s0_, s1_, i64_w, i32_w]
    rfl
   refine pB_ 6 16 ?_ (b_ 13 124) (any_of HT_.out (by kernel_rfl)) rfl rfl (fun _ _ _ h => h) (by rfl) ?_ ?_
   rotate_left
   ·
    simp only [Act.put, sa_, s0_, s1_, i64_w, i32_w]
    rfl
   refine pA_ 7 17 ?_ (b_ 13 252) (any_of HT_.out (by kernel_rfl)) rfl rfl (fun _ _ _ h => h) (by rfl) ?_ ?_ ?_ ?_
   rotate_left
   ·
    intro w'
    go_simp
    with_reducible rfl
   rotate_left
   ·
    simp only [Act.put, sa_, s0_, s1_, i64_w, i32_w]
    rfl
   refine pA_ 8 18 ?_ (b_ 13 508) (any_of HT_.out (by kernel_rfl)) rfl rfl (fun _ _ _ h => h) (by rfl) ?_ ?_ ?_ ?_
   rotate_left
   ·
    intro w'
    go_simp
    with_reducible rfl
   rotate_left
   ·
    simp only [Act.put, sa_, s0_, s1_, i64_w, i32_w]
    rfl
   refine pB_ 9 19 ?_ (b_ 13 1020) (any_of HT_.out (by kernel_rfl)) rfl rfl (fun _ _ _ h => h) (by rfl) ?_ ?_
   rotate_left
   ·
    simp only [Act.put, sa_, s0_, s1_, i64_w, i32_w]
    rfl
   refine pA_ 10 20 ?_ (b_ 13 2044) (any_of HT_.out (by kernel_rfl)) rfl rfl (fun _ _ _ h => h) (by rfl) ?_ ?_ ?_ ?_
   rotate_left
   ·
    intro w'
    go_simp
    with_reducible rfl
   rotate_left
   ·
    simp only [Act.put, sa_, s0_, s1_, i64_w, i32_w]
    rfl
   refine tA_ 0 10 ?_ (b_ 13 2045) (take_ofW HT_.out HW_.out (by kernel_rfl)) rfl rfl (fun _ _ _ h => h) (by rfl) ?_ hHeld ?_ ?_ ?_
   rotate_left
   ·
    rintro w' ⟨s0, s1, s2, s3, s4, s5, s6, s7⟩
    go_simp
    with_reducible rfl
   rotate_left
   ·
    simp only [Act.put, sa_, s0_, s1_, i64_w, i32_w]
    rfl
   refine tA_ 1 11 ?_ (b_ 13 2047) (take_ofW HT_.out HW_.out (by kernel_rfl)) rfl rfl (fun _ _ _ h => h) (by rfl) ?_ hHeld ?_ ?_ ?_
   rotate_left
   ·
    rintro w' ⟨s0, s1, s2, s3, s4, s5, s6, s7⟩
    go_simp
    with_reducible rfl
   rotate_left
   ·
    simp only [Act.put, sa_, s0_, s1_, i64_w, i32_w]
    rfl
   refine one_ (i := 11) (N := some 21) (b_ 13 4095) rfl rfl (one_of HT_.out (by kernel_rfl)) (by decide) (fun K hK => ?_)
   refine goes_ Try.func40 (by kernel_rfl) rfl #[.agg #[.slice A0_0 l0_0.length c0_0, .int .i64 a0_1, .int .i64 a0_2], .agg #[.int .u8 a1_0, .int .i64 a1_1, .int .i64 a1_2, .int .i64 a1_3, .int .i64 a1_4], .bool false, .int .u8 2] (by rfl) rfl rfl (by (try simp only [List.map_toArray, List.map_cons, List.map_nil]); first | done | rfl | (simp only [List.length_drop, List.length_take]; rfl)) ?_
   with_reducible refine (millhandref24_state.calls k _ _ l0_0 a0_1 a0_2 a1_0 a1_1 a1_2 a1_3 a1_4 false 2 t449 _ ?side1 ?side2 A46.out).mono ?_
   (case side1 => repeat (first | exact (Kd.C_below HR0_0.out HB.out) | (with_reducible refine Kd.C_alloc ?_ _) | (with_reducible refine Kd.C_drewN ?_ _) | (with_reducible refine Kd.C_drew ?_)))
   (case side2 => exact HC0_0.out)
   rintro e w64 ⟨rfl, hb⟩
   refine ⟨_, rfl, ?_⟩
   replace BK444 := bs_ BK444 hb
   replace BK445 := bs_ BK445 hb
   replace HB := Aside0.mk (below_step (hB_ HB.out) hb)
   (try clear hb)
   (try clear hb2)
   (try clear hk)
   (try clear hi)
   refine hK.out _ _ ⟨ck_ BK444 0, ck_ BK444 1, ck_ BK444 2, ck_ BK445 0, ck_ BK445 1, ck_ BK445 2, ck_ BK445 3, ck_ BK445 4⟩ (fun hHeld => ?_)
   clear hK K
   refine norm_ (a' := ?_) ?_ ?_
   rotate_left
   ·
    show Act.put _ (some 21) _ = _
    simp only [Act.put, sa_, s0_, s1_, i64_w, i32_w]
    rfl
   refine pA_ 12 9 ?_ (b_ 13 8191) (any_of HT_.out (by kernel_rfl)) rfl rfl (fun _ _ _ h => h) (by rfl) ?_ ?_ ?_ ?_
   rotate_left
   ·
    intro w'
    go_simp
    with_reducible rfl
   rotate_left
   ·
    simp only [Act.put, sa_, s0_, s1_, i64_w, i32_w]
    rfl
   refine done_ (done_of HT_.out (by kernel_rfl)) ?_
   try go_wp2
   go_ret
   exact ⟨by first | rfl | (simp [errW_none, errW_some] <;> rfl) | (simp [*, errW_none, errW_some] <;> rfl) | exact ret_ie _ | (simp [*, errW_none, errW_some, bne]; done), by repeat (first | (with_reducible first | exact HB.out | apply below_alloc | apply pw_below_drewN | apply below_drew1 | refine below_set ?_ GE444.out | refine below_set ?_ GE445.out) | exact HB.out)⟩

end Go.Proofs.Ytbgfjhnbmfgccaa.R

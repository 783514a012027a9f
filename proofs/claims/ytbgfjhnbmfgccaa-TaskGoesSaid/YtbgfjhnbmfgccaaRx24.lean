/- Contracts of Go functions and what they come to, over the translation of this seat: made by a program of this session (print2.py). -/
import Derived.Test.YtbgfjhnbmfgccaaSh
import Derived.Test.YtbgfjhnbmfgccaaRx0
import Derived.Test.YtbgfjhnbmfgccaaRx16
import Derived.Test.YtbgfjhnbmfgccaaRx17
import Derived.Test.YtbgfjhnbmfgccaaRx18
import Derived.Test.YtbgfjhnbmfgccaaRx21
import Derived.Test.YtbgfjhnbmfgccaaRx22
namespace Go.Proofs.Ytbgfjhnbmfgccaa.R
open Go.RowKit Go.Proofs.Ytbgfjhnbmfgccaa.Sh Go.Proofs.Ytbgfjhnbmfgccaa.Co Go.Proofs.Ytbgfjhnbmfgccaa.Ret Go.Proofs.Ytbgfjhnbmfgccaa.Plain Go.Proofs.YtbgfjhnbmfgccaaW.PrintWords Go.Proofs.YtbgfjhnbmfgccaaW.PrintLast Go.Proofs.YtbgfjhnbmfgccaaW.PrintMore
attribute [local go_sem] max2_int min2_int max_two min_two max_three min_three max_four min_four   -- for this text's walks alone
set_option linter.unusedVariables false
set_option linter.unusedSimpArgs false

/-! ### millhandref24_Lapse: function 26 -/
def millhandref24_Lapse.j0 : Nat → Int → Int → Bool → List Int → Int → Int → Int → Int → Int → Int → Int → Option (Int × Int × Int × Int × Int × Int)
 | 0, _, _, _, _, _, _, _, _, _, _, _ => none
 | k + 1, x2, x8, x21, x484000, x484001, x484002, x485000, x485001, x485002, x485003, x485004 => if x21 = true then (if 240 = 0 then ((millhandref24_Failed.f k x484000 x484001 x484002 x485000 x485001 x485002 x485003 x485004 x2).bind fun bt489 => (some (bt489.1, bt489.2.1, bt489.2.2.1, bt489.2.2.2.1, bt489.2.2.2.2, 0))) else (some (0, 0, 0, 0, 0, 240))) else (if x8 = 0 then ((millhandref24_Failed.f k x484000 x484001 x484002 x485000 x485001 x485002 x485003 x485004 x2).bind fun bt494 => (some (bt494.1, bt494.2.1, bt494.2.2.1, bt494.2.2.2.1, bt494.2.2.2.2, 0))) else (some (0, 0, 0, 0, 0, x8)))
def millhandref24_Lapse.f (k : Nat) (l0_0 : List Int) (a0_1 : Int) (a0_2 : Int) (a1_0 : Int) (a1_1 : Int) (a1_2 : Int) (a1_3 : Int) (a1_4 : Int) (a2 : Int) : Option (Int × Int × Int × Int × Int × Int) := (millhandref24_In.f a2).bind fun t486 => ((millhandref24_state.f k l0_0 a0_1 a0_2 a1_0 a1_1 a1_2 a1_3 a1_4 t486 2).bind fun t487 => (if t487 = 0 then ((millhandref24_Due.f a1_0 a1_1 a1_2 a1_3 a1_4 a2).bind fun t488 => (millhandref24_Lapse.j0 k a2 t487 (!t488) l0_0 a0_1 a0_2 a1_0 a1_1 a1_2 a1_3 a1_4)) else (millhandref24_Lapse.j0 k a2 t487 false l0_0 a0_1 a0_2 a1_0 a1_1 a1_2 a1_3 a1_4)))
theorem millhandref24_Lapse.mono_l : ∀ k, (∀ y0 y1 y2 y3 y4 y5 y6 y7 y8 y9 y10, LeO (millhandref24_Lapse.j0 k y0 y1 y2 y3 y4 y5 y6 y7 y8 y9 y10) (millhandref24_Lapse.j0 (k + 1) y0 y1 y2 y3 y4 y5 y6 y7 y8 y9 y10))
 | 0 => fun _ _ _ _ _ _ _ _ _ _ _ r h => by simp [millhandref24_Lapse.j0] at h
 | k + 1 => by
  have ih0 := millhandref24_Lapse.mono_l k
  ·
   intro y0 y1 y2 y3 y4 y5 y6 y7 y8 y9 y10
   unfold millhandref24_Lapse.j0
   repeat' first
   | (with_reducible exact ih0 _ _ _ _ _ _ _ _ _ _ _)
   | (with_reducible exact millhandref24_Failed.mono _ _ _ _ _ _ _ _ _ _)
   | (with_reducible exact millhandref24_state.mono _ _ _ _ _ _ _ _ _ _ _)
   | (with_reducible exact LeO.refl _)
   | (with_reducible exact LeO.none _)
   | (with_reducible refine LeO.ite ?_ ?_)
   | (with_reducible refine LeO.bind ?_ (fun _ => ?_))
   | exact ih0 _ _ _ _ _ _ _ _ _ _ _
   | exact millhandref24_Failed.mono _ _ _ _ _ _ _ _ _ _
   | exact millhandref24_state.mono _ _ _ _ _ _ _ _ _ _ _
   | exact LeO.none _
   | refine LeO.ite ?_ ?_
   | refine LeO.bind ?_ (fun _ => ?_)
theorem millhandref24_Lapse.mono : ∀ a0 a1 a2 a3 a4 a5 a6 a7 a8 k, LeO (millhandref24_Lapse.f k a0 a1 a2 a3 a4 a5 a6 a7 a8) (millhandref24_Lapse.f (k + 1) a0 a1 a2 a3 a4 a5 a6 a7 a8) := by
 intro a0 a1 a2 a3 a4 a5 a6 a7 a8 k
 have ih0 := millhandref24_Lapse.mono_l k
 unfold millhandref24_Lapse.f
 repeat' first
   | (with_reducible exact ih0 _ _ _ _ _ _ _ _ _ _ _)
   | (with_reducible exact millhandref24_Failed.mono _ _ _ _ _ _ _ _ _ _)
   | (with_reducible exact millhandref24_state.mono _ _ _ _ _ _ _ _ _ _ _)
   | (with_reducible exact LeO.refl _)
   | (with_reducible exact LeO.none _)
   | (with_reducible refine LeO.ite ?_ ?_)
   | (with_reducible refine LeO.bind ?_ (fun _ => ?_))
   | exact ih0 _ _ _ _ _ _ _ _ _ _ _
   | exact millhandref24_Failed.mono _ _ _ _ _ _ _ _ _ _
   | exact millhandref24_state.mono _ _ _ _ _ _ _ _ _ _ _
   | exact LeO.none _
   | refine LeO.ite ?_ ?_
   | refine LeO.bind ?_ (fun _ => ?_)
set_option maxHeartbeats 8000000 in
set_option maxRecDepth 100000 in
theorem millhandref24_Lapse.calls (k : Nat) (A0_0 : Option Addr) (c0_0 : Nat) (l0_0 : List Int) (a0_1 : Int) (a0_2 : Int) (a1_0 : Int) (a1_1 : Int) (a1_2 : Int) (a1_3 : Int) (a1_4 : Int) (a2 : Int) (r1 : Int) (r2 : Int) (r3 : Int) (r4 : Int) (r5 : Int) (r6 : Int) (w : World) (hr0_0 : Kd.C (Kd.int .i64) w A0_0 l0_0.length l0_0) (hc0_0 : l0_0.length ≤ c0_0) (h : millhandref24_Lapse.f k l0_0 a0_1 a0_2 a1_0 a1_1 a1_2 a1_3 a1_4 a2 = some (r1, r2, r3, r4, r5, r6)) :
  Calls Try.prog 26 #[.agg #[.slice A0_0 l0_0.length c0_0, .int .i64 a0_1, .int .i64 a0_2], .agg #[.int .u8 a1_0, .int .i64 a1_1, .int .i64 a1_2, .int .i64 a1_3, .int .i64 a1_4], .int .i64 a2] w fun e w' => e = .returned (.tuple #[.agg #[.int .u8 r1, .int .i64 r2, .int .i64 r3, .int .i64 r4, .int .i64 r5], .int .i64 r6]) ∧ Below w.heap.size w w' := by
 have hu24 := Try.underlying24
 have hu31 := Try.underlying31
 have HR0_0 := Aside0.mk hr0_0
 have HC0_0 := Aside0.mk hc0_0
 clear hr0_0 hc0_0
 have HB := Aside0.mk (Below.refl w.heap.size w)
 have H : ((millhandref24_In.f a2).bind fun t486 => ((millhandref24_state.f k l0_0 a0_1 a0_2 a1_0 a1_1 a1_2 a1_3 a1_4 t486 2).bind fun t487 => (if t487 = 0 then ((millhandref24_Due.f a1_0 a1_1 a1_2 a1_3 a1_4 a2).bind fun t488 => (millhandref24_Lapse.j0 k a2 t487 (!t488) l0_0 a0_1 a0_2 a1_0 a1_1 a1_2 a1_3 a1_4)) else (millhandref24_Lapse.j0 k a2 t487 false l0_0 a0_1 a0_2 a1_0 a1_1 a1_2 a1_3 a1_4)))) = some (r1, r2, r3, r4, r5, r6) := h
 clear h
 replace H := Option.bind_eq_some_iff.mp H
 obtain ⟨t486, A40, H⟩ := H
 try dsimp only at H
 have A4 := Aside0.mk A40
 clear A40
 replace H := Option.bind_eq_some_iff.mp H
 obtain ⟨t487, A50, H⟩ := H
 try dsimp only at H
 have A5 := Aside0.mk A50
 clear A50
 have HC6 := Aside0.mk H
 clear H
 go_enter Try.func26, Try.ntmps26
 try go_wp2_with (first | ((with_reducible refine gate_dst (N := 3) rfl ?_); refine box_event ?hg (N := 3) ?hd (cs := #[.slice A0_0 l0_0.length c0_0, .int .i64 a0_1, .int .i64 a0_2]) (t := 24) ?hr ?_; (case hd => rfl); (case hg => rfl); (case hr => first | (go_simp; done) | (go_simp; rfl)); intro gb483 hg w7 hbox hb; have BK483 := Aside0.mk (hbox); have GW483 := bz_ (hB_ HB.out) hg; have GE483 := bz_ (hB_ HB.out) hg; replace HB := Aside0.mk (below_step (hB_ HB.out) hb); clear hb hbox hg) | ((with_reducible refine gate_dst (N := 4) rfl ?_); refine box_event ?hg (N := 4) ?hd (cs := #[.int .u8 a1_0, .int .i64 a1_1, .int .i64 a1_2, .int .i64 a1_3, .int .i64 a1_4]) (t := 31) ?hr ?_; (case hd => rfl); (case hg => rfl); (case hr => first | (go_simp; done) | (go_simp; rfl)); intro gb484 hg w8 hbox hb; have BK484 := Aside0.mk (hbox); have GW484 := bz_ (hB_ HB.out) hg; have GE484 := bz_ (hB_ HB.out) hg; replace HB := Aside0.mk (below_step (hB_ HB.out) hb); have NB483_484 := bn_ BK483 hg; have NB484_483 := bm_ BK483 hg; replace BK483 := bs_ BK483 hb; clear hb hbox hg) | ((with_reducible refine gate_dst (N := 6) rfl ?_); refine box_event ?hg (N := 6) ?hd (cs := #[.int .u8 0, .int .i64 0, .int .i64 0, .int .i64 0, .int .i64 0]) (t := 31) ?hr ?_; (case hd => rfl); (case hg => rfl); (case hr => first | (go_simp; done) | (go_simp; rfl)); intro gb485 hg w9 hbox hb; have BK485 := Aside0.mk (hbox); have GW485 := bz_ (hB_ HB.out) hg; have GE485 := bz_ (hB_ HB.out) hg; replace HB := Aside0.mk (below_step (hB_ HB.out) hb); have NB483_485 := bn_ BK483 hg; have NB485_483 := bm_ BK483 hg; replace BK483 := bs_ BK483 hb; have NB484_485 := bn_ BK484 hg; have NB485_484 := bm_ BK484 hg; replace BK484 := bs_ BK484 hb; clear hb hbox hg))
 replace BK483 := Aside0.mk (blk_drew BK483.out)
 replace BK484 := Aside0.mk (blk_drew BK484.out)
 replace BK485 := Aside0.mk (blk_drew BK485.out)
 replace HB := Aside0.mk (below_drew1 HB.out)
 refine start_ (n := 6) (S := fun w' => w'.cell? ⟨gb483, 0, none⟩ = some (.slice A0_0 l0_0.length c0_0) ∧ w'.cell? ⟨gb483, 1, none⟩ = some (.int .i64 a0_1) ∧ w'.cell? ⟨gb483, 2, none⟩ = some (.int .i64 a0_2) ∧ w'.cell? ⟨gb484, 0, none⟩ = some (.int .u8 a1_0) ∧ w'.cell? ⟨gb484, 1, none⟩ = some (.int .i64 a1_1) ∧ w'.cell? ⟨gb484, 2, none⟩ = some (.int .i64 a1_2) ∧ w'.cell? ⟨gb484, 3, none⟩ = some (.int .i64 a1_3) ∧ w'.cell? ⟨gb484, 4, none⟩ = some (.int .i64 a1_4)) (ds := []) (b_ 6 0) (by kernel_rfl) rfl rfl ⟨ck_ BK483 0, ck_ BK483 1, ck_ BK483 2, ck_ BK484 0, ck_ BK484 1, ck_ BK484 2, ck_ BK484 3, ck_ BK484 4⟩ (fun hHeld => ?_)
 generalize w9.drew = w10 at BK483 BK484 BK485 HB hHeld ⊢
 refine pure_ (i := 2) (N := some 11) (v := ?_) (a' := ?_) (b_ 6 4) rfl rfl (by kernel_rfl) (fun _ _ _ h => h) (Or.inl ⟨by rfl, ?_⟩) ?_ ?_
 rotate_left
 ·
  intro w'
  go_simp
  with_reducible rfl
 rotate_left
 ·
  simp only [Act.put, sa_, s0_, s1_, i64_w, i32_w]
  rfl
 refine take_ (i := 0) (N := some 9) (v := ?_) (a' := ?_) (b_ 6 5) rfl rfl (by kernel_rfl) (fun _ _ _ h => h) (Or.inl ⟨by rfl, ?_⟩) hHeld ?_ ?_
 rotate_left
 ·
  rintro w' ⟨s0, s1, s2, s3, s4, s5, s6, s7⟩
  go_simp
  with_reducible rfl
 rotate_left
 ·
  simp only [Act.put, sa_, s0_, s1_, i64_w, i32_w]
  rfl
 refine take_ (i := 1) (N := some 10) (v := ?_) (a' := ?_) (b_ 6 7) rfl rfl (by kernel_rfl) (fun _ _ _ h => h) (Or.inl ⟨by rfl, ?_⟩) hHeld ?_ ?_
 rotate_left
 ·
  rintro w' ⟨s0, s1, s2, s3, s4, s5, s6, s7⟩
  go_simp
  with_reducible rfl
 rotate_left
 ·
  simp only [Act.put, sa_, s0_, s1_, i64_w, i32_w]
  rfl
 refine one_ (i := 3) (N := some 12) (b_ 6 15) rfl rfl (by kernel_rfl) (by decide) (fun K hK => ?_)
 refine goes_ Try.func41 (by kernel_rfl) rfl #[.int .i64 a2] (by rfl) rfl rfl (by (try simp only [List.map_toArray, List.map_cons, List.map_nil]); first | done | rfl | (simp only [List.length_drop, List.length_take]; rfl)) ?_
 with_reducible refine (millhandref24_In.calls a2 t486 _ A4.out).mono ?_
 rintro e w' ⟨rfl, ⟨nd, rfl⟩⟩
 refine ⟨_, rfl, ?_⟩
 refine hK.out _ _ ⟨ck_ BK483 0, ck_ BK483 1, ck_ BK483 2, ck_ BK484 0, ck_ BK484 1, ck_ BK484 2, ck_ BK484 3, ck_ BK484 4⟩ (fun hHeld => ?_)
 clear hK K
 refine norm_ (a' := ?_) ?_ ?_
 rotate_left
 ·
  show Act.put _ (some 12) _ = _
  simp only [Act.put, sa_, s0_, s1_, i64_w, i32_w]
  rfl
 refine one_ (i := 4) (N := some 13) (b_ 6 31) rfl rfl (by kernel_rfl) (by decide) (fun K hK => ?_)
 refine goes_ Try.func40 (by kernel_rfl) rfl #[.agg #[.slice A0_0 l0_0.length c0_0, .int .i64 a0_1, .int .i64 a0_2], .agg #[.int .u8 a1_0, .int .i64 a1_1, .int .i64 a1_2, .int .i64 a1_3, .int .i64 a1_4], .bool t486, .int .u8 2] (by rfl) rfl rfl (by (try simp only [List.map_toArray, List.map_cons, List.map_nil]); first | done | rfl | (simp only [List.length_drop, List.length_take]; rfl)) ?_
 with_reducible refine (millhandref24_state.calls k _ _ l0_0 a0_1 a0_2 a1_0 a1_1 a1_2 a1_3 a1_4 t486 2 t487 _ ?side1 ?side2 A5.out).mono ?_
 (case side1 => repeat (first | exact (Kd.C_below HR0_0.out (by repeat (first | (with_reducible first | exact HB.out | apply below_alloc | apply pw_below_drewN | apply below_drew1 | refine below_set ?_ GE483.out | refine below_set ?_ GE484.out | refine below_set ?_ GE485.out) | exact HB.out))) | (with_reducible refine Kd.C_alloc ?_ _) | (with_reducible refine Kd.C_drewN ?_ _) | (with_reducible refine Kd.C_drew ?_)))
 (case side2 => exact HC0_0.out)
 rintro e w11 ⟨rfl, hb⟩
 refine ⟨_, rfl, ?_⟩
 replace BK483 := bs_ BK483 hb
 replace BK484 := bs_ BK484 hb
 replace BK485 := bs_ BK485 hb
 replace HB := Aside0.mk (below_step (hB_ HB.out) hb)
 (try clear hb)
 (try clear hb2)
 (try clear hk)
 (try clear hi)
 refine hK.out _ _ ⟨ck_ BK483 0, ck_ BK483 1, ck_ BK483 2, ck_ BK484 0, ck_ BK484 1, ck_ BK484 2, ck_ BK484 3, ck_ BK484 4⟩ (fun hHeld => ?_)
 clear hK K
 refine norm_ (a' := ?_) ?_ ?_
 rotate_left
 ·
  show Act.put _ (some 13) _ = _
  simp only [Act.put, sa_, s0_, s1_, i64_w, i32_w]
  rfl
 refine pure_ (i := 5) (N := some 8) (v := ?_) (a' := ?_) (b_ 6 63) rfl rfl (by kernel_rfl) (fun _ _ _ h => h) (Or.inl ⟨by rfl, ?_⟩) ?_ ?_
 rotate_left
 ·
  intro w'
  go_simp
  with_reducible rfl
 rotate_left
 ·
  simp only [Act.put, sa_, s0_, s1_, i64_w, i32_w]
  rfl
 refine done_ (by kernel_rfl) ?_
 go_upto_region 2 with (fail)
 go_cut [21] (fun v21 wc => ∃ (kq : Nat) (x21_5 : Bool), v21 = .bool x21_5 ∧ Aside0 (millhandref24_Lapse.j0 kq a2 t487 x21_5 l0_0 a0_1 a0_2 a1_0 a1_1 a1_2 a1_3 a1_4 = some (r1, r2, r3, r4, r5, r6)) ∧ Aside0 (kq ≤ k) ∧ Aside0 (wc.heap[gb483]? = some (.cells #[(.slice A0_0 l0_0.length c0_0), .int .i64 a0_1, .int .i64 a0_2] 24 (0, 0))) ∧ Aside0 (wc.heap[gb484]? = some (.cells #[.int .u8 a1_0, .int .i64 a1_1, .int .i64 a1_2, .int .i64 a1_3, .int .i64 a1_4] 31 (0, 0))) ∧ Aside0 (wc.heap[gb485]? = some (.cells #[.int .u8 0, .int .i64 0, .int .i64 0, .int .i64 0, .int .i64 0] 31 (0, 0))) ∧ Aside0 (Below w.heap.size w wc))
 case first =>
  have H := HC6.out
  clear HC6
  by_cases c12 : t487 = 0
  ·
   rw [if_pos c12] at H
   have c12b0 : (t487 == 0) = true := beq_iff_eq.mpr c12
   have c12b1 : (t487 != 0) = false := bne_eq_false_iff_eq.mpr c12
   clear c12
   (first | rw [c12b0] | (simp only [i64_w, i32_w]; rw [c12b0]) | skip)
   replace H := Option.bind_eq_some_iff.mp H
   obtain ⟨t488, A130, H⟩ := H
   replace H : (millhandref24_Lapse.j0 k a2 t487 (!t488) l0_0 a0_1 a0_2 a1_0 a1_1 a1_2 a1_3 a1_4) = some (r1, r2, r3, r4, r5, r6) := H
   have A13 := Aside0.mk A130
   clear A130
   have H' := Aside0.mk H
   clear H
   have hcz16_0 : w11.cell? ⟨gb484, 0, none⟩ = some (.int .u8 a1_0) := ck_ BK484 0
   have hcz16_1 : w11.cell? ⟨gb484, 1, none⟩ = some (.int .i64 a1_1) := ck_ BK484 1
   have hcz16_2 : w11.cell? ⟨gb484, 2, none⟩ = some (.int .i64 a1_2) := ck_ BK484 2
   have hcz16_3 : w11.cell? ⟨gb484, 3, none⟩ = some (.int .i64 a1_3) := ck_ BK484 3
   have hcz16_4 : w11.cell? ⟨gb484, 4, none⟩ = some (.int .i64 a1_4) := ck_ BK484 4
   have hfz16_0 := blk_frozen BK484.out 0
   have hfz16_1 := blk_frozen BK484.out 1
   have hfz16_2 := blk_frozen BK484.out 2
   have hfz16_3 := blk_frozen BK484.out 3
   have hfz16_4 := blk_frozen BK484.out 4
   go_wp2_with (first | (go_at_call 31; (with_reducible refine (millhandref24_Due.calls a1_0 a1_1 a1_2 a1_3 a1_4 a2 t488 _ A13.out).mono ?_); rintro e w17 ⟨rfl, hb⟩; replace BK483 := bs_ BK483 hb; replace BK484 := bs_ BK484 hb; replace BK485 := bs_ BK485 hb; replace HB := Aside0.mk (below_step (hB_ HB.out) hb); (try clear hb); (try clear hb2); (try clear hk); (try clear hi)))
   go_meet
   case rel => exact ⟨_, (!t488), (by first | rfl | (simp; done) | (simp [*]; done)), H', ⟨by first | omega | exact Nat.le_refl _⟩, ⟨by (with_reducible repeat (first | refine blk_drewN ?_ _ | refine blk_drew ?_ | refine blk_alloc ?_ _)); exact BK483.out⟩, ⟨by (with_reducible repeat (first | refine blk_drewN ?_ _ | refine blk_drew ?_ | refine blk_alloc ?_ _)); exact BK484.out⟩, ⟨by (with_reducible repeat (first | refine blk_drewN ?_ _ | refine blk_drew ?_ | refine blk_alloc ?_ _)); exact BK485.out⟩, ⟨by repeat (first | (with_reducible first | exact HB.out | apply below_alloc | apply pw_below_drewN | apply below_drew1 | refine below_set ?_ GE483.out | refine below_set ?_ GE484.out | refine below_set ?_ GE485.out) | exact HB.out)⟩⟩
  ·
   rw [if_neg c12] at H
   have c12b0 : (t487 == 0) = false := beq_eq_false_iff_ne.mpr c12
   have c12b1 : (t487 != 0) = true := bne_iff_ne.mpr c12
   (first | rw [c12b0] | (simp only [i64_w, i32_w]; rw [c12b0]) | skip)
   have H' := Aside0.mk H
   clear H
   go_wp2
   go_meet
   case rel => exact ⟨_, (false), (by first | rfl | (simp; done) | (simp [*]; done)), H', ⟨by first | omega | exact Nat.le_refl _⟩, ⟨by (with_reducible repeat (first | refine blk_drewN ?_ _ | refine blk_drew ?_ | refine blk_alloc ?_ _)); exact BK483.out⟩, ⟨by (with_reducible repeat (first | refine blk_drewN ?_ _ | refine blk_drew ?_ | refine blk_alloc ?_ _)); exact BK484.out⟩, ⟨by (with_reducible repeat (first | refine blk_drewN ?_ _ | refine blk_drew ?_ | refine blk_alloc ?_ _)); exact BK485.out⟩, ⟨by repeat (first | (with_reducible first | exact HB.out | apply below_alloc | apply pw_below_drewN | apply below_drew1 | refine below_set ?_ GE483.out | refine below_set ?_ GE484.out | refine below_set ?_ GE485.out) | exact HB.out)⟩⟩
 case rest =>
  clear HC6
  try clear c1
  try clear c2
  try clear p2
  try clear c4
  try clear c12
  try clear c12b0
  try clear c12b1
  try clear c14
  try clear c15
  try clear hcz16_0
  try clear hcz16_1
  try clear hcz16_2
  try clear hcz16_3
  try clear hcz16_4
  try clear hfz16_0
  try clear hfz16_1
  try clear hfz16_2
  try clear hfz16_3
  try clear hfz16_4
  obtain ⟨kq, x21_5, rfl, HA, HJ5, BK483, BK484, BK485, HB⟩ := hcut
  cases kq with
  | zero => exact absurd HA.out (by simp [millhandref24_Lapse.j0])
  | succ kj5 =>
   have H := HA.out
   clear HA
   simp only [millhandref24_Lapse.j0] at H
   by_cases c18 : x21_5 = true
   ·
    subst c18
    have H1 : (if 240 = 0 then ((millhandref24_Failed.f kj5 l0_0 a0_1 a0_2 a1_0 a1_1 a1_2 a1_3 a1_4 a2).bind fun bt489 => (some (bt489.1, bt489.2.1, bt489.2.2.1, bt489.2.2.2.1, bt489.2.2.2.2, 0))) else (some (0, 0, 0, 0, 0, 240))) = some (r1, r2, r3, r4, r5, r6) := by rw [if_pos rfl] at H; exact H
    clear H
    have H := H1
    clear H1
    by_cases c19 : 240 = 0
    ·
     exact absurd c19 (by decide)
    ·
     rw [if_neg c19] at H
     have c19b0 : (240 == 0) = false := beq_eq_false_iff_ne.mpr c19
     have c19b1 : (240 != 0) = true := bne_iff_ne.mpr c19
     simp only [Option.some.injEq, Prod.mk.injEq] at H
     obtain ⟨rfl, rfl, rfl, rfl, rfl, rfl⟩ := H
     have hcz30_0 : wc.cell? ⟨gb485, 0, none⟩ = some (.int .u8 0) := ck_ BK485 0
     have hcz30_1 : wc.cell? ⟨gb485, 1, none⟩ = some (.int .i64 0) := ck_ BK485 1
     have hcz30_2 : wc.cell? ⟨gb485, 2, none⟩ = some (.int .i64 0) := ck_ BK485 2
     have hcz30_3 : wc.cell? ⟨gb485, 3, none⟩ = some (.int .i64 0) := ck_ BK485 3
     have hcz30_4 : wc.cell? ⟨gb485, 4, none⟩ = some (.int .i64 0) := ck_ BK485 4
     have hfz30_0 := blk_frozen BK485.out 0
     have hfz30_1 := blk_frozen BK485.out 1
     have hfz30_2 := blk_frozen BK485.out 2
     have hfz30_3 := blk_frozen BK485.out 3
     have hfz30_4 := blk_frozen BK485.out 4
     go_wp2
     refine bodyPost_ret (results_ct rfl _ _ gb485 31 #[.int .u8 0, .int .i64 0, .int .i64 0, .int .i64 0, .int .i64 0] (0, 0) _ rfl (by (with_reducible repeat (first | refine blk_drewN ?_ _ | refine blk_drew ?_ | refine blk_alloc ?_ _)); refine blk_put (cs := #[.int .u8 0, .int .i64 0, .int .i64 0, .int .i64 0, .int .i64 0]) ?_ 4 _ rfl; (with_reducible repeat (first | refine blk_drewN ?_ _ | refine blk_drew ?_ | refine blk_alloc ?_ _)); refine blk_put (cs := #[.int .u8 0, .int .i64 0, .int .i64 0, .int .i64 0, .int .i64 0]) ?_ 3 _ rfl; (with_reducible repeat (first | refine blk_drewN ?_ _ | refine blk_drew ?_ | refine blk_alloc ?_ _)); refine blk_put (cs := #[.int .u8 0, .int .i64 0, .int .i64 0, .int .i64 0, .int .i64 0]) ?_ 2 _ rfl; (with_reducible repeat (first | refine blk_drewN ?_ _ | refine blk_drew ?_ | refine blk_alloc ?_ _)); refine blk_put (cs := #[.int .u8 0, .int .i64 0, .int .i64 0, .int .i64 0, .int .i64 0]) ?_ 1 _ rfl; (with_reducible repeat (first | refine blk_drewN ?_ _ | refine blk_drew ?_ | refine blk_alloc ?_ _)); refine blk_put (cs := #[.int .u8 0, .int .i64 0, .int .i64 0, .int .i64 0, .int .i64 0]) ?_ 0 _ rfl; (with_reducible repeat (first | refine blk_drewN ?_ _ | refine blk_drew ?_ | refine blk_alloc ?_ _)); exact BK485.out) Try.underlying31 rfl (by kernel_rfl)) rfl ?_
     exact ⟨by first | rfl | (simp [errW_none, errW_some] <;> rfl) | (simp [*, errW_none, errW_some] <;> rfl) | exact ret_ie _ | (simp [*, errW_none, errW_some, bne]; done), by repeat (first | (with_reducible first | exact HB.out | apply below_alloc | apply pw_below_drewN | apply below_drew1 | refine below_set ?_ GE483.out | refine below_set ?_ GE484.out | refine below_set ?_ GE485.out) | exact HB.out)⟩
   ·
    replace c18 := Bool.eq_false_iff.mpr c18
    subst c18
    have H1 : (if t487 = 0 then ((millhandref24_Failed.f kj5 l0_0 a0_1 a0_2 a1_0 a1_1 a1_2 a1_3 a1_4 a2).bind fun bt494 => (some (bt494.1, bt494.2.1, bt494.2.2.1, bt494.2.2.2.1, bt494.2.2.2.2, 0))) else (some (0, 0, 0, 0, 0, t487))) = some (r1, r2, r3, r4, r5, r6) := by rw [if_neg (show ¬ (false = true) by decide)] at H; exact H
    clear H
    have H := H1
    clear H1
    by_cases c31 : t487 = 0
    ·
     rw [if_pos c31] at H
     have c31b0 : (t487 == 0) = true := beq_iff_eq.mpr c31
     have c31b1 : (t487 != 0) = false := bne_eq_false_iff_eq.mpr c31
     clear c31
     replace H := Option.bind_eq_some_iff.mp H
     obtain ⟨⟨t494, t495, t496, t497, t498⟩, A320, H⟩ := H
     replace H : (some (t494, t495, t496, t497, t498, 0)) = some (r1, r2, r3, r4, r5, r6) := H
     have A32 := Aside0.mk A320
     clear A320
     simp only [Option.some.injEq, Prod.mk.injEq] at H
     obtain ⟨rfl, rfl, rfl, rfl, rfl, rfl⟩ := H
     have hnb33 := NB483_484.out
     have hnc33 := NB484_483.out
     have hcz35_0 : wc.cell? ⟨gb483, 0, none⟩ = some (.slice A0_0 l0_0.length c0_0) := ck_ BK483 0
     have hcz35_1 : wc.cell? ⟨gb483, 1, none⟩ = some (.int .i64 a0_1) := ck_ BK483 1
     have hcz35_2 : wc.cell? ⟨gb483, 2, none⟩ = some (.int .i64 a0_2) := ck_ BK483 2
     have hfz35_0 := blk_frozen BK483.out 0
     have hfz35_1 := blk_frozen BK483.out 1
     have hfz35_2 := blk_frozen BK483.out 2
     have hcz37_0 : wc.cell? ⟨gb484, 0, none⟩ = some (.int .u8 a1_0) := ck_ BK484 0
     have hcz37_1 : wc.cell? ⟨gb484, 1, none⟩ = some (.int .i64 a1_1) := ck_ BK484 1
     have hcz37_2 : wc.cell? ⟨gb484, 2, none⟩ = some (.int .i64 a1_2) := ck_ BK484 2
     have hcz37_3 : wc.cell? ⟨gb484, 3, none⟩ = some (.int .i64 a1_3) := ck_ BK484 3
     have hcz37_4 : wc.cell? ⟨gb484, 4, none⟩ = some (.int .i64 a1_4) := ck_ BK484 4
     have hfz37_0 := blk_frozen BK484.out 0
     have hfz37_1 := blk_frozen BK484.out 1
     have hfz37_2 := blk_frozen BK484.out 2
     have hfz37_3 := blk_frozen BK484.out 3
     have hfz37_4 := blk_frozen BK484.out 4
     go_wp2_with (first | ((with_reducible refine gate_callee (f := 43) rfl ?_); refine goesL_ (some 29) rfl rfl Try.func43 (by kernel_rfl) rfl #[.agg #[.slice A0_0 l0_0.length c0_0, .int .i64 a0_1, .int .i64 a0_2], .agg #[.int .u8 a1_0, .int .i64 a1_1, .int .i64 a1_2, .int .i64 a1_3, .int .i64 a1_4], .int .i64 a2] rfl (by (try simp only [List.map_toArray, List.map_cons, List.map_nil]); first | done | rfl | (simp only [List.length_drop, List.length_take]; rfl)) ?_; (with_reducible refine (millhandref24_Failed.calls kj5 _ _ l0_0 a0_1 a0_2 a1_0 a1_1 a1_2 a1_3 a1_4 a2 t494 t495 t496 t497 t498 _ ?side1 ?side2 A32.out).mono ?_); (case side1 => repeat (first | exact (Kd.C_below HR0_0.out HB.out) | (with_reducible refine Kd.C_alloc ?_ _) | (with_reducible refine Kd.C_drewN ?_ _) | (with_reducible refine Kd.C_drew ?_))); (case side2 => exact HC0_0.out); rintro e w38 ⟨rfl, hb⟩; refine ⟨_, rfl, ?_⟩; replace BK483 := bs_ BK483 hb; replace BK484 := bs_ BK484 hb; replace BK485 := bs_ BK485 hb; replace HB := Aside0.mk (below_step (hB_ HB.out) hb); (try clear hb); (try clear hb2); (try clear hk); (try clear hi); have hcz39_0 : w38.cell? ⟨gb485, 0, none⟩ = some (.int .u8 0) := ck_ BK485 0; have hcz39_1 : w38.cell? ⟨gb485, 1, none⟩ = some (.int .i64 0) := ck_ BK485 1; have hcz39_2 : w38.cell? ⟨gb485, 2, none⟩ = some (.int .i64 0) := ck_ BK485 2; have hcz39_3 : w38.cell? ⟨gb485, 3, none⟩ = some (.int .i64 0) := ck_ BK485 3; have hcz39_4 : w38.cell? ⟨gb485, 4, none⟩ = some (.int .i64 0) := ck_ BK485 4; have hfz39_0 := blk_frozen BK485.out 0; have hfz39_1 := blk_frozen BK485.out 1; have hfz39_2 := blk_frozen BK485.out 2; have hfz39_3 := blk_frozen BK485.out 3; have hfz39_4 := blk_frozen BK485.out 4))
     refine bodyPost_ret (results_ct rfl _ _ gb485 31 #[.int .u8 t494, .int .i64 t495, .int .i64 t496, .int .i64 t497, .int .i64 t498] (0, 0) _ rfl (by (with_reducible repeat (first | refine blk_drewN ?_ _ | refine blk_drew ?_ | refine blk_alloc ?_ _)); refine blk_put (cs := #[.int .u8 t494, .int .i64 t495, .int .i64 t496, .int .i64 t497, .int .i64 0]) ?_ 4 _ rfl; (with_reducible repeat (first | refine blk_drewN ?_ _ | refine blk_drew ?_ | refine blk_alloc ?_ _)); refine blk_put (cs := #[.int .u8 t494, .int .i64 t495, .int .i64 t496, .int .i64 0, .int .i64 0]) ?_ 3 _ rfl; (with_reducible repeat (first | refine blk_drewN ?_ _ | refine blk_drew ?_ | refine blk_alloc ?_ _)); refine blk_put (cs := #[.int .u8 t494, .int .i64 t495, .int .i64 0, .int .i64 0, .int .i64 0]) ?_ 2 _ rfl; (with_reducible repeat (first | refine blk_drewN ?_ _ | refine blk_drew ?_ | refine blk_alloc ?_ _)); refine blk_put (cs := #[.int .u8 t494, .int .i64 0, .int .i64 0, .int .i64 0, .int .i64 0]) ?_ 1 _ rfl; (with_reducible repeat (first | refine blk_drewN ?_ _ | refine blk_drew ?_ | refine blk_alloc ?_ _)); refine blk_put (cs := #[.int .u8 0, .int .i64 0, .int .i64 0, .int .i64 0, .int .i64 0]) ?_ 0 _ rfl; (with_reducible repeat (first | refine blk_drewN ?_ _ | refine blk_drew ?_ | refine blk_alloc ?_ _)); exact BK485.out) Try.underlying31 rfl (by kernel_rfl)) rfl ?_
     exact ⟨by first | rfl | (simp [errW_none, errW_some] <;> rfl) | (simp [*, errW_none, errW_some] <;> rfl) | exact ret_ie _ | (simp [*, errW_none, errW_some, bne]; done), by repeat (first | (with_reducible first | exact HB.out | apply below_alloc | apply pw_below_drewN | apply below_drew1 | refine below_set ?_ GE483.out | refine below_set ?_ GE484.out | refine below_set ?_ GE485.out) | exact HB.out)⟩
    ·
     rw [if_neg c31] at H
     have c31b0 : (t487 == 0) = false := beq_eq_false_iff_ne.mpr c31
     have c31b1 : (t487 != 0) = true := bne_iff_ne.mpr c31
     simp only [Option.some.injEq, Prod.mk.injEq] at H
     obtain ⟨rfl, rfl, rfl, rfl, rfl, rfl⟩ := H
     have hcz42_0 : wc.cell? ⟨gb485, 0, none⟩ = some (.int .u8 0) := ck_ BK485 0
     have hcz42_1 : wc.cell? ⟨gb485, 1, none⟩ = some (.int .i64 0) := ck_ BK485 1
     have hcz42_2 : wc.cell? ⟨gb485, 2, none⟩ = some (.int .i64 0) := ck_ BK485 2
     have hcz42_3 : wc.cell? ⟨gb485, 3, none⟩ = some (.int .i64 0) := ck_ BK485 3
     have hcz42_4 : wc.cell? ⟨gb485, 4, none⟩ = some (.int .i64 0) := ck_ BK485 4
     have hfz42_0 := blk_frozen BK485.out 0
     have hfz42_1 := blk_frozen BK485.out 1
     have hfz42_2 := blk_frozen BK485.out 2
     have hfz42_3 := blk_frozen BK485.out 3
     have hfz42_4 := blk_frozen BK485.out 4
     go_wp2
     refine bodyPost_ret (results_ct rfl _ _ gb485 31 #[.int .u8 0, .int .i64 0, .int .i64 0, .int .i64 0, .int .i64 0] (0, 0) _ rfl (by (with_reducible repeat (first | refine blk_drewN ?_ _ | refine blk_drew ?_ | refine blk_alloc ?_ _)); refine blk_put (cs := #[.int .u8 0, .int .i64 0, .int .i64 0, .int .i64 0, .int .i64 0]) ?_ 4 _ rfl; (with_reducible repeat (first | refine blk_drewN ?_ _ | refine blk_drew ?_ | refine blk_alloc ?_ _)); refine blk_put (cs := #[.int .u8 0, .int .i64 0, .int .i64 0, .int .i64 0, .int .i64 0]) ?_ 3 _ rfl; (with_reducible repeat (first | refine blk_drewN ?_ _ | refine blk_drew ?_ | refine blk_alloc ?_ _)); refine blk_put (cs := #[.int .u8 0, .int .i64 0, .int .i64 0, .int .i64 0, .int .i64 0]) ?_ 2 _ rfl; (with_reducible repeat (first | refine blk_drewN ?_ _ | refine blk_drew ?_ | refine blk_alloc ?_ _)); refine blk_put (cs := #[.int .u8 0, .int .i64 0, .int .i64 0, .int .i64 0, .int .i64 0]) ?_ 1 _ rfl; (with_reducible repeat (first | refine blk_drewN ?_ _ | refine blk_drew ?_ | refine blk_alloc ?_ _)); refine blk_put (cs := #[.int .u8 0, .int .i64 0, .int .i64 0, .int .i64 0, .int .i64 0]) ?_ 0 _ rfl; (with_reducible repeat (first | refine blk_drewN ?_ _ | refine blk_drew ?_ | refine blk_alloc ?_ _)); exact BK485.out) Try.underlying31 rfl (by kernel_rfl)) rfl ?_
     exact ⟨by first | rfl | (simp [errW_none, errW_some] <;> rfl) | (simp [*, errW_none, errW_some] <;> rfl) | exact ret_ie _ | (simp [*, errW_none, errW_some, bne]; done), by repeat (first | (with_reducible first | exact HB.out | apply below_alloc | apply pw_below_drewN | apply below_drew1 | refine below_set ?_ GE483.out | refine below_set ?_ GE484.out | refine below_set ?_ GE485.out) | exact HB.out)⟩

/-! ### millhandref24_Check: function 29 -/
def millhandref24_Check.f (k : Nat) (l0_0 : List Int) (a0_1 : Int) (a0_2 : Int) (a1_0 : Int) (a1_1 : Int) (a1_2 : Int) (a1_3 : Int) (a1_4 : Int) : Option (Int) := (millhandref24_Node.f l0_0 a0_1 a0_2).bind fun t501 => (if t501 = true then ((millhandref24_May.f k l0_0 a0_1 a0_2 a1_0 a1_1 a1_2 a1_3 a1_4).bind fun t502 => (if t502 = true then (some 0) else (some 8))) else (some 8))
theorem millhandref24_Check.mono : ∀ a0 a1 a2 a3 a4 a5 a6 a7 k, LeO (millhandref24_Check.f k a0 a1 a2 a3 a4 a5 a6 a7) (millhandref24_Check.f (k + 1) a0 a1 a2 a3 a4 a5 a6 a7) := by
 intro a0 a1 a2 a3 a4 a5 a6 a7 k
 unfold millhandref24_Check.f
 repeat' first
   | (with_reducible exact millhandref24_May.mono _ _ _ _ _ _ _ _ _)
   | (with_reducible exact LeO.refl _)
   | (with_reducible exact LeO.none _)
   | (with_reducible refine LeO.ite ?_ ?_)
   | (with_reducible refine LeO.bind ?_ (fun _ => ?_))
   | exact millhandref24_May.mono _ _ _ _ _ _ _ _ _
   | exact LeO.none _
   | refine LeO.ite ?_ ?_
   | refine LeO.bind ?_ (fun _ => ?_)
set_option maxHeartbeats 8000000 in
set_option maxRecDepth 100000 in
theorem millhandref24_Check.calls (k : Nat) (A0_0 : Option Addr) (c0_0 : Nat) (l0_0 : List Int) (a0_1 : Int) (a0_2 : Int) (a1_0 : Int) (a1_1 : Int) (a1_2 : Int) (a1_3 : Int) (a1_4 : Int) (r : Int) (w : World) (hr0_0 : Kd.C (Kd.int .i64) w A0_0 l0_0.length l0_0) (hc0_0 : l0_0.length ≤ c0_0) (h : millhandref24_Check.f k l0_0 a0_1 a0_2 a1_0 a1_1 a1_2 a1_3 a1_4 = some r) :
  Calls Try.prog 29 #[.agg #[.slice A0_0 l0_0.length c0_0, .int .i64 a0_1, .int .i64 a0_2], .agg #[.int .u8 a1_0, .int .i64 a1_1, .int .i64 a1_2, .int .i64 a1_3, .int .i64 a1_4]] w fun e w' => e = .returned (.int .i64 r) ∧ Below w.heap.size w w' := by
 have hu24 := Try.underlying24
 have hu31 := Try.underlying31
 have HR0_0 := Aside0.mk hr0_0
 have HC0_0 := Aside0.mk hc0_0
 clear hr0_0 hc0_0
 have HB := Aside0.mk (Below.refl w.heap.size w)
 have H : ((millhandref24_Node.f l0_0 a0_1 a0_2).bind fun t501 => (if t501 = true then ((millhandref24_May.f k l0_0 a0_1 a0_2 a1_0 a1_1 a1_2 a1_3 a1_4).bind fun t502 => (if t502 = true then (some 0) else (some 8))) else (some 8))) = some r := h
 clear h
 replace H := Option.bind_eq_some_iff.mp H
 obtain ⟨t501, A30, H⟩ := H
 replace H : (if t501 = true then ((millhandref24_May.f k l0_0 a0_1 a0_2 a1_0 a1_1 a1_2 a1_3 a1_4).bind fun t502 => (if t502 = true then (some 0) else (some 8))) else (some 8)) = some r := H
 have A3 := Aside0.mk A30
 clear A30
 by_cases c4 : t501 = true
 ·
  subst c4
  have H1 : ((millhandref24_May.f k l0_0 a0_1 a0_2 a1_0 a1_1 a1_2 a1_3 a1_4).bind fun t502 => (if t502 = true then (some 0) else (some 8))) = some r := by rw [if_pos rfl] at H; exact H
  clear H
  have H := H1
  clear H1
  replace H := Option.bind_eq_some_iff.mp H
  obtain ⟨t502, A50, H⟩ := H
  replace H : (if t502 = true then (some 0) else (some 8)) = some r := H
  have A5 := Aside0.mk A50
  clear A50
  by_cases c6 : t502 = true
  ·
   subst c6
   have H1 : (some 0) = some r := by rw [if_pos rfl] at H; exact H
   clear H
   have H := H1
   clear H1
   obtain rfl := Option.some.inj H
   go_enter Try.func29, Try.ntmps29
   go_wp2_with (first | ((with_reducible refine gate_dst (N := 2) rfl ?_); refine box_event ?hg (N := 2) ?hd (cs := #[.slice A0_0 l0_0.length c0_0, .int .i64 a0_1, .int .i64 a0_2]) (t := 24) ?hr ?_; (case hd => rfl); (case hg => rfl); (case hr => first | (go_simp; done) | (go_simp; rfl)); intro gb499 hg w7 hbox hb; have BK499 := Aside0.mk (hbox); have GW499 := bz_ (hB_ HB.out) hg; have GE499 := bz_ (hB_ HB.out) hg; replace HB := Aside0.mk (below_step (hB_ HB.out) hb); clear hb hbox hg) | ((with_reducible refine gate_dst (N := 3) rfl ?_); refine box_event ?hg (N := 3) ?hd (cs := #[.int .u8 a1_0, .int .i64 a1_1, .int .i64 a1_2, .int .i64 a1_3, .int .i64 a1_4]) (t := 31) ?hr ?_; (case hd => rfl); (case hg => rfl); (case hr => first | (go_simp; done) | (go_simp; rfl)); intro gb500 hg w8 hbox hb; have BK500 := Aside0.mk (hbox); have GW500 := bz_ (hB_ HB.out) hg; have GE500 := bz_ (hB_ HB.out) hg; replace HB := Aside0.mk (below_step (hB_ HB.out) hb); have NB499_500 := bn_ BK499 hg; have NB500_499 := bm_ BK499 hg; replace BK499 := bs_ BK499 hb; clear hb hbox hg; have hcz10_0 : w8.cell? ⟨gb499, 0, none⟩ = some (.slice A0_0 l0_0.length c0_0) := ck_ BK499 0; have hcz10_1 : w8.cell? ⟨gb499, 1, none⟩ = some (.int .i64 a0_1) := ck_ BK499 1; have hcz10_2 : w8.cell? ⟨gb499, 2, none⟩ = some (.int .i64 a0_2) := ck_ BK499 2; have hfz10_0 := blk_frozen BK499.out 0; have hfz10_1 := blk_frozen BK499.out 1; have hfz10_2 := blk_frozen BK499.out 2) | ((with_reducible refine gate_callee (f := 45) rfl ?_); refine goesL_ (some 6) rfl rfl Try.func45 (by kernel_rfl) rfl #[.agg #[.slice A0_0 l0_0.length c0_0, .int .i64 a0_1, .int .i64 a0_2]] rfl (by (try simp only [List.map_toArray, List.map_cons, List.map_nil]); first | done | rfl | (simp only [List.length_drop, List.length_take]; rfl)) ?_; (with_reducible refine (millhandref24_Node.calls _ _ l0_0 a0_1 a0_2 true _ ?side1 ?side2 A3.out).mono ?_); (case side1 => repeat (first | exact (Kd.C_below HR0_0.out HB.out) | (with_reducible refine Kd.C_alloc ?_ _) | (with_reducible refine Kd.C_drewN ?_ _) | (with_reducible refine Kd.C_drew ?_))); (case side2 => exact HC0_0.out); rintro e w11 ⟨rfl, hb⟩; refine ⟨_, rfl, ?_⟩; replace BK499 := bs_ BK499 hb; replace BK500 := bs_ BK500 hb; replace HB := Aside0.mk (below_step (hB_ HB.out) hb); (try clear hb); (try clear hb2); (try clear hk); (try clear hi); have hcz12_0 : w11.cell? ⟨gb499, 0, none⟩ = some (.slice A0_0 l0_0.length c0_0) := ck_ BK499 0; have hcz12_1 : w11.cell? ⟨gb499, 1, none⟩ = some (.int .i64 a0_1) := ck_ BK499 1; have hcz12_2 : w11.cell? ⟨gb499, 2, none⟩ = some (.int .i64 a0_2) := ck_ BK499 2; have hfz12_0 := blk_frozen BK499.out 0; have hfz12_1 := blk_frozen BK499.out 1; have hfz12_2 := blk_frozen BK499.out 2; have hcz13_0 : w11.cell? ⟨gb500, 0, none⟩ = some (.int .u8 a1_0) := ck_ BK500 0; have hcz13_1 : w11.cell? ⟨gb500, 1, none⟩ = some (.int .i64 a1_1) := ck_ BK500 1; have hcz13_2 : w11.cell? ⟨gb500, 2, none⟩ = some (.int .i64 a1_2) := ck_ BK500 2; have hcz13_3 : w11.cell? ⟨gb500, 3, none⟩ = some (.int .i64 a1_3) := ck_ BK500 3; have hcz13_4 : w11.cell? ⟨gb500, 4, none⟩ = some (.int .i64 a1_4) := ck_ BK500 4; have hfz13_0 := blk_frozen BK500.out 0; have hfz13_1 := blk_frozen BK500.out 1; have hfz13_2 := blk_frozen BK500.out 2; have hfz13_3 := blk_frozen BK500.out 3; have hfz13_4 := blk_frozen BK500.out 4) | (go_at_call 47; (with_reducible refine (millhandref24_May.calls k _ _ l0_0 a0_1 a0_2 a1_0 a1_1 a1_2 a1_3 a1_4 true _ ?side1 ?side2 A5.out).mono ?_); (case side1 => repeat (first | exact (Kd.C_below HR0_0.out HB.out) | (with_reducible refine Kd.C_alloc ?_ _) | (with_reducible refine Kd.C_drewN ?_ _) | (with_reducible refine Kd.C_drew ?_))); (case side2 => exact HC0_0.out); rintro e w14 ⟨rfl, hb⟩; replace BK499 := bs_ BK499 hb; replace BK500 := bs_ BK500 hb; replace HB := Aside0.mk (below_step (hB_ HB.out) hb); (try clear hb); (try clear hb2); (try clear hk); (try clear hi)))
   go_ret
   exact ⟨by first | rfl | (simp [errW_none, errW_some] <;> rfl) | (simp [*, errW_none, errW_some] <;> rfl) | exact ret_ie _ | (simp [*, errW_none, errW_some, bne]; done), by repeat (first | (with_reducible first | exact HB.out | apply below_alloc | apply pw_below_drewN | apply below_drew1 | refine below_set ?_ GE499.out | refine below_set ?_ GE500.out) | exact HB.out)⟩
  ·
   replace c6 := Bool.eq_false_iff.mpr c6
   subst c6
   have H1 : (some 8) = some r := by rw [if_neg (show ¬ (false = true) by decide)] at H; exact H
   clear H
   have H := H1
   clear H1
   obtain rfl := Option.some.inj H
   go_enter Try.func29, Try.ntmps29
   go_wp2_with (first | ((with_reducible refine gate_dst (N := 2) rfl ?_); refine box_event ?hg (N := 2) ?hd (cs := #[.slice A0_0 l0_0.length c0_0, .int .i64 a0_1, .int .i64 a0_2]) (t := 24) ?hr ?_; (case hd => rfl); (case hg => rfl); (case hr => first | (go_simp; done) | (go_simp; rfl)); intro gb499 hg w15 hbox hb; have BK499 := Aside0.mk (hbox); have GW499 := bz_ (hB_ HB.out) hg; have GE499 := bz_ (hB_ HB.out) hg; replace HB := Aside0.mk (below_step (hB_ HB.out) hb); clear hb hbox hg) | ((with_reducible refine gate_dst (N := 3) rfl ?_); refine box_event ?hg (N := 3) ?hd (cs := #[.int .u8 a1_0, .int .i64 a1_1, .int .i64 a1_2, .int .i64 a1_3, .int .i64 a1_4]) (t := 31) ?hr ?_; (case hd => rfl); (case hg => rfl); (case hr => first | (go_simp; done) | (go_simp; rfl)); intro gb500 hg w16 hbox hb; have BK500 := Aside0.mk (hbox); have GW500 := bz_ (hB_ HB.out) hg; have GE500 := bz_ (hB_ HB.out) hg; replace HB := Aside0.mk (below_step (hB_ HB.out) hb); have NB499_500 := bn_ BK499 hg; have NB500_499 := bm_ BK499 hg; replace BK499 := bs_ BK499 hb; clear hb hbox hg; have hcz18_0 : w16.cell? ⟨gb499, 0, none⟩ = some (.slice A0_0 l0_0.length c0_0) := ck_ BK499 0; have hcz18_1 : w16.cell? ⟨gb499, 1, none⟩ = some (.int .i64 a0_1) := ck_ BK499 1; have hcz18_2 : w16.cell? ⟨gb499, 2, none⟩ = some (.int .i64 a0_2) := ck_ BK499 2; have hfz18_0 := blk_frozen BK499.out 0; have hfz18_1 := blk_frozen BK499.out 1; have hfz18_2 := blk_frozen BK499.out 2) | ((with_reducible refine gate_callee (f := 45) rfl ?_); refine goesL_ (some 6) rfl rfl Try.func45 (by kernel_rfl) rfl #[.agg #[.slice A0_0 l0_0.length c0_0, .int .i64 a0_1, .int .i64 a0_2]] rfl (by (try simp only [List.map_toArray, List.map_cons, List.map_nil]); first | done | rfl | (simp only [List.length_drop, List.length_take]; rfl)) ?_; (with_reducible refine (millhandref24_Node.calls _ _ l0_0 a0_1 a0_2 true _ ?side1 ?side2 A3.out).mono ?_); (case side1 => repeat (first | exact (Kd.C_below HR0_0.out HB.out) | (with_reducible refine Kd.C_alloc ?_ _) | (with_reducible refine Kd.C_drewN ?_ _) | (with_reducible refine Kd.C_drew ?_))); (case side2 => exact HC0_0.out); rintro e w19 ⟨rfl, hb⟩; refine ⟨_, rfl, ?_⟩; replace BK499 := bs_ BK499 hb; replace BK500 := bs_ BK500 hb; replace HB := Aside0.mk (below_step (hB_ HB.out) hb); (try clear hb); (try clear hb2); (try clear hk); (try clear hi); have hcz20_0 : w19.cell? ⟨gb499, 0, none⟩ = some (.slice A0_0 l0_0.length c0_0) := ck_ BK499 0; have hcz20_1 : w19.cell? ⟨gb499, 1, none⟩ = some (.int .i64 a0_1) := ck_ BK499 1; have hcz20_2 : w19.cell? ⟨gb499, 2, none⟩ = some (.int .i64 a0_2) := ck_ BK499 2; have hfz20_0 := blk_frozen BK499.out 0; have hfz20_1 := blk_frozen BK499.out 1; have hfz20_2 := blk_frozen BK499.out 2; have hcz21_0 : w19.cell? ⟨gb500, 0, none⟩ = some (.int .u8 a1_0) := ck_ BK500 0; have hcz21_1 : w19.cell? ⟨gb500, 1, none⟩ = some (.int .i64 a1_1) := ck_ BK500 1; have hcz21_2 : w19.cell? ⟨gb500, 2, none⟩ = some (.int .i64 a1_2) := ck_ BK500 2; have hcz21_3 : w19.cell? ⟨gb500, 3, none⟩ = some (.int .i64 a1_3) := ck_ BK500 3; have hcz21_4 : w19.cell? ⟨gb500, 4, none⟩ = some (.int .i64 a1_4) := ck_ BK500 4; have hfz21_0 := blk_frozen BK500.out 0; have hfz21_1 := blk_frozen BK500.out 1; have hfz21_2 := blk_frozen BK500.out 2; have hfz21_3 := blk_frozen BK500.out 3; have hfz21_4 := blk_frozen BK500.out 4) | (go_at_call 47; (with_reducible refine (millhandref24_May.calls k _ _ l0_0 a0_1 a0_2 a1_0 a1_1 a1_2 a1_3 a1_4 false _ ?side1 ?side2 A5.out).mono ?_); (case side1 => repeat (first | exact (Kd.C_below HR0_0.out HB.out) | (with_reducible refine Kd.C_alloc ?_ _) | (with_reducible refine Kd.C_drewN ?_ _) | (with_reducible refine Kd.C_drew ?_))); (case side2 => exact HC0_0.out); rintro e w22 ⟨rfl, hb⟩; replace BK499 := bs_ BK499 hb; replace BK500 := bs_ BK500 hb; replace HB := Aside0.mk (below_step (hB_ HB.out) hb); (try clear hb); (try clear hb2); (try clear hk); (try clear hi)))
   go_ret
   exact ⟨by first | rfl | (simp [errW_none, errW_some] <;> rfl) | (simp [*, errW_none, errW_some] <;> rfl) | exact ret_ie _ | (simp [*, errW_none, errW_some, bne]; done), by repeat (first | (with_reducible first | exact HB.out | apply below_alloc | apply pw_below_drewN | apply below_drew1 | refine below_set ?_ GE499.out | refine below_set ?_ GE500.out) | exact HB.out)⟩
 ·
  replace c4 := Bool.eq_false_iff.mpr c4
  subst c4
  have H1 : (some 8) = some r := by rw [if_neg (show ¬ (false = true) by decide)] at H; exact H
  clear H
  have H := H1
  clear H1
  obtain rfl := Option.some.inj H
  go_enter Try.func29, Try.ntmps29
  go_wp2_with (first | ((with_reducible refine gate_dst (N := 2) rfl ?_); refine box_event ?hg (N := 2) ?hd (cs := #[.slice A0_0 l0_0.length c0_0, .int .i64 a0_1, .int .i64 a0_2]) (t := 24) ?hr ?_; (case hd => rfl); (case hg => rfl); (case hr => first | (go_simp; done) | (go_simp; rfl)); intro gb499 hg w23 hbox hb; have BK499 := Aside0.mk (hbox); have GW499 := bz_ (hB_ HB.out) hg; have GE499 := bz_ (hB_ HB.out) hg; replace HB := Aside0.mk (below_step (hB_ HB.out) hb); clear hb hbox hg) | ((with_reducible refine gate_dst (N := 3) rfl ?_); refine box_event ?hg (N := 3) ?hd (cs := #[.int .u8 a1_0, .int .i64 a1_1, .int .i64 a1_2, .int .i64 a1_3, .int .i64 a1_4]) (t := 31) ?hr ?_; (case hd => rfl); (case hg => rfl); (case hr => first | (go_simp; done) | (go_simp; rfl)); intro gb500 hg w24 hbox hb; have BK500 := Aside0.mk (hbox); have GW500 := bz_ (hB_ HB.out) hg; have GE500 := bz_ (hB_ HB.out) hg; replace HB := Aside0.mk (below_step (hB_ HB.out) hb); have NB499_500 := bn_ BK499 hg; have NB500_499 := bm_ BK499 hg; replace BK499 := bs_ BK499 hb; clear hb hbox hg; have hnb25 := NB499_500.out; have hnc25 := NB500_499.out; have hcz26_0 : w24.cell? ⟨gb499, 0, none⟩ = some (.slice A0_0 l0_0.length c0_0) := ck_ BK499 0; have hcz26_1 : w24.cell? ⟨gb499, 1, none⟩ = some (.int .i64 a0_1) := ck_ BK499 1; have hcz26_2 : w24.cell? ⟨gb499, 2, none⟩ = some (.int .i64 a0_2) := ck_ BK499 2; have hfz26_0 := blk_frozen BK499.out 0; have hfz26_1 := blk_frozen BK499.out 1; have hfz26_2 := blk_frozen BK499.out 2) | ((with_reducible refine gate_callee (f := 45) rfl ?_); refine goesL_ (some 6) rfl rfl Try.func45 (by kernel_rfl) rfl #[.agg #[.slice A0_0 l0_0.length c0_0, .int .i64 a0_1, .int .i64 a0_2]] rfl (by (try simp only [List.map_toArray, List.map_cons, List.map_nil]); first | done | rfl | (simp only [List.length_drop, List.length_take]; rfl)) ?_; (with_reducible refine (millhandref24_Node.calls _ _ l0_0 a0_1 a0_2 false _ ?side1 ?side2 A3.out).mono ?_); (case side1 => repeat (first | exact (Kd.C_below HR0_0.out HB.out) | (with_reducible refine Kd.C_alloc ?_ _) | (with_reducible refine Kd.C_drewN ?_ _) | (with_reducible refine Kd.C_drew ?_))); (case side2 => exact HC0_0.out); rintro e w27 ⟨rfl, hb⟩; refine ⟨_, rfl, ?_⟩; replace BK499 := bs_ BK499 hb; replace BK500 := bs_ BK500 hb; replace HB := Aside0.mk (below_step (hB_ HB.out) hb); (try clear hb); (try clear hb2); (try clear hk); (try clear hi)))
  go_ret
  exact ⟨by first | rfl | (simp [errW_none, errW_some] <;> rfl) | (simp [*, errW_none, errW_some] <;> rfl) | exact ret_ie _ | (simp [*, errW_none, errW_some, bne]; done), by repeat (first | (with_reducible first | exact HB.out | apply below_alloc | apply pw_below_drewN | apply below_drew1 | refine below_set ?_ GE499.out | refine below_set ?_ GE500.out) | exact HB.out)⟩

/-! ### millhandref24_Ended: function 44 -/
def millhandref24_Ended.f (a0_0 : Int) (a0_1 : Int) (a0_2 : Int) (a0_3 : Int) (a0_4 : Int) : Option (Bool) := some (decide (a0_0 ≥ 4))
set_option maxHeartbeats 8000000 in
set_option maxRecDepth 100000 in
theorem millhandref24_Ended.calls (a0_0 : Int) (a0_1 : Int) (a0_2 : Int) (a0_3 : Int) (a0_4 : Int) (r : Bool) (w : World) (h : millhandref24_Ended.f a0_0 a0_1 a0_2 a0_3 a0_4 = some r) :
  Calls Try.prog 44 #[.agg #[.int .u8 a0_0, .int .i64 a0_1, .int .i64 a0_2, .int .i64 a0_3, .int .i64 a0_4]] w fun e w' => e = .returned (.bool r) ∧ Below w.heap.size w w' := by
 have hu31 := Try.underlying31
 have HB := Aside0.mk (Below.refl w.heap.size w)
 have H : (some (decide (a0_0 ≥ 4))) = some r := h
 clear h
 obtain rfl := Option.some.inj H
 go_enter Try.func44, Try.ntmps44
 go_wp2_with (first | ((with_reducible refine gate_dst (N := 1) rfl ?_); refine box_event ?hg (N := 1) ?hd (cs := #[.int .u8 a0_0, .int .i64 a0_1, .int .i64 a0_2, .int .i64 a0_3, .int .i64 a0_4]) (t := 31) ?hr ?_; (case hd => rfl); (case hg => rfl); (case hr => first | (go_simp; done) | (go_simp; rfl)); intro gb503 hg w2 hbox hb; have BK503 := Aside0.mk (hbox); have GW503 := bz_ (hB_ HB.out) hg; have GE503 := bz_ (hB_ HB.out) hg; replace HB := Aside0.mk (below_step (hB_ HB.out) hb); clear hb hbox hg; have hcz3_0 : w2.cell? ⟨gb503, 0, none⟩ = some (.int .u8 a0_0) := ck_ BK503 0; have hcz3_1 : w2.cell? ⟨gb503, 1, none⟩ = some (.int .i64 a0_1) := ck_ BK503 1; have hcz3_2 : w2.cell? ⟨gb503, 2, none⟩ = some (.int .i64 a0_2) := ck_ BK503 2; have hcz3_3 : w2.cell? ⟨gb503, 3, none⟩ = some (.int .i64 a0_3) := ck_ BK503 3; have hcz3_4 : w2.cell? ⟨gb503, 4, none⟩ = some (.int .i64 a0_4) := ck_ BK503 4; have hfz3_0 := blk_frozen BK503.out 0; have hfz3_1 := blk_frozen BK503.out 1; have hfz3_2 := blk_frozen BK503.out 2; have hfz3_3 := blk_frozen BK503.out 3; have hfz3_4 := blk_frozen BK503.out 4))
 go_ret
 exact ⟨by first | rfl | (simp [errW_none, errW_some] <;> rfl) | (simp [*, errW_none, errW_some] <;> rfl) | exact ret_ie _ | (simp [*, errW_none, errW_some, bne]; done), by repeat (first | (with_reducible first | exact HB.out | apply below_alloc | apply pw_below_drewN | apply below_drew1 | refine below_set ?_ GE503.out) | exact HB.out)⟩

/-! ### millhandref24_Drop: function 27 -/
def millhandref24_Drop.j0 : Nat → Int → Bool → Int → Int → Int → Int → Int → Option (Int × Int × Int × Int × Int × Int)
 | 0, _, _, _, _, _, _, _ => none
 | k + 1, x6, x15, x506000, x506001, x506002, x506003, x506004 => if x15 = true then (if 240 = 0 then (some (6, x506001, 0, 0, 0, 0)) else (some (0, 0, 0, 0, 0, 240))) else (if x6 = 0 then (some (6, x506001, 0, 0, 0, 0)) else (some (0, 0, 0, 0, 0, x6)))
def millhandref24_Drop.f (k : Nat) (l0_0 : List Int) (a0_1 : Int) (a0_2 : Int) (a1_0 : Int) (a1_1 : Int) (a1_2 : Int) (a1_3 : Int) (a1_4 : Int) : Option (Int × Int × Int × Int × Int × Int) := (millhandref24_Check.f k l0_0 a0_1 a0_2 a1_0 a1_1 a1_2 a1_3 a1_4).bind fun t507 => (if t507 = 0 then ((millhandref24_Ended.f a1_0 a1_1 a1_2 a1_3 a1_4).bind fun t508 => (millhandref24_Drop.j0 k t507 t508 a1_0 a1_1 a1_2 a1_3 a1_4)) else (millhandref24_Drop.j0 k t507 false a1_0 a1_1 a1_2 a1_3 a1_4))
theorem millhandref24_Drop.mono_l : ∀ k, (∀ y0 y1 y2 y3 y4 y5 y6, LeO (millhandref24_Drop.j0 k y0 y1 y2 y3 y4 y5 y6) (millhandref24_Drop.j0 (k + 1) y0 y1 y2 y3 y4 y5 y6))
 | 0 => fun _ _ _ _ _ _ _ r h => by simp [millhandref24_Drop.j0] at h
 | k + 1 => by
  have ih0 := millhandref24_Drop.mono_l k
  ·
   intro y0 y1 y2 y3 y4 y5 y6
   unfold millhandref24_Drop.j0
   repeat' first
   | (with_reducible exact ih0 _ _ _ _ _ _ _)
   | (with_reducible exact millhandref24_Check.mono _ _ _ _ _ _ _ _ _)
   | (with_reducible exact LeO.refl _)
   | (with_reducible exact LeO.none _)
   | (with_reducible refine LeO.ite ?_ ?_)
   | (with_reducible refine LeO.bind ?_ (fun _ => ?_))
   | exact ih0 _ _ _ _ _ _ _
   | exact millhandref24_Check.mono _ _ _ _ _ _ _ _ _
   | exact LeO.none _
   | refine LeO.ite ?_ ?_
   | refine LeO.bind ?_ (fun _ => ?_)
theorem millhandref24_Drop.mono : ∀ a0 a1 a2 a3 a4 a5 a6 a7 k, LeO (millhandref24_Drop.f k a0 a1 a2 a3 a4 a5 a6 a7) (millhandref24_Drop.f (k + 1) a0 a1 a2 a3 a4 a5 a6 a7) := by
 intro a0 a1 a2 a3 a4 a5 a6 a7 k
 have ih0 := millhandref24_Drop.mono_l k
 unfold millhandref24_Drop.f
 repeat' first
   | (with_reducible exact ih0 _ _ _ _ _ _ _)
   | (with_reducible exact millhandref24_Check.mono _ _ _ _ _ _ _ _ _)
   | (with_reducible exact LeO.refl _)
   | (with_reducible exact LeO.none _)
   | (with_reducible refine LeO.ite ?_ ?_)
   | (with_reducible refine LeO.bind ?_ (fun _ => ?_))
   | exact ih0 _ _ _ _ _ _ _
   | exact millhandref24_Check.mono _ _ _ _ _ _ _ _ _
   | exact LeO.none _
   | refine LeO.ite ?_ ?_
   | refine LeO.bind ?_ (fun _ => ?_)
set_option maxHeartbeats 8000000 in
set_option maxRecDepth 100000 in
theorem millhandref24_Drop.calls (k : Nat) (A0_0 : Option Addr) (c0_0 : Nat) (l0_0 : List Int) (a0_1 : Int) (a0_2 : Int) (a1_0 : Int) (a1_1 : Int) (a1_2 : Int) (a1_3 : Int) (a1_4 : Int) (r1 : Int) (r2 : Int) (r3 : Int) (r4 : Int) (r5 : Int) (r6 : Int) (w : World) (hr0_0 : Kd.C (Kd.int .i64) w A0_0 l0_0.length l0_0) (hc0_0 : l0_0.length ≤ c0_0) (h : millhandref24_Drop.f k l0_0 a0_1 a0_2 a1_0 a1_1 a1_2 a1_3 a1_4 = some (r1, r2, r3, r4, r5, r6)) :
  Calls Try.prog 27 #[.agg #[.slice A0_0 l0_0.length c0_0, .int .i64 a0_1, .int .i64 a0_2], .agg #[.int .u8 a1_0, .int .i64 a1_1, .int .i64 a1_2, .int .i64 a1_3, .int .i64 a1_4]] w fun e w' => e = .returned (.tuple #[.agg #[.int .u8 r1, .int .i64 r2, .int .i64 r3, .int .i64 r4, .int .i64 r5], .int .i64 r6]) ∧ Below w.heap.size w w' := by
 have hu24 := Try.underlying24
 have hu31 := Try.underlying31
 have HR0_0 := Aside0.mk hr0_0
 have HC0_0 := Aside0.mk hc0_0
 clear hr0_0 hc0_0
 have HB := Aside0.mk (Below.refl w.heap.size w)
 have H : ((millhandref24_Check.f k l0_0 a0_1 a0_2 a1_0 a1_1 a1_2 a1_3 a1_4).bind fun t507 => (if t507 = 0 then ((millhandref24_Ended.f a1_0 a1_1 a1_2 a1_3 a1_4).bind fun t508 => (millhandref24_Drop.j0 k t507 t508 a1_0 a1_1 a1_2 a1_3 a1_4)) else (millhandref24_Drop.j0 k t507 false a1_0 a1_1 a1_2 a1_3 a1_4))) = some (r1, r2, r3, r4, r5, r6) := h
 clear h
 replace H := Option.bind_eq_some_iff.mp H
 obtain ⟨t507, A30, H⟩ := H
 try dsimp only at H
 have A3 := Aside0.mk A30
 clear A30
 have HC4 := Aside0.mk H
 clear H
 go_enter Try.func27, Try.ntmps27
 go_upto_region 2 with (first | ((with_reducible refine gate_dst (N := 2) rfl ?_); refine box_event ?hg (N := 2) ?hd (cs := #[.slice A0_0 l0_0.length c0_0, .int .i64 a0_1, .int .i64 a0_2]) (t := 24) ?hr ?_; (case hd => rfl); (case hg => rfl); (case hr => first | (go_simp; done) | (go_simp; rfl)); intro gb504 hg w5 hbox hb; have BK504 := Aside0.mk (hbox); have GW504 := bz_ (hB_ HB.out) hg; have GE504 := bz_ (hB_ HB.out) hg; replace HB := Aside0.mk (below_step (hB_ HB.out) hb); clear hb hbox hg) | ((with_reducible refine gate_dst (N := 3) rfl ?_); refine box_event ?hg (N := 3) ?hd (cs := #[.int .u8 a1_0, .int .i64 a1_1, .int .i64 a1_2, .int .i64 a1_3, .int .i64 a1_4]) (t := 31) ?hr ?_; (case hd => rfl); (case hg => rfl); (case hr => first | (go_simp; done) | (go_simp; rfl)); intro gb505 hg w6 hbox hb; have BK505 := Aside0.mk (hbox); have GW505 := bz_ (hB_ HB.out) hg; have GE505 := bz_ (hB_ HB.out) hg; replace HB := Aside0.mk (below_step (hB_ HB.out) hb); have NB504_505 := bn_ BK504 hg; have NB505_504 := bm_ BK504 hg; replace BK504 := bs_ BK504 hb; clear hb hbox hg) | ((with_reducible refine gate_dst (N := 4) rfl ?_); refine box_event ?hg (N := 4) ?hd (cs := #[.int .u8 0, .int .i64 0, .int .i64 0, .int .i64 0, .int .i64 0]) (t := 31) ?hr ?_; (case hd => rfl); (case hg => rfl); (case hr => first | (go_simp; done) | (go_simp; rfl)); intro gb506 hg w7 hbox hb; have BK506 := Aside0.mk (hbox); have GW506 := bz_ (hB_ HB.out) hg; have GE506 := bz_ (hB_ HB.out) hg; replace HB := Aside0.mk (below_step (hB_ HB.out) hb); have NB504_506 := bn_ BK504 hg; have NB506_504 := bm_ BK504 hg; replace BK504 := bs_ BK504 hb; have NB505_506 := bn_ BK505 hg; have NB506_505 := bm_ BK505 hg; replace BK505 := bs_ BK505 hb; clear hb hbox hg; have hnb8 := NB504_505.out; have hnc8 := NB505_504.out; have hcz10_0 : w7.cell? ⟨gb504, 0, none⟩ = some (.slice A0_0 l0_0.length c0_0) := ck_ BK504 0; have hcz10_1 : w7.cell? ⟨gb504, 1, none⟩ = some (.int .i64 a0_1) := ck_ BK504 1; have hcz10_2 : w7.cell? ⟨gb504, 2, none⟩ = some (.int .i64 a0_2) := ck_ BK504 2; have hfz10_0 := blk_frozen BK504.out 0; have hfz10_1 := blk_frozen BK504.out 1; have hfz10_2 := blk_frozen BK504.out 2; have hcz12_0 : w7.cell? ⟨gb505, 0, none⟩ = some (.int .u8 a1_0) := ck_ BK505 0; have hcz12_1 : w7.cell? ⟨gb505, 1, none⟩ = some (.int .i64 a1_1) := ck_ BK505 1; have hcz12_2 : w7.cell? ⟨gb505, 2, none⟩ = some (.int .i64 a1_2) := ck_ BK505 2; have hcz12_3 : w7.cell? ⟨gb505, 3, none⟩ = some (.int .i64 a1_3) := ck_ BK505 3; have hcz12_4 : w7.cell? ⟨gb505, 4, none⟩ = some (.int .i64 a1_4) := ck_ BK505 4; have hfz12_0 := blk_frozen BK505.out 0; have hfz12_1 := blk_frozen BK505.out 1; have hfz12_2 := blk_frozen BK505.out 2; have hfz12_3 := blk_frozen BK505.out 3; have hfz12_4 := blk_frozen BK505.out 4) | ((with_reducible refine gate_callee (f := 29) rfl ?_); refine goesL_ (some 9) rfl rfl Try.func29 (by kernel_rfl) rfl #[.agg #[.slice A0_0 l0_0.length c0_0, .int .i64 a0_1, .int .i64 a0_2], .agg #[.int .u8 a1_0, .int .i64 a1_1, .int .i64 a1_2, .int .i64 a1_3, .int .i64 a1_4]] rfl (by (try simp only [List.map_toArray, List.map_cons, List.map_nil]); first | done | rfl | (simp only [List.length_drop, List.length_take]; rfl)) ?_; (with_reducible refine (millhandref24_Check.calls k _ _ l0_0 a0_1 a0_2 a1_0 a1_1 a1_2 a1_3 a1_4 t507 _ ?side1 ?side2 A3.out).mono ?_); (case side1 => repeat (first | exact (Kd.C_below HR0_0.out HB.out) | (with_reducible refine Kd.C_alloc ?_ _) | (with_reducible refine Kd.C_drewN ?_ _) | (with_reducible refine Kd.C_drew ?_))); (case side2 => exact HC0_0.out); rintro e w13 ⟨rfl, hb⟩; refine ⟨_, rfl, ?_⟩; replace BK504 := bs_ BK504 hb; replace BK505 := bs_ BK505 hb; replace BK506 := bs_ BK506 hb; replace HB := Aside0.mk (below_step (hB_ HB.out) hb); (try clear hb); (try clear hb2); (try clear hk); (try clear hi)))
 (try simp only [Act.put, sa_, s0_, s1_])
 go_cut [15] (fun v15 wc => ∃ (kq : Nat) (x15_3 : Bool), v15 = .bool x15_3 ∧ Aside0 (millhandref24_Drop.j0 kq t507 x15_3 a1_0 a1_1 a1_2 a1_3 a1_4 = some (r1, r2, r3, r4, r5, r6)) ∧ Aside0 (kq ≤ k) ∧ Aside0 (wc.heap[gb504]? = some (.cells #[(.slice A0_0 l0_0.length c0_0), .int .i64 a0_1, .int .i64 a0_2] 24 (0, 0))) ∧ Aside0 (wc.heap[gb505]? = some (.cells #[.int .u8 a1_0, .int .i64 a1_1, .int .i64 a1_2, .int .i64 a1_3, .int .i64 a1_4] 31 (0, 0))) ∧ Aside0 (wc.heap[gb506]? = some (.cells #[.int .u8 0, .int .i64 0, .int .i64 0, .int .i64 0, .int .i64 0] 31 (0, 0))) ∧ Aside0 (Below w.heap.size w wc))
 case first =>
  have H := HC4.out
  clear HC4
  by_cases c14 : t507 = 0
  ·
   rw [if_pos c14] at H
   have c14b0 : (t507 == 0) = true := beq_iff_eq.mpr c14
   have c14b1 : (t507 != 0) = false := bne_eq_false_iff_eq.mpr c14
   clear c14
   (first | rw [c14b0] | (simp only [i64_w, i32_w]; rw [c14b0]) | skip)
   replace H := Option.bind_eq_some_iff.mp H
   obtain ⟨t508, A150, H⟩ := H
   replace H : (millhandref24_Drop.j0 k t507 t508 a1_0 a1_1 a1_2 a1_3 a1_4) = some (r1, r2, r3, r4, r5, r6) := H
   have A15 := Aside0.mk A150
   clear A150
   have H' := Aside0.mk H
   clear H
   have hcz18_0 : w13.cell? ⟨gb505, 0, none⟩ = some (.int .u8 a1_0) := ck_ BK505 0
   have hcz18_1 : w13.cell? ⟨gb505, 1, none⟩ = some (.int .i64 a1_1) := ck_ BK505 1
   have hcz18_2 : w13.cell? ⟨gb505, 2, none⟩ = some (.int .i64 a1_2) := ck_ BK505 2
   have hcz18_3 : w13.cell? ⟨gb505, 3, none⟩ = some (.int .i64 a1_3) := ck_ BK505 3
   have hcz18_4 : w13.cell? ⟨gb505, 4, none⟩ = some (.int .i64 a1_4) := ck_ BK505 4
   have hfz18_0 := blk_frozen BK505.out 0
   have hfz18_1 := blk_frozen BK505.out 1
   have hfz18_2 := blk_frozen BK505.out 2
   have hfz18_3 := blk_frozen BK505.out 3
   have hfz18_4 := blk_frozen BK505.out 4
   go_wp2_with (first | (go_at_call 44; (with_reducible refine (millhandref24_Ended.calls a1_0 a1_1 a1_2 a1_3 a1_4 t508 _ A15.out).mono ?_); rintro e w19 ⟨rfl, hb⟩; replace BK504 := bs_ BK504 hb; replace BK505 := bs_ BK505 hb; replace BK506 := bs_ BK506 hb; replace HB := Aside0.mk (below_step (hB_ HB.out) hb); (try clear hb); (try clear hb2); (try clear hk); (try clear hi)))
   go_meet
   case rel => exact ⟨_, (t508), (by first | rfl | (simp; done) | (simp [*]; done)), H', ⟨by first | omega | exact Nat.le_refl _⟩, ⟨by (with_reducible repeat (first | refine blk_drewN ?_ _ | refine blk_drew ?_ | refine blk_alloc ?_ _)); exact BK504.out⟩, ⟨by (with_reducible repeat (first | refine blk_drewN ?_ _ | refine blk_drew ?_ | refine blk_alloc ?_ _)); exact BK505.out⟩, ⟨by (with_reducible repeat (first | refine blk_drewN ?_ _ | refine blk_drew ?_ | refine blk_alloc ?_ _)); exact BK506.out⟩, ⟨by repeat (first | (with_reducible first | exact HB.out | apply below_alloc | apply pw_below_drewN | apply below_drew1 | refine below_set ?_ GE504.out | refine below_set ?_ GE505.out | refine below_set ?_ GE506.out) | exact HB.out)⟩⟩
  ·
   rw [if_neg c14] at H
   have c14b0 : (t507 == 0) = false := beq_eq_false_iff_ne.mpr c14
   have c14b1 : (t507 != 0) = true := bne_iff_ne.mpr c14
   (first | rw [c14b0] | (simp only [i64_w, i32_w]; rw [c14b0]) | skip)
   have H' := Aside0.mk H
   clear H
   go_wp2
   go_meet
   case rel => exact ⟨_, (false), (by first | rfl | (simp; done) | (simp [*]; done)), H', ⟨by first | omega | exact Nat.le_refl _⟩, ⟨by (with_reducible repeat (first | refine blk_drewN ?_ _ | refine blk_drew ?_ | refine blk_alloc ?_ _)); exact BK504.out⟩, ⟨by (with_reducible repeat (first | refine blk_drewN ?_ _ | refine blk_drew ?_ | refine blk_alloc ?_ _)); exact BK505.out⟩, ⟨by (with_reducible repeat (first | refine blk_drewN ?_ _ | refine blk_drew ?_ | refine blk_alloc ?_ _)); exact BK506.out⟩, ⟨by repeat (first | (with_reducible first | exact HB.out | apply below_alloc | apply pw_below_drewN | apply below_drew1 | refine below_set ?_ GE504.out | refine below_set ?_ GE505.out | refine below_set ?_ GE506.out) | exact HB.out)⟩⟩
 case rest =>
  clear HC4
  try clear c1
  try clear c2
  try clear p2
  try clear c8
  try clear c9
  try clear c11
  try clear c14
  try clear c14b0
  try clear c14b1
  try clear c16
  try clear c17
  try clear hcz10_0
  try clear hcz10_1
  try clear hcz10_2
  try clear hcz12_0
  try clear hcz12_1
  try clear hcz12_2
  try clear hcz12_3
  try clear hcz12_4
  try clear hcz18_0
  try clear hcz18_1
  try clear hcz18_2
  try clear hcz18_3
  try clear hcz18_4
  try clear hfz10_0
  try clear hfz10_1
  try clear hfz10_2
  try clear hfz12_0
  try clear hfz12_1
  try clear hfz12_2
  try clear hfz12_3
  try clear hfz12_4
  try clear hfz18_0
  try clear hfz18_1
  try clear hfz18_2
  try clear hfz18_3
  try clear hfz18_4
  obtain ⟨kq, x15_3, rfl, HA, HJ3, BK504, BK505, BK506, HB⟩ := hcut
  cases kq with
  | zero => exact absurd HA.out (by simp [millhandref24_Drop.j0])
  | succ kj3 =>
   have H := HA.out
   clear HA
   simp only [millhandref24_Drop.j0] at H
   by_cases c20 : x15_3 = true
   ·
    subst c20
    have H1 : (if 240 = 0 then (some (6, a1_1, 0, 0, 0, 0)) else (some (0, 0, 0, 0, 0, 240))) = some (r1, r2, r3, r4, r5, r6) := by rw [if_pos rfl] at H; exact H
    clear H
    have H := H1
    clear H1
    by_cases c21 : 240 = 0
    ·
     exact absurd c21 (by decide)
    ·
     rw [if_neg c21] at H
     have c21b0 : (240 == 0) = false := beq_eq_false_iff_ne.mpr c21
     have c21b1 : (240 != 0) = true := bne_iff_ne.mpr c21
     simp only [Option.some.injEq, Prod.mk.injEq] at H
     obtain ⟨rfl, rfl, rfl, rfl, rfl, rfl⟩ := H
     have hcz29_0 : wc.cell? ⟨gb506, 0, none⟩ = some (.int .u8 0) := ck_ BK506 0
     have hcz29_1 : wc.cell? ⟨gb506, 1, none⟩ = some (.int .i64 0) := ck_ BK506 1
     have hcz29_2 : wc.cell? ⟨gb506, 2, none⟩ = some (.int .i64 0) := ck_ BK506 2
     have hcz29_3 : wc.cell? ⟨gb506, 3, none⟩ = some (.int .i64 0) := ck_ BK506 3
     have hcz29_4 : wc.cell? ⟨gb506, 4, none⟩ = some (.int .i64 0) := ck_ BK506 4
     have hfz29_0 := blk_frozen BK506.out 0
     have hfz29_1 := blk_frozen BK506.out 1
     have hfz29_2 := blk_frozen BK506.out 2
     have hfz29_3 := blk_frozen BK506.out 3
     have hfz29_4 := blk_frozen BK506.out 4
     go_wp2
     refine bodyPost_ret (results_ct rfl _ _ gb506 31 #[.int .u8 0, .int .i64 0, .int .i64 0, .int .i64 0, .int .i64 0] (0, 0) _ rfl (by (with_reducible repeat (first | refine blk_drewN ?_ _ | refine blk_drew ?_ | refine blk_alloc ?_ _)); refine blk_put (cs := #[.int .u8 0, .int .i64 0, .int .i64 0, .int .i64 0, .int .i64 0]) ?_ 4 _ rfl; (with_reducible repeat (first | refine blk_drewN ?_ _ | refine blk_drew ?_ | refine blk_alloc ?_ _)); refine blk_put (cs := #[.int .u8 0, .int .i64 0, .int .i64 0, .int .i64 0, .int .i64 0]) ?_ 3 _ rfl; (with_reducible repeat (first | refine blk_drewN ?_ _ | refine blk_drew ?_ | refine blk_alloc ?_ _)); refine blk_put (cs := #[.int .u8 0, .int .i64 0, .int .i64 0, .int .i64 0, .int .i64 0]) ?_ 2 _ rfl; (with_reducible repeat (first | refine blk_drewN ?_ _ | refine blk_drew ?_ | refine blk_alloc ?_ _)); refine blk_put (cs := #[.int .u8 0, .int .i64 0, .int .i64 0, .int .i64 0, .int .i64 0]) ?_ 1 _ rfl; (with_reducible repeat (first | refine blk_drewN ?_ _ | refine blk_drew ?_ | refine blk_alloc ?_ _)); refine blk_put (cs := #[.int .u8 0, .int .i64 0, .int .i64 0, .int .i64 0, .int .i64 0]) ?_ 0 _ rfl; (with_reducible repeat (first | refine blk_drewN ?_ _ | refine blk_drew ?_ | refine blk_alloc ?_ _)); exact BK506.out) Try.underlying31 rfl (by kernel_rfl)) rfl ?_
     exact ⟨by first | rfl | (simp [errW_none, errW_some] <;> rfl) | (simp [*, errW_none, errW_some] <;> rfl) | exact ret_ie _ | (simp [*, errW_none, errW_some, bne]; done), by repeat (first | (with_reducible first | exact HB.out | apply below_alloc | apply pw_below_drewN | apply below_drew1 | refine below_set ?_ GE504.out | refine below_set ?_ GE505.out | refine below_set ?_ GE506.out) | exact HB.out)⟩
   ·
    replace c20 := Bool.eq_false_iff.mpr c20
    subst c20
    have H1 : (if t507 = 0 then (some (6, a1_1, 0, 0, 0, 0)) else (some (0, 0, 0, 0, 0, t507))) = some (r1, r2, r3, r4, r5, r6) := by rw [if_neg (show ¬ (false = true) by decide)] at H; exact H
    clear H
    have H := H1
    clear H1
    by_cases c30 : t507 = 0
    ·
     rw [if_pos c30] at H
     have c30b0 : (t507 == 0) = true := beq_iff_eq.mpr c30
     have c30b1 : (t507 != 0) = false := bne_eq_false_iff_eq.mpr c30
     clear c30
     simp only [Option.some.injEq, Prod.mk.injEq] at H
     obtain ⟨rfl, rfl, rfl, rfl, rfl, rfl⟩ := H
     have hnb32 := NB505_506.out
     have hnc32 := NB506_505.out
     have hcz33_0 : wc.cell? ⟨gb505, 0, none⟩ = some (.int .u8 a1_0) := ck_ BK505 0
     have hcz33_1 : wc.cell? ⟨gb505, 1, none⟩ = some (.int .i64 a1_1) := ck_ BK505 1
     have hcz33_2 : wc.cell? ⟨gb505, 2, none⟩ = some (.int .i64 a1_2) := ck_ BK505 2
     have hcz33_3 : wc.cell? ⟨gb505, 3, none⟩ = some (.int .i64 a1_3) := ck_ BK505 3
     have hcz33_4 : wc.cell? ⟨gb505, 4, none⟩ = some (.int .i64 a1_4) := ck_ BK505 4
     have hfz33_0 := blk_frozen BK505.out 0
     have hfz33_1 := blk_frozen BK505.out 1
     have hfz33_2 := blk_frozen BK505.out 2
     have hfz33_3 := blk_frozen BK505.out 3
     have hfz33_4 := blk_frozen BK505.out 4
     have hcz35_0 : wc.cell? ⟨gb506, 0, none⟩ = some (.int .u8 0) := ck_ BK506 0
     have hcz35_1 : wc.cell? ⟨gb506, 1, none⟩ = some (.int .i64 0) := ck_ BK506 1
     have hcz35_2 : wc.cell? ⟨gb506, 2, none⟩ = some (.int .i64 0) := ck_ BK506 2
     have hcz35_3 : wc.cell? ⟨gb506, 3, none⟩ = some (.int .i64 0) := ck_ BK506 3
     have hcz35_4 : wc.cell? ⟨gb506, 4, none⟩ = some (.int .i64 0) := ck_ BK506 4
     have hfz35_0 := blk_frozen BK506.out 0
     have hfz35_1 := blk_frozen BK506.out 1
     have hfz35_2 := blk_frozen BK506.out 2
     have hfz35_3 := blk_frozen BK506.out 3
     have hfz35_4 := blk_frozen BK506.out 4
     go_wp2
     refine bodyPost_ret (results_ct rfl _ _ gb506 31 #[.int .u8 6, .int .i64 a1_1, .int .i64 0, .int .i64 0, .int .i64 0] (0, 0) _ rfl (by (with_reducible repeat (first | refine blk_drewN ?_ _ | refine blk_drew ?_ | refine blk_alloc ?_ _)); refine blk_put (cs := #[.int .u8 6, .int .i64 a1_1, .int .i64 0, .int .i64 0, .int .i64 0]) ?_ 4 _ rfl; (with_reducible repeat (first | refine blk_drewN ?_ _ | refine blk_drew ?_ | refine blk_alloc ?_ _)); refine blk_put (cs := #[.int .u8 6, .int .i64 a1_1, .int .i64 0, .int .i64 0, .int .i64 0]) ?_ 3 _ rfl; (with_reducible repeat (first | refine blk_drewN ?_ _ | refine blk_drew ?_ | refine blk_alloc ?_ _)); refine blk_put (cs := #[.int .u8 6, .int .i64 a1_1, .int .i64 0, .int .i64 0, .int .i64 0]) ?_ 2 _ rfl; (with_reducible repeat (first | refine blk_drewN ?_ _ | refine blk_drew ?_ | refine blk_alloc ?_ _)); refine blk_put (cs := #[.int .u8 6, .int .i64 0, .int .i64 0, .int .i64 0, .int .i64 0]) ?_ 1 _ rfl; (with_reducible repeat (first | refine blk_drewN ?_ _ | refine blk_drew ?_ | refine blk_alloc ?_ _)); refine blk_put (cs := #[.int .u8 0, .int .i64 0, .int .i64 0, .int .i64 0, .int .i64 0]) ?_ 0 _ rfl; (with_reducible repeat (first | refine blk_drewN ?_ _ | refine blk_drew ?_ | refine blk_alloc ?_ _)); exact BK506.out) Try.underlying31 rfl (by kernel_rfl)) rfl ?_
     exact ⟨by first | rfl | (simp [errW_none, errW_some] <;> rfl) | (simp [*, errW_none, errW_some] <;> rfl) | exact ret_ie _ | (simp [*, errW_none, errW_some, bne]; done), by repeat (first | (with_reducible first | exact HB.out | apply below_alloc | apply pw_below_drewN | apply below_drew1 | refine below_set ?_ GE504.out | refine below_set ?_ GE505.out | refine below_set ?_ GE506.out) | exact HB.out)⟩
    ·
     rw [if_neg c30] at H
     have c30b0 : (t507 == 0) = false := beq_eq_false_iff_ne.mpr c30
     have c30b1 : (t507 != 0) = true := bne_iff_ne.mpr c30
     simp only [Option.some.injEq, Prod.mk.injEq] at H
     obtain ⟨rfl, rfl, rfl, rfl, rfl, rfl⟩ := H
     have hcz38_0 : wc.cell? ⟨gb506, 0, none⟩ = some (.int .u8 0) := ck_ BK506 0
     have hcz38_1 : wc.cell? ⟨gb506, 1, none⟩ = some (.int .i64 0) := ck_ BK506 1
     have hcz38_2 : wc.cell? ⟨gb506, 2, none⟩ = some (.int .i64 0) := ck_ BK506 2
     have hcz38_3 : wc.cell? ⟨gb506, 3, none⟩ = some (.int .i64 0) := ck_ BK506 3
     have hcz38_4 : wc.cell? ⟨gb506, 4, none⟩ = some (.int .i64 0) := ck_ BK506 4
     have hfz38_0 := blk_frozen BK506.out 0
     have hfz38_1 := blk_frozen BK506.out 1
     have hfz38_2 := blk_frozen BK506.out 2
     have hfz38_3 := blk_frozen BK506.out 3
     have hfz38_4 := blk_frozen BK506.out 4
     go_wp2
     refine bodyPost_ret (results_ct rfl _ _ gb506 31 #[.int .u8 0, .int .i64 0, .int .i64 0, .int .i64 0, .int .i64 0] (0, 0) _ rfl (by (with_reducible repeat (first | refine blk_drewN ?_ _ | refine blk_drew ?_ | refine blk_alloc ?_ _)); refine blk_put (cs := #[.int .u8 0, .int .i64 0, .int .i64 0, .int .i64 0, .int .i64 0]) ?_ 4 _ rfl; (with_reducible repeat (first | refine blk_drewN ?_ _ | refine blk_drew ?_ | refine blk_alloc ?_ _)); refine blk_put (cs := #[.int .u8 0, .int .i64 0, .int .i64 0, .int .i64 0, .int .i64 0]) ?_ 3 _ rfl; (with_reducible repeat (first | refine blk_drewN ?_ _ | refine blk_drew ?_ | refine blk_alloc ?_ _)); refine blk_put (cs := #[.int .u8 0, .int .i64 0, .int .i64 0, .int .i64 0, .int .i64 0]) ?_ 2 _ rfl; (with_reducible repeat (first | refine blk_drewN ?_ _ | refine blk_drew ?_ | refine blk_alloc ?_ _)); refine blk_put (cs := #[.int .u8 0, .int .i64 0, .int .i64 0, .int .i64 0, .int .i64 0]) ?_ 1 _ rfl; (with_reducible repeat (first | refine blk_drewN ?_ _ | refine blk_drew ?_ | refine blk_alloc ?_ _)); refine blk_put (cs := #[.int .u8 0, .int .i64 0, .int .i64 0, .int .i64 0, .int .i64 0]) ?_ 0 _ rfl; (with_reducible repeat (first | refine blk_drewN ?_ _ | refine blk_drew ?_ | refine blk_alloc ?_ _)); exact BK506.out) Try.underlying31 rfl (by kernel_rfl)) rfl ?_
     exact ⟨by first | rfl | (simp [errW_none, errW_some] <;> rfl) | (simp [*, errW_none, errW_some] <;> rfl) | exact ret_ie _ | (simp [*, errW_none, errW_some, bne]; done), by repeat (first | (with_reducible first | exact HB.out | apply below_alloc | apply pw_below_drewN | apply below_drew1 | refine below_set ?_ GE504.out | refine below_set ?_ GE505.out | refine below_set ?_ GE506.out) | exact HB.out)⟩

end Go.Proofs.Ytbgfjhnbmfgccaa.R

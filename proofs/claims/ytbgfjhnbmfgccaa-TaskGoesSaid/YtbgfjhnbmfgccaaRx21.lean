/- Contracts of Go functions and what they come to, over the translation of this seat: made by a program of this session (print2.py). -/
import Derived.Test.YtbgfjhnbmfgccaaSh
import Derived.Test.YtbgfjhnbmfgccaaRx0
import Derived.Test.YtbgfjhnbmfgccaaRx16
import Derived.Test.YtbgfjhnbmfgccaaRx20
namespace Go.Proofs.Ytbgfjhnbmfgccaa.R
open Go.RowKit Go.Proofs.Ytbgfjhnbmfgccaa.Sh Go.Proofs.Ytbgfjhnbmfgccaa.Co Go.Proofs.Ytbgfjhnbmfgccaa.Ret Go.Proofs.Ytbgfjhnbmfgccaa.Plain Go.Proofs.YtbgfjhnbmfgccaaW.PrintWords Go.Proofs.YtbgfjhnbmfgccaaW.PrintLast Go.Proofs.YtbgfjhnbmfgccaaW.PrintMore
attribute [local go_sem] max2_int min2_int max_two min_two max_three min_three max_four min_four   -- for this text's walks alone
set_option linter.unusedVariables false
set_option linter.unusedSimpArgs false

/-! ### millhandref24_Done: function 21 -/
def millhandref24_Done.f (k : Nat) (l0_0 : List Int) (a0_1 : Int) (a0_2 : Int) (a1_0 : Int) (a1_1 : Int) (a1_2 : Int) (a1_3 : Int) (a1_4 : Int) (a2 : Int) : Option (Int × Int × Int × Int × Int × Int) := (millhandref24_owned.f k l0_0 a0_1 a0_2 a1_0 a1_1 a1_2 a1_3 a1_4 a2 true).bind fun t453 => (if t453 = 0 then (some (4, a1_1, 0, 0, 0, 0)) else (some (0, 0, 0, 0, 0, t453)))
theorem millhandref24_Done.mono : ∀ a0 a1 a2 a3 a4 a5 a6 a7 a8 k, LeO (millhandref24_Done.f k a0 a1 a2 a3 a4 a5 a6 a7 a8) (millhandref24_Done.f (k + 1) a0 a1 a2 a3 a4 a5 a6 a7 a8) := by
 intro a0 a1 a2 a3 a4 a5 a6 a7 a8 k
 unfold millhandref24_Done.f
 repeat' first
   | (with_reducible exact millhandref24_owned.mono _ _ _ _ _ _ _ _ _ _ _)
   | (with_reducible exact LeO.refl _)
   | (with_reducible exact LeO.none _)
   | (with_reducible refine LeO.ite ?_ ?_)
   | (with_reducible refine LeO.bind ?_ (fun _ => ?_))
   | exact millhandref24_owned.mono _ _ _ _ _ _ _ _ _ _ _
   | exact LeO.none _
   | refine LeO.ite ?_ ?_
   | refine LeO.bind ?_ (fun _ => ?_)
set_option maxHeartbeats 8000000 in
set_option maxRecDepth 100000 in
theorem millhandref24_Done.calls (k : Nat) (A0_0 : Option Addr) (c0_0 : Nat) (l0_0 : List Int) (a0_1 : Int) (a0_2 : Int) (a1_0 : Int) (a1_1 : Int) (a1_2 : Int) (a1_3 : Int) (a1_4 : Int) (a2 : Int) (r1 : Int) (r2 : Int) (r3 : Int) (r4 : Int) (r5 : Int) (r6 : Int) (w : World) (hr0_0 : Kd.C (Kd.int .i64) w A0_0 l0_0.length l0_0) (hc0_0 : l0_0.length ≤ c0_0) (h : millhandref24_Done.f k l0_0 a0_1 a0_2 a1_0 a1_1 a1_2 a1_3 a1_4 a2 = some (r1, r2, r3, r4, r5, r6)) :
  Calls Try.prog 21 #[.agg #[.slice A0_0 l0_0.length c0_0, .int .i64 a0_1, .int .i64 a0_2], .agg #[.int .u8 a1_0, .int .i64 a1_1, .int .i64 a1_2, .int .i64 a1_3, .int .i64 a1_4], .int .i64 a2] w fun e w' => e = .returned (.tuple #[.agg #[.int .u8 r1, .int .i64 r2, .int .i64 r3, .int .i64 r4, .int .i64 r5], .int .i64 r6]) ∧ Below w.heap.size w w' := by
 have hu24 := Try.underlying24
 have hu31 := Try.underlying31
 have HR0_0 := Aside0.mk hr0_0
 have HC0_0 := Aside0.mk hc0_0
 clear hr0_0 hc0_0
 have HB := Aside0.mk (Below.refl w.heap.size w)
 have H : ((millhandref24_owned.f k l0_0 a0_1 a0_2 a1_0 a1_1 a1_2 a1_3 a1_4 a2 true).bind fun t453 => (if t453 = 0 then (some (4, a1_1, 0, 0, 0, 0)) else (some (0, 0, 0, 0, 0, t453)))) = some (r1, r2, r3, r4, r5, r6) := h
 clear h
 replace H := Option.bind_eq_some_iff.mp H
 obtain ⟨t453, A40, H⟩ := H
 replace H : (if t453 = 0 then (some (4, a1_1, 0, 0, 0, 0)) else (some (0, 0, 0, 0, 0, t453))) = some (r1, r2, r3, r4, r5, r6) := H
 have A4 := Aside0.mk A40
 clear A40
 by_cases c5 : t453 = 0
 ·
  rw [if_pos c5] at H
  have c5b0 : (t453 == 0) = true := beq_iff_eq.mpr c5
  have c5b1 : (t453 != 0) = false := bne_eq_false_iff_eq.mpr c5
  clear c5
  simp only [Option.some.injEq, Prod.mk.injEq] at H
  obtain ⟨rfl, rfl, rfl, rfl, rfl, rfl⟩ := H
  go_enter Try.func21, Try.ntmps21
  go_wp2_with (first | ((with_reducible refine gate_dst (N := 3) rfl ?_); refine box_event ?hg (N := 3) ?hd (cs := #[.slice A0_0 l0_0.length c0_0, .int .i64 a0_1, .int .i64 a0_2]) (t := 24) ?hr ?_; (case hd => rfl); (case hg => rfl); (case hr => first | (go_simp; done) | (go_simp; rfl)); intro gb450 hg w6 hbox hb; have BK450 := Aside0.mk (hbox); have GW450 := bz_ (hB_ HB.out) hg; have GE450 := bz_ (hB_ HB.out) hg; replace HB := Aside0.mk (below_step (hB_ HB.out) hb); clear hb hbox hg) | ((with_reducible refine gate_dst (N := 4) rfl ?_); refine box_event ?hg (N := 4) ?hd (cs := #[.int .u8 a1_0, .int .i64 a1_1, .int .i64 a1_2, .int .i64 a1_3, .int .i64 a1_4]) (t := 31) ?hr ?_; (case hd => rfl); (case hg => rfl); (case hr => first | (go_simp; done) | (go_simp; rfl)); intro gb451 hg w7 hbox hb; have BK451 := Aside0.mk (hbox); have GW451 := bz_ (hB_ HB.out) hg; have GE451 := bz_ (hB_ HB.out) hg; replace HB := Aside0.mk (below_step (hB_ HB.out) hb); have NB450_451 := bn_ BK450 hg; have NB451_450 := bm_ BK450 hg; replace BK450 := bs_ BK450 hb; clear hb hbox hg) | ((with_reducible refine gate_dst (N := 6) rfl ?_); refine box_event ?hg (N := 6) ?hd (cs := #[.int .u8 0, .int .i64 0, .int .i64 0, .int .i64 0, .int .i64 0]) (t := 31) ?hr ?_; (case hd => rfl); (case hg => rfl); (case hr => first | (go_simp; done) | (go_simp; rfl)); intro gb452 hg w8 hbox hb; have BK452 := Aside0.mk (hbox); have GW452 := bz_ (hB_ HB.out) hg; have GE452 := bz_ (hB_ HB.out) hg; replace HB := Aside0.mk (below_step (hB_ HB.out) hb); have NB450_452 := bn_ BK450 hg; have NB452_450 := bm_ BK450 hg; replace BK450 := bs_ BK450 hb; have NB451_452 := bn_ BK451 hg; have NB452_451 := bm_ BK451 hg; replace BK451 := bs_ BK451 hb; clear hb hbox hg; have hnb9 := NB450_451.out; have hnc9 := NB451_450.out; have hcz11_0 : w8.cell? ⟨gb450, 0, none⟩ = some (.slice A0_0 l0_0.length c0_0) := ck_ BK450 0; have hcz11_1 : w8.cell? ⟨gb450, 1, none⟩ = some (.int .i64 a0_1) := ck_ BK450 1; have hcz11_2 : w8.cell? ⟨gb450, 2, none⟩ = some (.int .i64 a0_2) := ck_ BK450 2; have hfz11_0 := blk_frozen BK450.out 0; have hfz11_1 := blk_frozen BK450.out 1; have hfz11_2 := blk_frozen BK450.out 2; have hcz13_0 : w8.cell? ⟨gb451, 0, none⟩ = some (.int .u8 a1_0) := ck_ BK451 0; have hcz13_1 : w8.cell? ⟨gb451, 1, none⟩ = some (.int .i64 a1_1) := ck_ BK451 1; have hcz13_2 : w8.cell? ⟨gb451, 2, none⟩ = some (.int .i64 a1_2) := ck_ BK451 2; have hcz13_3 : w8.cell? ⟨gb451, 3, none⟩ = some (.int .i64 a1_3) := ck_ BK451 3; have hcz13_4 : w8.cell? ⟨gb451, 4, none⟩ = some (.int .i64 a1_4) := ck_ BK451 4; have hfz13_0 := blk_frozen BK451.out 0; have hfz13_1 := blk_frozen BK451.out 1; have hfz13_2 := blk_frozen BK451.out 2; have hfz13_3 := blk_frozen BK451.out 3; have hfz13_4 := blk_frozen BK451.out 4) | ((with_reducible refine gate_callee (f := 42) rfl ?_); refine goesL_ (some 12) rfl rfl Try.func42 (by kernel_rfl) rfl #[.agg #[.slice A0_0 l0_0.length c0_0, .int .i64 a0_1, .int .i64 a0_2], .agg #[.int .u8 a1_0, .int .i64 a1_1, .int .i64 a1_2, .int .i64 a1_3, .int .i64 a1_4], .int .i64 a2, .bool true] rfl (by (try simp only [List.map_toArray, List.map_cons, List.map_nil]); first | done | rfl | (simp only [List.length_drop, List.length_take]; rfl)) ?_; (with_reducible refine (millhandref24_owned.calls k _ _ l0_0 a0_1 a0_2 a1_0 a1_1 a1_2 a1_3 a1_4 a2 true t453 _ ?side1 ?side2 A4.out).mono ?_); (case side1 => repeat (first | exact (Kd.C_below HR0_0.out HB.out) | (with_reducible refine Kd.C_alloc ?_ _) | (with_reducible refine Kd.C_drewN ?_ _) | (with_reducible refine Kd.C_drew ?_))); (case side2 => exact HC0_0.out); rintro e w14 ⟨rfl, hb⟩; refine ⟨_, rfl, ?_⟩; replace BK450 := bs_ BK450 hb; replace BK451 := bs_ BK451 hb; replace BK452 := bs_ BK452 hb; replace HB := Aside0.mk (below_step (hB_ HB.out) hb); (try clear hb); (try clear hb2); (try clear hk); (try clear hi); have hcz15_0 : w14.cell? ⟨gb451, 0, none⟩ = some (.int .u8 a1_0) := ck_ BK451 0; have hcz15_1 : w14.cell? ⟨gb451, 1, none⟩ = some (.int .i64 a1_1) := ck_ BK451 1; have hcz15_2 : w14.cell? ⟨gb451, 2, none⟩ = some (.int .i64 a1_2) := ck_ BK451 2; have hcz15_3 : w14.cell? ⟨gb451, 3, none⟩ = some (.int .i64 a1_3) := ck_ BK451 3; have hcz15_4 : w14.cell? ⟨gb451, 4, none⟩ = some (.int .i64 a1_4) := ck_ BK451 4; have hfz15_0 := blk_frozen BK451.out 0; have hfz15_1 := blk_frozen BK451.out 1; have hfz15_2 := blk_frozen BK451.out 2; have hfz15_3 := blk_frozen BK451.out 3; have hfz15_4 := blk_frozen BK451.out 4; have hcz16_0 : w14.cell? ⟨gb452, 0, none⟩ = some (.int .u8 0) := ck_ BK452 0; have hcz16_1 : w14.cell? ⟨gb452, 1, none⟩ = some (.int .i64 0) := ck_ BK452 1; have hcz16_2 : w14.cell? ⟨gb452, 2, none⟩ = some (.int .i64 0) := ck_ BK452 2; have hcz16_3 : w14.cell? ⟨gb452, 3, none⟩ = some (.int .i64 0) := ck_ BK452 3; have hcz16_4 : w14.cell? ⟨gb452, 4, none⟩ = some (.int .i64 0) := ck_ BK452 4; have hfz16_0 := blk_frozen BK452.out 0; have hfz16_1 := blk_frozen BK452.out 1; have hfz16_2 := blk_frozen BK452.out 2; have hfz16_3 := blk_frozen BK452.out 3; have hfz16_4 := blk_frozen BK452.out 4))
  refine bodyPost_ret (results_ct rfl _ _ gb452 31 #[.int .u8 4, .int .i64 a1_1, .int .i64 0, .int .i64 0, .int .i64 0] (0, 0) _ rfl (by (with_reducible repeat (first | refine blk_drewN ?_ _ | refine blk_drew ?_ | refine blk_alloc ?_ _)); refine blk_put (cs := #[.int .u8 4, .int .i64 a1_1, .int .i64 0, .int .i64 0, .int .i64 0]) ?_ 4 _ rfl; (with_reducible repeat (first | refine blk_drewN ?_ _ | refine blk_drew ?_ | refine blk_alloc ?_ _)); refine blk_put (cs := #[.int .u8 4, .int .i64 a1_1, .int .i64 0, .int .i64 0, .int .i64 0]) ?_ 3 _ rfl; (with_reducible repeat (first | refine blk_drewN ?_ _ | refine blk_drew ?_ | refine blk_alloc ?_ _)); refine blk_put (cs := #[.int .u8 4, .int .i64 a1_1, .int .i64 0, .int .i64 0, .int .i64 0]) ?_ 2 _ rfl; (with_reducible repeat (first | refine blk_drewN ?_ _ | refine blk_drew ?_ | refine blk_alloc ?_ _)); refine blk_put (cs := #[.int .u8 4, .int .i64 0, .int .i64 0, .int .i64 0, .int .i64 0]) ?_ 1 _ rfl; (with_reducible repeat (first | refine blk_drewN ?_ _ | refine blk_drew ?_ | refine blk_alloc ?_ _)); refine blk_put (cs := #[.int .u8 0, .int .i64 0, .int .i64 0, .int .i64 0, .int .i64 0]) ?_ 0 _ rfl; (with_reducible repeat (first | refine blk_drewN ?_ _ | refine blk_drew ?_ | refine blk_alloc ?_ _)); exact BK452.out) Try.underlying31 rfl (by kernel_rfl)) rfl ?_
  exact ⟨by first | rfl | (simp [errW_none, errW_some] <;> rfl) | (simp [*, errW_none, errW_some] <;> rfl) | exact ret_ie _ | (simp [*, errW_none, errW_some, bne]; done), by repeat (first | (with_reducible first | exact HB.out | apply below_alloc | apply pw_below_drewN | apply below_drew1 | refine below_set ?_ GE450.out | refine below_set ?_ GE451.out | refine below_set ?_ GE452.out) | exact HB.out)⟩
 ·
  rw [if_neg c5] at H
  have c5b0 : (t453 == 0) = false := beq_eq_false_iff_ne.mpr c5
  have c5b1 : (t453 != 0) = true := bne_iff_ne.mpr c5
  simp only [Option.some.injEq, Prod.mk.injEq] at H
  obtain ⟨rfl, rfl, rfl, rfl, rfl, rfl⟩ := H
  go_enter Try.func21, Try.ntmps21
  go_wp2_with (first | ((with_reducible refine gate_dst (N := 3) rfl ?_); refine box_event ?hg (N := 3) ?hd (cs := #[.slice A0_0 l0_0.length c0_0, .int .i64 a0_1, .int .i64 a0_2]) (t := 24) ?hr ?_; (case hd => rfl); (case hg => rfl); (case hr => first | (go_simp; done) | (go_simp; rfl)); intro gb450 hg w17 hbox hb; have BK450 := Aside0.mk (hbox); have GW450 := bz_ (hB_ HB.out) hg; have GE450 := bz_ (hB_ HB.out) hg; replace HB := Aside0.mk (below_step (hB_ HB.out) hb); clear hb hbox hg) | ((with_reducible refine gate_dst (N := 4) rfl ?_); refine box_event ?hg (N := 4) ?hd (cs := #[.int .u8 a1_0, .int .i64 a1_1, .int .i64 a1_2, .int .i64 a1_3, .int .i64 a1_4]) (t := 31) ?hr ?_; (case hd => rfl); (case hg => rfl); (case hr => first | (go_simp; done) | (go_simp; rfl)); intro gb451 hg w18 hbox hb; have BK451 := Aside0.mk (hbox); have GW451 := bz_ (hB_ HB.out) hg; have GE451 := bz_ (hB_ HB.out) hg; replace HB := Aside0.mk (below_step (hB_ HB.out) hb); have NB450_451 := bn_ BK450 hg; have NB451_450 := bm_ BK450 hg; replace BK450 := bs_ BK450 hb; clear hb hbox hg) | ((with_reducible refine gate_dst (N := 6) rfl ?_); refine box_event ?hg (N := 6) ?hd (cs := #[.int .u8 0, .int .i64 0, .int .i64 0, .int .i64 0, .int .i64 0]) (t := 31) ?hr ?_; (case hd => rfl); (case hg => rfl); (case hr => first | (go_simp; done) | (go_simp; rfl)); intro gb452 hg w19 hbox hb; have BK452 := Aside0.mk (hbox); have GW452 := bz_ (hB_ HB.out) hg; have GE452 := bz_ (hB_ HB.out) hg; replace HB := Aside0.mk (below_step (hB_ HB.out) hb); have NB450_452 := bn_ BK450 hg; have NB452_450 := bm_ BK450 hg; replace BK450 := bs_ BK450 hb; have NB451_452 := bn_ BK451 hg; have NB452_451 := bm_ BK451 hg; replace BK451 := bs_ BK451 hb; clear hb hbox hg; have hnb20 := NB450_451.out; have hnc20 := NB451_450.out; have hcz22_0 : w19.cell? ⟨gb450, 0, none⟩ = some (.slice A0_0 l0_0.length c0_0) := ck_ BK450 0; have hcz22_1 : w19.cell? ⟨gb450, 1, none⟩ = some (.int .i64 a0_1) := ck_ BK450 1; have hcz22_2 : w19.cell? ⟨gb450, 2, none⟩ = some (.int .i64 a0_2) := ck_ BK450 2; have hfz22_0 := blk_frozen BK450.out 0; have hfz22_1 := blk_frozen BK450.out 1; have hfz22_2 := blk_frozen BK450.out 2; have hcz24_0 : w19.cell? ⟨gb451, 0, none⟩ = some (.int .u8 a1_0) := ck_ BK451 0; have hcz24_1 : w19.cell? ⟨gb451, 1, none⟩ = some (.int .i64 a1_1) := ck_ BK451 1; have hcz24_2 : w19.cell? ⟨gb451, 2, none⟩ = some (.int .i64 a1_2) := ck_ BK451 2; have hcz24_3 : w19.cell? ⟨gb451, 3, none⟩ = some (.int .i64 a1_3) := ck_ BK451 3; have hcz24_4 : w19.cell? ⟨gb451, 4, none⟩ = some (.int .i64 a1_4) := ck_ BK451 4; have hfz24_0 := blk_frozen BK451.out 0; have hfz24_1 := blk_frozen BK451.out 1; have hfz24_2 := blk_frozen BK451.out 2; have hfz24_3 := blk_frozen BK451.out 3; have hfz24_4 := blk_frozen BK451.out 4) | ((with_reducible refine gate_callee (f := 42) rfl ?_); refine goesL_ (some 12) rfl rfl Try.func42 (by kernel_rfl) rfl #[.agg #[.slice A0_0 l0_0.length c0_0, .int .i64 a0_1, .int .i64 a0_2], .agg #[.int .u8 a1_0, .int .i64 a1_1, .int .i64 a1_2, .int .i64 a1_3, .int .i64 a1_4], .int .i64 a2, .bool true] rfl (by (try simp only [List.map_toArray, List.map_cons, List.map_nil]); first | done | rfl | (simp only [List.length_drop, List.length_take]; rfl)) ?_; (with_reducible refine (millhandref24_owned.calls k _ _ l0_0 a0_1 a0_2 a1_0 a1_1 a1_2 a1_3 a1_4 a2 true t453 _ ?side1 ?side2 A4.out).mono ?_); (case side1 => repeat (first | exact (Kd.C_below HR0_0.out HB.out) | (with_reducible refine Kd.C_alloc ?_ _) | (with_reducible refine Kd.C_drewN ?_ _) | (with_reducible refine Kd.C_drew ?_))); (case side2 => exact HC0_0.out); rintro e w25 ⟨rfl, hb⟩; refine ⟨_, rfl, ?_⟩; replace BK450 := bs_ BK450 hb; replace BK451 := bs_ BK451 hb; replace BK452 := bs_ BK452 hb; replace HB := Aside0.mk (below_step (hB_ HB.out) hb); (try clear hb); (try clear hb2); (try clear hk); (try clear hi); have hcz26_0 : w25.cell? ⟨gb452, 0, none⟩ = some (.int .u8 0) := ck_ BK452 0; have hcz26_1 : w25.cell? ⟨gb452, 1, none⟩ = some (.int .i64 0) := ck_ BK452 1; have hcz26_2 : w25.cell? ⟨gb452, 2, none⟩ = some (.int .i64 0) := ck_ BK452 2; have hcz26_3 : w25.cell? ⟨gb452, 3, none⟩ = some (.int .i64 0) := ck_ BK452 3; have hcz26_4 : w25.cell? ⟨gb452, 4, none⟩ = some (.int .i64 0) := ck_ BK452 4; have hfz26_0 := blk_frozen BK452.out 0; have hfz26_1 := blk_frozen BK452.out 1; have hfz26_2 := blk_frozen BK452.out 2; have hfz26_3 := blk_frozen BK452.out 3; have hfz26_4 := blk_frozen BK452.out 4))
  refine bodyPost_ret (results_ct rfl _ _ gb452 31 #[.int .u8 0, .int .i64 0, .int .i64 0, .int .i64 0, .int .i64 0] (0, 0) _ rfl (by (with_reducible repeat (first | refine blk_drewN ?_ _ | refine blk_drew ?_ | refine blk_alloc ?_ _)); refine blk_put (cs := #[.int .u8 0, .int .i64 0, .int .i64 0, .int .i64 0, .int .i64 0]) ?_ 4 _ rfl; (with_reducible repeat (first | refine blk_drewN ?_ _ | refine blk_drew ?_ | refine blk_alloc ?_ _)); refine blk_put (cs := #[.int .u8 0, .int .i64 0, .int .i64 0, .int .i64 0, .int .i64 0]) ?_ 3 _ rfl; (with_reducible repeat (first | refine blk_drewN ?_ _ | refine blk_drew ?_ | refine blk_alloc ?_ _)); refine blk_put (cs := #[.int .u8 0, .int .i64 0, .int .i64 0, .int .i64 0, .int .i64 0]) ?_ 2 _ rfl; (with_reducible repeat (first | refine blk_drewN ?_ _ | refine blk_drew ?_ | refine blk_alloc ?_ _)); refine blk_put (cs := #[.int .u8 0, .int .i64 0, .int .i64 0, .int .i64 0, .int .i64 0]) ?_ 1 _ rfl; (with_reducible repeat (first | refine blk_drewN ?_ _ | refine blk_drew ?_ | refine blk_alloc ?_ _)); refine blk_put (cs := #[.int .u8 0, .int .i64 0, .int .i64 0, .int .i64 0, .int .i64 0]) ?_ 0 _ rfl; (with_reducible repeat (first | refine blk_drewN ?_ _ | refine blk_drew ?_ | refine blk_alloc ?_ _)); exact BK452.out) Try.underlying31 rfl (by kernel_rfl)) rfl ?_
  exact ⟨by first | rfl | (simp [errW_none, errW_some] <;> rfl) | (simp [*, errW_none, errW_some] <;> rfl) | exact ret_ie _ | (simp [*, errW_none, errW_some, bne]; done), by repeat (first | (with_reducible first | exact HB.out | apply below_alloc | apply pw_below_drewN | apply below_drew1 | refine below_set ?_ GE450.out | refine below_set ?_ GE451.out | refine below_set ?_ GE452.out) | exact HB.out)⟩

/-! ### millhandref24_Long: function 46 -/
def millhandref24_Long.l0 : Nat → Int → Int → Int → Option (Int)
 | 0, _, _, _ => none
 | k + 1, x1, x5, x6 => if x6 < x1 then (if (wrap64 (x5 * 2)) > 1048576 then (millhandref24_Long.l0 k x1 1048576 (wrap64 (x6 + 1))) else (millhandref24_Long.l0 k x1 (wrap64 (x5 * 2)) (wrap64 (x6 + 1)))) else (some x5)
def millhandref24_Long.f (k : Nat) (l0_0 : List Int) (a0_1 : Int) (a0_2 : Int) (a1 : Int) : Option (Int) := millhandref24_Long.l0 k a1 a0_2 1
theorem millhandref24_Long.mono_l : ∀ k, (∀ y0 y1 y2, LeO (millhandref24_Long.l0 k y0 y1 y2) (millhandref24_Long.l0 (k + 1) y0 y1 y2))
 | 0 => fun _ _ _ r h => by simp [millhandref24_Long.l0] at h
 | k + 1 => by
  have ih0 := millhandref24_Long.mono_l k
  ·
   intro y0 y1 y2
   unfold millhandref24_Long.l0
   repeat' first
   | (with_reducible exact ih0 _ _ _)
   | (with_reducible exact LeO.refl _)
   | (with_reducible exact LeO.none _)
   | (with_reducible refine LeO.ite ?_ ?_)
   | (with_reducible refine LeO.bind ?_ (fun _ => ?_))
   | exact ih0 _ _ _
   | exact LeO.none _
   | refine LeO.ite ?_ ?_
   | refine LeO.bind ?_ (fun _ => ?_)
theorem millhandref24_Long.mono : ∀ a0 a1 a2 a3 k, LeO (millhandref24_Long.f k a0 a1 a2 a3) (millhandref24_Long.f (k + 1) a0 a1 a2 a3) := by
 intro a0 a1 a2 a3 k
 have ih0 := millhandref24_Long.mono_l k
 unfold millhandref24_Long.f
 repeat' first
   | (with_reducible exact ih0 _ _ _)
   | (with_reducible exact LeO.refl _)
   | (with_reducible exact LeO.none _)
   | (with_reducible refine LeO.ite ?_ ?_)
   | (with_reducible refine LeO.bind ?_ (fun _ => ?_))
   | exact ih0 _ _ _
   | exact LeO.none _
   | refine LeO.ite ?_ ?_
   | refine LeO.bind ?_ (fun _ => ?_)
set_option maxHeartbeats 8000000 in
set_option maxRecDepth 100000 in
theorem millhandref24_Long.calls (k : Nat) (A0_0 : Option Addr) (c0_0 : Nat) (l0_0 : List Int) (a0_1 : Int) (a0_2 : Int) (a1 : Int) (r : Int) (w : World) (hr0_0 : Kd.C (Kd.int .i64) w A0_0 l0_0.length l0_0) (hc0_0 : l0_0.length ≤ c0_0) (h : millhandref24_Long.f k l0_0 a0_1 a0_2 a1 = some r) :
  Calls Try.prog 46 #[.agg #[.slice A0_0 l0_0.length c0_0, .int .i64 a0_1, .int .i64 a0_2], .int .i64 a1] w fun e w' => e = .returned (.int .i64 r) ∧ Below w.heap.size w w' := by
 have hu24 := Try.underlying24
 have HR0_0 := Aside0.mk hr0_0
 have HC0_0 := Aside0.mk hc0_0
 clear hr0_0 hc0_0
 have HB := Aside0.mk (Below.refl w.heap.size w)
 have H : (millhandref24_Long.l0 k a1 a0_2 1) = some r := h
 clear h
 have H' := Aside0.mk H
 clear H
 go_enter Try.func46, Try.ntmps46
 go_wp2_with (first | ((with_reducible refine gate_dst (N := 2) rfl ?_); refine box_event ?hg (N := 2) ?hd (cs := #[.slice A0_0 l0_0.length c0_0, .int .i64 a0_1, .int .i64 a0_2]) (t := 24) ?hr ?_; (case hd => rfl); (case hg => rfl); (case hr => first | (go_simp; done) | (go_simp; rfl)); intro gb454 hg w3 hbox hb; have BK454 := Aside0.mk (hbox); have GW454 := bz_ (hB_ HB.out) hg; have GE454 := bz_ (hB_ HB.out) hg; replace HB := Aside0.mk (below_step (hB_ HB.out) hb); clear hb hbox hg; have hcz4_0 : w3.cell? ⟨gb454, 0, none⟩ = some (.slice A0_0 l0_0.length c0_0) := ck_ BK454 0; have hcz4_1 : w3.cell? ⟨gb454, 1, none⟩ = some (.int .i64 a0_1) := ck_ BK454 1; have hcz4_2 : w3.cell? ⟨gb454, 2, none⟩ = some (.int .i64 a0_2) := ck_ BK454 2; have hfz4_0 := blk_frozen BK454.out 0; have hfz4_1 := blk_frozen BK454.out 1; have hfz4_2 := blk_frozen BK454.out 2))
 go_loopg [5, 6] k (fun kq v5 v6 w' => ∃ (x5_1 : Int) (x6_1 : Int), v5 = .int .i64 x5_1 ∧ v6 = .int .i64 x6_1 ∧ Aside0 (millhandref24_Long.l0 kq a1 x5_1 x6_1 = some r) ∧ Aside0 (kq ≤ k) ∧ Aside0 (w'.heap[gb454]? = some (.cells #[(.slice A0_0 l0_0.length c0_0), .int .i64 a0_1, .int .i64 a0_2] 24 (0, 0))) ∧ Aside0 (Below w.heap.size w w'))
 case atStart => exact ⟨(a0_2), (1), (by first | rfl | (simp; done) | (simp [*]; done)), (by first | rfl | (simp; done) | (simp [*]; done)), H', ⟨Nat.le_refl _⟩, ⟨by (with_reducible repeat (first | refine blk_drewN ?_ _ | refine blk_drew ?_ | refine blk_alloc ?_ _)); exact BK454.out⟩, ⟨by repeat (first | (with_reducible first | exact HB.out | apply below_alloc | apply pw_below_drewN | apply below_drew1 | refine below_set ?_ GE454.out) | exact HB.out)⟩⟩
 case round =>
  clear H'
  try clear p2
  try clear c4
  try clear hcz4_0
  try clear hcz4_1
  try clear hcz4_2
  try clear hfz4_0
  try clear hfz4_1
  try clear hfz4_2
  obtain ⟨x5_1, x6_1, rfl, rfl, HA, HK1, BK454, HB⟩ := hrel
  cases gk with
  | zero => exact absurd HA.out (by simp [millhandref24_Long.l0])
  | succ k1 =>
   have H := HA.out
   clear HA
   simp only [millhandref24_Long.l0] at H
   by_cases c5 : x6_1 < a1
   ·
    rw [if_pos c5] at H
    have c5b0 : decide (x6_1 < a1) = true := decide_eq_true c5
    clear c5
    by_cases c6 : (wrap64 (x5_1 * 2)) > 1048576
    ·
     rw [if_pos c6] at H
     have c6b0 : decide (1048576 < (wrap64 (x5_1 * 2))) = true := decide_eq_true c6
     clear c6
     have H' := Aside0.mk H
     clear H
     go_wp2
     go_roundg k1
     case measure => have := HK1.out; omega
     case rel => exact ⟨(1048576), (wrap64 (x6_1 + 1)), (by first | rfl | (simp; done) | (simp [*]; done)), (by first | rfl | (simp; done) | (simp [*]; done)), H', ⟨by have := HK1.out; omega⟩, ⟨by (with_reducible repeat (first | refine blk_drewN ?_ _ | refine blk_drew ?_ | refine blk_alloc ?_ _)); exact BK454.out⟩, ⟨by repeat (first | (with_reducible first | exact HB.out | apply below_alloc | apply pw_below_drewN | apply below_drew1 | refine below_set ?_ GE454.out) | exact HB.out)⟩⟩
    ·
     rw [if_neg c6] at H
     have c6b0 : decide (1048576 < (wrap64 (x5_1 * 2))) = false := decide_eq_false c6
     clear c6
     have H' := Aside0.mk H
     clear H
     go_wp2
     go_roundg k1
     case measure => have := HK1.out; omega
     case rel => exact ⟨(wrap64 (x5_1 * 2)), (wrap64 (x6_1 + 1)), (by first | rfl | (simp; done) | (simp [*]; done)), (by first | rfl | (simp; done) | (simp [*]; done)), H', ⟨by have := HK1.out; omega⟩, ⟨by (with_reducible repeat (first | refine blk_drewN ?_ _ | refine blk_drew ?_ | refine blk_alloc ?_ _)); exact BK454.out⟩, ⟨by repeat (first | (with_reducible first | exact HB.out | apply below_alloc | apply pw_below_drewN | apply below_drew1 | refine below_set ?_ GE454.out) | exact HB.out)⟩⟩
   ·
    rw [if_neg c5] at H
    have c5b0 : decide (x6_1 < a1) = false := decide_eq_false c5
    clear c5
    obtain rfl := Option.some.inj H
    go_wp2
    go_ret
    exact ⟨by first | rfl | (simp [errW_none, errW_some] <;> rfl) | (simp [*, errW_none, errW_some] <;> rfl) | exact ret_ie _ | (simp [*, errW_none, errW_some, bne]; done), by repeat (first | (with_reducible first | exact HB.out | apply below_alloc | apply pw_below_drewN | apply below_drew1 | refine below_set ?_ GE454.out) | exact HB.out)⟩

/-! ### millhandref24_Failed: function 43 -/
def millhandref24_Failed.f (k : Nat) (l0_0 : List Int) (a0_1 : Int) (a0_2 : Int) (a1_0 : Int) (a1_1 : Int) (a1_2 : Int) (a1_3 : Int) (a1_4 : Int) (a2 : Int) : Option (Int × Int × Int × Int × Int) := if a1_1 = a0_1 then (some (5, a1_1, 0, 0, 0)) else ((millhandref24_Long.f k l0_0 a0_1 a0_2 a1_1).bind fun t458 => (if (wrap64 (a2 + t458)) > 1099511627776 then (some (3, a1_1, 1099511627776, 0, 0)) else (some (3, a1_1, wrap64 (a2 + t458), 0, 0))))
theorem millhandref24_Failed.mono : ∀ a0 a1 a2 a3 a4 a5 a6 a7 a8 k, LeO (millhandref24_Failed.f k a0 a1 a2 a3 a4 a5 a6 a7 a8) (millhandref24_Failed.f (k + 1) a0 a1 a2 a3 a4 a5 a6 a7 a8) := by
 intro a0 a1 a2 a3 a4 a5 a6 a7 a8 k
 unfold millhandref24_Failed.f
 repeat' first
   | (with_reducible exact millhandref24_Long.mono _ _ _ _ _)
   | (with_reducible exact LeO.refl _)
   | (with_reducible exact LeO.none _)
   | (with_reducible refine LeO.ite ?_ ?_)
   | (with_reducible refine LeO.bind ?_ (fun _ => ?_))
   | exact millhandref24_Long.mono _ _ _ _ _
   | exact LeO.none _
   | refine LeO.ite ?_ ?_
   | refine LeO.bind ?_ (fun _ => ?_)
set_option maxHeartbeats 8000000 in
set_option maxRecDepth 100000 in
theorem millhandref24_Failed.calls (k : Nat) (A0_0 : Option Addr) (c0_0 : Nat) (l0_0 : List Int) (a0_1 : Int) (a0_2 : Int) (a1_0 : Int) (a1_1 : Int) (a1_2 : Int) (a1_3 : Int) (a1_4 : Int) (a2 : Int) (r1 : Int) (r2 : Int) (r3 : Int) (r4 : Int) (r5 : Int) (w : World) (hr0_0 : Kd.C (Kd.int .i64) w A0_0 l0_0.length l0_0) (hc0_0 : l0_0.length ≤ c0_0) (h : millhandref24_Failed.f k l0_0 a0_1 a0_2 a1_0 a1_1 a1_2 a1_3 a1_4 a2 = some (r1, r2, r3, r4, r5)) :
  Calls Try.prog 43 #[.agg #[.slice A0_0 l0_0.length c0_0, .int .i64 a0_1, .int .i64 a0_2], .agg #[.int .u8 a1_0, .int .i64 a1_1, .int .i64 a1_2, .int .i64 a1_3, .int .i64 a1_4], .int .i64 a2] w fun e w' => e = .returned (.agg #[.int .u8 r1, .int .i64 r2, .int .i64 r3, .int .i64 r4, .int .i64 r5]) ∧ Below w.heap.size w w' := by
 have hu24 := Try.underlying24
 have hu31 := Try.underlying31
 have HR0_0 := Aside0.mk hr0_0
 have HC0_0 := Aside0.mk hc0_0
 clear hr0_0 hc0_0
 have HB := Aside0.mk (Below.refl w.heap.size w)
 have H : (if a1_1 = a0_1 then (some (5, a1_1, 0, 0, 0)) else ((millhandref24_Long.f k l0_0 a0_1 a0_2 a1_1).bind fun t458 => (if (wrap64 (a2 + t458)) > 1099511627776 then (some (3, a1_1, 1099511627776, 0, 0)) else (some (3, a1_1, wrap64 (a2 + t458), 0, 0))))) = some (r1, r2, r3, r4, r5) := h
 clear h
 by_cases c4 : a1_1 = a0_1
 ·
  rw [if_pos c4] at H
  have c4b0 : (a1_1 == a0_1) = true := beq_iff_eq.mpr c4
  have c4b1 : (a1_1 != a0_1) = false := bne_eq_false_iff_eq.mpr c4
  clear c4
  simp only [Option.some.injEq, Prod.mk.injEq] at H
  obtain ⟨rfl, rfl, rfl, rfl, rfl⟩ := H
  go_enter Try.func43, Try.ntmps43
  go_wp2_with (first | ((with_reducible refine gate_dst (N := 3) rfl ?_); refine box_event ?hg (N := 3) ?hd (cs := #[.slice A0_0 l0_0.length c0_0, .int .i64 a0_1, .int .i64 a0_2]) (t := 24) ?hr ?_; (case hd => rfl); (case hg => rfl); (case hr => first | (go_simp; done) | (go_simp; rfl)); intro gb455 hg w5 hbox hb; have BK455 := Aside0.mk (hbox); have GW455 := bz_ (hB_ HB.out) hg; have GE455 := bz_ (hB_ HB.out) hg; replace HB := Aside0.mk (below_step (hB_ HB.out) hb); clear hb hbox hg) | ((with_reducible refine gate_dst (N := 4) rfl ?_); refine box_event ?hg (N := 4) ?hd (cs := #[.int .u8 a1_0, .int .i64 a1_1, .int .i64 a1_2, .int .i64 a1_3, .int .i64 a1_4]) (t := 31) ?hr ?_; (case hd => rfl); (case hg => rfl); (case hr => first | (go_simp; done) | (go_simp; rfl)); intro gb456 hg w6 hbox hb; have BK456 := Aside0.mk (hbox); have GW456 := bz_ (hB_ HB.out) hg; have GE456 := bz_ (hB_ HB.out) hg; replace HB := Aside0.mk (below_step (hB_ HB.out) hb); have NB455_456 := bn_ BK455 hg; have NB456_455 := bm_ BK455 hg; replace BK455 := bs_ BK455 hb; clear hb hbox hg) | ((with_reducible refine gate_dst (N := 6) rfl ?_); refine box_event ?hg (N := 6) ?hd (cs := #[.int .u8 0, .int .i64 0, .int .i64 0, .int .i64 0, .int .i64 0]) (t := 31) ?hr ?_; (case hd => rfl); (case hg => rfl); (case hr => first | (go_simp; done) | (go_simp; rfl)); intro gb457 hg w7 hbox hb; have BK457 := Aside0.mk (hbox); have GW457 := bz_ (hB_ HB.out) hg; have GE457 := bz_ (hB_ HB.out) hg; replace HB := Aside0.mk (below_step (hB_ HB.out) hb); have NB455_457 := bn_ BK455 hg; have NB457_455 := bm_ BK455 hg; replace BK455 := bs_ BK455 hb; have NB456_457 := bn_ BK456 hg; have NB457_456 := bm_ BK456 hg; replace BK456 := bs_ BK456 hb; clear hb hbox hg; have hnb8 := NB456_455.out; have hnc8 := NB455_456.out; have hnb9 := NB456_457.out; have hnc9 := NB457_456.out; have hcz10_0 : w7.cell? ⟨gb456, 0, none⟩ = some (.int .u8 a1_0) := ck_ BK456 0; have hcz10_1 : w7.cell? ⟨gb456, 1, none⟩ = some (.int .i64 a1_1) := ck_ BK456 1; have hcz10_2 : w7.cell? ⟨gb456, 2, none⟩ = some (.int .i64 a1_2) := ck_ BK456 2; have hcz10_3 : w7.cell? ⟨gb456, 3, none⟩ = some (.int .i64 a1_3) := ck_ BK456 3; have hcz10_4 : w7.cell? ⟨gb456, 4, none⟩ = some (.int .i64 a1_4) := ck_ BK456 4; have hfz10_0 := blk_frozen BK456.out 0; have hfz10_1 := blk_frozen BK456.out 1; have hfz10_2 := blk_frozen BK456.out 2; have hfz10_3 := blk_frozen BK456.out 3; have hfz10_4 := blk_frozen BK456.out 4; have hnb11 := NB455_457.out; have hnc11 := NB457_455.out; have hcz12_0 : w7.cell? ⟨gb455, 0, none⟩ = some (.slice A0_0 l0_0.length c0_0) := ck_ BK455 0; have hcz12_1 : w7.cell? ⟨gb455, 1, none⟩ = some (.int .i64 a0_1) := ck_ BK455 1; have hcz12_2 : w7.cell? ⟨gb455, 2, none⟩ = some (.int .i64 a0_2) := ck_ BK455 2; have hfz12_0 := blk_frozen BK455.out 0; have hfz12_1 := blk_frozen BK455.out 1; have hfz12_2 := blk_frozen BK455.out 2; have hcz13_0 : w7.cell? ⟨gb457, 0, none⟩ = some (.int .u8 0) := ck_ BK457 0; have hcz13_1 : w7.cell? ⟨gb457, 1, none⟩ = some (.int .i64 0) := ck_ BK457 1; have hcz13_2 : w7.cell? ⟨gb457, 2, none⟩ = some (.int .i64 0) := ck_ BK457 2; have hcz13_3 : w7.cell? ⟨gb457, 3, none⟩ = some (.int .i64 0) := ck_ BK457 3; have hcz13_4 : w7.cell? ⟨gb457, 4, none⟩ = some (.int .i64 0) := ck_ BK457 4; have hfz13_0 := blk_frozen BK457.out 0; have hfz13_1 := blk_frozen BK457.out 1; have hfz13_2 := blk_frozen BK457.out 2; have hfz13_3 := blk_frozen BK457.out 3; have hfz13_4 := blk_frozen BK457.out 4))
  refine bodyPost_ret (results_cell_row rfl _ _ gb457 31 #[.int .u8 5, .int .i64 a1_1, .int .i64 0, .int .i64 0, .int .i64 0] (0, 0) _ rfl (by (with_reducible repeat (first | refine blk_drewN ?_ _ | refine blk_drew ?_ | refine blk_alloc ?_ _)); refine blk_put (cs := #[.int .u8 5, .int .i64 a1_1, .int .i64 0, .int .i64 0, .int .i64 0]) ?_ 4 _ rfl; (with_reducible repeat (first | refine blk_drewN ?_ _ | refine blk_drew ?_ | refine blk_alloc ?_ _)); refine blk_put (cs := #[.int .u8 5, .int .i64 a1_1, .int .i64 0, .int .i64 0, .int .i64 0]) ?_ 3 _ rfl; (with_reducible repeat (first | refine blk_drewN ?_ _ | refine blk_drew ?_ | refine blk_alloc ?_ _)); refine blk_put (cs := #[.int .u8 5, .int .i64 a1_1, .int .i64 0, .int .i64 0, .int .i64 0]) ?_ 2 _ rfl; (with_reducible repeat (first | refine blk_drewN ?_ _ | refine blk_drew ?_ | refine blk_alloc ?_ _)); refine blk_put (cs := #[.int .u8 5, .int .i64 0, .int .i64 0, .int .i64 0, .int .i64 0]) ?_ 1 _ rfl; (with_reducible repeat (first | refine blk_drewN ?_ _ | refine blk_drew ?_ | refine blk_alloc ?_ _)); refine blk_put (cs := #[.int .u8 0, .int .i64 0, .int .i64 0, .int .i64 0, .int .i64 0]) ?_ 0 _ rfl; (with_reducible repeat (first | refine blk_drewN ?_ _ | refine blk_drew ?_ | refine blk_alloc ?_ _)); exact BK457.out) Try.underlying31 rfl (by kernel_rfl)) rfl ?_
  exact ⟨by first | rfl | (simp [errW_none, errW_some] <;> rfl) | (simp [*, errW_none, errW_some] <;> rfl) | exact ret_ie _ | (simp [*, errW_none, errW_some, bne]; done), by repeat (first | (with_reducible first | exact HB.out | apply below_alloc | apply pw_below_drewN | apply below_drew1 | refine below_set ?_ GE455.out | refine below_set ?_ GE456.out | refine below_set ?_ GE457.out) | exact HB.out)⟩
 ·
  rw [if_neg c4] at H
  have c4b0 : (a1_1 == a0_1) = false := beq_eq_false_iff_ne.mpr c4
  have c4b1 : (a1_1 != a0_1) = true := bne_iff_ne.mpr c4
  replace H := Option.bind_eq_some_iff.mp H
  obtain ⟨t458, A140, H⟩ := H
  replace H : (if (wrap64 (a2 + t458)) > 1099511627776 then (some (3, a1_1, 1099511627776, 0, 0)) else (some (3, a1_1, wrap64 (a2 + t458), 0, 0))) = some (r1, r2, r3, r4, r5) := H
  have A14 := Aside0.mk A140
  clear A140
  by_cases c15 : (wrap64 (a2 + t458)) > 1099511627776
  ·
   rw [if_pos c15] at H
   have c15b0 : decide (1099511627776 < (wrap64 (a2 + t458))) = true := decide_eq_true c15
   clear c15
   simp only [Option.some.injEq, Prod.mk.injEq] at H
   obtain ⟨rfl, rfl, rfl, rfl, rfl⟩ := H
   go_enter Try.func43, Try.ntmps43
   go_wp2_with (first | ((with_reducible refine gate_dst (N := 3) rfl ?_); refine box_event ?hg (N := 3) ?hd (cs := #[.slice A0_0 l0_0.length c0_0, .int .i64 a0_1, .int .i64 a0_2]) (t := 24) ?hr ?_; (case hd => rfl); (case hg => rfl); (case hr => first | (go_simp; done) | (go_simp; rfl)); intro gb455 hg w16 hbox hb; have BK455 := Aside0.mk (hbox); have GW455 := bz_ (hB_ HB.out) hg; have GE455 := bz_ (hB_ HB.out) hg; replace HB := Aside0.mk (below_step (hB_ HB.out) hb); clear hb hbox hg) | ((with_reducible refine gate_dst (N := 4) rfl ?_); refine box_event ?hg (N := 4) ?hd (cs := #[.int .u8 a1_0, .int .i64 a1_1, .int .i64 a1_2, .int .i64 a1_3, .int .i64 a1_4]) (t := 31) ?hr ?_; (case hd => rfl); (case hg => rfl); (case hr => first | (go_simp; done) | (go_simp; rfl)); intro gb456 hg w17 hbox hb; have BK456 := Aside0.mk (hbox); have GW456 := bz_ (hB_ HB.out) hg; have GE456 := bz_ (hB_ HB.out) hg; replace HB := Aside0.mk (below_step (hB_ HB.out) hb); have NB455_456 := bn_ BK455 hg; have NB456_455 := bm_ BK455 hg; replace BK455 := bs_ BK455 hb; clear hb hbox hg) | ((with_reducible refine gate_dst (N := 6) rfl ?_); refine box_event ?hg (N := 6) ?hd (cs := #[.int .u8 0, .int .i64 0, .int .i64 0, .int .i64 0, .int .i64 0]) (t := 31) ?hr ?_; (case hd => rfl); (case hg => rfl); (case hr => first | (go_simp; done) | (go_simp; rfl)); intro gb457 hg w18 hbox hb; have BK457 := Aside0.mk (hbox); have GW457 := bz_ (hB_ HB.out) hg; have GE457 := bz_ (hB_ HB.out) hg; replace HB := Aside0.mk (below_step (hB_ HB.out) hb); have NB455_457 := bn_ BK455 hg; have NB457_455 := bm_ BK455 hg; replace BK455 := bs_ BK455 hb; have NB456_457 := bn_ BK456 hg; have NB457_456 := bm_ BK456 hg; replace BK456 := bs_ BK456 hb; clear hb hbox hg; have hnb19 := NB456_455.out; have hnc19 := NB455_456.out; have hcz21_0 : w18.cell? ⟨gb456, 0, none⟩ = some (.int .u8 a1_0) := ck_ BK456 0; have hcz21_1 : w18.cell? ⟨gb456, 1, none⟩ = some (.int .i64 a1_1) := ck_ BK456 1; have hcz21_2 : w18.cell? ⟨gb456, 2, none⟩ = some (.int .i64 a1_2) := ck_ BK456 2; have hcz21_3 : w18.cell? ⟨gb456, 3, none⟩ = some (.int .i64 a1_3) := ck_ BK456 3; have hcz21_4 : w18.cell? ⟨gb456, 4, none⟩ = some (.int .i64 a1_4) := ck_ BK456 4; have hfz21_0 := blk_frozen BK456.out 0; have hfz21_1 := blk_frozen BK456.out 1; have hfz21_2 := blk_frozen BK456.out 2; have hfz21_3 := blk_frozen BK456.out 3; have hfz21_4 := blk_frozen BK456.out 4; have hcz23_0 : w18.cell? ⟨gb455, 0, none⟩ = some (.slice A0_0 l0_0.length c0_0) := ck_ BK455 0; have hcz23_1 : w18.cell? ⟨gb455, 1, none⟩ = some (.int .i64 a0_1) := ck_ BK455 1; have hcz23_2 : w18.cell? ⟨gb455, 2, none⟩ = some (.int .i64 a0_2) := ck_ BK455 2; have hfz23_0 := blk_frozen BK455.out 0; have hfz23_1 := blk_frozen BK455.out 1; have hfz23_2 := blk_frozen BK455.out 2) | ((with_reducible refine gate_callee (f := 46) rfl ?_); refine goesL_ (some 20) rfl rfl Try.func46 (by kernel_rfl) rfl #[.agg #[.slice A0_0 l0_0.length c0_0, .int .i64 a0_1, .int .i64 a0_2], .int .i64 a1_1] rfl (by (try simp only [List.map_toArray, List.map_cons, List.map_nil]); first | done | rfl | (simp only [List.length_drop, List.length_take]; rfl)) ?_; (with_reducible refine (millhandref24_Long.calls k _ _ l0_0 a0_1 a0_2 a1_1 t458 _ ?side1 ?side2 A14.out).mono ?_); (case side1 => repeat (first | exact (Kd.C_below HR0_0.out HB.out) | (with_reducible refine Kd.C_alloc ?_ _) | (with_reducible refine Kd.C_drewN ?_ _) | (with_reducible refine Kd.C_drew ?_))); (case side2 => exact HC0_0.out); rintro e w24 ⟨rfl, hb⟩; refine ⟨_, rfl, ?_⟩; replace BK455 := bs_ BK455 hb; replace BK456 := bs_ BK456 hb; replace BK457 := bs_ BK457 hb; replace HB := Aside0.mk (below_step (hB_ HB.out) hb); (try clear hb); (try clear hb2); (try clear hk); (try clear hi); have hcz25_0 : w24.cell? ⟨gb456, 0, none⟩ = some (.int .u8 a1_0) := ck_ BK456 0; have hcz25_1 : w24.cell? ⟨gb456, 1, none⟩ = some (.int .i64 a1_1) := ck_ BK456 1; have hcz25_2 : w24.cell? ⟨gb456, 2, none⟩ = some (.int .i64 a1_2) := ck_ BK456 2; have hcz25_3 : w24.cell? ⟨gb456, 3, none⟩ = some (.int .i64 a1_3) := ck_ BK456 3; have hcz25_4 : w24.cell? ⟨gb456, 4, none⟩ = some (.int .i64 a1_4) := ck_ BK456 4; have hfz25_0 := blk_frozen BK456.out 0; have hfz25_1 := blk_frozen BK456.out 1; have hfz25_2 := blk_frozen BK456.out 2; have hfz25_3 := blk_frozen BK456.out 3; have hfz25_4 := blk_frozen BK456.out 4; have hcz26_0 : w24.cell? ⟨gb457, 0, none⟩ = some (.int .u8 0) := ck_ BK457 0; have hcz26_1 : w24.cell? ⟨gb457, 1, none⟩ = some (.int .i64 0) := ck_ BK457 1; have hcz26_2 : w24.cell? ⟨gb457, 2, none⟩ = some (.int .i64 0) := ck_ BK457 2; have hcz26_3 : w24.cell? ⟨gb457, 3, none⟩ = some (.int .i64 0) := ck_ BK457 3; have hcz26_4 : w24.cell? ⟨gb457, 4, none⟩ = some (.int .i64 0) := ck_ BK457 4; have hfz26_0 := blk_frozen BK457.out 0; have hfz26_1 := blk_frozen BK457.out 1; have hfz26_2 := blk_frozen BK457.out 2; have hfz26_3 := blk_frozen BK457.out 3; have hfz26_4 := blk_frozen BK457.out 4))
   refine bodyPost_ret (results_cell_row rfl _ _ gb457 31 #[.int .u8 3, .int .i64 a1_1, .int .i64 1099511627776, .int .i64 0, .int .i64 0] (0, 0) _ rfl (by (with_reducible repeat (first | refine blk_drewN ?_ _ | refine blk_drew ?_ | refine blk_alloc ?_ _)); refine blk_put (cs := #[.int .u8 3, .int .i64 a1_1, .int .i64 1099511627776, .int .i64 0, .int .i64 0]) ?_ 4 _ rfl; (with_reducible repeat (first | refine blk_drewN ?_ _ | refine blk_drew ?_ | refine blk_alloc ?_ _)); refine blk_put (cs := #[.int .u8 3, .int .i64 a1_1, .int .i64 1099511627776, .int .i64 0, .int .i64 0]) ?_ 3 _ rfl; (with_reducible repeat (first | refine blk_drewN ?_ _ | refine blk_drew ?_ | refine blk_alloc ?_ _)); refine blk_put (cs := #[.int .u8 3, .int .i64 a1_1, .int .i64 0, .int .i64 0, .int .i64 0]) ?_ 2 _ rfl; (with_reducible repeat (first | refine blk_drewN ?_ _ | refine blk_drew ?_ | refine blk_alloc ?_ _)); refine blk_put (cs := #[.int .u8 3, .int .i64 0, .int .i64 0, .int .i64 0, .int .i64 0]) ?_ 1 _ rfl; (with_reducible repeat (first | refine blk_drewN ?_ _ | refine blk_drew ?_ | refine blk_alloc ?_ _)); refine blk_put (cs := #[.int .u8 0, .int .i64 0, .int .i64 0, .int .i64 0, .int .i64 0]) ?_ 0 _ rfl; (with_reducible repeat (first | refine blk_drewN ?_ _ | refine blk_drew ?_ | refine blk_alloc ?_ _)); exact BK457.out) Try.underlying31 rfl (by kernel_rfl)) rfl ?_
   exact ⟨by first | rfl | (simp [errW_none, errW_some] <;> rfl) | (simp [*, errW_none, errW_some] <;> rfl) | exact ret_ie _ | (simp [*, errW_none, errW_some, bne]; done), by repeat (first | (with_reducible first | exact HB.out | apply below_alloc | apply pw_below_drewN | apply below_drew1 | refine below_set ?_ GE455.out | refine below_set ?_ GE456.out | refine below_set ?_ GE457.out) | exact HB.out)⟩
  ·
   rw [if_neg c15] at H
   have c15b0 : decide (1099511627776 < (wrap64 (a2 + t458))) = false := decide_eq_false c15
   clear c15
   simp only [Option.some.injEq, Prod.mk.injEq] at H
   obtain ⟨rfl, rfl, rfl, rfl, rfl⟩ := H
   go_enter Try.func43, Try.ntmps43
   go_wp2_with (first | ((with_reducible refine gate_dst (N := 3) rfl ?_); refine box_event ?hg (N := 3) ?hd (cs := #[.slice A0_0 l0_0.length c0_0, .int .i64 a0_1, .int .i64 a0_2]) (t := 24) ?hr ?_; (case hd => rfl); (case hg => rfl); (case hr => first | (go_simp; done) | (go_simp; rfl)); intro gb455 hg w27 hbox hb; have BK455 := Aside0.mk (hbox); have GW455 := bz_ (hB_ HB.out) hg; have GE455 := bz_ (hB_ HB.out) hg; replace HB := Aside0.mk (below_step (hB_ HB.out) hb); clear hb hbox hg) | ((with_reducible refine gate_dst (N := 4) rfl ?_); refine box_event ?hg (N := 4) ?hd (cs := #[.int .u8 a1_0, .int .i64 a1_1, .int .i64 a1_2, .int .i64 a1_3, .int .i64 a1_4]) (t := 31) ?hr ?_; (case hd => rfl); (case hg => rfl); (case hr => first | (go_simp; done) | (go_simp; rfl)); intro gb456 hg w28 hbox hb; have BK456 := Aside0.mk (hbox); have GW456 := bz_ (hB_ HB.out) hg; have GE456 := bz_ (hB_ HB.out) hg; replace HB := Aside0.mk (below_step (hB_ HB.out) hb); have NB455_456 := bn_ BK455 hg; have NB456_455 := bm_ BK455 hg; replace BK455 := bs_ BK455 hb; clear hb hbox hg) | ((with_reducible refine gate_dst (N := 6) rfl ?_); refine box_event ?hg (N := 6) ?hd (cs := #[.int .u8 0, .int .i64 0, .int .i64 0, .int .i64 0, .int .i64 0]) (t := 31) ?hr ?_; (case hd => rfl); (case hg => rfl); (case hr => first | (go_simp; done) | (go_simp; rfl)); intro gb457 hg w29 hbox hb; have BK457 := Aside0.mk (hbox); have GW457 := bz_ (hB_ HB.out) hg; have GE457 := bz_ (hB_ HB.out) hg; replace HB := Aside0.mk (below_step (hB_ HB.out) hb); have NB455_457 := bn_ BK455 hg; have NB457_455 := bm_ BK455 hg; replace BK455 := bs_ BK455 hb; have NB456_457 := bn_ BK456 hg; have NB457_456 := bm_ BK456 hg; replace BK456 := bs_ BK456 hb; clear hb hbox hg; have hnb30 := NB456_455.out; have hnc30 := NB455_456.out; have hcz32_0 : w29.cell? ⟨gb456, 0, none⟩ = some (.int .u8 a1_0) := ck_ BK456 0; have hcz32_1 : w29.cell? ⟨gb456, 1, none⟩ = some (.int .i64 a1_1) := ck_ BK456 1; have hcz32_2 : w29.cell? ⟨gb456, 2, none⟩ = some (.int .i64 a1_2) := ck_ BK456 2; have hcz32_3 : w29.cell? ⟨gb456, 3, none⟩ = some (.int .i64 a1_3) := ck_ BK456 3; have hcz32_4 : w29.cell? ⟨gb456, 4, none⟩ = some (.int .i64 a1_4) := ck_ BK456 4; have hfz32_0 := blk_frozen BK456.out 0; have hfz32_1 := blk_frozen BK456.out 1; have hfz32_2 := blk_frozen BK456.out 2; have hfz32_3 := blk_frozen BK456.out 3; have hfz32_4 := blk_frozen BK456.out 4; have hcz34_0 : w29.cell? ⟨gb455, 0, none⟩ = some (.slice A0_0 l0_0.length c0_0) := ck_ BK455 0; have hcz34_1 : w29.cell? ⟨gb455, 1, none⟩ = some (.int .i64 a0_1) := ck_ BK455 1; have hcz34_2 : w29.cell? ⟨gb455, 2, none⟩ = some (.int .i64 a0_2) := ck_ BK455 2; have hfz34_0 := blk_frozen BK455.out 0; have hfz34_1 := blk_frozen BK455.out 1; have hfz34_2 := blk_frozen BK455.out 2) | ((with_reducible refine gate_callee (f := 46) rfl ?_); refine goesL_ (some 20) rfl rfl Try.func46 (by kernel_rfl) rfl #[.agg #[.slice A0_0 l0_0.length c0_0, .int .i64 a0_1, .int .i64 a0_2], .int .i64 a1_1] rfl (by (try simp only [List.map_toArray, List.map_cons, List.map_nil]); first | done | rfl | (simp only [List.length_drop, List.length_take]; rfl)) ?_; (with_reducible refine (millhandref24_Long.calls k _ _ l0_0 a0_1 a0_2 a1_1 t458 _ ?side1 ?side2 A14.out).mono ?_); (case side1 => repeat (first | exact (Kd.C_below HR0_0.out HB.out) | (with_reducible refine Kd.C_alloc ?_ _) | (with_reducible refine Kd.C_drewN ?_ _) | (with_reducible refine Kd.C_drew ?_))); (case side2 => exact HC0_0.out); rintro e w35 ⟨rfl, hb⟩; refine ⟨_, rfl, ?_⟩; replace BK455 := bs_ BK455 hb; replace BK456 := bs_ BK456 hb; replace BK457 := bs_ BK457 hb; replace HB := Aside0.mk (below_step (hB_ HB.out) hb); (try clear hb); (try clear hb2); (try clear hk); (try clear hi); have hcz36_0 : w35.cell? ⟨gb456, 0, none⟩ = some (.int .u8 a1_0) := ck_ BK456 0; have hcz36_1 : w35.cell? ⟨gb456, 1, none⟩ = some (.int .i64 a1_1) := ck_ BK456 1; have hcz36_2 : w35.cell? ⟨gb456, 2, none⟩ = some (.int .i64 a1_2) := ck_ BK456 2; have hcz36_3 : w35.cell? ⟨gb456, 3, none⟩ = some (.int .i64 a1_3) := ck_ BK456 3; have hcz36_4 : w35.cell? ⟨gb456, 4, none⟩ = some (.int .i64 a1_4) := ck_ BK456 4; have hfz36_0 := blk_frozen BK456.out 0; have hfz36_1 := blk_frozen BK456.out 1; have hfz36_2 := blk_frozen BK456.out 2; have hfz36_3 := blk_frozen BK456.out 3; have hfz36_4 := blk_frozen BK456.out 4; have hcz37_0 : w35.cell? ⟨gb457, 0, none⟩ = some (.int .u8 0) := ck_ BK457 0; have hcz37_1 : w35.cell? ⟨gb457, 1, none⟩ = some (.int .i64 0) := ck_ BK457 1; have hcz37_2 : w35.cell? ⟨gb457, 2, none⟩ = some (.int .i64 0) := ck_ BK457 2; have hcz37_3 : w35.cell? ⟨gb457, 3, none⟩ = some (.int .i64 0) := ck_ BK457 3; have hcz37_4 : w35.cell? ⟨gb457, 4, none⟩ = some (.int .i64 0) := ck_ BK457 4; have hfz37_0 := blk_frozen BK457.out 0; have hfz37_1 := blk_frozen BK457.out 1; have hfz37_2 := blk_frozen BK457.out 2; have hfz37_3 := blk_frozen BK457.out 3; have hfz37_4 := blk_frozen BK457.out 4))
   refine bodyPost_ret (results_cell_row rfl _ _ gb457 31 #[.int .u8 3, .int .i64 a1_1, .int .i64 (wrap64 (a2 + t458)), .int .i64 0, .int .i64 0] (0, 0) _ rfl (by (with_reducible repeat (first | refine blk_drewN ?_ _ | refine blk_drew ?_ | refine blk_alloc ?_ _)); refine blk_put (cs := #[.int .u8 3, .int .i64 a1_1, .int .i64 (wrap64 (a2 + t458)), .int .i64 0, .int .i64 0]) ?_ 4 _ rfl; (with_reducible repeat (first | refine blk_drewN ?_ _ | refine blk_drew ?_ | refine blk_alloc ?_ _)); refine blk_put (cs := #[.int .u8 3, .int .i64 a1_1, .int .i64 (wrap64 (a2 + t458)), .int .i64 0, .int .i64 0]) ?_ 3 _ rfl; (with_reducible repeat (first | refine blk_drewN ?_ _ | refine blk_drew ?_ | refine blk_alloc ?_ _)); refine blk_put (cs := #[.int .u8 3, .int .i64 a1_1, .int .i64 0, .int .i64 0, .int .i64 0]) ?_ 2 _ rfl; (with_reducible repeat (first | refine blk_drewN ?_ _ | refine blk_drew ?_ | refine blk_alloc ?_ _)); refine blk_put (cs := #[.int .u8 3, .int .i64 0, .int .i64 0, .int .i64 0, .int .i64 0]) ?_ 1 _ rfl; (with_reducible repeat (first | refine blk_drewN ?_ _ | refine blk_drew ?_ | refine blk_alloc ?_ _)); refine blk_put (cs := #[.int .u8 0, .int .i64 0, .int .i64 0, .int .i64 0, .int .i64 0]) ?_ 0 _ rfl; (with_reducible repeat (first | refine blk_drewN ?_ _ | refine blk_drew ?_ | refine blk_alloc ?_ _)); exact BK457.out) Try.underlying31 rfl (by kernel_rfl)) rfl ?_
   exact ⟨by first | rfl | (simp [errW_none, errW_some] <;> rfl) | (simp [*, errW_none, errW_some] <;> rfl) | exact ret_ie _ | (simp [*, errW_none, errW_some, bne]; done), by repeat (first | (with_reducible first | exact HB.out | apply below_alloc | apply pw_below_drewN | apply below_drew1 | refine below_set ?_ GE455.out | refine below_set ?_ GE456.out | refine below_set ?_ GE457.out) | exact HB.out)⟩

/-! ### millhandref24_Fail: function 23 -/
def millhandref24_Fail.f (k : Nat) (l0_0 : List Int) (a0_1 : Int) (a0_2 : Int) (a1_0 : Int) (a1_1 : Int) (a1_2 : Int) (a1_3 : Int) (a1_4 : Int) (a2 : Int) (a3 : Int) : Option (Int × Int × Int × Int × Int × Int) := (millhandref24_In.f a3).bind fun t462 => ((millhandref24_owned.f k l0_0 a0_1 a0_2 a1_0 a1_1 a1_2 a1_3 a1_4 a2 t462).bind fun t463 => (if t463 = 0 then ((millhandref24_Failed.f k l0_0 a0_1 a0_2 a1_0 a1_1 a1_2 a1_3 a1_4 a3).bind fun bt464 => (some (bt464.1, bt464.2.1, bt464.2.2.1, bt464.2.2.2.1, bt464.2.2.2.2, 0))) else (some (0, 0, 0, 0, 0, t463))))
theorem millhandref24_Fail.mono : ∀ a0 a1 a2 a3 a4 a5 a6 a7 a8 a9 k, LeO (millhandref24_Fail.f k a0 a1 a2 a3 a4 a5 a6 a7 a8 a9) (millhandref24_Fail.f (k + 1) a0 a1 a2 a3 a4 a5 a6 a7 a8 a9) := by
 intro a0 a1 a2 a3 a4 a5 a6 a7 a8 a9 k
 unfold millhandref24_Fail.f
 repeat' first
   | (with_reducible exact millhandref24_Failed.mono _ _ _ _ _ _ _ _ _ _)
   | (with_reducible exact millhandref24_owned.mono _ _ _ _ _ _ _ _ _ _ _)
   | (with_reducible exact LeO.refl _)
   | (with_reducible exact LeO.none _)
   | (with_reducible refine LeO.ite ?_ ?_)
   | (with_reducible refine LeO.bind ?_ (fun _ => ?_))
   | exact millhandref24_Failed.mono _ _ _ _ _ _ _ _ _ _
   | exact millhandref24_owned.mono _ _ _ _ _ _ _ _ _ _ _
   | exact LeO.none _
   | refine LeO.ite ?_ ?_
   | refine LeO.bind ?_ (fun _ => ?_)
set_option maxHeartbeats 8000000 in
set_option maxRecDepth 100000 in
theorem millhandref24_Fail.calls (k : Nat) (A0_0 : Option Addr) (c0_0 : Nat) (l0_0 : List Int) (a0_1 : Int) (a0_2 : Int) (a1_0 : Int) (a1_1 : Int) (a1_2 : Int) (a1_3 : Int) (a1_4 : Int) (a2 : Int) (a3 : Int) (r1 : Int) (r2 : Int) (r3 : Int) (r4 : Int) (r5 : Int) (r6 : Int) (w : World) (hr0_0 : Kd.C (Kd.int .i64) w A0_0 l0_0.length l0_0) (hc0_0 : l0_0.length ≤ c0_0) (h : millhandref24_Fail.f k l0_0 a0_1 a0_2 a1_0 a1_1 a1_2 a1_3 a1_4 a2 a3 = some (r1, r2, r3, r4, r5, r6)) :
  Calls Try.prog 23 #[.agg #[.slice A0_0 l0_0.length c0_0, .int .i64 a0_1, .int .i64 a0_2], .agg #[.int .u8 a1_0, .int .i64 a1_1, .int .i64 a1_2, .int .i64 a1_3, .int .i64 a1_4], .int .i64 a2, .int .i64 a3] w fun e w' => e = .returned (.tuple #[.agg #[.int .u8 r1, .int .i64 r2, .int .i64 r3, .int .i64 r4, .int .i64 r5], .int .i64 r6]) ∧ Below w.heap.size w w' := by
 have hu24 := Try.underlying24
 have hu31 := Try.underlying31
 have HR0_0 := Aside0.mk hr0_0
 have HC0_0 := Aside0.mk hc0_0
 clear hr0_0 hc0_0
 have HB := Aside0.mk (Below.refl w.heap.size w)
 have H : ((millhandref24_In.f a3).bind fun t462 => ((millhandref24_owned.f k l0_0 a0_1 a0_2 a1_0 a1_1 a1_2 a1_3 a1_4 a2 t462).bind fun t463 => (if t463 = 0 then ((millhandref24_Failed.f k l0_0 a0_1 a0_2 a1_0 a1_1 a1_2 a1_3 a1_4 a3).bind fun bt464 => (some (bt464.1, bt464.2.1, bt464.2.2.1, bt464.2.2.2.1, bt464.2.2.2.2, 0))) else (some (0, 0, 0, 0, 0, t463))))) = some (r1, r2, r3, r4, r5, r6) := h
 clear h
 replace H := Option.bind_eq_some_iff.mp H
 obtain ⟨t462, A50, H⟩ := H
 try dsimp only at H
 have A5 := Aside0.mk A50
 clear A50
 replace H := Option.bind_eq_some_iff.mp H
 obtain ⟨t463, A60, H⟩ := H
 try dsimp only at H
 have A6 := Aside0.mk A60
 clear A60
 by_cases c7 : t463 = 0
 ·
  rw [if_pos c7] at H
  have c7b0 : (t463 == 0) = true := beq_iff_eq.mpr c7
  have c7b1 : (t463 != 0) = false := bne_eq_false_iff_eq.mpr c7
  clear c7
  replace H := Option.bind_eq_some_iff.mp H
  obtain ⟨⟨t464, t465, t466, t467, t468⟩, A80, H⟩ := H
  replace H : (some (t464, t465, t466, t467, t468, 0)) = some (r1, r2, r3, r4, r5, r6) := H
  have A8 := Aside0.mk A80
  clear A80
  simp only [Option.some.injEq, Prod.mk.injEq] at H
  obtain ⟨rfl, rfl, rfl, rfl, rfl, rfl⟩ := H
  go_enter Try.func23, Try.ntmps23
  try go_wp2_with (first | ((with_reducible refine gate_dst (N := 4) rfl ?_); refine box_event ?hg (N := 4) ?hd (cs := #[.slice A0_0 l0_0.length c0_0, .int .i64 a0_1, .int .i64 a0_2]) (t := 24) ?hr ?_; (case hd => rfl); (case hg => rfl); (case hr => first | (go_simp; done) | (go_simp; rfl)); intro gb459 hg w9 hbox hb; have BK459 := Aside0.mk (hbox); have GW459 := bz_ (hB_ HB.out) hg; have GE459 := bz_ (hB_ HB.out) hg; replace HB := Aside0.mk (below_step (hB_ HB.out) hb); clear hb hbox hg) | ((with_reducible refine gate_dst (N := 5) rfl ?_); refine box_event ?hg (N := 5) ?hd (cs := #[.int .u8 a1_0, .int .i64 a1_1, .int .i64 a1_2, .int .i64 a1_3, .int .i64 a1_4]) (t := 31) ?hr ?_; (case hd => rfl); (case hg => rfl); (case hr => first | (go_simp; done) | (go_simp; rfl)); intro gb460 hg w10 hbox hb; have BK460 := Aside0.mk (hbox); have GW460 := bz_ (hB_ HB.out) hg; have GE460 := bz_ (hB_ HB.out) hg; replace HB := Aside0.mk (below_step (hB_ HB.out) hb); have NB459_460 := bn_ BK459 hg; have NB460_459 := bm_ BK459 hg; replace BK459 := bs_ BK459 hb; clear hb hbox hg) | ((with_reducible refine gate_dst (N := 8) rfl ?_); refine box_event ?hg (N := 8) ?hd (cs := #[.int .u8 0, .int .i64 0, .int .i64 0, .int .i64 0, .int .i64 0]) (t := 31) ?hr ?_; (case hd => rfl); (case hg => rfl); (case hr => first | (go_simp; done) | (go_simp; rfl)); intro gb461 hg w11 hbox hb; have BK461 := Aside0.mk (hbox); have GW461 := bz_ (hB_ HB.out) hg; have GE461 := bz_ (hB_ HB.out) hg; replace HB := Aside0.mk (below_step (hB_ HB.out) hb); have NB459_461 := bn_ BK459 hg; have NB461_459 := bm_ BK459 hg; replace BK459 := bs_ BK459 hb; have NB460_461 := bn_ BK460 hg; have NB461_460 := bm_ BK460 hg; replace BK460 := bs_ BK460 hb; clear hb hbox hg))
  replace BK459 := Aside0.mk (blk_drew BK459.out)
  replace BK460 := Aside0.mk (blk_drew BK460.out)
  replace BK461 := Aside0.mk (blk_drew BK461.out)
  replace HB := Aside0.mk (below_drew1 HB.out)
  refine start_ (n := 7) (S := fun w' => w'.cell? ⟨gb459, 0, none⟩ = some (.slice A0_0 l0_0.length c0_0) ∧ w'.cell? ⟨gb459, 1, none⟩ = some (.int .i64 a0_1) ∧ w'.cell? ⟨gb459, 2, none⟩ = some (.int .i64 a0_2) ∧ w'.cell? ⟨gb460, 0, none⟩ = some (.int .u8 a1_0) ∧ w'.cell? ⟨gb460, 1, none⟩ = some (.int .i64 a1_1) ∧ w'.cell? ⟨gb460, 2, none⟩ = some (.int .i64 a1_2) ∧ w'.cell? ⟨gb460, 3, none⟩ = some (.int .i64 a1_3) ∧ w'.cell? ⟨gb460, 4, none⟩ = some (.int .i64 a1_4)) (ds := []) (b_ 7 0) (by kernel_rfl) rfl rfl ⟨ck_ BK459 0, ck_ BK459 1, ck_ BK459 2, ck_ BK460 0, ck_ BK460 1, ck_ BK460 2, ck_ BK460 3, ck_ BK460 4⟩ (fun hHeld => ?_)
  generalize w11.drew = w12 at BK459 BK460 BK461 HB hHeld ⊢
  refine pure_ (i := 2) (N := some 13) (v := ?_) (a' := ?_) (b_ 7 4) rfl rfl (by kernel_rfl) (fun _ _ _ h => h) (Or.inl ⟨by rfl, ?_⟩) ?_ ?_
  rotate_left
  ·
   intro w'
   go_simp
   with_reducible rfl
  rotate_left
  ·
   simp only [Act.put, sa_, s0_, s1_, i64_w, i32_w]
   rfl
  refine pure_ (i := 3) (N := some 14) (v := ?_) (a' := ?_) (b_ 7 12) rfl rfl (by kernel_rfl) (fun _ _ _ h => h) (Or.inl ⟨by rfl, ?_⟩) ?_ ?_
  rotate_left
  ·
   intro w'
   go_simp
   with_reducible rfl
  rotate_left
  ·
   simp only [Act.put, sa_, s0_, s1_, i64_w, i32_w]
   rfl
  refine take_ (i := 0) (N := some 11) (v := ?_) (a' := ?_) (b_ 7 13) rfl rfl (by kernel_rfl) (fun _ _ _ h => h) (Or.inl ⟨by rfl, ?_⟩) hHeld ?_ ?_
  rotate_left
  ·
   rintro w' ⟨s0, s1, s2, s3, s4, s5, s6, s7⟩
   go_simp
   with_reducible rfl
  rotate_left
  ·
   simp only [Act.put, sa_, s0_, s1_, i64_w, i32_w]
   rfl
  refine take_ (i := 1) (N := some 12) (v := ?_) (a' := ?_) (b_ 7 15) rfl rfl (by kernel_rfl) (fun _ _ _ h => h) (Or.inl ⟨by rfl, ?_⟩) hHeld ?_ ?_
  rotate_left
  ·
   rintro w' ⟨s0, s1, s2, s3, s4, s5, s6, s7⟩
   go_simp
   with_reducible rfl
  rotate_left
  ·
   simp only [Act.put, sa_, s0_, s1_, i64_w, i32_w]
   rfl
  refine one_ (i := 4) (N := some 15) (b_ 7 31) rfl rfl (by kernel_rfl) (by decide) (fun K hK => ?_)
  refine goes_ Try.func41 (by kernel_rfl) rfl #[.int .i64 a3] (by rfl) rfl rfl (by (try simp only [List.map_toArray, List.map_cons, List.map_nil]); first | done | rfl | (simp only [List.length_drop, List.length_take]; rfl)) ?_
  with_reducible refine (millhandref24_In.calls a3 t462 _ A5.out).mono ?_
  rintro e w' ⟨rfl, ⟨nd, rfl⟩⟩
  refine ⟨_, rfl, ?_⟩
  refine hK.out _ _ ⟨ck_ BK459 0, ck_ BK459 1, ck_ BK459 2, ck_ BK460 0, ck_ BK460 1, ck_ BK460 2, ck_ BK460 3, ck_ BK460 4⟩ (fun hHeld => ?_)
  clear hK K
  refine norm_ (a' := ?_) ?_ ?_
  rotate_left
  ·
   show Act.put _ (some 15) _ = _
   simp only [Act.put, sa_, s0_, s1_, i64_w, i32_w]
   rfl
  refine one_ (i := 5) (N := some 16) (b_ 7 63) rfl rfl (by kernel_rfl) (by decide) (fun K hK => ?_)
  refine goes_ Try.func42 (by kernel_rfl) rfl #[.agg #[.slice A0_0 l0_0.length c0_0, .int .i64 a0_1, .int .i64 a0_2], .agg #[.int .u8 a1_0, .int .i64 a1_1, .int .i64 a1_2, .int .i64 a1_3, .int .i64 a1_4], .int .i64 a2, .bool t462] (by rfl) rfl rfl (by (try simp only [List.map_toArray, List.map_cons, List.map_nil]); first | done | rfl | (simp only [List.length_drop, List.length_take]; rfl)) ?_
  with_reducible refine (millhandref24_owned.calls k _ _ l0_0 a0_1 a0_2 a1_0 a1_1 a1_2 a1_3 a1_4 a2 t462 t463 _ ?side1 ?side2 A6.out).mono ?_
  (case side1 => repeat (first | exact (Kd.C_below HR0_0.out (by repeat (first | (with_reducible first | exact HB.out | apply below_alloc | apply pw_below_drewN | apply below_drew1 | refine below_set ?_ GE459.out | refine below_set ?_ GE460.out | refine below_set ?_ GE461.out) | exact HB.out))) | (with_reducible refine Kd.C_alloc ?_ _) | (with_reducible refine Kd.C_drewN ?_ _) | (with_reducible refine Kd.C_drew ?_)))
  (case side2 => exact HC0_0.out)
  rintro e w13 ⟨rfl, hb⟩
  refine ⟨_, rfl, ?_⟩
  replace BK459 := bs_ BK459 hb
  replace BK460 := bs_ BK460 hb
  replace BK461 := bs_ BK461 hb
  replace HB := Aside0.mk (below_step (hB_ HB.out) hb)
  (try clear hb)
  (try clear hb2)
  (try clear hk)
  (try clear hi)
  refine hK.out _ _ ⟨ck_ BK459 0, ck_ BK459 1, ck_ BK459 2, ck_ BK460 0, ck_ BK460 1, ck_ BK460 2, ck_ BK460 3, ck_ BK460 4⟩ (fun hHeld => ?_)
  clear hK K
  refine norm_ (a' := ?_) ?_ ?_
  rotate_left
  ·
   show Act.put _ (some 16) _ = _
   simp only [Act.put, sa_, s0_, s1_, i64_w, i32_w]
   rfl
  refine pure_ (i := 6) (N := some 10) (v := ?_) (a' := ?_) (b_ 7 127) rfl rfl (by kernel_rfl) (fun _ _ _ h => h) (Or.inl ⟨by rfl, ?_⟩) ?_ ?_
  rotate_left
  ·
   intro w'
   go_simp
   with_reducible rfl
  rotate_left
  ·
   simp only [Act.put, sa_, s0_, s1_, i64_w, i32_w]
   rfl
  refine done_ (by kernel_rfl) ?_
  have hnb14 := NB459_460.out
  have hnc14 := NB460_459.out
  have hcz16_0 : w13.cell? ⟨gb459, 0, none⟩ = some (.slice A0_0 l0_0.length c0_0) := ck_ BK459 0
  have hcz16_1 : w13.cell? ⟨gb459, 1, none⟩ = some (.int .i64 a0_1) := ck_ BK459 1
  have hcz16_2 : w13.cell? ⟨gb459, 2, none⟩ = some (.int .i64 a0_2) := ck_ BK459 2
  have hfz16_0 := blk_frozen BK459.out 0
  have hfz16_1 := blk_frozen BK459.out 1
  have hfz16_2 := blk_frozen BK459.out 2
  have hcz18_0 : w13.cell? ⟨gb460, 0, none⟩ = some (.int .u8 a1_0) := ck_ BK460 0
  have hcz18_1 : w13.cell? ⟨gb460, 1, none⟩ = some (.int .i64 a1_1) := ck_ BK460 1
  have hcz18_2 : w13.cell? ⟨gb460, 2, none⟩ = some (.int .i64 a1_2) := ck_ BK460 2
  have hcz18_3 : w13.cell? ⟨gb460, 3, none⟩ = some (.int .i64 a1_3) := ck_ BK460 3
  have hcz18_4 : w13.cell? ⟨gb460, 4, none⟩ = some (.int .i64 a1_4) := ck_ BK460 4
  have hfz18_0 := blk_frozen BK460.out 0
  have hfz18_1 := blk_frozen BK460.out 1
  have hfz18_2 := blk_frozen BK460.out 2
  have hfz18_3 := blk_frozen BK460.out 3
  have hfz18_4 := blk_frozen BK460.out 4
  try go_wp2_with (first | ((with_reducible refine gate_callee (f := 43) rfl ?_); refine goesL_ (some 24) rfl rfl Try.func43 (by kernel_rfl) rfl #[.agg #[.slice A0_0 l0_0.length c0_0, .int .i64 a0_1, .int .i64 a0_2], .agg #[.int .u8 a1_0, .int .i64 a1_1, .int .i64 a1_2, .int .i64 a1_3, .int .i64 a1_4], .int .i64 a3] rfl (by (try simp only [List.map_toArray, List.map_cons, List.map_nil]); first | done | rfl | (simp only [List.length_drop, List.length_take]; rfl)) ?_; (with_reducible refine (millhandref24_Failed.calls k _ _ l0_0 a0_1 a0_2 a1_0 a1_1 a1_2 a1_3 a1_4 a3 t464 t465 t466 t467 t468 _ ?side1 ?side2 A8.out).mono ?_); (case side1 => repeat (first | exact (Kd.C_below HR0_0.out HB.out) | (with_reducible refine Kd.C_alloc ?_ _) | (with_reducible refine Kd.C_drewN ?_ _) | (with_reducible refine Kd.C_drew ?_))); (case side2 => exact HC0_0.out); rintro e w19 ⟨rfl, hb⟩; refine ⟨_, rfl, ?_⟩; replace BK459 := bs_ BK459 hb; replace BK460 := bs_ BK460 hb; replace BK461 := bs_ BK461 hb; replace HB := Aside0.mk (below_step (hB_ HB.out) hb); (try clear hb); (try clear hb2); (try clear hk); (try clear hi); have hcz20_0 : w19.cell? ⟨gb461, 0, none⟩ = some (.int .u8 0) := ck_ BK461 0; have hcz20_1 : w19.cell? ⟨gb461, 1, none⟩ = some (.int .i64 0) := ck_ BK461 1; have hcz20_2 : w19.cell? ⟨gb461, 2, none⟩ = some (.int .i64 0) := ck_ BK461 2; have hcz20_3 : w19.cell? ⟨gb461, 3, none⟩ = some (.int .i64 0) := ck_ BK461 3; have hcz20_4 : w19.cell? ⟨gb461, 4, none⟩ = some (.int .i64 0) := ck_ BK461 4; have hfz20_0 := blk_frozen BK461.out 0; have hfz20_1 := blk_frozen BK461.out 1; have hfz20_2 := blk_frozen BK461.out 2; have hfz20_3 := blk_frozen BK461.out 3; have hfz20_4 := blk_frozen BK461.out 4))
  refine bodyPost_ret (results_ct rfl _ _ gb461 31 #[.int .u8 t464, .int .i64 t465, .int .i64 t466, .int .i64 t467, .int .i64 t468] (0, 0) _ rfl (by (with_reducible repeat (first | refine blk_drewN ?_ _ | refine blk_drew ?_ | refine blk_alloc ?_ _)); refine blk_put (cs := #[.int .u8 t464, .int .i64 t465, .int .i64 t466, .int .i64 t467, .int .i64 0]) ?_ 4 _ rfl; (with_reducible repeat (first | refine blk_drewN ?_ _ | refine blk_drew ?_ | refine blk_alloc ?_ _)); refine blk_put (cs := #[.int .u8 t464, .int .i64 t465, .int .i64 t466, .int .i64 0, .int .i64 0]) ?_ 3 _ rfl; (with_reducible repeat (first | refine blk_drewN ?_ _ | refine blk_drew ?_ | refine blk_alloc ?_ _)); refine blk_put (cs := #[.int .u8 t464, .int .i64 t465, .int .i64 0, .int .i64 0, .int .i64 0]) ?_ 2 _ rfl; (with_reducible repeat (first | refine blk_drewN ?_ _ | refine blk_drew ?_ | refine blk_alloc ?_ _)); refine blk_put (cs := #[.int .u8 t464, .int .i64 0, .int .i64 0, .int .i64 0, .int .i64 0]) ?_ 1 _ rfl; (with_reducible repeat (first | refine blk_drewN ?_ _ | refine blk_drew ?_ | refine blk_alloc ?_ _)); refine blk_put (cs := #[.int .u8 0, .int .i64 0, .int .i64 0, .int .i64 0, .int .i64 0]) ?_ 0 _ rfl; (with_reducible repeat (first | refine blk_drewN ?_ _ | refine blk_drew ?_ | refine blk_alloc ?_ _)); exact BK461.out) Try.underlying31 rfl (by kernel_rfl)) rfl ?_
  exact ⟨by first | rfl | (simp [errW_none, errW_some] <;> rfl) | (simp [*, errW_none, errW_some] <;> rfl) | exact ret_ie _ | (simp [*, errW_none, errW_some, bne]; done), by repeat (first | (with_reducible first | exact HB.out | apply below_alloc | apply pw_below_drewN | apply below_drew1 | refine below_set ?_ GE459.out | refine below_set ?_ GE460.out | refine below_set ?_ GE461.out) | exact HB.out)⟩
 ·
  rw [if_neg c7] at H
  have c7b0 : (t463 == 0) = false := beq_eq_false_iff_ne.mpr c7
  have c7b1 : (t463 != 0) = true := bne_iff_ne.mpr c7
  simp only [Option.some.injEq, Prod.mk.injEq] at H
  obtain ⟨rfl, rfl, rfl, rfl, rfl, rfl⟩ := H
  go_enter Try.func23, Try.ntmps23
  try go_wp2_with (first | ((with_reducible refine gate_dst (N := 4) rfl ?_); refine box_event ?hg (N := 4) ?hd (cs := #[.slice A0_0 l0_0.length c0_0, .int .i64 a0_1, .int .i64 a0_2]) (t := 24) ?hr ?_; (case hd => rfl); (case hg => rfl); (case hr => first | (go_simp; done) | (go_simp; rfl)); intro gb459 hg w21 hbox hb; have BK459 := Aside0.mk (hbox); have GW459 := bz_ (hB_ HB.out) hg; have GE459 := bz_ (hB_ HB.out) hg; replace HB := Aside0.mk (below_step (hB_ HB.out) hb); clear hb hbox hg) | ((with_reducible refine gate_dst (N := 5) rfl ?_); refine box_event ?hg (N := 5) ?hd (cs := #[.int .u8 a1_0, .int .i64 a1_1, .int .i64 a1_2, .int .i64 a1_3, .int .i64 a1_4]) (t := 31) ?hr ?_; (case hd => rfl); (case hg => rfl); (case hr => first | (go_simp; done) | (go_simp; rfl)); intro gb460 hg w22 hbox hb; have BK460 := Aside0.mk (hbox); have GW460 := bz_ (hB_ HB.out) hg; have GE460 := bz_ (hB_ HB.out) hg; replace HB := Aside0.mk (below_step (hB_ HB.out) hb); have NB459_460 := bn_ BK459 hg; have NB460_459 := bm_ BK459 hg; replace BK459 := bs_ BK459 hb; clear hb hbox hg) | ((with_reducible refine gate_dst (N := 8) rfl ?_); refine box_event ?hg (N := 8) ?hd (cs := #[.int .u8 0, .int .i64 0, .int .i64 0, .int .i64 0, .int .i64 0]) (t := 31) ?hr ?_; (case hd => rfl); (case hg => rfl); (case hr => first | (go_simp; done) | (go_simp; rfl)); intro gb461 hg w23 hbox hb; have BK461 := Aside0.mk (hbox); have GW461 := bz_ (hB_ HB.out) hg; have GE461 := bz_ (hB_ HB.out) hg; replace HB := Aside0.mk (below_step (hB_ HB.out) hb); have NB459_461 := bn_ BK459 hg; have NB461_459 := bm_ BK459 hg; replace BK459 := bs_ BK459 hb; have NB460_461 := bn_ BK460 hg; have NB461_460 := bm_ BK460 hg; replace BK460 := bs_ BK460 hb; clear hb hbox hg))
  replace BK459 := Aside0.mk (blk_drew BK459.out)
  replace BK460 := Aside0.mk (blk_drew BK460.out)
  replace BK461 := Aside0.mk (blk_drew BK461.out)
  replace HB := Aside0.mk (below_drew1 HB.out)
  refine start_ (n := 7) (S := fun w' => w'.cell? ⟨gb459, 0, none⟩ = some (.slice A0_0 l0_0.length c0_0) ∧ w'.cell? ⟨gb459, 1, none⟩ = some (.int .i64 a0_1) ∧ w'.cell? ⟨gb459, 2, none⟩ = some (.int .i64 a0_2) ∧ w'.cell? ⟨gb460, 0, none⟩ = some (.int .u8 a1_0) ∧ w'.cell? ⟨gb460, 1, none⟩ = some (.int .i64 a1_1) ∧ w'.cell? ⟨gb460, 2, none⟩ = some (.int .i64 a1_2) ∧ w'.cell? ⟨gb460, 3, none⟩ = some (.int .i64 a1_3) ∧ w'.cell? ⟨gb460, 4, none⟩ = some (.int .i64 a1_4)) (ds := []) (b_ 7 0) (by kernel_rfl) rfl rfl ⟨ck_ BK459 0, ck_ BK459 1, ck_ BK459 2, ck_ BK460 0, ck_ BK460 1, ck_ BK460 2, ck_ BK460 3, ck_ BK460 4⟩ (fun hHeld => ?_)
  generalize w23.drew = w24 at BK459 BK460 BK461 HB hHeld ⊢
  refine pure_ (i := 2) (N := some 13) (v := ?_) (a' := ?_) (b_ 7 4) rfl rfl (by kernel_rfl) (fun _ _ _ h => h) (Or.inl ⟨by rfl, ?_⟩) ?_ ?_
  rotate_left
  ·
   intro w'
   go_simp
   with_reducible rfl
  rotate_left
  ·
   simp only [Act.put, sa_, s0_, s1_, i64_w, i32_w]
   rfl
  refine pure_ (i := 3) (N := some 14) (v := ?_) (a' := ?_) (b_ 7 12) rfl rfl (by kernel_rfl) (fun _ _ _ h => h) (Or.inl ⟨by rfl, ?_⟩) ?_ ?_
  rotate_left
  ·
   intro w'
   go_simp
   with_reducible rfl
  rotate_left
  ·
   simp only [Act.put, sa_, s0_, s1_, i64_w, i32_w]
   rfl
  refine take_ (i := 0) (N := some 11) (v := ?_) (a' := ?_) (b_ 7 13) rfl rfl (by kernel_rfl) (fun _ _ _ h => h) (Or.inl ⟨by rfl, ?_⟩) hHeld ?_ ?_
  rotate_left
  ·
   rintro w' ⟨s0, s1, s2, s3, s4, s5, s6, s7⟩
   go_simp
   with_reducible rfl
  rotate_left
  ·
   simp only [Act.put, sa_, s0_, s1_, i64_w, i32_w]
   rfl
  refine take_ (i := 1) (N := some 12) (v := ?_) (a' := ?_) (b_ 7 15) rfl rfl (by kernel_rfl) (fun _ _ _ h => h) (Or.inl ⟨by rfl, ?_⟩) hHeld ?_ ?_
  rotate_left
  ·
   rintro w' ⟨s0, s1, s2, s3, s4, s5, s6, s7⟩
   go_simp
   with_reducible rfl
  rotate_left
  ·
   simp only [Act.put, sa_, s0_, s1_, i64_w, i32_w]
   rfl
  refine one_ (i := 4) (N := some 15) (b_ 7 31) rfl rfl (by kernel_rfl) (by decide) (fun K hK => ?_)
  refine goes_ Try.func41 (by kernel_rfl) rfl #[.int .i64 a3] (by rfl) rfl rfl (by (try simp only [List.map_toArray, List.map_cons, List.map_nil]); first | done | rfl | (simp only [List.length_drop, List.length_take]; rfl)) ?_
  with_reducible refine (millhandref24_In.calls a3 t462 _ A5.out).mono ?_
  rintro e w' ⟨rfl, ⟨nd, rfl⟩⟩
  refine ⟨_, rfl, ?_⟩
  refine hK.out _ _ ⟨ck_ BK459 0, ck_ BK459 1, ck_ BK459 2, ck_ BK460 0, ck_ BK460 1, ck_ BK460 2, ck_ BK460 3, ck_ BK460 4⟩ (fun hHeld => ?_)
  clear hK K
  refine norm_ (a' := ?_) ?_ ?_
  rotate_left
  ·
   show Act.put _ (some 15) _ = _
   simp only [Act.put, sa_, s0_, s1_, i64_w, i32_w]
   rfl
  refine one_ (i := 5) (N := some 16) (b_ 7 63) rfl rfl (by kernel_rfl) (by decide) (fun K hK => ?_)
  refine goes_ Try.func42 (by kernel_rfl) rfl #[.agg #[.slice A0_0 l0_0.length c0_0, .int .i64 a0_1, .int .i64 a0_2], .agg #[.int .u8 a1_0, .int .i64 a1_1, .int .i64 a1_2, .int .i64 a1_3, .int .i64 a1_4], .int .i64 a2, .bool t462] (by rfl) rfl rfl (by (try simp only [List.map_toArray, List.map_cons, List.map_nil]); first | done | rfl | (simp only [List.length_drop, List.length_take]; rfl)) ?_
  with_reducible refine (millhandref24_owned.calls k _ _ l0_0 a0_1 a0_2 a1_0 a1_1 a1_2 a1_3 a1_4 a2 t462 t463 _ ?side1 ?side2 A6.out).mono ?_
  (case side1 => repeat (first | exact (Kd.C_below HR0_0.out (by repeat (first | (with_reducible first | exact HB.out | apply below_alloc | apply pw_below_drewN | apply below_drew1 | refine below_set ?_ GE459.out | refine below_set ?_ GE460.out | refine below_set ?_ GE461.out) | exact HB.out))) | (with_reducible refine Kd.C_alloc ?_ _) | (with_reducible refine Kd.C_drewN ?_ _) | (with_reducible refine Kd.C_drew ?_)))
  (case side2 => exact HC0_0.out)
  rintro e w25 ⟨rfl, hb⟩
  refine ⟨_, rfl, ?_⟩
  replace BK459 := bs_ BK459 hb
  replace BK460 := bs_ BK460 hb
  replace BK461 := bs_ BK461 hb
  replace HB := Aside0.mk (below_step (hB_ HB.out) hb)
  (try clear hb)
  (try clear hb2)
  (try clear hk)
  (try clear hi)
  refine hK.out _ _ ⟨ck_ BK459 0, ck_ BK459 1, ck_ BK459 2, ck_ BK460 0, ck_ BK460 1, ck_ BK460 2, ck_ BK460 3, ck_ BK460 4⟩ (fun hHeld => ?_)
  clear hK K
  refine norm_ (a' := ?_) ?_ ?_
  rotate_left
  ·
   show Act.put _ (some 16) _ = _
   simp only [Act.put, sa_, s0_, s1_, i64_w, i32_w]
   rfl
  refine pure_ (i := 6) (N := some 10) (v := ?_) (a' := ?_) (b_ 7 127) rfl rfl (by kernel_rfl) (fun _ _ _ h => h) (Or.inl ⟨by rfl, ?_⟩) ?_ ?_
  rotate_left
  ·
   intro w'
   go_simp
   with_reducible rfl
  rotate_left
  ·
   simp only [Act.put, sa_, s0_, s1_, i64_w, i32_w]
   rfl
  refine done_ (by kernel_rfl) ?_
  have hcz28_0 : w25.cell? ⟨gb461, 0, none⟩ = some (.int .u8 0) := ck_ BK461 0
  have hcz28_1 : w25.cell? ⟨gb461, 1, none⟩ = some (.int .i64 0) := ck_ BK461 1
  have hcz28_2 : w25.cell? ⟨gb461, 2, none⟩ = some (.int .i64 0) := ck_ BK461 2
  have hcz28_3 : w25.cell? ⟨gb461, 3, none⟩ = some (.int .i64 0) := ck_ BK461 3
  have hcz28_4 : w25.cell? ⟨gb461, 4, none⟩ = some (.int .i64 0) := ck_ BK461 4
  have hfz28_0 := blk_frozen BK461.out 0
  have hfz28_1 := blk_frozen BK461.out 1
  have hfz28_2 := blk_frozen BK461.out 2
  have hfz28_3 := blk_frozen BK461.out 3
  have hfz28_4 := blk_frozen BK461.out 4
  try go_wp2
  refine bodyPost_ret (results_ct rfl _ _ gb461 31 #[.int .u8 0, .int .i64 0, .int .i64 0, .int .i64 0, .int .i64 0] (0, 0) _ rfl (by (with_reducible repeat (first | refine blk_drewN ?_ _ | refine blk_drew ?_ | refine blk_alloc ?_ _)); refine blk_put (cs := #[.int .u8 0, .int .i64 0, .int .i64 0, .int .i64 0, .int .i64 0]) ?_ 4 _ rfl; (with_reducible repeat (first | refine blk_drewN ?_ _ | refine blk_drew ?_ | refine blk_alloc ?_ _)); refine blk_put (cs := #[.int .u8 0, .int .i64 0, .int .i64 0, .int .i64 0, .int .i64 0]) ?_ 3 _ rfl; (with_reducible repeat (first | refine blk_drewN ?_ _ | refine blk_drew ?_ | refine blk_alloc ?_ _)); refine blk_put (cs := #[.int .u8 0, .int .i64 0, .int .i64 0, .int .i64 0, .int .i64 0]) ?_ 2 _ rfl; (with_reducible repeat (first | refine blk_drewN ?_ _ | refine blk_drew ?_ | refine blk_alloc ?_ _)); refine blk_put (cs := #[.int .u8 0, .int .i64 0, .int .i64 0, .int .i64 0, .int .i64 0]) ?_ 1 _ rfl; (with_reducible repeat (first | refine blk_drewN ?_ _ | refine blk_drew ?_ | refine blk_alloc ?_ _)); refine blk_put (cs := #[.int .u8 0, .int .i64 0, .int .i64 0, .int .i64 0, .int .i64 0]) ?_ 0 _ rfl; (with_reducible repeat (first | refine blk_drewN ?_ _ | refine blk_drew ?_ | refine blk_alloc ?_ _)); exact BK461.out) Try.underlying31 rfl (by kernel_rfl)) rfl ?_
  exact ⟨by first | rfl | (simp [errW_none, errW_some] <;> rfl) | (simp [*, errW_none, errW_some] <;> rfl) | exact ret_ie _ | (simp [*, errW_none, errW_some, bne]; done), by repeat (first | (with_reducible first | exact HB.out | apply below_alloc | apply pw_below_drewN | apply below_drew1 | refine below_set ?_ GE459.out | refine below_set ?_ GE460.out | refine below_set ?_ GE461.out) | exact HB.out)⟩

end Go.Proofs.Ytbgfjhnbmfgccaa.R

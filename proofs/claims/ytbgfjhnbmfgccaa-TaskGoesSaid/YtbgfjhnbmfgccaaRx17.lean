/- Contracts of Go functions and what they come to, over the translation of this seat: made by a program of this session (print2.py). -/
import Derived.Test.YtbgfjhnbmfgccaaSh
import Derived.Test.YtbgfjhnbmfgccaaRx0
import Derived.Test.YtbgfjhnbmfgccaaRx16
namespace Go.Proofs.Ytbgfjhnbmfgccaa.R
open Go.RowKit Go.Proofs.Ytbgfjhnbmfgccaa.Sh Go.Proofs.Ytbgfjhnbmfgccaa.Co Go.Proofs.Ytbgfjhnbmfgccaa.Ret Go.Proofs.Ytbgfjhnbmfgccaa.Plain Go.Proofs.YtbgfjhnbmfgccaaW.PrintWords Go.Proofs.YtbgfjhnbmfgccaaW.PrintLast Go.Proofs.YtbgfjhnbmfgccaaW.PrintMore
attribute [local go_sem] max2_int min2_int max_two min_two max_three min_three max_four min_four   -- for this text's walks alone
set_option linter.unusedVariables false
set_option linter.unusedSimpArgs false

/-! ### millhandref24_May: function 47 -/
mutual
def millhandref24_May.j0 : Nat → Bool → List Int → Int → Int → Int → Int → Int → Int → Int → Option (Bool)
 | 0, _, _, _, _, _, _, _, _, _ => none
 | k + 1, x37, x423000, x423001, x423002, x424000, x424001, x424002, x424003, x424004 => if x37 = true then (some false) else (if x424004 = 0 then (if x424002 = 0 then (millhandref24_May.j1 k ((x424003 != 0) != (x424000 == 2)) x423000 x423001 x423002 x424000 x424001 x424002 x424003 x424004) else (if x424000 = 2 then (millhandref24_May.j1 k ((x424003 != 0) != (x424000 == 2)) x423000 x423001 x423002 x424000 x424001 x424002 x424003 x424004) else (if x424000 = 3 then (millhandref24_May.j1 k ((x424003 != 0) != (x424000 == 2)) x423000 x423001 x423002 x424000 x424001 x424002 x424003 x424004) else (millhandref24_May.j1 k true x423000 x423001 x423002 x424000 x424001 x424002 x424003 x424004)))) else (if x424000 = 1 then (if x424002 = 0 then (millhandref24_May.j1 k ((x424003 != 0) != (x424000 == 2)) x423000 x423001 x423002 x424000 x424001 x424002 x424003 x424004) else (if x424000 = 2 then (millhandref24_May.j1 k ((x424003 != 0) != (x424000 == 2)) x423000 x423001 x423002 x424000 x424001 x424002 x424003 x424004) else (if x424000 = 3 then (millhandref24_May.j1 k ((x424003 != 0) != (x424000 == 2)) x423000 x423001 x423002 x424000 x424001 x424002 x424003 x424004) else (millhandref24_May.j1 k true x423000 x423001 x423002 x424000 x424001 x424002 x424003 x424004)))) else (millhandref24_May.j1 k true x423000 x423001 x423002 x424000 x424001 x424002 x424003 x424004)))
def millhandref24_May.j1 : Nat → Bool → List Int → Int → Int → Int → Int → Int → Int → Int → Option (Bool)
 | 0, _, _, _, _, _, _, _, _, _ => none
 | k + 1, x69, x423000, x423001, x423002, x424000, x424001, x424002, x424003, x424004 => if x69 = true then (some false) else (if x424000 = 0 then (some (x424001 == 0)) else (if x424000 = 1 then (millhandref24_May.j2 k true x423000 x423001 x423002 x424000 x424001 x424002 x424003 x424004) else (millhandref24_May.j2 k (x424000 == 3) x423000 x423001 x423002 x424000 x424001 x424002 x424003 x424004)))
def millhandref24_May.j2 : Nat → Bool → List Int → Int → Int → Int → Int → Int → Int → Int → Option (Bool)
 | 0, _, _, _, _, _, _, _, _, _ => none
 | k + 1, x83, x423000, x423001, x423002, x424000, x424001, x424002, x424003, x424004 => if x83 = true then (if x424001 < x423001 then (if x424001 > 0 then (some true) else (some (x424000 == 1))) else (some false)) else (if x424000 = 5 then (some (x424001 == x423001)) else (if x424001 > 0 then (some true) else (some (x424000 == 6))))
end
def millhandref24_May.f (k : Nat) (l0_0 : List Int) (a0_1 : Int) (a0_2 : Int) (a1_0 : Int) (a1_1 : Int) (a1_2 : Int) (a1_3 : Int) (a1_4 : Int) : Option (Bool) := if a1_0 > 6 then (millhandref24_May.j0 k true l0_0 a0_1 a0_2 a1_0 a1_1 a1_2 a1_3 a1_4) else (if a1_1 < 0 then (millhandref24_May.j0 k true l0_0 a0_1 a0_2 a1_0 a1_1 a1_2 a1_3 a1_4) else (if a1_1 > a0_1 then (millhandref24_May.j0 k true l0_0 a0_1 a0_2 a1_0 a1_1 a1_2 a1_3 a1_4) else ((millhandref24_In.f a1_2).bind fun t424 => (if t424 = true then ((millhandref24_In.f a1_3).bind fun t425 => (if t425 = true then ((millhandref24_In.f a1_4).bind fun t426 => (millhandref24_May.j0 k (!t426) l0_0 a0_1 a0_2 a1_0 a1_1 a1_2 a1_3 a1_4)) else (millhandref24_May.j0 k true l0_0 a0_1 a0_2 a1_0 a1_1 a1_2 a1_3 a1_4))) else (millhandref24_May.j0 k true l0_0 a0_1 a0_2 a1_0 a1_1 a1_2 a1_3 a1_4)))))
theorem millhandref24_May.mono_l : ∀ k, (∀ y0 y1 y2 y3 y4 y5 y6 y7 y8, LeO (millhandref24_May.j0 k y0 y1 y2 y3 y4 y5 y6 y7 y8) (millhandref24_May.j0 (k + 1) y0 y1 y2 y3 y4 y5 y6 y7 y8)) ∧ (∀ y0 y1 y2 y3 y4 y5 y6 y7 y8, LeO (millhandref24_May.j1 k y0 y1 y2 y3 y4 y5 y6 y7 y8) (millhandref24_May.j1 (k + 1) y0 y1 y2 y3 y4 y5 y6 y7 y8)) ∧ (∀ y0 y1 y2 y3 y4 y5 y6 y7 y8, LeO (millhandref24_May.j2 k y0 y1 y2 y3 y4 y5 y6 y7 y8) (millhandref24_May.j2 (k + 1) y0 y1 y2 y3 y4 y5 y6 y7 y8))
 | 0 => ⟨fun _ _ _ _ _ _ _ _ _ r h => by simp [millhandref24_May.j0] at h, fun _ _ _ _ _ _ _ _ _ r h => by simp [millhandref24_May.j1] at h, fun _ _ _ _ _ _ _ _ _ r h => by simp [millhandref24_May.j2] at h⟩
 | k + 1 => by
  obtain ⟨ih0, ih1, ih2⟩ := millhandref24_May.mono_l k
  refine ⟨?_, ?_, ?_⟩
  ·
   intro y0 y1 y2 y3 y4 y5 y6 y7 y8
   unfold millhandref24_May.j0
   repeat' first
   | (with_reducible exact ih0 _ _ _ _ _ _ _ _ _)
   | (with_reducible exact ih1 _ _ _ _ _ _ _ _ _)
   | (with_reducible exact ih2 _ _ _ _ _ _ _ _ _)
   | (with_reducible exact LeO.refl _)
   | (with_reducible exact LeO.none _)
   | (with_reducible refine LeO.ite ?_ ?_)
   | (with_reducible refine LeO.bind ?_ (fun _ => ?_))
   | exact ih0 _ _ _ _ _ _ _ _ _
   | exact ih1 _ _ _ _ _ _ _ _ _
   | exact ih2 _ _ _ _ _ _ _ _ _
   | exact LeO.none _
   | refine LeO.ite ?_ ?_
   | refine LeO.bind ?_ (fun _ => ?_)
  ·
   intro y0 y1 y2 y3 y4 y5 y6 y7 y8
   unfold millhandref24_May.j1
   repeat' first
   | (with_reducible exact ih0 _ _ _ _ _ _ _ _ _)
   | (with_reducible exact ih1 _ _ _ _ _ _ _ _ _)
   | (with_reducible exact ih2 _ _ _ _ _ _ _ _ _)
   | (with_reducible exact LeO.refl _)
   | (with_reducible exact LeO.none _)
   | (with_reducible refine LeO.ite ?_ ?_)
   | (with_reducible refine LeO.bind ?_ (fun _ => ?_))
   | exact ih0 _ _ _ _ _ _ _ _ _
   | exact ih1 _ _ _ _ _ _ _ _ _
   | exact ih2 _ _ _ _ _ _ _ _ _
   | exact LeO.none _
   | refine LeO.ite ?_ ?_
   | refine LeO.bind ?_ (fun _ => ?_)
  ·
   intro y0 y1 y2 y3 y4 y5 y6 y7 y8
   unfold millhandref24_May.j2
   repeat' first
   | (with_reducible exact ih0 _ _ _ _ _ _ _ _ _)
   | (with_reducible exact ih1 _ _ _ _ _ _ _ _ _)
   | (with_reducible exact ih2 _ _ _ _ _ _ _ _ _)
   | (with_reducible exact LeO.refl _)
   | (with_reducible exact LeO.none _)
   | (with_reducible refine LeO.ite ?_ ?_)
   | (with_reducible refine LeO.bind ?_ (fun _ => ?_))
   | exact ih0 _ _ _ _ _ _ _ _ _
   | exact ih1 _ _ _ _ _ _ _ _ _
   | exact ih2 _ _ _ _ _ _ _ _ _
   | exact LeO.none _
   | refine LeO.ite ?_ ?_
   | refine LeO.bind ?_ (fun _ => ?_)
theorem millhandref24_May.mono : ∀ a0 a1 a2 a3 a4 a5 a6 a7 k, LeO (millhandref24_May.f k a0 a1 a2 a3 a4 a5 a6 a7) (millhandref24_May.f (k + 1) a0 a1 a2 a3 a4 a5 a6 a7) := by
 intro a0 a1 a2 a3 a4 a5 a6 a7 k
 obtain ⟨ih0, ih1, ih2⟩ := millhandref24_May.mono_l k
 unfold millhandref24_May.f
 repeat' first
   | (with_reducible exact ih0 _ _ _ _ _ _ _ _ _)
   | (with_reducible exact ih1 _ _ _ _ _ _ _ _ _)
   | (with_reducible exact ih2 _ _ _ _ _ _ _ _ _)
   | (with_reducible exact LeO.refl _)
   | (with_reducible exact LeO.none _)
   | (with_reducible refine LeO.ite ?_ ?_)
   | (with_reducible refine LeO.bind ?_ (fun _ => ?_))
   | exact ih0 _ _ _ _ _ _ _ _ _
   | exact ih1 _ _ _ _ _ _ _ _ _
   | exact ih2 _ _ _ _ _ _ _ _ _
   | exact LeO.none _
   | refine LeO.ite ?_ ?_
   | refine LeO.bind ?_ (fun _ => ?_)
set_option maxHeartbeats 8000000 in
set_option maxRecDepth 100000 in
theorem millhandref24_May.calls (k : Nat) (A0_0 : Option Addr) (c0_0 : Nat) (l0_0 : List Int) (a0_1 : Int) (a0_2 : Int) (a1_0 : Int) (a1_1 : Int) (a1_2 : Int) (a1_3 : Int) (a1_4 : Int) (r : Bool) (w : World) (hr0_0 : Kd.C (Kd.int .i64) w A0_0 l0_0.length l0_0) (hc0_0 : l0_0.length ≤ c0_0) (h : millhandref24_May.f k l0_0 a0_1 a0_2 a1_0 a1_1 a1_2 a1_3 a1_4 = some r) :
  Calls Try.prog 47 #[.agg #[.slice A0_0 l0_0.length c0_0, .int .i64 a0_1, .int .i64 a0_2], .agg #[.int .u8 a1_0, .int .i64 a1_1, .int .i64 a1_2, .int .i64 a1_3, .int .i64 a1_4]] w fun e w' => e = .returned (.bool r) ∧ Below w.heap.size w w' := by
 have hu24 := Try.underlying24
 have hu31 := Try.underlying31
 have HR0_0 := Aside0.mk hr0_0
 have HC0_0 := Aside0.mk hc0_0
 clear hr0_0 hc0_0
 have HB := Aside0.mk (Below.refl w.heap.size w)
 have H : (if a1_0 > 6 then (millhandref24_May.j0 k true l0_0 a0_1 a0_2 a1_0 a1_1 a1_2 a1_3 a1_4) else (if a1_1 < 0 then (millhandref24_May.j0 k true l0_0 a0_1 a0_2 a1_0 a1_1 a1_2 a1_3 a1_4) else (if a1_1 > a0_1 then (millhandref24_May.j0 k true l0_0 a0_1 a0_2 a1_0 a1_1 a1_2 a1_3 a1_4) else ((millhandref24_In.f a1_2).bind fun t424 => (if t424 = true then ((millhandref24_In.f a1_3).bind fun t425 => (if t425 = true then ((millhandref24_In.f a1_4).bind fun t426 => (millhandref24_May.j0 k (!t426) l0_0 a0_1 a0_2 a1_0 a1_1 a1_2 a1_3 a1_4)) else (millhandref24_May.j0 k true l0_0 a0_1 a0_2 a1_0 a1_1 a1_2 a1_3 a1_4))) else (millhandref24_May.j0 k true l0_0 a0_1 a0_2 a1_0 a1_1 a1_2 a1_3 a1_4)))))) = some r := h
 clear h
 have HC3 := Aside0.mk H
 clear H
 go_enter Try.func47, Try.ntmps47
 go_upto_region 1 with (first | ((with_reducible refine gate_dst (N := 2) rfl ?_); refine box_event ?hg (N := 2) ?hd (cs := #[.slice A0_0 l0_0.length c0_0, .int .i64 a0_1, .int .i64 a0_2]) (t := 24) ?hr ?_; (case hd => rfl); (case hg => rfl); (case hr => first | (go_simp; done) | (go_simp; rfl)); intro gb422 hg w4 hbox hb; have BK422 := Aside0.mk (hbox); have GW422 := bz_ (hB_ HB.out) hg; have GE422 := bz_ (hB_ HB.out) hg; replace HB := Aside0.mk (below_step (hB_ HB.out) hb); clear hb hbox hg) | ((with_reducible refine gate_dst (N := 3) rfl ?_); refine box_event ?hg (N := 3) ?hd (cs := #[.int .u8 a1_0, .int .i64 a1_1, .int .i64 a1_2, .int .i64 a1_3, .int .i64 a1_4]) (t := 31) ?hr ?_; (case hd => rfl); (case hg => rfl); (case hr => first | (go_simp; done) | (go_simp; rfl)); intro gb423 hg w5 hbox hb; have BK423 := Aside0.mk (hbox); have GW423 := bz_ (hB_ HB.out) hg; have GE423 := bz_ (hB_ HB.out) hg; replace HB := Aside0.mk (below_step (hB_ HB.out) hb); have NB422_423 := bn_ BK422 hg; have NB423_422 := bm_ BK422 hg; replace BK422 := bs_ BK422 hb; clear hb hbox hg))
 (try simp only [Act.put, sa_, s0_, s1_])
 go_cut [37] (fun v37 wc => ∃ (kq : Nat) (x37_2 : Bool), v37 = .bool x37_2 ∧ Aside0 (millhandref24_May.j0 kq x37_2 l0_0 a0_1 a0_2 a1_0 a1_1 a1_2 a1_3 a1_4 = some r) ∧ Aside0 (kq ≤ k) ∧ Aside0 (wc.heap[gb422]? = some (.cells #[(.slice A0_0 l0_0.length c0_0), .int .i64 a0_1, .int .i64 a0_2] 24 (0, 0))) ∧ Aside0 (wc.heap[gb423]? = some (.cells #[.int .u8 a1_0, .int .i64 a1_1, .int .i64 a1_2, .int .i64 a1_3, .int .i64 a1_4] 31 (0, 0))) ∧ Aside0 (Below w.heap.size w wc))
 case first =>
  have H := HC3.out
  clear HC3
  by_cases c6 : a1_0 > 6
  ·
   rw [if_pos c6] at H
   have c6b0 : decide (6 < a1_0) = true := decide_eq_true c6
   clear c6
   (first | rw [c6b0] | (simp only [i64_w, i32_w]; rw [c6b0]) | skip)
   have H' := Aside0.mk H
   clear H
   have hcz8_0 : w5.cell? ⟨gb423, 0, none⟩ = some (.int .u8 a1_0) := ck_ BK423 0
   have hcz8_1 : w5.cell? ⟨gb423, 1, none⟩ = some (.int .i64 a1_1) := ck_ BK423 1
   have hcz8_2 : w5.cell? ⟨gb423, 2, none⟩ = some (.int .i64 a1_2) := ck_ BK423 2
   have hcz8_3 : w5.cell? ⟨gb423, 3, none⟩ = some (.int .i64 a1_3) := ck_ BK423 3
   have hcz8_4 : w5.cell? ⟨gb423, 4, none⟩ = some (.int .i64 a1_4) := ck_ BK423 4
   have hfz8_0 := blk_frozen BK423.out 0
   have hfz8_1 := blk_frozen BK423.out 1
   have hfz8_2 := blk_frozen BK423.out 2
   have hfz8_3 := blk_frozen BK423.out 3
   have hfz8_4 := blk_frozen BK423.out 4
   go_wp2
   go_meet
   case rel => exact ⟨_, (true), (by first | rfl | (simp; done) | (simp [*]; done)), H', ⟨by first | omega | exact Nat.le_refl _⟩, ⟨by (with_reducible repeat (first | refine blk_drewN ?_ _ | refine blk_drew ?_ | refine blk_alloc ?_ _)); exact BK422.out⟩, ⟨by (with_reducible repeat (first | refine blk_drewN ?_ _ | refine blk_drew ?_ | refine blk_alloc ?_ _)); exact BK423.out⟩, ⟨by repeat (first | (with_reducible first | exact HB.out | apply below_alloc | apply pw_below_drewN | apply below_drew1 | refine below_set ?_ GE422.out | refine below_set ?_ GE423.out) | exact HB.out)⟩⟩
  ·
   rw [if_neg c6] at H
   have c6b0 : decide (6 < a1_0) = false := decide_eq_false c6
   clear c6
   (first | rw [c6b0] | (simp only [i64_w, i32_w]; rw [c6b0]) | skip)
   by_cases c9 : a1_1 < 0
   ·
    rw [if_pos c9] at H
    have c9b0 : decide (a1_1 < 0) = true := decide_eq_true c9
    clear c9
    have H' := Aside0.mk H
    clear H
    have hcz11_0 : w5.cell? ⟨gb423, 0, none⟩ = some (.int .u8 a1_0) := ck_ BK423 0
    have hcz11_1 : w5.cell? ⟨gb423, 1, none⟩ = some (.int .i64 a1_1) := ck_ BK423 1
    have hcz11_2 : w5.cell? ⟨gb423, 2, none⟩ = some (.int .i64 a1_2) := ck_ BK423 2
    have hcz11_3 : w5.cell? ⟨gb423, 3, none⟩ = some (.int .i64 a1_3) := ck_ BK423 3
    have hcz11_4 : w5.cell? ⟨gb423, 4, none⟩ = some (.int .i64 a1_4) := ck_ BK423 4
    have hfz11_0 := blk_frozen BK423.out 0
    have hfz11_1 := blk_frozen BK423.out 1
    have hfz11_2 := blk_frozen BK423.out 2
    have hfz11_3 := blk_frozen BK423.out 3
    have hfz11_4 := blk_frozen BK423.out 4
    go_wp2
    go_meet
    case rel => exact ⟨_, (true), (by first | rfl | (simp; done) | (simp [*]; done)), H', ⟨by first | omega | exact Nat.le_refl _⟩, ⟨by (with_reducible repeat (first | refine blk_drewN ?_ _ | refine blk_drew ?_ | refine blk_alloc ?_ _)); exact BK422.out⟩, ⟨by (with_reducible repeat (first | refine blk_drewN ?_ _ | refine blk_drew ?_ | refine blk_alloc ?_ _)); exact BK423.out⟩, ⟨by repeat (first | (with_reducible first | exact HB.out | apply below_alloc | apply pw_below_drewN | apply below_drew1 | refine below_set ?_ GE422.out | refine below_set ?_ GE423.out) | exact HB.out)⟩⟩
   ·
    rw [if_neg c9] at H
    have c9b0 : decide (a1_1 < 0) = false := decide_eq_false c9
    clear c9
    by_cases c12 : a1_1 > a0_1
    ·
     rw [if_pos c12] at H
     have c12b0 : decide (a0_1 < a1_1) = true := decide_eq_true c12
     clear c12
     have H' := Aside0.mk H
     clear H
     have hnb13 := NB423_422.out
     have hnc13 := NB422_423.out
     have hcz14_0 : w5.cell? ⟨gb423, 0, none⟩ = some (.int .u8 a1_0) := ck_ BK423 0
     have hcz14_1 : w5.cell? ⟨gb423, 1, none⟩ = some (.int .i64 a1_1) := ck_ BK423 1
     have hcz14_2 : w5.cell? ⟨gb423, 2, none⟩ = some (.int .i64 a1_2) := ck_ BK423 2
     have hcz14_3 : w5.cell? ⟨gb423, 3, none⟩ = some (.int .i64 a1_3) := ck_ BK423 3
     have hcz14_4 : w5.cell? ⟨gb423, 4, none⟩ = some (.int .i64 a1_4) := ck_ BK423 4
     have hfz14_0 := blk_frozen BK423.out 0
     have hfz14_1 := blk_frozen BK423.out 1
     have hfz14_2 := blk_frozen BK423.out 2
     have hfz14_3 := blk_frozen BK423.out 3
     have hfz14_4 := blk_frozen BK423.out 4
     have hcz15_0 : w5.cell? ⟨gb422, 0, none⟩ = some (.slice A0_0 l0_0.length c0_0) := ck_ BK422 0
     have hcz15_1 : w5.cell? ⟨gb422, 1, none⟩ = some (.int .i64 a0_1) := ck_ BK422 1
     have hcz15_2 : w5.cell? ⟨gb422, 2, none⟩ = some (.int .i64 a0_2) := ck_ BK422 2
     have hfz15_0 := blk_frozen BK422.out 0
     have hfz15_1 := blk_frozen BK422.out 1
     have hfz15_2 := blk_frozen BK422.out 2
     go_wp2
     go_meet
     case rel => exact ⟨_, (true), (by first | rfl | (simp; done) | (simp [*]; done)), H', ⟨by first | omega | exact Nat.le_refl _⟩, ⟨by (with_reducible repeat (first | refine blk_drewN ?_ _ | refine blk_drew ?_ | refine blk_alloc ?_ _)); exact BK422.out⟩, ⟨by (with_reducible repeat (first | refine blk_drewN ?_ _ | refine blk_drew ?_ | refine blk_alloc ?_ _)); exact BK423.out⟩, ⟨by repeat (first | (with_reducible first | exact HB.out | apply below_alloc | apply pw_below_drewN | apply below_drew1 | refine below_set ?_ GE422.out | refine below_set ?_ GE423.out) | exact HB.out)⟩⟩
    ·
     rw [if_neg c12] at H
     have c12b0 : decide (a0_1 < a1_1) = false := decide_eq_false c12
     clear c12
     replace H := Option.bind_eq_some_iff.mp H
     obtain ⟨t424, A160, H⟩ := H
     try dsimp only at H
     have A16 := Aside0.mk A160
     clear A160
     by_cases c17 : t424 = true
     ·
      subst c17
      have H1 : ((millhandref24_In.f a1_3).bind fun t425 => (if t425 = true then ((millhandref24_In.f a1_4).bind fun t426 => (millhandref24_May.j0 k (!t426) l0_0 a0_1 a0_2 a1_0 a1_1 a1_2 a1_3 a1_4)) else (millhandref24_May.j0 k true l0_0 a0_1 a0_2 a1_0 a1_1 a1_2 a1_3 a1_4))) = some r := by rw [if_pos rfl] at H; exact H
      clear H
      have H := H1
      clear H1
      replace H := Option.bind_eq_some_iff.mp H
      obtain ⟨t425, A180, H⟩ := H
      try dsimp only at H
      have A18 := Aside0.mk A180
      clear A180
      by_cases c19 : t425 = true
      ·
       subst c19
       have H1 : ((millhandref24_In.f a1_4).bind fun t426 => (millhandref24_May.j0 k (!t426) l0_0 a0_1 a0_2 a1_0 a1_1 a1_2 a1_3 a1_4)) = some r := by rw [if_pos rfl] at H; exact H
       clear H
       have H := H1
       clear H1
       replace H := Option.bind_eq_some_iff.mp H
       obtain ⟨t426, A200, H⟩ := H
       replace H : (millhandref24_May.j0 k (!t426) l0_0 a0_1 a0_2 a1_0 a1_1 a1_2 a1_3 a1_4) = some r := H
       have A20 := Aside0.mk A200
       clear A200
       have H' := Aside0.mk H
       clear H
       have hnb21 := NB423_422.out
       have hnc21 := NB422_423.out
       have hcz22_0 : w5.cell? ⟨gb423, 0, none⟩ = some (.int .u8 a1_0) := ck_ BK423 0
       have hcz22_1 : w5.cell? ⟨gb423, 1, none⟩ = some (.int .i64 a1_1) := ck_ BK423 1
       have hcz22_2 : w5.cell? ⟨gb423, 2, none⟩ = some (.int .i64 a1_2) := ck_ BK423 2
       have hcz22_3 : w5.cell? ⟨gb423, 3, none⟩ = some (.int .i64 a1_3) := ck_ BK423 3
       have hcz22_4 : w5.cell? ⟨gb423, 4, none⟩ = some (.int .i64 a1_4) := ck_ BK423 4
       have hfz22_0 := blk_frozen BK423.out 0
       have hfz22_1 := blk_frozen BK423.out 1
       have hfz22_2 := blk_frozen BK423.out 2
       have hfz22_3 := blk_frozen BK423.out 3
       have hfz22_4 := blk_frozen BK423.out 4
       have hcz23_0 : w5.cell? ⟨gb422, 0, none⟩ = some (.slice A0_0 l0_0.length c0_0) := ck_ BK422 0
       have hcz23_1 : w5.cell? ⟨gb422, 1, none⟩ = some (.int .i64 a0_1) := ck_ BK422 1
       have hcz23_2 : w5.cell? ⟨gb422, 2, none⟩ = some (.int .i64 a0_2) := ck_ BK422 2
       have hfz23_0 := blk_frozen BK422.out 0
       have hfz23_1 := blk_frozen BK422.out 1
       have hfz23_2 := blk_frozen BK422.out 2
       go_wp2_with (first | (go_at_call 41; (with_reducible refine (millhandref24_In.calls a1_2 true _ A16.out).mono ?_); rintro e w' ⟨rfl, ⟨nd, rfl⟩⟩) | (go_at_call 41; (with_reducible refine (millhandref24_In.calls a1_3 true _ A18.out).mono ?_); rintro e w' ⟨rfl, ⟨nd, rfl⟩⟩) | (go_at_call 41; (with_reducible refine (millhandref24_In.calls a1_4 t426 _ A20.out).mono ?_); rintro e w' ⟨rfl, ⟨nd, rfl⟩⟩))
       go_meet
       case rel => exact ⟨_, (!t426), (by first | rfl | (simp; done) | (simp [*]; done)), H', ⟨by first | omega | exact Nat.le_refl _⟩, ⟨by (with_reducible repeat (first | refine blk_drewN ?_ _ | refine blk_drew ?_ | refine blk_alloc ?_ _)); exact BK422.out⟩, ⟨by (with_reducible repeat (first | refine blk_drewN ?_ _ | refine blk_drew ?_ | refine blk_alloc ?_ _)); exact BK423.out⟩, ⟨by repeat (first | (with_reducible first | exact HB.out | apply below_alloc | apply pw_below_drewN | apply below_drew1 | refine below_set ?_ GE422.out | refine below_set ?_ GE423.out) | exact HB.out)⟩⟩
      ·
       replace c19 := Bool.eq_false_iff.mpr c19
       subst c19
       have H1 : (millhandref24_May.j0 k true l0_0 a0_1 a0_2 a1_0 a1_1 a1_2 a1_3 a1_4) = some r := by rw [if_neg (show ¬ (false = true) by decide)] at H; exact H
       clear H
       have H := H1
       clear H1
       have H' := Aside0.mk H
       clear H
       have hnb24 := NB423_422.out
       have hnc24 := NB422_423.out
       have hcz25_0 : w5.cell? ⟨gb423, 0, none⟩ = some (.int .u8 a1_0) := ck_ BK423 0
       have hcz25_1 : w5.cell? ⟨gb423, 1, none⟩ = some (.int .i64 a1_1) := ck_ BK423 1
       have hcz25_2 : w5.cell? ⟨gb423, 2, none⟩ = some (.int .i64 a1_2) := ck_ BK423 2
       have hcz25_3 : w5.cell? ⟨gb423, 3, none⟩ = some (.int .i64 a1_3) := ck_ BK423 3
       have hcz25_4 : w5.cell? ⟨gb423, 4, none⟩ = some (.int .i64 a1_4) := ck_ BK423 4
       have hfz25_0 := blk_frozen BK423.out 0
       have hfz25_1 := blk_frozen BK423.out 1
       have hfz25_2 := blk_frozen BK423.out 2
       have hfz25_3 := blk_frozen BK423.out 3
       have hfz25_4 := blk_frozen BK423.out 4
       have hcz26_0 : w5.cell? ⟨gb422, 0, none⟩ = some (.slice A0_0 l0_0.length c0_0) := ck_ BK422 0
       have hcz26_1 : w5.cell? ⟨gb422, 1, none⟩ = some (.int .i64 a0_1) := ck_ BK422 1
       have hcz26_2 : w5.cell? ⟨gb422, 2, none⟩ = some (.int .i64 a0_2) := ck_ BK422 2
       have hfz26_0 := blk_frozen BK422.out 0
       have hfz26_1 := blk_frozen BK422.out 1
       have hfz26_2 := blk_frozen BK422.out 2
       go_wp2_with (first | (go_at_call 41; (with_reducible refine (millhandref24_In.calls a1_2 true _ A16.out).mono ?_); rintro e w' ⟨rfl, ⟨nd, rfl⟩⟩) | (go_at_call 41; (with_reducible refine (millhandref24_In.calls a1_3 false _ A18.out).mono ?_); rintro e w' ⟨rfl, ⟨nd, rfl⟩⟩))
       go_meet
       case rel => exact ⟨_, (true), (by first | rfl | (simp; done) | (simp [*]; done)), H', ⟨by first | omega | exact Nat.le_refl _⟩, ⟨by (with_reducible repeat (first | refine blk_drewN ?_ _ | refine blk_drew ?_ | refine blk_alloc ?_ _)); exact BK422.out⟩, ⟨by (with_reducible repeat (first | refine blk_drewN ?_ _ | refine blk_drew ?_ | refine blk_alloc ?_ _)); exact BK423.out⟩, ⟨by repeat (first | (with_reducible first | exact HB.out | apply below_alloc | apply pw_below_drewN | apply below_drew1 | refine below_set ?_ GE422.out | refine below_set ?_ GE423.out) | exact HB.out)⟩⟩
     ·
      replace c17 := Bool.eq_false_iff.mpr c17
      subst c17
      have H1 : (millhandref24_May.j0 k true l0_0 a0_1 a0_2 a1_0 a1_1 a1_2 a1_3 a1_4) = some r := by rw [if_neg (show ¬ (false = true) by decide)] at H; exact H
      clear H
      have H := H1
      clear H1
      have H' := Aside0.mk H
      clear H
      have hnb27 := NB423_422.out
      have hnc27 := NB422_423.out
      have hcz28_0 : w5.cell? ⟨gb423, 0, none⟩ = some (.int .u8 a1_0) := ck_ BK423 0
      have hcz28_1 : w5.cell? ⟨gb423, 1, none⟩ = some (.int .i64 a1_1) := ck_ BK423 1
      have hcz28_2 : w5.cell? ⟨gb423, 2, none⟩ = some (.int .i64 a1_2) := ck_ BK423 2
      have hcz28_3 : w5.cell? ⟨gb423, 3, none⟩ = some (.int .i64 a1_3) := ck_ BK423 3
      have hcz28_4 : w5.cell? ⟨gb423, 4, none⟩ = some (.int .i64 a1_4) := ck_ BK423 4
      have hfz28_0 := blk_frozen BK423.out 0
      have hfz28_1 := blk_frozen BK423.out 1
      have hfz28_2 := blk_frozen BK423.out 2
      have hfz28_3 := blk_frozen BK423.out 3
      have hfz28_4 := blk_frozen BK423.out 4
      have hcz29_0 : w5.cell? ⟨gb422, 0, none⟩ = some (.slice A0_0 l0_0.length c0_0) := ck_ BK422 0
      have hcz29_1 : w5.cell? ⟨gb422, 1, none⟩ = some (.int .i64 a0_1) := ck_ BK422 1
      have hcz29_2 : w5.cell? ⟨gb422, 2, none⟩ = some (.int .i64 a0_2) := ck_ BK422 2
      have hfz29_0 := blk_frozen BK422.out 0
      have hfz29_1 := blk_frozen BK422.out 1
      have hfz29_2 := blk_frozen BK422.out 2
      go_wp2_with (first | (go_at_call 41; (with_reducible refine (millhandref24_In.calls a1_2 false _ A16.out).mono ?_); rintro e w' ⟨rfl, ⟨nd, rfl⟩⟩))
      go_meet
      case rel => exact ⟨_, (true), (by first | rfl | (simp; done) | (simp [*]; done)), H', ⟨by first | omega | exact Nat.le_refl _⟩, ⟨by (with_reducible repeat (first | refine blk_drewN ?_ _ | refine blk_drew ?_ | refine blk_alloc ?_ _)); exact BK422.out⟩, ⟨by (with_reducible repeat (first | refine blk_drewN ?_ _ | refine blk_drew ?_ | refine blk_alloc ?_ _)); exact BK423.out⟩, ⟨by repeat (first | (with_reducible first | exact HB.out | apply below_alloc | apply pw_below_drewN | apply below_drew1 | refine below_set ?_ GE422.out | refine below_set ?_ GE423.out) | exact HB.out)⟩⟩
 case rest =>
  clear HC3
  try clear c1
  try clear c2
  try clear p2
  try clear c4
  try clear c6
  try clear c6b0
  try clear c7
  try clear c9
  try clear c9b0
  try clear c10
  try clear c12
  try clear c12b0
  try clear c13
  try clear c17
  try clear c19
  try clear c21
  try clear c24
  try clear c27
  try clear hcz11_0
  try clear hcz11_1
  try clear hcz11_2
  try clear hcz11_3
  try clear hcz11_4
  try clear hcz14_0
  try clear hcz14_1
  try clear hcz14_2
  try clear hcz14_3
  try clear hcz14_4
  try clear hcz15_0
  try clear hcz15_1
  try clear hcz15_2
  try clear hcz22_0
  try clear hcz22_1
  try clear hcz22_2
  try clear hcz22_3
  try clear hcz22_4
  try clear hcz23_0
  try clear hcz23_1
  try clear hcz23_2
  try clear hcz25_0
  try clear hcz25_1
  try clear hcz25_2
  try clear hcz25_3
  try clear hcz25_4
  try clear hcz26_0
  try clear hcz26_1
  try clear hcz26_2
  try clear hcz28_0
  try clear hcz28_1
  try clear hcz28_2
  try clear hcz28_3
  try clear hcz28_4
  try clear hcz29_0
  try clear hcz29_1
  try clear hcz29_2
  try clear hcz8_0
  try clear hcz8_1
  try clear hcz8_2
  try clear hcz8_3
  try clear hcz8_4
  try clear hfz11_0
  try clear hfz11_1
  try clear hfz11_2
  try clear hfz11_3
  try clear hfz11_4
  try clear hfz14_0
  try clear hfz14_1
  try clear hfz14_2
  try clear hfz14_3
  try clear hfz14_4
  try clear hfz15_0
  try clear hfz15_1
  try clear hfz15_2
  try clear hfz22_0
  try clear hfz22_1
  try clear hfz22_2
  try clear hfz22_3
  try clear hfz22_4
  try clear hfz23_0
  try clear hfz23_1
  try clear hfz23_2
  try clear hfz25_0
  try clear hfz25_1
  try clear hfz25_2
  try clear hfz25_3
  try clear hfz25_4
  try clear hfz26_0
  try clear hfz26_1
  try clear hfz26_2
  try clear hfz28_0
  try clear hfz28_1
  try clear hfz28_2
  try clear hfz28_3
  try clear hfz28_4
  try clear hfz29_0
  try clear hfz29_1
  try clear hfz29_2
  try clear hfz8_0
  try clear hfz8_1
  try clear hfz8_2
  try clear hfz8_3
  try clear hfz8_4
  obtain ⟨kq, x37_2, rfl, HA, HJ2, BK422, BK423, HB⟩ := hcut
  cases kq with
  | zero => exact absurd HA.out (by simp [millhandref24_May.j0])
  | succ kj2 =>
   have H := HA.out
   clear HA
   simp only [millhandref24_May.j0] at H
   by_cases c30 : x37_2 = true
   ·
    subst c30
    have H1 : (some false) = some r := by rw [if_pos rfl] at H; exact H
    clear H
    have H := H1
    clear H1
    obtain rfl := Option.some.inj H
    go_wp2
    go_ret
    exact ⟨by first | rfl | (simp [errW_none, errW_some] <;> rfl) | (simp [*, errW_none, errW_some] <;> rfl) | exact ret_ie _ | (simp [*, errW_none, errW_some, bne]; done), by repeat (first | (with_reducible first | exact HB.out | apply below_alloc | apply pw_below_drewN | apply below_drew1 | refine below_set ?_ GE422.out | refine below_set ?_ GE423.out) | exact HB.out)⟩
   ·
    replace c30 := Bool.eq_false_iff.mpr c30
    subst c30
    have H1 : (if a1_4 = 0 then (if a1_2 = 0 then (millhandref24_May.j1 kj2 ((a1_3 != 0) != (a1_0 == 2)) l0_0 a0_1 a0_2 a1_0 a1_1 a1_2 a1_3 a1_4) else (if a1_0 = 2 then (millhandref24_May.j1 kj2 ((a1_3 != 0) != (a1_0 == 2)) l0_0 a0_1 a0_2 a1_0 a1_1 a1_2 a1_3 a1_4) else (if a1_0 = 3 then (millhandref24_May.j1 kj2 ((a1_3 != 0) != (a1_0 == 2)) l0_0 a0_1 a0_2 a1_0 a1_1 a1_2 a1_3 a1_4) else (millhandref24_May.j1 kj2 true l0_0 a0_1 a0_2 a1_0 a1_1 a1_2 a1_3 a1_4)))) else (if a1_0 = 1 then (if a1_2 = 0 then (millhandref24_May.j1 kj2 ((a1_3 != 0) != (a1_0 == 2)) l0_0 a0_1 a0_2 a1_0 a1_1 a1_2 a1_3 a1_4) else (if a1_0 = 2 then (millhandref24_May.j1 kj2 ((a1_3 != 0) != (a1_0 == 2)) l0_0 a0_1 a0_2 a1_0 a1_1 a1_2 a1_3 a1_4) else (if a1_0 = 3 then (millhandref24_May.j1 kj2 ((a1_3 != 0) != (a1_0 == 2)) l0_0 a0_1 a0_2 a1_0 a1_1 a1_2 a1_3 a1_4) else (millhandref24_May.j1 kj2 true l0_0 a0_1 a0_2 a1_0 a1_1 a1_2 a1_3 a1_4)))) else (millhandref24_May.j1 kj2 true l0_0 a0_1 a0_2 a1_0 a1_1 a1_2 a1_3 a1_4))) = some r := by rw [if_neg (show ¬ (false = true) by decide)] at H; exact H
    clear H
    have H := H1
    clear H1
    have HC31 := Aside0.mk H
    clear H
    go_upto_region 3 with (fail)
    go_cut [69] (fun v69 wc => ∃ (kq : Nat) (x69_30 : Bool), v69 = .bool x69_30 ∧ Aside0 (millhandref24_May.j1 kq x69_30 l0_0 a0_1 a0_2 a1_0 a1_1 a1_2 a1_3 a1_4 = some r) ∧ Aside0 (kq ≤ kj2) ∧ Aside0 (wc.heap[gb422]? = some (.cells #[(.slice A0_0 l0_0.length c0_0), .int .i64 a0_1, .int .i64 a0_2] 24 (0, 0))) ∧ Aside0 (wc.heap[gb423]? = some (.cells #[.int .u8 a1_0, .int .i64 a1_1, .int .i64 a1_2, .int .i64 a1_3, .int .i64 a1_4] 31 (0, 0))) ∧ Aside0 (Below w.heap.size w wc))
    case first =>
     have H := HC31.out
     clear HC31
     by_cases c32 : a1_4 = 0
     ·
      rw [if_pos c32] at H
      have c32b0 : (a1_4 == 0) = true := beq_iff_eq.mpr c32
      have c32b1 : (a1_4 != 0) = false := bne_eq_false_iff_eq.mpr c32
      clear c32
      (first | rw [c32b0] | (simp only [i64_w, i32_w]; rw [c32b0]) | skip)
      by_cases c33 : a1_2 = 0
      ·
       rw [if_pos c33] at H
       have c33b0 : (a1_2 == 0) = true := beq_iff_eq.mpr c33
       have c33b1 : (a1_2 != 0) = false := bne_eq_false_iff_eq.mpr c33
       clear c33
       have H' := Aside0.mk H
       clear H
       have hcz35_0 : wc.cell? ⟨gb423, 0, none⟩ = some (.int .u8 a1_0) := ck_ BK423 0
       have hcz35_1 : wc.cell? ⟨gb423, 1, none⟩ = some (.int .i64 a1_1) := ck_ BK423 1
       have hcz35_2 : wc.cell? ⟨gb423, 2, none⟩ = some (.int .i64 a1_2) := ck_ BK423 2
       have hcz35_3 : wc.cell? ⟨gb423, 3, none⟩ = some (.int .i64 a1_3) := ck_ BK423 3
       have hcz35_4 : wc.cell? ⟨gb423, 4, none⟩ = some (.int .i64 a1_4) := ck_ BK423 4
       have hfz35_0 := blk_frozen BK423.out 0
       have hfz35_1 := blk_frozen BK423.out 1
       have hfz35_2 := blk_frozen BK423.out 2
       have hfz35_3 := blk_frozen BK423.out 3
       have hfz35_4 := blk_frozen BK423.out 4
       go_wp2
       go_meet
       case rel => exact ⟨_, (((a1_3 != 0) != (a1_0 == 2))), (by first | rfl | (simp; done) | (simp [*]; done)), H', ⟨by have := HJ2.out; first | omega | exact Nat.le_refl _⟩, ⟨by (with_reducible repeat (first | refine blk_drewN ?_ _ | refine blk_drew ?_ | refine blk_alloc ?_ _)); exact BK422.out⟩, ⟨by (with_reducible repeat (first | refine blk_drewN ?_ _ | refine blk_drew ?_ | refine blk_alloc ?_ _)); exact BK423.out⟩, ⟨by repeat (first | (with_reducible first | exact HB.out | apply below_alloc | apply pw_below_drewN | apply below_drew1 | refine below_set ?_ GE422.out | refine below_set ?_ GE423.out) | exact HB.out)⟩⟩
      ·
       rw [if_neg c33] at H
       have c33b0 : (a1_2 == 0) = false := beq_eq_false_iff_ne.mpr c33
       have c33b1 : (a1_2 != 0) = true := bne_iff_ne.mpr c33
       by_cases c36 : a1_0 = 2
       ·
        rw [if_pos c36] at H
        have c36b0 : (a1_0 == 2) = true := beq_iff_eq.mpr c36
        have c36b1 : (a1_0 != 2) = false := bne_eq_false_iff_eq.mpr c36
        clear c36
        have H' := Aside0.mk H
        clear H
        have hcz38_0 : wc.cell? ⟨gb423, 0, none⟩ = some (.int .u8 a1_0) := ck_ BK423 0
        have hcz38_1 : wc.cell? ⟨gb423, 1, none⟩ = some (.int .i64 a1_1) := ck_ BK423 1
        have hcz38_2 : wc.cell? ⟨gb423, 2, none⟩ = some (.int .i64 a1_2) := ck_ BK423 2
        have hcz38_3 : wc.cell? ⟨gb423, 3, none⟩ = some (.int .i64 a1_3) := ck_ BK423 3
        have hcz38_4 : wc.cell? ⟨gb423, 4, none⟩ = some (.int .i64 a1_4) := ck_ BK423 4
        have hfz38_0 := blk_frozen BK423.out 0
        have hfz38_1 := blk_frozen BK423.out 1
        have hfz38_2 := blk_frozen BK423.out 2
        have hfz38_3 := blk_frozen BK423.out 3
        have hfz38_4 := blk_frozen BK423.out 4
        go_wp2
        go_meet
        case rel => exact ⟨_, (((a1_3 != 0) != (a1_0 == 2))), (by first | rfl | (simp; done) | (simp [*]; done)), H', ⟨by have := HJ2.out; first | omega | exact Nat.le_refl _⟩, ⟨by (with_reducible repeat (first | refine blk_drewN ?_ _ | refine blk_drew ?_ | refine blk_alloc ?_ _)); exact BK422.out⟩, ⟨by (with_reducible repeat (first | refine blk_drewN ?_ _ | refine blk_drew ?_ | refine blk_alloc ?_ _)); exact BK423.out⟩, ⟨by repeat (first | (with_reducible first | exact HB.out | apply below_alloc | apply pw_below_drewN | apply below_drew1 | refine below_set ?_ GE422.out | refine below_set ?_ GE423.out) | exact HB.out)⟩⟩
       ·
        rw [if_neg c36] at H
        have c36b0 : (a1_0 == 2) = false := beq_eq_false_iff_ne.mpr c36
        have c36b1 : (a1_0 != 2) = true := bne_iff_ne.mpr c36
        by_cases c39 : a1_0 = 3
        ·
         rw [if_pos c39] at H
         have c39b0 : (a1_0 == 3) = true := beq_iff_eq.mpr c39
         have c39b1 : (a1_0 != 3) = false := bne_eq_false_iff_eq.mpr c39
         clear c39
         have H' := Aside0.mk H
         clear H
         have hcz41_0 : wc.cell? ⟨gb423, 0, none⟩ = some (.int .u8 a1_0) := ck_ BK423 0
         have hcz41_1 : wc.cell? ⟨gb423, 1, none⟩ = some (.int .i64 a1_1) := ck_ BK423 1
         have hcz41_2 : wc.cell? ⟨gb423, 2, none⟩ = some (.int .i64 a1_2) := ck_ BK423 2
         have hcz41_3 : wc.cell? ⟨gb423, 3, none⟩ = some (.int .i64 a1_3) := ck_ BK423 3
         have hcz41_4 : wc.cell? ⟨gb423, 4, none⟩ = some (.int .i64 a1_4) := ck_ BK423 4
         have hfz41_0 := blk_frozen BK423.out 0
         have hfz41_1 := blk_frozen BK423.out 1
         have hfz41_2 := blk_frozen BK423.out 2
         have hfz41_3 := blk_frozen BK423.out 3
         have hfz41_4 := blk_frozen BK423.out 4
         go_wp2
         go_meet
         case rel => exact ⟨_, (((a1_3 != 0) != (a1_0 == 2))), (by first | rfl | (simp; done) | (simp [*]; done)), H', ⟨by have := HJ2.out; first | omega | exact Nat.le_refl _⟩, ⟨by (with_reducible repeat (first | refine blk_drewN ?_ _ | refine blk_drew ?_ | refine blk_alloc ?_ _)); exact BK422.out⟩, ⟨by (with_reducible repeat (first | refine blk_drewN ?_ _ | refine blk_drew ?_ | refine blk_alloc ?_ _)); exact BK423.out⟩, ⟨by repeat (first | (with_reducible first | exact HB.out | apply below_alloc | apply pw_below_drewN | apply below_drew1 | refine below_set ?_ GE422.out | refine below_set ?_ GE423.out) | exact HB.out)⟩⟩
        ·
         rw [if_neg c39] at H
         have c39b0 : (a1_0 == 3) = false := beq_eq_false_iff_ne.mpr c39
         have c39b1 : (a1_0 != 3) = true := bne_iff_ne.mpr c39
         have H' := Aside0.mk H
         clear H
         have hcz43_0 : wc.cell? ⟨gb423, 0, none⟩ = some (.int .u8 a1_0) := ck_ BK423 0
         have hcz43_1 : wc.cell? ⟨gb423, 1, none⟩ = some (.int .i64 a1_1) := ck_ BK423 1
         have hcz43_2 : wc.cell? ⟨gb423, 2, none⟩ = some (.int .i64 a1_2) := ck_ BK423 2
         have hcz43_3 : wc.cell? ⟨gb423, 3, none⟩ = some (.int .i64 a1_3) := ck_ BK423 3
         have hcz43_4 : wc.cell? ⟨gb423, 4, none⟩ = some (.int .i64 a1_4) := ck_ BK423 4
         have hfz43_0 := blk_frozen BK423.out 0
         have hfz43_1 := blk_frozen BK423.out 1
         have hfz43_2 := blk_frozen BK423.out 2
         have hfz43_3 := blk_frozen BK423.out 3
         have hfz43_4 := blk_frozen BK423.out 4
         go_wp2
         go_meet
         case rel => exact ⟨_, (true), (by first | rfl | (simp; done) | (simp [*]; done)), H', ⟨by have := HJ2.out; first | omega | exact Nat.le_refl _⟩, ⟨by (with_reducible repeat (first | refine blk_drewN ?_ _ | refine blk_drew ?_ | refine blk_alloc ?_ _)); exact BK422.out⟩, ⟨by (with_reducible repeat (first | refine blk_drewN ?_ _ | refine blk_drew ?_ | refine blk_alloc ?_ _)); exact BK423.out⟩, ⟨by repeat (first | (with_reducible first | exact HB.out | apply below_alloc | apply pw_below_drewN | apply below_drew1 | refine below_set ?_ GE422.out | refine below_set ?_ GE423.out) | exact HB.out)⟩⟩
     ·
      rw [if_neg c32] at H
      have c32b0 : (a1_4 == 0) = false := beq_eq_false_iff_ne.mpr c32
      have c32b1 : (a1_4 != 0) = true := bne_iff_ne.mpr c32
      (first | rw [c32b0] | (simp only [i64_w, i32_w]; rw [c32b0]) | skip)
      by_cases c44 : a1_0 = 1
      ·
       rw [if_pos c44] at H
       have c44b0 : (a1_0 == 1) = true := beq_iff_eq.mpr c44
       have c44b1 : (a1_0 != 1) = false := bne_eq_false_iff_eq.mpr c44
       clear c44
       by_cases c45 : a1_2 = 0
       ·
        rw [if_pos c45] at H
        have c45b0 : (a1_2 == 0) = true := beq_iff_eq.mpr c45
        have c45b1 : (a1_2 != 0) = false := bne_eq_false_iff_eq.mpr c45
        clear c45
        have H' := Aside0.mk H
        clear H
        have hcz47_0 : wc.cell? ⟨gb423, 0, none⟩ = some (.int .u8 a1_0) := ck_ BK423 0
        have hcz47_1 : wc.cell? ⟨gb423, 1, none⟩ = some (.int .i64 a1_1) := ck_ BK423 1
        have hcz47_2 : wc.cell? ⟨gb423, 2, none⟩ = some (.int .i64 a1_2) := ck_ BK423 2
        have hcz47_3 : wc.cell? ⟨gb423, 3, none⟩ = some (.int .i64 a1_3) := ck_ BK423 3
        have hcz47_4 : wc.cell? ⟨gb423, 4, none⟩ = some (.int .i64 a1_4) := ck_ BK423 4
        have hfz47_0 := blk_frozen BK423.out 0
        have hfz47_1 := blk_frozen BK423.out 1
        have hfz47_2 := blk_frozen BK423.out 2
        have hfz47_3 := blk_frozen BK423.out 3
        have hfz47_4 := blk_frozen BK423.out 4
        go_wp2
        go_meet
        case rel => exact ⟨_, (((a1_3 != 0) != (a1_0 == 2))), (by first | rfl | (simp; done) | (simp [*]; done)), H', ⟨by have := HJ2.out; first | omega | exact Nat.le_refl _⟩, ⟨by (with_reducible repeat (first | refine blk_drewN ?_ _ | refine blk_drew ?_ | refine blk_alloc ?_ _)); exact BK422.out⟩, ⟨by (with_reducible repeat (first | refine blk_drewN ?_ _ | refine blk_drew ?_ | refine blk_alloc ?_ _)); exact BK423.out⟩, ⟨by repeat (first | (with_reducible first | exact HB.out | apply below_alloc | apply pw_below_drewN | apply below_drew1 | refine below_set ?_ GE422.out | refine below_set ?_ GE423.out) | exact HB.out)⟩⟩
       ·
        rw [if_neg c45] at H
        have c45b0 : (a1_2 == 0) = false := beq_eq_false_iff_ne.mpr c45
        have c45b1 : (a1_2 != 0) = true := bne_iff_ne.mpr c45
        by_cases c48 : a1_0 = 2
        ·
         rw [if_pos c48] at H
         have c48b0 : (a1_0 == 2) = true := beq_iff_eq.mpr c48
         have c48b1 : (a1_0 != 2) = false := bne_eq_false_iff_eq.mpr c48
         clear c48
         have H' := Aside0.mk H
         clear H
         have hcz50_0 : wc.cell? ⟨gb423, 0, none⟩ = some (.int .u8 a1_0) := ck_ BK423 0
         have hcz50_1 : wc.cell? ⟨gb423, 1, none⟩ = some (.int .i64 a1_1) := ck_ BK423 1
         have hcz50_2 : wc.cell? ⟨gb423, 2, none⟩ = some (.int .i64 a1_2) := ck_ BK423 2
         have hcz50_3 : wc.cell? ⟨gb423, 3, none⟩ = some (.int .i64 a1_3) := ck_ BK423 3
         have hcz50_4 : wc.cell? ⟨gb423, 4, none⟩ = some (.int .i64 a1_4) := ck_ BK423 4
         have hfz50_0 := blk_frozen BK423.out 0
         have hfz50_1 := blk_frozen BK423.out 1
         have hfz50_2 := blk_frozen BK423.out 2
         have hfz50_3 := blk_frozen BK423.out 3
         have hfz50_4 := blk_frozen BK423.out 4
         go_wp2
         go_meet
         case rel => exact ⟨_, (((a1_3 != 0) != (a1_0 == 2))), (by first | rfl | (simp; done) | (simp [*]; done)), H', ⟨by have := HJ2.out; first | omega | exact Nat.le_refl _⟩, ⟨by (with_reducible repeat (first | refine blk_drewN ?_ _ | refine blk_drew ?_ | refine blk_alloc ?_ _)); exact BK422.out⟩, ⟨by (with_reducible repeat (first | refine blk_drewN ?_ _ | refine blk_drew ?_ | refine blk_alloc ?_ _)); exact BK423.out⟩, ⟨by repeat (first | (with_reducible first | exact HB.out | apply below_alloc | apply pw_below_drewN | apply below_drew1 | refine below_set ?_ GE422.out | refine below_set ?_ GE423.out) | exact HB.out)⟩⟩
        ·
         rw [if_neg c48] at H
         have c48b0 : (a1_0 == 2) = false := beq_eq_false_iff_ne.mpr c48
         have c48b1 : (a1_0 != 2) = true := bne_iff_ne.mpr c48
         by_cases c51 : a1_0 = 3
         ·
          rw [if_pos c51] at H
          have c51b0 : (a1_0 == 3) = true := beq_iff_eq.mpr c51
          have c51b1 : (a1_0 != 3) = false := bne_eq_false_iff_eq.mpr c51
          clear c51
          have H' := Aside0.mk H
          clear H
          have hcz53_0 : wc.cell? ⟨gb423, 0, none⟩ = some (.int .u8 a1_0) := ck_ BK423 0
          have hcz53_1 : wc.cell? ⟨gb423, 1, none⟩ = some (.int .i64 a1_1) := ck_ BK423 1
          have hcz53_2 : wc.cell? ⟨gb423, 2, none⟩ = some (.int .i64 a1_2) := ck_ BK423 2
          have hcz53_3 : wc.cell? ⟨gb423, 3, none⟩ = some (.int .i64 a1_3) := ck_ BK423 3
          have hcz53_4 : wc.cell? ⟨gb423, 4, none⟩ = some (.int .i64 a1_4) := ck_ BK423 4
          have hfz53_0 := blk_frozen BK423.out 0
          have hfz53_1 := blk_frozen BK423.out 1
          have hfz53_2 := blk_frozen BK423.out 2
          have hfz53_3 := blk_frozen BK423.out 3
          have hfz53_4 := blk_frozen BK423.out 4
          go_wp2
          go_meet
          case rel => exact ⟨_, (((a1_3 != 0) != (a1_0 == 2))), (by first | rfl | (simp; done) | (simp [*]; done)), H', ⟨by have := HJ2.out; first | omega | exact Nat.le_refl _⟩, ⟨by (with_reducible repeat (first | refine blk_drewN ?_ _ | refine blk_drew ?_ | refine blk_alloc ?_ _)); exact BK422.out⟩, ⟨by (with_reducible repeat (first | refine blk_drewN ?_ _ | refine blk_drew ?_ | refine blk_alloc ?_ _)); exact BK423.out⟩, ⟨by repeat (first | (with_reducible first | exact HB.out | apply below_alloc | apply pw_below_drewN | apply below_drew1 | refine below_set ?_ GE422.out | refine below_set ?_ GE423.out) | exact HB.out)⟩⟩
         ·
          rw [if_neg c51] at H
          have c51b0 : (a1_0 == 3) = false := beq_eq_false_iff_ne.mpr c51
          have c51b1 : (a1_0 != 3) = true := bne_iff_ne.mpr c51
          have H' := Aside0.mk H
          clear H
          have hcz55_0 : wc.cell? ⟨gb423, 0, none⟩ = some (.int .u8 a1_0) := ck_ BK423 0
          have hcz55_1 : wc.cell? ⟨gb423, 1, none⟩ = some (.int .i64 a1_1) := ck_ BK423 1
          have hcz55_2 : wc.cell? ⟨gb423, 2, none⟩ = some (.int .i64 a1_2) := ck_ BK423 2
          have hcz55_3 : wc.cell? ⟨gb423, 3, none⟩ = some (.int .i64 a1_3) := ck_ BK423 3
          have hcz55_4 : wc.cell? ⟨gb423, 4, none⟩ = some (.int .i64 a1_4) := ck_ BK423 4
          have hfz55_0 := blk_frozen BK423.out 0
          have hfz55_1 := blk_frozen BK423.out 1
          have hfz55_2 := blk_frozen BK423.out 2
          have hfz55_3 := blk_frozen BK423.out 3
          have hfz55_4 := blk_frozen BK423.out 4
          go_wp2
          go_meet
          case rel => exact ⟨_, (true), (by first | rfl | (simp; done) | (simp [*]; done)), H', ⟨by have := HJ2.out; first | omega | exact Nat.le_refl _⟩, ⟨by (with_reducible repeat (first | refine blk_drewN ?_ _ | refine blk_drew ?_ | refine blk_alloc ?_ _)); exact BK422.out⟩, ⟨by (with_reducible repeat (first | refine blk_drewN ?_ _ | refine blk_drew ?_ | refine blk_alloc ?_ _)); exact BK423.out⟩, ⟨by repeat (first | (with_reducible first | exact HB.out | apply below_alloc | apply pw_below_drewN | apply below_drew1 | refine below_set ?_ GE422.out | refine below_set ?_ GE423.out) | exact HB.out)⟩⟩
      ·
       rw [if_neg c44] at H
       have c44b0 : (a1_0 == 1) = false := beq_eq_false_iff_ne.mpr c44
       have c44b1 : (a1_0 != 1) = true := bne_iff_ne.mpr c44
       have H' := Aside0.mk H
       clear H
       have hcz57_0 : wc.cell? ⟨gb423, 0, none⟩ = some (.int .u8 a1_0) := ck_ BK423 0
       have hcz57_1 : wc.cell? ⟨gb423, 1, none⟩ = some (.int .i64 a1_1) := ck_ BK423 1
       have hcz57_2 : wc.cell? ⟨gb423, 2, none⟩ = some (.int .i64 a1_2) := ck_ BK423 2
       have hcz57_3 : wc.cell? ⟨gb423, 3, none⟩ = some (.int .i64 a1_3) := ck_ BK423 3
       have hcz57_4 : wc.cell? ⟨gb423, 4, none⟩ = some (.int .i64 a1_4) := ck_ BK423 4
       have hfz57_0 := blk_frozen BK423.out 0
       have hfz57_1 := blk_frozen BK423.out 1
       have hfz57_2 := blk_frozen BK423.out 2
       have hfz57_3 := blk_frozen BK423.out 3
       have hfz57_4 := blk_frozen BK423.out 4
       go_wp2
       go_meet
       case rel => exact ⟨_, (true), (by first | rfl | (simp; done) | (simp [*]; done)), H', ⟨by have := HJ2.out; first | omega | exact Nat.le_refl _⟩, ⟨by (with_reducible repeat (first | refine blk_drewN ?_ _ | refine blk_drew ?_ | refine blk_alloc ?_ _)); exact BK422.out⟩, ⟨by (with_reducible repeat (first | refine blk_drewN ?_ _ | refine blk_drew ?_ | refine blk_alloc ?_ _)); exact BK423.out⟩, ⟨by repeat (first | (with_reducible first | exact HB.out | apply below_alloc | apply pw_below_drewN | apply below_drew1 | refine below_set ?_ GE422.out | refine below_set ?_ GE423.out) | exact HB.out)⟩⟩
    case rest =>
     clear HC31
     try clear c1
     try clear c2
     try clear p2
     try clear c3
     try clear c4
     try clear c5
     try clear c6
     try clear c6b0
     try clear c7
     try clear c9
     try clear c9b0
     try clear c10
     try clear c12
     try clear c12b0
     try clear c13
     try clear c17
     try clear c19
     try clear c21
     try clear c24
     try clear c27
     try clear c30
     try clear c32
     try clear c32b0
     try clear c32b1
     try clear c33
     try clear c33b0
     try clear c33b1
     try clear c34
     try clear c36
     try clear c36b0
     try clear c36b1
     try clear c37
     try clear c39
     try clear c39b0
     try clear c39b1
     try clear c40
     try clear c42
     try clear c44
     try clear c44b0
     try clear c44b1
     try clear c45
     try clear c45b0
     try clear c45b1
     try clear c46
     try clear c47
     try clear c48
     try clear c48b0
     try clear c48b1
     try clear c49
     try clear c51
     try clear c51b0
     try clear c51b1
     try clear c52
     try clear c54
     try clear c56
     try clear hcz11_0
     try clear hcz11_1
     try clear hcz11_2
     try clear hcz11_3
     try clear hcz11_4
     try clear hcz14_0
     try clear hcz14_1
     try clear hcz14_2
     try clear hcz14_3
     try clear hcz14_4
     try clear hcz15_0
     try clear hcz15_1
     try clear hcz15_2
     try clear hcz22_0
     try clear hcz22_1
     try clear hcz22_2
     try clear hcz22_3
     try clear hcz22_4
     try clear hcz23_0
     try clear hcz23_1
     try clear hcz23_2
     try clear hcz25_0
     try clear hcz25_1
     try clear hcz25_2
     try clear hcz25_3
     try clear hcz25_4
     try clear hcz26_0
     try clear hcz26_1
     try clear hcz26_2
     try clear hcz28_0
     try clear hcz28_1
     try clear hcz28_2
     try clear hcz28_3
     try clear hcz28_4
     try clear hcz29_0
     try clear hcz29_1
     try clear hcz29_2
     try clear hcz35_0
     try clear hcz35_1
     try clear hcz35_2
     try clear hcz35_3
     try clear hcz35_4
     try clear hcz38_0
     try clear hcz38_1
     try clear hcz38_2
     try clear hcz38_3
     try clear hcz38_4
     try clear hcz41_0
     try clear hcz41_1
     try clear hcz41_2
     try clear hcz41_3
     try clear hcz41_4
     try clear hcz43_0
     try clear hcz43_1
     try clear hcz43_2
     try clear hcz43_3
     try clear hcz43_4
     try clear hcz47_0
     try clear hcz47_1
     try clear hcz47_2
     try clear hcz47_3
     try clear hcz47_4
     try clear hcz50_0
     try clear hcz50_1
     try clear hcz50_2
     try clear hcz50_3
     try clear hcz50_4
     try clear hcz53_0
     try clear hcz53_1
     try clear hcz53_2
     try clear hcz53_3
     try clear hcz53_4
     try clear hcz55_0
     try clear hcz55_1
     try clear hcz55_2
     try clear hcz55_3
     try clear hcz55_4
     try clear hcz57_0
     try clear hcz57_1
     try clear hcz57_2
     try clear hcz57_3
     try clear hcz57_4
     try clear hcz8_0
     try clear hcz8_1
     try clear hcz8_2
     try clear hcz8_3
     try clear hcz8_4
     try clear hfz11_0
     try clear hfz11_1
     try clear hfz11_2
     try clear hfz11_3
     try clear hfz11_4
     try clear hfz14_0
     try clear hfz14_1
     try clear hfz14_2
     try clear hfz14_3
     try clear hfz14_4
     try clear hfz15_0
     try clear hfz15_1
     try clear hfz15_2
     try clear hfz22_0
     try clear hfz22_1
     try clear hfz22_2
     try clear hfz22_3
     try clear hfz22_4
     try clear hfz23_0
     try clear hfz23_1
     try clear hfz23_2
     try clear hfz25_0
     try clear hfz25_1
     try clear hfz25_2
     try clear hfz25_3
     try clear hfz25_4
     try clear hfz26_0
     try clear hfz26_1
     try clear hfz26_2
     try clear hfz28_0
     try clear hfz28_1
     try clear hfz28_2
     try clear hfz28_3
     try clear hfz28_4
     try clear hfz29_0
     try clear hfz29_1
     try clear hfz29_2
     try clear hfz35_0
     try clear hfz35_1
     try clear hfz35_2
     try clear hfz35_3
     try clear hfz35_4
     try clear hfz38_0
     try clear hfz38_1
     try clear hfz38_2
     try clear hfz38_3
     try clear hfz38_4
     try clear hfz41_0
     try clear hfz41_1
     try clear hfz41_2
     try clear hfz41_3
     try clear hfz41_4
     try clear hfz43_0
     try clear hfz43_1
     try clear hfz43_2
     try clear hfz43_3
     try clear hfz43_4
     try clear hfz47_0
     try clear hfz47_1
     try clear hfz47_2
     try clear hfz47_3
     try clear hfz47_4
     try clear hfz50_0
     try clear hfz50_1
     try clear hfz50_2
     try clear hfz50_3
     try clear hfz50_4
     try clear hfz53_0
     try clear hfz53_1
     try clear hfz53_2
     try clear hfz53_3
     try clear hfz53_4
     try clear hfz55_0
     try clear hfz55_1
     try clear hfz55_2
     try clear hfz55_3
     try clear hfz55_4
     try clear hfz57_0
     try clear hfz57_1
     try clear hfz57_2
     try clear hfz57_3
     try clear hfz57_4
     try clear hfz8_0
     try clear hfz8_1
     try clear hfz8_2
     try clear hfz8_3
     try clear hfz8_4
     try clear p2
     obtain ⟨kq, x69_30, rfl, HA, HJ30, BK422, BK423, HB⟩ := hcut
     cases kq with
     | zero => exact absurd HA.out (by simp [millhandref24_May.j1])
     | succ kj30 =>
      have H := HA.out
      clear HA
      simp only [millhandref24_May.j1] at H
      by_cases c58 : x69_30 = true
      ·
       subst c58
       have H1 : (some false) = some r := by rw [if_pos rfl] at H; exact H
       clear H
       have H := H1
       clear H1
       obtain rfl := Option.some.inj H
       go_wp2
       go_ret
       exact ⟨by first | rfl | (simp [errW_none, errW_some] <;> rfl) | (simp [*, errW_none, errW_some] <;> rfl) | exact ret_ie _ | (simp [*, errW_none, errW_some, bne]; done), by repeat (first | (with_reducible first | exact HB.out | apply below_alloc | apply pw_below_drewN | apply below_drew1 | refine below_set ?_ GE422.out | refine below_set ?_ GE423.out) | exact HB.out)⟩
      ·
       replace c58 := Bool.eq_false_iff.mpr c58
       subst c58
       have H1 : (if a1_0 = 0 then (some (a1_1 == 0)) else (if a1_0 = 1 then (millhandref24_May.j2 kj30 true l0_0 a0_1 a0_2 a1_0 a1_1 a1_2 a1_3 a1_4) else (millhandref24_May.j2 kj30 (a1_0 == 3) l0_0 a0_1 a0_2 a1_0 a1_1 a1_2 a1_3 a1_4))) = some r := by rw [if_neg (show ¬ (false = true) by decide)] at H; exact H
       clear H
       have H := H1
       clear H1
       by_cases c59 : a1_0 = 0
       ·
        rw [if_pos c59] at H
        have c59b0 : (a1_0 == 0) = true := beq_iff_eq.mpr c59
        have c59b1 : (a1_0 != 0) = false := bne_eq_false_iff_eq.mpr c59
        clear c59
        obtain rfl := Option.some.inj H
        have hcz61_0 : wc.cell? ⟨gb423, 0, none⟩ = some (.int .u8 a1_0) := ck_ BK423 0
        have hcz61_1 : wc.cell? ⟨gb423, 1, none⟩ = some (.int .i64 a1_1) := ck_ BK423 1
        have hcz61_2 : wc.cell? ⟨gb423, 2, none⟩ = some (.int .i64 a1_2) := ck_ BK423 2
        have hcz61_3 : wc.cell? ⟨gb423, 3, none⟩ = some (.int .i64 a1_3) := ck_ BK423 3
        have hcz61_4 : wc.cell? ⟨gb423, 4, none⟩ = some (.int .i64 a1_4) := ck_ BK423 4
        have hfz61_0 := blk_frozen BK423.out 0
        have hfz61_1 := blk_frozen BK423.out 1
        have hfz61_2 := blk_frozen BK423.out 2
        have hfz61_3 := blk_frozen BK423.out 3
        have hfz61_4 := blk_frozen BK423.out 4
        go_wp2
        go_ret
        exact ⟨by first | rfl | (simp [errW_none, errW_some] <;> rfl) | (simp [*, errW_none, errW_some] <;> rfl) | exact ret_ie _ | (simp [*, errW_none, errW_some, bne]; done), by repeat (first | (with_reducible first | exact HB.out | apply below_alloc | apply pw_below_drewN | apply below_drew1 | refine below_set ?_ GE422.out | refine below_set ?_ GE423.out) | exact HB.out)⟩
       ·
        rw [if_neg c59] at H
        have c59b0 : (a1_0 == 0) = false := beq_eq_false_iff_ne.mpr c59
        have c59b1 : (a1_0 != 0) = true := bne_iff_ne.mpr c59
        have HC62 := Aside0.mk H
        clear H
        have hcz64_0 : wc.cell? ⟨gb423, 0, none⟩ = some (.int .u8 a1_0) := ck_ BK423 0
        have hcz64_1 : wc.cell? ⟨gb423, 1, none⟩ = some (.int .i64 a1_1) := ck_ BK423 1
        have hcz64_2 : wc.cell? ⟨gb423, 2, none⟩ = some (.int .i64 a1_2) := ck_ BK423 2
        have hcz64_3 : wc.cell? ⟨gb423, 3, none⟩ = some (.int .i64 a1_3) := ck_ BK423 3
        have hcz64_4 : wc.cell? ⟨gb423, 4, none⟩ = some (.int .i64 a1_4) := ck_ BK423 4
        have hfz64_0 := blk_frozen BK423.out 0
        have hfz64_1 := blk_frozen BK423.out 1
        have hfz64_2 := blk_frozen BK423.out 2
        have hfz64_3 := blk_frozen BK423.out 3
        have hfz64_4 := blk_frozen BK423.out 4
        go_upto_region 7 with (fail)
        go_cut [83] (fun v83 wc => ∃ (kq : Nat) (x83_61 : Bool), v83 = .bool x83_61 ∧ Aside0 (millhandref24_May.j2 kq x83_61 l0_0 a0_1 a0_2 a1_0 a1_1 a1_2 a1_3 a1_4 = some r) ∧ Aside0 (kq ≤ kj30) ∧ Aside0 (wc.heap[gb422]? = some (.cells #[(.slice A0_0 l0_0.length c0_0), .int .i64 a0_1, .int .i64 a0_2] 24 (0, 0))) ∧ Aside0 (wc.heap[gb423]? = some (.cells #[.int .u8 a1_0, .int .i64 a1_1, .int .i64 a1_2, .int .i64 a1_3, .int .i64 a1_4] 31 (0, 0))) ∧ Aside0 (Below w.heap.size w wc))
        case first =>
         have H := HC62.out
         clear HC62
         by_cases c65 : a1_0 = 1
         ·
          rw [if_pos c65] at H
          have c65b0 : (a1_0 == 1) = true := beq_iff_eq.mpr c65
          have c65b1 : (a1_0 != 1) = false := bne_eq_false_iff_eq.mpr c65
          clear c65
          (first | rw [c65b0] | (simp only [i64_w, i32_w]; rw [c65b0]) | skip)
          have H' := Aside0.mk H
          clear H
          have hcz67_0 : wc.cell? ⟨gb423, 0, none⟩ = some (.int .u8 a1_0) := ck_ BK423 0
          have hcz67_1 : wc.cell? ⟨gb423, 1, none⟩ = some (.int .i64 a1_1) := ck_ BK423 1
          have hcz67_2 : wc.cell? ⟨gb423, 2, none⟩ = some (.int .i64 a1_2) := ck_ BK423 2
          have hcz67_3 : wc.cell? ⟨gb423, 3, none⟩ = some (.int .i64 a1_3) := ck_ BK423 3
          have hcz67_4 : wc.cell? ⟨gb423, 4, none⟩ = some (.int .i64 a1_4) := ck_ BK423 4
          have hfz67_0 := blk_frozen BK423.out 0
          have hfz67_1 := blk_frozen BK423.out 1
          have hfz67_2 := blk_frozen BK423.out 2
          have hfz67_3 := blk_frozen BK423.out 3
          have hfz67_4 := blk_frozen BK423.out 4
          go_wp2
          go_meet
          case rel => exact ⟨_, (true), (by first | rfl | (simp; done) | (simp [*]; done)), H', ⟨by have := HJ2.out; have := HJ30.out; first | omega | exact Nat.le_refl _⟩, ⟨by (with_reducible repeat (first | refine blk_drewN ?_ _ | refine blk_drew ?_ | refine blk_alloc ?_ _)); exact BK422.out⟩, ⟨by (with_reducible repeat (first | refine blk_drewN ?_ _ | refine blk_drew ?_ | refine blk_alloc ?_ _)); exact BK423.out⟩, ⟨by repeat (first | (with_reducible first | exact HB.out | apply below_alloc | apply pw_below_drewN | apply below_drew1 | refine below_set ?_ GE422.out | refine below_set ?_ GE423.out) | exact HB.out)⟩⟩
         ·
          rw [if_neg c65] at H
          have c65b0 : (a1_0 == 1) = false := beq_eq_false_iff_ne.mpr c65
          have c65b1 : (a1_0 != 1) = true := bne_iff_ne.mpr c65
          (first | rw [c65b0] | (simp only [i64_w, i32_w]; rw [c65b0]) | skip)
          have H' := Aside0.mk H
          clear H
          have hcz69_0 : wc.cell? ⟨gb423, 0, none⟩ = some (.int .u8 a1_0) := ck_ BK423 0
          have hcz69_1 : wc.cell? ⟨gb423, 1, none⟩ = some (.int .i64 a1_1) := ck_ BK423 1
          have hcz69_2 : wc.cell? ⟨gb423, 2, none⟩ = some (.int .i64 a1_2) := ck_ BK423 2
          have hcz69_3 : wc.cell? ⟨gb423, 3, none⟩ = some (.int .i64 a1_3) := ck_ BK423 3
          have hcz69_4 : wc.cell? ⟨gb423, 4, none⟩ = some (.int .i64 a1_4) := ck_ BK423 4
          have hfz69_0 := blk_frozen BK423.out 0
          have hfz69_1 := blk_frozen BK423.out 1
          have hfz69_2 := blk_frozen BK423.out 2
          have hfz69_3 := blk_frozen BK423.out 3
          have hfz69_4 := blk_frozen BK423.out 4
          go_wp2
          go_meet
          case rel => exact ⟨_, ((a1_0 == 3)), (by first | rfl | (simp; done) | (simp [*]; done)), H', ⟨by have := HJ2.out; have := HJ30.out; first | omega | exact Nat.le_refl _⟩, ⟨by (with_reducible repeat (first | refine blk_drewN ?_ _ | refine blk_drew ?_ | refine blk_alloc ?_ _)); exact BK422.out⟩, ⟨by (with_reducible repeat (first | refine blk_drewN ?_ _ | refine blk_drew ?_ | refine blk_alloc ?_ _)); exact BK423.out⟩, ⟨by repeat (first | (with_reducible first | exact HB.out | apply below_alloc | apply pw_below_drewN | apply below_drew1 | refine below_set ?_ GE422.out | refine below_set ?_ GE423.out) | exact HB.out)⟩⟩
        case rest =>
         clear HC62
         try clear c1
         try clear c2
         try clear p2
         try clear c3
         try clear c4
         try clear c5
         try clear c6
         try clear c6b0
         try clear c7
         try clear c9
         try clear c9b0
         try clear c10
         try clear c12
         try clear c12b0
         try clear c13
         try clear c17
         try clear c19
         try clear c21
         try clear c24
         try clear c27
         try clear c30
         try clear c32
         try clear c32b0
         try clear c32b1
         try clear c33
         try clear c33b0
         try clear c33b1
         try clear c34
         try clear c36
         try clear c36b0
         try clear c36b1
         try clear c37
         try clear c39
         try clear c39b0
         try clear c39b1
         try clear c40
         try clear c42
         try clear c44
         try clear c44b0
         try clear c44b1
         try clear c45
         try clear c45b0
         try clear c45b1
         try clear c46
         try clear c47
         try clear c48
         try clear c48b0
         try clear c48b1
         try clear c49
         try clear c51
         try clear c51b0
         try clear c51b1
         try clear c52
         try clear c54
         try clear c56
         try clear c58
         try clear c59
         try clear c59b0
         try clear c59b1
         try clear c60
         try clear c63
         try clear c65
         try clear c65b0
         try clear c65b1
         try clear c66
         try clear c68
         try clear hcz11_0
         try clear hcz11_1
         try clear hcz11_2
         try clear hcz11_3
         try clear hcz11_4
         try clear hcz14_0
         try clear hcz14_1
         try clear hcz14_2
         try clear hcz14_3
         try clear hcz14_4
         try clear hcz15_0
         try clear hcz15_1
         try clear hcz15_2
         try clear hcz22_0
         try clear hcz22_1
         try clear hcz22_2
         try clear hcz22_3
         try clear hcz22_4
         try clear hcz23_0
         try clear hcz23_1
         try clear hcz23_2
         try clear hcz25_0
         try clear hcz25_1
         try clear hcz25_2
         try clear hcz25_3
         try clear hcz25_4
         try clear hcz26_0
         try clear hcz26_1
         try clear hcz26_2
         try clear hcz28_0
         try clear hcz28_1
         try clear hcz28_2
         try clear hcz28_3
         try clear hcz28_4
         try clear hcz29_0
         try clear hcz29_1
         try clear hcz29_2
         try clear hcz35_0
         try clear hcz35_1
         try clear hcz35_2
         try clear hcz35_3
         try clear hcz35_4
         try clear hcz38_0
         try clear hcz38_1
         try clear hcz38_2
         try clear hcz38_3
         try clear hcz38_4
         try clear hcz41_0
         try clear hcz41_1
         try clear hcz41_2
         try clear hcz41_3
         try clear hcz41_4
         try clear hcz43_0
         try clear hcz43_1
         try clear hcz43_2
         try clear hcz43_3
         try clear hcz43_4
         try clear hcz47_0
         try clear hcz47_1
         try clear hcz47_2
         try clear hcz47_3
         try clear hcz47_4
         try clear hcz50_0
         try clear hcz50_1
         try clear hcz50_2
         try clear hcz50_3
         try clear hcz50_4
         try clear hcz53_0
         try clear hcz53_1
         try clear hcz53_2
         try clear hcz53_3
         try clear hcz53_4
         try clear hcz55_0
         try clear hcz55_1
         try clear hcz55_2
         try clear hcz55_3
         try clear hcz55_4
         try clear hcz57_0
         try clear hcz57_1
         try clear hcz57_2
         try clear hcz57_3
         try clear hcz57_4
         try clear hcz61_0
         try clear hcz61_1
         try clear hcz61_2
         try clear hcz61_3
         try clear hcz61_4
         try clear hcz64_0
         try clear hcz64_1
         try clear hcz64_2
         try clear hcz64_3
         try clear hcz64_4
         try clear hcz67_0
         try clear hcz67_1
         try clear hcz67_2
         try clear hcz67_3
         try clear hcz67_4
         try clear hcz69_0
         try clear hcz69_1
         try clear hcz69_2
         try clear hcz69_3
         try clear hcz69_4
         try clear hcz8_0
         try clear hcz8_1
         try clear hcz8_2
         try clear hcz8_3
         try clear hcz8_4
         try clear hfz11_0
         try clear hfz11_1
         try clear hfz11_2
         try clear hfz11_3
         try clear hfz11_4
         try clear hfz14_0
         try clear hfz14_1
         try clear hfz14_2
         try clear hfz14_3
         try clear hfz14_4
         try clear hfz15_0
         try clear hfz15_1
         try clear hfz15_2
         try clear hfz22_0
         try clear hfz22_1
         try clear hfz22_2
         try clear hfz22_3
         try clear hfz22_4
         try clear hfz23_0
         try clear hfz23_1
         try clear hfz23_2
         try clear hfz25_0
         try clear hfz25_1
         try clear hfz25_2
         try clear hfz25_3
         try clear hfz25_4
         try clear hfz26_0
         try clear hfz26_1
         try clear hfz26_2
         try clear hfz28_0
         try clear hfz28_1
         try clear hfz28_2
         try clear hfz28_3
         try clear hfz28_4
         try clear hfz29_0
         try clear hfz29_1
         try clear hfz29_2
         try clear hfz35_0
         try clear hfz35_1
         try clear hfz35_2
         try clear hfz35_3
         try clear hfz35_4
         try clear hfz38_0
         try clear hfz38_1
         try clear hfz38_2
         try clear hfz38_3
         try clear hfz38_4
         try clear hfz41_0
         try clear hfz41_1
         try clear hfz41_2
         try clear hfz41_3
         try clear hfz41_4
         try clear hfz43_0
         try clear hfz43_1
         try clear hfz43_2
         try clear hfz43_3
         try clear hfz43_4
         try clear hfz47_0
         try clear hfz47_1
         try clear hfz47_2
         try clear hfz47_3
         try clear hfz47_4
         try clear hfz50_0
         try clear hfz50_1
         try clear hfz50_2
         try clear hfz50_3
         try clear hfz50_4
         try clear hfz53_0
         try clear hfz53_1
         try clear hfz53_2
         try clear hfz53_3
         try clear hfz53_4
         try clear hfz55_0
         try clear hfz55_1
         try clear hfz55_2
         try clear hfz55_3
         try clear hfz55_4
         try clear hfz57_0
         try clear hfz57_1
         try clear hfz57_2
         try clear hfz57_3
         try clear hfz57_4
         try clear hfz61_0
         try clear hfz61_1
         try clear hfz61_2
         try clear hfz61_3
         try clear hfz61_4
         try clear hfz64_0
         try clear hfz64_1
         try clear hfz64_2
         try clear hfz64_3
         try clear hfz64_4
         try clear hfz67_0
         try clear hfz67_1
         try clear hfz67_2
         try clear hfz67_3
         try clear hfz67_4
         try clear hfz69_0
         try clear hfz69_1
         try clear hfz69_2
         try clear hfz69_3
         try clear hfz69_4
         try clear hfz8_0
         try clear hfz8_1
         try clear hfz8_2
         try clear hfz8_3
         try clear hfz8_4
         try clear p2
         obtain ⟨kq, x83_61, rfl, HA, HJ61, BK422, BK423, HB⟩ := hcut
         cases kq with
         | zero => exact absurd HA.out (by simp [millhandref24_May.j2])
         | succ kj61 =>
          have H := HA.out
          clear HA
          simp only [millhandref24_May.j2] at H
          by_cases c70 : x83_61 = true
          ·
           subst c70
           have H1 : (if a1_1 < a0_1 then (if a1_1 > 0 then (some true) else (some (a1_0 == 1))) else (some false)) = some r := by rw [if_pos rfl] at H; exact H
           clear H
           have H := H1
           clear H1
           by_cases c71 : a1_1 < a0_1
           ·
            rw [if_pos c71] at H
            have c71b0 : decide (a1_1 < a0_1) = true := decide_eq_true c71
            clear c71
            by_cases c72 : a1_1 > 0
            ·
             rw [if_pos c72] at H
             have c72b0 : decide (0 < a1_1) = true := decide_eq_true c72
             clear c72
             obtain rfl := Option.some.inj H
             have hnb73 := NB423_422.out
             have hnc73 := NB422_423.out
             have hcz74_0 : wc.cell? ⟨gb423, 0, none⟩ = some (.int .u8 a1_0) := ck_ BK423 0
             have hcz74_1 : wc.cell? ⟨gb423, 1, none⟩ = some (.int .i64 a1_1) := ck_ BK423 1
             have hcz74_2 : wc.cell? ⟨gb423, 2, none⟩ = some (.int .i64 a1_2) := ck_ BK423 2
             have hcz74_3 : wc.cell? ⟨gb423, 3, none⟩ = some (.int .i64 a1_3) := ck_ BK423 3
             have hcz74_4 : wc.cell? ⟨gb423, 4, none⟩ = some (.int .i64 a1_4) := ck_ BK423 4
             have hfz74_0 := blk_frozen BK423.out 0
             have hfz74_1 := blk_frozen BK423.out 1
             have hfz74_2 := blk_frozen BK423.out 2
             have hfz74_3 := blk_frozen BK423.out 3
             have hfz74_4 := blk_frozen BK423.out 4
             have hcz75_0 : wc.cell? ⟨gb422, 0, none⟩ = some (.slice A0_0 l0_0.length c0_0) := ck_ BK422 0
             have hcz75_1 : wc.cell? ⟨gb422, 1, none⟩ = some (.int .i64 a0_1) := ck_ BK422 1
             have hcz75_2 : wc.cell? ⟨gb422, 2, none⟩ = some (.int .i64 a0_2) := ck_ BK422 2
             have hfz75_0 := blk_frozen BK422.out 0
             have hfz75_1 := blk_frozen BK422.out 1
             have hfz75_2 := blk_frozen BK422.out 2
             go_wp2
             go_ret
             exact ⟨by first | rfl | (simp [errW_none, errW_some] <;> rfl) | (simp [*, errW_none, errW_some] <;> rfl) | exact ret_ie _ | (simp [*, errW_none, errW_some, bne]; done), by repeat (first | (with_reducible first | exact HB.out | apply below_alloc | apply pw_below_drewN | apply below_drew1 | refine below_set ?_ GE422.out | refine below_set ?_ GE423.out) | exact HB.out)⟩
            ·
             rw [if_neg c72] at H
             have c72b0 : decide (0 < a1_1) = false := decide_eq_false c72
             clear c72
             obtain rfl := Option.some.inj H
             have hnb76 := NB423_422.out
             have hnc76 := NB422_423.out
             have hcz77_0 : wc.cell? ⟨gb423, 0, none⟩ = some (.int .u8 a1_0) := ck_ BK423 0
             have hcz77_1 : wc.cell? ⟨gb423, 1, none⟩ = some (.int .i64 a1_1) := ck_ BK423 1
             have hcz77_2 : wc.cell? ⟨gb423, 2, none⟩ = some (.int .i64 a1_2) := ck_ BK423 2
             have hcz77_3 : wc.cell? ⟨gb423, 3, none⟩ = some (.int .i64 a1_3) := ck_ BK423 3
             have hcz77_4 : wc.cell? ⟨gb423, 4, none⟩ = some (.int .i64 a1_4) := ck_ BK423 4
             have hfz77_0 := blk_frozen BK423.out 0
             have hfz77_1 := blk_frozen BK423.out 1
             have hfz77_2 := blk_frozen BK423.out 2
             have hfz77_3 := blk_frozen BK423.out 3
             have hfz77_4 := blk_frozen BK423.out 4
             have hcz78_0 : wc.cell? ⟨gb422, 0, none⟩ = some (.slice A0_0 l0_0.length c0_0) := ck_ BK422 0
             have hcz78_1 : wc.cell? ⟨gb422, 1, none⟩ = some (.int .i64 a0_1) := ck_ BK422 1
             have hcz78_2 : wc.cell? ⟨gb422, 2, none⟩ = some (.int .i64 a0_2) := ck_ BK422 2
             have hfz78_0 := blk_frozen BK422.out 0
             have hfz78_1 := blk_frozen BK422.out 1
             have hfz78_2 := blk_frozen BK422.out 2
             go_wp2
             go_ret
             exact ⟨by first | rfl | (simp [errW_none, errW_some] <;> rfl) | (simp [*, errW_none, errW_some] <;> rfl) | exact ret_ie _ | (simp [*, errW_none, errW_some, bne]; done), by repeat (first | (with_reducible first | exact HB.out | apply below_alloc | apply pw_below_drewN | apply below_drew1 | refine below_set ?_ GE422.out | refine below_set ?_ GE423.out) | exact HB.out)⟩
           ·
            rw [if_neg c71] at H
            have c71b0 : decide (a1_1 < a0_1) = false := decide_eq_false c71
            clear c71
            obtain rfl := Option.some.inj H
            have hnb79 := NB423_422.out
            have hnc79 := NB422_423.out
            have hcz80_0 : wc.cell? ⟨gb423, 0, none⟩ = some (.int .u8 a1_0) := ck_ BK423 0
            have hcz80_1 : wc.cell? ⟨gb423, 1, none⟩ = some (.int .i64 a1_1) := ck_ BK423 1
            have hcz80_2 : wc.cell? ⟨gb423, 2, none⟩ = some (.int .i64 a1_2) := ck_ BK423 2
            have hcz80_3 : wc.cell? ⟨gb423, 3, none⟩ = some (.int .i64 a1_3) := ck_ BK423 3
            have hcz80_4 : wc.cell? ⟨gb423, 4, none⟩ = some (.int .i64 a1_4) := ck_ BK423 4
            have hfz80_0 := blk_frozen BK423.out 0
            have hfz80_1 := blk_frozen BK423.out 1
            have hfz80_2 := blk_frozen BK423.out 2
            have hfz80_3 := blk_frozen BK423.out 3
            have hfz80_4 := blk_frozen BK423.out 4
            have hcz81_0 : wc.cell? ⟨gb422, 0, none⟩ = some (.slice A0_0 l0_0.length c0_0) := ck_ BK422 0
            have hcz81_1 : wc.cell? ⟨gb422, 1, none⟩ = some (.int .i64 a0_1) := ck_ BK422 1
            have hcz81_2 : wc.cell? ⟨gb422, 2, none⟩ = some (.int .i64 a0_2) := ck_ BK422 2
            have hfz81_0 := blk_frozen BK422.out 0
            have hfz81_1 := blk_frozen BK422.out 1
            have hfz81_2 := blk_frozen BK422.out 2
            go_wp2
            go_ret
            exact ⟨by first | rfl | (simp [errW_none, errW_some] <;> rfl) | (simp [*, errW_none, errW_some] <;> rfl) | exact ret_ie _ | (simp [*, errW_none, errW_some, bne]; done), by repeat (first | (with_reducible first | exact HB.out | apply below_alloc | apply pw_below_drewN | apply below_drew1 | refine below_set ?_ GE422.out | refine below_set ?_ GE423.out) | exact HB.out)⟩
          ·
           replace c70 := Bool.eq_false_iff.mpr c70
           subst c70
           have H1 : (if a1_0 = 5 then (some (a1_1 == a0_1)) else (if a1_1 > 0 then (some true) else (some (a1_0 == 6)))) = some r := by rw [if_neg (show ¬ (false = true) by decide)] at H; exact H
           clear H
           have H := H1
           clear H1
           by_cases c82 : a1_0 = 5
           ·
            rw [if_pos c82] at H
            have c82b0 : (a1_0 == 5) = true := beq_iff_eq.mpr c82
            have c82b1 : (a1_0 != 5) = false := bne_eq_false_iff_eq.mpr c82
            clear c82
            obtain rfl := Option.some.inj H
            have hnb83 := NB423_422.out
            have hnc83 := NB422_423.out
            have hcz84_0 : wc.cell? ⟨gb423, 0, none⟩ = some (.int .u8 a1_0) := ck_ BK423 0
            have hcz84_1 : wc.cell? ⟨gb423, 1, none⟩ = some (.int .i64 a1_1) := ck_ BK423 1
            have hcz84_2 : wc.cell? ⟨gb423, 2, none⟩ = some (.int .i64 a1_2) := ck_ BK423 2
            have hcz84_3 : wc.cell? ⟨gb423, 3, none⟩ = some (.int .i64 a1_3) := ck_ BK423 3
            have hcz84_4 : wc.cell? ⟨gb423, 4, none⟩ = some (.int .i64 a1_4) := ck_ BK423 4
            have hfz84_0 := blk_frozen BK423.out 0
            have hfz84_1 := blk_frozen BK423.out 1
            have hfz84_2 := blk_frozen BK423.out 2
            have hfz84_3 := blk_frozen BK423.out 3
            have hfz84_4 := blk_frozen BK423.out 4
            have hcz85_0 : wc.cell? ⟨gb422, 0, none⟩ = some (.slice A0_0 l0_0.length c0_0) := ck_ BK422 0
            have hcz85_1 : wc.cell? ⟨gb422, 1, none⟩ = some (.int .i64 a0_1) := ck_ BK422 1
            have hcz85_2 : wc.cell? ⟨gb422, 2, none⟩ = some (.int .i64 a0_2) := ck_ BK422 2
            have hfz85_0 := blk_frozen BK422.out 0
            have hfz85_1 := blk_frozen BK422.out 1
            have hfz85_2 := blk_frozen BK422.out 2
            go_wp2
            go_ret
            exact ⟨by first | rfl | (simp [errW_none, errW_some] <;> rfl) | (simp [*, errW_none, errW_some] <;> rfl) | exact ret_ie _ | (simp [*, errW_none, errW_some, bne]; done), by repeat (first | (with_reducible first | exact HB.out | apply below_alloc | apply pw_below_drewN | apply below_drew1 | refine below_set ?_ GE422.out | refine below_set ?_ GE423.out) | exact HB.out)⟩
           ·
            rw [if_neg c82] at H
            have c82b0 : (a1_0 == 5) = false := beq_eq_false_iff_ne.mpr c82
            have c82b1 : (a1_0 != 5) = true := bne_iff_ne.mpr c82
            by_cases c86 : a1_1 > 0
            ·
             rw [if_pos c86] at H
             have c86b0 : decide (0 < a1_1) = true := decide_eq_true c86
             clear c86
             obtain rfl := Option.some.inj H
             have hcz88_0 : wc.cell? ⟨gb423, 0, none⟩ = some (.int .u8 a1_0) := ck_ BK423 0
             have hcz88_1 : wc.cell? ⟨gb423, 1, none⟩ = some (.int .i64 a1_1) := ck_ BK423 1
             have hcz88_2 : wc.cell? ⟨gb423, 2, none⟩ = some (.int .i64 a1_2) := ck_ BK423 2
             have hcz88_3 : wc.cell? ⟨gb423, 3, none⟩ = some (.int .i64 a1_3) := ck_ BK423 3
             have hcz88_4 : wc.cell? ⟨gb423, 4, none⟩ = some (.int .i64 a1_4) := ck_ BK423 4
             have hfz88_0 := blk_frozen BK423.out 0
             have hfz88_1 := blk_frozen BK423.out 1
             have hfz88_2 := blk_frozen BK423.out 2
             have hfz88_3 := blk_frozen BK423.out 3
             have hfz88_4 := blk_frozen BK423.out 4
             go_wp2
             go_ret
             exact ⟨by first | rfl | (simp [errW_none, errW_some] <;> rfl) | (simp [*, errW_none, errW_some] <;> rfl) | exact ret_ie _ | (simp [*, errW_none, errW_some, bne]; done), by repeat (first | (with_reducible first | exact HB.out | apply below_alloc | apply pw_below_drewN | apply below_drew1 | refine below_set ?_ GE422.out | refine below_set ?_ GE423.out) | exact HB.out)⟩
            ·
             rw [if_neg c86] at H
             have c86b0 : decide (0 < a1_1) = false := decide_eq_false c86
             clear c86
             obtain rfl := Option.some.inj H
             have hcz90_0 : wc.cell? ⟨gb423, 0, none⟩ = some (.int .u8 a1_0) := ck_ BK423 0
             have hcz90_1 : wc.cell? ⟨gb423, 1, none⟩ = some (.int .i64 a1_1) := ck_ BK423 1
             have hcz90_2 : wc.cell? ⟨gb423, 2, none⟩ = some (.int .i64 a1_2) := ck_ BK423 2
             have hcz90_3 : wc.cell? ⟨gb423, 3, none⟩ = some (.int .i64 a1_3) := ck_ BK423 3
             have hcz90_4 : wc.cell? ⟨gb423, 4, none⟩ = some (.int .i64 a1_4) := ck_ BK423 4
             have hfz90_0 := blk_frozen BK423.out 0
             have hfz90_1 := blk_frozen BK423.out 1
             have hfz90_2 := blk_frozen BK423.out 2
             have hfz90_3 := blk_frozen BK423.out 3
             have hfz90_4 := blk_frozen BK423.out 4
             go_wp2
             go_ret
             exact ⟨by first | rfl | (simp [errW_none, errW_some] <;> rfl) | (simp [*, errW_none, errW_some] <;> rfl) | exact ret_ie _ | (simp [*, errW_none, errW_some, bne]; done), by repeat (first | (with_reducible first | exact HB.out | apply below_alloc | apply pw_below_drewN | apply below_drew1 | refine below_set ?_ GE422.out | refine below_set ?_ GE423.out) | exact HB.out)⟩

end Go.Proofs.Ytbgfjhnbmfgccaa.R
